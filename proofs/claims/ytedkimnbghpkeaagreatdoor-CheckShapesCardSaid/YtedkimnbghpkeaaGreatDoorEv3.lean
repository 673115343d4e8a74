/- The evaluator of Go code (plain Lean), and the proof that what it answers is what the model does: part 3. Conditions: none. -/
import Derived.Below
import Derived.Laws.Externs
import Derived.Lib.Bytealg
import Derived.LoopNIn
import Derived.OrdersIn
import Derived.Scope
import Derived.Test.YtedkimnbghpkeaaGreatDoorEv2
namespace Go.Ev
open Go
set_option linter.unusedSectionVars false
variable [Sym]
set_option linter.unusedVariables false
set_option linter.unusedSimpArgs false
def EndP (rt : Nat → Option RT) (ι : Inj) (h : H) (w : World) (kr kp : KV) : Ending → World → Prop
  | .returned v, w' => ∃ ι' h' a, Post rt ι h w ι' h' w' ∧ VR ι' a v ∧ kr a h' = .good
  | .panicked chain, w' => ∃ ι' h' a v, chain = [{ v := v, recovered := false }] ∧ Post rt ι h w ι' h' w' ∧ VR ι' a v ∧ kp a h' = .good
  | .outgrown, _ => False
inductive UpOk (P : Program) (yl : Bool) (s : Sem Next) (w : World) (E : Ending → World → Prop) : Prop where
  | value (v : Value) (w' : World) (h : s.run P w = .ok (.value v) w') (hne : v ≠ .tuple #[]) (he : E (.returned v) w')
  | enter (f : FuncId) (args : Array Value) (h : s.run P w = .ok (.enter f args) w) (he : CallsIn Fence.wide 0 P f args w E)
  | round (l : Nat) (f : FuncId) (tmps : Array Value) (a b : Code) (hy : yl = true) (h : s.run P w = .ok (.round l f tmps a b) w) (he : RoundIn Fence.wide 0 P l f tmps a b w E)

theorem UpOk.any {P : Program} {yl : Bool} {s : Sem Next} {w : World} {E : Ending → World → Prop} (h : UpOk P yl s w E) : UpOk P true s w E := by
  cases h with
  | value v w' h hne he => exact .value v w' h hne he
  | enter f args h he => exact .enter f args h he
  | round l f tmps a b hy h he => exact .round l f tmps a b rfl h he
def EndD (rt : Nat → Option RT) (ι : Inj) (h : H) (w : World) (u : FrameMode) (kr : KV) : Ending → FrameMode → World → Prop
  | .returned _, u', w' => ∃ ι' h' a, Post rt ι h w ι' h' w' ∧ kr a h' = .good ∧ ((a = .nil ∧ settle u' = .returning) ∨ (a ≠ .nil ∧ u' = u))
  | _, _, _ => False
inductive ModeR (ι : Inj) : Option AV → FrameMode → Prop where
  | ret : ModeR ι none .returning
  | pan {v : AV} {u : Value} (h : VR ι v u) : ModeR ι (some v) (.panicking [{ v := u, recovered := false }])
noncomputable def rvOf : Option AV → AV
  | some v => v
  | none => .nl .inil
def Glob (ι : Inj) : Prop := ∀ g, g < 8 → ∃ z, ι (P4.ofNat g) = some (g, z)
theorem Glob.ext {ι ι' : Inj} (h : Glob ι) (e : Ext ι ι') : Glob ι' := fun g hg => let ⟨z, hz⟩ := h g hg; ⟨z, e _ _ hz⟩
structure CallOk (P : Program) (rt : Nat → Option RT) (call : C3) : Prop where
  fn : ∀ {ι : Inj} {h : H} {w : World} {g : G3} {as : List AV} {xs cs : List Value} {cap : AV} {kr kp : KV}, MR rt ι h w → Glob ι → VRs ι as xs → VRL ι cap cs →
    disp call g (packE as) cap (.num as.length) h kr kp = .good → UpOk P false (callFunc g.val (xs ++ cs).toArray) w (EndP rt ι h w kr kp)
  yld : ∀ {ι : Inj} {h : H} {w : World} {g : G3} {as : List AV} {xs : List Value} {p : P4} {b z : Nat} {kr kp : KV}, MR rt ι h w → Glob ι → VRs ι as xs → ι p = some (b, z) →
    disp call g (packE as) (.ptr p 0) (.num as.length) h kr kp = .good → UpOk P true (Instr.yield b xs.toArray) w (EndP rt ι h w kr kp)
  dfd : ∀ {ι : Inj} {h : H} {w : World} {g : G3} {cs : List Value} {cap : AV} {m : Option AV} {u : FrameMode} {kr : KV}, MR rt ι h w → Glob ι → VRL ι cap cs → ModeR ι m u → (∀ v, m = some v → ∃ t x, v = .ifc t x) →
    disp call g E0 cap (rvOf m) h kr (fun _ _ => .bad) = .good → (callFunc g.val cs.toArray).run P w = .ok (.enter g.val cs.toArray) w ∧ CallsDIn Fence.wide 0 P g.val cs.toArray u w (EndD rt ι h w u kr)

variable {P : Program} {rt : Nat → Option RT} {call : C3} {ι : Inj} {h : H} {w : World}

theorem ofList_toL {ι : Inj} {a : AV} {xs : List Value} (h : VRL ι a xs) : a = AV.ofList a.toL := by
  induction xs generalizing a with
  | nil => cases h; rfl
  | cons x xs ih => cases h with | cons _ h' => show _ = AV.cons _ (AV.ofList (AV.toL _)); rw [← ih h']
theorem callF_ok (C : CallOk P rt call) {g : G3} {first cap : AV} {fv : Value} {as : List AV} {xs : List Value} {kr kp : KV} (M : MR rt ι h w) (G : Glob ι) (hf : VR ι (.fn g first cap) fv) (ha : VRs ι as xs)
    (hk : callVK call (.fn g first cap) (packE as) (fun r => packE (r :: as)) (.num as.length) (.num (as.length + 1)) h kr kp = .good) :
    UpOk P false (do let d ← Deferred.ofValue fv xs.toArray; invoke d.target d.args) w (EndP rt ι h w kr kp) := by
  cases hf with | fn hg h1 h2 =>
  rename_i fi fs cs
  subst hg
  have go : ∀ {as' : List AV}, VRs ι as' (fs.toList ++ xs) → disp call g (packE as') cap (.num as'.length) h kr kp = .good → UpOk P false (do let d ← Deferred.ofValue (.func (.func g.val) fs cs) xs.toArray; invoke d.target d.args) w (EndP rt ι h w kr kp) := fun hv hd => by
    have := C.fn M G hv h2 hd
    have e : (do let d ← Deferred.ofValue (.func (.func g.val) fs cs) xs.toArray; invoke d.target d.args : Sem Next) = callFunc g.val (fs.toList ++ xs ++ cs.toList).toArray := by
      show callFunc g.val (fs ++ xs.toArray ++ cs) = _
      congr 1
      apply Array.ext'
      simp
    rw [e]; exact this
  cases first with
  | nil =>
    have : fs.toList = [] := by cases hq : fs.toList with
      | nil => rfl
      | cons _ _ => rw [hq] at h1; cases h1
    exact go (by rw [this]; exact ha) hk
  | cons r tl =>
    cases tl with
    | nil =>
      generalize hq : fs.toList = fl at h1 go
      cases h1 with | cons h3 h4 =>
      cases h4
      exact go (.cons h3 ha) hk
    | _ => cases hk
  | _ => cases hk
theorem callV_ok (C : CallOk P rt call) {f : AV} {fv : Value} {as : List AV} {xs : List Value} {kr kp : KV} (M : MR rt ι h w) (G : Glob ι) (hf : VR ι f fv) (ha : VRs ι as xs)
    (hk : callVK call f (packE as) (fun r => packE (r :: as)) (.num as.length) (.num (as.length + 1)) h kr kp = .good) :
    UpOk P true (do let d ← Deferred.ofValue fv xs.toArray; invoke d.target d.args) w (EndP rt ι h w kr kp) := by
  cases f with
  | fn g first cap => exact (callF_ok C M G hf ha hk).any
  | yld g p =>
    cases hf with | yld _ hp =>
    rename_i b z
    have := C.yld M G ha hp hk
    have e : (do let d ← Deferred.ofValue (.func (.yield b) #[] #[]) xs.toArray; invoke d.target d.args : Sem Next) = Instr.yield b xs.toArray := by
      show Instr.yield b (#[] ++ xs.toArray) = _
      congr 1
      simp
    rw [e]; exact this
  | _ => cases hk
def FWide (F : Fence) : Prop := F = Fence.wide ∨ ∃ l, F = Fence.wide.inRound l
theorem FWide.fn {F : Fence} (h : FWide F) (f : FuncId) : F.fn f := by
  rcases h with rfl | ⟨l, rfl⟩ <;> trivial
theorem FWide.depth {F : Fence} (h : FWide F) : F.depth.isSome = true → (1 ≤ 0) := by
  rcases h with rfl | ⟨l, rfl⟩ <;> (intro e; cases e)
theorem FWide.calls {F : Fence} (h : FWide F) {n : Nat} {f : FuncId} {args : Array Value} {R : Ending → World → Prop} (hc : CallsIn Fence.wide n P f args w R) : CallsIn F n P f args w R := by
  rcases h with rfl | ⟨l, rfl⟩
  · exact hc
  · exact hc
theorem FWide.rounds {F : Fence} (h : FWide F) {n l : Nat} {f : FuncId} {tmps : Array Value} {a b : Code} {R : Ending → World → Prop} (hc : RoundIn Fence.wide n P l f tmps a b w R) : RoundIn F n P l f tmps a b w R := by
  rcases h with rfl | ⟨l, rfl⟩
  · exact hc
  · exact hc
inductive DefR (ι : Inj) : AV → List Deferred → Prop where
  | nil : DefR ι .nil []
  | call {f args ds : AV} {fn : Fn} {fs cs : Array Value} {xs : List Value} {D : List Deferred} (hf : VR ι f (.func fn fs cs)) (ha : VRL ι args xs) (h : DefR ι ds D) :
      DefR ι (.cons (.cons f args) ds) ({ target := .fn fn cs, args := fs ++ xs.toArray } :: D)
  | mark {p : P4} {b z : Nat} {ds : AV} {D : List Deferred} (hp : ι p = some (b, z)) (h : DefR ι ds D) : DefR ι (.cons (.ptr p 0) ds) ({ target := .collected b, args := #[] } :: D)
theorem DefR.ext {ι ι' : Inj} (e : Ext ι ι') {a : AV} {D : List Deferred} (h : DefR ι a D) : DefR ι' a D := by
  induction h with
  | nil => exact .nil
  | call hf ha _ ih => exact .call (hf.ext e) (ha.ext e) ih
  | mark hp _ ih => exact .mark (e _ _ hp) ih
structure St (rt : Nat → Option RT) (ι0 : Inj) (h0 : H) (w0 : World) (nt : Nat) (dfr : Bool) (ι : Inj) (e : Env) (h : H) (a : Act) (w : World) : Prop where
  env : ∀ t v, t < nt → e.get t = some v → ∃ u, a.tmps[t]? = some u ∧ VR ι v u
  size : nt ≤ a.tmps.size
  post : Post rt ι0 h0 w0 ι h w
  glob : Glob ι
  dno : dfr = false → a.defers = []
  dyes : dfr = true → ∀ ds, e.get nt = some ds → DefR ι ds a.defers

section
variable {ι0 : Inj} {h0 : H} {w0 : World} {nt : Nat} {dfr : Bool} {e : Env} {a : Act} {ι' : Inj} {h' : H} {w' : World}

theorem St.mr (s : St rt ι0 h0 w0 nt dfr ι e h a w) : MR rt ι h w := s.post.mr
theorem St.move (s : St rt ι0 h0 w0 nt dfr ι e h a w) (p : Post rt ι h w ι' h' w') : St rt ι0 h0 w0 nt dfr ι' e h' a w' :=
  ⟨fun t v ht hv => let ⟨u, h1, h2⟩ := s.env t v ht hv; ⟨u, h1, h2.ext p.ext⟩, s.size, s.post.trans p, s.glob.ext p.ext, s.dno, fun hd ds h => (s.dyes hd ds h).ext p.ext⟩
theorem St.sub {e' : Env} (s : St rt ι0 h0 w0 nt dfr ι e h a w) (h1 : ∀ t v, e'.get t = some v → e.get t = some v) : St rt ι0 h0 w0 nt dfr ι e' h a w :=
  ⟨fun t v ht hv => s.env t v ht (h1 t v hv), s.size, s.post, s.glob, s.dno, fun hd ds h => s.dyes hd ds (h1 _ _ h)⟩
theorem dstOk_lt {d : Nat} (h : dstOk nt (some d) = true) : d < nt := ble_true h
theorem St.put (s : St rt ι0 h0 w0 nt dfr ι e h a w) {dst : Option Tmp} {v : AV} {u : Value} (hd : dstOk nt dst = true) (hv : VR ι v u) : St rt ι0 h0 w0 nt dfr ι (e.set dst v) h (a.put dst u) w := by
  cases dst with
  | none => exact s
  | some d =>
    have hlt := dstOk_lt hd
    refine ⟨fun t v' ht hv' => ?_, by show nt ≤ (a.tmps.setIfInBounds d u).size; rw [Array.size_setIfInBounds]; exact s.size, s.post, s.glob, s.dno, fun hdf ds hds => ?_⟩
    · show ∃ x, (a.tmps.setIfInBounds d u)[t]? = some x ∧ _
      rcases Env.get_set hv' with ⟨h1, rfl⟩ | ⟨h1, h2⟩
      · injection h1 with h1; subst h1
        exact ⟨u, by rw [Array.getElem?_setIfInBounds, if_pos rfl, if_pos (Nat.lt_of_lt_of_le hlt s.size)], hv⟩
      · obtain ⟨x, h3, h4⟩ := s.env t v' ht h2
        exact ⟨x, by rw [Array.getElem?_setIfInBounds, if_neg (fun e => h1 (by rw [e]))]; exact h3, h4⟩
    · rcases Env.get_set hds with ⟨h1, rfl⟩ | ⟨h1, h2⟩
      · injection h1 with h1; subst h1; exact absurd hlt (Nat.lt_irrefl _)
      · exact s.dyes hdf ds h2

theorem opnd_good {x : Operand} {k : AV → Ans} (s : St rt ι0 h0 w0 nt dfr ι e h a w) (hk : opnd nt e x k = .good) : ∃ v, VR ι v (a.eval x) ∧ k v = .good := by
  cases x with
  | tmp t =>
    have hk : (match Nat.ble (t + 1) nt with | true => (match e.get t with | some v => k v | none => .bad) | false => .bad) = .good := hk
    cases hb : Nat.ble (t + 1) nt
    · rw [hb] at hk; cases hk
    · rw [hb] at hk
      cases hv : e.get t with
      | none => simp only [hv] at hk; cases hk
      | some v =>
        simp only [hv] at hk
        obtain ⟨u, h1, h2⟩ := s.env t v (ble_true hb) hv
        refine ⟨v, ?_, hk⟩
        show VR ι v (a.tmps.getD t undef)
        rw [Array.getD_eq_getD_getElem?, h1]
        exact h2
  | const c =>
    have hk : (match ofVal vfuel c with | some v => k v | none => .bad) = .good := hk
    cases hv : ofVal vfuel c with
    | none => rw [hv] at hk; cases hk
    | some v => rw [hv] at hk; exact ⟨v, ofVal_VR hv, hk⟩
  | global g =>
    have hk : (match Nat.ble g 7 with | true => k (.ptr (P4.ofNat g) 0) | false => .bad) = .good := hk
    cases hb : Nat.ble g 7
    · rw [hb] at hk; cases hk
    · rw [hb] at hk
      obtain ⟨z, hz⟩ := s.glob g (Nat.lt_succ_of_le (ble_true hb))
      exact ⟨_, .ptr 0 hz, hk⟩
  | func f =>
    have hk : (match Nat.ble f 4095 with | true => k (.fn (G3.ofNat f) .nil .nil) | false => .bad) = .good := hk
    cases hb : Nat.ble f 4095
    · rw [hb] at hk; cases hk
    · rw [hb] at hk
      exact ⟨_, .fn (G3.ofNat_val (ble_true hb)) .nil .nil, hk⟩

theorem opnds_good (s : St rt ι0 h0 w0 nt dfr ι e h a w) : ∀ {xs : List Operand} {k : List AV → Ans}, opnds nt e xs k = .good → ∃ vs, VRs ι vs (xs.map a.eval) ∧ k vs = .good
  | [], k, hk => ⟨[], .nil, hk⟩
  | x :: xs, k, hk => by
    obtain ⟨v, h1, hk⟩ := opnd_good s (k := fun v => opnds nt e xs fun vs => k (v :: vs)) hk
    obtain ⟨vs, h2, hk⟩ := opnds_good s (k := fun vs => k (v :: vs)) hk
    exact ⟨v :: vs, .cons h1 h2, hk⟩
theorem upon_of_up {F : Fence} (hF : FWide F) {o : Oper} {next : Act → World → Prop} {Q : Exit → Act → World → Prop} {s : Sem Next} {kr kp : KV} {yl : Bool} (hu : UpOk P yl s w (EndP rt ι h w kr kp))
    (hN : ∀ ι' h' w' v u, Post rt ι h w ι' h' w' → VR ι' v u → kr v h' = .good → next (a.put o.dst u) w')
    (hP : ∀ ι' h' w' v u, Post rt ι h w ι' h' w' → VR ι' v u → kp v h' = .good → Q (.panic [{ v := u, recovered := false }]) a w') :
    o.uponIn F 0 P a next Q (s.run P w) := by
  cases hu with
  | value v w' h1 hne he =>
    obtain ⟨ι', h', v', p, hv, hk⟩ := he
    rw [h1, Oper.uponIn_value]
    exact hN ι' h' w' v' v p hv hk
  | enter f args h1 he =>
    rw [h1, Oper.uponIn_enter]
    refine ⟨hF.depth, hF.calls (he.mono fun e w' hq => ?_)⟩
    cases e with
    | returned v => obtain ⟨ι', h', v', p, hv, hk⟩ := hq; exact hN ι' h' w' v' v p hv hk
    | panicked chain => obtain ⟨ι', h', v', u, rfl, p, hv, hk⟩ := hq; exact hP ι' h' w' v' u p hv hk
    | outgrown => exact hq.elim
  | round l f tmps a' b' hy h1 he =>
    rw [h1, Oper.uponIn_round]
    refine ⟨hF.depth, hF.rounds (he.mono fun e w' hq => ?_)⟩
    cases e with
    | returned v => obtain ⟨ι', h', v', p, hv, hk⟩ := hq; exact hN ι' h' w' v' v p hv hk
    | panicked chain => obtain ⟨ι', h', v', u, rfl, p, hv, hk⟩ := hq; exact hP ι' h' w' v' u p hv hk
    | outgrown => exact hq.elim
end
end Go.Ev

namespace Go.Ev
open Go
set_option linter.unusedSectionVars false
variable [Sym]
set_option linter.unusedVariables false
set_option linter.unusedSimpArgs false
variable {P : Program} {rt : Nat → Option RT} {call : C3} {ι : Inj} {h : H} {w : World}
variable {ι0 : Inj} {h0 : H} {w0 : World} {nt : Nat} {dfr : Bool} {e : Env} {a : Act} {F : Fence} {kpe : Env → KV}
structure Aim (P : Program) (rt : Nat → Option RT) (ι : Inj) (h : H) (w : World) (kpv : KV) (k : KV) (dst : Option Tmp) (a : Act) (next : Act → World → Prop) (Q : Exit → Act → World → Prop) : Prop where
  N : ∀ ι' h' w' v u, Post rt ι h w ι' h' w' → VR ι' v u → k v h' = .good → next (a.put dst u) w'
  P : ∀ ι' h' w' v u, Post rt ι h w ι' h' w' → VR ι' v u → kpv v h' = .good → Q (.panic [{ v := u, recovered := false }]) a w'

theorem undef_VR (ι : Inj) : VR ι .undef undef := .tup .nil

theorem core_std {o : Oper} {k : KV} {kpv : KV} {next : Act → World → Prop} {Q : Exit → Act → World → Prop} (hF : FWide F) (hnd : ∀ c, o.op ≠ .defer c) (s : St rt ι0 h0 w0 nt dfr ι e h a w)
    (hk : (match dArgs o.op with
    | some xs => opnds nt e xs fun vs =>
      match dk P o.op vs with
      | .direct v => k v h
      | .pure f => f fun v => k v h
      | .read f => f h fun v => k v h
      | .write f => f h fun h => k .undef h
      | .alloc f => f h k
      | .both f => f h k
      | .no => .bad
    | none => .bad) = .good) (A : Aim P rt ι h w kpv k o.dst a next Q) : o.wpIn F 0 P a w next Q := by
  refine ⟨fun f _ => hF.fn f, ?_⟩
  rw [Oper.semAt_eq _ _ _ hnd]
  cases hx : dArgs o.op with
  | none => rw [hx] at hk; cases hk
  | some xs =>
    rw [hx] at hk
    obtain ⟨vs, hv, hk⟩ := opnds_good s hk
    have ok := dk_ok (P := P) hx hv
    cases hd : dk P o.op vs with
    | no => rw [hd] at hk; cases hk
    | direct v =>
      rw [hd] at hk ok
      obtain ⟨x, h1, h2⟩ := ok
      rw [h2 w, Oper.uponIn_value]
      exact A.N _ _ _ _ _ (Post.refl s.mr) h1 hk
    | pure f =>
      rw [hd] at hk ok
      obtain ⟨v, x, h1, h2, h3⟩ := ok _ hk
      rw [h1 w, Oper.uponIn_value]
      exact A.N _ _ _ _ _ (Post.refl s.mr) h2 h3
    | read f =>
      rw [hd] at hk ok
      obtain ⟨v, x, h1, h2, h3⟩ := ok rt h w _ s.mr hk
      rw [h1, Oper.uponIn_value]
      exact A.N _ _ _ _ _ (Post.refl s.mr) h2 h3
    | write f =>
      rw [hd] at hk ok
      obtain ⟨w', ι', h', h1, h2, h3⟩ := ok rt h w _ s.mr hk
      rcases h1 with h1 | h1
      · rw [h1, Oper.uponIn_skip]; exact A.N _ _ _ _ _ h2 (undef_VR _) h3
      · rw [h1, Oper.uponIn_value]; exact A.N _ _ _ _ _ h2 (undef_VR _) h3
    | alloc f =>
      rw [hd] at hk ok
      obtain ⟨x, w', ι', h', h1, h2, v, h3, h4⟩ := ok rt h w _ s.mr hk
      rw [h1, Oper.uponIn_value]
      exact A.N _ _ _ _ _ h2 h3 h4
    | both f =>
      rw [hd] at hk ok
      obtain ⟨x, w', ι', h', h1, h2, v, h3, h4⟩ := ok rt h w _ s.mr hk
      rw [h1, Oper.uponIn_value]
      exact A.N _ _ _ _ _ h2 h3 h4
theorem core_run {o : Oper} {k : KV} (s : St rt ι0 h0 w0 nt dfr ι e h a w)
    (hk : (match dArgs o.op with
    | some xs => opnds nt e xs fun vs =>
      match dk P o.op vs with
      | .direct v => k v h
      | .pure f => f fun v => k v h
      | .read f => f h fun v => k v h
      | .write f => f h fun h => k .undef h
      | .alloc f => f h k
      | .both f => f h k
      | .no => .bad
    | none => .bad) = .good) : ∃ ι' h' w' v u, ((execOp a.eval o).run P w = .ok (.value u) w' ∨ ((execOp a.eval o).run P w = .ok .skip w' ∧ u = undef)) ∧ Post rt ι h w ι' h' w' ∧ VR ι' v u ∧ k v h' = .good := by
  cases hx : dArgs o.op with
  | none => rw [hx] at hk; cases hk
  | some xs =>
    rw [hx] at hk
    obtain ⟨vs, hv, hk⟩ := opnds_good s hk
    have ok := dk_ok (P := P) hx hv
    cases hd : dk P o.op vs with
    | no => rw [hd] at hk; cases hk
    | direct v =>
      rw [hd] at hk ok
      obtain ⟨x, h1, h2⟩ := ok
      exact ⟨_, _, _, _, _, .inl (h2 w), Post.refl s.mr, h1, hk⟩
    | pure f =>
      rw [hd] at hk ok
      obtain ⟨v, x, h1, h2, h3⟩ := ok _ hk
      exact ⟨_, _, _, _, _, .inl (h1 w), Post.refl s.mr, h2, h3⟩
    | read f =>
      rw [hd] at hk ok
      obtain ⟨v, x, h1, h2, h3⟩ := ok rt h w _ s.mr hk
      exact ⟨_, _, _, _, _, .inl h1, Post.refl s.mr, h2, h3⟩
    | write f =>
      rw [hd] at hk ok
      obtain ⟨w', ι', h', h1, h2, h3⟩ := ok rt h w _ s.mr hk
      rcases h1 with h1 | h1
      · exact ⟨_, _, _, _, _, .inr ⟨h1, rfl⟩, h2, undef_VR _, h3⟩
      · exact ⟨_, _, _, _, _, .inl h1, h2, undef_VR _, h3⟩
    | alloc f =>
      rw [hd] at hk ok
      obtain ⟨x, w', ι', h', h1, h2, v, h3, h4⟩ := ok rt h w _ s.mr hk
      exact ⟨_, _, _, _, _, .inl h1, h2, h3, h4⟩
    | both f =>
      rw [hd] at hk ok
      obtain ⟨x, w', ι', h', h1, h2, v, h3, h4⟩ := ok rt h w _ s.mr hk
      exact ⟨_, _, _, _, _, .inl h1, h2, h3, h4⟩

theorem ifaceK_good {v : AV} {k : Ans} (h : ifaceK v k = .good) : (∃ t u, v = .ifc t u) ∧ k = .good := by
  unfold ifaceK at h
  split at h
  · exact ⟨⟨_, _, rfl⟩, h⟩
  · cases h

theorem coreOp_ok (C : CallOk P rt call) {o : Oper} {k : KV} {kd : Env → Ans} {next : Act → World → Prop} {Q : Exit → Act → World → Prop} (hF : FWide F) (hdr : F.round ≠ none → dfr = false) (s : St rt ι0 h0 w0 nt dfr ι e h a w)
    (hk : coreOp P nt dfr call kpe o.op e h k kd = .good) (A : Aim P rt ι h w (kpe e) k o.dst a next Q)
    (hD : ∀ e' d, kd e' = .good → St rt ι0 h0 w0 nt dfr ι e' h { a with defers := d :: a.defers } w → next ({ a with defers := d :: a.defers }.put o.dst undef) w) :
    o.wpIn F 0 P a w next Q := by
  have std := fun hnd hk => core_std (o := o) (k := k) (kpv := kpe e) (next := next) (Q := Q) hF hnd s hk A
  obtain ⟨dst, op, ty, pos, af, g⟩ := o
  cases op
  case call c =>
    obtain ⟨callee, args, ts⟩ := c
    have up : ∀ {f : Operand} {as : List AV}, VRs ι as (args.toList.map a.eval) → UpOk P true (do let d ← Deferred.ofValue (a.eval f) (args.toList.map a.eval).toArray; invoke d.target d.args) w (EndP rt ι h w k (kpe e)) →
        (Oper.mk dst (.call ⟨.value f, args, ts⟩) ty pos af g).wpIn F 0 P a w next Q := fun {f as} hv hu => by
      refine ⟨fun f _ => hF.fn f, ?_⟩
      rw [Oper.semAt_eq _ _ _ (fun c => by simp)]
      have e1 : execOp a.eval (Oper.mk dst (.call ⟨.value f, args, ts⟩) ty pos af g) = (do let d ← Deferred.ofValue (a.eval f) (args.toList.map a.eval).toArray; invoke d.target d.args) := by
        show (do let d ← Deferred.ofValue (a.eval f) (args.map a.eval); invoke d.target d.args) = _
        have : args.map a.eval = (args.toList.map a.eval).toArray := by apply Array.ext'; simp
        rw [this]
      rw [e1]
      exact upon_of_up hF hu (fun ι' h' w' v u p hv hk => A.N ι' h' w' v u p hv hk) (fun ι' h' w' v u p hv hk => A.P ι' h' w' v u p hv hk)
    cases callee with
    | value f =>
      have gen : (opnd nt e f fun f => opnds nt e args.toList fun as => callVK call f (packE as) (fun r => packE (r :: as)) (.num as.length) (.num (as.length + 1)) h k (kpe e)) = .good →
          (Oper.mk dst (.call ⟨.value f, args, ts⟩) ty pos af g).wpIn F 0 P a w next Q := fun hk => by
        obtain ⟨fv, h1, hk⟩ := opnd_good s hk
        obtain ⟨as, h2, hk⟩ := opnds_good s hk
        exact up h2 (callV_ok C s.mr s.glob h1 h2 hk)
      cases f with
      | func i =>
        have hk : (match Nat.ble i 4095 with | false => Ans.bad | true => opnds nt e args.toList fun as => disp call (G3.ofNat i) (packE as) .nil (.num as.length) h k (kpe e)) = .good := hk
        cases hb : Nat.ble i 4095
        · rw [hb] at hk; cases hk
        · rw [hb] at hk
          obtain ⟨as, h2, hk⟩ := opnds_good s hk
          refine up h2 ?_
          have := C.fn s.mr s.glob h2 (.nil : VRL ι .nil []) hk
          rw [G3.ofNat_val (ble_true hb), List.append_nil] at this
          have e1 : (do let d ← Deferred.ofValue (a.eval (.func i)) (args.toList.map a.eval).toArray; invoke d.target d.args : Sem Next) = callFunc i (args.toList.map a.eval).toArray := by
            show callFunc i (#[] ++ (args.toList.map a.eval).toArray ++ #[]) = _
            congr 1
            simp
          rw [e1]; exact this.any
      | _ => exact gen hk
    | invoke r m => exact std (fun c => by simp) hk
    | builtin b => exact std (fun c => by simp) hk
  case panic x =>
    have hk : (opnd nt e x fun v => ifaceK v (kpe e v h)) = .good := hk
    obtain ⟨v, h1, hk⟩ := opnd_good s hk
    obtain ⟨⟨t, u, rfl⟩, hk⟩ := ifaceK_good hk
    refine ⟨fun f _ => hF.fn f, ?_⟩
    rw [Oper.semAt_eq _ _ _ (fun c => by simp)]
    have e1 : (execOp a.eval (Oper.mk dst (.panic x) ty pos af g)).run P w = .halt (.panic (a.eval x)) w := by
      show ((do pure (Next.value (← Instr.panic (a.eval x)))) : Sem Next).run P w = _
      generalize a.eval x = y at h1
      cases h1 with | ifc _ _ => rfl
    rw [e1, Oper.uponIn_panic]
    exact A.P _ _ _ _ _ (Post.refl s.mr) h1 hk
  case defer c =>
    obtain ⟨callee, args, ts⟩ := c
    cases callee with
    | value f =>
      have hk : (match dfr with
        | true => opnd nt e f fun f => opnds nt e args.toList fun as => match e.get nt with | some ds => isFnK f (kd ((nt, .cons (.cons f (AV.ofList as)) ds) :: e)) | none => .bad
        | false => .bad) = .good := hk
      cases hdf : dfr with
      | false => rw [hdf] at hk; cases hk
      | true =>
        rw [hdf] at hk
        have hro : F.round = none := by
          by_cases hr : F.round = none
          · exact hr
          · exact absurd (hdr hr) (by rw [hdf]; simp)
        obtain ⟨fv, h1, hk⟩ := opnd_good s hk
        obtain ⟨as, h2, hk⟩ := opnds_good s hk
        cases hds : e.get nt with
        | none => rw [hds] at hk; cases hk
        | some ds =>
          rw [hds] at hk
          refine ⟨fun f _ => hF.fn f, ?_⟩
          rw [hro, Oper.semAt_none]
          have hk0 : isFnK fv (kd ((nt, .cons (.cons fv (AV.ofList as)) ds) :: e)) = .good := hk
          have hfv : (∃ fn fs cs, a.eval f = .func fn fs cs) ∧ kd ((nt, .cons (.cons fv (AV.ofList as)) ds) :: e) = .good := by
            generalize a.eval f = y at h1
            cases fv <;> first | (exfalso; cases hk0; done) | skip
            cases h1
            exact ⟨⟨_, _, _, rfl⟩, hk0⟩
          obtain ⟨⟨fn, fs, cs, hfe⟩, hk⟩ := hfv
          have e1 : (execOp a.eval (Oper.mk dst (.defer ⟨.value f, args, ts⟩) ty pos af g)).run P w = .ok (.defer { target := .fn fn cs, args := fs ++ (args.toList.map a.eval).toArray }) w := by
            show ((do pure (Next.defer (← Deferred.ofValue (a.eval f) (args.map a.eval)))) : Sem Next).run P w = _
            have : args.map a.eval = (args.toList.map a.eval).toArray := by apply Array.ext'; simp
            rw [hfe, this]
            rfl
          rw [e1, Oper.uponIn_defer]
          refine hD _ _ hk ?_
          subst hdf
          refine ⟨fun t v ht hv => ?_, s.size, s.post, s.glob, fun hc => (by cases hc), fun _ ds' hds' => ?_⟩
          · rw [Env.get_cons, if_neg (fun e => by omega)] at hv
            exact s.env t v ht hv
          · rw [Env.get_cons, if_pos rfl] at hds'
            injection hds' with hds'
            subst hds'
            rw [hfe] at h1
            exact .call h1 h2.ofList (s.dyes rfl ds hds)
    | _ => cases hk
  all_goals exact std (fun c => by simp) hk
end Go.Ev

namespace Go.Ev
open Go
set_option linter.unusedSectionVars false
variable [Sym]
set_option linter.unusedVariables false
set_option linter.unusedSimpArgs false
variable {P : Program} {rt : Nat → Option RT} {call : C3} {ι : Inj} {h : H} {w : World}
variable {ι0 : Inj} {h0 : H} {w0 : World} {nt : Nat} {dfr : Bool} {e : Env} {a : Act} {F : Fence} {kpe : Env → KV}

inductive GuardR (ops : Array Oper) (o : Oper) (a : Act) : GV → Prop where
  | no (h : o.guard = none) : GuardR ops o a .no
  | is {v : AV} {want : Bool} (h : ∀ t e : Ans, gK v want t e = .good → (Region.wanted o (yielded ops a.tmps) = true ∧ t = .good) ∨ (Region.wanted o (yielded ops a.tmps) = false ∧ e = .good)) : GuardR ops o a (.is v want)
  | bad : GuardR ops o a .bad

def vBool : Value → Option Bool
  | .bool b => some b
  | _ => none
theorem wantK_eq {v : AV} {u : Value} (hv : VR ι v u) (t e : Ans) : wantK v t e = (if vBool u = some true then t else e) ∧ wantNK v t e = (if vBool u = some false then t else e) := by
  cases hv
  case bool b => cases b <;> exact ⟨rfl, rfl⟩
  all_goals exact ⟨rfl, rfl⟩

theorem guard_good (s : St rt ι0 h0 w0 nt dfr ι e h a w) (ops : Array Oper) (o : Oper) : GuardR ops o a (guardOf nt ops o e) := by
  unfold guardOf
  cases hg : o.guard with
  | none => exact .no hg
  | some p =>
    obtain ⟨j, want⟩ := p
    dsimp only
    cases hd : (ops[j]?).bind (·.dst) with
    | none => exact .bad
    | some t =>
      dsimp only
      cases hb : Nat.ble (t + 1) nt with
      | false => exact .bad
      | true =>
        dsimp only
        cases hv : e.get t with
        | none => exact .bad
        | some v =>
          obtain ⟨u, h1, h2⟩ := s.env t v (ble_true hb) hv
          refine .is fun t' e' hk => ?_
          obtain ⟨q1, q2⟩ := wantK_eq h2 t' e'
          have hw : Region.wanted o (yielded ops a.tmps) = (vBool u == some want) := by
            unfold Region.wanted yielded
            rw [hg]
            dsimp only
            rw [hd, Option.bind_some]
            have : a.tmps[t]? = some u := h1
            simp only [this]
            cases u <;> rfl
          rw [hw]
          cases want
          · have hk : wantNK v t' e' = .good := hk
            rw [q2] at hk
            by_cases hb : vBool u = some false
            · rw [if_pos hb] at hk; exact .inl ⟨by rw [hb]; rfl, hk⟩
            · rw [if_neg hb] at hk; exact .inr ⟨by rw [beq_eq_false_iff_ne]; exact hb, hk⟩
          · have hk : wantK v t' e' = .good := hk
            rw [q1] at hk
            by_cases hb : vBool u = some true
            · rw [if_pos hb] at hk; exact .inl ⟨by rw [hb]; rfl, hk⟩
            · rw [if_neg hb] at hk; exact .inr ⟨by rw [beq_eq_false_iff_ne]; exact hb, hk⟩

theorem wanted_no {o : Oper} {y : Nat → Option Bool} (h : o.guard = none) : Region.wanted o y = true := by
  unfold Region.wanted; rw [h]
theorem one_ok (C : CallOk P rt call) {ops : Array Oper} {o : Oper} {i : Nat} {next : Act → World → Prop} {Q : Exit → Act → World → Prop} {kv : KV} {kd : Env → Ans} (hF : FWide F) (hdr : F.round ≠ none → dfr = false) (ho : ops[i]? = some o)
    (s : St rt ι0 h0 w0 nt dfr ι e h a w)
    (hk : (match guardOf nt ops o e with
      | .no => coreOp P nt dfr call kpe o.op e h kv kd
      | .is v want => gK v want (coreOp P nt dfr call kpe o.op e h kv fun _ => .bad) (kv .undef h)
      | .bad => .bad) = .good)
    (A : Aim P rt ι h w (kpe e) kv o.dst a next Q)
    (hD : ∀ e' d, kd e' = .good → St rt ι0 h0 w0 nt dfr ι e' h { a with defers := d :: a.defers } w → next ({ a with defers := d :: a.defers }.put o.dst undef) w) :
    wpOpIn F 0 P ops Q i next a w := by
  unfold wpOpIn
  rw [ho]
  dsimp only
  have hgd := guard_good s ops o
  cases hg : guardOf nt ops o e with
  | bad => rw [hg] at hk; cases hk
  | no =>
    rw [hg] at hk hgd
    cases hgd with | no hgn =>
    rw [if_pos (wanted_no hgn)]
    exact coreOp_ok C hF hdr s hk A hD
  | is v want =>
    rw [hg] at hk hgd
    cases hgd with | is hq =>
    rcases hq _ _ hk with ⟨q1, hk⟩ | ⟨q1, hk⟩
    · rw [if_pos q1]
      exact coreOp_ok C hF hdr s hk A (fun _ _ hb => by cases hb)
    · rw [if_neg (by rw [q1]; simp)]
      exact ⟨fun f _ => hF.fn f, A.N _ _ _ _ _ (Post.refl s.mr) (undef_VR _) hk⟩

theorem evOps_ok (C : CallOk P rt call) {ops : Array Oper} {Q : Exit → Act → World → Prop} {k : Kont} (hF : FWide F) (hdr : F.round ≠ none → dfr = false)
    (hN : ∀ ι e h a w, St rt ι0 h0 w0 nt dfr ι e h a w → k e h = .good → Q .normal a w)
    (hP : ∀ ι e h a w ι' h' w' v u, St rt ι0 h0 w0 nt dfr ι e h a w → Post rt ι h w ι' h' w' → VR ι' v u → kpe e v h' = .good → Q (.panic [{ v := u, recovered := false }]) a w') :
    ∀ {os : List Oper} {i : Nat} {ι : Inj} {e : Env} {h : H} {a : Act} {w : World}, ops.toList.drop i = os → St rt ι0 h0 w0 nt dfr ι e h a w → evOps P nt dfr call kpe none ops os e h k = .good →
    wpOpsIn F 0 P ops Q (List.range' i os.length) a w
  | [], i, ι, e, h, a, w, hos, s, hk => hN ι e h a w s hk
  | o :: os, i, ι, e, h, a, w, hos, s, hk => by
    obtain ⟨ho, hos'⟩ := drop_cons hos
    rw [Array.getElem?_toList] at ho
    rw [List.length_cons, List.range'_succ, wpOpsIn_cons]
    have hk : (match dstOk nt o.dst with
      | false => Ans.bad
      | true =>
        match guardOf nt ops o e with
        | .no =>
          match isRecover o.op with
          | true => (match (none : Option AV) with | some v => evOps P nt dfr call kpe none ops os (e.set o.dst v) h k | none => .bad)
          | false => coreOp P nt dfr call kpe o.op e h (fun v h => evOps P nt dfr call kpe none ops os (e.set o.dst v) h k) (fun e => evOps P nt dfr call kpe none ops os (e.set o.dst .undef) h k)
        | .is v want => gK v want (coreOp P nt dfr call kpe o.op e h (fun v h => evOps P nt dfr call kpe none ops os (e.set o.dst v) h k) fun _ => .bad) (evOps P nt dfr call kpe none ops os (e.set o.dst .undef) h k)
        | .bad => Ans.bad) = .good := hk
    cases hd : dstOk nt o.dst with
    | false => rw [hd] at hk; cases hk
    | true =>
      rw [hd] at hk
      dsimp only at hk
      refine one_ok C (kpe := kpe) (kv := fun v h => evOps P nt dfr call kpe none ops os (e.set o.dst v) h k) (kd := fun e => evOps P nt dfr call kpe none ops os (e.set o.dst .undef) h k) hF hdr ho s ?_
        ⟨fun ι' h' w' v u p hv hk => ?_, fun ι' h' w' v u p hv hk => hP ι e h a w ι' h' w' v u s p hv hk⟩ (fun e' d hk s' => ?_)
      · cases hg : guardOf nt ops o e with
        | bad => rw [hg] at hk; cases hk
        | is v want => rw [hg] at hk; exact hk
        | no =>
          rw [hg] at hk
          dsimp only at hk ⊢
          cases hr : isRecover o.op with
          | true => rw [hr] at hk; cases hk
          | false => rw [hr] at hk; exact hk
      · exact evOps_ok C hF hdr hN hP hos' ((s.move p).put hd hv) hk
      · exact evOps_ok C hF hdr hN hP hos' (s'.put hd (undef_VR _)) hk

theorem evRegion_ok (C : CallOk P rt call) {id : Nat} {ops : Array Oper} {Q : Exit → Act → World → Prop} {k : Kont} (hF : FWide F) (hdr : F.round ≠ none → dfr = false)
    (hN : ∀ ι e h a w, St rt ι0 h0 w0 nt dfr ι e h a w → k e h = .good → Q .normal a w)
    (hP : ∀ ι e h a w ι' h' w' v u, St rt ι0 h0 w0 nt dfr ι e h a w → Post rt ι h w ι' h' w' → VR ι' v u → kpe e v h' = .good → Q (.panic [{ v := u, recovered := false }]) a w')
    (s : St rt ι0 h0 w0 nt dfr ι e h a w) (hk : evOps P nt dfr call kpe none ops ops.toList e h k = .good) : (Code.region id ops false).wpIn F 0 P Q a w := by
  apply wpIn_region
  have := evOps_ok C hF hdr hN hP (os := ops.toList) (i := 0) (by simp) s hk
  rw [List.range_eq_range']
  rw [Array.length_toList] at this
  exact this
end Go.Ev

namespace Go.Ev
open Go
set_option linter.unusedSectionVars false
variable [Sym]
set_option linter.unusedVariables false
set_option linter.unusedSimpArgs false
variable {P : Program} {rt : Nat → Option RT} {call : C3} {ι : Inj} {h : H} {w : World}
variable {ι0 : Inj} {h0 : H} {w0 : World} {nt : Nat} {dfr : Bool} {e : Env} {a : Act} {F : Fence} {kpe : Env → KV}
structure Conds (rt : Nat → Option RT) (ι0 : Inj) (h0 : H) (w0 : World) (nt : Nat) (dfr : Bool) (kpe : Env → KV) (ret : Env → H → Ans) (out : Nat → H → Ans) (xs : List XS) (k : Kont) (Q : Exit → Act → World → Prop) : Prop where
  N : ∀ ι e h a w, St rt ι0 h0 w0 nt dfr ι e h a w → k e h = .good → Q .normal a w
  X : ∀ id ι e h a w, St rt ι0 h0 w0 nt dfr ι e h a w → (match XS.find xs id with | some j => j e h | none => out id h) = .good → Q (.exit id) a w
  R : ∀ ι e h a w, St rt ι0 h0 w0 nt dfr ι e h a w → ret e h = .good → Q .ret a w
  P : ∀ ι e h a w ι' h' w' v u, St rt ι0 h0 w0 nt dfr ι e h a w → Post rt ι h w ι' h' w' → VR ι' v u → kpe e v h' = .good → Q (.panic [{ v := u, recovered := false }]) a w'
noncomputable def keptL (nt : Nat) (ps : Array Tmp) (a b : Code) : List Nat := bitsFrom nt 0 (ps.toList.foldl (fun r p => without r (some p)) (liveC 0 a [] (liveC 0 b [] 0)))
def RgOk (rt : Nat → Option RT) (nt : Nat) (rg : Option Nat) : Code → Prop
  | .seq a b | .cond _ a b => RgOk rt nt rg a ∧ RgOk rt nt rg b
  | .block _ c | .loop c | .scope c => RgOk rt nt rg c
  | .rangeFunc _ ps a b => ∀ g, rg = some g → g ≤ 4095 ∧ rt g = some ⟨nt, ps, a, b, keptL nt ps a b⟩
  | _ => True
def DrawOk (P : Program) (rt : Nat → Option RT) (call : C3) : Prop :=
  ∀ {ι0 : Inj} {h0 : H} {w0 : World} {nt : Nat} {dfr : Bool} {ι : Inj} {e : Env} {h : H} {a : Act} {w : World} {F : Fence} {kpe : Env → KV} {id : Nat} {ops : Array Oper} {Q : Exit → Act → World → Prop} {k : Kont},
    FWide F → (F.round ≠ none → dfr = false) →
    (∀ ι e h a w, St rt ι0 h0 w0 nt dfr ι e h a w → k e h = .good → Q .normal a w) →
    (∀ ι e h a w ι' h' w' v u, St rt ι0 h0 w0 nt dfr ι e h a w → Post rt ι h w ι' h' w' → VR ι' v u → kpe e v h' = .good → Q (.panic [{ v := u, recovered := false }]) a w') →
    St rt ι0 h0 w0 nt dfr ι e h a w → drawOk ops (Region.before ops) = true →
    evDraw P nt dfr call kpe ops (Region.before ops) (effsFrom P ops.toList 0) (planFrom (Region.before ops) ops.size (effsFrom P ops.toList 0) ops.size []) [] e h [] k = .good →
    (Code.region id ops true).wpIn F 0 P Q a w
noncomputable def jk (nt lv : Nat) (k : Kont) : Kont := fun e h => e.getL (bitsFrom (nt + 1) 0 lv) fun vs => unpack (bitsFrom (nt + 1) 0 lv).length (packE vs) fun vs => k ((bitsFrom (nt + 1) 0 lv).zip vs) h
theorem join_eq (nt lv : Nat) (k : Kont) (body : Kont → Ans) : join nt lv k body = body (jk nt lv k) := rfl

theorem getL_zip {L : List Nat} {k : List AV → Ans} (hk : (e.getL L fun vs => unpack L.length (packE vs) k) = .good) :
    ∃ vs : List AV, (∀ t v, Env.get (L.zip vs) t = some v → e.get t = some v) ∧ vs.length = L.length ∧ k vs = .good := by
  obtain ⟨vs, h1, h2, h3⟩ := Env.getL_good hk
  refine ⟨vs, fun t v hv => ?_, h1, unpack_good h1 h3⟩
  obtain ⟨i, q1, q2⟩ := Env.get_zip hv
  exact h2 i t v q1 q2
theorem jk_good {lv : Nat} {k : Kont} (hk : jk nt lv k e h = .good) : ∃ e' : Env, (∀ t v, e'.get t = some v → e.get t = some v) ∧ k e' h = .good := by
  obtain ⟨vs, h1, _, h3⟩ := getL_zip hk
  exact ⟨_, h1, h3⟩

theorem Conds.joint {ret : Env → H → Ans} {out : Nat → H → Ans} {xs : List XS} {k : Kont} {Q : Exit → Act → World → Prop} (K : Conds rt ι0 h0 w0 nt dfr kpe ret out xs k Q) (lv : Nat) :
    Conds rt ι0 h0 w0 nt dfr kpe ret out xs (jk nt lv k) Q :=
  ⟨fun ι e h a w s hk => let ⟨e', h1, h2⟩ := jk_good hk; K.N ι e' h a w (s.sub h1) h2, K.X, K.R, K.P⟩

theorem find_cons {id lv id' : Nat} {j : Kont} {xs : List XS} : XS.find (⟨id, lv, j⟩ :: xs) id' = if id = id' then some j else XS.find xs id' := by
  show (match Nat.beq id id' with | true => some j | false => XS.find xs id') = _
  cases h : Nat.beq id id'
  · rw [if_neg (beq_false h)]
  · rw [if_pos (beq_true h)]

theorem goK_list {id : Nat} {no : Ans} {e : Env} {h : H} : ∀ {xs : List XS}, XL.goK id h no (XS.list e xs) = (match XS.find xs id with | some j => j e h | none => no)
  | [] => rfl
  | ⟨i, lv, j⟩ :: xs => by
    rw [find_cons]
    show bK (Nat.beq i id) (j e h) (XL.goK id h no (XS.list e xs)) = _
    rw [goK_list (xs := xs)]
    cases hb : Nat.beq i id
    · rw [if_neg (beq_false hb)]; rfl
    · rw [if_pos (beq_true hb)]; rfl
theorem loop_rounds {c : Code} {L : List Nat} {Q : Exit → Act → World → Prop} {body : (R1 → H → Ans) → R1 → H → Ans} 
    (hb : ∀ {next : R1 → H → Ans} {K : Act → World → Prop} {ι : Inj} {vs : List AV} {h : H} {a : Act} {w : World}, St rt ι0 h0 w0 nt dfr ι (L.zip vs) h a w → vs.length = L.length → body next (packE vs) h = .good →
      (∀ ι vs h a w, St rt ι0 h0 w0 nt dfr ι (L.zip vs) h a w → vs.length = L.length → next (packE vs) h = .good → K a w) → c.wpIn F 0 P (Exit.then K Q) a w) :
    ∀ (n : Nat) {ι : Inj} {vs : List AV} {h : H} {a : Act} {w : World}, St rt ι0 h0 w0 nt dfr ι (L.zip vs) h a w → vs.length = L.length → loopK body n (packE vs) h = .good → Code.roundsIn F 0 P c Q n a w := by
  intro n
  induction n with
  | zero => intro ι vs h a w s hl hk; cases hk
  | succ n ih =>
    intro ι vs h a w s hl hk
    have hk : body (loopK body n) (packE vs) h = .good := hk
    rw [roundsIn_succ]
    exact hb s hl hk fun ι vs h a w s hl hk => ih s hl hk
end Go.Ev

namespace Go.Ev
open Go
set_option linter.unusedSectionVars false
variable [Sym]
set_option linter.unusedVariables false
set_option linter.unusedSimpArgs false
variable {P : Program} {rt : Nat → Option RT} {call : C3} {ι : Inj} {h : H} {w : World}
variable {ι0 : Inj} {h0 : H} {w0 : World} {nt : Nat} {dfr : Bool} {e : Env} {a : Act} {F : Fence} {kpe : Env → KV}

theorem bitsFrom_mem : ∀ {n i lv t : Nat}, t ∈ bitsFrom n i lv → i ≤ t ∧ t < i + n
  | 0, i, lv, t, h => by cases h
  | n + 1, i, lv, t, h => by
    have h : t ∈ (match lv.testBit i with | true => i :: bitsFrom n (i + 1) lv | false => bitsFrom n (i + 1) lv) := h
    cases hb : lv.testBit i
    · rw [hb] at h
      have := bitsFrom_mem (n := n) h; omega
    · rw [hb] at h
      rcases List.mem_cons.1 h with rfl | h
      · omega
      · have := bitsFrom_mem (n := n) h; omega

structure LoopAt (rt : Nat → Option RT) (ι : Inj) (w : World) (b : Nat) (g : G3) (e : R1) (st : LoopState) (pend : Pend) (l : Loop) (r : RT) (vs : List AV) : Prop where
  at_ : w.heap[b]? = some (.loop l)
  hr : rt g.val = some r
  hs : l.state = st
  hp : l.pending = pend.code
  h1 : l.params = r.ps
  h2 : l.assign = r.a
  h3 : l.body = r.b
  he : e = packE vs
  hv : r.L.length = vs.length
  hn : r.nt ≤ l.tmps.size
  ht : ∀ (i t : Nat) (v : AV), r.L[i]? = some t → vs[i]? = some v → ∃ u, l.tmps[t]? = some u ∧ VR ι v u

theorem loop_at (M : MR rt ι h w) {p : P4} {b z : Nat} (hp : ι p = some (b, z)) {g : G3} {e : R1} {st : LoopState} {pend : Pend} (hg : h.get p = .loop g e st pend) : ∃ l r vs, LoopAt rt ι w b g e st pend l r vs := by
  obtain ⟨b', z', o, e1, e2, e3⟩ := M.obj' hp (by rw [hg]; intro e; cases e)
  rw [hp] at e1; cases e1
  rw [hg] at e3
  cases e3 with | loop hr hs hp h1 h2 h3 he hv hn ht => exact ⟨_, _, _, e2, hr, hs, hp, h1, h2, h3, he, hv, hn, ht⟩
theorem loop_nosl {g : G3} {e : R1} {st : LoopState} {pend : Pend} : ¬ Sealed (.loop g e st pend) := by rintro ⟨_, _, _, _, e⟩; cases e
theorem getLoop_run {b : Nat} {l : Loop} (hb : w.heap[b]? = some (.loop l)) : (Instr.getLoop b).run P w = .ok l w := by
  unfold Instr.getLoop
  refine (bind_ok (v := .loop l) (w' := w) ?_).trans rfl
  simp only [getObj, Sem.run, hb]
theorem setLoop_run {b : Nat} {l : Loop} (o : Obj) (hb : w.heap[b]? = some (.loop l)) : (setObj b o).run P w = .ok () { w with heap := w.heap.setIfInBounds b o } := by
  simp only [setObj, Sem.run, hb]
theorem setLoop {r : Nat} {l : Loop} (o : Obj) (hb : w.heap[r]? = some (.loop l)) : SetW w { w with heap := w.heap.setIfInBounds r o } r o := by
  have hlt : r < w.heap.size := (Array.getElem?_eq_some_iff.1 hb).1
  exact ⟨rfl, rfl, rfl, by simp, by simp [hlt], fun c hc => by simp [Ne.symm hc]⟩
theorem LoopAt.turn (M : MR rt ι h w) {p : P4} {b z : Nat} (hp : ι p = some (b, z)) {g : G3} {e : R1} {st st' : LoopState} {pend pend' : Pend} {l l' : Loop} {r : RT} {vs : List AV} (hg : h.get p = .loop g e st pend)
    (L : LoopAt rt ι w b g e st pend l r vs) (h1 : l'.state = st') (h2 : l'.pending = pend'.code) (h3 : l'.params = l.params) (h4 : l'.assign = l.assign) (h5 : l'.body = l.body) (h6 : l'.tmps = l.tmps) :
    Post rt ι h w ι (h.set p (.loop g e st' pend')) { w with heap := w.heap.setIfInBounds b (.loop l') } :=
  Post.set M hp (by rw [hg]; intro e; cases e) (by rw [hg]; exact loop_nosl) (setLoop _ L.at_)
    (.loop L.hr h1 h2 (h3.trans L.h1) (h4.trans L.h2) (h5.trans L.h3) L.he L.hv (by rw [h6]; exact L.hn) (by rw [h6]; exact L.ht))
def PendK (kret : H → Ans) (kx : XL) (out : Nat → H → Ans) (k : H → Ans) (h : H) : Pend → Prop
  | .none => k h = .good
  | .ret => kret h = .good
  | .exit id => XL.goK id h (out id h) kx = .good

theorem endLoopK_good (M : MR rt ι h w) {p : P4} {b z : Nat} (hp : ι p = some (b, z)) {kret : H → Ans} {kx : XL} {out : Nat → H → Ans} {k : H → Ans} (hk : endLoopK p h kret kx out k = .good) :
    ∃ pend h' w', (Instr.endLoop b).run P w = .ok (Pend.code pend) w' ∧ Post rt ι h w ι h' w' ∧ PendK kret kx out k h' pend := by
  unfold endLoopK at hk
  rw [HgetK_eq] at hk
  obtain ⟨g, e, st, pend, hg, hk⟩ := AOloopK_good hk
  obtain ⟨l, r, vs, L⟩ := loop_at M hp hg
  have hb : st ≠ .busy := by intro e; subst e; cases hk
  have hk : PendK kret kx out k (h.set p (AO.loop g e .exhausted pend)) pend := by
    cases st
    case busy => exact absurd rfl hb
    all_goals (dsimp only at hk; rw [HsetK_eq] at hk; cases pend <;> exact hk)
  refine ⟨pend, _, _, ?_, L.turn M hp hg (l' := { l with state := .exhausted }) rfl L.hp rfl rfl rfl rfl, hk⟩
  unfold Instr.endLoop
  refine (bind_ok (getLoop_run L.at_)).trans ?_
  rw [if_neg (by rw [L.hs]; simpa using hb)]
  refine (bind_ok (setLoop_run _ L.at_)).trans ?_
  rw [L.hp]
  rfl

theorem isFnK_good {v : AV} {k : Ans} (h : isFnK v k = .good) : (∃ g f c, v = .fn g f c) ∧ k = .good := by
  unfold isFnK at h
  split at h
  · exact ⟨⟨_, _, _, rfl⟩, h⟩
  · cases h
theorem isUndK_good {v : AV} {k : Ans} (h : isUndK v k = .good) : v = .tup .nil ∧ k = .good := by
  unfold isUndK at h
  split at h
  · exact ⟨rfl, h⟩
  · cases h

theorem evRange_ok (C : CallOk P rt call) {ret : Env → H → Ans} {out : Nat → H → Ans} {xs : List XS} {k : Kont} {Q : Exit → Act → World → Prop} {fo : Operand} {ps : Array Tmp} {ca cb : Code} {g : Nat}
    (K : Conds rt ι0 h0 w0 nt true kpe ret out xs k Q) (hg : g ≤ 4095) (hr : rt g = some ⟨nt, ps, ca, cb, keptL nt ps ca cb⟩) (s : St rt ι0 h0 w0 nt true ι e h a w)
    (hk : (opnd nt e fo fun f =>
        match e.get nt with
        | none => .bad
        | some ds => e.getL (keptL nt ps ca cb) fun vs =>
            HnewK h AO.defd fun d h => HnewK h (AO.loop (G3.ofNat g) (packE vs) .ready .none) fun l h =>
              isFnK f (callVK call f (E1 (.yld (G3.ofNat g) l)) (fun r => E2 r (.yld (G3.ofNat g) l)) (.num 1) (.num 2) h
                  (fun v h => isUndK v (endLoopK l h (fun h => ret ((nt, AV.cons (.ptr d 0) ds) :: e) h) (XS.list ((nt, AV.cons (.ptr d 0) ds) :: e) xs) out fun h => k ((nt, AV.cons (.ptr d 0) ds) :: e) h))
                  (kpe ((nt, AV.cons (.ptr d 0) ds) :: e)))) = .good) :
    (Code.rangeFunc fo ps ca cb).wpIn Fence.wide 0 P Q a w := by
  obtain ⟨fv, hf, hk⟩ := opnd_good s hk
  cases hds : e.get nt with
  | none => rw [hds] at hk; cases hk
  | some ds =>
    rw [hds] at hk
    dsimp only at hk
    obtain ⟨vs, v1, v2, hk⟩ := Env.getL_good hk
    obtain ⟨q1, n1, hk⟩ := HnewK_good hk
    have p1 := Post.alloc (rt := rt) (z := 0) s.mr (pushW_alloc (w := w) (.deferred (some []))) n1 .defd
    obtain ⟨q2, n2, hk⟩ := HnewK_good hk
    obtain ⟨⟨gg, first, cap, rfl⟩, hk⟩ := isFnK_good hk
    -- the record, whatever function the activation is of
    have e1 : Ext ι (upd ι h.nx (w.heap.size, 0)) := p1.ext
    let w1 : World := { w with heap := w.heap.push (.deferred (some [])) }
    have hs1 : w1.heap.size = w.heap.size + 1 := by show (w.heap.push _).size = _; simp
    apply wpIn_rangeFunc
    intro fn _
    let rec_ : Loop := { state := .ready, pending := none, fn := fn, tmps := a.tmps, params := ps, assign := ca, body := cb, defers := w.heap.size }
    have p2 := Post.alloc (z := 0) p1.mr (pushW_alloc (w := w1) (.loop rec_)) n2 (o := AO.loop (G3.ofNat g) (packE vs) .ready .none) (by
      refine .loop (r := ⟨nt, ps, ca, cb, keptL nt ps ca cb⟩) (by rw [G3.ofNat_val hg]; exact hr) rfl rfl rfl rfl rfl rfl v1.symm s.size (fun i t v hi hv => ?_)
      have hm : t ∈ keptL nt ps ca cb := List.mem_of_getElem? hi
      obtain ⟨u, u1, u2⟩ := s.env t v (by have := bitsFrom_mem hm; omega) (v2 i t v hi hv)
      exact ⟨u, u1, (u2.ext p1.ext).ext (upd_ext _ (p1.mr.fresh (Nat.le_refl _)))⟩)
    have p12 := p1.trans p2
    let w2 : World := { w1 with heap := w1.heap.push (.loop rec_) }
    have hy : VR (upd (upd ι h.nx (w.heap.size, 0)) (H.mk q1 (h.t.put h.nx AO.defd)).nx (w1.heap.size, 0)) (.yld (G3.ofNat g) (H.mk q1 (h.t.put h.nx AO.defd)).nx) (.func (.yield w1.heap.size) #[] #[]) := .yld _ (upd_same _ _ _)
    have up := callF_ok (C := C) (as := [.yld (G3.ofNat g) (H.mk q1 (h.t.put h.nx AO.defd)).nx]) (xs := [.func (.yield w1.heap.size) #[] #[]]) p2.mr (s.glob.ext p12.ext) (hf.ext p12.ext) (.cons hy .nil) hk
    have hfv : ∃ fi fs cs, a.eval fo = .func (.func fi) fs cs := by
      generalize a.eval fo = y at hf
      cases hf
      exact ⟨_, _, _, rfl⟩
    obtain ⟨fi, fs, cs, hfe⟩ := hfv
    rw [hfe] at up
    have hle : w2.heap.size = w.heap.size + 2 := by show (w1.heap.push _).size = _; rw [Array.size_push, hs1]
    obtain ⟨fid, args, hin, hcall⟩ : ∃ fid args, (invoke (.fn (.func fi) cs) (fs ++ #[.func (.yield w1.heap.size) #[] #[]])).run P w2 = .ok (.enter fid args) w2 ∧
        CallsIn Fence.wide 0 P fid args w2 (EndP rt _ _ w2 (fun v h' => isUndK v (endLoopK (H.mk q1 (h.t.put h.nx AO.defd)).nx h' (fun h' => ret ((nt, AV.cons (.ptr h.nx 0) ds) :: e) h') (XS.list ((nt, AV.cons (.ptr h.nx 0) ds) :: e) xs) out fun h' => k ((nt, AV.cons (.ptr h.nx 0) ds) :: e) h')) (kpe ((nt, AV.cons (.ptr h.nx 0) ds) :: e))) := by
      cases up with
      | value v w' h1 hne he =>
        obtain ⟨ι', h', a', p, hv, hk⟩ := he
        obtain ⟨rfl, _⟩ := isUndK_good hk
        cases hv with | tup hv =>
        rename_i arr
        exfalso
        apply hne
        obtain ⟨l⟩ := arr
        simp only at hv
        cases hv
        rfl
      | enter fid args h1 he => exact ⟨fid, args, h1, he⟩
      | round _ _ _ _ _ hy _ _ => cases hy
    refine ⟨w1.heap.size, [{ target := .collected w.heap.size, args := #[] }], w2, { target := .fn (.func fi) cs, args := fs ++ #[.func (.yield w1.heap.size) #[] #[]] }, w2, fid, args, w2, ?_, ?_, fun _ _ => trivial, hin, (fun hc => (by cases hc)), hcall.mono fun en w' hq => ?_⟩
    · rfl
    · have ea : (rangeCall fo w1.heap.size).args.map a.eval = #[.func (.yield w1.heap.size) #[] #[]] := by simp [rangeCall, Act.eval]
      show (Deferred.ofValue (a.eval fo) ((rangeCall fo w1.heap.size).args.map a.eval)).run P w2 = _
      rw [hfe, ea]
      rfl
    · -- behind the statement
      have hdl : upd (upd ι h.nx (w.heap.size, 0)) (H.mk q1 (h.t.put h.nx AO.defd)).nx (w1.heap.size, 0) h.nx = some (w.heap.size, 0) := p2.ext _ _ (upd_same _ _ _)
      have st2 : ∀ {ι' h' w'}, Post rt _ _ w2 ι' h' w' → St rt ι0 h0 w0 nt true ι' ((nt, AV.cons (.ptr h.nx 0) ds) :: e) h' { a with defers := [{ target := .collected w.heap.size, args := #[] }] ++ a.defers } w' := fun {ι' h' w'} p => by
        have s' := s.move (p12.trans p)
        refine ⟨fun t v ht hv => ?_, s'.size, s'.post, s'.glob, fun hc => (by cases hc), fun _ ds' hds' => ?_⟩
        · rw [Env.get_cons, if_neg (fun e => by omega)] at hv
          exact s'.env t v ht hv
        · rw [Env.get_cons, if_pos rfl] at hds'
          injection hds' with hds'
          subst hds'
          exact .mark (p.ext _ _ hdl) (s'.dyes rfl ds hds)
      cases en with
      | outgrown => exact hq.elim
      | panicked chain =>
        obtain ⟨ι', h', v, u, rfl, p, hv, hk⟩ := hq
        exact K.P _ _ _ _ _ _ _ _ _ _ (st2 p) (Post.refl p.mr) hv hk
      | returned v =>
        obtain ⟨ι', h', a', p, hv, hk⟩ := hq
        obtain ⟨_, hk⟩ := isUndK_good hk
        obtain ⟨pend, h3, w3, g1, g2, g3⟩ := endLoopK_good (P := P) p.mr (p.ext _ _ (upd_same _ _ _)) hk
        have s3 := st2 (p.trans g2)
        refine ⟨_, w3, g1, ?_⟩
        cases pend with
        | none => exact K.N _ _ _ _ _ s3 g3
        | ret => exact wpIn_ret (K.R _ _ _ _ _ s3 g3)
        | exit id =>
          have g3 : XL.goK id h3 (out id h3) (XS.list ((nt, AV.cons (.ptr h.nx 0) ds) :: e) xs) = .good := g3
          rw [goK_list] at g3
          exact wpIn_exit (K.X id _ _ _ _ _ s3 g3)
end Go.Ev

namespace Go.Ev
open Go
section
variable {F : Fence} {n : Nat} {P : Program} {b : Frame} {a : Act} {k : List Item} {cs : List Frame} {w : World} {Q : Exit → Act → World → Prop}

theorem stepR_scope {c : Code} : step P (lone (b.atR a (.code (.scope c) :: k)) cs w) = .next (lone (b.atR a (.code c :: .inScope c :: k)) cs w) :=
  step_lone_go (by simp [stepG, stepG.exec, Frame.atR])
theorem stepR_inScope {c : Code} : step P (lone (b.atR a (.inScope c :: k)) cs w) = .next (lone (b.atR a k) cs w) :=
  step_lone_go (by simp [stepG, stepG.exec, Frame.atR])
theorem wpIn_scope {c : Code} (h : c.wpIn F n P (Exit.noGoto Q) a w) : (Code.scope c).wpIn F n P Q a w := by
  intro b k cs hro hb hr
  have h0 : (lone (b.atR a (.code (.scope c) :: k)) cs w).fenced P F := fenced_calm hb hr rfl
  obtain ⟨e, a₁, w₁, hq, harr⟩ := h b (.inScope c :: k) cs hro hb hr
  cases e with
  | normal => exact ⟨.normal, a₁, w₁, hq, .head h0 stepR_scope (StepsIn.trans harr (.one (fenced_calm hb hr rfl) stepR_inScope))⟩
  | exit id =>
    have hx : exitTo id (.inScope c :: k) = exitTo id k := by simp [exitTo]
    exact ⟨.exit id, a₁, w₁, hq, fun k' hk => .head h0 stepR_scope (harr.1 k' (by rw [hx]; exact hk)),
      fun hr' hk => let ⟨k₁, h1, h2⟩ := harr.2 hr' (by rw [hx]; exact hk); ⟨k₁, h1, .head h0 stepR_scope h2⟩⟩
  | goto l => exact (show False from hq).elim
  | ret => exact ⟨_, a₁, w₁, hq, .of_steps (.one h0 stepR_scope) harr⟩
  | panic ch => exact ⟨_, a₁, w₁, hq, .of_steps (.one h0 stepR_scope) harr⟩
  | outgrown => exact ⟨_, a₁, w₁, hq, .of_steps (.one h0 stepR_scope) harr⟩
end
end Go.Ev

namespace Go.Ev
open Go
set_option linter.unusedSectionVars false
variable [Sym]
set_option linter.unusedVariables false
set_option linter.unusedSimpArgs false
variable {P : Program} {rt : Nat → Option RT} {call : C3} {ι : Inj} {h : H} {w : World}
variable {ι0 : Inj} {h0 : H} {w0 : World} {nt : Nat} {dfr : Bool} {e : Env} {a : Act} {F : Fence} {kpe : Env → KV}

theorem evC_ok (C : CallOk P rt call) (D : DrawOk P rt call) {lr : Nat} {ret : Env → H → Ans} {out : Nat → H → Ans} {rg : Option Nat} (hF : FWide F) (hdr : F.round ≠ none → dfr = false) (hrg : rg ≠ none → F = Fence.wide) :
    ∀ {c : Code} {xs : List XS} {lv : Nat} {ι : Inj} {e : Env} {h : H} {k : Kont} {Q : Exit → Act → World → Prop} {a : Act} {w : World}, RgOk rt nt rg c → Conds rt ι0 h0 w0 nt dfr kpe ret out xs k Q → St rt ι0 h0 w0 nt dfr ι e h a w →
      evC P nt dfr call kpe lr ret out rg c xs lv e h k = .good → c.wpIn F 0 P Q a w
  | .skip, xs, lv, ι, e, h, k, Q, a, w, hr, K, s, hk => wpIn_skip (K.N _ _ _ _ _ s hk)
  | .label l, xs, lv, ι, e, h, k, Q, a, w, hr, K, s, hk => wpIn_label (K.N _ _ _ _ _ s hk)
  | .region id ops false, xs, lv, ι, e, h, k, Q, a, w, hr, K, s, hk => by
    have hk : evOps P nt dfr call kpe none ops ops.toList e h (fun e h => k (Env.trim lv e) h) = .good := hk
    exact evRegion_ok C hF hdr (fun ι e h a w s hk => K.N _ _ _ _ _ (s.sub fun t v hv => (Env.get_trim hv).1) hk) K.P s hk
  | .region id ops true, xs, lv, ι, e, h, k, Q, a, w, hr, K, s, hk => by
    have hk : (match drawOk ops (Region.before ops) with
          | true => evDraw P nt dfr call kpe ops (Region.before ops) (effsFrom P ops.toList 0) (planFrom (Region.before ops) ops.size (effsFrom P ops.toList 0) ops.size []) [] e h [] fun e h => k (Env.trim lv e) h
          | false => .bad) = .good := hk
    cases hc : drawOk ops (Region.before ops) with
    | false => rw [hc] at hk; cases hk
    | true =>
      rw [hc] at hk
      exact D hF hdr (fun ι e h a w s hk => K.N _ _ _ _ _ (s.sub fun t v hv => (Env.get_trim hv).1) hk) K.P s hc hk
  | .seq x y, xs, lv, ι, e, h, k, Q, a, w, hr, K, s, hk => by
    have hk : evC P nt dfr call kpe lr ret out rg x xs (liveC lr y (XS.lives xs) lv) e h (fun e h => evC P nt dfr call kpe lr ret out rg y xs lv e h k) = .good := hk
    exact wpIn_seq (evC_ok C D hF hdr hrg hr.1 (Q := Exit.then (y.wpIn F 0 P Q) Q) ⟨fun ι e h a w s hk => evC_ok C D hF hdr hrg hr.2 K s hk, K.X, K.R, K.P⟩ s hk)
  | .cond c x y, xs, lv, ι, e, h, k, Q, a, w, hr, K, s, hk => by
    have hk : (opnd nt e c fun v =>
      match never x || never y with
      | true => condK v (evC P nt dfr call kpe lr ret out rg x xs lv e h k) (evC P nt dfr call kpe lr ret out rg y xs lv e h k)
      | false => condK v (evC P nt dfr call kpe lr ret out rg x xs lv e h (jk nt lv k)) (evC P nt dfr call kpe lr ret out rg y xs lv e h (jk nt lv k))) = .good := hk
    obtain ⟨v, h1, hk⟩ := opnd_good s hk
    have go : ∀ {k : Kont}, Conds rt ι0 h0 w0 nt dfr kpe ret out xs k Q → condK v (evC P nt dfr call kpe lr ret out rg x xs lv e h k) (evC P nt dfr call kpe lr ret out rg y xs lv e h k) = .good → (Code.cond c x y).wpIn F 0 P Q a w := fun K hk => by
      obtain ⟨b, hb, hk⟩ := condK_good hk h1
      refine wpIn_cond hb ?_
      cases b
      · exact evC_ok C D hF hdr hrg hr.2 K s hk
      · exact evC_ok C D hF hdr hrg hr.1 K s hk
    cases hn : never x || never y
    · rw [hn] at hk; exact go (K.joint lv) hk
    · rw [hn] at hk; exact go K hk
  | .block id c, xs, lv, ι, e, h, k, Q, a, w, hr, K, s, hk => by
    have hk : evC P nt dfr call kpe lr ret out rg c (⟨id, lv, jk nt lv k⟩ :: xs) lv e h (jk nt lv k) = .good := hk
    have K' := K.joint lv
    refine wpIn_block (evC_ok C D hF hdr hrg (show RgOk rt nt rg c from hr) (Q := Exit.inBlock id Q) ⟨K'.N, fun id' ι e h a w s hk => ?_, K.R, K.P⟩ s hk)
    rw [find_cons] at hk
    show (if id' = id then Q .normal a w else Q (.exit id') a w)
    by_cases hi : id = id'
    · rw [if_pos hi] at hk
      rw [if_pos hi.symm]
      exact K'.N _ _ _ _ _ s hk
    · rw [if_neg hi] at hk
      rw [if_neg (Ne.symm hi)]
      exact K.X _ _ _ _ _ _ s hk
  | .loop c, xs, lv, ι, e, h, k, Q, a, w, hr, K, s, hk => by
    have hk : (e.getL (bitsFrom (nt + 1) 0 (liveC lr c (XS.lives xs) 0)) fun vs => loopK (fun next p h => unpack (bitsFrom (nt + 1) 0 (liveC lr c (XS.lives xs) 0)).length p fun vs =>
        evC P nt dfr call kpe lr ret out rg c xs (liveC lr c (XS.lives xs) 0) ((bitsFrom (nt + 1) 0 (liveC lr c (XS.lives xs) 0)).zip vs) h fun e h => e.getL (bitsFrom (nt + 1) 0 (liveC lr c (XS.lives xs) 0)) fun vs => next (packE vs) h) loopFuel (packE vs) h) = .good := hk
    generalize bitsFrom (nt + 1) 0 (liveC lr c (XS.lives xs) 0) = L at hk
    generalize loopFuel = n at hk
    obtain ⟨vs, h1, h2, hk⟩ := Env.getL_good hk
    refine wpIn_loop_rounds n (loop_rounds (L := L) (fun {next K' ι vs h a w} s hl hk hn => ?_) n (s.sub fun t v hv => ?_) h1 hk)
    · have hk := unpack_good hl hk
      refine evC_ok C D hF hdr hrg (show RgOk rt nt rg c from hr) (Q := Exit.then K' Q) ⟨fun ι e h a w s hk => ?_, K.X, K.R, K.P⟩ s hk
      obtain ⟨vs, q1, q2, hk⟩ := Env.getL_good hk
      refine hn _ _ _ _ _ (s.sub fun t v hv => ?_) q1 hk
      obtain ⟨i, i1, i2⟩ := Env.get_zip hv
      exact q2 i t v i1 i2
    · obtain ⟨i, i1, i2⟩ := Env.get_zip hv
      exact h2 i t v i1 i2
  | .exit id, xs, lv, ι, e, h, k, Q, a, w, hr, K, s, hk => wpIn_exit (K.X _ _ _ _ _ _ s hk)
  | .ret, xs, lv, ι, e, h, k, Q, a, w, hr, K, s, hk => wpIn_ret (K.R _ _ _ _ _ s hk)
  | .rangeFunc f ps x y, xs, lv, ι, e, h, k, Q, a, w, hr, K, s, hk => by
    cases rg with
    | none => cases hk
    | some g =>
      cases dfr with
      | false => cases hk
      | true =>
        obtain ⟨h1, h2⟩ := hr g rfl
        have := hrg (by simp)
        subst this
        exact evRange_ok C K h1 h2 s hk
  | .scope c, xs, lv, ι, e, h, k, Q, a, w, hr, K, s, hk => by
    have hk : evC P nt dfr call kpe lr ret out rg c xs lv e h k = .good := hk
    exact wpIn_scope (evC_ok C D hF hdr hrg (show RgOk rt nt rg c from hr) (Q := Exit.noGoto Q) ⟨K.N, K.X, K.R, K.P⟩ s hk)
  | .goto l, xs, lv, ι, e, h, k, Q, a, w, hr, K, s, hk => by cases hk
  | .refuse l, xs, lv, ι, e, h, k, Q, a, w, hr, K, s, hk => by cases hk
end Go.Ev

namespace Go.Ev
open Go
set_option linter.unusedSectionVars false
variable [Sym]
set_option linter.unusedVariables false
set_option linter.unusedSimpArgs false
variable {P : Program} {rt : Nat → Option RT} {call : C3} {ι : Inj} {h : H} {w : World}
variable {ι0 : Inj} {h0 : H} {w0 : World} {nt : Nat} {dfr : Bool} {e : Env} {a : Act} {F : Fence} {kpe : Env → KV}
theorem loadVar_of {t : TypeId} {x v : Value} {w w' : World} (h : (Instr.loadAt t x).run P w = .ok v w') : (do loadVar t (← Go.asAddr x) : Sem Value).run P w = .ok v w' := by
  unfold Instr.loadAt at h
  cases x with
  | pointer p => cases p with
    | some q => exact h
    | none => cases h
  | _ => cases h
def resOne (tmps : Array Value) : ResultVar → Sem Value
  | .tmp t => pure (tmps.getD t undef)
  | .cell a t => do loadVar t (← Go.asAddr (tmps.getD a undef))

theorem resK_good (s : St rt ι0 h0 w0 nt dfr ι e h a w) : ∀ {rs : List ResultVar} {k : List AV → Ans}, resK P nt e h rs k = .good → ∃ vs us, VRs ι vs us ∧ (rs.mapM (resOne a.tmps)).run P w = .ok us w ∧ k vs = .good
  | [], k, hk => ⟨[], [], .nil, rfl, hk⟩
  | .tmp t :: rs, k, hk => by
    have hk : (match Nat.ble (t + 1) nt with | true => (match e.get t with | some v => resK P nt e h rs fun vs => k (v :: vs) | none => .bad) | false => .bad) = .good := hk
    cases hb : Nat.ble (t + 1) nt
    · rw [hb] at hk; cases hk
    · rw [hb] at hk
      cases hv : e.get t with
      | none => simp only [hv] at hk; cases hk
      | some v =>
        simp only [hv] at hk
        obtain ⟨u, h1, h2⟩ := s.env t v (ble_true hb) hv
        obtain ⟨vs, us, q1, q2, q3⟩ := resK_good s (k := fun vs => k (v :: vs)) hk
        refine ⟨v :: vs, u :: us, .cons h2 q1, ?_, q3⟩
        rw [List.mapM_cons]
        refine (bind_ok (v := u) (w' := w) ?_).trans ((bind_ok q2).trans rfl)
        show Result.ok (a.tmps.getD t undef) w = _
        rw [Array.getD_eq_getD_getElem?, h1]; rfl
  | .cell d t :: rs, k, hk => by
    have hk : (match (match Nat.ble (d + 1) nt with | true => e.get d | false => none) with
      | some p =>
        match aggT P t, sizeT P t with
        | some true, some s => loadAK s p h fun v => resK P nt e h rs fun vs => k (v :: vs)
        | some false, some _ => loadK p h fun v => resK P nt e h rs fun vs => k (v :: vs)
        | _, _ => .bad
      | none => .bad) = .good := hk
    cases hb : Nat.ble (d + 1) nt
    · rw [hb] at hk; cases hk
    · rw [hb] at hk
      dsimp only at hk
      cases hv : e.get d with
      | none => rw [hv] at hk; cases hk
      | some p =>
        rw [hv] at hk
        dsimp only at hk
        obtain ⟨u, h1, h2⟩ := s.env d p (ble_true hb) hv
        have hd : a.tmps.getD d undef = u := by rw [Array.getD_eq_getD_getElem?, h1]; rfl
        have go : ∀ {k' : AV → Ans}, Reads ι P w (Instr.loadAt t u) k' → (∀ v, k' v = .good → resK P nt e h rs (fun vs => k (v :: vs)) = .good) → ∃ vs us, VRs ι vs us ∧ ((ResultVar.cell d t :: rs).mapM (resOne a.tmps)).run P w = .ok us w ∧ k vs = .good := fun hr hk' => by
          obtain ⟨v, x, r1, r2, r3⟩ := hr
          obtain ⟨vs, us, q1, q2, q3⟩ := resK_good s (k := fun vs => k (v :: vs)) (hk' v r3)
          refine ⟨v :: vs, x :: us, .cons r2 q1, ?_, q3⟩
          rw [List.mapM_cons]
          refine (bind_ok (v := x) (w' := w) ?_).trans ((bind_ok q2).trans rfl)
          show (do loadVar t (← Go.asAddr (a.tmps.getD d undef)) : Sem Value).run P w = _
          rw [hd]
          exact loadVar_of r1
        split at hk
        · rename_i g1 g2; exact go (loadAK_good s.mr h2 g1 g2 hk) fun v hv => hv
        · rename_i g1 g2; exact go (loadK_good s.mr h2 g1 hk) fun v hv => hv
        · cases hk

def oneV : List Value → Value
  | [v] => v
  | us => .tuple us.toArray
theorem results_run {fn : Func} {tmps : Array Value} {us : List Value} {w : World} (h : (fn.results.toList.mapM (resOne tmps)).run P w = .ok us w) : (results fn tmps).run P w = .ok (oneV us) w := by
  have e0 : results fn tmps = (do let vs ← fn.results.mapM (resOne tmps); pure (if h : vs.size = 1 then vs[0] else .tuple vs) : Sem Value) := by
    unfold results
    congr 1
  rw [e0, Array.mapM_eq_mapM_toList]
  refine (bind_ok (v := us.toArray) (w' := w) ((bind_ok h).trans rfl)).trans ?_
  match us with
  | [] => rfl
  | [v] => rfl
  | _ :: _ :: _ => rfl
theorem oneOf_VR {vs : List AV} {us : List Value} (h : VRs ι vs us) : VR ι (oneOf vs) (oneV us) := by
  cases h with
  | nil => exact .tup .nil
  | cons h h' =>
    cases h' with
    | nil => exact h
    | cons h2 h3 => exact .tup (.cons h (.cons h2 h3.ofList))

theorem finK_good {fn : Func} {kr : KV} (s : St rt ι0 h0 w0 nt dfr ι e h a w) (hk : finK P nt fn.results.toList kr e h = .good) : ∃ v u, (results fn a.tmps).run P w = .ok u w ∧ VR ι v u ∧ kr v h = .good := by
  obtain ⟨vs, us, h1, h2, h3⟩ := resK_good s hk
  exact ⟨_, _, results_run h2, oneOf_VR h1, h3⟩

theorem VR_ne_nil {v : AV} {u : Value} (h : VR ι v u) : v ≠ .nil := by intro e; subst e; cases h
end Go.Ev

namespace Go.Ev
open Go
set_option linter.unusedSectionVars false
variable [Sym]
set_option linter.unusedVariables false
set_option linter.unusedSimpArgs false
variable {P : Program} {rt : Nat → Option RT} {call : C3} {ι : Inj} {h : H} {w : World}
variable {ι0 : Inj} {h0 : H} {w0 : World} {nt : Nat} {dfr : Bool} {e : Env} {a : Act} {F : Fence} {kpe : Env → KV}

theorem rvOf_match (m : Option AV) : (match m with | some v => v | none => .nl .inil) = rvOf m := by cases m <;> rfl
theorem settle_mode {m : Option AV} {u : FrameMode} (h : ModeR ι m u) : settle u = u ∧ u ≠ .run := by
  cases h <;> exact ⟨rfl, fun e => by cases e⟩
theorem ModeR.ext {ι ι' : Inj} (e : Ext ι ι') {m : Option AV} {u : FrameMode} (h : ModeR ι m u) : ModeR ι' m u := by
  cases h with
  | ret => exact .ret
  | pan h => exact .pan (h.ext e)

theorem callDefK_good {c : C3} {f args rv : AV} {kr kp : KV} (hk : callDefK c f args rv h kr kp = .good) : ∃ g cap, f = .fn g .nil cap ∧ args = .nil ∧ disp c g E0 cap rv h kr kp = .good := by
  unfold callDefK at hk
  split at hk
  · exact ⟨_, _, rfl, rfl, hk⟩
  · cases hk

theorem takeDeferred_run {b : Nat} (hb : w.heap[b]? = some (.deferred (some []))) : (Instr.takeDeferred b).run P w = .ok [] { w with heap := w.heap.setIfInBounds b (.deferred none) } := by
  unfold Instr.takeDeferred
  refine (bind_ok (v := .deferred (some [])) (w' := w) (by simp only [getObj, Sem.run, hb])).trans ?_
  refine (bind_ok (v := ()) (w' := { w with heap := w.heap.setIfInBounds b (.deferred none) }) (by simp only [setObj, Sem.run, hb])).trans rfl
theorem Post.gone {p : P4} {x : Obj} {b z : Nat} {w' : World} (m : MR rt ι h w) (hp : ι p = some (b, z)) (hl : h.get p ≠ .no) (hs : ¬ Sealed (h.get p)) (s : SetW w w' b x) : Post rt ι h w ι (h.set p .no) w' := by
  have hg : ∀ q, (h.set p .no).get q = if q = p then .no else h.get q := fun q => H.get_set _ _ _ _
  have ne : ∀ q, (h.set p .no).get q ≠ .no → q ≠ p ∧ h.get q ≠ .no := fun q hq => by
    rw [hg] at hq
    by_cases e : q = p
    · rw [if_pos e] at hq; exact absurd rfl hq
    · rw [if_neg e] at hq; exact ⟨e, hq⟩
  refine ⟨.refl _, fun _ _ _ e => .inl e, fun q y hq hd => ?_, ⟨fun q q' c y y' hq hq' hlq hlq' => m.inj q q' c y y' hq hq' (ne q hlq).2 (ne q' hlq').2, fun q c y h1 hlq => ?_, m.low, fun q c y hq => by rw [s.size]; exact m.old q c y hq, fun q hle => ?_⟩,
    ⟨s.os, s.tape, s.output, by rw [s.size]; exact Nat.le_refl _, fun c y hc hcs => ?_⟩, fun q hq => ?_, Nat.le_refl _, fun q hq _ => ?_⟩
  · rw [hg]
    by_cases e : q = p
    · rw [if_pos e]
    · rw [if_neg e]; exact hd
  · obtain ⟨e1, e2⟩ := ne q hlq
    obtain ⟨o, h2, h3⟩ := m.obj q c y h1 e2
    have hcb : c ≠ b := fun e => e1 (m.inj q p b y z (by rw [← e]; exact h1) hp e2 hl)
    exact ⟨o, by rw [s.other c hcb]; exact h2, by rw [hg, if_neg e1]; exact h3⟩
  · rw [hg]
    by_cases e : q = p
    · rw [if_pos e]
    · rw [if_neg e]; exact m.free q hle
  · by_cases e : c = b
    · subst e; exact absurd (hcs p z hp hl) hs
    · rw [s.other c e]; exact hc
  · rw [hg, if_neg]
    intro e; subst e; exact hs hq
  · have hne : q ≠ p := fun e => by subst e; rw [hp] at hq; cases hq
    exact ⟨hq, by rw [hg, if_neg hne]⟩
theorem leave_ok (C : CallOk P rt call) {fn : Func} {tmps : Array Value} {R : Ending → World → Prop} {fin : H → Ans} {kp : KV} :
    ∀ {D : List Deferred} {ds : AV} {m : Option AV} {u : FrameMode} {ι : Inj} {h : H} {w : World}, DefR ι ds D → ModeR ι m u → MR rt ι h w → Glob ι →
      (∀ ι' h' w', Post rt ι h w ι' h' w' → fin h' = .good → ∃ v, (results fn tmps).run P w' = .ok v w' ∧ R (.returned v) w') →
      (∀ ι' h' w' v x, Post rt ι h w ι' h' w' → VR ι' v x → kp v h' = .good → R (.panicked [{ v := x, recovered := false }]) w') →
      leaveK call fin kp ds m h = .good → LeavesInM Fence.wide 0 P fn tmps R D u w := by
  intro D
  induction D with
  | nil =>
    intro ds m u ι h w hd hm M G hf hp hk
    cases hd
    cases hm with
    | ret =>
      obtain ⟨v, h1, h2⟩ := hf ι h w (Post.refl M) hk
      exact ⟨v, h1, h2⟩
    | pan hv => exact hp ι h w _ _ (Post.refl M) hv hk
  | cons d D ih =>
    intro ds m u ι h w hd hm M G hf hp hk
    obtain ⟨hset, hrun⟩ := settle_mode hm
    cases hd with
    | mark hpp hd =>
      rename_i p b z ds
      have hk : HgetK h p (fun b => AOdefdK b (HsetK h p AO.no fun h => leaveK call fin kp ds m h)) = .good := by cases m <;> exact hk
      rw [HgetK_eq] at hk
      obtain ⟨hg, hk⟩ := AOdefdK_good hk
      rw [HsetK_eq] at hk
      obtain ⟨b', z', o, e1, e2, e3⟩ := M.obj' hpp (by rw [hg]; intro e; cases e)
      rw [hpp] at e1; cases e1
      rw [hg] at e3
      cases e3
      have hkill : Post rt ι h w ι (h.set p .no) { w with heap := w.heap.setIfInBounds b (.deferred none) } := by
        have hlt : b < w.heap.size := (Array.getElem?_eq_some_iff.1 e2).1
        refine Post.gone M hpp (by rw [hg]; intro e; cases e) (by rw [hg]; rintro ⟨_, _, _, _, e⟩; cases e) (x := .deferred none) ⟨rfl, rfl, rfl, by simp, by simp [hlt], fun c hc => by simp [Ne.symm hc]⟩
      refine ⟨hrun, .inl ⟨b, _, rfl, takeDeferred_run e2, ?_⟩⟩
      exact ih hd hm hkill.mr G (fun ι' h' w' p hk => hf ι' h' w' (hkill.trans p) hk) (fun ι' h' w' v x p hv hk => hp ι' h' w' v x (hkill.trans p) hv hk) hk
    | call hfv ha hd =>
      rename_i f args ds fn' fs cs xs
      have hk : (∀ v, m = some v → ∃ t x, v = .ifc t x) ∧ callDefK call f args (rvOf m) h (fun r h => match r with | .nil => leaveK call fin kp ds none h | _ => leaveK call fin kp ds m h) (fun _ _ => .bad) = .good := by
        cases m with
        | none => exact ⟨fun v e => (by cases e), hk⟩
        | some v =>
          have hk : ifaceK v (callDefK call f args v h (fun r h => match r with | .nil => leaveK call fin kp ds none h | _ => leaveK call fin kp ds (some v) h) (fun _ _ => .bad)) = .good := hk
          obtain ⟨hi, hk⟩ := ifaceK_good hk
          exact ⟨fun v' e => (by cases e; exact hi), hk⟩
      obtain ⟨hif, hk⟩ := hk
      obtain ⟨g, cap, rfl, rfl, hk⟩ := callDefK_good hk
      cases hfv with | fn hgf hfs hcs =>
      rename_i fi
      subst hgf
      cases ha
      have hfs0 : fs = #[] := by
        obtain ⟨l⟩ := fs
        simp only at hfs
        cases hfs; rfl
      subst hfs0
      obtain ⟨c1, c2⟩ := C.dfd M G hcs hm hif hk
      refine ⟨hrun, .inr ⟨fun hc => (by cases hc), .func g.val, cs, g.val, cs, rfl, ?_, fun _ _ => trivial, ?_⟩⟩
      · have : (#[] ++ [].toArray ++ cs : Array Value) = cs.toList.toArray := by simp
        show (callFunc g.val (#[] ++ [].toArray ++ cs)).run P w = _
        rw [this]
        have e2 : cs.toList.toArray = cs := by simp
        rw [e2] at c1 ⊢
        exact c1
      · have e2 : cs.toList.toArray = cs := by simp
        rw [e2] at c2
        refine c2.mono fun en u' w' hq => ?_
        cases en with
        | panicked chain => exact hq.elim
        | outgrown => exact hq.elim
        | returned v =>
          obtain ⟨ι', h', r, p, hk, hr⟩ := hq
          rcases hr with ⟨rfl, hs⟩ | ⟨hne, rfl⟩
          · show LeavesInM Fence.wide 0 P fn tmps R D (settle u') w'
            rw [hs]
            exact ih (hd.ext p.ext) .ret p.mr (G.ext p.ext) (fun ι'' h'' w'' p' hk => hf _ _ _ (p.trans p') hk) (fun ι'' h'' w'' v x p' hv hk => hp _ _ _ _ _ (p.trans p') hv hk) hk
          · show LeavesInM Fence.wide 0 P fn tmps R D (settle u') w'
            rw [hset]
            have hk : leaveK call fin kp ds m h' = .good := by
              cases r <;> first | exact hk | exact absurd rfl hne
            exact ih (hd.ext p.ext) (hm.ext p.ext) p.mr (G.ext p.ext) (fun ι'' h'' w'' p' hk => hf _ _ _ (p.trans p') hk) (fun ι'' h'' w'' v x p' hv hk => hp _ _ _ _ _ (p.trans p') hv hk) hk
theorem defers_nil (s : St rt ι0 h0 w0 nt false ι e h a w) : a.defers = [] := s.dno rfl

theorem retK_ok (C : CallOk P rt call) {fn : Func} {kr kp : KV} (s : St rt ι0 h0 w0 nt dfr ι e h a w) (hk : retK P nt dfr fn.results.toList call kr kp e h = .good) :
    LeavesInM Fence.wide 0 P fn a.tmps (EndP rt ι0 h0 w0 kr kp) a.defers .returning w := by
  have fin : ∀ ι' h' w', Post rt ι h w ι' h' w' → finK P nt fn.results.toList kr e h' = .good → ∃ v, (results fn a.tmps).run P w' = .ok v w' ∧ EndP rt ι0 h0 w0 kr kp (.returned v) w' := fun ι' h' w' p hk => by
    have s' := s.move p
    obtain ⟨v, u, h1, h2, h3⟩ := finK_good s' hk
    exact ⟨u, h1, ι', h', v, s'.post, h2, h3⟩
  cases dfr with
  | false =>
    rw [s.dno rfl]
    obtain ⟨v, h1, h2⟩ := fin ι h w (Post.refl s.mr) hk
    exact ⟨v, h1, h2⟩
  | true =>
    have hk : (match e.get nt with | some ds => leaveK call (fun h => finK P nt fn.results.toList kr e h) kp ds none h | none => .bad) = .good := hk
    cases hds : e.get nt with
    | none => rw [hds] at hk; cases hk
    | some ds =>
      rw [hds] at hk
      exact leave_ok C (s.dyes rfl ds hds) .ret s.mr s.glob fin (fun ι' h' w' v x p hv hk => ⟨ι', h', v, x, rfl, s.post.trans p, hv, hk⟩) hk

theorem kpE_ok (C : CallOk P rt call) {fn : Func} {kr kp : KV} {ι' : Inj} {h' : H} {w' : World} {v : AV} {u : Value} (s : St rt ι0 h0 w0 nt dfr ι e h a w) (p : Post rt ι h w ι' h' w') (hv : VR ι' v u)
    (hk : kpE P nt dfr fn.results.toList call kr kp e v h' = .good) :
    LeavesInM Fence.wide 0 P fn a.tmps (EndP rt ι0 h0 w0 kr kp) a.defers (.panicking [{ v := u, recovered := false }]) w' := by
  have s1 := s.move p
  cases dfr with
  | false =>
    rw [s.dno rfl]
    exact ⟨ι', h', v, u, rfl, s1.post, hv, hk⟩
  | true =>
    have hk : (match e.get nt with | some ds => fun v h => leaveK call (fun h => finK P nt fn.results.toList kr e h) kp ds (some v) h | none => fun _ _ => .bad) v h' = .good := hk
    cases hds : e.get nt with
    | none => rw [hds] at hk; cases hk
    | some ds =>
      rw [hds] at hk
      refine leave_ok C (s1.dyes rfl ds hds) (.pan hv) s1.mr s1.glob (fun ι'' h'' w'' p' hk => ?_) (fun ι'' h'' w'' v x p' hv hk => ⟨ι'', h'', v, x, rfl, s1.post.trans p', hv, hk⟩) hk
      have s' := s1.move p'
      obtain ⟨v, u, h1, h2, h3⟩ := finK_good s' hk
      exact ⟨u, h1, ι'', h'', v, s'.post, h2, h3⟩
theorem Env.get_append {l r : Env} {t : Nat} : Env.get (l ++ r) t = (match l.get t with | some v => some v | none => r.get t) := by
  induction l with
  | nil => rfl
  | cons p l ih =>
    obtain ⟨d, v⟩ := p
    rw [List.cons_append, Env.get_cons, Env.get_cons]
    by_cases e : d = t
    · rw [if_pos e, if_pos e]
    · rw [if_neg e, if_neg e, ih]
theorem VRs.getA {vs : List AV} {us : List Value} (h : VRs ι vs us) : ∀ {i : Nat} {v : AV}, vs[i]? = some v → ∃ u, us[i]? = some u ∧ VR ι v u := by
  induction h with
  | nil => intro i v h; simp at h
  | cons h _ ih =>
    intro i v hi
    cases i with
    | zero => simp at hi; subst hi; exact ⟨_, rfl, h⟩
    | succ i => simp at hi; simpa using ih hi

theorem entry_St {fn : Func} {as cs : List AV} {xs ys : List Value} (M : MR rt ι h w) (G : Glob ι) (ha : VRs ι as xs) (hc : VRs ι cs ys) (hn : as.length + cs.length ≤ fn.ntmps) :
    St rt ι h w fn.ntmps dfr ι ((List.range (as.length + cs.length)).zip (as ++ cs) ++ match dfr with | true => [(fn.ntmps, AV.nil)] | false => []) h
      { tmps := (xs ++ ys).toArray ++ Array.replicate (fn.ntmps - (xs ++ ys).toArray.size) undef, defers := [] } w := by
  have hl : (xs ++ ys).length = as.length + cs.length := by rw [List.length_append, ← ha.len, ← hc.len]
  have hx : ∀ t : Nat, fn.ntmps ≠ t → Env.get (match dfr with | true => [(fn.ntmps, AV.nil)] | false => []) t = none := fun t ht => by
    cases dfr
    · rfl
    · show Env.get [(fn.ntmps, AV.nil)] t = none
      rw [Env.get_cons, if_neg ht]; rfl
  refine ⟨fun t v ht hv => ?_, ?_, Post.refl M, G, fun _ => rfl, fun hd ds hds => ?_⟩
  · rw [Env.get_append] at hv
    cases hz : Env.get ((List.range (as.length + cs.length)).zip (as ++ cs)) t with
    | none => rw [hz] at hv; rw [hx t (fun e => by omega)] at hv; cases hv
    | some v' =>
      rw [hz] at hv
      cases hv
      obtain ⟨i, h1, h2⟩ := Env.get_zip hz
      have hi : i = t := by
        rw [List.getElem?_eq_some_iff] at h1
        obtain ⟨_, h1⟩ := h1
        simpa using h1
      subst hi
      obtain ⟨u, h3, h4⟩ := (ha.append hc).getA h2
      refine ⟨u, ?_, h4⟩
      show ((xs ++ ys).toArray ++ _)[i]? = _
      have hlt : i < (xs ++ ys).length := (List.getElem?_eq_some_iff.1 h3).1
      rw [Array.getElem?_append_left (by simpa using hlt)]
      simpa using h3
  · show fn.ntmps ≤ ((xs ++ ys).toArray ++ Array.replicate _ undef).size
    rw [Array.size_append, Array.size_replicate]
    omega
  · rw [hd] at hds
    rw [Env.get_append] at hds
    cases hz : Env.get ((List.range (as.length + cs.length)).zip (as ++ cs)) fn.ntmps with
    | some v' =>
      exfalso
      obtain ⟨i, h1, h2⟩ := Env.get_zip hz
      have hi : i = fn.ntmps := by
        rw [List.getElem?_eq_some_iff] at h1
        obtain ⟨_, h1⟩ := h1
        simpa using h1
      have := (List.getElem?_eq_some_iff.1 h1).1
      rw [List.length_range] at this
      omega
    | none =>
      rw [hz] at hds
      have hds : Env.get [(fn.ntmps, AV.nil)] fn.ntmps = some ds := hds
      rw [Env.get_cons, if_pos rfl] at hds
      cases hds
      exact .nil
end Go.Ev

namespace Go.Ev
open Go
set_option linter.unusedSectionVars false
variable [Sym]
set_option linter.unusedVariables false
set_option linter.unusedSimpArgs false
variable {P : Program} {rt : Nat → Option RT} {call : C3} {ι : Inj} {h : H} {w : World}
variable {ι0 : Inj} {h0 : H} {w0 : World} {nt : Nat} {dfr : Bool} {e : Env} {a : Act} {F : Fence} {kpe : Env → KV}

theorem rvK_num {n m : Nat} {k : Ans} (h : rvK n (.num m) k = .good) : m = n ∧ k = .good := by
  have h : wK (Nat.beq m n) k = .good := h
  exact ⟨beq_true (wK_good h).1, (wK_good h).2⟩
theorem rvK_mode {n : Nat} {m : Option AV} {u : FrameMode} {k : Ans} (hm : ModeR ι m u) (hi : ∀ v, m = some v → ∃ t x, v = .ifc t x) (h : rvK n (rvOf m) k = .good) : n = 0 ∧ k = .good ∧ ((∃ t v, rvOf m = .ifc t v) ∨ rvOf m = .nl .inil) := by
  cases hm with
  | ret =>
    have h : wK (Nat.beq n 0) k = .good := h
    exact ⟨beq_true (wK_good h).1, (wK_good h).2, .inr rfl⟩
  | pan hv =>
    obtain ⟨t, x, rfl⟩ := hi _ rfl
    have h : wK (Nat.beq n 0) k = .good := h
    exact ⟨beq_true (wK_good h).1, (wK_good h).2, .inl ⟨_, _, rfl⟩⟩
noncomputable def entryE (nt : Nat) (vs : List AV) (n : Nat) (dfr : Bool) : Env := (List.range n).zip vs ++ match dfr with | true => [(nt, AV.nil)] | false => []
noncomputable def bodyK (P : Program) (rg : Option Nat) (fn : Func) (body : Code) (call : C3) (dfr : Bool) (e : Env) (h : H) (kr kp : KV) : Ans :=
  evC P fn.ntmps dfr call (fun e => kpE P fn.ntmps dfr fn.results.toList call kr kp e) (liveR fn.results.toList ||| match dfr with | true => 2 ^ fn.ntmps | false => 0)
    (fun e h => retK P fn.ntmps dfr fn.results.toList call kr kp e h) (fun _ _ => .bad) rg body [] (liveR fn.results.toList ||| match dfr with | true => 2 ^ fn.ntmps | false => 0)
    e h fun e h => retK P fn.ntmps dfr fn.results.toList call kr kp e h

theorem bodyK_ok (C : CallOk P rt call) (D : DrawOk P rt call) {rg : Option Nat} {fn : Func} {body : Code} {kr kp : KV} {Q : Exit → Act → World → Prop} (hrg : RgOk rt fn.ntmps rg body) (s : St rt ι0 h0 w0 fn.ntmps dfr ι e h a w)
    (hk : bodyK P rg fn body call dfr e h kr kp = .good)
    (hr : ∀ a w, LeavesInM Fence.wide 0 P fn a.tmps (EndP rt ι0 h0 w0 kr kp) a.defers .returning w → (dfr = false → a.defers = []) → Q .normal a w ∧ Q .ret a w)
    (hp : ∀ a w c, LeavesInM Fence.wide 0 P fn a.tmps (EndP rt ι0 h0 w0 kr kp) a.defers (.panicking c) w → (dfr = false → a.defers = []) → Q (.panic c) a w) : body.wpIn Fence.wide 0 P Q a w := by
  refine evC_ok C D (.inl rfl) (fun hc => absurd rfl hc) (fun _ => rfl) hrg ⟨fun ι e h a w s hk => ?_, fun id ι e h a w s hk => (by cases hk), fun ι e h a w s hk => ?_, fun ι e h a w ι' h' w' v u s p hv hk => ?_⟩ s hk
  · exact (hr a w (retK_ok C s hk) s.dno).1
  · exact (hr a w (retK_ok C s hk) s.dno).2
  · exact hp a w' _ (kpE_ok C s p hv hk) s.dno

theorem body_ok (C : CallOk P rt call) (D : DrawOk P rt call) {rg : Option Nat} {i : Nat} {fn : Func} {body : Code} {as : List AV} {xs ys : List Value} {cap : AV} {kr kp : KV} (hf : P.funcs[i]? = some fn) (hb : fn.body = some body) (hrg : RgOk rt fn.ntmps rg body)
    (M : MR rt ι h w) (G : Glob ι) (ha : VRs ι as xs) (hc : VRL ι cap ys) (hk : runBody P rg fn body call (packE as) cap (.num as.length) h kr kp = .good) :
    CallsIn Fence.wide 0 P i (xs ++ ys).toArray w (EndP rt ι h w kr kp) := by
  unfold runBody at hk
  cases hn : Nat.ble (fn.params.size + fn.nfree) fn.ntmps with
  | false => rw [hn] at hk; cases hk
  | true =>
    rw [hn] at hk
    have hn := ble_true hn
    obtain ⟨hl, hk⟩ := rvK_num hk
    have hk := unpack_good hl hk
    obtain ⟨cs, hcs, hcl, hk⟩ := unLX_good hc hk
    have hcl' : cs.length = fn.nfree := by rw [hcs.len, hcl]
    rw [← hl, ← hcl'] at hk hn
    cases hrec : hasRec body with
    | true =>
      rw [hrec] at hk
      dsimp only at hk
      split at hk
      · cases hk
      · cases hk
    | false =>
      rw [hrec] at hk
      have hk : (match dfrC body with | false => bodyK P rg fn body call (dfrC body) (entryE fn.ntmps (as ++ cs) (as.length + cs.length) (dfrC body)) h kr kp | true => asNum (.num as.length) fun _ => bodyK P rg fn body call (dfrC body) (entryE fn.ntmps (as ++ cs) (as.length + cs.length) (dfrC body)) h kr kp) = .good := hk
      have hk : bodyK P rg fn body call (dfrC body) (entryE fn.ntmps (as ++ cs) (as.length + cs.length) (dfrC body)) h kr kp = .good := by
        cases hd : dfrC body <;> rw [hd] at hk <;> exact hk
      refine callsIn_of_wp_marks hf hb trivial (bodyK_ok C D hrg (entry_St M G ha hcs hn) hk (fun a w hl _ => ⟨hl, hl⟩) (fun a w c hl _ => hl))

theorem rgOk_none : ∀ (c : Code), RgOk rt nt none c
  | .skip | .region .. | .exit _ | .label _ | .goto _ | .ret | .refuse _ => trivial
  | .seq a b | .cond _ a b => ⟨rgOk_none a, rgOk_none b⟩
  | .block _ c | .loop c | .scope c => rgOk_none c
  | .rangeFunc _ _ _ _ => fun g h => by cases h
inductive RcR (ι : Inj) : AV → FrameMode → List Oper → Prop where
  | fresh {m : Option AV} {u : FrameMode} {os : List Oper} (h : ModeR ι m u) (ho : ∃ o ∈ os, isRecover o.op = true) : RcR ι (rvOf m) u os
  | done {u : FrameMode} {os : List Oper} (h : settle u = .returning) (hn : ∀ (c : Frame) (cs : List Frame), c.mode = u → recoverD (c :: cs) = none) : RcR ι (.nl .inil) u os
theorem RcR.ext {ι ι' : Inj} (e : Ext ι ι') {rc : AV} {u : FrameMode} {os : List Oper} (h : RcR ι rc u os) : RcR ι' rc u os := by
  cases h with
  | fresh h ho => exact .fresh (h.ext e) ho
  | done h hn => exact .done h hn

theorem isRecover_run {o : Oper} (h : isRecover o.op = true) (ρ : Operand → Value) (w : World) : (execOp ρ o).run P w = .ok .recover w := by
  obtain ⟨dst, op, ty, pos, af, g⟩ := o
  cases op <;> first | (cases h; done) | skip
  rename_i c
  obtain ⟨callee, args, ts⟩ := c
  cases callee <;> first | (cases h; done) | skip
  rename_i b
  cases b <;> first | (cases h; done) | rfl

theorem recOps_ok (C : CallOk P rt call) {ops : Array Oper} {c0 : Frame} {cs : List Frame} {Q : Exit → Act → List Frame → World → Prop} {k : Kont} (hall : ∀ o ∈ ops.toList, (match isRecover o.op with | true => o.guard.isNone | false => (dArgs o.op).isSome) = true)
    (hN : ∀ ι e h a w u', St rt ι0 h0 w0 nt false ι e h a w → settle u' = .returning → k e h = .good → Q .normal a ({ c0 with mode := u' } :: cs) w) :
    ∀ {os : List Oper} {i : Nat} {rc : AV} {u' : FrameMode} {ι : Inj} {e : Env} {h : H} {a : Act} {w : World}, ops.toList.drop i = os → RcR ι rc u' os → St rt ι0 h0 w0 nt false ι e h a w →
      evOps P nt false call (fun _ _ _ => .bad) (some rc) ops os e h k = .good → wpOpsSIn Fence.wide 0 P ops Q (List.range' i os.length) a ({ c0 with mode := u' } :: cs) w
  | [], i, rc, u', ι, e, h, a, w, hos, hr, s, hk => by
    refine hN _ _ _ _ _ _ s ?_ hk
    cases hr with
    | fresh _ ho => obtain ⟨o, ho, _⟩ := ho; cases ho
    | done h _ => exact h
  | o :: os, i, rc, u', ι, e, h, a, w, hos, hr, s, hk0 => by
    obtain ⟨ho, hos'⟩ := drop_cons hos
    rw [Array.getElem?_toList] at ho
    have hmem : o ∈ ops.toList := by
      rw [← Array.getElem?_toList] at ho
      exact List.mem_of_getElem? ho
    rw [List.length_cons, List.range'_succ]
    unfold wpOpsSIn
    rw [ho]
    refine ⟨fun f _ => trivial, ?_⟩
    have hk : (match dstOk nt o.dst with
      | false => Ans.bad
      | true =>
        match guardOf nt ops o e with
        | .no =>
          match isRecover o.op with
          | true => evOps P nt false call (fun _ _ _ => .bad) (some (.nl .inil)) ops os (e.set o.dst rc) h k
          | false => coreOp P nt false call (fun _ _ _ => .bad) o.op e h (fun v h => evOps P nt false call (fun _ _ _ => .bad) (some rc) ops os (e.set o.dst v) h k) (fun e => evOps P nt false call (fun _ _ _ => .bad) (some rc) ops os (e.set o.dst .undef) h k)
        | .is v want => gK v want (coreOp P nt false call (fun _ _ _ => .bad) o.op e h (fun v h => evOps P nt false call (fun _ _ _ => .bad) (some rc) ops os (e.set o.dst v) h k) fun _ => .bad) (evOps P nt false call (fun _ _ _ => .bad) (some rc) ops os (e.set o.dst .undef) h k)
        | .bad => Ans.bad) = .good := hk0
    clear hk0
    cases hd : dstOk nt o.dst with
    | false => rw [hd] at hk; cases hk
    | true =>
      rw [hd] at hk
      dsimp only at hk
      -- an operation that is no recover
      have std : isRecover o.op = false → ∀ {kd : Env → Ans}, coreOp P nt false call (fun _ _ _ => .bad) o.op e h (fun v h => evOps P nt false call (fun _ _ _ => .bad) (some rc) ops os (e.set o.dst v) h k) kd = .good →
          (match (execOp a.eval o).run P w with
            | .ok .recover w' =>
              match recoverD ({ c0 with mode := u' } :: cs) with
              | some (v, cs') => wpOpsSIn Fence.wide 0 P ops Q (List.range' (i + 1) os.length) (a.put o.dst v) cs' w'
              | none => wpOpsSIn Fence.wide 0 P ops Q (List.range' (i + 1) os.length) (a.put o.dst .nilIface) ({ c0 with mode := u' } :: cs) w'
            | .ok (.value v) w' => wpOpsSIn Fence.wide 0 P ops Q (List.range' (i + 1) os.length) (a.put o.dst v) ({ c0 with mode := u' } :: cs) w'
            | .ok .skip w' => wpOpsSIn Fence.wide 0 P ops Q (List.range' (i + 1) os.length) (a.put o.dst undef) ({ c0 with mode := u' } :: cs) w'
            | .halt (.panic v) w' => Q (.panic [{ v, recovered := false }]) a ({ c0 with mode := u' } :: cs) w'
            | _ => False) := fun hnr kd hkc => by
        have hx : (dArgs o.op).isSome = true := by have := hall o hmem; rw [hnr] at this; exact this
        have hr' : RcR ι rc u' os := by
          cases hr with
          | fresh h ho =>
            refine .fresh h ?_
            obtain ⟨o', h1, h2⟩ := ho
            rcases List.mem_cons.1 h1 with rfl | h1
            · rw [hnr] at h2; cases h2
            · exact ⟨o', h1, h2⟩
          | done h hn => exact .done h hn
        obtain ⟨ι', h', w', v, u, hrun, p, hv, hk'⟩ := core_run (o := o) (k := fun v h => evOps P nt false call (fun _ _ _ => .bad) (some rc) ops os (e.set o.dst v) h k) s (by
          obtain ⟨dst, op, ty, pos, af, g⟩ := o
          cases op
          case call c =>
            obtain ⟨callee, args, ts⟩ := c
            cases callee <;> first | exact hkc | (cases hx; done)
          case panic x => cases hx
          case defer c => cases hx
          all_goals exact hkc)
        have next := recOps_ok C hall hN hos' (hr'.ext p.ext) ((s.move p).put hd hv) hk'
        rcases hrun with hrun | ⟨hrun, rfl⟩
        · rw [hrun]; exact next
        · rw [hrun]; exact next
      have hgd := guard_good s ops o
      cases hg : guardOf nt ops o e with
      | bad => rw [hg] at hk; cases hk
      | no =>
        rw [hg] at hk hgd
        cases hgd with | no hgn =>
        rw [if_pos (wanted_no hgn)]
        dsimp only at hk
        cases hir : isRecover o.op with
        | false => rw [hir] at hk; exact std hir hk
        | true =>
          rw [hir] at hk
          dsimp only at hk
          rw [isRecover_run hir]
          dsimp only
          cases hr with
          | done hs hn =>
            rw [hn _ cs rfl]
            exact recOps_ok C hall hN hos' (.done hs hn) (s.put hd .inil) hk
          | fresh hm _ =>
            cases hm with
            | ret =>
              have e1 : recoverD ({ c0 with mode := .returning } :: cs) = none := rfl
              rw [e1]
              refine recOps_ok C hall hN hos' (.done rfl fun c cs hc => ?_) (s.put hd .inil) hk
              simp only [recoverD, hc]
            | @pan v u hv =>
              have e1 : recoverD ({ c0 with mode := .panicking [{ v := u, recovered := false }] } :: cs) = some (u, { c0 with mode := .panicking [{ v := u, recovered := true }] } :: cs) := rfl
              rw [e1]
              refine recOps_ok C hall hN hos' (.done rfl fun c cs hc => ?_) (s.put hd hv) hk
              simp only [recoverD, hc]
      | is v want =>
        rw [hg] at hk hgd
        dsimp only at hk
        cases hgd with | is hq =>
        rcases hq _ _ hk with ⟨q1, hk⟩ | ⟨q1, hk⟩
        · rw [if_pos q1]
          cases hir : isRecover o.op with
          | false => exact std hir hk
          | true =>
            exfalso
            have := hall o hmem
            rw [hir] at this
            have hgn : guardOf nt ops o e = .no := by
              unfold guardOf
              cases hog : o.guard with
              | none => rfl
              | some p => rw [hog] at this; cases this
            rw [hg] at hgn; cases hgn
        · rw [if_neg (by rw [q1]; simp)]
          have hnr : isRecover o.op = false := by
            cases hir : isRecover o.op with
            | false => rfl
            | true =>
              have := hall o hmem
              rw [hir] at this
              have hgn : guardOf nt ops o e = .no := by
                unfold guardOf
                cases hog : o.guard with
                | none => rfl
                | some p => rw [hog] at this; cases this
              rw [hg] at hgn; cases hgn
          have hr' : RcR ι rc u' os := by
            cases hr with
            | fresh h ho =>
              refine .fresh h ?_
              obtain ⟨o', h1, h2⟩ := ho
              rcases List.mem_cons.1 h1 with rfl | h1
              · rw [hnr] at h2; cases h2
              · exact ⟨o', h1, h2⟩
            | done h hn => exact .done h hn
          exact recOps_ok C hall hN hos' hr' (s.put hd (undef_VR _)) hk

theorem recParts_some {body c : Code} {ops : Array Oper} (h : recParts body = some (ops, c)) :
    ∃ id, body = .seq (.region id ops false) c ∧ (∀ o ∈ ops.toList, (match isRecover o.op with | true => o.guard.isNone | false => (dArgs o.op).isSome) = true) ∧ hasRec c = false := by
  unfold recParts at h
  split at h
  · split at h
    · cases h
    · rename_i hcc
      cases h
      rw [Bool.or_eq_false_iff] at hcc
      refine ⟨_, rfl, fun o ho => ?_, hcc.1⟩
      have := hcc.2
      rw [Bool.not_eq_false'] at this
      exact List.all_eq_true.1 this o ho
  · cases h

theorem body_dfd (C : CallOk P rt call) (D : DrawOk P rt call) {rg : Option Nat} {i : Nat} {fn : Func} {body : Code} {ys : List Value} {cap : AV} {kr : KV} {m : Option AV} {u : FrameMode} (hf : P.funcs[i]? = some fn) (hb : fn.body = some body) (hrg : RgOk rt fn.ntmps rg body)
    (M : MR rt ι h w) (G : Glob ι) (hc : VRL ι cap ys) (hm : ModeR ι m u) (hi : ∀ v, m = some v → ∃ t x, v = .ifc t x) (hk : runBody P rg fn body call E0 cap (rvOf m) h kr (fun _ _ => .bad) = .good) :
    CallsDIn Fence.wide 0 P i ys.toArray u w (EndD rt ι h w u kr) := by
  unfold runBody at hk
  cases hn : Nat.ble (fn.params.size + fn.nfree) fn.ntmps with
  | false => rw [hn] at hk; cases hk
  | true =>
    rw [hn] at hk
    have hn := ble_true hn
    obtain ⟨hl, hk, hrv⟩ := rvK_mode hm hi hk
    rw [hl] at hk hn
    have hk := unpack_good (vs := []) rfl hk
    obtain ⟨cs, hcs, hcl, hk⟩ := unLX_good hc hk
    have hcl' : cs.length = fn.nfree := by rw [hcs.len, hcl]
    rw [← hcl'] at hk hn
    cases hrec : hasRec body with
    | false =>
      rw [hrec] at hk
      have hk : (match dfrC body with | false => bodyK P rg fn body call (dfrC body) (entryE fn.ntmps ([] ++ cs) (0 + cs.length) (dfrC body)) h kr (fun _ _ => .bad) | true => asNum (rvOf m) fun _ => bodyK P rg fn body call (dfrC body) (entryE fn.ntmps ([] ++ cs) (0 + cs.length) (dfrC body)) h kr (fun _ _ => .bad)) = .good := hk
      cases hd : dfrC body with
      | true =>
        rw [hd] at hk
        exfalso
        rcases hrv with ⟨t, v, hv⟩ | hv <;> (rw [hv] at hk; cases hk)
      | false =>
        rw [hd] at hk
        have s0 := entry_St (dfr := false) M G (.nil : VRs ι [] []) hcs hn
        refine (callsDIn_of_wp (R := EndP rt ι h w kr (fun _ _ => .bad)) hf hb trivial (bodyK_ok C D hrg s0 hk (fun a w hl hd => ?_) (fun a w c hl hd => ?_))).mono fun en u' w' hq => ?_
        · rw [hd rfl] at hl
          obtain ⟨v, h1, h2⟩ := hl
          exact ⟨⟨hd rfl, v, h1, h2⟩, ⟨hd rfl, v, h1, h2⟩⟩
        · rw [hd rfl] at hl
          exact ⟨hd rfl, hl⟩
        · obtain ⟨rfl, hq⟩ := hq
          cases en with
          | returned v => obtain ⟨ι', h', r, p, hv, hk⟩ := hq; exact ⟨ι', h', r, p, hk, .inr ⟨VR_ne_nil hv, rfl⟩⟩
          | panicked c => obtain ⟨ι', h', r, x, _, p, hv, hk⟩ := hq; cases hk
          | outgrown => exact hq.elim
    | true =>
      rw [hrec] at hk
      cases hrp : recParts body with
      | none => simp only [hrp] at hk; cases hk
      | some oc =>
        obtain ⟨ops, c⟩ := oc
        cases hdf : dfrC body with
        | true => simp only [hrp, hdf] at hk; cases hk
        | false =>
          cases hres : fn.results.toList with
          | cons _ _ => simp only [hrp, hdf, hres] at hk; cases hk
          | nil =>
            simp only [hrp, hdf, hres] at hk
            have hk : isIface (rvOf m) (evOps P fn.ntmps false call (fun _ _ _ => .bad) (some (rvOf m)) ops ops.toList ((List.range (0 + cs.length)).zip ([] ++ cs)) h fun e h =>
              evC P fn.ntmps false call (fun _ _ _ => .bad) 0 (fun _ h => kr .nil h) (fun _ _ => .bad) none c [] 0 e h fun _ h => kr .nil h) = .good := hk
            have hk9 : (evOps P fn.ntmps false call (fun _ _ _ => .bad) (some (rvOf m)) ops ops.toList ((List.range (0 + cs.length)).zip ([] ++ cs)) h fun e h =>
              evC P fn.ntmps false call (fun _ _ _ => .bad) 0 (fun _ h => kr .nil h) (fun _ _ => .bad) none c [] 0 e h fun _ h => kr .nil h) = .good := by
              rcases hrv with ⟨t, v, hv⟩ | hv <;> (rw [hv] at hk ⊢; exact hk)
            obtain ⟨id, hbody, hall, hcr⟩ := recParts_some hrp
            subst hbody
            have hex : ∃ o ∈ ops.toList, isRecover o.op = true := by
              have : (ops.toList.any fun o => isRecover o.op) = true := by
                have h1 : ((ops.toList.any fun o => isRecover o.op) || hasRec c) = true := hrec
                rw [hcr, Bool.or_false] at h1; exact h1
              exact List.any_eq_true.1 this
            have s0 := entry_St (dfr := false) M G (.nil : VRs ι [] []) hcs hn
            have s0 : St rt ι h w fn.ntmps false ι ((List.range (0 + cs.length)).zip ([] ++ cs)) h { tmps := ([] ++ ys).toArray ++ Array.replicate (fn.ntmps - ([] ++ ys).toArray.size) undef, defers := [] } w := s0.sub fun t v hv => by
              show Env.get ((List.range (0 + cs.length)).zip ([] ++ cs) ++ []) t = some v
              rw [List.append_nil]; exact hv
            refine callsDIn_of_wpSIn hf hb trivial fun c₀ frs hc0 => ?_
            have hc0' : ({ c₀ with mode := u } : Frame) = c₀ := by subst hc0; rfl
            refine wpSIn_seq (wpSIn_region ?_)
            have := recOps_ok C (ops := ops) (c0 := c₀) (cs := frs) (Q := Exit.thenS (c.wpSIn Fence.wide 0 P (bodyPostS P fn c₀ frs (EndD rt ι h w u kr))) (bodyPostS P fn c₀ frs (EndD rt ι h w u kr))) hall
              (fun ι' e' h' a' w' u' s' hu' hk' => ?_) (os := ops.toList) (i := 0) (by simp) (.fresh hm hex) s0 hk9
            · rw [hc0'] at this
              rw [List.range_eq_range']
              rw [Array.length_toList] at this
              exact this
            · refine wpSIn_of_wpIn rfl ?_
              have fin : ∀ ι'' e'' h'' a'' w'', St rt ι h w fn.ntmps false ι'' e'' h'' a'' w'' → kr .nil h'' = .good → a''.defers = [] ∧ ∃ u'', ({ c₀ with mode := u' } :: frs : List Frame) = { c₀ with mode := u'' } :: frs ∧ ∃ v, (results fn a''.tmps).run P w'' = .ok v w'' ∧ EndD rt ι h w u kr (.returned v) u'' w'' := fun ι'' e'' h'' a'' w'' s'' hk'' =>
                ⟨s''.dno rfl, u', rfl, .tuple #[], results_run (us := []) (by rw [hres]; rfl), ι'', h'', .nil, s''.post, hk'', .inl ⟨rfl, hu'⟩⟩
              refine evC_ok C D (.inl rfl) (fun hc => absurd rfl hc) (fun hc => absurd rfl hc) (rg := none) ?_ ⟨fun ι'' e'' h'' a'' w'' s'' hk'' => fin _ _ _ _ _ s'' hk'', fun id ι e h a w s hk => (by cases hk), fun ι'' e'' h'' a'' w'' s'' hk'' => fin _ _ _ _ _ s'' hk'', fun ι e h a w ι' h' w' v u s p hv hk => (by cases hk)⟩ s' hk'
              exact rgOk_none c
end Go.Ev

namespace Go.Ev
open Go
set_option linter.unusedSectionVars false
variable [Sym]
set_option linter.unusedVariables false
set_option linter.unusedSimpArgs false
variable {P : Program} {rt : Nat → Option RT} {call : C3} {ι : Inj} {h : H} {w : World}
theorem tab1_get (f : Nat → Fun) (i : Nat) (d : D) : (tabOf.tab1 f i).get d = f (i * 16 + d.val) := by cases d <;> rfl
theorem tab2_get (f : Nat → Fun) (i : Nat) (d : D) : (tabOf.tab2 f i).get d = tabOf.tab1 f (i * 16 + d.val) := by cases d <;> rfl
theorem tab3_get (f : Nat → Fun) (d : D) : (tabOf f).get d = tabOf.tab2 f d.val := by cases d <;> rfl
theorem disp_tab (f : Nat → Fun) (g : G3) : disp (tabOf f) g = f g.val := by
  unfold disp
  rw [tab3_get, tab2_get, tab1_get]
  rfl
theorem G3.val_inj {p q : G3} (h : p.val = q.val) : p = q := by
  obtain ⟨a, b, c⟩ := p
  obtain ⟨a', b', c'⟩ := q
  simp only [G3.val] at h
  have h1 := D.val_lt a; have h2 := D.val_lt b; have h3 := D.val_lt c
  have h1' := D.val_lt a'; have h2' := D.val_lt b'; have h3' := D.val_lt c'
  have ea : a = a' := D.val_inj (by omega)
  have eb : b = b' := D.val_inj (by omega)
  have ec : c = c' := D.val_inj (by omega)
  rw [ea, eb, ec]
theorem G3.val_le (g : G3) : g.val ≤ 4095 := by
  obtain ⟨a, b, c⟩ := g
  have h1 := D.val_lt a; have h2 := D.val_lt b; have h3 := D.val_lt c
  simp only [G3.val]; omega
theorem G3.ofNat_self (g : G3) : G3.ofNat g.val = g := G3.val_inj (G3.ofNat_val g.val_le)
theorem compareBytes_less (l : List UInt8) : ∀ r, Lib.compareBytes l r = if Op.bytesLess l r then -1 else if Op.bytesLess r l then 1 else 0 := by
  induction l with
  | nil => intro r; cases r <;> rfl
  | cons a l ih =>
    intro r
    cases r with
    | nil => rfl
    | cons b r =>
      show (if a < b then -1 else if b < a then 1 else Lib.compareBytes l r) = _
      have h1 : Op.bytesLess (a :: l) (b :: r) = (decide (a < b) || (a == b && Op.bytesLess l r)) := rfl
      have h2 : Op.bytesLess (b :: r) (a :: l) = (decide (b < a) || (b == a && Op.bytesLess r l)) := rfl
      rw [h1, h2, ih]
      by_cases e1 : a < b
      · simp [e1]
      · by_cases e2 : b < a
        · have : a ≠ b := fun e => by subst e; exact e1 e2
          simp [e1, e2, this]
        · have : a = b := by
            apply UInt8.le_antisymm
            · exact UInt8.not_lt.1 e2
            · exact UInt8.not_lt.1 e1
          subst this
          simp [e1]

theorem find_noescape {fn : Func} (h1 : fn.name = "internal/abi.NoEscape") (h2 : fn.origin = "") : Extern.findNext fn = none ∧ Extern.find fn = some Extern.AbiNoEscape.same := by
  have e1 : Extern.allNextRows.lookup "internal/abi.NoEscape" = none := by kernel_rfl
  have e2 : Extern.allNextRows.lookup "" = none := by kernel_rfl
  have e3 : Extern.allGenericRows.lookup "internal/abi.NoEscape" = none := by kernel_rfl
  have e4 : Extern.allTypedRows.lookup "internal/abi.NoEscape" = none := by kernel_rfl
  have e5 : Extern.allRows.lookup "internal/abi.NoEscape" = some Extern.AbiNoEscape.same := by kernel_rfl
  constructor
  · simp only [Extern.findNext, h1, h2, e1, e2, Option.map_none]; rfl
  · simp only [Extern.find, h1, h2, e3, e4, e5, Option.map_none]; rfl
theorem find_cmpstring {fn : Func} (h1 : fn.name = "internal/bytealg.abigen_runtime_cmpstring") (h2 : fn.origin = "") : Extern.findNext fn = none ∧ Extern.find fn = some Extern.BytealgCompare.compare := by
  have e1 : Extern.allNextRows.lookup "internal/bytealg.abigen_runtime_cmpstring" = none := by kernel_rfl
  have e2 : Extern.allNextRows.lookup "" = none := by kernel_rfl
  have e3 : Extern.allGenericRows.lookup "internal/bytealg.abigen_runtime_cmpstring" = none := by kernel_rfl
  have e4 : Extern.allTypedRows.lookup "internal/bytealg.abigen_runtime_cmpstring" = none := by kernel_rfl
  have e5 : Extern.allRows.lookup "internal/bytealg.abigen_runtime_cmpstring" = some Extern.BytealgCompare.compare := by kernel_rfl
  constructor
  · simp only [Extern.findNext, h1, h2, e1, e2, Option.map_none]; rfl
  · simp only [Extern.find, h1, h2, e3, e4, e5, Option.map_none]; rfl

theorem len_one {as : List AV} (h : as.length = 1) : ∃ a, as = [a] := by
  match as, h with
  | [a], _ => exact ⟨a, rfl⟩
theorem len_two {as : List AV} (h : as.length = 2) : ∃ a b, as = [a, b] := by
  match as, h with
  | [a, b], _ => exact ⟨a, b, rfl⟩

theorem ext_ok {i : Nat} {fn : Func} {as : List AV} {xs ys : List Value} {cap : AV} {kr kp : KV} (hf : P.funcs[i]? = some fn) (hb : fn.body = none) (ho : fn.origin = "") (M : MR rt ι h w) (ha : VRs ι as xs) (hc : VRL ι cap ys)
    (hk : rvK (extArity fn.name) (.num as.length) (nilK cap (extK fn.name (packE as) h kr)) = .good) : UpOk P false (callFunc i (xs ++ ys).toArray) w (EndP rt ι h w kr kp) := by
  obtain ⟨hl, hk⟩ := rvK_num hk
  obtain ⟨rfl, hk⟩ := nilK_good hk
  cases hc
  rw [List.append_nil]
  unfold extK at hk
  split at hk
  · rename_i hn
    rw [hn] at hl
    obtain ⟨a, rfl⟩ := len_one hl
    obtain ⟨x, rfl, hx⟩ : ∃ x, xs = [x] ∧ VR ι a x := by cases ha with | cons h h' => cases h'; exact ⟨_, rfl, h⟩
    have hk : asPtr a (fun _ _ => kr a h) = .good := hk
    obtain ⟨p, o, rfl, hk⟩ := asPtr_good hk
    obtain ⟨h1, h2⟩ := find_noescape hn ho
    refine .value x w ?_ (by cases hx; intro e; cases e) ⟨ι, h, _, Post.refl M, hx, hk⟩
    rw [run_callFunc_extern hf (by rw [hn]; decide) (by rw [hb]; rfl) h1 h2]
    rfl
  · split at hk
    · rename_i hn0 hn
      rw [hn] at hl
      obtain ⟨a, b, rfl⟩ := len_two hl
      obtain ⟨x, y, rfl, hx, hy⟩ : ∃ x y, xs = [x, y] ∧ VR ι a x ∧ VR ι b y := by cases ha with | cons h h' => cases h' with | cons h2 h' => cases h'; exact ⟨_, _, rfl, h, h2⟩
      have hk : cmpStrK a b (fun v => kr v h) = .good := hk
      unfold cmpStrK at hk
      obtain ⟨n, p, e1, hk1⟩ := asStr_good hk
      obtain ⟨m, q, e2, hk2⟩ := asStr_good hk1
      subst e1; subst e2
      clear hk hk1
      have hk := hk2
      clear hk2
      obtain ⟨s, rfl, e3, e4, _⟩ := str_of hx
      obtain ⟨r, rfl, e5, e6, _⟩ := str_of hy
      rw [e3, e4, e5, e6, strLt_eq, strLt_eq] at hk
      obtain ⟨h1, h2⟩ := find_cmpstring hn ho
      have run : ∀ {c : Int}, Lib.compareBytes s.data.toList r.data.toList = c → (callFunc i [Value.string s, Value.string r].toArray).run P w = .ok (.value (.int .i64 c)) w := fun hc => by
        rw [run_callFunc_extern hf (by rw [hn]; decide) (by rw [hb]; rfl) h1 h2]
        have := Lib.run_compareString (P := P) s r w
        show ((Extern.BytealgCompare.compare #[.string s, .string r]).run P w).andThen _ = _
        rw [this, hc]
        rfl
      have cb := compareBytes_less s.data.toList r.data.toList
      cases hb1 : Op.bytesLess s.data.toList r.data.toList with
      | true =>
        rw [hb1] at hk cb
        exact .value _ w (run cb) (by intro e; cases e) ⟨ι, h, _, Post.refl M, .neg 3 0, hk⟩
      | false =>
        rw [hb1] at hk cb
        cases hb2 : Op.bytesLess r.data.toList s.data.toList with
        | true =>
          rw [hb2] at hk cb
          exact .value _ w (run cb) (by intro e; cases e) ⟨ι, h, _, Post.refl M, .num 1 (by decide), hk⟩
        | false =>
          rw [hb2] at hk cb
          exact .value _ w (run cb) (by intro e; cases e) ⟨ι, h, _, Post.refl M, .num 0 (by decide), hk⟩
    · cases hk
noncomputable def rtOf (P : Program) (rfs : List Nat) (g : Nat) : Option RT :=
  match Nat.ble P.funcs.size g with
  | false => none
  | true =>
    match rfs[g - P.funcs.size]? with
    | some f =>
      match P.funcs[f]? with
      | some fn =>
        match fn.body with
        | some body =>
          match firstR body, Nat.beq (countR body) 1 with
          | some (ps, a, b), true => some ⟨fn.ntmps, ps, a, b, keptL fn.ntmps ps a b⟩
          | _, _ => none
        | none => none
      | none => none
    | none => none

theorem fold_get {l : List (Tmp × AV)} : ∀ {l' : List (Tmp × Value)} {T : Array Value}, l.map (·.1) = l'.map (·.1) → VRs ι (l.map (·.2)) (l'.map (·.2)) → ∀ {t : Nat}, t < T.size →
    (l'.foldl (fun tmps p => tmps.setIfInBounds p.1 p.2) T).size = T.size ∧
    (match Env.get l.reverse t with
      | some v => ∃ u, (l'.foldl (fun tmps p => tmps.setIfInBounds p.1 p.2) T)[t]? = some u ∧ VR ι v u
      | none => (l'.foldl (fun tmps p => tmps.setIfInBounds p.1 p.2) T)[t]? = T[t]?) := by
  induction l with
  | nil =>
    intro l' T h1 h2 t ht
    cases l' with
    | nil => exact ⟨rfl, rfl⟩
    | cons _ _ => simp at h1
  | cons p l ih =>
    intro l' T h1 h2 t ht
    obtain ⟨d, v⟩ := p
    cases l' with
    | nil => simp at h1
    | cons p' l' =>
      obtain ⟨d', x⟩ := p'
      simp only [List.map_cons, List.cons.injEq] at h1
      obtain ⟨rfl, h1⟩ := h1
      simp only [List.map_cons] at h2
      cases h2 with | cons hv h2 =>
      have ht' : t < (T.setIfInBounds d x).size := by rw [Array.size_setIfInBounds]; exact ht
      obtain ⟨i1, i2⟩ := ih (T := T.setIfInBounds d x) h1 h2 ht'
      refine ⟨by rw [List.foldl_cons, i1, Array.size_setIfInBounds], ?_⟩
      rw [List.reverse_cons, Env.get_append, List.foldl_cons]
      cases hg : Env.get l.reverse t with
      | some v' => rw [hg] at i2; exact i2
      | none =>
        rw [hg] at i2
        dsimp only at i2 ⊢
        rw [Env.get_cons]
        by_cases e : d = t
        · rw [if_pos e]
          refine ⟨x, ?_, hv⟩
          rw [i2]
          subst e
          rw [Array.getElem?_setIfInBounds, if_pos rfl, if_pos ht]
        · rw [if_neg e]
          show _ = _
          rw [i2, Array.getElem?_setIfInBounds, if_neg e]
end Go.Ev

namespace Go.Ev
open Go
set_option linter.unusedSectionVars false
variable [Sym]
set_option linter.unusedVariables false
set_option linter.unusedSimpArgs false
variable {P : Program} {rt : Nat → Option RT} {call : C3} {ι : Inj} {h : H} {w : World}

theorem loopOf_good {rg : Nat} {o : AO} {k : R1 → LoopState → Pend → Ans} (hk : loopOf rg o k = .good) : ∃ g e st pd, o = .loop g e st pd ∧ g.val = rg ∧ k e st pd = .good := by
  unfold loopOf at hk
  obtain ⟨g, e, st, pd, rfl, hk⟩ := AOloopK_good hk
  exact ⟨g, e, st, pd, rfl, beq_true (wK_good hk).1, (wK_good hk).2⟩
theorem readyK_good {st : LoopState} {k : Ans} (hk : readyK st k = .good) : st = .ready ∧ k = .good := by
  cases st <;> first | exact ⟨rfl, hk⟩ | cases hk
noncomputable def finRound (rg : Nat) (l : P4) (kr : KV) (p : Pend) (h : H) : Ans :=
  HgetK h l fun ob => loopOf rg ob fun e0 _ _ =>
    match p with
    | .none => HsetK h l (AO.loop (G3.ofNat rg) e0 .ready .none) fun h => kr (.bool true) h
    | p => HsetK h l (AO.loop (G3.ofNat rg) e0 .done p) fun h => kr (.bool false) h

theorem finRound_ok {rg : Nat} {l : P4} {b z : Nat} {kr : KV} {p : Pend} (M : MR rt ι h w) (hp : ι l = some (b, z)) (hk : finRound rg l kr p h = .good) :
    ∃ v a h' w', (Instr.endRound b p.code).run P w = .ok v w' ∧ Post rt ι h w ι h' w' ∧ VR ι a v ∧ kr a h' = .good := by
  unfold finRound at hk
  rw [HgetK_eq] at hk
  obtain ⟨g, e, st, pd, hg, rfl, hk⟩ := loopOf_good hk
  obtain ⟨lr, r, vs, L⟩ := loop_at M hp hg
  rw [G3.ofNat_self] at hk
  cases p with
  | none =>
    dsimp only at hk
    rw [HsetK_eq] at hk
    refine ⟨.bool true, .bool true, _, _, ?_, L.turn M hp hg (l' := { lr with state := .ready, pending := none }) (st' := .ready) (pend' := .none) rfl rfl rfl rfl rfl rfl, .bool true, hk⟩
    unfold Instr.endRound
    refine (bind_ok (getLoop_run L.at_)).trans ?_
    exact (bind_ok (setLoop_run _ L.at_)).trans rfl
  | ret =>
    dsimp only at hk
    rw [HsetK_eq] at hk
    refine ⟨.bool false, .bool false, _, _, ?_, L.turn M hp hg (l' := { lr with state := .done, pending := some .ret }) (st' := .done) (pend' := .ret) rfl rfl rfl rfl rfl rfl, .bool false, hk⟩
    unfold Instr.endRound
    refine (bind_ok (getLoop_run L.at_)).trans ?_
    exact (bind_ok (setLoop_run _ L.at_)).trans rfl
  | exit id =>
    dsimp only at hk
    rw [HsetK_eq] at hk
    refine ⟨.bool false, .bool false, _, _, ?_, L.turn M hp hg (l' := { lr with state := .done, pending := some (.exit id) }) (st' := .done) (pend' := .exit id) rfl rfl rfl rfl rfl rfl, .bool false, hk⟩
    unfold Instr.endRound
    refine (bind_ok (getLoop_run L.at_)).trans ?_
    exact (bind_ok (setLoop_run _ L.at_)).trans rfl

theorem runRound_ok (C : CallOk P rt call) (D : DrawOk P rt call) {rg nt : Nat} {ps : Array Tmp} {ca cb : Code} {as : List AV} {xs : List Value} {p : P4} {b z : Nat} {kr kp : KV} (hrt : rt rg = some ⟨nt, ps, ca, cb, keptL nt ps ca cb⟩)
    (M : MR rt ι h w) (G : Glob ι) (ha : VRs ι as xs) (hp : ι p = some (b, z)) (hk : runRound P rg nt ps.toList ca cb call (packE as) (.ptr p 0) (.num as.length) h kr kp = .good) :
    UpOk P true (Instr.yield b xs.toArray) w (EndP rt ι h w kr kp) := by
  unfold runRound at hk
  obtain ⟨hl, hk⟩ := rvK_num hk
  have hk : HgetK h p (fun ob => loopOf rg ob fun e0 st pend => readyK st (unpack (keptL nt ps ca cb).length e0 fun vs => unpack ps.toList.length (packE as) fun as =>
        evC P nt false call (fun _ _ _ => .bad) 0 (fun _ _ => .bad) (fun _ _ => .bad) none ca [] (liveC 0 cb [] 0) ((ps.toList.zip as).reverse ++ (keptL nt ps ca cb).zip vs) h fun e h =>
          HgetK h p fun ob => loopOf rg ob fun e0 st pend => readyK st (
              HsetK h p (AO.loop (G3.ofNat rg) e0 .busy pend) fun h =>
                evC P nt false call (fun _ _ _ => .bad) 0 (fun _ h => finRound rg p kr .ret h) (fun id h => finRound rg p kr (.exit id) h) none cb [] 0 e h fun _ h => finRound rg p kr .none h))) = .good := hk
  rw [HgetK_eq] at hk
  obtain ⟨g, e0, st, pd, hg, hgv0, hk2⟩ := loopOf_good hk
  clear hk
  obtain ⟨hst, hk3⟩ := readyK_good hk2
  clear hk2
  subst hgv0; subst hst
  obtain ⟨lr, r, vs, L⟩ := loop_at M hp hg
  have hr := L.hr
  rw [hrt] at hr
  cases hr
  have he := L.he
  subst he
  have hk4 := unpack_good L.hv.symm hk3
  clear hk3
  have hk := unpack_good hl hk4
  clear hk4
  have hsz : xs.length = ps.size := by rw [← ha.len, hl]; simp
  -- the temporaries of the round
  let T : Array Value := (lr.params.zip xs.toArray).foldl (fun tmps (t, a) => tmps.setIfInBounds t a) lr.tmps
  have hT : T = ((ps.toList.zip xs).foldl (fun tmps p => tmps.setIfInBounds p.1 p.2) lr.tmps) := by
    show (lr.params.zip xs.toArray).foldl (fun tmps (t, a) => tmps.setIfInBounds t a) lr.tmps = _
    rw [L.h1, ← Array.foldl_toList, Array.toList_zip]
  have hrun : (Instr.yield b xs.toArray).run P w = .ok (.round b lr.fn T lr.assign lr.body) w := by
    unfold Instr.yield
    refine (bind_ok (getLoop_run L.at_)).trans ?_
    rw [if_neg (by rw [L.h1]; simp [hsz])]
    rfl
  refine .round b lr.fn T lr.assign lr.body rfl hrun ?_
  have hlen1 : ps.toList.length = as.length := hl.symm
  have hlen2 : ps.toList.length = xs.length := by rw [hsz]; simp
  have hm1 : (ps.toList.zip as).map (·.1) = (ps.toList.zip xs).map (·.1) := by
    rw [List.map_fst_zip (by omega), List.map_fst_zip (by omega)]
  have hm2 : VRs ι ((ps.toList.zip as).map (·.2)) ((ps.toList.zip xs).map (·.2)) := by
    rw [List.map_snd_zip (by omega), List.map_snd_zip (by omega)]; exact ha
  have s0 : St rt ι h w nt false ι ((ps.toList.zip as).reverse ++ (keptL nt ps ca cb).zip vs) h { tmps := T, defers := [] } w := by
    refine ⟨fun t v ht hv => ?_, ?_, Post.refl M, G, fun _ => rfl, fun hc => by cases hc⟩
    · have htl : t < lr.tmps.size := Nat.lt_of_lt_of_le ht L.hn
      obtain ⟨_, f2⟩ := fold_get (T := lr.tmps) hm1 hm2 htl
      rw [← hT] at f2
      rw [Env.get_append] at hv
      cases hgt : Env.get (ps.toList.zip as).reverse t with
      | some v' =>
        rw [hgt] at hv f2
        cases hv
        exact f2
      | none =>
        rw [hgt] at hv f2
        obtain ⟨i, i1, i2⟩ := Env.get_zip hv
        obtain ⟨u, u1, u2⟩ := L.ht i t v i1 i2
        exact ⟨u, by show T[t]? = _; rw [f2]; exact u1, u2⟩
    · show nt ≤ T.size
      rcases Nat.eq_zero_or_pos nt with h0 | h0
      · omega
      · obtain ⟨f1, _⟩ := fold_get (T := lr.tmps) (t := 0) hm1 hm2 (by have := L.hn; dsimp only at this; omega)
        rw [hT, f1]; exact L.hn
  have hF : FWide (Fence.wide.inRound b) := .inr ⟨b, rfl⟩
  refine roundIn_of_wpIn trivial ?_
  rw [L.h2, L.h3]
  refine evC_ok (kpe := fun _ _ _ => .bad) C D hF (fun _ => rfl) (fun hc => absurd rfl hc) (rgOk_none ca) ⟨fun ι1 e1 h1 a1 w1 s1 hk => ?_, fun id ι e h a w s hk => (by cases hk), fun ι e h a w s hk => (by cases hk), fun ι e h a w ι' h' w' v u s p hv hk => (by cases hk)⟩ s0 hk
  rw [HgetK_eq] at hk
  obtain ⟨g1, e2, st1, pd1, hg1, hgv, hk2⟩ := loopOf_good hk
  clear hk
  obtain ⟨hst, hk⟩ := readyK_good hk2
  clear hk2
  subst hst
  have hp1 := s1.post.ext _ _ hp
  obtain ⟨lr1, r1, vs1, L1⟩ := loop_at s1.mr hp1 hg1
  rw [← hgv, G3.ofNat_self, HsetK_eq] at hk
  have pt := L1.turn s1.mr hp1 hg1 (l' := { lr1 with state := .busy }) (st' := .busy) (pend' := pd1) rfl L1.hp rfl rfl rfl rfl
  refine ⟨{ w1 with heap := w1.heap.setIfInBounds b (.loop { lr1 with state := .busy }) }, ?_, ?_⟩
  · unfold Instr.beginRound
    refine (bind_ok (getLoop_run L1.at_)).trans ?_
    refine (bind_ok (setLoop_run _ L1.at_)).trans ?_
    rw [L1.hs]
    rfl
  · have fin : ∀ {p' : Pend} {ι2 e2 h2 a2 w2}, St rt ι h w nt false ι2 e2 h2 a2 w2 → finRound g1.val p kr p' h2 = .good → ∃ v w', (Instr.endRound b p'.code).run P w2 = .ok v w' ∧ EndP rt ι h w kr kp (.returned v) w' := fun s2 hk => by
      obtain ⟨v, a, h', w', q1, q2, q3, q4⟩ := finRound_ok (P := P) s2.mr (s2.post.ext _ _ hp) hk
      exact ⟨v, w', q1, _, h', a, s2.post.trans q2, q3, q4⟩
    refine evC_ok (kpe := fun _ _ _ => .bad) (ret := fun _ h => finRound g1.val p kr .ret h) (out := fun id h => finRound g1.val p kr (.exit id) h) (xs := []) C D hF (fun _ => rfl) (fun hc => absurd rfl hc) (rgOk_none cb) ⟨fun ι e h a w s hk => fin (p' := .none) s hk, fun id ι e h a w s hk => fin (p' := .exit id) s hk, fun ι e h a w s hk => fin (p' := .ret) s hk, fun ι e h a w ι' h' w' v u s p hv hk => (by cases hk)⟩ (s1.move pt) hk
theorem firstR_zero : ∀ {c : Code}, countR c = 0 → firstR c = none
  | .skip, _ | .region .., _ | .exit _, _ | .label _, _ | .goto _, _ | .ret, _ | .refuse _, _ => rfl
  | .seq a b, h => by
    have h : countR a + countR b = 0 := h
    show (match firstR a with | some r => some r | none => firstR b) = none
    rw [firstR_zero (c := a) (by omega), firstR_zero (c := b) (by omega)]
  | .cond _ a b, h => by
    have h : countR a + countR b = 0 := h
    show (match firstR a with | some r => some r | none => firstR b) = none
    rw [firstR_zero (c := a) (by omega), firstR_zero (c := b) (by omega)]
  | .block _ c, h => firstR_zero (c := c) h
  | .loop c, h => firstR_zero (c := c) h
  | .scope c, h => firstR_zero (c := c) h
  | .rangeFunc _ _ a b, h => by
    have h : countR a + countR b + 1 = 0 := h
    omega
theorem rgOk_zero {nt : Nat} {rg : Option Nat} : ∀ {c : Code}, countR c = 0 → RgOk rt nt rg c
  | .skip, _ | .region .., _ | .exit _, _ | .label _, _ | .goto _, _ | .ret, _ | .refuse _, _ => trivial
  | .seq a b, h => by
    have h : countR a + countR b = 0 := h
    exact ⟨rgOk_zero (by omega), rgOk_zero (by omega)⟩
  | .cond _ a b, h => by
    have h : countR a + countR b = 0 := h
    exact ⟨rgOk_zero (by omega), rgOk_zero (by omega)⟩
  | .block _ c, h => rgOk_zero (c := c) h
  | .loop c, h => rgOk_zero (c := c) h
  | .scope c, h => rgOk_zero (c := c) h
  | .rangeFunc _ _ a b, h => by
    have h : countR a + countR b + 1 = 0 := h
    omega
theorem rgOk_one {nt : Nat} {rg : Option Nat} {ps : Array Tmp} {x y : Code} (hr : ∀ g, rg = some g → g ≤ 4095 ∧ rt g = some ⟨nt, ps, x, y, keptL nt ps x y⟩) : ∀ {c : Code}, countR c = 1 → firstR c = some (ps, x, y) → RgOk rt nt rg c
  | .skip, h, _ | .region .., h, _ | .exit _, h, _ | .label _, h, _ | .goto _, h, _ | .ret, h, _ | .refuse _, h, _ => trivial
  | .seq a b, h, hf => by
    have h : countR a + countR b = 1 := h
    have hf : (match firstR a with | some r => some r | none => firstR b) = some (ps, x, y) := hf
    rcases Nat.eq_zero_or_pos (countR a) with h0 | h0
    · rw [firstR_zero h0] at hf
      exact ⟨rgOk_zero h0, rgOk_one hr (by omega) hf⟩
    · have hb : countR b = 0 := by omega
      refine ⟨rgOk_one hr (by omega) ?_, rgOk_zero hb⟩
      cases ha : firstR a with
      | none => rw [ha, firstR_zero hb] at hf; cases hf
      | some r => rw [ha] at hf; exact hf
  | .cond _ a b, h, hf => by
    have h : countR a + countR b = 1 := h
    have hf : (match firstR a with | some r => some r | none => firstR b) = some (ps, x, y) := hf
    rcases Nat.eq_zero_or_pos (countR a) with h0 | h0
    · rw [firstR_zero h0] at hf
      exact ⟨rgOk_zero h0, rgOk_one hr (by omega) hf⟩
    · have hb : countR b = 0 := by omega
      refine ⟨rgOk_one hr (by omega) ?_, rgOk_zero hb⟩
      cases ha : firstR a with
      | none => rw [ha, firstR_zero hb] at hf; cases hf
      | some r => rw [ha] at hf; exact hf
  | .block _ c, h, hf => rgOk_one hr (c := c) h hf
  | .loop c, h, hf => rgOk_one hr (c := c) h hf
  | .scope c, h, hf => rgOk_one hr (c := c) h hf
  | .rangeFunc _ _ a b, h, hf => by
    cases hf
    exact hr

theorem countR_some : ∀ {c : Code}, countR c = 1 → ∃ r, firstR c = some r
  | .seq a b, h => by
    have h : countR a + countR b = 1 := h
    show ∃ r, (match firstR a with | some r => some r | none => firstR b) = some r
    rcases Nat.eq_zero_or_pos (countR a) with h0 | h0
    · rw [firstR_zero h0]; exact countR_some (c := b) (by omega)
    · obtain ⟨r, hr⟩ := countR_some (c := a) (by omega); rw [hr]; exact ⟨r, rfl⟩
  | .cond _ a b, h => by
    have h : countR a + countR b = 1 := h
    show ∃ r, (match firstR a with | some r => some r | none => firstR b) = some r
    rcases Nat.eq_zero_or_pos (countR a) with h0 | h0
    · rw [firstR_zero h0]; exact countR_some (c := b) (by omega)
    · obtain ⟨r, hr⟩ := countR_some (c := a) (by omega); rw [hr]; exact ⟨r, rfl⟩
  | .block _ c, h => countR_some (c := c) h
  | .loop c, h => countR_some (c := c) h
  | .scope c, h => countR_some (c := c) h
  | .rangeFunc _ ps a b, h => ⟨_, rfl⟩

theorem rgOf_ok {rfs : List Nat} {i : Nat} {fn : Func} {body : Code} (hf : P.funcs[i]? = some fn) (hb : fn.body = some body) : RgOk (rtOf P rfs) fn.ntmps (rgOf P rfs i fn) body := by
  have e : rgOf P rfs i fn = (match Nat.beq (countR body) 1, rfs[rfs.idxOf i]? with
    | true, some j => match Nat.beq j i && Nat.ble (P.funcs.size + rfs.idxOf i) 4095 with | true => some (P.funcs.size + rfs.idxOf i) | false => none
    | _, _ => none) := by unfold rgOf; rw [hb]; rfl
  rw [e]
  split
  · rename_i j hc hj
    split
    · rename_i hcc
      rw [Bool.and_eq_true] at hcc
      have hji := beq_true hcc.1
      subst hji
      have h1 := beq_true hc
      obtain ⟨⟨ps, x, y⟩, hfr⟩ := countR_some h1
      refine rgOk_one (fun g hg => ?_) h1 hfr
      cases hg
      refine ⟨ble_true hcc.2, ?_⟩
      unfold rtOf
      rw [Nat.ble_eq_true_of_le (Nat.le_add_right _ _)]
      dsimp only
      rw [Nat.add_sub_cancel_left, hj]
      dsimp only
      rw [hf]
      dsimp only
      rw [hb]
      dsimp only
      rw [hfr, hc]
    · exact rgOk_none _
  · exact rgOk_none _
def HookOk (P : Program) (rt : Nat → Option RT) (hook : Nat → Option (C3 → Fun)) : Prop :=
  ∀ (i : Nat) (f : C3 → Fun), hook i = some f → ∀ call, CallOk P rt call →
    (∀ {ι : Inj} {h : H} {w : World} {as : List AV} {xs cs : List Value} {cap : AV} {kr kp : KV}, MR rt ι h w → Glob ι → VRs ι as xs → VRL ι cap cs →
      f call (packE as) cap (.num as.length) h kr kp = .good → UpOk P false (callFunc i (xs ++ cs).toArray) w (EndP rt ι h w kr kp)) ∧
    (∀ {h : H} {as : List AV} {p : P4} {kr kp : KV}, f call (packE as) (.ptr p 0) (.num as.length) h kr kp ≠ .good) ∧
    (∀ {h : H} {cap rv : AV} {kr kp : KV}, (∀ n, rv ≠ .num n) → f call E0 cap rv h kr kp ≠ .good)

theorem callFunc_enter {i : Nat} {fn : Func} {body : Code} (hf : P.funcs[i]? = some fn) (hb : fn.body = some body) (hn : fn.name ≠ "runtime.NumGoroutine") (args : Array Value) (w : World) : (callFunc i args).run P w = .ok (.enter i args) w := by
  unfold callFunc
  refine (bind_ok (v := P) (w' := w) rfl).trans ?_
  rw [hf]
  dsimp only
  rw [if_neg (by simpa using hn), if_neg (by rw [hb]; simp)]
  rfl

theorem badC_no {g : G3} {e : R1} {cap rv : AV} {h : H} {kr kp : KV} : disp badC g e cap rv h kr kp ≠ .good := by
  unfold badC
  rw [disp_tab]
  intro e; cases e

theorem fnOf_cases {rfs : List Nat} {hook : Nat → Option (C3 → Fun)} {i : Nat} {e : R1} {cap rv : AV} {h : H} {kr kp : KV} (hk : fnOf P rfs hook i call e cap rv h kr kp = .good) :
    (∃ f, hook i = some f ∧ f call e cap rv h kr kp = .good) ∨ (∃ fn, P.funcs[i]? = some fn ∧ runFn P (rgOf P rfs i fn) fn call e cap rv h kr kp = .good) ∨
    (∃ nt ps a b, rtOf P rfs i = some ⟨nt, ps, a, b, keptL nt ps a b⟩ ∧ runRound P i nt ps.toList a b call e cap rv h kr kp = .good) := by
  unfold fnOf at hk
  cases hle : Nat.ble P.funcs.size i with
  | false =>
    rw [hle] at hk
    dsimp only at hk
    cases hh : hook i with
    | some f => rw [hh] at hk; exact .inl ⟨f, rfl, hk⟩
    | none =>
      rw [hh] at hk
      dsimp only at hk
      cases hf : P.funcs[i]? with
      | none => rw [hf] at hk; cases hk
      | some fn => rw [hf] at hk; exact .inr (.inl ⟨fn, rfl, hk⟩)
  | true =>
    rw [hle] at hk
    dsimp only at hk
    cases hr : rfs[i - P.funcs.size]? with
    | none => rw [hr] at hk; cases hk
    | some f =>
      rw [hr] at hk
      dsimp only at hk
      cases hf : P.funcs[f]? with
      | none => rw [hf] at hk; cases hk
      | some fn =>
        rw [hf] at hk
        dsimp only at hk
        cases hb : fn.body with
        | none => rw [hb] at hk; cases hk
        | some body =>
          rw [hb] at hk
          dsimp only at hk
          cases hfr : firstR body with
          | none => rw [hfr] at hk; cases hk
          | some r =>
            obtain ⟨ps, a, b⟩ := r
            cases hc : Nat.beq (countR body) 1 with
            | false => rw [hfr, hc] at hk; cases hk
            | true =>
              rw [hfr, hc] at hk
              refine .inr (.inr ⟨fn.ntmps, ps, a, b, ?_, hk⟩)
              unfold rtOf
              rw [hle]
              dsimp only
              rw [hr]
              dsimp only
              rw [hf]
              dsimp only
              rw [hb]
              dsimp only
              rw [hfr, hc]

theorem runFn_cases {rg : Option Nat} {fn : Func} {e : R1} {cap rv : AV} {h : H} {kr kp : KV} (hk : runFn P rg fn call e cap rv h kr kp = .good) :
    (∃ body, fn.body = some body ∧ fn.name ≠ "runtime.NumGoroutine" ∧ runBody P rg fn body call e cap rv h kr kp = .good) ∨
    (fn.body = none ∧ fn.origin = "" ∧ rvK (extArity fn.name) rv (asNum rv fun _ => nilK cap (extK fn.name e h kr)) = .good) := by
  unfold runFn at hk
  cases hb : fn.body with
  | some body =>
    rw [hb] at hk
    dsimp only at hk
    cases hn : decide (fn.name = "runtime.NumGoroutine") with
    | true => rw [hn] at hk; cases hk
    | false => rw [hn] at hk; exact .inl ⟨body, rfl, of_decide_eq_false hn, hk⟩
  | none =>
    rw [hb] at hk
    dsimp only at hk
    cases ho : decide (fn.origin = "") with
    | false => rw [ho] at hk; cases hk
    | true => rw [ho] at hk; exact .inr ⟨rfl, of_decide_eq_true ho, hk⟩

theorem runRound_ptr {rg nt : Nat} {ps : List Tmp} {a b : Code} {e : R1} {cap : AV} {h : H} {kr kp : KV} {n : Nat} (hk : runRound P rg nt ps a b call e cap (.num n) h kr kp = .good) : ∃ p o, cap = .ptr p o := by
  unfold runRound at hk
  obtain ⟨_, hk⟩ := rvK_num hk
  obtain ⟨p, o, h, _⟩ := asPtr_good hk
  exact ⟨p, o, h⟩
theorem runBody_ptr {rg : Option Nat} {fn : Func} {body : Code} {as : List AV} {p : P4} {h : H} {kr kp : KV} : runBody P rg fn body call (packE as) (.ptr p 0) (.num as.length) h kr kp ≠ .good := by
  intro hk
  unfold runBody at hk
  cases hn : Nat.ble (fn.params.size + fn.nfree) fn.ntmps with
  | false => rw [hn] at hk; cases hk
  | true =>
    rw [hn] at hk
    obtain ⟨hl, hk⟩ := rvK_num hk
    have hk := unpack_good hl hk
    cases hn : fn.nfree with
    | zero => rw [hn] at hk; cases hk
    | succ m => rw [hn] at hk; cases hk

theorem ev_ok {rfs : List Nat} (D : ∀ call, CallOk P (rtOf P rfs) call → DrawOk P (rtOf P rfs) call) {hook : Nat → Option (C3 → Fun)} (Hk : HookOk P (rtOf P rfs) hook) {T : Nat → C3} (h0 : T 0 = badC)
    (hS : ∀ n g, disp (T (n + 1)) g = fnOf P rfs hook g.val (T n)) : ∀ n, CallOk P (rtOf P rfs) (T n)
  | 0 => by rw [h0]; exact ⟨fun _ _ _ _ hk => absurd hk badC_no, fun _ _ _ _ hk => absurd hk badC_no, fun _ _ _ _ _ hk => absurd hk badC_no⟩
  | n + 1 => by
    have C := ev_ok D Hk h0 hS n
    have DD := @D _ C
    have e1 := hS n
    generalize T n = call at C DD e1
    refine ⟨fun {ι h w g as xs cs cap kr kp} M G ha hc hk => ?_, fun {ι h w g as xs p b z kr kp} M G ha hp hk => ?_, fun {ι h w g cs cap m u kr} M G hc hm hi hk => ?_⟩
    · rw [e1] at hk
      rcases fnOf_cases hk with ⟨f, hf, hk⟩ | ⟨fn, hf, hk⟩ | ⟨nt, ps, a, b, hr, hk⟩
      · exact (Hk _ f hf call C).1 M G ha hc hk
      · rcases runFn_cases hk with ⟨body, hb, hn, hk⟩ | ⟨hb, ho, hk⟩
        · exact .enter _ _ (callFunc_enter hf hb hn _ w) (body_ok C DD hf hb (rgOf_ok hf hb) M G ha hc hk)
        · exact ext_ok hf hb ho M ha hc hk
      · obtain ⟨p, o, rfl⟩ := runRound_ptr hk
        cases hc
    · rw [e1] at hk
      rcases fnOf_cases hk with ⟨f, hf, hk⟩ | ⟨fn, hf, hk⟩ | ⟨nt, ps, a, b, hr, hk⟩
      · exact absurd hk (Hk _ f hf call C).2.1
      · exfalso
        rcases runFn_cases hk with ⟨body, hb, hn, hk⟩ | ⟨hb, ho, hk⟩
        · exact runBody_ptr hk
        · obtain ⟨_, hk⟩ := rvK_num hk
          cases hk
      · exact runRound_ok C DD hr M G ha hp hk
    · rw [e1] at hk
      have hnn : ∀ n, rvOf m ≠ .num n := fun n e => by
        cases m with
        | none => cases e
        | some v => obtain ⟨t, x, rfl⟩ := hi v rfl; cases e
      rcases fnOf_cases hk with ⟨f, hf, hk⟩ | ⟨fn, hf, hk⟩ | ⟨nt, ps, a, b, hr, hk⟩
      · exact absurd hk ((Hk _ f hf call C).2.2 hnn)
      · rcases runFn_cases hk with ⟨body, hb, hn, hk⟩ | ⟨hb, ho, hk⟩
        · exact ⟨callFunc_enter hf hb hn _ w, body_dfd C DD hf hb (rgOf_ok hf hb) M G hc hm hi hk⟩
        · exfalso
          obtain ⟨_, hk, _⟩ := rvK_mode hm hi hk
          obtain ⟨n, e, _⟩ := asNum_good hk
          exact hnn n e
      · exfalso
        unfold runRound at hk
        obtain ⟨_, hk, _⟩ := rvK_mode hm hi hk
        obtain ⟨p, o, rfl, _⟩ := asPtr_good hk
        cases hc
theorem evF_ok {rfs : List Nat} (D : ∀ call, CallOk P (rtOf P rfs) call → DrawOk P (rtOf P rfs) call) {hook : Nat → Option (C3 → Fun)} (Hk : HookOk P (rtOf P rfs) hook) : ∀ n, CallOk P (rtOf P rfs) (evF P rfs hook n) :=
  ev_ok D Hk (T := evF P rfs hook) rfl fun _ g => disp_tab _ g
theorem fnOf_big {rfs : List Nat} {hook : Nat → Option (C3 → Fun)} {i n : Nat} (hz : P.funcs.size + rfs.length = n) (h : n ≤ i) : fnOf P rfs hook i call = fun _ _ _ _ _ _ => .bad := by
  unfold fnOf
  rw [show Nat.ble P.funcs.size i = true from Nat.ble_eq_true_of_le (by omega)]
  dsimp only
  rw [List.getElem?_eq_none (by omega)]
end Go.Ev

namespace Go.Ev
open Go
set_option linter.unusedSectionVars false
variable [Sym]
set_option linter.unusedVariables false
set_option linter.unusedSimpArgs false

def Det {α : Type} (f : (α → Ans) → Ans) : Prop := (∀ k, f k = .bad) ∨ ∃ a, ∀ k, f k = k a
theorem Det.good {α : Type} {f : (α → Ans) → Ans} (d : Det f) {k : α → Ans} (h : f k = .good) : ∃ a, ∀ k, f k = k a := by
  rcases d with d | d
  · rw [d] at h; cases h
  · exact d
namespace D'
variable {α β : Type}
theorem bad : Det (fun _ : α → Ans => Ans.bad) := .inl fun _ => rfl
theorem ret (a : α) : Det (fun k : α → Ans => k a) := .inr ⟨a, fun _ => rfl⟩
theorem bind {f : (β → Ans) → Ans} {g : β → (α → Ans) → Ans} (hf : Det f) (hg : ∀ b, Det (g b)) : Det (fun k => f fun b => g b k) := by
  rcases hf with hf | ⟨b, hf⟩
  · exact .inl fun k => hf _
  · rcases hg b with h | ⟨a, h⟩
    · exact .inl fun k => (hf _).trans (h k)
    · exact .inr ⟨a, fun k => (hf _).trans (h k)⟩
theorem wk {c : Bool} {f : (α → Ans) → Ans} (hf : Det f) : Det (fun k => wK c (f k)) := by
  cases c
  · exact .inl fun _ => rfl
  · exact hf
theorem bk {c : Bool} {f g : (α → Ans) → Ans} (hf : Det f) (hg : Det g) : Det (fun k => bK c (f k) (g k)) := by
  cases c
  · exact hg
  · exact hf
theorem fn (n : Nat) {g : Nat → (α → Ans) → Ans} (hg : Det (g n)) : Det (fun k => fN n fun m => g m k) := hg
theorem asBool {v : AV} {g : Bool → (α → Ans) → Ans} (hg : ∀ b, Det (g b)) : Det (fun k => asBool v fun b => g b k) := by
  cases v <;> first | exact .inl fun _ => rfl | exact hg _
theorem asNum {v : AV} {g : Nat → (α → Ans) → Ans} (hg : ∀ b, Det (g b)) : Det (fun k => asNum v fun b => g b k) := by
  cases v <;> first | exact .inl fun _ => rfl | exact hg _
theorem asStr {v : AV} {g : Nat → Nat → (α → Ans) → Ans} (hg : ∀ a b, Det (g a b)) : Det (fun k => asStr v fun a b => g a b k) := by
  cases v <;> first | exact .inl fun _ => rfl | exact hg _ _
theorem asPtr {v : AV} {g : P4 → Nat → (α → Ans) → Ans} (hg : ∀ a b, Det (g a b)) : Det (fun k => asPtr v fun a b => g a b k) := by
  cases v <;> first | exact .inl fun _ => rfl | exact hg _ _
theorem asMap {v : AV} {g : P4 → (α → Ans) → Ans} (hg : ∀ a, Det (g a)) : Det (fun k => asMap v fun a => g a k) := by
  cases v <;> first | exact .inl fun _ => rfl | exact hg _
theorem asAgg {v : AV} {g : AV → (α → Ans) → Ans} (hg : ∀ a, Det (g a)) : Det (fun k => asAgg v fun a => g a k) := by
  cases v <;> first | exact .inl fun _ => rfl | exact hg _
theorem asTup {v : AV} {g : AV → (α → Ans) → Ans} (hg : ∀ a, Det (g a)) : Det (fun k => asTup v fun a => g a k) := by
  cases v <;> first | exact .inl fun _ => rfl | exact hg _
theorem asCons {v : AV} {g : AV → AV → (α → Ans) → Ans} (hg : ∀ a b, Det (g a b)) : Det (fun k => asCons v fun a b => g a b k) := by
  cases v <;> first | exact .inl fun _ => rfl | exact hg _ _
theorem asIdx {v : AV} {g : Nat → (α → Ans) → Ans} (hg : ∀ a, Det (g a)) : Det (fun k => asIdx v fun a => g a k) := by
  cases v <;> first | exact .inl fun _ => rfl | exact hg _
theorem nilk {v : AV} {f : (α → Ans) → Ans} (hf : Det f) : Det (fun k => nilK v (f k)) := by
  cases v <;> first | exact .inl fun _ => rfl | exact hf
theorem cellk {v : AV} {f : (α → Ans) → Ans} (hf : Det f) : Det (fun k => cellK v (f k)) := by
  cases v <;> first | exact .inl fun _ => rfl | exact hf
theorem rec1 {F G : (AV → Ans) → Ans} (c : Bool) (hF : Det F) (hG : Det G) : Det (fun k => @Bool.rec (fun _ => (AV → Ans) → Ans) F G c k) := by
  cases c; exact hF; exact hG
theorem rec2 {F G : Nat → Nat → (AV → Ans) → Ans} (c : Bool) (n m : Nat) (hF : Det (F n m)) (hG : Det (G n m)) : Det (fun k => @Bool.rec (fun _ => Nat → Nat → (AV → Ans) → Ans) F G c n m k) := by
  cases c; exact hF; exact hG
theorem rec3 {F G : Nat → Nat → Nat → (AV → Ans) → Ans} (c : Bool) (n m l : Nat) (hF : Det (F n m l)) (hG : Det (G n m l)) : Det (fun k => @Bool.rec (fun _ => Nat → Nat → Nat → (AV → Ans) → Ans) F G c n m l k) := by
  cases c; exact hF; exact hG
theorem rec4 {F G : P4 → Nat → Nat → Nat → (AV → Ans) → Ans} (c : Bool) (p : P4) (n m l : Nat) (hF : Det (F p n m l)) (hG : Det (G p n m l)) : Det (fun k => @Bool.rec (fun _ => P4 → Nat → Nat → Nat → (AV → Ans) → Ans) F G c p n m l k) := by
  cases c; exact hF; exact hG
theorem ofIK (j : Nat) (r : Int) : Det (ofIK j r) := by
  unfold Ev.ofIK
  cases r with
  | ofNat n =>
    by_cases h : j = 3
    · subst h; exact .inr ⟨_, fun _ => rfl⟩
    · refine .inr ⟨.int j n, fun k => ?_⟩
      show (match j with | 3 => k (.num n) | k' => k (.int k' n)) = _
      split
      · exact absurd rfl h
      · rfl
  | negSucc n => exact .inr ⟨_, fun _ => rfl⟩
theorem two {a b : AV} {g : Nat → Int → Int → (AV → Ans) → Ans} (hg : ∀ j x y, Det (g j x y)) : Det (fun k => two a b fun j x y => g j x y k) := by
  unfold Ev.two
  cases toI a with
  | none => exact .inl fun _ => rfl
  | some p =>
    cases toI b with
    | none => exact .inl fun _ => rfl
    | some q =>
      obtain ⟨j, x⟩ := p
      obtain ⟨l, y⟩ := q
      dsimp only
      cases Nat.beq j l
      · exact .inl fun _ => rfl
      · exact hg j x y
variable {a b c : AV}
theorem addS : Det (addS a b) := two fun j x y => ofIK _ _
theorem subS : Det (subS a b) := two fun j x y => ofIK _ _
theorem mulS : Det (mulS a b) := two fun j x y => ofIK _ _
theorem quoS : Det (quoS a b) := two fun j x y => by cases decide (y = 0); exact ofIK _ _; exact .inl fun _ => rfl
theorem remS : Det (remS a b) := two fun j x y => by cases decide (y = 0); exact ofIK _ _; exact .inl fun _ => rfl
theorem bitsS {op : BinOp} : Det (bitsS op a b) := two fun j x y => by cases op <;> first | exact ofIK _ _ | exact .inl fun _ => rfl
theorem ltS : Det (ltS a b) := two fun j x y => by cases decide (x < y) <;> exact .inr ⟨_, fun _ => rfl⟩
theorem eqS : Det (eqS a b) := two fun j x y => by cases decide (x = y) <;> exact .inr ⟨_, fun _ => rfl⟩
theorem shlS : Det (shlS a b) := by
  unfold Ev.shlS
  cases toI a with
  | none => exact .inl fun _ => rfl
  | some p =>
    cases toI b with
    | none => exact .inl fun _ => rfl
    | some q =>
      dsimp only
      cases decide (q.2 < 0)
      · exact ofIK _ _
      · exact .inl fun _ => rfl
theorem shrS : Det (shrS a b) := by
  unfold Ev.shrS
  cases toI a with
  | none => exact .inl fun _ => rfl
  | some p =>
    cases toI b with
    | none => exact .inl fun _ => rfl
    | some q =>
      dsimp only
      cases decide (q.2 < 0)
      · exact ofIK _ _
      · exact .inl fun _ => rfl
theorem negS : Det (negS a) := by
  unfold Ev.negS
  cases toI a with
  | none => exact .inl fun _ => rfl
  | some p => exact ofIK _ _
theorem convS {kk : Nat} : Det (convS kk a) := by
  unfold Ev.convS
  cases toI a with
  | none => exact .inl fun _ => rfl
  | some p => exact ofIK _ _
theorem notr {f : (AV → Ans) → Ans} (hf : Det f) : Det (fun k => f fun v => Ev.asBool v fun r => @Bool.rec (fun _ => (AV → Ans) → Ans) (fun k => k (.bool true)) (fun k => k (.bool false)) r k) :=
  bind hf fun v => asBool fun r => rec1 r (ret _) (ret _)

theorem addK : Det (addK a b) := by
  cases a <;> first | exact .inl fun _ => rfl | exact addS | (cases b <;> first | exact .inl fun _ => rfl | exact addS | exact rec2 _ _ _ addS (ret _))
theorem subK : Det (subK a b) := by
  cases a <;> first | exact .inl fun _ => rfl | exact subS | (cases b <;> first | exact .inl fun _ => rfl | exact subS | exact rec2 _ _ _ subS (ret _))
theorem mulK : Det (mulK a b) := by
  cases a <;> first | exact .inl fun _ => rfl | exact mulS | (cases b <;> first | exact .inl fun _ => rfl | exact mulS | exact rec2 _ _ _ mulS (ret _))
theorem quoK : Det (quoK a b) := by
  cases a <;> first | exact .inl fun _ => rfl | exact quoS | (cases b <;> first | exact .inl fun _ => rfl | exact quoS | exact rec2 _ _ _ quoS (ret _))
theorem remK : Det (remK a b) := by
  cases a <;> first | exact .inl fun _ => rfl | exact remS | (cases b <;> first | exact .inl fun _ => rfl | exact remS | exact rec2 _ _ _ remS (ret _))
theorem ltK : Det (ltK a b) := by
  cases a <;> first | exact .inl fun _ => rfl | exact ltS | (cases b <;> first | exact .inl fun _ => rfl | exact ltS | exact rec1 _ (ret _) (ret _) | exact rec2 _ _ _ bad (rec1 _ (ret _) (ret _)))
theorem geK : Det (geK a b) := by
  cases a <;> first | exact .inl fun _ => rfl | exact notr ltS | (cases b <;> first | exact .inl fun _ => rfl | exact notr ltS | exact rec1 _ (ret _) (ret _) | exact rec2 _ _ _ bad (rec1 _ (ret _) (ret _)))
theorem eqK : Det (eqK a b) := by
  cases a <;> first | exact .inl fun _ => rfl | exact eqS | (cases b <;> first | exact .inl fun _ => rfl | exact eqS | exact rec1 _ (ret _) (ret _) | exact rec2 _ _ _ bad (rec1 _ (ret _) (ret _)))
theorem neK : Det (neK a b) := by
  cases a <;> first | exact .inl fun _ => rfl | exact notr eqS | (cases b <;> first | exact .inl fun _ => rfl | exact notr eqS | exact rec1 _ (ret _) (ret _) | exact rec2 _ _ _ bad (rec1 _ (ret _) (ret _)))
theorem andK : Det (andK a b) := by
  unfold Ev.andK
  split
  · exact .inr ⟨_, fun _ => rfl⟩
  · exact bitsS
theorem toIntK : Det (toIntK a) := by
  cases a with
  | num n => exact .inr ⟨_, fun _ => rfl⟩
  | int j n =>
    unfold Ev.toIntK
    dsimp only
    generalize Nat.ble n maxI = c
    cases c
    · exact convS (kk := 3) (a := .int j n)
    · exact .inr ⟨_, fun _ => rfl⟩
  | neg j n => exact convS (kk := 3) (a := .neg j n)
  | _ => exact .inl fun _ => rfl
theorem notK : Det (notK a) := by
  cases a <;> first | exact .inl fun _ => rfl | exact rec1 _ (ret _) (ret _)
theorem pickK : Det (pickK c a b) := by
  cases c <;> first | exact .inl fun _ => rfl | (rename_i t; cases t <;> exact ret _)
theorem beqK : Det (beqK a b) := asBool fun _ => asBool fun _ => bk (bk (ret _) (ret _)) (bk (ret _) (ret _))
theorem bneK : Det (bneK a b) := asBool fun _ => asBool fun _ => bk (bk (ret _) (ret _)) (bk (ret _) (ret _))
theorem minK : Det (minK a b) := two fun _ x y => by cases decide (y < x) <;> exact ret _
theorem maxK : Det (maxK a b) := two fun _ x y => by cases decide (x < y) <;> exact ret _
theorem seqK : Det (seqK a b) := by
  cases a <;> first | exact .inl fun _ => rfl | (cases b <;> first | exact .inl fun _ => rfl | exact rec2 _ _ _ (ret _) (rec1 _ (ret _) (ret _)))
theorem sneK : Det (sneK a b) := by
  cases a <;> first | exact .inl fun _ => rfl | (cases b <;> first | exact .inl fun _ => rfl | exact rec2 _ _ _ (ret _) (rec1 _ (ret _) (ret _)))
theorem sltK : Det (sltK a b) := by
  cases a <;> first | exact .inl fun _ => rfl | (cases b <;> first | exact .inl fun _ => rfl | exact rec1 _ (ret _) (ret _))
theorem sgeK : Det (sgeK a b) := by
  cases a <;> first | exact .inl fun _ => rfl | (cases b <;> first | exact .inl fun _ => rfl | exact rec1 _ (ret _) (ret _))
theorem saddK : Det (saddK a b) := by
  cases a <;> first | exact .inl fun _ => rfl | (cases b <;> first | exact .inl fun _ => rfl | exact wk (ret _))
theorem sidxK : Det (sidxK a b) := by
  cases a <;> first | exact .inl fun _ => rfl | (cases b <;> first | exact .inl fun _ => rfl | exact rec3 _ _ _ _ bad (ret _))
theorem inK {n : Nat} {g : Nat → (α → Ans) → Ans} (hg : ∀ a, Det (g a)) : Det (fun k => inK n a fun i => g i k) := asIdx fun i => wk (hg i)
theorem belowK {n : Nat} {g : Nat → (α → Ans) → Ans} (hg : ∀ a, Det (g a)) : Det (fun k => belowK n a fun i => g i k) := asIdx fun i => wk (hg i)
theorem optK {n d : Nat} {v : Option AV} {g : Nat → (α → Ans) → Ans} (hg : ∀ a, Det (g a)) : Det (fun k => optK n d v fun i => g i k) := by
  cases v with
  | none => exact hg d
  | some v => exact inK hg
theorem scutK {lo hi : Option AV} : Det (scutK a lo hi) := asStr fun n x => optK fun h => optK fun l => ret _
theorem dropK (n : Nat) : ∀ v, Det (dropK n v) := by
  induction n with
  | zero => intro v; exact ret v
  | succ n ih => intro v; exact asCons fun _ b => ih b
theorem takeK (n : Nat) : ∀ v, Det (takeK n v) := by
  induction n with
  | zero => intro v; exact ret _
  | succ n ih => intro v; exact asCons fun a b => bind (ih b) fun r => ret _
theorem nthK (n : Nat) (v : AV) : Det (nthK n v) := bind (f := Ev.dropK n v) (g := fun v k => Ev.asCons v fun a _ => k a) (dropK n v) fun v => asCons fun a _ => ret a
theorem aidxK {g : Bool} {n z : Nat} : Det (aidxK g n z a b) := asAgg fun cs => belowK fun i => by
  cases g
  · exact nthK _ _
  · exact bind (dropK _ _) fun r => bind (takeK _ _) fun r => ret _
theorem fieldK {g : Bool} {o z : Nat} : Det (fieldK g o z a) := asAgg fun cs => by
  cases g
  · exact nthK _ _
  · exact bind (dropK _ _) fun r => bind (takeK _ _) fun r => ret _
theorem extractK {i : Nat} : Det (extractK i a) := asTup fun cs => nthK _ _
theorem faddrK {d : Nat} : Det (faddrK d a) := by
  cases a <;> first | exact .inl fun _ => rfl | exact .inr ⟨_, fun _ => rfl⟩
theorem iaddrK {z : Nat} : Det (iaddrK z a b) := by
  cases a <;> first | exact .inl fun _ => rfl | (cases b <;> first | exact .inl fun _ => rfl | exact rec4 _ _ _ _ _ bad (ret _))
theorem aaddrK {n z : Nat} : Det (aaddrK n z a b) := asPtr fun p o => belowK fun i => ret _
theorem slAtK {p : P4} {o z m l h : Nat} : Det (slAtK p o z m l h) := bk (ret _) (ret _)
theorem sliceK {z : Nat} {lo hi mx : Option AV} : Det (sliceK z a lo hi mx) := by
  unfold Ev.sliceK
  split
  · exact optK fun m => optK fun h => optK fun l => slAtK
  · refine wk ?_
    cases mx with
    | none => exact optK fun h => optK fun l => bk (bk (ret _) (ret _)) (ret _)
    | some m => exact inK fun m => optK fun h => optK fun l => slAtK
  · exact optK fun _ => optK fun _ => optK fun _ => ret _
  · cases mx with
    | none => exact optK fun _ => optK fun _ => ret _
    | some m => exact bad
  · exact bad
theorem sliceAK {n z : Nat} {lo hi mx : Option AV} : Det (sliceAK n z a lo hi mx) := asPtr fun p o => optK fun m => optK fun h => optK fun l => slAtK
theorem lenK : Det (lenK a) := by
  cases a <;> first | exact .inl fun _ => rfl | exact ret _ | (rename_i n; cases n <;> first | exact .inl fun _ => rfl | exact ret _)
theorem capK : Det (capK a) := by
  cases a <;> first | exact .inl fun _ => rfl | exact ret _ | (rename_i n; cases n <;> first | exact .inl fun _ => rfl | exact ret _)
theorem lenNK : Det (lenNK a) := by
  cases a <;> first | exact .inl fun _ => rfl | exact ret _ | (rename_i n; cases n <;> first | exact .inl fun _ => rfl | exact ret _)
theorem sliceDataK : Det (sliceDataK a) := by
  unfold Ev.sliceDataK
  split
  · exact ret _
  · exact bk bad (ret _)
  · exact bk bad (ret _)
  · exact bad
theorem nilCheckK : Det (nilCheckK a) := by
  cases a <;> first | exact .inl fun _ => rfl | exact ret _
theorem foundK {ok : Bool} : Det (foundK ok a) := by cases ok <;> exact ret _
theorem lackK {ok : Bool} : Det (lackK ok a) := by cases ok <;> exact ret _
theorem assertK {t : Nat} {ok : Bool} {z : AV} : Det (assertK t ok z a) := by
  unfold Ev.assertK
  split
  · cases ok; exact bad; exact ret _
  · refine bk foundK ?_
    cases ok; exact bad; exact ret _
  · exact bad
theorem eq1 {s : Nat} : Det (eq1 s a b) := by
  unfold Ev.eq1
  split
  all_goals first
    | exact bad
    | exact wk (ret _)
    | exact wk (bk (ret _) (ret _))
    | exact wk (wk (bk (ret _) (ret _)))
    | exact wk (wk (ret _))
    | exact wk (bk (bk (ret _) (ret _)) (ret _))
    | (rename_i p q; cases p <;> cases q <;> exact wk (ret _))
theorem eqL : ∀ {ss : AV} {a b : AV}, Det (eqL ss a b) := by
  intro ss
  induction ss with
  | nil => intro a b; cases a <;> first | exact .inl fun _ => rfl | (cases b <;> first | exact .inl fun _ => rfl | exact ret _)
  | cons s r _ ih =>
    intro a b
    cases s with
    | num s =>
      cases a with
      | cons a a' =>
        cases b with
        | cons b b' => exact bind (f := Ev.eq1 s a b) (g := fun t k => bK t (Ev.eqL r a' b' k) (k false)) eq1 fun t => bk ih (ret _)
        | _ => exact .inl fun _ => rfl
      | _ => exact .inl fun _ => rfl
    | _ => exact .inl fun _ => rfl
  | _ => intro a b; exact .inl fun _ => rfl
theorem eqVB {ks : AV} : Det (eqVB ks a b) := by
  unfold Ev.eqVB
  split
  · exact eq1
  · exact asAgg fun x => asAgg fun y => eqL
  · exact bad
theorem eqvK {ks : AV} : Det (eqvK ks a b) := bind (f := Ev.eqVB ks a b) (g := fun t k => bK t (k (AV.bool true)) (k (AV.bool false))) eqVB fun t => bk (ret _) (ret _)
theorem nevK {ks : AV} : Det (nevK ks a b) := bind (f := Ev.eqVB ks a b) (g := fun t k => bK t (k (AV.bool false)) (k (AV.bool true))) eqVB fun t => bk (ret _) (ret _)
theorem noNilsK {f : (α → Ans) → Ans} (hf : Det f) : Det (fun k => noNilsK a b (f k)) := by
  unfold Ev.noNilsK
  split
  · exact bad
  · exact hf
theorem lenL {f : (α → Ans) → Ans} (hf : Det f) : ∀ {ss cs : AV}, Det (fun k => Ev.lenL ss cs (f k)) := by
  intro ss
  induction ss with
  | nil => intro cs; cases cs <;> first | exact .inl fun _ => rfl | exact hf
  | cons s r _ ih => intro cs; cases cs <;> first | exact .inl fun _ => rfl | exact ih
  | _ => intro cs; exact .inl fun _ => rfl
theorem keyK {ks : AV} {f : (α → Ans) → Ans} (hf : Det f) : Det (fun k => keyK ks a (f k)) := by
  unfold Ev.keyK
  split
  · exact hf
  · refine asAgg fun cs => ?_
    exact lenL hf
  · exact bad
end D'
end Go.Ev

namespace Go.Ev
open Go
set_option linter.unusedSectionVars false
variable [Sym]
set_option linter.unusedVariables false
set_option linter.unusedSimpArgs false
namespace D'
variable {α β : Type} {a b c : AV}
theorem hget {h : H} {p : P4} {g : AO → (α → Ans) → Ans} (hg : ∀ o, Det (g o)) : Det (fun k => HgetK h p fun o => g o k) := by
  have : (fun k => HgetK h p fun o => g o k) = g (h.get p) := by funext k; rw [HgetK_eq]
  rw [this]; exact hg _
theorem cells {o : AO} {g : Nat → Bool → Nat → Nat → Bool → Row → (α → Ans) → Ans} (hg : ∀ a b c d e f, Det (g a b c d e f)) : Det (fun k => AOcellsK o fun a b c d e f => g a b c d e f k) := by
  cases o <;> first | exact .inl fun _ => rfl | exact hg _ _ _ _ _ _
theorem amap {o : AO} {g : Bool → ML → (α → Ans) → Ans} (hg : ∀ a b, Det (g a b)) : Det (fun k => AOmapK o fun a b => g a b k) := by
  cases o <;> first | exact .inl fun _ => rfl | exact hg _ _
theorem rget {c : Row} {i : Nat} : Det (RgetK c i) := .inr ⟨c.get i, fun k => RgetK_eq c i k⟩
theorem iter {o : AO} {g : P4 → Nat → Nat → List Nat → (α → Ans) → Ans} (hg : ∀ a b c d, Det (g a b c d)) : Det (fun k => AOiterK o fun a b c d => g a b c d k) := by
  cases o <;> first | exact .inl fun _ => rfl | exact hg _ _ _ _
theorem nthM {g : AV → AV → (α → Ans) → Ans} (hg : ∀ a v, Det (g a v)) : ∀ {es : ML} {i : Nat}, Det (fun k => es.nthK i fun a v => g a v k)
  | .nil, i => .inl fun _ => rfl
  | .cons a v r, 0 => hg a v
  | .cons a v r, i + 1 => nthM hg (es := r) (i := i)
theorem entryK {h : H} : Det (entryK a h) := by
  unfold Ev.entryK
  refine asPtr fun q o => wk (hget fun o => iter fun p n last r => hget fun b => amap fun d es => wk (wk ?_))
  cases last with
  | zero => exact .inl fun _ => rfl
  | succ i => exact nthM (g := fun a v k => k (AV.tup (AV.cons a (AV.cons v AV.nil)))) fun a v => ret (AV.tup (AV.cons a (AV.cons v AV.nil)))
theorem rowK {n : Nat} {c : Row} {i : Nat} : Det (rowK n c i) := .inr ⟨c.list n i, fun k => rowK_eq n c i k⟩
theorem loadK {h : H} : Det (loadK a h) := by
  cases a <;> first | exact .inl fun _ => rfl | skip
  rename_i p o
  refine hget (g := fun b k => @AO.rec (fun _ => Nat → (AV → Ans) → Ans) (fun _ _ => .bad) (fun _ _ _ n _ c o k => @Bool.rec (fun _ => Row → Nat → (AV → Ans) → Ans) (fun _ _ _ => .bad) RgetK (Nat.ble (Nat.succ o) n) c o k) (fun _ _ _ _ => .bad) (fun _ _ _ => .bad) (fun _ _ _ _ _ _ => .bad) (fun _ _ => .bad) (fun _ _ _ _ _ _ => .bad) b o k) fun b => ?_
  cases b <;> first | exact .inl fun _ => rfl | skip
  rename_i et mk fz n ex c
  have key : ∀ t : Bool, Det (fun k => @Bool.rec (fun _ => Row → Nat → (AV → Ans) → Ans) (fun _ _ _ => .bad) RgetK t c o k) := fun t => by cases t; exact .inl fun _ => rfl; exact rget
  exact key _
theorem loadAK {z : Nat} {h : H} : Det (loadAK z a h) := by
  cases a <;> first | exact .inl fun _ => rfl | skip
  rename_i p o
  refine hget (g := fun b k => @AO.rec (fun _ => Nat → Nat → (AV → Ans) → Ans) (fun _ _ _ => .bad) (fun _ _ _ n _ c o z k => @Bool.rec (fun _ => Row → Nat → Nat → (AV → Ans) → Ans) (fun _ _ _ _ => .bad) (fun c o z k => Ev.rowK z c o fun vs => k (.agg vs)) (Nat.ble (Nat.add o z) n) c o z k) (fun _ _ _ _ _ => .bad) (fun _ _ _ _ => .bad) (fun _ _ _ _ _ _ _ => .bad) (fun _ _ _ => .bad) (fun _ _ _ _ _ _ _ => .bad) b o z k) fun b => ?_
  cases b <;> first | exact .inl fun _ => rfl | skip
  rename_i et mk fz n ex c
  have key : ∀ t : Bool, Det (fun k => @Bool.rec (fun _ => Row → Nat → Nat → (AV → Ans) → Ans) (fun _ _ _ _ => .bad) (fun c o z k => Ev.rowK z c o fun vs => k (.agg vs)) t c o z k) := fun t => by
    cases t
    · exact .inl fun _ => rfl
    · exact bind (f := Ev.rowK z c o) (g := fun vs k => k (AV.agg vs)) rowK fun vs => ret _
  exact key _
theorem firstK {z n : Nat} {h : H} : Det (firstK z n a h) := by
  unfold Ev.firstK
  split
  · exact hget fun b => cells fun _ _ _ m _ c => wk rowK
  · exact hget fun b => cells fun _ _ _ m _ c => wk rowK
  · refine wk (wk ?_)
    have : ∀ (n x : Nat) (acc : AV), Det (bytesK n x acc) := fun n => by
      induction n with
      | zero => intro x acc; exact ret _
      | succ n ih => intro x acc; exact ih _ _
    exact this _ _ _
  · exact wk (ret _)
  · exact wk (ret _)
  · exact bad
theorem packB : ∀ {cs : AV} {acc : Nat}, Det (packB cs acc) := by
  intro cs
  induction cs with
  | nil => intro acc; exact .inr ⟨acc, fun _ => rfl⟩
  | cons c r _ ih =>
    intro acc
    cases c <;> first | exact .inl fun _ => rfl | skip
    rename_i kk n _
    by_cases hk : kk = 4
    · subst hk
      exact wk (f := Ev.packB r _) ih
    · refine .inl fun k => ?_
      unfold Ev.packB
      split
      · simp_all
      · simp_all
      · rfl
  | _ => intro acc; exact .inl fun _ => rfl
theorem zeroB {n : Nat} {h : H} : ∀ {G : (AV → Ans) → Ans}, Det G → ∀ {x : AV}, Det (fun k => zeroB a n h (k x) (G k)) := by
  intro G hG x
  have hS : Det (fun k => zeroS a n h (k x) (G k)) := by
    unfold zeroS
    split
    · refine hget fun b => cells fun _ _ _ m _ c => ?_
      unfold rzK
      split
      · exact wk (ret _)
      · exact hG
    · exact hG
  exact bk hG hS
theorem bytesToStrK {h : H} : Det (bytesToStrK a h) := by
  unfold Ev.bytesToStrK
  split
  · exact bad
  · exact bind (f := Ev.lenNK a) (g := fun n k => wK (Nat.ble n 4294967295) (Ev.zeroB a n h (k (AV.str n 0)) (Ev.firstK 1 n a h fun cs => Ev.packB cs 0 fun x => k (AV.str n x)))) lenNK fun n =>
      wk (zeroB (G := fun k => Ev.firstK 1 n a h fun cs => Ev.packB cs 0 fun x => k (AV.str n x)) (bind (f := Ev.firstK 1 n _ h) (g := fun cs k => Ev.packB cs 0 fun x => k (AV.str n x)) firstK fun cs => bind (f := Ev.packB cs 0) (g := fun x k => k (AV.str n x)) packB fun x => ret _))
theorem toUnsafeK {h : H} : Det (toUnsafeK a h) := by
  unfold Ev.toUnsafeK
  split
  · exact ret _
  · exact hget fun b => cells fun _ _ _ n _ _ => wk (ret _)
  · exact bad
theorem fromUnsafeK {l : Nat → Nat → Nat → Bool} {h : H} : Det (fromUnsafeK l a h) := by
  unfold Ev.fromUnsafeK
  split
  · exact ret _
  · exact hget fun b => cells fun et _ _ n ex _ => wk (wk (ret _))
  · exact bad
theorem mapLenK {h : H} : Det (mapLenK a h) := by
  unfold Ev.mapLenK
  split
  · exact ret _
  · exact hget fun b => amap fun _ es => wk (ret _)
  · exact bad
theorem findK {ks : AV} {key : AV} {yes : AV → (α → Ans) → Ans} {no : (α → Ans) → Ans} (hy : ∀ v, Det (yes v)) (hn : Det no) : ∀ es : ML, Det (fun k => findK ks key es (fun v => yes v k) (no k)) := by
  intro es
  induction es with
  | nil => exact hn
  | cons a v r ih => exact bind (f := Ev.eqVB ks key a) (g := fun t k => bK t (yes v k) (Ev.findK ks key r (fun v => yes v k) (no k))) eqVB fun t => bk (hy v) ih
theorem isPairs {ks : AV} {f : (α → Ans) → Ans} (hf : Det f) : Det (fun k => isPairs ks (f k)) := by
  unfold Ev.isPairs
  split
  · exact wk (wk hf)
  · exact bad
theorem lookupK {ks : AV} {ok : Bool} {z m key : AV} {h : H} : Det (lookupK ks ok z m key h) := by
  unfold Ev.lookupK
  split
  · exact keyK lackK
  · refine hget fun b => keyK ?_
    cases b <;> first | exact .inl fun _ => rfl | skip
    · exact findK (fun v => foundK) lackK _
    · exact isPairs (findK (fun v => foundK) bad _)
  · exact bad
theorem unLX (n : Nat) : ∀ v : AV, Det (unLX n v) := by
  induction n with
  | zero => intro v; exact nilk (ret _)
  | succ n ih => intro v; exact asCons fun a b => bind (f := Ev.unLX n b) (g := fun l k => k (a :: l)) (ih b) fun l => ret _
theorem congr {f g : (α → Ans) → Ans} (h : ∀ k, f k = g k) (d : Det g) : Det f := by
  rcases d with d | ⟨a, d⟩
  · exact .inl fun k => (h k).trans (d k)
  · exact .inr ⟨a, fun k => (h k).trans (d k)⟩
theorem partsK : ∀ (ps : List (Nat × Nat × Bool × Bool × AV)) (l : List AV), Det (partsK ps l)
  | [], l => ret l
  | (off, z, ag, cn, v) :: ps, l => by
    have ih := fun l => partsK ps l
    cases hb : Nat.ble (off + z) l.length
    · exact .inl fun k => by show Ev.partsK ((off, z, ag, cn, v) :: ps) l k = .bad; rw [Ev.partsK.eq_def]; dsimp only; rw [hb]
    · cases ag
      · cases hz : Nat.beq z 1
        · exact .inl fun k => by show Ev.partsK ((off, z, false, cn, v) :: ps) l k = .bad; rw [Ev.partsK.eq_def]; dsimp only; rw [hb]; dsimp only; rw [hz]
        · cases cn
          · refine congr (fun k => by rw [Ev.partsK]; rw [hb]; dsimp only; rw [hz]) (cellk (v := v) (ih (setL off [v] l)))
          · cases hc : v.isCell
            · exact .inl fun k => by show Ev.partsK ((off, z, false, true, v) :: ps) l k = .bad; rw [Ev.partsK]; rw [hb]; dsimp only; rw [hz]; dsimp only; rw [hc]
            · refine congr (fun k => by rw [Ev.partsK]; rw [hb]; dsimp only; rw [hz]; dsimp only; rw [hc]) (ih (setL off [v] l))
      · refine congr (fun k => by rw [Ev.partsK]; rw [hb]) (asAgg (v := v) (g := fun cs k => Ev.unLX z cs fun vs => Ev.partsK ps (setL off vs l) k) fun cs => bind (f := Ev.unLX z cs) (g := fun vs k => Ev.partsK ps (setL off vs l) k) (unLX z cs) fun vs => ih _)
end D'

variable {P : Program}
def DkDet : DK → Prop
  | .pure f => Det f
  | .read f => ∀ h, Det (f h)
  | _ => True

theorem dBuiltin_det (bi : Builtin) (ts : Array TypeId) (vs : List AV) : DkDet (dBuiltin P bi ts vs) := by
  unfold dBuiltin
  repeat' split
  all_goals first
    | trivial
    | exact D'.asStr fun n _ => D'.ret _
    | exact D'.lenK
    | exact D'.capK
    | exact fun h => D'.mapLenK
    | exact D'.sliceDataK
    | exact D'.minK
    | exact D'.maxK
theorem dBin_det (op : BinOp) (t : TypeId) (cn : Bool) (a b : AV) : DkDet (dBin P op t cn a b) := by
  unfold dBin dEql dNeq
  repeat' split
  all_goals first
    | trivial
    | exact D'.beqK
    | exact D'.bneK
    | exact D'.eqK
    | exact D'.neK
    | exact D'.seqK
    | exact D'.sneK
    | exact D'.eqvK
    | exact D'.nevK
    | exact D'.noNilsK D'.eqvK
    | exact D'.noNilsK D'.nevK
    | exact D'.addK
    | exact D'.subK
    | exact D'.mulK
    | exact D'.quoK
    | exact D'.remK
    | exact D'.andK
    | exact D'.bitsS
    | exact D'.shlS
    | exact D'.shrS
    | exact D'.ltK
    | exact D'.geK
    | exact D'.saddK
    | exact D'.sltK
    | exact D'.sgeK

theorem dk_det (o : Op) (vs : List AV) : DkDet (dk P o vs) := by
  unfold dk
  split
  all_goals first
    | trivial
    | exact dBin_det _ _ _ _ _
    | exact dBuiltin_det _ _ _
    | exact D'.nilCheckK
    | exact D'.pickK
    | exact D'.notK
    | exact D'.negS
    | exact D'.extractK
    | skip
  all_goals (repeat' split)
  all_goals first
    | trivial
    | exact fun h => D'.loadAK
    | exact fun h => D'.loadK
    | exact D'.toIntK
    | exact D'.convS
    | exact D'.asStr fun n x => D'.ret _
    | exact fun h => D'.bytesToStrK
    | exact fun h => D'.toUnsafeK
    | exact fun h => D'.fromUnsafeK
    | exact D'.scutK
    | exact D'.sliceK
    | exact D'.sliceAK
    | exact D'.faddrK
    | exact D'.fieldK
    | exact D'.iaddrK
    | exact D'.aaddrK
    | exact D'.sidxK
    | exact D'.aidxK
    | exact fun h => D'.lookupK
    | exact fun h => D'.entryK
    | exact D'.assertK
    | exact D'.bind (D'.partsK _ _) fun l => D'.ret _
theorem D.val_inj' {d e : D} (h : d.val = e.val) : d = e := D.val_inj h
theorem AV.same_eq : ∀ {a b : AV}, a.same b = true → a = b := by
  intro a
  induction a with
  | bool x => intro b h; cases b <;> first | (cases h; done) | (rename_i y; cases x <;> cases y <;> first | rfl | cases h)
  | num n => intro b h; cases b <;> first | (cases h; done) | (rw [Ev.beq_true h])
  | int j n => intro b h; cases b <;> first | (cases h; done) | (obtain ⟨h1, h2⟩ := Bool.and_eq_true_iff.1 h; rw [Ev.beq_true h1, Ev.beq_true h2])
  | neg j n => intro b h; cases b <;> first | (cases h; done) | (obtain ⟨h1, h2⟩ := Bool.and_eq_true_iff.1 h; rw [Ev.beq_true h1, Ev.beq_true h2])
  | str n x => intro b h; cases b <;> first | (cases h; done) | (obtain ⟨h1, h2⟩ := Bool.and_eq_true_iff.1 h; rw [Ev.beq_true h1, Ev.beq_true h2])
  | ptr p o => intro b h; cases b <;> first | (cases h; done) | (obtain ⟨h1, h2⟩ := Bool.and_eq_true_iff.1 h; rw [P4.beq_true h1, Ev.beq_true h2])
  | sl p o l c => intro b h; cases b <;> first | (cases h; done) | (obtain ⟨h1, h2⟩ := Bool.and_eq_true_iff.1 h; obtain ⟨h2, h3⟩ := Bool.and_eq_true_iff.1 h2; obtain ⟨h3, h4⟩ := Bool.and_eq_true_iff.1 h3; rw [P4.beq_true h1, Ev.beq_true h2, Ev.beq_true h3, Ev.beq_true h4])
  | slo p o l c => intro b h; cases b <;> first | (cases h; done) | (obtain ⟨h1, h2⟩ := Bool.and_eq_true_iff.1 h; obtain ⟨h2, h3⟩ := Bool.and_eq_true_iff.1 h2; obtain ⟨h3, h4⟩ := Bool.and_eq_true_iff.1 h3; rw [P4.beq_true h1, Ev.beq_true h2, Ev.beq_true h3, Ev.beq_true h4])
  | map p => intro b h; cases b <;> first | (cases h; done) | (rw [P4.beq_true h])
  | fn g f c i1 i2 => intro b h; cases b <;> first | (cases h; done) | (obtain ⟨h1, h2⟩ := Bool.and_eq_true_iff.1 h; obtain ⟨h2, h3⟩ := Bool.and_eq_true_iff.1 h2; rw [G3.val_inj (Ev.beq_true h1), i1 h2, i2 h3])
  | yld g p => intro b h; cases b <;> first | (cases h; done) | (obtain ⟨h1, h2⟩ := Bool.and_eq_true_iff.1 h; rw [G3.val_inj (Ev.beq_true h1), P4.beq_true h2])
  | ifc t v i1 => intro b h; cases b <;> first | (cases h; done) | (obtain ⟨h1, h2⟩ := Bool.and_eq_true_iff.1 h; rw [Ev.beq_true h1, i1 h2])
  | agg c i1 => intro b h; cases b <;> first | (cases h; done) | (rw [i1 h])
  | tup c i1 => intro b h; cases b <;> first | (cases h; done) | (rw [i1 h])
  | nl n => intro b h; cases b <;> first | (cases h; done) | (rename_i m; cases n <;> cases m <;> first | rfl | cases h)
  | nil => intro b h; cases b <;> first | (cases h; done) | rfl
  | cons a r i1 i2 => intro b h; cases b <;> first | (cases h; done) | (obtain ⟨h1, h2⟩ := Bool.and_eq_true_iff.1 h; rw [i1 h1, i2 h2])
end Go.Ev

namespace Go.Ev
open Go
set_option linter.unusedSectionVars false
variable [Sym]
set_option linter.unusedVariables false
set_option linter.unusedSimpArgs false
variable {P : Program} {rt : Nat → Option RT} {call : C3} {ι : Inj} {h : H} {w : World}
variable {ι0 : Inj} {h0 : H} {w0 : World} {nt : Nat} {dfr : Bool} {e : Env} {a : Act} {F : Fence} {kpe : Env → KV}
inductive OpA (nt : Nat) (e : Env) : Operand → AV → Prop where
  | tmp {t : Nat} {v : AV} (h : t < nt) (hv : e.get t = some v) : OpA nt e (.tmp t) v
  | const {c : Value} {v : AV} (h : ofVal vfuel c = some v) : OpA nt e (.const c) v
  | glob {g : Nat} (h : g ≤ 7) : OpA nt e (.global g) (.ptr (P4.ofNat g) 0)
  | func {f : Nat} (h : f ≤ 4095) : OpA nt e (.func f) (.fn (G3.ofNat f) .nil .nil)
inductive OpsA (nt : Nat) (e : Env) : List Operand → List AV → Prop where
  | nil : OpsA nt e [] []
  | cons {x : Operand} {v : AV} {xs : List Operand} {vs : List AV} (h : OpA nt e x v) (h' : OpsA nt e xs vs) : OpsA nt e (x :: xs) (v :: vs)
theorem opnd_A {x : Operand} {k : AV → Ans} (hk : opnd nt e x k = .good) : ∃ v, OpA nt e x v ∧ k v = .good := by
  cases x with
  | tmp t =>
    have hk : (match Nat.ble (t + 1) nt with | true => (match e.get t with | some v => k v | none => .bad) | false => .bad) = .good := hk
    cases hb : Nat.ble (t + 1) nt
    · rw [hb] at hk; cases hk
    · rw [hb] at hk
      cases hv : e.get t with
      | none => simp only [hv] at hk; cases hk
      | some v => simp only [hv] at hk; exact ⟨v, .tmp (ble_true hb) hv, hk⟩
  | const c =>
    have hk : (match ofVal vfuel c with | some v => k v | none => .bad) = .good := hk
    cases hv : ofVal vfuel c with
    | none => rw [hv] at hk; cases hk
    | some v => rw [hv] at hk; exact ⟨v, .const hv, hk⟩
  | global g =>
    have hk : (match Nat.ble g 7 with | true => k (.ptr (P4.ofNat g) 0) | false => .bad) = .good := hk
    cases hb : Nat.ble g 7
    · rw [hb] at hk; cases hk
    · rw [hb] at hk; exact ⟨_, .glob (ble_true hb), hk⟩
  | func f =>
    have hk : (match Nat.ble f 4095 with | true => k (.fn (G3.ofNat f) .nil .nil) | false => .bad) = .good := hk
    cases hb : Nat.ble f 4095
    · rw [hb] at hk; cases hk
    · rw [hb] at hk; exact ⟨_, .func (ble_true hb), hk⟩
theorem opnds_A : ∀ {xs : List Operand} {k : List AV → Ans}, opnds nt e xs k = .good → ∃ vs, OpsA nt e xs vs ∧ k vs = .good
  | [], k, hk => ⟨[], .nil, hk⟩
  | x :: xs, k, hk => by
    obtain ⟨v, h1, hk⟩ := opnd_A (k := fun v => opnds nt e xs fun vs => k (v :: vs)) hk
    obtain ⟨vs, h2, hk⟩ := opnds_A (k := fun vs => k (v :: vs)) hk
    exact ⟨v :: vs, .cons h1 h2, hk⟩
def EnvM (ι : Inj) (nt : Nat) (e : Env) (a : Act) : Prop := ∀ t v, t < nt → e.get t = some v → ∃ u, a.tmps[t]? = some u ∧ VR ι v u
theorem OpA.vr {x : Operand} {v : AV} (h : OpA nt e x v) (G : Glob ι) (m : EnvM ι nt e a) : VR ι v (a.eval x) := by
  cases h with
  | tmp h hv =>
    obtain ⟨u, h1, h2⟩ := m _ _ h hv
    show VR ι v (a.tmps.getD _ undef)
    rw [Array.getD_eq_getD_getElem?, h1]
    exact h2
  | const h => exact ofVal_VR h
  | glob h => obtain ⟨z, hz⟩ := G _ (Nat.lt_succ_of_le h); exact .ptr 0 hz
  | func h => exact .fn (G3.ofNat_val h) .nil .nil
theorem OpsA.vr {xs : List Operand} {vs : List AV} (h : OpsA nt e xs vs) (G : Glob ι) (m : EnvM ι nt e a) : VRs ι vs (xs.map a.eval) := by
  induction h with
  | nil => exact .nil
  | cons h _ ih => exact .cons (h.vr G m) ih

noncomputable def decG (g : AV) (want : Bool) : Bool := match g with | .bool b => b == want | _ => false
theorem gK_dec (g : AV) (want : Bool) (t e : Ans) : gK g want t e = bif decG g want then t else e := by
  cases want <;> cases g <;> first | rfl | (rename_i b; cases b <;> rfl)
theorem decG_V {g : AV} {u : Value} {want : Bool} (h : VR ι g u) : (vBool u == some want) = decG g want := by
  cases h <;> first | rfl | (rename_i b; cases b <;> cases want <;> rfl)
inductive GuA (nt : Nat) (ops : Array Oper) (e : Env) (o : Oper) : GV → Prop where
  | no (h : o.guard = none) : GuA nt ops e o .no
  | is {j t : Nat} {want : Bool} {g : AV} (h : o.guard = some (j, want)) (hd : (ops[j]?).bind (·.dst) = some t) (ht : t < nt) (hv : e.get t = some g) : GuA nt ops e o (.is g want)
  | bad : GuA nt ops e o .bad
theorem guard_A (ops : Array Oper) (e : Env) (o : Oper) : GuA nt ops e o (guardOf nt ops o e) := by
  unfold guardOf
  cases hg : o.guard with
  | none => exact .no hg
  | some p =>
    obtain ⟨j, want⟩ := p
    dsimp only
    cases hd : (ops[j]?).bind (·.dst) with
    | none => exact .bad
    | some t =>
      dsimp only
      cases hb : Nat.ble (t + 1) nt with
      | false => exact .bad
      | true =>
        dsimp only
        cases hv : e.get t with
        | none => exact .bad
        | some v => exact .is hg hd (ble_true hb) hv
noncomputable def wantedA : GV → Bool
  | .no => true
  | .is g want => decG g want
  | .bad => false
theorem GuA.wanted {ops : Array Oper} {o : Oper} {g : GV} (h : GuA nt ops e o g) (hb : g ≠ .bad) (m : EnvM ι nt e a) : Region.wanted o (yielded ops a.tmps) = wantedA g := by
  cases h with
  | no h => exact wanted_no h
  | is h hd ht hv =>
    obtain ⟨u, h1, h2⟩ := m _ _ ht hv
    show _ = decG _ _
    rw [← decG_V h2]
    unfold Region.wanted yielded
    rw [h]
    dsimp only
    rw [hd, Option.bind_some]
    simp only [h1]
    cases u <;> rfl
  | bad => exact absurd rfl hb

theorem get_only {p : Nat → Bool} : ∀ {e : Env} {t : Nat} {v : AV}, (Env.only p e).get t = some v → p t = true ∧ e.get t = some v
  | [], t, v, h => by cases h
  | (d, x) :: l, t, v, h => by
    have h : Env.get (match p d with | true => (d, x) :: Env.only p l | false => Env.only p l) t = some v := h
    rw [Env.get_cons]
    cases hp : p d with
    | true =>
      rw [hp] at h
      dsimp only at h
      rw [Env.get_cons] at h
      by_cases e : d = t
      · rw [if_pos e] at h ⊢; exact ⟨by rw [← e]; exact hp, h⟩
      · rw [if_neg e] at h ⊢; exact get_only h
    | false =>
      rw [hp] at h
      obtain ⟨h1, h2⟩ := get_only (e := l) h
      by_cases e : d = t
      · rw [e] at hp; rw [hp] at h1; cases h1
      · rw [if_neg e]; exact ⟨h1, h2⟩
def AllocF (f : H → (AV → H → Ans) → Ans) (o : AO) (mk : P4 → AV) : Prop := ∀ h k, f h k = HnewK h o fun p h => k (mk p) h
def AllocD (P : Program) : Prop := ∀ (o : Op) (vs : List AV) (f : H → (AV → H → Ans) → Ans) (h : H) (k : AV → H → Ans), isConv o = false → dk P o vs = .alloc f → f h k = .good → ∃ b mk, b ≠ .no ∧ AllocF f b mk
def AllocM (P : Program) : Prop := ∀ {ι : Inj} {ρ : Operand → Value} {o : Oper} {xs : List Operand} {vs : List AV} {f : H → (AV → H → Ans) → Ans} {b : AO} {mk : P4 → AV} {h : H} {k : AV → H → Ans}, isConv o.op = false → dArgs o.op = some xs → VRs ι vs (xs.map ρ) →
  dk P o.op vs = .alloc f → AllocF f b mk → f h k = .good → ∃ (X : Obj) (mkV : Nat → Value) (z : Nat), (∀ w, (execOp ρ o).run P w = .ok (.value (mkV w.heap.size)) { w with heap := w.heap.push X }) ∧
    ∀ rt ι' n, Ext ι ι' → ι' h.nx = some (n, z) → OR rt ι' z b X ∧ VR ι' (mk h.nx) (mkV n)
theorem Post.phantom {q : P4} {o : AO} (p : Post rt ι0 h0 w0 ι h w) (hq : q.val = h.nx.val + 1) : Post rt ι0 h0 w0 ι ⟨q, h.t.put h.nx o⟩ w := by
  have m := p.mr
  have hn : ι h.nx = none := m.fresh (Nat.le_refl _)
  have hg : ∀ r, H.get ⟨q, h.t.put h.nx o⟩ r = if r = h.nx then o else h.get r := fun r => B4.at_put _ _ _ _
  have hne : ∀ r x, ι r = some x → r ≠ h.nx := fun r x hr e => by subst e; rw [hn] at hr; cases hr
  refine ⟨p.ext, p.new, fun r x hr hd => ?_, ⟨fun r r' b z z' hr hr' h1 h2 => ?_, fun r b z hr hl => ?_, fun r x hr => ?_, m.old, fun r hle => ?_⟩, p.fr, fun r hs => ?_, by show h0.nx.val ≤ q.val; have := p.nx; omega, fun r hr hlt => ?_⟩
  · rw [hg, if_neg (hne r x (p.ext _ _ hr))]; exact p.dead r x hr hd
  · rw [hg, if_neg (hne r _ hr)] at h1
    rw [hg, if_neg (hne r' _ hr')] at h2
    exact m.inj r r' b z z' hr hr' h1 h2
  · rw [hg, if_neg (hne r _ hr)] at hl ⊢
    exact m.obj r b z hr hl
  · show r.val < q.val
    have := m.low r x hr; omega
  · have hle : q.val ≤ r.val := hle
    rw [hg, if_neg (fun e => by subst e; omega)]
    exact m.free r (by omega)
  · have e := p.keepS r hs
    rw [hg, if_neg, e]
    intro hr; subst hr
    have := m.free h.nx (Nat.le_refl _)
    rw [e] at this
    exact hs.ne this
  · obtain ⟨h1, h2⟩ := p.phan r hr hlt
    refine ⟨h1, ?_⟩
    rw [hg, if_neg]
    · exact h2
    · intro e; subst e
      have := p.nx; omega
theorem Post.real {q : P4} {X : Obj} {z : Nat} {w' : World} (p : Post rt ι0 h0 w0 ι h w) (hq : ι q = none) (h1 : h0.nx.val ≤ q.val) (h2 : q.val < h.nx.val) (s : PushW w w' X) (hO : OR rt (upd ι q (w.heap.size, z)) z (h.get q) X) :
    Post rt ι0 h0 w0 (upd ι q (w.heap.size, z)) h w' := by
  have m := p.mr
  have e : Ext ι (upd ι q (w.heap.size, z)) := upd_ext _ hq
  have hu : ∀ r b y, upd ι q (w.heap.size, z) r = some (b, y) → (r = q ∧ b = w.heap.size ∧ y = z) ∨ (r ≠ q ∧ ι r = some (b, y)) := fun r b y hr => by
    unfold upd at hr
    by_cases hrn : r = q
    · rw [if_pos hrn] at hr; injection hr with hr; injection hr with h1 h2; exact .inl ⟨hrn, h1.symm, h2.symm⟩
    · rw [if_neg hrn] at hr; exact .inr ⟨hrn, hr⟩
  refine ⟨p.ext.trans e, fun r b y hr => ?_, p.dead, ⟨fun r r' b y y' hr hr' hl hl' => ?_, fun r b y hr hl => ?_, fun r x hr => ?_, fun r b y hr => ?_, m.free⟩,
    ⟨s.os.trans p.fr.os, s.tape.trans p.fr.tape, s.output.trans p.fr.output, by rw [s.size]; have := p.fr.size; omega, fun b y hb hs => ?_⟩, p.keepS, p.nx, fun r hr hlt => ?_⟩
  · rcases hu r b y hr with ⟨_, hb, _⟩ | ⟨_, hb⟩
    · subst hb; exact .inr (.inr p.fr.size)
    · exact p.new r b y hb
  · rcases hu r b y hr with ⟨e1, e2, _⟩ | ⟨e1, e2⟩ <;> rcases hu r' b y' hr' with ⟨e3, e4, _⟩ | ⟨e3, e4⟩
    · rw [e1, e3]
    · have := m.old r' b y' e4; omega
    · have := m.old r b y e2; omega
    · exact m.inj r r' b y y' e2 e4 hl hl'
  · rcases hu r b y hr with ⟨e1, e2, e3⟩ | ⟨e1, e2⟩
    · subst e1; subst e2; subst e3
      exact ⟨X, s.get_new, hO⟩
    · obtain ⟨x', h5, h6⟩ := m.obj r b y e2 hl
      exact ⟨x', by rw [s.get_lt (m.old r b y e2)]; exact h5, h6.ext e⟩
  · obtain ⟨b, y⟩ := x
    rcases hu r b y hr with ⟨e1, _⟩ | ⟨_, e2⟩
    · subst e1; exact h2
    · exact m.low r _ e2
  · rw [s.size]
    rcases hu r b y hr with ⟨_, e2, _⟩ | ⟨_, e2⟩
    · omega
    · have := m.old r b y e2; omega
  · have := p.fr.block b y hb hs
    rw [s.get_lt (Array.getElem?_eq_some_iff.1 this).1]; exact this
  · have hne : r ≠ q := fun e => by subst e; omega
    obtain ⟨h5, h6⟩ := p.phan r hr hlt
    exact ⟨by unfold upd; rw [if_neg hne]; exact h5, h6⟩
noncomputable def RdE.on (r : RdE) : Bool := match r.g with | none => true | some (g, want) => decG g want
theorem chkK_good : ∀ {rd : List RdE} {k : Ans}, (∀ r ∈ rd, Det (r.f h)) → chkK h rd k = .good → k = .good ∧ ∀ r ∈ rd, r.on = true → ∀ k, r.f h k = k r.v
  | [], k, hd, hk => ⟨hk, fun r hr => by cases hr⟩
  | r :: rd, k, hd, hk => by
    have one : ∀ {k' : Ans}, (r.f h fun u => sameVK u r.v k') = .good → k' = .good ∧ ∀ k, r.f h k = k r.v := fun {k'} hk => by
      obtain ⟨u, hu⟩ := (hd r (.head _)).good hk
      rw [hu] at hk
      obtain ⟨h1, h2⟩ := wK_good hk
      have := AV.same_eq h1
      subst this
      exact ⟨h2, hu⟩
    have hk : (match r.g with
      | none => r.f h fun u => sameVK u r.v (chkK h rd k)
      | some (g, want) => gK g want (r.f h fun u => sameVK u r.v (chkK h rd k)) (chkK h rd k)) = .good := hk
    have both : chkK h rd k = .good ∧ (r.on = true → ∀ k, r.f h k = k r.v) := by
      unfold RdE.on
      cases hg : r.g with
      | none =>
        rw [hg] at hk
        obtain ⟨h1, h2⟩ := one hk
        exact ⟨h1, fun _ => h2⟩
      | some gw =>
        obtain ⟨g, want⟩ := gw
        rw [hg] at hk
        dsimp only at hk ⊢
        rw [gK_dec] at hk
        cases hdg : decG g want with
        | true =>
          rw [hdg] at hk
          obtain ⟨h1, h2⟩ := one hk
          exact ⟨h1, fun _ => h2⟩
        | false => rw [hdg] at hk; exact ⟨hk, fun e => by cases e⟩
    obtain ⟨h1, h2⟩ := both
    obtain ⟨h3, h4⟩ := chkK_good (fun r hr => hd r (.tail _ hr)) h1
    refine ⟨h3, fun r' hr' => ?_⟩
    rcases List.mem_cons.1 hr' with rfl | hr'
    · exact h2
    · exact h4 r' hr'
end Go.Ev

namespace Go.Ev
open Go
set_option linter.unusedSectionVars false
variable [Sym]
set_option linter.unusedVariables false
set_option linter.unusedSimpArgs false
variable {P : Program} {rt : Nat → Option RT} {call : C3} {ι ι' : Inj} {h h' : H} {w w' : World}
variable {ι0 : Inj} {h0 : H} {w0 : World} {nt : Nat} {dfr : Bool} {e e0 : Env} {a : Act} {F : Fence} {kpe : Env → KV}
variable {ops : Array Oper} {bf : Array Nat} {effs done : List Nat} {rd rd' : List RdE} {al al' : List (Nat × P4)} {S : Nat → Prop} {Q : Exit → Act → World → Prop}
def dstA (ops : Array Oper) (i : Nat) : Option Nat := (ops[i]?).bind (·.dst)
theorem dstA_eq {i : Nat} {o : Oper} (ho : ops[i]? = some o) : dstA ops i = o.dst := by unfold dstA; rw [ho]; rfl
theorem dstA_lt {i t : Nat} (h : dstA ops i = some t) : i < ops.size := by
  unfold dstA at h
  cases ho : ops[i]? with
  | none => rw [ho] at h; cases h
  | some o => exact (Array.getElem?_eq_some_iff.1 ho).1
theorem contains_iff {l : List Nat} {x : Nat} : l.contains x = true ↔ x ∈ l := by simp
theorem drawOk_spec (h : drawOk ops bf = true) {i j t : Nat} {o : Oper} (ho : ops[i]? = some o) (hij : j ≠ i) (hd : dstA ops j = some t) :
    o.dst ≠ some t ∧ (t ∈ readsOf ops o → (bf.getD i 0).testBit j = true ∨ (bf.getD j 0).testBit i = true) := by
  unfold drawOk at h
  have hi : i < ops.size := (Array.getElem?_eq_some_iff.1 ho).1
  have hj := dstA_lt hd
  have h1 := (List.all_eq_true.1 h) i (List.mem_range.2 hi)
  rw [ho] at h1
  dsimp only at h1
  obtain ⟨_, h1⟩ := Bool.and_eq_true_iff.1 h1
  have h1 := (List.all_eq_true.1 h1) j (List.mem_range.2 hj)
  rw [Bool.or_eq_true_iff] at h1
  rcases h1 with h1 | h1
  · exact absurd (Nat.eq_of_beq_eq_true h1).symm hij
  · unfold dstA at hd
    cases hp : ops[j]? with
    | none => rw [hp] at hd; cases hd
    | some p =>
      rw [hp] at hd h1
      have hd : p.dst = some t := hd
      dsimp only at h1
      rw [hd] at h1
      dsimp only at h1
      obtain ⟨h2, h3⟩ := Bool.and_eq_true_iff.1 h1
      refine ⟨fun e => by rw [e] at h2; simp at h2, fun ht => ?_⟩
      rw [Bool.or_eq_true_iff] at h3
      rcases h3 with h3 | h3
      · rw [contains_iff.2 ht] at h3; cases h3
      · exact Bool.or_eq_true_iff.1 h3
theorem drawOk_edges (h : drawOk ops bf = true) {i : Nat} {o : Oper} (ho : ops[i]? = some o) {x : Edge} (hx : x ∈ o.after) (hb : Region.binds .any x = true) : x.on < ops.size ∧ (bf.getD i 0).testBit x.on = true := by
  unfold drawOk at h
  have hi : i < ops.size := (Array.getElem?_eq_some_iff.1 ho).1
  have h1 := (List.all_eq_true.1 h) i (List.mem_range.2 hi)
  rw [ho] at h1
  dsimp only at h1
  obtain ⟨h1, _⟩ := Bool.and_eq_true_iff.1 h1
  obtain ⟨_, h1⟩ := Bool.and_eq_true_iff.1 h1
  have h2 := Array.all_eq_true_iff_forall_mem.1 h1 x hx
  rw [hb] at h2
  obtain ⟨h3, h4⟩ := Bool.and_eq_true_iff.1 h2
  exact ⟨Ev.ble_true h3, h4⟩
theorem nextOk_spec {n i : Nat} (h : nextOk bf n effs done i = true) : i < n ∧ i ∉ done ∧ (∀ j, j < n → (bf.getD i 0).testBit j = true → j ∈ done) ∧
    (i ∈ effs → ∀ j, j < n → j ≠ i → j ∉ done → (j ∈ effs ∧ (bf.getD j 0).testBit i = true) ∨ ∃ x, x ∈ effs ∧ x ∉ done ∧ (bf.getD j 0).testBit x = true) := by
  unfold nextOk at h
  obtain ⟨h, h4⟩ := Bool.and_eq_true_iff.1 h
  obtain ⟨h, h3⟩ := Bool.and_eq_true_iff.1 h
  obtain ⟨h1, h2⟩ := Bool.and_eq_true_iff.1 h
  refine ⟨Ev.ble_true h1, fun hd => (by rw [contains_iff.2 hd] at h2; cases h2), fun j hj hb => ?_, fun he j hj hji hjd => ?_⟩
  · have := (List.all_eq_true.1 h3) j (List.mem_range.2 hj)
    rw [hb] at this
    exact contains_iff.1 this
  · rw [Bool.or_eq_true_iff] at h4
    rcases h4 with h4 | h4
    · rw [contains_iff.2 he] at h4; cases h4
    · have h5 := (List.all_eq_true.1 h4) j (List.mem_range.2 hj)
      rw [Bool.or_eq_true_iff, Bool.or_eq_true_iff] at h5
      rcases h5 with (h5 | h5) | h5
      · exact absurd (Nat.eq_of_beq_eq_true h5).symm hji
      · exact absurd (contains_iff.1 h5) hjd
      · cases hc : effs.contains j with
        | true => rw [hc] at h5; exact .inl ⟨contains_iff.1 hc, h5⟩
        | false =>
          rw [hc] at h5
          obtain ⟨x, h6, h7⟩ := List.any_eq_true.1 h5
          obtain ⟨h7, h8⟩ := Bool.and_eq_true_iff.1 h7
          exact .inr ⟨x, h6, fun hx => (by rw [contains_iff.2 hx] at h7; cases h7), h8⟩
theorem dropL_mem {b : Nat} {t : Nat} : ∀ {done : List Nat} {j : Nat}, j ∈ done → b.testBit j = false → dstA ops j = some t → t ∈ dropL ops b done
  | i :: is, j, hj, hb, hd => by
    show t ∈ (match b.testBit i with | true => dropL ops b is | false => (match (ops[i]?).bind (·.dst) with | some t => t :: dropL ops b is | none => dropL ops b is))
    rcases List.mem_cons.1 hj with rfl | hj
    · rw [hb]
      dsimp only
      unfold dstA at hd
      rw [hd]
      exact .head _
    · have ih := dropL_mem hj hb hd
      cases b.testBit i with
      | true => exact ih
      | false =>
        dsimp only
        cases (ops[i]?).bind (·.dst) with
        | none => exact ih
        | some t' => exact .tail _ ih

theorem set_get {dst : Option Nat} {v : AV} {t : Nat} (hd : dst = some t) : (Env.set e dst v).get t = some v := by
  subst hd
  show Env.get ((t, v) :: e) t = _
  rw [Env.get_cons, if_pos rfl]
theorem set_get_ne {dst : Option Nat} {v : AV} {t : Nat} (hd : dst ≠ some t) : (Env.set e dst v).get t = e.get t := by
  cases dst with
  | none => rfl
  | some d =>
    show Env.get ((d, v) :: e) t = _
    rw [Env.get_cons, if_neg (fun e => hd (by rw [e]))]
theorem put_get {dst : Option Tmp} {u : Value} {t : Nat} (hd : dst = some t) (ht : t < a.tmps.size) : (a.put dst u).tmps[t]? = some u := by
  subst hd
  show (a.tmps.setIfInBounds t u)[t]? = _
  rw [Array.getElem?_setIfInBounds, if_pos rfl, if_pos ht]
theorem put_get_ne {dst : Option Tmp} {u : Value} {t : Nat} (hd : dst ≠ some t) : (a.put dst u).tmps[t]? = a.tmps[t]? := by
  cases dst with
  | none => rfl
  | some d =>
    show (a.tmps.setIfInBounds d u)[t]? = _
    rw [Array.getElem?_setIfInBounds, if_neg (fun e => hd (by rw [e]))]
theorem put_size {dst : Option Tmp} {u : Value} : (a.put dst u).tmps.size = a.tmps.size := by
  cases dst with
  | none => rfl
  | some d => show (a.tmps.setIfInBounds d u).size = _; rw [Array.size_setIfInBounds]
theorem put_dfrs {dst : Option Tmp} {u : Value} : (a.put dst u).defers = a.defers := by cases dst <;> rfl
inductive DOrd (bf : Array Nat) (n : Nat) : List Nat → Prop where
  | nil : DOrd bf n []
  | cons {i : Nat} {d : List Nat} (h : ∀ j, j < n → (bf.getD i 0).testBit j = true → j ∈ d) (h' : DOrd bf n d) : DOrd bf n (i :: d)
theorem DOrd.closed {n : Nat} (o : DOrd bf n done) : ∀ {i j : Nat}, i ∈ done → j < n → (bf.getD i 0).testBit j = true → j ∈ done := by
  induction o with
  | nil => intro i j h; cases h
  | cons h _ ih =>
    intro i j hi hj hb
    rcases List.mem_cons.1 hi with rfl | hi
    · exact .tail _ (h j hj hb)
    · exact .tail _ (ih hi hj hb)
theorem DOrd.first {n : Nat} (o : DOrd bf n done) (S : Nat → Prop) : (∀ i ∈ done, S i) ∨ ∃ i ∈ done, ¬ S i ∧ ∀ j, j < n → (bf.getD i 0).testBit j = true → S j := by
  induction o with
  | nil => exact .inl fun i h => by cases h
  | @cons i d h _ ih =>
    rcases ih with ih | ⟨j, h1, h2⟩
    · by_cases hi : S i
      · exact .inl fun j hj => by
          rcases List.mem_cons.1 hj with rfl | hj
          · exact hi
          · exact ih j hj
      · exact .inr ⟨i, .head _, hi, fun j hj hb => ih j (h j hj hb)⟩
    · exact .inr ⟨j, .tail _ h1, h2⟩
def EJ (ops : Array Oper) (bf : Array Nat) (e0 : Env) (done : List Nat) (e : Env) (j : Nat) (E : Env) : Prop := ∀ t v, E.get t = some v →
  (∃ i, (bf.getD j 0).testBit i = true ∧ i ∈ done ∧ dstA ops i = some t ∧ e.get t = some v) ∨
  (e0.get t = some v ∧ ∀ i, dstA ops i = some t → i = j ∨ (bf.getD i 0).testBit j = true)
inductive PK (P : Program) (ι : Inj) (h0 h : H) (rd : List RdE) (al : List (Nat × P4)) (j : Nat) (o : Op) (vs : List AV) (g : GV) : AV → Prop where
  | off (hg : wantedA g = false) : PK P ι h0 h rd al j o vs g .undef
  | direct {v : AV} (hg : wantedA g = true) (hd : dk P o vs = .direct v) : PK P ι h0 h rd al j o vs g v
  | pure {v : AV} {f : (AV → Ans) → Ans} (hg : wantedA g = true) (hd : dk P o vs = .pure f) (hf : ∀ k, f k = k v) : PK P ι h0 h rd al j o vs g v
  | read {v : AV} {f : H → (AV → Ans) → Ans} {r : RdE} (hg : wantedA g = true) (hd : dk P o vs = .read f) (hf : ∀ k, f h k = k v) (hr : r ∈ rd) (hi : r.i = j) (hrf : r.f = f) (hv : r.v = v) (hon : r.on = true) : PK P ι h0 h rd al j o vs g v
  | alloc {f : H → (AV → H → Ans) → Ans} {b : AO} {mk : P4 → AV} {hw : H} {kw : AV → H → Ans} (hg : wantedA g = true) (hd : dk P o vs = .alloc f) (hc : isConv o = false) (ha : AllocF f b mk) (hk : f hw kw = .good) (hq : (j, hw.nx) ∈ al) (hn : h.get hw.nx = b) (hι : ι hw.nx = none) (h1 : h0.nx.val ≤ hw.nx.val) : PK P ι h0 h rd al j o vs g (mk hw.nx)
def Pnd (P : Program) (nt : Nat) (ops : Array Oper) (bf : Array Nat) (e0 : Env) (ι : Inj) (h0 : H) (done : List Nat) (e : Env) (h : H) (rd : List RdE) (al : List (Nat × P4)) (j : Nat) : Prop :=
  ∃ o xs vs g E v, ops[j]? = some o ∧ dArgs o.op = some xs ∧ OpsA nt E xs vs ∧ GuA nt ops E o g ∧ g ≠ .bad ∧ EJ ops bf e0 done e j E ∧ (∀ t, o.dst = some t → e.get t = some v) ∧ PK P ι h0 h rd al j o.op vs g v

structure DI (P : Program) (rt : Nat → Option RT) (ι0 : Inj) (h0 : H) (w0 : World) (nt : Nat) (dfr : Bool) (ops : Array Oper) (bf : Array Nat) (effs : List Nat) (e0 : Env) (S : Nat → Prop) (ι : Inj) (a : Act) (w : World) (done : List Nat) (e : Env) (h : H) (rd : List RdE) (al : List (Nat × P4)) : Prop where
  post : Post rt ι0 h0 w0 ι h w
  glob : Glob ι
  size : nt ≤ a.tmps.size
  dno : dfr = false → a.defers = []
  dyes : dfr = true → ∀ ds, e0.get nt = some ds → DefR ι ds a.defers
  sub : ∀ i, S i → i ∈ done
  cl : ∀ i j, S i → (bf.getD i 0).testBit j = true → S j
  eff : ∀ i, i ∈ done → i ∈ effs → S i
  lt : ∀ i, i ∈ done → i < ops.size
  dst : ∀ i t, i ∈ done → dstA ops i = some t → t < nt
  ord : DOrd bf ops.size done
  E2 : ∀ t, (∀ i, i ∈ done → dstA ops i ≠ some t) → e.get t = e0.get t
  T1 : ∀ i t v, S i → dstA ops i = some t → e.get t = some v → ∃ u, a.tmps[t]? = some u ∧ VR ι v u
  T2 : ∀ t v, t < nt → (∀ i, S i → dstA ops i ≠ some t) → e0.get t = some v → ∃ u, a.tmps[t]? = some u ∧ VR ι v u
  pend : ∀ j, j ∈ done → ¬ S j → Pnd P nt ops bf e0 ι h0 done e h rd al j
  det : ∀ r, r ∈ rd → ∀ h, Det (r.f h)
  alU : ∀ j j' q, (j, q) ∈ al → (j', q) ∈ al → j = j'
  alB : ∀ j q, (j, q) ∈ al → q.val < h.nx.val

theorem DI.st (D : DI P rt ι0 h0 w0 nt dfr ops bf effs e0 S ι a w done e h rd al) {E : Env} (hE : ∀ t v, E.get t = some v → e.get t = some v ∧ ∀ j, j ∈ done → dstA ops j = some t → S j) :
    St rt ι0 h0 w0 nt dfr ι E h a w := by
  refine ⟨fun t v ht hv => ?_, D.size, D.post, D.glob, D.dno, fun hd ds hds => D.dyes hd ds ?_⟩
  · obtain ⟨h1, h2⟩ := hE t v hv
    by_cases hx : ∃ j, j ∈ done ∧ dstA ops j = some t
    · obtain ⟨j, h3, h4⟩ := hx
      exact D.T1 j t v (h2 j h3 h4) h4 h1
    · have hx : ∀ i, i ∈ done → dstA ops i ≠ some t := fun i hi he => hx ⟨i, hi, he⟩
      rw [D.E2 t hx] at h1
      exact D.T2 t v ht (fun i hi => hx i (D.sub i hi)) h1
  · rw [← D.E2 nt fun i hi he => absurd (D.dst i nt hi he) (Nat.lt_irrefl _)]
    exact (hE _ _ hds).1
theorem DI.exec (D : DI P rt ι0 h0 w0 nt dfr ops bf effs e0 S ι a w done e h rd al) {j : Nat} {o : Oper} {u : Value} {v : AV} (hj : j ∈ done) (hb : ∀ i, (bf.getD j 0).testBit i = true → S i) (ho : ops[j]? = some o)
    (hd : ∀ t, o.dst = some t → e.get t = some v) (hu : VR ι' v u) (hp : Post rt ι0 h0 w0 ι' h w') (hx : Ext ι ι') (hq : ∀ j' q, (j', q) ∈ al → j' ≠ j → ι q = none → ι' q = none) :
    DI P rt ι0 h0 w0 nt dfr ops bf effs e0 (fun i => S i ∨ i = j) ι' (a.put o.dst u) w' done e h rd al := by
  have hdj := dstA_eq ho
  refine ⟨hp, D.glob.ext hx, by rw [put_size]; exact D.size, fun hd => by rw [put_dfrs]; exact D.dno hd, fun hd ds hds => by rw [put_dfrs]; exact (D.dyes hd ds hds).ext hx, ?_, ?_, fun i h1 h2 => .inl (D.eff i h1 h2),
    D.lt, D.dst, D.ord, D.E2, ?_, ?_, ?_, D.det, D.alU, D.alB⟩
  · rintro i (hi | rfl)
    · exact D.sub i hi
    · exact hj
  · rintro i j' (hi | rfl) h1
    · exact .inl (D.cl i j' hi h1)
    · exact .inl (hb j' h1)
  · intro i t v0 hi hdi hv
    by_cases ht : o.dst = some t
    · rw [hd t ht] at hv
      injection hv with hv
      subst hv
      exact ⟨u, put_get ht (Nat.lt_of_lt_of_le (D.dst j t hj (hdj.trans ht)) D.size), hu⟩
    · rw [put_get_ne ht]
      rcases hi with hi | rfl
      · obtain ⟨x, h1, h2⟩ := D.T1 i t v0 hi hdi hv
        exact ⟨x, h1, h2.ext hx⟩
      · exact absurd (hdj.symm.trans hdi) ht
  · intro t v0 ht hs hv
    rw [put_get_ne (fun he => hs j (.inr rfl) (hdj.trans he))]
    obtain ⟨x, h1, h2⟩ := D.T2 t v0 ht (fun i hi => hs i (.inl hi)) hv
    exact ⟨x, h1, h2.ext hx⟩
  · intro j' hj' hn
    obtain ⟨o', xs, vs, g, E, v', h1, h2, h3, h4, h5, h6, h7, h8⟩ := D.pend j' hj' fun hs => hn (.inl hs)
    refine ⟨o', xs, vs, g, E, v', h1, h2, h3, h4, h5, h6, h7, ?_⟩
    cases h8 with
    | off hg => exact .off hg
    | direct hg hd => exact .direct hg hd
    | pure hg hd hf => exact .pure hg hd hf
    | read hg hd hf hr hi hrf hv hon => exact .read hg hd hf hr hi hrf hv hon
    | alloc hg hd hc ha hk hq' hn' hι h1 => exact .alloc hg hd hc ha hk hq' hn' (hq _ _ hq' (fun e => hn (.inr e)) hι) h1

noncomputable def isV (v u : AV) : Ans := @ite _ (u = v) (Classical.propDecidable _) .good .bad
theorem isV_self {v : AV} : isV v v = .good := by unfold isV; rw [if_pos rfl]
theorem isV_good {v u : AV} (h : isV v u = .good) : u = v := by
  unfold isV at h
  by_cases e : u = v
  · exact e
  · rw [if_neg e] at h; cases h

theorem exec_pend (hM : AllocM P) (hF : FWide F) (D : DI P rt ι0 h0 w0 nt dfr ops bf effs e0 S ι a w done e h rd al) {j : Nat} {o : Oper} {next : Act → World → Prop} (hj : j ∈ done) (hn : ¬ S j) (hb : ∀ i, (bf.getD j 0).testBit i = true → S i) (ho : ops[j]? = some o)
    (hN : ∀ ι' a' w', DI P rt ι0 h0 w0 nt dfr ops bf effs e0 (fun i => S i ∨ i = j) ι' a' w' done e h rd al → next a' w') : wpOpIn F 0 P ops Q j next a w := by
  obtain ⟨o', xs, vs, g, E, v, ho', hx, hv, hg, hgb, hE, hd, hk⟩ := D.pend j hj hn
  rw [ho] at ho'; injection ho' with ho'; subst ho'
  have hm : EnvM ι nt E a := fun t v ht hv => by
    rcases hE t v hv with ⟨i, h1, h2, h3, h4⟩ | ⟨h1, h2⟩
    · exact D.T1 i t v (hb i h1) h3 h4
    · refine D.T2 t v ht (fun i hi hdi => ?_) h1
      rcases h2 i hdi with rfl | h3
      · exact hn hi
      · exact hn (D.cl i j hi h3)
  have hvr := hv.vr D.glob hm
  have hw := hg.wanted hgb hm
  have ok := dk_ok (P := P) (ρ := a.eval) hx hvr
  have hnd : ∀ c, o.op ≠ .defer c := fun c hc => by rw [hc] at hx; cases hx
  have same : ∀ {u : Value}, VR ι v u → next (a.put o.dst u) w := fun hu => hN _ _ _ (D.exec hj hb ho hd hu D.post (.refl _) fun _ _ _ _ e => e)
  unfold wpOpIn
  rw [ho]
  dsimp only
  rw [hw]
  cases hk with
  | off hg =>
    rw [if_neg (by rw [hg]; simp)]
    exact ⟨fun f _ => hF.fn f, same (undef_VR _)⟩
  | direct hg hd' =>
    rw [if_pos hg]
    refine ⟨fun f _ => hF.fn f, ?_⟩
    rw [Oper.semAt_eq _ _ _ hnd]
    rw [hd'] at ok
    obtain ⟨x, h1, h2⟩ := ok
    rw [h2 w, Oper.uponIn_value]
    exact same h1
  | @pure _ f hg hd' hf =>
    rw [if_pos hg]
    refine ⟨fun f _ => hF.fn f, ?_⟩
    rw [Oper.semAt_eq _ _ _ hnd]
    rw [hd'] at ok
    have h0 : f (isV v) = .good := by rw [hf]; exact isV_self
    obtain ⟨v', x, h1, h2, h3⟩ := ok _ h0
    rw [h1 w, Oper.uponIn_value]
    have h3 := isV_good h3
    subst h3
    exact same h2
  | @read _ f r hg hd' hf hr hi hrf hrv hon =>
    rw [if_pos hg]
    refine ⟨fun f _ => hF.fn f, ?_⟩
    rw [Oper.semAt_eq _ _ _ hnd]
    rw [hd'] at ok
    have h0 : f h (isV v) = .good := by rw [hf]; exact isV_self
    obtain ⟨v', x, h1, h2, h3⟩ := ok rt h w _ D.post.mr h0
    rw [h1, Oper.uponIn_value]
    have h3 := isV_good h3
    subst h3
    exact same h2
  | @alloc f b mk hw kw hg hd' hc ha hk hq hn' hι h1 =>
    rw [if_pos hg]
    refine ⟨fun f _ => hF.fn f, ?_⟩
    rw [Oper.semAt_eq _ _ _ hnd]
    obtain ⟨X, mkV, z, h2, h3⟩ := hM hc hx hvr hd' ha hk
    rw [h2 w, Oper.uponIn_value]
    have hlt := D.alB _ _ hq
    have e : Ext ι (upd ι hw.nx (w.heap.size, z)) := upd_ext _ hι
    obtain ⟨h4, h5⟩ := h3 rt _ w.heap.size e (by unfold upd; rw [if_pos rfl])
    refine hN _ _ _ (D.exec hj hb ho hd h5 (D.post.real hι h1 hlt (pushW_alloc X) (by rw [hn']; exact h4)) e fun j' q hq' hne hq0 => ?_)
    unfold upd
    rw [if_neg]
    · exact hq0
    · intro he; subst he
      exact hne (D.alU _ _ _ hq' hq)
end Go.Ev

namespace Go.Ev
open Go
set_option linter.unusedSectionVars false
variable [Sym]
set_option linter.unusedVariables false
set_option linter.unusedSimpArgs false
variable {P : Program} {rt : Nat → Option RT} {call : C3} {ι ι' : Inj} {h h' : H} {w w' : World}
variable {ι0 : Inj} {h0 : H} {w0 : World} {nt : Nat} {dfr : Bool} {e e' e0 : Env} {a : Act} {F : Fence} {kpe : Env → KV}
variable {ops : Array Oper} {bf : Array Nat} {effs done : List Nat} {rd rd' : List RdE} {al al' : List (Nat × P4)} {S : Nat → Prop} {Q : Exit → Act → World → Prop}

theorem EJ.mono {i j : Nat} {E : Env} (hE : EJ ops bf e0 done e j E) (h : ∀ t v k, k ∈ done → dstA ops k = some t → e.get t = some v → e'.get t = some v) : EJ ops bf e0 (i :: done) e' j E := fun t v hv => by
  rcases hE t v hv with ⟨k, h1, h2, h3, h4⟩ | h1
  · exact .inl ⟨k, h1, .tail _ h2, h3, h t v k h2 h3 h4⟩
  · exact .inr h1
theorem keep_get {i : Nat} {o : Oper} {v : AV} (hOk : drawOk ops bf = true) (ho : ops[i]? = some o) (hi : i ∉ done) {t k : Nat} (hk : k ∈ done) (hd : dstA ops k = some t) : (e.set o.dst v).get t = e.get t :=
  set_get_ne (drawOk_spec hOk ho (fun he => hi (by rw [← he]; exact hk)) hd).1
theorem DI.grow (D : DI P rt ι0 h0 w0 nt dfr ops bf effs e0 S ι a w done e h rd al) {i : Nat} {o : Oper} {v : AV} (hOk : drawOk ops bf = true) (ho : ops[i]? = some o) (hi : i ∉ done) (hdst : dstOk nt o.dst = true)
    (hb : ∀ j, j < ops.size → (bf.getD i 0).testBit j = true → j ∈ done) (hne : i ∉ effs) (hp : Post rt ι0 h0 w0 ι h' w)
    (hnew : Pnd P nt ops bf e0 ι h0 (i :: done) (e.set o.dst v) h' rd' al' i) (hold : ∀ j o vs g v, j ∈ done → ¬ S j → PK P ι h0 h rd al j o vs g v → PK P ι h0 h' rd' al' j o vs g v)
    (hdet : ∀ r, r ∈ rd' → ∀ h, Det (r.f h)) (hU : ∀ j j' q, (j, q) ∈ al' → (j', q) ∈ al' → j = j') (hB : ∀ j q, (j, q) ∈ al' → q.val < h'.nx.val) :
    DI P rt ι0 h0 w0 nt dfr ops bf effs e0 S ι a w (i :: done) (e.set o.dst v) h' rd' al' := by
  have kg := fun {t k : Nat} (hk : k ∈ done) (hd : dstA ops k = some t) => keep_get (e := e) (v := v) hOk ho hi hk hd
  refine ⟨hp, D.glob, D.size, D.dno, D.dyes, fun j hj => .tail _ (D.sub j hj), D.cl, fun j hj he => ?_, fun j hj => ?_, fun j t hj hd => ?_, .cons hb D.ord, fun t ht => ?_, fun j t v0 hj hd hv => ?_, D.T2, fun j hj hn => ?_, hdet, hU, hB⟩
  · rcases List.mem_cons.1 hj with rfl | hj
    · exact absurd he hne
    · exact D.eff j hj he
  · rcases List.mem_cons.1 hj with rfl | hj
    · exact (Array.getElem?_eq_some_iff.1 ho).1
    · exact D.lt j hj
  · rcases List.mem_cons.1 hj with rfl | hj
    · rw [dstA_eq ho] at hd; rw [hd] at hdst; exact dstOk_lt hdst
    · exact D.dst j t hj hd
  · rw [set_get_ne (fun he => ht i (.head _) ((dstA_eq ho).trans he))]
    exact D.E2 t fun j hj => ht j (.tail _ hj)
  · rw [kg (D.sub j hj) hd] at hv
    exact D.T1 j t v0 hj hd hv
  · rcases List.mem_cons.1 hj with rfl | hj
    · exact hnew
    · obtain ⟨o', xs, vs, g, E, v', h1, h2, h3, h4, h5, h6, h7, h8⟩ := D.pend j hj hn
      refine ⟨o', xs, vs, g, E, v', h1, h2, h3, h4, h5, h6.mono fun t v0 k hk hd hv => by rw [kg hk hd]; exact hv, fun t ht => ?_, hold _ _ _ _ _ hj hn h8⟩
      rw [kg hj ((dstA_eq h1).trans ht)]
      exact h7 t ht

theorem EJ_new (D : DI P rt ι0 h0 w0 nt dfr ops bf effs e0 S ι a w done e h rd al) {i : Nat} {o : Oper} {v : AV} (hOk : drawOk ops bf = true) (ho : ops[i]? = some o) (hi : i ∉ done)
    (hb : ∀ j, j < ops.size → (bf.getD i 0).testBit j = true → j ∈ done) : EJ ops bf e0 (i :: done) (e.set o.dst v) i (Env.only (fun t => (readsOf ops o).contains t) e) := fun t v0 hv => by
  obtain ⟨h1, h2⟩ := get_only hv
  have h1 := contains_iff.1 h1
  by_cases hx : ∃ j, j ∈ done ∧ dstA ops j = some t
  · obtain ⟨j, h3, h4⟩ := hx
    rcases (drawOk_spec hOk ho (fun he => hi (by rw [← he]; exact h3)) h4).2 h1 with h5 | h5
    · exact .inl ⟨j, h5, .tail _ h3, h4, by rw [keep_get hOk ho hi h3 h4]; exact h2⟩
    · exact absurd (D.ord.closed h3 (Array.getElem?_eq_some_iff.1 ho).1 h5) hi
  · refine .inr ⟨?_, fun j hd => ?_⟩
    · rw [← D.E2 t fun j hj he => hx ⟨j, hj, he⟩]; exact h2
    · by_cases hji : j = i
      · exact .inl hji
      · rcases (drawOk_spec hOk ho hji hd).2 h1 with h5 | h5
        · exact absurd ⟨j, hb j (dstA_lt hd) h5, hd⟩ hx
        · exact .inr h5
theorem exec_eff (C : CallOk P rt call) (hF : FWide F) (hdr : F.round ≠ none → dfr = false) (D : DI P rt ι0 h0 w0 nt dfr ops bf effs e0 S ι a w done e h rd al) {i : Nat} {o : Oper} {K : KV} {next : Act → World → Prop}
    (hOk : drawOk ops bf = true) (ho : ops[i]? = some o) (hi : i ∉ done) (hdst : dstOk nt o.dst = true) (hb : ∀ j, (bf.getD i 0).testBit j = true → S j)
    (hk : (match guardOf nt ops o (Env.only (fun t => !(dropL ops (bf.getD i 0) done).contains t) e) with
      | .no => coreOp P nt dfr call kpe o.op (Env.only (fun t => !(dropL ops (bf.getD i 0) done).contains t) e) h (fun v h => chkK h (rd.filter fun r => !(bf.getD i 0).testBit r.i) (K v h)) fun _ => .bad
      | .is v want => gK v want (coreOp P nt dfr call kpe o.op (Env.only (fun t => !(dropL ops (bf.getD i 0) done).contains t) e) h (fun v h => chkK h (rd.filter fun r => !(bf.getD i 0).testBit r.i) (K v h)) fun _ => .bad) (chkK h (rd.filter fun r => !(bf.getD i 0).testBit r.i) (K .undef h))
      | .bad => .bad) = .good)
    (hP : ∀ ι e h a w ι' h' w' v u, St rt ι0 h0 w0 nt dfr ι e h a w → Post rt ι h w ι' h' w' → VR ι' v u → kpe e v h' = .good → Q (.panic [{ v := u, recovered := false }]) a w')
    (hN : ∀ ι' a' w' v h', DI P rt ι0 h0 w0 nt dfr ops bf effs e0 (fun j => S j ∨ j = i) ι' a' w' (i :: done) (e.set o.dst v) h' (rd.filter fun r => !(bf.getD i 0).testBit r.i) al → K v h' = .good → next a' w') :
    wpOpIn F 0 P ops Q i next a w := by
  have s : St rt ι0 h0 w0 nt dfr ι (Env.only (fun t => !(dropL ops (bf.getD i 0) done).contains t) e) h a w := D.st fun t v hv => by
    obtain ⟨h1, h2⟩ := get_only hv
    refine ⟨h2, fun j hj hd => ?_⟩
    cases hbj : (bf.getD i 0).testBit j with
    | true => exact hb j hbj
    | false => rw [contains_iff.2 (dropL_mem hj hbj hd)] at h1; cases h1
  refine one_ok C hF hdr ho s hk ⟨fun ι' h' w' v u p hv hk => ?_, fun ι' h' w' v u p hv hk => hP _ _ _ _ _ _ _ _ _ _ s p hv hk⟩ (fun _ _ hb => by cases hb)
  obtain ⟨hk, hchk⟩ := chkK_good (fun r hr => D.det r (List.mem_filter.1 hr).1 h') hk
  refine hN ι' _ w' v h' ?_ hk
  have kg := fun {t k : Nat} (hk : k ∈ done) (hd : dstA ops k = some t) => keep_get (e := e) (v := v) hOk ho hi hk hd
  have hdi := dstA_eq ho
  refine ⟨D.post.trans p, D.glob.ext p.ext, by rw [put_size]; exact D.size, fun hd => by rw [put_dfrs]; exact D.dno hd, fun hd ds hds => by rw [put_dfrs]; exact (D.dyes hd ds hds).ext p.ext, ?_, ?_, ?_, ?_, ?_,
    .cons (fun j _ hbj => D.sub j (hb j hbj)) D.ord, ?_, ?_, ?_, ?_, fun r hr => D.det r (List.mem_filter.1 hr).1, D.alU, fun j q hq => Nat.lt_of_lt_of_le (D.alB j q hq) p.nx⟩
  · rintro j (hj | rfl)
    · exact .tail _ (D.sub j hj)
    · exact .head _
  · rintro j j' (hj | rfl) h1
    · exact .inl (D.cl j j' hj h1)
    · exact .inl (hb j' h1)
  · intro j hj he
    rcases List.mem_cons.1 hj with rfl | hj
    · exact .inr rfl
    · exact .inl (D.eff j hj he)
  · intro j hj
    rcases List.mem_cons.1 hj with rfl | hj
    · exact (Array.getElem?_eq_some_iff.1 ho).1
    · exact D.lt j hj
  · intro j t hj hd
    rcases List.mem_cons.1 hj with rfl | hj
    · rw [hdi] at hd; rw [hd] at hdst; exact dstOk_lt hdst
    · exact D.dst j t hj hd
  · intro t ht
    rw [set_get_ne (fun he => ht i (.head _) (hdi.trans he))]
    exact D.E2 t fun j hj => ht j (.tail _ hj)
  · intro j t v0 hj hd hv0
    by_cases ht : o.dst = some t
    · rw [set_get ht] at hv0
      injection hv0 with hv0
      subst hv0
      rw [ht] at hdst
      exact ⟨u, put_get ht (Nat.lt_of_lt_of_le (dstOk_lt hdst) D.size), hv⟩
    · rw [set_get_ne ht] at hv0
      rw [put_get_ne ht]
      rcases hj with hj | rfl
      · obtain ⟨x, h1, h2⟩ := D.T1 j t v0 hj hd hv0
        exact ⟨x, h1, h2.ext p.ext⟩
      · exact absurd (hdi.symm.trans hd) ht
  · intro t v0 ht hs hv0
    rw [put_get_ne (fun he => hs i (.inr rfl) (hdi.trans he))]
    obtain ⟨x, h1, h2⟩ := D.T2 t v0 ht (fun j hj => hs j (.inl hj)) hv0
    exact ⟨x, h1, h2.ext p.ext⟩
  · intro j hj hn
    rcases List.mem_cons.1 hj with rfl | hj
    · exact absurd (.inr rfl) hn
    · have hn : ¬ S j := fun hs => hn (.inl hs)
      obtain ⟨o', xs, vs, g, E, v', h1, h2, h3, h4, h5, h6, h7, h8⟩ := D.pend j hj hn
      refine ⟨o', xs, vs, g, E, v', h1, h2, h3, h4, h5, h6.mono fun t v0 k hk hd hv => by rw [kg hk hd]; exact hv, fun t ht => ?_, ?_⟩
      · rw [kg hj ((dstA_eq h1).trans ht)]
        exact h7 t ht
      · cases h8 with
        | off hg => exact .off hg
        | direct hg hd => exact .direct hg hd
        | pure hg hd hf => exact .pure hg hd hf
        | read hg hd hf hr hi hrf hrv hon =>
          have hr' : _ ∈ rd.filter fun r => !(bf.getD i 0).testBit r.i := List.mem_filter.2 ⟨hr, by
            rw [hi]
            cases hbj : (bf.getD i 0).testBit j with
            | false => rfl
            | true => exact absurd (hb j hbj) hn⟩
          refine .read hg hd (fun k => ?_) hr' hi hrf hrv hon
          rw [← hrf, ← hrv]
          exact hchk _ hr' hon k
        | alloc hg hd hc ha hk hq hn' hι h1 =>
          obtain ⟨q1, q2⟩ := p.phan _ hι (D.alB _ _ hq)
          exact .alloc hg hd hc ha hk hq (q2.trans hn') q1 h1
theorem guard_split {o : Oper} {E : Env} {next : KV} {X : KV → Ans} (hk : (match guardOf nt ops o E with
      | .no => X next
      | .is g want => gK g want (X next) (next .undef h)
      | .bad => .bad) = .good) : GuA nt ops E o (guardOf nt ops o E) ∧ guardOf nt ops o E ≠ .bad ∧ ((wantedA (guardOf nt ops o E) = true ∧ X next = .good) ∨ (wantedA (guardOf nt ops o E) = false ∧ next .undef h = .good)) := by
  refine ⟨guard_A ops E o, ?_⟩
  cases hg : guardOf nt ops o E with
  | no => rw [hg] at hk; exact ⟨by simp, .inl ⟨rfl, hk⟩⟩
  | is g want =>
    rw [hg] at hk
    dsimp only at hk
    rw [gK_dec] at hk
    refine ⟨by simp, ?_⟩
    show (decG g want = true ∧ _) ∨ (decG g want = false ∧ _)
    cases hd : decG g want with
    | true => rw [hd] at hk; exact .inl ⟨rfl, hk⟩
    | false => rw [hd] at hk; exact .inr ⟨rfl, hk⟩
  | bad => rw [hg] at hk; cases hk

theorem adv (hA : AllocD P) {k : Kont} (hOk : drawOk ops bf = true) : ∀ (is : List Nat) (done : List Nat) (e : Env) (h : H) (rd : List RdE) (al : List (Nat × P4)), DI P rt ι0 h0 w0 nt dfr ops bf effs e0 S ι a w done e h rd al →
    evDraw P nt dfr call kpe ops bf effs is done e h rd k = .good →
    ∃ is' done' e' h' rd' al', DI P rt ι0 h0 w0 nt dfr ops bf effs e0 S ι a w done' e' h' rd' al' ∧ evDraw P nt dfr call kpe ops bf effs is' done' e' h' rd' k = .good ∧ (is' = [] ∨ ∃ i is'', is' = i :: is'' ∧ i ∈ effs) := by
  intro is
  induction is with
  | nil => intro done e h rd al D hk; exact ⟨_, _, _, _, _, _, D, hk, .inl rfl⟩
  | cons i is ih =>
    intro done e h rd al D hk0
    cases he : effs.contains i with
    | true => exact ⟨_, _, _, _, _, _, D, hk0, .inr ⟨i, is, rfl, contains_iff.1 he⟩⟩
    | false =>
      have hk := hk0
      rw [evDraw] at hk
      cases ho : ops[i]? with
      | none => rw [ho] at hk; cases hk
      | some o =>
        rw [ho] at hk
        dsimp only at hk
        cases hc : dstOk nt o.dst && nextOk bf ops.size effs done i with
        | false => rw [hc] at hk; cases hk
        | true =>
          rw [hc, he] at hk
          dsimp only at hk
          obtain ⟨hdst, hnx⟩ := Bool.and_eq_true_iff.1 hc
          obtain ⟨hil, hi, hb, _⟩ := nextOk_spec hnx
          have hne : i ∉ effs := fun hm => by rw [contains_iff.2 hm] at he; cases he
          have hEJ := fun v => EJ_new (v := v) D hOk ho hi hb
          generalize hE : Env.only (fun t => (readsOf ops o).contains t) e = E at hk hEJ
          cases hx : dArgs o.op with
          | none => rw [hx] at hk; cases hk
          | some xs =>
            rw [hx] at hk
            dsimp only at hk
            obtain ⟨vs, hvs, hk⟩ := opnds_A hk
            -- nothing in memory turns, nothing is read
            have stay : ∀ v, GuA nt ops E o (guardOf nt ops o E) → guardOf nt ops o E ≠ .bad → PK P ι h0 h rd al i o.op vs (guardOf nt ops o E) v → evDraw P nt dfr call kpe ops bf effs is (i :: done) (e.set o.dst v) h rd k = .good →
                ∃ is' done' e' h' rd' al', DI P rt ι0 h0 w0 nt dfr ops bf effs e0 S ι a w done' e' h' rd' al' ∧ evDraw P nt dfr call kpe ops bf effs is' done' e' h' rd' k = .good ∧ (is' = [] ∨ ∃ i is'', is' = i :: is'' ∧ i ∈ effs) :=
              fun v g1 g2 pk hk => ih _ _ _ _ _ (D.grow hOk ho hi hdst hb hne D.post ⟨o, xs, vs, _, E, v, ho, hx, hvs, g1, g2, hEJ v, fun t ht => set_get ht, pk⟩ (fun _ _ _ _ _ _ _ h => h) D.det D.alU D.alB) hk
            cases hd : dk P o.op vs with
            | no => rw [hd] at hk; cases hk
            | write f => rw [hd] at hk; cases hk
            | both f => rw [hd] at hk; cases hk
            | direct v =>
              rw [hd] at hk
              obtain ⟨g1, g2, g3⟩ := guard_split (next := fun v h => evDraw P nt dfr call kpe ops bf effs is (i :: done) (e.set o.dst v) h rd k) (X := fun j => j v h) hk
              rcases g3 with ⟨g3, hk⟩ | ⟨g3, hk⟩
              · exact stay _ g1 g2 (.direct g3 hd) hk
              · exact stay _ g1 g2 (.off g3) hk
            | pure f =>
              rw [hd] at hk
              obtain ⟨g1, g2, g3⟩ := guard_split (next := fun v h => evDraw P nt dfr call kpe ops bf effs is (i :: done) (e.set o.dst v) h rd k) (X := fun j => f fun v => j v h) hk
              rcases g3 with ⟨g3, hk⟩ | ⟨g3, hk⟩
              · have hdet := dk_det (P := P) o.op vs
                rw [hd] at hdet
                obtain ⟨v, hf⟩ := Det.good hdet hk
                rw [hf] at hk
                exact stay _ g1 g2 (.pure g3 hd hf) hk
              · exact stay _ g1 g2 (.off g3) hk
            | read f =>
              rw [hd] at hk
              have hdet := dk_det (P := P) o.op vs
              rw [hd] at hdet
              have hdet : ∀ h, Det (f h) := hdet
              have more : ∀ v (gg : Option (AV × Bool)), GuA nt ops E o (guardOf nt ops o E) → guardOf nt ops o E ≠ .bad → PK P ι h0 h (⟨i, f, v, gg⟩ :: rd) al i o.op vs (guardOf nt ops o E) v → evDraw P nt dfr call kpe ops bf effs is (i :: done) (e.set o.dst v) h (⟨i, f, v, gg⟩ :: rd) k = .good →
                ∃ is' done' e' h' rd' al', DI P rt ι0 h0 w0 nt dfr ops bf effs e0 S ι a w done' e' h' rd' al' ∧ evDraw P nt dfr call kpe ops bf effs is' done' e' h' rd' k = .good ∧ (is' = [] ∨ ∃ i is'', is' = i :: is'' ∧ i ∈ effs) :=
                fun v gg g1 g2 pk hk => ih _ _ _ _ _ (D.grow hOk ho hi hdst hb hne D.post ⟨o, xs, vs, _, E, v, ho, hx, hvs, g1, g2, hEJ v, fun t ht => set_get ht, pk⟩ (fun j o vs g v _ _ h => by
                  cases h with
                  | off hg => exact .off hg
                  | direct hg hd => exact .direct hg hd
                  | pure hg hd hf => exact .pure hg hd hf
                  | read hg hd hf hr hi hrf hrv hon => exact .read hg hd hf (.tail _ hr) hi hrf hrv hon
                  | alloc hg hd hc ha hk hq hn' hι h1 => exact .alloc hg hd hc ha hk hq hn' hι h1) (fun r hr => by
                    rcases List.mem_cons.1 hr with rfl | hr
                    · exact hdet
                    · exact D.det r hr) D.alU D.alB) hk
              have g1 := guard_A (nt := nt) ops E o
              cases hg : guardOf nt ops o E with
              | bad => rw [hg] at hk; cases hk
              | no =>
                rw [hg] at hk more g1
                dsimp only at hk
                obtain ⟨v, hf⟩ := (hdet h).good hk
                rw [hf] at hk
                exact more v none g1 (by simp) (.read rfl hd hf (.head _) rfl rfl rfl rfl) hk
              | is g want =>
                rw [hg] at hk more g1
                have hk : gK g want (f h fun v => evDraw P nt dfr call kpe ops bf effs is (i :: done) (e.set o.dst v) h (⟨i, f, v, some (g, want)⟩ :: rd) k) (evDraw P nt dfr call kpe ops bf effs is (i :: done) (e.set o.dst .undef) h (⟨i, f, .undef, some (g, want)⟩ :: rd) k) = .good := hk
                rw [gK_dec] at hk
                cases hdg : decG g want with
                | true =>
                  rw [hdg] at hk
                  obtain ⟨v, hf⟩ := (hdet h).good hk
                  have hk : evDraw P nt dfr call kpe ops bf effs is (i :: done) (e.set o.dst v) h (⟨i, f, v, some (g, want)⟩ :: rd) k = .good := (hf _).symm.trans hk
                  exact more v (some (g, want)) g1 (by simp) (.read hdg hd hf (.head _) rfl rfl rfl hdg) hk
                | false =>
                  rw [hdg] at hk
                  exact more .undef (some (g, want)) g1 (by simp) (.off hdg) hk
            | alloc f =>
              rw [hd] at hk
              dsimp only at hk
              cases hcv : isConv o.op with
              | true => rw [hcv] at hk; cases hk
              | false =>
                rw [hcv] at hk
                obtain ⟨g1, g2, g3⟩ := guard_split (X := fun j => f h j) hk
                rcases g3 with ⟨g3, hk⟩ | ⟨g3, hk⟩
                · obtain ⟨b, mk, hbn, hf⟩ := hA _ _ _ _ _ hcv hd hk
                  have hk' := hk
                  rw [hf] at hk'
                  obtain ⟨q, hq, hk2⟩ := HnewK_good hk'
                  obtain ⟨hk2, hchk⟩ := chkK_good (fun r hr => D.det r hr _) hk2
                  have hgq : ∀ r, H.get ⟨q, h.t.put h.nx b⟩ r = if r = h.nx then b else h.get r := fun r => B4.at_put _ _ _ _
                  have hgl : ∀ r, r.val < h.nx.val → H.get ⟨q, h.t.put h.nx b⟩ r = h.get r := fun r hr => by rw [hgq, if_neg (fun he => by subst he; exact absurd hr (Nat.lt_irrefl _))]
                  refine ih _ _ _ _ ((i, h.nx) :: al) (D.grow hOk ho hi hdst hb hne (D.post.phantom hq) ⟨o, xs, vs, _, E, _, ho, hx, hvs, g1, g2, hEJ _, fun t ht => set_get ht, .alloc g3 hd hcv hf hk (.head _) (by rw [hgq, if_pos rfl]) (D.post.mr.fresh (Nat.le_refl _)) D.post.nx⟩ (fun j o vs g v hj hn h => ?_) D.det ?_ ?_) hk2
                  · cases h with
                    | off hg => exact .off hg
                    | direct hg hd => exact .direct hg hd
                    | pure hg hd hf => exact .pure hg hd hf
                    | read hg hd hf hr hi hrf hrv hon =>
                      refine .read hg hd (fun k => ?_) hr hi hrf hrv hon
                      rw [← hrf, ← hrv]
                      exact hchk _ hr hon k
                    | alloc hg hd hc ha hk hq' hn' hι h1 => exact .alloc hg hd hc ha hk (.tail _ hq') ((hgl _ (D.alB _ _ hq')).trans hn') hι h1
                  · intro j j' r h1 h2
                    rcases List.mem_cons.1 h1 with h1 | h1 <;> rcases List.mem_cons.1 h2 with h2 | h2
                    · injection h1 with h1 _; injection h2 with h2 _; rw [h1, h2]
                    · injection h1 with _ h1; rw [h1] at h2; exact absurd (D.alB _ _ h2) (Nat.lt_irrefl _)
                    · injection h2 with _ h2; rw [h2] at h1; exact absurd (D.alB _ _ h1) (Nat.lt_irrefl _)
                    · exact D.alU _ _ _ h1 h2
                  · intro j r h1
                    show r.val < q.val
                    rcases List.mem_cons.1 h1 with h1 | h1
                    · injection h1 with _ h1; rw [h1]; omega
                    · have := D.alB _ _ h1; omega
                · obtain ⟨hk2, hchk⟩ := chkK_good (fun r hr => D.det r hr _) hk
                  exact stay _ g1 g2 (.off g3) hk2
end Go.Ev

namespace Go.Ev
open Go
set_option linter.unusedSectionVars false
variable [Sym]
set_option linter.unusedVariables false
set_option linter.unusedSimpArgs false
variable {P : Program} {rt : Nat → Option RT} {call : C3} {ι ι' : Inj} {h h' : H} {w w' : World}
variable {ι0 : Inj} {h0 : H} {w0 : World} {nt : Nat} {dfr : Bool} {e e' e0 : Env} {a : Act} {F : Fence} {kpe : Env → KV}
variable {ops : Array Oper} {bf : Array Nat} {effs done : List Nat} {rd rd' : List RdE} {al al' : List (Nat × P4)} {S : Nat → Prop} {Q : Exit → Act → World → Prop}
def oneB (look : Nat → Nat) (s : Nat) (l : List Edge) : Nat := l.foldl (fun s e => if Region.binds .any e then s ||| 2 ^ e.on ||| look e.on else s) s
theorem oneB_bit {look : Nat → Nat} {j : Nat} : ∀ {l : List Edge} {s : Nat}, (oneB look s l).testBit j = true → s.testBit j = true ∨ ∃ e ∈ l, Region.binds .any e = true ∧ (j = e.on ∨ (look e.on).testBit j = true)
  | [], s, h => .inl h
  | x :: l, s, h => by
    rcases oneB_bit (l := l) h with h1 | ⟨e, h1, h2⟩
    · dsimp only at h1
      by_cases hb : Region.binds .any x = true
      · rw [if_pos hb, Nat.testBit_or, Nat.testBit_or, Bool.or_eq_true_iff, Bool.or_eq_true_iff, Nat.testBit_two_pow] at h1
        rcases h1 with (h1 | h1) | h1
        · exact .inl h1
        · exact .inr ⟨x, .head _, hb, .inl (of_decide_eq_true h1).symm⟩
        · exact .inr ⟨x, .head _, hb, .inr h1⟩
      · rw [if_neg hb] at h1
        exact .inl h1
    · exact .inr ⟨e, .tail _ h1, h2⟩
theorem befL : ∀ (l : List Oper) (acc : Array Nat), let R := l.foldl (fun acc o => acc.push (oneB (fun i => acc.getD i 0) 0 o.after.toList)) acc
    (∀ i, i < acc.size → R.getD i 0 = acc.getD i 0) ∧ ∀ i o, l[i]? = some o → ∃ look, R.getD (acc.size + i) 0 = oneB look 0 o.after.toList ∧ ∀ m, look m = R.getD m 0 ∨ look m = 0
  | [], acc => ⟨fun _ _ => rfl, fun i o h => by cases h⟩
  | x :: l, acc => by
    obtain ⟨h1, h2⟩ := befL l (acc.push (oneB (fun i => acc.getD i 0) 0 x.after.toList))
    rw [Array.size_push] at h1 h2
    have hp : ∀ i, i < acc.size → (acc.push (oneB (fun i => acc.getD i 0) 0 x.after.toList)).getD i 0 = acc.getD i 0 := fun i hi => by
      rw [Array.getD_eq_getD_getElem?, Array.getD_eq_getD_getElem?, Array.getElem?_push, if_neg (Nat.ne_of_lt hi)]
    refine ⟨fun i hi => (h1 i (Nat.lt_succ_of_lt hi)).trans (hp i hi), fun i o ho => ?_⟩
    cases i with
    | zero =>
      injection ho with ho
      subst ho
      refine ⟨fun i => acc.getD i 0, (h1 acc.size (Nat.lt_succ_self _)).trans (by rw [Array.getD_eq_getD_getElem?, Array.getElem?_push, if_pos rfl]; rfl), fun m => ?_⟩
      by_cases hm : m < acc.size
      · exact .inl ((h1 m (Nat.lt_succ_of_lt hm)).trans (hp m hm)).symm
      · exact .inr (by dsimp only; rw [Array.getD_eq_getD_getElem?, Array.getElem?_eq_none (Nat.le_of_not_lt hm)]; rfl)
    | succ i =>
      obtain ⟨look, h3, h4⟩ := h2 i o ho
      exact ⟨look, by rw [← h3]; congr 1; omega, h4⟩
theorem before_spec {i j : Nat} {o : Oper} (ho : ops[i]? = some o) (hb : ((Region.before ops).getD i 0).testBit j = true) : ∃ e ∈ o.after, Region.binds .any e = true ∧ (j = e.on ∨ ((Region.before ops).getD e.on 0).testBit j = true) := by
  have hB : Region.before ops = ops.toList.foldl (fun acc o => acc.push (oneB (fun i => acc.getD i 0) 0 o.after.toList)) #[] := by
    unfold Region.before
    rw [← Array.foldl_toList]
    congr 1
    funext acc o
    unfold oneB
    rw [Array.foldl_toList]
  obtain ⟨_, h2⟩ := befL ops.toList #[]
  rw [← hB] at h2
  obtain ⟨look, h3, h4⟩ := h2 i o (by rw [Array.getElem?_toList]; exact ho)
  rw [show (#[] : Array Nat).size + i = i from Nat.zero_add i] at h3
  rw [h3] at hb
  rcases oneB_bit hb with hb | ⟨e, h5, h6, h7⟩
  · rw [Nat.zero_testBit] at hb; cases hb
  · refine ⟨e, Array.mem_toList_iff.1 h5, h6, h7.imp id fun h7 => ?_⟩
    rcases h4 e.on with h8 | h8
    · rw [← h8]; exact h7
    · rw [h8, Nat.zero_testBit] at h7; cases h7
def Lst (listed : Array Bool) (i : Nat) : Prop := listed.getD i false = true
theorem Lst.lt {listed : Array Bool} {i : Nat} (h : Lst listed i) : i < listed.size := by
  unfold Lst at h
  rcases Nat.lt_or_ge i listed.size with h' | h'
  · exact h'
  · rw [Array.getD_eq_getD_getElem?, Array.getElem?_eq_none h'] at h; cases h
theorem Lst.iff {listed : Array Bool} {i : Nat} (hi : i < listed.size) : (listed.getD i true = false) ↔ ¬ Lst listed i := by
  unfold Lst
  rw [Array.getD_eq_getD_getElem?, Array.getD_eq_getD_getElem?, Array.getElem?_eq_getElem hi]
  cases listed[i] <;> simp
theorem Lst.set {listed : Array Bool} {i j : Nat} (hi : i < listed.size) : Lst (listed.setIfInBounds i true) j ↔ (Lst listed j ∨ j = i) := by
  unfold Lst
  rw [Array.getD_eq_getD_getElem?, Array.getElem?_setIfInBounds, Array.getD_eq_getD_getElem?]
  by_cases e : i = j
  · subst e; rw [if_pos rfl, if_pos hi]; simp
  · rw [if_neg e]
    constructor
    · exact fun h => .inl h
    · rintro (h | h)
      · exact h
      · exact absurd h.symm e

theorem DI.congr {S' : Nat → Prop} (D : DI P rt ι0 h0 w0 nt dfr ops bf effs e0 S ι a w done e h rd al) (hS : ∀ i, S' i ↔ S i) : DI P rt ι0 h0 w0 nt dfr ops bf effs e0 S' ι a w done e h rd al := by
  have : S' = S := funext fun i => propext (hS i)
  rw [this]; exact D

theorem any_ok (hA : AllocD P) (hM : AllocM P) (C : CallOk P rt call) (hF : FWide F) (hdr : F.round ≠ none → dfr = false) {k : Kont} (hbf : bf = Region.before ops) (hOk : drawOk ops bf = true)
    (hN : ∀ ι e h a w, St rt ι0 h0 w0 nt dfr ι e h a w → k e h = .good → Q .normal a w)
    (hP : ∀ ι e h a w ι' h' w' v u, St rt ι0 h0 w0 nt dfr ι e h a w → Post rt ι h w ι' h' w' → VR ι' v u → kpe e v h' = .good → Q (.panic [{ v := u, recovered := false }]) a w') :
    ∀ (fuel : Nat) (R : List Nat) (listed : Array Bool) (ι : Inj) (a : Act) (w : World) (is done : List Nat) (e : Env) (h : H) (rd : List RdE) (al : List (Nat × P4)),
      listed.size = ops.size → R.length ≤ fuel → (∀ i, i < ops.size → Lst listed i ∨ i ∈ R) →
      DI P rt ι0 h0 w0 nt dfr ops bf effs e0 (Lst listed) ι a w done e h rd al → evDraw P nt dfr call kpe ops bf effs is done e h rd k = .good → (is = [] ∨ ∃ i is', is = i :: is' ∧ i ∈ effs) →
      wpAnyIn F 0 P .any ops Q fuel listed a w := by
  have hQ : ∀ (listed : Array Bool) (ι : Inj) (a : Act) (w : World) (done : List Nat) (e : Env) (h : H) (rd : List RdE) (al : List (Nat × P4)), (∀ i, i < ops.size → Lst listed i) →
      DI P rt ι0 h0 w0 nt dfr ops bf effs e0 (Lst listed) ι a w done e h rd al → evDraw P nt dfr call kpe ops bf effs [] done e h rd k = .good → Q .normal a w := by
    intro listed ι a w done e h rd al hl D hk
    rw [evDraw] at hk
    split at hk
    · exact hN ι e h a w (D.st fun t v hv => ⟨hv, fun j hj _ => hl j (D.lt j hj)⟩) hk
    · cases hk
  have hnil : ∀ (listed : Array Bool) (ι : Inj) (a : Act) (w : World) (is done : List Nat) (e : Env) (h : H) (rd : List RdE) (al : List (Nat × P4)), (∀ i, i < ops.size → Lst listed i) →
      DI P rt ι0 h0 w0 nt dfr ops bf effs e0 (Lst listed) ι a w done e h rd al → evDraw P nt dfr call kpe ops bf effs is done e h rd k = .good → Q .normal a w := by
    intro listed ι a w is done e h rd al hl D hk
    cases is with
    | nil => exact hQ _ _ _ _ _ _ _ _ _ hl D hk
    | cons i is =>
      rw [evDraw] at hk
      cases ho : ops[i]? with
      | none => rw [ho] at hk; cases hk
      | some o =>
        rw [ho] at hk
        dsimp only at hk
        cases hc : dstOk nt o.dst && nextOk bf ops.size effs done i with
        | false => rw [hc] at hk; cases hk
        | true =>
          obtain ⟨_, hnx⟩ := Bool.and_eq_true_iff.1 hc
          obtain ⟨h1, h2, _⟩ := nextOk_spec hnx
          exact absurd (D.sub i (hl i h1)) h2
  have hlen : ∀ i o, ops[i]? = some o → i < ops.size := fun i o ho => (Array.getElem?_eq_some_iff.1 ho).1
  -- what may come next
  have hready : ∀ (listed : Array Bool) i, listed.size = ops.size → (∀ i j, Lst listed i → (bf.getD i 0).testBit j = true → Lst listed j) → i ∈ Region.ready .any ops listed →
      ¬ Lst listed i ∧ i < ops.size ∧ ∃ o, ops[i]? = some o ∧ ∀ j, (bf.getD i 0).testBit j = true → Lst listed j := by
    intro listed i hs hcl hr
    obtain ⟨h1, o, ho, h2⟩ := mem_ready.1 hr
    have hi := hlen i o ho
    refine ⟨(Lst.iff (by omega)).1 h1, hi, o, ho, fun j hb => ?_⟩
    rw [hbf] at hb
    obtain ⟨x, h3, h4, h5⟩ := before_spec ho hb
    have h6 : Lst listed x.on := h2 x h3 h4
    rcases h5 with rfl | h5
    · exact h6
    · rw [← hbf] at h5; exact hcl _ _ h6 h5
  have hmk : ∀ (listed : Array Bool) i o, listed.size = ops.size → ops[i]? = some o → ¬ Lst listed i → (∀ x ∈ o.after, Region.binds .any x = true → Lst listed x.on) → i ∈ Region.ready .any ops listed := by
    intro listed i o hs ho hl hx
    exact mem_ready.2 ⟨(Lst.iff (by have := hlen i o ho; omega)).2 hl, o, ho, hx⟩
  intro fuel
  induction fuel with
  | zero =>
    intro R listed ι a w is done e h rd al hs hR hRl D hk hh
    have hl : ∀ i, i < ops.size → Lst listed i := fun i hi => by
      rcases hRl i hi with h1 | h1
      · exact h1
      · cases R with
        | nil => cases h1
        | cons x l => simp at hR
    refine ⟨?_, hnil _ _ _ _ _ _ _ _ _ _ hl D hk⟩
    cases hr : Region.ready .any ops listed with
    | nil => rfl
    | cons x l =>
      obtain ⟨h1, h2, _⟩ := hready listed x hs D.cl (by rw [hr]; exact .head _)
      exact absurd (hl x h2) h1
  | succ fuel ih =>
    intro R listed ι a w is done e h rd al hs hR hRl D hk hh
    -- the head of the evaluator's order
    have hhead : ∀ i is', is = i :: is' → ∃ o, ops[i]? = some o ∧ dstOk nt o.dst = true ∧ nextOk bf ops.size effs done i = true := by
      rintro i is' rfl
      rw [evDraw] at hk
      cases ho : ops[i]? with
      | none => rw [ho] at hk; cases hk
      | some o =>
        rw [ho] at hk
        dsimp only at hk
        cases hc : dstOk nt o.dst && nextOk bf ops.size effs done i with
        | false => rw [hc] at hk; cases hk
        | true => exact ⟨o, rfl, Bool.and_eq_true_iff.1 hc⟩
    refine ⟨fun hr => ?_, fun j hj => ?_⟩
    · -- nothing is left
      have hin : ∀ i, i < ops.size → ¬ Lst listed i → (∀ j, j < ops.size → (bf.getD i 0).testBit j = true → Lst listed j) → False := fun i hi hl hb => by
        have := hmk listed i _ hs (Array.getElem?_eq_getElem hi) hl fun x hx hbx => by
          obtain ⟨q1, q2⟩ := drawOk_edges hOk (Array.getElem?_eq_getElem hi) hx hbx
          exact hb _ q1 q2
        rw [hr] at this
        cases this
      rcases D.ord.first (Lst listed) with h1 | ⟨i, h1, h2, h3⟩
      · cases is with
        | nil =>
          refine hQ _ _ _ _ _ _ _ _ _ (fun i hi => h1 i ?_) D hk
          rw [evDraw] at hk
          split at hk
          · rename_i hall
            exact contains_iff.1 ((List.all_eq_true.1 hall) i (List.mem_range.2 hi))
          · cases hk
        | cons i is' =>
          obtain ⟨o, ho, _, hnx⟩ := hhead i is' rfl
          obtain ⟨q1, q2, q3, _⟩ := nextOk_spec hnx
          exact (hin i q1 (fun hl => q2 (D.sub i hl)) fun j hj hb => h1 j (q3 j hj hb)).elim
      · exact (hin i (D.lt i h1) h2 h3).elim
    · obtain ⟨hjl, hjs, o, ho, hjb⟩ := hready listed j hs D.cl hj
      have step : ∀ ι' a' w' is' done' e' h' rd' al', DI P rt ι0 h0 w0 nt dfr ops bf effs e0 (fun i => Lst listed i ∨ i = j) ι' a' w' done' e' h' rd' al' → evDraw P nt dfr call kpe ops bf effs is' done' e' h' rd' k = .good → (is' = [] ∨ ∃ i is'', is' = i :: is'' ∧ i ∈ effs) →
          wpAnyIn F 0 P .any ops Q fuel (listed.setIfInBounds j true) a' w' := by
        intro ι' a' w' is' done' e' h' rd' al' D' hk' hh'
        have hjR : j ∈ R := (hRl j hjs).resolve_left hjl
        refine ih (R.erase j) (listed.setIfInBounds j true) ι' a' w' is' done' e' h' rd' al' (by rw [Array.size_setIfInBounds]; exact hs) ?_ (fun i hi => ?_) (D'.congr fun i => Lst.set (by omega)) hk' hh'
        · rw [List.length_erase_of_mem hjR]; omega
        · rcases hRl i hi with h1 | h1
          · exact .inl ((Lst.set (by omega)).2 (.inl h1))
          · by_cases hij : i = j
            · exact .inl ((Lst.set (by omega)).2 (.inr hij))
            · exact .inr ((List.mem_erase_of_ne hij).2 h1)
      by_cases hjd : j ∈ done
      · exact exec_pend hM hF D hjd hjl hjb ho fun ι' a' w' D' => step ι' a' w' is done e h rd al D' hk hh
      · -- it is the effect that comes next
        rcases hh with rfl | ⟨i, is', rfl, hie⟩
        · rw [evDraw] at hk
          split at hk
          · rename_i hall
            exact absurd (contains_iff.1 ((List.all_eq_true.1 hall) j (List.mem_range.2 hjs))) hjd
          · cases hk
        · obtain ⟨oi, hoi, hdst, hnx⟩ := hhead i is' rfl
          obtain ⟨h1, h2, h3, h4⟩ := nextOk_spec hnx
          have hji : j = i := by
            by_cases hji : j = i
            · exact hji
            · rcases h4 hie j hjs hji hjd with ⟨_, h5⟩ | ⟨x, _, h5, h6⟩
              · exact absurd (D.sub _ (hjb i h5)) h2
              · exact absurd (D.sub _ (hjb x h6)) h5
          subst hji
          rw [evDraw, ho] at hk
          dsimp only at hk
          rw [ho] at hoi
          injection hoi with hoi
          subst hoi
          rw [hdst, hnx, contains_iff.2 hie] at hk
          dsimp only [Bool.and_self] at hk
          refine exec_eff (K := fun v h => evDraw P nt dfr call kpe ops bf effs is' (j :: done) (e.set o.dst v) h (rd.filter fun r => !(bf.getD j 0).testBit r.i) k) C hF hdr D hOk ho h2 hdst hjb hk hP fun ι' a' w' v h' D' hk' => ?_
          obtain ⟨is2, done2, e2, h2, rd2, al2, D2, hk2, hh2⟩ := adv hA hOk _ _ _ _ _ _ D' hk'
          exact step _ _ _ _ _ _ _ _ _ D2 hk2 hh2
end Go.Ev

namespace Go.Ev
open Go
set_option linter.unusedSectionVars false
variable [Sym]
set_option linter.unusedVariables false
set_option linter.unusedSimpArgs false

namespace D'
theorem recG {A : Type} {F G : A → Nat → AV → (Row → Ans) → Ans} (c : Bool) (x : A) (i : Nat) (v : AV) (hF : Det (F x i v)) (hG : Det (G x i v)) : Det (fun k => @Bool.rec (fun _ => A → Nat → AV → (Row → Ans) → Ans) F G c x i v k) := by
  cases c; exact hF; exact hG
theorem RsetK {c : Row} {i : Nat} {v : AV} : Det (Ev.RsetK c i v) := by
  cases c with
  | r1 x => exact recG _ _ _ _ (recG _ _ _ _ (recG _ _ _ _ (.inl fun _ => rfl) (.inr ⟨_, fun k => setR4_eq _ _ _ fun x => k (.r4 x)⟩)) (.inr ⟨_, fun k => setR3_eq _ _ _ fun x => k (.r3 x)⟩)) (recG _ _ _ _ (.inr ⟨_, fun k => setR2_eq _ _ _ fun x => k (.r2 x)⟩) (.inr ⟨_, fun k => setR1_eq _ _ _ fun x => k (.r1 x)⟩))
  | r2 x => exact recG _ _ _ _ (recG _ _ _ _ (recG _ _ _ _ (.inl fun _ => rfl) (.inr ⟨_, fun k => setR4_eq _ _ _ fun x => k (.r4 x)⟩)) (.inr ⟨_, fun k => setR3_eq _ _ _ fun x => k (.r3 x)⟩)) (.inr ⟨_, fun k => setR2_eq _ _ _ fun x => k (.r2 x)⟩)
  | r3 x => exact recG _ _ _ _ (recG _ _ _ _ (.inl fun _ => rfl) (.inr ⟨_, fun k => setR4_eq _ _ _ fun x => k (.r4 x)⟩)) (.inr ⟨_, fun k => setR3_eq _ _ _ fun x => k (.r3 x)⟩)
  | r4 x => exact recG _ _ _ _ (.inl fun _ => rfl) (.inr ⟨_, fun k => setR4_eq _ _ _ fun x => k (.r4 x)⟩)
  | rz v => exact .inl fun _ => rfl
theorem nextD {d : D} {f : D → (P4 → Ans) → Ans} {g : (P4 → Ans) → Ans} (hf : ∀ d, Det (f d)) (hg : Det g) : Det (fun k => DnextK d (fun d => f d k) (g k)) := by
  cases d <;> first | exact hf _ | exact hg
theorem P4nextK {p : P4} : Det (Ev.P4nextK p) := by
  obtain ⟨a, b, c, d⟩ := p
  exact nextD (f := fun d k => k (P4.mk a b c d)) (fun d => ret _) (nextD (f := fun c k => k (P4.mk a b c .d0)) (fun c => ret _) (nextD (f := fun b k => k (P4.mk a b .d0 .d0)) (fun b => ret _) (nextD (f := fun a k => k (P4.mk a .d0 .d0 .d0)) (fun a => ret _) (.inl fun _ => rfl))))
theorem layK (vs : AV) : ∀ {i : Nat} {c : Row}, Det (Ev.layK vs i c) := by
  induction vs with
  | nil => intro i c; exact ret _
  | cons a b _ ih => intro i c; exact cellk (v := a) (bind (f := Ev.RsetK c i a) (g := fun c k => Ev.layK b (Nat.succ i) c k) RsetK fun c => ih)
  | _ => intro i c; exact .inl fun _ => rfl
end D'

noncomputable def isR (v u : Row) : Ans := @ite _ (u = v) (Classical.propDecidable _) .good .bad
theorem isR_self {v : Row} : isR v v = .good := by unfold isR; rw [if_pos rfl]
theorem isR_good {v u : Row} (h : isR v u = .good) : u = v := by
  unfold isR at h
  by_cases e : u = v
  · exact e
  · rw [if_neg e] at h; cases h
theorem lay_spec {vs : AV} {i : Nat} {c0 : Row} {k : Row → Ans} (hk : layK vs i c0 k = .good) : ∃ c, Row.Lay vs i c0 c ∧ ∀ k, layK vs i c0 k = k c := by
  obtain ⟨c, hc⟩ := (D'.layK vs).good hk
  have h1 : layK vs i c0 (isR c) = .good := by rw [hc]; exact isR_self
  obtain ⟨c', h2, h3⟩ := layK_good _ h1
  rw [isR_good h3] at h2
  exact ⟨c, h2, hc⟩

theorem HnewK_det {h : H} {o : AO} {k : P4 → H → Ans} (hk : HnewK h o k = .good) : ∃ q, ∀ k, HnewK h o k = k h.nx ⟨q, h.t.put h.nx o⟩ := by
  obtain ⟨nx, t⟩ := h
  have e : ∀ k, HnewK ⟨nx, t⟩ o k = P4nextK nx fun nx' => k nx (H.mk nx' (t.put nx o)) := fun k => by
    show B4setK t nx o (fun t => P4nextK nx fun nx' => k nx (H.mk nx' t)) = _
    rw [B4setK_eq]
  rw [e] at hk
  obtain ⟨q, hq⟩ := D'.P4nextK.good hk
  exact ⟨q, fun k => (e k).trans (hq _)⟩

theorem alloc_uniq {f : H → (AV → H → Ans) → Ans} {b b' : AO} {mk mk' : P4 → AV} {h : H} {k : AV → H → Ans} (h1 : AllocF f b mk) (h2 : AllocF f b' mk') (hk : f h k = .good) : b = b' ∧ mk h.nx = mk' h.nx := by
  have hg : ∀ (q : P4) (o : AO), H.get ⟨q, h.t.put h.nx o⟩ h.nx = o := fun q o => by
    have : H.get ⟨q, h.t.put h.nx o⟩ h.nx = if h.nx = h.nx then o else h.get h.nx := B4.at_put _ _ _ _
    rw [this, if_pos rfl]
  have hk1 := hk
  rw [h1] at hk1
  obtain ⟨q, hq, _⟩ := HnewK_good hk1
  have e : ∀ k : AV → H → Ans, HnewK h b (fun p h => k (mk p) h) = HnewK h b' (fun p h => k (mk' p) h) := fun k => (h1 h k).symm.trans (h2 h k)
  let K : AV → H → Ans := fun a h' => @ite _ (a = mk h.nx ∧ h'.get h.nx = b) (Classical.propDecidable _) .good .bad
  have g1 : HnewK h b (fun p h => K (mk p) h) = .good := by
    have : ∃ q, ∀ k : P4 → H → Ans, HnewK h b k = k h.nx ⟨q, h.t.put h.nx b⟩ := HnewK_det hk1
    obtain ⟨q, hq⟩ := this
    rw [hq]
    show (@ite Ans (mk h.nx = mk h.nx ∧ H.get ⟨q, h.t.put h.nx b⟩ h.nx = b) (Classical.propDecidable _) .good .bad) = .good
    exact @if_pos _ (Classical.propDecidable _) ⟨rfl, hg _ _⟩ _ _ _
  rw [e K] at g1
  obtain ⟨q', _, g2⟩ := HnewK_good g1
  have g3 : mk' h.nx = mk h.nx ∧ H.get ⟨q', h.t.put h.nx b'⟩ h.nx = b := by
    by_cases e : mk' h.nx = mk h.nx ∧ H.get ⟨q', h.t.put h.nx b'⟩ h.nx = b
    · exact e
    · have : (@ite Ans (mk' h.nx = mk h.nx ∧ H.get ⟨q', h.t.put h.nx b'⟩ h.nx = b) (Classical.propDecidable _) .good .bad) = .good := g2
      rw [@if_neg _ (Classical.propDecidable _) e] at this; cases this
  rw [hg] at g3
  exact ⟨g3.2.symm, g3.1.symm⟩
theorem newLK_F {et n : Nat} {mk ex : Bool} {vs : AV} {h : H} {k : P4 → H → Ans} (hk : newLK et mk n ex vs h k = .good) : ∃ c, Row.Lay vs 0 RowE c ∧ ∀ h k, newLK et mk n ex vs h k = HnewK h (.cells et mk 0 n ex c) k := by
  obtain ⟨c, h1, h2⟩ := lay_spec (k := fun c => HnewK h (AO.cells et mk 0 n ex c) k) hk
  exact ⟨c, h1, fun h k => h2 _⟩
theorem boxLK_F {et : Nat} {v : AV} {h : H} {k : AV → H → Ans} (hk : boxLK et v h k = .good) : ∃ c, Row.Lay v.cells 0 RowE c ∧ AllocF (boxLK et v) (.cells et false 0 v.cells.len true c) (fun p => .ptr p 0) := by
  have hc : v.isCell = true ∨ (∃ cs, v = .agg cs) ∨ (∃ cs, v = .tup cs) := by cases v <;> first | exact .inl rfl | exact .inr (.inl ⟨_, rfl⟩) | exact .inr (.inr ⟨_, rfl⟩)
  have e : ∀ h k, boxLK et v h k = newLK et false v.cells.len true v.cells h (fun p h => k (.ptr p 0) h) ∨ boxLK et v h k = .bad := fun h k => by
    rcases hc with hc | ⟨cs, rfl⟩ | ⟨cs, rfl⟩
    · cases v <;> first | exact .inl rfl | cases hc
    · exact .inl rfl
    · exact .inr rfl
  have e' : ∀ h k, boxLK et v h k = newLK et false v.cells.len true v.cells h (fun p h => k (.ptr p 0) h) := by
    rcases hc with hc | ⟨cs, rfl⟩ | ⟨cs, rfl⟩
    · cases v <;> first | exact fun _ _ => rfl | cases hc
    · exact fun _ _ => rfl
    · cases hk
  rw [e'] at hk
  obtain ⟨c, h1, h2⟩ := newLK_F hk
  exact ⟨c, h1, fun h k => (e' h k).trans (h2 _ _)⟩
theorem inK_F {n : Nat} {v : AV} {k : Nat → Ans} (hk : inK n v k = .good) : ∃ i, (v = .num i ∨ ∃ kk, v = .int kk i) ∧ i ≤ n ∧ k i = .good ∧ ∀ k' : Nat → Ans, inK n v k' = k' i := by
  obtain ⟨i, h1, h2⟩ := asIdx_good hk
  obtain ⟨h3, h4⟩ := wK_good h2
  refine ⟨i, h1, Ev.ble_true h3, h4, fun k' => ?_⟩
  have e : wK (Nat.ble i n) (k' i) = k' i := by rw [h3]; rfl
  rcases h1 with rfl | ⟨kk, rfl⟩
  · exact e
  · exact e
theorem makeRow_F {zs : AV} {cn : Nat} {k : Row → Ans} (hk : makeRowK zs cn k = .good) : ∃ r, MadeRow zs cn r ∧ ∀ k, makeRowK zs cn k = k r := by
  cases hb : Nat.ble cn 65536 with
  | true =>
    have e : ∀ k, makeRowK zs cn k = layK (repl zs cn) 0 RowE k := fun k => by unfold makeRowK; rw [hb]; rfl
    rw [e] at hk
    obtain ⟨r, h1, h2⟩ := lay_spec hk
    exact ⟨r, .inl h1, fun k => (e k).trans (h2 k)⟩
  | false =>
    have e : ∀ k, makeRowK zs cn k = oneK zs fun v => k (.rz v) := fun k => by unfold makeRowK; rw [hb]; rfl
    rw [e] at hk
    obtain ⟨v, rfl, hc, _⟩ := oneK_good hk
    refine ⟨.rz v, .inr ⟨v, rfl, hc, rfl⟩, fun k => (e k).trans ?_⟩
    cases v <;> first | rfl | cases hc
theorem makeSliceK_F {e z by_ : Nat} {zs l c : AV} {h : H} {k : AV → H → Ans} (hk : makeSliceK e z by_ zs l c h k = .good) : ∃ r cn ln, (c = .num cn ∨ ∃ kk, c = .int kk cn) ∧ (l = .num ln ∨ ∃ kk, l = .int kk ln) ∧ cn ≤ maxElems ∧ ln ≤ cn ∧ by_ ≤ 4096 ∧ MadeRow zs cn r ∧
    AllocF (makeSliceK e z by_ zs l c) (.cells e false 0 (cn * z) true r) (fun p => .sl p 0 ln cn) := by
  have hk : inK maxElems c (fun cn => inK cn l fun ln => wK (Nat.ble by_ 4096) (makeRowK zs cn fun r => fN (Nat.mul cn z) fun m => HnewK h (AO.cells e false 0 m true r) fun p h => k (.sl p 0 ln cn) h)) = .good := hk
  obtain ⟨cn, h1, h2, hk, e1⟩ := inK_F hk
  obtain ⟨ln, h3, h4, hk, e2⟩ := inK_F hk
  obtain ⟨h5, hk⟩ := wK_good hk
  obtain ⟨r, h6, e3⟩ := makeRow_F hk
  refine ⟨r, cn, ln, h1, h3, h2, h4, Ev.ble_true h5, h6, fun h k => ?_⟩
  show inK maxElems c (fun cn => inK cn l fun ln => wK (Nat.ble by_ 4096) (makeRowK zs cn fun r => fN (Nat.mul cn z) fun m => HnewK h (AO.cells e false 0 m true r) fun p h => k (.sl p 0 ln cn) h)) = _
  rw [e1, e2, h5]
  show makeRowK zs cn _ = _
  rw [e3, fN_eq]
  rfl
theorem sliceRow_F {e len s : Nat} {l : List AV} {h : H} {k : AV → H → Ans} (hk : sliceRow e len s l h k = .good) : ∃ r, (rowC l = some r ∨ Row.Lay (AV.ofList l) 0 RowE r) ∧ AllocF (sliceRow e len s l) (.cells e false 0 (len * s) true r) (fun p => .sl p 0 len len) := by
  unfold sliceRow at hk
  split at hk
  · rename_i r hr
    refine ⟨r, .inl hr, fun h k => ?_⟩
    unfold sliceRow
    rw [hr]
  · rename_i hr
    obtain ⟨r, h1, h2⟩ := lay_spec (k := fun r => HnewK h (AO.cells e false 0 (Nat.mul len s) true r) fun p h => k (.sl p 0 len len) h) hk
    refine ⟨r, .inr h1, fun h k => ?_⟩
    unfold sliceRow
    rw [hr]
    exact h2 _

theorem boxAK_F {et : Nat} {v : AV} {h : H} {k : AV → H → Ans} (hk : boxAK et v h k = .good) : ∃ cs c, v = .agg cs ∧ Row.Lay cs 0 RowE c ∧ AllocF (boxAK et v) (.cells et false 0 cs.len true c) (fun p => .ptr p 0) := by
  cases v with
  | agg cs => obtain ⟨c, h1, h2⟩ := boxLK_F (v := .agg cs) hk; exact ⟨cs, c, rfl, h1, h2⟩
  | _ => cases hk
theorem boxK_F {et : Nat} {v : AV} {h : H} {k : AV → H → Ans} (hk : boxK et v h k = .good) : v.isCell = true ∧ AllocF (boxK et v) (.cells et false 0 1 true (Row.r1 (E1 v))) (fun p => .ptr p 0) := by
  obtain ⟨hc, _⟩ := cellK_good hk
  refine ⟨hc, ?_⟩
  cases v <;> first | exact fun h k => rfl | cases hc
theorem bslice_F {e len s : Nat} {ps : List (Nat × Nat × Bool × Bool × AV)} {l0 : List AV} {h : H} {k : AV → H → Ans} (hk : partsK ps l0 (fun l => sliceRow e len s l h k) = .good) : ∃ l r, (∀ k, partsK ps l0 k = k l) ∧ (rowC l = some r ∨ Row.Lay (AV.ofList l) 0 RowE r) ∧
    AllocF (fun h k => partsK ps l0 fun l => sliceRow e len s l h k) (.cells e false 0 (len * s) true r) (fun p => .sl p 0 len len) := by
  obtain ⟨l, hl⟩ := (D'.partsK ps l0).good hk
  rw [hl] at hk
  obtain ⟨r, h1, h2⟩ := sliceRow_F hk
  exact ⟨l, r, hl, h1, fun h k => (hl _).trans (h2 h k)⟩
theorem reserveK_F {v : AV} {h : H} {k : AV → H → Ans} (hk : reserveK v h k = .good) : (toI v).isSome = true ∧ AllocF (reserveK v) (.map true .nil) (fun p => .map p) := by
  unfold reserveK at hk
  cases e : toI v with
  | none => rw [e] at hk; cases hk
  | some j => exact ⟨rfl, fun h k => by unfold reserveK; rw [e]; rfl⟩
def NoAl : DK → Prop
  | .alloc _ => False
  | _ => True
theorem dBin_noAl {P : Program} {op : BinOp} {t : TypeId} {cn : Bool} {a b : AV} : NoAl (dBin P op t cn a b) := by
  have h1 : NoAl (dEql P t cn a b) := by unfold dEql; repeat' split
                                         all_goals trivial
  have h2 : NoAl (dNeq P t cn a b) := by unfold dNeq; repeat' split
                                         all_goals trivial
  unfold dBin
  repeat' split
  all_goals first | exact h1 | exact h2 | trivial
theorem dBuiltin_noAl {P : Program} {b : Builtin} {ts : Array TypeId} {vs : List AV} : NoAl (dBuiltin P b ts vs) := by
  unfold dBuiltin
  repeat' split
  all_goals trivial

theorem noAl_ne {d : DK} {f : H → (AV → H → Ans) → Ans} (h : NoAl d) (e : d = .alloc f) : False := by subst e; exact h
theorem allocD {P : Program} : AllocD P := by
  intro o vs f h k hc hd hk
  unfold dk at hd
  split at hd
  all_goals try (cases hd; done)
  all_goals (repeat' split at hd)
  all_goals try (cases hd; done)
  all_goals try (cases hc; done)
  all_goals first
    | exact (noAl_ne dBin_noAl hd).elim
    | exact (noAl_ne dBuiltin_noAl hd).elim
    | (injection hd with hd; subst hd; first
      | exact ⟨_, _, by simp, fun h k => rfl⟩
      | (obtain ⟨c, _, h2⟩ := boxLK_F hk; exact ⟨_, _, by simp, h2⟩)
      | (obtain ⟨_, _, _, _, h2⟩ := boxAK_F hk; exact ⟨_, _, by simp, h2⟩)
      | (obtain ⟨_, h2⟩ := boxK_F hk; exact ⟨_, _, by simp, h2⟩)
      | (obtain ⟨_, _, _, _, h2⟩ := bslice_F hk; exact ⟨_, _, by simp, h2⟩)
      | (obtain ⟨_, h2⟩ := reserveK_F hk; exact ⟨_, _, by simp, h2⟩)
      | (obtain ⟨_, _, _, _, _, _, _, _, _, h2⟩ := makeSliceK_F hk; exact ⟨_, _, by simp, h2⟩))
end Go.Ev

namespace Go.Ev
open Go
set_option linter.unusedSectionVars false
variable [Sym]
set_option linter.unusedVariables false
set_option linter.unusedSimpArgs false
variable {P : Program} {rt : Nat → Option RT} {ι ι' : Inj} {h : H} {w : World} {ρ : Operand → Value}

def Mk (P : Program) (s : Sem Value) (ι : Inj) (b : AO) (mk : P4 → AV) : Prop := ∃ (X : Obj) (mkV : Nat → Value) (z : Nat), (∀ w, s.run P w = .ok (mkV w.heap.size) { w with heap := w.heap.push X }) ∧
  ∀ rt ι' nx n, Ext ι ι' → ι' nx = some (n, z) → OR rt ι' z b X ∧ VR ι' (mk nx) (mkV n)

theorem cells_OR {et n : Nat} {ex : Bool} {c : Row} {xs : List Value} (f3 : ∀ (d : Nat) (v : Value), xs[d]? = some v → d < c.room ∧ True ∧ VR ι (c.get d) v) (hn : n = xs.length) (e : Ext ι ι') :
    OR rt ι' n (.cells et false 0 n ex c) (.cells xs.toArray et (0, 0)) := by
  refine .cells (by simp [hn]) (Nat.le_refl _) ?_ (fun _ => rfl) (fun i hi => ?_) (.inl rfl)
  · rcases Nat.eq_zero_or_pos n with h0 | h0
    · omega
    · have := (f3 (n - 1) _ (List.getElem?_eq_getElem (by omega))).1
      omega
  · have := f3 i _ (List.getElem?_eq_getElem (by omega))
    exact ⟨trivial, _, by simp, this.2.2.ext e⟩
theorem lay_f3 {vs : AV} {c : Row} {xs : List Value} (hl : Row.Lay vs 0 RowE c) (hv : VRL ι vs xs) : ∀ (d : Nat) (v : Value), xs[d]? = some v → d < c.room ∧ True ∧ VR ι (c.get d) v := fun d v e => by
  obtain ⟨_, _, f3⟩ := hl.facts hv
  have := f3 d v e
  rw [Nat.zero_add] at this
  exact ⟨this.1, trivial, this.2.2.1⟩
theorem Mk_ptr {et n : Nat} {c : Row} {x : Value} (f3 : ∀ (d : Nat) (v : Value), x.cells.toList[d]? = some v → d < c.room ∧ True ∧ VR ι (c.get d) v) (hn : n = x.cells.toList.length) {s : Sem Value}
    (hs : ∀ w, s.run P w = (do pure (.pointer (some (← newVar et x))) : Sem Value).run P w) : Mk P s ι (.cells et false 0 n true c) (fun p => .ptr p 0) := by
  refine ⟨.cells x.cells et (0, 0), fun m => .pointer (some ⟨m, 0, none⟩), n, fun w => ?_, fun rt ι' nx m e hm => ⟨?_, .ptr 0 hm⟩⟩
  · rw [hs]; simp [newVar, newRow]
  · have := cells_OR (rt := rt) (et := et) (ex := true) f3 hn e
    simpa using this
theorem Mk_sl {e n len cap : Nat} {c : Row} {arr : Array Value} (f3 : ∀ (d : Nat) (v : Value), arr.toList[d]? = some v → d < c.room ∧ True ∧ VR ι (c.get d) v) (hn : n = arr.toList.length) {s : Sem Value} (h1 : len ≤ cap) (h2 : cap ≤ maxI)
    (hs : ∀ w w', (newRow e arr).run P w = .ok ⟨w.heap.size, 0, none⟩ w' → s.run P w = .ok (.slice (some ⟨w.heap.size, 0, none⟩) len cap) w') : Mk P s ι (.cells e false 0 n true c) (fun p => .sl p 0 len cap) := by
  refine ⟨.cells arr e (0, 0), fun m => .slice (some ⟨m, 0, none⟩) len cap, n, fun w => hs w _ (by simp [newRow]), fun rt ι' nx m ex hm => ⟨?_, .sl 0 len cap hm h1 h2⟩⟩
  have := cells_OR (rt := rt) (et := e) (ex := true) f3 hn ex
  simpa using this

theorem Mk_fin {o : Oper} {s : Sem Value} {f : H → (AV → H → Ans) → Ans} {b b' : AO} {mk mk' : P4 → AV} {k : AV → H → Ans} (he : execOp ρ o = vN s) (hM : Mk P s ι b' mk') (hb' : AllocF f b' mk') (hb : AllocF f b mk) (hk : f h k = .good) :
    ∃ (X : Obj) (mkV : Nat → Value) (z : Nat), (∀ w, (execOp ρ o).run P w = .ok (.value (mkV w.heap.size)) { w with heap := w.heap.push X }) ∧
    ∀ rt ι' n, Ext ι ι' → ι' h.nx = some (n, z) → OR rt ι' z b X ∧ VR ι' (mk h.nx) (mkV n) := by
  obtain ⟨e1, e2⟩ := alloc_uniq hb hb' hk
  obtain ⟨X, mkV, z, h1, h2⟩ := hM
  refine ⟨X, mkV, z, fun w => by rw [he]; exact (bind_ok (h1 w)).trans rfl, fun rt ι' n e hn => ?_⟩
  rw [e1, e2]
  exact h2 rt ι' _ n e hn

theorem bs_Mk {t e s len : Nat} {g : Bool} {z : AV} {ops : List (Nat × Operand)} {vs : List AV} {qs : List (Nat × Nat × Bool × Bool × AV)} {l' : List AV} {r : Row} (hu : P.underlying t = some (.slice e)) (hs : sizeT P e = some s) (hz : zeroT P e = some z) (hzl : z.cells.toL.length = s)
    (hlen : len ≤ maxI) (hle : len * s ≤ 16777216) (hps : elemParts s g ops vs = some qs) (hv' : VRs ι vs (ops.map fun q => ρ q.2)) (hl' : ∀ k, partsK qs (replL len z.cells.toL) k = k l') (hr : rowC l' = some r ∨ Row.Lay (AV.ofList l') 0 RowE r) :
    Mk P (Instr.buildSlice t len (ops.map fun q => (q.1, ρ q.2)).toArray) ι (.cells e false 0 (len * s) true r) (fun p => .sl p 0 len len) := by
  obtain ⟨v, hv1, hv2⟩ := zeroT_good (ι := ι) hz
  have hvz : v.cells.size = s := by have := hv1.cells.toLs.len; rw [hzl] at this; simpa using this.symm
  have hkk : partsK qs (replL len z.cells.toL) (fun l => @ite _ (l = l') (Classical.propDecidable _) .good .bad) = .good := by rw [hl']; exact @if_pos _ (Classical.propDecidable _) rfl _ _ _
  obtain ⟨l2, cells', g1, g2, g3, hk2⟩ := parts_good (cells := (copies v.cells.toList len).toArray) (elemParts_R hv' hps) (replL_copies hv1.cells len) hkk
  have hl2 : l2 = l' := by
    by_cases e : l2 = l'
    · exact e
    · rw [@if_neg _ (Classical.propDecidable _) e] at hk2; cases hk2
  subst hl2
  have hsz : cells'.size = len * s := by rw [g3]; simp [copies_len, hvz]
  have f3 : ∀ (d : Nat) (v : Value), cells'.toList[d]? = some v → d < r.room ∧ True ∧ VR ι (r.get d) v := by
    rcases hr with hr | hr
    · intro d y ey
      obtain ⟨c, e1, e2⟩ := g2.get d y ey
      obtain ⟨e3, e4⟩ := rowC_get hr d c e1
      exact ⟨e3, trivial, by rw [e4]; exact e2⟩
    · exact lay_f3 hr g2.ofList
  refine Mk_sl (e := e) (arr := cells') f3 (by rw [Array.length_toList, hsz]) (Nat.le_refl _) hlen fun w w' e1 => ?_
  unfold Instr.buildSlice
  refine (bind_ok (run_und hu w)).trans ?_
  refine (bind_ok (run_sizeOf hs w)).trans ?_
  rw [if_neg (by omega)]
  have hcc : ∀ zz : Array Value, (len * s ≠ 0 → zz = v.cells) → (Array.range (len * s)).map (fun i => zz[i % zz.size]!) = (copies v.cells.toList len).toArray := fun zz hzz => by
    by_cases h0 : len * s = 0
    · rw [h0, show copies v.cells.toList len = [] from List.eq_nil_of_length_eq_zero (by rw [copies_len, Array.length_toList, hvz]; exact h0), show Array.range 0 = (#[] : Array Nat) from rfl, Array.map_empty]
    · rw [hzz h0, ← hvz]; exact map_copies v.cells len
  by_cases h0 : len * s = 0
  · rw [if_pos h0]
    refine (bind_ok (v := #[]) (w' := w) rfl).trans ?_
    dsimp only
    rw [hcc #[] (fun h => absurd h0 h), g1]
    exact (bind_ok e1).trans rfl
  · rw [if_neg h0]
    refine (bind_ok (hv2 w)).trans ?_
    refine (bind_ok (v := v.cells) (w' := w) rfl).trans ?_
    dsimp only
    rw [hcc v.cells (fun _ => rfl), g1]
    exact (bind_ok e1).trans rfl

set_option maxHeartbeats 4000000 in
theorem allocM : AllocM P := by
  intro ι ρ o xs vs f b mk h k hc hx hv hd ha hk
  obtain ⟨dst, op, ty, pos, af, g⟩ := o
  simp only at hc hx hd
  cases op
  case alloc e =>
    have hd : dk P (.alloc e) vs = .alloc f := hd
    simp only [dk] at hd
    split at hd
    · rename_i z hz
      obtain ⟨v, hv, hrun⟩ := zeroT_good (ι := ι) hz
      split at hd
      · rename_i hcs
        split at hd
        · rename_i r hr
          injection hd with hd; subst hd
          obtain ⟨l1, l2⟩ := hv.cells.toL
          refine Mk_fin (s := Instr.alloc e true (.tuple #[])) rfl (Mk_ptr (et := e) (x := v) (fun d y e => ?_) hv.cells.len fun w => ?_) (fun h k => rfl) ha hk
          · obtain ⟨b, e1, e2⟩ := l2 d y e
            obtain ⟨e3, e4⟩ := rowC_get hr d b e1
            rw [e4]
            exact ⟨e3, trivial, e2⟩
          · simp [Instr.alloc, hrun]
        · injection hd with hd; subst hd
          obtain ⟨c, h1, h2⟩ := boxLK_F hk
          refine Mk_fin (s := Instr.alloc e true (.tuple #[])) rfl (Mk_ptr (et := e) (x := v) (lay_f3 h1 hv.cells) hv.cells.len fun w => ?_) h2 ha hk
          simp [Instr.alloc, Sem.run_bind, hrun]
      · cases hd
    · cases hd
  case box e x =>
    cases hx
    obtain ⟨a, rfl, hva⟩ := hv.one
    have hd : dk P (.box e x) [a] = .alloc f := hd
    simp only [dk] at hd
    split at hd
    · injection hd with hd; subst hd
      obtain ⟨cs, c, rfl, h1, h2⟩ := boxAK_F hk
      exact Mk_fin (s := Instr.box e (ρ x)) rfl (Mk_ptr (et := e) (x := ρ x) (lay_f3 h1 hva.cells) hva.cells.len fun w => rfl) h2 ha hk
    · injection hd with hd; subst hd
      obtain ⟨h1, h2⟩ := boxK_F hk
      have h3 := (isCell_oneCell hva h1).2
      refine Mk_fin (s := Instr.box e (ρ x)) rfl (Mk_ptr (et := e) (x := ρ x) (fun d y e => ?_) ?_ fun w => rfl) h2 ha hk
      · rw [h3] at e
        cases d with
        | zero => injection e with e; subst e; exact ⟨by simp only [Row.room]; omega, trivial, hva⟩
        | succ d => simp at e
      · rw [h3]; rfl
    · cases hd
  case makeMap t r =>
    have hd : dk P (.makeMap t r) vs = .alloc f := hd
    have hv : VRs ι vs (r.toList.map ρ) := by cases r <;> (cases hx; exact hv)
    have hM : ∀ (s : Sem Value), (∀ w, s.run P w = .ok (.map (some w.heap.size)) { w with heap := w.heap.push (.map #[] 0) }) → Mk P s ι (.map true .nil) (fun p => .map p) := fun s hs =>
      ⟨.map #[] 0, fun m => .map (some m), 0, hs, fun rt ι' nx n e hn => ⟨.map .nil fun _ => ⟨trivial, rfl⟩, .map hn⟩⟩
    cases r with
    | none =>
      have hd : DK'.alloc makeMapK = .alloc f := hd
      injection hd with hd; subst hd
      exact Mk_fin (s := Instr.makeMap t none) rfl (hM _ fun w => rfl) (fun h k => rfl) ha hk
    | some r =>
      obtain ⟨a, rfl, hva⟩ := hv.one
      simp only [dk] at hd
      split at hd
      · rename_i hu
        injection hd with hd; subst hd
        obtain ⟨h1, h2⟩ := reserveK_F hk
        refine Mk_fin (s := Instr.makeMap t (some (ρ r))) rfl (hM _ fun w => ?_) h2 ha hk
        unfold Instr.makeMap
        refine (bind_ok (run_und hu w)).trans ?_
        have : ∃ kk i, ρ r = .int kk i := by
          obtain ⟨⟨j, n⟩, e⟩ := Option.isSome_iff_exists.1 h1
          exact ⟨_, _, (toI_VR hva e).1⟩
        obtain ⟨kk, i, e⟩ := this
        rw [e]
        rfl
      · cases hd
  case makeSlice t lo co =>
    cases hx
    obtain ⟨a, b', rfl, hva, hvb⟩ := hv.two
    have hd : dk P (.makeSlice t lo co) [a, b'] = .alloc f := hd
    simp only [dk] at hd
    split at hd
    · rename_i e hu
      split at hd
      · rename_i z by_ zv hz hby hzv
        split at hd
        · rename_i hzl
          injection hd with hd; subst hd
          obtain ⟨r, c, l, h1, h3, hc, hl, h5, h6, h7⟩ := makeSliceK_F hk
          obtain ⟨kc, e5⟩ := asIdx_VR h1 hvb
          obtain ⟨kl, e6⟩ := asIdx_VR h3 hva
          have hzl := Ev.beq_true hzl
          obtain ⟨v, hv1, hv2⟩ := zeroT_good (ι := ι) hzv
          have hvz : v.cells.size = z := by have := hv1.cells.len; rw [hzl] at this; simpa using this.symm
          have hc' : c ≤ 2097152 := hc
          refine Mk_fin (s := Instr.makeSlice t (ρ lo) (ρ co)) rfl (Mk_sl (e := e) (arr := (copies v.cells.toList c).toArray) (made_f3 hc h6 hv1.cells) (by rw [List.toList_toArray, copies_len, Array.length_toList, hvz]) hl (Nat.le_trans hc (by decide)) fun w w' g1 => ?_) h7 ha hk
          obtain ⟨i, hi, hib⟩ := bytesT_info hby
          have hm : maxI = 9223372036854775807 := rfl
          have e1 : IntKind.i64.wrap (c : Int) = c := wrap_i64_nat (by omega) (by omega)
          have e2 : IntKind.i64.wrap (l : Int) = l := wrap_i64_nat (by omega) (by omega)
          have e3 : ¬ ((by_ : Int) * (c : Int) > 2 ^ 48) := by rw [Int.mul_comm]; exact not_much hc' (.inr h5)
          rw [e5, e6]
          unfold Instr.makeSlice
          refine (bind_ok (run_und hu w)).trans ?_
          refine (bind_ok (v := (l : Int)) (w' := w) rfl).trans ?_
          refine (bind_ok (v := (c : Int)) (w' := w) rfl).trans ?_
          refine (bind_ok (run_info hi w)).trans ?_
          simp only [e1, e2, hib]
          rw [if_neg (by simp only [Bool.or_eq_true, decide_eq_true_eq]; omega)]
          refine (bind_ok (run_askRoom _ _ _)).trans ?_
          refine (bind_ok (run_sizeOf hz w)).trans ?_
          simp only [Int.toNat_natCast]
          by_cases h0 : c * z = 0
          · have hcp : copies v.cells.toList c = [] := List.eq_nil_of_length_eq_zero (by rw [copies_len, Array.length_toList, hvz]; exact h0)
            rw [hcp] at g1
            rw [if_pos h0, h0]
            refine (bind_ok (v := #[]) (w' := w) rfl).trans ?_
            refine (bind_ok (v := ⟨w.heap.size, 0, none⟩) (w' := w') ?_).trans rfl
            rw [show Array.range 0 = (#[] : Array Nat) from rfl, Array.map_empty]
            exact g1
          · rw [if_neg h0]
            refine (bind_ok (hv2 w)).trans ?_
            refine (bind_ok (v := v.cells) (w' := w) rfl).trans ?_
            rw [← map_copies, hvz] at g1
            refine (bind_ok (v := ⟨w.heap.size, 0, none⟩) (w' := w') ?_).trans rfl
            rw [← g1, hvz]
        · cases hd
      · cases hd
    · cases hd
  case buildSlice t len ps =>
    cases hx
    have hd : dk P (.buildSlice t len ps) vs = .alloc f := hd
    simp only [dk] at hd
    split at hd
    · rename_i e hu
      split at hd
      · rename_i z s g hz hs hg
        split at hd
        · rename_i qs hps
          split at hd
          · rename_i h5
            simp only [Bool.and_eq_true] at h5
            injection hd with hd; subst hd
            obtain ⟨l', r, hl', hr, h7⟩ := bslice_F hk
            have ee : (ps.map fun (i, x) => (i, ρ x)) = (ps.toList.map fun q => (q.1, ρ q.2)).toArray := by apply Array.ext'; simp
            have hv' : VRs ι vs (ps.toList.map fun q => ρ q.2) := by rw [List.map_map] at hv; exact hv
            have M := bs_Mk hu hs hz (Ev.beq_true h5.2.2.1) (Ev.ble_true h5.1) (Ev.ble_true h5.2.1) hps hv' hl' hr
            rw [← ee] at M
            exact Mk_fin (s := Instr.buildSlice t len (ps.map fun (i, x) => (i, ρ x))) rfl M h7 ha hk
          · cases hd
        · cases hd
      · cases hd
    · cases hd
  all_goals exfalso
  all_goals first | (cases hx; done) | skip
  all_goals (revert hd; refine noAl_ne ?_)
  all_goals (unfold dk; repeat' split)
  all_goals first | trivial | exact dBin_noAl | exact dBuiltin_noAl | (cases hc; done) | skip
end Go.Ev

namespace Go.Ev
open Go
set_option linter.unusedSectionVars false
variable [Sym]
set_option linter.unusedVariables false
set_option linter.unusedSimpArgs false
variable {P : Program} {rt : Nat → Option RT} {call : C3} {ι ι' : Inj} {h h' : H} {w w' : World} {ι0 : Inj} {h0 : H} {w0 : World}

theorem Post.drew (p : Post rt ι0 h0 w0 ι h w) {n : Nat} : Post rt ι0 h0 w0 ι h { w with drawn := n } :=
  ⟨p.ext, p.new, p.dead, ⟨p.mr.inj, p.mr.obj, p.mr.low, p.mr.old, p.mr.free⟩, ⟨p.fr.os, p.fr.tape, p.fr.output, p.fr.size, p.fr.block⟩, p.keepS, p.nx, p.phan⟩

theorem replicate_Lst {n i : Nat} : ¬ Lst (Array.replicate n false) i := fun h => by
  have hi := Lst.lt h
  unfold Lst at h
  rw [Array.getD_eq_getD_getElem?, Array.getElem?_eq_getElem hi, Array.getElem_replicate] at h
  cases h

theorem draw_ok (hm : P.follows .mixedOrders = true) (C : CallOk P rt call) : DrawOk P rt call := by
  intro ι0 h0 w0 nt dfr ι e h a w F kpe id ops Q k hF hdr hN hP s hOk hk
  refine wpIn_region_any hm ?_
  have hno : ∀ i, ¬ Lst (Array.replicate ops.size false) i := fun i => replicate_Lst
  have D : DI P rt ι0 h0 w0 nt dfr ops (Region.before ops) (effsFrom P ops.toList 0) e (Lst (Array.replicate ops.size false)) ι a { w with drawn := w.drawn + 1 } [] e h [] [] :=
    { post := s.post.drew, glob := s.glob, size := s.size, dno := s.dno, dyes := s.dyes
      sub := fun i hi => (hno i hi).elim
      cl := fun i j hi => (hno i hi).elim
      eff := fun i hi => by cases hi
      lt := fun i hi => by cases hi
      dst := fun i t hi => by cases hi
      ord := .nil
      E2 := fun t _ => rfl
      T1 := fun i t v hi => (hno i hi).elim
      T2 := fun t v ht _ hv => s.env t v ht hv
      pend := fun j hj => by cases hj
      det := fun r hr => by cases hr
      alU := fun j j' q hq => by cases hq
      alB := fun j q hq => by cases hq }
  obtain ⟨is', done', e', h', rd', al', D', hk', hh⟩ := adv allocD hOk _ _ _ _ _ _ D hk
  exact any_ok allocD allocM C hF hdr rfl hOk hN hP ops.size (List.range ops.size) _ _ _ _ _ _ _ _ _ _ (by simp) (by simp) (fun i hi => .inr (List.mem_range.2 hi)) D' hk' hh
end Go.Ev

namespace Go.Ev
open Go
set_option linter.unusedSectionVars false
variable [Sym]
set_option linter.unusedVariables false
set_option linter.unusedSimpArgs false
variable {P : Program} {rt : Nat → Option RT} {call : C3} {ι ι' ιj : Inj} {h hr hj : H} {w w' wj : World}
theorem VR.down_both (e : Ext ι ι') : (∀ {a v}, VR ι' a v → ∀ v0, VR ι a v0 → VR ι a v) ∧ (∀ {a l}, VRL ι' a l → ∀ l0, VRL ι a l0 → VRL ι a l) := by
  have key : ∀ {p : P4} {x y : Nat × Nat}, ι' p = some x → ι p = some y → ι p = some x := fun h1 h2 => by
    have := e _ _ h2
    rw [h1] at this
    injection this with this
    subst this
    exact h2
  constructor
  · intro a v hv
    exact VR.rec (motive_1 := fun a v _ => ∀ v0, VR ι a v0 → VR ι a v) (motive_2 := fun a l _ => ∀ l0, VRL ι a l0 → VRL ι a l)
      (fun b _ _ => .bool b) (fun n h _ _ => .num n h) (fun k n h _ _ => .int k n h) (fun k n _ _ => .neg k n) (fun s hs _ _ => .str s hs)
      (fun o e _ h => by cases h with | ptr _ h => exact .ptr o (key e h))
      (fun o l c e hl hc _ h => by cases h with | sl _ _ _ h => exact .sl o l c (key e h) hl hc)
      (fun o l z c e hz hl hm _ h => by cases h with | slo _ _ _ _ h => exact .slo o l z c (key e h) hz hl hm)
      (fun e _ h => by cases h with | map h => exact .map (key e h))
      (fun hg _ _ h1 h2 _ h => by cases h with | fn _ a b => exact .fn hg (h1 _ a) (h2 _ b))
      (fun g e _ h => by cases h with | yld _ h => exact .yld g (key e h))
      (fun t _ ih _ h => by cases h with | ifc _ h => exact .ifc t (ih _ h))
      (fun _ ih _ h => by cases h with | agg h => exact .agg (ih _ h)) (fun _ ih _ h => by cases h with | tup h => exact .tup (ih _ h))
      (fun _ _ => .pnil) (fun _ _ => .snil) (fun a c _ _ => .szero a c) (fun _ _ => .mnil) (fun _ _ => .fnil) (fun _ _ => .inil) (fun i _ _ => .any i) (fun _ _ => .nil)
      (fun _ _ h1 h2 _ h => by cases h with | cons a b => exact .cons (h1 _ a) (h2 _ b)) hv
  · intro a l hv
    exact VRL.rec (motive_1 := fun a v _ => ∀ v0, VR ι a v0 → VR ι a v) (motive_2 := fun a l _ => ∀ l0, VRL ι a l0 → VRL ι a l)
      (fun b _ _ => .bool b) (fun n h _ _ => .num n h) (fun k n h _ _ => .int k n h) (fun k n _ _ => .neg k n) (fun s hs _ _ => .str s hs)
      (fun o e _ h => by cases h with | ptr _ h => exact .ptr o (key e h))
      (fun o l c e hl hc _ h => by cases h with | sl _ _ _ h => exact .sl o l c (key e h) hl hc)
      (fun o l z c e hz hl hm _ h => by cases h with | slo _ _ _ _ h => exact .slo o l z c (key e h) hz hl hm)
      (fun e _ h => by cases h with | map h => exact .map (key e h))
      (fun hg _ _ h1 h2 _ h => by cases h with | fn _ a b => exact .fn hg (h1 _ a) (h2 _ b))
      (fun g e _ h => by cases h with | yld _ h => exact .yld g (key e h))
      (fun t _ ih _ h => by cases h with | ifc _ h => exact .ifc t (ih _ h))
      (fun _ ih _ h => by cases h with | agg h => exact .agg (ih _ h)) (fun _ ih _ h => by cases h with | tup h => exact .tup (ih _ h))
      (fun _ _ => .pnil) (fun _ _ => .snil) (fun a c _ _ => .szero a c) (fun _ _ => .mnil) (fun _ _ => .fnil) (fun _ _ => .inil) (fun i _ _ => .any i) (fun _ _ => .nil)
      (fun _ _ h1 h2 _ h => by cases h with | cons a b => exact .cons (h1 _ a) (h2 _ b)) hv
theorem VR.down {a : AV} {v v0 : Value} (e : Ext ι ι') (h : VR ι' a v) (h0 : VR ι a v0) : VR ι a v := (VR.down_both e).1 h _ h0

theorem list_get {c c' : Row} : ∀ {n i : Nat}, c.list n i = c'.list n i → ∀ j, j < n → c.get (i + j) = c'.get (i + j)
  | n + 1, i, h, j, hj => by
    have h : AV.cons (c.get i) (c.list n (i + 1)) = AV.cons (c'.get i) (c'.list n (i + 1)) := h
    injection h with h1 h2
    cases j with
    | zero => exact h1
    | succ j =>
      have := list_get h2 j (by omega)
      rw [show i + 1 + j = i + (j + 1) by omega] at this
      exact this

theorem OR.down {z et n fz : Nat} {mk ex : Bool} {c c' : Row} {X0 X : Obj} (e : Ext ι ι') (h0 : OR rt ι z (.cells et mk fz n ex c) X0) (h : OR rt ι' z (.cells et mk fz n ex c') X) (hl : c.list n 0 = c'.list n 0) : OR rt ι z (.cells et mk fz n ex c) X := by
  cases h0 with | cells hz0 hn0 hr0 hx0 hc0 hf0 =>
  cases h with | cells hz hn hr hx hc hf =>
  refine .cells hz hn hr0 hx (fun i hi => ?_) hf
  obtain ⟨_, v0, _, h2⟩ := hc0 i hi
  obtain ⟨_, v, h3, h4⟩ := hc i hi
  have := list_get hl i hi
  rw [Nat.zero_add] at this
  rw [← this] at h4
  exact ⟨trivial, v, h3, h4.down e h2⟩
theorem keyOut_spec {a b : Nat} : ∀ {es : ML} {l : List MapEntry}, MR1 ι es l → keyOut a b es = true → ∀ e ∈ l, ∃ c d : Nat, c ≤ maxI ∧ d ≤ maxI ∧ e.key = .agg #[.int .i64 c, .int .i64 d] ∧ ¬ (a = c ∧ b = d)
  | .nil, _, .nil, _ => fun e he => by cases he
  | .cons k v r, _, .cons hk hv hr, h => by
    rename_i e es
    unfold keyOut at h
    split at h
    · rename_i c d
      obtain ⟨h1, h2⟩ := Bool.and_eq_true_iff.1 h
      intro e' he
      rcases List.mem_cons.1 he with rfl | he
      · have : ∃ y z, e'.key = .agg #[y, z] ∧ VR ι (.num c) y ∧ VR ι (.num d) z := by
          generalize e'.key = K at hk
          cases hk with | agg hk =>
          rename_i arr
          obtain ⟨arr⟩ := arr
          cases hk with | cons h3 hk => cases hk with | cons h4 hk => cases hk with | nil => exact ⟨_, _, rfl, h3, h4⟩
        obtain ⟨y, z, e1, h3, h4⟩ := this
        cases h3 with | num _ h3 =>
        cases h4 with | num _ h4 =>
        refine ⟨c, d, h3, h4, e1, fun ⟨e2, e3⟩ => ?_⟩
        subst e2; subst e3
        simp at h1
      · exact keyOut_spec hr h2 e' he
    · cases h
theorem distinct_spec : ∀ {es : ML} {l : List MapEntry}, MR1 ι es l → es.distinct = true → (∀ e ∈ l, ∃ c d : Nat, c ≤ maxI ∧ d ≤ maxI ∧ e.key = .agg #[.int .i64 c, .int .i64 d]) ∧ l.Pairwise fun e e' => e.key ≠ e'.key
  | .nil, _, .nil, _ => ⟨fun e he => (by cases he), .nil⟩
  | .cons k v r, _, .cons hk hv hr, h => by
    rename_i e es
    unfold ML.distinct at h
    split at h
    · rename_i a b
      obtain ⟨h1, h2⟩ := Bool.and_eq_true_iff.1 h
      have hk' : ∃ y z, e.key = .agg #[y, z] ∧ VR ι (.num a) y ∧ VR ι (.num b) z := by
        generalize e.key = K at hk
        cases hk with | agg hk =>
        rename_i arr
        obtain ⟨arr⟩ := arr
        cases hk with | cons h3 hk => cases hk with | cons h4 hk => cases hk with | nil => exact ⟨_, _, rfl, h3, h4⟩
      obtain ⟨y, z, e1, h3, h4⟩ := hk'
      cases h3 with | num _ h3 =>
      cases h4 with | num _ h4 =>
      obtain ⟨i1, i2⟩ := distinct_spec hr h2
      have ho := keyOut_spec hr h1
      refine ⟨fun e' he => ?_, .cons (fun e' he => ?_) i2⟩
      · rcases List.mem_cons.1 he with rfl | he
        · exact ⟨a, b, h3, h4, e1⟩
        · exact i1 e' he
      · obtain ⟨c, d, _, _, e2, h5⟩ := ho e' he
        rw [e1, e2]
        intro heq
        simp only [Value.agg.injEq, Array.mk.injEq, List.cons.injEq, Value.int.injEq, true_and, and_true] at heq
        exact h5 ⟨by omega, by omega⟩
    · cases h
theorem has_spec {k v : AV} : ∀ {es : ML}, es.has k v = true → MLMem k v es
  | .nil, h => by cases h
  | .cons a b r, h => by
    have h : ((k.same a && v.same b) || ML.has k v r) = true := h
    rcases Bool.or_eq_true_iff.1 h with h | h
    · obtain ⟨h1, h2⟩ := Bool.and_eq_true_iff.1 h
      exact .inl ⟨(AV.same_eq h1).symm, (AV.same_eq h2).symm⟩
    · exact .inr (has_spec h)
theorem mem_entry {k v : AV} : ∀ {es : ML} {l : List MapEntry}, MR1 ι es l → MLMem k v es → ∃ e ∈ l, VR ι k e.key ∧ VR ι v e.val
  | .nil, _, .nil, h => h.elim
  | .cons a b r, _, .cons hk hv hr, h => by
    rcases h with ⟨rfl, rfl⟩ | h
    · exact ⟨_, .head _, hk, hv⟩
    · obtain ⟨e, h1, h2⟩ := mem_entry hr h
      exact ⟨e, .tail _ h1, h2⟩
theorem allIn_spec {esj : ML} {k v : AV} : ∀ {es : ML}, allIn esj es = true → MLMem k v es → (∃ n, v = .num n) ∧ MLMem k v esj
  | .nil, _, h => h.elim
  | .cons a b r, hA, h => by
    unfold allIn at hA
    obtain ⟨h1, h2⟩ := Bool.and_eq_true_iff.1 hA
    rcases h with ⟨rfl, rfl⟩ | h
    · split at h1
      · rename_i n
        exact ⟨⟨n, rfl⟩, has_spec h1⟩
      · cases h1
    · exact allIn_spec h2 h
theorem distinct_keys : ∀ {es : ML} {k v : AV}, es.distinct = true → MLMem k v es → ∃ a b : Nat, k = .agg (.cons (.num a) (.cons (.num b) .nil))
  | .nil, k, v, _, h => h.elim
  | .cons k' v' r, k, v, hd, h => by
    unfold ML.distinct at hd
    split at hd
    · obtain ⟨_, h2⟩ := Bool.and_eq_true_iff.1 hd
      rcases h with ⟨rfl, rfl⟩ | h
      · exact ⟨_, _, rfl⟩
      · exact distinct_keys h2 h
    · cases hd
theorem restr_good : ∀ {R : List P4} {h hr : H} {k : H → Ans}, restrK R h hr k = .good → ∃ hr', hr'.nx = hr.nx ∧ (∀ q, hr'.get q = hr.get q ∨ (q ∈ R ∧ hr'.get q = h.get q)) ∧ k hr' = .good
  | [], h, hr, k, hk => ⟨hr, rfl, fun q => .inl rfl, hk⟩
  | q :: R, h, hr, k, hk => by
    have hk : HgetK h q (fun o => HsetK hr q o fun hr => restrK R h hr k) = .good := hk
    rw [HgetK_eq, HsetK_eq] at hk
    obtain ⟨hr', h1, h2, h3⟩ := restr_good hk
    refine ⟨hr', h1, fun r => ?_, h3⟩
    rcases h2 r with h4 | ⟨h4, h5⟩
    · rw [H.get_set] at h4
      by_cases e : r = q
      · subst e; rw [if_pos rfl] at h4; exact .inr ⟨.head _, h4⟩
      · rw [if_neg e] at h4; exact .inl h4
    · exact .inr ⟨.tail _ h4, h5⟩
theorem N16.get_all {α : Type} (x : α) (d : D) : (N16.all x).get d = x := by cases d <;> rfl
theorem noB4_get {nx q : P4} : H.get ⟨nx, noB4⟩ q = .no := by
  show ((((noB4.get q.a).get q.b).get q.c).get q.d) = AO.no
  unfold noB4
  rw [N16.get_all, N16.get_all, N16.get_all, N16.get_all]

theorem eqB_true {a b : Bool} (h : eqB a b = true) : a = b := by cases a <;> cases b <;> first | rfl | cases h
def SameAO (o o' : AO) : Prop := ∃ et mk fz n ex c c', o = .cells et mk fz n ex c ∧ o' = .cells et mk fz n ex c' ∧ c.list n 0 = c'.list n 0
theorem sameAOK_good {o o' : AO} {k : Ans} (hk : sameAOK o o' k = .good) : SameAO o o' ∧ k = .good := by
  obtain ⟨et, mk, fz, n, ex, c, e1, hk⟩ := AOcellsK_good hk
  obtain ⟨et', mk', fz', n', ex', c', e2, hk⟩ := AOcellsK_good hk
  subst e1; subst e2
  obtain ⟨h1, hk⟩ := wK_good hk
  obtain ⟨h2, hk⟩ := wK_good hk
  obtain ⟨h3, hk⟩ := wK_good hk
  obtain ⟨h4, hk⟩ := wK_good hk
  obtain ⟨h5, hZ⟩ := wK_good hk
  have h1 := beq_true h1; have h2 := eqB_true h2; have h3 := beq_true h3; have h4 := beq_true h4; have h5 := eqB_true h5
  subst h1; subst h2; subst h3; subst h4; subst h5
  rw [rowK_eq, rowK_eq] at hZ
  obtain ⟨h6, hZ⟩ := wK_good hZ
  exact ⟨⟨_, _, _, _, _, _, _, rfl, rfl, AV.same_eq h6⟩, hZ⟩
theorem sameAllK_good {p : P4} : ∀ {R : List P4} {k : Ans}, sameAllK p h hj R k = .good → (∀ q ∈ R, q ≠ p → SameAO (h.get q) (hj.get q)) ∧ k = .good
  | [], k, hk => ⟨fun q hq => (by cases hq), hk⟩
  | q :: R, k, hk => by
    have hk : bK (q.beq p) (sameAllK p h hj R k) (HgetK h q fun o => HgetK hj q fun o' => sameAOK o o' (sameAllK p h hj R k)) = .good := hk
    rcases bK_good hk with ⟨e, hk⟩ | ⟨e, hk⟩
    · obtain ⟨h1, h2⟩ := sameAllK_good hk
      refine ⟨fun r hr hne => ?_, h2⟩
      rcases List.mem_cons.1 hr with rfl | hr
      · exact absurd (P4.beq_true e) hne
      · exact h1 r hr hne
    · rw [HgetK_eq, HgetK_eq] at hk
      obtain ⟨h3, hk⟩ := sameAOK_good hk
      obtain ⟨h1, h2⟩ := sameAllK_good hk
      refine ⟨fun r hr hne => ?_, h2⟩
      rcases List.mem_cons.1 hr with rfl | hr
      · exact h3
      · exact h1 r hr hne
theorem merge_post {p : P4} {b z : Nat} {d0 dj : Bool} {es0 es esj : ML} (M : MR rt ι h w) (hrg : ∀ q, hr.get q = .no ∨ hr.get q = h.get q) (Pj : Post rt ι hr w ιj hj wj) (hp : ι p = some (b, z)) (hm0 : h.get p = .map d0 es0)
    (same : ∀ q, hr.get q ≠ .no → q ≠ p → SameAO (h.get q) (hj.get q)) (hmj : hj.get p = .map dj esj) (hdis : esj.distinct = true) (hall : allIn esj es = true) : Post rt ι h w ι (h.set p (.part es)) wj := by
  have hg : ∀ q, (h.set p (.part es)).get q = if q = p then .part es else h.get q := fun q => H.get_set _ _ _ _
  have hlive : ∀ q, (h.set p (.part es)).get q ≠ .no → h.get q ≠ .no := fun q hq => by
    rw [hg] at hq
    by_cases e : q = p
    · subst e; rw [hm0]; simp
    · rw [if_neg e] at hq; exact hq
  have hlr : ∀ q, hr.get q ≠ .no → hr.get q = h.get q := fun q hq => (hrg q).resolve_left hq
  refine ⟨.refl _, fun _ _ _ e => .inl e, fun q x hq hd => ?_, ⟨fun q q' c y y' hq hq' hl hl' => M.inj q q' c y y' hq hq' (hlive q hl) (hlive q' hl'), fun q c y hq hl => ?_, M.low, fun q c y hq => ?_, fun q hq => ?_⟩,
    ⟨Pj.fr.os, Pj.fr.tape, Pj.fr.output, Pj.fr.size, fun c o ho hs => ?_⟩, fun q hs => ?_, Nat.le_refl _, fun q hq hlt => ⟨hq, ?_⟩⟩
  · rw [hg, if_neg]
    · exact hd
    · intro e; subst e; rw [hm0] at hd; cases hd
  · have hlh := hlive q hl
    rw [hg]
    by_cases e : q = p
    · subst e
      rw [if_pos rfl]
      obtain ⟨o, h1, h2⟩ := Pj.mr.obj q c y (Pj.ext _ _ hq) (by rw [hmj]; simp)
      refine ⟨o, h1, ?_⟩
      rw [hmj] at h2
      cases h2 with | map hM hD =>
      rename_i arr clock
      obtain ⟨k1, k2⟩ := distinct_spec hM hdis
      refine .part k1 k2 fun k v hmem => ?_
      obtain ⟨⟨n, rfl⟩, hmem⟩ := allIn_spec hall hmem
      obtain ⟨a, b, rfl⟩ := distinct_keys hdis hmem
      obtain ⟨en, g1, g2, g3⟩ := mem_entry hM hmem
      refine ⟨en, g1, ?_, ?_⟩
      · generalize en.key = K at g2
        cases g2 with | agg g2 =>
        rename_i ar
        obtain ⟨ar⟩ := ar
        cases g2 with | cons g4 g2 => cases g2 with | cons g5 g2 => cases g2 with | nil =>
        cases g4 with | num _ g4 => cases g5 with | num _ g5 => exact .agg (.cons (.num _ g4) (.cons (.num _ g5) .nil))
      · generalize en.val = V at g3
        cases g3 with | num _ g3 => exact .num _ g3
    · rw [if_neg e]
      obtain ⟨o0, h1, h2⟩ := M.obj q c y hq hlh
      by_cases hrq : hr.get q = .no
      · refine ⟨o0, Pj.fr.block c o0 h1 fun q' y' hq' hl' => ?_, h2⟩
        have hl2 : h.get q' ≠ .no := by rw [← hlr q' hl']; exact hl'
        have := M.inj q' q c y' y hq' hq hl2 hlh
        subst this
        exact absurd hrq hl'
      · obtain ⟨et, mk, fz, n, ex, c1, c2, e1, e2, e3⟩ := same q hrq e
        obtain ⟨o, h3, h4⟩ := Pj.mr.obj q c y (Pj.ext _ _ hq) (by rw [e2]; simp)
        rw [e1] at h2 ⊢
        rw [e2] at h4
        exact ⟨o, h3, OR.down Pj.ext h2 h4 e3⟩
  · exact Nat.lt_of_lt_of_le (M.old q c y hq) Pj.fr.size
  · rw [hg, if_neg]
    · exact M.free q hq
    · intro e; subst e
      have := M.low _ _ hp
      have hq : h.nx.val ≤ q.val := hq
      omega
  · exact Pj.fr.block c o ho fun q y hq hl => by rw [hlr q hl]; exact hs q y hq (by rw [← hlr q hl]; exact hl)
  · rw [hg, if_neg]
    intro e; subst e
    rw [hm0] at hs
    obtain ⟨_, _, _, _, h⟩ := hs
    cases h
  · rw [hg, if_neg]
    intro e; subst e
    rw [hp] at hq; cases hq
theorem rowsK_hands {z : Nat} {v : AV} {k : AV → Ans} (hk : rowsK z v h k = .good) : ∃ l, k l = .good := by
  unfold rowsK at hk
  split at hk
  all_goals first
    | (rw [HgetK_eq] at hk
       obtain ⟨_, _, _, n, _, c, _, hk⟩ := AOcellsK_good hk
       obtain ⟨_, hk⟩ := wK_good hk
       rw [rowK_eq] at hk
       exact ⟨_, hk⟩)
    | exact ⟨_, hk⟩
    | cases hk
theorem nodesK_hands : ∀ {n : Nat} {v : AV} {l : List P4} {g : List ND} {k : List P4 → List ND → Ans}, v.toL.length ≤ n → nodesK h v l g k = .good → ∃ R nd, k R nd = .good
  | n, v, l, g, k, hn, hk => by
    unfold nodesK at hk
    split at hk
    · obtain ⟨_, _, hk⟩ := asNum_good hk
      obtain ⟨_, _, hk⟩ := asNum_good hk
      obtain ⟨_, hk⟩ := rowsK_hands hk
      obtain ⟨_, hk⟩ := rowsK_hands hk
      cases n with
      | zero => simp [AV.toL] at hn
      | succ n => exact nodesK_hands (n := n) (by simp only [AV.toL, List.length_cons] at hn; omega) hk
    · exact ⟨_, _, hk⟩
    · cases hk
theorem forceM_hands : ∀ {es : ML} {k : ML → Ans}, forceM es k = .good → ∃ es', k es' = .good
  | .nil, k, hk => ⟨_, hk⟩
  | .cons key v r, k, hk => by
    unfold forceM at hk
    split at hk
    · rw [fN_eq, fN_eq, fN_eq] at hk
      obtain ⟨es', hk⟩ := forceM_hands hk
      exact ⟨_, hk⟩
    · cases hk


theorem U2_pack {x y : AV} {f : AV → AV → Ans} (h : U2 (packE [x, y]) f = .good) : f x y = .good := h
theorem merge_hook {rfs : List Nat} {i0 : Nat} {fn : Func} {body : Code} (hf : P.funcs[i0]? = some fn) (hb : fn.body = some body) (D : ∀ call, CallOk P (rtOf P rfs) call → DrawOk P (rtOf P rfs) call) :
    HookOk P (rtOf P rfs) (mergeHook P rfs i0) := by
  intro i f hi call C
  unfold mergeHook at hi
  cases hbi : Nat.beq i i0 with
  | false => rw [hbi] at hi; cases hi
  | true =>
    have hbi := beq_true hbi
    subst hbi
    rw [Nat.beq_refl, hf] at hi
    injection hi with hi
    subst hi
    refine ⟨fun {ι h w as xs cs cap kr kp} M G ha hc hk => ?_, fun {h as p kr kp} hk => ?_, fun {h cap rv kr kp} hrv hk => ?_⟩
    · unfold mergeK at hk
      obtain ⟨rfl, hk⟩ := nilK_good hk
      obtain ⟨hlen, hk⟩ := rvK_num hk
      match as, hlen with
      | [x, ps], _ =>
      have hk := U2_pack hk
      obtain ⟨xq, o, rfl, hk⟩ := asPtr_good hk
      rw [HgetK_eq] at hk
      obtain ⟨et, mk, fz, n, ex, c, hgx, hk⟩ := AOcellsK_good hk
      obtain ⟨hle, hk⟩ := wK_good hk
      have hle := ble_true hle
      rw [RgetK_eq, RgetK_eq, RgetK_eq] at hk
      obtain ⟨p, hmp, hk⟩ := asMap_good hk
      obtain ⟨strict, _, hk⟩ := asBool_good hk
      rw [HgetK_eq] at hk
      obtain ⟨d0, es0, hgp, hk⟩ := AOmapK_good hk
      obtain ⟨gc, hk⟩ := rowsK_hands hk
      obtain ⟨R, nd, hk⟩ := nodesK_hands (Nat.le_refl _) hk
      obtain ⟨qs, hk⟩ := rowsK_hands hk
      obtain ⟨es, hk⟩ := forceM_hands hk
      obtain ⟨hr, hnx, hrg, hk⟩ := restr_good hk
      obtain ⟨hk1, hk2⟩ := alsoK_good hk
      rw [HsetK_eq] at hk2
      have hrg : ∀ q, hr.get q = .no ∨ (q ∈ R ∧ hr.get q = h.get q) := fun q => (hrg q).imp (fun e => e.trans noB4_get) id
      -- the map has a name
      have hp : ∃ b z, ι p = some (b, z) := by
        cases ha with | cons ha _ =>
        cases ha with | ptr _ hxq =>
        obtain ⟨X, _, hX⟩ := M.obj _ _ _ hxq (by rw [hgx]; simp)
        rw [hgx] at hX
        cases hX with | cells hz hn hr hx hcc hf =>
        obtain ⟨_, v, _, hv⟩ := hcc (Nat.add o 2) (by have : Nat.add o 3 = o + 3 := rfl; have : Nat.add o 2 = o + 2 := rfl; omega)
        rw [hmp] at hv
        cases hv with | map hv => exact ⟨_, _, hv⟩
      obtain ⟨b, z, hp⟩ := hp
      have Mr : MR (rtOf P rfs) ι hr w := by
        have hl : ∀ q, hr.get q ≠ .no → hr.get q = h.get q := fun q hq => ((hrg q).resolve_left hq).2
        refine ⟨fun q q' c y y' e e' l l' => M.inj q q' c y y' e e' (by rw [← hl q l]; exact l) (by rw [← hl q' l']; exact l'), fun q c y e l => ?_, fun q x e => by rw [hnx]; exact M.low q x e, M.old, fun q hq => ?_⟩
        · rw [hl q l]; exact M.obj q c y e (by rw [← hl q l]; exact l)
        · rcases hrg q with e | ⟨_, e⟩
          · exact e
          · rw [e]; exact M.free q (by rw [hnx] at hq; exact hq)
      rcases runFn_cases hk1 with ⟨body', hb', hn, hk1⟩ | ⟨hb', _⟩
      · refine .enter _ _ (callFunc_enter hf hb' hn _ w) ((body_ok C (@D _ C) hf hb' (rgOf_ok hf hb') Mr G ha hc hk1).mono fun e w' hq => ?_)
        cases e with
        | returned v =>
          obtain ⟨ιj, hj, a, Pj, hv, hE⟩ := hq
          obtain ⟨rfl, hE⟩ := isUndK_good hE
          obtain ⟨hs, hE⟩ := sameAllK_good hE
          rw [HgetK_eq] at hE
          obtain ⟨dj, esj, hmj, hE⟩ := AOmapK_good hE
          obtain ⟨hd, hE⟩ := wK_good hE
          obtain ⟨hal, _⟩ := wK_good hE
          refine ⟨ι, _, .undef, merge_post M (fun q => (hrg q).imp id And.right) Pj hp hgp (fun q hq hqp => hs q ((hrg q).resolve_left hq).1 hqp) hmj hd hal, ?_, hk2⟩
          cases hv with | tup hv =>
          rename_i arr
          obtain ⟨arr⟩ := arr
          cases hv with | nil => exact undef_VR _
        | panicked chain => obtain ⟨_, _, _, _, _, _, _, hE⟩ := hq; cases hE
        | outgrown => exact hq.elim
      · rw [hb] at hb'; cases hb'
    · unfold mergeK at hk
      cases hk
    · unfold mergeK at hk
      obtain ⟨rfl, hk⟩ := nilK_good hk
      cases rv <;> first | (cases hk; done) | exact hrv _ rfl
end Go.Ev

namespace Go.Ev
open Go
set_option linter.unusedSectionVars false
variable [Sym]
set_option linter.unusedVariables false
set_option linter.unusedSimpArgs false
variable {P : Program} {rt : Nat → Option RT} {call : C3} {ι : Inj} {h : H} {w : World}
noncomputable def newAllK : List AO → H → (H → Ans) → Ans
  | [], h, k => k h
  | o :: os, h, k => HnewK h o fun _ h => newAllK os h k
theorem newAll_good : ∀ {os : List AO} {h : H} {k : H → Ans}, newAllK os h k = .good → ∃ h', k h' = .good ∧ h'.nx.val = h.nx.val + os.length ∧ ∀ q : P4, h'.get q = if h.nx.val ≤ q.val ∧ q.val < h.nx.val + os.length then os.getD (q.val - h.nx.val) .no else h.get q
  | [], h, k, hk => ⟨h, hk, rfl, fun q => by rw [if_neg]; simp only [List.length_nil]; omega⟩
  | o :: os, h, k, hk => by
    have hk : HnewK h o (fun _ h => newAllK os h k) = .good := hk
    obtain ⟨q', hq, hk⟩ := HnewK_good hk
    obtain ⟨h', h1, h2, h3⟩ := newAll_good hk
    have h2 : h'.nx.val = q'.val + os.length := h2
    refine ⟨h', h1, by rw [h2, hq, List.length_cons]; omega, fun q => ?_⟩
    rw [h3]
    show (if q'.val ≤ q.val ∧ q.val < q'.val + os.length then os.getD (q.val - q'.val) .no else H.get ⟨q', h.t.put h.nx o⟩ q) = _
    have hp : H.get ⟨q', h.t.put h.nx o⟩ q = if q = h.nx then o else h.get q := B4.at_put _ _ _ _
    rw [hp, hq, List.length_cons]
    by_cases e : q = h.nx
    · subst e
      rw [if_neg (by omega), if_pos rfl, if_pos (by omega)]
      simp
    · have hne : q.val ≠ h.nx.val := fun he => e (P4.val_inj he)
      rw [if_neg e]
      by_cases hr : h.nx.val ≤ q.val ∧ q.val < h.nx.val + (os.length + 1)
      · rw [if_pos hr, if_pos (by omega)]
        rw [show q.val - h.nx.val = (q.val - (h.nx.val + 1)) + 1 by omega]
        rfl
      · rw [if_neg hr, if_neg (by omega)]
noncomputable def H00 : H := ⟨⟨.d0, .d0, .d0, .d0⟩, noB4⟩
noncomputable def iota8 (zs : List Nat) : Inj := fun p => if p.val < 8 then some (p.val, zs.getD p.val 0) else none
theorem ofNat8 : ∀ g, g < 8 → (P4.ofNat g).val = g := by decide
theorem glob8 {zs : List Nat} : Glob (iota8 zs) := fun g hg => ⟨zs.getD g 0, by unfold iota8; rw [ofNat8 g hg, if_pos hg]⟩
theorem init_MR {os : List AO} {zs : List Nat} (hl : os.length = 8) (hs : 8 ≤ w.heap.size) (hx : h.nx.val = 8) (hg : ∀ q : P4, h.get q = if q.val < 8 then os.getD q.val .no else .no)
    (hw : ∀ g, g < 8 → os.getD g .no ≠ .no → ∃ X, w.heap[g]? = some X ∧ OR rt (iota8 zs) (zs.getD g 0) (os.getD g .no) X) : MR rt (iota8 zs) h w := by
  have hi : ∀ p b z, iota8 zs p = some (b, z) → p.val < 8 ∧ b = p.val ∧ z = zs.getD p.val 0 := fun p b z e => by
    unfold iota8 at e
    by_cases hp : p.val < 8
    · rw [if_pos hp] at e; injection e with e; injection e with e1 e2; exact ⟨hp, e1.symm, e2.symm⟩
    · rw [if_neg hp] at e; cases e
  refine ⟨fun p q b z z' e e' _ _ => ?_, fun p b z e hlv => ?_, fun p x e => ?_, fun p b z e => ?_, fun q hq => ?_⟩
  · obtain ⟨_, h1, _⟩ := hi p b z e
    obtain ⟨_, h2, _⟩ := hi q b z' e'
    exact P4.val_inj (by omega)
  · obtain ⟨h1, h2, h3⟩ := hi p b z e
    subst h2; subst h3
    rw [hg, if_pos h1] at hlv ⊢
    exact hw _ h1 hlv
  · obtain ⟨b, z⟩ := x
    have := (hi p b z e).1
    omega
  · have := hi p b z e
    omega
  · rw [hg, if_neg (by omega)]

noncomputable def isTrueK (v : AV) : Ans := asBool v fun b => wK b .good
def SealedOrNo (o : AO) : Prop := Sealed o ∨ o = .no

theorem fn_ok (C : CallOk P rt call) {i : Nat} {fn : Func} {body : Code} (hf : P.funcs[i]? = some fn) (hb : fn.body = some body) (hn : fn.name ≠ "runtime.NumGoroutine") {g : G3} (hg : g.val = i) {as : List AV} {xs : List Value} {kr kp : KV}
    (M : MR rt ι h w) (G : Glob ι) (ha : VRs ι as xs) (hk : disp call g (packE as) .nil (.num as.length) h kr kp = .good) : Calls P i xs.toArray w (EndP rt ι h w kr kp) := by
  have u := C.fn (cs := []) M G ha .nil hk
  rw [hg, List.append_nil] at u
  have e := callFunc_enter (P := P) hf hb hn xs.toArray w
  cases u with
  | enter f args h he =>
    rw [e] at h
    injection h with h
    injection h with h1 h2
    subst h1; subst h2
    exact callsIn_wide.1 he
  | value v w' h => rw [e] at h; cases h
  | round l f tmps a b hy => cases hy
theorem works_ok (C : CallOk P rt call) {i : Nat} {fn : Func} {body : Code} (hf : P.funcs[i]? = some fn) (hb : fn.body = some body) (hn : fn.name ≠ "runtime.NumGoroutine") {g : G3} (hg : g.val = i) {os : List AO} {zs : List Nat}
    (hk : newAllK os H00 (fun h => disp call g E0 .nil (.num 0) h (fun v _ => isTrueK v) fun _ _ => .bad) = .good) (hl : os.length = 8) (hso : ∀ o ∈ os, SealedOrNo o) (hs : 8 ≤ w.heap.size)
    (hw : ∀ g, g < 8 → os.getD g .no ≠ .no → ∃ X, w.heap[g]? = some X ∧ OR rt (iota8 zs) (zs.getD g 0) (os.getD g .no) X) :
    Calls P i #[] w fun (e : Ending) (w' : World) => e = .returned (.bool true) ∧ Go.RowKit.Below w.heap.size w w' := by
  obtain ⟨h, hk, h1, h2⟩ := newAll_good hk
  have h0 : (H00).nx.val = 0 := rfl
  rw [h0, hl] at h1
  have h2 : ∀ q : P4, h.get q = if q.val < 8 then os.getD q.val .no else .no := fun q => by
    rw [h2, h0, hl]
    by_cases hq : q.val < 8
    · rw [if_pos (by omega), if_pos hq]; rfl
    · rw [if_neg (by omega), if_neg hq]; exact noB4_get
  have M : MR rt (iota8 zs) h w := init_MR hl hs (by omega) h2 hw
  refine (fn_ok C (as := []) hf hb hn hg M glob8 .nil hk).mono fun e w' hq => ?_
  cases e with
  | returned v =>
    obtain ⟨ι', h', a, p, hv, hk⟩ := hq
    obtain ⟨b, rfl, hk⟩ := asBool_good hk
    obtain ⟨hb, _⟩ := wK_good hk
    subst hb
    cases hv with | bool _ =>
    refine ⟨rfl, p.fr.os, p.fr.tape, p.fr.output, p.fr.size, fun b hb => ?_⟩
    have ho := Array.getElem?_eq_getElem hb
    rw [ho]
    refine p.fr.block b _ ho fun q z hq hlv => ?_
    have hql : q.val < 8 := by
      unfold iota8 at hq
      by_cases hp : q.val < 8
      · exact hp
      · rw [if_neg hp] at hq; cases hq
    rw [h2, if_pos hql] at hlv ⊢
    have hm : os.getD q.val .no ∈ os := by
      rw [List.getD_eq_getElem?_getD, List.getElem?_eq_getElem (by omega)]
      exact List.getElem_mem _
    exact (hso _ hm).resolve_right hlv
  | panicked chain => obtain ⟨_, _, _, _, _, _, _, hk⟩ := hq; cases hk
  | outgrown => exact hq.elim
end Go.Ev
