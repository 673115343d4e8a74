/- The evaluator of Go code (plain Lean), and the proof that what it answers is what the model does: part 2. Conditions: none. -/
import Derived.Eval
import Derived.Laws.BytesString
import Derived.Laws.Cells
import Derived.Laws.StructEq
import Derived.Lib.UnsafeStr
import Derived.Maps.RangeRun
import Derived.OrdersIn
import Derived.RangeFuncLeaves
import Derived.RecoverIn
import GoSem.Dispatch
import Derived.Test.YtedkimnbghpkeaaGreatDoorEv1
namespace Go.Ev
open Go
set_option linter.unusedSectionVars false
variable [Sym]
set_option linter.unusedVariables false
variable {ι : Inj} {P : Program} {a b c : AV} {x y z : Value} {k : AV → Ans} {t : TypeId}

theorem run_und {P : Program} {t : TypeId} {d : TypeDesc} (h : P.underlying t = some d) (w : World) : (underlying t).run P w = .ok d w := by
  simp [underlying, h]
theorem run_info {P : Program} {t : TypeId} {d : TypeInfo} (h : P.info? t = some d) (w : World) : (typeInfo t).run P w = .ok d w := by
  simp [typeInfo, h]
theorem sizeT_info {t : TypeId} {n : Nat} (h : sizeT P t = some n) : ∃ i, P.info? t = some i ∧ i.size = n := by
  unfold sizeT at h
  cases e : P.info? t with
  | none => rw [e] at h; cases h
  | some i => rw [e] at h; exact ⟨i, rfl, Option.some.inj h⟩
theorem run_sizeOf {t : TypeId} {n : Nat} (h : sizeT P t = some n) (w : World) : (sizeOf t).run P w = .ok n w := by
  obtain ⟨i, e, rfl⟩ := sizeT_info h
  simp [sizeOf, typeInfo, e]
theorem isAgg_no (d : TypeDesc) (h1 : ∀ f, d = .struct f → False) (h2 : ∀ n e, d = .array n e → False) (w : World) :
    (match d with | .struct _ => pure true | .array _ _ => pure true | _ => pure false : Sem Bool).run P w = .ok false w := by
  cases d <;> first | rfl | exact (h1 _ rfl).elim | exact (h2 _ _ rfl).elim
theorem run_isAgg {t : TypeId} {g : Bool} (h : aggT P t = some g) (w : World) : (isAgg t).run P w = .ok g w := by
  unfold aggT at h
  split at h
  · rename_i e; cases h; simp [isAgg, underlying, e]
  · rename_i e; cases h; simp [isAgg, underlying, e]
  · rename_i d h1 h2 e
    cases h
    simp only [isAgg, underlying, e, Sem.run_bind, run_program, Result.andThen_ok, Sem.run_pure]
  · cases h
theorem notK_good (h : notK a k = .good) (ha : VR ι a x) : Gives ι P (Op.unary .not x) k := by
  cases a with
  | bool b =>
    cases ha with | bool _ =>
    cases b
    · exact ⟨.bool true, .bool true, fun w => by simp [Op.unary], .bool true, h⟩
    · exact ⟨.bool false, .bool false, fun w => by simp [Op.unary], .bool false, h⟩
  | _ => cases h
theorem pickK_good (h : pickK c a b k = .good) (hc : VR ι c z) : ∃ t : Bool, z = .bool t ∧ (match t with | true => k a | false => k b) = .good := by
  cases c with
  | bool t =>
    cases hc with | bool _ =>
    cases t
    · exact ⟨false, rfl, h⟩
    · exact ⟨true, rfl, h⟩
  | _ => cases h
theorem condK_good {t e : Ans} (h : condK c t e = .good) (hc : VR ι c z) : ∃ b : Bool, z = .bool b ∧ (match b with | true => t | false => e) = .good := by
  cases c with
  | bool b =>
    cases hc with | bool _ =>
    cases b
    · exact ⟨false, rfl, h⟩
    · exact ⟨true, rfl, h⟩
  | _ => cases h
theorem equalIn_bool {P : Program} {t : TypeId} (hu : P.underlying t = some .bool) (d : Nat) (p q : Bool) (w : World) : (Op.equalIn (d + 1) t (.bool p) (.bool q)).run P w = .ok (p == q) w := by
  simp only [Op.equalIn, Sem.run_bind, run_und hu, Result.andThen_ok, Sem.run_pure]
theorem equal_bool {P : Program} {t : TypeId} (hu : P.underlying t = some .bool) (p q : Bool) (w : World) : (Op.equal t (.bool p) (.bool q)).run P w = .ok (p == q) w :=
  equalIn_bool hu 9999 p q w
theorem beqK_good (hu : P.underlying t = some .bool) (h : beqK a b k = .good) (ha : VR ι a x) (hb : VR ι b y) : Gives ι P (binOp .eql t x y) k := by
  obtain ⟨p, rfl, h1⟩ := asBool_good h
  obtain ⟨q, rfl, h⟩ := asBool_good h1
  clear h1
  cases ha with | bool _ =>
  cases hb with | bool _ =>
  cases p <;> cases q <;> exact ⟨_, _, fun w => by simp only [binOp, Sem.run_bind, equal_bool hu, Result.andThen_ok, Sem.run_pure]; rfl, .bool _, h⟩
theorem bneK_good (hu : P.underlying t = some .bool) (h : bneK a b k = .good) (ha : VR ι a x) (hb : VR ι b y) : Gives ι P (binOp .neq t x y) k := by
  obtain ⟨p, rfl, h1⟩ := asBool_good h
  obtain ⟨q, rfl, h⟩ := asBool_good h1
  clear h1
  cases ha with | bool _ =>
  cases hb with | bool _ =>
  cases p <;> cases q <;> exact ⟨_, _, fun w => by simp only [binOp, Sem.run_bind, equal_bool hu, Result.andThen_ok, Sem.run_pure]; rfl, .bool _, h⟩
theorem convS_good {kk : Nat} {s d : TypeId} {d' : TypeDesc} (hs : P.underlying s = some d') (hd : P.underlying d = some (.int (kd kk))) (h : convS kk a k = .good) (ha : VR ι a x) : Gives ι P (convert s d x) k := by
  unfold convS at h
  split at h
  · rename_i j p e
    obtain ⟨rfl, _⟩ := toI_VR ha e
    obtain ⟨r, hr, h⟩ := ofIK_good (ι := ι) h (fun e => wrap_le _ _ e)
    exact ⟨r, _, fun w => by simp [convert, run_und hs, run_und hd, Conv.intToInt], hr, h⟩
  · cases h
theorem toIntK_good {s d : TypeId} {d' : TypeDesc} (hs : P.underlying s = some d') (hd : P.underlying d = some (.int .i64)) (h : toIntK a k = .good) (ha : VR ι a x) : Gives ι P (convert s d x) k := by
  cases a with
  | num n =>
    obtain ⟨rfl, hn⟩ := num_of ha
    refine ⟨_, .int .i64 n, fun w => ?_, .num n hn, h⟩
    have e : IntKind.i64.wrap (n : Int) = n := wrap_i64_nat (by omega) (by omega)
    simp [convert, run_und hs, run_und hd, Conv.intToInt, e]
  | int j n =>
    have h : @Bool.rec (fun _ => Nat → Nat → (AV → Ans) → Ans) (fun j n k => convS 3 (.int j n) k) (fun j n k => k (.num n)) (Nat.ble n maxI) j n k = .good := h
    cases e : Nat.ble n maxI
    · rw [e] at h; exact convS_good (kk := 3) hs hd h ha
    · rw [e] at h
      have hx := int_of ha
      subst hx
      have hn := ble_true e
      clear e
      refine ⟨_, .int .i64 n, fun w => ?_, .num n hn, h⟩
      have e : IntKind.i64.wrap (n : Int) = n := wrap_i64_nat (by omega) (by omega)
      simp [convert, run_und hs, run_und hd, Conv.intToInt, e]
  | neg j n =>
    unfold toIntK at h
    dsimp only at h
    exact convS_good (kk := 3) hs hd h ha
  | _ => cases h
theorem sidxK_good (hu : P.underlying t = some .string) (h : sidxK a b k = .good) (ha : VR ι a x) (hb : VR ι b y) : Gives ι P (Instr.index t x y) k := by
  cases a with
  | str n p =>
    have key : ∀ i kk, y = .int kk (i : Nat) → @Bool.rec (fun _ => Nat → Nat → Nat → (AV → Ans) → Ans) (fun _ _ _ _ => .bad) (fun n x i k => fN (strAt n x i) fun c => k (.int 4 c)) (Nat.ble (Nat.succ i) n) n p i k = .good → Gives ι P (Instr.index t x y) k := fun i kk hy h => by
      obtain ⟨s, rfl, hn, rfl, _⟩ := str_of ha
      subst hy
      cases e : Nat.ble (Nat.succ i) n
      · rw [e] at h; cases h
      · rw [e] at h
        have hi : i < n := ble_true e
        have h : fN (strAt n (pack s.data.toList) i) (fun c => k (.int 4 c)) = .good := h
        rw [fN_eq, hn, strAt_eq _ _ (by rw [← hn]; exact hi)] at h
        have hsz : s.size = n := by rw [hn]; exact (size_toList s).symm
        refine ⟨_, .int .u8 ((s.data.toList[i]'(by rw [← hn]; exact hi)).toNat : Nat), fun w => ?_, .int 4 _ (fun e => by cases e), h⟩
        rw [run_index_string w t s kk i hu, dif_pos ⟨by omega, by omega⟩]
        rfl
    cases b with
    | num i => exact key i .i64 (num_of hb).1 h
    | int j i => exact key i (kd j) (int_of hb) h
    | _ => cases h
  | _ => cases h
inductive VRo (ι : Inj) : Option AV → Option Value → Prop where
  | none : VRo ι none none
  | some {a : AV} {x : Value} (h : VR ι a x) : VRo ι (some a) (some x)

theorem inK_good {n : Nat} {v : AV} {f : Nat → Ans} (h : inK n v f = .good) (hv : VR ι v x) : ∃ kk i, x = .int kk (i : Nat) ∧ i ≤ n ∧ f i = .good := by
  obtain ⟨i, hi, h⟩ := asIdx_good h
  obtain ⟨kk, rfl⟩ := asIdx_VR hi hv
  obtain ⟨hb, h⟩ := wK_good h
  exact ⟨kk, i, rfl, ble_true hb, h⟩
theorem belowK_good {n : Nat} {v : AV} {f : Nat → Ans} (h : belowK n v f = .good) (hv : VR ι v x) : ∃ kk i, x = .int kk (i : Nat) ∧ i < n ∧ f i = .good := by
  obtain ⟨i, hi, h⟩ := asIdx_good h
  obtain ⟨kk, rfl⟩ := asIdx_VR hi hv
  obtain ⟨hb, h⟩ := wK_good h
  exact ⟨kk, i, rfl, ble_true hb, h⟩
theorem sliceBound_ok {kk : IntKind} {i n : Nat} {code : BoundsCode} (h : i ≤ n) (w : World) : (Instr.sliceBound (.int kk i) n code).run P w = .ok i w := by
  have e : ((0 : Int) ≤ (i : Int) ∧ (i : Int) ≤ (n : Nat)) := ⟨by omega, by omega⟩
  simp only [Instr.sliceBound, asIntOf, Sem.run_bind, Sem.run_pure, Result.andThen_ok, if_pos e]
  rfl
theorem scutK_good {lo hi : Option AV} {lo' hi' : Option Value} (hu : P.underlying t = some .string) (h : scutK a lo hi k = .good) (ha : VR ι a x) (hl : VRo ι lo lo') (hh : VRo ι hi hi') : Gives ι P (Instr.sliceAt t x lo' hi' none) k := by
  obtain ⟨n, p, rfl, h⟩ := asStr_good h
  obtain ⟨s, rfl, hn, rfl, hs⟩ := str_of ha
  have hsz : s.size = n := by rw [hn]; exact (size_toList s).symm
  have fin : ∀ l m : Nat, l ≤ m → m ≤ n → fN (Nat.sub m l) (fun q => fN (strCut n (pack s.data.toList) l m) fun y => k (.str q y)) = .good → Gives ι P (pure (.string (s.extract l m))) k := fun l m h1 h2 h => by
    rw [fN_eq, fN_eq] at h
    rw [hn, strCut_eq _ _ _ h1 (by rw [← hn]; exact h2)] at h
    refine ⟨_, .string (s.extract l m), fun w => rfl, VR.str' ?_ ?_ ?_, h⟩
    · rw [ByteArray.size_extract]; omega
    · rw [ByteArray.size_extract]; show m - l = _; omega
    · congr 1
      rw [show (s.extract l m).data = s.data.extract l m from ByteArray.data_extract ..]
      simp [List.drop_take]
  have low : ∀ m, m ≤ n → optK m 0 lo (fun l => fN (Nat.sub m l) fun q => fN (strCut n (pack s.data.toList) l m) fun y => k (.str q y)) = .good →
      ∃ l, Gives ι P (pure (.string (s.extract l m))) k ∧ ∀ w, (match lo' with | some v => Instr.sliceBound v m .sliceB | none => pure 0 : Sem Nat).run P w = .ok l w := fun m hm h => by
    cases hl with
    | none => exact ⟨0, fin 0 m (by omega) hm h, fun w => rfl⟩
    | some hv =>
      obtain ⟨kk, i, rfl, hi, h⟩ := inK_good h hv
      exact ⟨i, fin i m hi hm h, fun w => sliceBound_ok hi w⟩
  have last : ∃ l m, Gives ι P (pure (.string (s.extract l m))) k ∧ ∀ w, (Instr.sliceBounds false s.size s.size lo' hi' none).run P w = .ok (l, m, s.size) w := by
    cases hh with
    | none =>
      obtain ⟨l, hg, hr⟩ := low n (Nat.le_refl _) h
      refine ⟨l, n, hg, fun w => ?_⟩
      have hr := hr w
      simp only [Instr.sliceBounds, Sem.run_bind, Sem.run_pure, Result.andThen_ok, hsz]
      cases lo' <;> simp_all
    | some hv =>
      obtain ⟨kk, i, rfl, hi, h⟩ := inK_good h hv
      obtain ⟨l, hg, hr⟩ := low i hi h
      refine ⟨l, i, hg, fun w => ?_⟩
      have hr := hr w
      simp only [Instr.sliceBounds, Sem.run_bind, Sem.run_pure, Result.andThen_ok, hsz, sliceBound_ok hi]
      cases lo' <;> simp_all
  obtain ⟨l, m, ⟨v, u, hv, hr, hk⟩, hb⟩ := last
  have hu' : ∀ w, u = .string (s.extract l m) := fun w => by have := hv w; simp at this; exact this.symm
  refine ⟨v, u, fun w => ?_, hr, hk⟩
  rw [hu' w]
  simp [Instr.sliceAt, Instr.slice, run_und hu, hb]
end Go.Ev

namespace Go.Ev
open Go
set_option linter.unusedSectionVars false
variable [Sym]
set_option linter.unusedVariables false
variable {rt : Nat → Option RT} {ι : Inj} {P : Program} {h : H} {w : World} {t : TypeId}

theorem addr_add (b o i : Nat) : (⟨b, o, none⟩ : Addr).add i = ⟨b, o + i, none⟩ := by
  unfold Addr.add
  split
  · rename_i e; subst e; rfl
  · rfl
theorem cell_at {b o : Nat} {arr : Array Value} {e : TypeId} {f : Nat × Nat} (hb : w.heap[b]? = some (.cells arr e f)) : w.cell? ⟨b, o, none⟩ = arr[o]? := by
  simp [World.cell?, hb]
theorem frozen_at {b o : Nat} {arr : Array Value} {e : TypeId} {lo hi : Nat} (hb : w.heap[b]? = some (.cells arr e (lo, hi))) : w.frozen? ⟨b, o, none⟩ = (decide (lo ≤ o) && decide (o < hi)) := by
  simp [World.frozen?, hb]
structure RowOf (rt : Nat → Option RT) (ι : Inj) (w : World) (b z et : Nat) (mk : Bool) (fz n : Nat) (ex : Bool) (c : Row) (arr : Array Value) (lo hi : Nat) : Prop where
  at_ : w.heap[b]? = some (.cells arr et (lo, hi))
  hz : arr.size = z
  hn : n ≤ z
  hr : n ≤ c.room
  hx : ex = true → n = z
  hc : ∀ i, i < n → True ∧ ∃ v, arr[i]? = some v ∧ VR ι (c.get i) v
  hf : FzR mk fz z lo hi

theorem MR.row (m : MR rt ι h w) {p : P4} {b z : Nat} (hp : ι p = some (b, z)) {et : Nat} {mk : Bool} {fz n : Nat} {ex : Bool} {c : Row} (e : h.get p = .cells et mk fz n ex c) :
    ∃ arr lo hi, RowOf rt ι w b z et mk fz n ex c arr lo hi := by
  obtain ⟨b', z', o, h1, h2, h3⟩ := m.obj' hp (by rw [e]; intro e; cases e)
  rw [hp] at h1; injection h1 with h1; injection h1 with h1 h1'; subst h1; subst h1'
  rw [e] at h3
  cases h3 with | cells a b' c' d e' f => exact ⟨_, _, _, h2, a, b', c', d, e', f⟩

theorem AOcellsK_good {o : AO} {f : Nat → Bool → Nat → Nat → Bool → Row → Ans} (hk : AOcellsK o f = .good) : ∃ et mk fz n ex c, o = .cells et mk fz n ex c ∧ f et mk fz n ex c = .good := by
  cases o <;> first | exact ⟨_, _, _, _, _, _, rfl, hk⟩ | cases hk
theorem AOmapK_good {o : AO} {f : Bool → ML → Ans} (hk : AOmapK o f = .good) : ∃ d es, o = .map d es ∧ f d es = .good := by
  cases o <;> first | exact ⟨_, _, rfl, hk⟩ | cases hk
theorem AOloopK_good {o : AO} {f : G3 → R1 → LoopState → Pend → Ans} (hk : AOloopK o f = .good) : ∃ g e st p, o = .loop g e st p ∧ f g e st p = .good := by
  cases o <;> first | exact ⟨_, _, _, _, rfl, hk⟩ | cases hk
theorem AOdefdK_good {o : AO} {f : Ans} (hk : AOdefdK o f = .good) : o = .defd ∧ f = .good := by
  cases o <;> first | exact ⟨rfl, hk⟩ | cases hk
def Reads (ι : Inj) (P : Program) (w : World) (s : Sem Value) (k : AV → Ans) : Prop := ∃ a x, s.run P w = .ok x w ∧ VR ι a x ∧ k a = .good
theorem Gives.reads {s : Sem Value} {k : AV → Ans} (g : Gives ι P s k) (w : World) : Reads ι P w s k := let ⟨a, x, h1, h2, h3⟩ := g; ⟨a, x, h1 w, h2, h3⟩

theorem loadK_good {a : AV} {x : Value} {k : AV → Ans} (m : MR rt ι h w) (ha : VR ι a x) (ht : aggT P t = some false) (hk : loadK a h k = .good) : Reads ι P w (Instr.loadAt t x) k := by
  cases a with
  | ptr p o =>
    cases ha with | ptr _ hp =>
    rename_i b z
    have hk : HgetK h p (fun b => _) = .good := hk
    rw [HgetK_eq] at hk
    cases e : h.get p with
    | cells et mk fz n ex c =>
      rw [e] at hk
      have hk : @Bool.rec (fun _ => Row → Nat → (AV → Ans) → Ans) (fun _ _ _ => .bad) RgetK (Nat.ble (Nat.succ o) n) c o k = .good := hk
      cases e' : Nat.ble (Nat.succ o) n
      · rw [e'] at hk; cases hk
      · rw [e'] at hk
        have hk : RgetK c o k = .good := hk
        rw [RgetK_eq] at hk
        obtain ⟨arr, lo, hi, r⟩ := m.row hp e
        obtain ⟨_, v, hv, hr⟩ := r.hc o (ble_true e')
        refine ⟨_, v, ?_, hr, hk⟩
        simp [Instr.loadAt, Instr.sureAddr, loadVar, run_isAgg ht, cell_at r.at_, hv]
    | _ => rw [e] at hk; cases hk
  | _ => cases hk
theorem list_VRL {b z et n : Nat} {mk : Bool} {fz : Nat} {ex : Bool} {c : Row} {arr : Array Value} {lo hi : Nat} (r : RowOf rt ι w b z et mk fz n ex c arr lo hi) :
    ∀ (m i : Nat), i + m ≤ n → VRL ι (c.list m i) ((arr.toList.drop i).take m) := by
  intro m
  induction m with
  | zero => intro i _; rw [List.take_zero]; exact .nil
  | succ m ih =>
    intro i hi
    obtain ⟨_, v, hv, hr⟩ := r.hc i (by omega)
    have hlt : i < arr.toList.length := by
      have := (Array.getElem?_eq_some_iff.1 hv).1
      simpa using this
    have he : arr.toList[i] = v := by
      have := (Array.getElem?_eq_some_iff.1 hv).2
      simpa using this
    rw [List.drop_eq_getElem_cons hlt, List.take_succ_cons, he]
    exact .cons hr (ih (i + 1) (by omega))

theorem run_cells {b z et n : Nat} {mk : Bool} {fz : Nat} {ex : Bool} {c : Row} {arr : Array Value} {lo hi : Nat} (r : RowOf rt ι w b z et mk fz n ex c arr lo hi) (o m : Nat) (hm : o + m ≤ n) :
    (loadCells ⟨b, o, none⟩ m).run P w = .ok ((arr.toList.drop o).take m).toArray w := by
  have hl : ((arr.toList.drop o).take m).length = m := by
    rw [List.length_take, List.length_drop]
    have : arr.toList.length = z := by rw [← r.hz]; simp
    have := r.hn
    omega
  have := run_loadCells_list (P := P) w ⟨b, o, none⟩ ((arr.toList.drop o).take m) (fun j v hj => by
    rw [addr_add, cell_at r.at_]
    rw [List.getElem?_take] at hj
    split at hj
    · rw [List.getElem?_drop] at hj; simpa using hj
    · cases hj)
  rw [hl] at this
  exact this

theorem loadAK_good {z : Nat} {a : AV} {x : Value} {k : AV → Ans} (m : MR rt ι h w) (ha : VR ι a x) (ht : aggT P t = some true) (hz : sizeT P t = some z) (hk : loadAK z a h k = .good) : Reads ι P w (Instr.loadAt t x) k := by
  cases a with
  | ptr p o =>
    cases ha with | ptr _ hp =>
    rename_i b y
    have hk : HgetK h p (fun b => _) = .good := hk
    rw [HgetK_eq] at hk
    cases e : h.get p with
    | cells et mk fz n ex c =>
      rw [e] at hk
      have hk : @Bool.rec (fun _ => Row → Nat → Nat → (AV → Ans) → Ans) (fun _ _ _ _ => .bad) (fun c o z k => rowK z c o fun vs => k (.agg vs)) (Nat.ble (Nat.add o z) n) c o z k = .good := hk
      cases e' : Nat.ble (Nat.add o z) n
      · rw [e'] at hk; cases hk
      · rw [e'] at hk
        have hk : rowK z c o (fun vs => k (.agg vs)) = .good := hk
        rw [rowK_eq] at hk
        obtain ⟨arr, lo, hi, r⟩ := m.row hp e
        have hle : o + z ≤ n := ble_true e'
        refine ⟨_, .agg ((arr.toList.drop o).take z).toArray, ?_, .agg (by simpa using list_VRL r z o hle), hk⟩
        simp [Instr.loadAt, Instr.sureAddr, loadVar, run_isAgg ht, run_sizeOf hz, run_cells r o z hle]
    | _ => rw [e] at hk; cases hk
  | _ => cases hk
theorem isCell_oneCell {a : AV} {x : Value} (ha : VR ι a x) (hc : a.isCell = true) : x.oneCell' = true ∧ x.cells = #[x] := by
  cases ha <;> first | exact ⟨rfl, rfl⟩ | cases hc

theorem SetW.trans {w w' w'' : World} {b : Nat} {o o' : Obj} (a : SetW w w' b o) (c : SetW w' w'' b o') : SetW w w'' b o' :=
  ⟨c.os.trans a.os, c.tape.trans a.tape, c.output.trans a.output, c.size.trans a.size, c.at_, fun d hd => (c.other d hd).trans (a.other d hd)⟩
theorem SetW.refl {w : World} {b : Nat} {o : Obj} (h : w.heap[b]? = some o) : SetW w w b o := ⟨rfl, rfl, rfl, rfl, h, fun _ _ => rfl⟩

theorem store_one {b o : Nat} {arr : Array Value} {e : TypeId} {lo hi : Nat} {v : Value} (hb : w.heap[b]? = some (.cells arr e (lo, hi))) (ho : o < arr.size) (hf : ¬ (lo ≤ o ∧ o < hi)) (hv : v.oneCell' = true) :
    ∃ w', (store ⟨b, o, none⟩ v).run P w = .ok () w' ∧ SetW w w' b (.cells (arr.setIfInBounds o v) e (lo, hi)) := by
  refine ⟨w.setCell ⟨b, o, none⟩ v, ?_, ?_⟩
  · have hfr : w.frozen? ⟨b, o, none⟩ = false := by
      rw [frozen_at hb]
      rw [Bool.and_eq_false_iff]
      rcases Nat.lt_or_ge o lo with h1 | h1
      · left; exact decide_eq_false (by omega)
      · right; exact decide_eq_false (fun h2 => hf ⟨h1, h2⟩)
    rw [run_store P w _ v _ hv, cell_at hb, Array.getElem?_eq_getElem ho]
    simp [hfr]
  · refine ⟨rfl, rfl, rfl, by simp [World.setCell], ?_, fun c hc => ?_⟩
    · simp [World.setCell, Array.getElem?_modify, hb]
    · simp only [World.setCell, Array.getElem?_modify]
      rw [if_neg (fun e => hc e.symm)]
def putA (arr : Array Value) : Nat → List Value → Array Value
  | _, [] => arr
  | o, v :: r => putA (arr.setIfInBounds o v) (o + 1) r
theorem putA_size (vs : List Value) : ∀ (arr : Array Value) (o : Nat), (putA arr o vs).size = arr.size := by
  induction vs with
  | nil => intro arr o; rfl
  | cons v r ih => intro arr o; show (putA _ _ r).size = _; rw [ih]; simp
theorem putA_get (vs : List Value) : ∀ (arr : Array Value) (o j : Nat), o + vs.length ≤ arr.size → (putA arr o vs)[j]? = if o ≤ j ∧ j < o + vs.length then vs[j - o]? else arr[j]? := by
  induction vs with
  | nil => intro arr o j _; rw [if_neg (by simp)]; rfl
  | cons v r ih =>
    intro arr o j hle
    simp only [List.length_cons] at hle ⊢
    show (putA _ _ r)[j]? = _
    rw [ih _ _ _ (by simp; omega)]
    by_cases h1 : o + 1 ≤ j ∧ j < o + 1 + r.length
    · rw [if_pos h1, if_pos (by omega)]
      obtain ⟨d, hd⟩ : ∃ d, j - o = d + 1 := ⟨j - o - 1, by omega⟩
      rw [hd, List.getElem?_cons_succ]
      congr 1; omega
    · rw [if_neg h1]
      by_cases h2 : j = o
      · rw [h2]
        rw [if_pos (by omega), Array.getElem?_setIfInBounds_self, if_pos (show o < arr.size by omega), Nat.sub_self, List.getElem?_cons_zero]
      · rw [if_neg (by omega), Array.getElem?_setIfInBounds_ne (fun e => h2 e.symm)]

theorem store_cells {b : Nat} {e : TypeId} {lo hi : Nat} (vs : List Value) : ∀ {w : World} {arr : Array Value} {o i : Nat}, w.heap[b]? = some (.cells arr e (lo, hi)) → o + i + vs.length ≤ arr.size → (∀ j, o + i ≤ j → j < o + i + vs.length → ¬ (lo ≤ j ∧ j < hi)) →
    (∀ v ∈ vs, v.oneCell' = true) → ∃ w', (storeCells ⟨b, o, none⟩ vs i).run P w = .ok () w' ∧ SetW w w' b (.cells (putA arr (o + i) vs) e (lo, hi)) := by
  induction vs with
  | nil => intro w arr o i hb _ _ _; exact ⟨w, rfl, .refl hb⟩
  | cons v r ih =>
    intro w arr o i hb hle hf hv
    simp only [List.length_cons] at hle hf
    obtain ⟨w1, h1, s1⟩ := store_one (P := P) (v := v) hb (show o + i < arr.size by omega) (hf (o + i) (Nat.le_refl _) (by omega)) (hv v (by simp))
    obtain ⟨w2, h2, s2⟩ := ih (o := o) (i := i + 1) s1.at_ (by simp; omega) (fun j h3 h4 => hf j (by omega) (by omega)) (fun v hv' => hv v (by simp [hv']))
    refine ⟨w2, ?_, s1.trans s2⟩
    show ((store _ v) >>= fun _ => storeCells _ r (i + 1)).run P w = _
    rw [Sem.run_bind, addr_add, h1, Result.andThen_ok, h2]
end Go.Ev

namespace Go.Ev
open Go
set_option linter.unusedSectionVars false
variable [Sym]
set_option linter.unusedVariables false
variable {rt : Nat → Option RT} {ι : Inj} {P : Program} {h : H} {w : World} {t : TypeId}
def Does {α : Type} (rt : Nat → Option RT) (ι : Inj) (P : Program) (h : H) (w : World) (s : Sem α) (R : Inj → α → H → Prop) : Prop :=
  ∃ x w' ι' h', s.run P w = .ok x w' ∧ Post rt ι h w ι' h' w' ∧ R ι' x h'
abbrev DoesV (rt : Nat → Option RT) (ι : Inj) (P : Program) (h : H) (w : World) (s : Sem Value) (k : AV → H → Ans) : Prop :=
  Does rt ι P h w s fun ι' x h' => ∃ a, VR ι' a x ∧ k a h' = .good
abbrev DoesU (rt : Nat → Option RT) (ι : Inj) (P : Program) (h : H) (w : World) (s : Sem Unit) (k : H → Ans) : Prop :=
  Does rt ι P h w s fun _ _ h' => k h' = .good

theorem VRL.len {l : List Value} : ∀ {a : AV}, VRL ι a l → a.len = l.length := by
  induction l with
  | nil => intro a h; cases h; rfl
  | cons x r ih => intro a h; cases h with | cons _ h' => simp [AV.len, ih h']

theorem Row.Lay.facts {vs : AV} {i : Nat} {c c' : Row} (h : Row.Lay vs i c c') : ∀ {xs : List Value}, VRL ι vs xs →
    c.room ≤ c'.room ∧ (∀ j, j < c.room → (j < i ∨ i + xs.length ≤ j) → c'.get j = c.get j) ∧ (∀ (d : Nat) (v : Value), xs[d]? = some v → i + d < c'.room ∧ (c'.get (i + d)).isCell = true ∧ VR ι (c'.get (i + d)) v ∧ v.oneCell' = true) := by
  induction h with
  | nil i c =>
    intro xs hv; cases hv
    exact ⟨Nat.le_refl _, fun _ _ _ => rfl, fun d v e => by simp at e⟩
  | @cons a b i c c' c'' hp hc hl ih =>
    intro xs hv
    cases hv with | cons ha hb =>
    rename_i x r
    obtain ⟨p1, p2, p3, p4⟩ := hp
    obtain ⟨q1, q2, q3⟩ := ih hb
    refine ⟨Nat.le_trans p1 q1, fun j hj ho => ?_, fun d v e => ?_⟩
    · simp only [List.length_cons] at ho
      rw [q2 j (by omega) (by omega), p4 j hj (by omega)]
    · cases d with
      | zero =>
        rw [List.getElem?_cons_zero] at e; injection e with e; subst e
        have e' : c''.get i = a := by rw [q2 i p2 (by omega), p3]
        exact ⟨by omega, by rw [Nat.add_zero, e']; exact hc, by rw [Nat.add_zero, e']; exact ha, (isCell_oneCell ha hc).1⟩
      | succ d =>
        rw [List.getElem?_cons_succ] at e
        have := q3 d v e
        rw [show i + (d + 1) = i + 1 + d by omega]
        exact this

theorem not_sealed {et : Nat} {mk : Bool} {fz n : Nat} {ex : Bool} {c : Row} (h : fz ≤ n) : ¬ Sealed (.cells et mk fz n ex c) := by
  rintro ⟨_, _, _, _, e⟩
  injection e with _ _ e1 e2 _ _
  omega

theorem VRL.mem_get {xs : List Value} {Q : Value → Prop} (h : ∀ (d : Nat) (v : Value), xs[d]? = some v → Q v) : ∀ v ∈ xs, Q v := fun v hv =>
  let ⟨d, hd, e⟩ := List.mem_iff_getElem.1 hv
  h d v (by rw [List.getElem?_eq_getElem hd, e])
theorem storeRow (m : MR rt ι h w) {p : P4} {b z et : Nat} {mk : Bool} {fz n : Nat} {ex : Bool} {c c' : Row} {vs : AV} {xs : List Value} {o : Nat} (hp : ι p = some (b, z)) (e : h.get p = .cells et mk fz n ex c)
    (hl : Row.Lay vs o c c') (hv : VRL ι vs xs) (hn : o + xs.length ≤ n) (hf : fz ≤ o) :
    ∃ w', (storeCells ⟨b, o, none⟩ xs 0).run P w = .ok () w' ∧ Post rt ι h w ι (h.set p (.cells et mk fz n ex c')) w' := by
  obtain ⟨arr, lo, hi, r⟩ := m.row hp e
  obtain ⟨f1, f2, f3⟩ := hl.facts hv
  have hnz := r.hn
  obtain ⟨w', h1, s1⟩ := store_cells (P := P) xs (o := o) (i := 0) r.at_ (by rw [r.hz]; omega) (fun j h1 h2 h3 => by
    rcases r.hf with q | ⟨_, _, q⟩ | ⟨_, q⟩ | q <;> omega) (VRL.mem_get fun d v e => (f3 d v e).2.2.2)
  refine ⟨w', h1, Post.set m hp (by rw [e]; intro e; cases e) (by rw [e]; exact not_sealed (by omega)) s1 ?_⟩
  refine .cells (by rw [putA_size]; exact r.hz) r.hn (Nat.le_trans r.hr f1) r.hx (fun i hi' => ?_) r.hf
  rw [putA_get _ _ _ _ (by rw [r.hz]; omega)]
  by_cases hj : o ≤ i ∧ i < o + xs.length
  · obtain ⟨v, hv'⟩ : ∃ v, xs[i - o]? = some v := ⟨_, List.getElem?_eq_getElem (by omega)⟩
    have := f3 (i - o) v hv'
    rw [show o + (i - o) = i by omega] at this
    rw [if_pos (by omega), Nat.add_zero, hv']
    exact ⟨trivial, v, rfl, this.2.2.1⟩
  · rw [if_neg (by omega), f2 i (by have := r.hr; omega) (by omega)]
    exact r.hc i hi'

theorem run_storeVar_cells {x : Value} {a : Addr} (hs : sizeT P t = some x.cells.size) {w w' : World} (h : (storeCells a x.cells.toList 0).run P w = .ok () w') : (storeVar t a x).run P w = .ok () w' := by
  simp [storeVar, run_sizeOf hs, h]

theorem storeK_good {a v : AV} {x y : Value} {k : H → Ans} (m : MR rt ι h w) (ha : VR ι a x) (hv : VR ι v y) (ht : sizeT P t = some 1) (hk : storeK a v h k = .good) : DoesU rt ι P h w (Instr.storeAt t x y) k := by
  cases a with
  | ptr p o =>
    cases ha with | ptr _ hp =>
    rename_i b z
    have hk : cellK v (HmodK h p _ k) = .good := hk
    obtain ⟨hc, hk⟩ := cellK_good hk
    rw [HmodK_eq] at hk
    cases e : h.get p with
    | cells et mk fz n ex c =>
      rw [e] at hk
      have hk : wK (Nat.ble (Nat.succ o) n) (wK (Nat.ble fz o) (RsetK c o v fun c => k (h.set p (.cells et mk fz n ex c)))) = .good := hk
      obtain ⟨h1, hk⟩ := wK_good hk
      obtain ⟨h2, hk⟩ := wK_good hk
      obtain ⟨c', h3, hk⟩ := RsetK_good hk
      have hx := (isCell_oneCell hv hc).2
      obtain ⟨w', h4, h5⟩ := storeRow (P := P) m hp e (.cons h3 hc (.nil _ _)) (.cons hv .nil) (ble_true h1) (ble_true h2)
      refine ⟨(), w', ι, _, ?_, h5, hk⟩
      have := run_storeVar_cells (t := t) (x := y) (a := ⟨b, o, none⟩) (by rw [hx]; exact ht) (w := w) (w' := w') (by rw [hx]; exact h4)
      simp [Instr.storeAt, Instr.sureAddr, this]
    | _ => rw [e] at hk; cases hk
  | _ => cases hk

theorem storeAK_good {z : Nat} {a v : AV} {x y : Value} {k : H → Ans} (m : MR rt ι h w) (ha : VR ι a x) (hv : VR ι v y) (ht : sizeT P t = some z) (hk : storeAK z a v h k = .good) : DoesU rt ι P h w (Instr.storeAt t x y) k := by
  cases a with
  | ptr p o =>
    cases v with
    | agg vs =>
      cases ha with | ptr _ hp =>
      cases hv with | agg hv =>
      rename_i b y ys
      have hk : wK (Nat.beq vs.len z) (HgetK h p fun b => AOcellsK b fun et mk fz n ex c =>
        wK (Nat.ble (Nat.add o z) n) (wK (Nat.ble fz o) (layK vs o c fun c => HsetK h p (AO.cells et mk fz n ex c) k))) = .good := hk
      obtain ⟨h0, hk⟩ := wK_good hk
      have h0 := beq_true h0
      rw [HgetK_eq] at hk
      obtain ⟨et, mk, fz, n, ex, c, e, hk⟩ := AOcellsK_good hk
      obtain ⟨h1, hk⟩ := wK_good hk
      obtain ⟨h2, hk⟩ := wK_good hk
      obtain ⟨c', h3, hk⟩ := layK_good _ hk
      rw [HsetK_eq] at hk
      have hl := hv.len
      obtain ⟨w', h4, h5⟩ := storeRow (P := P) m hp e h3 hv (by have := ble_true h1; rw [← hl, h0]; exact this) (ble_true h2)
      refine ⟨(), w', ι, _, ?_, h5, hk⟩
      have := run_storeVar_cells (t := t) (x := .agg ys) (a := ⟨b, o, none⟩) (by show _ = some ys.size; rw [ht, ← h0, hl]; simp) (w := w) (w' := w') h4
      simp [Instr.storeAt, Instr.sureAddr, this]
    | _ => cases hk
  | _ => cases hk
theorem pushW_alloc (o : Obj) : PushW w { w with heap := w.heap.push o } o := ⟨rfl, rfl, rfl, rfl⟩
theorem newRow_good {et : Nat} {mk : Bool} {n : Nat} {ex : Bool} {vs : AV} {c0 c : Row} {xs : List Value} {arr : Array Value} {k : P4 → H → Ans} (m : MR rt ι h w) (hl : Row.Lay vs 0 c0 c) (hv : VRL ι vs xs) (hn : n = xs.length) (ha : arr = xs.toArray)
    (hk : HnewK h (.cells et mk 0 n ex c) k = .good) :
    ∃ p w' ι' h', (newRow et arr).run P w = .ok ⟨w.heap.size, 0, none⟩ w' ∧ Post rt ι h w ι' h' w' ∧ ι' p = some (w.heap.size, n) ∧ k p h' = .good := by
  obtain ⟨q, h1, hk⟩ := HnewK_good hk
  obtain ⟨f1, f2, f3⟩ := hl.facts hv
  subst ha
  refine ⟨h.nx, _, upd ι h.nx (w.heap.size, n), _, ?_, Post.alloc m (pushW_alloc (.cells xs.toArray et (0, 0))) h1 ?_, upd_same _ _ _, hk⟩
  · simp [newRow]
  · refine .cells (by simp [hn]) (Nat.le_refl _) ?_ (fun _ => rfl) (fun i hi => ?_) (.inl rfl)
    · rcases Nat.eq_zero_or_pos n with h0 | h0
      · omega
      · have := (f3 (n - 1) _ (List.getElem?_eq_getElem (by omega))).1
        omega
    · have := f3 i _ (List.getElem?_eq_getElem (by omega))
      rw [Nat.zero_add] at this
      refine ⟨trivial, _, ?_, this.2.2.1.ext (upd_ext _ (m.fresh (Nat.le_refl _)))⟩
      simp
end Go.Ev

namespace Go.Ev
open Go
set_option linter.unusedSectionVars false
variable [Sym]
set_option linter.unusedVariables false
variable {rt : Nat → Option RT} {ι : Inj} {P : Program} {h : H} {w : World} {t : TypeId}

theorem ofVal_both (ι : Inj) (n : Nat) : (∀ v a, ofVal n v = some a → VR ι a v) ∧ (∀ l a, ofVals n l = some a → VRL ι a l) := by
  induction n with
  | zero => exact ⟨fun v a h => by simp [ofVal] at h, fun l a h => by simp [ofVals] at h⟩
  | succ n ih =>
    refine ⟨fun v a h => ?_, fun l a h => ?_⟩
    · unfold ofVal at h
      split at h
      · cases h
      · injection h with h; subst h; exact .bool _
      · rename_i m _
        cases hb : Nat.ble m maxI
        · rw [hb] at h; cases h
        · rw [hb] at h; injection h with h; subst h; exact .num _ (ble_true hb)
      · rename_i k m hne _
        injection h with h; subst h
        have := VR.int (ι := ι) (kc k) m (fun e => by cases k <;> first | exact absurd rfl hne | cases e)
        rw [kd_kc] at this; exact this
      · rename_i k m _
        injection h with h; subst h
        have := VR.neg (ι := ι) (kc k) m
        rw [kd_kc] at this; exact this
      · rename_i s _
        split at h
        · injection h with h; subst h; exact .str s (by assumption)
        · cases h
      · injection h with h; subst h; exact .pnil
      · injection h with h; subst h; exact .snil
      · injection h with h; subst h; exact .mnil
      · injection h with h; subst h; exact .fnil
      · injection h with h; subst h; exact .inil
      · rename_i t v e0
        injection e0 with e0; subst e0
        obtain ⟨b, hb, e⟩ := Option.map_eq_some_iff.1 h
        subst e; exact .ifc _ (ih.1 _ _ hb)
      · rename_i e0
        injection e0 with e0; subst e0
        obtain ⟨b, hb, e⟩ := Option.map_eq_some_iff.1 h
        subst e; exact .agg (ih.2 _ _ hb)
      · rename_i e0
        injection e0 with e0; subst e0
        obtain ⟨b, hb, e⟩ := Option.map_eq_some_iff.1 h
        subst e; exact .tup (ih.2 _ _ hb)
      · cases h
    · unfold ofVals at h
      split at h
      · cases h
      · injection h with h; subst h; exact .nil
      · rename_i e0
        injection e0 with e0; subst e0
        split at h
        · rename_i h1 h2
          injection h with h; subst h
          exact .cons (ih.1 _ _ h1) (ih.2 _ _ h2)
        · cases h
theorem ofVal_VR {n : Nat} {v : Value} {a : AV} (h : ofVal n v = some a) : VR ι a v := (ofVal_both ι n).1 v a h

theorem zeroT_good {t : TypeId} {z : AV} (h : zeroT P t = some z) : ∃ v, VR ι z v ∧ ∀ w, (zeroValue t).run P w = .ok v w := by
  unfold zeroT at h
  obtain ⟨v, h1, h2⟩ := Option.bind_eq_some_iff.1 h
  obtain ⟨i, h3, h4⟩ := Option.bind_eq_some_iff.1 h1
  refine ⟨v, ofVal_VR h2, fun w => ?_⟩
  simp [zeroValue, run_info h3, h4]

theorem VR.cells {a : AV} {x : Value} (h : VR ι a x) : VRL ι a.cells x.cells.toList := by
  cases h with
  | agg h => exact h
  | bool b => exact .cons (.bool b) .nil
  | num n h => exact .cons (.num n h) .nil
  | int k n h => exact .cons (.int k n h) .nil
  | neg k n => exact .cons (.neg k n) .nil
  | str s h => exact .cons (.str s h) .nil
  | ptr o h => exact .cons (.ptr o h) .nil
  | sl o l c h hl hc => exact .cons (.sl o l c h hl hc) .nil
  | slo o l z c h hz hl hm => exact .cons (.slo o l z c h hz hl hm) .nil
  | map h => exact .cons (.map h) .nil
  | fn hg h1 h2 => exact .cons (.fn hg h1 h2) .nil
  | yld g h => exact .cons (.yld g h) .nil
  | ifc t h => exact .cons (.ifc t h) .nil
  | tup h => exact .cons (.tup h) .nil
  | any i => exact .cons (.any i) .nil
  | pnil => exact .cons .pnil .nil
  | snil => exact .cons .snil .nil
  | szero a c => exact .cons (.szero a c) .nil
  | mnil => exact .cons .mnil .nil
  | fnil => exact .cons .fnil .nil
  | inil => exact .cons .inil .nil

theorem rowC_get {l : List AV} {c : Row} (h : rowC l = some c) : ∀ (d : Nat) (a : AV), l[d]? = some a → d < c.room ∧ c.get d = a := by
  unfold rowC at h
  split at h
  all_goals try (cases h; done)
  all_goals (injection h with h; subst h; intro d a e)
  all_goals repeat (first | (exfalso; simp at e; done) | (rcases d with _ | d; · (simp only [List.getElem?_cons_succ, List.getElem?_cons_zero] at e; injection e with e; subst e; exact ⟨by simp only [Row.room]; omega, rfl⟩)))

theorem VRL.toL {l : List Value} : ∀ {a : AV}, VRL ι a l → a.toL.length = l.length ∧ ∀ (d : Nat) (v : Value), l[d]? = some v → ∃ b, a.toL[d]? = some b ∧ VR ι b v := by
  induction l with
  | nil => intro a h; cases h; exact ⟨rfl, fun d v e => by simp at e⟩
  | cons x r ih =>
    intro a h
    cases h with | cons h1 h2 =>
    rename_i b c
    obtain ⟨i1, i2⟩ := ih h2
    refine ⟨by show (b :: c.toL).length = _; simp [i1], fun d v e => ?_⟩
    cases d with
    | zero => rw [List.getElem?_cons_zero] at e; injection e with e; subst e; exact ⟨b, rfl, h1⟩
    | succ d => rw [List.getElem?_cons_succ] at e; exact i2 d v e
theorem newCells_good {et : Nat} {mk : Bool} {n : Nat} {ex : Bool} {c : Row} {xs : List Value} {arr : Array Value} {k : P4 → H → Ans} (m : MR rt ι h w)
    (f3 : ∀ (d : Nat) (v : Value), xs[d]? = some v → d < c.room ∧ True ∧ VR ι (c.get d) v) (hn : n = xs.length) (ha : arr = xs.toArray)
    (hk : HnewK h (.cells et mk 0 n ex c) k = .good) :
    ∃ p w' ι' h', (newRow et arr).run P w = .ok ⟨w.heap.size, 0, none⟩ w' ∧ Post rt ι h w ι' h' w' ∧ ι' p = some (w.heap.size, n) ∧ k p h' = .good := by
  obtain ⟨q, h1, hk⟩ := HnewK_good hk
  subst ha
  refine ⟨h.nx, _, upd ι h.nx (w.heap.size, n), _, ?_, Post.alloc m (pushW_alloc (.cells xs.toArray et (0, 0))) h1 ?_, upd_same _ _ _, hk⟩
  · simp [newRow]
  · refine .cells (by simp [hn]) (Nat.le_refl _) ?_ (fun _ => rfl) (fun i hi => ?_) (.inl rfl)
    · rcases Nat.eq_zero_or_pos n with h0 | h0
      · omega
      · have := (f3 (n - 1) _ (List.getElem?_eq_getElem (by omega))).1
        omega
    · have := f3 i _ (List.getElem?_eq_getElem (by omega))
      refine ⟨trivial, _, ?_, this.2.2.ext (upd_ext _ (m.fresh (Nat.le_refl _)))⟩
      simp

theorem pointer_new {et : Nat} {x : Value} {n : Nat} {k : P4 → H → Ans} {k' : AV → H → Ans} (hkk : ∀ p h, k p h = k' (.ptr p 0) h) (s : Sem Value) (hs : s = (do pure (.pointer (some (← newVar et x)))))
    (hd : ∃ p w' ι' h', (newRow et x.cells).run P w = .ok ⟨w.heap.size, 0, none⟩ w' ∧ Post rt ι h w ι' h' w' ∧ ι' p = some (w.heap.size, n) ∧ k p h' = .good) : DoesV rt ι P h w s k' := by
  obtain ⟨p, w', ι', h', h1, h2, h3, h4⟩ := hd
  subst hs
  refine ⟨_, w', ι', h', ?_, h2, .ptr p 0, .ptr 0 h3, by rw [← hkk]; exact h4⟩
  simp [newVar, h1]

theorem boxLK_good {et : Nat} {v : AV} {x : Value} {k : AV → H → Ans} (m : MR rt ι h w) (hv : VR ι v x) (s : Sem Value) (hs : s = (do pure (.pointer (some (← newVar et x))))) (hk : boxLK et v h k = .good) : DoesV rt ι P h w s k := by
  have hc : v.isCell = true ∨ (∃ cs, v = .agg cs) ∨ (∃ cs, v = .tup cs) := by cases v <;> first | exact .inl rfl | exact .inr (.inl ⟨_, rfl⟩) | exact .inr (.inr ⟨_, rfl⟩)
  have hk : layK v.cells 0 RowE (fun c => HnewK h (AO.cells et false 0 v.cells.len true c) fun p h => k (.ptr p 0) h) = .good := by
    rcases hc with hc | ⟨cs, rfl⟩ | ⟨cs, rfl⟩
    · cases v <;> first | exact hk | cases hc
    · exact hk
    · cases hk
  obtain ⟨c, h1, hk⟩ := layK_good _ hk
  exact pointer_new (fun _ _ => rfl) s hs (newRow_good m h1 hv.cells hv.cells.len (by simp) hk)

theorem boxAK_good {et : Nat} {v : AV} {x : Value} {k : AV → H → Ans} (m : MR rt ι h w) (hv : VR ι v x) (hk : boxAK et v h k = .good) : DoesV rt ι P h w (Instr.box et x) k := by
  cases v with
  | agg cs => exact boxLK_good m hv _ rfl hk
  | _ => cases hk

theorem boxK_good {et : Nat} {v : AV} {x : Value} {k : AV → H → Ans} (m : MR rt ι h w) (hv : VR ι v x) (hk : boxK et v h k = .good) : DoesV rt ι P h w (Instr.box et x) k := by
  obtain ⟨hc, hk⟩ := cellK_good hk
  refine pointer_new (fun _ _ => rfl) _ rfl (newCells_good (xs := [x]) m (fun d y e => ?_) rfl (isCell_oneCell hv hc).2 hk)
  cases d with
  | zero => injection e with e; subst e; exact ⟨by simp only [Row.room]; omega, trivial, hv⟩
  | succ d => simp at e

theorem allocK_good {et : Nat} {z : AV} {c : Row} {k : AV → H → Ans} (m : MR rt ι h w) (hz : zeroT P et = some z) (hr : rowC z.cells.toL = some c) (hc : z.cells.toL.all AV.isCell = true) (o : Value) (hk : allocK et z.cells.len c h k = .good) :
    DoesV rt ι P h w (Instr.alloc et true o) k := by
  obtain ⟨v, hv, hrun⟩ := zeroT_good (ι := ι) hz
  obtain ⟨l1, l2⟩ := hv.cells.toL
  obtain ⟨p, w', ι', h', h1, h2, h3, h4⟩ := newCells_good (P := P) (xs := v.cells.toList) (arr := v.cells) m (fun d y e => by
    obtain ⟨b, e1, e2⟩ := l2 d y e
    obtain ⟨e3, e4⟩ := rowC_get hr d b e1
    rw [e4]
    exact ⟨e3, trivial, e2⟩) hv.cells.len (by simp) hk
  refine ⟨_, w', ι', h', ?_, h2, .ptr p 0, .ptr 0 h3, h4⟩
  simp [Instr.alloc, hrun, newVar, h1]

theorem allocLK_good {et : Nat} {z : AV} {k : AV → H → Ans} (m : MR rt ι h w) (hz : zeroT P et = some z) (o : Value) (hk : boxLK et z h k = .good) : DoesV rt ι P h w (Instr.alloc et true o) k := by
  obtain ⟨v, hv, hrun⟩ := zeroT_good (ι := ι) hz
  obtain ⟨x, w', ι', h', h1, h2, h3⟩ := boxLK_good (P := P) m hv _ rfl hk
  refine ⟨x, w', ι', h', ?_, h2, h3⟩
  rw [← h1]
  simp [Instr.alloc, Sem.run_bind, hrun]
end Go.Ev

namespace Go.Ev
open Go
set_option linter.unusedSectionVars false
variable [Sym]
set_option linter.unusedVariables false
variable {rt : Nat → Option RT} {ι : Inj} {P : Program} {h : H} {w : World} {t : TypeId} {a b : AV} {x y : Value} {k : AV → Ans}

theorem faddrK_good {fs : Array Field} {n s : Nat} {f : Field} (hu : P.underlying t = some (.struct fs)) (hf : fs[n]? = some f) (hs : sizeT P f.type = some s) (h0 : s ≠ 0) (hk : faddrK f.offset a k = .good) (ha : VR ι a x) : Gives ι P (Instr.fieldAt t x n) k := by
  cases a with
  | ptr p o =>
    cases ha with | ptr _ hp =>
    rename_i b z
    have hk : fN (Nat.add o f.offset) (fun m => k (.ptr p m)) = .good := hk
    rw [fN_eq] at hk
    refine ⟨_, .pointer (some ⟨b, o + f.offset, none⟩), fun w => ?_, .ptr _ hp, hk⟩
    simp [Instr.fieldAt, run_und hu, hf, Instr.sureAddr, fieldPlace, run_sizeOf hs, h0, addr_add]
  | _ => cases hk

theorem indexAt_slice {e z : Nat} (hu : P.underlying t = some (.slice e)) (hs : sizeT P e = some z) {b o l c i : Nat} {kk : IntKind} (hi : i < l) (w : World) :
    (Instr.indexAt t (.slice (some ⟨b, o, none⟩) l c) (.int kk i)).run P w = .ok (.pointer (some ⟨b, o + i * z, none⟩)) w := by
  simp [Instr.indexAt, asIntOf, run_und hu, run_sizeOf hs, addr_add, hi]

theorem iaddrK_good {e z : Nat} (hu : P.underlying t = some (.slice e)) (hs : sizeT P e = some z) (hk : iaddrK z a b k = .good) (ha : VR ι a x) (hb : VR ι b y) : Gives ι P (Instr.indexAt t x y) k := by
  have key : ∀ (p : P4) (o l i : Nat) (kk : IntKind) (bb zz c : Nat), ι p = some (bb, zz) → x = .slice (some ⟨bb, o, none⟩) l c → y = .int kk (i : Nat) →
      @Bool.rec (fun _ => P4 → Nat → Nat → Nat → (AV → Ans) → Ans) (fun _ _ _ _ _ => .bad) (fun p o z i k => fN (Nat.add o (Nat.mul i z)) fun m => k (.ptr p m)) (Nat.ble (Nat.succ i) l) p o z i k = .good → Gives ι P (Instr.indexAt t x y) k := fun p o l i kk bb zz c hp hx hy hk => by
    subst hx hy
    cases e' : Nat.ble (Nat.succ i) l
    · rw [e'] at hk; cases hk
    · rw [e'] at hk
      have hk : fN (Nat.add o (Nat.mul i z)) (fun m => k (.ptr p m)) = .good := hk
      rw [fN_eq] at hk
      exact ⟨_, _, fun w => indexAt_slice hu hs (ble_true e') w, .ptr _ hp, hk⟩
  cases a with
  | sl p o l c =>
    cases ha with | sl _ _ _ hp =>
    cases b with
    | num i => exact key p o l i .i64 _ _ c hp rfl (num_of hb).1 hk
    | int j i => exact key p o l i (kd j) _ _ c hp rfl (int_of hb) hk
    | _ => cases hk
  | slo p o l c =>
    cases ha with | slo _ _ _ _ hp =>
    cases b with
    | num i => exact key p o l i .i64 _ _ _ hp rfl (num_of hb).1 hk
    | int j i => exact key p o l i (kd j) _ _ _ hp rfl (int_of hb) hk
    | _ => cases hk
  | _ => cases hk

theorem aaddrK_good {e z n : Nat} (hu : P.underlying t = some (.array n e)) (hs : sizeT P e = some z) (hk : aaddrK n z a b k = .good) (ha : VR ι a x) (hb : VR ι b y) : Gives ι P (Instr.indexAt t x y) k := by
  obtain ⟨p, o, rfl, hk⟩ := asPtr_good hk
  cases ha with | ptr _ hp =>
  rename_i bb zz
  obtain ⟨kk, i, rfl, hi, hk⟩ := belowK_good hk hb
  rw [fN_eq] at hk
  refine ⟨_, .pointer (some ⟨bb, o + i * z, none⟩), fun w => ?_, .ptr _ hp, hk⟩
  simp [Instr.indexAt, asIntOf, run_und hu, Instr.sureAddr, run_sizeOf hs, addr_add, hi]
theorem dropK_good {n : Nat} : ∀ {v : AV} {k : AV → Ans} {l : List Value}, VRL ι v l → dropK n v k = .good → ∃ r, VRL ι r (l.drop n) ∧ n ≤ l.length ∧ k r = .good := by
  induction n with
  | zero => intro v k l hv hk; exact ⟨v, hv, Nat.zero_le _, hk⟩
  | succ n ih =>
    intro v k l hv hk
    have hk : asCons v (fun _ b => dropK n b k) = .good := hk
    obtain ⟨c, r, rfl, hk⟩ := asCons_good hk
    cases hv with | cons h1 h2 =>
    obtain ⟨r', h3, h4, h5⟩ := ih h2 hk
    exact ⟨r', h3, by simp; omega, h5⟩
theorem takeK_good {n : Nat} : ∀ {v : AV} {k : AV → Ans} {l : List Value}, VRL ι v l → takeK n v k = .good → ∃ r, VRL ι r (l.take n) ∧ n ≤ l.length ∧ k r = .good := by
  induction n with
  | zero => intro v k l hv hk; exact ⟨.nil, .nil, Nat.zero_le _, hk⟩
  | succ n ih =>
    intro v k l hv hk
    have hk : asCons v (fun a b => takeK n b fun r => k (.cons a r)) = .good := hk
    obtain ⟨c, r, rfl, hk⟩ := asCons_good hk
    cases hv with | cons h1 h2 =>
    obtain ⟨r', h3, h4, h5⟩ := ih h2 hk
    exact ⟨_, .cons h1 h3, by simp; omega, h5⟩
theorem nthK_good {n : Nat} {v : AV} {k : AV → Ans} {l : List Value} (hv : VRL ι v l) (hk : nthK n v k = .good) : ∃ c y, l[n]? = some y ∧ VR ι c y ∧ k c = .good := by
  obtain ⟨r, h1, h2, hk⟩ := dropK_good hv hk
  obtain ⟨c, r', rfl, hk⟩ := asCons_good hk
  generalize e : l.drop n = l' at h1
  cases h1 with | cons h3 h4 =>
  rename_i y s
  refine ⟨c, y, ?_, h3, hk⟩
  have : (l.drop n)[0]? = some y := by rw [e]; rfl
  rw [List.getElem?_drop] at this
  exact this

theorem part_good {g : Bool} {off z : Nat} {cs : AV} {arr : Array Value} (hg : aggT P t = some g) (hs : sizeT P t = some z) (hv : VRL ι cs arr.toList) (hk : (match g with | true => dropK off cs fun r => takeK z r fun r => k (.agg r) | false => nthK off cs k) = .good) :
    Gives ι P (part t arr off) k := by
  cases g with
  | true =>
    obtain ⟨r, h1, h2, hk⟩ := dropK_good hv hk
    obtain ⟨r', h3, h4, hk⟩ := takeK_good h1 hk
    refine ⟨_, .agg (arr.extract off (off + z)), fun w => ?_, .agg ?_, hk⟩
    · simp [part, run_isAgg hg, run_sizeOf hs]
    · rw [Array.toList_extract]
      simpa [List.extract_eq_take_drop] using h3
  | false =>
    obtain ⟨c, y, h1, h2, hk⟩ := nthK_good hv hk
    refine ⟨_, y, fun w => ?_, h2, hk⟩
    have h1 : arr[off]? = some y := by simpa using h1
    simp [part, run_isAgg hg, h1]

theorem fieldK_good {fs : Array Field} {n s : Nat} {f : Field} {g : Bool} (hu : P.underlying t = some (.struct fs)) (hf : fs[n]? = some f) (hg : aggT P f.type = some g) (hs : sizeT P f.type = some s) (hk : fieldK g f.offset s a k = .good) (ha : VR ι a x) : Gives ι P (Instr.field t x n) k := by
  obtain ⟨cs, rfl, hk⟩ := asAgg_good hk
  cases ha with | agg hv =>
  obtain ⟨v, u, h1, h2, h3⟩ := part_good hg hs hv hk
  refine ⟨v, u, fun w => ?_, h2, h3⟩
  simp [Instr.field, run_und hu, hf, Go.asAgg, h1]

theorem aidxK_good {n e s : Nat} {g : Bool} (hu : P.underlying t = some (.array n e)) (hg : aggT P e = some g) (hs : sizeT P e = some s) (hk : aidxK g n s a b k = .good) (ha : VR ι a x) (hb : VR ι b y) : Gives ι P (Instr.index t x y) k := by
  obtain ⟨cs, rfl, hk⟩ := asAgg_good hk
  cases ha with | agg hv =>
  obtain ⟨kk, i, rfl, hi, hk⟩ := belowK_good hk hb
  obtain ⟨v, u, h1, h2, h3⟩ := part_good hg hs hv hk
  refine ⟨v, u, fun w => ?_, h2, h3⟩
  have h1 := h1 w
  simp [Instr.index, asIntOf, run_und hu, hi, run_sizeOf hs]
  exact h1

theorem extractK_good {i : Nat} (hk : extractK i a k = .good) (ha : VR ι a x) : Gives ι P (Instr.extract x i) k := by
  obtain ⟨cs, rfl, hk⟩ := asTup_good hk
  cases ha with | tup hv =>
  rename_i arr
  obtain ⟨c, y, h1, h2, hk⟩ := nthK_good hv hk
  refine ⟨_, y, fun w => ?_, h2, hk⟩
  have h1 : arr[i]? = some y := by simpa using h1
  simp [Instr.extract, h1]
theorem opt_bound {B n d : Nat} {v : Option AV} {v' : Option Value} {f : Nat → Ans} (hB : B ≤ n) (hv : VRo ι v v') (hd : v = none → d ≤ B) (hk : optK B d v f = .good) :
    ∃ i, i ≤ B ∧ f i = .good ∧ (v' = none → i = d) ∧ ∀ x, v' = some x → ∀ code w, (Instr.sliceBound x n code).run P w = .ok i w := by
  cases hv with
  | none => exact ⟨d, hd rfl, hk, fun _ => rfl, fun x e => by cases e⟩
  | some hv =>
    obtain ⟨kk, i, rfl, hi, hk⟩ := inK_good hk hv
    exact ⟨i, hi, hk, (fun e => by cases e), (fun x e code w => by injection e with e; subst e; exact sliceBound_ok (by omega) w)⟩

theorem sliceBounds_ok {s : Bool} {len cap l h m : Nat} {lo' hi' mx' : Option Value} (hx : hi' = none → mx' = none)
    (hm1 : mx' = none → m = cap) (hm2 : ∀ x, mx' = some x → ∀ code (w : World), (Instr.sliceBound x cap code).run P w = .ok m w)
    (hh1 : hi' = none → h = len) (hh2 : ∀ x, hi' = some x → ∀ code (w : World), (Instr.sliceBound x m code).run P w = .ok h w)
    (hl1 : lo' = none → l = 0) (hl2 : ∀ x, lo' = some x → ∀ code (w : World), (Instr.sliceBound x h code).run P w = .ok l w) (w : World) :
    (Instr.sliceBounds s len cap lo' hi' mx').run P w = .ok (l, h, m) w := by
  cases mx' with
  | none =>
    have hm := hm1 rfl; subst hm
    cases hi' with
    | none =>
      have hh := hh1 rfl; subst hh
      cases lo' with
      | none => have hl := hl1 rfl; subst hl; simp [Instr.sliceBounds]
      | some x => simp [Instr.sliceBounds, hl2 x rfl]
    | some y =>
      cases lo' with
      | none => have hl := hl1 rfl; subst hl; simp [Instr.sliceBounds, hh2 y rfl]
      | some x => simp [Instr.sliceBounds, hl2 x rfl, hh2 y rfl]
  | some z =>
    cases hi' with
    | none => cases hx rfl
    | some y =>
      cases lo' with
      | none => have hl := hl1 rfl; subst hl; simp [Instr.sliceBounds, hh2 y rfl, hm2 z rfl]
      | some x => simp [Instr.sliceBounds, hl2 x rfl, hh2 y rfl, hm2 z rfl]

theorem bounds_good {len cap : Nat} {lo hi mx : Option AV} {lo' hi' mx' : Option Value} {f : Nat → Nat → Nat → Ans} (hc : len ≤ cap) (hx : hi = none → mx = none) (hl : VRo ι lo lo') (hh : VRo ι hi hi') (hm : VRo ι mx mx')
    (hk : optK cap cap mx (fun m => optK m len hi fun h => optK h 0 lo fun l => f m l h) = .good) :
    ∃ l h m, l ≤ h ∧ h ≤ m ∧ m ≤ cap ∧ f m l h = .good ∧ ∀ s (w : World), (Instr.sliceBounds s len cap lo' hi' mx').run P w = .ok (l, h, m) w := by
  obtain ⟨m, m1, hk, m2, m3⟩ := opt_bound (P := P) (Nat.le_refl _) hm (fun _ => Nat.le_refl _) hk
  obtain ⟨h, h1, hk, h2, h3⟩ := opt_bound (P := P) (Nat.le_refl _) hh (fun e => by
    have := hx e; subst this
    cases hm; rw [m2 rfl]; exact hc) hk
  obtain ⟨l, l1, hk, l2, l3⟩ := opt_bound (P := P) (Nat.le_refl _) hl (fun _ => Nat.zero_le _) hk
  refine ⟨l, h, m, l1, h1, m1, hk, fun s w => sliceBounds_ok (fun e => ?_) m2 m3 h2 h3 l2 l3 w⟩
  subst e; cases hh
  have := hx rfl; subst this
  cases hm; rfl

theorem slAtK_good {p : P4} {b zz o z m l h : Nat} (hp : ι p = some (b, zz)) (h1 : l ≤ h) (h2 : h ≤ m) (h3 : m ≤ maxI) (hk : slAtK p o z m l h k = .good) :
    ∃ v, VR ι v (.slice (some (if m = l then ⟨b, o, none⟩ else (⟨b, o, none⟩ : Addr).add (l * z))) (h - l) (m - l)) ∧ k v = .good := by
  unfold slAtK at hk
  cases e : Nat.beq m l
  · rw [e] at hk
    have hk : fN (Nat.add o (Nat.mul l z)) (fun o => fN (Nat.sub h l) fun n => fN (Nat.sub m l) fun c => k (.sl p o n c)) = .good := hk
    rw [fN_eq, fN_eq, fN_eq] at hk
    rw [if_neg (beq_false e), addr_add]
    exact ⟨_, .sl _ _ _ hp (Nat.sub_le_sub_right h2 l) (Nat.le_trans (Nat.sub_le _ _) h3), hk⟩
  · rw [e] at hk
    have hk : fN (Nat.sub h l) (fun n => k (.sl p o n 0)) = .good := hk
    rw [fN_eq] at hk
    have e := beq_true e
    rw [if_pos e, show m - l = 0 by omega]
    exact ⟨_, .sl _ _ _ hp (show h - l ≤ 0 by omega) (Nat.zero_le _), hk⟩

theorem sliceK_good {e z : Nat} {lo hi mx : Option AV} {lo' hi' mx' : Option Value} (hu : P.underlying t = some (.slice e)) (hs : sizeT P e = some z) (hx : hi = none → mx = none) (hk : sliceK z a lo hi mx k = .good) (ha : VR ι a x) (hl : VRo ι lo lo') (hh : VRo ι hi hi') (hm : VRo ι mx mx') :
    Gives ι P (Instr.sliceAt t x lo' hi' mx') k := by
  cases a with
  | sl p o len c =>
    cases ha with | sl _ _ _ hp hlc hc =>
    rename_i b zz
    obtain ⟨l, h, m, h1, h2, h3, hk, hr⟩ := bounds_good (P := P) hlc hx hl hh hm hk
    obtain ⟨v, hv, hk⟩ := slAtK_good hp h1 h2 (by omega) hk
    refine ⟨v, _, fun w => ?_, hv, hk⟩
    simp [Instr.sliceAt, run_und hu, Instr.slice, hr, run_sizeOf hs]
    split <;> rfl
  | slo p o len ww =>
    cases ha with | slo _ _ _ c hp hz hlc hc =>
    rename_i b zz
    have hk : wK (Nat.beq ww z) _ = .good := hk
    obtain ⟨h0, hk⟩ := wK_good hk
    have h0 := beq_true h0
    subst h0
    cases hm with
    | none =>
      obtain ⟨h, h1, hk, h2, h3⟩ := opt_bound (P := P) hlc hh (fun _ => Nat.le_refl _) hk
      obtain ⟨l, l1, hk, l2, l3⟩ := opt_bound (P := P) (Nat.le_refl _) hl (fun _ => Nat.zero_le _) hk
      have hr : ∀ s (w : World), (Instr.sliceBounds s len c lo' hi' none).run P w = .ok (l, h, c) w := fun s w => sliceBounds_ok (fun _ => rfl) (fun _ => rfl) (fun x e => by cases e) h2 h3 l2 l3 w
      have fin : ∀ v, VR ι v (.slice (if c = l then some ⟨b, o, none⟩ else some (⟨b, o + l * ww, none⟩)) (h - l) (c - l)) → k v = .good → Gives ι P (Instr.sliceAt t (.slice (some ⟨b, o, none⟩) len c) lo' hi' none) k := fun v hv hk => by
        refine ⟨v, _, fun w => ?_, hv, hk⟩
        simp [Instr.sliceAt, run_und hu, Instr.slice, hr, run_sizeOf hs, addr_add]
      cases e1 : Nat.beq l len
      · rw [e1] at hk
        have hk : fN (Nat.add o (Nat.mul l ww)) (fun o => fN (Nat.sub h l) fun n => k (.slo p o n ww)) = .good := hk
        rw [fN_eq, fN_eq] at hk
        have e1 := beq_false e1
        refine fin _ ?_ hk
        rw [if_neg (by omega)]
        refine .slo _ _ _ (c - l) hp ?_ (Nat.sub_le_sub_right (by omega) l) (Nat.le_trans (Nat.sub_le _ _) (by omega))
        rw [← hz]
        show o + l * ww + (c - l) * ww = _
        rw [Nat.add_assoc, ← Nat.add_mul, show l + (c - l) = c by omega]
      · have e1 := beq_true e1
        rw [e1, Nat.beq_refl] at hk
        cases e2 : Nat.beq len 0
        · have hk : bK (Nat.beq len 0) (k (.slo p o len ww)) (k (.nl .szero)) = .good := hk
          rw [e2] at hk
          refine fin (.nl .szero) ?_ hk
          rw [show h - l = 0 by omega]
          split
          · exact .szero _ _
          · exact .szero _ _
        · have hk : bK (Nat.beq len 0) (k (.slo p o len ww)) (k (.nl .szero)) = .good := hk
          rw [e2] at hk
          have e2 := beq_true e2
          refine fin _ ?_ hk
          have hl0 : l = 0 := by omega
          have hh0 : h = 0 := by omega
          subst hl0; subst hh0; subst e2
          rw [Nat.zero_mul, Nat.add_zero, ite_self]
          exact .slo _ _ _ _ hp hz (Nat.zero_le _) (Nat.zero_le _)
    | some hv =>
      rename_i mv mv'
      obtain ⟨m, m1, hk, m2, m3⟩ := opt_bound (P := P) (d := 0) hlc (.some hv) (fun e => by cases e) hk
      obtain ⟨h, h1, hk, h2, h3⟩ := opt_bound (P := P) (Nat.le_refl _) hh (fun e => by have := hx e; cases this) hk
      obtain ⟨l, l1, hk, l2, l3⟩ := opt_bound (P := P) (Nat.le_refl _) hl (fun _ => Nat.zero_le _) hk
      obtain ⟨v, hv, hk⟩ := slAtK_good hp l1 h1 (by omega) hk
      refine ⟨v, _, fun w => ?_, hv, hk⟩
      have hr := sliceBounds_ok (P := P) (s := true) (len := len) (cap := c) (fun e => by subst e; cases hh; cases hx rfl) (fun e => by cases e) m3 h2 h3 l2 l3
      simp [Instr.sliceAt, run_und hu, Instr.slice, hr, run_sizeOf hs]
      split <;> rfl
  | nl n =>
    cases n with
    | snil =>
      cases ha
      obtain ⟨m, h3, hk, m2, m3⟩ := opt_bound (P := P) (n := 0) (Nat.le_refl _) hm (fun _ => Nat.le_refl _) hk
      have e1 : m = 0 := by omega
      subst e1
      obtain ⟨h, h1, hk, h2, h3'⟩ := opt_bound (P := P) (n := 0) (Nat.le_refl _) hh (fun _ => Nat.le_refl _) hk
      have e2 : h = 0 := by omega
      subst e2
      obtain ⟨l, l1, hk, l2, l3⟩ := opt_bound (P := P) (n := 0) (Nat.le_refl _) hl (fun _ => Nat.le_refl _) hk
      have e3 : l = 0 := by omega
      subst e3
      have hr := sliceBounds_ok (P := P) (s := true) (len := 0) (cap := 0) (fun e => by subst e; cases hh; have := hx rfl; subst this; cases hm; rfl) m2 m3 h2 h3' l2 l3
      refine ⟨_, .slice none 0 0, fun w => ?_, .snil, hk⟩
      simp [Instr.sliceAt, run_und hu, Instr.slice, hr, run_sizeOf hs]
    | szero =>
      cases ha with | szero ad c =>
      cases hm with
      | some _ => cases hk
      | none =>
        obtain ⟨h, h1, hk, h2, h3⟩ := opt_bound (P := P) (Nat.zero_le c) hh (fun _ => Nat.le_refl _) hk
        obtain ⟨l, l1, hk, l2, l3⟩ := opt_bound (P := P) (B := 0) (n := h) (Nat.zero_le _) hl (fun _ => Nat.zero_le _) hk
        have hr := sliceBounds_ok (P := P) (s := true) (len := 0) (fun _ => rfl) (fun _ => rfl) (fun x e => by cases e) h2 h3 l2 l3
        have e2 : h = 0 := by omega
        have e3 : l = 0 := by omega
        subst e2 e3
        refine ⟨_, .slice (some (if c = 0 then ad else ad.add 0)) 0 c, fun w => ?_, .szero _ _, hk⟩
        simp [Instr.sliceAt, run_und hu, Instr.slice, hr, run_sizeOf hs]
        split <;> rfl
    | _ => cases hk
  | _ => cases hk

theorem sliceAK_good {e z n : Nat} {lo hi mx : Option AV} {lo' hi' mx' : Option Value} (hu : P.underlying t = some (.array n e) ∨ ∃ q, P.underlying t = some (.pointer q) ∧ P.underlying q = some (.array n e)) (hn : n ≤ maxI) (hs : sizeT P e = some z) (hx : hi = none → mx = none)
    (hk : sliceAK n z a lo hi mx k = .good) (ha : VR ι a x) (hl : VRo ι lo lo') (hh : VRo ι hi hi') (hm : VRo ι mx mx') : Gives ι P (Instr.sliceAt t x lo' hi' mx') k := by
  obtain ⟨p, o, rfl, hk⟩ := asPtr_good hk
  cases ha with | ptr _ hp =>
  obtain ⟨l, h, m, h1, h2, h3, hk, hr⟩ := bounds_good (P := P) (Nat.le_refl _) hx hl hh hm hk
  obtain ⟨v, hv, hk⟩ := slAtK_good hp h1 h2 (by omega) hk
  refine ⟨v, _, fun w => ?_, hv, hk⟩
  rcases hu with hu | ⟨q, hu, hu'⟩
  · simp [Instr.sliceAt, run_und hu, Instr.sureAddr, hr, run_sizeOf hs]
  · simp [Instr.sliceAt, run_und hu, Instr.slice, run_und hu', asAddr, hr, run_sizeOf hs]
end Go.Ev

namespace Go.Ev
open Go
set_option linter.unusedSectionVars false
variable [Sym]
set_option linter.unusedVariables false
variable {rt : Nat → Option RT} {ι : Inj} {P : Program} {h : H} {w : World} {t : TypeId} {a b : AV} {x y : Value}

theorem VRL.append {l r : List Value} : ∀ {a b : AV}, VRL ι a l → VRL ι b r → VRL ι (a.app b) (l ++ r) := by
  induction l with
  | nil => intro a b h1 h2; cases h1; exact h2
  | cons x l ih => intro a b h1 h2; cases h1 with | cons h3 h4 => exact .cons h3 (ih h4 h2)
theorem bytesK_good (l : List UInt8) : ∀ {acc : AV} {xs : List Value} {k : AV → Ans}, VRL ι acc xs → bytesK l.length (pack l) acc k = .good →
    ∃ cs, VRL ι cs (l.map (fun b => Value.int .u8 b.toNat) ++ xs) ∧ k cs = .good := by
  suffices H : ∀ (n : Nat) (l : List UInt8), l.length = n → ∀ {acc : AV} {xs : List Value} {k : AV → Ans}, VRL ι acc xs → bytesK n (pack l) acc k = .good →
      ∃ cs, VRL ι cs (l.map (fun b => Value.int .u8 b.toNat) ++ xs) ∧ k cs = .good from by intro acc xs k hv hk; exact H l.length l rfl hv hk
  intro n
  induction n with
  | zero =>
    intro l hl acc xs k hv hk
    have : l = [] := List.eq_nil_of_length_eq_zero hl
    subst this
    exact ⟨acc, hv, hk⟩
  | succ n ih =>
    intro l hl acc xs k hv hk
    obtain ⟨i, b, rfl⟩ : ∃ i b, l = i ++ [b] := ⟨l.dropLast, l.getLast (by intro e; subst e; cases hl), (List.dropLast_concat_getLast _).symm⟩
    have hi : i.length = n := by simp at hl; exact hl
    have hk : fN (Nat.mod (pack (i ++ [b])) 256) (fun c => fN (Nat.div (pack (i ++ [b])) 256) fun x => bytesK n x (.cons (.int 4 c) acc) k) = .good := hk
    rw [fN_eq, fN_eq] at hk
    have hp : pack (i ++ [b]) = pack i * 256 + b.toNat := by
      rw [pack_append]; show pack i * 256 ^ 1 + (0 * 256 + b.toNat) = _; omega
    have hb : b.toNat < 256 := b.toNat_lt
    have e1 : Nat.mod (pack (i ++ [b])) 256 = b.toNat := by rw [hp]; show (_ : Nat) % 256 = _; omega
    have e2 : Nat.div (pack (i ++ [b])) 256 = pack i := by rw [hp]; show (_ : Nat) / 256 = _; omega
    rw [e1, e2] at hk
    obtain ⟨cs, h1, h2⟩ := ih i hi (.cons (.int 4 b.toNat (fun e => by cases e)) hv) hk
    refine ⟨cs, ?_, h2⟩
    rw [List.map_append, List.append_assoc]
    exact h1

theorem pack_take (l : List UInt8) (n : Nat) (h : n ≤ l.length) : pack l / 256 ^ (l.length - n) = pack (l.take n) := by
  have e : l = l.take n ++ l.drop n := (List.take_append_drop n l).symm
  have hl : (l.drop n).length = l.length - n := List.length_drop
  have e' : pack l = pack (l.take n) * 256 ^ (l.length - n) + pack (l.drop n) := by
    conv => lhs; rw [e]
    rw [pack_append, hl]
  rw [e']
  have hlt := pack_lt (l.drop n)
  rw [hl] at hlt
  rw [Nat.mul_comm, Nat.mul_add_div (Nat.pow_pos (by omega)), Nat.div_eq_of_lt hlt, Nat.add_zero]

theorem lenNK_good {k : Nat → Ans} (ha : VR ι a x) (hk : lenNK a k = .good) : ∃ n, (∀ w, (Builtin.lenOf x).run P w = .ok n w) ∧ n ≤ maxI ∧ k n = .good ∧ ((∃ p o c, a = .sl p o n c) ∨ (∃ p o c, a = .slo p o n c) ∨ (∃ y, a = .str n y) ∨ (n = 0 ∧ (a = .nl .snil ∨ a = .nl .szero))) := by
  cases a with
  | str n p =>
    obtain ⟨s, rfl, hn, rfl, hs⟩ := str_of ha
    refine ⟨n, fun w => ?_, ?_, hk, .inr (.inr (.inl ⟨_, rfl⟩))⟩
    · show Result.ok s.size w = _
      rw [hn, size_toList]
    · rw [hn, size_toList]; exact Nat.le_of_lt (Nat.lt_trans hs (by decide))
  | sl p o l c =>
    cases ha with | sl _ _ _ hp h1 h2 =>
    exact ⟨l, fun w => rfl, Nat.le_trans h1 h2, hk, .inl ⟨_, _, _, rfl⟩⟩
  | slo p o l c =>
    cases ha with | slo _ _ _ _ hp h0 h1 h2 =>
    exact ⟨l, fun w => rfl, h2, hk, .inr (.inl ⟨_, _, _, rfl⟩)⟩
  | nl n =>
    cases n with
    | snil => cases ha; exact ⟨0, fun w => rfl, Nat.zero_le _, hk, .inr (.inr (.inr ⟨rfl, .inl rfl⟩))⟩
    | szero => cases ha; exact ⟨0, fun w => rfl, Nat.zero_le _, hk, .inr (.inr (.inr ⟨rfl, .inr rfl⟩))⟩
    | _ => cases hk
  | _ => cases hk

theorem run_loadCells_zero (a : Addr) (w : World) : (loadCells a 0).run P w = .ok #[] w := rfl

theorem RowOf.same {w' : World} {b z et : Nat} {mk : Bool} {fz n : Nat} {ex : Bool} {c : Row} {arr : Array Value} {lo hi : Nat} (r : RowOf rt ι w b z et mk fz n ex c arr lo hi) (s : SameW w w') : RowOf rt ι w' b z et mk fz n ex c arr lo hi :=
  ⟨by rw [s.heap]; exact r.at_, r.hz, r.hn, r.hr, r.hx, r.hc, r.hf⟩
theorem firstK_good {z n : Nat} {k : AV → Ans} (m : MR rt ι h w) (ha : VR ι a x) (hk : firstK z n a h k = .good) :
    ∃ cs xs, VRL ι cs xs ∧ xs.length = n * z ∧ k cs = .good ∧ ∀ w', SameW w w' → (Builtin.firstCells z n x).run P w' = .ok xs.toArray w' := by
  have row : ∀ (p : P4) (o bb zz : Nat), ι p = some (bb, zz) → HgetK h p (fun b => AOcellsK b fun _ _ _ m _ c => wK (Nat.ble (Nat.add o (Nat.mul n z)) m) (rowK (Nat.mul n z) c o k)) = .good →
      ∃ cs xs, VRL ι cs xs ∧ xs.length = n * z ∧ k cs = .good ∧ ∀ w', SameW w w' → (loadCells ⟨bb, o, none⟩ (n * z)).run P w' = .ok xs.toArray w' := fun p o bb zz hp hk => by
    rw [HgetK_eq] at hk
    obtain ⟨et, mk, fz, m', ex, c, e, hk⟩ := AOcellsK_good hk
    obtain ⟨h1, hk⟩ := wK_good hk
    have h1 : o + n * z ≤ m' := ble_true h1
    rw [rowK_eq] at hk
    obtain ⟨arr, lo, hi, r⟩ := m.row hp e
    refine ⟨_, _, list_VRL r (n * z) o h1, ?_, hk, fun w' sw => run_cells (r.same sw) o (n * z) h1⟩
    have := r.hn
    have := r.hz
    rw [List.length_take, List.length_drop, Array.length_toList]
    omega
  cases a with
  | sl p o l c =>
    cases ha with | sl _ _ _ hp h1 h2 =>
    exact row p o _ _ hp hk
  | slo p o l c =>
    cases ha with | slo _ _ _ _ hp h0 h1 h2 =>
    exact row p o _ _ hp hk
  | str m' p =>
    obtain ⟨s, rfl, hn, rfl, hs⟩ := str_of ha
    have hk0 : wK (Nat.beq z 1) (wK (Nat.ble n m') (fN (Nat.div (pack s.data.toList) (Nat.pow 256 (Nat.sub m' n))) fun x => bytesK n x .nil k)) = .good := hk
    obtain ⟨h1, hk1⟩ := wK_good hk0
    obtain ⟨h2, hk2⟩ := wK_good hk1
    have h1 := beq_true h1
    have h2 := ble_true h2
    subst h1
    rw [fN_eq] at hk2
    have e : Nat.div (pack s.data.toList) (Nat.pow 256 (Nat.sub m' n)) = pack (s.data.toList.take n) := by
      rw [hn]; exact pack_take _ _ (by rw [← hn]; exact h2)
    rw [e] at hk2
    have hl : (s.data.toList.take n).length = n := by rw [List.length_take, ← hn]; omega
    have hk' : bytesK (s.data.toList.take n).length (pack (s.data.toList.take n)) .nil k = .good := by rw [hl]; exact hk2
    obtain ⟨cs, h3, hk⟩ := bytesK_good _ (.nil : VRL ι .nil []) hk'
    refine ⟨cs, _, h3, by simp [← hn]; omega, hk, fun w' _ => ?_⟩
    show Result.ok _ w' = _
    congr 1
    apply Array.ext'
    simp [ByteArray.data_extract, List.extract_eq_take_drop]
  | nl q =>
    cases q with
    | snil =>
      cases ha
      obtain ⟨h1, hk⟩ := wK_good hk
      have h1 := beq_true h1
      subst h1
      exact ⟨.nil, [], .nil, by simp, hk, fun _ _ => rfl⟩
    | szero =>
      cases ha with | szero ad c =>
      obtain ⟨h1, hk⟩ := wK_good hk
      have h1 := beq_true h1
      subst h1
      refine ⟨.nil, [], .nil, by simp, hk, fun w' _ => ?_⟩
      show (loadCells ad (0 * z)).run P w' = _
      rw [Nat.zero_mul]; rfl
    | _ => cases hk
  | _ => cases hk
theorem AV.len_app : ∀ {l r : List Value} {a b : AV}, VRL ι a l → VRL ι b r → (a.app b).len = l.length + r.length := by
  intro l r a b h1 h2
  rw [(h1.append h2).len, List.length_append]
def copies (l : List Value) : Nat → List Value
  | 0 => []
  | n + 1 => l ++ copies l n
theorem copies_len (l : List Value) (n : Nat) : (copies l n).length = n * l.length := by
  induction n with
  | zero => simp [copies]
  | succ n ih => simp only [copies, List.length_append, ih, Nat.add_mul, Nat.one_mul]; omega
theorem repl_VRL {l : List Value} (ha : VRL ι a l) (n : Nat) : VRL ι (repl a n) (copies l n) := by
  induction n with
  | zero => exact .nil
  | succ n ih => exact ha.append ih
theorem copies_get (l : List Value) (n i : Nat) (h : i < n * l.length) : (copies l n)[i]? = l[i % l.length]? := by
  induction n generalizing i with
  | zero => simp at h
  | succ n ih =>
    simp only [copies]
    rcases Nat.lt_or_ge i l.length with h1 | h1
    · rw [List.getElem?_append_left h1, Nat.mod_eq_of_lt h1]
    · rw [List.getElem?_append_right h1, ih _ (by rw [Nat.add_mul] at h; omega), ← Nat.mod_eq_sub_mod h1]
theorem map_copies (z : Array Value) (n : Nat) : (Array.range (n * z.size)).map (fun i => z[i % z.size]!) = (copies z.toList n).toArray := by
  apply Array.ext'
  apply List.ext_getElem?
  intro i
  rcases Nat.lt_or_ge i (n * z.size) with h1 | h1
  · have hz : 0 < z.size := by
      rcases Nat.eq_zero_or_pos z.size with e | e
      · rw [e] at h1; simp at h1
      · exact e
    have hlt : i % z.size < z.size := Nat.mod_lt _ hz
    have := copies_get z.toList n i (by simpa using h1)
    simp only [Array.length_toList] at this
    rw [List.toList_toArray, this]
    simp [h1, hlt]
  · have hc := copies_len z.toList n
    simp only [Array.length_toList] at hc
    rw [List.toList_toArray, List.getElem?_eq_none (by omega : (copies z.toList n).length ≤ i)]
    simp [h1]
theorem zeroCells_eq (z : Array Value) (n : Nat) : Builtin.zeroCells z n = (copies z.toList n).toArray := map_copies z n
end Go.Ev

namespace Go.Ev
open Go
set_option linter.unusedSectionVars false
variable [Sym]
set_option linter.unusedVariables false
variable {rt : Nat → Option RT} {ι : Inj} {P : Program} {h : H} {w : World} {t : TypeId} {a b : AV} {x y : Value}
theorem Post.kill (m : MR rt ι h w) {p : P4} {bz : Nat × Nat} (hp : ι p = some bz) (hs : ¬ Sealed (h.get p)) : Post rt ι h w ι (h.set p .no) w := by
  have hg : ∀ q, (h.set p .no).get q = if q = p then .no else h.get q := fun q => H.get_set _ _ _ _
  have ne : ∀ q, (h.set p .no).get q ≠ .no → q ≠ p ∧ h.get q ≠ .no := fun q hq => by
    rw [hg] at hq
    by_cases e : q = p
    · rw [if_pos e] at hq; exact absurd rfl hq
    · rw [if_neg e] at hq; exact ⟨e, hq⟩
  refine ⟨.refl _, fun _ _ _ e => .inl e, fun q y _ hd => ?_, ⟨fun q q' c y y' hq hq' h1 h2 => m.inj q q' c y y' hq hq' (ne q h1).2 (ne q' h2).2, fun q c y h1 hl => ?_, m.low, m.old, fun q hle => ?_⟩, .refl _ _ _, fun q hq => ?_, Nat.le_refl _, fun q hq _ => ?_⟩
  · rw [hg]; split
    · rfl
    · exact hd
  · obtain ⟨e, hl'⟩ := ne q hl
    rw [hg, if_neg e]
    exact m.obj q c y h1 hl'
  · rw [hg]; split
    · rfl
    · exact m.free q hle
  · rw [hg, if_neg]
    intro e; subst e; exact hs hq
  · have hne : q ≠ p := fun e => by subst e; rw [hp] at hq; cases hq
    exact ⟨hq, by rw [hg, if_neg hne]⟩
theorem Post.adopt (m : MR rt ι h w) {p q : P4} {b z : Nat} {w' : World} {o : AO} {x : Obj} (hp : ι p = some (b, z)) (hl : h.get p ≠ .no) (hs : ¬ Sealed (h.get p)) (s : SetW w w' b x) (hq : q.val = h.nx.val + 1) (ho : OR rt (upd ι h.nx (b, z)) z o x) :
    Post rt ι h w (upd ι h.nx (b, z)) ⟨q, (h.set p .no).t.put h.nx o⟩ w' := by
  have hn : ι h.nx = none := m.fresh (Nat.le_refl _)
  have hnn : h.get h.nx = .no := m.freshNo (Nat.le_refl _)
  have e : Ext ι (upd ι h.nx (b, z)) := upd_ext _ hn
  have hpn : p ≠ h.nx := fun e => by rw [e, hn] at hp; cases hp
  have hg : ∀ r, H.get ⟨q, (h.set p .no).t.put h.nx o⟩ r = if r = h.nx then o else if r = p then .no else h.get r := fun r => by
    show B4.at _ r = _
    rw [B4.at_put]
    split
    · rfl
    · exact H.get_set h p r .no
  have hu : ∀ r c y, upd ι h.nx (b, z) r = some (c, y) → (r = h.nx ∧ c = b ∧ y = z) ∨ (r ≠ h.nx ∧ ι r = some (c, y)) := fun r c y hr => by
    unfold upd at hr
    by_cases hrn : r = h.nx
    · rw [if_pos hrn] at hr; injection hr with hr; injection hr with h1 h2; exact .inl ⟨hrn, h1.symm, h2.symm⟩
    · rw [if_neg hrn] at hr; exact .inr ⟨hrn, hr⟩
  have al : ∀ r, r ≠ h.nx → H.get ⟨q, (h.set p .no).t.put h.nx o⟩ r ≠ .no → r ≠ p ∧ h.get r ≠ .no := fun r h1 h2 => by
    rw [hg, if_neg h1] at h2
    by_cases e : r = p
    · rw [if_pos e] at h2; exact absurd rfl h2
    · rw [if_neg e] at h2; exact ⟨e, h2⟩
  refine ⟨e, fun r c y hr => ?_, fun r y hr hd => ?_, ⟨fun r r' c y y' hr hr' h1 h2 => ?_, fun r c y h50 hl' => ?_, fun r y hr => ?_, fun r c y hr => ?_, fun r hle => ?_⟩,
    ⟨s.os, s.tape, s.output, by rw [s.size]; exact Nat.le_refl _, fun c y hc hcs => ?_⟩, fun r hr => ?_, by show h.nx.val ≤ q.val; omega, fun r hr hlt => ?_⟩
  · rcases hu r c y hr with ⟨_, hb, _⟩ | ⟨_, hb⟩
    · subst hb; exact .inr (.inl ⟨p, z, hp, hl, hs⟩)
    · exact .inl hb
  · rw [hg, if_neg (fun e => by rw [e, hn] at hr; cases hr)]
    split
    · rfl
    · exact hd
  · rcases hu r c y hr with ⟨e1, e2, _⟩ | ⟨e1, e2⟩ <;> rcases hu r' c y' hr' with ⟨e3, e4, _⟩ | ⟨e3, e4⟩
    · rw [e1, e3]
    · obtain ⟨h3, h4⟩ := al r' e3 h2
      subst e2
      exact absurd (m.inj r' p c y' z e4 hp h4 hl) h3
    · obtain ⟨h3, h4⟩ := al r e1 h1
      subst e4
      exact absurd (m.inj r p c y z e2 hp h4 hl) h3
    · exact m.inj r r' c y y' e2 e4 (al r e1 h1).2 (al r' e3 h2).2
  · rcases hu r c y h50 with ⟨hrn, e1, e2⟩ | ⟨hrn, h5⟩
    · subst hrn; subst e1; subst e2
      refine ⟨x, s.at_, ?_⟩
      rw [hg, if_pos rfl]; exact ho
    · obtain ⟨h3, h4⟩ := al r hrn hl'
      obtain ⟨x', h6, h7⟩ := m.obj r c y h5 h4
      refine ⟨x', ?_, ?_⟩
      · rw [s.other c (fun e' => by subst e'; exact h3 (m.inj r p c y z h5 hp h4 hl))]; exact h6
      · rw [hg, if_neg hrn, if_neg h3]; exact h7.ext e
  · obtain ⟨c, y⟩ := y
    show r.val < q.val
    rcases hu r c y hr with ⟨h1, _⟩ | ⟨h1, hb⟩
    · rw [h1]; omega
    · have := m.low r _ hb; omega
  · rw [s.size]
    rcases hu r c y hr with ⟨h1, e2, _⟩ | ⟨h1, hb⟩
    · subst e2; exact m.old p c z hp
    · exact m.old r c y hb
  · have hle : q.val ≤ r.val := hle
    rw [hg, if_neg (fun e => by subst e; omega)]
    split
    · rfl
    · exact m.free r (by omega)
  · rw [s.other c (fun e => by subst e; exact hs (hcs p z hp hl))]; exact hc
  · rw [hg, if_neg (fun e => by rw [e, hnn] at hr; exact hr.ne rfl), if_neg (fun e => by rw [e] at hr; exact hs hr)]
  · have hne : r ≠ h.nx := fun e => by subst e; omega
    have hnp : r ≠ p := fun e => by subst e; rw [hp] at hr; cases hr
    exact ⟨by unfold upd; rw [if_neg hne]; exact hr, by rw [hg, if_neg hne, if_neg hnp]⟩

theorem Row.Lay.append {vs us : AV} {i : Nat} {c c' c'' : Row} (h : Row.Lay vs i c c') : Row.Lay us (i + vs.len) c' c'' → Row.Lay (vs.app us) i c c'' := by
  induction h with
  | nil i c => intro h'; exact h'
  | cons hp hc hl ih => intro h'; exact .cons hp hc (ih (by rw [show _ + 1 + _ = _ + (_ + 1) from by rw [Nat.add_assoc, Nat.add_comm 1]]; exact h'))
theorem newPart_good {et : Nat} {mk : Bool} {fz n : Nat} {c : Row} {xs rest : List Value} {k : P4 → H → Ans} (m : MR rt ι h w)
    (f3 : ∀ (d : Nat) (v : Value), xs[d]? = some v → d < c.room ∧ True ∧ VR ι (c.get d) v) (hn : n = xs.length) (hk : HnewK h (.cells et mk fz n false c) k = .good) :
    ∃ p w' ι' h', (newRow et (xs ++ rest).toArray).run P w = .ok ⟨w.heap.size, 0, none⟩ w' ∧ Post rt ι h w ι' h' w' ∧ ι' p = some (w.heap.size, xs.length + rest.length) ∧ k p h' = .good := by
  obtain ⟨q, h1, hk⟩ := HnewK_good hk
  refine ⟨h.nx, _, upd ι h.nx (w.heap.size, xs.length + rest.length), _, ?_, Post.alloc m (pushW_alloc (.cells (xs ++ rest).toArray et (0, 0))) h1 ?_, upd_same _ _ _, hk⟩
  · simp [newRow]
  · refine .cells (by simp) (by omega) ?_ (fun e => by cases e) (fun i hi => ?_) (.inl rfl)
    · rcases Nat.eq_zero_or_pos n with h0 | h0
      · omega
      · have := (f3 (n - 1) _ (List.getElem?_eq_getElem (by omega))).1
        omega
    · have := f3 i _ (List.getElem?_eq_getElem (by omega))
      refine ⟨trivial, _, ?_, this.2.2.ext (upd_ext _ (m.fresh (Nat.le_refl _)))⟩
      rw [List.getElem?_toArray, List.getElem?_append_left (by omega), List.getElem?_eq_getElem]
end Go.Ev

namespace Go.Ev
open Go
set_option linter.unusedSectionVars false
variable [Sym]
set_option linter.unusedVariables false
variable {rt : Nat → Option RT} {ι : Inj} {P : Program} {h : H} {w : World} {t : TypeId} {a b : AV} {x y : Value}
structure AppOk (rt : Nat → Option RT) (ι : Inj) (P : Program) (h : H) (w : World) (e z n : Nat) (xs : List Value) (base : Option Addr) (l c : Nat) (k : AV → H → Ans) : Prop where
  inp : l + n ≤ c → ∃ a, base = some a ∧ ∃ w', (storeCells (a.add (l * z)) xs 0).run P w = .ok () w' ∧ ∃ ι' h' v, Post rt ι h w ι' h' w' ∧ VR ι' v (.slice base (l + n) c) ∧ k v h' = .good
  new : c < l + n → l ≤ maxElems ∧ ∃ old : List Value, old.length = l * z ∧ (∀ w1, SameW w w1 → (Builtin.firstCells z l (.slice base l c)).run P w1 = .ok old.toArray w1) ∧
    ∀ w1, SameW w w1 → ∀ nc, l + n ≤ nc → ∀ rest : List Value, rest.length = (nc - (l + n)) * z →
      ∃ w2, (newRow e (old ++ xs ++ rest).toArray).run P w1 = .ok ⟨w1.heap.size, 0, none⟩ w2 ∧ ∃ ι' h' v, Post rt ι h w ι' h' w2 ∧ VR ι' v (.slice (some ⟨w1.heap.size, 0, none⟩) (l + n) nc) ∧ k v h' = .good

theorem size_split {l n nc z : Nat} (h : l + n ≤ nc) : l * z + n * z + (nc - (l + n)) * z = nc * z := by
  rw [← Nat.add_mul, ← Nat.add_mul]; congr 1; omega

theorem appTo_good {e z n : Nat} {cs : AV} {xs : List Value} {k : AV → H → Ans} (m : MR rt ι h w) (ha : VR ι a x) (hv : VRL ι cs xs) (hl : xs.length = n * z) (hz1 : 1 ≤ z) (hn1 : 1 ≤ n) (hn2 : n ≤ maxElems) (hk : appTo e z n cs a h k = .good) :
    ∃ base l c, x = .slice base l c ∧ AppOk rt ι P h w e z n xs base l c k := by
  cases a with
  | nl q =>
    cases q with
    | snil =>
      cases ha
      refine ⟨none, 0, 0, rfl, fun h0 => by omega, fun _ => ⟨Nat.zero_le _, [], by simp, fun _ _ => rfl, fun w1 sw nc hnc rest hr => ?_⟩⟩
      have hk : layK cs 0 RowE (fun c => fN (Nat.mul n z) fun m => HnewK h (AO.cells e false 0 m false c) fun p h => k (.slo p 0 n z) h) = .good := hk
      obtain ⟨c', h1, hk⟩ := layK_good _ hk
      rw [fN_eq] at hk
      obtain ⟨f1, f2, f3⟩ := h1.facts hv
      have m1 := m.same sw
      obtain ⟨p, w', ι', h', g1, g2, g3, g4⟩ := newPart_good (P := P) (rest := rest) m1 (fun d v e => by have := f3 d v e; rw [Nat.zero_add] at this; exact ⟨this.1, trivial, this.2.2.1⟩) hl.symm hk
      refine ⟨w', g1, ι', h', _, (Post.same m sw).trans g2, ?_, g4⟩
      rw [Nat.zero_add]
      rw [Nat.zero_add] at hnc hr
      refine .slo 0 n z nc g3 ?_ hnc (Nat.le_trans hn2 (by decide))
      rw [hl, hr, Nat.zero_add, ← size_split (l := 0) (by omega : 0 + n ≤ nc), Nat.zero_mul, Nat.zero_add, Nat.zero_add]
    | _ => cases hk
  | sl p o len c =>
    cases ha with | sl _ _ _ hp hlc hc =>
    rename_i bb zz
    have hk : fN (Nat.add len n) (fun l => fN (Nat.add o (Nat.mul len z)) fun at_ => HgetK h p fun b => AOcellsK b fun et' mk fz m ex r =>
        bK (Nat.ble l c)
          (wK (Nat.ble (Nat.add at_ (Nat.mul n z)) m) (wK (Nat.ble fz at_) (layK cs at_ r fun r => HsetK h p (AO.cells et' mk fz m ex r) fun h => k (.sl p o l c) h)))
          (wK (Nat.ble at_ m) (wK (Nat.ble len maxElems) (rowK (Nat.mul len z) r o fun old => layK old 0 RowE fun r => layK cs (Nat.mul len z) r fun r =>
            fN (Nat.mul l z) fun m => HnewK h (AO.cells e false 0 m false r) fun p h => k (.slo p 0 l z) h)))) = .good := hk
    rw [fN_eq, fN_eq, HgetK_eq] at hk
    obtain ⟨et', mk, fz, m', ex, r, eq, hk⟩ := AOcellsK_good hk
    refine ⟨_, len, c, rfl, fun hin => ?_, fun hout => ?_⟩
    · rw [show Nat.ble (Nat.add len n) c = true from Nat.ble_eq_true_of_le hin] at hk
      obtain ⟨h1, hk⟩ := wK_good hk
      obtain ⟨h2, hk⟩ := wK_good hk
      obtain ⟨c', h3, hk⟩ := layK_good _ hk
      rw [HsetK_eq] at hk
      have h1 : o + len * z + n * z ≤ m' := ble_true h1
      obtain ⟨w', h4, h5⟩ := storeRow (P := P) m hp eq h3 hv (by rw [hl]; exact h1) (ble_true h2)
      refine ⟨_, rfl, w', by rw [addr_add]; exact h4, ι, _, _, h5, .sl _ _ _ hp hin hc, hk⟩
    · have hb : Nat.ble (Nat.add len n) c = false := by
        cases hb : Nat.ble (Nat.add len n) c
        · rfl
        · have := ble_true hb; simp only [Nat.add_eq] at this; omega
      rw [hb] at hk
      obtain ⟨h1, hk⟩ := wK_good hk
      obtain ⟨h2, hk⟩ := wK_good hk
      have h1 : o + len * z ≤ m' := ble_true h1
      rw [rowK_eq] at hk
      obtain ⟨c1, h3, hk⟩ := layK_good _ hk
      obtain ⟨c2, h4, hk⟩ := layK_good _ hk
      rw [fN_eq] at hk
      obtain ⟨arr, lo, hi, ro⟩ := m.row hp eq
      have ho := list_VRL ro (len * z) o h1
      have hol : ((arr.toList.drop o).take (len * z)).length = len * z := by
        have := ro.hn
        have := ro.hz
        rw [List.length_take, List.length_drop, Array.length_toList]; omega
      refine ⟨ble_true h2, _, hol, fun w1 sw => run_cells (ro.same sw) o (len * z) h1, fun w1 sw nc hnc rest hr => ?_⟩
      have hlen := ho.len
      rw [hol] at hlen
      have h4' : Row.Lay cs (0 + (r.list (Nat.mul len z) o).len) c1 c2 := by
        rw [Nat.zero_add, show (r.list (Nat.mul len z) o).len = Nat.mul len z from hlen]; exact h4
      have hlay := h3.append h4'
      obtain ⟨f1, f2, f3⟩ := hlay.facts (ho.append hv)
      have m1 := m.same sw
      obtain ⟨q, w', ι', h', g1, g2, g3, g4⟩ := newPart_good (P := P) (rest := rest) (xs := (arr.toList.drop o).take (len * z) ++ xs) m1 (fun d v e => by have := f3 d v e; rw [Nat.zero_add] at this; exact ⟨this.1, trivial, this.2.2.1⟩) (by
        rw [List.length_append, hol, hl]; exact Nat.add_mul len n z) hk
      refine ⟨w', g1, ι', h', _, (Post.same m sw).trans g2, .slo 0 (len + n) z nc g3 ?_ hnc (Nat.le_trans (Nat.add_le_add (ble_true h2) hn2) (by decide)), g4⟩
      rw [List.length_append, hol, hl, hr, size_split hnc, Nat.zero_add]
  | slo p o len ww =>
    cases ha with | slo _ _ _ c hp hz hlc hlm =>
    rename_i bb zz
    have hk : wK (Nat.beq ww z) (wK (Nat.ble len maxElems) (fN (Nat.add len n) fun l => fN (Nat.add o (Nat.mul len z)) fun at_ =>
      HgetK h p fun b => AOcellsK b fun et' mk fz m ex r =>
        bK (Nat.beq at_ m)
          (wK (Nat.beq o 0) (bK ex .bad (wK (Nat.beq et' e) (wK (Nat.ble fz m) (layK cs m r fun r => fN (Nat.add m (Nat.mul n z)) fun m =>
            HsetK h p AO.no fun h => HnewK h (AO.cells et' mk fz m ex r) fun p h => k (.slo p 0 l z) h)))))
          (wK (Nat.ble (Nat.add at_ (Nat.mul n z)) m) (wK (Nat.ble fz at_) (layK cs at_ r fun r => HsetK h p (AO.cells et' mk fz m ex r) fun h => k (.slo p o l ww) h))))) = .good := hk
    obtain ⟨h1, hk⟩ := wK_good hk
    have h1 := beq_true h1
    subst h1
    obtain ⟨h2, hk⟩ := wK_good hk
    have h2 : len ≤ maxElems := ble_true h2
    rw [fN_eq, fN_eq, HgetK_eq] at hk
    obtain ⟨et', mk, fz, m', ex, r, eq, hk⟩ := AOcellsK_good hk
    obtain ⟨arr, lo, hi, ro⟩ := m.row hp eq
    have hro := ro.hn
    have hrz := ro.hz
    have hlm2 : len + n ≤ maxI := Nat.le_trans (Nat.add_le_add h2 hn2) (by decide)
    refine ⟨_, len, c, rfl, ?_⟩
    cases hat : Nat.beq (Nat.add o (Nat.mul len ww)) m'
    · rw [hat] at hk
      obtain ⟨h3, hk⟩ := wK_good hk
      obtain ⟨h4, hk⟩ := wK_good hk
      obtain ⟨c', h5, hk⟩ := layK_good _ hk
      rw [HsetK_eq] at hk
      have h3 : o + len * ww + n * ww ≤ m' := ble_true h3
      have hin : len + n ≤ c := by
        have h6 : (len + n) * ww ≤ c * ww := by rw [Nat.add_mul]; omega
        exact Nat.le_of_mul_le_mul_right h6 hz1
      refine ⟨fun _ => ?_, fun h7 => by omega⟩
      obtain ⟨w', h6, h7⟩ := storeRow (P := P) m hp eq h5 hv (by rw [hl]; exact h3) (ble_true h4)
      exact ⟨_, rfl, w', by rw [addr_add]; exact h6, ι, _, _, h7, .slo _ _ _ c hp hz hin hlm2, hk⟩
    · rw [hat] at hk
      have hat : o + len * ww = m' := beq_true hat
      obtain ⟨h3, hk⟩ := wK_good hk
      have h3 := beq_true h3
      cases ex with
      | true => cases hk
      | false =>
      obtain ⟨h4, hk⟩ := wK_good hk
      have h4 := beq_true h4
      obtain ⟨h5, hk⟩ := wK_good hk
      have h5 : fz ≤ m' := ble_true h5
      obtain ⟨c', h6, hk⟩ := layK_good _ hk
      rw [fN_eq, HsetK_eq] at hk
      have hkF := hk
      obtain ⟨f1, f2, f3⟩ := h6.facts hv
      have hns : ¬ Sealed (h.get p) := by rw [eq]; exact not_sealed h5
      have hll : h.get p ≠ .no := by rw [eq]; intro e; cases e
      subst h3
      subst h4
      rw [Nat.zero_add] at hat hz
      refine ⟨fun hin => ?_, fun hout => ?_⟩
      · have hfit : m' + n * ww ≤ zz := by
          have : (len + n) * ww ≤ c * ww := Nat.mul_le_mul_right _ hin
          rw [Nat.add_mul] at this
          omega
        obtain ⟨w', h7, h8⟩ := store_cells (P := P) xs (o := m') (i := 0) ro.at_ (by rw [ro.hz]; omega) (fun j h1 h2 h3 => by
          rcases ro.hf with q | ⟨_, _, q⟩ | ⟨_, q⟩ | q <;> omega) (VRL.mem_get fun d v e => (f3 d v e).2.2.2)
        obtain ⟨q, h9, hk⟩ := HnewK_good hkF
        refine ⟨_, rfl, w', ?_, upd ι h.nx (bb, zz), _, _, Post.adopt m hp hll hns h8 h9 ?_, .slo 0 (len + n) ww c (upd_same _ _ _) (by rw [Nat.zero_add]; exact hz) hin hlm2, hk⟩
        · rw [addr_add, Nat.zero_add, hat]; exact h7
        · have ex : Ext ι (upd ι h.nx (bb, zz)) := upd_ext _ (m.fresh (Nat.le_refl _))
          refine .cells (by rw [putA_size]; exact ro.hz) hfit ?_ (fun e => by cases e) (fun i hi' => ?_) ro.hf
          · have := (f3 (n * ww - 1) _ (List.getElem?_eq_getElem (by have := Nat.mul_le_mul hn1 hz1; omega))).1
            have := Nat.mul_le_mul hn1 hz1
            show m' + n * ww ≤ _
            omega
          · have hi' : i < m' + n * ww := hi'
            rw [putA_get _ _ _ _ (by rw [ro.hz]; omega)]
            by_cases hj : m' ≤ i
            · obtain ⟨v, hv'⟩ : ∃ v, xs[i - m']? = some v := ⟨_, List.getElem?_eq_getElem (by omega)⟩
              have := f3 (i - m') v hv'
              rw [show m' + (i - m') = i by omega] at this
              rw [if_pos (by omega), Nat.add_zero, hv']
              exact ⟨trivial, v, rfl, this.2.2.1.ext ex⟩
            · rw [if_neg (by omega), f2 i (by have := ro.hr; omega) (by omega)]
              obtain ⟨g1, v, g2, g3⟩ := ro.hc i (by omega)
              exact ⟨g1, v, g2, g3.ext ex⟩
      · have ho := list_VRL ro (len * ww) 0 (by omega)
        have hol : ((arr.toList.drop 0).take (len * ww)).length = len * ww := by
          rw [List.length_take, List.length_drop, Array.length_toList]; omega
        refine ⟨h2, _, hol, fun w1 sw => run_cells (ro.same sw) 0 (len * ww) (by omega), fun w1 sw nc hnc rest hr => ?_⟩
        have pk := Post.kill (m.same sw) hp hns
        obtain ⟨q, w', ι', h', g1, g2, g3, g4⟩ := newPart_good (P := P) (et := et') (rest := rest) (xs := (arr.toList.drop 0).take (len * ww) ++ xs) pk.mr (fun d v e => by
          rcases Nat.lt_or_ge d (len * ww) with h7 | h7
          · rw [List.getElem?_append_left (by omega), List.getElem?_take, if_pos h7, List.getElem?_drop, Nat.zero_add] at e
            obtain ⟨g1, v', g2, g3⟩ := ro.hc d (by omega)
            have : v' = v := by
              have e : arr[d]? = some v := by simpa using e
              rw [g2] at e; injection e
            subst this
            rw [f2 d (by have := ro.hr; omega) (by omega)]
            exact ⟨by have := ro.hr; omega, g1, g3⟩
          · rw [List.getElem?_append_right (by omega), hol] at e
            have := f3 _ v e
            rw [show m' + (d - len * ww) = d by omega] at this
            exact ⟨this.1, trivial, this.2.2.1⟩) (by rw [List.length_append, hol, hl, hat]; exact Nat.add_eq) hkF
        refine ⟨w', g1, ι', h', _, ((Post.same m sw).trans pk).trans g2, .slo 0 (len + n) ww nc g3 ?_ hnc hlm2, g4⟩
        rw [List.length_append, hol, hl, hr, size_split hnc, Nat.zero_add]
  | _ => cases hk
end Go.Ev

namespace Go.Ev
open Go
set_option linter.unusedSectionVars false
variable [Sym]
set_option linter.unusedVariables false
variable {rt : Nat → Option RT} {ι : Inj} {P : Program} {h : H} {w : World} {t : TypeId} {a b : AV} {x y : Value}

theorem growBy_le (n r : Nat) : ∀ c, Builtin.growBy n r c ≤ 2 ^ r * (c + 192) := by
  induction r with
  | zero => intro c; show c ≤ _; omega
  | succ r ih =>
    intro c
    show (if c ≥ n then c else Builtin.growBy n r (c + (c + 768) / 4)) ≤ _
    have h2 : 1 ≤ 2 ^ r := Nat.one_le_two_pow
    split
    · calc c ≤ 1 * (c + 192) := by omega
        _ ≤ 2 ^ (r + 1) * (c + 192) := Nat.mul_le_mul_right _ (by omega)
    · refine Nat.le_trans (ih _) ?_
      rw [Nat.pow_succ, Nat.mul_assoc]
      exact Nat.mul_le_mul_left _ (by omega)
theorem nextcap_le {need c by_ : Nat} (h1 : need ≤ 4194304) (h2 : c < need) (h3 : by_ ≤ 4096) : ¬ Builtin.nextslicecap need c * by_ > 2 ^ 48 := by
  have : Builtin.nextslicecap need c ≤ 2 ^ 30 := by
    unfold Builtin.nextslicecap
    split
    · omega
    · split
      · omega
      · refine Nat.le_trans (growBy_le _ _ _) ?_
        omega
  have := Nat.mul_le_mul this h3
  omega

theorem bytesT_info {t : TypeId} {n : Nat} (h : bytesT P t = some n) : ∃ i, P.info? t = some i ∧ i.bytes = n := by
  unfold bytesT at h
  obtain ⟨i, h1, h2⟩ := Option.map_eq_some_iff.1 h
  exact ⟨i, h1, h2⟩
theorem run_bytes {t : TypeId} {n : Nat} (h : bytesT P t = some n) (w : World) : ∃ i, (typeInfo t).run P w = .ok i w ∧ i.bytes = n := by
  obtain ⟨i, h1, h2⟩ := bytesT_info h
  exact ⟨i, run_info h1 w, h2⟩

section
variable {ts : Array TypeId} {ty xt e z by_ n l c : Nat} {d : TypeDesc} {base : Option Addr} {xs : List Value}
def Behind (P : Program) (w : World) (xt e z n : Nat) (x : Value) (xs : List Value) : Prop :=
  ∃ d, P.underlying xt = some d ∧
    (((∀ kk, d ≠ .int kk) ∧ (∀ w, (Builtin.lenOf x).run P w = .ok n w) ∧ ∀ w', SameW w w' → (Builtin.firstCells z n x).run P w' = .ok xs.toArray w') ∨
     ((∃ kk, d = .int kk) ∧ (∃ kk, x = .int kk (n : Nat)) ∧ n ≤ maxElems ∧ ∃ by_, bytesT P e = some by_ ∧ (n = 0 ∨ by_ ≤ 4096) ∧ ∃ v : Value, (∀ w, (zeroValue e).run P w = .ok v w) ∧ v.cells.size = z ∧ xs = copies v.cells.toList n))

theorem not_int (d : TypeDesc) (hk : ∀ kk, d ≠ .int kk) : (match d with | .int _ => true | _ => false) = false := by
  cases d <;> first | rfl | exact absurd rfl (hk _)

theorem bind_ok {α β : Type} {s : Sem α} {f : α → Sem β} {w w' : World} {v : α} (h : s.run P w = .ok v w') : (s >>= f).run P w = (f v).run P w' := by
  rw [Sem.run_bind, h]; rfl

theorem not_much {n by_ : Nat} (hn : n ≤ 2097152) (hbs : n = 0 ∨ by_ ≤ 4096) : ¬ ((n : Int) * (by_ : Int) > 2 ^ 48) := by
  rcases hbs with h | h
  · subst h; simp
  · have h2 := Nat.mul_le_mul hn h
    have h3 : ((n * by_ : Nat) : Int) ≤ ((2097152 * 4096 : Nat) : Int) := Int.ofNat_le.2 h2
    rw [Int.natCast_mul] at h3
    have h4 : (2 : Int) ^ 48 = 281474976710656 := by decide
    rw [h4]
    have h5 : ((2097152 * 4096 : Nat) : Int) = 8589934592 := by decide
    rw [h5] at h3
    exact fun h6 => by
      have := Int.lt_of_lt_of_le h6 h3
      omega

theorem append_in (h0 : ts[0]? = some t) (h1 : ts[1]? = some xt) (hu : P.underlying t = some (.slice e)) (hz : sizeT P e = some z) (hb : Behind P w xt e z n x xs) (hin : l + n ≤ c) {w' : World}
    (hs : match base with | some a => (storeCells (a.add (l * z)) xs 0).run P w = .ok () w' | none => w' = w) : (Builtin.append_ ts ty #[.slice base l c, x]).run P w = .ok (.slice base (l + n) c) w' := by
  obtain ⟨d, hd, hb⟩ := hb
  rcases hb with ⟨hk, hl, hf⟩ | ⟨⟨kk, rfl⟩, ⟨kx, rfl⟩, hn, by_, hby, hbs, v, hv, hvz, rfl⟩
  · have hf := hf w (.refl w)
    unfold Builtin.append_
    simp only [h0, h1, List.getElem?_toArray, List.getElem?_cons_zero, List.getElem?_cons_succ]
    refine (bind_ok (run_und hu w)).trans ?_
    refine (bind_ok (run_sizeOf hz w)).trans ?_
    refine (bind_ok (run_und hd w)).trans ?_
    refine (bind_ok (v := false) (w' := w) (by cases d <;> first | rfl | exact absurd rfl (hk _))).trans ?_
    rw [if_neg Bool.false_ne_true]
    refine (bind_ok (hl w)).trans ?_
    rw [if_pos hin]
    refine (bind_ok (v := xs.toArray) (w' := w) hf).trans ?_
    cases base with
    | none => subst hs; rfl
    | some a => exact (bind_ok hs).trans rfl
  · obtain ⟨i, hi, hib⟩ := run_bytes hby w
    have hn' : n ≤ 2097152 := hn
    have hm : maxI = 9223372036854775807 := rfl
    have e1 : IntKind.i64.wrap (n : Int) = n := wrap_i64_nat (by omega) (by omega)
    unfold Builtin.append_
    simp only [h0, h1, List.getElem?_toArray, List.getElem?_cons_zero, List.getElem?_cons_succ]
    refine (bind_ok (run_und hu w)).trans ?_
    refine (bind_ok (run_sizeOf hz w)).trans ?_
    refine (bind_ok (run_und hd w)).trans ?_
    refine (bind_ok (v := true) (w' := w) rfl).trans ?_
    rw [if_pos rfl]
    refine (bind_ok (v := (n : Int)) (w' := w) rfl).trans ?_
    rw [e1, if_neg (by omega)]
    refine (bind_ok hi).trans ?_
    rw [hib, if_neg (not_much hn' hbs)]
    refine (bind_ok (v := n) (w' := w) rfl).trans ?_
    rw [if_pos hin]
    refine (bind_ok (v := (copies v.cells.toList n).toArray) (w' := w) ?_).trans ?_
    · rw [if_neg (by decide)]
      split
      · rename_i h2
        rw [show copies v.cells.toList n = [] from List.eq_nil_of_length_eq_zero (by rw [copies_len]; simpa [hvz] using h2)]
        rfl
      · refine (bind_ok (hv w)).trans ?_
        rw [zeroCells_eq]; rfl
    · cases base with
      | none => subst hs; rfl
      | some a => exact (bind_ok hs).trans rfl
end
end Go.Ev

namespace Go.Ev
open Go
set_option linter.unusedSectionVars false
variable [Sym]
set_option linter.unusedVariables false
variable {rt : Nat → Option RT} {ι : Inj} {P : Program} {h : H} {w : World} {t : TypeId} {a b : AV} {x y : Value}
section
variable {ts : Array TypeId} {ty xt e z by_ n l c : Nat} {d : TypeDesc} {base : Option Addr} {xs : List Value}

theorem run_appendCap (need c e : Nat) (w : World) : ∃ nc w1, (choose (.appendCap need c e)).run P w = .ok nc w1 ∧ SameW w w1 ∧ need ≤ nc := by
  refine ⟨_, { w with drawn := w.drawn + 1 }, rfl, ⟨rfl, rfl, rfl, rfl⟩, ?_⟩
  exact Nat.le_add_right _ _

theorem append_new {Q : World → Nat → World → Prop} (h0 : ts[0]? = some t) (h1 : ts[1]? = some xt) (hu : P.underlying t = some (.slice e)) (hz : sizeT P e = some z) (hb : Behind P w xt e z n x xs) {v : Value} (hv : ∀ w, (zeroValue e).run P w = .ok v w) (hvz : v.cells.size = z)
    (hby : bytesT P e = some by_) (hbs : by_ ≤ 4096) (hout : c < l + n) (hl1 : l ≤ maxElems) (hn1 : n ≤ maxElems) {old : List Value} (hold : ∀ w1, SameW w w1 → (Builtin.firstCells z l (.slice base l c)).run P w1 = .ok old.toArray w1)
    (hnew : ∀ w1, SameW w w1 → ∀ nc, l + n ≤ nc → ∀ rest : List Value, rest.length = (nc - (l + n)) * z → ∃ w2, (newRow e (old ++ xs ++ rest).toArray).run P w1 = .ok ⟨w1.heap.size, 0, none⟩ w2 ∧ Q w1 nc w2) :
    ∃ w1 nc w2, (Builtin.append_ ts ty #[.slice base l c, x]).run P w = .ok (.slice (some ⟨w1.heap.size, 0, none⟩) (l + n) nc) w2 ∧ Q w1 nc w2 := by
  obtain ⟨d, hd, hb⟩ := hb
  obtain ⟨nc, w1, hc1, sw, hnc⟩ := run_appendCap (P := P) (l + n) c e w
  obtain ⟨w2, hw2, hq⟩ := hnew w1 sw nc hnc (copies v.cells.toList (nc - (l + n))) (by rw [copies_len]; simp [hvz])
  refine ⟨w1, nc, w2, ?_, hq⟩
  obtain ⟨i, hi, hib⟩ := bytesT_info hby
  have hn' : n ≤ 2097152 := hn1
  have hl' : l ≤ 2097152 := hl1
  have hmax : IntKind.i64.max = 9223372036854775807 := by decide
  have hw2' : (newRow e (old.toArray ++ xs.toArray ++ Builtin.zeroCells v.cells (nc - (l + n)))).run P w1 = .ok ⟨w1.heap.size, 0, none⟩ w2 := by
    rw [zeroCells_eq, List.append_toArray, List.append_toArray]; exact hw2
  rcases hb with ⟨hk, hl, hf⟩ | ⟨⟨kk, rfl⟩, ⟨kx, rfl⟩, hn, by', hby', hbs', v', hv', hvz', rfl⟩
  · have hf := hf w1 sw
    unfold Builtin.append_
    simp only [h0, h1, List.getElem?_toArray, List.getElem?_cons_zero, List.getElem?_cons_succ]
    refine (bind_ok (run_und hu w)).trans ?_
    refine (bind_ok (run_sizeOf hz w)).trans ?_
    refine (bind_ok (run_und hd w)).trans ?_
    refine (bind_ok (v := false) (w' := w) (by cases d <;> first | rfl | exact absurd rfl (hk _))).trans ?_
    rw [if_neg Bool.false_ne_true]
    refine (bind_ok (hl w)).trans ?_
    rw [if_neg (by omega)]
    refine (bind_ok (run_info hi w)).trans ?_
    rw [if_neg (fun hh => by have := hh.1; rw [hmax] at this; omega)]
    refine (bind_ok (run_info hi w)).trans ?_
    rw [hib, if_neg (nextcap_le (by omega) hout hbs)]
    refine (bind_ok hc1).trans ?_
    refine (bind_ok (run_info hi w1)).trans ?_
    refine (bind_ok (run_askRoom _ _ _)).trans ?_
    refine (bind_ok (hold w1 sw)).trans ?_
    refine (bind_ok (v := xs.toArray) (w' := w1) hf).trans ?_
    refine (bind_ok (hv w1)).trans ?_
    exact (bind_ok hw2').trans rfl
  · have hm : maxI = 9223372036854775807 := rfl
    have e1 : IntKind.i64.wrap (n : Int) = n := wrap_i64_nat (by omega) (by omega)
    have hby2 : by' = by_ := by rw [hby] at hby'; injection hby' with h; exact h.symm
    subst hby2
    unfold Builtin.append_
    simp only [h0, h1, List.getElem?_toArray, List.getElem?_cons_zero, List.getElem?_cons_succ]
    refine (bind_ok (run_und hu w)).trans ?_
    refine (bind_ok (run_sizeOf hz w)).trans ?_
    refine (bind_ok (run_und hd w)).trans ?_
    refine (bind_ok (v := true) (w' := w) rfl).trans ?_
    rw [if_pos rfl]
    refine (bind_ok (v := (n : Int)) (w' := w) rfl).trans ?_
    rw [e1, if_neg (by omega)]
    refine (bind_ok (run_info hi w)).trans ?_
    rw [hib, if_neg (not_much hn' hbs')]
    refine (bind_ok (v := n) (w' := w) rfl).trans ?_
    rw [if_neg (by omega)]
    refine (bind_ok (run_info hi w)).trans ?_
    rw [if_neg (fun hh => by have := hh.1; rw [hmax] at this; omega)]
    refine (bind_ok (run_info hi w)).trans ?_
    rw [hib, if_neg (nextcap_le (by omega) hout hbs)]
    refine (bind_ok hc1).trans ?_
    refine (bind_ok (run_info hi w1)).trans ?_
    refine (bind_ok (run_askRoom _ _ _)).trans ?_
    refine (bind_ok (hold w1 sw)).trans ?_
    refine (bind_ok (v := (copies v'.cells.toList n).toArray) (w' := w1) ?_).trans ?_
    · rw [if_neg (by decide)]
      split
      · rename_i h2
        rw [show copies v'.cells.toList n = [] from List.eq_nil_of_length_eq_zero (by rw [copies_len]; simpa [hvz'] using h2)]
        rfl
      · refine (bind_ok (hv' w1)).trans ?_
        rw [zeroCells_eq]; rfl
    · refine (bind_ok (hv w1)).trans ?_
      exact (bind_ok hw2').trans rfl
end

theorem app_core {ts : Array TypeId} {ty xt e z by_ n : Nat} {cs zv : AV} {xs : List Value} {k : AV → H → Ans} (h0 : ts[0]? = some t) (h1 : ts[1]? = some xt) (hu : P.underlying t = some (.slice e)) (hz : sizeT P e = some z) (hby : bytesT P e = some by_) (hzv : zeroT P e = some zv) (hzl : zv.cells.len = z) (hz1 : 1 ≤ z)
    (m : MR rt ι h w) (ha : VR ι a x) (hb : Behind P w xt e z n y xs) (hv : VRL ι cs xs) (hl : xs.length = n * z) (hk : appNK e z by_ n cs a h k = .good) : DoesV rt ι P h w (Builtin.append_ ts ty #[x, y]) k := by
  unfold appNK at hk
  cases hn : Nat.beq n 0
  · rw [hn] at hk
    obtain ⟨h2, hk⟩ := wK_good hk
    obtain ⟨h3, hk⟩ := wK_good hk
    have hn1 : 1 ≤ n := Nat.one_le_iff_ne_zero.2 (beq_false hn)
    have h2 : n ≤ maxElems := ble_true h2
    obtain ⟨base, l, c, rfl, ok⟩ := appTo_good (P := P) m ha hv hl hz1 hn1 h2 hk
    rcases Nat.lt_or_ge c (l + n) with hc | hc
    · obtain ⟨hl1, old, ho1, ho2, ho3⟩ := ok.new hc
      obtain ⟨v, hv1, hv2⟩ := zeroT_good (ι := ι) hzv
      have hvz : v.cells.size = z := by have := hv1.cells.len; rw [hzl] at this; simpa using this.symm
      obtain ⟨w1, nc, w2, hr, ι', h', av, hp, hva, hka⟩ := append_new (ty := ty) (Q := fun w1 nc w2 => ∃ ι' h' v, Post rt ι h w ι' h' w2 ∧ VR ι' v (.slice (some ⟨w1.heap.size, 0, none⟩) (l + n) nc) ∧ k v h' = .good) h0 h1 hu hz hb hv2 hvz hby (ble_true h3) hc hl1 h2 ho2 ho3
      exact ⟨_, w2, ι', h', hr, hp, av, hva, hka⟩
    · obtain ⟨ad, rfl, w', hs, ι', h', av, hp, hva, hka⟩ := ok.inp hc
      exact ⟨_, w', ι', h', append_in h0 h1 hu hz hb hc hs, hp, av, hva, hka⟩
  · rw [hn] at hk
    have hn := beq_true hn
    subst hn
    have hxs : xs = [] := List.eq_nil_of_length_eq_zero (by rw [hl, Nat.zero_mul])
    subst hxs
    have fin : ∀ base l c, x = .slice base l c → l ≤ c → k a h = .good → DoesV rt ι P h w (Builtin.append_ ts ty #[x, y]) k := fun base l c e hlc hk => by
      subst e
      refine ⟨_, w, ι, h, append_in (w' := w) h0 h1 hu hz hb (by omega) (by cases base <;> rfl), .refl m, a, ha, hk⟩
    have hk : app0 a h k = .good := hk
    cases a with
    | sl p o l c => cases ha with | sl _ _ _ hp h3 h4 => exact fin _ _ _ rfl h3 hk
    | slo p o l c => cases ha with | slo _ _ _ _ hp h2 h3 h4 => exact fin _ _ _ rfl h3 hk
    | nl q =>
      cases q with
      | snil => cases ha; exact fin _ _ _ rfl (Nat.le_refl _) hk
      | szero => cases ha; exact fin _ _ _ rfl (Nat.zero_le _) hk
      | _ => cases hk
    | _ => cases hk

theorem appendK_good {ts : Array TypeId} {ty xt e z by_ : Nat} {d : TypeDesc} {zv : AV} {k : AV → H → Ans} (h0 : ts[0]? = some t) (h1 : ts[1]? = some xt) (hu : P.underlying t = some (.slice e)) (hd : P.underlying xt = some d) (hki : ∀ kk, d ≠ .int kk)
    (hz : sizeT P e = some z) (hby : bytesT P e = some by_) (hzv : zeroT P e = some zv) (hzl : zv.cells.len = z) (hz1 : 1 ≤ z) (m : MR rt ι h w) (ha : VR ι a x) (hb : VR ι b y) (hk : appendK e z by_ a b h k = .good) : DoesV rt ι P h w (Builtin.append_ ts ty #[x, y]) k := by
  obtain ⟨n, hn1, hn2, hk, _⟩ := lenNK_good (P := P) hb hk
  obtain ⟨cs, xs, hv, hl, hk, hf⟩ := firstK_good (P := P) m hb hk
  exact app_core h0 h1 hu hz hby hzv hzl hz1 m ha ⟨d, hd, .inl ⟨hki, hn1, hf⟩⟩ hv hl hk

theorem appendZK_good {ts : Array TypeId} {ty xt e z by_ : Nat} {kk : IntKind} {zv : AV} {k : AV → H → Ans} (h0 : ts[0]? = some t) (h1 : ts[1]? = some xt) (hu : P.underlying t = some (.slice e)) (hd : P.underlying xt = some (.int kk))
    (hz : sizeT P e = some z) (hby : bytesT P e = some by_) (hzv : zeroT P e = some zv) (hzl : zv.cells.len = z) (hz1 : 1 ≤ z) (m : MR rt ι h w) (ha : VR ι a x) (hb : VR ι b y) (hk : appendZK e z by_ zv.cells a b h k = .good) : DoesV rt ι P h w (Builtin.append_ ts ty #[x, y]) k := by
  obtain ⟨kx, n, rfl, hn, hk⟩ := inK_good hk hb
  obtain ⟨v, hv1, hv2⟩ := zeroT_good (ι := ι) hzv
  have hvz : v.cells.size = z := by have := hv1.cells.len; rw [hzl] at this; simpa using this.symm
  have hbs : n = 0 ∨ by_ ≤ 4096 := by
    unfold appNK at hk
    cases e0 : Nat.beq n 0
    · rw [e0] at hk
      obtain ⟨_, hk⟩ := wK_good hk
      obtain ⟨h3, hk⟩ := wK_good hk
      exact .inr (ble_true h3)
    · exact .inl (beq_true e0)
  exact app_core h0 h1 hu hz hby hzv hzl hz1 m ha ⟨_, hd, .inr ⟨⟨kk, rfl⟩, ⟨kx, rfl⟩, hn, by_, hby, hbs, v, hv2, hvz, rfl⟩⟩ (repl_VRL hv1.cells n) (by rw [copies_len]; simp [hvz]) hk
end Go.Ev

namespace Go.Ev
open Go
set_option linter.unusedSectionVars false
variable [Sym]
set_option linter.unusedVariables false
variable {rt : Nat → Option RT} {ι : Inj} {P : Program} {h : H} {w : World} {t : TypeId} {a b : AV} {x y : Value}

section
variable {ts : Array TypeId} {ty e z n : Nat} {k : AV → Ans}
theorem lenStr_good (h0 : ts[0]? = some t) (hu : P.underlying t = some .string) (ha : VR ι a x) (hk : asStr a (fun n _ => k (.num n)) = .good) : Gives ι P (Builtin.len_ ts ty #[x]) k := by
  obtain ⟨n, p, rfl, hk⟩ := asStr_good hk
  obtain ⟨s, rfl, hn, rfl, hs⟩ := str_of ha
  have e : s.size = n := by rw [hn]; exact (size_toList s).symm
  refine ⟨.num n, goInt s.size, fun w => ?_, by rw [← e]; exact .num s.size (Nat.le_of_lt (Nat.lt_trans hs (by decide))), hk⟩
  simp [Builtin.len_, h0, run_und hu]

theorem lenK_good (h0 : ts[0]? = some t) (hu : P.underlying t = some (.slice e)) (ha : VR ι a x) (hk : lenK a k = .good) : Gives ι P (Builtin.len_ ts ty #[x]) k := by
  have fin : ∀ base l c, x = .slice base l c → l ≤ maxI → k (.num l) = .good → Gives ι P (Builtin.len_ ts ty #[x]) k := fun base l c e hl hk => by
    subst e
    refine ⟨_, goInt l, fun w => ?_, .num l hl, hk⟩
    simp [Builtin.len_, h0, run_und hu]
  cases a with
  | sl p o l c => cases ha with | sl _ _ _ hp h1 h2 => exact fin _ _ _ rfl (Nat.le_trans h1 h2) hk
  | slo p o l c => cases ha with | slo _ _ _ _ hp h0 h1 h2 => exact fin _ _ _ rfl h2 hk
  | nl q =>
    cases q with
    | snil => cases ha; exact fin _ _ _ rfl (Nat.zero_le _) hk
    | szero => cases ha; exact fin _ _ _ rfl (Nat.zero_le _) hk
    | _ => cases hk
  | _ => cases hk

theorem capK_good (h0 : ts[0]? = some t) (hu : P.underlying t = some (.slice e)) (ha : VR ι a x) (hk : capK a k = .good) : Gives ι P (Builtin.cap_ ts ty #[x]) k := by
  have fin : ∀ base l c, x = .slice base l c → c ≤ maxI → k (.num c) = .good → Gives ι P (Builtin.cap_ ts ty #[x]) k := fun base l c e hl hk => by
    subst e
    refine ⟨_, goInt c, fun w => ?_, .num c hl, hk⟩
    simp [Builtin.cap_, h0, run_und hu]
  cases a with
  | sl p o l c => cases ha with | sl _ _ _ hp h1 h2 => exact fin _ _ _ rfl h2 hk
  | nl q =>
    cases q with
    | snil => cases ha; exact fin _ _ _ rfl (Nat.zero_le _) hk
    | _ => cases hk
  | _ => cases hk

theorem sliceDataK_good {ty : Nat} (ha : VR ι a x) (hk : sliceDataK a k = .good) : Gives ι P (Builtin.unsafeSliceData_ ts ty #[x]) k := by
  have fin : ∀ p bb zz o l c, ι p = some (bb, zz) → x = .slice (some ⟨bb, o, none⟩) l c → l ≤ c → bK (Nat.beq l 0) .bad (k (.ptr p o)) = .good → Gives ι P (Builtin.unsafeSliceData_ ts ty #[x]) k := fun p bb zz o l c hp e hlc hk => by
    subst e
    cases e : Nat.beq l 0
    · rw [e] at hk
      have e := beq_false e
      refine ⟨_, .pointer (some ⟨bb, o, none⟩), fun w => ?_, .ptr o hp, hk⟩
      have hc : c ≠ 0 := by omega
      show (ite (c ≠ 0) (pure (.pointer (some ⟨bb, o, none⟩))) _ : Sem Value).run P w = _
      rw [if_pos hc]; rfl
    · rw [e] at hk; cases hk
  cases a with
  | sl p o l c => cases ha with | sl _ _ _ hp h1 h2 => exact fin _ _ _ _ _ _ hp rfl h1 hk
  | slo p o l c => cases ha with | slo _ _ _ _ hp h0 h1 h2 => exact fin _ _ _ _ _ _ hp rfl h1 hk
  | nl q =>
    cases q with
    | snil => cases ha; exact ⟨_, .pointer none, fun w => rfl, .pnil, hk⟩
    | _ => cases hk
  | _ => cases hk
end
theorem rowWrite (m : MR rt ι h w) {p : P4} {bb zz o : Nat} {cs : AV} {xs : List Value} (hp : ι p = some (bb, zz)) (hv : VRL ι cs xs) {k : H → Ans} {nz : Nat} (hl : xs.length = nz)
    (hk : HgetK h p (fun b => AOcellsK b fun et mk fz m ex c => wK (Nat.ble (Nat.add o nz) m) (wK (Nat.ble fz o) (layK cs o c fun c => HsetK h p (AO.cells et mk fz m ex c) k))) = .good) :
    ∃ w' h', (storeCells ⟨bb, o, none⟩ xs 0).run P w = .ok () w' ∧ Post rt ι h w ι h' w' ∧ k h' = .good := by
  rw [HgetK_eq] at hk
  obtain ⟨et, mk, fz, m', ex, c, e, hk⟩ := AOcellsK_good hk
  obtain ⟨h1, hk⟩ := wK_good hk
  obtain ⟨h2, hk⟩ := wK_good hk
  obtain ⟨c', h3, hk⟩ := layK_good _ hk
  rw [HsetK_eq] at hk
  obtain ⟨w', h4, h5⟩ := storeRow (P := P) m hp e h3 hv (by rw [hl]; exact ble_true h1) (ble_true h2)
  exact ⟨w', _, h4, h5, hk⟩

section
variable {ts : Array TypeId} {ty e z n : Nat}
theorem copyK_good {k : AV → H → Ans} (h0 : ts[0]? = some t) (hu : P.underlying t = some (.slice e)) (hz : sizeT P e = some z) (m : MR rt ι h w) (ha : VR ι a x) (hb : VR ι b y) (hk : copyK z a b h k = .good) : DoesV rt ι P h w (Builtin.copy_ ts ty #[x, y]) k := by
  unfold copyK at hk
  obtain ⟨dn, hd1, hd2, hk, hd3⟩ := lenNK_good (P := P) ha hk
  obtain ⟨sn, hs1, hs2, hk, hs3⟩ := lenNK_good (P := P) hb hk
  rw [fN_eq] at hk
  obtain ⟨cs, xs, hv, hl, hk, hf⟩ := firstK_good (P := P) m hb hk
  have hle : Nat.min sn dn ≤ maxI := Nat.le_trans (Nat.min_le_right _ _) hd2
  have fin : ∀ (p : P4) (bb zz o c : Nat), ι p = some (bb, zz) → x = .slice (some ⟨bb, o, none⟩) dn c →
      HgetK h p (fun b => AOcellsK b fun et mk fz m ex c => wK (Nat.ble (Nat.add o (Nat.mul (Nat.min sn dn) z)) m) (wK (Nat.ble fz o) (layK cs o c fun c => HsetK h p (AO.cells et mk fz m ex c) fun h => k (.num (Nat.min sn dn)) h))) = .good →
      DoesV rt ι P h w (Builtin.copy_ ts ty #[x, y]) k := fun p bb zz o c hp e hk => by
    subst e
    obtain ⟨w', h', g1, g2, g3⟩ := rowWrite (P := P) m hp hv (nz := Nat.mul (Nat.min sn dn) z) hl hk
    refine ⟨goInt (Nat.min sn dn), w', ι, h', ?_, g2, .num (Nat.min sn dn), .num _ hle, g3⟩
    unfold Builtin.copy_
    simp only [h0, List.getElem?_toArray, List.getElem?_cons_zero, List.getElem?_cons_succ]
    refine (bind_ok (run_und hu w)).trans ?_
    refine (bind_ok (hs1 w)).trans ?_
    refine (bind_ok (run_sizeOf hz w)).trans ?_
    refine (bind_ok (hf w (.refl w))).trans ?_
    exact (bind_ok g1).trans rfl
  have nil0 : ∀ base c, x = .slice base 0 c → dn = 0 → k (.num (Nat.min sn dn)) h = .good → DoesV rt ι P h w (Builtin.copy_ ts ty #[x, y]) k := fun base c e hdn hk => by
    subst e; subst hdn
    have hm : Nat.min sn 0 = 0 := Nat.min_zero sn
    have hx : xs = [] := List.eq_nil_of_length_eq_zero (by rw [hl, hm, Nat.zero_mul])
    subst hx
    refine ⟨goInt (Nat.min sn 0 : Nat), w, ι, h, ?_, .refl m, .num (Nat.min sn 0), .num _ hle, hk⟩
    unfold Builtin.copy_
    simp only [h0, List.getElem?_toArray, List.getElem?_cons_zero, List.getElem?_cons_succ]
    refine (bind_ok (run_und hu w)).trans ?_
    refine (bind_ok (hs1 w)).trans ?_
    refine (bind_ok (run_sizeOf hz w)).trans ?_
    refine (bind_ok (hf w (.refl w))).trans ?_
    cases base <;> rfl
  cases a with
  | sl p o l c =>
    cases ha with | sl _ _ _ hp h1 h2 =>
    have e : dn = l := by rcases hd3 with ⟨_, _, _, e⟩ | ⟨_, _, _, e⟩ | ⟨_, e⟩ | ⟨_, e | e⟩ <;> first | (injection e with _ _ e _; exact e.symm) | cases e
    exact fin p _ _ o c hp (by rw [e]) hk
  | slo p o l c =>
    cases ha with | slo _ _ _ cc hp h00 h1 h2 =>
    have e : dn = l := by rcases hd3 with ⟨_, _, _, e⟩ | ⟨_, _, _, e⟩ | ⟨_, e⟩ | ⟨_, e | e⟩ <;> first | (injection e with _ _ e _; exact e.symm) | cases e
    exact fin p _ _ o cc hp (by rw [e]) hk
  | nl q =>
    cases q with
    | snil =>
      cases ha
      have e : dn = 0 := by rcases hd3 with ⟨_, _, _, e⟩ | ⟨_, _, _, e⟩ | ⟨_, e⟩ | ⟨e', e | e⟩ <;> first | exact e' | cases e
      exact nil0 _ _ rfl e hk
    | szero =>
      cases ha
      have e : dn = 0 := by rcases hd3 with ⟨_, _, _, e⟩ | ⟨_, _, _, e⟩ | ⟨_, e⟩ | ⟨e', e | e⟩ <;> first | exact e' | cases e
      exact nil0 _ _ rfl e hk
    | _ => cases hk
  | _ => cases hk
end
end Go.Ev

namespace Go.Ev
open Go
set_option linter.unusedSectionVars false
variable [Sym]
set_option linter.unusedVariables false
variable {rt : Nat → Option RT} {ι : Inj} {P : Program} {h : H} {w : World} {t : TypeId} {a b : AV} {x y : Value}

section
variable {ts : Array TypeId} {ty e z n by_ : Nat}
theorem clearK_good {k : H → Ans} {zv : AV} (h0 : ts[0]? = some t) (hu : P.underlying t = some (.slice e)) (hzv : zeroT P e = some zv) (hzl : zv.cells.len = z) (m : MR rt ι h w) (ha : VR ι a x) (hk : clearK z zv.cells a h k = .good) :
    Does rt ι P h w (Builtin.clear_ ts ty #[x]) fun _ x h' => x = .tuple #[] ∧ k h' = .good := by
  obtain ⟨v, hv1, hv2⟩ := zeroT_good (ι := ι) hzv
  have hvz : v.cells.size = z := by have := hv1.cells.len; rw [hzl] at this; simpa using this.symm
  have nil0 : ∀ base c, x = .slice base 0 c → k h = .good → Does rt ι P h w (Builtin.clear_ ts ty #[x]) fun _ x h' => x = .tuple #[] ∧ k h' = .good := fun base c e hk => by
    subst e
    refine ⟨.tuple #[], w, ι, h, ?_, .refl m, rfl, hk⟩
    unfold Builtin.clear_
    simp only [h0, List.getElem?_toArray, List.getElem?_cons_zero]
    refine (bind_ok (run_und hu w)).trans ?_
    cases base <;> rfl
  have fin : ∀ (p : P4) (bb zz o l c : Nat), ι p = some (bb, zz) → x = .slice (some ⟨bb, o, none⟩) l c →
      bK (Nat.beq l 0) (k h) (HgetK h p fun b => AOcellsK b fun et mk fz m ex c => wK (Nat.ble (Nat.add o (Nat.mul l z)) m) (wK (Nat.ble fz o) (layK (repl zv.cells l) o c fun c => HsetK h p (AO.cells et mk fz m ex c) k))) = .good →
      Does rt ι P h w (Builtin.clear_ ts ty #[x]) fun _ x h' => x = .tuple #[] ∧ k h' = .good := fun p bb zz o l c hp e hk => by
    cases l with
    | zero => exact nil0 _ _ e hk
    | succ l =>
      subst e
      obtain ⟨w', h', g1, g2, g3⟩ := rowWrite (P := P) m hp (repl_VRL hv1.cells (l + 1)) (nz := Nat.mul (l + 1) z) (by rw [copies_len]; simp [hvz]) hk
      refine ⟨.tuple #[], w', ι, h', ?_, g2, rfl, g3⟩
      unfold Builtin.clear_
      simp only [h0, List.getElem?_toArray, List.getElem?_cons_zero]
      refine (bind_ok (run_und hu w)).trans ?_
      refine (bind_ok (hv2 w)).trans ?_
      rw [zeroCells_eq]
      exact (bind_ok g1).trans rfl
  cases a with
  | sl p o l c => cases ha with | sl _ _ _ hp h1 h2 => exact fin p _ _ o l c hp rfl hk
  | slo p o l c => cases ha with | slo _ _ _ cc hp h00 h1 h2 => exact fin p _ _ o l cc hp rfl hk
  | nl q =>
    cases q with
    | snil => cases ha; exact nil0 _ _ rfl hk
    | szero => cases ha; exact nil0 _ _ rfl hk
    | _ => cases hk
  | _ => cases hk
def MadeRow (zs : AV) (cn : Nat) (r : Row) : Prop := Row.Lay (repl zs cn) 0 RowE r ∨ ∃ v, zs = .cons v .nil ∧ v.isCell = true ∧ r = .rz v
theorem oneK_good {zs : AV} {k : AV → Ans} (hk : oneK zs k = .good) : ∃ v, zs = .cons v .nil ∧ v.isCell = true ∧ k v = .good := by
  unfold oneK at hk
  split at hk
  · obtain ⟨h1, h2⟩ := cellK_good hk
    exact ⟨_, rfl, h1, h2⟩
  · cases hk
theorem makeRow_good {zs : AV} {cn : Nat} {k : Row → Ans} (hk : makeRowK zs cn k = .good) : ∃ r, MadeRow zs cn r ∧ k r = .good := by
  unfold makeRowK at hk
  cases hb : Nat.ble cn 65536 with
  | true =>
    rw [hb] at hk
    have hk : layK (repl zs cn) 0 RowE k = .good := hk
    obtain ⟨r, h1, h2⟩ := layK_good _ hk
    exact ⟨r, .inl h1, h2⟩
  | false =>
    rw [hb] at hk
    have hk : oneK zs (fun v => k (.rz v)) = .good := hk
    obtain ⟨v, rfl, h1, h2⟩ := oneK_good hk
    exact ⟨.rz v, .inr ⟨v, rfl, h1, rfl⟩, h2⟩
theorem copies_one {x v : Value} {n d : Nat} (e : (copies [x] n)[d]? = some v) : d < n ∧ v = x := by
  have h := (List.getElem?_eq_some_iff.1 e).1
  rw [copies_len, List.length_singleton, Nat.mul_one] at h
  rw [copies_get _ _ _ (by simpa using h)] at e
  simp only [List.length_singleton, Nat.mod_one, List.getElem?_cons_zero] at e
  injection e with e
  exact ⟨h, e.symm⟩
theorem made_f3 {zs : AV} {cn : Nat} {r : Row} {l : List Value} (hc : cn ≤ maxElems) (hm : MadeRow zs cn r) (hv : VRL ι zs l) : ∀ (d : Nat) (v : Value), (copies l cn)[d]? = some v → d < r.room ∧ True ∧ VR ι (r.get d) v := by
  intro d v e
  rcases hm with h | ⟨u, rfl, _, rfl⟩
  · obtain ⟨_, _, f3⟩ := h.facts (repl_VRL hv cn)
    have := f3 d v e
    rw [Nat.zero_add] at this
    exact ⟨this.1, trivial, this.2.2.1⟩
  · cases hv with | cons h1 h2 =>
    cases h2
    obtain ⟨h3, rfl⟩ := copies_one e
    have hc' : cn ≤ 2097152 := hc
    exact ⟨by show d < 4294967296; omega, trivial, h1⟩
theorem makeSliceK_good {k : AV → H → Ans} {zv : AV} (hu : P.underlying t = some (.slice e)) (hz : sizeT P e = some z) (hby : bytesT P e = some by_) (hzv : zeroT P e = some zv) (hzl : zv.cells.len = z) (m : MR rt ι h w) (ha : VR ι a x) (hb : VR ι b y)
    (hk : makeSliceK e z by_ zv.cells a b h k = .good) : DoesV rt ι P h w (Instr.makeSlice t x y) k := by
  obtain ⟨v, hv1, hv2⟩ := zeroT_good (ι := ι) hzv
  have hvz : v.cells.size = z := by have := hv1.cells.len; rw [hzl] at this; simpa using this.symm
  obtain ⟨kc, c, rfl, hc, hk⟩ := inK_good hk hb
  obtain ⟨kl, l, rfl, hl, hk⟩ := inK_good hk ha
  obtain ⟨h1, hk⟩ := wK_good hk
  have h1 : by_ ≤ 4096 := ble_true h1
  obtain ⟨r, h2, hk⟩ := makeRow_good hk
  rw [fN_eq] at hk
  have hc' : c ≤ 2097152 := hc
  obtain ⟨p, w', ι', h', g1, g2, g3, g4⟩ := newCells_good (P := P) (arr := (copies v.cells.toList c).toArray) m (made_f3 hc h2 hv1.cells) (by rw [copies_len, Array.length_toList, hvz]; rfl) rfl hk
  refine ⟨.slice (some ⟨w.heap.size, 0, none⟩) l c, w', ι', h', ?_, g2, _, .sl 0 l c g3 hl (Nat.le_trans hc (by decide)), g4⟩
  obtain ⟨i, hi, hib⟩ := bytesT_info hby
  have hm : maxI = 9223372036854775807 := rfl
  have e1 : IntKind.i64.wrap (c : Int) = c := wrap_i64_nat (by omega) (by omega)
  have e2 : IntKind.i64.wrap (l : Int) = l := wrap_i64_nat (by omega) (by omega)
  have e3 : ¬ ((by_ : Int) * (c : Int) > 2 ^ 48) := by rw [Int.mul_comm]; exact not_much hc' (.inr h1)
  unfold Instr.makeSlice
  refine (bind_ok (run_und hu w)).trans ?_
  refine (bind_ok (v := (l : Int)) (w' := w) rfl).trans ?_
  refine (bind_ok (v := (c : Int)) (w' := w) rfl).trans ?_
  refine (bind_ok (run_info hi w)).trans ?_
  simp only [e1, e2, hib]
  rw [if_neg (by simp only [Bool.or_eq_true, decide_eq_true_eq]; omega)]
  refine (bind_ok (run_askRoom _ _ _)).trans ?_
  refine (bind_ok (run_sizeOf hz w)).trans ?_
  simp only [Int.toNat_natCast]
  by_cases h0 : c * z = 0
  · have hcp : copies v.cells.toList c = [] := List.eq_nil_of_length_eq_zero (by rw [copies_len, Array.length_toList, hvz]; exact h0)
    rw [hcp] at g1
    rw [if_pos h0, h0]
    refine (bind_ok (v := #[]) (w' := w) rfl).trans ?_
    refine (bind_ok (v := ⟨w.heap.size, 0, none⟩) (w' := w') ?_).trans rfl
    rw [show Array.range 0 = (#[] : Array Nat) from rfl, Array.map_empty]
    exact g1
  · rw [if_neg h0]
    refine (bind_ok (hv2 w)).trans ?_
    refine (bind_ok (v := v.cells) (w' := w) rfl).trans ?_
    rw [← map_copies, hvz] at g1
    refine (bind_ok (v := ⟨w.heap.size, 0, none⟩) (w' := w') ?_).trans rfl
    rw [← g1, hvz]
end

theorem min_good {ts : Array TypeId} {ty : Nat} {k : AV → Ans} (ha : VR ι a x) (hb : VR ι b y) (hk : minK a b k = .good) : Gives ι P (Builtin.min_ ts ty #[x, y]) k := by
  obtain ⟨j, p, q, rfl, rfl, hk⟩ := minK_good hk ha hb
  have run : ∀ w, (Builtin.min_ ts ty #[.int (kd j) p, .int (kd j) q]).run P w = .ok (.int (kd j) (if q < p then q else p)) w := fun w => rfl
  split at hk
  · rename_i hlt; exact ⟨b, _, fun w => by rw [run, if_pos hlt], hb, hk⟩
  · rename_i hlt; exact ⟨a, _, fun w => by rw [run, if_neg hlt], ha, hk⟩
theorem max_good {ts : Array TypeId} {ty : Nat} {k : AV → Ans} (ha : VR ι a x) (hb : VR ι b y) (hk : maxK a b k = .good) : Gives ι P (Builtin.max_ ts ty #[x, y]) k := by
  obtain ⟨j, p, q, rfl, rfl, hk⟩ := maxK_good hk ha hb
  have run : ∀ w, (Builtin.max_ ts ty #[.int (kd j) p, .int (kd j) q]).run P w = .ok (.int (kd j) (if q > p then q else p)) w := fun w => rfl
  split at hk
  · rename_i hlt; exact ⟨b, _, fun w => by rw [run, if_pos hlt], hb, hk⟩
  · rename_i hlt; exact ⟨a, _, fun w => by rw [run, if_neg hlt], ha, hk⟩
end Go.Ev

namespace Go.Ev
open Go
set_option linter.unusedSectionVars false
variable [Sym]
set_option linter.unusedVariables false
variable {rt : Nat → Option RT} {ι : Inj} {P : Program} {h : H} {w : World} {t : TypeId} {a b : AV} {x y : Value}

theorem makeInterface_good {d : TypeDesc} (hu : P.underlying t = some d) (hd : ∀ m, d ≠ .interface m) (ha : VR ι a x) {k : AV → Ans} (hk : k (.ifc t a) = .good) : Gives ι P (Instr.makeInterface t x) k := by
  refine ⟨_, .iface t x, fun w => ?_, .ifc t ha, hk⟩
  unfold Instr.makeInterface
  refine (bind_ok (run_und hu w)).trans ?_
  cases d <;> first | rfl | exact absurd rfl (hd _)

theorem makeFunc_good {f : Nat} {fs cs : List AV} {xs ys : List Value} (hf : f ≤ 4095) (h1 : VRs ι fs xs) (h2 : VRs ι cs ys) {k : AV → Ans} (hk : k (.fn (G3.ofNat f) (AV.ofList fs) (AV.ofList cs)) = .good) (hg : (G3.ofNat f).val = f) : Gives ι P (Instr.makeFunc (.func f) xs.toArray ys.toArray) k :=
  ⟨_, .func (.func f) xs.toArray ys.toArray, fun w => rfl, .fn hg (by simpa using h1.ofList) (by simpa using h2.ofList), hk⟩

theorem holds_good {ok : Bool} {v : Value} (ha : VR ι a v) {k : AV → Ans} (hk : foundK ok a k = .good) : ∃ c, VR ι c (if ok then .tuple #[v, .bool true] else v) ∧ k c = .good := by
  cases ok with
  | true => exact ⟨_, .tup (.cons ha (.cons (.bool true) .nil)), hk⟩
  | false => exact ⟨_, ha, hk⟩

theorem assertK_good {xt : TypeId} {d : TypeDesc} {ok : Bool} {z : AV} (hu : P.underlying t = some d) (hd : ∀ m, d ≠ .interface m) (hz : zeroT P t = some z) (ha : VR ι a x) {k : AV → Ans} (hk : assertK t ok z a k = .good) : Gives ι P (Instr.typeAssert x xt t ok) k := by
  obtain ⟨v, hv1, hv2⟩ := zeroT_good (ι := ι) hz
  have fails : ∀ (s : Sem Value), (∀ w, s.run P w = .ok (.tuple #[v, .bool false]) w) → k (.tup (.cons z (.cons (.bool false) .nil))) = .good → Gives ι P s k := fun s hs hk => ⟨_, _, hs, .tup (.cons hv1 (.cons (.bool false) .nil)), hk⟩
  cases a with
  | nl q =>
    cases q with
    | inil =>
      cases ha
      cases ok with
      | false => cases hk
      | true =>
        refine fails _ (fun w => ?_) hk
        unfold Instr.typeAssert
        refine (bind_ok (run_und hu w)).trans ?_
        cases d <;> first | exact absurd rfl (hd _) | exact (bind_ok (hv2 w)).trans rfl
    | _ => cases hk
  | ifc u va =>
    cases ha with | ifc _ hva =>
    rename_i vv
    unfold assertK at hk
    dsimp only at hk
    cases e : Nat.beq u t
    · rw [e] at hk
      have e := beq_false e
      cases ok with
      | false => cases hk
      | true =>
        refine fails _ (fun w => ?_) hk
        unfold Instr.typeAssert
        refine (bind_ok (run_und hu w)).trans ?_
        cases d <;> first | exact absurd rfl (hd _) | exact (congrArg (fun s : Sem Value => s.run P w) (if_neg e)).trans ((bind_ok (hv2 w)).trans rfl)
    · rw [e] at hk
      have e := beq_true e
      subst e
      obtain ⟨c, hc, hk⟩ := holds_good hva hk
      refine ⟨c, _, fun w => ?_, hc, hk⟩
      unfold Instr.typeAssert
      refine (bind_ok (run_und hu w)).trans ?_
      cases d <;> first | exact absurd rfl (hd _) | exact (congrArg (fun s : Sem Value => s.run P w) (if_pos rfl)).trans rfl
  | _ => cases hk

theorem makeMapK_good {k : AV → H → Ans} (m : MR rt ι h w) (hk : makeMapK h k = .good) : DoesV rt ι P h w (Instr.makeMap t none) k := by
  obtain ⟨q, h1, hk⟩ := HnewK_good hk
  refine ⟨.map (some w.heap.size), _, upd ι h.nx (w.heap.size, 0), _, rfl, Post.alloc m (pushW_alloc (.map #[] 0)) h1 ?_, _, .map (upd_same _ _ _), hk⟩
  exact .map .nil fun _ => ⟨trivial, rfl⟩
theorem reserveK_good {kt e : TypeId} {k : AV → H → Ans} (hu : P.underlying t = some (.map kt e)) (m : MR rt ι h w) (ha : VR ι a x) (hk : reserveK a h k = .good) : DoesV rt ι P h w (Instr.makeMap t (some x)) k := by
  unfold reserveK at hk
  cases e0 : toI a with
  | none => rw [e0] at hk; cases hk
  | some j =>
    rw [e0] at hk
    obtain ⟨v, w', ι', h', h1, h2, h3⟩ := makeMapK_good (P := P) (t := t) m hk
    refine ⟨v, w', ι', h', ?_, h2, h3⟩
    rw [← h1]
    unfold Instr.makeMap
    refine (bind_ok (run_und hu w)).trans ?_
    have : ∃ kk i, x = .int kk i := by
      cases a <;> first | (cases ha; exact ⟨_, _, rfl⟩) | cases e0
    obtain ⟨kk, i, rfl⟩ := this
    rfl
end Go.Ev

namespace Go.Ev
open Go
set_option linter.unusedSectionVars false
variable [Sym]
set_option linter.unusedVariables false
variable {rt : Nat → Option RT} {ι : Inj} {P : Program} {h : H} {w : World} {t : TypeId} {a b : AV} {x y : Value}

theorem VRs.take {l : List AV} {r : List Value} (h : VRs ι l r) : ∀ n, VRs ι (l.take n) (r.take n) := by
  induction h with
  | nil => intro n; simp; exact .nil
  | cons h1 _ ih =>
    intro n
    cases n with
    | zero => exact .nil
    | succ n => exact .cons h1 (ih n)
theorem VRs.drop {l : List AV} {r : List Value} (h : VRs ι l r) : ∀ n, VRs ι (l.drop n) (r.drop n) := by
  induction h with
  | nil => intro n; simp; exact .nil
  | cons h1 h2 ih =>
    intro n
    cases n with
    | zero => exact .cons h1 h2
    | succ n => exact ih n
theorem VRL.toLs {l : List Value} : ∀ {a : AV}, VRL ι a l → VRs ι a.toL l := by
  induction l with
  | nil => intro a h; cases h; exact .nil
  | cons x r ih => intro a h; cases h with | cons h1 h2 => exact .cons h1 (ih h2)

theorem unLX_good {n : Nat} : ∀ {v : AV} {k : List AV → Ans} {l : List Value}, VRL ι v l → unLX n v k = .good → ∃ vs, VRs ι vs l ∧ l.length = n ∧ k vs = .good := by
  induction n with
  | zero =>
    intro v k l hv hk
    have hk : nilK v (k []) = .good := hk
    cases v with
    | nil => cases hv; exact ⟨[], .nil, rfl, hk⟩
    | _ => cases hk
  | succ n ih =>
    intro v k l hv hk
    have hk : asCons v (fun a b => unLX n b fun l => k (a :: l)) = .good := hk
    obtain ⟨c, r, rfl, hk⟩ := asCons_good hk
    cases hv with | cons h1 h2 =>
    obtain ⟨vs, h3, h4, h5⟩ := ih h2 hk
    exact ⟨_, .cons h1 h3, by simp [h4], h5⟩

theorem foldl_putA (l : List Value) (off : Nat) : ∀ (i : Nat) (cells : Array Value), (l.zipIdx i).foldl (fun cs (p : Value × Nat) => cs.setIfInBounds (off + p.2) p.1) cells = putA cells (off + i) l := by
  induction l with
  | nil => intro i cells; rfl
  | cons v r ih => intro i cells; simp only [List.zipIdx_cons, List.foldl_cons]; rw [ih]; rfl

theorem putA_list (cells : Array Value) (off : Nat) (l : List Value) (h : off + l.length ≤ cells.size) : (putA cells off l).toList = cells.toList.take off ++ l ++ cells.toList.drop (off + l.length) := by
  apply List.ext_getElem?
  intro j
  have hs : cells.toList.length = cells.size := Array.length_toList
  rw [Array.getElem?_toList, putA_get _ _ _ _ h]
  have ht : (cells.toList.take off).length = off := by rw [List.length_take]; omega
  by_cases h1 : j < off
  · rw [if_neg (by omega), List.append_assoc, List.getElem?_append_left (by omega), List.getElem?_take, if_pos h1, Array.getElem?_toList]
  · by_cases h2 : j < off + l.length
    · rw [if_pos ⟨by omega, h2⟩, List.append_assoc, List.getElem?_append_right (by omega), ht, List.getElem?_append_left (by omega)]
    · rw [if_neg (by omega), List.getElem?_append_right (by rw [List.length_append]; omega), List.length_append, ht, List.getElem?_drop, Array.getElem?_toList]
      congr 1; omega
inductive PartsR (ι : Inj) (place : Nat → Option (Nat × Nat)) : List (Nat × Nat × Bool × Bool × AV) → List (Nat × Value) → Prop where
  | nil : PartsR ι place [] []
  | cons {off z i : Nat} {ag cn : Bool} {v : AV} {u : Value} {ps : List (Nat × Nat × Bool × Bool × AV)} {qs : List (Nat × Value)} (hp : place i = some (off, z)) (hv : VR ι v u) (h : PartsR ι place ps qs) : PartsR ι place ((off, z, ag, cn, v) :: ps) ((i, u) :: qs)

theorem fill_cons {place : Nat → Option (Nat × Nat)} {cells : Array Value} {i off z : Nat} {v : Value} {rest : List (Nat × Value)} (hp : place i = some (off, z)) (hz : v.cells.size = z) (hle : off + z ≤ cells.size) :
    Instr.fill place cells ((i, v) :: rest) = Instr.fill place (putA cells off v.cells.toList) rest := by
  have e : v.cells.zipIdx.foldl (fun cs (p : Value × Nat) => cs.setIfInBounds (off + p.2) p.1) cells = putA cells off v.cells.toList := by
    rw [← Array.foldl_toList, Array.toList_zipIdx, foldl_putA]; rfl
  show (match place i with | none => none | some (off, size) => _) = _
  rw [hp]
  simp only [hz]
  rw [if_neg (by simp; omega)]
  rw [← e]

theorem parts_good {place : Nat → Option (Nat × Nat)} {ps : List (Nat × Nat × Bool × Bool × AV)} {qs : List (Nat × Value)} (hr : PartsR ι place ps qs) : ∀ {l : List AV} {cells : Array Value} {k : List AV → Ans}, VRs ι l cells.toList → partsK ps l k = .good →
    ∃ l' cells', Instr.fill place cells qs = some cells' ∧ VRs ι l' cells'.toList ∧ cells'.size = cells.size ∧ k l' = .good := by
  induction hr with
  | nil => intro l cells k hl hk; exact ⟨l, cells, rfl, hl, rfl, hk⟩
  | @cons off z i ag cn v u ps qs hp hv _ ih =>
    intro l cells k hl hk
    unfold partsK at hk
    have hlen : l.length = cells.size := by have h0 := hl.len; rw [h0]; exact Array.length_toList
    have step : ∀ (vs : List AV) (us : List Value), VRs ι vs us → us.length = z → off + z ≤ l.length → u.cells.toList = us → partsK ps (setL off vs l) k = .good → ∃ l' cells', Instr.fill place cells ((i, u) :: qs) = some cells' ∧ VRs ι l' cells'.toList ∧ cells'.size = cells.size ∧ k l' = .good := fun vs us hvs hz hle hu hk => by
      have hus : u.cells.size = z := by rw [← Array.length_toList, hu, hz]
      have hput := putA_list cells off u.cells.toList (by rw [Array.length_toList, hus]; omega)
      have hset : VRs ι (setL off vs l) (putA cells off u.cells.toList).toList := by
        rw [hput, hu]
        unfold setL
        rw [hvs.len]
        exact ((hl.take off).append hvs).append (hl.drop _)
      obtain ⟨l', cells', h1, h2, h3, h4⟩ := ih hset hk
      exact ⟨l', cells', by rw [fill_cons hp hus (by omega)]; exact h1, h2, by rw [h3, putA_size], h4⟩
    split at hk
    · cases hk
    · rename_i hle
      have hle := ble_true hle
      split at hk
      · obtain ⟨cs, rfl, hk⟩ := asAgg_good hk
        cases hv with | agg hv =>
        obtain ⟨vs, h1, h2, hk⟩ := unLX_good hv hk
        exact step vs _ h1 h2 hle rfl hk
      · split at hk
        · cases hk
        · rename_i hz
          have hz := beq_true hz
          have one : v.isCell = true → partsK ps (setL off [v] l) k = .good → ∃ l' cells', Instr.fill place cells ((i, u) :: qs) = some cells' ∧ VRs ι l' cells'.toList ∧ cells'.size = cells.size ∧ k l' = .good := fun hc hk =>
            step [v] [u] (.cons hv .nil) hz.symm hle (by rw [(isCell_oneCell hv hc).2]) hk
          split at hk
          · split at hk
            · rename_i hc; exact one hc hk
            · cases hk
          · obtain ⟨hc, hk⟩ := cellK_good hk
            exact one hc hk
end Go.Ev

namespace Go.Ev
open Go
set_option linter.unusedSectionVars false
variable [Sym]
set_option linter.unusedVariables false
variable {rt : Nat → Option RT} {ι : Inj} {P : Program} {h : H} {w : World} {t : TypeId} {a b : AV} {x y : Value}

theorem mapM_sizes (fs : List Field) : (∀ f ∈ fs, ∃ s, sizeT P f.type = some s) → ∃ l : List (Nat × Nat), (∀ w, (fs.mapM (m := Sem) fun f => do pure (f.offset, ← sizeOf f.type)).run P w = .ok l w) ∧ l.length = fs.length ∧ ∀ (i : Nat) (f : Field) (s : Nat), fs[i]? = some f → sizeT P f.type = some s → l[i]? = some (f.offset, s) := by
  induction fs with
  | nil => intro _; exact ⟨[], fun w => rfl, rfl, fun i f s e => by simp at e⟩
  | cons g fs ih =>
    intro hs
    obtain ⟨s, hg⟩ := hs g (by simp)
    obtain ⟨l, h1, h2, h3⟩ := ih (fun f hf => hs f (by simp [hf]))
    refine ⟨(g.offset, s) :: l, fun w => ?_, by simp [h2], fun i f s' e hs' => ?_⟩
    · rw [List.mapM_cons]
      refine (bind_ok (v := (g.offset, s)) (w' := w) ((bind_ok (run_sizeOf hg w)).trans rfl)).trans ?_
      exact (bind_ok (h1 w)).trans rfl
    · cases i with
      | zero => rw [List.getElem?_cons_zero] at e; injection e with e; subst e; rw [hg] at hs'; injection hs' with hs'; subst hs'; rfl
      | succ i => rw [List.getElem?_cons_succ] at e ⊢; exact h3 i f s' e hs'

theorem fieldParts_R {fs : Array Field} {l : List (Nat × Nat)} (hl : ∀ (i : Nat) (f : Field) (s : Nat), fs.toList[i]? = some f → sizeT P f.type = some s → l[i]? = some (f.offset, s)) {ρ : Operand → Value} :
    ∀ {ops : List (Nat × Operand)} {vs : List AV} {ps : List (Nat × Nat × Bool × Bool × AV)}, VRs ι vs (ops.map fun q => ρ q.2) → fieldParts P fs ops vs = some ps → PartsR ι (fun i => l.toArray[i]?) ps (ops.map fun q => (q.1, ρ q.2)) := by
  intro ops
  induction ops with
  | nil => intro vs ps hv h; cases hv; injection h with h; subst h; exact .nil
  | cons q ops ih =>
    intro vs ps hv h
    obtain ⟨i, o⟩ := q
    cases hv with | cons h1 h2 =>
    unfold fieldParts at h
    split at h
    · rename_i f hf
      split at h
      · rename_i s g r hs hg hr
        injection h with h; subst h
        refine .cons ?_ h1 (ih h2 hr)
        have := hl i f s (by rw [Array.getElem?_toList]; exact hf) hs
        rw [List.getElem?_toArray]; exact this
      · cases h
    · cases h

theorem elemParts_R {z : Nat} {g : Bool} {ρ : Operand → Value} : ∀ {ops : List (Nat × Operand)} {vs : List AV} {ps : List (Nat × Nat × Bool × Bool × AV)}, VRs ι vs (ops.map fun q => ρ q.2) → elemParts z g ops vs = some ps →
    PartsR ι (fun i => some (i * z, z)) ps (ops.map fun q => (q.1, ρ q.2)) := by
  intro ops
  induction ops with
  | nil => intro vs ps hv h; cases hv; injection h with h; subst h; exact .nil
  | cons q ops ih =>
    intro vs ps hv h
    obtain ⟨i, o⟩ := q
    cases hv with | cons h1 h2 =>
    unfold elemParts at h
    obtain ⟨r, hr, e⟩ := Option.map_eq_some_iff.1 h
    subst e
    exact .cons rfl h1 (ih h2 hr)
end Go.Ev
namespace Go.Ev
open Go
variable [Sym]
variable {rt : Nat → Option RT} {ι : Inj} {P : Program} {h : H} {w : World} {t : TypeId}
theorem buildStruct_good {fs : Array Field} {z : AV} {ops : List (Nat × Operand)} {vs : List AV} {ps : List (Nat × Nat × Bool × Bool × AV)} {ρ : Operand → Value} {k : AV → Ans} (hu : P.underlying t = some (.struct fs)) (hall : fs.toList.all (fun f => (sizeT P f.type).isSome) = true) (hz : zeroT P t = some z)
    (hps : fieldParts P fs ops vs = some ps) (hv : VRs ι vs (ops.map fun q => ρ q.2)) (hk : partsK ps z.cells.toL (fun l => k (.agg (AV.ofList l))) = .good) : Gives ι P (Instr.build t (ops.map fun q => (q.1, ρ q.2)).toArray) k := by
  obtain ⟨v, hv1, hv2⟩ := zeroT_good (ι := ι) hz
  obtain ⟨l, hl1, hl2, hl3⟩ := mapM_sizes (P := P) fs.toList (fun f hf => Option.isSome_iff_exists.1 (List.all_eq_true.1 hall f hf))
  obtain ⟨l', cells', g1, g2, g3, g4⟩ := parts_good (fieldParts_R hl3 hv hps) hv1.cells.toLs hk
  refine ⟨_, .agg cells', fun w => ?_, .agg g2.ofList, g4⟩
  unfold Instr.build
  refine (bind_ok (hv2 w)).trans ?_
  refine (bind_ok (run_und hu w)).trans ?_
  refine (bind_ok (v := l.toArray) (w' := w) ?_).trans ?_
  · rw [Array.mapM_eq_mapM_toList, Sem.run_map, hl1]; rfl
  · rw [g1]; rfl
end Go.Ev
namespace Go.Ev
open Go
variable [Sym]
variable {rt : Nat → Option RT} {ι : Inj} {P : Program} {h : H} {w : World} {t : TypeId}
theorem buildArray_good {n e s : Nat} {g : Bool} {z : AV} {ops : List (Nat × Operand)} {vs : List AV} {ps : List (Nat × Nat × Bool × Bool × AV)} {ρ : Operand → Value} {k : AV → Ans} (hu : P.underlying t = some (.array n e)) (hs : sizeT P e = some s) (hz : zeroT P t = some z)
    (hps : elemParts s g ops vs = some ps) (hv : VRs ι vs (ops.map fun q => ρ q.2)) (hk : partsK ps z.cells.toL (fun l => k (.agg (AV.ofList l))) = .good) : Gives ι P (Instr.build t (ops.map fun q => (q.1, ρ q.2)).toArray) k := by
  obtain ⟨v, hv1, hv2⟩ := zeroT_good (ι := ι) hz
  obtain ⟨l', cells', g1, g2, g3, g4⟩ := parts_good (elemParts_R hv hps) hv1.cells.toLs hk
  refine ⟨_, .agg cells', fun w => ?_, .agg g2.ofList, g4⟩
  unfold Instr.build
  refine (bind_ok (hv2 w)).trans ?_
  refine (bind_ok (run_und hu w)).trans ?_
  refine (bind_ok (run_sizeOf hs w)).trans ?_
  rw [g1]; rfl

theorem replL_copies {z : AV} {v : List Value} (h : VRL ι z v) (n : Nat) : VRs ι (replL n z.toL) (copies v n) := by
  induction n with
  | zero => exact .nil
  | succ n ih => exact h.toLs.append ih

theorem VRs.get {l : List AV} {r : List Value} (h : VRs ι l r) : ∀ (d : Nat) (v : Value), r[d]? = some v → ∃ a, l[d]? = some a ∧ VR ι a v := by
  induction h with
  | nil => intro d v e; simp at e
  | cons h1 _ ih =>
    intro d v e
    cases d with
    | zero => rw [List.getElem?_cons_zero] at e; injection e with e; subst e; exact ⟨_, rfl, h1⟩
    | succ d => rw [List.getElem?_cons_succ] at e ⊢; exact ih d v e
theorem buildSlice_good {e s len : Nat} {g : Bool} {z : AV} {ops : List (Nat × Operand)} {vs : List AV} {ps : List (Nat × Nat × Bool × Bool × AV)} {ρ : Operand → Value} {k : AV → H → Ans} (hu : P.underlying t = some (.slice e)) (hs : sizeT P e = some s) (hz : zeroT P e = some z) (hzl : z.cells.toL.length = s)
    (hlen : len ≤ maxI) (hle : len * s ≤ 16777216) (hps : elemParts s g ops vs = some ps) (hv : VRs ι vs (ops.map fun q => ρ q.2)) (m : MR rt ι h w) (hk : partsK ps (replL len z.cells.toL) (fun l => sliceRow e len s l h k) = .good) : DoesV rt ι P h w (Instr.buildSlice t len (ops.map fun q => (q.1, ρ q.2)).toArray) k := by
  obtain ⟨v, hv1, hv2⟩ := zeroT_good (ι := ι) hz
  have hvz : v.cells.size = s := by have := hv1.cells.toLs.len; rw [hzl] at this; simpa using this.symm
  obtain ⟨l', cells', g1, g2, g3, hk⟩ := parts_good (cells := (copies v.cells.toList len).toArray) (elemParts_R hv hps) (replL_copies hv1.cells len) hk
  have hsz : cells'.size = len * s := by rw [g3]; simp [copies_len, hvz]
  have fin : (∃ p w' ι' h', (newRow e cells').run P w = .ok ⟨w.heap.size, 0, none⟩ w' ∧ Post rt ι h w ι' h' w' ∧ ι' p = some (w.heap.size, len * s) ∧ k (.sl p 0 len len) h' = .good) → DoesV rt ι P h w (Instr.buildSlice t len (ops.map fun q => (q.1, ρ q.2)).toArray) k := fun ⟨p, w', ι', h', e1, e2, e3, e4⟩ => by
    refine ⟨.slice (some ⟨w.heap.size, 0, none⟩) len len, w', ι', h', ?_, e2, _, .sl 0 len len e3 (Nat.le_refl _) hlen, e4⟩
    unfold Instr.buildSlice
    refine (bind_ok (run_und hu w)).trans ?_
    refine (bind_ok (run_sizeOf hs w)).trans ?_
    rw [if_neg (by omega)]
    have hc : ∀ zz : Array Value, (len * s ≠ 0 → zz = v.cells) → (Array.range (len * s)).map (fun i => zz[i % zz.size]!) = (copies v.cells.toList len).toArray := fun zz hzz => by
      by_cases h0 : len * s = 0
      · rw [h0, show copies v.cells.toList len = [] from List.eq_nil_of_length_eq_zero (by rw [copies_len, Array.length_toList, hvz]; exact h0), show Array.range 0 = (#[] : Array Nat) from rfl, Array.map_empty]
      · rw [hzz h0, ← hvz]; exact map_copies v.cells len
    by_cases h0 : len * s = 0
    · rw [if_pos h0]
      refine (bind_ok (v := #[]) (w' := w) rfl).trans ?_
      dsimp only
      rw [hc #[] (fun h => absurd h0 h), g1]
      exact (bind_ok e1).trans rfl
    · rw [if_neg h0]
      refine (bind_ok (hv2 w)).trans ?_
      refine (bind_ok (v := v.cells) (w' := w) rfl).trans ?_
      dsimp only
      rw [hc v.cells (fun _ => rfl), g1]
      exact (bind_ok e1).trans rfl
  unfold sliceRow at hk
  split at hk
  · rename_i r hr
    refine fin (newCells_good (P := P) (xs := cells'.toList) m (fun d y ey => ?_) (by rw [Array.length_toList, hsz]) (by simp) hk)
    obtain ⟨c, e1, e2⟩ := g2.get d y ey
    obtain ⟨e3, e4⟩ := rowC_get hr d c e1
    exact ⟨e3, trivial, by rw [e4]; exact e2⟩
  · have hk : layK (AV.ofList l') 0 RowE (fun r => HnewK h (AO.cells e false 0 (Nat.mul len s) true r) fun p h => k (.sl p 0 len len) h) = .good := hk
    obtain ⟨r, h1, hk⟩ := layK_good _ hk
    exact fin (newRow_good m h1 g2.ofList (by rw [Array.length_toList, hsz]) (by simp) hk)
end Go.Ev

namespace Go.Ev
open Go
set_option linter.unusedSectionVars false
variable [Sym]
set_option linter.unusedVariables false
set_option linter.unusedSimpArgs false
inductive SortOf (P : Program) (t : TypeId) : Nat → Prop where
  | bool (h : P.underlying t = some .bool) : SortOf P t 0
  | int {k : IntKind} (h : P.underlying t = some (.int k)) : SortOf P t 1
  | str (h : P.underlying t = some .string) : SortOf P t 2
  | ptr {e : TypeId} {n : Nat} (h : P.underlying t = some (.pointer e)) (hs : sizeT P e = some (n + 1)) : SortOf P t 3
  | sl {e : TypeId} (h : P.underlying t = some (.slice e)) : SortOf P t 4
  | map {e f : TypeId} (h : P.underlying t = some (.map e f)) : SortOf P t 5
  | fn {p q : Array TypeId} {c : Bool} (h : P.underlying t = some (.func p q c)) : SortOf P t 6
  | ifc {m : Array (String × TypeId)} (h : P.underlying t = some (.interface m)) : SortOf P t 7
def Und (P : Program) (t : TypeId) : Nat → Prop
  | 0 => P.underlying t = some .bool
  | 1 => ∃ k, P.underlying t = some (.int k)
  | 2 => P.underlying t = some .string
  | 3 => ∃ e, P.underlying t = some (.pointer e)
  | 4 => ∃ e, P.underlying t = some (.slice e)
  | 5 => ∃ p : TypeId × TypeId, P.underlying t = some (.map p.1 p.2)
  | 6 => ∃ p : Array TypeId × Array TypeId × Bool, P.underlying t = some (.func p.1 p.2.1 p.2.2)
  | 7 => ∃ m, P.underlying t = some (.interface m)
  | _ => False
theorem SortOf.und {P : Program} {t : TypeId} {s : Nat} (h : SortOf P t s) : Und P t s := by
  cases h with
  | bool h => exact h
  | int h => exact ⟨_, h⟩
  | str h => exact h
  | ptr h _ => exact ⟨_, h⟩
  | sl h => exact ⟨_, h⟩
  | map h => exact ⟨(_, _), h⟩
  | fn h => exact ⟨(_, _, _), h⟩
  | ifc h => exact ⟨_, h⟩

variable {ι : Inj} {P : Program} {t : TypeId} {a b : AV} {x y : Value}

theorem P4.beq_true {p q : P4} (h : p.beq q = true) : p = q := P4.val_inj (Ev.beq_true h)

def EqOk (P : Program) (t : TypeId) (x y : Value) (k : Bool → Ans) : Prop :=
  ∃ r, (∀ d w, (Op.equalIn (d + 1) t x y).run P w = .ok r w) ∧ (r = true → x = y) ∧ k r = .good

theorem bK_beq {n m : Nat} {k : Bool → Ans} (h : bK (Nat.beq n m) (k true) (k false) = .good) : k (decide (n = m)) = .good := by
  rcases bK_good h with ⟨e, h⟩ | ⟨e, h⟩
  · rw [decide_eq_true (beq_true e)]; exact h
  · rw [decide_eq_false (beq_false e)]; exact h

theorem eqInt {k : IntKind} (hu : P.underlying t = some (.int k)) {j : IntKind} {m n : Int} {c : Bool} {f : Bool → Ans} (hc : c = decide (m = n)) (h : f c = .good) : EqOk P t (.int j m) (.int j n) f := by
  refine ⟨m == n, fun d w => ?_, fun e => by rw [eq_of_beq e], ?_⟩
  · simp only [Op.equalIn, Sem.run_bind, run_und hu, Result.andThen_ok, if_true, Sem.run_pure]
  · rw [hc] at h; exact h

theorem ba_beq (u v : ByteArray) : (u == v) = (u.data.toList == v.data.toList) := by
  cases u with | mk u =>
  cases v with | mk v =>
  show (u == v) = _
  rw [Bool.eq_iff_iff, beq_iff_eq, beq_iff_eq, Array.toList_inj]

theorem eq1_good {s : Nat} {k : Bool → Ans} (hs : SortOf P t s) (ha : VR ι a x) (hb : VR ι b y) (h : eq1 s a b k = .good) : EqOk P t x y k := by
  unfold eq1 at h
  split at h
  · have e := beq_true (wK_good h).1
    replace h := (wK_good h).2
    subst e
    cases ha; cases hb
    cases hs with | bool hu =>
    rename_i p q
    refine ⟨p == q, fun d w => equalIn_bool hu d p q w, fun e => by rw [eq_of_beq e], ?_⟩
    cases p <;> cases q <;> exact h
  · have e := beq_true (wK_good h).1
    replace h := (wK_good h).2
    subst e
    cases ha; cases hb
    cases hs with | int hu =>
    exact eqInt hu (by simp only [Int.ofNat_inj]) (bK_beq h)
  · have e := beq_true (wK_good h).1
    replace h := (wK_good h).2
    have e' := beq_true (wK_good h).1
    replace h := (wK_good h).2
    subst e; subst e'
    cases ha; cases hb
    cases hs with | int hu =>
    exact eqInt hu (by simp only [Int.ofNat_inj]) (bK_beq h)
  · have e := beq_true (wK_good h).1
    replace h := (wK_good h).2
    have e' := beq_true (wK_good h).1
    replace h := (wK_good h).2
    subst e; subst e'
    cases ha; cases hb
    cases hs with | int hu =>
    exact eqInt hu (by simp only [Int.negSucc_inj]) (bK_beq h)
  · have e := beq_true (wK_good h).1
    replace h := (wK_good h).2
    have e' := beq_true (wK_good h).1
    replace h := (wK_good h).2
    subst e; subst e'
    cases ha; cases hb
    cases hs with | int hu =>
    exact eqInt (j := .i64) hu (by simp [eq_comm]) h
  · have e := beq_true (wK_good h).1
    replace h := (wK_good h).2
    have e' := beq_true (wK_good h).1
    replace h := (wK_good h).2
    subst e; subst e'
    cases ha; cases hb
    cases hs with | int hu =>
    exact eqInt (j := .i64) hu (by simp [eq_comm]) h
  · have e := beq_true (wK_good h).1
    replace h := (wK_good h).2
    have e' := beq_true (wK_good h).1
    replace h := (wK_good h).2
    subst e; subst e'
    cases ha; cases hb
    cases hs with | int hu =>
    exact eqInt hu (by simp [eq_comm]) h
  · have e := beq_true (wK_good h).1
    replace h := (wK_good h).2
    have e' := beq_true (wK_good h).1
    replace h := (wK_good h).2
    subst e; subst e'
    cases ha; cases hb
    cases hs with | int hu =>
    exact eqInt hu (by simp [eq_comm]) h
  · have e := beq_true (wK_good h).1
    replace h := (wK_good h).2
    subst e
    obtain ⟨u, rfl, e1, e2, _⟩ := str_of ha
    obtain ⟨v, rfl, e3, e4, _⟩ := str_of hb
    cases hs with | str hu =>
    have hq : ∀ c : Bool, (u.data.toList == v.data.toList) = c → k c = .good → EqOk P t (.string u) (.string v) k := fun c hc hk => by
      refine ⟨c, fun d w => by simp only [Op.equalIn, Sem.run_bind, run_und hu, Result.andThen_ok, Sem.run_pure, ba_beq, hc], fun e => ?_, hk⟩
      subst e
      rw [beq_iff_eq] at hc
      have hc := Array.toList_inj.1 hc
      cases u; cases v
      cases hc
      rfl
    rcases bK_good h with ⟨e, h⟩ | ⟨e, h⟩
    · rcases bK_good h with ⟨e', h⟩ | ⟨e', h⟩
      · exact hq true (beq_iff_eq.2 (pack_inj (by rw [← e1, ← e3, Ev.beq_true e]) (by rw [← e2, ← e4, Ev.beq_true e']))) h
      · exact hq false (beq_eq_false_iff_ne.2 fun he => Ev.beq_false e' (by rw [e2, e4, he])) h
    · exact hq false (beq_eq_false_iff_ne.2 fun he => Ev.beq_false e (by rw [e1, e3, he])) h
  · have e := beq_true (wK_good h).1
    replace h := (wK_good h).2
    have e' := P4.beq_true (wK_good h).1
    replace h := (wK_good h).2
    subst e; subst e'
    cases ha with | ptr o h1 =>
    cases hb with | ptr o' h2 =>
    rw [h1] at h2
    cases h2
    cases hs with | ptr hu hsz =>
    rename_i p o o' bl zz el nn
    refine ⟨(⟨bl, o, none⟩ : Addr) == ⟨bl, o', none⟩, fun d w => ?_, fun e => by rw [eq_of_beq e], ?_⟩
    · simp only [Op.equalIn, Sem.run_bind, run_und hu, Result.andThen_ok, run_sizeOf hsz]
      rw [if_pos (by simp)]
      simp only [sameAddr, beq_self_eq_true, if_true, Sem.run_pure]
    · have := bK_beq h
      have e2 : ((⟨bl, o, none⟩ : Addr) == ⟨bl, o', none⟩) = decide (o = o') := by
        by_cases ho : o = o'
        · subst ho; simp
        · rw [decide_eq_false ho, beq_eq_false_iff_ne]
          intro he; cases he; exact ho rfl
      rw [e2]; exact this
  all_goals first
    | (exfalso; cases h; done)
    | (have e := beq_true (wK_good h).1
       replace h := (wK_good h).2
       subst e
       have hu := hs.und
       cases ha <;> cases hb <;> clear hs <;> obtain ⟨_, hu⟩ := hu <;>
       exact ⟨_, fun d w => by simp only [Op.equalIn, Sem.run_bind, run_und hu, Result.andThen_ok, Sem.run_pure, Option.isNone], (fun e => by first | rfl | cases e), h⟩)
end Go.Ev

namespace Go.Ev
open Go
set_option linter.unusedSectionVars false
variable [Sym]
set_option linter.unusedVariables false
set_option linter.unusedSimpArgs false

inductive KSort (P : Program) (t : TypeId) : AV → Prop where
  | one {s : Nat} (h : SortOf P t s) : KSort P t (.num s)
  | st {fs : Array Field} {ss : AV} (hu : P.underlying t = some (.struct fs)) (h1 : P.stoodInHeld t = false) (h2 : P.eqGuardType P.depth t = false) (h : sortsF P fs.toList 0 = some ss) : KSort P t (.agg ss)

variable {ι : Inj} {P : Program} {t : TypeId} {a b ks : AV} {x y : Value}

theorem scalar_good {s : Nat} (h : scalar P t = some s) : SortOf P t s ∧ aggT P t = some false := by
  unfold scalar at h
  split at h
  · cases h; rename_i hu; exact ⟨.bool hu, by simp only [aggT, hu]⟩
  · cases h; rename_i hu; exact ⟨.int hu, by simp only [aggT, hu]⟩
  · cases h; rename_i hu; exact ⟨.str hu, by simp only [aggT, hu]⟩
  · cases h

theorem eqSort_good (h : eqSort P t = some ks) : KSort P t ks := by
  unfold eqSort at h
  split at h
  · cases h; rename_i hu; exact .one (.bool hu)
  · cases h; rename_i hu; exact .one (.int hu)
  · cases h; rename_i hu; exact .one (.str hu)
  · rename_i hu
    split at h
    · cases h; rename_i hs; exact .one (.ptr hu hs)
    · cases h
  · cases h; rename_i hu; exact .one (.sl hu)
  · cases h; rename_i hu; exact .one (.map hu)
  · cases h; rename_i hu; exact .one (.fn hu)
  · cases h; rename_i hu; exact .one (.ifc hu)
  · rename_i fs hu
    split at h
    · cases h
    · rename_i hc
      rw [Bool.or_eq_false_iff] at hc
      rw [Option.map_eq_some_iff] at h
      obtain ⟨ss, h1, rfl⟩ := h
      exact .st hu hc.1 hc.2 h1
  · cases h
theorem keySort_good (h : keySort P t = some ks) : KSort P t ks := by
  unfold keySort at h
  split at h
  all_goals first | exact eqSort_good h | cases h

theorem run_part {o : Nat} {cs : Array Value} {v : Value} (hg : aggT P t = some false) (hv : cs[o]? = some v) (w : World) : (part t cs o).run P w = .ok v w := by
  simp only [part, Sem.run_bind, run_isAgg hg, Result.andThen_ok, hv, Bool.false_eq_true, if_false, Sem.run_pure]

theorem sortsF_cons {f : Field} {fs : List Field} {i : Nat} {ss : AV} (h : sortsF P (f :: fs) i = some ss) :
    f.name ≠ "_" ∧ i = f.offset ∧ ∃ s l, scalar P f.type = some s ∧ sortsF P fs (i + 1) = some l ∧ ss = .cons (.num s) l := by
  unfold sortsF at h
  split at h
  · cases h
  · rename_i hc
    rw [Bool.or_eq_false_iff] at hc
    split at h
    · cases h
      rename_i s l h1 h2
      refine ⟨of_decide_eq_false hc.1, beq_true (by simpa using hc.2), s, l, h1, h2, rfl⟩
    · cases h

theorem drop_cons {α : Type} {l : List α} {i : Nat} {x : α} {r : List α} (h : l.drop i = x :: r) : l[i]? = some x ∧ l.drop (i + 1) = r := by
  constructor
  · have := congrArg (·[0]?) h
    simpa using this
  · have := congrArg (List.drop 1) h
    simpa [Nat.add_comm] using this
def SBits (x : Value) : Prop := ∀ n, Instr.sameBits (n + 2) x x = true
theorem ba_self (s : ByteArray) : (s == s) = true := by rw [ba_beq]; simp
theorem eq1_bits {s : Nat} {k : Bool → Ans} (hs : s ≤ 3) (ha : VR ι a x) (h : eq1 s a b k = .good) (n : Nat) : Instr.sameBits n x x = true := by
  cases ha
  case bool => cases n <;> simp [Instr.sameBits]
  case num => cases n <;> simp [Instr.sameBits]
  case int => cases n <;> simp [Instr.sameBits]
  case neg => cases n <;> simp [Instr.sameBits]
  case str => cases n <;> simp [Instr.sameBits, ba_self]
  case ptr => cases n <;> simp [Instr.sameBits]
  case pnil => cases n <;> simp [Instr.sameBits]
  all_goals (exfalso; unfold eq1 at h; split at h <;> first | contradiction | (cases ‹AV.nl _ = AV.nl _›; done) | (cases h; done) | (have e := Ev.beq_true (wK_good h).1; subst e; exact absurd hs (by decide)))

theorem scalar_le {s : Nat} (h1 : scalar P t = some s) : s ≤ 2 := by
  unfold scalar at h1
  split at h1 <;> cases h1 <;> simp

theorem eqL_good {d : Nat} {xs ys : Array Value} : ∀ {fs : List Field} {i : Nat} {ss a b : AV} {k : Bool → Ans}, sortsF P fs i = some ss → VRL ι a (xs.toList.drop i) → VRL ι b (ys.toList.drop i) → eqL ss a b k = .good →
    ∃ r, (∀ w, (Op.eqFields (d + 1) xs ys fs).run P w = .ok r w) ∧ (r = true → xs.toList.drop i = ys.toList.drop i ∧ ∀ v ∈ xs.toList.drop i, ∀ n, Instr.sameBits n v v = true) ∧ k r = .good
  | [], i, ss, a, b, k, hs, ha, hb, h => by
    cases hs
    generalize xs.toList.drop i = l at ha ⊢
    generalize ys.toList.drop i = l' at hb ⊢
    cases ha <;> cases hb <;> first | (exfalso; cases h; done) | exact ⟨true, fun w => rfl, fun _ => ⟨rfl, by simp⟩, h⟩
  | f :: fs, i, ss, a, b, k, hs, ha, hb, h => by
    obtain ⟨hn, ho, s, l, h1, h2, rfl⟩ := sortsF_cons hs
    obtain ⟨hs, hg⟩ := scalar_good h1
    generalize hl : xs.toList.drop i = lx at ha
    generalize hl' : ys.toList.drop i = ly at hb
    cases ha with
    | nil => exfalso; cases h
    | cons ha ha' =>
      cases hb with
      | nil => exfalso; cases h
      | cons hb hb' =>
        obtain ⟨e1, e2⟩ := drop_cons hl
        obtain ⟨e3, e4⟩ := drop_cons hl'
        rename_i a1 b1 x1 r1 a2 b2 x2 r2
        have h : eq1 s a1 a2 (fun t => bK t (eqL l b1 b2 k) (k false)) = .good := h
        have hb0 := h
        obtain ⟨r, g1, g2, h⟩ := eq1_good hs ha hb h
        have base : ∀ w, (Op.eqFields (d + 1) xs ys (f :: fs)).run P w = if (!r) = true then Result.ok false w else (Op.eqFields (d + 1) xs ys fs).run P w := fun w => by
          simp only [Op.eqFields, if_pos hn, Sem.run_bind, ← ho, run_part hg (show xs[i]? = some x1 by simpa using e1), run_part hg (show ys[i]? = some x2 by simpa using e3), g1, Result.andThen_ok, Sem.run_ite, Sem.run_pure]
        rcases bK_good h with ⟨e, h⟩ | ⟨e, h⟩
        · subst e
          obtain ⟨r', q1, q2, h⟩ := eqL_good (d := d) h2 (by rw [e2]; exact ha') (by rw [e4]; exact hb') h
          refine ⟨r', fun w => by rw [base]; exact q1 w, fun e => ?_, h⟩
          obtain ⟨q2, q3⟩ := q2 e
          rw [e2, e4] at q2
          rw [e2] at q3
          refine ⟨by rw [q2, g2 rfl], fun v hv => ?_⟩
          rcases List.mem_cons.1 hv with rfl | hv
          · exact eq1_bits (Nat.le_trans (scalar_le h1) (by decide)) ha hb0
          · exact q3 v hv
        · subst e
          exact ⟨false, fun w => by rw [base]; rfl, fun e => (by cases e), h⟩

def Eq2 (P : Program) (t : TypeId) (x y : Value) (k : Bool → Ans) : Prop :=
  ∃ r, (∀ w, (Op.equal t x y).run P w = .ok r w) ∧ (r = true → x = y) ∧ k r = .good

theorem eqVB_good' {k : Bool → Ans} (hs : KSort P t ks) (ha : VR ι a x) (hb : VR ι b y) (h : eqVB ks a b k = .good) :
    ∃ r, (∀ w, (Op.equal t x y).run P w = .ok r w) ∧ (r = true → x = y ∧ ((∀ s, ks = .num s → s ≤ 3) → SBits x)) ∧ k r = .good := by
  cases hs with
  | one hs =>
    rename_i s
    have h : eq1 s a b k = .good := h
    obtain ⟨r, h1, h2, h3⟩ := eq1_good hs ha hb h
    exact ⟨r, fun w => h1 9999 w, fun e => ⟨h2 e, fun hk n => eq1_bits (hk s rfl) ha h _⟩, h3⟩
  | st hu h1 h2 hs =>
    rename_i fs ss
    have h : asAgg a (fun x => asAgg b fun y => eqL ss x y k) = .good := h
    obtain ⟨as, rfl, h3⟩ := asAgg_good h
    obtain ⟨bs, rfl, h⟩ := asAgg_good h3
    cases ha with | agg ha =>
    cases hb with | agg hb =>
    rename_i xs ys
    obtain ⟨r, g1, g2, h⟩ := eqL_good (d := 9998) (xs := xs) (ys := ys) hs (by simpa using ha) (by simpa using hb) h
    refine ⟨r, fun w => ?_, fun e => ?_, h⟩
    · have hf : P.fieldsOf t = fs := by simp only [Program.fieldsOf, hu]
      show (Op.equalIn (9999 + 1) t (.agg xs) (.agg ys)).run P w = _
      rw [run_equalIn_struct w 9999 t xs ys (by rw [hf]; exact hu) h1, hf]
      exact g1 w
    · obtain ⟨g2, g3⟩ := g2 e
      simp only [List.drop_zero, Array.toList_inj] at g2 g3
      refine ⟨by rw [g2], fun _ n => ?_⟩
      simp only [Instr.sameBits, beq_self_eq_true, Bool.true_and, List.all_eq_true]
      intro p hp
      have : p.1 = p.2 ∧ p.1 ∈ xs.toList := by
        have aux : ∀ l : List Value, p ∈ l.zip l → p.1 = p.2 ∧ p.1 ∈ l := fun l => by
          induction l with
          | nil => simp
          | cons z l ih =>
            rw [List.zip_cons_cons, List.mem_cons]
            rintro (rfl | h)
            · simp
            · obtain ⟨i1, i2⟩ := ih h
              exact ⟨i1, .tail _ i2⟩
        exact aux _ hp
      rw [← this.1]
      exact g3 _ this.2 _
theorem eqVB_good {k : Bool → Ans} (hs : KSort P t ks) (ha : VR ι a x) (hb : VR ι b y) (h : eqVB ks a b k = .good) : Eq2 P t x y k :=
  let ⟨r, h1, h2, h3⟩ := eqVB_good' hs ha hb h
  ⟨r, h1, fun e => (h2 e).1, h3⟩
theorem keySort_le (h : keySort P t = some ks) (s : Nat) (e : ks = .num s) : s ≤ 3 := by
  subst e
  unfold keySort eqSort at h
  split at h <;> rename_i hu <;> (try simp only [hu] at h) <;> first
    | (cases h; done) | (cases h; decide)
    | (split at h <;> first | (cases h; decide) | (cases h; done) | (rw [Option.map_eq_some_iff] at h; obtain ⟨_, _, e⟩ := h; cases e))
theorem eqVB_key {k : Bool → Ans} (hk : keySort P t = some ks) (ha : VR ι a x) (hb : VR ι b y) (h : eqVB ks a b k = .good) :
    ∃ r, (∀ w, (Op.equal t x y).run P w = .ok r w) ∧ (r = true → x = y ∧ SBits x) ∧ k r = .good :=
  let ⟨r, h1, h2, h3⟩ := eqVB_good' (keySort_good hk) ha hb h
  ⟨r, h1, fun e => ⟨(h2 e).1, (h2 e).2 (keySort_le hk)⟩, h3⟩

theorem lenL_good : ∀ {ss cs : AV} {k : Ans}, lenL ss cs k = .good → ∀ {l : List Value}, VRL ι cs l → ∀ {fs : List Field} {i : Nat}, sortsF P fs i = some ss → l.length = fs.length ∧ k = .good := by
  intro ss
  induction ss with
  | nil =>
    intro cs k h l hv fs i hs
    cases cs <;> first | (exfalso; cases h; done) | skip
    cases hv
    cases fs with
    | nil => exact ⟨rfl, h⟩
    | cons f fs => obtain ⟨_, _, s, l, _, _, e⟩ := sortsF_cons hs; cases e
  | cons a b _ ih =>
    intro cs k h l hv fs i hs
    cases cs <;> first | (exfalso; cases h; done) | skip
    cases hv with | cons hv hv' =>
    cases fs with
    | nil => cases hs
    | cons f fs =>
      obtain ⟨_, _, s, l, _, h2, e⟩ := sortsF_cons hs
      cases e
      obtain ⟨g1, g2⟩ := ih h hv' h2
      exact ⟨by simp [g1], g2⟩
  | _ => intro cs k h; exfalso; cases h

theorem run_checkScalar {em : Bool} {d s : Nat} (h : SortOf P t s) (hs : s ≤ 2 ∨ s = 3) (v : Value) (w : World) : (Instr.checkKey em (d + 1) t v).run P w = .ok () w := by
  have hu := h.und
  unfold Instr.checkKey
  rcases h with h | h | h | h | h | h | h | h
  all_goals first | omega | (simp only [Sem.run_bind, run_und h, Result.andThen_ok]; cases v <;> rfl)

theorem run_checkFields {em : Bool} {d : Nat} {cs : Array Value} : ∀ {fs : List Field} {i : Nat} {ss : AV} (u : PUnit), sortsF P fs i = some ss → cs.size = i + fs.length →
    ∀ w, (forIn fs u fun f _ =>
        if f.name ≠ "_" then do
          let v ← part f.type cs f.offset
          Instr.checkKey em (d + 1) f.type v
          pure (ForInStep.yield PUnit.unit)
        else pure (ForInStep.yield PUnit.unit) : Sem PUnit).run P w = .ok u w
  | [], i, ss, u, hs, hl, w => rfl
  | f :: fs, i, ss, u, hs, hl, w => by
    obtain ⟨hn, ho, s, l, h1, h2, rfl⟩ := sortsF_cons hs
    obtain ⟨hs, hg⟩ := scalar_good h1
    have hlt : i < cs.size := by rw [hl]; simp
    have hs2 : s ≤ 2 ∨ s = 3 := by
      unfold scalar at h1
      split at h1 <;> cases h1 <;> simp
    rw [List.forIn_cons]
    simp only [Sem.run_bind, if_pos hn, ← ho, run_part hg (Array.getElem?_eq_getElem hlt), Result.andThen_ok, run_checkScalar hs hs2, Sem.run_pure]
    exact run_checkFields _ h2 (by rw [hl]; simp; omega) w

theorem keyK_good {k : Ans} (hk : keySort P t = some ks) (ha : VR ι a x) (h : keyK ks a k = .good) : (∀ em w, (Instr.checkKey em 10000 t x).run P w = .ok () w) ∧ k = .good := by
  have hs := keySort_good hk
  cases hs with
  | one hs =>
    rename_i s
    refine ⟨fun em w => run_checkScalar hs ?_ x w, h⟩
    unfold keySort eqSort at hk
    rcases hs with hs | hs | hs | hs | hs | hs | hs | hs
    all_goals first | (left; omega) | (right; rfl) | (rw [hs] at hk; cases hk)
  | st hu h1 h2 hs =>
    rename_i fs ss
    have h : asAgg a (fun cs => lenL ss cs k) = .good := h
    obtain ⟨as, rfl, h⟩ := asAgg_good h
    cases ha with | agg ha =>
    rename_i xs
    obtain ⟨g1, g2⟩ := lenL_good (P := P) h ha hs
    refine ⟨fun em w => ?_, g2⟩
    show (Instr.checkKey em (9998 + 1 + 1) t (.agg xs)).run P w = _
    rw [Instr.checkKey]
    simp only [Sem.run_bind, run_und hu, Result.andThen_ok]
    rw [← Array.forIn_toList]
    have := run_checkFields (em := em) (d := 9998) (cs := xs) PUnit.unit hs (by rw [← g1]; simp) w
    rw [this]
    rfl
end Go.Ev

namespace Go.Ev
open Go
set_option linter.unusedSectionVars false
variable [Sym]
set_option linter.unusedVariables false
set_option linter.unusedSimpArgs false
variable {ι : Inj} {P : Program} {t kt : TypeId} {a b ks : AV} {x y kx : Value}
inductive Fnd (P : Program) (kt : TypeId) (kx : Value) : List MapEntry → Nat → Option (Nat × Value) → Prop where
  | nil (i : Nat) : Fnd P kt kx [] i none
  | hit {e : MapEntry} {es : List MapEntry} (i : Nat) (h : ∀ w, (Op.equal kt kx e.key).run P w = .ok true w) : Fnd P kt kx (e :: es) i (some (i, e.val))
  | miss {e : MapEntry} {es : List MapEntry} {i : Nat} {r : Option (Nat × Value)} (h : ∀ w, (Op.equal kt kx e.key).run P w = .ok false w) (h' : Fnd P kt kx es (i + 1) r) : Fnd P kt kx (e :: es) i r

theorem Fnd.asking {l : List MapEntry} {i : Nat} {r : Option (Nat × Value)} (h : Fnd P kt kx l i r) (w : World) : (Instr.findAsking kt kx l i).run P w = .ok r w := by
  induction h with
  | nil i => rfl
  | hit i h => simp only [Instr.findAsking, Sem.run_bind, h, Result.andThen_ok, if_true, Sem.run_pure]
  | miss h _ ih => simp only [Instr.findAsking, Sem.run_bind, h, Result.andThen_ok, Bool.false_eq_true, if_false, ih]

theorem sameNow_equalIn {d : TypeDesc} {c : Bool} {u v : Value} (hd : P.underlying kt = some d) (h : Instr.sameNow d u v = some c) (n : Nat) (w : World) : (Op.equalIn (n + 1) kt u v).run P w = .ok c w := by
  unfold Instr.sameNow at h
  split at h
  · split at h
    · cases h
      rename_i hk
      subst hk
      simp only [Op.equalIn, Sem.run_bind, run_und hd, Result.andThen_ok, if_true, Sem.run_pure]
    · cases h
  · cases h
    simp only [Op.equalIn, Sem.run_bind, run_und hd, Result.andThen_ok, if_true, Sem.run_pure]
  · cases h
    simp only [Op.equalIn, Sem.run_bind, run_und hd, Result.andThen_ok, if_true, Sem.run_pure]
  · cases h

theorem sameNow_equal {d : TypeDesc} {c : Bool} {u v : Value} (hd : P.underlying kt = some d) (h : Instr.sameNow d u v = some c) (w : World) : (Op.equal kt u v).run P w = .ok c w :=
  sameNow_equalIn hd h 9999 w

theorem Fnd.now {d : TypeDesc} (hd : P.underlying kt = some d) {l : List MapEntry} {i : Nat} {r : Option (Nat × Value)} (h : Fnd P kt kx l i r) : ∀ {r' : Option (Nat × Value)}, Instr.findNow d kx l i = some r' → r' = r := by
  induction h with
  | nil i => intro r' h; cases h; rfl
  | hit i h =>
    intro r' hr
    unfold Instr.findNow at hr
    split at hr
    · cases hr; rfl
    · rename_i hs
      have := sameNow_equal hd hs default
      rw [h] at this
      cases this
    · cases hr
  | miss h _ ih =>
    intro r' hr
    unfold Instr.findNow at hr
    split at hr
    · rename_i hs
      have := sameNow_equal hd hs default
      rw [h] at this
      cases this
    · exact ih hr
    · cases hr

theorem Fnd.key {d : TypeDesc} (hd : P.underlying kt = some d) {l : List MapEntry} {r : Option (Nat × Value)} (h : Fnd P kt kx l 0 r) (w : World) : (Instr.findKey kt kx l).run P w = .ok r w := by
  unfold Instr.findKey
  refine (bind_ok (run_und hd w)).trans ?_
  split
  · rename_i r' hr
    rw [h.now hd hr]; rfl
  · exact h.asking w

theorem KSort.und (h : KSort P t ks) : ∃ d, P.underlying t = some d := by
  cases h with
  | one h => cases h <;> exact ⟨_, by assumption⟩
  | st hu => exact ⟨_, hu⟩

theorem findK_good (hs : KSort P kt ks) (hx : VR ι a kx) {es : ML} {l : List MapEntry} (he : MR1 ι es l) : ∀ {i : Nat} {yes : AV → Ans} {no : Ans}, findK ks a es yes no = .good →
    (∃ j e v, Fnd P kt kx l i (some (j, e)) ∧ VR ι v e ∧ yes v = .good) ∨ (Fnd P kt kx l i none ∧ no = .good) := by
  induction he with
  | nil => intro i yes no h; exact .inr ⟨.nil i, h⟩
  | cons hk hv h' ih =>
    intro i yes no h
    rename_i k v r e es
    have h : eqVB ks a k (fun t => bK t (yes v) (findK ks a r yes no)) = .good := h
    obtain ⟨c, g1, g2, h⟩ := eqVB_good hs hx hk h
    rcases bK_good h with ⟨e1, h⟩ | ⟨e1, h⟩
    · subst e1
      exact .inl ⟨i, e.val, v, .hit i g1, hv, h⟩
    · subst e1
      rcases ih (i := i + 1) h with ⟨j, e', v', q1, q2, q3⟩ | ⟨q1, q2⟩
      · exact .inl ⟨j, e', v', .miss g1 q1, q2, q3⟩
      · exact .inr ⟨.miss g1 q1, q2⟩

end Go.Ev

namespace Go.Ev
open Go
set_option linter.unusedSectionVars false
variable [Sym]
set_option linter.unusedVariables false
set_option linter.unusedSimpArgs false
variable {rt : Nat → Option RT} {ι : Inj} {P : Program} {h : H} {w : World} {t kt et : TypeId} {a b ks m key z v : AV} {x y kx : Value}

def pairV (a b : Nat) : Value := .agg #[.int .i64 a, .int .i64 b]
noncomputable def pairS : AV := .agg (.cons (.num 1) (.cons (.num 1) .nil))

theorem equal_pairs (hs : KSort P kt pairS) {a b a' b' : Nat} (h1 : a ≤ maxI) (h2 : b ≤ maxI) (h3 : a' ≤ maxI) (h4 : b' ≤ maxI) (w : World) :
    (Op.equal kt (pairV a b) (pairV a' b')).run P w = .ok (decide (a = a' ∧ b = b')) w := by
  have v1 : VR (fun _ => none) (.agg (.cons (.num a) (.cons (.num b) .nil))) (pairV a b) := .agg (.cons (.num _ h1) (.cons (.num _ h2) .nil))
  have v2 : VR (fun _ => none) (.agg (.cons (.num a') (.cons (.num b') .nil))) (pairV a' b') := .agg (.cons (.num _ h3) (.cons (.num _ h4) .nil))
  have := eqVB_good (k := fun r => bif (r == decide (a = a' ∧ b = b')) then .good else .bad) hs v1 v2 (by
    show eq1 1 (.num a) (.num a') (fun t => bK t (eq1 1 (.num b) (.num b') (fun t => bK t _ _)) _) = .good
    show bK (Nat.beq a a') (bK true (bK (Nat.beq b b') (bK true _ _) (bK false _ _)) _) (bK false _ _) = .good
    cases e : Nat.beq a a'
    · have := beq_false e
      simp [bK, this]
    · have e1 := beq_true e
      subst e1
      cases e' : Nat.beq b b'
      · have := beq_false e'
        simp [bK, this]
      · have e1 := beq_true e'
        subst e1
        simp [bK, eqL])
  obtain ⟨r, g1, g2, g3⟩ := this
  rw [g1]
  cases hq : (r == decide (a = a' ∧ b = b'))
  · dsimp only at g3; rw [hq] at g3; cases g3
  · rw [eq_of_beq hq]

theorem isPairs_good {k : Ans} (h : isPairs ks k = .good) : ks = pairS ∧ k = .good := by
  unfold isPairs at h
  split at h
  · have e1 := beq_true (wK_good h).1
    replace h := (wK_good h).2
    have e2 := beq_true (wK_good h).1
    subst e1; subst e2
    exact ⟨rfl, (wK_good h).2⟩
  · cases h
theorem fnd_pairs (hs : KSort P kt pairS) {a b : Nat} (h1 : a ≤ maxI) (h2 : b ≤ maxI) : ∀ {l : List MapEntry} {i : Nat}, (∀ e ∈ l, ∃ a b : Nat, a ≤ maxI ∧ b ≤ maxI ∧ e.key = pairV a b) → l.Pairwise (fun e e' => e.key ≠ e'.key) →
    ∀ {e : MapEntry}, e ∈ l → e.key = pairV a b → ∃ j, Fnd P kt (pairV a b) l i (some (j, e.val))
  | [], i, hk, hd, e, he, hx => by cases he
  | c :: l, i, hk, hd, e, he, hx => by
    rcases List.mem_cons.1 he with rfl | he
    · exact ⟨i, .hit i fun w => by rw [hx, equal_pairs hs h1 h2 h1 h2]; simp⟩
    · obtain ⟨a', b', g1, g2, g3⟩ := hk c (.head _)
      have hne : ¬ (a = a' ∧ b = b') := fun ⟨q1, q2⟩ => by
        subst q1; subst q2
        exact (List.rel_of_pairwise_cons hd he) (by rw [g3, hx])
      obtain ⟨j, hj⟩ := fnd_pairs hs h1 h2 (i := i + 1) (fun e he => hk e (.tail _ he)) hd.of_cons he hx
      exact ⟨j, .miss (fun w => by rw [g3, equal_pairs hs h1 h2 g1 g2, decide_eq_false hne]) hj⟩

theorem findK_part (hs : KSort P kt pairS) (hx : VR ι a kx) {arr : List MapEntry} (hk : ∀ e ∈ arr, ∃ a b : Nat, a ≤ maxI ∧ b ≤ maxI ∧ e.key = pairV a b) (hd : arr.Pairwise fun e e' => e.key ≠ e'.key) :
    ∀ {es : ML} {yes : AV → Ans}, (∀ k v, MLMem k v es → ∃ e ∈ arr, VR ι k e.key ∧ VR ι v e.val) → findK pairS a es yes .bad = .good →
    ∃ j e v, Fnd P kt kx arr 0 (some (j, e)) ∧ VR ι v e ∧ yes v = .good := by
  intro es
  induction es with
  | nil => intro yes _ h; cases h
  | cons k v r ih =>
    intro yes hm h
    obtain ⟨e, he, q1, q2⟩ := hm k v (.inl ⟨rfl, rfl⟩)
    have h : eqVB pairS a k (fun t => bK t (yes v) (findK pairS a r yes .bad)) = .good := h
    obtain ⟨c, g1, g2, h⟩ := eqVB_good hs hx q1 h
    rcases bK_good h with ⟨e1, h⟩ | ⟨e1, h⟩
    · have ex := g2 e1
      obtain ⟨p, q, p1, p2, p3⟩ := hk e he
      have p3' : kx = pairV p q := by rw [ex, p3]
      rw [p3']
      obtain ⟨j, hj⟩ := fnd_pairs hs p1 p2 (i := 0) hk hd he p3
      exact ⟨j, e.val, v, hj, q2, h⟩
    · exact ih (fun k v hq => hm k v (.inr hq)) h

theorem found_good {ok : Bool} {c : AV} {u : Value} {k : AV → Ans} (hv : VR ι c u) (h : foundK ok c k = .good) : ∃ r, VR ι r (if ok then .tuple #[u, .bool true] else u) ∧ k r = .good := holds_good hv h
theorem lack_good {ok : Bool} {u : Value} {k : AV → Ans} (hv : VR ι z u) (h : lackK ok z k = .good) : ∃ r, VR ι r (if ok then .tuple #[u, .bool false] else u) ∧ k r = .good := by
  cases ok
  · exact ⟨z, hv, h⟩
  · exact ⟨_, .tup (.cons hv (.cons (.bool _) .nil)), h⟩

theorem getObj_map {r : Nat} {es : Array MapEntry} {clock : Nat} (hb : w.heap[r]? = some (.map es clock)) : (getObj r).run P w = .ok (.map es clock) w := by
  simp only [getObj, Sem.run, hb]
theorem setObj_map {r : Nat} {es : Array MapEntry} {clock : Nat} (o : Obj) (hb : w.heap[r]? = some (.map es clock)) : (setObj r o).run P w = .ok () { w with heap := w.heap.setIfInBounds r o } := by
  simp only [setObj, Sem.run, hb]

theorem lookupK_good {ok : Bool} {k : AV → Ans} (M : MR rt ι h w) (hu : P.underlying t = some (.map kt et)) (hk : keySort P kt = some ks) (hz : zeroT P et = some z) (ha : VR ι m x) (hkey : VR ι key kx)
    (hk' : lookupK ks ok z m key h k = .good) : Reads ι P w (Instr.lookup t x kx ok) k := by
  have hs := keySort_good hk
  obtain ⟨d, hd⟩ := hs.und
  obtain ⟨zv, hz1, hz2⟩ := zeroT_good (ι := ι) hz
  have fin : ∀ (es : Array MapEntry) (em : Bool) (r : Option (Nat × Value)), (Instr.checkKey es.isEmpty 10000 kt kx).run P w = .ok () w → Fnd P kt kx es.toList 0 r →
      (do Instr.checkKey es.isEmpty 10000 kt kx
          let (v, ok') ← match ← Instr.findKey kt kx es.toList with
            | some (_, v) => pure (v, true)
            | none => pure (← zeroValue et, false)
          pure (if ok then .tuple #[v, .bool ok'] else v) : Sem Value).run P w = .ok (match r with | some (_, v) => if ok then .tuple #[v, .bool true] else v | none => if ok then .tuple #[zv, .bool false] else zv) w := fun es em r h1 h2 => by
    refine (bind_ok h1).trans ?_
    refine (bind_ok (h2.key hd w)).trans ?_
    cases r with
    | none => exact (bind_ok (hz2 w)).trans rfl
    | some p => rfl
  unfold lookupK at hk'
  split at hk'
  · obtain ⟨c1, c2⟩ := keyK_good hk hkey hk'
    cases ha with | mnil =>
    obtain ⟨r, r1, r2⟩ := lack_good hz1 c2
    refine ⟨r, _, ?_, r1, r2⟩
    unfold Instr.lookup
    refine (bind_ok (run_und hu w)).trans ?_
    exact fin #[] true none (c1 _ w) (.nil 0)
  · rename_i p
    rw [HgetK_eq] at hk'
    obtain ⟨c1, c2⟩ := keyK_good hk hkey hk'
    cases ha with | map hp =>
    rename_i bl zz
    have go : ∀ (es : Array MapEntry) (clock : Nat), w.heap[bl]? = some (.map es clock) → ∀ (r : Option (Nat × Value)), Fnd P kt kx es.toList 0 r →
        (Instr.lookup t (.map (some bl)) kx ok).run P w = .ok (match r with | some (_, v) => if ok then .tuple #[v, .bool true] else v | none => if ok then .tuple #[zv, .bool false] else zv) w := fun es clock hb r hr => by
      unfold Instr.lookup
      refine (bind_ok (run_und hu w)).trans ?_
      refine (bind_ok (getObj_map hb)).trans ?_
      exact fin es true r (c1 _ w) hr
    cases hg : h.get p <;> rw [hg] at c2 <;> first | (exfalso; cases c2; done) | skip
    · obtain ⟨b', z', o, e1, e2, e3⟩ := M.obj' hp (by rw [hg]; intro e; cases e)
      rw [hp] at e1; cases e1
      rw [hg] at e3
      cases e3 with | map h1 h2 =>
      rename_i es arr clock
      rcases findK_good hs hkey h1 (i := 0) c2 with ⟨j, e, v, f1, f2, f3⟩ | ⟨f1, f3⟩
      · obtain ⟨r, r1, r2⟩ := found_good f2 f3
        exact ⟨r, _, go _ _ e2 _ f1, r1, r2⟩
      · obtain ⟨r, r1, r2⟩ := lack_good hz1 f3
        exact ⟨r, _, go _ _ e2 _ f1, r1, r2⟩
    · obtain ⟨b', z', o, e1, e2, e3⟩ := M.obj' hp (by rw [hg]; intro e; cases e)
      rw [hp] at e1; cases e1
      rw [hg] at e3
      cases e3 with | part q1 q2 q3 =>
      rename_i es arr clock
      obtain ⟨rfl, c3⟩ := isPairs_good c2
      obtain ⟨j, e, v, f1, f2, f3⟩ := findK_part hs hkey q1 q2 q3 c3
      obtain ⟨r, r1, r2⟩ := found_good f2 f3
      exact ⟨r, _, go _ _ e2 _ f1, r1, r2⟩
  · cases hk'
end Go.Ev

namespace Go.Ev
open Go
set_option linter.unusedSectionVars false
variable [Sym]
set_option linter.unusedVariables false
set_option linter.unusedSimpArgs false
variable {rt : Nat → Option RT} {ι : Inj} {P : Program} {h : H} {w : World} {t kt et : TypeId} {a b ks m key z v : AV} {x y kx vx : Value}

theorem SBits.stays (hx : SBits x) (w : World) : (Instr.keyThatStays x x).run P w = .ok x w := by
  unfold Instr.keyThatStays
  rw [if_pos (hx 9998)]
  rfl
structure PutR (ι : Inj) (P : Program) (kt : TypeId) (kx : Value) (l : List MapEntry) (i : Nat) (l' : List MapEntry) (f : MapEntry → MapEntry) (new : MapEntry) : Prop where
  r : (∃ j e, Fnd P kt kx l i (some (i + j, e.val)) ∧ l[j]? = some e ∧ e.key = kx ∧ SBits kx ∧ l' = l.modify j f) ∨ (Fnd P kt kx l i none ∧ l' = l ++ [new])

theorem putK_good (hk : keySort P kt = some ks) (hx : VR ι a kx) (hv : VR ι v vx) {es : ML} {l : List MapEntry} (he : MR1 ι es l) {new : MapEntry} (hn1 : new.key = kx) (hn2 : new.val = vx) : ∀ {i : Nat} {k : ML → Ans}, putK ks a v es k = .good →
    ∃ es' l', PutR ι P kt kx l i l' (fun e => { e with key := kx, val := vx }) new ∧ MR1 ι es' l' ∧ k es' = .good := by
  induction he with
  | nil =>
    intro i k h
    exact ⟨_, _, ⟨.inr ⟨.nil i, rfl⟩⟩, .cons (by rw [hn1]; exact hx) (by rw [hn2]; exact hv) .nil, h⟩
  | @cons kk vv r e es hke hve h' ih =>
    intro i k h
    have h : eqVB ks a kk (fun t => bK t (k (.cons kk v r)) (putK ks a v r fun r => k (.cons kk vv r))) = .good := h
    obtain ⟨c, g1, g2, h⟩ := eqVB_key hk hx hke h
    rcases bK_good h with ⟨e1, h⟩ | ⟨e1, h⟩
    · subst e1
      obtain ⟨q1, q2⟩ := g2 rfl
      refine ⟨_, _, ⟨.inl ⟨0, e, .hit i g1, rfl, q1.symm, q2, rfl⟩⟩, ?_, h⟩
      refine .cons ?_ hv h'
      show VR ι kk kx
      rw [q1]; exact hke
    · subst e1
      obtain ⟨es', l', q1, q2, q3⟩ := ih (i := i + 1) h
      refine ⟨_, _, ⟨?_⟩, .cons hke hve q2, q3⟩
      rcases q1.r with ⟨j, e', p1, p2, p3, p4, rfl⟩ | ⟨p1, rfl⟩
      · refine .inl ⟨j + 1, e', ?_, by simpa using p2, p3, p4, rfl⟩
        have := Fnd.miss g1 p1
        rwa [show i + 1 + j = i + (j + 1) by omega] at this
      · exact .inr ⟨.miss g1 p1, rfl⟩

theorem denseFrom_modify {f : MapEntry → MapEntry} (hf : ∀ e, (f e).born = e.born) : ∀ {l : List MapEntry} {i j : Nat}, denseFrom i l → denseFrom i (l.modify j f)
  | [], i, j, h => by simpa using h
  | e :: l, i, 0, h => ⟨by rw [hf]; exact h.1, h.2⟩
  | e :: l, i, j + 1, h => ⟨h.1, denseFrom_modify hf h.2⟩
theorem denseFrom_snoc {e : MapEntry} : ∀ {l : List MapEntry} {i : Nat}, denseFrom i l → e.born = i + l.length → denseFrom i (l ++ [e])
  | [], i, h, hb => ⟨by simpa using hb, trivial⟩
  | c :: l, i, h, hb => ⟨h.1, denseFrom_snoc h.2 (by rw [hb]; simp; omega)⟩
theorem denseFrom_get {e : MapEntry} : ∀ {l : List MapEntry} {i j : Nat}, denseFrom i l → l[j]? = some e → e.born = i + j
  | [], i, j, h, he => by simp at he
  | c :: l, i, 0, h, he => by simp at he; subst he; exact h.1
  | c :: l, i, j + 1, h, he => by
    have := denseFrom_get (e := e) (j := j) h.2 (by simpa using he)
    omega

theorem setMap {r : Nat} {es : Array MapEntry} {clock : Nat} (o : Obj) (hb : w.heap[r]? = some (.map es clock)) : SetW w { w with heap := w.heap.setIfInBounds r o } r o := by
  have hlt : r < w.heap.size := (Array.getElem?_eq_some_iff.1 hb).1
  exact ⟨rfl, rfl, rfl, by simp, by simp [hlt], fun c hc => by simp [Ne.symm hc]⟩
theorem map_at (M : MR rt ι h w) {p : P4} {bl zz : Nat} (hp : ι p = some (bl, zz)) {d : Bool} {es : ML} (hg : h.get p = .map d es) :
    ∃ (arr : Array MapEntry) (clock : Nat), w.heap[bl]? = some (.map arr clock) ∧ MR1 ι es arr.toList ∧ (d = true → denseFrom 0 arr.toList ∧ clock = arr.size) := by
  obtain ⟨b', z', o, e1, e2, e3⟩ := M.obj' hp (by rw [hg]; intro e; cases e)
  rw [hp] at e1; cases e1
  rw [hg] at e3
  cases e3 with | map h1 h2 => exact ⟨_, _, e2, h1, h2⟩
theorem map_nosl {d : Bool} {es : ML} : ¬ Sealed (.map d es) := by rintro ⟨_, _, _, _, e⟩; cases e

theorem modify_toList {α : Type} (arr : Array α) (i : Nat) (f : α → α) : (arr.modify i f).toList = arr.toList.modify i f := by
  simp

theorem mapSetK_good {k : H → Ans} (M : MR rt ι h w) (hu : P.underlying t = some (.map kt et)) (hk : keySort P kt = some ks) (ha : VR ι m x) (hkey : VR ι key kx) (hv : VR ι v vx)
    (hk' : mapSetK ks m key v h k = .good) : DoesU rt ι P h w (Instr.mapUpdate t x kx vx) k := by
  obtain ⟨dd, hd⟩ := (keySort_good hk).und
  obtain ⟨p, rfl, hk2⟩ := asMap_good hk'
  clear hk'
  rw [HgetK_eq] at hk2
  obtain ⟨d, es, hg, hk3⟩ := AOmapK_good hk2
  obtain ⟨c1, hk'⟩ := keyK_good hk hkey hk3
  cases ha with | map hp =>
  rename_i bl zz
  obtain ⟨arr, clock, hb, h1, h2⟩ := map_at M hp hg
  obtain ⟨es', l', q1, q2, q3⟩ := putK_good (new := { key := kx, val := vx, born := clock }) hk hkey hv h1 rfl rfl (i := 0) hk'
  rw [HsetK_eq] at q3
  have hp' : ∀ o, SetW w { w with heap := w.heap.setIfInBounds bl o } bl o := fun o => setMap o hb
  rcases q1.r with ⟨j, e, f1, f2, f3, f4, rfl⟩ | ⟨f1, rfl⟩
  · refine ⟨(), _, ι, _, ?_, Post.set M hp (by rw [hg]; intro e; cases e) (by rw [hg]; exact map_nosl) (hp' (.map (arr.modify j fun e => { e with key := kx, val := vx }) clock)) ?_, q3⟩
    · unfold Instr.mapUpdate
      refine (bind_ok (run_und hu w)).trans ?_
      refine (bind_ok (getObj_map hb)).trans ?_
      refine (bind_ok (c1 _ w)).trans ?_
      refine (bind_ok (f1.key hd w)).trans ?_
      have e1 : ((arr[0 + j]?).map (·.key)).getD kx = kx := by
        rw [Nat.zero_add, show arr[j]? = some e by simpa using f2]; exact f3
      refine (bind_ok (v := kx) (w' := w) ?_).trans ?_
      · show (Instr.keyThatStays (((arr[0 + j]?).map (·.key)).getD kx) kx).run P w = _
        rw [e1]; exact f4.stays w
      · rw [Nat.zero_add]
        exact setObj_map _ hb
    · refine .map (by rw [modify_toList]; exact q2) fun e => ?_
      obtain ⟨r1, r2⟩ := h2 e
      exact ⟨by rw [modify_toList]; exact denseFrom_modify (f := fun e => { e with key := kx, val := vx }) (fun _ => rfl) r1, by simp [r2]⟩
  · refine ⟨(), _, ι, _, ?_, Post.set M hp (by rw [hg]; intro e; cases e) (by rw [hg]; exact map_nosl) (hp' (.map (arr.push { key := kx, val := vx, born := clock }) (clock + 1))) ?_, q3⟩
    · unfold Instr.mapUpdate
      refine (bind_ok (run_und hu w)).trans ?_
      refine (bind_ok (getObj_map hb)).trans ?_
      refine (bind_ok (c1 _ w)).trans ?_
      refine (bind_ok (f1.key hd w)).trans ?_
      exact setObj_map _ hb
    · refine .map (by rw [Array.toList_push]; exact q2) fun e => ?_
      obtain ⟨r1, r2⟩ := h2 e
      refine ⟨by rw [Array.toList_push]; exact denseFrom_snoc r1 (by simp [r2]), by simp [r2]⟩

theorem delK_good (hk : keySort P kt = some ks) (hx : VR ι a kx) {es : ML} {l : List MapEntry} (he : MR1 ι es l) : ∀ {i : Nat} {k : ML → Ans}, delK ks a es k = .good →
    ∃ es' l', ((∃ j u, Fnd P kt kx l i (some (i + j, u)) ∧ j < l.length ∧ l' = l.eraseIdx j) ∨ (Fnd P kt kx l i none ∧ l' = l)) ∧ MR1 ι es' l' ∧ k es' = .good := by
  induction he with
  | nil =>
    intro i k h
    exact ⟨_, _, .inr ⟨.nil i, rfl⟩, .nil, h⟩
  | @cons kk vv r e es hke hve h' ih =>
    intro i k h
    have h : eqVB ks a kk (fun t => bK t (k r) (delK ks a r fun r => k (.cons kk vv r))) = .good := h
    obtain ⟨c, g1, g2, h⟩ := eqVB_key hk hx hke h
    rcases bK_good h with ⟨e1, h⟩ | ⟨e1, h⟩
    · subst e1
      exact ⟨_, _, .inl ⟨0, e.val, .hit i g1, by simp, rfl⟩, h', h⟩
    · subst e1
      obtain ⟨es', l', q1, q2, q3⟩ := ih (i := i + 1) h
      refine ⟨_, e :: l', ?_, .cons hke hve q2, q3⟩
      rcases q1 with ⟨j, u, p1, p2, rfl⟩ | ⟨p1, rfl⟩
      · refine .inl ⟨j + 1, u, ?_, by simpa using p2, rfl⟩
        have := Fnd.miss g1 p1
        rwa [show i + 1 + j = i + (j + 1) by omega] at this
      · exact .inr ⟨.miss g1 p1, rfl⟩

theorem mapDelK_good {k : H → Ans} {ts : Array TypeId} {ty : TypeId} (M : MR rt ι h w) (ht : ts[0]? = some t) (hu : P.underlying t = some (.map kt et)) (hk : keySort P kt = some ks) (ha : VR ι m x) (hkey : VR ι key kx)
    (hk' : mapDelK ks m key h k = .good) : Does rt ι P h w (Builtin.delete_ ts ty #[x, kx]) fun _ x h' => x = .tuple #[] ∧ k h' = .good := by
  obtain ⟨dd, hd⟩ := (keySort_good hk).und
  obtain ⟨p, rfl, hk2⟩ := asMap_good hk'
  clear hk'
  rw [HgetK_eq] at hk2
  obtain ⟨d, es, hg, hk3⟩ := AOmapK_good hk2
  obtain ⟨c1, hk'⟩ := keyK_good hk hkey hk3
  cases ha with | map hp =>
  rename_i bl zz
  obtain ⟨arr, clock, hb, h1, h2⟩ := map_at M hp hg
  obtain ⟨es', l', q1, q2, q3⟩ := delK_good hk hkey h1 (i := 0) hk'
  rw [HsetK_eq] at q3
  have hp' : ∀ o, SetW w { w with heap := w.heap.setIfInBounds bl o } bl o := fun o => setMap o hb
  have go : ∀ (r : Option (Nat × Value)) (o : Obj), Fnd P kt kx arr.toList 0 r → o = (match r with | some (i, _) => .map (arr.eraseIdxIfInBounds i) clock | none => .map arr clock) →
      (Builtin.delete_ ts ty #[.map (some bl), kx]).run P w = .ok (.tuple #[]) { w with heap := w.heap.setIfInBounds bl o } := fun r o hr ho => by
    unfold Builtin.delete_
    rw [ht]
    refine (bind_ok (run_und hu w)).trans ?_
    refine (bind_ok (getObj_map hb)).trans ?_
    refine (bind_ok (c1 _ w)).trans ?_
    refine (bind_ok (hr.key hd w)).trans ?_
    subst ho
    cases r with
    | none => exact (bind_ok (setObj_map _ hb)).trans rfl
    | some q => exact (bind_ok (setObj_map _ hb)).trans rfl
  rcases q1 with ⟨j, u, f1, f2, rfl⟩ | ⟨f1, rfl⟩
  · refine ⟨_, _, ι, _, go _ _ f1 rfl, Post.set M hp (by rw [hg]; intro e; cases e) (by rw [hg]; exact map_nosl) (hp' _) ?_, rfl, q3⟩
    refine .map ?_ fun e => by cases e
    have : (arr.eraseIdxIfInBounds (0 + j)).toList = arr.toList.eraseIdx j := by
      rw [Nat.zero_add]
      unfold Array.eraseIdxIfInBounds
      rw [dif_pos (by simpa using f2)]
      simp
    rw [this]; exact q2
  · refine ⟨_, _, ι, _, go _ _ f1 rfl, Post.set M hp (by rw [hg]; intro e; cases e) (by rw [hg]; exact map_nosl) (hp' _) ?_, rfl, q3⟩
    exact .map q2 fun e => by cases e

theorem findAtK_good (hk : keySort P kt = some ks) (hx : VR ι a kx) {es : ML} {l : List MapEntry} (he : MR1 ι es l) : ∀ {i : Nat} {yes : Nat → AV → Ans} {no : Ans}, findAtK ks a es i yes no = .good →
    (∃ j e v, Fnd P kt kx l i (some (i + j, e.val)) ∧ l[j]? = some e ∧ e.key = kx ∧ SBits kx ∧ VR ι v e.val ∧ i + j ≤ maxI ∧ yes (i + j) v = .good) ∨ (Fnd P kt kx l i none ∧ no = .good) := by
  induction he with
  | nil => intro i yes no h; exact .inr ⟨.nil i, h⟩
  | @cons kk vv r e es hke hve h' ih =>
    intro i yes no h
    have h : eqVB ks a kk (fun t => bK t (fN i fun i => wK (Nat.ble i maxI) (yes i vv)) (findAtK ks a r (i + 1) yes no)) = .good := h
    obtain ⟨c, g1, g2, h⟩ := eqVB_key hk hx hke h
    rcases bK_good h with ⟨e1, h⟩ | ⟨e1, h⟩
    · subst e1
      obtain ⟨q1, q2⟩ := g2 rfl
      rw [fN_eq] at h
      exact .inl ⟨0, e, vv, .hit i g1, rfl, q1.symm, q2, hve, ble_true (wK_good h).1, (wK_good h).2⟩
    · subst e1
      rcases ih (i := i + 1) h with ⟨j, e', v', p1, p2, p3, p4, p5, p6, p7⟩ | ⟨q1, q2⟩
      · rw [show i + 1 + j = i + (j + 1) by omega] at p1 p6 p7
        exact .inl ⟨j + 1, e', v', .miss g1 p1, by simpa using p2, p3, p4, p5, p6, p7⟩
      · exact .inr ⟨.miss g1 q1, q2⟩

theorem snoc_good (hx : VR ι a kx) (hv : VR ι v vx) {es : ML} {l : List MapEntry} (he : MR1 ι es l) {new : MapEntry} (hn1 : new.key = kx) (hn2 : new.val = vx) : ∀ {k : ML → Ans}, es.snoc a v k = .good →
    ∃ es', MR1 ι es' (l ++ [new]) ∧ k es' = .good := by
  induction he with
  | nil => intro k h; exact ⟨_, .cons (by rw [hn1]; exact hx) (by rw [hn2]; exact hv) .nil, h⟩
  | @cons kk vv r e es hke hve h' ih =>
    intro k h
    obtain ⟨es', h1, h2⟩ := ih (k := fun r => k (.cons kk vv r)) h
    exact ⟨_, .cons hke hve h1, h2⟩

theorem MR1.len {es : ML} {l : List MapEntry} (he : MR1 ι es l) : es.len = l.length := by
  induction he with
  | nil => rfl
  | cons _ _ _ ih => simp [ML.len, ih]

theorem mapEntryK_good {k : AV → H → Ans} (M : MR rt ι h w) (hu : P.underlying t = some (.map kt et)) (hk : keySort P kt = some ks) (hz : zeroT P et = some z) (ha : VR ι m x) (hkey : VR ι key kx)
    (hk' : mapEntryK ks z m key h k = .good) : DoesV rt ι P h w (Instr.mapEntry t x kx) k := by
  obtain ⟨dd, hd⟩ := (keySort_good hk).und
  obtain ⟨zv, hz1, hz2⟩ := zeroT_good (ι := ι) hz
  obtain ⟨p, rfl, hk2⟩ := asMap_good hk'
  clear hk'
  rw [HgetK_eq] at hk2
  obtain ⟨d, es, hg, hk3⟩ := AOmapK_good hk2
  obtain ⟨hdt, hk4⟩ := wK_good hk3
  subst hdt
  obtain ⟨c1, hk'⟩ := keyK_good hk hkey hk4
  cases ha with | map hp =>
  rename_i bl zz
  obtain ⟨arr, clock, hb, h1, h2⟩ := map_at M hp hg
  obtain ⟨r1, r2⟩ := h2 rfl
  have hp' : ∀ o, SetW w { w with heap := w.heap.setIfInBounds bl o } bl o := fun o => setMap o hb
  rcases findAtK_good hk hkey h1 hk' with ⟨j, e, v, f1, f2, f3, f4, f5, f6, f7⟩ | ⟨f1, f2⟩
  · simp only [Nat.zero_add] at f1 f6 f7
    have e1 : arr[j]? = some e := by simpa using f2
    have hb' := denseFrom_get r1 f2
    have em : arr.modify j (fun e => { e with key := kx }) = arr := by
      apply Array.ext'
      rw [modify_toList]
      refine List.ext_getElem? fun i => ?_
      rw [List.getElem?_modify]
      by_cases hi : j = i
      · subst hi
        rw [f2]
        simp only [if_true, Option.map_eq_map, Option.map_some]
        rw [← f3]
      · simp [hi]
    refine ⟨.tuple #[e.val, goInt j], _, ι, h, ?_, Post.same M (w' := { w with heap := w.heap.setIfInBounds bl (.map (arr.modify j (fun e => { e with key := kx })) clock) }) ⟨?_, rfl, rfl, rfl⟩, .tup (.cons v (.cons (.num j) .nil)), ?_, f7⟩
    · unfold Instr.mapEntry
      refine (bind_ok (run_und hu w)).trans ?_
      refine (bind_ok (getObj_map hb)).trans ?_
      refine (bind_ok (c1 _ w)).trans ?_
      refine (bind_ok (f1.key hd w)).trans ?_
      refine (bind_ok (v := kx) (w' := w) ?_).trans ?_
      · show (Instr.keyThatStays (((arr[j]?).map (·.key)).getD kx) kx).run P w = _
        rw [e1]
        show (Instr.keyThatStays e.key kx).run P w = _
        rw [f3]; exact f4.stays w
      · refine (bind_ok (setObj_map _ hb)).trans ?_
        rw [e1]
        show Result.ok (Value.tuple #[e.val, goInt e.born]) _ = _
        rw [hb', Nat.zero_add]
    · rw [em]
      refine Array.ext_getElem? fun i => ?_
      rw [Array.getElem?_setIfInBounds]
      by_cases hi : bl = i
      · subst hi
        rw [if_pos rfl, hb]
        rw [if_pos (Array.getElem?_eq_some_iff.1 hb).1]
      · rw [if_neg hi]
    · exact .tup (.cons f5 (.cons (.num j f6) .nil))
  · obtain ⟨es', s1, s2⟩ := snoc_good (new := { key := kx, val := zv, born := clock }) hkey hz1 h1 rfl rfl f2
    rw [fN_eq] at s2
    have hle := ble_true (wK_good s2).1
    replace s2 := (wK_good s2).2
    rw [HsetK_eq] at s2
    have hlen : es.len = clock := by rw [h1.len, r2]; simp
    refine ⟨.tuple #[zv, goInt clock], _, ι, _, ?_, Post.set M hp (by rw [hg]; intro e; cases e) (by rw [hg]; exact map_nosl) (hp' (.map (arr.push { key := kx, val := zv, born := clock }) (clock + 1))) ?_, .tup (.cons z (.cons (.num es.len) .nil)), ?_, s2⟩
    · unfold Instr.mapEntry
      refine (bind_ok (run_und hu w)).trans ?_
      refine (bind_ok (getObj_map hb)).trans ?_
      refine (bind_ok (c1 _ w)).trans ?_
      refine (bind_ok (f1.key hd w)).trans ?_
      refine (bind_ok (hz2 w)).trans ?_
      exact (bind_ok (setObj_map _ hb)).trans rfl
    · refine .map (by rw [Array.toList_push]; exact s1) fun e => ?_
      refine ⟨by rw [Array.toList_push]; exact denseFrom_snoc r1 (by simp [r2]), by simp [r2]⟩
    · rw [hlen] at hle ⊢
      exact .tup (.cons hz1 (.cons (.num _ hle) .nil))

theorem setAt_good (hv : VR ι v vx) {es : ML} {l : List MapEntry} (he : MR1 ι es l) : ∀ {i : Nat} {k : ML → Ans}, es.setAt i v k = .good →
    ∃ es' , i < l.length ∧ MR1 ι es' (l.modify i fun e => { e with val := vx }) ∧ k es' = .good := by
  induction he with
  | nil => intro i k h; cases h
  | @cons kk vv r e es hke hve h' ih =>
    intro i k h
    cases i with
    | zero => exact ⟨_, by simp, .cons hke hv h', h⟩
    | succ i =>
      obtain ⟨es', h1, h2, h3⟩ := ih (i := i) (k := fun r => k (.cons kk vv r)) h
      exact ⟨_, by simpa using h1, .cons hke hve h2, h3⟩

theorem findIdx_dense {n : Nat} : ∀ {l : List MapEntry} {i : Nat}, denseFrom i l → n < l.length → l.findIdx? (fun e => (e.born : Int) == ((i + n : Nat) : Int)) = some n
  | [], i, h, hn => by simp at hn
  | e :: l, i, h, hn => by
    obtain ⟨h1, h2⟩ := h
    rw [List.findIdx?_cons]
    cases n with
    | zero => rw [if_pos (by rw [h1]; simp)]
    | succ n =>
      rw [if_neg (by rw [h1]; simp; omega)]
      have := findIdx_dense (n := n) h2 (by simpa using hn)
      rw [show i + 1 + n = i + (n + 1) by omega] at this
      rw [this]; rfl

theorem entryStoreK_good {s : AV} {sx : Value} {k : H → Ans} (M : MR rt ι h w) (ha : VR ι m x) (hs : VR ι s sx) (hv : VR ι v vx)
    (hk' : entryStoreK m s v h k = .good) : DoesU rt ι P h w (Instr.entryStore t x sx vx) k := by
  obtain ⟨p, rfl, hk2⟩ := asMap_good hk'
  clear hk'
  obtain ⟨n, rfl, hk1⟩ := asNum_good hk2
  clear hk2
  rw [HgetK_eq] at hk1
  obtain ⟨d, es, hg, hk3⟩ := AOmapK_good hk1
  obtain ⟨hdt, hk4⟩ := wK_good hk3
  subst hdt
  cases ha with | map hp =>
  obtain ⟨rfl, hn⟩ := num_of hs
  rename_i bl zz
  obtain ⟨arr, clock, hb, h1, h2⟩ := map_at M hp hg
  obtain ⟨r1, r2⟩ := h2 rfl
  have hp' : ∀ o, SetW w { w with heap := w.heap.setIfInBounds bl o } bl o := fun o => setMap o hb
  obtain ⟨es', s0, s1, s2⟩ := setAt_good hv h1 hk4
  rw [HsetK_eq] at s2
  refine ⟨(), _, ι, _, ?_, Post.set M hp (by rw [hg]; intro e; cases e) (by rw [hg]; exact map_nosl) (hp' (.map (arr.modify n fun e => { e with val := vx }) clock)) ?_, s2⟩
  · unfold Instr.entryStore
    refine (bind_ok (getObj_map hb)).trans ?_
    have ei : arr.findIdx? (fun e => (e.born : Int) == (n : Int)) = some n := by
      have := findIdx_dense (n := n) r1 s0
      rw [Nat.zero_add] at this
      rw [← List.findIdx?_toArray] at this
      simpa using this
    refine (bind_ok (v := (n : Int)) (w' := w) rfl).trans ?_
    rw [ei]
    exact setObj_map _ hb
  · refine .map (by rw [modify_toList]; exact s1) fun e => ?_
    exact ⟨by rw [modify_toList]; exact denseFrom_modify (f := fun e => { e with val := vx }) (fun _ => rfl) r1, by simp [r2]⟩

theorem mapLenK_good {k : AV → Ans} {ts : Array TypeId} {ty : TypeId} (M : MR rt ι h w) (ht : ts[0]? = some t) (hu : P.underlying t = some (.map kt et)) (ha : VR ι a x)
    (hk' : mapLenK a h k = .good) : Reads ι P w (Builtin.len_ ts ty #[x]) k := by
  unfold mapLenK at hk'
  split at hk'
  · cases ha with | mnil =>
    refine ⟨_, _, ?_, .num 0 (by decide), hk'⟩
    unfold Builtin.len_
    rw [ht]
    exact (bind_ok (run_und hu w)).trans rfl
  · rename_i p
    rw [HgetK_eq] at hk'
    obtain ⟨d, es, hg, hk3⟩ := AOmapK_good hk'
    rw [fN_eq] at hk3
    obtain ⟨hle, hk3⟩ := wK_good hk3
    cases ha with | map hp =>
    rename_i bl zz
    obtain ⟨arr, clock, hb, h1, h2⟩ := map_at M hp hg
    refine ⟨_, _, ?_, .num _ (ble_true hle), hk3⟩
    unfold Builtin.len_
    rw [ht]
    refine (bind_ok (run_und hu w)).trans ?_
    refine (bind_ok (getObj_map hb)).trans ?_
    rw [h1.len]
    rfl
  · cases hk'
end Go.Ev

namespace Go.Ev
open Go
set_option linter.unusedSectionVars false
variable [Sym]
open Go.ChangeMaps (setBlock)
set_option linter.unusedVariables false
set_option linter.unusedSimpArgs false
variable {P : Program} {rt : Nat → Option RT} {ι : Inj} {h : H} {w : World} {a : AV} {x : Value} {t kt et : TypeId}

theorem AOiterK_good {o : AO} {f : P4 → Nat → Nat → List Nat → Ans} (hk : AOiterK o f = .good) : ∃ p n l r, o = .iter p n l r ∧ f p n l r = .good := by
  cases o <;> first | exact ⟨_, _, _, _, rfl, hk⟩ | cases hk
theorem alsoK_good {a b : Ans} (hk : alsoK a b = .good) : a = .good ∧ b = .good := by
  cases a with
  | good => exact ⟨rfl, hk⟩
  | bad => cases hk

theorem nthM_good {es : ML} {l : List MapEntry} (he : MR1 ι es l) : ∀ {i : Nat} {k : AV → AV → Ans}, es.nthK i k = .good → ∃ a v e, l[i]? = some e ∧ VR ι a e.key ∧ VR ι v e.val ∧ k a v = .good := by
  induction he with
  | nil => intro i k hk; cases hk
  | cons hk' hv _ ih =>
    intro i k hk
    cases i with
    | zero => exact ⟨_, _, _, rfl, hk', hv, hk⟩
    | succ i =>
      obtain ⟨a, v, e, h1, h2⟩ := ih (i := i) hk
      exact ⟨a, v, e, by rw [List.getElem?_cons_succ]; exact h1, h2⟩
theorem dense_born : ∀ {l : List MapEntry} {i j : Nat} {e : MapEntry}, denseFrom i l → l[j]? = some e → e.born = i + j
  | [], i, j, e, _, h => by simp at h
  | x :: l, i, 0, e, hd, h => by
    rw [List.getElem?_cons_zero] at h; injection h with h; subst h; exact hd.1
  | x :: l, i, j + 1, e, hd, h => by
    rw [List.getElem?_cons_succ] at h
    rw [dense_born hd.2 h]; omega
theorem dense_lt : ∀ {l : List MapEntry} {i : Nat}, denseFrom i l → ∀ e ∈ l, i ≤ e.born ∧ e.born < i + l.length
  | [], i, _, e, h => by cases h
  | x :: l, i, hd, e, h => by
    rcases List.mem_cons.1 h with rfl | h
    · have := hd.1
      simp only [List.length_cons]; omega
    · have := dense_lt hd.2 e h
      simp only [List.length_cons]; omega
theorem dense_nodup : ∀ {l : List MapEntry} {i : Nat}, denseFrom i l → (l.map (·.born)).Nodup
  | [], i, _ => List.nodup_nil
  | x :: l, i, hd => by
    rw [List.map_cons, List.nodup_cons]
    refine ⟨fun hm => ?_, dense_nodup hd.2⟩
    obtain ⟨e, h1, h2⟩ := List.mem_map.1 hm
    have := dense_lt hd.2 e h1
    have := hd.1
    omega

theorem rangeK_good {k : AV → H → Ans} (m : MR rt ι h w) (hu : P.underlying t = some (.map kt et)) (ha : VR ι a x) (hk : rangeK a h k = .good) : DoesV rt ι P h w (Instr.range t x) k := by
  obtain ⟨p, rfl, hk⟩ := asMap_good hk
  have hk : HgetK h p (fun b => _) = .good := hk
  rw [HgetK_eq] at hk
  obtain ⟨d, es, hg, hk⟩ := AOmapK_good hk
  obtain ⟨hd, hk⟩ := wK_good hk
  rw [fN_eq] at hk
  cases ha with | map hp =>
  rename_i bl zz
  obtain ⟨arr, clock, hb, h1, h2⟩ := map_at m hp hg
  obtain ⟨h2, h3⟩ := h2 hd
  obtain ⟨q, hq, hk⟩ := HnewK_good hk
  have hl : es.len = arr.size := by rw [h1.len]; simp
  refine ⟨.pointer (some ⟨w.heap.size, 0, none⟩), _, upd ι h.nx (w.heap.size, 0), _, ?_, Post.alloc m (pushW_alloc (.mapIter (some bl) clock #[] clock)) hq ?_, _, .ptr 0 (upd_same _ _ _), hk⟩
  · unfold Instr.range
    refine (bind_ok (run_und hu w)).trans ?_
    refine (bind_ok (getObj_map hb)).trans ?_
    rfl
  · rw [h3, hl]
    refine .iter (upd_ext _ (m.fresh (Nat.le_refl _)) _ _ hp) (fun i hi => ?_) (fun i hi => List.mem_range.1 hi) List.nodup_range (fun i hi => by cases hi) (Nat.zero_le _)
    simp [hi]
def Branch (q p : P4) (n : Nat) (es : ML) (h : H) (k : AV → H → Ans) (i : Nat) (l : List Nat) : Prop :=
  (es.nthK i fun a v => HsetK h q (AO.iter p n (i + 1) l) fun h => k (.tup (.cons (.bool true) (.cons a (.cons v .nil)))) h) = .good
theorem forkK_good {q p : P4} {n : Nat} {es : ML} {k : AV → H → Ans} : ∀ {l d : List Nat}, forkK q p n es h k d l = .good → ∀ i ∈ l, ∃ d' r, d ++ l = d' ++ i :: r ∧ Branch q p n es h k i (d' ++ r)
  | [], d, hk, i, hi => by cases hi
  | j :: r, d, hk, i, hi => by
    obtain ⟨h1, h2⟩ := alsoK_good hk
    by_cases hij : i = j
    · subst hij; exact ⟨d, r, rfl, h1⟩
    · rcases List.mem_cons.1 hi with e | hi
      · exact absurd e hij
      · obtain ⟨d', r', h3, h4⟩ := forkK_good h2 i hi
        exact ⟨d', r', by rw [← h3]; simp, h4⟩

theorem setBlock_SetW {w : World} {b : Nat} {o o' : Obj} (hb : w.heap[b]? = some o) : SetW w (setBlock w b o') b o' := by
  have hlt : b < w.heap.size := (Array.getElem?_eq_some_iff.1 hb).1
  refine ⟨rfl, rfl, rfl, ?_, ?_, fun c hc => ?_⟩
  · simp [setBlock]
  · simp [setBlock, Array.getElem?_setIfInBounds, hlt]
  · simp [setBlock, Array.getElem?_setIfInBounds, Ne.symm hc]

theorem nextK_good {k : AV → H → Ans} {ty : TypeId} (m : MR rt ι h w) (ha : VR ι a x) (hk : nextK a h k = .good) : DoesV rt ι P h w (Instr.next x false ty) k := by
  obtain ⟨q, o, rfl, hk⟩ := asPtr_good hk
  obtain ⟨ho, hk⟩ := wK_good hk
  have ho := beq_true ho
  subst ho
  have hk : HgetK h q (fun b => _) = .good := hk
  rw [HgetK_eq] at hk
  obtain ⟨p, n, last, rest, hg, hk⟩ := AOiterK_good hk
  have hk : HgetK h p (fun b => _) = .good := hk
  rw [HgetK_eq] at hk
  obtain ⟨d, es, hgp, hk⟩ := AOmapK_good hk
  obtain ⟨hd, hk⟩ := wK_good hk
  obtain ⟨hlen, hk⟩ := wK_good hk
  have hlen := beq_true hlen
  cases ha with | ptr _ hq =>
  rename_i b z
  obtain ⟨X, hb, hX⟩ := m.obj q b z hq (by rw [hg]; simp)
  rw [hg] at hX
  cases hX with | iter hm hs hr hn hl h0 =>
  rename_i bm zm seen
  obtain ⟨arr, clock, hbm, h1, h2⟩ := map_at m hm hgp
  obtain ⟨h2, h3⟩ := h2 hd
  have hl' : n = arr.size := by rw [← hlen, h1.len]; simp
  have hcl : clock = n := by rw [h3, hl']
  subst hcl
  have hold : ∀ e ∈ arr.toList, e.born < clock := fun e he => by
    have := (dense_lt h2 e he).2
    rw [Array.length_toList] at this; omega
  rcases run_next_at (P := P) w ty b bm clock clock seen arr clock hb hbm hold (Nat.le_refl _) with ⟨hz, hrun⟩ | ⟨e, he, w1, hw1, hrun⟩
  · have hrest : rest = [] := by
      cases rest with
      | nil => rfl
      | cons i r =>
        exfalso
        have hi := hr i (.head _)
        have hsi := (hs i hi).2 (.head _)
        have hia : i < arr.size := by omega
        have hmem : arr[i] ∈ leftOf arr seen := by
          unfold leftOf
          rw [Array.mem_filter]
          have hbi : arr[i].born = i := by
            have := dense_born (j := i) h2 (by rw [Array.getElem?_toList, Array.getElem?_eq_getElem hia])
            omega
          exact ⟨Array.getElem_mem hia, by rw [hbi, hsi]; rfl⟩
        have hne : leftOf arr seen = #[] := Array.eq_empty_of_size_eq_zero hz
        rw [hne] at hmem
        simp at hmem
    subst hrest
    exact ⟨_, w, ι, h, hrun, Post.refl m, _, .tup (.cons (.bool false) .nil), hk⟩
  · obtain ⟨he1, he2⟩ := mem_left he
    obtain ⟨i, hi⟩ := List.getElem?_of_mem he1
    have hbi : e.born = i := by have := dense_born h2 hi; omega
    have hin : i < clock := by rw [← hbi]; exact hold e he1
    rw [hbi] at he2 hrun
    have hir : i ∈ rest := (hs i hin).1 he2
    have hB : ∃ d' r, rest = d' ++ i :: r ∧ Branch q p clock es h k i (d' ++ r) := by
      match rest, hir, hk with
      | [j], hir, hk =>
        have hij : i = j := by simpa using hir
        subst hij
        exact ⟨[], [], rfl, hk⟩
      | j :: j' :: r, hir, hk =>
        obtain ⟨d', r', e1, e2⟩ := forkK_good hk i hir
        exact ⟨d', r', e1, e2⟩
    obtain ⟨d', r, e1, hB⟩ := hB
    obtain ⟨ka, va, e', e3, e4, e5, hK⟩ := nthM_good h1 hB
    rw [hi] at e3
    injection e3 with e3
    subst e3
    have hK : HsetK h q _ (fun b => _) = .good := hK
    rw [HsetK_eq] at hK
    have sw : SameW w w1 := by rcases hw1 with rfl | rfl <;> exact ⟨rfl, rfl, rfl, rfl⟩
    have m1 : MR rt ι h w1 := (Post.same m sw).mr
    have hb1 : w1.heap[b]? = some (.mapIter (some bm) clock seen clock) := by rw [sw.heap]; exact hb
    subst e1
    rw [List.nodup_append] at hn
    obtain ⟨n1, n2, n3⟩ := hn
    rw [List.nodup_cons] at n2
    have P2 : Post rt ι h w1 ι (h.set q (.iter p clock (i + 1) (d' ++ r))) (setBlock w1 b (.mapIter (some bm) clock (seen.push i) clock)) :=
      Post.set m1 hq (by rw [hg]; simp) (by rw [hg]; rintro ⟨_, _, _, _, h⟩; cases h) (setBlock_SetW hb1) (by
        refine .iter hm (fun j hj => ?_) (fun j hj => hr j ?_) ?_ (fun j hj => ?_) (by omega)
        · rw [Array.contains_push]
          have := hs j hj
          by_cases hji : j = i
          · subst hji
            simp only [beq_self_eq_true, Bool.or_true, Bool.true_eq_false, false_iff, List.mem_append, not_or]
            exact ⟨fun h => n3 j h j (.head _) rfl, n2.1⟩
          · have hb : (j == i) = false := by simp [hji]
            rw [show (j == i) = false from hb, Bool.or_false, this]
            simp [hji]
        · rcases List.mem_append.1 hj with h | h
          · exact List.mem_append.2 (.inl h)
          · exact List.mem_append.2 (.inr (.tail _ h))
        · rw [List.nodup_append]
          exact ⟨n1, n2.2, fun a ha b hb => n3 a ha b (.tail _ hb)⟩
        · have : i = j := by omega
          subst this
          simp)
    exact ⟨_, _, ι, _, hrun, (Post.same m sw).trans P2, _, .tup (.cons (.bool true) (.cons e4 (.cons e5 .nil))), hK⟩

theorem entryK_good {k : AV → Ans} (m : MR rt ι h w) (ha : VR ι a x) (hk : entryK a h k = .good) : Reads ι P w (Instr.entry x) k := by
  obtain ⟨q, o, rfl, hk⟩ := asPtr_good hk
  obtain ⟨ho, hk⟩ := wK_good hk
  have ho := beq_true ho
  subst ho
  have hk : HgetK h q (fun b => _) = .good := hk
  rw [HgetK_eq] at hk
  obtain ⟨p, n, last, rest, hg, hk⟩ := AOiterK_good hk
  have hk : HgetK h p (fun b => _) = .good := hk
  rw [HgetK_eq] at hk
  obtain ⟨d, es, hgp, hk⟩ := AOmapK_good hk
  obtain ⟨hd, hk⟩ := wK_good hk
  obtain ⟨hlen, hK⟩ := wK_good hk
  have hlen := beq_true hlen
  cases ha with | ptr _ hq =>
  rename_i b z
  obtain ⟨X, hb, hX⟩ := m.obj q b z hq (by rw [hg]; simp)
  rw [hg] at hX
  cases hX with | iter hm hs hr hn hl h0 =>
  rename_i bm zm seen
  obtain ⟨arr, clock, hbm, h1, h2⟩ := map_at m hm hgp
  obtain ⟨h2, h3⟩ := h2 hd
  have hcl : clock = n := by rw [h3, ← hlen, h1.len]; simp
  subst hcl
  cases last with
  | zero => cases hK
  | succ i =>
    obtain ⟨ka, va, e, e3, e4, e5, hK2⟩ := nthM_good h1 hK
    have hbk := hl i rfl
    have hbi : e.born = i := by have := dense_born h2 e3; omega
    have hf : arr.find? (·.born == i) = some e := by rw [← hbi, ← Array.find?_toList]; exact find_born e arr.toList (dense_nodup h2) (List.mem_of_getElem? e3)
    refine ⟨_, _, ?_, .tup (.cons e4 (.cons e5 .nil)), hK2⟩
    simp only [Instr.entry, getObj, Sem.run_bind, Sem.run, hb, hbm, Result.andThen, hbk, bne_self_eq_false, Bool.false_eq_true, if_false, hf]
    rfl
end Go.Ev

namespace Go.Ev
open Go
set_option linter.unusedSectionVars false
variable [Sym]
set_option linter.unusedVariables false
set_option linter.unusedSimpArgs false
variable {rt : Nat → Option RT} {ι : Inj} {P : Program} {h : H} {w : World} {s d t e : TypeId} {a b v : AV} {x y : Value}

def foldB (acc : Nat) (l : List UInt8) : Nat := l.foldl (fun a b => a * 256 + b.toNat) acc
theorem packB_good : ∀ {cs : AV} {acc : Nat} {k : Nat → Ans} {xs : List Value}, packB cs acc k = .good → VRL ι cs xs → ∃ bs : List UInt8, xs = bs.map (fun b => Value.int .u8 b.toNat) ∧ k (foldB acc bs) = .good := by
  intro cs
  induction cs with
  | nil => intro acc k xs h hv; cases hv; exact ⟨[], rfl, h⟩
  | cons c r _ ih =>
    intro acc k xs h hv
    cases c <;> try (exfalso; cases h; done)
    rename_i kk n _ihc
    by_cases hk : kk = 4
    · subst hk
      have h : wK (Nat.ble n 255) (packB r (Nat.add (Nat.mul acc 256) n) k) = .good := h
      have hn := ble_true (wK_good h).1
      replace h := (wK_good h).2
      cases hv with | cons h1 h2 =>
      cases h1
      obtain ⟨bs, rfl, h3⟩ := ih h h2
      refine ⟨UInt8.ofNat n :: bs, ?_, ?_⟩
      · have : (UInt8.ofNat n).toNat = n := by simp; omega
        rw [List.map_cons, this]; rfl
      · have : (UInt8.ofNat n).toNat = n := by simp; omega
        show k (foldB (acc * 256 + (UInt8.ofNat n).toNat) bs) = .good
        rw [this]; exact h3
    · exfalso
      unfold packB at h
      split at h
      all_goals first | (cases h; done) | (simp_all; done)
  | _ => intro acc k xs h; exfalso; cases h

theorem foldB_zero (l : List UInt8) : foldB 0 l = pack l := rfl
theorem VR.bytes (l : List UInt8) (h : l.length < 4294967296) : VR ι (.str l.length (pack l)) (.string ⟨l.toArray⟩) := by
  have := VR.str' (ι := ι) (s := ⟨l.toArray⟩) (n := l.length) (x := pack l) (by show l.toArray.size < _; simpa using h) (by show _ = l.toArray.size; simp) (by show _ = pack l.toArray.toList; simp)
  exact this

theorem foldl_push (l : List UInt8) : ∀ (acc : ByteArray), l.foldl (fun r b => r.push b) acc = ⟨acc.data ++ l.toArray⟩ := by
  induction l with
  | nil => intro acc; simp
  | cons b l ih =>
    intro acc
    rw [List.foldl_cons, ih]
    apply ByteArray.ext
    simp [ByteArray.push]

theorem zero_pack (k : Nat → Ans) : ∀ (n i : Nat), packB ((Row.rz (.int 4 0)).list n i) 0 k = k 0
  | 0, i => by show fN 0 k = _; rw [fN_eq]
  | n + 1, i => by
    show wK (Nat.ble 0 255) (packB ((Row.rz (.int 4 0)).list n (i + 1)) (Nat.add (Nat.mul 0 256) 0) k) = _
    exact zero_pack k n (i + 1)
theorem rzK_good {c : Row} {yes no : Ans} (hk : rzK c yes no = .good) : (c = .rz (.int 4 0) ∧ yes = .good) ∨ no = .good := by
  unfold rzK at hk
  split at hk
  · exact .inl ⟨rfl, hk⟩
  · exact .inr hk
theorem zeroB_good {v : AV} {n : Nat} {h : H} {k : Nat → Ans} (hk : zeroB v n h (k 0) (firstK 1 n v h fun cs => packB cs 0 k) = .good) : firstK 1 n v h (fun cs => packB cs 0 k) = .good := by
  unfold zeroB at hk
  cases hb : Nat.ble n 65535 with
  | true => rw [hb] at hk; exact hk
  | false =>
  rw [hb] at hk
  have hk : zeroS v n h (k 0) (firstK 1 n v h fun cs => packB cs 0 k) = .good := hk
  cases v with
  | sl p o l c0 =>
    have hk : HgetK h p (fun b => AOcellsK b fun _ _ _ m _ c => rzK c (wK (Nat.ble (Nat.add o n) m) (k 0)) (firstK 1 n (.sl p o l c0) h fun cs => packB cs 0 k)) = .good := hk
    rw [HgetK_eq] at hk
    obtain ⟨et, mk, fz, m, ex, c, hg, hk⟩ := AOcellsK_good hk
    rcases rzK_good hk with ⟨rfl, hk⟩ | hk
    · obtain ⟨h1, hk⟩ := wK_good hk
      show HgetK h p (fun b => AOcellsK b fun _ _ _ m _ c => wK (Nat.ble (Nat.add o (Nat.mul n 1)) m) (rowK (Nat.mul n 1) c o fun cs => packB cs 0 k)) = .good
      rw [HgetK_eq, hg]
      show wK (Nat.ble (Nat.add o (Nat.mul n 1)) m) (rowK (Nat.mul n 1) (Row.rz (.int 4 0)) o fun cs => packB cs 0 k) = .good
      rw [show Nat.mul n 1 = n from Nat.mul_one n, h1]
      show rowK n (Row.rz (.int 4 0)) o (fun cs => packB cs 0 k) = .good
      rw [rowK_eq, zero_pack]
      exact hk
    · exact hk
  | _ => exact hk
theorem bytesToStrK_good {k : AV → Ans} (hs : P.underlying s = some (.slice e)) (he : P.underlying e = some (.int .u8)) (hd : P.underlying d = some .string) (M : MR rt ι h w) (ha : VR ι a x) (hk : bytesToStrK a h k = .good) :
    Reads ι P w (convert s d x) k := by
  unfold bytesToStrK at hk
  split at hk
  · cases hk
  · rename_i hne
    obtain ⟨n, h1, h2, h3, hsh⟩ := lenNK_good (P := P) ha hk
    obtain ⟨h4, h5⟩ := wK_good h3
    have h5 := zeroB_good (k := fun x => k (.str n x)) h5
    obtain ⟨cs, xs, c1, c2, c3, c4⟩ := firstK_good (P := P) M ha h5
    obtain ⟨bs, rfl, h6⟩ := packB_good c3 c1
    rw [foldB_zero] at h6
    have hl : bs.length = n := by simpa using c2
    have hle := ble_true h4
    refine ⟨_, .string ⟨bs.toArray⟩, ?_, hl ▸ VR.bytes bs (by rw [hl]; omega), h6⟩
    have c4 := c4 w (.refl w)
    have hc : ∀ (o : Option Addr) (l c : Nat), (convert s d (.slice o l c)).run P w = (Conv.bytesToString (.slice o l c)).run P w := fun o l c => by
      simp only [convert, Sem.run_bind, run_und hs, run_und hd, run_und he, Result.andThen_ok]
    have nz : ∀ (q : Addr) (c : Nat), x = .slice (some q) n c → (convert s d x).run P w = .ok (.string ⟨bs.toArray⟩) w := fun q c hx => by
      subst hx
      rw [hc]
      have c4 : (loadCells q (n * 1)).run P w = .ok (bs.map (fun b => Value.int .u8 b.toNat)).toArray w := c4
      rw [Nat.mul_one] at c4
      rw [run_bytesToString w q n c (bs.map fun b => (b.toNat : Int)) (by rw [c4, List.map_map]; rfl)]
      rw [List.foldl_map]
      simp only [Int.toNat_natCast, UInt8.ofNat_toNat]
      rw [foldl_push]
      congr 2
      simp
    rcases hsh with ⟨p, o, c, rfl⟩ | ⟨p, o, c, rfl⟩ | ⟨z, rfl⟩ | ⟨rfl, rfl | rfl⟩
    · cases ha with | sl _ _ _ hp _ _ => exact nz _ _ rfl
    · cases ha with | slo _ _ _ _ hp _ _ _ => exact nz _ _ rfl
    · exact absurd rfl (hne _ _)
    · cases ha
      rw [hc]
      have : bs = [] := List.eq_nil_of_length_eq_zero hl
      subst this
      rfl
    · cases ha with | szero q c => exact nz q c rfl
theorem pushFreeze (w w1 : World) (sw : SameW w w1) (arr : Array Value) (e : TypeId) (lo hi : Nat) :
    PushW w (({ w1 with heap := w1.heap.push (.cells arr e (0, 0)) } : World).freeze { block := w1.heap.size, off := lo } 1) (.cells arr e (lo, lo + 1)) := by
  unfold World.freeze
  rw [if_neg (by decide)]
  refine ⟨?_, sw.os, sw.tape, sw.output⟩
  dsimp only
  rw [sw.heap]
  apply Array.ext_getElem?
  intro i
  rw [Array.getElem?_modify]
  by_cases hi : w.heap.size = i
  · subst hi
    simp
  · rw [if_neg hi]
    rcases Nat.lt_or_ge i w.heap.size with h1 | h1
    · simp [Array.getElem?_push, h1, Nat.ne_of_lt h1]
    · rw [Array.getElem?_eq_none (by simp; omega), Array.getElem?_eq_none (by simp; omega)]

theorem VRL.bytes (l : List UInt8) {cs : AV} (h : VRL ι cs (l.map (fun b => Value.int .u8 b.toNat) ++ [])) : VRL ι cs (l.map fun b => Value.int .u8 b.toNat) := by simpa using h

theorem strToBytesK_good {k : AV → H → Ans} (hs : P.underlying s = some .string) (hd : P.underlying d = some (.slice e)) (he : P.underlying e = some (.int .u8)) (M : MR rt ι h w) (ha : VR ι a x) (hk : strToBytesK e a h k = .good) :
    DoesV rt ι P h w (convert s d x) k := by
  obtain ⟨n, p, rfl, hk⟩ := asStr_good hk
  obtain ⟨h1, hk⟩ := wK_good hk
  obtain ⟨u, rfl, rfl, rfl, hu⟩ := str_of ha
  obtain ⟨cs, c1, hk⟩ := bytesK_good u.data.toList (.nil : VRL ι .nil []) hk
  have c1 := VRL.bytes _ c1
  obtain ⟨c, l1, hk⟩ := layK_good cs hk
  obtain ⟨q, h2, hk⟩ := HnewK_good hk
  obtain ⟨f1, f2, f3⟩ := l1.facts c1
  obtain ⟨nc, w1, hc1, sw, hnc⟩ := run_appendCap (P := P) u.size 0 e w
  have hle : u.data.toList.length ≤ maxElems := ble_true h1
  have hsz : u.data.toList.length = u.size := size_toList u
  let arr : Array Value := (u.data.map fun (b : UInt8) => Value.int .u8 b.toNat) ++ Array.replicate (nc - u.size) (Value.int .u8 0)
  have hasz : arr.size = nc := by
    show (((u.data.map fun (b : UInt8) => Value.int .u8 b.toNat) : Array Value) ++ Array.replicate (nc - u.size) (Value.int .u8 0)).size = nc
    rw [Array.size_append, Array.size_map, Array.size_replicate]
    have : u.data.size = u.size := rfl
    omega
  have pw := pushFreeze w w1 sw arr e nc nc
  refine ⟨.slice (some ⟨w.heap.size, 0, none⟩) u.size nc, _, upd ι h.nx (w.heap.size, nc), _, ?_, Post.alloc M pw h2 (z := nc) ?_, .slo h.nx 0 u.data.toList.length 1, ?_, hk⟩
  · have : (convert s d (.string u)).run P w = (Conv.stringToBytes e u).run P w := by
      simp only [convert, Sem.run_bind, run_und hs, run_und hd, run_und he, Result.andThen_ok]
    rw [this]
    unfold Conv.stringToBytes
    refine (bind_ok hc1).trans ?_
    refine (bind_ok (v := (⟨w1.heap.size, 0, none⟩ : Addr)) (w' := { w1 with heap := w1.heap.push (.cells arr e (0, 0)) }) rfl).trans ?_
    refine (bind_ok (v := ()) (w' := ({ w1 with heap := w1.heap.push (.cells arr e (0, 0)) } : World).freeze { block := w1.heap.size, off := nc } 1) ?_).trans ?_
    · unfold markStringish
      refine (bind_ok (v := some (e, nc)) (w' := { w1 with heap := w1.heap.push (.cells arr e (0, 0)) }) ?_).trans ?_
      · show Result.ok (World.shape? _ _) _ = _
        congr 1
        simp [World.shape?, hasz]
      · rfl
    · rw [sw.heap]; rfl
  · refine .cells hasz (by rw [hsz]; exact hnc) ?_ (fun h => by cases h) (fun i hi => ?_) (.inr (.inr (.inl ⟨rfl, Nat.le_refl _⟩)))
    · rcases Nat.eq_zero_or_pos u.data.toList.length with h0 | h0
      · omega
      · have := (f3 (u.data.toList.length - 1) _ (List.getElem?_eq_getElem (by simp at h0 ⊢; omega))).1
        omega
    · have hi' : i < (u.data.toList.map fun b => Value.int .u8 b.toNat).length := by rw [List.length_map]; exact hi
      have := f3 i _ (List.getElem?_eq_getElem hi')
      rw [Nat.zero_add] at this
      refine ⟨trivial, _, ?_, this.2.2.1.ext (upd_ext _ (M.fresh (Nat.le_refl _)))⟩
      show (((u.data.map fun (b : UInt8) => Value.int .u8 b.toNat) : Array Value) ++ Array.replicate (nc - u.size) (Value.int .u8 0))[i]? = _
      rw [Array.getElem?_append_left (by rw [Array.size_map]; have : u.data.size = u.size := rfl; omega)]
      rw [← Array.getElem?_toList, Array.toList_map]
      exact List.getElem?_eq_getElem hi'
  · rw [hsz]
    exact .slo 0 u.size 1 nc (upd_same _ _ _) (by omega) hnc (by rw [← hsz]; exact Nat.le_trans hle (by decide))
theorem OR.refreeze {z : Nat} {et : Nat} {mk mk' : Bool} {fz fz' n : Nat} {ex : Bool} {c : Row} {arr : Array Value} {lo hi lo' hi' : Nat} {b : Nat} (r : RowOf rt ι w b z et mk fz n ex c arr lo hi) (hf : FzR mk' fz' z lo' hi') :
    OR rt ι z (.cells et mk' fz' n ex c) (.cells arr et (lo', hi')) :=
  .cells r.hz r.hn r.hr r.hx r.hc hf

theorem setFreeze {b : Nat} {arr : Array Value} {et lo hi : Nat} (hb : w.heap[b]? = some (.cells arr et (lo, hi))) (o n : Nat) (hn : n ≠ 0) :
    SetW w (w.freeze { block := b, off := o } n) b (.cells arr et (if lo == hi then (o, o + n) else (min lo o, max hi (o + n)))) := by
  have hlt : b < w.heap.size := (Array.getElem?_eq_some_iff.1 hb).1
  unfold World.freeze
  rw [if_neg hn]
  refine ⟨rfl, rfl, rfl, by simp, ?_, fun c hc => ?_⟩
  · show (w.heap.modify b _)[b]? = _
    rw [Array.getElem?_modify, if_pos rfl, hb]
    rfl
  · show (w.heap.modify b _)[c]? = _
    rw [Array.getElem?_modify, if_neg (Ne.symm hc)]

theorem markK_good {k : AV → H → Ans} (hs : P.underlying s = some (.slice e)) (he : P.underlying e = some (.int .u8)) (M : MR rt ι h w) (ha : VR ι a x) (hk : markK a h k = .good) :
    DoesV rt ι P h w (convert s s x) k := by
  have go : ∀ (p : P4) (bb zz o l c : Nat), ι p = some (bb, zz) → x = .slice (some ⟨bb, o, none⟩) l c →
      HgetK h p (fun b => AOcellsK b fun et _ fz n ex c => wK (Nat.beq fz 0) (HsetK h p (AO.cells et true fz n ex c) fun h => k a h)) = .good → DoesV rt ι P h w (convert s s x) k := fun p bb zz o l c hp hx hk => by
    rw [HgetK_eq] at hk
    obtain ⟨et, mk, fz, n, ex, c, hg, hk⟩ := AOcellsK_good hk
    obtain ⟨h0, hk⟩ := wK_good hk
    rw [HsetK_eq] at hk
    have h0 := beq_true h0
    subst h0
    obtain ⟨arr, lo, hi, r⟩ := M.row hp hg
    have st := setFreeze r.at_ zz 1 (by decide)
    refine ⟨x, _, ι, _, ?_, Post.set M hp (by rw [hg]; intro e; cases e) (by rw [hg]; exact not_sealed (Nat.zero_le _)) st ?_, a, ha, hk⟩
    · subst hx
      simp only [convert, Sem.run_bind, run_und hs, run_und he, Result.andThen_ok, beq_self_eq_true]
      have : (markStringish ⟨bb, o, none⟩).run P w = .ok () (w.freeze { block := bb, off := zz } 1) := by
        unfold markStringish
        refine (bind_ok (v := some (et, zz)) (w' := w) ?_).trans ?_
        · show Result.ok (World.shape? _ _) _ = _
          congr 1
          simp [World.shape?, r.at_, r.hz]
        · rfl
      rw [this]
      rfl
    · by_cases hlh : lo = hi
      · rw [if_pos (by rw [hlh]; simp)]
        exact OR.refreeze r (.inr (.inr (.inl ⟨rfl, Nat.le_refl _⟩)))
      · rw [if_neg (by simpa using hlh)]
        refine OR.refreeze r ?_
        rcases r.hf with q | ⟨_, q1, q2⟩ | ⟨_, q⟩ | q
        · exact absurd q hlh
        · omega
        · exact .inr (.inr (.inl ⟨rfl, by omega⟩))
        · omega
  unfold markK at hk
  split at hk
  · cases ha with | sl _ _ _ hp _ _ => exact go _ _ _ _ _ _ hp rfl hk
  · cases ha with | slo _ _ _ _ hp _ _ _ => exact go _ _ _ _ _ _ hp rfl hk
  · cases hk

theorem seenAt_row {b z et : Nat} {mk : Bool} {fz n : Nat} {ex : Bool} {c : Row} {arr : Array Value} {lo hi : Nat} (r : RowOf rt ι w b z et mk fz n ex c arr lo hi) (o : Nat) : (Conv.seenAt ⟨b, o, none⟩).run P w = .ok ⟨b, o, none⟩ w := by
  have hsh : w.shape? b = some (et, z) := by simp [World.shape?, r.at_, r.hz]
  unfold Conv.seenAt
  refine (bind_ok (v := none) (w' := w) ?_).trans rfl
  unfold viewAt
  refine (bind_ok (v := some (et, z)) (w' := w) ?_).trans rfl
  show Result.ok (w.shape? b) w = _
  rw [hsh]
theorem shape_row {b z et : Nat} {mk : Bool} {fz n : Nat} {ex : Bool} {c : Row} {arr : Array Value} {lo hi : Nat} (r : RowOf rt ι w b z et mk fz n ex c arr lo hi) : (shape b).run P w = .ok (some (et, z)) w := by
  show Result.ok (w.shape? b) w = _
  simp [World.shape?, r.at_, r.hz]

theorem toUnsafeK_good {n : Nat} {k : AV → Ans} (hs : P.underlying s = some (.pointer t)) (hd : P.underlying d = some .unsafePointer) (hz : sizeT P t = some (n + 1)) (M : MR rt ι h w) (ha : VR ι a x) (hk : toUnsafeK a h k = .good) :
    Reads ι P w (convert s d x) k := by
  unfold toUnsafeK at hk
  split at hk
  · cases ha with | pnil =>
    refine ⟨_, .pointer none, ?_, .pnil, hk⟩
    simp only [convert, Sem.run_bind, run_und hs, run_und hd, Result.andThen_ok, Conv.unsafePointer, Sem.run_pure]
  · rename_i p o
    rw [HgetK_eq] at hk
    obtain ⟨et, mk, fz, m, ex, c, hg, hk⟩ := AOcellsK_good hk
    obtain ⟨h0, hk⟩ := wK_good hk
    have h0 : o + 1 ≤ m := ble_true h0
    cases ha with | ptr _ hp =>
    rename_i bb zz
    obtain ⟨arr, lo, hi, r⟩ := M.row hp hg
    have hmz := r.hn
    refine ⟨_, .pointer (some ⟨bb, o, none⟩), ?_, .ptr o hp, hk⟩
    have hc : (cellsIn bb).run P w = .ok (some zz) w := by
      unfold cellsIn
      exact (bind_ok (shape_row r)).trans rfl
    simp only [convert, Sem.run_bind, run_und hs, run_und hd, Result.andThen_ok, Conv.unsafePointer, seenAt_row r, hc, run_sizeOf hz, Sem.run_pure]
    rw [if_neg]
    · rfl
    · simp; omega
  · cases hk

theorem fromUnsafeK_good {n : Nat} {k : AV → Ans} (hs : P.underlying s = some .unsafePointer) (hd : P.underlying d = some (.pointer t)) (hz : sizeT P t = some n) (M : MR rt ι h w) (ha : VR ι a x) (hk : fromUnsafeK (liesB P t) a h k = .good) :
    Reads ι P w (convert s d x) k := by
  unfold fromUnsafeK at hk
  split at hk
  · cases ha with | pnil =>
    refine ⟨_, .pointer none, ?_, .pnil, hk⟩
    simp only [convert, Sem.run_bind, run_und hs, run_und hd, Result.andThen_ok, Conv.unsafePointer, Sem.run_pure]
  · rename_i p o
    rw [HgetK_eq] at hk
    obtain ⟨et, mk, fz, m, ex, c, hg, hk⟩ := AOcellsK_good hk
    obtain ⟨h0, hk⟩ := wK_good hk
    obtain ⟨h1, hk⟩ := wK_good hk
    cases ha with | ptr _ hp =>
    rename_i bb zz
    obtain ⟨arr, lo, hi, r⟩ := M.row hp hg
    have hmz := r.hx h0
    subst hmz
    refine ⟨_, .pointer (some ⟨bb, o, none⟩), ?_, .ptr o hp, hk⟩
    have hv : (variablesAt ⟨bb, o, none⟩ t 1).run P w = .ok true w := by
      unfold variablesAt
      refine (bind_ok (v := P) (w' := w) rfl).trans ?_
      refine (bind_ok (shape_row r)).trans ?_
      show Result.ok _ w = _
      rw [← h1]; rfl
    simp only [convert, Sem.run_bind, run_und hs, run_und hd, Result.andThen_ok, Conv.unsafePointer, seenAt_row r, run_sizeOf hz, hv, Sem.run_pure]
    by_cases hn : n = 0
    · subst hn; rfl
    · simp [hn]
  · cases hk
end Go.Ev

namespace Go.Ev
open Go
set_option linter.unusedSectionVars false
variable [Sym]
set_option linter.unusedVariables false
set_option linter.unusedSimpArgs false
variable {rt : Nat → Option RT} {ι : Inj} {P : Program} {h : H} {w : World} {s d t e : TypeId} {a b v : AV} {x y : Value}

theorem liesAt_bytes_at {e : TypeId} (hc : P.cellsOf e = 1) (count o n : Nat) (hn : o + n ≤ count) : liesAt P P.depth e count o e n = true := by
  have hd : P.depth = (2 * (P.types.size + Made.depth) + 1) + 1 := rfl
  rw [hd]
  simp only [liesAt, Bool.or_eq_true]
  left
  rw [hd]
  simp [rowAt, hc, hn, sameLayout, Nat.mod_one]

theorem unsafeStringK_good {ts : Array TypeId} {ty : TypeId} {k : AV → H → Ans} (ht : ts[0]? = some t) (hu : P.underlying t = some (.pointer e)) (he : sizeT P e = some 1) (M : MR rt ι h w) (ha : VR ι a x) (hb : VR ι b y) (hk : unsafeStringK e a b h k = .good) :
    DoesV rt ι P h w (Builtin.unsafeString_ ts ty #[x, y]) k := by
  have hmax : IntKind.i64.max = 9223372036854775807 := by decide
  unfold unsafeStringK at hk
  split at hk
  · cases ha with | pnil =>
    obtain ⟨kk, i, rfl, hi, hk⟩ := inK_good hk hb
    have : i = 0 := by omega
    subst this
    refine ⟨.string .empty, w, ι, h, ?_, Post.refl M, _, .str' (by decide) rfl rfl, hk⟩
    unfold Builtin.unsafeString_
    refine (bind_ok (v := (0 : Int)) (w' := w) rfl).trans ?_
    rw [ht]
    rfl
  · rename_i p o
    cases ha with | ptr _ hp =>
    rename_i bb zz
    obtain ⟨kk, n, rfl, hn, hk⟩ := inK_good hk hb
    rw [HgetK_eq] at hk
    obtain ⟨et, mk, fz, m, ex, c, hg, hk⟩ := AOcellsK_good hk
    obtain ⟨h0, hk1⟩ := wK_good hk
    clear hk
    rcases bK_good hk1 with ⟨_, hk2⟩ | ⟨hmk, hk2⟩
    · cases hk2
    clear hk1
    rcases bK_good hk2 with ⟨_, hk3⟩ | ⟨hn0, hk3⟩
    · cases hk3
    clear hk2
    obtain ⟨h1, hk4⟩ := wK_good hk3
    clear hk3
    obtain ⟨h2, hk5⟩ := wK_good hk4
    clear hk4
    rw [rowK_eq] at hk5
    have h0 := beq_true h0
    cases h0; subst hmk
    have h1 : o + n ≤ m := ble_true h1
    have h2 : fz ≤ m := ble_true h2
    have hn0 := beq_false hn0
    obtain ⟨arr, lo, hi, r⟩ := M.row hp hg
    have hmz := r.hn
    obtain ⟨bs, hbs, hk⟩ := packB_good hk5 (list_VRL r n o h1)
    rw [HsetK_eq, foldB_zero] at hk
    have hl : bs.length = n := by
      have := congrArg List.length hbs
      rw [List.length_map, List.length_take, List.length_drop, Array.length_toList, r.hz] at this
      omega
    have hne : n ≤ 2097152 := hn
    refine ⟨.string ⟨bs.toArray⟩, _, ι, _, ?_, Post.set M hp (by rw [hg]; intro e; cases e) (by rw [hg]; exact not_sealed h2) (setFreeze r.at_ o n hn0) ?_, _, hl ▸ VR.bytes bs (by rw [hl]; omega), hk⟩
    · unfold Builtin.unsafeString_
      refine (bind_ok (v := (n : Int)) (w' := w) rfl).trans ?_
      rw [ht]
      show ((if (n : Int) < 0 then _ else _ : Sem Value)).run P w = _
      rw [if_neg (by omega), if_neg (by rw [hmax]; omega)]
      show ((if (n : Int) = 0 then _ else _ : Sem Value)).run P w = _
      rw [if_neg (by omega)]
      refine (bind_ok (v := e) (w' := w) ?_).trans ?_
      · unfold elemOf
        exact (bind_ok (run_und hu w)).trans rfl
      refine (bind_ok (v := true) (w' := w) ?_).trans ?_
      · unfold variablesAt
        refine (bind_ok (v := P) (w' := w) rfl).trans ?_
        refine (bind_ok (shape_row r)).trans ?_
        show Result.ok _ w = _
        have hc : P.cellsOf e = 1 := by
          obtain ⟨i, hi, hs⟩ := sizeT_info he
          simp [Program.cellsOf, hi, hs]
        rw [hc, Nat.div_one]
        congr 1
        exact liesAt_bytes_at hc zz o _ (by simp; omega)
      · rw [if_pos rfl]
        show (loadBytes ⟨bb, o, none⟩ .empty (n : Int).toNat >>= fun s => _).run P w = _
        have hlb := Go.Lib.run_loadBytes (P := P) w bs ⟨bb, o, none⟩ .empty (fun j x hj => by
          rw [addr_add, cell_at r.at_]
          have hj' : (bs.map fun b => Value.int .u8 b.toNat)[j]? = some (.int .u8 x.toNat) := by rw [List.getElem?_map, hj]; rfl
          rw [← hbs, List.getElem?_take] at hj'
          split at hj'
          · rw [List.getElem?_drop] at hj'; simpa using hj'
          · cases hj')
        rw [Int.toNat_natCast]
        rw [hl] at hlb
        refine (bind_ok hlb).trans ?_
        have e0 : (ByteArray.mk ((ByteArray.empty).data ++ bs.toArray)) = ⟨bs.toArray⟩ := by simp
        rw [e0]
        rfl
    · by_cases hlh : lo = hi
      · rw [if_pos (by rw [hlh]; simp)]
        exact OR.refreeze r (.inr (.inl ⟨rfl, by omega, Nat.le_max_right _ _⟩))
      · rw [if_neg (by simpa using hlh)]
        refine OR.refreeze r ?_
        have e1 : Nat.max fz (Nat.add o n) = max fz (o + n) := rfl
        rcases r.hf with q | ⟨_, q1, q2⟩ | ⟨q, _⟩ | q
        · exact absurd q hlh
        · exact .inr (.inl ⟨rfl, by omega, by rw [e1]; omega⟩)
        · cases q
        · omega
  · cases hk
end Go.Ev

namespace Go.Ev
open Go
set_option linter.unusedSectionVars false
variable [Sym]
set_option linter.unusedVariables false
set_option linter.unusedSimpArgs false
def Nothing' (P : Program) (s : Sem Next) (w w' : World) : Prop := s.run P w = .ok .skip w' ∨ s.run P w = .ok (.value (.tuple #[])) w'
def DkOk (ι : Inj) (P : Program) (s : Sem Next) : DK → Prop
  | .no => True
  | .direct v => ∃ x, VR ι v x ∧ ∀ w, s.run P w = .ok (.value x) w
  | .pure f => ∀ k, f k = .good → ∃ a x, (∀ w, s.run P w = .ok (.value x) w) ∧ VR ι a x ∧ k a = .good
  | .read f => ∀ rt h w k, MR rt ι h w → f h k = .good → ∃ a x, s.run P w = .ok (.value x) w ∧ VR ι a x ∧ k a = .good
  | .write f => ∀ rt h w k, MR rt ι h w → f h k = .good → ∃ w' ι' h', Nothing' P s w w' ∧ Post rt ι h w ι' h' w' ∧ k h' = .good
  | .alloc f | .both f => ∀ rt h w k, MR rt ι h w → f h k = .good → ∃ x w' ι' h', s.run P w = .ok (.value x) w' ∧ Post rt ι h w ι' h' w' ∧ ∃ a, VR ι' a x ∧ k a h' = .good

variable {ι : Inj} {P : Program} {s : Sem Value} {u : Sem Unit}
def vN (s : Sem Value) : Sem Next := do pure (.value (← s))
def uN (s : Sem Unit) : Sem Next := do s; pure .skip

theorem dk_pure {f : (AV → Ans) → Ans} (h : ∀ k, f k = .good → Gives ι P s k) : DkOk ι P (vN s) (.pure f) := fun k hk =>
  let ⟨a, x, h1, h2, h3⟩ := h k hk
  ⟨a, x, fun w => (bind_ok (h1 w)).trans rfl, h2, h3⟩
theorem dk_direct {v : AV} {x : Value} (hv : VR ι v x) (h : ∀ w, s.run P w = .ok x w) : DkOk ι P (vN s) (.direct v) :=
  ⟨x, hv, fun w => (bind_ok (h w)).trans rfl⟩
theorem dk_read {f : H → (AV → Ans) → Ans} (h : ∀ rt h w k, MR rt ι h w → f h k = .good → Reads ι P w s k) : DkOk ι P (vN s) (.read f) := fun rt hh w k m hk =>
  let ⟨a, x, h1, h2, h3⟩ := h rt hh w k m hk
  ⟨a, x, (bind_ok h1).trans rfl, h2, h3⟩
theorem dk_write {f : H → (H → Ans) → Ans} (h : ∀ rt h w k, MR rt ι h w → f h k = .good → DoesU rt ι P h w u k) : DkOk ι P (uN u) (.write f) := fun rt hh w k m hk =>
  let ⟨_, w', ι', h', h1, h2, h3⟩ := h rt hh w k m hk
  ⟨w', ι', h', .inl ((bind_ok h1).trans rfl), h2, h3⟩
theorem dk_writeV {f : H → (H → Ans) → Ans} (h : ∀ rt h w k, MR rt ι h w → f h k = .good → Does rt ι P h w s fun _ x h' => x = .tuple #[] ∧ k h' = .good) : DkOk ι P (vN s) (.write f) := fun rt hh w k m hk =>
  let ⟨x, w', ι', h', h1, h2, h3, h4⟩ := h rt hh w k m hk
  ⟨w', ι', h', .inr ((bind_ok h1).trans (by rw [h3]; rfl)), h2, h4⟩
theorem dk_alloc {f : H → (AV → H → Ans) → Ans} (h : ∀ rt h w k, MR rt ι h w → f h k = .good → DoesV rt ι P h w s k) : DkOk ι P (vN s) (.alloc f) := fun rt hh w k m hk =>
  let ⟨x, w', ι', h', h1, h2, a, h3, h4⟩ := h rt hh w k m hk
  ⟨x, w', ι', h', (bind_ok h1).trans rfl, h2, a, h3, h4⟩
theorem dk_both {f : H → (AV → H → Ans) → Ans} (h : ∀ rt h w k, MR rt ι h w → f h k = .good → DoesV rt ι P h w s k) : DkOk ι P (vN s) (.both f) := fun rt hh w k m hk =>
  let ⟨x, w', ι', h', h1, h2, a, h3, h4⟩ := h rt hh w k m hk
  ⟨x, w', ι', h', (bind_ok h1).trans rfl, h2, a, h3, h4⟩
section
variable {t : TypeId} {xo yo : Operand} {a b ks : AV} {x y : Value} {cn : Bool}

theorem run_guard {op : BinOp} (h : op ≠ .eql ∧ op ≠ .neq) (w : World) : (eqGuard op t xo yo x y).run P w = .ok () w := by
  unfold eqGuard
  cases op <;> first | rfl | exact absurd rfl h.1 | exact absurd rfl h.2
theorem gives_guard {op : BinOp} {s : Sem Value} {k : AV → Ans} (h : ∀ w, (eqGuard op t xo yo x y).run P w = .ok () w) (g : Gives ι P s k) : Gives ι P (do eqGuard op t xo yo x y; s) k :=
  let ⟨a, x, h1, h2, h3⟩ := g
  ⟨a, x, fun w => (bind_ok (h w)).trans (h1 w), h2, h3⟩

theorem guard_plain {op : BinOp} (h1 : ¬ (x = .nilIface ∧ y = .nilIface)) (h2 : ∀ as bs, ¬ (x = .agg as ∧ y = .agg bs)) (w : World) : (eqGuard op t xo yo x y).run P w = .ok () w := by
  cases op
  all_goals first
    | rfl
    | (cases x <;> cases y <;> first | rfl | exact absurd ⟨rfl, rfl⟩ h1 | exact absurd ⟨rfl, rfl⟩ (h2 _ _))

theorem equal_eql (hi : ∀ k n, x ≠ .int k n) (hs : ∀ s, x ≠ .string s) (hx : VR ι a x) : binOp .eql t x y = (do pure (.bool (← Op.equal t x y))) ∧ binOp .neq t x y = (do pure (.bool (!(← Op.equal t x y)))) := by
  cases hx <;> first | exact absurd rfl (hi _ _) | exact absurd rfl (hs _) | exact ⟨rfl, rfl⟩

theorem eq1_sort {s : Nat} {k : Bool → Ans} (h : eq1 s a b k = .good) (hx : VR ι a x) (hy : VR ι b y) (h3 : 3 ≤ s) :
    (∀ k n, x ≠ .int k n) ∧ (∀ s, x ≠ .string s) ∧ (∀ c, x ≠ .agg c) ∧ (x = .nilIface → y = .nilIface → a = .nl .inil ∧ b = .nl .inil) := by
  cases hx
  case num | int | neg => exfalso; unfold eq1 at h; split at h <;> first | contradiction | (cases h; done) | (have e := Ev.beq_true (wK_good h).1; subst e; exact absurd h3 (by decide))
  case str => exfalso; unfold eq1 at h; split at h <;> first | contradiction | (cases h; done) | (have e := Ev.beq_true (wK_good h).1; subst e; exact absurd h3 (by decide))
  case agg => exfalso; unfold eq1 at h; split at h <;> first | contradiction | (cases h; done)
  case any => exfalso; unfold eq1 at h; split at h <;> first | contradiction | (cases h; done)
  case inil =>
    refine ⟨fun _ _ e => (by cases e), fun _ e => (by cases e), fun _ e => (by cases e), fun _ e => ⟨rfl, ?_⟩⟩
    subst e; cases hy; rfl
  all_goals exact ⟨fun _ _ e => (by cases e), fun _ e => (by cases e), fun _ e => (by cases e), fun e => (by cases e)⟩

theorem eqSort_3 (h : eqSort P t = some ks) (hb : P.underlying t ≠ some .bool) (hi : ∀ k, P.underlying t ≠ some (.int k)) (hs : P.underlying t ≠ some .string) (s : Nat) (e : ks = .num s) : 3 ≤ s := by
  have := eqSort_good h
  subst e
  cases this with | one h0 =>
  cases h0 with
  | bool h' => exact absurd h' hb
  | int h' => exact absurd h' (hi _)
  | str h' => exact absurd h' hs
  | _ => decide
noncomputable def eqnK (neg : Bool) (ks a b : AV) (k : AV → Ans) : Ans := match neg with | false => eqvK ks a b k | true => nevK ks a b k
def eqnOp (neg : Bool) : BinOp := match neg with | false => .eql | true => .neq

theorem eqn_good {neg : Bool} {k : AV → Ans} (hks : KSort P t ks) (h3 : ∀ s, ks = .num s → 3 ≤ s) (hx : VR ι a x) (hy : VR ι b y) (hg : ∀ w, x = .nilIface → y = .nilIface → (eqGuard (eqnOp neg) t xo yo x y).run P w = .ok () w)
    (h : eqnK neg ks a b k = .good) : Gives ι P (do eqGuard (eqnOp neg) t xo yo x y; binOp (eqnOp neg) t x y) k := by
  have h : eqVB ks a b (fun r => bK r (k (.bool (!neg))) (k (.bool neg))) = .good := by cases neg <;> exact h
  have key : (∀ w, (eqGuard (eqnOp neg) t xo yo x y).run P w = .ok () w) ∧ binOp (eqnOp neg) t x y = (do pure (.bool (xor neg (← Op.equal t x y)))) := by
    have fin : (∀ k n, x ≠ .int k n) → (∀ s, x ≠ .string s) → binOp (eqnOp neg) t x y = (do pure (.bool (xor neg (← Op.equal t x y)))) := fun h1 h2 => by
      have := equal_eql (t := t) (y := y) h1 h2 hx
      cases neg
      · simp only [eqnOp, this.1, Bool.false_xor]
      · simp only [eqnOp, this.2, Bool.true_xor]
    cases hks with
    | @one s hs =>
      have h : eq1 s a b _ = .good := h
      obtain ⟨q1, q2, q3, q4⟩ := eq1_sort h hx hy (h3 s rfl)
      refine ⟨fun w => ?_, fin q1 q2⟩
      by_cases hn : x = .nilIface ∧ y = .nilIface
      · exact hg w hn.1 hn.2
      · exact guard_plain hn (fun as bs e => q3 _ e.1) w
    | st hu h1 h2 hs =>
      rename_i fs ss
      have h7 : asAgg a _ = .good := h
      obtain ⟨as, e1, h5⟩ := asAgg_good h7
      obtain ⟨bs, e2, h6⟩ := asAgg_good h5
      subst e1; subst e2
      cases hx with | agg hx =>
      cases hy with | agg hy =>
      refine ⟨fun w => ?_, fin (fun _ _ e => by cases e) (fun _ e => by cases e)⟩
      exact run_eqGuard_agg w _ t xo yo _ _ h2
  obtain ⟨r, g1, g2, g3⟩ := eqVB_good hks hx hy h
  refine gives_guard key.1 ?_
  rw [key.2]
  rcases bK_good g3 with ⟨e, g3⟩ | ⟨e, g3⟩
  · subst e
    refine ⟨_, .bool (!neg), fun w => (bind_ok (g1 w)).trans ?_, .bool _, g3⟩
    cases neg <;> rfl
  · subst e
    refine ⟨_, .bool neg, fun w => (bind_ok (g1 w)).trans ?_, .bool _, g3⟩
    cases neg <;> rfl

theorem noNils_good {k : Ans} (h : noNilsK a b k = .good) : ¬ (a = .nl .inil ∧ b = .nl .inil) ∧ k = .good := by
  unfold noNilsK at h
  split at h
  · cases h
  · rename_i hne
    exact ⟨fun e => hne e.1 e.2, h⟩
theorem guard_const {op : BinOp} (h : (isConst xo || isConst yo) = true) (hx : x = .nilIface) (hy : y = .nilIface) (w : World) : (eqGuard op t xo yo x y).run P w = .ok () w := by
  subst hx; subst hy
  cases op
  all_goals first
    | rfl
    | (cases xo <;> cases yo <;> first | rfl | (cases h; done))

theorem inil_of (h : VR ι a .nilIface) : a = .nl .inil := by cases h; rfl

theorem dEqn_ok {neg : Bool} {f : (AV → Ans) → Ans} {k : AV → Ans} (hx : VR ι a x) (hy : VR ι b y) (hd : (match neg with | false => dEql P t (isConst xo || isConst yo) a b | true => dNeq P t (isConst xo || isConst yo) a b) = .pure f) (hk : f k = .good) :
    Gives ι P (do eqGuard (eqnOp neg) t xo yo x y; binOp (eqnOp neg) t x y) k := by
  have hb : ∀ {f : (AV → Ans) → Ans} {s : Sem Value}, f k = .good → (f k = .good → Gives ι P s k) → (¬ (x = .nilIface ∧ y = .nilIface)) → (∀ as bs, ¬ (x = .agg as ∧ y = .agg bs)) → Gives ι P (do eqGuard (eqnOp neg) t xo yo x y; s) k :=
    fun hf hg h1 h2 => gives_guard (guard_plain h1 h2) (hg hf)
  have hif : P.underlying t ≠ none → ∀ (g : (AV → Ans) → Ans), g = eqnK neg (.num 7) a b → (∃ m, P.underlying t = some (.interface m)) → ((isConst xo || isConst yo) = true ∧ g k = .good) ∨ ((noNilsK a b (g k)) = .good) → Gives ι P (do eqGuard (eqnOp neg) t xo yo x y; binOp (eqnOp neg) t x y) k := fun _ g hg ⟨m, hu⟩ hc => by
    subst hg
    rcases hc with ⟨hc, hk⟩ | hk
    · exact eqn_good (.one (.ifc hu)) (fun s e => by cases e; decide) hx hy (fun w h1 h2 => guard_const hc h1 h2 w) hk
    · obtain ⟨hne, hk⟩ := noNils_good hk
      refine eqn_good (.one (.ifc hu)) (fun s e => by cases e; decide) hx hy (fun w h1 h2 => ?_) hk
      subst h1; subst h2
      exact absurd ⟨inil_of hx, inil_of hy⟩ hne
  cases neg
  · replace hd : dEql P t (isConst xo || isConst yo) a b = .pure f := hd
    unfold dEql at hd
    split at hd
    · cases hd
      rename_i hu
      refine hb hk (fun h => beqK_good hu h hx hy) (fun e => ?_) (fun as bs e => ?_)
      · obtain ⟨p, rfl, _⟩ := asBool_good hk; cases hx; cases e.1
      · obtain ⟨p, rfl, _⟩ := asBool_good hk; cases hx; cases e.1
    · cases hd
      have g := eqK_good (t := t) (P := P) hk hx hy
      refine hb hk (fun h => g) (fun e => ?_) (fun as bs e => ?_)
      · obtain ⟨_, _, g, _⟩ := g; have := g default; rw [e.1, e.2] at this; cases a <;> first | (cases hk; done) | (cases hx; cases e.1)
      · cases a <;> first | (cases hk; done) | (cases hx; cases e.1)
    · cases hd
      refine hb hk (fun h => seqK_good h hx hy) (fun e => ?_) (fun as bs e => ?_)
      · cases a <;> first | (cases hk; done) | (cases hx; cases e.1)
      · cases a <;> first | (cases hk; done) | (cases hx; cases e.1)
    · rename_i m hu
      split at hd
      · cases hd; rename_i hc; exact hif (by rw [hu]; simp) _ rfl ⟨m, hu⟩ (.inl ⟨hc, hk⟩)
      · cases hd; exact hif (by rw [hu]; simp) _ rfl ⟨m, hu⟩ (.inr hk)
    · rename_i d hb' hi' hs' hif' hu
      split at hd
      · cases hd
        rename_i ks hks
        refine eqn_good (neg := false) (eqSort_good hks) (eqSort_3 hks (fun e => ?_) (fun k e => ?_) (fun e => ?_)) hx hy (fun w h1 h2 => ?_) hk
        · rw [hu] at e; cases e; exact hb' rfl
        · rw [hu] at e; cases e; exact hi' _ rfl
        · rw [hu] at e; cases e; exact hs' rfl
        · exfalso
          subst h1; subst h2
          have := inil_of hx; subst this
          have := inil_of hy; subst this
          have := eqSort_good hks
          cases this with
          | one h =>
            have hk : eq1 _ (.nl .inil) (.nl .inil) _ = .good := hk
            have e := Ev.beq_true (wK_good hk).1
            subst e
            cases h with | ifc h => rw [hu] at h; cases h; exact hif' _ rfl
          | st _ _ _ _ => cases hk
      · cases hd
    · cases hd
  · replace hd : dNeq P t (isConst xo || isConst yo) a b = .pure f := hd
    unfold dNeq at hd
    split at hd
    · cases hd
      rename_i hu
      refine hb hk (fun h => bneK_good hu h hx hy) (fun e => ?_) (fun as bs e => ?_)
      · obtain ⟨p, rfl, _⟩ := asBool_good hk; cases hx; cases e.1
      · obtain ⟨p, rfl, _⟩ := asBool_good hk; cases hx; cases e.1
    · cases hd
      refine hb hk (fun h => neK_good h hx hy) (fun e => ?_) (fun as bs e => ?_)
      · cases a <;> first | (cases hk; done) | (cases hx; cases e.1)
      · cases a <;> first | (cases hk; done) | (cases hx; cases e.1)
    · cases hd
      refine hb hk (fun h => sneK_good h hx hy) (fun e => ?_) (fun as bs e => ?_)
      · cases a <;> first | (cases hk; done) | (cases hx; cases e.1)
      · cases a <;> first | (cases hk; done) | (cases hx; cases e.1)
    · rename_i m hu
      split at hd
      · cases hd; rename_i hc; exact hif (by rw [hu]; simp) _ rfl ⟨m, hu⟩ (.inl ⟨hc, hk⟩)
      · cases hd; exact hif (by rw [hu]; simp) _ rfl ⟨m, hu⟩ (.inr hk)
    · rename_i d hb' hi' hs' hif' hu
      split at hd
      · cases hd
        rename_i ks hks
        refine eqn_good (neg := true) (eqSort_good hks) (eqSort_3 hks (fun e => ?_) (fun k e => ?_) (fun e => ?_)) hx hy (fun w h1 h2 => ?_) hk
        · rw [hu] at e; cases e; exact hb' rfl
        · rw [hu] at e; cases e; exact hi' _ rfl
        · rw [hu] at e; cases e; exact hs' rfl
        · exfalso
          subst h1; subst h2
          have := inil_of hx; subst this
          have := inil_of hy; subst this
          have := eqSort_good hks
          cases this with
          | one h =>
            have hk : eq1 _ (.nl .inil) (.nl .inil) _ = .good := hk
            have e := Ev.beq_true (wK_good hk).1
            subst e
            cases h with | ifc h => rw [hu] at h; cases h; exact hif' _ rfl
          | st _ _ _ _ => cases hk
      · cases hd
    · cases hd
end
end Go.Ev

namespace Go.Ev
open Go
set_option linter.unusedSectionVars false
variable [Sym]
set_option linter.unusedVariables false
set_option linter.unusedSimpArgs false
variable {ι : Inj} {P : Program} {t : TypeId} {xo yo : Operand} {a b ks : AV} {x y : Value} {k : AV → Ans}

theorem flipG {j l : IntKind} {p q : Int} (g : Gives ι P (binOp .lss t (.int l q) (.int j p)) k) : Gives ι P (binOp .gtr t (.int j p) (.int l q)) k := by
  obtain ⟨r, v, h1, h2, h3⟩ := g
  by_cases h : j = l
  · subst h
    refine ⟨r, v, fun w => ?_, h2, h3⟩
    rw [← h1 w]
    simp only [binOp, ne_eq, not_true_eq_false, if_false, Op.intCmp]
  · exfalso
    have := h1 default
    simp only [binOp, ne_eq, Ne.symm h, not_false_eq_true, if_true] at this
    cases this
theorem flipL {j l : IntKind} {p q : Int} (g : Gives ι P (binOp .geq t (.int l q) (.int j p)) k) : Gives ι P (binOp .leq t (.int j p) (.int l q)) k := by
  obtain ⟨r, v, h1, h2, h3⟩ := g
  by_cases h : j = l
  · subst h
    refine ⟨r, v, fun w => ?_, h2, h3⟩
    rw [← h1 w]
    simp only [binOp, ne_eq, not_true_eq_false, if_false, Op.intCmp]
  · exfalso
    have := h1 default
    simp only [binOp, ne_eq, Ne.symm h, not_false_eq_true, if_true] at this
    cases this
theorem gtK_good (h : ltK b a k = .good) (ha : VR ι a x) (hb : VR ι b y) : Gives ι P (binOp .gtr t x y) k := by
  have g := ltK_good (t := t) (P := P) h hb ha
  cases ha <;> cases hb <;> first | (exfalso; cases h; done) | exact flipG g
theorem leK_good (h : geK b a k = .good) (ha : VR ι a x) (hb : VR ι b y) : Gives ι P (binOp .leq t x y) k := by
  have g := geK_good (t := t) (P := P) h hb ha
  cases ha <;> cases hb <;> first | (exfalso; cases h; done) | exact flipL g

theorem less_flip (l r : List UInt8) : Op.bytesLess r l = !(Op.bytesLess l r || l == r) := by
  have h1 := less_iff l r
  have h2 := less_iff r l
  generalize hA : pack l * 256 ^ r.length = A at h1 h2
  generalize hB : pack r * 256 ^ l.length = B at h1 h2
  by_cases he : l = r
  · subst he
    have : A = B := by rw [← hA, ← hB]
    have hf : Op.bytesLess l l = false := by
      rw [Bool.eq_false_iff]
      intro h; have := h1.1 h; omega
    rw [hf]; simp
  · have hne : ¬ (A = B ∧ l.length = r.length) := fun ⟨e1, e2⟩ => by
      apply he
      refine pack_inj e2 ?_
      rw [← hA, ← hB, e2] at e1
      exact Nat.eq_of_mul_eq_mul_right (Nat.pow_pos (by omega)) e1
    have hb : (l == r) = false := beq_eq_false_iff_ne.2 he
    rw [hb, Bool.or_false]
    cases hx : Op.bytesLess l r
    · show _ = true
      rw [h2]
      have : ¬ (A < B ∨ A = B ∧ l.length < r.length) := fun h => by rw [h1.2 h] at hx; cases hx
      omega
    · show _ = false
      rw [Bool.eq_false_iff]
      intro h
      have e1 := h1.1 hx
      have e2 := h2.1 h
      omega
theorem strRun (op : BinOp) (s r : ByteArray) (t : TypeId) (w : World) : ((binOp op t (.string s) (.string r)).run P w) = (Op.stringOp op s r).run P w := by
  cases op <;> rfl
theorem sltK_ok (h : sltK a b k = .good) (ha : VR ι a x) (hb : VR ι b y) : Gives ι P (binOp .lss t x y) k := by
  obtain ⟨s, r, rfl, rfl, hk⟩ := sltK_good h ha hb
  refine ⟨_, _, fun w => (strRun _ _ _ _ _).trans ?_, .bool _, hk⟩
  simp only [Op.stringOp, ByteArray.toList_eq]
  rfl
theorem sgeK_ok (h : sgeK a b k = .good) (ha : VR ι a x) (hb : VR ι b y) : Gives ι P (binOp .geq t x y) k := by
  obtain ⟨s, r, rfl, rfl, hk⟩ := sgeK_good h ha hb
  refine ⟨_, _, fun w => (strRun _ _ _ _ _).trans ?_, .bool _, hk⟩
  simp only [Op.stringOp, ByteArray.toList_eq]
  rfl
theorem sgtK_ok (h : sltK b a k = .good) (ha : VR ι a x) (hb : VR ι b y) : Gives ι P (binOp .gtr t x y) k := by
  obtain ⟨s, r, rfl, rfl, hk⟩ := sltK_good h hb ha
  refine ⟨_, _, fun w => (strRun _ _ _ _ _).trans ?_, .bool _, hk⟩
  simp only [Op.stringOp, ByteArray.toList_eq, less_flip r.data.toList s.data.toList]
  rfl
theorem sleK_ok (h : sgeK b a k = .good) (ha : VR ι a x) (hb : VR ι b y) : Gives ι P (binOp .leq t x y) k := by
  obtain ⟨s, r, rfl, rfl, hk⟩ := sgeK_good h hb ha
  refine ⟨_, _, fun w => (strRun _ _ _ _ _).trans ?_, .bool _, hk⟩
  simp only [Op.stringOp, ByteArray.toList_eq, less_flip r.data.toList s.data.toList, Bool.not_not]
  rfl

theorem dEql_shape (cn : Bool) : dEql P t cn a b = .no ∨ ∃ f, dEql P t cn a b = .pure f := by
  unfold dEql
  repeat' split
  all_goals first | exact .inl rfl | exact .inr ⟨_, rfl⟩
theorem dNeq_shape (cn : Bool) : dNeq P t cn a b = .no ∨ ∃ f, dNeq P t cn a b = .pure f := by
  unfold dNeq
  repeat' split
  all_goals first | exact .inl rfl | exact .inr ⟨_, rfl⟩

theorem dBin_ok {op : BinOp} (ha : VR ι a x) (hb : VR ι b y) : DkOk ι P (vN (do eqGuard op t xo yo x y; binOp op t x y)) (dBin P op t (isConst xo || isConst yo) a b) := by
  have g : ∀ {op : BinOp} {f : (AV → Ans) → Ans}, op ≠ .eql ∧ op ≠ .neq → (∀ k, f k = .good → Gives ι P (binOp op t x y) k) → DkOk ι P (vN (do eqGuard op t xo yo x y; binOp op t x y)) (.pure f) :=
    fun ho hf => dk_pure fun k hk => gives_guard (run_guard ho) (hf k hk)
  unfold dBin
  split
  · rcases dEql_shape (P := P) (t := t) (a := a) (b := b) (isConst xo || isConst yo) with e | ⟨f, e⟩
    · rw [e]; trivial
    · rw [e]; exact dk_pure fun k hk => dEqn_ok (neg := false) ha hb e hk
  · rcases dNeq_shape (P := P) (t := t) (a := a) (b := b) (isConst xo || isConst yo) with e | ⟨f, e⟩
    · rw [e]; trivial
    · rw [e]; exact dk_pure fun k hk => dEqn_ok (neg := true) ha hb e hk
  · split
    · split
      · exact g (by decide) fun k hk => addK_good hk ha hb
      · exact g (by decide) fun k hk => subK_good hk ha hb
      · exact g (by decide) fun k hk => mulK_good hk ha hb
      · exact g (by decide) fun k hk => quoK_good hk ha hb
      · exact g (by decide) fun k hk => remK_good hk ha hb
      · exact g (by decide) fun k hk => andK_good hk ha hb
      · exact g (by decide) fun k hk => bitsS_good hk ha hb
      · exact g (by decide) fun k hk => bitsS_good hk ha hb
      · exact g (by decide) fun k hk => shlS_good hk ha hb
      · exact g (by decide) fun k hk => shrS_good hk ha hb
      · exact g (by decide) fun k hk => ltK_good hk ha hb
      · exact g (by decide) fun k hk => geK_good hk ha hb
      · exact g (by decide) fun k hk => gtK_good hk ha hb
      · exact g (by decide) fun k hk => leK_good hk ha hb
      · trivial
    · split
      · exact g (by decide) fun k hk => saddK_good hk ha hb
      · exact g (by decide) fun k hk => sltK_ok hk ha hb
      · exact g (by decide) fun k hk => sgeK_ok hk ha hb
      · exact g (by decide) fun k hk => sgtK_ok hk ha hb
      · exact g (by decide) fun k hk => sleK_ok hk ha hb
      · trivial
    · trivial
end Go.Ev

namespace Go.Ev
open Go
set_option linter.unusedSectionVars false
variable [Sym]
set_option linter.unusedVariables false
set_option linter.unusedSimpArgs false
variable {ι : Inj} {P : Program} {ρ : Operand → Value} {s : Sem Next}

theorem ok_no : DkOk ι P s .no := trivial

theorem VRs.one {vs : List AV} {x : Value} (h : VRs ι vs [x]) : ∃ a, vs = [a] ∧ VR ι a x := by
  cases h with | cons h h' => cases h'; exact ⟨_, rfl, h⟩
theorem VRs.two {vs : List AV} {x y : Value} (h : VRs ι vs [x, y]) : ∃ a b, vs = [a, b] ∧ VR ι a x ∧ VR ι b y := by
  cases h with | cons h h' => obtain ⟨b, rfl, h2⟩ := h'.one; exact ⟨_, _, rfl, h, h2⟩
theorem VRs.three {vs : List AV} {x y z : Value} (h : VRs ι vs [x, y, z]) : ∃ a b c, vs = [a, b, c] ∧ VR ι a x ∧ VR ι b y ∧ VR ι c z := by
  cases h with | cons h h' => obtain ⟨b, c, rfl, h2, h3⟩ := h'.two; exact ⟨_, _, _, rfl, h, h2, h3⟩
section
variable {t e u : TypeId} {a b c : AV} {x y z : Value} {op : BinOp}

theorem ok_load {xo : Operand} (ha : VR ι a x) : DkOk ι P (vN (Instr.loadAt t x)) (dk P (.load t xo) [a]) := by
  simp only [dk]
  split
  · rename_i h1 h2; exact dk_read fun rt h w k m hk => loadAK_good m ha h1 h2 hk
  · rename_i h1 h2; exact dk_read fun rt h w k m hk => loadK_good m ha h1 hk
  · exact ok_no
theorem ok_store {xo yo : Operand} (ha : VR ι a x) (hb : VR ι b y) : DkOk ι P (uN (Instr.storeAt t x y)) (dk P (.store t xo yo) [a, b]) := by
  simp only [dk]
  split
  · rename_i h1 h2; exact dk_write fun rt h w k m hk => storeAK_good m ha hb h2 hk
  · rename_i h1 h2
    split
    · rename_i h3
      have := beq_true h3
      subst this
      exact dk_write fun rt h w k m hk => storeK_good m ha hb h2 hk
    · exact ok_no
  · exact ok_no
theorem ok_alloc {vs : List AV} : DkOk ι P (vN (Instr.alloc e true (.tuple #[]))) (dk P (.alloc e) vs) := by
  simp only [dk]
  split
  · rename_i z hz
    split
    · rename_i hc
      split
      · rename_i r hr; exact dk_alloc fun rt h w k m hk => allocK_good m hz hr hc _ hk
      · exact dk_alloc fun rt h w k m hk => allocLK_good m hz _ hk
    · exact ok_no
  · exact ok_no
theorem ok_box {xo : Operand} (ha : VR ι a x) : DkOk ι P (vN (Instr.box e x)) (dk P (.box e xo) [a]) := by
  simp only [dk]
  split
  · exact dk_alloc fun rt h w k m hk => boxAK_good m ha hk
  · exact dk_alloc fun rt h w k m hk => boxK_good m ha hk
  · exact ok_no
theorem ok_pick {co ao bo : Operand} (hc : VR ι c z) (ha : VR ι a x) (hb : VR ι b y) : DkOk ι P (do pure (.value (if ← Go.asBool z then x else y))) (dk P (.pick co ao bo) [c, a, b]) := by
  intro k hk
  obtain ⟨t, rfl, h⟩ := pickK_good hk hc
  cases t
  · exact ⟨b, y, fun w => rfl, hb, h⟩
  · exact ⟨a, x, fun w => rfl, ha, h⟩
theorem ok_nilCheck {dst : Option Tmp} {xo : Operand} {ty : TypeId} {pos : String} {af : Array Edge} {g : Option (Nat × Bool)} (ha : VR ι a (ρ xo)) : DkOk ι P (execOp ρ ⟨dst, .nilCheck xo, ty, pos, af, g⟩) (dk P (.nilCheck xo) [a]) := by
  intro k hk
  have hk : nilCheckK a k = .good := hk
  simp only [execOp]
  generalize ρ xo = x at ha
  cases a with
  | ptr p o => cases ha with | ptr _ h => exact ⟨_, _, fun w => rfl, .ptr o h, hk⟩
  | fn g1 f1 c1 => cases ha with | fn hg h1 h2 => exact ⟨_, _, fun w => rfl, .fn hg h1 h2, hk⟩
  | yld g1 p => cases ha with | yld _ h => exact ⟨_, _, fun w => rfl, .yld _ h, hk⟩
  | ifc t v => cases ha with | ifc _ h => exact ⟨_, _, fun w => rfl, .ifc _ h, hk⟩
  | _ => cases hk
theorem ok_unOp {o : UnOp} {xo : Operand} (ha : VR ι a x) : DkOk ι P (vN (Op.unary o x)) (dk P (.unOp o t xo) [a]) := by
  cases o with
  | not => exact dk_pure fun k hk => notK_good hk ha
  | neg => exact dk_pure fun k hk => negS_good hk ha
  | _ => exact ok_no
theorem ok_convert {s d : TypeId} {xo : Operand} (ha : VR ι a x) : DkOk ι P (vN (convert s d x)) (dk P (.convert s d xo) [a]) := by
  simp only [dk]
  split
  · rename_i h1 h2; exact dk_pure fun k hk => toIntK_good h1 h2 hk ha
  · rename_i h1 h2; exact dk_pure fun k hk => convS_good h1 (by rw [kd_kc]; exact h2) hk ha
  · rename_i h1 h2
    refine dk_pure fun k hk => ?_
    obtain ⟨n, p, rfl, hk⟩ := asStr_good hk
    obtain ⟨s', rfl, _, _, _⟩ := str_of ha
    refine ⟨_, _, fun w => ?_, ha, hk⟩
    simp only [convert, Sem.run_bind, run_und h1, run_und h2, Result.andThen_ok, Sem.run_pure]
  · rename_i h1 h2
    split
    · rename_i h3; exact dk_alloc fun rt h w k m hk => strToBytesK_good h1 h2 h3 m ha hk
    · exact ok_no
  · rename_i h1 h2
    split
    · rename_i h3; exact dk_read fun rt h w k m hk => bytesToStrK_good h1 h3 h2 m ha hk
    · exact ok_no
  · rename_i h1 h2
    split
    · rename_i h3 h4
      have := of_decide_eq_true h3
      subst this
      exact dk_both fun rt h w k m hk => markK_good h1 h4 m ha hk
    · exact ok_no
  · rename_i e h1 h2
    split
    · exact ok_no
    · exact ok_no
    · rename_i h3 h4
      cases hs : sizeT P e with
      | none => exact absurd hs h4
      | some n =>
        cases n with
        | zero => exact absurd hs h3
        | succ n => exact dk_read fun rt h w k m hk => toUnsafeK_good h1 h2 hs m ha hk
  · rename_i h1 h2
    split
    · rename_i h3; exact dk_read fun rt h w k m hk => fromUnsafeK_good h1 h2 h3 m ha hk
    · exact ok_no
  · exact ok_no
theorem ok_makeInterface {xo : Operand} (ha : VR ι a x) : DkOk ι P (vN (Instr.makeInterface t x)) (dk P (.makeInterface t xo) [a]) := by
  simp only [dk]
  split
  · exact ok_no
  · rename_i d hne hu
    refine dk_direct (.ifc t ha) fun w => ?_
    unfold Instr.makeInterface
    refine (bind_ok (run_und hu w)).trans ?_
    cases d <;> first | rfl | exact absurd rfl (hne _)
  · exact ok_no
theorem G3.ofNat_val {f : Nat} (h : f ≤ 4095) : (G3.ofNat f).val = f := by
  show ((D.ofNat (f / 256 % 16)).val * 16 + (D.ofNat (f / 16 % 16)).val) * 16 + (D.ofNat (f % 16)).val = f
  rw [D.ofNat_val _ (by omega), D.ofNat_val _ (by omega), D.ofNat_val _ (by omega)]
  omega
theorem ok_makeFunc {fn : Fn} {fs cs : Array Operand} {vs : List AV} (hv : VRs ι vs ((fs.toList ++ cs.toList).map ρ)) : DkOk ι P (vN (Instr.makeFunc fn (fs.map ρ) (cs.map ρ))) (dk P (.makeFunc fn fs cs) vs) := by
  cases fn with
  | func f =>
    simp only [dk]
    split
    · exact ok_no
    · rename_i hf
      have hf := ble_true hf
      have h1 := hv.take fs.size
      have h2 := hv.drop fs.size
      rw [List.map_append, List.take_left' (by simp)] at h1
      rw [List.map_append, List.drop_left' (by simp)] at h2
      refine ⟨_, .fn (G3.ofNat_val hf) (fs := fs.map ρ) (cs := cs.map ρ) ?_ ?_, fun w => rfl⟩
      · rw [Array.toList_map]; exact h1.ofList
      · rw [Array.toList_map]; exact h2.ofList
  | _ => exact ok_no
theorem ok_range {xo : Operand} (ha : VR ι a x) : DkOk ι P (vN (Instr.range t x)) (dk P (.range t xo) [a]) := by
  simp only [dk]
  split
  · rename_i hu; exact dk_both fun rt h w k m hk => rangeK_good m hu ha hk
  · exact ok_no
theorem ok_next {xo : Operand} {s : Bool} {ty : TypeId} (ha : VR ι a x) : DkOk ι P (vN (Instr.next x s ty)) (dk P (.next xo s) [a]) := by
  cases s with
  | false => exact dk_both fun rt h w k m hk => nextK_good m ha hk
  | true => exact ok_no
theorem ok_entry {xo : Operand} (ha : VR ι a x) : DkOk ι P (vN (Instr.entry x)) (dk P (.entry xo) [a]) :=
  dk_read fun rt h w k m hk => entryK_good m ha hk
theorem ok_makeMap {r : Option Operand} {vs : List AV} (hv : VRs ι vs (r.toList.map ρ)) : DkOk ι P (vN (Instr.makeMap t (r.map ρ))) (dk P (.makeMap t r) vs) := by
  cases r with
  | none => exact dk_alloc fun rt h w k m hk => makeMapK_good m hk
  | some r =>
    obtain ⟨a, rfl, ha⟩ := hv.one
    simp only [dk]
    split
    · rename_i hu; exact dk_alloc fun rt h w k m hk => reserveK_good hu m ha hk
    · exact ok_no
theorem ok_makeSlice {lo co : Operand} (ha : VR ι a x) (hb : VR ι b y) : DkOk ι P (vN (Instr.makeSlice t x y)) (dk P (.makeSlice t lo co) [a, b]) := by
  simp only [dk]
  split
  · rename_i e hu
    split
    · rename_i h1 h2 h3
      split
      · rename_i h4; exact dk_alloc fun rt h w k m hk => makeSliceK_good hu h1 h2 h3 (beq_true h4) m ha hb hk
      · exact ok_no
    · exact ok_no
  · exact ok_no
theorem ok_fieldAddr {xo : Operand} {f : Nat} (ha : VR ι a x) : DkOk ι P (vN (Instr.fieldAt t x f)) (dk P (.fieldAddr t xo f) [a]) := by
  simp only [dk]
  split
  · rename_i fs hu
    split
    · rename_i fl hf
      split
      · exact ok_no
      · exact ok_no
      · rename_i h1 h2
        cases hs : sizeT P fl.type with
        | none => exact absurd hs h2
        | some n => exact dk_pure fun k hk => faddrK_good hu hf hs (fun e => h1 (by rw [hs, e])) hk ha
    · exact ok_no
  · exact ok_no
theorem ok_field {xo : Operand} {f : Nat} (ha : VR ι a x) : DkOk ι P (vN (Instr.field t x f)) (dk P (.field t xo f) [a]) := by
  simp only [dk]
  split
  · rename_i fs hu
    split
    · rename_i fl hf
      split
      · rename_i h1 h2; exact dk_pure fun k hk => fieldK_good hu hf h1 h2 hk ha
      · exact ok_no
    · exact ok_no
  · exact ok_no
theorem ok_indexAddr {xo yo : Operand} (ha : VR ι a x) (hb : VR ι b y) : DkOk ι P (vN (Instr.indexAt t x y)) (dk P (.indexAddr t xo yo) [a, b]) := by
  simp only [dk]
  split
  · rename_i hu
    split
    · rename_i hs; exact dk_pure fun k hk => iaddrK_good hu hs hk ha hb
    · exact ok_no
  · rename_i hu
    split
    · rename_i hs; exact dk_pure fun k hk => aaddrK_good hu hs hk ha hb
    · exact ok_no
  · exact ok_no
theorem ok_index {xo yo : Operand} (ha : VR ι a x) (hb : VR ι b y) : DkOk ι P (vN (Instr.index t x y)) (dk P (.index t xo yo) [a, b]) := by
  simp only [dk]
  split
  · rename_i hu; exact dk_pure fun k hk => sidxK_good hu hk ha hb
  · rename_i hu
    split
    · rename_i h1 h2; exact dk_pure fun k hk => aidxK_good hu h1 h2 hk ha hb
    · exact ok_no
  · exact ok_no
theorem ok_lookup {xo yo : Operand} {ok : Bool} (ha : VR ι a x) (hb : VR ι b y) : DkOk ι P (vN (Instr.lookup t x y ok)) (dk P (.lookup t xo yo ok) [a, b]) := by
  simp only [dk]
  split
  · rename_i hu
    split
    · rename_i h1 h2; exact dk_read fun rt h w k m hk => lookupK_good m hu h1 h2 ha hb hk
    · exact ok_no
  · exact ok_no
theorem ok_mapUpdate {xo yo zo : Operand} (ha : VR ι a x) (hb : VR ι b y) (hc : VR ι c z) : DkOk ι P (uN (Instr.mapUpdate t x y z)) (dk P (.mapUpdate t xo yo zo) [a, b, c]) := by
  simp only [dk]
  split
  · rename_i hu
    split
    · rename_i h1; exact dk_write fun rt h w k m hk => mapSetK_good m hu h1 ha hb hc hk
    · exact ok_no
  · exact ok_no
theorem ok_insert {xo yo zo : Operand} (ha : VR ι a x) (hb : VR ι b y) (hc : VR ι c z) : DkOk ι P (uN (Instr.mapUpdate t x y z)) (dk P (.insert t xo yo zo) [a, b, c]) := by
  simp only [dk]
  split
  · rename_i hu
    split
    · rename_i h1; exact dk_write fun rt h w k m hk => mapSetK_good m hu h1 ha hb hc hk
    · exact ok_no
  · exact ok_no
theorem ok_mapEntry {xo yo : Operand} (ha : VR ι a x) (hb : VR ι b y) : DkOk ι P (vN (Instr.mapEntry t x y)) (dk P (.mapEntry t xo yo) [a, b]) := by
  simp only [dk]
  split
  · rename_i hu
    split
    · rename_i h1 h2; exact dk_both fun rt h w k m hk => mapEntryK_good m hu h1 h2 ha hb hk
    · exact ok_no
  · exact ok_no
theorem ok_entryStore {xo yo zo : Operand} (ha : VR ι a x) (hb : VR ι b y) (hc : VR ι c z) : DkOk ι P (uN (Instr.entryStore t x y z)) (dk P (.entryStore t xo yo zo) [a, b, c]) :=
  dk_write fun rt h w k m hk => entryStoreK_good m ha hb hc hk
theorem ok_typeAssert {xo : Operand} {xt : TypeId} {ok : Bool} (ha : VR ι a x) : DkOk ι P (vN (Instr.typeAssert x xt t ok)) (dk P (.typeAssert xo xt t ok) [a]) := by
  simp only [dk]
  split
  · exact ok_no
  · rename_i d hne hu
    split
    · rename_i hz; exact dk_pure fun k hk => assertK_good hu (fun m e => hne m (by rw [← e])) hz ha hk
    · exact ok_no
  · exact ok_no
theorem ok_extract {xo : Operand} {i : Nat} (ha : VR ι a x) : DkOk ι P (vN (Instr.extract x i)) (dk P (.extract xo i) [a]) :=
  dk_pure fun k hk => extractK_good hk ha
end
end Go.Ev

namespace Go.Ev
open Go
set_option linter.unusedSectionVars false
variable [Sym]
set_option linter.unusedVariables false
set_option linter.unusedSimpArgs false
variable {ι : Inj} {P : Program} {ρ : Operand → Value} {s : Sem Next}

section
variable {ts : Array TypeId} {ty : TypeId} {cs : Array Bool} {args : Array Value} {vs : List AV} {a b c : AV}

theorem args_one (h : VRs ι [a] args.toList) : ∃ x, args = #[x] ∧ VR ι a x := by
  obtain ⟨l⟩ := args
  simp only at h
  cases h with | cons h h' => cases h'; exact ⟨_, rfl, h⟩
theorem args_two (h : VRs ι [a, b] args.toList) : ∃ x y, args = #[x, y] ∧ VR ι a x ∧ VR ι b y := by
  obtain ⟨l⟩ := args
  simp only at h
  cases h with | cons h h' => cases h' with | cons h2 h' => cases h'; exact ⟨_, _, rfl, h, h2⟩

theorem dBuiltin_ok {bi : Builtin} (hv : VRs ι vs args.toList) : DkOk ι P (builtin bi ts ty cs args) (dBuiltin P bi ts vs) := by
  unfold dBuiltin
  split
  · obtain ⟨x, rfl, ha⟩ := args_one hv
    show DkOk ι P (vN (Builtin.len_ ts ty #[x])) _
    split
    · rename_i t ht
      split
      · rename_i n e hu
        split
        · rename_i hn
          refine dk_direct (.num n (ble_true hn)) fun w => ?_
          unfold Builtin.len_
          rw [ht]
          exact (bind_ok (run_und hu w)).trans rfl
        · exact ok_no
      · rename_i e hu
        split
        · rename_i n e' hu'
          split
          · rename_i hn
            refine dk_direct (.num n (ble_true hn)) fun w => ?_
            unfold Builtin.len_
            rw [ht]
            refine (bind_ok (run_und hu w)).trans ?_
            exact (bind_ok (run_und hu' w)).trans rfl
          · exact ok_no
        · exact ok_no
      · rename_i hu; exact dk_pure fun k hk => lenStr_good ht hu ha hk
      · rename_i hu; exact dk_pure fun k hk => lenK_good ht hu ha hk
      · rename_i hu; exact dk_read fun rt h w k m hk => mapLenK_good m ht hu ha hk
      · exact ok_no
    · exact ok_no
  · obtain ⟨x, rfl, ha⟩ := args_one hv
    show DkOk ι P (vN (Builtin.cap_ ts ty #[x])) _
    split
    · rename_i t ht
      split
      · rename_i hu; exact dk_pure fun k hk => capK_good ht hu ha hk
      · exact ok_no
    · exact ok_no
  · obtain ⟨x, y, rfl, ha, hb⟩ := args_two hv
    show DkOk ι P (vN (Builtin.append_ ts ty #[x, y])) _
    split
    · rename_i t xt h0 h1
      split
      · rename_i e kk hu hx
        split
        · rename_i z by_ zv hz hby hzv
          split
          · rename_i hc
            rw [Bool.and_eq_true] at hc
            exact dk_both fun rt h w k m hk => appendZK_good h0 h1 hu hx hz hby hzv (beq_true hc.1) (ble_true hc.2) m ha hb hk
          · exact ok_no
        · exact ok_no
      · rename_i e d hne hu hx
        split
        · rename_i z by_ zv hz hby hzv
          split
          · rename_i hc
            rw [Bool.and_eq_true] at hc
            exact dk_both fun rt h w k m hk => appendK_good h0 h1 hu hx (fun kk e => hne kk (by rw [e])) hz hby hzv (beq_true hc.1) (ble_true hc.2) m ha hb hk
          · exact ok_no
        · exact ok_no
      · exact ok_no
    · exact ok_no
  · obtain ⟨x, y, rfl, ha, hb⟩ := args_two hv
    show DkOk ι P (vN (Builtin.copy_ ts ty #[x, y])) _
    split
    · rename_i t ht
      split
      · rename_i e hu
        split
        · rename_i hz; exact dk_both fun rt h w k m hk => copyK_good ht hu hz m ha hb hk
        · exact ok_no
      · exact ok_no
    · exact ok_no
  · obtain ⟨x, y, rfl, ha, hb⟩ := args_two hv
    show DkOk ι P (vN (Builtin.delete_ ts ty #[x, y])) _
    split
    · rename_i t ht
      split
      · rename_i hu
        split
        · rename_i hk
          exact dk_writeV fun rt h w k m hk' => mapDelK_good (ty := ty) m ht hu hk ha hb hk'
        · exact ok_no
      · exact ok_no
    · exact ok_no
  · obtain ⟨x, rfl, ha⟩ := args_one hv
    show DkOk ι P (vN (Builtin.clear_ ts ty #[x])) _
    split
    · rename_i t ht
      split
      · rename_i e hu
        split
        · rename_i z zv hz hzv
          split
          · rename_i hc
            exact dk_writeV fun rt h w k m hk' => clearK_good (ty := ty) ht hu hzv (beq_true hc) m ha hk'
          · exact ok_no
        · exact ok_no
      · exact ok_no
    · exact ok_no
  · obtain ⟨x, rfl, ha⟩ := args_one hv
    exact dk_pure fun k hk => sliceDataK_good ha hk
  · obtain ⟨x, y, rfl, ha, hb⟩ := args_two hv
    show DkOk ι P (vN (Builtin.unsafeString_ ts ty #[x, y])) _
    split
    · rename_i t ht
      split
      · rename_i e hu
        split
        · rename_i h1 h2; exact dk_both fun rt h w k m hk => unsafeStringK_good ht hu h2 m ha hb hk
        · exact ok_no
      · exact ok_no
    · exact ok_no
  · obtain ⟨x, rfl, ha⟩ := args_one hv
    exact dk_direct ha fun w => rfl
  · obtain ⟨x, y, rfl, ha, hb⟩ := args_two hv
    exact dk_pure fun k hk => min_good ha hb hk
  · obtain ⟨x, rfl, ha⟩ := args_one hv
    exact dk_direct ha fun w => rfl
  · obtain ⟨x, y, rfl, ha, hb⟩ := args_two hv
    exact dk_pure fun k hk => max_good ha hb hk
  · exact ok_no
end

theorem cut3_good {lo hi mx : Option Operand} {vs : List AV} {l h m : Option AV} (hc : cut3 lo.isSome hi.isSome mx.isSome vs = some (l, h, m)) (hv : VRs ι vs ((lo.toList ++ (hi.toList ++ mx.toList)).map ρ)) :
    VRo ι l (lo.map ρ) ∧ VRo ι h (hi.map ρ) ∧ VRo ι m (mx.map ρ) ∧ (h = none → m = none) := by
  cases lo <;> cases hi <;> cases mx <;> simp only [Option.toList, List.nil_append, List.cons_append, List.map_cons, List.map_nil, Option.isSome] at hv hc
  all_goals
    first
    | (cases hv; first | (exfalso; cases hc; done) | (cases hc; exact ⟨.none, .none, .none, fun _ => rfl⟩))
    | skip
  all_goals
    first
    | (obtain ⟨a, rfl, ha⟩ := hv.one; first | (exfalso; cases hc; done) | (cases hc; first | exact ⟨.some ha, .none, .none, fun _ => rfl⟩ | exact ⟨.none, .some ha, .none, fun e => by cases e⟩))
    | (obtain ⟨a, b, rfl, ha, hb⟩ := hv.two; first | (exfalso; cases hc; done) | (cases hc; first | exact ⟨.some ha, .some hb, .none, fun e => by cases e⟩ | exact ⟨.none, .some ha, .some hb, fun e => by cases e⟩))
    | (obtain ⟨a, b, c, rfl, ha, hb, hcc⟩ := hv.three; cases hc; exact ⟨.some ha, .some hb, .some hcc, fun e => by cases e⟩)

theorem ok_slice {t : TypeId} {xo : Operand} {lo hi mx : Option Operand} {a : AV} {x : Value} {vs : List AV} (ha : VR ι a x) (hv : VRs ι vs ((lo.toList ++ (hi.toList ++ mx.toList)).map ρ)) :
    DkOk ι P (vN (Instr.sliceAt t x (lo.map ρ) (hi.map ρ) (mx.map ρ))) (dk P (.slice t xo lo hi mx) (a :: vs)) := by
  simp only [dk]
  split
  · exact ok_no
  · rename_i l h m hc
    obtain ⟨h1, h2, h3, h4⟩ := cut3_good hc hv
    split
    · rename_i hu
      split
      · refine dk_pure fun k hk => ?_
        cases hm : mx.map ρ with
        | none => exact scutK_good hu hk ha h1 h2
        | some v => rw [hm] at h3; cases h3
      · exact ok_no
    · rename_i hu
      split
      · rename_i hs; exact dk_pure fun k hk => sliceK_good hu hs h4 hk ha h1 h2 h3
      · exact ok_no
    · rename_i hu
      split
      · rename_i hn hs; exact dk_pure fun k hk => sliceAK_good (.inl hu) (ble_true hn) hs h4 hk ha h1 h2 h3
      · exact ok_no
    · rename_i q hu
      split
      · rename_i hu'
        split
        · rename_i hn hs; exact dk_pure fun k hk => sliceAK_good (.inr ⟨q, hu, hu'⟩) (ble_true hn) hs h4 hk ha h1 h2 h3
        · exact ok_no
      · exact ok_no
    · exact ok_no

theorem ok_build {t : TypeId} {ps : Array (Nat × Operand)} {vs : List AV} (hv : VRs ι vs ((ps.toList.map (·.2)).map ρ)) :
    DkOk ι P (vN (Instr.build t (ps.map fun (i, x) => (i, ρ x)))) (dk P (.build t ps) vs) := by
  rw [List.map_map] at hv
  have e : (ps.map fun (i, x) => (i, ρ x)) = (ps.toList.map fun q => (q.1, ρ q.2)).toArray := by
    apply Array.ext'; simp
  rw [e]
  simp only [dk]
  split
  · rename_i fs hu
    split
    · rename_i h1 h2 h3; exact dk_pure fun k hk => buildStruct_good hu h1 h2 h3 hv hk
    · exact ok_no
  · rename_i hu
    split
    · rename_i h1 h2 h3
      split
      · rename_i h4; exact dk_pure fun k hk => buildArray_good hu h2 h1 h4 hv hk
      · exact ok_no
    · exact ok_no
  · exact ok_no
theorem ok_buildSlice {t : TypeId} {len : Nat} {ps : Array (Nat × Operand)} {vs : List AV} (hv : VRs ι vs ((ps.toList.map (·.2)).map ρ)) :
    DkOk ι P (vN (Instr.buildSlice t len (ps.map fun (i, x) => (i, ρ x)))) (dk P (.buildSlice t len ps) vs) := by
  rw [List.map_map] at hv
  have e : (ps.map fun (i, x) => (i, ρ x)) = (ps.toList.map fun q => (q.1, ρ q.2)).toArray := by
    apply Array.ext'; simp
  rw [e]
  simp only [dk]
  split
  · rename_i hu
    split
    · rename_i h1 h2 h3
      split
      · rename_i h4
        split
        · rename_i h5
          simp only [Bool.and_eq_true] at h5
          exact dk_alloc fun rt h w k m hk => buildSlice_good hu h2 h1 (beq_true h5.2.2.1) (ble_true h5.1) (ble_true h5.2.1) h4 hv m hk
        · exact ok_no
      · exact ok_no
    · exact ok_no
  · exact ok_no

theorem ok_call {c : Call} {b : Builtin} {dst : Option Tmp} {ty : TypeId} {pos : String} {af : Array Edge} {g : Option (Nat × Bool)} {vs : List AV} (hc : c.callee = .builtin b) (hv : VRs ι vs (c.args.toList.map ρ)) :
    DkOk ι P (execOp ρ ⟨dst, .call c, ty, pos, af, g⟩) (dk P (.call c) vs) := by
  obtain ⟨callee, args, ts⟩ := c
  simp only at hc
  subst hc
  exact dBuiltin_ok (by rw [Array.toList_map]; exact hv)

theorem dk_ok {o : Oper} {xs : List Operand} {vs : List AV} (hx : dArgs o.op = some xs) (hv : VRs ι vs (xs.map ρ)) : DkOk ι P (execOp ρ o) (dk P o.op vs) := by
  obtain ⟨dst, op, ty, pos, af, g⟩ := o
  simp only at hx ⊢
  cases op
  case move x => cases hx; obtain ⟨a, rfl, ha⟩ := hv.one; exact ⟨_, ha, fun w => rfl⟩
  case assign x => cases hx; obtain ⟨a, rfl, ha⟩ := hv.one; exact ⟨_, ha, fun w => rfl⟩
  case pick c a b => cases hx; obtain ⟨a, b, c, rfl, ha, hb, hc⟩ := hv.three; exact ok_pick ha hb hc
  case alloc e => exact ok_alloc
  case box e x => cases hx; obtain ⟨a, rfl, ha⟩ := hv.one; exact ok_box ha
  case build t ps => cases hx; exact ok_build hv
  case buildSlice t l ps => cases hx; exact ok_buildSlice hv
  case insert t m k v => cases hx; obtain ⟨a, b, c, rfl, ha, hb, hc⟩ := hv.three; exact ok_insert ha hb hc
  case load t x => cases hx; obtain ⟨a, rfl, ha⟩ := hv.one; exact ok_load ha
  case store t x y => cases hx; obtain ⟨a, b, rfl, ha, hb⟩ := hv.two; exact ok_store ha hb
  case nilCheck x => cases hx; obtain ⟨a, rfl, ha⟩ := hv.one; exact ok_nilCheck ha
  case binOp op t x y t' => cases hx; obtain ⟨a, b, rfl, ha, hb⟩ := hv.two; exact dBin_ok ha hb
  case unOp op t x => cases hx; obtain ⟨a, rfl, ha⟩ := hv.one; exact ok_unOp ha
  case convert s d x => cases hx; obtain ⟨a, rfl, ha⟩ := hv.one; exact ok_convert ha
  case makeInterface t x => cases hx; obtain ⟨a, rfl, ha⟩ := hv.one; exact ok_makeInterface ha
  case makeFunc fn fs cs => cases hx; exact ok_makeFunc hv
  case makeMap t r => cases hx; exact ok_makeMap hv
  case makeSlice t l c => cases hx; obtain ⟨a, b, rfl, ha, hb⟩ := hv.two; exact ok_makeSlice ha hb
  case slice t x lo hi mx =>
    cases hx
    cases hv with | cons ha hv => exact ok_slice ha hv
  case fieldAddr t x f => cases hx; obtain ⟨a, rfl, ha⟩ := hv.one; exact ok_fieldAddr ha
  case field t x f => cases hx; obtain ⟨a, rfl, ha⟩ := hv.one; exact ok_field ha
  case indexAddr t x y => cases hx; obtain ⟨a, b, rfl, ha, hb⟩ := hv.two; exact ok_indexAddr ha hb
  case index t x y => cases hx; obtain ⟨a, b, rfl, ha, hb⟩ := hv.two; exact ok_index ha hb
  case lookup t x y ok => cases hx; obtain ⟨a, b, rfl, ha, hb⟩ := hv.two; exact ok_lookup ha hb
  case mapUpdate t m k v => cases hx; obtain ⟨a, b, c, rfl, ha, hb, hc⟩ := hv.three; exact ok_mapUpdate ha hb hc
  case mapEntry t x y => cases hx; obtain ⟨a, b, rfl, ha, hb⟩ := hv.two; exact ok_mapEntry ha hb
  case entryStore t m k v => cases hx; obtain ⟨a, b, c, rfl, ha, hb, hc⟩ := hv.three; exact ok_entryStore ha hb hc
  case typeAssert x xt t ok => cases hx; obtain ⟨a, rfl, ha⟩ := hv.one; exact ok_typeAssert ha
  case range t x => cases hx; obtain ⟨a, rfl, ha⟩ := hv.one; exact ok_range ha
  case next x s => cases hx; obtain ⟨a, rfl, ha⟩ := hv.one; exact ok_next ha
  case entry x => cases hx; obtain ⟨a, rfl, ha⟩ := hv.one; exact ok_entry ha
  case extract x i => cases hx; obtain ⟨a, rfl, ha⟩ := hv.one; exact ok_extract ha
  case call c =>
    obtain ⟨callee, args, ts⟩ := c
    cases callee with
    | builtin b => cases hx; exact ok_call rfl hv
    | _ => cases hx
  all_goals (cases hx; done)
end Go.Ev

namespace Go.Ev
open Go
set_option linter.unusedSectionVars false
variable [Sym]
set_option linter.unusedVariables false
set_option linter.unusedSimpArgs false

theorem Env.get_cons {d t : Nat} {v : AV} {l : Env} : Env.get ((d, v) :: l) t = if d = t then some v else Env.get l t := by
  show (match Nat.beq d t with | true => some v | false => Env.get l t) = _
  cases h : Nat.beq d t
  · rw [if_neg (beq_false h)]
  · rw [if_pos (beq_true h)]
theorem Env.get_set {e : Env} {dst : Option Tmp} {v u : AV} {t : Nat} (h : (e.set dst v).get t = some u) : (dst = some t ∧ u = v) ∨ (dst ≠ some t ∧ e.get t = some u) := by
  cases dst with
  | none => exact .inr ⟨by simp, h⟩
  | some d =>
    have h : Env.get ((d, v) :: e) t = some u := h
    rw [Env.get_cons] at h
    by_cases e1 : d = t
    · rw [if_pos e1] at h; exact .inl ⟨by rw [e1], by injection h with h; exact h.symm⟩
    · rw [if_neg e1] at h; exact .inr ⟨by simpa using e1, h⟩

theorem testBit_xor_pow (lv d t : Nat) (h : d ≠ t) : (lv ^^^ 2 ^ d).testBit t = lv.testBit t := by
  rw [Nat.testBit_xor, Nat.testBit_two_pow_of_ne h, Bool.xor_false]

theorem Env.get_trim : ∀ {e : Env} {lv t : Nat} {u : AV}, (Env.trim lv e).get t = some u → e.get t = some u ∧ lv.testBit t = true
  | [], lv, t, u, h => by cases h
  | (d, v) :: l, lv, t, u, h => by
    have h : Env.get (match lv.testBit d with | true => (d, v) :: Env.trim (lv ^^^ 2 ^ d) l | false => Env.trim lv l) t = some u := h
    rw [Env.get_cons]
    cases hb : lv.testBit d
    · rw [hb] at h
      obtain ⟨h1, h2⟩ := Env.get_trim (e := l) h
      by_cases e1 : d = t
      · subst e1; rw [hb] at h2; cases h2
      · rw [if_neg e1]; exact ⟨h1, h2⟩
    · rw [hb] at h
      dsimp only at h
      rw [Env.get_cons] at h
      by_cases e1 : d = t
      · rw [if_pos e1] at h ⊢; exact ⟨h, by rw [← e1]; exact hb⟩
      · rw [if_neg e1] at h ⊢
        obtain ⟨h1, h2⟩ := Env.get_trim (e := l) h
        exact ⟨h1, by rw [testBit_xor_pow _ _ _ e1] at h2; exact h2⟩

theorem Env.getL_good : ∀ {L : List Nat} {e : Env} {k : List AV → Ans}, e.getL L k = .good → ∃ vs : List AV, vs.length = L.length ∧ (∀ (i t : Nat) (v : AV), L[i]? = some t → vs[i]? = some v → e.get t = some v) ∧ k vs = .good
  | [], e, k, h => ⟨[], rfl, by simp, h⟩
  | t :: L, e, k, h => by
    have h : (match e.get t with | some v => Env.getL e L fun vs => k (v :: vs) | none => .bad) = .good := h
    cases hv : e.get t with
    | none => rw [hv] at h; cases h
    | some v =>
      rw [hv] at h
      obtain ⟨vs, h1, h2, h3⟩ := Env.getL_good (k := fun vs => k (v :: vs)) h
      refine ⟨v :: vs, by simp [h1], fun i t' v' hi hv' => ?_, h3⟩
      cases i with
      | zero => simp at hi hv'; subst hi; subst hv'; exact hv
      | succ i => simp at hi hv'; exact h2 i t' v' hi hv'

theorem Env.get_zip : ∀ {L : List Nat} {vs : List AV} {t : Nat} {u : AV}, Env.get (L.zip vs) t = some u → ∃ i : Nat, L[i]? = some t ∧ vs[i]? = some u
  | [], vs, t, u, h => by cases h
  | d :: L, [], t, u, h => by cases h
  | d :: L, v :: vs, t, u, h => by
    rw [List.zip_cons_cons, Env.get_cons] at h
    by_cases e1 : d = t
    · rw [if_pos e1] at h; injection h with h; exact ⟨0, by simp [e1], by simp [h]⟩
    · rw [if_neg e1] at h
      obtain ⟨i, h1, h2⟩ := Env.get_zip h
      exact ⟨i + 1, by simpa using h1, by simpa using h2⟩
theorem unL_ofList (l : List AV) : ∀ (k : List AV → Ans), unL l.length (AV.ofList l) k = k l := by
  induction l with
  | nil => intro k; rfl
  | cons a l ih => intro k; show asCons (.cons a (AV.ofList l)) (fun a b => unL l.length b fun l => k (a :: l)) = _; show unL l.length (AV.ofList l) (fun l => k (a :: l)) = _; rw [ih]
theorem unpack_packE (vs : List AV) (k : List AV → Ans) : unpack vs.length (packE vs) k = k vs := by
  match vs with
  | [] => rfl
  | [_] => rfl
  | [_, _] => rfl
  | [_, _, _] => rfl
  | [_, _, _, _] => rfl
  | [_, _, _, _, _] => rfl
  | [_, _, _, _, _, _] => rfl
  | [_, _, _, _, _, _, _] => rfl
  | [_, _, _, _, _, _, _, _] => rfl
  | [_, _, _, _, _, _, _, _, _] => rfl
  | [_, _, _, _, _, _, _, _, _, _] => rfl
  | [_, _, _, _, _, _, _, _, _, _, _] => rfl
  | [_, _, _, _, _, _, _, _, _, _, _, _] => rfl
  | [_, _, _, _, _, _, _, _, _, _, _, _, _] => rfl
  | [_, _, _, _, _, _, _, _, _, _, _, _, _, _] => rfl
  | [_, _, _, _, _, _, _, _, _, _, _, _, _, _, _] => rfl
  | [_, _, _, _, _, _, _, _, _, _, _, _, _, _, _, _] => rfl
  | a0 :: a1 :: a2 :: a3 :: a4 :: a5 :: a6 :: a7 :: a8 :: a9 :: a10 :: a11 :: a12 :: a13 :: a14 :: b :: c :: r =>
    have e : (a0 :: a1 :: a2 :: a3 :: a4 :: a5 :: a6 :: a7 :: a8 :: a9 :: a10 :: a11 :: a12 :: a13 :: a14 :: b :: c :: r).length = r.length + 17 := rfl
    rw [e]
    show unL (r.length + 17 - 15) (AV.ofList (b :: c :: r)) (fun l => k (a0 :: a1 :: a2 :: a3 :: a4 :: a5 :: a6 :: a7 :: a8 :: a9 :: a10 :: a11 :: a12 :: a13 :: a14 :: l)) = _
    rw [show r.length + 17 - 15 = (b :: c :: r).length from by simp, unL_ofList]

theorem unpack_good {vs : List AV} {n : Nat} {k : List AV → Ans} (hn : vs.length = n) (h : unpack n (packE vs) k = .good) : k vs = .good := by
  rw [← hn, unpack_packE] at h; exact h

theorem VRL.toVRs {ι : Inj} : ∀ {l : List AV} {xs : List Value}, VRL ι (AV.ofList l) xs → VRs ι l xs
  | [], xs, h => by cases h; exact .nil
  | a :: l, xs, h => by
    have h : VRL ι (.cons a (AV.ofList l)) xs := h
    cases h with | cons h1 h2 => exact .cons h1 (VRL.toVRs h2)
end Go.Ev
