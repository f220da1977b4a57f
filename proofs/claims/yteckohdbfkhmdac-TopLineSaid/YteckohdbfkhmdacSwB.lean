/- A library over the model, part 2: how values lie, what is ours in memory, rules for operations, calls, loops, ranges over functions. Conditions: none. -/
import Derived.Test.YteckohdbfkhmdacSwA
import Derived.Laws.Cover3
set_option linter.unusedVariables false
set_option linter.unusedSimpArgs false
namespace Go.Sw
open Go Go.RowKit

def mget {α β : Type} [DecidableEq α] : List (α × β) → α → Option β
  | [], _ => none
  | (a, b) :: m, k => if a = k then some b else mget m k
def mput {α β : Type} [DecidableEq α] (m : List (α × β)) (k : α) (v : β) : Option (List (α × β)) := match mget m k with | none => some (m ++ [(k, v)]) | some _ => none
/-- what may be a key -/
def KeyE {α : Type} (n : Nat) (P : Program) (T : TypeId) (e : Enc α) : Prop := ∀ d, n ≤ d → ∀ (em : Bool) (w : World) (S : Nat → Prop) (w1 : World) (x : α) (cs : List Value), e.ok x S w1 cs → (Instr.checkKey em d T (e.pk cs)).run P w = .ok () w
theorem KeyE.int {P : Program} {T : TypeId} {k k' : IntKind} (h : ∀ w, (underlying T).run P w = .ok (.int k') w) : KeyE 1 P T (Enc.int k) := by
  intro d hd em w S w1 x cs hx
  obtain ⟨d, rfl⟩ : ∃ d', d = d' + 1 := ⟨d - 1, by omega⟩
  rw [hx.1]
  simp [Instr.checkKey, h, Enc.pk, Enc.int]
theorem checkItems {α : Type} {n d : Nat} {P : Program} {E : TypeId} {e : Enc α} {em : Bool} (hd : n ≤ d) (he : KeyE n P E e) (hA : ∀ w, (isAgg E).run P w = .ok e.agg w) (hS : ∀ w, (sizeOf E).run P w = .ok e.n w) {S : Nat → Prop} {w1 : World} :
    ∀ (xs : List α) (k : Nat) (pre cs : List Value) (w : World), pre.length = k * e.n → e.okL xs S w1 cs →
      (forIn (List.range' k xs.length) PUnit.unit fun i (_ : PUnit) => do
        let s ← sizeOf E
        let v ← part E (pre ++ cs).toArray (i * s)
        Instr.checkKey em d E v
        pure (ForInStep.yield PUnit.unit) : Sem PUnit).run P w = .ok () w
  | [], k, pre, cs, w, _, _ => by simp
  | x :: xs, k, pre, cs, w, hp, ⟨c, c', h1, h2, h3⟩ => by
    subst h1
    have ih := checkItems (em := em) hd he hA hS xs (k + 1) (pre ++ c) c' w (by rw [List.length_append, hp, e.len h2, Nat.add_mul, Nat.one_mul]) h3
    have hpart := part_e (P := P) (w := w) (b := c') h2 hp hA hS
    rw [List.append_assoc] at ih
    simp only [List.length_cons, List.range'_succ, List.forIn_cons, Sem.run_bind, hS, Result.andThen_ok, hpart, he d hd em w S w1 x c h2]
    simpa using ih
theorem KeyE.arr {α : Type} {n m : Nat} {P : Program} {T E : TypeId} {e : Enc α} (hT : ∀ w, (underlying T).run P w = .ok (.array m E) w) (hS : ∀ w, (sizeOf E).run P w = .ok e.n w) (hA : ∀ w, (isAgg E).run P w = .ok e.agg w) (he : KeyE n P E e) : KeyE (n + 1) P T (Enc.arr m e) := by
  intro d hd em w S w1 x cs hx
  obtain ⟨d, rfl⟩ : ∃ d', d = d' + 1 := ⟨d - 1, by omega⟩
  have h := checkItems (em := em) (d := d) (by omega) he hA hS x 0 [] cs w (by simp) hx.2
  rw [hx.1] at h
  simp only [Instr.checkKey, Sem.run_bind, hT, Result.andThen_ok, Enc.pk, Enc.arr, if_true]
  simp [Std.Legacy.Range.forIn_eq_forIn_range', Std.Legacy.Range.size] at h ⊢
  rw [h]; rfl

/-! ### looking a key up -/
section
variable {F : Frm} {σ : AS} {d : Option Tmp} {ty : TypeId} {p : String} {af : Array Edge} {gd : Option (Nat × Bool)} {x y z : Operand}
end
end Go.Sw

namespace Go.Sw
open Go Go.RowKit

theorem EqE.up {α : Type} {n : Nat} {P : Program} {T : TypeId} {e : Enc α} (m : Nat) (h : EqE n P T e) (hle : Nat.ble n m = true) : EqE m P T e :=
  fun d hd => h d (Nat.le_trans (Nat.le_of_ble_eq_true hle) hd)

/-- the places of a struct's fields -/
inductive Places (P : Program) : List Field → List (Nat × Nat) → Prop
  | nil : Places P [] []
  | cons {f : Field} {fs : List Field} {n off : Nat} {l : List (Nat × Nat)} : f.offset = off → P.cellsOf f.type = n → (P.info? f.type).isSome = true → Places P fs l → Places P (f :: fs) ((off, n) :: l)
theorem Places.mapM {P : Program} {fs : List Field} {l : List (Nat × Nat)} (h : Places P fs l) : (fs.mapM fun f => (P.info? f.type).map fun i => (f.offset, i.size)) = some l := by
  induction h with
  | nil => rfl
  | cons h1 h2 h3 _ ih =>
    rename_i f fs n off l _
    rw [List.mapM_cons, ih]
    unfold Program.cellsOf at h2
    cases hi : P.info? f.type with
    | none => rw [hi] at h3; cases h3
    | some i => rw [hi] at h2; simp at h2; simp [h1, h2]
theorem built_struct {P : Program} {T : TypeId} {ti : TypeInfo} {fs : Array Field} {l : List (Nat × Nat)} {z : Value} {zs : List Value} (hI : ∀ w, (typeInfo T).run P w = .ok ti w) (hU : ∀ w, (underlying T).run P w = .ok (.struct fs) w) (hz : ti.zero = some z) (hc : z.cells = zs.toArray)
    (hp : Places P fs.toList l) : ∀ parts, P.built T parts = Instr.fill (l.toArray[·]?) zs.toArray parts := by
  intro parts
  unfold Program.built
  rw [info_of hI, under_of hU]
  simp only [hz, hp.mapM, hc]
section
variable {F : Frm} {σ : AS} {pb : Option Nat} {s : Slot} {d : Option Tmp} {ty : TypeId} {p : String} {af : Array Edge} {gd : Option (Nat × Bool)} {x y z : Operand}
/-! ### slices of slices -/
def sub {α : Type} (xs : List α) (lo hi : Int) : Option (List α) := if 0 ≤ lo ∧ lo ≤ hi ∧ hi ≤ xs.length then some ((xs.take hi.toNat).drop lo.toNat) else none
theorem sub_some {α : Type} {xs ys : List α} {lo hi : Int} (h : sub xs lo hi = some ys) : 0 ≤ lo ∧ lo ≤ hi ∧ hi ≤ xs.length ∧ ys = (xs.take hi.toNat).drop lo.toNat := by
  unfold sub at h; split at h
  · rename_i hc; cases h; exact ⟨hc.1, hc.2.1, hc.2.2, rfl⟩
  · cases h
theorem okL_drop {α : Type} {e : Enc α} {S w} : ∀ {xs : List α} {cs : List Value} (n : Nat), e.okL xs S w cs → e.okL (xs.drop n) S w (cs.drop (n * e.n))
  | xs, cs, 0, h => by simpa using h
  | [], cs, n + 1, h => by
    have : cs = [] := h
    subst this; simpa using h
  | x :: xs, cs, n + 1, ⟨c, d, h1, h2, h3⟩ => by
    subst h1
    have := okL_drop n h3
    have hl := e.len h2
    rw [Nat.succ_mul, Nat.add_comm (n * e.n), ← hl, List.drop_append, hl]
    have e1 : c.drop (e.n + n * e.n) = [] := List.drop_eq_nil_of_le (by omega)
    rw [e1]
    simpa using this
theorem okL_take {α : Type} {e : Enc α} {S w} : ∀ {xs : List α} {cs : List Value} (n : Nat), e.okL xs S w cs → e.okL (xs.take n) S w (cs.take (n * e.n))
  | xs, cs, 0, h => by simp; rfl
  | [], cs, n + 1, h => by
    have : cs = [] := h
    subst this; simpa using h
  | x :: xs, cs, n + 1, ⟨c, d, h1, h2, h3⟩ => by
    subst h1
    have := okL_take n h3
    have hl := e.len h2
    refine ⟨c, d.take (n * e.n), ?_, h2, this⟩
    rw [Nat.succ_mul, Nat.add_comm (n * e.n), ← hl, List.take_append, hl]
    have e1 : c.take (e.n + n * e.n) = c := List.take_of_length_le (by omega)
    rw [e1]
    simp
theorem MemAt.drop {w : World} {b off : Nat} {ds : List Value} (n : Nat) (h : MemAt w b off ds) : MemAt w b (off + n) (ds.drop n) := by
  obtain ⟨c, T, fr, h1, h2⟩ := h
  refine ⟨c, T, fr, h1, fun j hj => ?_⟩
  have := h2 (n + j) (by simp at hj; omega)
  rw [List.getElem_drop, ← this]; congr 1; omega
theorem MemAt.take {w : World} {b off : Nat} {ds : List Value} (n : Nat) (h : MemAt w b off ds) : MemAt w b off (ds.take n) := by
  obtain ⟨c, T, fr, h1, h2⟩ := h
  refine ⟨c, T, fr, h1, fun j hj => ?_⟩
  rw [List.getElem_take]
  exact h2 j (by simp at hj; omega)
theorem sl_sub {α : Type} {e : Enc α} {xs ys : List α} {lo hi : Int} {S : Nat → Prop} {w : World} {a : Option Addr} {cap : Nat} (hs : sub xs lo hi = some ys) (hl : xs.length ≤ cap ∧ xs.length ≤ 140737488355328)
    (h : xs = [] ∨ ∃ b off ds, a = some ⟨b, off, none⟩ ∧ b < w.heap.size ∧ ¬ S b ∧ MemAt w b off ds ∧ e.okL xs S w ds) :
    (Enc.sl e).val ys S w (.slice (if cap = lo.toNat then a else a.map (·.add (lo.toNat * e.n))) (hi.toNat - lo.toNat) (cap - lo.toNat)) := by
  obtain ⟨h0, h1, h2, rfl⟩ := sub_some hs
  have hyl : ((xs.take hi.toNat).drop lo.toNat).length = hi.toNat - lo.toNat := by rw [List.length_drop, List.length_take]; omega
  refine val_sl.2 ⟨_, _, by rw [hyl], ⟨by rw [hyl]; omega, by rw [hyl]; omega⟩, ?_⟩
  rcases h with h | ⟨b, off, ds, rfl, h3, h4, h5, h6⟩
  · subst h; left; simp
  · by_cases hn : hi.toNat - lo.toNat = 0
    · left; exact List.eq_nil_of_length_eq_zero (by rw [hyl]; exact hn)
    · right
      have hc : ¬ cap = lo.toNat := by omega
      refine ⟨b, off + lo.toNat * e.n, _, by rw [if_neg hc]; simp [Addr.add_lit], h3, h4, (h5.take (hi.toNat * e.n)).drop (lo.toNat * e.n), okL_drop _ (okL_take _ h6)⟩
theorem bounds_h {P : Program} {w : World} {len cap : Nat} {k' : IntKind} {hi : Int} (h1 : 0 ≤ hi) (h2 : hi ≤ cap) : (Instr.sliceBounds true len cap none (some (.int k' hi)) none).run P w = .ok (0, hi.toNat, cap) w := by
  simp [Instr.sliceBounds, Instr.sliceBound, asIntOf, h1, h2]
theorem bounds_l {P : Program} {w : World} {len cap : Nat} {k : IntKind} {lo : Int} (h0 : 0 ≤ lo) (h1 : lo ≤ len) : (Instr.sliceBounds true len cap (some (.int k lo)) none none).run P w = .ok (lo.toNat, len, cap) w := by
  simp [Instr.sliceBounds, Instr.sliceBound, asIntOf, h0, h1]
theorem K_sl {α : Type} {e : Enc α} {xs : List α} {xs' : Array Operand} {ρ : Nat → LV} {S a w} (K : Know σ xs' ρ S a w) (hm : x ∈ xs') (hx : evS σ.g x = some (.v (Enc.sl e) xs)) :
    ∃ ad cap, a.eval x = .slice ad xs.length cap ∧ (xs.length ≤ cap ∧ xs.length ≤ 140737488355328) ∧ (xs = [] ∨ ∃ b off ds, ad = some ⟨b, off, none⟩ ∧ b < w.heap.size ∧ ¬ S b ∧ MemAt w b off ds ∧ e.okL xs S w ds) := by
  have h := K.slot x hm _ hx
  simp only [Slot.ok] at h
  exact val_sl.1 h
theorem JO.slHi {α : Type} {e : Enc α} {xs ys : List α} {hi : Int} {k' : IntKind} {U E : TypeId} (hs : sub xs 0 hi = some ys) (hx : evS σ.g x = some (.v (Enc.sl e) xs)) (hz : evS σ.g z = some (.v (Enc.int k') hi))
    (hU : ∀ w, (underlying U).run F.P w = .ok (.slice E) w) (hE : ∀ w, (sizeOf E).run F.P w = .ok e.n w) : JO F ⟨d, .slice U x none (some z) none, ty, p, af, gd⟩ σ (.v (Enc.sl e) ys) [] := by
  intro ρ S a w K
  obtain ⟨ad, cap, h1, h2, h3⟩ := K_sl K (x := x) (by simp [Op.operands]) hx
  have h5 := (K_int K (x := z) (by simp [Op.operands]) hz).1
  obtain ⟨s0, s1, s2, _⟩ := sub_some hs
  refine OpWp.value (w' := w) ?_ (Res.same (by simp only [Slot.ok]; exact sl_sub hs h2 h3))
  simp [execOp, Instr.sliceAt, Instr.slice, h1, h5, hU, hE, bounds_h s1 (show hi ≤ (cap : Int) by omega)]
theorem JO.slLo {α : Type} {e : Enc α} {xs ys : List α} {lo : Int} {k : IntKind} {U E : TypeId} (hs : sub xs lo (xs.length : Int) = some ys) (hx : evS σ.g x = some (.v (Enc.sl e) xs)) (hy : evS σ.g y = some (.v (Enc.int k) lo))
    (hU : ∀ w, (underlying U).run F.P w = .ok (.slice E) w) (hE : ∀ w, (sizeOf E).run F.P w = .ok e.n w) : JO F ⟨d, .slice U x (some y) none none, ty, p, af, gd⟩ σ (.v (Enc.sl e) ys) [] := by
  intro ρ S a w K
  obtain ⟨ad, cap, h1, h2, h3⟩ := K_sl K (x := x) (by simp [Op.operands]) hx
  have h4 := (K_int K (x := y) (by simp [Op.operands]) hy).1
  obtain ⟨s0, s1, s2, _⟩ := sub_some hs
  refine OpWp.value (w' := w) ?_ (Res.same (by simp only [Slot.ok]; exact sl_sub hs h2 h3))
  simp [execOp, Instr.sliceAt, Instr.slice, h1, h4, hU, hE, bounds_l s0 s1]
/-- a full slice of a slice: 'x[lo:hi:m]', where the greatest is no further than the end -/
theorem JO.sl3 {α : Type} {e : Enc α} {xs ys : List α} {lo hi m : Int} {k k' k2 : IntKind} {q : Operand} {U E : TypeId} (hs : sub xs lo hi = some ys) (hm : hi ≤ m ∧ m ≤ xs.length) (hx : evS σ.g x = some (.v (Enc.sl e) xs)) (hy : evS σ.g y = some (.v (Enc.int k) lo)) (hz : evS σ.g z = some (.v (Enc.int k') hi)) (hq : evS σ.g q = some (.v (Enc.int k2) m))
    (hU : ∀ w, (underlying U).run F.P w = .ok (.slice E) w) (hE : ∀ w, (sizeOf E).run F.P w = .ok e.n w) : JO F ⟨d, .slice U x (some y) (some z) (some q), ty, p, af, gd⟩ σ (.v (Enc.sl e) ys) [] := by
  intro ρ S a w K
  obtain ⟨ad, cap, h1, h2, h3⟩ := K_sl K (x := x) (by simp [Op.operands]) hx
  have h4 := (K_int K (x := y) (by simp [Op.operands]) hy).1
  have h5 := (K_int K (x := z) (by simp [Op.operands]) hz).1
  have h6 := (K_int K (x := q) (by simp [Op.operands]) hq).1
  obtain ⟨s0, s1, s2, rfl⟩ := sub_some hs
  have hyl : ((xs.take hi.toNat).drop lo.toNat).length = hi.toNat - lo.toNat := by rw [List.length_drop, List.length_take]; omega
  have hval : (Enc.sl e).val ((xs.take hi.toNat).drop lo.toNat) S w (.slice (if m.toNat = lo.toNat then ad else ad.map (·.add (lo.toNat * e.n))) (hi.toNat - lo.toNat) (m.toNat - lo.toNat)) := by
    refine val_sl.2 ⟨_, _, by rw [hyl], ⟨by rw [hyl]; omega, by rw [hyl]; omega⟩, ?_⟩
    rcases h3 with h | ⟨b, off, ds, rfl, h3, h4, h5, h6⟩
    · subst h; left; simp
    · by_cases hn : hi.toNat - lo.toNat = 0
      · left; exact List.eq_nil_of_length_eq_zero (by rw [hyl]; exact hn)
      · right
        have hc : ¬ m.toNat = lo.toNat := by omega
        refine ⟨b, off + lo.toNat * e.n, _, by rw [if_neg hc]; simp [Addr.add_lit], h3, h4, (h5.take (hi.toNat * e.n)).drop (lo.toNat * e.n), okL_drop _ (okL_take _ h6)⟩
  refine OpWp.value (w' := w) ?_ (Res.same (by simp only [Slot.ok]; exact hval))
  have hb : (Instr.sliceBounds true xs.length cap (some (.int k lo)) (some (.int k' hi)) (some (.int k2 m))).run F.P w = .ok (lo.toNat, hi.toNat, m.toNat) w := by
    have q1 : 0 ≤ m := by omega
    have q2 : m ≤ (cap : Int) := by omega
    have q3 : 0 ≤ hi := by omega
    have q4 : hi ≤ (m.toNat : Int) := by omega
    have q5 : lo ≤ (hi.toNat : Int) := by omega
    simp only [Instr.sliceBounds, Instr.sliceBound, asIntOf, Sem.run_bind, Sem.run_pure, Result.andThen_ok, s0, q1, q2, q3, q4, q5, and_self, if_true]
  simp [execOp, Instr.sliceAt, Instr.slice, h1, h4, h5, h6, hU, hE, hb]

def sub3 {α : Type} (xs : List α) (lo hi m : Int) : Option (List α) := if hi ≤ m ∧ m ≤ xs.length then sub xs lo hi else none
/-! ### an array's pointer -/
def arrOf {α : Type} (n : Nat) (xs : List α) : Option (List α) := if n ≤ xs.length ∧ 0 < n then some (xs.take n) else none
theorem JO.arrPtr {α : Type} {e : Enc α} {xs ys : List α} {n : Nat} {U E : TypeId} (hs : arrOf n xs = some ys) (hx : evS σ.g x = some (.v (Enc.sl e) xs)) (hU : ∀ w, (underlying U).run F.P w = .ok (.array n E) w) :
    JO F ⟨d, .sliceToArrayPointer U x, ty, p, af, gd⟩ σ (.pst (Enc.arr n e) ys) [] := by
  intro ρ S a w K
  obtain ⟨ad, cap, h1, h2, h3⟩ := K_sl K (x := x) (by simp [Op.operands]) hx
  unfold arrOf at hs
  split at hs
  · rename_i hn
    cases hs
    rcases h3 with h | ⟨b, off, ds, rfl, h3, h4, h5, h6⟩
    · subst h; simp at hn; omega
    · have hnl : ¬ xs.length < n := by omega
      refine OpWp.value (w' := w) (v := .pointer (some ⟨b, off, none⟩)) ?_ (Res.same (by simp only [Slot.ok]; exact ⟨b, off, _, rfl, h3, h4, h5.take (n * e.n), by rw [List.length_take]; omega, okL_take _ h6⟩))
      simp [execOp, Instr.arrayAt, h1, hU, hnl]
  · cases hs

/-! ### greatest, least -/
theorem JO.gmin {k : IntKind} {m n : Int} {U U' : TypeId} (hx : evS σ.g x = some (.v (Enc.int k) m)) (hy : evS σ.g y = some (.v (Enc.int k) n)) :
    JO F ⟨d, .call ⟨.builtin .min, #[x, y], #[U, U']⟩, ty, p, af, gd⟩ σ (.v (Enc.int k) (min m n)) [] := by
  intro ρ S a w K
  obtain ⟨h1, k1⟩ := K_int K (x := x) (by simp [Op.operands, Call.operands]) hx
  obtain ⟨h2, k2⟩ := K_int K (x := y) (by simp [Op.operands, Call.operands]) hy
  have e : (if n < m then n else m) = min m n := by split <;> omega
  refine OpWp.value (w' := w) (v := .int k (min m n)) ?_ (Res.same (int_ok (by unfold inK at *; omega) ρ S w))
  simp [execOp, resolve, invoke, builtin, h1, h2, Builtin.min_, Builtin.min2, e]

/-! ### what has no slot of its own is stored -/
/-! ### functions as values -/
theorem fnc_ok (g : Nat) (ρ : Nat → LV) (S : Nat → Prop) (w : World) : (Slot.fnc g []).ok ρ S w (.func (.func g) #[] #[]) := by
  simp only [Slot.ok]; exact ⟨[], rfl, rfl⟩
theorem Arg.fn {g : Nat} {lend : Bool} : Arg σ lend (.func g) (.fnc g []) := fun ρ _ a w _ => fnc_ok g ρ _ w
end
end Go.Sw

namespace Go.Sw
open Go Go.RowKit
section
variable {F : Frm} {σ : AS} {pb : Option Nat} {s : Slot} {d : Option Tmp} {ty : TypeId} {p : String} {af : Array Edge} {gd : Option (Nat × Bool)} {x y z : Operand}

theorem okv_append {ρ S w} : ∀ {l l' : List Slot} {vs vs' : List Value}, Slot.okv ρ S w l vs → Slot.okv ρ S w l' vs' → Slot.okv ρ S w (l ++ l') (vs ++ vs')
  | [], _, vs, _, h, h' => by simp only [Slot.okv] at h; subst h; exact h'
  | s :: l, _, vs, _, h, h' => by
    simp only [Slot.okv] at h
    obtain ⟨u, ws, rfl, h1, h2⟩ := h
    simp only [List.cons_append, Slot.okv]
    exact ⟨u, _, rfl, h1, okv_append h2 h'⟩

theorem run_callF {P : Program} {f : FuncId} {xs : List Operand} {ts : Array TypeId} {a : Act} {w : World} {cs : List Value} (hx : a.eval x = .func (.func f) #[] cs.toArray) (hcall : ∀ args w, (callFunc f args).run P w = .ok (.enter f args) w) :
    (execOp a.eval ⟨d, .call ⟨.value x, xs.toArray, ts⟩, ty, p, af, gd⟩).run P w = .ok (.enter f (xs.map a.eval ++ cs).toArray) w := by
  simp [execOp, resolve, hx, Deferred.ofValue, invoke, hcall]
theorem JO.makeFunc {f : FuncId} {xs : List Operand} {cap : List Slot} (ha : Args σ false xs cap) : JO F ⟨d, .makeFunc (.func f) #[] xs.toArray, ty, p, af, gd⟩ σ (.fnc f cap) [] := by
  intro ρ S a w K
  have := ha.spec (ys := (Op.makeFunc (.func f) #[] xs.toArray).operands) (by intro x hx; simp [Op.operands, hx]) K
  simp only [Bool.false_eq_true, if_false] at this
  refine OpWp.value (w' := w) (v := .func (.func f) #[] (xs.map a.eval).toArray) (by simp [execOp, Instr.makeFunc]) (Res.same (by simp only [Slot.ok]; exact ⟨_, rfl, this⟩))

theorem pst_of {α : Type} {i : Nat} {T : TypeId} {e : Enc α} {v : α} {bl : List Slot} {ρ : Nat → LV} {S : Nat → Prop} {w : World} {u : Value} (h0 : (Slot.ptr i 0).ok ρ S w u) (he : (Ent.box T bl pb).ok ρ S w (ρ i)) (hs : Spl bl e v) :
    (Slot.pst e v).ok ρ (fun _ => False) w u := by
  simp only [Slot.ok] at h0 ⊢
  obtain ⟨⟨b, h1⟩, h2⟩ := h0
  obtain ⟨⟨b', cs, h3, h4, h5⟩, _⟩ := he
  obtain rfl : b' = b := by rw [h1] at h3; simpa using h3.symm
  exact ⟨b', 0, cs, by rw [h2, h1]; rfl, (MemAt.of_heap h4).lt, fun h => h, MemAt.of_heap h4, e.mono ((hs _ _ _ _).1 h5) (lend_ext S w true)⟩
/-- what a function took with it, lent -/
inductive CapL (σ : AS) : List Slot → List Slot → Prop
  | nil : CapL σ [] []
  | same {s : Slot} {l l' : List Slot} : CapL σ l l' → CapL σ (s :: l) (s :: l')
  | ptr {α : Type} {i : Nat} {T : TypeId} {e : Enc α} {v : α} {bl l l' : List Slot} {pb : Option Nat} : lkE σ.d i = some (.box T bl pb) → Spl bl e v → CapL σ l l' → CapL σ (.ptr i 0 :: l) (.pst e v :: l')
theorem CapL.spec {l l' : List Slot} (h : CapL σ l l') {ρ S w} (hent : ∀ i ∈ Slot.labs l, ∀ en, lkE σ.d i = some en → en.ok ρ S w (ρ i)) : ∀ vs, Slot.okv ρ S w l vs → Slot.okv ρ (fun _ => False) w l' vs := by
  induction h with
  | nil => intro vs h; exact h
  | same _ ih =>
    intro vs h
    simp only [Slot.okv] at h ⊢
    obtain ⟨u, ws, h1, h2, h3⟩ := h
    exact ⟨u, ws, h1, Slot.ok_mono _ u h2 (lend_ext S w true) (fun _ _ => rfl), ih (fun i hi => hent i (by simp [Slot.labs, hi])) ws h3⟩
  | ptr he hs _ ih =>
    intro vs h
    simp only [Slot.okv] at h ⊢
    obtain ⟨u, ws, h1, h2, h3⟩ := h
    exact ⟨u, ws, h1, pst_of h2 (hent _ (by simp [Slot.labs, Slot.lab]) _ he) hs, ih (fun i hi => hent i (by simp [Slot.labs, hi])) ws h3⟩
theorem JO.nilPtr {i off : Nat} (hx : evS σ.g x = some (.ptr i off)) : JO F ⟨d, .nilCheck x, ty, p, af, gd⟩ σ (.ptr i off) [] := by
  intro ρ S a w K
  have h := K.slot x (by simp [Op.operands]) _ hx
  have h' := h
  simp only [Slot.ok] at h'
  obtain ⟨⟨b, h1⟩, h2⟩ := h'
  refine OpWp.value (w' := w) (v := a.eval x) ?_ (Res.same h)
  simp [execOp, h2, h1, ptrAdd]
end
end Go.Sw

namespace Go.Sw
open Go Go.RowKit

theorem Spl.prm {α β : Type} {l l' : List Slot} {a : Enc α} {b : Enc β} {x : α} {y : β} (h : Spl l a x) (h' : Spl l' b y) : Spl (l ++ l') (Enc.pr a b) (x, y) := Spl.pr (x := (x, y)) h h'

section
variable {F : Frm} {σ : AS} {pb : Option Nat} {s : Slot} {d : Option Tmp} {ty : TypeId} {p : String} {af : Array Edge} {gd : Option (Nat × Bool)} {x y z : Operand}
theorem JO.call0 {f : FuncId} {xs : List Operand} {ts : Array TypeId} {ss : List Slot} {res : Slot} (hc : Con F.P f ss res []) (hcall : ∀ args w, (callFunc f args).run F.P w = .ok (.enter f args) w)
    (ha : Args σ false xs ss) : JO F ⟨d, .call ⟨.value (.func f), xs.toArray, ts⟩, ty, p, af, gd⟩ σ res [] := by
  intro ρ S a w K
  refine OpWp.enter (run_call hcall) ?_
  have := ha.spec (ys := (Op.call ⟨.value (.func f), xs.toArray, ts⟩).operands) (by intro x hx; simp [Op.operands, Call.operands, hx]) K
  refine (hc S w _ ρ K.low this).mono ?_
  rintro e w' ⟨v, rfl, h⟩
  exact ⟨v, rfl, h⟩
theorem JO.callF0 {f : FuncId} {xs : List Operand} {ts : Array TypeId} {ss cap : List Slot} {res : Slot} (hx : evS σ.g x = some (.fnc f cap)) (hc : Con F.P f (ss ++ cap) res []) (hcall : ∀ args w, (callFunc f args).run F.P w = .ok (.enter f args) w)
    (ha : Args σ false xs ss) : JO F ⟨d, .call ⟨.value x, xs.toArray, ts⟩, ty, p, af, gd⟩ σ res [] := by
  intro ρ S a w K
  have h0 := K.slot x (by simp [Op.operands, Call.operands]) _ hx
  simp only [Slot.ok] at h0
  obtain ⟨cs, h1, h2⟩ := h0
  refine OpWp.enter (run_callF h1 hcall) ?_
  have := ha.spec (ys := (Op.call ⟨.value x, xs.toArray, ts⟩).operands) (by intro x hx; simp [Op.operands, Call.operands, hx]) K
  refine (hc S w _ ρ K.low (okv_append this h2)).mono ?_
  rintro e w' ⟨v, rfl, h⟩
  exact ⟨v, rfl, h⟩
/-- a call that is lent what is ours, and makes nothing of ours -/
theorem JO.callL0 {f : FuncId} {xs : List Operand} {ts : Array TypeId} {ss : List Slot} {res : Slot} (hc : Con F.P f ss res []) (hcall : ∀ args w, (callFunc f args).run F.P w = .ok (.enter f args) w)
    (ha : Args σ true xs ss) (hf : FlatS res) : JO F ⟨d, .call ⟨.value (.func f), xs.toArray, ts⟩, ty, p, af, gd⟩ σ res [] := by
  intro ρ S a w K
  refine OpWp.enter (run_call hcall) ?_
  have := ha.spec (ys := (Op.call ⟨.value (.func f), xs.toArray, ts⟩).operands) (by intro x hx; simp [Op.operands, Call.operands, hx]) K
  refine (hc (fun _ => False) w _ ρ (fun _ h => h.elim) this).mono ?_
  rintro e w' ⟨v, rfl, ρ', h1, h2, h3, h4⟩
  refine ⟨v, rfl, ρ', h1, h2, hf _ _ _ _ _ h3, ⟨fun i en h => by simp [lkE] at h, fun i en b h => by simp [lkE] at h, fun i j en en' b h => by simp [lkE] at h⟩⟩

/-! ### slices of arrays in boxes -/
theorem bounds_arr {P : Program} {w : World} {n : Nat} : (Instr.sliceBounds false n n none none none).run P w = .ok (0, n, n) w := by simp [Instr.sliceBounds]
theorem run_slArr {P : Program} {w : World} {U E : TypeId} {b off len m : Nat} (hU : ∀ w, (underlying U).run P w = .ok (.array len E) w) (hE : ∀ w, (sizeOf E).run P w = .ok m w) : (Instr.sliceAt U (.pointer (some ⟨b, off, none⟩)) none none none).run P w = .ok (.slice (some ⟨b, off, none⟩) len len) w := by
  have h0 : Addr.add ⟨b, off, none⟩ 0 = ⟨b, off, none⟩ := by rw [Addr.add_lit]; rfl
  by_cases hl : len = 0
  · subst hl; simp [Instr.sliceAt, hU, hE, Instr.sureAddr, bounds_arr]
  · simp [Instr.sliceAt, hU, hE, Instr.sureAddr, bounds_arr, hl, h0]
theorem JO.aslAll {α : Type} {e : Enc α} {zs : List α} {T U E : TypeId} {l : List Slot} {i off len : Nat} (hx : evS σ.g x = some (.ptr i off)) (he : lkE σ.d i = some (.box T l pb)) (_ho : offAt l off = some (.v (Enc.arr len e) zs))
    (hU : ∀ w, (underlying U).run F.P w = .ok (.array len E) w) (hE : ∀ w, (sizeOf E).run F.P w = .ok e.n w) :
    JO F ⟨d, .slice U x none none none, ty, p, af, gd⟩ σ (.asl i off 0 len len) [] := by
  intro ρ S a w K
  obtain ⟨b, cs, h1, h2, h3, h4⟩ := K_ptr K (x := x) (by simp [Op.operands]) hx he
  refine OpWp.value (w' := w) (v := .slice (some ⟨b, off, none⟩) len len) ?_ (Res.same (by simp only [Slot.ok]; exact ⟨⟨b, h1⟩, by rw [h1]; rfl⟩))
  simp [execOp, h2, run_slArr hU hE]
theorem K_asl {xs : Array Operand} {ρ : Nat → LV} {S a w} (K : Know σ xs ρ S a w) (hm : x ∈ xs) {i off n cap : Nat} {T : TypeId} {l : List Slot} (hx : evS σ.g x = some (.asl i off 0 n cap)) (he : lkE σ.d i = some (.box T l pb)) :
    ∃ b cs, a.eval x = .slice (some ⟨b, off, none⟩) n cap ∧ w.heap[b]? = some (.cells cs.toArray T (0, 0)) ∧ Slot.okl ρ S w l cs := by
  have h := K.slot x hm _ hx
  simp only [Slot.ok] at h
  obtain ⟨⟨b, h1⟩, h2⟩ := h
  have := (K.ent x hm _ hx i (by simp [Slot.lab]) _ he).1
  obtain ⟨⟨b', cs, h3, h4, h5⟩, _⟩ := this
  obtain rfl : b' = b := by rw [h1] at h3; simpa using h3.symm
  exact ⟨b', cs, by rw [h2, h1]; rfl, h4, h5⟩
theorem asl_mem {α : Type} {e : Enc α} {zs : List α} {T : TypeId} {l : List Slot} {b off len : Nat} {cs : List Value} {ρ : Nat → LV} {S : Nat → Prop} {w : World} (h3 : w.heap[b]? = some (.cells cs.toArray T (0, 0))) (h4 : Slot.okl ρ S w l cs) (ho : offAt l off = some (.v (Enc.arr len e) zs)) :
    zs.length = len ∧ ∃ ds, MemAt w b off ds ∧ e.okL zs S w ds := by
  obtain ⟨pre, c, post, rfl, rfl, h5, _⟩ := okl_at ho h4
  simp only [Slot.okc] at h5
  exact ⟨h5.1, c, by have := (MemAt.of_heap h3).sub; simpa using this, h5.2⟩
theorem Arg.asl {α : Type} {e : Enc α} {zs : List α} {T : TypeId} {l : List Slot} {i off len : Nat} (h : evS σ.g x = some (.asl i off 0 len len)) (he : lkE σ.d i = some (.box T l pb)) (ho : offAt l off = some (.v (Enc.arr len e) zs)) (hlen : Nat.ble len 4294967296 = true) : Arg σ true x (.v (Enc.sl e) zs) := by
  intro ρ S a w K
  have hlen := Nat.le_of_ble_eq_true hlen
  obtain ⟨b, cs, h1, h2, h3⟩ := K_asl K (x := x) (by simp) h he
  obtain ⟨h4, ds, h5, h6⟩ := asl_mem h2 h3 ho
  simp only [Slot.ok, if_true]
  rw [h1]
  exact val_sl.2 ⟨_, _, by rw [h4], ⟨by omega, by omega⟩, .inr ⟨b, off, ds, rfl, (MemAt.of_heap h2).lt, fun h => h, h5, Enc.okL_mono h6 (lend_ext S w true)⟩⟩
theorem Src.asl {α : Type} {e : Enc α} {zs : List α} {T : TypeId} {l : List Slot} {i off len : Nat} (h : evS σ.g y = some (.asl i off 0 len len)) (he : lkE σ.d i = some (.box T l pb)) (ho : offAt l off = some (.v (Enc.arr len e) zs)) (hlen : Nat.ble len 4294967296 = true) : Src σ y e zs := by
  intro ρ S a w K
  have hlen := Nat.le_of_ble_eq_true hlen
  obtain ⟨b, cs, h1, h2, h3⟩ := K_asl K (x := y) (by simp) h he
  obtain ⟨h4, ds, h5, h6⟩ := asl_mem h2 h3 ho
  exact ⟨by omega, _, _, by rw [h1, h4], .inr ⟨b, off, ds, rfl, h5, h6⟩⟩
/-- an array literal -/
theorem JO.litArr {α : Type} {e : Enc α} {T E : TypeId} {n : Nat} {ti tE : TypeInfo} {z : Value} {ps : List (Nat × Operand)} {zs : List α} (hI : ∀ w, (typeInfo T).run F.P w = .ok ti w) (hU : ∀ w, (underlying T).run F.P w = .ok (.array n E) w) (hE : ∀ w, (typeInfo E).run F.P w = .ok tE w) (hs : tE.size = e.n) (hz : ti.zero = some z) (hzn : z.cells.size = n * e.n)
    (hl : ps.length = n) (hl' : zs.length = n) (he : Elems σ e 0 ps zs) : JO F ⟨d, .build T ps.toArray, ty, p, af, gd⟩ σ (.v (Enc.arr n e) zs) [] := by
  intro ρ S a w K
  obtain ⟨ds, h1, h2⟩ := he.spec (ys := (Op.build T ps.toArray).operands) (by intro x hx; simp [Op.operands] at hx ⊢; exact hx) K [] z.cells.toList (by simp) (by rw [hl, Array.length_toList, hzn])
  refine OpWp.value (w' := w) (v := .agg ds.toArray) ?_ (Res.same (by simp only [Slot.ok]; exact ⟨ds, ⟨hl', h2⟩, rfl⟩))
  have hb : F.P.built T (ps.map fun q => (q.1, a.eval q.2)) = some ds.toArray := by
    unfold Program.built
    rw [info_of hI, under_of hU]
    simp only [hz, info_of hE, hs]
    simpa using h1
  have := run_build (P := F.P) w T (ps.map fun q => (q.1, a.eval q.2)).toArray ds.toArray (by simpa using hb)
  simp only [execOp, List.map_toArray]
  simp [this]
end
end Go.Sw

namespace Go.Sw
open Go Go.RowKit
/-- a slice, and whether it is nil -/
def Enc.slN {α : Type} (e : Enc α) : Enc (Bool × List α) where
  n := 1
  agg := false
  ok x S w cs := (Enc.sl e).ok x.2 S w cs ∧ ∀ a l c, cs = [.slice a l c] → x.1 = a.isNone
  len h := (Enc.sl e).len h.1
  one _ := rfl
  cell h := (Enc.sl e).cell h.1
  mono h k := ⟨(Enc.sl e).mono h.1 k, h.2⟩
theorem val_slN {α : Type} {e : Enc α} {b : Bool} {xs : List α} {S w u} (h : (Enc.slN e).val (b, xs) S w u) : (Enc.sl e).val xs S w u ∧ ∃ a l c, u = .slice a l c ∧ b = a.isNone := by
  obtain ⟨cs, ⟨h1, h2⟩, rfl⟩ := h
  refine ⟨⟨cs, h1, rfl⟩, ?_⟩
  obtain ⟨a, cap, h3, _⟩ := h1
  exact ⟨a, _, cap, by rw [h3]; rfl, h2 _ _ _ h3⟩
theorem Con.nilCases {α : Type} {P : Program} {f : FuncId} {e : Enc α} {xs : List α} {res : Slot} {new : List (Nat × Ent)} (h : ∀ b, (b = true → xs = []) → Con P f [.v (Enc.slN e) (b, xs)] res new) : Con P f [.v (Enc.sl e) xs] res new := by
  intro S w vs ρ hl hv
  simp only [Slot.okv, Slot.ok] at hv
  obtain ⟨u, ws, rfl, h1, rfl⟩ := hv
  obtain ⟨a, cap, rfl, h2, h3⟩ := val_sl.1 h1
  refine h a.isNone (fun ha => ?_) S w _ ρ hl ?_
  · rcases h3 with h3 | ⟨b, off, ds, rfl, _⟩
    · exact h3
    · cases ha
  · simp only [Slot.okv, Slot.ok]
    refine ⟨_, [], rfl, ⟨[.slice a xs.length cap], ⟨⟨a, cap, rfl, h2, h3⟩, fun a' l c h => ?_⟩, rfl⟩, rfl⟩
    simp at h; rw [h.1]
section
variable {F : Frm} {σ : AS} {s : Slot} {d : Option Tmp} {ty : TypeId} {p : String} {af : Array Edge} {gd : Option (Nat × Bool)} {x y z : Operand}
theorem JO.eqNilS {α : Type} {e : Enc α} {v : Bool × List α} {T T' E : TypeId} (hx : evS σ.g x = some (.v (Enc.slN e) v)) (hT : ∀ w, (underlying T).run F.P w = .ok (.slice E) w) : JO F ⟨d, .binOp .eql T x (.const (.slice none 0 0)) T', ty, p, af, gd⟩ σ (.v Enc.bool v.1) [] := by
  intro ρ S a w K
  have h := K.slot x (by simp [Op.operands]) _ hx
  simp only [Slot.ok] at h
  obtain ⟨b, xs⟩ := v
  obtain ⟨_, ad, l, c, h1, rfl⟩ := val_slN h
  have hq := run_equalIn_slice_nil (P := F.P) w 9999 T E ad l c (under_of hT)
  refine OpWp.value (w' := w) (v := .bool ad.isNone) ?_ (Res.same (bool_ok _ ρ S w))
  exact eqop (r := ad.isNone) (.inl ⟨rfl, rfl⟩) h1 rfl (by intros; simp) (by intros; simp) (by intros; simp) (by intros; simp) (by simp [eqGuard, Act.eval]) hq
theorem Src.slN {α : Type} {e : Enc α} {v : Bool × List α} (h : evS σ.g y = some (.v (Enc.slN e) v)) : Src σ y e v.2 := by
  intro ρ S a w K
  have h1 := K.slot y (by simp) _ h
  simp only [Slot.ok] at h1
  obtain ⟨ad, cap, h2, hl, h3⟩ := val_sl.1 (val_slN h1).1
  refine ⟨hl.2, ad, cap, h2, ?_⟩
  rcases h3 with h3 | ⟨b, off, ds, h4, _, _, h5, h6⟩
  · exact .inl h3
  · exact .inr ⟨b, off, ds, h4, h5, h6⟩
end
end Go.Sw

namespace Go.Sw
open Go Go.RowKit

/-- noughts, of which some slices are ours -/
def ZrN (cs : List Value) (l : List Slot) (new : List (Nat × Ent)) : Prop := ∀ ρ S w, (∀ i en, lkE new i = some en → ρ i = .of (.slice none 0 0)) → Slot.okl ρ S w l cs
theorem ZrN.nil {new : List (Nat × Ent)} : ZrN [] [] new := fun _ _ _ _ => rfl
theorem ZrN.cons {cs : List Value} {l : List Slot} {new : List (Nat × Ent)} {α : Type} {e : Enc α} {z : α} {c : List Value} (h : ∀ S w, e.ok z S w c) (k : ZrN cs l new) : ZrN (c ++ cs) (.v e z :: l) new := fun ρ S w hn => by
  simp only [Slot.okl]; exact ⟨c, cs, rfl, by simp only [Slot.okc]; exact h S w, k ρ S w hn⟩
theorem ZrN.ref {cs : List Value} {l : List Slot} {new : List (Nat × Ent)} {en : Ent} (i : Nat) (hi : lkE new i = some en) (k : ZrN cs l new) : ZrN (.slice none 0 0 :: cs) (.ref i :: l) new := fun ρ S w hn => by
  simp only [Slot.okl]
  exact ⟨[.slice none 0 0], cs, rfl, by simp only [Slot.okc]; rw [hn i en hi]; exact ⟨.inl ⟨_, _, _, rfl⟩, rfl⟩, k ρ S w hn⟩
/-- entries that are nil slices -/
inductive NilN : List (Nat × Ent) → Prop
  | nil : NilN []
  | cons {α : Type} {i : Nat} {T : TypeId} {e : Enc α} {r : List (Nat × Ent)} : NilN r → NilN ((i, .arr T e []) :: r)
  | dp {α : Type} {i : Nat} {D : DE α} {x : α} {r : List (Nat × Ent)} : (∀ S w, D.ok x S w (.of (.slice none 0 0)) []) → NilN r → NilN ((i, .dp D x []) :: r)
theorem NilN.spec {new : List (Nat × Ent)} (h : NilN new) : ∀ i en, lkE new i = some en → ∀ ρ S w, en.ok ρ S w (.of (.slice none 0 0)) := by
  induction h with
  | nil => intro i en h; simp [lkE] at h
  | cons _ ih =>
    rename_i α i T e r _
    intro j en h
    simp only [lkE] at h
    cases hb : Nat.beq i j with
    | true => rw [hb] at h; simp at h; subst h; intro ρ S w; exact .inl ⟨rfl, rfl⟩
    | false => rw [hb] at h; exact ih j en h
  | dp h0 _ ih =>
    rename_i α i D x r _
    intro j en h
    simp only [lkE] at h
    cases hb : Nat.beq i j with
    | true => rw [hb] at h; simp at h; subst h; intro ρ S w; exact h0 S w
    | false => rw [hb] at h; exact ih j en h

section
variable {F : Frm} {σ : AS} {s : Slot} {d : Option Tmp} {ty : TypeId} {p : String} {af : Array Edge} {gd : Option (Nat × Bool)} {x y z : Operand}
theorem nil_res {new : List (Nat × Ent)} {xs : Array Operand} {ρ : Nat → LV} {S : Nat → Prop} {a : Act} {w : World} (hn : NilN new) (hf : σ.free new = true) (K : Know σ xs ρ S a w) :
    ∃ ρ' : Nat → LV, (∀ i, lkE new i = none → ρ' i = ρ i) ∧ (∀ i en, lkE new i = some en → ρ' i = .of (.slice none 0 0)) ∧ Know σ xs ρ' S a w ∧ NewOk ρ' (Un S ρ' new) w w new ∧ Ext S (Un S ρ' new) w w := by
  let ρ' : Nat → LV := fun i => if (lkE new i).isSome then .of (.slice none 0 0) else ρ i
  have h1 : ∀ i, lkE new i = none → ρ' i = ρ i := fun i h => if_neg (by simp [h])
  have h2 : ∀ i en, lkE new i = some en → ρ' i = .of (.slice none 0 0) := fun i en h => if_pos (by simp [h])
  have hfr := fun {i en} (h : lkE new i = some en) => AS.free_spec hf h
  have hag : ∀ t s, lk σ.g t = some s → agreeOn ρ ρ' s.lab := by
    intro t s ht j hj
    cases hl : lkE new j with
    | none => exact congrArg LV.v (h1 j hl)
    | some en => exact absurd hj ((hfr hl).1 t s ht)
  have hage : ∀ i en, lkE σ.d i = some en → agreeOn ρ ρ' en.lab := by
    intro i en hi j hj
    cases hl : lkE new j with
    | none => exact congrArg LV.v (h1 j hl)
    | some en' => exact absurd hj ((hfr hl).2.2 i en hi)
  have hev : ∀ x s, evS σ.g x = some s → agreeOn ρ ρ' s.lab := by
    intro x s hx
    cases x with
    | tmp t => exact hag t s hx
    | const u => have := (cslot_ok hx ρ S w).2; intro j hj; rw [this] at hj; simp at hj
    | global g => cases hx
    | func f => cases hx
  refine ⟨ρ', h1, h2, ⟨K.low, fun x hx s hs => Slot.ok_mono s _ (K.slot x hx s hs) (Ext.refl S w) (hev x s hs), fun x hx s hs i hi en he => ?_⟩, ⟨fun i en h => ?_, fun i en b h hb => ?_, fun i j en en' b h h' hb _ => ?_⟩, ⟨Nat.le_refl _, fun k _ hk => ⟨rfl, ?_⟩⟩⟩
  · obtain ⟨k1, k2⟩ := K.ent x hx s hs i hi en he
    have hi' : ρ' i = ρ i := h1 i (by
      cases hl : lkE new i with
      | none => rfl
      | some e => have := (hfr hl).2.1; rw [he] at this; cases this)
    rw [hi']
    exact ⟨Ent.ok_mono k1 (Ext.refl S w) (hage i en he) (fun _ _ => rfl), k2⟩
  · rw [h2 i en h]; exact hn.spec i en h _ _ _
  · rw [h2 i en h] at hb; simp [Has_of, blk] at hb
  · rw [h2 i en h] at hb; simp [Has_of, blk] at hb
  · rintro (h | ⟨i, en, h3, h4⟩)
    · exact hk h
    · rw [h2 i en h3] at h4; simp [Has_of, blk] at h4
theorem JO.buildN {T : TypeId} {pl : Array (Nat × Nat)} {zs : List Value} {ps : List (Nat × Operand)} {l l' : List Slot} {new : List (Nat × Ent)} (hB : ∀ parts, F.P.built T parts = Instr.fill (pl[·]?) zs.toArray parts) (hz : ZrN zs l new) (hn : NilN new) (hf : σ.free new = true) (hp : Parts σ pl l ps l') :
    JO F ⟨d, .build T ps.toArray, ty, p, af, gd⟩ σ (.agg l') new := by
  intro ρ S a w K
  obtain ⟨ρ', h1, h2, K', h3, h4⟩ := nil_res hn hf K
  obtain ⟨ds, h5, h6⟩ := hp.spec (ys := (Op.build T ps.toArray).operands) (by intro x hx; simp [Op.operands] at hx ⊢; exact hx) K' zs (hz ρ' S w h2)
  have h7 : (Slot.agg l').ok ρ' S w (.agg ds.toArray) := by simp only [Slot.ok]; exact ⟨ds, rfl, h6⟩
  refine OpWp.value (w' := w) (v := .agg ds.toArray) ?_ ⟨ρ', h1, Below.refl _ _, Slot.ok_mono _ _ h7 h4 (fun _ _ => rfl), h3⟩
  have := run_build (P := F.P) w T (ps.map fun q => (q.1, a.eval q.2)).toArray ds.toArray (by rw [hB]; exact h5)
  simp only [execOp, List.map_toArray]
  simp [this]
end
end Go.Sw

namespace Go.Sw
open Go Go.RowKit

/-- what is handed in, to be changed -/
structure Ins (S : Nat → Prop) (ρ : Nat → LV) (w : World) (din : List (Nat × Ent)) : Prop where
  own : ∀ i en, lkE din i = some en → en.ok ρ (Un S ρ din) w (ρ i)
  lt : ∀ i en b, lkE din i = some en → Has (ρ i) b → b < w.heap.size
  apart : ∀ i en b, lkE din i = some en → Has (ρ i) b → ¬ S b
  inj : ∀ i j en en' b, lkE din i = some en → lkE din j = some en' → Has (ρ i) b → Has (ρ j) b → i = j
/-- what comes back -/
structure Outs (S : Nat → Prop) (R : Nat → Prop) (w0 : World) (res : Slot) (dout : List (Nat × Ent)) (ρ : Nat → LV) (v : Value) (w : World) : Prop where
  size : w0.heap.size ≤ w.heap.size
  frame : ∀ k, k < w0.heap.size → ¬ R k → w.heap[k]? = w0.heap[k]?
  os : w.os = w0.os
  tape : w.tape = w0.tape
  output : w.output = w0.output
  slot : res.ok ρ (Un S ρ dout) w v
  own : ∀ i en, lkE dout i = some en → en.ok ρ (Un S ρ dout) w (ρ i)
  fresh : ∀ i en b, lkE dout i = some en → Has (ρ i) b → (w0.heap.size ≤ b ∨ R b) ∧ b < w.heap.size
  apart : ∀ i en b, lkE dout i = some en → Has (ρ i) b → ¬ S b
  inj : ∀ i j en en' b, lkE dout i = some en → lkE dout j = some en' → Has (ρ i) b → Has (ρ j) b → i = j
/-- what a function comes to that may change what it is handed: entries in, entries out -/
def ConM (P : Program) (f : FuncId) (args : List Slot) (din : List (Nat × Ent)) (res : Slot) (dout : List (Nat × Ent)) : Prop :=
  ∀ S w vs ρ, (∀ k, S k → k < w.heap.size) → Ins S ρ w din → Slot.okv ρ (Un S ρ din) w args vs → Calls P f vs.toArray w fun e w' => ∃ v ρ', e = .returned v ∧ Outs S (Owns ρ din) w res dout ρ' v w'
def RetQM (F : Frm) (fn : Func) (res : Slot) (dout : List (Nat × Ent)) : Exit → Act → World → Prop :=
  bodyPostM Fence.wide 0 F.P fn fun e w' => ∃ v ρ', e = .returned v ∧ Outs F.S0 F.R F.w0 res dout ρ' v w'

theorem ConM.of {P : Program} {f : FuncId} {fn : Func} {c : Code} {N : Nat} {args : List Slot} {din : List (Nat × Ent)} {res : Slot} {dout : List (Nat × Ent)}
    (hf : P.funcs[f]? = some fn) (hb : fn.body = some c) (hN : fn.ntmps = N) (hle : Nat.ble args.length N = true)
    (h : ∀ S w R, Fol ⟨P, N, S, w, R, none, []⟩ ⟨P, N, S, w, R, none, []⟩ → W ⟨P, N, S, w, R, none, []⟩ [c] ⟨enum 0 args, din⟩ (RetQM ⟨P, N, S, w, R, none, []⟩ fn res dout)) : ConM P f args din res dout := by
  intro S w vs ρ hlow hin hv
  refine (callsIn_wide (n := 0)).1 (callsIn_of_wp_marks hf hb trivial ?_)
  have hl := okv_len hv
  have hle := Nat.le_of_ble_eq_true hle
  have hst : St ⟨P, N, S, w, Owns ρ din, none, []⟩ ⟨enum 0 args, din⟩ { tmps := vs.toArray ++ Array.replicate (fn.ntmps - vs.toArray.size) undef, defers := [] } w := ?_
  · have h1 : c.wpIn Fence.wide 0 P (Exit.then (run Fence.wide P (RetQM ⟨P, N, S, w, Owns ρ din, none, []⟩ fn res dout) []) (RetQM ⟨P, N, S, w, Owns ρ din, none, []⟩ fn res dout)) { tmps := vs.toArray ++ Array.replicate (fn.ntmps - vs.toArray.size) undef, defers := [] } w := h S w _ (.refl hlow rfl) _ w hst
    refine wpIn_mono h1 ?_
    intro e a w' hq
    cases e <;> exact hq
  · refine ⟨⟨ρ, ⟨hlow, Nat.le_refl _, fun _ _ _ => rfl, rfl, rfl, rfl, hin.own, fun i en b h hb => ⟨.inr ⟨i, en, h, hb⟩, hin.lt i en b h hb⟩, hin.inj, hin.apart⟩, fun t s ht => ?_⟩, ?_, rfl⟩
    · obtain ⟨_, u, h1, h2⟩ := okv_enum args vs 0 hv t s ht
      have hlt : t < vs.length := by
        rcases Nat.lt_or_ge t vs.length with h | h
        · exact h
        · simp [List.getElem?_eq_none h] at h1
      have : (vs.toArray ++ Array.replicate (fn.ntmps - vs.toArray.size) undef).getD t undef = u := by
        simp only [Array.getD_eq_getD_getElem?]
        rw [Array.getElem?_append_left (by simpa using hlt)]
        simp only [Nat.sub_zero] at h1
        simp [h1]
      rw [this]; exact h2
    · simp only [Array.size_append, List.size_toArray, Array.size_replicate]
      show _ = N
      omega

theorem Outs.of_core {F : Frm} {σ : AS} {ρ : Nat → LV} {w : World} {v : Value} {res : Slot} {dout : List (Nat × Ent)} (hc : Core F σ.d ρ w) (hr : res.ok ρ (Un F.S0 ρ σ.d) w v) (hn : SubE dout σ.d) : Outs F.S0 F.R F.w0 res dout ρ v w := by
  have hsub := hn.spec
  have hE : Ext (Un F.S0 ρ σ.d) (Un F.S0 ρ dout) w w := ⟨Nat.le_refl _, fun k _ hk => ⟨rfl, fun h => hk (by
    rcases h with h | ⟨i, en, h1, h2⟩
    · exact .inl h
    · exact .inr ⟨i, en, hsub i en h1, h2⟩)⟩⟩
  exact ⟨hc.size, hc.frame, hc.os, hc.tape, hc.output, Slot.ok_mono res v hr hE (fun _ _ => rfl), fun i en h => Ent.ok_mono (hc.own i en (hsub i en h)) hE (fun _ _ => rfl) (fun _ _ => rfl),
    fun i en b h hb => hc.fresh i en b (hsub i en h) hb, fun i en b h hb => hc.apart i en b (hsub i en h) hb, fun i j en en' b hi hj bi bj => hc.inj i j en en' b (hsub i en hi) (hsub j en' hj) bi bj⟩
theorem results0 {P : Program} {fn : Func} {a : Act} {w : World} (hrs : fn.results = #[]) : (results fn a.tmps).run P w = .ok (.tuple #[]) w := by rw [results_eq, hrs]; simp
section
variable {F F' : Frm} {σ : AS} {fn : Func} {rv rv' rv2 : ResultVar} {res s s' s2 : Slot} {dout : List (Nat × Ent)}
theorem XQ.retM0 (hF : Fol F F') (hrs : fn.results = #[]) (hn : SubE dout σ.d) : XQ F' σ (RetQM F fn (.tup []) dout) .ret :=
  XQ.retK hF fun ρ a w hc hsl => ⟨_, results0 hrs, _, ρ, rfl, Outs.of_core hc (by simp only [Slot.ok]; exact ⟨[], rfl, by simp only [Slot.okv]⟩) hn⟩
theorem XQ.retM2 (hF : Fol F F') (hrs : fn.results = #[rv, rv']) (h : RV F σ rv s) (h' : RV F σ rv' s') (hn : SubE dout σ.d) : XQ F' σ (RetQM F fn (.tup [s, s']) dout) .ret :=
  XQ.retK hF fun ρ a w hc hsl => by
    obtain ⟨v, h1, h2⟩ := h ρ a w hc hsl
    obtain ⟨v', h1', h2'⟩ := h' ρ a w hc hsl
    exact ⟨_, results2 hrs h1 h1', _, ρ, rfl, Outs.of_core hc (tup2 h2 h2') hn⟩
end
end Go.Sw

namespace Go.Sw
open Go Go.RowKit

/-- what is handed in is what the caller has, by the caller's names -/
inductive DinR (σ : AS) (r : Nat → Nat) (A : Nat → Nat) : List (Nat × Ent) → Prop
  | nil : DinR σ r A []
  | box {i : Nat} {T : TypeId} {l : List Slot} {pb : Option Nat} {ds : List (Nat × Ent)} : lkE σ.d (r i) = some (.box T (Slot.maps r l) pb) → DinR σ r A ds → DinR σ r A ((i, .box T l (some (A i))) :: ds)
  | arr {α : Type} {i : Nat} {T : TypeId} {e : Enc α} {xs : List α} {ds : List (Nat × Ent)} : lkE σ.d (r i) = some (.arr T e xs) → DinR σ r A ds → DinR σ r A ((i, .arr T e xs) :: ds)
  | mp {α β : Type} {i : Nat} {e : Enc α} {f : Enc β} {m : List (α × β)} {ds : List (Nat × Ent)} : lkE σ.d (r i) = some (.mp e f m) → DinR σ r A ds → DinR σ r A ((i, .mp e f m) :: ds)
  | dp {α : Type} {i : Nat} {D : DE α} {x : α} {l : List Nat} {ds : List (Nat × Ent)} : lkE σ.d (r i) = some (.dp D x (l.map r)) → DinR σ r A ds → DinR σ r A ((i, .dp D x l) :: ds)
theorem DinR.spec {σ : AS} {r : Nat → Nat} {A : Nat → Nat} {ds : List (Nat × Ent)} (h : DinR σ r A ds) {ρ : Nat → LV} {S : Nat → Prop} {w : World} (ho : ∀ i en, lkE σ.d i = some en → en.ok ρ S w (ρ i)) (hA : ∀ i b, (ρ (r i)).v = .pointer (some ⟨b, 0, none⟩) → A i = b) :
    ∀ i en, lkE ds i = some en → (∃ en0, lkE σ.d (r i) = some en0) ∧ en.ok (fun i => ρ (r i)) S w (ρ (r i)) := by
  induction h with
  | nil => intro i en h; simp [lkE] at h
  | box h1 _ ih =>
    rename_i j T l pb ds _
    intro i en h
    rw [lkE_cons] at h
    split at h
    · rename_i hj; subst hj; cases h
      have h2 := ho _ _ h1
      refine ⟨⟨_, h1⟩, ?_⟩
      have h3 : ((Ent.box T l pb).map r).ok ρ S w (ρ (r j)) := h2
      rw [ent_map] at h3
      obtain ⟨⟨b, cs, k1, k2, k3⟩, _⟩ := h3
      exact ⟨⟨b, cs, k1, k2, k3⟩, fun c hc => by cases hc; rw [k1, hA j b k1]⟩
    · exact ih i en h
  | arr h1 _ ih =>
    rename_i j T e xs ds _
    intro i en h
    rw [lkE_cons] at h
    split at h
    · rename_i hj; subst hj; cases h; exact ⟨⟨_, h1⟩, ho _ _ h1⟩
    · exact ih i en h
  | mp h1 _ ih =>
    rename_i j e f m ds _
    intro i en h
    rw [lkE_cons] at h
    split at h
    · rename_i hj; subst hj; cases h; exact ⟨⟨_, h1⟩, ho _ _ h1⟩
    · exact ih i en h
  | dp h1 _ ih =>
    rename_i j D x l ds _
    intro i en h
    rw [lkE_cons] at h
    split at h
    · rename_i hj; subst hj; cases h
      refine ⟨⟨_, h1⟩, ?_⟩
      have h3 : ((Ent.dp D x l).map r).ok ρ S w (ρ (r j)) := ho _ _ h1
      rwa [ent_map] at h3
    · exact ih i en h

def memB (l : Nat) : List Nat → Bool
  | [] => false
  | i :: r => bif Nat.beq i l then true else memB l r
theorem memB_iff {l : Nat} : ∀ {r : List Nat}, memB l r = true ↔ l ∈ r
  | [] => by simp [memB]
  | i :: r => by
    simp only [memB]
    cases hb : Nat.beq i l with
    | true => have := Nat.eq_of_beq_eq_true hb; subst this; simp
    | false =>
      have : l ≠ i := fun e => by subst e; simp at hb
      simp [memB_iff, this]
/-- what comes back, by the caller's names: boxes that were handed in lie where they lay -/
inductive DoutR (σ : AS) (r : Nat → Nat) (A : Nat → Nat) : List (Nat × Ent) → List (Nat × Ent) → List Nat → Prop
  | nil : DoutR σ r A [] [] []
  | box {i : Nat} {T T0 : TypeId} {l l0 : List Slot} {pb : Option Nat} {ds D : List (Nat × Ent)} {K : List Nat} : lkE σ.d (r i) = some (.box T0 l0 pb) → DoutR σ r A ds D K → memB (r i) K = false → DoutR σ r A ((i, .box T l (some (A i))) :: ds) ((r i, .box T (Slot.maps r l) pb) :: D) (r i :: K)
  | boxN {i : Nat} {T : TypeId} {l : List Slot} {ds D : List (Nat × Ent)} {K : List Nat} : DoutR σ r A ds D K → memB (r i) K = false → DoutR σ r A ((i, .box T l none) :: ds) ((r i, .box T (Slot.maps r l) none) :: D) K
  | arr {α : Type} {i : Nat} {T : TypeId} {e : Enc α} {xs : List α} {ds D : List (Nat × Ent)} {K : List Nat} : DoutR σ r A ds D K → memB (r i) K = false → DoutR σ r A ((i, .arr T e xs) :: ds) ((r i, .arr T e xs) :: D) K
  | mp {α β : Type} {i : Nat} {e : Enc α} {f : Enc β} {m : List (α × β)} {ds D : List (Nat × Ent)} {K : List Nat} : DoutR σ r A ds D K → memB (r i) K = false → DoutR σ r A ((i, .mp e f m) :: ds) ((r i, .mp e f m) :: D) K
  | dp {α : Type} {i : Nat} {E : DE α} {x : α} {l : List Nat} {ds D : List (Nat × Ent)} {K : List Nat} : DoutR σ r A ds D K → memB (r i) K = false → DoutR σ r A ((i, .dp E x l) :: ds) ((r i, .dp E x (l.map r)) :: D) K

theorem DoutR.spec {σ : AS} {r : Nat → Nat} {A : Nat → Nat} {ds D : List (Nat × Ent)} {K : List Nat} (h : DoutR σ r A ds D K) (hinj : ∀ i j, r i = r j → i = j) :
    (∀ l en', lkE D l = some en' → ∃ i en, l = r i ∧ lkE ds i = some en ∧ (en' = en.map r ∨ ∃ T T0 m l0 pb, en = .box T m (some (A i)) ∧ en' = .box T (Slot.maps r m) pb ∧ lkE σ.d (r i) = some (.box T0 l0 pb))) ∧
    (∀ i en, lkE ds i = some en → ∃ en', lkE D (r i) = some en') ∧ (∀ k ∈ K, ∃ i T m T0 l0 pb, k = r i ∧ lkE ds i = some (.box T m (some (A i))) ∧ lkE σ.d k = some (.box T0 l0 pb)) := by
  have step : ∀ {i : Nat} {en en' : Ent} {ds D : List (Nat × Ent)}, ((∀ l en', lkE D l = some en' → ∃ i en, l = r i ∧ lkE ds i = some en ∧ (en' = en.map r ∨ ∃ T T0 m l0 pb, en = .box T m (some (A i)) ∧ en' = .box T (Slot.maps r m) pb ∧ lkE σ.d (r i) = some (.box T0 l0 pb))) ∧ (∀ i en, lkE ds i = some en → ∃ en', lkE D (r i) = some en')) →
      (en' = en.map r ∨ ∃ T T0 m l0 pb, en = .box T m (some (A i)) ∧ en' = .box T (Slot.maps r m) pb ∧ lkE σ.d (r i) = some (.box T0 l0 pb)) →
      ((∀ l en0, lkE ((r i, en') :: D) l = some en0 → ∃ j en1, l = r j ∧ lkE ((i, en) :: ds) j = some en1 ∧ (en0 = en1.map r ∨ ∃ T T0 m l0 pb, en1 = .box T m (some (A j)) ∧ en0 = .box T (Slot.maps r m) pb ∧ lkE σ.d (r j) = some (.box T0 l0 pb))) ∧
        (∀ j en1, lkE ((i, en) :: ds) j = some en1 → ∃ en0, lkE ((r i, en') :: D) (r j) = some en0)) := by
    rintro i en en' ds D ⟨ih1, ih2⟩ hh
    refine ⟨fun l en0 hl => ?_, fun j en1 hj => ?_⟩
    · rw [lkE_cons] at hl
      split at hl
      · rename_i hri; subst hri; cases hl; exact ⟨i, en, rfl, by rw [lkE_cons, if_pos rfl], hh⟩
      · rename_i hri
        obtain ⟨j, en1, rfl, k2, k3⟩ := ih1 l en0 hl
        exact ⟨j, en1, rfl, by rw [lkE_cons, if_neg (fun e => hri (by rw [e]))]; exact k2, k3⟩
    · rw [lkE_cons] at hj
      split at hj
      · rename_i hij; subst hij; exact ⟨en', by rw [lkE_cons, if_pos rfl]⟩
      · rename_i hij
        obtain ⟨en0, h0⟩ := ih2 j en1 hj
        exact ⟨en0, by rw [lkE_cons, if_neg (fun e => hij (hinj _ _ e))]; exact h0⟩
  have old : ∀ {i : Nat} {en : Ent} {ds : List (Nat × Ent)} {K : List Nat}, memB (r i) K = false → (∀ k ∈ K, ∃ i T m T0 l0 pb, k = r i ∧ lkE ds i = some (.box T m (some (A i))) ∧ lkE σ.d k = some (.box T0 l0 pb)) → ∀ k ∈ K, ∃ j T m T0 l0 pb, k = r j ∧ lkE ((i, en) :: ds) j = some (.box T m (some (A j))) ∧ lkE σ.d k = some (.box T0 l0 pb) := by
    intro i en ds K hm ih k hk
    obtain ⟨j, T, m, T0, l0, pb, rfl, h, h'⟩ := ih k hk
    have hne : i ≠ j := fun e => by subst e; rw [memB_iff.2 hk] at hm; cases hm
    exact ⟨j, T, m, T0, l0, pb, rfl, by rw [lkE_cons, if_neg hne]; exact h, h'⟩
  induction h with
  | nil => exact ⟨fun l en h => by simp [lkE] at h, fun i en h => by simp [lkE] at h, fun k h => by simp at h⟩
  | box h1 _ hm ih =>
    rename_i i T T0 l l0 pb ds D K _
    obtain ⟨a, b⟩ := step (i := i) (en := .box T l (some (A i))) (en' := .box T (Slot.maps r l) pb) ⟨ih.1, ih.2.1⟩ (.inr ⟨T, T0, l, l0, pb, rfl, rfl, h1⟩)
    refine ⟨a, b, fun k hk => ?_⟩
    rcases List.mem_cons.1 hk with rfl | hk
    · exact ⟨i, T, l, T0, l0, pb, rfl, by rw [lkE_cons, if_pos rfl], h1⟩
    · exact old hm ih.2.2 k hk
  | boxN _ hm ih =>
    rename_i i T l ds D K _
    obtain ⟨a, b⟩ := step (i := i) (en := .box T l none) (en' := .box T (Slot.maps r l) none) ⟨ih.1, ih.2.1⟩ (.inl rfl)
    exact ⟨a, b, old hm ih.2.2⟩
  | arr _ hm ih =>
    rename_i α i T e xs ds D K _
    obtain ⟨a, b⟩ := step (i := i) (en := .arr T e xs) (en' := .arr T e xs) ⟨ih.1, ih.2.1⟩ (.inl rfl)
    exact ⟨a, b, old hm ih.2.2⟩
  | mp _ hm ih =>
    rename_i α β i e f m ds D K _
    obtain ⟨a, b⟩ := step (i := i) (en := .mp e f m) (en' := .mp e f m) ⟨ih.1, ih.2.1⟩ (.inl rfl)
    exact ⟨a, b, old hm ih.2.2⟩
  | dp _ hm ih =>
    rename_i α i E x l ds D K _
    obtain ⟨a, b⟩ := step (i := i) (en := .dp E x l) (en' := .dp E x (l.map r)) ⟨ih.1, ih.2.1⟩ (.inl rfl)
    exact ⟨a, b, old hm ih.2.2⟩

def delEs (d : List (Nat × Ent)) : List Nat → List (Nat × Ent)
  | [] => d
  | i :: H => delE (delEs d H) i
theorem lkE_delEs {d : List (Nat × Ent)} {k : Nat} : ∀ {H : List Nat}, lkE (delEs d H) k = if k ∈ H then none else lkE d k
  | [] => by simp [delEs]
  | i :: H => by
    rw [delEs, lkE_del]
    by_cases h : k = i
    · simp [h]
    · rw [if_neg h, lkE_delEs]; simp [h]
/-- what stays speaks of nothing that went -/
def staysB (g : List (Nat × Slot)) (rest : List (Nat × Ent)) (H K : List Nat) (D : List (Nat × Ent)) : Bool :=
  (g.all fun y => y.2.lab.all fun l => !memB l H || memB l K || !memB l (D.map (·.1))) && rest.all fun y => y.2.lab.all fun l => !memB l H || memB l K || !memB l (D.map (·.1))
/-- what is new has a name of its own -/
def newB (σ : AS) (H : List Nat) (D : List (Nat × Ent)) : Bool :=
  D.all fun x => memB x.1 H || ((σ.d.all fun y => !Nat.beq y.1 x.1 && !memB x.1 y.2.lab) && σ.g.all fun y => !memB x.1 y.2.lab)
/-- an argument of a function that is handed what is ours -/
inductive ArgsM (σ : AS) (r : Nat → Nat) : List Operand → List Slot → Prop
  | nil : ArgsM σ r [] []
  | cons {x : Operand} {s : Slot} {xs : List Operand} {l : List Slot} : Arg σ false x (s.map r) → ArgsM σ r xs l → ArgsM σ r (x :: xs) (s :: l)
theorem ArgsM.spec {σ : AS} {r : Nat → Nat} {xs : List Operand} {l : List Slot} (h : ArgsM σ r xs l) {ρ S a w} {ys : Array Operand} (hys : ∀ x ∈ xs, x ∈ ys) (K : Know σ ys ρ S a w) : Slot.okv (fun i => ρ (r i)) S w l (xs.map a.eval) := by
  induction h with
  | nil => simp [Slot.okv]
  | cons h1 _ ih =>
    rename_i x s xs l _
    simp only [Slot.okv, List.map_cons]
    refine ⟨_, _, rfl, ?_, ih fun y hy => hys y (List.mem_cons_of_mem _ hy)⟩
    rw [← ok_map]
    exact h1 ρ S a w ⟨K.low, fun y hy => K.slot y (by simp at hy; subst hy; exact hys _ List.mem_cons_self), fun y hy => K.ent y (by simp at hy; subst hy; exact hys _ List.mem_cons_self)⟩
/-- names turned one to one -/
structure Bij (r : Nat → Nat) : Prop where
  inj : ∀ i j, r i = r j → i = j

def adr (v : Value) : Nat := match v with | .pointer (some a) => a.block | _ => 0

section
variable {F : Frm} {σ : AS} {s : Slot} {d : Option Tmp} {ty : TypeId} {p : String} {af : Array Edge} {gd : Option (Nat × Bool)}

/-- behind the call -/
theorem St.callM {ρ ρ' : Nat → LV} {r : Nat → Nat} {A : Nat → Nat} {a : Act} {w w' : World} {v : Value} {res : Slot} {din dout D : List (Nat × Ent)} {K H : List Nat} (hr : ∀ i j, r i = r j → i = j) (hc : Core F σ.d ρ w)
    (hs : ∀ t s, lk σ.g t = some s → s.ok ρ (Un F.S0 ρ σ.d) w (a.tmps.getD t undef)) (hz : a.tmps.size = F.N) (hde : a.defers = F.df) (hA : ∀ i b, (ρ (r i)).v = .pointer (some ⟨b, 0, none⟩) → A i = b) (hin : DinR σ r A din) (hout : DoutR σ r A dout D K)
    (hH : din.map (fun x => r x.1) = H) (hst : staysB σ.g (delEs σ.d H) H K D = true) (hnew : newB σ H D = true) (hcl : closed res dout = true) (hKH : K.all (fun k => memB k H) = true) (hdst : dstOk d F.N = true)
    (ho : Outs (fun k => Un F.S0 ρ σ.d k ∧ ¬ Owns (fun i => ρ (r i)) din k) (Owns (fun i => ρ (r i)) din) w res dout ρ' v w') : St F ⟨gput d (res.map r) σ.g, D ++ delEs σ.d H⟩ (a.put d v) w' := by
  obtain ⟨hD1, hD2, hD3⟩ := hout.spec hr
  have hdin := hin.spec hc.own hA
  have hmemH : ∀ i en, lkE din i = some en → r i ∈ H := fun i en h => by rw [← hH]; exact List.mem_map.2 ⟨(i, en), lkE_mem h, rfl⟩
  have hHmem : ∀ l, l ∈ H → ∃ i en, l = r i ∧ (i, en) ∈ din := fun l h => by rw [← hH] at h; obtain ⟨x, h1, h2⟩ := List.mem_map.1 h; exact ⟨x.1, x.2, h2.symm, h1⟩
  have hHin : ∀ l, l ∈ H → ∃ i en, l = r i ∧ lkE din i = some en := fun l h => by
    obtain ⟨i, en, h1, h2⟩ := hHmem l h
    cases hx : lkE din i with
    | some e => exact ⟨i, e, h1, hx⟩
    | none =>
      exfalso
      clear hin hdin hH ho hmemH hHmem
      induction din with
      | nil => simp at h2
      | cons y din ih =>
        obtain ⟨j, ej⟩ := y
        rw [lkE_cons] at hx
        split at hx
        · cases hx
        · rename_i hji
          rcases List.mem_cons.1 h2 with h2 | h2
          · simp at h2; exact hji h2.1.symm
          · exact ih h2 hx
  have hown : ∀ k, Owns (fun i => ρ (r i)) din k → ∃ l en, l ∈ H ∧ lkE σ.d l = some en ∧ Has (ρ l) k := by
    rintro k ⟨i, en, h1, h2⟩
    obtain ⟨⟨en0, h3⟩, _⟩ := hdin i en h1
    exact ⟨r i, en0, hmemH i en h1, h3, h2⟩
  have hownU : ∀ k, Owns (fun i => ρ (r i)) din k → Un F.S0 ρ σ.d k := fun k h => by obtain ⟨l, en, _, h1, h2⟩ := hown k h; exact .inr ⟨l, en, h1, h2⟩
  -- a label of the rest owns nothing that was handed in
  have hrest : ∀ l en k, l ∉ H → lkE σ.d l = some en → Has (ρ l) k → ¬ Owns (fun i => ρ (r i)) din k := by
    intro l en k hl h1 h2 h3
    obtain ⟨l', en', h4, h5, h6⟩ := hown k h3
    exact hl (hc.inj l l' en en' k h1 h5 h2 h6 ▸ h4)
  classical
  let ρn : Nat → LV := fun l => if h : ∃ i, l = r i ∧ (lkE dout i).isSome = true then ρ' (Classical.choose h) else ρ l
  have hn1 : ∀ i en, lkE dout i = some en → ρn (r i) = ρ' i := by
    intro i en h
    have hex : ∃ j, r i = r j ∧ (lkE dout j).isSome = true := ⟨i, rfl, by rw [h]; rfl⟩
    show (if h : ∃ j, r i = r j ∧ (lkE dout j).isSome = true then ρ' (Classical.choose h) else ρ (r i)) = _
    rw [dif_pos hex]
    have := Classical.choose_spec hex
    rw [← hr _ _ this.1]
  have hn0 : ∀ l, (∀ en, lkE D l ≠ some en) → ρn l = ρ l := by
    intro l h
    have hex : ¬ ∃ i, l = r i ∧ (lkE dout i).isSome = true := by
      rintro ⟨i, rfl, h2⟩
      cases hx : lkE dout i with
      | none => rw [hx] at h2; cases h2
      | some en => obtain ⟨en', h3⟩ := hD2 i en hx; exact h _ h3
    show (if h : ∃ i, l = r i ∧ (lkE dout i).isSome = true then ρ' (Classical.choose h) else ρ l) = _
    rw [dif_neg hex]
  -- labels of boxes that stay
  have hK : ∀ l, l ∈ K → (ρn l).v = (ρ l).v := by
    intro l hl
    obtain ⟨i, T, m, T0, l0, pb, rfl, h1, h2⟩ := hD3 l hl
    have ho1 := (ho.own i _ h1).2 (A i) rfl
    obtain ⟨⟨b, cs, h8, _⟩, _⟩ := hc.own _ _ h2
    rw [hn1 i _ h1, ho1, h8, hA i b h8]
  have hnD : ∀ l, memB l (D.map (·.1)) = false → ∀ en, lkE D l ≠ some en := fun l h en he => by
    have h1 : l ∈ D.map (·.1) := List.mem_map.2 ⟨(l, en), lkE_mem he, rfl⟩
    rw [memB_iff.2 h1] at h; cases h
  -- the names of what stays
  have hlab : ∀ (q : Slot), (q.lab.all fun l => !memB l H || memB l K || !memB l (D.map (·.1))) = true → (∀ l ∈ q.lab, lkE D l = none ∨ memB l H = true) → agreeOn ρ ρn q.lab := by
    intro q h1 h2 l hl
    rcases h2 l hl with h3 | h3
    · exact congrArg LV.v (hn0 l fun en he => by rw [h3] at he; cases he)
    · have := List.all_eq_true.1 h1 l hl
      rw [h3] at this
      cases hm : memB l (D.map (·.1)) with
      | false => exact congrArg LV.v (hn0 l (hnD l hm))
      | true => rw [hm] at this; exact hK l (memB_iff.1 (by simpa using this))
  have hnewD : ∀ l en, lkE D l = some en → memB l H = true ∨ ((∀ y ∈ σ.d, y.1 ≠ l ∧ l ∉ y.2.lab) ∧ ∀ y ∈ σ.g, l ∉ y.2.lab) := by
    intro l en h
    have := List.all_eq_true.1 hnew _ (lkE_mem h)
    rcases Bool.or_eq_true_iff.1 this with h | h
    · exact .inl h
    · rw [Bool.and_eq_true, List.all_eq_true, List.all_eq_true] at h
      refine .inr ⟨fun y hy => ?_, fun y hy hc' => ?_⟩
      · have h3 := h.1 y hy
        rw [Bool.and_eq_true] at h3
        refine ⟨fun e => ?_, fun hc' => ?_⟩
        · have := h3.1; rw [e] at this; simp at this
        · have := h3.2; rw [memB_iff.2 hc'] at this; cases this
      · have := h.2 y hy; rw [memB_iff.2 hc'] at this; cases this
  simp only [staysB, Bool.and_eq_true, List.all_eq_true] at hst
  have hgl : ∀ t s, lk σ.g t = some s → agreeOn ρ ρn s.lab := by
    intro t s ht
    refine hlab s (List.all_eq_true.2 (hst.1 _ (lk_mem ht))) fun l hl => ?_
    cases hx : lkE D l with
    | none => exact .inl rfl
    | some en =>
      rcases hnewD l en hx with h | ⟨_, h⟩
      · exact .inr h
      · exact absurd hl (h _ (lk_mem ht))
  have hrl : ∀ l en, l ∉ H → lkE σ.d l = some en → ρn l = ρ l ∧ agreeOn ρ ρn en.lab := by
    intro l en hl h
    refine ⟨hn0 l fun en' he => ?_, ?_⟩
    · rcases hnewD l en' he with h' | ⟨h', _⟩
      · exact hl (memB_iff.1 h')
      · exact (h' _ (lkE_mem h)).1 rfl
    · have hmem : (l, en) ∈ delEs σ.d H := lkE_mem (by rw [lkE_delEs, if_neg hl]; exact h)
      have := hst.2 _ hmem
      intro q hq
      have h1 := this q hq
      cases hx : lkE D q with
      | none => exact congrArg LV.v (hn0 q fun en he => by rw [hx] at he; cases he)
      | some en' =>
        rcases hnewD q en' hx with h' | ⟨h', _⟩
        · have h1' : q ∈ D.map (·.1) := List.mem_map.2 ⟨(q, en'), lkE_mem hx, rfl⟩
          rw [h', memB_iff.2 h1'] at h1; exact hK q (memB_iff.1 (by simpa using h1))
        · exact absurd hq (h' _ (lkE_mem h)).2
  -- what is ours then
  have hlk : ∀ l en, lkE (D ++ delEs σ.d H) l = some en → lkE D l = some en ∨ (lkE D l = none ∧ l ∉ H ∧ lkE σ.d l = some en) := by
    intro l en h
    rw [lkE_append] at h
    cases hx : lkE D l with
    | some e => rw [hx] at h; simp at h; subst h; exact .inl rfl
    | none =>
      rw [hx] at h; simp only [Option.none_or, lkE_delEs] at h
      split at h
      · cases h
      · rename_i hn; exact .inr ⟨rfl, hn, h⟩
  have hUn : ∀ k, Un F.S0 ρn (D ++ delEs σ.d H) k → Un (fun k => Un F.S0 ρ σ.d k ∧ ¬ Owns (fun i => ρ (r i)) din k) ρ' dout k := by
    rintro k (h | ⟨l, en, h1, h2⟩)
    · refine .inl ⟨.inl h, fun h' => ?_⟩
      obtain ⟨l, en, _, h3, h4⟩ := hown k h'
      exact hc.apart l en k h3 h4 h
    · rcases hlk l en h1 with h3 | ⟨_, h3, h4⟩
      · obtain ⟨i, en', rfl, h5, _⟩ := hD1 l en h3
        rw [hn1 i en' h5] at h2
        exact .inr ⟨i, en', h5, h2⟩
      · rw [(hrl l en h3 h4).1] at h2
        exact .inl ⟨.inr ⟨l, en, h4, h2⟩, hrest l en k h3 h4 h2⟩
  have hUo : ∀ k, k < w.heap.size → Un (fun k => Un F.S0 ρ σ.d k ∧ ¬ Owns (fun i => ρ (r i)) din k) ρ' dout k → Un F.S0 ρ σ.d k := by
    rintro k hk (h | ⟨i, en, h1, h2⟩)
    · exact h.1
    · rcases (ho.fresh i en k h1 h2).1 with h | h
      · omega
      · exact hownU k h
  have hE1 : Ext (Un (fun k => Un F.S0 ρ σ.d k ∧ ¬ Owns (fun i => ρ (r i)) din k) ρ' dout) (Un F.S0 ρn (D ++ delEs σ.d H)) w' w' := ⟨Nat.le_refl _, fun k _ hk => ⟨rfl, fun h => hk (hUn k h)⟩⟩
  have hE : Ext (Un F.S0 ρ σ.d) (Un F.S0 ρn (D ++ delEs σ.d H)) w w' := ⟨ho.size, fun k hk hn => ⟨ho.frame k hk (fun h => hn (hownU k h)), fun h => hn (hUo k hk (hUn k h))⟩⟩
  simp only [closed, Bool.and_eq_true, List.all_eq_true] at hcl
  have hdl : ∀ i en, lkE dout i = some en → agreeOn ρ' (fun i => ρn (r i)) en.lab := by
    intro i en h j hj
    have := hcl.2 _ (lkE_mem h) j hj
    cases hx : lkE dout j with
    | none => rw [hx] at this; cases this
    | some e => exact congrArg LV.v (hn1 j e hx)
  have hcore : Core F (D ++ delEs σ.d H) ρn w' := by
    refine ⟨hc.low, Nat.le_trans hc.size ho.size, fun k hk hr' => ?_, ho.os.trans hc.os, ho.tape.trans hc.tape, ho.output.trans hc.output, fun l en h => ?_, fun l en b h hb => ?_, fun l l' en en' b h h' hb hb' => ?_, fun l en b h hb => ?_⟩
    · rw [ho.frame k (Nat.lt_of_lt_of_le hk hc.size) (fun h => ?_)]
      · exact hc.frame k hk hr'
      · obtain ⟨l, en, _, h1, h2⟩ := hown k h
        rcases (hc.fresh l en k h1 h2).1 with h3 | h3
        · omega
        · exact hr' h3
    · rcases hlk l en h with h3 | ⟨_, h3, h4⟩
      · obtain ⟨i, en', rfl, h5, h6⟩ := hD1 l en h3
        have h7 := Ent.ok_mono (ρ' := fun i => ρn (r i)) (ho.own i en' h5) hE1 (hdl i en' h5) (fun _ _ => rfl)
        rw [hn1 i en' h5]
        rcases h6 with h6 | ⟨T, T0, m, l0, pb, h8, h9, h10⟩
        · rw [h6, ent_map]; exact h7
        · subst h8 h9
          obtain ⟨h11, h12⟩ := h7
          have h13 : ((Ent.box T m none).map r).ok ρn (Un F.S0 ρn (D ++ delEs σ.d H)) w' (ρ' i) := by rw [ent_map]; exact ⟨h11, fun c hc => by cases hc⟩
          refine ⟨h13.1, fun c hpb => ?_⟩
          obtain ⟨_, h14⟩ := hc.own _ _ h10
          have h15 := h14 c hpb
          rw [h12 (A i) rfl, hA i c h15]
      · obtain ⟨h5, h6⟩ := hrl l en h3 h4
        rw [h5]
        exact Ent.ok_mono (hc.own l en h4) hE h6 (fun b hb => ho.frame b (hc.fresh l en b h4 hb).2 (hrest l en b h3 h4 hb))
    · rcases hlk l en h with h3 | ⟨_, h3, h4⟩
      · obtain ⟨i, en', rfl, h5, _⟩ := hD1 l en h3
        rw [hn1 i en' h5] at hb
        obtain ⟨h6, h7⟩ := ho.fresh i en' b h5 hb
        refine ⟨?_, h7⟩
        rcases h6 with h6 | h6
        · exact .inl (Nat.le_trans hc.size h6)
        · obtain ⟨l', e', _, h8, h9⟩ := hown b h6; exact (hc.fresh l' e' b h8 h9).1
      · rw [(hrl l en h3 h4).1] at hb
        exact ⟨(hc.fresh l en b h4 hb).1, Nat.lt_of_lt_of_le (hc.fresh l en b h4 hb).2 ho.size⟩
    · have key : ∀ i en1 l2 en2, lkE dout i = some en1 → Has (ρ' i) b → l2 ∉ H → lkE σ.d l2 = some en2 → Has (ρ l2) b → False := by
        intro i en1 l2 en2 h1 h2 h3 h4 h5
        rcases (ho.fresh i en1 b h1 h2).1 with h6 | h6
        · have := (hc.fresh l2 en2 b h4 h5).2; omega
        · exact hrest l2 en2 b h3 h4 h5 h6
      rcases hlk l en h with h3 | ⟨_, h3, h4⟩
      · obtain ⟨i, e1, rfl, h5, _⟩ := hD1 l en h3
        rw [hn1 i e1 h5] at hb
        rcases hlk l' en' h' with h3' | ⟨_, h3', h4'⟩
        · obtain ⟨i', e1', rfl, h5', _⟩ := hD1 l' en' h3'
          rw [hn1 i' e1' h5'] at hb'
          rw [ho.inj i i' e1 e1' b h5 h5' hb hb']
        · rw [(hrl l' en' h3' h4').1] at hb'
          exact (key i e1 l' en' h5 hb h3' h4' hb').elim
      · rw [(hrl l en h3 h4).1] at hb
        rcases hlk l' en' h' with h3' | ⟨_, h3', h4'⟩
        · obtain ⟨i', e1', rfl, h5', _⟩ := hD1 l' en' h3'
          rw [hn1 i' e1' h5'] at hb'
          exact (key i' e1' l en h5' hb' h3 h4 hb).elim
        · rw [(hrl l' en' h3' h4').1] at hb'
          exact hc.inj l l' en en' b h4 h4' hb hb'
    · rcases hlk l en h with h3 | ⟨_, h3, h4⟩
      · obtain ⟨i, en', rfl, h5, _⟩ := hD1 l en h3
        rw [hn1 i en' h5] at hb
        intro h6
        refine ho.apart i en' b h5 hb ⟨.inl h6, fun h7 => ?_⟩
        obtain ⟨l', e', _, h8, h9⟩ := hown b h7
        exact hc.apart l' e' b h8 h9 h6
      · rw [(hrl l en h3 h4).1] at hb; exact hc.apart l en b h4 hb
  refine ⟨⟨ρn, hcore, fun t q ht => ?_⟩, by rw [Act.size_put, hz], by cases d <;> exact hde⟩
  have hold : ∀ t q, lk σ.g t = some q → q.ok ρn (Un F.S0 ρn (D ++ delEs σ.d H)) w' (a.tmps.getD t undef) := fun t q ht => Slot.ok_mono q _ (hs t q ht) hE (hgl t q ht)
  cases d with
  | none => exact hold t q ht
  | some q0 =>
    simp only [gput] at ht
    have hlt : q0 < a.tmps.size := by rw [hz]; exact Nat.le_of_ble_eq_true hdst
    rw [Act.getD_put a q0 v t hlt]
    rw [lk_cons] at ht
    split at ht
    · rename_i h1
      cases ht; rw [if_pos h1, ok_map]
      refine Slot.ok_mono res v ho.slot hE1 fun j hj => ?_
      have := hcl.1 j hj
      cases hx : lkE dout j with
      | none => rw [hx] at this; cases this
      | some e => exact congrArg LV.v (hn1 j e hx)
    · rename_i h1
      rw [if_neg h1]; exact hold t q ht

theorem JM.callM {f : FuncId} {xs : List Operand} {ts : Array TypeId} {ss : List Slot} {res : Slot} {din dout : (Nat → Nat) → List (Nat × Ent)} {D : List (Nat × Ent)} {K H : List Nat} (r : Nat → Nat) (hr : ∀ i j, r i = r j → i = j)
    (hc : ∀ A, ConM F.P f ss (din A) res (dout A)) (hcall : ∀ args w, (callFunc f args).run F.P w = .ok (.enter f args) w) (ha : ArgsM σ r xs ss) (hin : ∀ A, DinR σ r A (din A)) (hout : ∀ A, DoutR σ r A (dout A) D K)
    (hH : ∀ A, (din A).map (fun x => r x.1) = H) (hst : staysB σ.g (delEs σ.d H) H K D = true) (hnew : newB σ H D = true) (hcl : ∀ A, closed res (dout A) = true) (hKH : K.all (fun k => memB k H) = true) (hdst : dstOk d F.N = true) :
    JM F ⟨d, .call ⟨.value (.func f), xs.toArray, ts⟩, ty, p, af, gd⟩ σ ⟨gput d (res.map r) σ.g, D ++ delEs σ.d H⟩ := by
  rintro a w ⟨⟨ρ, hco, hs⟩, hz, hde⟩
  let A : Nat → Nat := fun i => adr (ρ (r i)).v
  have hA : ∀ i b, (ρ (r i)).v = .pointer (some ⟨b, 0, none⟩) → A i = b := fun i b h => by show adr (ρ (r i)).v = b; rw [h]; rfl
  have hd := (hin A).spec hco.own hA
  have hlow : ∀ k, (Un F.S0 ρ σ.d k ∧ ¬ Owns (fun i => ρ (r i)) (din A) k) → k < w.heap.size := by
    rintro k ⟨h | ⟨i, en, h1, h2⟩, _⟩
    · exact Nat.lt_of_lt_of_le (hco.low k h) hco.size
    · exact (hco.fresh i en k h1 h2).2
  have hU : Un (fun k => Un F.S0 ρ σ.d k ∧ ¬ Owns (fun i => ρ (r i)) (din A) k) (fun i => ρ (r i)) (din A) = Un F.S0 ρ σ.d := by
    funext k
    refine propext ⟨fun h => ?_, fun h => ?_⟩
    · rcases h with h | ⟨i, en, h1, h2⟩
      · exact h.1
      · obtain ⟨⟨en0, h3⟩, _⟩ := hd i en h1; exact .inr ⟨r i, en0, h3, h2⟩
    · by_cases ho : Owns (fun i => ρ (r i)) (din A) k
      · exact .inr ho
      · exact .inl ⟨h, ho⟩
  have hins : Ins (fun k => Un F.S0 ρ σ.d k ∧ ¬ Owns (fun i => ρ (r i)) (din A) k) (fun i => ρ (r i)) w (din A) := by
    refine ⟨fun i en h => ?_, fun i en b h hb => ?_, fun i en b h hb h' => h'.2 ⟨i, en, h, hb⟩, fun i j en en' b hi hj bi bj => ?_⟩
    · rw [hU]; exact (hd i en h).2
    · obtain ⟨⟨en0, h3⟩, _⟩ := hd i en h; exact (hco.fresh _ _ b h3 hb).2
    · obtain ⟨⟨en0, h3⟩, _⟩ := hd i en hi
      obtain ⟨⟨en1, h4⟩, _⟩ := hd j en' hj
      exact hr _ _ (hco.inj _ _ _ _ b h3 h4 bi bj)
  have K := Know.of_st hco hs (Op.call ⟨.value (.func f), xs.toArray, ts⟩).operands
  have hv := ha.spec (ys := (Op.call ⟨.value (.func f), xs.toArray, ts⟩).operands) (fun x hx => by simp [Op.operands, Call.operands, hx]) K
  refine OpWp.enter (run_call hcall) ((hc A _ w _ _ hlow hins (by rw [hU]; exact hv)).mono ?_)
  rintro e w' ⟨v, ρ', rfl, ho⟩
  exact ⟨v, rfl, St.callM hr hco hs hz hde hA (hin A) (hout A) (hH A) hst hnew (hcl A) hKH hdst ho⟩
end
/-- names turned by exchanges -/
def sw2 (a b i : Nat) : Nat := bif Nat.beq i a then b else bif Nat.beq i b then a else i
def swp : List (Nat × Nat) → Nat → Nat
  | [], i => i
  | (a, b) :: l, i => swp l (sw2 a b i)
theorem sw2_inv (a b i : Nat) : sw2 a b (sw2 a b i) = i := by
  unfold sw2
  cases h1 : Nat.beq i a <;> cases h2 : Nat.beq i b <;> simp only [cond_true, cond_false, h1, h2]
  all_goals first
    | (have := Nat.eq_of_beq_eq_true h1; subst this; cases h3 : Nat.beq b i <;> simp_all [Nat.beq_refl]; done)
    | (have := Nat.eq_of_beq_eq_true h2; subst this; cases h3 : Nat.beq a i <;> simp_all [Nat.beq_refl]; done)
    | simp_all
theorem swp_inj : ∀ (l : List (Nat × Nat)) (i j : Nat), swp l i = swp l j → i = j
  | [], _, _, h => h
  | (a, b) :: l, i, j, h => by
    have := swp_inj l _ _ h
    rw [← sw2_inv a b i, this, sw2_inv]
end Go.Sw

namespace Go.Sw
open Go Go.RowKit

/-- what an iterator comes to: it hands over these items, in order -/
def IterC (P : Program) (gf : FuncId) (cap : List Slot) (items : List (List Slot)) : Prop :=
  ∀ (S : Nat → Prop) (w : World) (vs : List Value) (ρ : Nat → LV) (l : Nat) (J : Nat → World → Prop) (Jx : World → Prop),
    (∀ k, S k → k < w.heap.size) → Slot.okv ρ S w cap vs → J 0 w →
    (∀ k W, J k W → w.heap.size ≤ W.heap.size ∧ ∀ b, b < w.heap.size → ¬ S b → W.heap[b]? = w.heap[b]?) →
    (∀ k W W', J k W → Below W.heap.size W W' → J k W') → (∀ W W', Jx W → Below W.heap.size W W' → Jx W') →
    (∀ k item W0 W us, items[k]? = some item → J k W0 → Below W0.heap.size W0 W → Slot.okv ρ (fun j => S j ∨ (w.heap.size ≤ j ∧ j < W0.heap.size)) W item us → ∃ fn tmps assign body, (Instr.yield l us.toArray).run P W = .ok (.round l fn tmps assign body) W ∧
      RoundIn Fence.wide 0 P l fn tmps assign body W fun e W' => (e = .returned (.bool true) ∧ J (k + 1) W') ∨ (e = .returned (.bool false) ∧ Jx W')) →
    Calls P gf (.func (.yield l) #[] #[] :: vs).toArray w fun e w' => (∃ v, e = .returned v) ∧ (J items.length w' ∨ Jx w')

/-- items one by one -/
def rng {ι α δ : Type} (step : ι → α → Option (Step α δ)) : List ι → α → Option (Ex α δ)
  | [], y => some (.brk y)
  | i :: is, y => match step i y with
    | none => none
    | some (.next y') => rng step is y'
    | some (.done z) => some (.ret z)
def putL : List Tmp → List Slot → List (Nat × Slot) → List (Nat × Slot)
  | t :: ts, s :: ss, g => putL ts ss ((t, s) :: g)
  | _, _, g => g
/-- boxes have the addresses that they have -/
def pinA (A : Nat → Nat) : List (Nat × Ent) → List (Nat × Ent)
  | [] => []
  | (i, en) :: d => (i, match en with | .box T l _ => .box T l (some (A i)) | .arr T e xs => .arr T e xs | .mp e f m => .mp e f m | .dp D x ls => .dp D x ls) :: pinA A d
theorem lkE_pin {A : Nat → Nat} : ∀ {d : List (Nat × Ent)} {i : Nat} {en : Ent}, lkE (pinA A d) i = some en → ∃ en0, lkE d i = some en0 ∧ ((∃ T l pb, en0 = .box T l pb ∧ en = .box T l (some (A i))) ∨ en = en0)
  | [], i, en, h => by simp [pinA, lkE] at h
  | (j, e) :: d, i, en, h => by
    simp only [pinA] at h
    rw [lkE_cons] at h
    rw [lkE_cons]
    split at h
    · rename_i hj; subst hj; cases h
      rw [if_pos rfl]
      refine ⟨_, rfl, ?_⟩
      cases e with
      | box T l pb => exact .inl ⟨T, l, pb, rfl, rfl⟩
      | arr T e xs => exact .inr rfl
      | mp e f m => exact .inr rfl
      | dp D x ls => exact .inr rfl
    · rename_i hj; rw [if_neg hj]; exact lkE_pin h
theorem lkE_pin1 {A : Nat → Nat} : ∀ {d : List (Nat × Ent)} {i : Nat} {en : Ent}, lkE d i = some en → ∃ en', lkE (pinA A d) i = some en'
  | [], i, en, h => by simp [lkE] at h
  | (j, e) :: d, i, en, h => by
    simp only [pinA]
    rw [lkE_cons] at h ⊢
    split
    · exact ⟨_, rfl⟩
    · rename_i hj; rw [if_neg hj] at h; exact lkE_pin1 h
inductive BoxesIn (A : Nat → Nat) (d : List (Nat × Ent)) : List Nat → Prop
  | nil : BoxesIn A d []
  | cons {i : Nat} {T : TypeId} {l : List Slot} {is : List Nat} : lkE d i = some (.box T l (some (A i))) → BoxesIn A d is → BoxesIn A d (i :: is)
theorem BoxesIn.spec {A : Nat → Nat} {d : List (Nat × Ent)} {is : List Nat} (h : BoxesIn A d is) : ∀ i ∈ is, ∃ T l, lkE d i = some (.box T l (some (A i))) := by
  induction h with
  | nil => intro i h; simp at h
  | cons h1 _ ih =>
    intro i hi
    rcases List.mem_cons.1 hi with rfl | hi
    · exact ⟨_, _, h1⟩
    · exact ih i hi
/-- how an assignment to a loop's variables ends -/
def AQ (F : Frm) (σ : AS) : Exit → Act → World → Prop
  | .normal, a, w => St F σ a w
  | _, _, _ => False
/-- how a round may end -/
def RB {α δ : Type} (F : Frm) (ds : α → List (Nat × Ent)) (dx : δ → List (Nat × Ent)) : Step α δ → Exit → Act → World → Prop
  | .next y, .normal, a, w => St F ⟨[], ds y⟩ a w
  | .done z, .ret, a, w => St F ⟨[], dx z⟩ a w
  | _, _, _, _ => False

theorem Core.pin {F : Frm} {d : List (Nat × Ent)} {ρ : Nat → LV} {w : World} {A : Nat → Nat} (hc : Core F d ρ w) (hA : ∀ i b, (ρ i).v = .pointer (some ⟨b, 0, none⟩) → A i = b) : Core F (pinA A d) ρ w ∧ Un F.S0 ρ (pinA A d) = Un F.S0 ρ d := by
  have hU : Un F.S0 ρ (pinA A d) = Un F.S0 ρ d := by
    funext k
    refine propext ⟨fun h => ?_, fun h => ?_⟩
    · rcases h with h | ⟨i, en, h1, h2⟩
      · exact .inl h
      · obtain ⟨en0, h3, _⟩ := lkE_pin h1; exact .inr ⟨i, en0, h3, h2⟩
    · rcases h with h | ⟨i, en, h1, h2⟩
      · exact .inl h
      · obtain ⟨en', h3⟩ := lkE_pin1 (A := A) h1; exact .inr ⟨i, en', h3, h2⟩
  refine ⟨⟨hc.low, hc.size, hc.frame, hc.os, hc.tape, hc.output, fun i en h => ?_, fun i en b h => ?_, fun i j en en' b hi hj => ?_, fun i en b h => ?_⟩, hU⟩
  · obtain ⟨en0, h1, h2⟩ := lkE_pin h
    rw [hU]
    have := hc.own i en0 h1
    rcases h2 with ⟨T, l, pb, rfl, rfl⟩ | rfl
    · obtain ⟨⟨b, cs, k1, k2, k3⟩, _⟩ := this
      exact ⟨⟨b, cs, k1, k2, k3⟩, fun c hc => by cases hc; rw [k1, hA i b k1]⟩
    · exact this
  · obtain ⟨en0, h1, _⟩ := lkE_pin h; exact hc.fresh i en0 b h1
  · obtain ⟨en0, h1, _⟩ := lkE_pin hi
    obtain ⟨en1, h2, _⟩ := lkE_pin hj
    exact hc.inj i j en0 en1 b h1 h2
  · obtain ⟨en0, h1, _⟩ := lkE_pin h; exact hc.apart i en0 b h1

/-- a change at blocks that are not ours and at which nothing lies that is read -/
theorem Core.turn {F F' : Frm} {d : List (Nat × Ent)} {ρ : Nat → LV} {w w' : World} {l : Nat} (hc : Core F d ρ w) (hl : F.S0 l) (hS : F'.S0 = F.S0) (hz : w'.heap.size = w.heap.size) (ho : ∀ k, k ≠ l → w'.heap[k]? = w.heap[k]?)
    (hsz : F'.w0.heap.size ≤ w'.heap.size) (hlow : ∀ k, F.S0 k → k < F'.w0.heap.size) (hfr : ∀ k, k < F'.w0.heap.size → ¬ F'.R k → w'.heap[k]? = F'.w0.heap[k]?) (hos : w'.os = F'.w0.os) (htp : w'.tape = F'.w0.tape) (hout : w'.output = F'.w0.output)
    (hR : ∀ i en b, lkE d i = some en → Has (ρ i) b → F'.w0.heap.size ≤ b ∨ F'.R b) : Core F' d ρ w' ∧ Ext (Un F.S0 ρ d) (Un F'.S0 ρ d) w w' := by
  have hE : Ext (Un F.S0 ρ d) (Un F'.S0 ρ d) w w' := ⟨by rw [hz]; exact Nat.le_refl _, fun k _ hk => ⟨ho k fun e => hk (.inl (e ▸ hl)), by rw [hS]; exact hk⟩⟩
  have hne : ∀ i en b, lkE d i = some en → Has (ρ i) b → b ≠ l := fun i en b h hb e => hc.apart i en b h hb (e ▸ hl)
  exact ⟨⟨by rw [hS]; exact hlow, hsz, hfr, hos, htp, hout, fun i en h => Ent.ok_mono (hc.own i en h) hE (fun _ _ => rfl) (fun b hb => ho b (hne i en b h hb)), fun i en b h hb => ⟨hR i en b h hb, by rw [hz]; exact (hc.fresh i en b h hb).2⟩, hc.inj, fun i en b h hb => by rw [hS]; exact hc.apart i en b h hb⟩, hE⟩

theorem foldl_size (ps : List (Tmp × Value)) (t : Array Value) : (ps.foldl (fun tmps (t, a) => tmps.setIfInBounds t a) t).size = t.size := by
  induction ps generalizing t with
  | nil => rfl
  | cons x ps ih => simp only [List.foldl_cons]; rw [ih]; simp
/-- slots behind a round's parameters -/
theorem putL_ok {ρ : Nat → LV} {S : Nat → Prop} {w : World} : ∀ (ps : List Tmp) (ss : List Slot) (us : List Value) (g : List (Nat × Slot)) (tm : Array Value), (∀ t s, lk g t = some s → s.ok ρ S w (tm.getD t undef)) → Slot.okv ρ S w ss us → ps.length = ss.length → (∀ t ∈ ps, t < tm.size) →
    ∀ t s, lk (putL ps ss g) t = some s → s.ok ρ S w (((ps.zip us).foldl (fun tmps (t, a) => tmps.setIfInBounds t a) tm).getD t undef)
  | [], [], us, g, tm, hg, hu, _, _ => by simp only [Slot.okv] at hu; subst hu; exact hg
  | p :: ps, s0 :: ss, us, g, tm, hg, hu, hl, hlt => by
    simp only [Slot.okv] at hu
    obtain ⟨u, us, rfl, h1, h2⟩ := hu
    simp only [putL, List.zip_cons_cons, List.foldl_cons]
    refine putL_ok ps ss us _ _ (fun t s ht => ?_) h2 (by simpa using hl) (fun t ht => by simpa using hlt t (List.mem_cons_of_mem _ ht))
    have hp := hlt p List.mem_cons_self
    rw [lk_cons] at ht
    rw [Array.getD_eq_getD_getElem?, Array.getElem?_setIfInBounds]
    split at ht
    · rename_i hpt; subst hpt; cases ht; simp [hp]; exact h1
    · rename_i hpt
      rw [if_neg hpt, ← Array.getD_eq_getD_getElem?]; exact hg t s ht
  | [], _ :: _, _, _, _, _, _, hl, _ => by simp at hl
  | _ :: _, [], _, _, _, _, _, hl, _ => by simp at hl

/-- 'for .. := range g { .. }' -/
theorem W.range {F0 F : Frm} {σ : AS} {cs : List Code} {Q : Exit → Act → World → Prop} {gt : Tmp} {ps : Array Tmp} {assign body : Code} {α ι δ : Type} {gf : FuncId} {cap : List Slot} {step : ι → α → Option (Step α δ)} {its : List ι} {x0 : α} {o : Ex α δ} (enc : ι → List Slot)
    {g : List (Nat × Slot)} {ds0 : List (Nat × Ent)} (ds : (Nat → Nat) → α → List (Nat × Ent)) (dx : (Nat → Nat) → δ → List (Nat × Ent)) (σ1 : (Nat → Nat) → ι → α → AS) {L : List Nat}
    (hF : Fol F0 F) (hrd : F.rd = none) (hm : rng step its x0 = some o) (h0 : Sub F σ ⟨g, ds0⟩) (hds : ∀ A, pinA A ds0 = ds A x0) (hg : lk g gt = some (.fnc gf cap)) (hit : IterC F.P gf cap (its.map enc))
    (hcall : ∀ args w, (callFunc gf args).run F.P w = .ok (.enter gf args) w) (hps : ∀ it, (enc it).length = ps.size) (hpN : ps.toList.all (fun t => Nat.blt t F.N) = true) (hel : ∀ it, Slot.labs (enc it) = [])
    (hL : (g.flatMap fun q => q.2.lab) = L) (hbx : ∀ A y, BoxesIn A (ds A y) L) (hbz : ∀ A z, BoxesIn A (dx A z) L)
    (hassign : ∀ A S w R l it y, W ⟨F.P, F.N, S, w, R, some l, []⟩ [assign] ⟨putL ps.toList (enc it) g, ds A y⟩ (AQ ⟨F.P, F.N, S, w, R, some l, []⟩ (σ1 A it y)))
    (hbody : ∀ A S w R l it y r, step it y = some r → W ⟨F.P, F.N, S, w, R, some l, []⟩ [body] (σ1 A it y) (RB ⟨F.P, F.N, S, w, R, some l, []⟩ (ds A) (dx A) r))
    (hk : ∀ A y, o = .brk y → ∀ S w R df, Fol F0 ⟨F.P, F.N, S, w, R, none, df⟩ → W ⟨F.P, F.N, S, w, R, none, df⟩ cs ⟨g, ds A y⟩ Q)
    (hx : ∀ A z, o = .ret z → ∀ S w R df, Fol F0 ⟨F.P, F.N, S, w, R, none, df⟩ → XQ ⟨F.P, F.N, S, w, R, none, df⟩ ⟨g, dx A z⟩ Q .ret) :
    W F (.rangeFunc (.tmp gt) ps assign body :: cs) σ Q := by
  intro a w hst
  obtain ⟨⟨ρ0, hc0, hs0⟩, hz, hde⟩ := h0 a w hst
  have hfe : F.fe = Fence.wide := by show ({ Fence.wide with round := F.rd } : Fence) = _; rw [hrd]; rfl
  let A : Nat → Nat := fun i => adr (ρ0 i).v
  obtain ⟨hc0, hU0⟩ := hc0.pin (A := A) (fun i b h => by show adr (ρ0 i).v = b; rw [h]; rfl)
  replace hs0 : ∀ t s, lk g t = some s → s.ok ρ0 (Un F.S0 ρ0 (ds A x0)) w (a.tmps.getD t undef) := by intro t s ht; rw [← hds, hU0]; exact hs0 t s ht
  rw [hds] at hc0
  clear hU0
  -- the function that is ranged over
  have hfn := hs0 gt _ hg
  simp only [Slot.ok] at hfn
  obtain ⟨vs, hv1, hv2⟩ := hfn
  obtain ⟨D, hD⟩ : ∃ D, D = w.heap.size := ⟨_, rfl⟩
  refine wpIn_rangeFunc fun fn _ => ?_
  obtain ⟨rec, hrec⟩ : ∃ rec : LoopState → Option Code → Loop, rec = fun st pe => { state := st, pending := pe, fn, tmps := a.tmps, params := ps, assign, body, defers := D } := ⟨_, rfl⟩
  obtain ⟨W1, hW1⟩ : ∃ W1, (w.alloc (.deferred (some []))).alloc (.loop (rec .ready none)) = W1 := ⟨_, rfl⟩
  have hb1 : Below w.heap.size w W1 := by rw [← hW1]; exact ((Below.refl _ w).alloc (Nat.le_refl _) _).alloc (by simp) _
  have hz1 : W1.heap.size = D + 2 := by rw [← hW1, hD]; simp
  have hL1 : W1.heap[D + 1]? = some (.loop (rec .ready none)) := by
    rw [← hW1, hD]; have := World.alloc_heap_new (w.alloc (.deferred (some []))) (.loop (rec .ready none)); rwa [World.size_alloc] at this
  have hK1 : W1.heap[D]? = some (.deferred (some [])) := by
    rw [← hW1, hD]; exact (Below.heap_alloc _ _ _ (by simp)).trans (World.alloc_heap_new w _)
  let S1 : Nat → Prop := fun k => F.S0 k ∨ k = D ∨ k = D + 1
  let R1 : Nat → Prop := Owns ρ0 (ds A x0)
  let FL : Frm := ⟨F.P, F.N, S1, W1, R1, none, []⟩
  let FX : Frm := ⟨F.P, F.N, S1, W1, fun k => R1 k ∨ k = D + 1, none, []⟩
  have hS1 : ∀ k, S1 k → k < W1.heap.size := by
    rintro k (h | rfl | rfl)
    · have := hc0.low k h; have := hc0.size; omega
    · omega
    · omega
  have hE01 : Ext (Un F.S0 ρ0 (ds A x0)) (Un S1 ρ0 (ds A x0)) w W1 := ⟨hb1.size, fun k hk hn => ⟨hb1.block k hk, by
    rintro ((h | rfl | rfl) | h)
    · exact hn (.inl h)
    · omega
    · omega
    · exact hn (.inr h)⟩⟩
  have hC1 : Core FL (ds A x0) ρ0 W1 := by
    refine ⟨hS1, Nat.le_refl _, fun _ _ _ => rfl, rfl, rfl, rfl, fun i en h => Ent.ok_mono (hc0.own i en h) hE01 (fun _ _ => rfl) (fun b hb => hb1.block b (hc0.fresh i en b h hb).2), fun i en b h hb => ⟨.inr ⟨i, en, h, hb⟩, Nat.lt_of_lt_of_le (hc0.fresh i en b h hb).2 hb1.size⟩, hc0.inj, fun i en b h hb => ?_⟩
    rintro (h' | rfl | rfl)
    · exact hc0.apart i en b h hb h'
    · have := (hc0.fresh i en _ h hb).2; omega
    · have := (hc0.fresh i en _ h hb).2; omega
  have hlD : ∀ {d : List (Nat × Ent)} {ρ : Nat → LV} {W : World}, Core FL d ρ W → W.heap[D + 1]? = some (.loop (rec .ready none)) ∧ W.heap[D]? = some (.deferred (some [])) := by
    intro d ρ W hc
    have hnR : ∀ k, k = D ∨ k = D + 1 → ¬ R1 k := by
      rintro k hk ⟨i, en, h1, h2⟩
      have := (hc0.fresh i en k h1 h2).2; omega
    exact ⟨(hc.frame (D + 1) (by show D + 1 < W1.heap.size; omega) (hnR _ (.inr rfl))).trans hL1, (hc.frame D (by show D < W1.heap.size; omega) (hnR _ (.inl rfl))).trans hK1⟩
  -- labels of what is fixed
  have hag : ∀ {d : List (Nat × Ent)} {ρ : Nat → LV} {W : World} {FF : Frm}, Core FF d ρ W → BoxesIn A d L → ∀ t s, lk g t = some s → agreeOn ρ0 ρ s.lab := by
    intro d ρ W FF hc hb t s ht i hi
    have hiL : i ∈ L := by rw [← hL]; exact List.mem_flatMap.2 ⟨_, lk_mem ht, hi⟩
    obtain ⟨T, l, h1⟩ := hb.spec i hiL
    obtain ⟨T', l', h2⟩ := (hbx A x0).spec i hiL
    rw [(hc.own i _ h1).2 _ rfl, (hc0.own i _ h2).2 _ rfl]
  -- what held ahead of the loop holds between rounds
  have hEk : ∀ {d : List (Nat × Ent)} {ρ : Nat → LV} {W : World}, Core FL d ρ W → Ext (Un S1 ρ0 (ds A x0)) (Un S1 ρ d) W1 W := by
    intro d ρ W hc
    refine ⟨hc.size, fun k hk hn => ⟨hc.frame k hk (fun h => hn (.inr h)), ?_⟩⟩
    rintro (h | ⟨i, en, h1, h2⟩)
    · exact hn (.inl h)
    · rcases (hc.fresh i en k h1 h2).1 with h | h
      · have : W1.heap.size ≤ k := h
        omega
      · exact hn (.inr h)
  have hEx : ∀ {d : List (Nat × Ent)} {ρ : Nat → LV} {W : World}, Core FX d ρ W → Ext (Un S1 ρ0 (ds A x0)) (Un S1 ρ d) W1 W := by
    intro d ρ W hc
    have hnl : ∀ k, ¬ Un S1 ρ0 (ds A x0) k → ¬ (R1 k ∨ k = D + 1) := by
      rintro k hn (h | rfl)
      · exact hn (.inr h)
      · exact hn (.inl (.inr (.inr rfl)))
    refine ⟨hc.size, fun k hk hn => ⟨hc.frame k hk (hnl k hn), ?_⟩⟩
    rintro (h | ⟨i, en, h1, h2⟩)
    · exact hn (.inl h)
    · rcases (hc.fresh i en k h1 h2).1 with h | h
      · have : W1.heap.size ≤ k := h
        omega
      · exact hnl k hn h
  -- behind the loop
  have hfol : ∀ {d : List (Nat × Ent)} {ρ : Nat → LV} {W W' : World} {FF : Frm}, (FF = FL ∨ FF = FX) → Core FF d ρ W → W'.heap.size = W.heap.size → (∀ k, k ≠ D + 1 → W'.heap[k]? = W.heap[k]?) → W'.os = W.os → W'.tape = W.tape → W'.output = W.output → W.heap[D]? = some (.deferred (some [])) →
      Fol F0 ⟨F.P, F.N, S1, W', Owns ρ d, none, { target := .collected D, args := #[] } :: F.df⟩ ∧ Core ⟨F.P, F.N, S1, W', Owns ρ d, none, { target := .collected D, args := #[] } :: F.df⟩ d ρ W' ∧ Ext (Un S1 ρ d) (Un S1 ρ d) W W' := by
    intro d ρ W W' FF hFF hc hzz hother hos htp hout hKD
    have hFS : FF.S0 = S1 := by rcases hFF with rfl | rfl <;> rfl
    have hFw : FF.w0 = W1 := by rcases hFF with rfl | rfl <;> rfl
    have hFR : ∀ k, FF.R k → R1 k ∨ k = D + 1 := by rcases hFF with rfl | rfl; exact fun k h => .inl h; exact fun k h => h
    have hcs := hc.size
    rw [hFw] at hcs
    have hfr : ∀ k, k < W1.heap.size → ¬ R1 k → k ≠ D + 1 → W.heap[k]? = W1.heap[k]? := fun k h1 h2 h3 => by
      have := hc.frame k (by rw [hFw]; exact h1) (fun h => (hFR k h).elim h2 h3); rwa [hFw] at this
    have hnown : ∀ k, F.S0 k ∨ k = D ∨ k = D + 1 → ¬ Owns ρ d k := by
      rintro k hk ⟨i, en, h1, h2⟩
      have := hc.apart i en k h1 h2
      rw [hFS] at this; exact this hk
    have hRold : ∀ k, Owns ρ d k → k < W1.heap.size → R1 k := by
      rintro k ⟨i, en, h1, h2⟩ hk
      rcases (hc.fresh i en k h1 h2).1 with h | h
      · rw [hFw] at h; omega
      · rcases hFR k h with h | rfl
        · exact h
        · exact absurd ⟨i, en, h1, h2⟩ (hnown _ (.inr (.inr rfl)))
    have hR0 : ∀ k, R1 k → F0.w0.heap.size ≤ k ∨ F0.R k := by
      rintro k ⟨i, en, h1, h2⟩
      rcases (hc0.fresh i en k h1 h2).1 with h | h
      · exact .inl (Nat.le_trans hF.size h)
      · exact hF.fresh k h
    have hosz : W'.os = F.w0.os ∧ W'.tape = F.w0.tape ∧ W'.output = F.w0.output := by
      have h1 := hc.os; have h2 := hc.tape; have h3 := hc.output
      rw [hFw] at h1 h2 h3
      exact ⟨((hos.trans h1).trans hb1.os).trans hc0.os, ((htp.trans h2).trans hb1.tape).trans hc0.tape, ((hout.trans h3).trans hb1.output).trans hc0.output⟩
    have hct := hc.turn (F' := ⟨F.P, F.N, S1, W', Owns ρ d, none, { target := .collected D, args := #[] } :: F.df⟩) (l := D + 1) (by rw [hFS]; exact .inr (.inr rfl)) hFS.symm hzz hother (Nat.le_refl _) (fun k h => by rw [hFS] at h; show k < W'.heap.size; have := hS1 k h; omega)
      (fun _ _ _ => rfl) rfl rfl rfl (fun i en b h hb => .inr ⟨i, en, h, hb⟩)
    rw [hFS] at hct
    refine ⟨⟨hF.P, fun k h => .inl (hF.S k h), by show F0.w0.heap.size ≤ W'.heap.size; have := hF.size; have := hc0.size; omega, hF.low, fun k hk hr => ?_, hosz.1.trans hF.os, hosz.2.1.trans hF.tape, hosz.2.2.trans hF.output, fun k hk => ?_, fun x hx => ?_, ?_⟩, hct.1, hct.2⟩
    · have hs1 := hF.size; have hs2 := hc0.size
      obtain ⟨h1, h2⟩ := hF.frame k hk hr
      have hnR1 : ¬ R1 k := fun h => (hR0 k h).elim (fun h => by omega) hr
      refine ⟨?_, fun h => hnR1 (hRold k h (by omega))⟩
      show W'.heap[k]? = _
      rw [hother k (by omega), hfr k (by omega) hnR1 (by omega), hb1.block k (by omega), hc0.frame k (by omega) h2, h1]
    · by_cases hlt : k < W1.heap.size
      · exact hR0 k (hRold k hk hlt)
      · have hs1 := hF.size; have hs2 := hc0.size; exact .inl (by omega)
    · rcases List.mem_cons.1 hx with rfl | hx
      · have hs1 := hF.size; have hs2 := hc0.size
        exact ⟨D, rfl, .inr (.inl rfl), hnown D (.inr (.inl rfl)), by omega, by show W'.heap[D]? = _; rw [hother D (by omega)]; exact hKD⟩
      · obtain ⟨r, h1, h2, h3, h4, h5⟩ := hF.df x hx
        have hlt := hc0.low r h2
        have hs2 := hc0.size
        refine ⟨r, h1, .inl h2, hnown r (.inl h2), h4, ?_⟩
        show W'.heap[r]? = _
        have hnR1 : ¬ R1 r := fun ⟨i, en, h6, h7⟩ => hc0.apart i en r h6 h7 h2
        rw [hother r (by omega), hfr r (by omega) hnR1 (by omega), hb1.block r (by omega), hc0.frame r hlt h3, h5]
    · refine List.pairwise_cons.2 ⟨fun x hx e => ?_, hF.nd⟩
      obtain ⟨r, h1, h2, _⟩ := hF.df x hx
      rw [h1] at e
      have e' : D = r := by simpa using e
      have := hc0.low r h2
      have := hc0.size
      omega
  -- the iterator
  let J : Nat → World → Prop := fun k W => ∃ y ρ, rng step (its.drop k) y = some o ∧ Core FL (ds A y) ρ W
  let Jx : World → Prop := fun W => ∃ z ρ, o = .ret z ∧ Core FX (dx A z) ρ W ∧ W.heap[D + 1]? = some (.loop (rec .done (some .ret))) ∧ W.heap[D]? = some (.deferred (some []))
  refine ⟨D + 1, [{ target := .collected D, args := #[] }], W1, { target := .fn (.func gf) vs.toArray, args := #[.func (.yield (D + 1)) #[] #[]] }, W1, gf, (.func (.yield (D + 1)) #[] #[] :: vs).toArray, W1, ?_, ?_, fun _ _ => by rw [hfe]; trivial, ?_, fun h => (by rw [hfe] at h; cases h), ?_⟩
  · rw [← hW1, hrec, hD]; show (Instr.enterLoop _ _ _ _ _ F.rd).run _ _ = _; rw [hrd]; exact run_enterLoop_outer _ _ _ _ _
  · have : a.eval (.tmp gt) = .func (.func gf) #[] vs.toArray := hv1
    simp only [resolve, this]
    simp [go_sem]
  · simp [invoke, go_sem, hcall]
  rw [hfe]
  refine CallsIn.mono (callsIn_wide.2 (hit (Un S1 ρ0 (ds A x0)) W1 vs ρ0 (D + 1) J Jx ?_ (Slot.okv_mono cap vs hv2 hE01 (fun _ _ => rfl)) ⟨x0, ρ0, by simpa using hm, hC1⟩ ?_ ?_ ?_ ?_)) ?_
  · rintro k (h | ⟨i, en, h1, h2⟩)
    · exact hS1 k h
    · exact (hC1.fresh i en k h1 h2).2
  · rintro k W ⟨y, ρ, _, hc⟩
    exact ⟨hc.size, fun b hb hn => hc.frame b hb (fun h => hn (.inr h))⟩
  · rintro k W W' ⟨y, ρ, h1, hc⟩ hbel
    exact ⟨y, ρ, h1, (hc.below hbel).1⟩
  · rintro W W' ⟨z, ρ, hoz, hc, hl2, hk2⟩ hbel
    exact ⟨z, ρ, hoz, (hc.below hbel).1, (hbel.block _ (Array.getElem?_eq_some_iff.1 hl2).1).trans hl2, (hbel.block _ (Array.getElem?_eq_some_iff.1 hk2).1).trans hk2⟩
  · -- one round
    rintro k item W0 W us hitem ⟨y, ρ, hrng, hcW0⟩ hbel hus
    have hc := (hcW0.below hbel).1
    have hEi : Ext (fun j => Un S1 ρ0 (ds A x0) j ∨ (W1.heap.size ≤ j ∧ j < W0.heap.size)) (Un S1 ρ (ds A y)) W W := ⟨Nat.le_refl _, fun k _ hn => ⟨rfl, by
      rintro (h | ⟨i, en, h1, h2⟩)
      · exact hn (.inl (.inl h))
      · obtain ⟨h3, h4⟩ := hcW0.fresh i en k h1 h2
        rcases h3 with h3 | h3
        · exact hn (.inr ⟨h3, h4⟩)
        · exact hn (.inl (.inr h3))⟩⟩
    obtain ⟨it, hit1, rfl⟩ : ∃ it, its[k]? = some it ∧ enc it = item := by
      rw [List.getElem?_map] at hitem
      cases hq : its[k]? with
      | none => rw [hq] at hitem; cases hitem
      | some it => rw [hq] at hitem; exact ⟨it, rfl, by simpa using hitem⟩
    have hdrop : its.drop k = it :: its.drop (k + 1) := by
      obtain ⟨hlt, he⟩ := List.getElem?_eq_some_iff.1 hit1
      rw [List.drop_eq_getElem_cons hlt, he]
    rw [hdrop] at hrng
    obtain ⟨hl, hkD⟩ := hlD hc
    have hlen := okv_len hus
    have hy := run_yield (P := F.P) (args := us.toArray) hl (by rw [hrec]; simp [hlen, hps])
    rw [hrec] at hy
    refine ⟨fn, _, assign, body, hy, roundIn_of_wpIn trivial ?_⟩
    let F2 : Frm := ⟨F.P, F.N, S1, W, Owns ρ (ds A y), some (D + 1), []⟩
    have hcW := hc.size
    have hcW2 : W1.heap.size ≤ W.heap.size := hcW
    have hc2 : Core F2 (ds A y) ρ W := ⟨fun k h => by have := hS1 k h; show k < W.heap.size; omega, Nat.le_refl _, fun _ _ _ => rfl, rfl, rfl, rfl, hc.own, fun i en b h hb => ⟨.inr ⟨i, en, h, hb⟩, (hc.fresh i en b h hb).2⟩, hc.inj, hc.apart⟩
    have hmem : agreeOn ρ0 ρ (Slot.labs (enc it)) := fun i hi => by rw [hel it] at hi; simp at hi
    have hst2 : St F2 ⟨putL ps.toList (enc it) g, ds A y⟩ { tmps := ((ps.zip us.toArray).foldl (fun tmps (t, a) => tmps.setIfInBounds t a) a.tmps), defers := [] } W := by
      refine ⟨⟨ρ, hc2, fun t s ht => ?_⟩, ?_, rfl⟩
      · have hzip : (ps.zip us.toArray).foldl (fun tmps (t, a) => tmps.setIfInBounds t a) a.tmps = (ps.toList.zip us).foldl (fun tmps (t, a) => tmps.setIfInBounds t a) a.tmps := by
          rw [← Array.foldl_toList]; simp
        rw [hzip]
        refine putL_ok ps.toList (enc it) us g a.tmps (fun t s ht => ?_) (Slot.okv_mono _ us hus hEi hmem) (by simpa using (hps it).symm) (fun t ht => ?_) t s ht
        · exact Slot.ok_mono s _ (Slot.ok_mono s _ (hs0 t s ht) hE01 (fun _ _ => rfl)) (hEk hc) (fun i hi => hag hc (hbx A y) t s ht i hi)
        · rw [hz]; have := List.all_eq_true.1 hpN t ht; exact Nat.le_of_ble_eq_true this
      · show ((ps.zip us.toArray).foldl (fun tmps (t, a) => tmps.setIfInBounds t a) a.tmps).size = F.N
        rw [← Array.foldl_toList]; rw [foldl_size]; exact hz
    have hass : assign.wpIn F2.fe 0 F.P (Exit.then (run F2.fe F.P (AQ F2 (σ1 A it y)) []) (AQ F2 (σ1 A it y))) _ W := hassign A S1 W (Owns ρ (ds A y)) (D + 1) it y _ _ hst2
    refine wpIn_mono (show assign.wpIn (Fence.wide.inRound (D + 1)) 0 F.P _ _ W from hass) ?_
    have fin : ∀ {e : Exit} {a1 : Act} {w1 : World}, St F2 (σ1 A it y) a1 w1 → ∃ w2, (Instr.beginRound (D + 1)).run F.P w1 = .ok () w2 ∧ body.wpIn (Fence.wide.inRound (D + 1)) 0 F.P (roundPost F.P (D + 1) fun e W' => (e = .returned (.bool true) ∧ J (k + 1) W') ∨ (e = .returned (.bool false) ∧ Jx W')) a1 w2 := by
      intro _ a1 w1 hst1
      obtain ⟨⟨ρ1, hc1, hs1⟩, hz1', hd1⟩ := hst1
      have hnR2 : ∀ k, S1 k → ¬ Owns ρ (ds A y) k := by rintro k hk ⟨i, en, h1, h2⟩; exact hc.apart i en k h1 h2 hk
      have hl1 : w1.heap[D + 1]? = some (.loop (rec .ready none)) := (hc1.frame (D + 1) (by show D + 1 < W.heap.size; have : W1.heap.size ≤ W.heap.size := hc.size; omega) (hnR2 _ (.inr (.inr rfl)))).trans hl
      have hk1 : w1.heap[D]? = some (.deferred (some [])) := (hc1.frame D (by show D < W.heap.size; have : W1.heap.size ≤ W.heap.size := hc.size; omega) (hnR2 _ (.inr (.inl rfl)))).trans hkD
      have hlt1 := (Array.getElem?_eq_some_iff.1 hl1).1
      have hbr := run_beginRound (P := F.P) hl1 (by rw [hrec])
      obtain ⟨w2, hw2⟩ : ∃ w2, w1.putObj (D + 1) (.loop { rec .ready none with state := .busy }) = w2 := ⟨_, rfl⟩
      rw [hw2] at hbr
      have hz2 : w2.heap.size = w1.heap.size := by rw [← hw2]; simp
      have hot2 : ∀ k, k ≠ D + 1 → w2.heap[k]? = w1.heap[k]? := fun k h => by rw [← hw2]; exact World.putObj_heap_other h
      have hl2 : w2.heap[D + 1]? = some (.loop { rec .ready none with state := .busy }) := by rw [← hw2]; exact World.putObj_heap_same hlt1
      let F3 : Frm := ⟨F.P, F.N, S1, w2, Owns ρ1 (σ1 A it y).d, some (D + 1), []⟩
      have hc1s : W.heap.size ≤ w1.heap.size := hc1.size
      have hcWs : W1.heap.size ≤ W.heap.size := hc.size
      obtain ⟨hc3, hE3⟩ := hc1.turn (F' := F3) (l := D + 1) (.inr (.inr rfl)) rfl hz2 hot2 (Nat.le_refl _) (fun k h => by have := hS1 k h; show k < w2.heap.size; omega) (fun _ _ _ => rfl) rfl rfl rfl (fun i en b h hb => .inr ⟨i, en, h, hb⟩)
      refine ⟨w2, hbr, ?_⟩
      -- what the body's world comes to
      have hcomp : ∀ {d : List (Nat × Ent)} {ρ3 : Nat → LV} {w3 w4 : World} {o4 : Obj}, Core F3 d ρ3 w3 → w4 = w3.putObj (D + 1) o4 → (o4 = .loop (rec .ready none) → Core FL d ρ3 w4) ∧ Core FX d ρ3 w4 ∧ w3.heap[D + 1]? = some (.loop { rec .ready none with state := .busy }) ∧ w4.heap[D + 1]? = some o4 ∧ w4.heap[D]? = some (.deferred (some [])) := by
        intro d ρ3 w3 w4 o4 hcc hw4
        have hnR3 : ∀ k, S1 k → ¬ Owns ρ1 (σ1 A it y).d k := by rintro k hk ⟨i, en, h1, h2⟩; exact hc1.apart i en k h1 h2 hk
        have h3s : w2.heap.size ≤ w3.heap.size := hcc.size
        have hl3 : w3.heap[D + 1]? = some (.loop { rec .ready none with state := .busy }) := (hcc.frame (D + 1) (by show D + 1 < w2.heap.size; omega) (hnR3 _ (.inr (.inr rfl)))).trans hl2
        have hk3 : w3.heap[D]? = some (.deferred (some [])) := (hcc.frame D (by show D < w2.heap.size; omega) (hnR3 _ (.inr (.inl rfl)))).trans ((hot2 D (by omega)).trans hk1)
        have hz4 : w4.heap.size = w3.heap.size := by rw [hw4]; simp
        have hot4 : ∀ k, k ≠ D + 1 → w4.heap[k]? = w3.heap[k]? := fun k h => by rw [hw4]; exact World.putObj_heap_other h
        have hl4 : w4.heap[D + 1]? = some o4 := by rw [hw4]; exact World.putObj_heap_same (Array.getElem?_eq_some_iff.1 hl3).1
        have hR3 : ∀ k, k < W1.heap.size → Owns ρ1 (σ1 A it y).d k → R1 k := by
          rintro k hk ⟨i, en, h1, h2⟩
          rcases (hc1.fresh i en k h1 h2).1 with h | ⟨i', en', h3, h4⟩
          · have : W.heap.size ≤ k := h
            omega
          · rcases (hc.fresh i' en' k h3 h4).1 with h | h
            · have : W1.heap.size ≤ k := h
              omega
            · exact h
        have hfr4 : ∀ k, k < W1.heap.size → ¬ R1 k → k ≠ D + 1 → w4.heap[k]? = W1.heap[k]? := by
          intro k hk hnr hne
          rw [hot4 k hne, hcc.frame k (by show k < w2.heap.size; omega) (fun h => hnr (hR3 k hk h))]
          show w2.heap[k]? = _
          rw [hot2 k hne, hc1.frame k (by show k < W.heap.size; omega) (fun h => ?_)]
          · exact hc.frame k hk hnr
          · obtain ⟨i, en, h1, h2⟩ := h
            rcases (hc.fresh i en k h1 h2).1 with h | h
            · have : W1.heap.size ≤ k := h
              omega
            · exact hnr h
        have hw4' : w4.os = w3.os ∧ w4.tape = w3.tape ∧ w4.output = w3.output := by rw [hw4]; exact ⟨rfl, rfl, rfl⟩
        have hw2' : w2.os = w1.os ∧ w2.tape = w1.tape ∧ w2.output = w1.output := by rw [← hw2]; exact ⟨rfl, rfl, rfl⟩
        have hos4 : w4.os = W1.os := hw4'.1.trans (hcc.os.trans (hw2'.1.trans (hc1.os.trans hc.os)))
        have htp4 : w4.tape = W1.tape := hw4'.2.1.trans (hcc.tape.trans (hw2'.2.1.trans (hc1.tape.trans hc.tape)))
        have hop4 : w4.output = W1.output := hw4'.2.2.trans (hcc.output.trans (hw2'.2.2.trans (hc1.output.trans hc.output)))
        have hRR : ∀ i en b, lkE d i = some en → Has (ρ3 i) b → W1.heap.size ≤ b ∨ R1 b := by
          intro i en b h hb
          by_cases hlt : b < W1.heap.size
          · rcases (hcc.fresh i en b h hb).1 with h' | h'
            · have : w2.heap.size ≤ b := h'
              omega
            · exact .inr (hR3 b hlt h')
          · exact .inl (by omega)
        have hlow : ∀ k, S1 k → k < W1.heap.size := hS1
        refine ⟨fun ho4 => ?_, ?_, hl3, hl4, by rw [hot4 D (by omega)]; exact hk3⟩
        · exact (hcc.turn (F' := FL) (l := D + 1) (.inr (.inr rfl)) rfl hz4 hot4 (by show W1.heap.size ≤ w4.heap.size; omega) hlow (fun k hk hnr => by
            by_cases hkl : k = D + 1
            · subst hkl; exact (hl4.trans (by rw [ho4])).trans hL1.symm
            · exact hfr4 k hk hnr hkl) hos4 htp4 hop4 hRR).1
        · exact (hcc.turn (F' := FX) (l := D + 1) (.inr (.inr rfl)) rfl hz4 hot4 (by show W1.heap.size ≤ w4.heap.size; omega) hlow (fun k hk hnr => hfr4 k hk (fun h => hnr (.inl h)) (fun h => hnr (.inr h))) hos4 htp4 hop4 (fun i en b h hb => (hRR i en b h hb).imp (fun h => h) .inl)).1
      have hst3 : St F3 (σ1 A it y) a1 w2 := ⟨⟨ρ1, hc3, fun t s ht => Slot.ok_mono s _ (hs1 t s ht) hE3 (fun _ _ => rfl)⟩, hz1', hd1⟩
      cases hsr : step it y with
      | none => simp only [rng, hsr] at hrng; cases hrng
      | some r =>
        have hbd : body.wpIn F3.fe 0 F.P (Exit.then (run F3.fe F.P (RB F3 (ds A) (dx A) r) []) (RB F3 (ds A) (dx A) r)) a1 w2 := hbody A S1 w2 _ (D + 1) it y r hsr _ _ hst3
        refine wpIn_mono (show body.wpIn (Fence.wide.inRound (D + 1)) 0 F.P _ a1 w2 from hbd) ?_
        intro e a3 w3 hq
        simp only [rng, hsr] at hrng
        cases r with
        | next y' =>
          cases e <;> simp only [RB, Exit.then, run] at hq
          obtain ⟨⟨ρ3, hc3', _⟩, _⟩ := hq
          obtain ⟨h1, h2, h3, h4, h5⟩ := hcomp (o4 := .loop (rec .ready none)) hc3' rfl
          have hen := run_endRound (P := F.P) none h3
          refine ⟨_, _, hen, .inl ⟨rfl, y', ρ3, ?_, ?_⟩⟩
          · exact hrng
          · rw [hrec] at h1 ⊢; exact h1 rfl
        | done z =>
          have hoz : o = .ret z := by simpa using hrng.symm
          cases e <;> simp only [RB, Exit.then, run] at hq
          obtain ⟨⟨ρ3, hc3', _⟩, _⟩ := hq
          obtain ⟨_, h2, h3, h4, h5⟩ := hcomp (o4 := .loop (rec .done (some .ret))) hc3' rfl
          have hen := run_endRound (P := F.P) (some .ret) h3
          refine ⟨_, _, hen, .inr ⟨rfl, z, ρ3, hoz, ?_, ?_, ?_⟩⟩
          · rw [hrec] at h2 ⊢; exact h2
          · rw [hrec] at h4 ⊢; exact h4
          · rw [hrec] at h5 ⊢; exact h5
    intro e a1 w1 hq
    cases e <;> simp only [AQ, Exit.then, run] at hq ⊢ <;> first | exact fin (e := .normal) hq | exact hq
  · -- behind the iterator
    rintro e W2 ⟨⟨v, rfl⟩, ⟨y, ρ, h1, hc⟩ | ⟨z, ρ, hoz, hc, hl2, hkD2⟩⟩
    · obtain ⟨hl, hkD⟩ := hlD hc
      have hoy : o = .brk y := by
        have h2 : its.drop (List.map enc its).length = [] := by simp
        rw [h2] at h1; simpa [rng] using h1.symm
      refine ⟨none, _, (by have := run_endLoop (P := F.P) hl (by rw [hrec]; simp); rw [hrec] at this; exact this), ?_⟩
      obtain ⟨W3, hW3⟩ : ∃ W3, W2.putObj (D + 1) (.loop { rec .ready none with state := .exhausted }) = W3 := ⟨_, rfl⟩
      have hoth : ∀ k, k ≠ D + 1 → W3.heap[k]? = W2.heap[k]? := fun k h => by rw [← hW3]; exact World.putObj_heap_other h
      obtain ⟨hf1, hf2, hf3⟩ := hfol (W' := W3) (.inl rfl) hc (by rw [← hW3]; simp) hoth (by rw [← hW3]; rfl) (by rw [← hW3]; rfl) (by rw [← hW3]; rfl) hkD
      have hfin := hk A y hoy S1 W3 (Owns ρ (ds A y)) _ hf1 { a with defers := [{ target := .collected D, args := #[] }] ++ a.defers } W3 ⟨⟨ρ, hf2, fun t s ht => ?_⟩, hz, by show _ ++ a.defers = _; rw [hde]; rfl⟩
      · have hWeq : W2.putObj (D + 1) (.loop { state := .exhausted, pending := none, fn, tmps := a.tmps, params := ps, assign, body, defers := D }) = W3 := by rw [← hW3, hrec]
        rw [hWeq]
        simp only [Exit.then]
        exact hfin
      · exact Slot.ok_mono s _ (Slot.ok_mono s _ (Slot.ok_mono s _ (hs0 t s ht) hE01 (fun _ _ => rfl)) (hEk hc) (fun i hi => hag hc (hbx A y) t s ht i hi)) hf3 (fun _ _ => rfl)
    · refine ⟨some .ret, _, (by have := run_endLoop (P := F.P) hl2 (by rw [hrec]; simp); rw [hrec] at this; exact this), ?_⟩
      obtain ⟨W3, hW3⟩ : ∃ W3, W2.putObj (D + 1) (.loop { rec .done (some .ret) with state := .exhausted }) = W3 := ⟨_, rfl⟩
      have hoth : ∀ k, k ≠ D + 1 → W3.heap[k]? = W2.heap[k]? := fun k h => by rw [← hW3]; exact World.putObj_heap_other h
      obtain ⟨hf1, hf2, hf3⟩ := hfol (W' := W3) (.inr rfl) hc (by rw [← hW3]; simp) hoth (by rw [← hW3]; rfl) (by rw [← hW3]; rfl) (by rw [← hW3]; rfl) hkD2
      have hfin := hx A z hoz S1 W3 (Owns ρ (dx A z)) _ hf1 { a with defers := [{ target := .collected D, args := #[] }] ++ a.defers } W3 ⟨⟨ρ, hf2, fun t s ht => ?_⟩, hz, by show _ ++ a.defers = _; rw [hde]; rfl⟩
      · have hWeq : W2.putObj (D + 1) (.loop { state := .exhausted, pending := some .ret, fn, tmps := a.tmps, params := ps, assign, body, defers := D }) = W3 := by rw [← hW3, hrec]
        show (Code.ret).wpIn _ _ _ _ _ _
        rw [hWeq]
        exact wpIn_ret hfin
      · exact Slot.ok_mono s _ (Slot.ok_mono s _ (Slot.ok_mono s _ (hs0 t s ht) hE01 (fun _ _ => rfl)) (hEx hc) (fun i hi => hag hc (hbz A z) t s ht i hi)) hf3 (fun _ _ => rfl)

/-- a range over a function, in the model: what comes behind it; what comes where it is left -/
def rg {ι α δ γ : Type} (step : ι → α → Option (Step α δ)) (its : List ι) (x : α) (k : α → Option γ) (kx : δ → Option γ) : Option γ := match rng step its x with
  | none => none
  | some (.brk y) => k y
  | some (.ret z) => kx z
theorem rg_elim {ι α δ γ : Type} {step : ι → α → Option (Step α δ)} {its : List ι} {x : α} {k : α → Option γ} {kx : δ → Option γ} {r : γ} (h : rg step its x k kx = some r) :
    ∃ o, rng step its x = some o ∧ (∀ y, o = .brk y → k y = some r) ∧ (∀ z, o = .ret z → kx z = some r) := by
  unfold rg at h
  cases hr : rng step its x with
  | none => rw [hr] at h; cases h
  | some o =>
    rw [hr] at h
    refine ⟨o, rfl, fun y e => ?_, fun z e => ?_⟩
    · subst e; exact h
    · subst e; exact h
theorem W.aq {F : Frm} {σ σ1 : AS} (h : Sub F σ σ1) : W F [] σ (AQ F σ1) := fun a w hs => h a w hs
theorem W.rnext {α δ : Type} {F : Frm} {σ : AS} {ds : α → List (Nat × Ent)} {dx : δ → List (Nat × Ent)} {y : α} (h : Sub F σ ⟨[], ds y⟩) : W F [] σ (RB F ds dx (.next y)) := fun a w hs => h a w hs
/-- a slice that memory bears -/
def small {α : Type} (xs : List α) : Option Unit := if (xs.length : Int) ≤ 4294967296 then some () else none
theorem small_some {α : Type} {xs : List α} {u : Unit} (h : small xs = some u) : (xs.length : Int) ≤ 4294967296 := by
  unfold small at h; split at h
  · assumption
  · cases h
/-- a number of a size that pieces may have -/
def chkn (n : Int) : Option Unit := if 1 ≤ n ∧ n ≤ 4294967296 then some () else none
theorem chkn_some {n : Int} {u : Unit} (h : chkn n = some u) : 1 ≤ n ∧ n ≤ 4294967296 := by
  unfold chkn at h; split at h
  · assumption
  · cases h
end Go.Sw

namespace Go.Sw
open Go Go.RowKit

/-- a value just that -/
def Enc.cst (u : Value) (h : u.oneCell' = true) : Enc Unit where
  n := 1
  agg := false
  ok _ _ _ cs := cs = [u]
  len h := by rw [h]; rfl
  one _ := rfl
  cell hc c hm := by rw [hc] at hm; simp at hm; subst hm; exact h
  mono h _ := h
instance (u : Value) (h : u.oneCell' = true) : FlatE (Enc.cst u h) := ⟨fun h => h⟩
theorem val_cst {u : Value} {hu : u.oneCell' = true} {S w v} : (Enc.cst u hu).val () S w v ↔ v = u :=
  ⟨fun ⟨_, h1, h2⟩ => by have : _ = [u] := h1; subst this; exact h2, fun h => ⟨_, rfl, h⟩⟩
/-- a pointer, just that, to what lies there -/
def Enc.cp {α : Type} (b off : Nat) (e : Enc α) : Enc α where
  n := 1
  agg := false
  ok x S w cs := cs = [.pointer (some ⟨b, off, none⟩)] ∧ ∃ ds, b < w.heap.size ∧ ¬ S b ∧ MemAt w b off ds ∧ e.ok x S w ds
  len h := by rw [h.1]; rfl
  one _ := rfl
  cell hc c hm := by rw [hc.1] at hm; simp at hm; subst hm; rfl
  mono h k := by
    obtain ⟨h1, ds, h2, h3, h4, h5⟩ := h
    exact ⟨h1, ds, Nat.lt_of_lt_of_le h2 k.size, (k.keep b h2 h3).2, h4.mono h2 h3 k, e.mono h5 k⟩
theorem val_cp {α : Type} {b off : Nat} {e : Enc α} {x : α} {S w v} : (Enc.cp b off e).val x S w v ↔ v = .pointer (some ⟨b, off, none⟩) ∧ ∃ ds, b < w.heap.size ∧ ¬ S b ∧ MemAt w b off ds ∧ e.ok x S w ds :=
  ⟨fun ⟨_, h1, h2⟩ => by obtain ⟨rfl, h3⟩ := h1; exact ⟨h2, h3⟩, fun h => ⟨_, ⟨rfl, h.2⟩, h.1⟩⟩
section
variable {F : Frm} {σ : AS} {s : Slot} {d : Option Tmp} {ty : TypeId} {p : String} {af : Array Edge} {gd : Option (Nat × Bool)} {x y z : Operand}
theorem JO.assignCst {u : Value} (h : u.oneCell' = true) : JO F ⟨d, .assign (.const u), ty, p, af, gd⟩ σ (.v (Enc.cst u h) ()) [] := by
  intro ρ S a w K
  exact OpWp.value (w' := w) (v := u) (by simp [execOp, Act.eval]) (Res.same (by simp only [Slot.ok]; exact val_cst.2 rfl))
theorem JO.loadCp {α : Type} {b off : Nat} {e : Enc α} {v : α} {U : TypeId} (hx : evS σ.g x = some (.v (Enc.cp b off e) v)) (hA : ∀ w, (isAgg U).run F.P w = .ok e.agg w) (hS : ∀ w, (sizeOf U).run F.P w = .ok e.n w) :
    JO F ⟨d, .load U x, ty, p, af, gd⟩ σ (.v e v) [] := by
  intro ρ S a w K
  have h := K.slot x (by simp [Op.operands]) _ hx
  simp only [Slot.ok] at h
  obtain ⟨h1, ds, h2, h3, h4, h5⟩ := val_cp.1 h
  refine OpWp.value (w' := w) (v := e.pk ds) ?_ (Res.same (by simp only [Slot.ok]; exact ⟨ds, h5, rfl⟩))
  have := load_e (P := F.P) h4 h5 hA hS
  simp [execOp, h1, Instr.loadAt, Instr.sureAddr, this]
end
def SW (S : Nat → Prop) (B : Nat) (W : World) (j : Nat) : Prop := S j ∨ (B ≤ j ∧ j < W.heap.size)
abbrev FW (P : Program) (N : Nat) (S : Nat → Prop) (B : Nat) (W : World) : Frm := ⟨P, N, SW S B W, W, fun _ => False, none, []⟩

/-- what an iterator may use -/
structure Its (P : Program) (S : Nat → Prop) (w : World) (ρ : Nat → LV) (l : Nat) (J : Nat → World → Prop) (Jx : World → Prop) (items : List (List Slot)) : Prop where
  low : ∀ k, S k → k < w.heap.size
  keep : ∀ k W, J k W → w.heap.size ≤ W.heap.size ∧ ∀ b, b < w.heap.size → ¬ S b → W.heap[b]? = w.heap[b]?
  below : ∀ k W W', J k W → Below W.heap.size W W' → J k W'
  belowx : ∀ W W', Jx W → Below W.heap.size W W' → Jx W'
  yields : ∀ k item W0 W us, items[k]? = some item → J k W0 → Below W0.heap.size W0 W → Slot.okv ρ (SW S w.heap.size W0) W item us → ∃ fn tmps assign body, (Instr.yield l us.toArray).run P W = .ok (.round l fn tmps assign body) W ∧
      RoundIn Fence.wide 0 P l fn tmps assign body W fun e W' => (e = .returned (.bool true) ∧ J (k + 1) W') ∨ (e = .returned (.bool false) ∧ Jx W')
/-- what can be told anew in whatever world the rounds leave -/
def Again (ρ : Nat → LV) (S : Nat → Prop) (w : World) (s : Slot) : Prop := s.lab = [] ∧ ∀ S1 W1 S2 W2 u, s.ok ρ S1 W1 u → Ext S S2 w W2 → s.ok ρ S2 W2 u
theorem Again.flat {α : Type} {e : Enc α} [FlatE e] {x : α} {ρ S w} : Again ρ S w (.v e x) := ⟨rfl, fun _ _ _ _ u h _ => by
  simp only [Slot.ok] at h ⊢
  obtain ⟨cs, h1, h2⟩ := h
  exact ⟨cs, FlatE.flat h1, h2⟩⟩
theorem Again.cp {α : Type} {e : Enc α} {x : α} {b off : Nat} {ρ S w} (h : (Slot.v (Enc.cp b off e) x).ok ρ S w (.pointer (some ⟨b, off, none⟩))) : Again ρ S w (.v (Enc.cp b off e) x) := ⟨rfl, fun _ _ _ _ u h1 k => by
  simp only [Slot.ok] at h h1 ⊢
  obtain ⟨rfl, _⟩ := val_cp.1 h1
  exact Enc.val_mono h k⟩
inductive AgainL (ρ : Nat → LV) (S : Nat → Prop) (w : World) : List (Nat × Slot) → Prop
  | nil : AgainL ρ S w []
  | cons {t : Nat} {s : Slot} {g : List (Nat × Slot)} : Again ρ S w s → AgainL ρ S w g → AgainL ρ S w ((t, s) :: g)
theorem AgainL.spec {ρ S w} {g : List (Nat × Slot)} (h : AgainL ρ S w g) : ∀ t s, lk g t = some s → Again ρ S w s := by
  induction h with
  | nil => intro t s h; simp [lk] at h
  | cons h1 _ ih =>
    intro t s h
    rw [lk_cons] at h
    split at h
    · cases h; exact h1
    · exact ih t s h
/-- slots that are among others -/
inductive SubS (g : List (Nat × Slot)) : List (Nat × Slot) → Prop
  | nil : SubS g []
  | cons {t : Nat} {s : Slot} {g' : List (Nat × Slot)} : lk g t = some s → SubS g g' → SubS g ((t, s) :: g')
theorem SubS.spec {g g' : List (Nat × Slot)} (h : SubS g g') : ∀ t s, lk g' t = some s → lk g t = some s := by
  induction h with
  | nil => intro t s h; simp [lk] at h
  | cons h1 _ ih =>
    intro t s h
    rw [lk_cons] at h
    split at h
    · rename_i he; subst he; cases h; exact h1
    · exact ih t s h
theorem Sub.keepS {F : Frm} {σ : AS} {g' : List (Nat × Slot)} (h : SubS σ.g g') : Sub F σ ⟨g', σ.d⟩ := fun a w ⟨⟨ρ, hc, hs⟩, hz, hd⟩ => ⟨⟨ρ, hc, fun t s ht => hs t s (h.spec t s ht)⟩, hz, hd⟩
theorem Sub.keepE {F : Frm} {σ : AS} {g' : List (Nat × Slot)} (hd : σ.d = []) (h : SubS σ.g g') : Sub F σ ⟨g', []⟩ := by rw [← hd]; exact Sub.keepS h
section
variable {P : Program} {N : Nat} {S : Nat → Prop} {w : World} {ρ : Nat → LV} {l : Nat} {J : Nat → World → Prop} {Jx : World → Prop} {items : List (List Slot)}

theorem Its.ext (I : Its P S w ρ l J Jx items) {k : Nat} {W : World} (h : J k W) : Ext S (SW S w.heap.size W) w W := by
  obtain ⟨h1, h2⟩ := I.keep k W h
  exact ⟨h1, fun b hb hn => ⟨h2 b hb hn, by rintro (h | h); exact hn h; omega⟩⟩
theorem Core.none {F : Frm} {ρ : Nat → LV} (hl : ∀ k, F.S0 k → k < F.w0.heap.size) : Core F [] ρ F.w0 :=
  ⟨hl, Nat.le_refl _, fun _ _ _ => rfl, rfl, rfl, rfl, fun i en h => by simp [lkE] at h, fun i en b h => by simp [lkE] at h, fun i j en en' b h => by simp [lkE] at h, fun i en b h => by simp [lkE] at h⟩
theorem Un.none {S : Nat → Prop} {ρ : Nat → LV} : Un S ρ [] = S := by
  funext k; refine propext ⟨fun h => ?_, .inl⟩
  rcases h with h | ⟨i, en, h, _⟩
  · exact h
  · simp [lkE] at h
theorem Core.belowN {F : Frm} (hR : ∀ k, ¬ F.R k) {d : List (Nat × Ent)} {ρ : Nat → LV} {W : World} (hc : Core F d ρ W) : Below F.w0.heap.size F.w0 W := ⟨hc.os, hc.tape, hc.output, hc.size, fun k hk => hc.frame k hk (hR k)⟩
/-- slots told in a frame that begins here -/
theorem Its.start (I : Its P S w ρ l J Jx items) {k : Nat} {W : World} (hJ : J k W) {g : List (Nat × Slot)} (hg : AgainL ρ S w g) {ρ1 : Nat → LV} {S1 : Nat → Prop} {W1 : World} {a : Act} (hs : ∀ t s, lk g t = some s → s.ok ρ1 S1 W1 (a.tmps.getD t undef)) (hz : a.tmps.size = N) (hd : a.defers = []) :
    St (FW P N S w.heap.size W) ⟨g, []⟩ a W := by
  refine ⟨⟨ρ, Core.none (F := FW P N S w.heap.size W) (fun k h => ?_), fun t s ht => ?_⟩, hz, hd⟩
  · show k < W.heap.size
    rcases h with h | h
    · have := I.low k h; have := (I.keep _ W hJ).1; omega
    · exact h.2
  · obtain ⟨h1, h2⟩ := hg.spec t s ht
    rw [Un.none]
    refine h2 S1 W1 _ W _ (Slot.ok_mono s _ (hs t s ht) (Ext.refl _ _) (fun i hi => ?_)) (I.ext hJ)
    rw [h1] at hi; simp at hi
/-- how a round of an iterator ends -/
def IQ (N : Nat) (J : Nat → World → Prop) (m : Nat) (gs : Nat → List (Nat × Slot)) (Q : Exit → Act → World → Prop) (k : Nat) : Exit → Act → World → Prop
  | .normal, a, W' => k < m ∧ J (k + 1) W' ∧ ∃ F', F'.N = N ∧ F'.df = [] ∧ St F' ⟨gs (k + 1), []⟩ a W'
  | e, a, W' => Q e a W'
/-- the rounds of an iterator -/
theorem W.iloop {c : Code} {cs : List Code} {Q : Exit → Act → World → Prop} (I : Its P S w ρ l J Jx items) {W0 : World} {σ : AS} (gs : Nat → List (Nat × Slot)) (hg : ∀ k, AgainL ρ S w (gs k)) (h0 : Sub (FW P N S w.heap.size W0) σ ⟨gs 0, []⟩) (hJ0 : J 0 W0)
    (h : ∀ k V, J k V → k ≤ items.length → Sw.W (FW P N S w.heap.size V) [c] ⟨gs k, []⟩ (IQ N J items.length gs Q k)) : Sw.W (FW P N S w.heap.size W0) (.loop c :: cs) σ Q := by
  intro a wc hst
  obtain ⟨⟨ρ1, hc1, hs1⟩, hz1, hd1⟩ := h0 a wc hst
  have hJc : J 0 wc := I.below 0 W0 wc hJ0 (hc1.belowN (fun _ h => h))
  have hst0 := I.start (N := N) hJc (hg 0) hs1 hz1 hd1
  let rel : Act → World → Nat → Prop := fun a V m => ∃ k, k + m = items.length ∧ J k V ∧ St (FW P N S w.heap.size V) ⟨gs k, []⟩ a V
  have hw : ∀ a V, (∃ m, rel a V m) → ∃ m, rel a V m ∧ ∀ k, rel a V k → m ≤ k := by
    rintro a V ⟨m, hm⟩
    induction m using Nat.strongRecOn with
    | _ m ih =>
      by_cases hk : ∃ k, k < m ∧ rel a V k
      · obtain ⟨k, h1, h2⟩ := hk; exact ih k h1 h2
      · exact ⟨m, hm, fun k hr => Nat.le_of_not_lt fun hlt => hk ⟨k, hlt, hr⟩⟩
  classical
  let μ : Act → World → Nat := fun a V => if hI : ∃ m, rel a V m then Classical.choose (hw a V hI) else 0
  have hμ : ∀ a V (hI : ∃ m, rel a V m), rel a V (μ a V) ∧ ∀ k, rel a V k → μ a V ≤ k := by
    intro a V hI
    have := Classical.choose_spec (hw a V hI)
    simp only [μ, dif_pos hI]; exact this
  refine wpIn_loop (Q := Exit.then (run Fence.wide P Q cs) Q) (fun a V => ∃ m, rel a V m) μ ⟨items.length, 0, by simp, hJc, hst0⟩ fun a V hI => ?_
  obtain ⟨⟨k, h1, h2, h3⟩, hmin⟩ := hμ a V hI
  have hr := h k V h2 (by omega) a V h3
  refine wpIn_mono (show c.wpIn Fence.wide 0 P _ a V from hr) ?_
  intro e a' V' hq
  cases e <;> simp only [Exit.then, run, IQ] at hq ⊢ <;> try exact hq
  obtain ⟨q1, q2, F', q3, q4, ⟨ρ2, hc2, hs2⟩, q5, q6⟩ := hq
  have hst' := I.start (N := N) q2 (hg (k + 1)) hs2 (by rw [q5, q3]) (by rw [q6, q4])
  have hrel : rel a' V' (items.length - (k + 1)) := ⟨k + 1, by omega, q2, hst'⟩
  refine ⟨⟨_, hrel⟩, ?_⟩
  have := (hμ a' V' ⟨_, hrel⟩).2 _ hrel
  omega

/-- a region that calls yield, and asks what it says -/
theorem W.iyield {cs : List Code} {Q : Exit → Act → World → Prop} (I : Its P S w ρ l J Jx items) {V : World} {k id d d' : Nat} {item : List Slot} {pre : List Oper} {yt : Tmp} {xs : List Operand} {ts : Array TypeId} {ty ty' : TypeId} {p p' : String} {af af' : Array Edge} {T : TypeId}
    {σ σ1 : AS} {g2 : List (Nat × Slot)} (hJ : J k V) (hitem : items[k]? = some item) (hpre : Sw.J (FW P N S w.heap.size V) (pre ++ [(⟨some d, .call ⟨.value (.tmp yt), xs.toArray, ts⟩, ty, p, af, none⟩ : Oper), ⟨some d', .unOp .not T (.tmp d), ty', p', af', none⟩]).toArray pre σ σ1)
    (hy : lk σ1.g yt = some (.v (Enc.cst (.func (.yield l) #[] #[]) rfl) ())) (ha : Args σ1 false xs item) (hil : Slot.labs item = []) (hd1 : σ1.d = []) (hd : Nat.blt d N = true) (hd' : Nat.blt d' N = true) (hag : AgainL ρ S w g2) (hg2 : SubS σ1.g g2)
    (ht : ∀ V', J (k + 1) V' → Sw.W (FW P N S w.heap.size V') cs ⟨(d', .v Enc.bool false) :: (d, .v Enc.bool true) :: g2, []⟩ Q)
    (hf : ∀ V', Jx V' → Sw.W ⟨P, N, fun _ => False, V', fun _ => False, none, []⟩ cs ⟨[(d', .v Enc.bool true)], []⟩ Q) :
    Sw.W (FW P N S w.heap.size V) (.region id (pre ++ [(⟨some d, .call ⟨.value (.tmp yt), xs.toArray, ts⟩, ty, p, af, none⟩ : Oper), ⟨some d', .unOp .not T (.tmp d), ty', p', af', none⟩]).toArray false :: cs) σ Q := by
  intro a wc hst
  refine wpIn_region_lit ?_
  refine hpre _ _ a wc hst fun a1 w1 hst1 => ?_
  obtain ⟨⟨ρ1, hc1, hs1⟩, hz1, hd1'⟩ := hst1
  have hbel : Below V.heap.size V w1 := hc1.belowN (fun _ h => h)
  have hyv := hs1 yt _ hy
  simp only [Slot.ok] at hyv
  have hyv := val_cst.1 hyv
  have K := Know.of_st hc1 hs1 (Op.call ⟨.value (.tmp yt), xs.toArray, ts⟩).operands
  have hus := ha.spec (ys := (Op.call ⟨.value (.tmp yt), xs.toArray, ts⟩).operands) (fun x hx => by simp [Op.operands, Call.operands, hx]) K
  rw [hd1, Un.none] at hus
  have hus' : Slot.okv ρ (SW S w.heap.size V) w1 item (xs.map a1.eval) := Slot.okv_mono _ _ hus (by simp only [Bool.false_eq_true, if_false]; exact Ext.refl _ _) (fun i hi => by rw [hil] at hi; simp at hi)
  obtain ⟨fn, tmps, assign, body, h1, h2⟩ := I.yields k item V w1 _ hitem hJ hbel hus'
  have hrun : (execOp a1.eval ⟨some d, .call ⟨.value (.tmp yt), xs.toArray, ts⟩, ty, p, af, none⟩).run P w1 = .ok (.round l fn tmps assign body) w1 := by
    have e1 : a1.eval (.tmp yt) = .func (.yield l) #[] #[] := hyv
    have e2 : (xs.toArray.map a1.eval) = (xs.map a1.eval).toArray := by simp
    simp only [execOp, resolve, e1]
    simp [go_sem, e2, h1]
  refine wpList_taken (F := FW P N S w.heap.size V) (K := fun v w' => (v = .bool true ∧ J (k + 1) w') ∨ (v = .bool false ∧ Jx w')) (wanted_of (g := σ1.g) (GK.none rfl) (fun t x _ hx => hs1 t _ hx)) (.inr (.inr (.inr ⟨l, fn, tmps, assign, body, w1, hrun, h2.mono ?_⟩))) ?_
  · rintro e w' (⟨rfl, hj⟩ | ⟨rfl, hj⟩)
    · exact ⟨_, rfl, .inl ⟨rfl, hj⟩⟩
    · exact ⟨_, rfl, .inr ⟨rfl, hj⟩⟩
  have hlt : d < a1.tmps.size := by rw [hz1]; exact Nat.le_of_ble_eq_true hd
  rintro v w' (⟨rfl, hj⟩ | ⟨rfl, hj⟩)
  · have hst2 : St (FW P N S w.heap.size w') ⟨(d, .v Enc.bool true) :: g2, []⟩ (a1.put (some d) (.bool true)) w' := by
      refine ⟨⟨ρ, Core.none (F := FW P N S w.heap.size w') (fun q h => ?_), fun t s hts => ?_⟩, by rw [Act.size_put, hz1], hd1'⟩
      · show q < w'.heap.size
        rcases h with h | h
        · have := I.low q h; have := (I.keep _ w' hj).1; omega
        · exact h.2
      · rw [lk_cons] at hts
        rw [Act.getD_put a1 d _ t hlt]
        split at hts
        · rename_i he; cases hts; rw [if_pos he]; exact bool_ok true _ _ _
        · rename_i he
          rw [if_neg he, Un.none]
          obtain ⟨k1, k2⟩ := hag.spec t s hts
          refine k2 _ w1 _ w' _ (Slot.ok_mono s _ (hs1 t s (hg2.spec t s hts)) (Ext.refl _ _) (fun i hi => ?_)) (I.ext hj)
          rw [k1] at hi; simp at hi
    have hJ2 : Sw.J (FW P N S w.heap.size w') (pre ++ [(⟨some d, .call ⟨.value (.tmp yt), xs.toArray, ts⟩, ty, p, af, none⟩ : Oper), ⟨some d', .unOp .not T (.tmp d), ty', p', af', none⟩]).toArray [(⟨some d', .unOp .not T (.tmp d), ty', p', af', none⟩ : Oper)] ⟨(d, .v Enc.bool true) :: g2, []⟩ ⟨(d', .v Enc.bool false) :: (d, .v Enc.bool true) :: g2, []⟩ :=
      Sw.J.cons (GK.none rfl) (JO.not (b := true) (by simp [evS, lk])) rfl hd' Sw.J.nil
    have := hJ2 (Exit.then (run Fence.wide P Q cs) Q) [] _ w' hst2 (fun a2 w2 h2 => wpListIn_nil (show run Fence.wide P Q cs a2 w2 from ht w' hj a2 w2 h2))
    exact this
  · have hst2 : St ⟨P, N, fun _ => False, w', fun _ => False, none, []⟩ ⟨[(d, .v Enc.bool false)], []⟩ (a1.put (some d) (.bool false)) w' := by
      refine ⟨⟨ρ, Core.none (F := ⟨P, N, fun _ => False, w', fun _ => False, none, []⟩) (fun q h => h.elim), fun t s hts => ?_⟩, by rw [Act.size_put, hz1], hd1'⟩
      rw [lk_cons] at hts
      rw [Act.getD_put a1 d _ t hlt]
      split at hts
      · rename_i he; cases hts; rw [if_pos he]; exact bool_ok false _ _ _
      · simp [lk] at hts
    have hJ2 : Sw.J ⟨P, N, fun _ => False, w', fun _ => False, none, []⟩ (pre ++ [(⟨some d, .call ⟨.value (.tmp yt), xs.toArray, ts⟩, ty, p, af, none⟩ : Oper), ⟨some d', .unOp .not T (.tmp d), ty', p', af', none⟩]).toArray [(⟨some d', .unOp .not T (.tmp d), ty', p', af', none⟩ : Oper)] ⟨[(d, .v Enc.bool false)], []⟩ ⟨[(d', .v Enc.bool true)], []⟩ :=
      Sw.J.cons (GK.none rfl) (JO.not (b := false) (by simp [evS, lk])) rfl hd' (Sw.J.fin (Sub.keepS (.cons (by simp [lk, AS.put]) .nil)))
    have := hJ2 (Exit.then (run Fence.wide P Q cs) Q) [] _ w' hst2 (fun a2 w2 h2 => wpListIn_nil (show run Fence.wide P Q cs a2 w2 from hf w' hj a2 w2 h2))
    exact this
/-- how an iterator ends -/
def RetI (P : Program) (fn : Func) (J : Nat → World → Prop) (Jx : World → Prop) (m : Nat) : Exit → Act → World → Prop := bodyPost P fn fun e w' => (∃ v, e = .returned v) ∧ (J m w' ∨ Jx w')
theorem RetI.of {fn : Func} {m : Nat} (hrs : fn.results = #[]) {e : Exit} (he : e = .normal ∨ e = .ret) {a : Act} {V : World} (hd : a.defers = []) (h : J m V ∨ Jx V) : RetI P fn J Jx m e a V := by
  have h1 : a.defers = [] ∧ ∃ v, (results fn a.tmps).run P V = .ok v V ∧ ((∃ u, Ending.returned v = .returned u) ∧ (J m V ∨ Jx V)) := ⟨hd, _, results0 hrs, ⟨_, rfl⟩, h⟩
  rcases he with rfl | rfl <;> exact h1
theorem W.inext {gs : Nat → List (Nat × Slot)} {Q : Exit → Act → World → Prop} (I : Its P S w ρ l J Jx items) {k : Nat} {V : World} {σ : AS} (hJ : J (k + 1) V) (hk : k < items.length) (h : Sub (FW P N S w.heap.size V) σ ⟨gs (k + 1), []⟩) : Sw.W (FW P N S w.heap.size V) [] σ (IQ N J items.length gs Q k) := by
  intro a w' hst
  have hst' := h a w' hst
  obtain ⟨ρ1, hc, _⟩ := hst'.core
  exact ⟨hk, I.below _ V w' hJ (hc.belowN (fun _ h => h)), _, rfl, rfl, hst'⟩
theorem W.iend {fn : Func} {gs : Nat → List (Nat × Slot)} {k : Nat} {id : Nat} {Q' : Exit → Act → World → Prop} (I : Its P S w ρ l J Jx items) (hrs : fn.results = #[]) {V : World} {σ : AS} (hJ : J k V) (hk : k = items.length) (hQ : ∀ a V', RetI P fn J Jx items.length .normal a V' → Q' (.exit id) a V') : XQ (FW P N S w.heap.size V) σ (IQ N J items.length gs Q' k) (.exit id) := by
  intro a w' hst
  obtain ⟨ρ1, hc, _⟩ := hst.core
  exact hQ a w' (RetI.of hrs (.inl rfl) hst.defers (.inl (hk ▸ I.below _ V w' hJ (hc.belowN (fun _ h => h)))))
theorem W.istop {fn : Func} {Q' : Exit → Act → World → Prop} (I : Its P S w ρ l J Jx items) (hrs : fn.results = #[]) {V : World} {σ : AS} (hJ : Jx V) (hQ : ∀ a V', RetI P fn J Jx items.length .ret a V' → Q' .ret a V') : XQ ⟨P, N, fun _ => False, V, fun _ => False, none, []⟩ σ Q' .ret := by
  intro a w' hst
  obtain ⟨ρ1, hc, _⟩ := hst.core
  exact hQ a w' (RetI.of hrs (.inr rfl) hst.defers (.inr (I.belowx V w' hJ (hc.belowN (fun _ h => h)))))
end
/-- an iterator's contract from its walk: its captured variables are boxes -/
theorem IterC.of0 {P : Program} {f : FuncId} {fn : Func} {c : Code} {N : Nat} {cap : List Slot} {items : List (List Slot)} {X : Type}
    (hf : P.funcs[f]? = some fn) (hb : fn.body = some c) (hN : fn.ntmps = N) (hle : Nat.ble (cap.length + 1) N = true) (us : X → List Value) (gx : X → List (Nat × Slot))
    (hcap : ∀ (ρ : Nat → LV) (S : Nat → Prop) (w : World) (vs : List Value), Slot.okv ρ S w cap vs → ∃ x, vs = us x ∧ AgainL ρ S w (gx x) ∧ ∀ t s, lk (gx x) t = some s → ∃ j u, t = j + 1 ∧ vs[j]? = some u ∧ s.ok ρ S w u)
    (h : ∀ S w ρ l J Jx x, Its P S w ρ l J Jx items → J 0 w → AgainL ρ S w (gx x) → W (FW P N S w.heap.size w) [c] ⟨(0, .v (Enc.cst (.func (.yield l) #[] #[]) rfl) ()) :: gx x, []⟩ (RetI P fn J Jx items.length)) : IterC P f cap items := by
  intro S w vs ρ l J Jx hlow hv hJ0 hkeep hbelow hbelx hY
  have I : Its P S w ρ l J Jx items := ⟨hlow, hkeep, hbelow, hbelx, hY⟩
  obtain ⟨x, hvs, hag, hsl⟩ := hcap ρ S w vs hv
  refine calls_of_wp hf hb ?_
  have hl := okv_len hv
  have hle := Nat.le_of_ble_eq_true hle
  have hst : St (FW P N S w.heap.size w) ⟨(0, .v (Enc.cst (.func (.yield l) #[] #[]) rfl) ()) :: gx x, []⟩ { tmps := (.func (.yield l) #[] #[] :: vs).toArray ++ Array.replicate (fn.ntmps - (Value.func (.yield l) #[] #[] :: vs).toArray.size) undef, defers := [] } w := by
    have hagx : AgainL ρ S w ((0, .v (Enc.cst (.func (.yield l) #[] #[]) rfl) ()) :: gx x) := .cons (@Again.flat _ (Enc.cst (.func (.yield l) #[] #[]) rfl) ⟨fun h => h⟩ _ _ _ _) hag
    refine I.start (N := N) hJ0 hagx (ρ1 := ρ) (S1 := S) (W1 := w) (fun t s ht => ?_) ?_ rfl
    · rw [lk_cons] at ht
      split at ht
      · rename_i he; subst he; cases ht
        simp only [Slot.ok]
        refine val_cst.2 ?_
        simp [Array.getD_eq_getD_getElem?, Array.getElem?_append]
      · obtain ⟨j, u, rfl, h1, h2⟩ := hsl t s ht
        have hj : j < vs.length := by
          rcases Nat.lt_or_ge j vs.length with h | h
          · exact h
          · simp [List.getElem?_eq_none h] at h1
        have : ((Value.func (.yield l) #[] #[] :: vs).toArray ++ Array.replicate (fn.ntmps - (Value.func (.yield l) #[] #[] :: vs).toArray.size) undef).getD (j + 1) undef = u := by
          rw [Array.getD_eq_getD_getElem?, Array.getElem?_append_left (by simpa using hj)]
          simp [h1]
        rw [this]; exact h2
    · simp only [Array.size_append, Array.size_replicate, List.size_toArray, List.length_cons]; omega
  have h1 := h S w ρ l J Jx x I hJ0 hag _ w hst
  have h2 : c.wpIn Fence.wide 0 P (Exit.then (run Fence.wide P (RetI P fn J Jx items.length) []) (RetI P fn J Jx items.length)) _ w := h1
  refine wpIn_wide.1 (wpIn_mono h2 ?_)
  intro e a w' hq
  cases e <;> exact hq
theorem IterC.of2 {P : Program} {f : FuncId} {fn : Func} {c : Code} {N : Nat} {α β : Type} {e : Enc α} {z : α} {e' : Enc β} {z' : β} {items : List (List Slot)}
    (hf : P.funcs[f]? = some fn) (hb : fn.body = some c) (hN : fn.ntmps = N) (hle : Nat.ble 3 N = true)
    (h : ∀ S w ρ l J Jx b off b' off', Its P S w ρ l J Jx items → J 0 w → Again ρ S w (.v (Enc.cp b off e) z) → Again ρ S w (.v (Enc.cp b' off' e') z') → W (FW P N S w.heap.size w) [c] ⟨[(0, .v (Enc.cst (.func (.yield l) #[] #[]) rfl) ()), (1, .v (Enc.cp b off e) z), (2, .v (Enc.cp b' off' e') z')], []⟩ (RetI P fn J Jx items.length)) :
    IterC P f [.pst e z, .pst e' z'] items := by
  refine IterC.of0 (X := (Nat × Nat) × (Nat × Nat)) hf hb hN hle (fun x => [.pointer (some ⟨x.1.1, x.1.2, none⟩), .pointer (some ⟨x.2.1, x.2.2, none⟩)]) (fun x => [(1, .v (Enc.cp x.1.1 x.1.2 e) z), (2, .v (Enc.cp x.2.1 x.2.2 e') z')]) (fun ρ S w vs hv => ?_)
    (fun S w ρ l J Jx x I h0 hag => h S w ρ l J Jx x.1.1 x.1.2 x.2.1 x.2.2 I h0 (hag.spec 1 _ rfl) (hag.spec 2 _ rfl))
  simp only [Slot.okv, Slot.ok] at hv
  obtain ⟨u, vs', rfl, ⟨b, off, ds, rfl, h2, h3, h4, h5⟩, u', vs2, rfl, ⟨b', off', ds', rfl, h2', h3', h4', h5'⟩, rfl⟩ := hv
  have hcp : (Slot.v (Enc.cp b off e) z).ok ρ S w (.pointer (some ⟨b, off, none⟩)) := by simp only [Slot.ok]; exact val_cp.2 ⟨rfl, ds, h2, h3, h4, h5⟩
  have hcp' : (Slot.v (Enc.cp b' off' e') z').ok ρ S w (.pointer (some ⟨b', off', none⟩)) := by simp only [Slot.ok]; exact val_cp.2 ⟨rfl, ds', h2', h3', h4', h5'⟩
  refine ⟨((b, off), (b', off')), rfl, .cons (.cp hcp) (.cons (.cp hcp') .nil), fun t s ht => ?_⟩
  rw [lk_cons] at ht
  split at ht
  · rename_i he; cases ht; exact ⟨0, _, he.symm, rfl, hcp⟩
  · rw [lk_cons] at ht
    split at ht
    · rename_i he; cases ht; exact ⟨1, _, he.symm, rfl, hcp'⟩
    · simp [lk] at ht

/-- pieces of n -/
def chunks {α : Type} (n : Nat) (xs : List α) : List (List α) := (List.range ((xs.length + n - 1) / n)).map fun k => (xs.drop (k * n)).take n
theorem chunks_len {α : Type} {n : Nat} (hn : 1 ≤ n) (xs : List α) {k : Nat} : k < (chunks n xs).length ↔ k * n < xs.length := by
  simp only [chunks, List.length_map, List.length_range]
  rw [Nat.lt_div_iff_mul_lt (by omega)]
  omega
theorem chunks_get {α : Type} {n : Nat} (hn : 1 ≤ n) {xs : List α} {k : Nat} (h : k * n < xs.length) : (chunks n xs)[k]? = some ((xs.drop (k * n)).take n) := by
  have := (chunks_len hn xs).2 h
  simp only [chunks, List.length_map, List.length_range] at this
  simp [chunks, this]
theorem chunk_facts {α : Type} {xs : List α} {n : Int} (hn : 1 ≤ n) (hn2 : n ≤ 4294967296) (hlen : (xs.length : Int) ≤ 4294967296) {k : Nat} (h : (k : Int) * n < xs.length) :
    k * n.toNat < xs.length ∧ sub xs (k * n) xs.length = some (xs.drop (k * n.toNat)) ∧
    sub xs (k * n) (ar .add .i64 (k * n) (min n ((xs.drop (k * n.toNat)).length : Int))) = some ((xs.drop (k * n.toNat)).take n.toNat) ∧
    (ar .add .i64 (k * n) (min n ((xs.drop (k * n.toNat)).length : Int)) ≤ ar .add .i64 (k * n) (min n ((xs.drop (k * n.toNat)).length : Int)) ∧ ar .add .i64 (k * n) (min n ((xs.drop (k * n.toNat)).length : Int)) ≤ xs.length) ∧ ar .add .i64 (k * n) n = ((k + 1 : Nat) : Int) * n := by
  obtain ⟨m, rfl⟩ : ∃ m : Nat, n = m := ⟨n.toNat, by omega⟩
  have hk0 : (0 : Int) ≤ (k : Int) * m := Int.mul_nonneg (by omega) (by omega)
  have hkm : ((k : Int) * m) = ((k * m : Nat) : Int) := by push_cast; rfl
  have hklt : k * m < xs.length := by rw [hkm] at h; exact_mod_cast h
  have hdl : (xs.drop (k * m)).length = xs.length - k * m := List.length_drop ..
  have hadd : ∀ x : Int, 0 ≤ x → x ≤ 4294967296 → ar .add .i64 (k * m) x = k * m + x := by
    intro x h0 h1
    unfold ar
    refine wrap_id ?_
    unfold inK
    have h1' : IntKind.min .i64 = -9223372036854775808 := by decide
    have h2' : IntKind.max .i64 = 9223372036854775807 := by decide
    rw [h1', h2']
    omega
  simp only [Int.toNat_natCast]
  have hmin : (0 : Int) ≤ min (m : Int) ((xs.drop (k * m)).length : Int) := by omega
  have hmin2 : min (m : Int) ((xs.drop (k * m)).length : Int) ≤ 4294967296 := by omega
  rw [hadd _ hmin hmin2, hadd _ (by omega) hn2]
  refine ⟨hklt, ?_, ?_, ⟨Int.le_refl _, by rw [hdl]; omega⟩, by push_cast; rw [Int.add_mul, Int.one_mul]⟩
  · unfold sub
    rw [if_pos ⟨hk0, by omega, Int.le_refl _⟩, hkm, Int.toNat_natCast, Int.toNat_natCast, List.take_length]
  · unfold sub
    rw [if_pos ⟨hk0, by omega, by rw [hdl]; omega⟩]
    have e1 : ((k : Int) * m).toNat = k * m := by omega
    have e2 : ((k : Int) * m + min (m : Int) ((xs.drop (k * m)).length : Int)).toNat = k * m + min m (xs.drop (k * m)).length := by omega
    rw [e1, e2, List.drop_take]
    congr 1
    rw [Nat.add_sub_cancel_left, ← List.take_take, List.take_length]
/-- from the last one to the first one, with their numbers -/
def backs {α : Type} (xs : List α) : List (Int × α) := (xs.zipIdx.map fun x => ((x.2 : Int), x.1)).reverse
end Go.Sw

namespace Go.Sw
open Go Go.RowKit
section
variable {F : Frm} {σ : AS} {pb : Option Nat} {s : Slot} {d : Option Tmp} {ty : TypeId} {p : String} {af : Array Edge} {gd : Option (Nat × Bool)} {x y z : Operand}
theorem JO.allocN {T : TypeId} {zv : Value} {cs : List Value} {l : List Slot} {new : List (Nat × Ent)} (i : Nat) (hz : ∀ w, (zeroValue T).run F.P w = .ok zv w) (hc : zv.cells = cs.toArray) (hl : ZrN cs l new) (hn : NilN new) (hf : σ.free new = true) (hlab : (Slot.labs l).all (fun j => !Nat.beq j i) = true) :
    JO F ⟨d, .alloc T, ty, p, af, gd⟩ σ (.ptr i 0) ((i, .box T l) :: new) := by
  intro ρ S a w K
  obtain ⟨ρ', h1, h2, K', h3, h4⟩ := nil_res hn hf K
  refine OpWp.value (w' := w.alloc (.cells cs.toArray T)) (v := .pointer (some ⟨w.heap.size, 0, none⟩)) (by simp [execOp, Instr.alloc, hz, run_newVar, hc]) ?_
  obtain ⟨ρ2, k1, k2, k3, k4⟩ := Res.box (ρ := ρ') (S := S) (w := w) (T := T) i (hl ρ' S w h2) hlab
  have hne : ∀ j, j ≠ i → ρ2 j = ρ' j := fun j hj => k1 j (by rw [lkE_cons, if_neg (Ne.symm hj)]; rfl)
  have hnil : ∀ j en, j ≠ i → lkE new j = some en → ρ2 j = .of (.slice none 0 0) := fun j en hj h => by rw [hne j hj, h2 j en h]
  have hU : Un S ρ2 ((i, .box T l) :: new) = Un S ρ2 [(i, .box T l)] := by
    funext k
    refine propext ⟨fun h => ?_, fun h => ?_⟩
    · rcases h with h | ⟨j, en, h5, h6⟩
      · exact .inl h
      · by_cases hj : j = i
        · subst hj; exact .inr ⟨j, .box T l, by simp [lkE], h6⟩
        · rw [lkE_cons, if_neg (Ne.symm hj)] at h5
          rw [hnil j en hj h5] at h6; simp [Has_of, blk] at h6
    · rcases h with h | ⟨j, en, h5, h6⟩
      · exact .inl h
      · rw [lkE_cons] at h5
        split at h5
        · rename_i hj; subst hj; exact .inr ⟨i, .box T l, by simp [lkE], h6⟩
        · simp [lkE] at h5
  refine ⟨ρ2, fun j hj => ?_, k2, ?_, ?_, ?_, ?_⟩
  · rw [lkE_cons] at hj
    split at hj
    · cases hj
    · rename_i hji
      rw [hne j (Ne.symm hji)]; exact h1 j hj
  · rw [hU]; exact k3
  · intro j en hj
    rw [hU]
    rw [lkE_cons] at hj
    split at hj
    · rename_i hji; subst hji; cases hj; exact k4.own _ _ (by rw [lkE_cons, if_pos rfl])
    · rename_i hji
      rw [hnil j en (Ne.symm hji) hj]; exact hn.spec j en hj _ _ _
  · intro j en b hj hb
    rw [lkE_cons] at hj
    split at hj
    · rename_i hji; subst hji; cases hj; exact k4.fresh _ _ b (by rw [lkE_cons, if_pos rfl]) hb
    · rename_i hji
      rw [hnil j en (Ne.symm hji) hj] at hb; simp [Has_of, blk] at hb
  · intro j j' en en' b hj hj' hb hb'
    rw [lkE_cons] at hj hj'
    split at hj
    · rename_i hji; subst hji
      split at hj'
      · rename_i hji'; exact hji'
      · rename_i hji'; rw [hnil j' en' (Ne.symm hji') hj'] at hb'; simp [Has_of, blk] at hb'
    · rename_i hji; rw [hnil j en (Ne.symm hji) hj] at hb; simp [Has_of, blk] at hb

/-! ### an empty slice literal, and what is appended to it -/
def Enc.emp {α : Type} (_e : Enc α) : Enc Unit where
  n := 1
  agg := false
  ok _ _ _ cs := ∃ a, cs = [.slice a 0 0]
  len h := by obtain ⟨a, h⟩ := h; rw [h]; rfl
  one _ := rfl
  cell h c hc := by obtain ⟨a, h⟩ := h; rw [h] at hc; simp at hc; subst hc; rfl
  mono h _ := h
/-! ### parts of elements -/
/-- a part of what lies at a place, and what that comes to with another part -/
def Lns {α β : Type} (e : Enc α) (z : α) (off : Nat) (e' : Enc β) (z' : β) (u : β → α) : Prop := ∀ S w cs, e.ok z S w cs → ∃ a c d, cs = a ++ (c ++ d) ∧ a.length = off ∧ e'.ok z' S w c ∧ ∀ z2 c2, e'.ok z2 S w c2 → e.ok (u z2) S w (a ++ (c2 ++ d))
theorem Lns.here {α : Type} {e : Enc α} {z : α} : Lns e z 0 e z (fun y => y) := fun S w cs h => ⟨[], cs, [], by simp, rfl, h, fun z2 c2 h2 => by simpa using h2⟩
theorem Lns.fst {α β γ : Type} {a : Enc α} {b : Enc β} {e' : Enc γ} {z : α × β} {z' : γ} {off : Nat} {u : γ → α} (h : Lns a z.1 off e' z' u) : Lns (Enc.pr a b) z off e' z' (fun y => (u y, z.2)) := by
  rintro S w cs ⟨c, d, rfl, h1, h2⟩
  obtain ⟨a', c', d', rfl, k2, k3, k4⟩ := h S w c h1
  exact ⟨a', c', d' ++ d, by simp, k2, k3, fun z2 c2 h3 => ⟨a' ++ (c2 ++ d'), d, by simp, k4 z2 c2 h3, h2⟩⟩
theorem Lns.snd {α β γ : Type} {a : Enc α} {b : Enc β} {e' : Enc γ} {z : α × β} {z' : γ} {off : Nat} {u : γ → β} (h : Lns b z.2 off e' z' u) : Lns (Enc.pr a b) z (a.n + off) e' z' (fun y => (z.1, u y)) := by
  rintro S w cs ⟨c, d, rfl, h1, h2⟩
  obtain ⟨a', c', d', rfl, k2, k3, k4⟩ := h S w d h2
  exact ⟨c ++ a', c', d', by simp, by rw [List.length_append, a.len h1, k2], k3, fun z2 c2 h3 => ⟨c, a' ++ (c2 ++ d'), by simp, h1, k4 z2 c2 h3⟩⟩
theorem Lns.one1 {α γ : Type} {a : Enc α} {e' : Enc γ} {z : α} {z' : γ} {off : Nat} {u : γ → α} (h : Lns a z off e' z' u) : Lns (Enc.one1 a) z off e' z' u := h
theorem Lns.arr {α γ : Type} {m k : Nat} {e : Enc α} {e' : Enc γ} {zs : List α} {y : α} {z' : γ} {off : Nat} {u : γ → α} (hk : zs[k]? = some y) (h : Lns e y off e' z' u) : Lns (Enc.arr m e) zs (k * e.n + off) e' z' (fun v => zs.set k (u v)) := by
  rintro S w cs ⟨hm, h1⟩
  obtain ⟨a', c', b', rfl, hl, hc, hset⟩ := Enc.okL_get h1 hk
  obtain ⟨a2, c2, d2, rfl, k2, k3, k4⟩ := h S w c' hc
  exact ⟨a' ++ a2, c2, d2 ++ b', by simp, by rw [List.length_append, hl, k2], k3, fun z2 c3 h3 => ⟨by simp [hm], by have := hset _ _ (k4 z2 c3 h3); simpa using this⟩⟩
theorem Prj.arr {α γ : Type} {m k : Nat} {e : Enc α} {e' : Enc γ} {zs : List α} {y : α} {z' : γ} {off : Nat} (hk : zs[k]? = some y) (h : Prj e y off e' z') : Prj (Enc.arr m e) zs (k * e.n + off) e' z' := by
  rintro S w cs ⟨_, h1⟩
  obtain ⟨a', c', b', rfl, hl, hc, _⟩ := Enc.okL_get h1 hk
  obtain ⟨a2, c2, d2, rfl, k2, k3⟩ := h S w c' hc
  exact ⟨a' ++ a2, c2, d2 ++ b', by simp, by rw [List.length_append, hl, k2], k3⟩
/-! ### slices of arrays, copies -/
/-- bounds that an array bears -/
def upto (m : Nat) (hi : Int) : Option Unit := if 0 ≤ hi ∧ hi ≤ m then some () else none
/-- what is copied -/
def cpy {α : Type} (n : Nat) (ys zs : List α) : List α := ys.take n ++ zs.drop (min ys.length n)
/-- a clone of a slice that is not nil -/
theorem clone_f {α : Type} {x : Option α} {r : α} (h : x = some r) : (x.bind fun v => some v) = some r := by rw [h]; rfl
end
end Go.Sw

namespace Go.Sw
open Go
end Go.Sw

namespace Go.Sw
open Go Go.RowKit
section
variable {F : Frm} {σ : AS} {x y : Operand} {d : Option Tmp} {ty : TypeId} {p : String} {af : Array Edge} {gd : Option (Nat × Bool)}
end
end Go.Sw

namespace Go.Sw
open Go
theorem JO.pack {F : Frm} {σ : AS} {o : Oper} {l : List Slot} {new : List (Nat × Ent)} {α : Type} {e : Enc α} {z : α} (h : JO F o σ (.agg l) new) (hs : Spl l e z) (ha : e.agg = true) : JO F o σ (.v e z) new := by
  intro ρ S a w K
  refine (h ρ S a w K).mono ?_
  rintro v w' ⟨ρ', h1, h2, h3, h4⟩
  refine ⟨ρ', h1, h2, ?_, h4⟩
  simp only [Slot.ok] at h3 ⊢
  obtain ⟨cs, h5, h6⟩ := h3
  exact ⟨cs, (hs _ _ _ cs).1 h6, by rw [h5]; simp [Enc.pk, ha]⟩
end Go.Sw

namespace Go.Sw
open Go
theorem results5 {P : Program} {fn : Func} {a : Act} {w : World} {r0 r1 r2 r3 r4 : ResultVar} {v0 v1 v2 v3 v4 : Value} (hrs : fn.results = #[r0, r1, r2, r3, r4]) (h0 : (rvSem a r0).run P w = .ok v0 w) (h1 : (rvSem a r1).run P w = .ok v1 w) (h2 : (rvSem a r2).run P w = .ok v2 w) (h3 : (rvSem a r3).run P w = .ok v3 w) (h4 : (rvSem a r4).run P w = .ok v4 w) : (results fn a.tmps).run P w = .ok (.tuple #[v0, v1, v2, v3, v4]) w := by
  rw [results_eq, hrs]
  simp only [List.mapM_toArray, List.mapM_cons, List.mapM_nil, Sem.run_bind, Sem.run_map, h0, h1, h2, h3, h4, Result.andThen_ok, Sem.run_pure]
  simp
section
variable {F F' : Frm} {σ : AS} {fn : Func} {r0 r1 r2 r3 r4 : ResultVar} {s0 s1 s2 s3 s4 : Slot} {new : List (Nat × Ent)}
theorem XQ.ret5 (hF : Fol F F') (hR : ∀ k, ¬ F.R k) (hrs : fn.results = #[r0, r1, r2, r3, r4]) (h0 : RV F σ r0 s0) (h1 : RV F σ r1 s1) (h2 : RV F σ r2 s2) (h3 : RV F σ r3 s3) (h4 : RV F σ r4 s4) (hn : SubE new σ.d) (hcl : closed (.tup [s0, s1, s2, s3, s4]) new = true) : XQ F' σ (RetQ F fn (.tup [s0, s1, s2, s3, s4]) new) .ret :=
  XQ.retK hF fun ρ a w hc hsl => by
    obtain ⟨v0, a0, b0⟩ := h0 ρ a w hc hsl
    obtain ⟨v1, a1, b1⟩ := h1 ρ a w hc hsl
    obtain ⟨v2, a2, b2⟩ := h2 ρ a w hc hsl
    obtain ⟨v3, a3, b3⟩ := h3 ρ a w hc hsl
    obtain ⟨v4, a4, b4⟩ := h4 ρ a w hc hsl
    refine ⟨_, results5 hrs a0 a1 a2 a3 a4, _, rfl, Res.of_core hR hc ?_ hn hcl⟩
    simp only [Slot.ok]
    exact ⟨[v0, v1, v2, v3, v4], rfl, by simp only [Slot.okv]; exact ⟨v0, _, rfl, b0, v1, _, rfl, b1, v2, _, rfl, b2, v3, _, rfl, b3, v4, _, rfl, b4, rfl⟩⟩
end
end Go.Sw

namespace Go.Sw
open Go Go.RowKit

/-- the labels at which an operation looks, by what is known -/
def rdl (g : List (Nat × Slot)) (o : Oper) : List Nat := o.op.operands.toList.flatMap fun x => match evS g x with | some s => s.lab | none => []
/-- what the operation looks at is the same -/
structure Loc (ops : Array Oper) (o : Oper) (σ0 σ : AS) : Prop where
  g : ∀ u ∈ looks ops o, lk σ.g u = lk σ0.g u
  d : ∀ l ∈ rdl σ0.g o, lkE σ.d l = lkE σ0.d l
section
variable {F : Frm} {ops : Array Oper} {o : Oper} {σ0 σ : AS}
theorem Loc.ev (h : Loc ops o σ0 σ) {x : Operand} (hx : x ∈ o.op.operands) : evS σ.g x = evS σ0.g x := by
  cases x with
  | tmp u => exact h.g u (by simp only [looks, List.mem_append, List.mem_flatMap]; exact .inl ⟨_, by simpa using hx, by simp [rd]⟩)
  | const u => rfl
  | global g => rfl
  | func f => rfl
theorem Loc.ent (h : Loc ops o σ0 σ) {x : Operand} {s : Slot} {l : Nat} (hx : x ∈ o.op.operands) (hs : evS σ0.g x = some s) (hl : l ∈ s.lab) : lkE σ.d l = lkE σ0.d l :=
  h.d l (List.mem_flatMap.2 ⟨x, by simpa using hx, by rw [hs]; exact hl⟩)
theorem JO.loc {s : Slot} {new : List (Nat × Ent)} (h : JO F o σ0 s new) (hl : Loc ops o σ0 σ) : JO F o σ s new := fun ρ S a w K =>
  h ρ S a w ⟨K.low, fun x hx s hs => K.slot x hx s (by rw [hl.ev hx]; exact hs), fun x hx s hs i hi en he => K.ent x hx s (by rw [hl.ev hx]; exact hs) i hi en (by rw [hl.ent hx hs hi]; exact he)⟩
theorem gk_loc {b : Bool} (h : GK ops σ0.g o b) (hl : Loc ops o σ0 σ) : GK ops σ.g o b := by
  unfold GK at h ⊢
  split
  · rename_i hg; rw [hg] at h; exact h
  · rename_i j want hg
    rw [hg] at h
    have key : ∀ t, (ops[j]?).bind (·.dst) = some t → lk σ.g t = lk σ0.g t := fun t ht => hl.g t (by simp [looks, hg, ht])
    rcases h with ⟨t, x, h1, h2, h3⟩ | ⟨h0, t, h1, h2⟩
    · exact .inl ⟨t, x, h1, by rw [key t h1]; exact h2, h3⟩
    · exact .inr ⟨h0, t, h1, by rw [key t h1]; exact h2⟩
end
/-- what an operation makes, and at what it looks -/
structure Itm where
  s : Slot
  nw : List (Nat × Ent)
  fr : Bool
  rl : List Nat
/-- operations in the text's order -/
inductive JP2 (F : Frm) (ops : Array Oper) : List Oper → AS → List Itm → AS → Prop
  | nil {σ : AS} : JP2 F ops [] σ [] σ
  | cons {o : Oper} {os : List Oper} {σ σ' : AS} {s : Slot} {new : List (Nat × Ent)} {h : List Itm} : GK ops σ.g o true → JO F o σ s new → dstOk o.dst F.N = true → σ.free new = true →
      JP2 F ops os ⟨gput o.dst s σ.g, new ++ σ.d⟩ h σ' → JP2 F ops (o :: os) σ (⟨s, new, true, rdl σ.g o⟩ :: h) σ'
  | left {o : Oper} {os : List Oper} {σ σ' : AS} {h : List Itm} : GK ops σ.g o false → dstOk o.dst F.N = true → JP2 F ops os ⟨gput o.dst .top σ.g, σ.d⟩ h σ' → JP2 F ops (o :: os) σ (⟨.top, [], true, rdl σ.g o⟩ :: h) σ'
  | st {o : Oper} {os : List Oper} {σ σ' : AS} {l : Nat} {en : Ent} {h : List Itm} : GK ops σ.g o true → o.dst = none → (∀ σ2, Loc ops o σ σ2 → JM F o σ2 ⟨σ2.g, (l, en) :: σ2.d⟩) →
      JP2 F ops os ⟨σ.g, (l, en) :: σ.d⟩ h σ' → JP2 F ops (o :: os) σ (⟨.top, [(l, en)], false, rdl σ.g o⟩ :: h) σ'

/-- the marks of what each operation waits for -/
def msOk (ops : Array Oper) (ms : List Nat) : Bool := Nat.beq ms.length ops.size && (List.range ops.size).all fun i => match ops[i]? with
  | none => false
  | some o => Nat.beq (ms.getD i 0) ((deps o).foldl (fun m j => m ||| 1 <<< j ||| ms.getD j 0) 0)
/-- waits for -/
inductive Anc (ops : Array Oper) : Nat → Nat → Prop
  | one {i j : Nat} {o : Oper} : ops[i]? = some o → j ∈ deps o → Anc ops i j
  | up {i k j : Nat} {o : Oper} : ops[i]? = some o → k ∈ deps o → Anc ops k j → Anc ops i j
theorem Anc.down {ops : Array Oper} {L : Nat → Bool} (h : Down ops L) : ∀ {i j : Nat}, Anc ops i j → L i = true → L j = true := by
  intro i j ha
  induction ha with
  | one ho hj => exact fun hi => h _ _ hi ho _ hj
  | up ho hk _ ih => exact fun hi => ih (h _ _ hi ho _ hk)
theorem foldl_or_bit {ms : List Nat} {b : Nat} : ∀ {l : List Nat} {m : Nat}, (l.foldl (fun m j => m ||| 1 <<< j ||| ms.getD j 0) m).testBit b = true → m.testBit b = true ∨ ∃ j ∈ l, j = b ∨ (ms.getD j 0).testBit b = true
  | [], m, h => .inl h
  | j :: l, m, h => by
    rw [List.foldl_cons] at h
    rcases foldl_or_bit (l := l) h with h | ⟨q, hq, h⟩
    · rw [Nat.testBit_or, Nat.testBit_or, Bool.or_eq_true, Bool.or_eq_true] at h
      rcases h with (h | h) | h
      · exact .inl h
      · refine .inr ⟨j, List.mem_cons_self, .inl ?_⟩
        rw [Nat.one_shiftLeft, Nat.testBit_two_pow] at h
        simpa using h
      · exact .inr ⟨j, List.mem_cons_self, .inr h⟩
    · exact .inr ⟨q, List.mem_cons_of_mem _ hq, h⟩
theorem back_dep {ops : Array Oper} (hb : backOk ops = true) {i j : Nat} {o : Oper} (ho : ops[i]? = some o) (hj : j ∈ deps o) : j < i := by
  have hi : i < ops.size := by
    rcases Nat.lt_or_ge i ops.size with h | h
    · exact h
    · simp [Array.getElem?_eq_none h] at ho
  have := List.all_eq_true.1 hb i (List.mem_range.2 hi)
  simp only [ho] at this
  simpa using List.all_eq_true.1 this j hj
theorem ms_spec {ops : Array Oper} {ms : List Nat} (hb : backOk ops = true) (hm : msOk ops ms = true) : ∀ i j, (ms.getD i 0).testBit j = true → Anc ops i j := by
  simp only [msOk, Bool.and_eq_true, List.all_eq_true] at hm
  obtain ⟨hl, hm⟩ := hm
  have hl := Nat.eq_of_beq_eq_true hl
  intro i
  induction i using Nat.strongRecOn with
  | _ i ih =>
    intro j h
    rcases Nat.lt_or_ge i ops.size with hlt | hge
    · have h1 := hm i (List.mem_range.2 hlt)
      have ho : ops[i]? = some ops[i] := Array.getElem?_eq_getElem hlt
      simp only [ho] at h1
      rw [Nat.eq_of_beq_eq_true h1] at h
      rcases foldl_or_bit h with h | ⟨q, hq, rfl | h⟩
      · simp at h
      · exact .one ho hq
      · exact .up ho hq (ih q (back_dep hb ho hq) j h)
    · rw [List.getD_eq_getElem?_getD, List.getElem?_eq_none (by omega)] at h; simp at h
theorem Anc.lt {ops : Array Oper} (hb : backOk ops = true) : ∀ {i j : Nat}, Anc ops i j → j < i := by
  intro i j h
  induction h with
  | one ho hj => exact back_dep hb ho hj
  | up ho hk _ ih => exact Nat.lt_trans ih (back_dep hb ho hk)

/-- the first n operations each write a slot of their own, at which only those look that wait for them; the others wait for all that is ahead of them -/
def drawOk2 (ops : Array Oper) (n : Nat) (ms : List Nat) : Bool :=
  (List.range ops.size).all fun i =>
    match ops[i]? with
    | none => false
    | some o =>
      if i < n then
        (match o.dst with
         | none => true
         | some t => (List.range n).all fun j =>
            match ops[j]? with
            | none => false
            | some o' => (j == i || o'.dst != some t) && (!(looks ops o').contains t || (ms.getD j 0).testBit i || (ms.getD i 0).testBit j))
      else (List.range i).all fun j => (ms.getD i 0).testBit j
/-- what one makes is apart from what the other makes and looks at -/
def aptI (a b : Itm) : Bool := a.nw.all fun x => (!b.rl.contains x.1 && !b.s.lab.contains x.1) && b.nw.all fun y => !Nat.beq y.1 x.1 && !y.2.lab.contains x.1
/-- operations none of which waits for the other are apart -/
def comB (its : List Itm) (ms : List Nat) : Bool :=
  (List.range its.length).all fun i => (List.range its.length).all fun j => Nat.beq i j || (ms.getD j 0).testBit i || (ms.getD i 0).testBit j ||
    (match its[i]?, its[j]? with | some a, some b => aptI a b | _, _ => true)

/-! ### what is known when some are done -/
def gLs (dst : Nat → Option Tmp) (sl : Nat → Slot) (g : List (Nat × Slot)) : Nat → (Nat → Bool) → List (Nat × Slot)
  | 0, _ => g
  | m + 1, L => bif L m then gput (dst m) (sl m) (gLs dst sl g m L) else gLs dst sl g m L
def dLs (nw : Nat → List (Nat × Ent)) (d : List (Nat × Ent)) : Nat → (Nat → Bool) → List (Nat × Ent)
  | 0, _ => d
  | m + 1, L => bif L m then nw m ++ dLs nw d m L else dLs nw d m L
section
variable {dst : Nat → Option Tmp} {sl : Nat → Slot} {g : List (Nat × Slot)} {nw : Nat → List (Nat × Ent)} {d : List (Nat × Ent)}
theorem lk_gput {t : Option Tmp} {s : Slot} {g : List (Nat × Slot)} {u : Nat} : lk (gput t s g) u = if t = some u then some s else lk g u := by
  cases t with
  | none => simp [gput]
  | some t => simp only [gput, lk_cons, Option.some.injEq]
theorem gLs_congr {u : Nat} {L L' : Nat → Bool} : ∀ {m : Nat}, (∀ i, i < m → dst i = some u → L i = L' i) → lk (gLs dst sl g m L) u = lk (gLs dst sl g m L') u
  | 0, _ => rfl
  | m + 1, h => by
    have ih := gLs_congr (m := m) (fun i hi => h i (by omega))
    simp only [gLs]
    by_cases hd : dst m = some u
    · rw [h m (by omega) hd]; cases L' m <;> simp [lk_gput, hd, ih]
    · cases L m <;> cases L' m <;> simp [lk_gput, hd, ih]
theorem gLs_at {u j : Nat} {L : Nat → Bool} (hj : dst j = some u) (hL : L j = true) : ∀ {m : Nat}, j < m → (∀ i, i < m → i ≠ j → dst i ≠ some u) → lk (gLs dst sl g m L) u = some (sl j)
  | 0, h, _ => by omega
  | m + 1, h, hn => by
    simp only [gLs]
    by_cases hm : j = m
    · subst hm; rw [hL]; simp [lk_gput, hj]
    · have ih := gLs_at (m := m) hj hL (by omega) (fun i hi => hn i (by omega))
      have := hn m (by omega) (Ne.symm hm)
      cases L m <;> simp [lk_gput, this, ih]
theorem dLs_congr {l : Nat} {L L' : Nat → Bool} : ∀ {m : Nat}, (∀ i, i < m → lkE (nw i) l ≠ none → L i = L' i) → lkE (dLs nw d m L) l = lkE (dLs nw d m L') l
  | 0, _ => rfl
  | m + 1, h => by
    have ih := dLs_congr (m := m) (fun i hi => h i (by omega))
    simp only [dLs]
    by_cases hd : lkE (nw m) l = none
    · cases L m <;> cases L' m <;> simp [lkE_append, hd, ih]
    · rw [h m (by omega) hd]; cases L' m <;> simp [lkE_append, ih]
theorem dLs_at {l j : Nat} {en : Ent} {L : Nat → Bool} (hj : lkE (nw j) l = some en) (hL : L j = true) : ∀ {m : Nat}, j < m → (∀ i, j < i → i < m → L i = true → lkE (nw i) l = none) → lkE (dLs nw d m L) l = some en
  | 0, h, _ => by omega
  | m + 1, h, hn => by
    simp only [dLs]
    by_cases hm : j = m
    · subst hm; rw [hL]; simp [lkE_append, hj]
    · have ih := dLs_at (m := m) hj hL (by omega) (fun i h1 h2 => hn i h1 (by omega))
      cases hLm : L m with
      | false => simpa using ih
      | true => simp [lkE_append, hn m (by omega) (by omega) hLm, ih]
theorem mem_gLs {y : Nat × Slot} {L : Nat → Bool} : ∀ {m : Nat}, y ∈ gLs dst sl g m L → y ∈ g ∨ ∃ i, i < m ∧ L i = true ∧ y.2 = sl i
  | 0, h => .inl h
  | m + 1, h => by
    simp only [gLs] at h
    cases hL : L m with
    | false =>
      rw [hL] at h
      rcases mem_gLs (m := m) h with h | ⟨i, h1, h2⟩
      · exact .inl h
      · exact .inr ⟨i, by omega, h2⟩
    | true =>
      rw [hL] at h
      simp only [cond_true] at h
      have : y ∈ gLs dst sl g m L ∨ y.2 = sl m := by
        cases hd : dst m with
        | none => rw [hd] at h; exact .inl h
        | some t =>
          rw [hd] at h
          rcases List.mem_cons.1 h with rfl | h
          · exact .inr rfl
          · exact .inl h
      rcases this with h | h
      · rcases mem_gLs (m := m) h with h | ⟨i, h1, h2⟩
        · exact .inl h
        · exact .inr ⟨i, by omega, h2⟩
      · exact .inr ⟨m, by omega, hL, h⟩
theorem mem_dLs {y : Nat × Ent} {L : Nat → Bool} : ∀ {m : Nat}, y ∈ dLs nw d m L → y ∈ d ∨ ∃ i, i < m ∧ L i = true ∧ y ∈ nw i
  | 0, h => .inl h
  | m + 1, h => by
    simp only [dLs] at h
    cases hL : L m with
    | false =>
      rw [hL] at h
      rcases mem_dLs (m := m) h with h | ⟨i, h1, h2⟩
      · exact .inl h
      · exact .inr ⟨i, by omega, h2⟩
    | true =>
      rw [hL] at h
      rcases List.mem_append.1 h with h | h
      · exact .inr ⟨m, by omega, hL, h⟩
      · rcases mem_dLs (m := m) h with h | ⟨i, h1, h2⟩
        · exact .inl h
        · exact .inr ⟨i, by omega, h2⟩
end
theorem St.congr {F : Frm} {σ σ' : AS} {a : Act} {w : World} (hg : ∀ u, lk σ'.g u = lk σ.g u) (hd : ∀ l, lkE σ'.d l = lkE σ.d l) (h : St F σ a w) : St F σ' a w := by
  obtain ⟨⟨ρ, hc, hs⟩, hz, hde⟩ := h
  have hd' : ∀ l en, lkE σ.d l = some en ↔ lkE σ'.d l = some en := fun l en => by rw [hd]
  exact ⟨⟨ρ, hc.congr hd', fun t s ht => by rw [← Un.congr hd']; exact hs t s (by rw [← hg]; exact ht)⟩, hz, hde⟩

section
variable {F : Frm} {ops : Array Oper}
/-- what the i-th operation comes to -/
structure AtI (F : Frm) (ops : Array Oper) (dst : Nat → Option Tmp) (its : Nat → Itm) (σ : AS) (n : Nat) (i : Nat) (o : Oper) : Prop where
  ok : dstOk o.dst F.N = true
  rl : (its i).rl = rdl (gLs dst (fun i => (its i).s) σ.g n (fun k => decide (k < i))) o
  cs : (GK ops (gLs dst (fun i => (its i).s) σ.g n (fun k => decide (k < i))) o true ∧ (its i).fr = true ∧ JO F o ⟨gLs dst (fun i => (its i).s) σ.g n (fun k => decide (k < i)), dLs (fun i => (its i).nw) σ.d n (fun k => decide (k < i))⟩ (its i).s (its i).nw) ∨
    (GK ops (gLs dst (fun i => (its i).s) σ.g n (fun k => decide (k < i))) o false ∧ (its i).fr = true ∧ (its i).s = .top ∧ (its i).nw = []) ∨
    (GK ops (gLs dst (fun i => (its i).s) σ.g n (fun k => decide (k < i))) o true ∧ o.dst = none ∧ (its i).fr = false ∧ ∃ l en, (its i).nw = [(l, en)] ∧
      ∀ σ2, Loc ops o ⟨gLs dst (fun i => (its i).s) σ.g n (fun k => decide (k < i)), dLs (fun i => (its i).nw) σ.d n (fun k => decide (k < i))⟩ σ2 → JM F o σ2 ⟨σ2.g, (l, en) :: σ2.d⟩)
  free : (its i).fr = true → AS.free ⟨gLs dst (fun i => (its i).s) σ.g n (fun k => decide (k < i)), dLs (fun i => (its i).nw) σ.d n (fun k => decide (k < i))⟩ (its i).nw = true

theorem gLs_beyond {dst : Nat → Option Tmp} {sl : Nat → Slot} {g : List (Nat × Slot)} {L : Nat → Bool} {m : Nat} : ∀ {n : Nat}, m ≤ n → (∀ i, m ≤ i → i < n → L i = false) → gLs dst sl g n L = gLs dst sl g m L
  | 0, h, _ => by have : m = 0 := by omega
                  subst this; rfl
  | n + 1, h, hL => by
    rcases Nat.lt_or_ge n m with h1 | h1
    · have : m = n + 1 := by omega
      subst this; rfl
    · simp only [gLs, hL n h1 (by omega), cond_false]; exact gLs_beyond h1 fun i h2 h3 => hL i h2 (by omega)
theorem dLs_beyond {nw : Nat → List (Nat × Ent)} {d : List (Nat × Ent)} {L : Nat → Bool} {m : Nat} : ∀ {n : Nat}, m ≤ n → (∀ i, m ≤ i → i < n → L i = false) → dLs nw d n L = dLs nw d m L
  | 0, h, _ => by have : m = 0 := by omega
                  subst this; rfl
  | n + 1, h, hL => by
    rcases Nat.lt_or_ge n m with h1 | h1
    · have : m = n + 1 := by omega
      subst this; rfl
    · simp only [dLs, hL n h1 (by omega), cond_false]; exact dLs_beyond h1 fun i h2 h3 => hL i h2 (by omega)
/-- the first operation ahead of the others -/
theorem gLs_first {dst : Nat → Option Tmp} {sl : Nat → Slot} {g : List (Nat × Slot)} {L : Nat → Bool} : ∀ {m : Nat}, gLs dst sl g (m + 1) L = gLs (fun i => dst (i + 1)) (fun i => sl (i + 1)) (bif L 0 then gput (dst 0) (sl 0) g else g) m (fun i => L (i + 1))
  | 0 => rfl
  | m + 1 => by rw [gLs, gLs_first (m := m)]; rfl
theorem dLs_first {nw : Nat → List (Nat × Ent)} {d : List (Nat × Ent)} {L : Nat → Bool} : ∀ {m : Nat}, dLs nw d (m + 1) L = dLs (fun i => nw (i + 1)) (bif L 0 then nw 0 ++ d else d) m (fun i => L (i + 1))
  | 0 => rfl
  | m + 1 => by rw [dLs, dLs_first (m := m)]; rfl
theorem JP2.len {os : List Oper} {σ σ' : AS} {h : List Itm} (hp : JP2 F ops os σ h σ') : h.length = os.length := by
  induction hp with
  | nil => rfl
  | cons _ _ _ _ _ ih => simp [ih]
  | left _ _ _ ih => simp [ih]
  | st _ _ _ _ ih => simp [ih]
theorem JP2.at {os : List Oper} {σ σ' : AS} {h : List Itm} (hp : JP2 F ops os σ h σ') :
    σ'.g = gLs (fun i => (os[i]?).bind (·.dst)) (fun i => (h.getD i ⟨.top, [], true, []⟩).s) σ.g os.length (fun _ => true) ∧ σ'.d = dLs (fun i => (h.getD i ⟨.top, [], true, []⟩).nw) σ.d os.length (fun _ => true) ∧
    ∀ i o, os[i]? = some o → AtI F ops (fun i => (os[i]?).bind (·.dst)) (fun i => h.getD i ⟨.top, [], true, []⟩) σ os.length i o := by
  have step : ∀ {o0 : Oper} {os : List Oper} {σ σ' : AS} {h : List Itm} {it : Itm}, 
      (σ'.g = gLs (fun i => (os[i]?).bind (·.dst)) (fun i => (h.getD i ⟨.top, [], true, []⟩).s) (gput o0.dst it.s σ.g) os.length (fun _ => true) ∧ σ'.d = dLs (fun i => (h.getD i ⟨.top, [], true, []⟩).nw) (it.nw ++ σ.d) os.length (fun _ => true) ∧
        ∀ i o, os[i]? = some o → AtI F ops (fun i => (os[i]?).bind (·.dst)) (fun i => h.getD i ⟨.top, [], true, []⟩) ⟨gput o0.dst it.s σ.g, it.nw ++ σ.d⟩ os.length i o) →
      AtI F ops (fun i => ((o0 :: os)[i]?).bind (·.dst)) (fun i => (it :: h).getD i ⟨.top, [], true, []⟩) σ (o0 :: os).length 0 o0 →
      (σ'.g = gLs (fun i => ((o0 :: os)[i]?).bind (·.dst)) (fun i => ((it :: h).getD i ⟨.top, [], true, []⟩).s) σ.g (o0 :: os).length (fun _ => true) ∧ σ'.d = dLs (fun i => ((it :: h).getD i ⟨.top, [], true, []⟩).nw) σ.d (o0 :: os).length (fun _ => true) ∧
        ∀ i o, (o0 :: os)[i]? = some o → AtI F ops (fun i => ((o0 :: os)[i]?).bind (·.dst)) (fun i => (it :: h).getD i ⟨.top, [], true, []⟩) σ (o0 :: os).length i o) := by
    rintro o0 os σ σ' h it ⟨h1, h2, h3⟩ h0
    refine ⟨by rw [h1, List.length_cons, gLs_first]; rfl, by rw [h2, List.length_cons, dLs_first]; rfl, fun i o hi => ?_⟩
    cases i with
    | zero => simp at hi; subst hi; exact h0
    | succ i =>
      have h4 := h3 i o (by simpa using hi)
      have e1 : gLs (fun i => ((o0 :: os)[i]?).bind (·.dst)) (fun i => ((it :: h).getD i ⟨.top, [], true, []⟩).s) σ.g (o0 :: os).length (fun k => decide (k < i + 1)) =
          gLs (fun i => (os[i]?).bind (·.dst)) (fun i => (h.getD i ⟨.top, [], true, []⟩).s) (gput o0.dst it.s σ.g) os.length (fun k => decide (k < i)) := by
        rw [List.length_cons, gLs_first]
        simp
      have e2 : dLs (fun i => ((it :: h).getD i ⟨.top, [], true, []⟩).nw) σ.d (o0 :: os).length (fun k => decide (k < i + 1)) =
          dLs (fun i => (h.getD i ⟨.top, [], true, []⟩).nw) (it.nw ++ σ.d) os.length (fun k => decide (k < i)) := by
        rw [List.length_cons, dLs_first]
        simp
      refine ⟨h4.ok, ?_, ?_, ?_⟩
      · rw [e1]; exact h4.rl
      · rw [e1, e2]; exact h4.cs
      · rw [e1, e2]; exact h4.free
  have z1 : ∀ {o0 : Oper} {os : List Oper} {σ : AS} {h : List Itm} {it : Itm}, gLs (fun i => ((o0 :: os)[i]?).bind (·.dst)) (fun i => ((it :: h).getD i ⟨.top, [], true, []⟩).s) σ.g (o0 :: os).length (fun k => decide (k < 0)) = σ.g := by
    intro o0 os σ h it
    rw [gLs_beyond (m := 0) (Nat.zero_le _) (fun i _ _ => by simp)]; rfl
  have z2 : ∀ {o0 : Oper} {os : List Oper} {σ : AS} {h : List Itm} {it : Itm}, dLs (fun i => ((it :: h).getD i ⟨.top, [], true, []⟩).nw) σ.d (o0 :: os).length (fun k => decide (k < 0)) = σ.d := by
    intro o0 os σ h it
    rw [dLs_beyond (m := 0) (Nat.zero_le _) (fun i _ _ => by simp)]; rfl
  induction hp with
  | nil => exact ⟨rfl, rfl, fun i o h => by simp at h⟩
  | cons g j d hf _ ih =>
    refine step ih ⟨d, ?_, ?_, fun _ => ?_⟩
    · rw [z1]; rfl
    · rw [z1, z2]; exact .inl ⟨g, rfl, j⟩
    · rw [z1, z2]; exact hf
  | left g d _ ih =>
    refine step ih ⟨d, ?_, ?_, fun _ => ?_⟩
    · rw [z1]; rfl
    · rw [z1, z2]; exact .inr (.inl ⟨g, rfl, rfl, rfl⟩)
    · rw [z1, z2]; rfl
  | st g hd hm hp ih =>
    rename_i o os σ σ' l en h
    have hg : ∀ (s : Slot) (g : List (Nat × Slot)), gput o.dst s g = g := fun s g => by rw [hd]; rfl
    refine step (it := ⟨.top, [(l, en)], false, rdl σ.g o⟩) (by rw [hg]; exact ih) ⟨by rw [hd]; rfl, ?_, ?_, fun h => by cases h⟩
    · rw [z1]; rfl
    · rw [z1, z2]; exact .inr (.inr ⟨g, hd, rfl, l, en, rfl, hm⟩)

theorem W.dr2 {id : Nat} {ops : Array Oper} {cs : List Code} {σ σ1 σ' : AS} {its : List Itm} {Q : Exit → Act → World → Prop} (n : Nat) (ms : List Nat) (hm : F.P.follows .mixedOrders = true) (hp : JP2 F ops (ops.toList.take n) σ its σ1) (ht : J F ops (ops.toList.drop n) σ1 σ')
    (hn : Nat.ble n ops.size = true) (hbk : backOk ops = true) (hms : msOk ops ms = true) (hok : drawOk2 ops n ms = true) (hcm : comB its ms = true) (k : W F cs σ' Q) : W F (.region id ops true :: cs) σ Q := by
  intro a w hs
  have hn := Nat.le_of_ble_eq_true hn
  obtain ⟨l1, hl1⟩ : ∃ l1, l1 = ops.toList.take n := ⟨_, rfl⟩
  obtain ⟨l2, hl2⟩ : ∃ l2, l2 = ops.toList.drop n := ⟨_, rfl⟩
  rw [← hl1] at hp
  rw [← hl2] at ht
  have hl : ops.toList = l1 ++ l2 := by rw [hl1, hl2]; exact (List.take_append_drop n ops.toList).symm
  have hln : l1.length = n := by rw [hl1, List.length_take, Array.length_toList]; exact Nat.min_eq_left hn
  have hil : its.length = n := by rw [hp.len, hln]
  obtain ⟨s1, d1, hst⟩ := hp.at
  obtain ⟨dst, hdstE⟩ : ∃ dst : Nat → Option Tmp, dst = fun i => (l1[i]?).bind (·.dst) := ⟨_, rfl⟩
  obtain ⟨it, hitE⟩ : ∃ it : Nat → Itm, it = fun i => its.getD i ⟨.top, [], true, []⟩ := ⟨_, rfl⟩
  rw [← hdstE, hln] at hst
  rw [← hitE] at hst
  rw [← hdstE, hln] at s1
  rw [hln] at d1
  have s1 : σ1.g = gLs dst (fun i => (it i).s) σ.g n (fun _ => true) := by rw [s1, hitE]
  have d1 : σ1.d = dLs (fun i => (it i).nw) σ.d n (fun _ => true) := by rw [d1, hitE]
  have hsz : ops.size = l1.length + l2.length := by rw [← Array.length_toList, hl, List.length_append]
  have hget : ∀ i : Nat, ops[i]? = (l1 ++ l2)[i]? := fun i => by rw [← hl]; exact (Array.getElem?_toList).symm
  have hos : ∀ i, i < n → l1[i]? = ops[i]? := fun i hi => by rw [hget, List.getElem?_append_left (by omega)]
  have hdst : ∀ i o, i < n → ops[i]? = some o → dst i = o.dst := fun i o hi ho => by rw [hdstE]; show (l1[i]?).bind _ = _; rw [hos i hi, ho]; rfl
  have hop : ∀ i, i < n → ∃ o, ops[i]? = some o := fun i hi => ⟨ops[i]'(by omega), Array.getElem?_eq_getElem (by omega)⟩
  have hanc := ms_spec hbk hms
  have hat : ∀ i o, i < n → ops[i]? = some o → AtI F ops dst it σ n i o := fun i o hi ho => hst i o (by rw [hos i hi]; exact ho)
  -- two that do not wait for each other
  have hcom : ∀ i j, i < n → j < n → i ≠ j → Anc ops j i ∨ Anc ops i j ∨ aptI (it i) (it j) = true := by
    intro i j hi hj hij
    have h1 := List.all_eq_true.1 (List.all_eq_true.1 hcm i (List.mem_range.2 (by omega))) j (List.mem_range.2 (by omega))
    simp only [Bool.or_eq_true] at h1
    rcases h1 with ((h1 | h1) | h1) | h1
    · exact absurd (Nat.eq_of_beq_eq_true h1) hij
    · exact .inl (hanc _ _ h1)
    · exact .inr (.inl (hanc _ _ h1))
    · refine .inr (.inr ?_)
      have e : ∀ q, q < n → its[q]? = some (it q) := fun q hq => by
        rw [hitE]; simp only [List.getD_eq_getElem?_getD]; rw [List.getElem?_eq_getElem (by omega)]; rfl
      rw [e i hi, e j hj] at h1
      exact h1
  have hapt : ∀ {a b : Itm} {l : Nat}, aptI a b = true → lkE a.nw l ≠ none → l ∉ b.rl ∧ l ∉ b.s.lab ∧ ∀ y ∈ b.nw, y.1 ≠ l ∧ l ∉ y.2.lab := by
    intro a b l h hx
    obtain ⟨e, he⟩ := Option.ne_none_iff_exists'.1 hx
    have := List.all_eq_true.1 h _ (lkE_mem he)
    simp only [Bool.and_eq_true, Bool.not_eq_true', List.all_eq_true] at this
    refine ⟨fun hc => ?_, fun hc => ?_, fun y hy => ⟨fun e => ?_, fun hc => ?_⟩⟩
    · have h2 := this.1.1; simp at h2; exact h2 hc
    · have h2 := this.1.2; simp at h2; exact h2 hc
    · have h2 := (this.2 y hy).1; rw [e] at h2; simp at h2
    · have h2 := (this.2 y hy).2; simp at h2; exact h2 hc
  obtain ⟨σL, hσL⟩ : ∃ σL : (Nat → Bool) → AS, σL = fun L => ⟨gLs dst (fun i => (it i).s) σ.g n L, dLs (fun i => (it i).nw) σ.d n L⟩ := ⟨_, rfl⟩
  have hpure : ∀ i o t, i < n → ops[i]? = some o → o.dst = some t → ∀ j o', j < n → ops[j]? = some o' → (j = i ∨ o'.dst ≠ some t) ∧ (t ∈ looks ops o' → Anc ops j i ∨ Anc ops i j) := by
    intro i o t hi ho hd j o' hj ho'
    have h1 := List.all_eq_true.1 hok i (List.mem_range.2 (by omega))
    simp only [ho, if_pos hi, hd] at h1
    have h2 := List.all_eq_true.1 h1 j (List.mem_range.2 hj)
    simp only [ho', Bool.and_eq_true, Bool.or_eq_true, Bool.not_eq_true'] at h2
    obtain ⟨h3, h4⟩ := h2
    refine ⟨h3.imp (fun h => by simpa using h) (fun h => by simpa using h), fun hc => ?_⟩
    rcases h4 with (h4 | h4) | h4
    · simp at h4; exact absurd hc h4
    · exact .inl (hanc _ _ h4)
    · exact .inr (hanc _ _ h4)
  have htail : ∀ {i : Nat} {o : Oper}, ¬ i < n → ops[i]? = some o → ∀ {j : Nat}, j < i → Anc ops i j := by
    intro i o hi ho j hj
    have hlt : i < ops.size := by
      rcases Nat.lt_or_ge i ops.size with h | h
      · exact h
      · simp [Array.getElem?_eq_none h] at ho
    have h1 := List.all_eq_true.1 hok i (List.mem_range.2 hlt)
    simp only [ho, if_neg hi] at h1
    exact hanc _ _ (List.all_eq_true.1 h1 j (List.mem_range.2 hj))
  have hback : ∀ i o, i < ops.size → ops[i]? = some o → ∀ j ∈ deps o, j < i := fun i o _ ho j hj => back_dep hbk ho hj
  have hwait : ∀ m o, n ≤ m → ops[m]? = some o → ∀ j ∈ deps o, j < ops.size ∧ decide (j < m) = true := by
    intro m o _ ho j hj
    have hlt : m < ops.size := by
      rcases Nat.lt_or_ge m ops.size with h | h
      · exact h
      · simp [Array.getElem?_eq_none h] at ho
    have := hback m o hlt ho j hj
    exact ⟨by omega, by simpa using this⟩
  have hfull : ∀ L a w, St F (σL L) a w → (∀ i, i < n → L i = true) → St F σ1 a w := by
    intro L a w h hall
    rw [hσL] at h
    refine St.congr (fun u => ?_) (fun l => ?_) h
    · rw [s1]; exact gLs_congr fun i hi _ => by rw [hall i hi]
    · rw [d1]; exact dLs_congr fun i hi _ => by rw [hall i hi]
  -- one of them
  have hstep : ∀ L a w j o, Down ops L → St F (σL L) a w → j < n → ops[j]? = some o → L j = false → (∀ i ∈ deps o, L i = true) → ∀ K : Act → World → Prop,
      (∀ a' w', St F (σL fun i => i == j || L i) a' w' → K a' w') → wpOpIn F.fe 0 F.P ops (Exit.then (run F.fe F.P Q cs) Q) j K a w := by
    intro L a w j o hdn h hj ho hLj hdep K hK
    have hA := hat j o hj ho
    have hancL : ∀ i, Anc ops j i → L i = true := by
      intro i hi
      cases hi with
      | one ho' hd => rw [ho] at ho'; cases ho'; exact hdep _ hd
      | up ho' hd hr => rw [ho] at ho'; cases ho'; exact hr.down hdn (hdep _ hd)
    have hno : ∀ i, L i = true → ¬ Anc ops i j := fun i hi hc => by rw [hc.down hdn hi] at hLj; cases hLj
    obtain ⟨σ0, hσ0⟩ : ∃ σ0 : AS, σ0 = ⟨gLs dst (fun i => (it i).s) σ.g n (fun k => decide (k < j)), dLs (fun i => (it i).nw) σ.d n (fun k => decide (k < j))⟩ := ⟨_, rfl⟩
    have hloc : Loc ops o σ0 (σL L) := by
      rw [hσ0, hσL]
      refine ⟨fun u hu => gLs_congr fun i hi hd => ?_, fun l hl => dLs_congr fun i hi hx => ?_⟩
      · obtain ⟨oi, hoi⟩ := hop i hi
        rw [hdst i oi hi hoi] at hd
        rcases (hpure i oi u hi hoi hd j o hj ho).2 hu with h1 | h1
        · have := h1.lt hbk
          rw [hancL i h1]; simpa using this
        · have h2 := h1.lt hbk
          have h3 : L i = false := by
            cases hLi : L i with
            | false => rfl
            | true => exact absurd h1 (hno i hLi)
          rw [h3]; simp; omega
      · by_cases hij : i = j
        · subst hij; rw [hLj]; simp
        · have hrl : l ∈ (it j).rl := by rw [hA.rl]; exact hl
          rcases hcom i j hi hj hij with h1 | h1 | h1
          · have := h1.lt hbk
            rw [hancL i h1]; simpa using this
          · have h2 := h1.lt hbk
            have h3 : L i = false := by
              cases hLi : L i with
              | false => rfl
              | true => exact absurd h1 (hno i hLi)
            rw [h3]; simp; omega
          · exact absurd hrl (hapt h1 hx).1
    -- what is known then
    have hafter : ∀ a' w', St F ⟨gput o.dst (it j).s (σL L).g, (it j).nw ++ (σL L).d⟩ a' w' → St F (σL fun i => i == j || L i) a' w' := by
      intro a' w' h'
      rw [hσL] at h' ⊢
      refine St.congr (fun u => ?_) (fun l => ?_) h'
      · show lk (gLs _ _ _ _ _) u = lk (gput _ _ (gLs _ _ _ _ _)) u
        rw [lk_gput]
        split
        · rename_i hd
          refine gLs_at (by rw [hdst j o hj ho]; exact hd) (by simp) hj fun i hi hij hc => ?_
          obtain ⟨oi, hoi⟩ := hop i hi
          rw [hdst i oi hi hoi] at hc
          rcases (hpure j o u hj ho hd i oi hi hoi).1 with h1 | h1
          · exact hij h1
          · exact h1 hc
        · rename_i hd
          refine gLs_congr fun i hi hc => ?_
          by_cases hij : i = j
          · subst hij; rw [hdst i o hi ho] at hc; exact absurd hc hd
          · simp [hij]
      · show lkE (dLs _ _ _ _) l = lkE (_ ++ dLs _ _ _ _) l
        rw [lkE_append]
        cases hx : lkE (it j).nw l with
        | some en =>
          refine dLs_at hx (by simp) hj fun i hji hi hLi => ?_
          have hij : i ≠ j := by omega
          have hLi' : L i = true := by simpa [hij] using hLi
          rcases hcom j i hj hi (Ne.symm hij) with h1 | h1 | h1
          · exact absurd h1 (hno i hLi')
          · have := h1.lt hbk; omega
          · cases hy : lkE (it i).nw l with
            | none => rfl
            | some e => exact absurd rfl ((hapt (l := l) h1 (by rw [hx]; simp)).2.2 _ (lkE_mem hy)).1
        | none =>
          simp only [Option.none_or]
          refine dLs_congr fun i hi hc => ?_
          by_cases hij : i = j
          · subst hij; exact absurd hx hc
          · simp [hij]
    have hfree : (it j).fr = true → AS.free (σL L) (it j).nw = true := by
      intro hfr
      have h0 := hA.free hfr
      refine List.all_eq_true.2 fun x hx => ?_
      have h1 := List.all_eq_true.1 h0 x hx
      simp only [Bool.and_eq_true, List.all_eq_true, Bool.not_eq_true'] at h1 ⊢
      obtain ⟨h1, h2⟩ := h1
      rw [hσL]
      have hxl : lkE (it j).nw x.1 ≠ none := by
        intro hc
        have : ∀ {l : List (Nat × Ent)}, x ∈ l → lkE l x.1 ≠ none := by
          intro l hl
          induction l with
          | nil => simp at hl
          | cons y l ih =>
            rw [lkE_cons]
            split
            · simp
            · rename_i hne
              rcases List.mem_cons.1 hl with rfl | hl
              · exact absurd rfl hne
              · exact ih hl
        exact this hx hc
      have hg0 : ∀ y ∈ σ.g, y ∈ gLs dst (fun i => (it i).s) σ.g n (fun k => decide (k < j)) := by
        have : ∀ m y, y ∈ σ.g → y ∈ gLs dst (fun i => (it i).s) σ.g m (fun k => decide (k < j)) := by
          intro m
          induction m with
          | zero => exact fun y h => h
          | succ m ih =>
            intro y hy
            simp only [gLs]
            cases decide (m < j)
            · exact ih y hy
            · cases hd : dst m <;> simp [gput, ih y hy]
        exact this n
      have hd0 : ∀ y ∈ σ.d, y ∈ dLs (fun i => (it i).nw) σ.d n (fun k => decide (k < j)) := by
        have : ∀ m y, y ∈ σ.d → y ∈ dLs (fun i => (it i).nw) σ.d m (fun k => decide (k < j)) := by
          intro m
          induction m with
          | zero => exact fun y h => h
          | succ m ih =>
            intro y hy
            simp only [dLs]
            cases decide (m < j)
            · exact ih y hy
            · exact List.mem_append_right _ (ih y hy)
        exact this n
      have hgi : ∀ i, i < j → ∀ t, dst i = some t → (t, (it i).s) ∈ gLs dst (fun i => (it i).s) σ.g n (fun k => decide (k < j)) := by
        intro i hij t ht
        have : ∀ m, i < m → (t, (it i).s) ∈ gLs dst (fun i => (it i).s) σ.g m (fun k => decide (k < j)) := by
          intro m
          induction m with
          | zero => intro h; omega
          | succ m ih =>
            intro him
            simp only [gLs]
            by_cases hm : i = m
            · subst hm
              rw [show decide (i < j) = true by simpa using hij, ht]; simp [gput]
            · have := ih (by omega)
              cases decide (m < j)
              · exact this
              · cases hd : dst m <;> simp [gput, this]
        exact this n (by omega)
      have hdi : ∀ i, i < j → ∀ y ∈ (it i).nw, y ∈ dLs (fun i => (it i).nw) σ.d n (fun k => decide (k < j)) := by
        intro i hij y hy
        have : ∀ m, i < m → y ∈ dLs (fun i => (it i).nw) σ.d m (fun k => decide (k < j)) := by
          intro m
          induction m with
          | zero => intro h; omega
          | succ m ih =>
            intro him
            simp only [dLs]
            by_cases hm : i = m
            · subst hm
              rw [show decide (i < j) = true by simpa using hij]; exact List.mem_append_left _ hy
            · have := ih (by omega)
              cases decide (m < j)
              · exact this
              · exact List.mem_append_right _ this
        exact this n (by omega)
      -- an operation that is done and stands behind j is apart from it
      have hlate : ∀ i, i < n → L i = true → j < i → aptI (it j) (it i) = true := by
        intro i hi hLi hji
        rcases hcom j i hj hi (by omega) with h3 | h3 | h3
        · exact absurd h3 (hno i hLi)
        · have := h3.lt hbk; omega
        · exact h3
      refine ⟨fun y hy => ?_, fun y hy => ?_⟩
      · have hg1 : ∀ (m : Nat), m ≤ n → ∀ y ∈ gLs dst (fun i => (it i).s) σ.g m L, y ∈ σ.g ∨ ∃ i t, i < n ∧ L i = true ∧ dst i = some t ∧ y = (t, (it i).s) := by
          intro m
          induction m with
          | zero => exact fun _ y h => .inl h
          | succ m ih =>
            intro hm y h
            simp only [gLs] at h
            cases hL : L m with
            | false => rw [hL] at h; exact ih (by omega) y h
            | true =>
              rw [hL] at h
              simp only [cond_true] at h
              cases hd : dst m with
              | none => rw [hd] at h; exact ih (by omega) y h
              | some t =>
                rw [hd] at h
                rcases List.mem_cons.1 h with rfl | h
                · exact .inr ⟨m, t, by omega, hL, hd, rfl⟩
                · exact ih (by omega) y h
        rcases hg1 n (Nat.le_refl _) y hy with h3 | ⟨i, t, hi, hLi, hd, rfl⟩
        · exact h1 y (hg0 y h3)
        · rcases Nat.lt_trichotomy i j with h4 | rfl | h4
          · exact h1 _ (hgi i h4 t hd)
          · rw [hLj] at hLi; cases hLi
          · have := (hapt (hlate i hi hLi h4) hxl).2.1
            simpa using this
      · rcases mem_dLs hy with h3 | ⟨i, hi, hLi, hy⟩
        · exact h2 y (hd0 y h3)
        · rcases Nat.lt_trichotomy i j with h4 | rfl | h4
          · exact h2 _ (hdi i h4 y hy)
          · rw [hLj] at hLi; cases hLi
          · have := (hapt (hlate i hi hLi h4) hxl).2.2 y hy
            refine ⟨?_, by simpa using this.2⟩
            cases hb : Nat.beq y.1 x.1 with
            | false => rfl
            | true => exact absurd (Nat.eq_of_beq_eq_true hb) this.1
    have hgw : ∀ b, GK ops σ0.g o b → Region.wanted o (yielded ops a.tmps) = b := by
      intro b hg
      obtain ⟨⟨ρ, hc, hsl⟩, _, _⟩ := h
      exact wanted_of (gk_loc hg hloc) fun t s _ ht => hsl t s ht
    unfold wpOpIn
    rw [ho]
    have hcs := hA.cs
    rw [show (gLs dst (fun i => (it i).s) σ.g n fun k => decide (k < j)) = σ0.g by rw [hσ0], show (dLs (fun i => (it i).nw) σ.d n fun k => decide (k < j)) = σ0.d by rw [hσ0]] at hcs
    rcases hcs with ⟨hg, hfr, hjo⟩ | ⟨hg, hfr, htop, hnw⟩ | ⟨hg, hdn0, hfr, l, en, hnw, hjm⟩
    · simp only [hgw true hg, if_true]
      obtain ⟨⟨ρ, hc, hsl⟩, hz, hde⟩ := h
      refine (JO.loc hjo hloc ρ _ a w (Know.of_st hc hsl _)).wpIn fun v w' hr => hK _ _ (hafter _ _ ?_)
      have := St.put hc hsl hz hde (hfree hfr) hA.ok hr
      cases hd : o.dst with
      | none => rw [hd] at this; exact this
      | some t => rw [hd] at this; exact this
    · simp only [hgw false hg, Bool.false_eq_true, if_false]
      refine ⟨fun _ _ => trivial, hK _ _ (hafter _ _ ?_)⟩
      obtain ⟨⟨ρ, hc, hsl⟩, hz, hde⟩ := h
      have := St.put (s := (it j).s) (new := (it j).nw) (v := undef) hc hsl hz hde (hfree hfr) hA.ok (by rw [htop, hnw]; exact Res_top)
      cases hd : o.dst with
      | none => rw [hd] at this; exact this
      | some t => rw [hd] at this; exact this
    · simp only [hgw true hg, if_true]
      refine (hjm (σL L) hloc a w h).wpIn fun v w' h' => hK _ _ (hafter _ _ ?_)
      rw [hnw, hdn0]
      rw [hdn0] at h'
      exact h'
  -- whatever order
  have hgetD : ∀ (listed : Array Bool) (L : Nat → Bool), listed.size = ops.size → (∀ i, i < ops.size → listed.getD i false = L i) → ∀ i d, i < ops.size → listed.getD i d = L i := by
    intro listed L hls hL i d hi
    have := hL i hi
    rw [Array.getD_eq_getD_getElem?] at this ⊢
    rw [Array.getElem?_eq_getElem (by omega)] at this ⊢
    simpa using this
  have hready : ∀ (listed : Array Bool) (L : Nat → Bool), listed.size = ops.size → (∀ i, i < ops.size → listed.getD i false = L i) → ∀ i, i ∈ Region.ready .any ops listed ↔
      (i < ops.size ∧ L i = false ∧ ∀ o, ops[i]? = some o → ∀ j ∈ deps o, j < ops.size ∧ L j = true) := by
    intro listed L hls hL i
    unfold Region.ready
    rw [List.mem_filter, List.mem_range]
    constructor
    · rintro ⟨h1, h2⟩
      simp only [Bool.and_eq_true, Bool.not_eq_true'] at h2
      obtain ⟨h2, h3⟩ := h2
      rw [hgetD listed L hls hL i true h1] at h2
      refine ⟨h1, h2, fun o ho j hj => ?_⟩
      rw [ho] at h3
      simp only [Option.map_some, Option.getD_some] at h3
      obtain ⟨e, he, hej⟩ := List.mem_filterMap.1 hj
      have he' : e ∈ o.after := by simpa using he
      have := Array.all_eq_true_iff_forall_mem.1 h3 e he'
      split at hej
      · rename_i hb
        cases hej
        rw [hb] at this
        simp only [Bool.not_true, Bool.false_or] at this
        rcases Nat.lt_or_ge e.on ops.size with hl | hl
        · rw [hgetD listed L hls hL _ _ hl] at this; exact ⟨hl, this⟩
        · rw [Array.getD_eq_getD_getElem?, Array.getElem?_eq_none (by omega)] at this; simp at this
      · cases hej
    · rintro ⟨h1, h2, h3⟩
      refine ⟨h1, ?_⟩
      have ho : ops[i]? = some ops[i] := Array.getElem?_eq_getElem h1
      simp only [Bool.and_eq_true, Bool.not_eq_true', hgetD listed L hls hL i true h1, h2, true_and, ho, Option.map_some, Option.getD_some]
      refine Array.all_eq_true_iff_forall_mem.2 fun e he => ?_
      cases hb : Region.binds .any e with
      | false => rfl
      | true =>
        have := h3 _ ho e.on (List.mem_filterMap.2 ⟨e, by simpa using he, by simp [hb]⟩)
        rw [hgetD listed L hls hL _ _ this.1, this.2]; rfl
  have hset : ∀ (listed : Array Bool) (L : Nat → Bool) (j : Nat), listed.size = ops.size → j < ops.size → (∀ i, i < ops.size → listed.getD i false = L i) → ∀ i, i < ops.size → (listed.setIfInBounds j true).getD i false = (i == j || L i) := by
    intro listed L j hls hj hL i hi
    by_cases hij : i = j
    · subst hij
      simp only [Array.getD_eq_getD_getElem?, Array.getElem?_setIfInBounds]
      simp [hls, hi]
    · rw [getD_set_ne false (Ne.symm hij), hL i hi]; simp [hij]
  have hB : ∀ fuel m (listed : Array Bool) a w, listed.size = ops.size → (∀ i, i < ops.size → listed.getD i false = decide (i < m)) → Down ops (fun i => decide (i < m)) → n ≤ m → m + fuel = ops.size →
      wpListIn F.fe 0 F.P ops (Exit.then (run F.fe F.P Q cs) Q) (ops.toList.drop m) a w → wpAnyIn F.fe 0 F.P .any ops (Exit.then (run F.fe F.P Q cs) Q) fuel listed a w := by
    intro fuel
    induction fuel with
    | zero =>
      intro m listed a w hls hlm _ hnm hmf hw
      refine ⟨List.eq_nil_iff_forall_not_mem.2 fun i hi => ?_, ?_⟩
      · obtain ⟨h1, h2, _⟩ := (hready listed _ hls hlm i).1 hi
        have : i < m := by omega
        simp [this] at h2
      · rw [List.drop_eq_nil_of_le (by rw [Array.length_toList]; omega)] at hw
        exact hw
    | succ fuel ih =>
      intro m listed a w hls hlm hdn hnm hmf hw
      have hmlt : m < ops.size := by omega
      have hom : ops[m]? = some ops[m] := Array.getElem?_eq_getElem hmlt
      have hmr : ∀ i ∈ Region.ready .any ops listed, i = m := by
        intro i hi
        obtain ⟨h1, h2, h3⟩ := (hready listed _ hls hlm i).1 hi
        have him : m ≤ i := by simpa using h2
        rcases Nat.lt_or_ge m i with hlt | hge
        · exfalso
          have ho : ops[i]? = some ops[i] := Array.getElem?_eq_getElem h1
          have hmem := htail (by omega) ho hlt
          cases hmem with
          | one ho' hj => rw [ho] at ho'; cases ho'; have := (h3 _ ho _ hj).2; simp at this
          | up ho' hj hmj =>
            rw [ho] at ho'; cases ho'
            have hjm := (h3 _ ho _ hj).2
            have := hmj.down hdn hjm
            simp at this
        · omega
      have hdrop : ops.toList.drop m = ops[m] :: ops.toList.drop (m + 1) := by
        rw [List.drop_eq_getElem_cons (by rw [Array.length_toList]; exact hmlt)]
        simp
      rw [hdrop] at hw
      refine ⟨fun hr => ?_, fun i hi => ?_⟩
      · exfalso
        -- m itself is ready: what it waits for is ahead of it
        have hnr : m ∉ Region.ready .any ops listed := by rw [hr]; simp
        refine hnr ((hready listed _ hls hlm m).2 ⟨hmlt, by simp, fun o ho j hj => ?_⟩)
        exact hwait m o hnm ho j hj
      · have := hmr i hi
        subst this
        obtain ⟨_, _, h3⟩ := (hready listed _ hls hlm i).1 hi
        have hdn' : Down ops (fun k => decide (k < i + 1)) := by
          intro k o hk ho j hj
          have hk : k < i + 1 := by simpa using hk
          rcases Nat.lt_or_ge k i with h | h
          · have := hdn k o (by simpa using h) ho j hj
            have : j < i := by simpa using this
            simp; omega
          · have : k = i := by omega
            subst this
            have := (h3 o ho j hj).2
            have : j < k := by simpa using this
            simp; omega
        have hnext : ∀ a w, wpListIn F.fe 0 F.P ops (Exit.then (run F.fe F.P Q cs) Q) (ops.toList.drop (i + 1)) a w → wpAnyIn F.fe 0 F.P .any ops (Exit.then (run F.fe F.P Q cs) Q) fuel (listed.setIfInBounds i true) a w := by
          intro a w hw
          refine ih (i + 1) _ a w (by simpa using hls) (fun j hj => ?_) hdn' (by omega) (by omega) hw
          rw [hset listed _ i hls hmlt hlm j hj]
          by_cases hji : j = i
          · subst hji; simp
          · have : (j < i + 1) ↔ j < i := by omega
            simp [hji, this]
        unfold wpOpIn
        rw [hom]
        unfold wpListIn at hw
        split at hw
        · rename_i hwant
          simp only [hwant, if_true]
          exact Oper.wpIn_mono hnext hw
        · rename_i hwant
          simp only [hwant]
          exact ⟨hw.1, hnext _ _ hw.2⟩
  have hA : ∀ fuel (listed : Array Bool) (L : Nat → Bool) a w, listed.size = ops.size → (∀ i, i < ops.size → listed.getD i false = L i) → Down ops L → (∀ i, L i = true → i < n) → ((List.range ops.size).filter fun i => L i).length + fuel = ops.size →
      St F (σL L) a w → wpAnyIn F.fe 0 F.P .any ops (Exit.then (run F.fe F.P Q cs) Q) fuel listed a w := by
    intro fuel
    induction fuel with
    | zero =>
      intro listed L a w hls hL hdn hLn hcnt h
      have hall : ∀ i, i < ops.size → L i = true := by
        have hc : ((List.range ops.size).filter fun i => L i).length = (List.range ops.size).length := by simpa using hcnt
        have := List.length_filter_eq_length_iff.1 hc
        exact fun i hi => this i (List.mem_range.2 hi)
      have hnn : ops.size = n := by
        rcases Nat.lt_or_ge n ops.size with h | h
        · have := hLn n (hall n h); omega
        · omega
      have hl2 : l2 = [] := List.eq_nil_of_length_eq_zero (by omega)
      refine ⟨List.eq_nil_iff_forall_not_mem.2 fun i hi => ?_, ?_⟩
      · obtain ⟨h1, h2, _⟩ := (hready listed _ hls hL i).1 hi
        rw [hall i h1] at h2; cases h2
      · have hst1 := hfull L a w h fun i hi => hall i (by omega)
        have := ht (Exit.then (run F.fe F.P Q cs) Q) [] a w hst1 (fun a' w' h' => wpListIn_nil (k a' w' h'))
        rw [hl2] at this
        exact this
    | succ fuel ih =>
      intro listed L a w hls hL hdn hLn hcnt h
      by_cases hall : ∀ i, i < n → L i = true
      · -- all of the first are done: the others, in the text's order
        have hst1 := hfull L a w h hall
        have hw := ht (Exit.then (run F.fe F.P Q cs) Q) [] a w hst1 (fun a' w' h' => wpListIn_nil (k a' w' h'))
        have hLd : L = fun i => decide (i < n) := by
          funext i
          cases hLi : L i with
          | true => simp [hLn i hLi]
          | false =>
            rcases Nat.lt_or_ge i n with h | h
            · rw [hall i h] at hLi; cases hLi
            · simp; omega
        have hcn : ((List.range ops.size).filter fun i => L i).length = n := by
          rw [hLd]
          have : ops.size = n + (ops.size - n) := by omega
          rw [this, List.range_add, List.filter_append]
          rw [List.filter_eq_self.2 (by intro i hi; simpa using List.mem_range.1 hi), List.filter_eq_nil_iff.2 (by intro i hi; simp at hi ⊢; omega)]
          simp
        refine hB (fuel + 1) n listed a w hls (fun i hi => by rw [hL i hi, hLd]) (by rw [← hLd]; exact hdn) (Nat.le_refl _) (by omega) ?_
        have : ops.toList.drop n = l2 := by rw [hl, ← hln]; simp
        rw [this]; simpa using hw
      · refine ⟨fun hr => ?_, fun i hi => ?_⟩
        · exfalso
          -- the least one that is not done is ready
          have hex : ∃ i, i < n ∧ L i = false := by
            refine Classical.byContradiction fun hno => hall fun i hi => ?_
            cases hLi : L i with
            | true => rfl
            | false => exact absurd ⟨i, hi, hLi⟩ hno
          obtain ⟨i, ⟨hi, hLi⟩, hmin⟩ : ∃ i, (i < n ∧ L i = false) ∧ ∀ j, j < i → L j = true := by
            obtain ⟨i, hi⟩ := hex
            induction i using Nat.strongRecOn with
            | _ i ihi =>
              by_cases hj : ∃ j, j < i ∧ L j = false
              · obtain ⟨j, h1, h2⟩ := hj; exact ihi j h1 ⟨by omega, h2⟩
              · refine ⟨i, hi, fun j hj' => ?_⟩
                cases hLj : L j with
                | true => rfl
                | false => exact absurd ⟨j, hj', hLj⟩ hj
          have hnr : i ∉ Region.ready .any ops listed := by rw [hr]; simp
          refine hnr ((hready listed _ hls hL i).2 ⟨by omega, hLi, fun o ho j hj => ?_⟩)
          have := hback i o (by omega) ho j hj
          exact ⟨by omega, hmin j this⟩
        · obtain ⟨h1, h2, h3⟩ := (hready listed _ hls hL i).1 hi
          have ho : ops[i]? = some ops[i] := Array.getElem?_eq_getElem h1
          have hin : i < n := by
            refine Classical.byContradiction fun hge => hall fun j hj => ?_
            have hmem := htail hge ho (j := j) (by omega)
            cases hmem with
            | one ho' hj => rw [ho] at ho'; cases ho'; exact (h3 _ ho _ hj).2
            | up ho' hj hmj => rw [ho] at ho'; cases ho'; exact hmj.down hdn (h3 _ ho _ hj).2
          refine hstep L a w i _ hdn h hin ho h2 (fun j hj => (h3 _ ho j hj).2) _ fun a' w' h' => ?_
          refine ih _ _ a' w' (by simpa using hls) (hset listed L i hls h1 hL) ?_ ?_ ?_ h'
          · intro q o hq hoq j hj
            by_cases hqi : q = i
            · subst hqi; simp [(h3 o hoq j hj).2]
            · have : L q = true := by simpa [hqi] using hq
              simp [hdn q o this hoq j hj]
          · intro q hq
            by_cases hqi : q = i
            · omega
            · exact hLn q (by simpa [hqi] using hq)
          · have : ((List.range ops.size).filter fun q => q == i || L q).length = ((List.range ops.size).filter fun q => L q).length + 1 := count_add ops.size i L h1 h2
            omega
  refine wpIn_region_any hm ?_
  refine hA ops.size _ (fun _ => false) a _ (by simp) (fun i hi => by rw [Array.getD_eq_getD_getElem?, Array.getElem?_replicate, if_pos hi]; rfl) (fun _ _ h => by cases h) (fun _ h => by cases h) (by rw [List.filter_eq_nil_iff.2 (fun _ _ h => by cases h)]; simp) ?_
  obtain ⟨⟨ρ, hc, hsl⟩, hz, hde⟩ := hs
  have hb : Below w.heap.size w { w with drawn := w.drawn + 1 } := (Below.refl _ _).drew
  obtain ⟨hc', hE⟩ := hc.below hb
  have e0 : σL (fun _ => false) = σ := by
    rw [hσL]
    show (⟨gLs _ _ _ _ _, dLs _ _ _ _⟩ : AS) = σ
    rw [gLs_beyond (m := 0) (Nat.zero_le _) (fun _ _ _ => rfl), dLs_beyond (m := 0) (Nat.zero_le _) (fun _ _ _ => rfl)]; rfl
  rw [e0]
  exact ⟨⟨ρ, hc', fun t s hts => Slot.ok_mono s _ (hsl t s hts) hE (fun _ _ => rfl)⟩, hz, hde⟩
end
end Go.Sw

namespace Go.Sw
open Go Go.RowKit
section
variable {F : Frm} {ops : Array Oper} {os : List Oper} {σ σ' : AS} {its : List Itm} {s s0 : Slot} {d : Option Tmp} {pb : Option Nat} {ty : TypeId} {p : String} {af : Array Edge} {gd : Option (Nat × Bool)} {x y : Operand}
theorem JP2.store {T U : TypeId} {l : List Slot} {i off n : Nat} (g : GK ops σ.g ⟨none, .store U x y, ty, p, af, gd⟩ true) (hx : evS σ.g x = some (.ptr i off)) (he : lkE σ.d i = some (.box T l pb)) (ho : offAt l off = some s0) (hy : evS σ.g y = some s) (hp : s.plain = true) (hsz : Nat.beq s.sz n = true) (hsz0 : Nat.beq s0.sz n = true)
    (hS : ∀ w, (sizeOf U).run F.P w = .ok n w) (k : JP2 F ops os ⟨σ.g, (i, .box T (setOff l off s) pb) :: σ.d⟩ its σ') :
    JP2 F ops (⟨none, .store U x y, ty, p, af, gd⟩ :: os) σ (⟨.top, [(i, .box T (setOff l off s) pb)], false, rdl σ.g ⟨none, .store U x y, ty, p, af, gd⟩⟩ :: its) σ' :=
  .st g rfl (fun σ2 hL => JM.store ((hL.ev (by simp [Op.operands])).trans hx) ((hL.ent (x := x) (by simp [Op.operands]) hx (by simp [Slot.lab])).trans he) ho ((hL.ev (by simp [Op.operands])).trans hy) hp hsz hsz0 hS) k
theorem JP2.storeAll {α : Type} {e : Enc α} {z : α} {T U : TypeId} {l l' : List Slot} {i : Nat} (g : GK ops σ.g ⟨none, .store U x y, ty, p, af, gd⟩ true) (hx : evS σ.g x = some (.ptr i 0)) (he : lkE σ.d i = some (.box T l pb)) (hl : Nat.beq (l.map Slot.sz).sum e.n = true) (hy : evS σ.g y = some (.v e z)) (hl' : Spl l' e z)
    (hS : ∀ w, (sizeOf U).run F.P w = .ok e.n w) (k : JP2 F ops os ⟨σ.g, (i, .box T l' pb) :: σ.d⟩ its σ') :
    JP2 F ops (⟨none, .store U x y, ty, p, af, gd⟩ :: os) σ (⟨.top, [(i, .box T l' pb)], false, rdl σ.g ⟨none, .store U x y, ty, p, af, gd⟩⟩ :: its) σ' :=
  .st g rfl (fun σ2 hL => JM.storeAll ((hL.ev (by simp [Op.operands])).trans hx) ((hL.ent (x := x) (by simp [Op.operands]) hx (by simp [Slot.lab])).trans he) hl ((hL.ev (by simp [Op.operands])).trans hy) hl' hS) k
theorem JP2.storeAgg {T U : TypeId} {l l' : List Slot} {i n : Nat} (g : GK ops σ.g ⟨none, .store U x y, ty, p, af, gd⟩ true) (hx : evS σ.g x = some (.ptr i 0)) (he : lkE σ.d i = some (.box T l pb)) (hl : (l.map Slot.sz).sum = n) (hy : evS σ.g y = some (.agg l')) (hl' : (l'.map Slot.sz).sum = n) (hnt : l'.all Slot.plain = true)
    (hS : ∀ w, (sizeOf U).run F.P w = .ok n w) (k : JP2 F ops os ⟨σ.g, (i, .box T l' pb) :: σ.d⟩ its σ') :
    JP2 F ops (⟨none, .store U x y, ty, p, af, gd⟩ :: os) σ (⟨.top, [(i, .box T l' pb)], false, rdl σ.g ⟨none, .store U x y, ty, p, af, gd⟩⟩ :: its) σ' :=
  .st g rfl (fun σ2 hL => JM.storeAgg ((hL.ev (by simp [Op.operands])).trans hx) ((hL.ent (x := x) (by simp [Op.operands]) hx (by simp [Slot.lab])).trans he) hl ((hL.ev (by simp [Op.operands])).trans hy) hl' hnt hS) k
end
end Go.Sw

namespace Go.Sw
open Go Go.RowKit
/-- a value as it stands, in a cell -/
def Enc.raw : Enc Value where
  n := 1
  agg := false
  ok x _ _ cs := cs = [x] ∧ x.oneCell' = true
  len h := by rw [h.1]; rfl
  one _ := rfl
  cell h c hc := by rw [h.1] at hc; simp at hc; subst hc; exact h.2
  mono h _ := h
/-- a row of cells that is a slice's, all its own -/
def arrOk {α : Type} (T : TypeId) (e : Enc α) (xs : List α) (S : Nat → Prop) (w : World) (v : Value) : Prop :=
  (xs = [] ∧ v = .slice none 0 0) ∨ ∃ b cap pre cs post, v = .slice (some ⟨b, pre.length, none⟩) xs.length cap ∧
      w.heap[b]? = some (.cells (pre ++ (cs ++ post)).toArray T (0, 0)) ∧ e.okL xs S w cs ∧ xs.length ≤ cap ∧ cap * e.n ≤ cs.length + post.length ∧ xs.length ≤ 140737488355328
theorem arrOk.mono {α : Type} {T : TypeId} {e : Enc α} {xs : List α} {S S' : Nat → Prop} {w w' : World} {v : Value} (h : arrOk T e xs S w v) (k : Ext S S' w w') (hb : ∀ b, blk v = some b → w'.heap[b]? = w.heap[b]?) : arrOk T e xs S' w' v := by
  rcases h with h | ⟨b, cap, pre, cs, post, h1, h2, h3, h4⟩
  · exact .inl h
  · exact .inr ⟨b, cap, pre, cs, post, h1, by rw [hb b (by rw [h1]; rfl)]; exact h2, Enc.okL_mono h3 k, h4⟩
theorem arrOk.slice {α : Type} {T : TypeId} {e : Enc α} {xs : List α} {S : Nat → Prop} {w : World} {v : Value} (h : arrOk T e xs S w v) : ∃ a c, v = .slice a xs.length c := by
  rcases h with ⟨rfl, rfl⟩ | ⟨b, cap, pre, cs, post, h1, _⟩
  · exact ⟨none, 0, rfl⟩
  · exact ⟨_, _, h1⟩
theorem arrOk.lt {α : Type} {T : TypeId} {e : Enc α} {xs : List α} {S : Nat → Prop} {w : World} {v : Value} (h : arrOk T e xs S w v) {b : Nat} (hb : blk v = some b) : b < w.heap.size := by
  rcases h with ⟨rfl, rfl⟩ | ⟨b', cap, pre, cs, post, rfl, h2, _⟩
  · simp [blk] at hb
  · simp [blk] at hb; subst hb; exact (MemAt.of_heap h2).lt
end Go.Sw

namespace Go.Sw
open Go Go.RowKit

/-! ### entries told anew in the same memory -/
structure Rws {α : Type} (T2 : TypeId) (e : Enc α) (xss : List (List α)) (o : Option Nat) (S : Nat → Prop) (w : World) (x : Nat → Prop) (b0 : Option Nat) (hs : List Value) : Prop where
  len : hs.length = xss.length
  ok : ∀ j xs h, o ≠ some j → xss[j]? = some xs → hs[j]? = some h → arrOk T2 e xs S w h
  own : ∀ j h k, o ≠ some j → hs[j]? = some h → blk h = some k → x k ∧ b0 ≠ some k
  inj : ∀ j j' h h' k, o ≠ some j → o ≠ some j' → hs[j]? = some h → hs[j']? = some h' → blk h = some k → blk h' = some k → j = j'
/-- a slice of slices, all of them our own; one of them may be told by a label of its own -/
def DE.arrs {α : Type} (T T2 : TypeId) (e : Enc α) : DE (List (List α) × Option Nat) where
  ok q S w u l := ∃ hs, arrOk T Enc.raw hs S w u.v ∧ Rws T2 e q.1 q.2 S w u.x (blk u.v) hs ∧ ∀ j, q.2 = some j → hs[j]? = l.head?
  mono := by
    rintro q S S' w w' u l ⟨hs, h1, h2, h3⟩ hE hb
    refine ⟨hs, h1.mono hE (fun b h => hb b (.inl h)), ⟨h2.len, fun j xs h ho hx hh => (h2.ok j xs h ho hx hh).mono hE (fun b hb' => hb b (.inr (h2.own j h b ho hh hb').1)), h2.own, h2.inj⟩, h3⟩
/-- a slice literal of one slice of our own -/
def DE.ref1 (T : TypeId) : DE Unit where
  ok _ _ w u l := ∃ b v, l = [v] ∧ v.oneCell' = true ∧ u.v = .slice (some ⟨b, 0, none⟩) 1 1 ∧ w.heap[b]? = some (.cells #[v] T (0, 0))
  mono := by
    rintro q S S' w w' u l ⟨b, v, h1, h2, h3, h4⟩ _ hb
    exact ⟨b, v, h1, h2, h3, by rw [hb b (.inl (by rw [h3]; rfl))]; exact h4⟩
section
variable {F : Frm} {σ : AS} {pb : Option Nat} {s : Slot} {d : Option Tmp} {ty : TypeId} {p : String} {af : Array Edge} {gd : Option (Nat × Bool)} {x y : Operand} {α : Type} {e : Enc α} {T T2 U : TypeId} {xss : List (List α)} {i j : Nat}
theorem raw_okL {hs : List Value} {S w cs} (h : Enc.raw.okL hs S w cs) : cs = hs := by
  induction hs generalizing cs with
  | nil => exact h
  | cons v hs ih =>
    obtain ⟨c, d, h1, h2, h3⟩ := h
    rw [h1, ih h3, h2.1]; rfl
theorem lkE_new {dd : List (Nat × Ent)} {l k : Nat} {en en' : Ent} (h : lkE ((k, en') :: dd) l = some en) : (l = k ∧ en = en') ∨ (l ≠ k ∧ lkE dd l = some en) := by
  rw [lkE_cons] at h
  split at h
  · rename_i hk; cases h; exact .inl ⟨hk.symm, rfl⟩
  · rename_i hk; exact .inr ⟨fun e => hk e.symm, h⟩

theorem Has_mk {v : Value} {x : Nat → Prop} {b : Nat} : Has ⟨v, x⟩ b ↔ blk v = some b ∨ x b := Iff.rfl
end
end Go.Sw

namespace Go.Sw
open Go Go.RowKit
/-- entries told anew, where one block of ours changed and others are new -/
theorem Core.step {F : Frm} {d d' : List (Nat × Ent)} {ρ ρ' : Nat → LV} {w w' : World} (hc : Core F d ρ w) {c : Option Nat} (hch : Chg c w w') (hco : ∀ b, c = some b → ∃ l en, lkE d l = some en ∧ Has (ρ l) b)
    (hU : ∀ l en b, lkE d' l = some en → Has (ρ' l) b → (w.heap.size ≤ b ∧ b < w'.heap.size) ∨ ∃ l0 en0, lkE d l0 = some en0 ∧ Has (ρ l0) b)
    (hin : ∀ i j en en' b, lkE d' i = some en → lkE d' j = some en' → Has (ρ' i) b → Has (ρ' j) b → i = j)
    (hown : Ext (Un F.S0 ρ d) (Un F.S0 ρ' d') w w' → ∀ l en, lkE d' l = some en → en.ok ρ' (Un F.S0 ρ' d') w' (ρ' l)) :
    Core F d' ρ' w' ∧ Ext (Un F.S0 ρ d) (Un F.S0 ρ' d') w w' := by
  have hE : Ext (Un F.S0 ρ d) (Un F.S0 ρ' d') w w' := ⟨hch.size, fun k hk hn => ⟨hch.other k hk (fun e => hn (by obtain ⟨l, en, h1, h2⟩ := hco k e.symm; exact .inr ⟨l, en, h1, h2⟩)), fun h => hn (by
    rcases h with h | ⟨l, en, h1, h2⟩
    · exact .inl h
    · rcases hU l en k h1 h2 with h | ⟨l0, en0, h3, h4⟩
      · omega
      · exact .inr ⟨l0, en0, h3, h4⟩)⟩⟩
  refine ⟨⟨hc.low, Nat.le_trans hc.size hch.size, fun k hk hr => ?_, hch.os.trans hc.os, hch.tape.trans hc.tape, hch.output.trans hc.output, hown hE, fun i en b h hb => ?_, hin, fun i en b h hb => ?_⟩, hE⟩
  · rw [hch.other k (Nat.lt_of_lt_of_le hk hc.size) (fun e => ?_)]
    · exact hc.frame k hk hr
    · obtain ⟨l, en, h1, h2⟩ := hco k e.symm
      rcases (hc.fresh l en k h1 h2).1 with h | h
      · omega
      · exact hr h
  · rcases hU i en b h hb with h3 | ⟨l0, en0, h3, h4⟩
    · exact ⟨.inl (Nat.le_trans hc.size h3.1), h3.2⟩
    · exact ⟨(hc.fresh l0 en0 b h3 h4).1, Nat.lt_of_lt_of_le (hc.fresh l0 en0 b h3 h4).2 hch.size⟩
  · rcases hU i en b h hb with h3 | ⟨l0, en0, h3, h4⟩
    · intro h5; have := hc.low b h5; have := hc.size; omega
    · exact hc.apart l0 en0 b h3 h4
section
variable {F : Frm} {σ : AS} {pb : Option Nat} {s : Slot} {d : Option Tmp} {ty : TypeId} {p : String} {af : Array Edge} {gd : Option (Nat × Bool)} {x y z : Operand} {α : Type} {e : Enc α} {T T2 U : TypeId} {xss : List (List α)} {i j m : Nat}
theorem Frz.arrs : Frz (DE.arrs T T2 e) (xss, none) (Enc.sl (Enc.sl e)) xss := by
  intro S S' w u ⟨hh, h1, h2, _⟩ hE hb
  have key : ∀ (xs : List (List α)) (hs : List Value), hs.length = xs.length → (∀ (j : Nat) (ys : List α) (v : Value), xs[j]? = some ys → hs[j]? = some v → arrOk T2 e ys S w v ∧ ∀ b, blk v = some b → u.x b) → (Enc.sl e).okL xs S' w hs := by
    intro xs
    induction xs with
    | nil => intro hs hl _; exact List.eq_nil_of_length_eq_zero hl
    | cons ys xs ih =>
      intro hs hl h
      cases hs with
      | nil => simp at hl
      | cons v hs =>
        refine ⟨[v], hs, rfl, ?_, ih hs (by simpa using hl) fun j ys' v' hj hv => h (j + 1) ys' v' (by simpa using hj) (by simpa using hv)⟩
        obtain ⟨k1, k2⟩ := h 0 ys v rfl rfl
        exact arr_sl (ρ := fun _ => .of undef) (u := .of v) (T := T2) k1 hE fun b hb' => hb b (.inr (k2 b (Has_of.1 hb')))
  have hk := key xss hh h2.len fun j ys v hx hv => ⟨h2.ok j ys v (by simp) hx hv, fun b hb' => (h2.own j v b (by simp) hv hb').1⟩
  obtain ⟨ad, c, hs⟩ := h1.slice
  refine ⟨?_, by rw [hs]; rfl⟩
  have hlen : hh.length = xss.length := h2.len
  rcases h1 with ⟨rfl, h0⟩ | ⟨b, cap, pre, cs, post, h0, h3, h4, h5, h6, h7⟩ <;> rw [h0]
  · have : xss = [] := List.eq_nil_of_length_eq_zero (by simpa using hlen.symm)
    subst this; exact ⟨none, 0, rfl, by simp, .inl rfl⟩
  · have := raw_okL h4
    subst this
    refine ⟨_, cap, by rw [hlen], ⟨by omega, by omega⟩, .inr ⟨b, _, cs, rfl, ?_, hb b (.inl (by rw [h0]; rfl)), ?_, hk⟩⟩
    · exact (MemAt.of_heap h3).lt
    · have := (MemAt.of_heap h3).sub; simpa using this
theorem Arg.frzD {β γ : Type} {D : DE β} {q : β} {f : Enc γ} {r : γ} (h : evS σ.g x = some (.ref i)) (he : lkE σ.d i = some (.dp D q [])) (hf : Frz D q f r) : Arg σ true x (.v f r) := by
  intro ρ S a w K
  obtain ⟨h1, h2, _⟩ := K_ref K (x := x) (by simp) h he
  obtain ⟨k1, k2⟩ := hf _ _ _ _ h2 (lend_ext S w true) (fun _ _ h => h)
  rw [h1]
  simp only [Slot.ok]
  exact ⟨_, k1, k2.symm⟩
/-! ### parts of a slice of our own -/
theorem K_arr {xs : List α} {xs' : Array Operand} {ρ : Nat → LV} {S a w} (K : Know σ xs' ρ S a w) (hm : x ∈ xs') (hx : evS σ.g x = some (.ref i)) (he : lkE σ.d i = some (.arr T e xs)) :
    ∃ ad cap, a.eval x = .slice ad xs.length cap ∧ xs.length ≤ cap ∧ (ρ i).v = .slice ad xs.length cap ∧ arrOk T e xs S w (ρ i).v := by
  obtain ⟨h1, h2, _⟩ := K_ref K hm hx he
  have h2 : arrOk T e xs S w (ρ i).v := h2
  obtain ⟨ad, cap, hs⟩ := h2.slice
  refine ⟨ad, cap, by rw [h1, hs], ?_, hs, h2⟩
  rcases h2 with ⟨rfl, h3⟩ | ⟨b, cap', pre, cs, post, h3, _, _, h5, _⟩
  · simp
  · rw [hs] at h3; simp only [Value.slice.injEq] at h3; omega
/-- it is lent -/
theorem Arg.sub {xs ys : List α} {lo hi : Int} (hs : Sw.sub xs lo hi = some ys) (hx : evS σ.g x = some (.sub i (lo.toNat * e.n) (hi.toNat - lo.toNat))) (he : lkE σ.d i = some (.arr T e xs)) : Arg σ true x (.v (Enc.sl e) ys) := by
  intro ρ S a w K
  have h0 := K.slot x (by simp) _ hx
  have h2 : arrOk T e xs S w (ρ i).v := (K.ent x (by simp) _ hx i (by simp [Slot.lab]) _ he).1
  simp only [Slot.ok] at h0 ⊢
  obtain ⟨_, c, o, h3, h4, h5⟩ := h0
  obtain ⟨k0, k1, k2, rfl⟩ := sub_some hs
  have hyl : ((xs.take hi.toNat).drop lo.toNat).length = hi.toNat - lo.toNat := by rw [List.length_drop, List.length_take]; omega
  rw [h5]
  rcases h2 with ⟨rfl, h6⟩ | ⟨b, cap, pre, cs, post, h6, h7, h8, h9, h10, h11⟩ <;> rw [h6]
  · refine val_sl.2 ⟨none, c, ?_, ⟨by rw [hyl]; exact h3, by rw [hyl]; simp at k2; omega⟩, .inl (by simp)⟩
    simp only [subOf]; rw [hyl]
  · refine val_sl.2 ⟨some ⟨b, pre.length + o, none⟩, c, ?_, ⟨by rw [hyl]; exact h3, by rw [hyl]; omega⟩, ?_⟩
    · simp only [subOf]; rw [hyl]
    · by_cases hn : hi.toNat - lo.toNat = 0
      · exact .inl (List.eq_nil_of_length_eq_zero (by rw [hyl]; exact hn))
      · have ho : o = lo.toNat * e.n := h4.resolve_right hn
        subst ho
        have hm : MemAt w b pre.length cs := by have := (MemAt.of_heap h7).sub; simpa using this
        refine .inr ⟨b, _, _, rfl, (MemAt.of_heap h7).lt, fun h => h, (hm.take (hi.toNat * e.n)).drop (lo.toNat * e.n), Enc.okL_mono (okL_drop _ (okL_take _ h8)) (lend_ext S w true)⟩
end
end Go.Sw

namespace Go.Sw
open Go Go.RowKit
section
variable {F F' : Frm} {σ : AS} {pb : Option Nat} {s : Slot} {d : Option Tmp} {ty : TypeId} {p : String} {af : Array Edge} {gd : Option (Nat × Bool)} {x y z : Operand}
theorem XQ.normM0 {fn : Func} {dout : List (Nat × Ent)} (hF : Fol F F') (hrs : fn.results = #[]) (hn : SubE dout σ.d) : XQ F' σ (RetQM F fn (.tup []) dout) .normal :=
  fun a w h => XQ.retM0 hF hrs hn a w h
theorem Z.cst {u : Value} (h : u.oneCell' = true) : ∀ S w, (Enc.cst u h).ok () S w [u] := fun _ _ => rfl
end
end Go.Sw

namespace Go.Sw
open Go Go.RowKit
/-- a slice beyond whose elements there is no room -/
def Enc.slC {α : Type} (e : Enc α) : Enc (List α) where
  n := 1
  agg := false
  ok xs S w cs := (Enc.sl e).ok xs S w cs ∧ ∀ a l c, cs = [.slice a l c] → l = c
  len h := (Enc.sl e).len h.1
  one _ := rfl
  cell h := (Enc.sl e).cell h.1
  mono h k := ⟨(Enc.sl e).mono h.1 k, h.2⟩
theorem val_slC {α : Type} {e : Enc α} {xs : List α} {S w u} (h : (Enc.slC e).val xs S w u) : (Enc.sl e).val xs S w u ∧ ∀ a l c, u = .slice a l c → l = c := by
  obtain ⟨cs, ⟨h1, h2⟩, rfl⟩ := h
  refine ⟨⟨cs, h1, rfl⟩, ?_⟩
  obtain ⟨a, cap, h3, _⟩ := h1
  intro a2 l2 c2 h4
  rw [h3] at h4
  have h5 : (Value.slice a xs.length cap) = .slice a2 l2 c2 := h4
  exact h2 a2 l2 c2 (by rw [h3, h5])
section
variable {F : Frm} {σ : AS} {d : Option Tmp} {ty : TypeId} {p : String} {af : Array Edge} {gd : Option (Nat × Bool)} {x y : Operand}
theorem JO.litC {α : Type} {e : Enc α} {U E : TypeId} {len : Nat} {z : Value} {ps : List (Nat × Operand)} {zs : List α} (hU : ∀ w, (underlying U).run F.P w = .ok (.slice E) w) (hS : ∀ w, (sizeOf E).run F.P w = .ok e.n w) (hz : ∀ w, (zeroValue E).run F.P w = .ok z w)
    (hle : Nat.ble (len * e.n) 16777216 = true) (hl : ps.length = len) (hl' : zs.length = len) (hb : Nat.ble len 16777216 = true) (he : Elems σ e 0 ps zs) : JO F ⟨d, .buildSlice U len ps.toArray, ty, p, af, gd⟩ σ (.v (Enc.slC e) zs) [] := by
  intro ρ S a w K
  obtain ⟨ds, h1, h2⟩ := lit_run (d := d) (ty := ty) (p := p) (af := af) (gd := gd) hU hS hz hle hl he K
  have hbl := below_alloc w (.cells ds.toArray E)
  have hE : Ext S (Un S ρ []) w (w.alloc (.cells ds.toArray E)) := Ext.of_below hbl fun k _ h => by
    rcases h with h | ⟨i, en, h, _⟩
    · exact h
    · simp [lkE] at h
  refine OpWp.value h2 ⟨ρ, fun _ _ => rfl, hbl, ?_, ⟨fun _ _ h => by simp [lkE] at h, fun _ _ _ h => by simp [lkE] at h, fun _ _ _ _ _ h => by simp [lkE] at h⟩⟩
  simp only [Slot.ok]
  have hb := Nat.le_of_ble_eq_true hb
  have hv : (Enc.sl e).val zs (Un S ρ []) (w.alloc (.cells ds.toArray E)) (.slice (some ⟨w.heap.size, 0, none⟩) len len) := by
    refine val_sl.2 ⟨_, len, by rw [hl'], ⟨by omega, by omega⟩, .inr ⟨w.heap.size, 0, ds, rfl, by simp, ?_, memAt_alloc w ds E, Enc.okL_mono h1 hE⟩⟩
    rintro (h | ⟨i, en, h, _⟩)
    · have := K.low _ h; omega
    · simp [lkE] at h
  obtain ⟨cs, h3, h4⟩ := hv
  refine ⟨cs, ⟨h3, fun a2 l2 c2 h5 => ?_⟩, h4⟩
  subst h5
  have h6 : (Value.slice (some ⟨w.heap.size, 0, none⟩) len len) = .slice a2 l2 c2 := h4
  injection h6 with _ e1 e2
  omega
theorem JO.appC {α : Type} {e : Enc α} {xs ys zs : List α} {T U : TypeId} {ti : TypeInfo} {zv : Value} (ha : app xs ys = some zs) (hne : xs ≠ []) (hx : evS σ.g x = some (.v (Enc.slC e) xs)) (hy : Src σ y e ys)
    (hU : ∀ w, (underlying U).run F.P w = .ok (.slice T) w) (hI : ∀ w, (typeInfo T).run F.P w = .ok ti w) (hS : ∀ w, (sizeOf T).run F.P w = .ok e.n w) (hz : ti.zero = some zv) (hzs : zv.cells.size = e.n) (hby : Nat.ble ti.bytes 4096 = true) :
    JO F ⟨d, .call ⟨.builtin .append, #[x, y], #[U, U]⟩, ty, p, af, gd⟩ σ (.v (Enc.sl e) zs) [] := by
  obtain ⟨hlen, rfl⟩ := app_some ha
  have hby := Nat.le_of_ble_eq_true hby
  intro ρ S a w K
  have hti : ti.size = e.n := size_of hI hS
  have hx' := K.slot x (by simp [Op.operands, Call.operands]) _ hx
  simp only [Slot.ok] at hx'
  obtain ⟨hv, hcap⟩ := val_slC hx'
  obtain ⟨a1, cap, h1, ⟨hc1, hc2⟩, h2⟩ := val_sl.1 hv
  have hcc := hcap _ _ _ h1
  subst hcc
  obtain ⟨g, o1, cs, rfl, hg1, hg2, hm1, hcs⟩ := h2.resolve_left hne
  have hcl := Enc.okL_len hcs
  have hmem : ∀ q, q ∈ #[y] → q ∈ (Op.call ⟨.builtin .append, #[x, y], #[U, U]⟩).operands := by
    intro q hq
    have hq' : q = y := by simpa using hq
    subst hq'; simp [Op.operands, Call.operands]
  obtain ⟨hyl, ad, c, h4, h5⟩ := hy ρ S a w ⟨K.low, fun q hq s h => K.slot q (hmem q hq) s h, fun q hq s h => K.ent q (hmem q hq) s h⟩
  have hexec : ∀ v w', (Builtin.append_ #[U, U] ty #[.slice (some ⟨g, o1, none⟩) xs.length xs.length, .slice ad ys.length c]).run F.P w = .ok v w' → (execOp a.eval ⟨d, .call ⟨.builtin .append, #[x, y], #[U, U]⟩, ty, p, af, gd⟩).run F.P w = .ok (.value v) w' := by
    intro v w' h
    simp [execOp, resolve, invoke, builtin, h1, h4, h]
  have noNew : ∀ {w' : World}, NewOk ρ (Un S ρ []) w w' [] := ⟨fun i en h => by simp [lkE] at h, fun i en b h => by simp [lkE] at h, fun i j en en' b h => by simp [lkE] at h⟩
  by_cases hm0 : ys = []
  · subst hm0
    refine OpWp.value (hexec _ w (run_append0 hU hS (Nat.le_refl _))) ⟨ρ, fun _ _ => rfl, Below.refl _ _, ?_, noNew⟩
    simp only [Slot.ok, List.append_nil, Un.none]
    rw [h1] at hv
    exact hv
  · obtain ⟨b, off, ds, rfl, hm, hds⟩ := h5.resolve_left hm0
    have hyp : 0 < ys.length := List.length_pos_iff.2 hm0
    have hdl := Enc.okL_len hds
    have hge := grownCap_ge w (xs.length + ys.length) xs.length T
    have hr := run_append_grow (P := F.P) w U ty T ti zv (under_of hU) (info_of hI) hz ⟨g, o1, none⟩ xs.length xs.length cs (by rw [hti]; exact hcl) hm1.cell ⟨b, off, none⟩ ys.length c ds (by rw [hti]; exact hdl) hm.cell (by omega) (by omega) (growslice_fits (by omega) (by
      have : (xs.length + ys.length) * ti.bytes ≤ 4294967296 * 4096 := Nat.mul_le_mul hlen hby
      omega))
    obtain ⟨w', hw'⟩ : ∃ w', w' = w.drew.alloc (.cells (cs.toArray ++ ds.toArray ++ Builtin.zeroCells zv.cells (grownCap w (xs.length + ys.length) xs.length T - (xs.length + ys.length))) T (0, 0)) := ⟨_, rfl⟩
    have hb : Below w.heap.size w w' := by rw [hw']; exact (Below.refl _ w).drew.alloc (Nat.le_refl _) _
    refine OpWp.value (hexec _ w' (by rw [hw']; exact hr)) ⟨ρ, fun _ _ => rfl, hb, ?_, noNew⟩
    simp only [Slot.ok]
    have hE : Ext S (Un S ρ []) w w' := by rw [Un.none]; exact Ext.of_below hb fun _ _ h => h
    refine val_sl.2 ⟨_, _, by rw [List.length_append], ⟨by rw [List.length_append]; exact hge, by rw [List.length_append]; omega⟩, .inr ⟨w.heap.size, 0, cs ++ ds, rfl, ?_, ?_, ?_, Enc.okL_mono (Enc.okL_append hcs hds) hE⟩⟩
    · rw [hw', World.size_alloc]; exact Nat.lt_succ_self _
    · rw [Un.none]; intro h; have := K.low _ h; omega
    · have h6 : w'.heap[w.heap.size]? = some (.cells ([] ++ ((cs ++ ds) ++ (Builtin.zeroCells zv.cells (grownCap w (xs.length + ys.length) xs.length T - (xs.length + ys.length))).toList)).toArray T (0, 0)) := by
        rw [hw', show w.heap.size = w.drew.heap.size from rfl, heap_alloc_new]
        congr 2
        apply Array.ext'; simp
      have := (MemAt.of_heap h6).sub
      simpa using this
end
end Go.Sw

namespace Go.Sw
open Go Go.RowKit
/-- leaves the world as it was -/
def Keeps {α : Type} (P : Program) (s : Sem α) : Prop := ∀ w x w', s.run P w = .ok x w' → w' = w
section
variable {P : Program} {α β : Type}
theorem Keeps.pure (x : α) : Keeps P (pure x : Sem α) := fun w y w' h => by simp at h; exact h.2.symm
theorem Keeps.bind {s : Sem α} {f : α → Sem β} (h1 : Keeps P s) (h2 : ∀ x, Keeps P (f x)) : Keeps P (s >>= f) := by
  intro w y w' h
  rw [Sem.run_bind] at h
  cases hr : s.run P w with
  | ok x w1 =>
    rw [hr] at h
    have e1 := h1 _ _ _ hr
    subst e1
    exact h2 x _ _ _ h
  | halt x w1 => rw [hr] at h; simp at h
theorem Keeps.halt {x} : Keeps P (.halt x : Sem α) := fun w y w' h => by simp [Sem.run] at h
theorem Keeps.program : Keeps P Go.program := fun w y w' h => by simp at h; exact h.2.symm
theorem Keeps.load {a : Addr} : Keeps P (load a) := fun w y w' h => by
  simp [Go.load, Sem.run] at h
  split at h
  · simp at h; exact h.2.symm
  · split at h
    · simp at h; exact h.2.symm
    · simp at h
theorem Keeps.shape {r : Nat} : Keeps P (shape r) := fun w y w' h => by simp [Go.shape, Sem.run] at h; exact h.2.symm
theorem Keeps.underlying {t : TypeId} : Keeps P (underlying t) := by
  unfold Go.underlying
  refine .bind .program fun p => ?_
  split
  · exact .pure _
  · exact .halt
theorem Keeps.typeInfo {t : TypeId} : Keeps P (typeInfo t) := by
  unfold Go.typeInfo
  refine .bind .program fun p => ?_
  split
  · exact .pure _
  · exact .halt
theorem Keeps.sizeOf {t : TypeId} : Keeps P (sizeOf t) := .bind .typeInfo fun _ => .pure _
theorem Keeps.isAgg {t : TypeId} : Keeps P (isAgg t) := by
  unfold Go.isAgg
  refine .bind .underlying fun p => ?_
  split <;> exact .pure _
theorem Keeps.loadCellsFrom {a : Addr} : ∀ (n i : Nat) (acc : Array Value), Keeps P (loadCellsFrom a i n acc)
  | 0, _, _ => .pure _
  | n + 1, i, _ => .bind .load fun _ => Keeps.loadCellsFrom n (i + 1) _
theorem Keeps.loadVar {t : TypeId} {a : Addr} : Keeps P (loadVar t a) := by
  unfold Go.loadVar
  refine .bind .isAgg fun b => ?_
  split
  · exact .bind .sizeOf fun n => .bind (.loadCellsFrom _ _ _) fun _ => .pure _
  · exact .load
theorem Keeps.sureAddr {v : Value} : Keeps P (Instr.sureAddr v) := by
  unfold Instr.sureAddr
  split
  · exact .pure _
  · exact .halt
theorem Keeps.getObj {r : Nat} : Keeps P (getObj r) := fun w y w' h => by
  simp [Go.getObj, Sem.run] at h
  split at h <;> simp at h
  exact h.2.symm
theorem Keeps.noView {a : Addr} : Keeps P (noView a) := by
  unfold Go.noView Go.viewAt
  refine .bind (.bind .shape fun o => ?_) fun o => ?_
  · split
    · exact .pure _
    · refine .bind .getObj fun o => ?_
      split <;> exact .pure _
  · split
    · exact .halt
    · exact .pure _
theorem Keeps.byteOf {a : Addr} : Keeps P (byteOf a) := by
  unfold Go.byteOf
  split
  · exact .pure _
  · refine .bind .program fun p => .bind .noView fun _ => .bind .shape fun o => ?_
    split
    · simp only []
      split
      · exact .pure _
      · split
        · exact .pure _
        · exact .halt
    · exact .halt
theorem Keeps.fieldPlace {a : Addr} {f : Field} : Keeps P (fieldPlace a f) := by
  unfold Go.fieldPlace
  refine .bind .sizeOf fun n => ?_
  split
  · unfold Go.partAt
    refine .bind .byteOf fun _ => .bind .byteOf fun _ => .pure _
  · exact .pure _
theorem Keeps.fieldAt {t : TypeId} {v : Value} {f : Nat} : Keeps P (Instr.fieldAt t v f) := by
  unfold Instr.fieldAt
  refine .bind .underlying fun d => ?_
  split
  · split
    · exact .bind .sureAddr fun a => .bind .fieldPlace fun _ => .pure _
    · exact .halt
  · exact .halt
theorem keeps_value {s : Sem Value} (h : Keeps P s) {w w' : World} {x : Next} (hr : (do pure (.value (← s)) : Sem Next).run P w = .ok x w') : w' = w ∧ ∃ v, x = .value v := by
  rw [Sem.run_bind] at hr
  cases hs : s.run P w with
  | ok v w1 => rw [hs] at hr; simp at hr; have := h _ _ _ hs; subst this; exact ⟨hr.2.symm, v, hr.1.symm⟩
  | halt y w1 => rw [hs] at hr; simp at hr
/-- an operation that looks and makes nothing -/
def quiet (o : Oper) : Bool := match o.op with
  | .move _ | .assign _ | .load _ _ | .fieldAddr _ _ _ => true
  | _ => false
theorem quiet_value {o : Oper} (h : quiet o = true) {f : Operand → Value} {w w' : World} {x : Next} (hr : (execOp f o).run P w = .ok x w') : w' = w ∧ ∃ v, x = .value v := by
  obtain ⟨d, op, ty, p, af, gd⟩ := o
  cases op <;> simp only [quiet] at h <;> try cases h
  · simp [execOp] at hr; exact ⟨hr.2.symm, _, hr.1.symm⟩
  · simp [execOp] at hr; exact ⟨hr.2.symm, _, hr.1.symm⟩
  · exact keeps_value (s := Instr.loadAt _ _) (.bind .sureAddr fun a => .loadVar) hr
  · exact keeps_value (s := Instr.fieldAt _ _ _) .fieldAt hr
end
end Go.Sw

namespace Go.Sw
open Go Go.RowKit
structure QI where
  i : Nat
  t : Nat
  s : Slot
section
variable {F : Frm} {ops : Array Oper} {σ σ' σA : AS}
/-- those that look alone, in the text's order -/
inductive QA (F : Frm) (ops : Array Oper) : List QI → AS → AS → Prop
  | nil {σ : AS} : QA F ops [] σ σ
  | cons {σ σ' : AS} {l : List QI} {i t : Nat} {s : Slot} {o : Oper} : ops[i]? = some o → JO F o σ s [] → QA F ops l ⟨(t, s) :: σ.g, σ.d⟩ σ' → QA F ops (⟨i, t, s⟩ :: l) σ σ'
def StG (σ σ' : AS) : List Nat → Prop
  | [] => True
  | u :: us => lk σ'.g u = lk σ.g u ∧ StG σ σ' us
def StD (σ σ' : AS) : List Nat → Prop
  | [] => True
  | u :: us => lkE σ'.d u = lkE σ.d u ∧ StD σ σ' us
theorem StG.at {u : Nat} : ∀ {us : List Nat}, StG σ σ' us → u ∈ us → lk σ'.g u = lk σ.g u
  | [], _, h => by cases h
  | v :: us, ⟨h1, h2⟩, h => by
    rcases List.mem_cons.1 h with rfl | h
    · exact h1
    · exact StG.at h2 h
theorem StD.at {u : Nat} : ∀ {us : List Nat}, StD σ σ' us → u ∈ us → lkE σ'.d u = lkE σ.d u
  | [], _, h => by cases h
  | v :: us, ⟨h1, h2⟩, h => by
    rcases List.mem_cons.1 h with rfl | h
    · exact h1
    · exact StD.at h2 h
/-- those that stand in a chain -/
inductive QB (F : Frm) (ops : Array Oper) (us ls : List Nat) : List Nat → AS → AS → Prop
  | nil {σ : AS} : QB F ops us ls [] σ σ
  | cons {σ σ1 σ' : AS} {b : Nat} {bs : List Nat} {o : Oper} : ops[b]? = some o → JM F o σ σ1 → StG σ σ1 us → StD σ σ1 ls → QB F ops us ls bs σ1 σ' → QB F ops us ls (b :: bs) σ σ'
  | sub {σ σ1 σ' : AS} {bs : List Nat} : Sub F σ σ1 → StG σ σ1 us → StD σ σ1 ls → QB F ops us ls bs σ1 σ' → QB F ops us ls bs σ σ'
theorem JM.of_jo {o : Oper} {s : Slot} {new : List (Nat × Ent)} (h : JO F o σ s new) (hf : σ.free new = true) (hd : dstOk o.dst F.N = true) : JM F o σ ⟨gput o.dst s σ.g, new ++ σ.d⟩ := by
  rintro a w ⟨⟨ρ, hc, hs⟩, hz, hde⟩
  refine (h ρ _ a w (Know.of_st hc hs _)).mono fun v w' hr => ?_
  have := St.put hc hs hz hde hf hd hr
  cases hd' : o.dst with
  | none => rw [hd'] at this; exact this
  | some t => rw [hd'] at this; exact this
theorem QB.done {us ls : List Nat} : ∀ {bs : List Nat} {σ σ' : AS}, QB F ops us ls bs σ σ' → bs = [] → Sub F σ σ' := by
  intro bs σ σ' h
  induction h with
  | nil => exact fun _ a w h => h
  | cons _ _ _ _ _ _ => intro h; cases h
  | sub h1 _ _ _ ih => exact fun e a w h => ih e a w (h1 a w h)
theorem StG.trans {σ1 σ2 σ3 : AS} : ∀ {us : List Nat}, StG σ1 σ2 us → StG σ2 σ3 us → StG σ1 σ3 us
  | [], _, _ => trivial
  | _ :: _, ⟨h1, h2⟩, ⟨k1, k2⟩ => ⟨k1.trans h1, h2.trans k2⟩
theorem StD.trans {σ1 σ2 σ3 : AS} : ∀ {us : List Nat}, StD σ1 σ2 us → StD σ2 σ3 us → StD σ1 σ3 us
  | [], _, _ => trivial
  | _ :: _, ⟨h1, h2⟩, ⟨k1, k2⟩ => ⟨k1.trans h1, h2.trans k2⟩
theorem StG.rfl' {σ : AS} : ∀ {us : List Nat}, StG σ σ us
  | [] => trivial
  | _ :: _ => ⟨rfl, StG.rfl'⟩
theorem StD.rfl' {σ : AS} : ∀ {us : List Nat}, StD σ σ us
  | [] => trivial
  | _ :: _ => ⟨rfl, StD.rfl'⟩
theorem QB.head {us ls : List Nat} : ∀ {bs : List Nat} {σ σ' : AS}, QB F ops us ls bs σ σ' → ∀ {b : Nat} {r : List Nat}, bs = b :: r →
    ∃ σ1 o σ2, Sub F σ σ1 ∧ ops[b]? = some o ∧ JM F o σ1 σ2 ∧ StG σ σ1 us ∧ StD σ σ1 ls ∧ StG σ σ2 us ∧ StD σ σ2 ls ∧ QB F ops us ls r σ2 σ' := by
  intro bs σ σ' h
  induction h with
  | nil => intro b r e; cases e
  | cons ho hm hg hd hb _ => intro b r e; cases e; exact ⟨_, _, _, fun _ _ h => h, ho, hm, StG.rfl', StD.rfl', hg, hd, hb⟩
  | sub hs hg hd _ ih =>
    intro b r e
    obtain ⟨σ1, o, σ2, h1, h2, h3, h4, h5, h6, h7, h8⟩ := ih e
    exact ⟨σ1, o, σ2, fun a w h => h1 a w (hs a w h), h2, h3, hg.trans h4, hd.trans h5, hg.trans h6, hd.trans h7, h8⟩

def notSel (o : Oper) : Bool := match o.op with | .select _ _ => false | _ => true
def chainB (ms : List Nat) : List Nat → Bool
  | [] => true
  | b :: r => r.all (fun c => (ms.getD c 0).testBit b) && chainB ms r
def ordA (ops : Array Oper) : List QI → Bool
  | [] => true
  | x :: r => (match ops[x.i]? with | some o => !(looks ops o).contains x.t && r.all (fun y => !(looks ops o).contains y.t && y.t != x.t) | none => false) && ordA ops r
def part3 (ops : Array Oper) (ms : List Nat) (q : List QI) (bs us : List Nat) (N : Nat) : Bool :=
  (List.range ops.size).all (fun i => (q.map (·.i)).contains i || bs.contains i) &&
  q.all (fun x => match ops[x.i]? with
    | none => false
    | some o => (quiet o && o.guard.isNone && o.dst == some x.t && Nat.blt x.t N && (looks ops o).all us.contains && us.contains x.t) &&
      (List.range ops.size).all fun j => match ops[j]? with | none => false | some o' => (j == x.i || o'.dst != some x.t) && (!(looks ops o').contains x.t || (ms.getD j 0).testBit x.i)) &&
  bs.all (fun b => match ops[b]? with | none => false | some o => o.guard.isNone && notSel o && !(q.map (·.i)).contains b) && chainB ms bs && ordA ops q
def reads3 (ops : Array Oper) (σA : AS) (q : List QI) (ls : List Nat) : Bool := q.all fun x => match ops[x.i]? with | none => false | some o => (rdl σA.g o).all ls.contains

theorem QA.outside : ∀ {q : List QI} {σ σA : AS}, QA F ops q σ σA → σA.d = σ.d ∧ ∀ u, (∀ x ∈ q, x.t ≠ u) → lk σA.g u = lk σ.g u := by
  intro q σ σA h
  induction h with
  | nil => exact ⟨rfl, fun _ _ => rfl⟩
  | cons _ _ _ ih =>
    refine ⟨ih.1, fun u hu => ?_⟩
    rw [ih.2 u fun x hx => hu x (List.mem_cons_of_mem _ hx), lk_cons, if_neg (hu ⟨_, _, _⟩ List.mem_cons_self)]
theorem QA.at : ∀ {q : List QI} {σ σA : AS}, QA F ops q σ σA → ordA ops q = true → ∀ x ∈ q, ∃ o, ops[x.i]? = some o ∧ JO F o σA x.s [] ∧ lk σA.g x.t = some x.s := by
  intro q σ σA h
  induction h with
  | nil => intro _ x hx; cases hx
  | cons ho hj hq ih =>
    rename_i σ σ' l i t s o
    intro hor x hx
    simp only [ordA, ho, Bool.and_eq_true, List.all_eq_true] at hor
    rcases List.mem_cons.1 hx with rfl | hx
    · obtain ⟨hd, hg⟩ := hq.outside
      refine ⟨o, ho, JO.loc (ops := ops) hj ⟨fun u hu => ?_, fun l _ => by rw [hd]⟩, ?_⟩
      · have hne : ∀ y ∈ l, y.t ≠ u := fun y hy e => by
          have h1 := (hor.1.2 y hy).1
          subst e; simp at h1; exact h1 hu
        have h0 := hor.1.1
        rw [hg u hne, lk_cons, if_neg (fun e => by subst e; simp at h0; exact h0 hu)]
      · rw [hg t (fun y hy e => by have h1 := (hor.1.2 y hy).2; subst e; simp at h1)]
        simp [lk_cons]
    · exact ih hor.2 x hx
/-- what they would come to at once -/
theorem QA.would : ∀ {q : List QI} {σ σA : AS}, QA F ops q σ σA → (∀ x ∈ q, ∃ o, ops[x.i]? = some o ∧ quiet o = true ∧ o.dst = some x.t ∧ x.t < F.N) → ∀ {a : Act} {w : World}, St F σ a w →
    ∃ b, St F σA b w ∧ b.tmps.size = a.tmps.size ∧ b.defers = a.defers ∧ ∀ u, (∀ x ∈ q, x.t ≠ u) → b.tmps.getD u undef = a.tmps.getD u undef := by
  intro q σ σA h
  induction h with
  | nil => exact fun _ a w h => ⟨a, h, rfl, rfl, fun _ _ => rfl⟩
  | cons ho hj hq ih =>
    rename_i σ σ' l i t s o
    intro hall a w hst
    obtain ⟨o', ho', hqu, hdst, hlt⟩ := hall ⟨i, t, s⟩ List.mem_cons_self
    have ho' : ops[i]? = some o' := ho'
    rw [ho] at ho'; cases ho'
    obtain ⟨⟨ρ, hc, hs⟩, hz, hde⟩ := hst
    have hr := hj ρ _ a w (Know.of_st hc hs _)
    have hlt : t < F.N := hlt
    have hdst : o.dst = some t := hdst
    have key : ∃ v, Res ρ (Un F.S0 ρ σ.d) w s [] v w := by
      rcases hr with ⟨v, w', h1, h2⟩ | ⟨w', h1, _⟩ | ⟨f, args, w', h1, _⟩ | ⟨l', f, tm, as, bd, w', h1, _⟩
      · have := (quiet_value hqu h1).1; subst this; exact ⟨v, h2⟩
      · obtain ⟨_, v, h3⟩ := quiet_value hqu h1; cases h3
      · obtain ⟨_, v, h3⟩ := quiet_value hqu h1; cases h3
      · obtain ⟨_, v, h3⟩ := quiet_value hqu h1; cases h3
    obtain ⟨v, hv⟩ := key
    have hst1 : St F ⟨(t, s) :: σ.g, σ.d⟩ (a.put (some t) v) w := St.put (dst := some t) (new := []) hc hs hz hde rfl (by simpa [dstOk] using hlt) hv
    obtain ⟨b, h1, h2, h3, h4⟩ := ih (fun x hx => hall x (List.mem_cons_of_mem _ hx)) hst1
    refine ⟨b, h1, by rw [h2, Act.size_put], h3, fun u hu => ?_⟩
    rw [h4 u fun x hx => hu x (List.mem_cons_of_mem _ hx), Act.getD_put a t v u (by rw [hz]; exact hlt), if_neg (hu ⟨i, t, s⟩ List.mem_cons_self)]
theorem St.same {a b : Act} {w : World} (h : St F σ a w) (hz : b.tmps.size = a.tmps.size) (hd : b.defers = a.defers) (hg : ∀ u, b.tmps.getD u undef = a.tmps.getD u undef) : St F σ b w := by
  obtain ⟨⟨ρ, hc, hs⟩, h1, h2⟩ := h
  exact ⟨⟨ρ, hc, fun t s ht => by rw [hg]; exact hs t s ht⟩, by rw [hz, h1], by rw [hd, h2]⟩
theorem eval_same {a b : Act} {x : Operand} {o : Oper} (hx : x ∈ o.op.operands) (h : ∀ u ∈ looks ops o, b.tmps.getD u undef = a.tmps.getD u undef) : b.eval x = a.eval x := by
  cases x with
  | tmp u => exact h u (by simp only [looks, List.mem_append, List.mem_flatMap]; exact .inl ⟨_, by simpa using hx, by simp [rd]⟩)
  | const u => rfl
  | global g => rfl
  | func f => rfl
theorem OpWp.same {a b : Act} {o : Oper} {w : World} {K : Value → World → Prop} (hn : notSel o = true) (h : ∀ u ∈ looks ops o, b.tmps.getD u undef = a.tmps.getD u undef) (hw : OpWp F.P o a w K) : OpWp F.P o b w K := by
  have e : execOp b.eval o = execOp a.eval o := execOp_congr o (fun cs bl hc => by simp [notSel, hc] at hn) fun x hx => eval_same hx h
  unfold OpWp at hw ⊢
  rw [e]; exact hw
theorem Know.same {a b : Act} {o : Oper} {ρ : Nat → LV} {S : Nat → Prop} {w : World} (h : ∀ u ∈ looks ops o, b.tmps.getD u undef = a.tmps.getD u undef) (k : Know σ o.op.operands ρ S a w) : Know σ o.op.operands ρ S b w :=
  ⟨k.low, fun x hx s hs => by rw [eval_same hx h]; exact k.slot x hx s hs, k.ent⟩
/-- what is listed, told by a function -/
theorem ready_iff {listed : Array Bool} {L : Nat → Bool} (hls : listed.size = ops.size) (hL : ∀ i, i < ops.size → listed.getD i false = L i) (i : Nat) : i ∈ Region.ready .any ops listed ↔
    (i < ops.size ∧ L i = false ∧ ∀ o, ops[i]? = some o → ∀ j ∈ deps o, j < ops.size ∧ L j = true) := by
  have hgetD : ∀ i d, i < ops.size → listed.getD i d = L i := by
    intro i d hi
    have := hL i hi
    rw [Array.getD_eq_getD_getElem?] at this ⊢
    rw [Array.getElem?_eq_getElem (by omega)] at this ⊢
    simpa using this
  unfold Region.ready
  rw [List.mem_filter, List.mem_range]
  constructor
  · rintro ⟨h1, h2⟩
    simp only [Bool.and_eq_true, Bool.not_eq_true'] at h2
    obtain ⟨h2, h3⟩ := h2
    rw [hgetD i true h1] at h2
    refine ⟨h1, h2, fun o ho j hj => ?_⟩
    rw [ho] at h3
    simp only [Option.map_some, Option.getD_some] at h3
    obtain ⟨e, he, hej⟩ := List.mem_filterMap.1 hj
    have he' : e ∈ o.after := by simpa using he
    have := Array.all_eq_true_iff_forall_mem.1 h3 e he'
    split at hej
    · rename_i hb
      cases hej
      rw [hb] at this
      simp only [Bool.not_true, Bool.false_or] at this
      rcases Nat.lt_or_ge e.on ops.size with hl | hl
      · rw [hgetD _ _ hl] at this; exact ⟨hl, this⟩
      · rw [Array.getD_eq_getD_getElem?, Array.getElem?_eq_none (by omega)] at this; simp at this
    · cases hej
  · rintro ⟨h1, h2, h3⟩
    refine ⟨h1, ?_⟩
    have ho : ops[i]? = some ops[i] := Array.getElem?_eq_getElem h1
    simp only [Bool.and_eq_true, Bool.not_eq_true', hgetD i true h1, h2, true_and, ho, Option.map_some, Option.getD_some]
    refine Array.all_eq_true_iff_forall_mem.2 fun e he => ?_
    cases hb : Region.binds .any e with
    | false => rfl
    | true =>
      have := h3 _ ho e.on (List.mem_filterMap.2 ⟨e, by simpa using he, by simp [hb]⟩)
      rw [hgetD _ _ this.1, this.2]; rfl
theorem listed_set {listed : Array Bool} {L : Nat → Bool} {j : Nat} (hls : listed.size = ops.size) (hL : ∀ i, i < ops.size → listed.getD i false = L i) : ∀ i, i < ops.size → (listed.setIfInBounds j true).getD i false = (i == j || L i) := by
  intro i hi
  by_cases hij : i = j
  · subst hij
    simp only [Array.getD_eq_getD_getElem?, Array.getElem?_setIfInBounds]
    simp [hls, hi]
  · rw [getD_set_ne false (Ne.symm hij), hL i hi]; simp [hij]
theorem put_agree {a b : Act} {d : Option Tmp} {v : Value} {u : Nat} (hz : a.tmps.size = b.tmps.size) (h : d ≠ some u → a.tmps.getD u undef = b.tmps.getD u undef) : (a.put d v).tmps.getD u undef = (b.put d v).tmps.getD u undef := by
  cases d with
  | none => exact h (by simp)
  | some d =>
    by_cases hd : d < a.tmps.size
    · rw [Act.getD_put a d v u hd, Act.getD_put b d v u (hz ▸ hd)]
      by_cases e : d = u
      · rw [if_pos e, if_pos e]
      · rw [if_neg e, if_neg e]; exact h (by simpa using e)
    · have e1 : (a.put (some d) v).tmps = a.tmps := by simp [Act.put, Array.setIfInBounds, hd]
      have e2 : (b.put (some d) v).tmps = b.tmps := by simp [Act.put, Array.setIfInBounds, hz ▸ hd]
      rw [e1, e2]
      by_cases e : d = u
      · subst e
        rw [Array.getD_eq_getD_getElem?, Array.getD_eq_getD_getElem?, Array.getElem?_eq_none (Nat.le_of_not_lt hd), Array.getElem?_eq_none (Nat.le_of_not_lt (hz ▸ hd))]
      · exact h (by simpa using e)
theorem chainB_at {ms : List Nat} : ∀ {bs : List Nat}, chainB ms bs = true → ∀ pre b r, bs = pre ++ b :: r → ∀ c ∈ r, (ms.getD c 0).testBit b = true
  | [], _, pre, b, r, e => by simp at e
  | x :: bs, h, pre, b, r, e => by
    simp only [chainB, Bool.and_eq_true, List.all_eq_true] at h
    cases pre with
    | nil => simp at e; obtain ⟨rfl, rfl⟩ := e; exact h.1
    | cons y pre => simp at e; exact chainB_at h.2 pre b r e.2
theorem W.dr3 {id : Nat} {cs : List Code} {Q : Exit → Act → World → Prop} (q : List QI) (bs us ls ms : List Nat) (hm : F.P.follows .mixedOrders = true) (hq : QA F ops q σ σA) (hb : QB F ops us ls bs σA σ')
    (hbk : backOk ops = true) (hms : msOk ops ms = true) (hp : part3 ops ms q bs us F.N = true) (hr : reads3 ops σA q ls = true) (k : W F cs σ' Q) : W F (.region id ops true :: cs) σ Q := by
  intro a w hs
  have hanc := ms_spec hbk hms
  simp only [part3, Bool.and_eq_true, List.all_eq_true] at hp
  obtain ⟨⟨⟨⟨p1, p2⟩, p3⟩, p4⟩, p5⟩ := hp
  have hqA := hq.at p5
  have hA : ∀ x ∈ q, ∃ o, ops[x.i]? = some o ∧ quiet o = true ∧ o.guard = none ∧ o.dst = some x.t ∧ x.t < F.N ∧ (∀ u ∈ looks ops o, u ∈ us) ∧ x.t ∈ us ∧
      ∀ j o', ops[j]? = some o' → (j = x.i ∨ o'.dst ≠ some x.t) ∧ (x.t ∈ looks ops o' → Anc ops j x.i) := by
    intro x hx
    have h1 := p2 x hx
    cases ho : ops[x.i]? with
    | none => rw [ho] at h1; simp at h1
    | some o =>
      rw [ho] at h1
      simp only [Bool.and_eq_true, List.all_eq_true, Option.isNone_iff_eq_none, beq_iff_eq] at h1
      obtain ⟨⟨⟨⟨⟨⟨h2, h3⟩, h4⟩, h5⟩, h6⟩, h7⟩, h8⟩ := h1
      refine ⟨o, rfl, h2, h3, h4, Nat.le_of_ble_eq_true h5, fun u hu => by simpa using h6 u hu, by simpa using h7, fun j o' ho' => ?_⟩
      have hj : j < ops.size := by
        rcases Nat.lt_or_ge j ops.size with h | h
        · exact h
        · simp [Array.getElem?_eq_none h] at ho'
      have h9 := h8 j (List.mem_range.2 hj)
      rw [ho'] at h9
      simp only [Bool.and_eq_true, Bool.or_eq_true, Bool.not_eq_true', beq_iff_eq, bne_iff_ne] at h9
      refine ⟨h9.1, fun hc => ?_⟩
      rcases h9.2 with h | h
      · simp at h; exact absurd hc h
      · exact hanc _ _ h
  have hB : ∀ b ∈ bs, ∃ o, ops[b]? = some o ∧ o.guard = none ∧ notSel o = true ∧ ∀ x ∈ q, x.i ≠ b := by
    intro b hb
    have h1 := p3 b hb
    cases ho : ops[b]? with
    | none => rw [ho] at h1; simp at h1
    | some o =>
      rw [ho] at h1
      simp only [Bool.and_eq_true, Option.isNone_iff_eq_none, Bool.not_eq_true'] at h1
      obtain ⟨⟨h2, h3⟩, h4⟩ := h1
      refine ⟨o, rfl, h2, h3, fun x hx e => ?_⟩
      have : (q.map (·.i)).contains b = true := by simpa using ⟨x, hx, e⟩
      rw [this] at h4; cases h4
  have hall : ∀ i, i < ops.size → (∃ x ∈ q, x.i = i) ∨ i ∈ bs := by
    intro i hi
    have h1 := p1 i (List.mem_range.2 hi)
    rw [Bool.or_eq_true] at h1
    rcases h1 with h1 | h1
    · left; simpa using h1
    · right; simpa using h1
  have hrd : ∀ x ∈ q, ∀ o, ops[x.i]? = some o → ∀ l ∈ rdl σA.g o, l ∈ ls := by
    intro x hx o ho l hl
    have h1 := List.all_eq_true.1 hr x hx
    rw [ho] at h1
    simpa using List.all_eq_true.1 h1 l hl
  have hwanted : ∀ (o : Oper) (y : Nat → Option Value), o.guard = none → True := fun _ _ _ => trivial
  have hdown : ∀ (L : Nat → Bool) (i : Nat), Down ops L → (∀ o, ops[i]? = some o → ∀ j ∈ deps o, j < ops.size ∧ L j = true) → Down ops (fun j => j == i || L j) := by
    intro L i hdn h3 j o hj hoj d hd
    by_cases hji : j = i
    · subst hji; simp [(h3 o hoj d hd).2]
    · have : L j = true := by simpa [hji] using hj
      simp [hdn j o this hoj d hd]
  have hancL : ∀ (L : Nat → Bool) (i : Nat), Down ops L → (∀ o, ops[i]? = some o → ∀ j ∈ deps o, j < ops.size ∧ L j = true) → ∀ j, Anc ops i j → L j = true := by
    intro L i hdn h3 j hj
    cases hj with
    | one ho' hd => exact (h3 _ ho' _ hd).2
    | up ho' hd hr => exact hr.down hdn (h3 _ ho' _ hd).2
  have fin : ∀ (L : Nat → Bool) (rest : List Nat) (σk : AS) (a b : Act) (w : World), (∀ i, i < ops.size → L i = true) → (∀ c ∈ rest, c ∈ bs ∧ L c = false) → QB F ops us ls rest σk σ' → St F σk b w → a.tmps.size = b.tmps.size → a.defers = b.defers →
      (∀ u, (∀ x ∈ q, x.t = u → L x.i = true) → a.tmps.getD u undef = b.tmps.getD u undef) → Exit.then (run F.fe F.P Q cs) Q .normal a w := by
    intro L rest σk a b w hL hrest hQ hst hz hde hag
    have hlt : ∀ {i : Nat} {o : Oper}, ops[i]? = some o → i < ops.size := by
      intro i o ho
      rcases Nat.lt_or_ge i ops.size with h | h
      · exact h
      · simp [Array.getElem?_eq_none h] at ho
    have hnil : rest = [] := by
      cases rest with
      | nil => rfl
      | cons c r =>
        obtain ⟨h1, h2⟩ := hrest c List.mem_cons_self
        obtain ⟨o, ho, _⟩ := hB c h1
        rw [hL c (hlt ho)] at h2; cases h2
    exact k a w ((hQ.done hnil b w hst).same hz hde fun u => hag u fun x hx _ => by
      obtain ⟨o, ho, _⟩ := hA x hx
      exact hL _ (hlt ho))
  have main : ∀ fuel (listed : Array Bool) (L : Nat → Bool) (pre rest : List Nat) (σk : AS) (a b : Act) (w : World), listed.size = ops.size → (∀ i, i < ops.size → listed.getD i false = L i) → Down ops L → bs = pre ++ rest → (∀ c ∈ pre, L c = true) → (∀ c ∈ rest, L c = false) →
      ((List.range ops.size).filter fun i => L i).length + fuel = ops.size → QB F ops us ls rest σk σ' → StG σA σk us → StD σA σk ls → St F σk b w → a.tmps.size = b.tmps.size → a.defers = b.defers → (∀ u, (∀ x ∈ q, x.t = u → L x.i = true) → a.tmps.getD u undef = b.tmps.getD u undef) →
      wpAnyIn F.fe 0 F.P .any ops (Exit.then (run F.fe F.P Q cs) Q) fuel listed a w := by
    intro fuel
    induction fuel with
    | zero =>
      intro listed L pre rest σk a b w hls hL hdn hbs hpre hrest hcnt hQ hG hD hst hz hde hag
      have hallL : ∀ i, i < ops.size → L i = true := by
        have hc : ((List.range ops.size).filter fun i => L i).length = (List.range ops.size).length := by simpa using hcnt
        have := List.length_filter_eq_length_iff.1 hc
        exact fun i hi => this i (List.mem_range.2 hi)
      refine ⟨List.eq_nil_iff_forall_not_mem.2 fun i hi => ?_, fin L rest σk a b w hallL (fun c hc => ⟨by rw [hbs]; exact List.mem_append_right _ hc, hrest c hc⟩) hQ hst hz hde hag⟩
      obtain ⟨h1, h2, _⟩ := (ready_iff hls hL i).1 hi
      rw [hallL i h1] at h2; cases h2
    | succ fuel ih =>
      intro listed L pre rest σk a b w hls hL hdn hbs hpre hrest hcnt hQ hG hD hst hz hde hag
      refine ⟨fun hre => ?_, fun i hi => ?_⟩
      · refine fin L rest σk a b w ?_ (fun c hc => ⟨by rw [hbs]; exact List.mem_append_right _ hc, hrest c hc⟩) hQ hst hz hde hag
        intro i
        induction i using Nat.strongRecOn with
        | _ i ihi =>
          intro hi
          cases hLi : L i with
          | true => rfl
          | false =>
            exfalso
            have hnr : i ∉ Region.ready .any ops listed := by rw [hre]; simp
            refine hnr ((ready_iff hls hL i).2 ⟨hi, hLi, fun o ho j hj => ?_⟩)
            have := back_dep hbk ho hj
            exact ⟨by omega, ihi j this (by omega)⟩
      · obtain ⟨h1, h2, h3⟩ := (ready_iff hls hL i).1 hi
        have hanci := hancL L i hdn h3
        have hcnt' : ((List.range ops.size).filter fun j => j == i || L j).length + fuel = ops.size := by
          have := count_add ops.size i L h1 h2
          omega
        unfold wpOpIn
        rcases hall i h1 with ⟨x, hx, rfl⟩ | hib
        · obtain ⟨o, ho, hqu, hg, hdst, hlt, hlk, htu, hoth⟩ := hA x hx
          rw [ho]
          have hw : Region.wanted o (yielded ops a.tmps) = true := by unfold Region.wanted; rw [hg]
          simp only [hw, if_true]
          have hagr : ∀ u ∈ looks ops o, a.tmps.getD u undef = b.tmps.getD u undef := by
            intro u hu
            refine hag u fun y hy e => ?_
            obtain ⟨_, _, _, _, _, _, _, _, hy2⟩ := hA y hy
            subst e
            exact hanci _ ((hy2 _ o ho).2 hu)
          obtain ⟨o2, ho2, hjo, hlk2⟩ := hqA x hx
          rw [ho] at ho2; cases ho2
          have hloc : Loc ops o σA σk := ⟨fun u hu => hG.at (hlk u hu), fun l hl => hD.at (hrd x hx o ho l hl)⟩
          have hst' := hst
          obtain ⟨⟨ρ, hc, hsl⟩, hbz, hbd⟩ := hst
          refine (JO.loc hjo hloc ρ _ a w (Know.same hagr (Know.of_st hc hsl _))).wpIn fun v w' hres => ?_
          refine ih _ (fun j => j == x.i || L j) pre rest σk (a.put o.dst v) (b.put (some x.t) v) w' (by simpa using hls) (listed_set hls hL) (hdown L x.i hdn h3) hbs (fun c hc => by simp [hpre c hc]) (fun c hc => ?_) hcnt' hQ hG hD ?_ (by rw [Act.size_put, Act.size_put, hz]) (by rw [hdst]; exact hde) ?_
          · obtain ⟨_, _, _, _, h6⟩ := hB c (by rw [hbs]; exact List.mem_append_right _ hc)
            have := h6 x hx
            simp [hrest c hc, Ne.symm this]
          · have h7 : St F ⟨(x.t, x.s) :: σk.g, σk.d⟩ (b.put (some x.t) v) w' := St.put (dst := some x.t) (new := []) hc hsl hbz hbd rfl (by simpa [dstOk] using hlt) hres
            refine St.congr (σ := ⟨(x.t, x.s) :: σk.g, σk.d⟩) (σ' := σk) (fun u => ?_) (fun _ => rfl) h7
            show lk σk.g u = lk ((x.t, x.s) :: σk.g) u
            rw [lk_cons]
            split
            · rename_i e; subst e; rw [hG.at htu, hlk2]
            · rfl
          · intro u hu
            rw [hdst]
            refine put_agree hz fun hne => hag u fun y hy e => ?_
            have h8 := hu y hy e
            simp only [Bool.or_eq_true, beq_iff_eq] at h8
            rcases h8 with h8 | h8
            · exfalso
              obtain ⟨oy, hoy, _, _, hdy, _⟩ := hA y hy
              rw [h8, ho] at hoy; cases hoy
              rw [hdst] at hdy
              exact hne (by rw [Option.some.inj hdy, e])
            · exact h8
        · obtain ⟨o, ho, hg, hns, hnq⟩ := hB i hib
          rw [ho]
          have hw : Region.wanted o (yielded ops a.tmps) = true := by unfold Region.wanted; rw [hg]
          simp only [hw, if_true]
          have hir : i ∈ rest := by
            rw [hbs] at hib
            rcases List.mem_append.1 hib with h | h
            · rw [hpre i h] at h2; cases h2
            · exact h
          obtain ⟨r, rfl⟩ : ∃ r, rest = i :: r := by
            cases rest with
            | nil => cases hir
            | cons c r =>
              rcases List.mem_cons.1 hir with rfl | hir
              · exact ⟨r, rfl⟩
              · exfalso
                have := hanci c (hanc _ _ (chainB_at p4 pre c r hbs i hir))
                rw [hrest c List.mem_cons_self] at this; cases this
          have hagr : ∀ u ∈ looks ops o, a.tmps.getD u undef = b.tmps.getD u undef := by
            intro u hu
            refine hag u fun y hy e => ?_
            obtain ⟨_, _, _, _, _, _, _, _, hy2⟩ := hA y hy
            subst e
            exact hanci _ ((hy2 _ o ho).2 hu)
          obtain ⟨σ1, o2, σ2, k1, k2, k3, _, _, k6, k7, k8⟩ := hQ.head rfl
          rw [ho] at k2; cases k2
          refine (OpWp.same hns hagr (k3 b w (k1 b w hst))).wpIn fun v w' h' => ?_
          refine ih _ (fun j => j == i || L j) (pre ++ [i]) r σ2 (a.put o.dst v) (b.put o.dst v) w' (by simpa using hls) (listed_set hls hL) (hdown L i hdn h3) (by rw [hbs]; simp) (fun c hc => ?_) (fun c hc => ?_) hcnt' k8 (hG.trans k6) (hD.trans k7) h' (by rw [Act.size_put, Act.size_put, hz]) (by cases o.dst <;> exact hde) ?_
          · rcases List.mem_append.1 hc with hc | hc
            · simp [hpre c hc]
            · simp at hc; simp [hc]
          · have hne : c ≠ i := by
              rintro rfl
              have := (hanc _ _ (chainB_at p4 pre c r hbs c hc)).lt hbk
              omega
            simp [hne, hrest c (List.mem_cons_of_mem _ hc)]
          · intro u hu
            refine put_agree hz fun _ => hag u fun y hy e => ?_
            have h8 := hu y hy e
            simp only [Bool.or_eq_true, beq_iff_eq] at h8
            rcases h8 with h8 | h8
            · exact absurd h8 (hnq y hy)
            · exact h8
  refine wpIn_region_any hm ?_
  obtain ⟨⟨ρ, hc, hsl⟩, hz, hde⟩ := hs
  have hbl : Below w.heap.size w { w with drawn := w.drawn + 1 } := (Below.refl _ _).drew
  obtain ⟨hc', hE⟩ := hc.below hbl
  have hs' : St F σ a { w with drawn := w.drawn + 1 } := ⟨⟨ρ, hc', fun t s hts => Slot.ok_mono s _ (hsl t s hts) hE (fun _ _ => rfl)⟩, hz, hde⟩
  obtain ⟨b, k1, k2, k3, k4⟩ := hq.would (fun x hx => by
    obtain ⟨o, ho, h1, _, h2, h3, _⟩ := hA x hx
    exact ⟨o, ho, h1, h2, h3⟩) hs'
  refine main ops.size _ (fun _ => false) [] bs σA a b _ (by simp) (fun i hi => by rw [Array.getD_eq_getD_getElem?, Array.getElem?_replicate, if_pos hi]; rfl) (fun _ _ h => by cases h) rfl (fun _ h => by cases h) (fun _ _ => rfl) (by rw [List.filter_eq_nil_iff.2 (fun _ _ h => by cases h)]; simp) hb StG.rfl' StD.rfl' k1 k2.symm k3.symm fun u hu => (k4 u fun x hx e => by have := hu x hx e; cases this).symm
end
end Go.Sw
