/- A library over the model, part 2: how values lie, what is ours in memory, rules for operations, calls, loops, ranges over functions. Conditions: none. -/
import Derived.Test.YteckohdbfkhmdacSwA
import Derived.Laws.Cover3
import Derived.Laws.Externs
set_option linter.unusedVariables false
set_option linter.unusedSimpArgs false
namespace Go.Sw
open Go Go.RowKit

theorem Spl.prm {α β : Type} {l l' : List Slot} {a : Enc α} {b : Enc β} {x : α} {y : β} (h : Spl l a x) (h' : Spl l' b y) : Spl (l ++ l') (Enc.pr a b) (x, y) := Spl.pr (x := (x, y)) h h'

section
variable {F : Frm} {σ : AS} {pb : Option Nat} {s : Slot} {d : Option Tmp} {ty : TypeId} {p : String} {af : Array Edge} {gd : Option (Nat × Bool)} {x y z : Operand}
theorem JO.call0 {f : FuncId} {xs : List Operand} {ts : Array TypeId} {ss : List Slot} {res : Slot} (hc : Con F.P f ss res []) (hcall : ∀ args w, (callFunc f args).run F.P w = .ok (.enter f args) w)
    (ha : Args σ false xs ss) : JO F ⟨d, .call ⟨.value (.func f), xs.toArray, ts⟩, ty, p, af, gd⟩ σ res [] := by
  intro ρ S a w K
  refine OpWp.enter (run_call hcall) ?_
  have := ha.spec (ys := (Op.call ⟨.value (.func f), xs.toArray, ts⟩).operands) (by intro x hx; simp [Op.operands, Call.operands, hx]) K
  refine (hc S w _ ρ K.low this).mono ?_
  rintro e w' ⟨v, rfl, h⟩
  exact ⟨v, rfl, h⟩
/-- a call that is lent what is ours, and makes nothing of ours -/
theorem JO.callL0 {f : FuncId} {xs : List Operand} {ts : Array TypeId} {ss : List Slot} {res : Slot} (hc : Con F.P f ss res []) (hcall : ∀ args w, (callFunc f args).run F.P w = .ok (.enter f args) w)
    (ha : Args σ true xs ss) (hf : FlatS res) : JO F ⟨d, .call ⟨.value (.func f), xs.toArray, ts⟩, ty, p, af, gd⟩ σ res [] := by
  intro ρ S a w K
  refine OpWp.enter (run_call hcall) ?_
  have := ha.spec (ys := (Op.call ⟨.value (.func f), xs.toArray, ts⟩).operands) (by intro x hx; simp [Op.operands, Call.operands, hx]) K
  refine (hc (fun _ => False) w _ ρ (fun _ h => h.elim) this).mono ?_
  rintro e w' ⟨v, rfl, ρ', h1, h2, h3, h4⟩
  refine ⟨v, rfl, ρ', h1, h2, hf _ _ _ _ _ h3, ⟨fun i en h => by simp [lkE] at h, fun i en b h => by simp [lkE] at h, fun i j en en' b h => by simp [lkE] at h⟩⟩

/-! ### slices of arrays in boxes -/
theorem K_asl {xs : Array Operand} {ρ : Nat → LV} {S a w} (K : Know σ xs ρ S a w) (hm : x ∈ xs) {i off n cap : Nat} {T : TypeId} {l : List Slot} (hx : evS σ.g x = some (.asl i off 0 n cap)) (he : lkE σ.d i = some (.box T l pb)) :
    ∃ b cs, a.eval x = .slice (some ⟨b, off, none⟩) n cap ∧ w.heap[b]? = some (.cells cs.toArray T (0, 0)) ∧ Slot.okl ρ S w l cs := by
  have h := K.slot x hm _ hx
  simp only [Slot.ok] at h
  obtain ⟨⟨b, h1⟩, h2⟩ := h
  have := (K.ent x hm _ hx i (by simp [Slot.lab]) _ he).1
  obtain ⟨⟨b', cs, h3, h4, h5⟩, _⟩ := this
  obtain rfl : b' = b := by rw [h1] at h3; simpa using h3.symm
  exact ⟨b', cs, by rw [h2, h1]; rfl, h4, h5⟩
theorem asl_mem {α : Type} {e : Enc α} {zs : List α} {T : TypeId} {l : List Slot} {b off len : Nat} {cs : List Value} {ρ : Nat → LV} {S : Nat → Prop} {w : World} (h3 : w.heap[b]? = some (.cells cs.toArray T (0, 0))) (h4 : Slot.okl ρ S w l cs) (ho : offAt l off = some (.v (Enc.arr len e) zs)) :
    zs.length = len ∧ ∃ ds, MemAt w b off ds ∧ e.okL zs S w ds := by
  obtain ⟨pre, c, post, rfl, rfl, h5, _⟩ := okl_at ho h4
  simp only [Slot.okc] at h5
  exact ⟨h5.1, c, by have := (MemAt.of_heap h3).sub; simpa using this, h5.2⟩
theorem Arg.asl {α : Type} {e : Enc α} {zs : List α} {T : TypeId} {l : List Slot} {i off len : Nat} (h : evS σ.g x = some (.asl i off 0 len len)) (he : lkE σ.d i = some (.box T l pb)) (ho : offAt l off = some (.v (Enc.arr len e) zs)) (hlen : Nat.ble len 4294967296 = true) : Arg σ true x (.v (Enc.sl e) zs) := by
  intro ρ S a w K
  have hlen := Nat.le_of_ble_eq_true hlen
  obtain ⟨b, cs, h1, h2, h3⟩ := K_asl K (x := x) (by simp) h he
  obtain ⟨h4, ds, h5, h6⟩ := asl_mem h2 h3 ho
  simp only [Slot.ok, if_true]
  rw [h1]
  exact val_sl.2 ⟨_, _, by rw [h4], ⟨by omega, by omega⟩, .inr ⟨b, off, ds, rfl, (MemAt.of_heap h2).lt, fun h => h, h5, Enc.okL_mono h6 (lend_ext S w true)⟩⟩
theorem Src.asl {α : Type} {e : Enc α} {zs : List α} {T : TypeId} {l : List Slot} {i off len : Nat} (h : evS σ.g y = some (.asl i off 0 len len)) (he : lkE σ.d i = some (.box T l pb)) (ho : offAt l off = some (.v (Enc.arr len e) zs)) (hlen : Nat.ble len 4294967296 = true) : Src σ y e zs := by
  intro ρ S a w K
  have hlen := Nat.le_of_ble_eq_true hlen
  obtain ⟨b, cs, h1, h2, h3⟩ := K_asl K (x := y) (by simp) h he
  obtain ⟨h4, ds, h5, h6⟩ := asl_mem h2 h3 ho
  exact ⟨by omega, _, _, by rw [h1, h4], .inr ⟨b, off, ds, rfl, h5, h6⟩⟩
end
end Go.Sw

namespace Go.Sw
open Go Go.RowKit
/-- a slice, and whether it is nil -/
def Enc.slN {α : Type} (e : Enc α) : Enc (Bool × List α) where
  n := 1
  agg := false
  ok x S w cs := (Enc.sl e).ok x.2 S w cs ∧ ∀ a l c, cs = [.slice a l c] → x.1 = a.isNone
  len h := (Enc.sl e).len h.1
  one _ := rfl
  cell h := (Enc.sl e).cell h.1
  mono h k := ⟨(Enc.sl e).mono h.1 k, h.2⟩
theorem val_slN {α : Type} {e : Enc α} {b : Bool} {xs : List α} {S w u} (h : (Enc.slN e).val (b, xs) S w u) : (Enc.sl e).val xs S w u ∧ ∃ a l c, u = .slice a l c ∧ b = a.isNone := by
  obtain ⟨cs, ⟨h1, h2⟩, rfl⟩ := h
  refine ⟨⟨cs, h1, rfl⟩, ?_⟩
  obtain ⟨a, cap, h3, _⟩ := h1
  exact ⟨a, _, cap, by rw [h3]; rfl, h2 _ _ _ h3⟩
theorem Con.nilCases {α : Type} {P : Program} {f : FuncId} {e : Enc α} {xs : List α} {res : Slot} {new : List (Nat × Ent)} (h : ∀ b, (b = true → xs = []) → Con P f [.v (Enc.slN e) (b, xs)] res new) : Con P f [.v (Enc.sl e) xs] res new := by
  intro S w vs ρ hl hv
  simp only [Slot.okv, Slot.ok] at hv
  obtain ⟨u, ws, rfl, h1, rfl⟩ := hv
  obtain ⟨a, cap, rfl, h2, h3⟩ := val_sl.1 h1
  refine h a.isNone (fun ha => ?_) S w _ ρ hl ?_
  · rcases h3 with h3 | ⟨b, off, ds, rfl, _⟩
    · exact h3
    · cases ha
  · simp only [Slot.okv, Slot.ok]
    refine ⟨_, [], rfl, ⟨[.slice a xs.length cap], ⟨⟨a, cap, rfl, h2, h3⟩, fun a' l c h => ?_⟩, rfl⟩, rfl⟩
    simp at h; rw [h.1]
section
variable {F : Frm} {σ : AS} {s : Slot} {d : Option Tmp} {ty : TypeId} {p : String} {af : Array Edge} {gd : Option (Nat × Bool)} {x y z : Operand}
theorem JO.eqNilS {α : Type} {e : Enc α} {v : Bool × List α} {T T' E : TypeId} (hx : evS σ.g x = some (.v (Enc.slN e) v)) (hT : ∀ w, (underlying T).run F.P w = .ok (.slice E) w) : JO F ⟨d, .binOp .eql T x (.const (.slice none 0 0)) T', ty, p, af, gd⟩ σ (.v Enc.bool v.1) [] := by
  intro ρ S a w K
  have h := K.slot x (by simp [Op.operands]) _ hx
  simp only [Slot.ok] at h
  obtain ⟨b, xs⟩ := v
  obtain ⟨_, ad, l, c, h1, rfl⟩ := val_slN h
  have hq := run_equalIn_slice_nil (P := F.P) w 9999 T E ad l c (under_of hT)
  refine OpWp.value (w' := w) (v := .bool ad.isNone) ?_ (Res.same (bool_ok _ ρ S w))
  exact eqop (r := ad.isNone) (.inl ⟨rfl, rfl⟩) h1 rfl (by intros; simp) (by intros; simp) (by intros; simp) (by intros; simp) (by simp [eqGuard, Act.eval]) hq
theorem Src.slN {α : Type} {e : Enc α} {v : Bool × List α} (h : evS σ.g y = some (.v (Enc.slN e) v)) : Src σ y e v.2 := by
  intro ρ S a w K
  have h1 := K.slot y (by simp) _ h
  simp only [Slot.ok] at h1
  obtain ⟨ad, cap, h2, hl, h3⟩ := val_sl.1 (val_slN h1).1
  refine ⟨hl.2, ad, cap, h2, ?_⟩
  rcases h3 with h3 | ⟨b, off, ds, h4, _, _, h5, h6⟩
  · exact .inl h3
  · exact .inr ⟨b, off, ds, h4, h5, h6⟩
end
end Go.Sw

namespace Go.Sw
open Go Go.RowKit

/-- noughts, of which some slices are ours -/
def ZrN (cs : List Value) (l : List Slot) (new : List (Nat × Ent)) : Prop := ∀ ρ S w, (∀ i en, lkE new i = some en → ρ i = .of (.slice none 0 0)) → Slot.okl ρ S w l cs
theorem ZrN.nil {new : List (Nat × Ent)} : ZrN [] [] new := fun _ _ _ _ => rfl
theorem ZrN.cons {cs : List Value} {l : List Slot} {new : List (Nat × Ent)} {α : Type} {e : Enc α} {z : α} {c : List Value} (h : ∀ S w, e.ok z S w c) (k : ZrN cs l new) : ZrN (c ++ cs) (.v e z :: l) new := fun ρ S w hn => by
  simp only [Slot.okl]; exact ⟨c, cs, rfl, by simp only [Slot.okc]; exact h S w, k ρ S w hn⟩
theorem ZrN.ref {cs : List Value} {l : List Slot} {new : List (Nat × Ent)} {en : Ent} (i : Nat) (hi : lkE new i = some en) (k : ZrN cs l new) : ZrN (.slice none 0 0 :: cs) (.ref i :: l) new := fun ρ S w hn => by
  simp only [Slot.okl]
  exact ⟨[.slice none 0 0], cs, rfl, by simp only [Slot.okc]; rw [hn i en hi]; exact ⟨.inl ⟨_, _, _, rfl⟩, rfl⟩, k ρ S w hn⟩
/-- entries that are nil slices -/
inductive NilN : List (Nat × Ent) → Prop
  | nil : NilN []
  | cons {α : Type} {i : Nat} {T : TypeId} {e : Enc α} {r : List (Nat × Ent)} : NilN r → NilN ((i, .arr T e []) :: r)
  | dp {α : Type} {i : Nat} {D : DE α} {x : α} {r : List (Nat × Ent)} : (∀ S w, D.ok x S w (.of (.slice none 0 0)) []) → NilN r → NilN ((i, .dp D x []) :: r)
theorem NilN.spec {new : List (Nat × Ent)} (h : NilN new) : ∀ i en, lkE new i = some en → ∀ ρ S w, en.ok ρ S w (.of (.slice none 0 0)) := by
  induction h with
  | nil => intro i en h; simp [lkE] at h
  | cons _ ih =>
    rename_i α i T e r _
    intro j en h
    simp only [lkE] at h
    cases hb : Nat.beq i j with
    | true => rw [hb] at h; simp at h; subst h; intro ρ S w; exact .inl ⟨rfl, rfl⟩
    | false => rw [hb] at h; exact ih j en h
  | dp h0 _ ih =>
    rename_i α i D x r _
    intro j en h
    simp only [lkE] at h
    cases hb : Nat.beq i j with
    | true => rw [hb] at h; simp at h; subst h; intro ρ S w; exact h0 S w
    | false => rw [hb] at h; exact ih j en h

section
variable {F : Frm} {σ : AS} {s : Slot} {d : Option Tmp} {ty : TypeId} {p : String} {af : Array Edge} {gd : Option (Nat × Bool)} {x y z : Operand}
end
end Go.Sw

namespace Go.Sw
open Go Go.RowKit

/-- what is handed in, to be changed -/
structure Ins (S : Nat → Prop) (ρ : Nat → LV) (w : World) (din : List (Nat × Ent)) : Prop where
  own : ∀ i en, lkE din i = some en → en.ok ρ (Un S ρ din) w (ρ i)
  lt : ∀ i en b, lkE din i = some en → Has (ρ i) b → b < w.heap.size
  apart : ∀ i en b, lkE din i = some en → Has (ρ i) b → ¬ S b
  inj : ∀ i j en en' b, lkE din i = some en → lkE din j = some en' → Has (ρ i) b → Has (ρ j) b → i = j
/-- what comes back -/
structure Outs (S : Nat → Prop) (R : Nat → Prop) (w0 : World) (res : Slot) (dout : List (Nat × Ent)) (ρ : Nat → LV) (v : Value) (w : World) : Prop where
  size : w0.heap.size ≤ w.heap.size
  frame : ∀ k, k < w0.heap.size → ¬ R k → w.heap[k]? = w0.heap[k]?
  os : w.os = w0.os
  tape : w.tape = w0.tape
  output : w.output = w0.output
  slot : res.ok ρ (Un S ρ dout) w v
  own : ∀ i en, lkE dout i = some en → en.ok ρ (Un S ρ dout) w (ρ i)
  fresh : ∀ i en b, lkE dout i = some en → Has (ρ i) b → (w0.heap.size ≤ b ∨ R b) ∧ b < w.heap.size
  apart : ∀ i en b, lkE dout i = some en → Has (ρ i) b → ¬ S b
  inj : ∀ i j en en' b, lkE dout i = some en → lkE dout j = some en' → Has (ρ i) b → Has (ρ j) b → i = j
/-- what a function comes to that may change what it is handed: entries in, entries out -/
def ConM (P : Program) (f : FuncId) (args : List Slot) (din : List (Nat × Ent)) (res : Slot) (dout : List (Nat × Ent)) : Prop :=
  ∀ S w vs ρ, (∀ k, S k → k < w.heap.size) → Ins S ρ w din → Slot.okv ρ (Un S ρ din) w args vs → Calls P f vs.toArray w fun e w' => ∃ v ρ', e = .returned v ∧ Outs S (Owns ρ din) w res dout ρ' v w'
def RetQM (F : Frm) (fn : Func) (res : Slot) (dout : List (Nat × Ent)) : Exit → Act → World → Prop :=
  bodyPostM Fence.wide 0 F.P fn fun e w' => ∃ v ρ', e = .returned v ∧ Outs F.S0 F.R F.w0 res dout ρ' v w'

theorem ConM.of {P : Program} {f : FuncId} {fn : Func} {c : Code} {N : Nat} {args : List Slot} {din : List (Nat × Ent)} {res : Slot} {dout : List (Nat × Ent)}
    (hf : P.funcs[f]? = some fn) (hb : fn.body = some c) (hN : fn.ntmps = N) (hle : Nat.ble args.length N = true)
    (h : ∀ S w R, Fol ⟨P, N, S, w, R, none, []⟩ ⟨P, N, S, w, R, none, []⟩ → W ⟨P, N, S, w, R, none, []⟩ [c] ⟨enum 0 args, din⟩ (RetQM ⟨P, N, S, w, R, none, []⟩ fn res dout)) : ConM P f args din res dout := by
  intro S w vs ρ hlow hin hv
  refine (callsIn_wide (n := 0)).1 (callsIn_of_wp_marks hf hb trivial ?_)
  have hl := okv_len hv
  have hle := Nat.le_of_ble_eq_true hle
  have hst : St ⟨P, N, S, w, Owns ρ din, none, []⟩ ⟨enum 0 args, din⟩ { tmps := vs.toArray ++ Array.replicate (fn.ntmps - vs.toArray.size) undef, defers := [] } w := ?_
  · have h1 : c.wpIn Fence.wide 0 P (Exit.then (run Fence.wide P (RetQM ⟨P, N, S, w, Owns ρ din, none, []⟩ fn res dout) []) (RetQM ⟨P, N, S, w, Owns ρ din, none, []⟩ fn res dout)) { tmps := vs.toArray ++ Array.replicate (fn.ntmps - vs.toArray.size) undef, defers := [] } w := h S w _ (.refl hlow rfl) _ w hst
    refine wpIn_mono h1 ?_
    intro e a w' hq
    cases e <;> exact hq
  · refine ⟨⟨ρ, ⟨hlow, Nat.le_refl _, fun _ _ _ => rfl, rfl, rfl, rfl, hin.own, fun i en b h hb => ⟨.inr ⟨i, en, h, hb⟩, hin.lt i en b h hb⟩, hin.inj, hin.apart⟩, fun t s ht => ?_⟩, ?_, rfl⟩
    · obtain ⟨_, u, h1, h2⟩ := okv_enum args vs 0 hv t s ht
      have hlt : t < vs.length := by
        rcases Nat.lt_or_ge t vs.length with h | h
        · exact h
        · simp [List.getElem?_eq_none h] at h1
      have : (vs.toArray ++ Array.replicate (fn.ntmps - vs.toArray.size) undef).getD t undef = u := by
        simp only [Array.getD_eq_getD_getElem?]
        rw [Array.getElem?_append_left (by simpa using hlt)]
        simp only [Nat.sub_zero] at h1
        simp [h1]
      rw [this]; exact h2
    · simp only [Array.size_append, List.size_toArray, Array.size_replicate]
      show _ = N
      omega

theorem Outs.of_core {F : Frm} {σ : AS} {ρ : Nat → LV} {w : World} {v : Value} {res : Slot} {dout : List (Nat × Ent)} (hc : Core F σ.d ρ w) (hr : res.ok ρ (Un F.S0 ρ σ.d) w v) (hn : SubE dout σ.d) : Outs F.S0 F.R F.w0 res dout ρ v w := by
  have hsub := hn.spec
  have hE : Ext (Un F.S0 ρ σ.d) (Un F.S0 ρ dout) w w := ⟨Nat.le_refl _, fun k _ hk => ⟨rfl, fun h => hk (by
    rcases h with h | ⟨i, en, h1, h2⟩
    · exact .inl h
    · exact .inr ⟨i, en, hsub i en h1, h2⟩)⟩⟩
  exact ⟨hc.size, hc.frame, hc.os, hc.tape, hc.output, Slot.ok_mono res v hr hE (fun _ _ => rfl), fun i en h => Ent.ok_mono (hc.own i en (hsub i en h)) hE (fun _ _ => rfl) (fun _ _ => rfl),
    fun i en b h hb => hc.fresh i en b (hsub i en h) hb, fun i en b h hb => hc.apart i en b (hsub i en h) hb, fun i j en en' b hi hj bi bj => hc.inj i j en en' b (hsub i en hi) (hsub j en' hj) bi bj⟩
theorem results0 {P : Program} {fn : Func} {a : Act} {w : World} (hrs : fn.results = #[]) : (results fn a.tmps).run P w = .ok (.tuple #[]) w := by rw [results_eq, hrs]; simp
section
variable {F F' : Frm} {σ : AS} {fn : Func} {rv rv' rv2 : ResultVar} {res s s' s2 : Slot} {dout : List (Nat × Ent)}
end
end Go.Sw

namespace Go.Sw
open Go Go.RowKit

/-- what is handed in is what the caller has, by the caller's names -/
inductive DinR (σ : AS) (r : Nat → Nat) (A : Nat → Nat) : List (Nat × Ent) → Prop
  | nil : DinR σ r A []
  | box {i : Nat} {T : TypeId} {l : List Slot} {pb : Option Nat} {ds : List (Nat × Ent)} : lkE σ.d (r i) = some (.box T (Slot.maps r l) pb) → DinR σ r A ds → DinR σ r A ((i, .box T l (some (A i))) :: ds)
  | arr {α : Type} {i : Nat} {T : TypeId} {e : Enc α} {xs : List α} {ds : List (Nat × Ent)} : lkE σ.d (r i) = some (.arr T e xs) → DinR σ r A ds → DinR σ r A ((i, .arr T e xs) :: ds)
  | mp {α β : Type} {i : Nat} {e : Enc α} {f : Enc β} {m : List (α × β)} {ds : List (Nat × Ent)} : lkE σ.d (r i) = some (.mp e f m) → DinR σ r A ds → DinR σ r A ((i, .mp e f m) :: ds)
  | dp {α : Type} {i : Nat} {D : DE α} {x : α} {l : List Nat} {ds : List (Nat × Ent)} : lkE σ.d (r i) = some (.dp D x (l.map r)) → DinR σ r A ds → DinR σ r A ((i, .dp D x l) :: ds)
theorem DinR.spec {σ : AS} {r : Nat → Nat} {A : Nat → Nat} {ds : List (Nat × Ent)} (h : DinR σ r A ds) {ρ : Nat → LV} {S : Nat → Prop} {w : World} (ho : ∀ i en, lkE σ.d i = some en → en.ok ρ S w (ρ i)) (hA : ∀ i b, (ρ (r i)).v = .pointer (some ⟨b, 0, none⟩) → A i = b) :
    ∀ i en, lkE ds i = some en → (∃ en0, lkE σ.d (r i) = some en0) ∧ en.ok (fun i => ρ (r i)) S w (ρ (r i)) := by
  induction h with
  | nil => intro i en h; simp [lkE] at h
  | box h1 _ ih =>
    rename_i j T l pb ds _
    intro i en h
    rw [lkE_cons] at h
    split at h
    · rename_i hj; subst hj; cases h
      have h2 := ho _ _ h1
      refine ⟨⟨_, h1⟩, ?_⟩
      have h3 : ((Ent.box T l pb).map r).ok ρ S w (ρ (r j)) := h2
      rw [ent_map] at h3
      obtain ⟨⟨b, cs, k1, k2, k3⟩, _⟩ := h3
      exact ⟨⟨b, cs, k1, k2, k3⟩, fun c hc => by cases hc; rw [k1, hA j b k1]⟩
    · exact ih i en h
  | arr h1 _ ih =>
    rename_i j T e xs ds _
    intro i en h
    rw [lkE_cons] at h
    split at h
    · rename_i hj; subst hj; cases h; exact ⟨⟨_, h1⟩, ho _ _ h1⟩
    · exact ih i en h
  | mp h1 _ ih =>
    rename_i j e f m ds _
    intro i en h
    rw [lkE_cons] at h
    split at h
    · rename_i hj; subst hj; cases h; exact ⟨⟨_, h1⟩, ho _ _ h1⟩
    · exact ih i en h
  | dp h1 _ ih =>
    rename_i j D x l ds _
    intro i en h
    rw [lkE_cons] at h
    split at h
    · rename_i hj; subst hj; cases h
      refine ⟨⟨_, h1⟩, ?_⟩
      have h3 : ((Ent.dp D x l).map r).ok ρ S w (ρ (r j)) := ho _ _ h1
      rwa [ent_map] at h3
    · exact ih i en h

def memB (l : Nat) : List Nat → Bool
  | [] => false
  | i :: r => bif Nat.beq i l then true else memB l r
theorem memB_iff {l : Nat} : ∀ {r : List Nat}, memB l r = true ↔ l ∈ r
  | [] => by simp [memB]
  | i :: r => by
    simp only [memB]
    cases hb : Nat.beq i l with
    | true => have := Nat.eq_of_beq_eq_true hb; subst this; simp
    | false =>
      have : l ≠ i := fun e => by subst e; simp at hb
      simp [memB_iff, this]
/-- what comes back, by the caller's names: boxes that were handed in lie where they lay -/
inductive DoutR (σ : AS) (r : Nat → Nat) (A : Nat → Nat) : List (Nat × Ent) → List (Nat × Ent) → List Nat → Prop
  | nil : DoutR σ r A [] [] []
  | box {i : Nat} {T T0 : TypeId} {l l0 : List Slot} {pb : Option Nat} {ds D : List (Nat × Ent)} {K : List Nat} : lkE σ.d (r i) = some (.box T0 l0 pb) → DoutR σ r A ds D K → memB (r i) K = false → DoutR σ r A ((i, .box T l (some (A i))) :: ds) ((r i, .box T (Slot.maps r l) pb) :: D) (r i :: K)
  | boxN {i : Nat} {T : TypeId} {l : List Slot} {ds D : List (Nat × Ent)} {K : List Nat} : DoutR σ r A ds D K → memB (r i) K = false → DoutR σ r A ((i, .box T l none) :: ds) ((r i, .box T (Slot.maps r l) none) :: D) K
  | arr {α : Type} {i : Nat} {T : TypeId} {e : Enc α} {xs : List α} {ds D : List (Nat × Ent)} {K : List Nat} : DoutR σ r A ds D K → memB (r i) K = false → DoutR σ r A ((i, .arr T e xs) :: ds) ((r i, .arr T e xs) :: D) K
  | mp {α β : Type} {i : Nat} {e : Enc α} {f : Enc β} {m : List (α × β)} {ds D : List (Nat × Ent)} {K : List Nat} : DoutR σ r A ds D K → memB (r i) K = false → DoutR σ r A ((i, .mp e f m) :: ds) ((r i, .mp e f m) :: D) K
  | dp {α : Type} {i : Nat} {E : DE α} {x : α} {l : List Nat} {ds D : List (Nat × Ent)} {K : List Nat} : DoutR σ r A ds D K → memB (r i) K = false → DoutR σ r A ((i, .dp E x l) :: ds) ((r i, .dp E x (l.map r)) :: D) K

theorem DoutR.spec {σ : AS} {r : Nat → Nat} {A : Nat → Nat} {ds D : List (Nat × Ent)} {K : List Nat} (h : DoutR σ r A ds D K) (hinj : ∀ i j, r i = r j → i = j) :
    (∀ l en', lkE D l = some en' → ∃ i en, l = r i ∧ lkE ds i = some en ∧ (en' = en.map r ∨ ∃ T T0 m l0 pb, en = .box T m (some (A i)) ∧ en' = .box T (Slot.maps r m) pb ∧ lkE σ.d (r i) = some (.box T0 l0 pb))) ∧
    (∀ i en, lkE ds i = some en → ∃ en', lkE D (r i) = some en') ∧ (∀ k ∈ K, ∃ i T m T0 l0 pb, k = r i ∧ lkE ds i = some (.box T m (some (A i))) ∧ lkE σ.d k = some (.box T0 l0 pb)) := by
  have step : ∀ {i : Nat} {en en' : Ent} {ds D : List (Nat × Ent)}, ((∀ l en', lkE D l = some en' → ∃ i en, l = r i ∧ lkE ds i = some en ∧ (en' = en.map r ∨ ∃ T T0 m l0 pb, en = .box T m (some (A i)) ∧ en' = .box T (Slot.maps r m) pb ∧ lkE σ.d (r i) = some (.box T0 l0 pb))) ∧ (∀ i en, lkE ds i = some en → ∃ en', lkE D (r i) = some en')) →
      (en' = en.map r ∨ ∃ T T0 m l0 pb, en = .box T m (some (A i)) ∧ en' = .box T (Slot.maps r m) pb ∧ lkE σ.d (r i) = some (.box T0 l0 pb)) →
      ((∀ l en0, lkE ((r i, en') :: D) l = some en0 → ∃ j en1, l = r j ∧ lkE ((i, en) :: ds) j = some en1 ∧ (en0 = en1.map r ∨ ∃ T T0 m l0 pb, en1 = .box T m (some (A j)) ∧ en0 = .box T (Slot.maps r m) pb ∧ lkE σ.d (r j) = some (.box T0 l0 pb))) ∧
        (∀ j en1, lkE ((i, en) :: ds) j = some en1 → ∃ en0, lkE ((r i, en') :: D) (r j) = some en0)) := by
    rintro i en en' ds D ⟨ih1, ih2⟩ hh
    refine ⟨fun l en0 hl => ?_, fun j en1 hj => ?_⟩
    · rw [lkE_cons] at hl
      split at hl
      · rename_i hri; subst hri; cases hl; exact ⟨i, en, rfl, by rw [lkE_cons, if_pos rfl], hh⟩
      · rename_i hri
        obtain ⟨j, en1, rfl, k2, k3⟩ := ih1 l en0 hl
        exact ⟨j, en1, rfl, by rw [lkE_cons, if_neg (fun e => hri (by rw [e]))]; exact k2, k3⟩
    · rw [lkE_cons] at hj
      split at hj
      · rename_i hij; subst hij; exact ⟨en', by rw [lkE_cons, if_pos rfl]⟩
      · rename_i hij
        obtain ⟨en0, h0⟩ := ih2 j en1 hj
        exact ⟨en0, by rw [lkE_cons, if_neg (fun e => hij (hinj _ _ e))]; exact h0⟩
  have old : ∀ {i : Nat} {en : Ent} {ds : List (Nat × Ent)} {K : List Nat}, memB (r i) K = false → (∀ k ∈ K, ∃ i T m T0 l0 pb, k = r i ∧ lkE ds i = some (.box T m (some (A i))) ∧ lkE σ.d k = some (.box T0 l0 pb)) → ∀ k ∈ K, ∃ j T m T0 l0 pb, k = r j ∧ lkE ((i, en) :: ds) j = some (.box T m (some (A j))) ∧ lkE σ.d k = some (.box T0 l0 pb) := by
    intro i en ds K hm ih k hk
    obtain ⟨j, T, m, T0, l0, pb, rfl, h, h'⟩ := ih k hk
    have hne : i ≠ j := fun e => by subst e; rw [memB_iff.2 hk] at hm; cases hm
    exact ⟨j, T, m, T0, l0, pb, rfl, by rw [lkE_cons, if_neg hne]; exact h, h'⟩
  induction h with
  | nil => exact ⟨fun l en h => by simp [lkE] at h, fun i en h => by simp [lkE] at h, fun k h => by simp at h⟩
  | box h1 _ hm ih =>
    rename_i i T T0 l l0 pb ds D K _
    obtain ⟨a, b⟩ := step (i := i) (en := .box T l (some (A i))) (en' := .box T (Slot.maps r l) pb) ⟨ih.1, ih.2.1⟩ (.inr ⟨T, T0, l, l0, pb, rfl, rfl, h1⟩)
    refine ⟨a, b, fun k hk => ?_⟩
    rcases List.mem_cons.1 hk with rfl | hk
    · exact ⟨i, T, l, T0, l0, pb, rfl, by rw [lkE_cons, if_pos rfl], h1⟩
    · exact old hm ih.2.2 k hk
  | boxN _ hm ih =>
    rename_i i T l ds D K _
    obtain ⟨a, b⟩ := step (i := i) (en := .box T l none) (en' := .box T (Slot.maps r l) none) ⟨ih.1, ih.2.1⟩ (.inl rfl)
    exact ⟨a, b, old hm ih.2.2⟩
  | arr _ hm ih =>
    rename_i α i T e xs ds D K _
    obtain ⟨a, b⟩ := step (i := i) (en := .arr T e xs) (en' := .arr T e xs) ⟨ih.1, ih.2.1⟩ (.inl rfl)
    exact ⟨a, b, old hm ih.2.2⟩
  | mp _ hm ih =>
    rename_i α β i e f m ds D K _
    obtain ⟨a, b⟩ := step (i := i) (en := .mp e f m) (en' := .mp e f m) ⟨ih.1, ih.2.1⟩ (.inl rfl)
    exact ⟨a, b, old hm ih.2.2⟩
  | dp _ hm ih =>
    rename_i α i E x l ds D K _
    obtain ⟨a, b⟩ := step (i := i) (en := .dp E x l) (en' := .dp E x (l.map r)) ⟨ih.1, ih.2.1⟩ (.inl rfl)
    exact ⟨a, b, old hm ih.2.2⟩

def delEs (d : List (Nat × Ent)) : List Nat → List (Nat × Ent)
  | [] => d
  | i :: H => delE (delEs d H) i
theorem lkE_delEs {d : List (Nat × Ent)} {k : Nat} : ∀ {H : List Nat}, lkE (delEs d H) k = if k ∈ H then none else lkE d k
  | [] => by simp [delEs]
  | i :: H => by
    rw [delEs, lkE_del]
    by_cases h : k = i
    · simp [h]
    · rw [if_neg h, lkE_delEs]; simp [h]
/-- what stays speaks of nothing that went -/
def staysB (g : List (Nat × Slot)) (rest : List (Nat × Ent)) (H K : List Nat) (D : List (Nat × Ent)) : Bool :=
  (g.all fun y => y.2.lab.all fun l => !memB l H || memB l K || !memB l (D.map (·.1))) && rest.all fun y => y.2.lab.all fun l => !memB l H || memB l K || !memB l (D.map (·.1))
/-- what is new has a name of its own -/
def newB (σ : AS) (H : List Nat) (D : List (Nat × Ent)) : Bool :=
  D.all fun x => memB x.1 H || ((σ.d.all fun y => !Nat.beq y.1 x.1 && !memB x.1 y.2.lab) && σ.g.all fun y => !memB x.1 y.2.lab)
/-- an argument of a function that is handed what is ours -/
inductive ArgsM (σ : AS) (r : Nat → Nat) : List Operand → List Slot → Prop
  | nil : ArgsM σ r [] []
  | cons {x : Operand} {s : Slot} {xs : List Operand} {l : List Slot} : Arg σ false x (s.map r) → ArgsM σ r xs l → ArgsM σ r (x :: xs) (s :: l)
theorem ArgsM.spec {σ : AS} {r : Nat → Nat} {xs : List Operand} {l : List Slot} (h : ArgsM σ r xs l) {ρ S a w} {ys : Array Operand} (hys : ∀ x ∈ xs, x ∈ ys) (K : Know σ ys ρ S a w) : Slot.okv (fun i => ρ (r i)) S w l (xs.map a.eval) := by
  induction h with
  | nil => simp [Slot.okv]
  | cons h1 _ ih =>
    rename_i x s xs l _
    simp only [Slot.okv, List.map_cons]
    refine ⟨_, _, rfl, ?_, ih fun y hy => hys y (List.mem_cons_of_mem _ hy)⟩
    rw [← ok_map]
    exact h1 ρ S a w ⟨K.low, fun y hy => K.slot y (by simp at hy; subst hy; exact hys _ List.mem_cons_self), fun y hy => K.ent y (by simp at hy; subst hy; exact hys _ List.mem_cons_self)⟩
/-- names turned one to one -/
structure Bij (r : Nat → Nat) : Prop where
  inj : ∀ i j, r i = r j → i = j

def adr (v : Value) : Nat := match v with | .pointer (some a) => a.block | _ => 0

section
variable {F : Frm} {σ : AS} {s : Slot} {d : Option Tmp} {ty : TypeId} {p : String} {af : Array Edge} {gd : Option (Nat × Bool)}

end
/-- names turned by exchanges -/
def sw2 (a b i : Nat) : Nat := bif Nat.beq i a then b else bif Nat.beq i b then a else i
def swp : List (Nat × Nat) → Nat → Nat
  | [], i => i
  | (a, b) :: l, i => swp l (sw2 a b i)
end Go.Sw

namespace Go.Sw
open Go Go.RowKit

/-- what an iterator comes to: it hands over these items, in order -/
def IterC (P : Program) (gf : FuncId) (cap : List Slot) (items : List (List Slot)) : Prop :=
  ∀ (S : Nat → Prop) (w : World) (vs : List Value) (ρ : Nat → LV) (l : Nat) (J : Nat → World → Prop) (Jx : World → Prop),
    (∀ k, S k → k < w.heap.size) → Slot.okv ρ S w cap vs → J 0 w →
    (∀ k W, J k W → w.heap.size ≤ W.heap.size ∧ ∀ b, b < w.heap.size → ¬ S b → W.heap[b]? = w.heap[b]?) →
    (∀ k W W', J k W → Below W.heap.size W W' → J k W') → (∀ W W', Jx W → Below W.heap.size W W' → Jx W') →
    (∀ k item W0 W us, items[k]? = some item → J k W0 → Below W0.heap.size W0 W → Slot.okv ρ (fun j => S j ∨ (w.heap.size ≤ j ∧ j < W0.heap.size)) W item us → ∃ fn tmps assign body, (Instr.yield l us.toArray).run P W = .ok (.round l fn tmps assign body) W ∧
      RoundIn Fence.wide 0 P l fn tmps assign body W fun e W' => (e = .returned (.bool true) ∧ J (k + 1) W') ∨ (e = .returned (.bool false) ∧ Jx W')) →
    Calls P gf (.func (.yield l) #[] #[] :: vs).toArray w fun e w' => (∃ v, e = .returned v) ∧ (J items.length w' ∨ Jx w')

/-- items one by one -/
def rng {ι α δ : Type} (step : ι → α → Option (Step α δ)) : List ι → α → Option (Ex α δ)
  | [], y => some (.brk y)
  | i :: is, y => match step i y with
    | none => none
    | some (.next y') => rng step is y'
    | some (.done z) => some (.ret z)
def putL : List Tmp → List Slot → List (Nat × Slot) → List (Nat × Slot)
  | t :: ts, s :: ss, g => putL ts ss ((t, s) :: g)
  | _, _, g => g
/-- boxes have the addresses that they have -/
def pinA (A : Nat → Nat) : List (Nat × Ent) → List (Nat × Ent)
  | [] => []
  | (i, en) :: d => (i, match en with | .box T l _ => .box T l (some (A i)) | .arr T e xs => .arr T e xs | .mp e f m => .mp e f m | .dp D x ls => .dp D x ls) :: pinA A d
theorem lkE_pin {A : Nat → Nat} : ∀ {d : List (Nat × Ent)} {i : Nat} {en : Ent}, lkE (pinA A d) i = some en → ∃ en0, lkE d i = some en0 ∧ ((∃ T l pb, en0 = .box T l pb ∧ en = .box T l (some (A i))) ∨ en = en0)
  | [], i, en, h => by simp [pinA, lkE] at h
  | (j, e) :: d, i, en, h => by
    simp only [pinA] at h
    rw [lkE_cons] at h
    rw [lkE_cons]
    split at h
    · rename_i hj; subst hj; cases h
      rw [if_pos rfl]
      refine ⟨_, rfl, ?_⟩
      cases e with
      | box T l pb => exact .inl ⟨T, l, pb, rfl, rfl⟩
      | arr T e xs => exact .inr rfl
      | mp e f m => exact .inr rfl
      | dp D x ls => exact .inr rfl
    · rename_i hj; rw [if_neg hj]; exact lkE_pin h
theorem lkE_pin1 {A : Nat → Nat} : ∀ {d : List (Nat × Ent)} {i : Nat} {en : Ent}, lkE d i = some en → ∃ en', lkE (pinA A d) i = some en'
  | [], i, en, h => by simp [lkE] at h
  | (j, e) :: d, i, en, h => by
    simp only [pinA]
    rw [lkE_cons] at h ⊢
    split
    · exact ⟨_, rfl⟩
    · rename_i hj; rw [if_neg hj] at h; exact lkE_pin1 h
inductive BoxesIn (A : Nat → Nat) (d : List (Nat × Ent)) : List Nat → Prop
  | nil : BoxesIn A d []
  | cons {i : Nat} {T : TypeId} {l : List Slot} {is : List Nat} : lkE d i = some (.box T l (some (A i))) → BoxesIn A d is → BoxesIn A d (i :: is)
theorem BoxesIn.spec {A : Nat → Nat} {d : List (Nat × Ent)} {is : List Nat} (h : BoxesIn A d is) : ∀ i ∈ is, ∃ T l, lkE d i = some (.box T l (some (A i))) := by
  induction h with
  | nil => intro i h; simp at h
  | cons h1 _ ih =>
    intro i hi
    rcases List.mem_cons.1 hi with rfl | hi
    · exact ⟨_, _, h1⟩
    · exact ih i hi
/-- how an assignment to a loop's variables ends -/
def AQ (F : Frm) (σ : AS) : Exit → Act → World → Prop
  | .normal, a, w => St F σ a w
  | _, _, _ => False
/-- how a round may end -/
def RB {α δ : Type} (F : Frm) (ds : α → List (Nat × Ent)) (dx : δ → List (Nat × Ent)) : Step α δ → Exit → Act → World → Prop
  | .next y, .normal, a, w => St F ⟨[], ds y⟩ a w
  | .done z, .ret, a, w => St F ⟨[], dx z⟩ a w
  | _, _, _, _ => False

theorem Core.pin {F : Frm} {d : List (Nat × Ent)} {ρ : Nat → LV} {w : World} {A : Nat → Nat} (hc : Core F d ρ w) (hA : ∀ i b, (ρ i).v = .pointer (some ⟨b, 0, none⟩) → A i = b) : Core F (pinA A d) ρ w ∧ Un F.S0 ρ (pinA A d) = Un F.S0 ρ d := by
  have hU : Un F.S0 ρ (pinA A d) = Un F.S0 ρ d := by
    funext k
    refine propext ⟨fun h => ?_, fun h => ?_⟩
    · rcases h with h | ⟨i, en, h1, h2⟩
      · exact .inl h
      · obtain ⟨en0, h3, _⟩ := lkE_pin h1; exact .inr ⟨i, en0, h3, h2⟩
    · rcases h with h | ⟨i, en, h1, h2⟩
      · exact .inl h
      · obtain ⟨en', h3⟩ := lkE_pin1 (A := A) h1; exact .inr ⟨i, en', h3, h2⟩
  refine ⟨⟨hc.low, hc.size, hc.frame, hc.os, hc.tape, hc.output, fun i en h => ?_, fun i en b h => ?_, fun i j en en' b hi hj => ?_, fun i en b h => ?_⟩, hU⟩
  · obtain ⟨en0, h1, h2⟩ := lkE_pin h
    rw [hU]
    have := hc.own i en0 h1
    rcases h2 with ⟨T, l, pb, rfl, rfl⟩ | rfl
    · obtain ⟨⟨b, cs, k1, k2, k3⟩, _⟩ := this
      exact ⟨⟨b, cs, k1, k2, k3⟩, fun c hc => by cases hc; rw [k1, hA i b k1]⟩
    · exact this
  · obtain ⟨en0, h1, _⟩ := lkE_pin h; exact hc.fresh i en0 b h1
  · obtain ⟨en0, h1, _⟩ := lkE_pin hi
    obtain ⟨en1, h2, _⟩ := lkE_pin hj
    exact hc.inj i j en0 en1 b h1 h2
  · obtain ⟨en0, h1, _⟩ := lkE_pin h; exact hc.apart i en0 b h1

/-- a change at blocks that are not ours and at which nothing lies that is read -/
theorem Core.turn {F F' : Frm} {d : List (Nat × Ent)} {ρ : Nat → LV} {w w' : World} {l : Nat} (hc : Core F d ρ w) (hl : F.S0 l) (hS : F'.S0 = F.S0) (hz : w'.heap.size = w.heap.size) (ho : ∀ k, k ≠ l → w'.heap[k]? = w.heap[k]?)
    (hsz : F'.w0.heap.size ≤ w'.heap.size) (hlow : ∀ k, F.S0 k → k < F'.w0.heap.size) (hfr : ∀ k, k < F'.w0.heap.size → ¬ F'.R k → w'.heap[k]? = F'.w0.heap[k]?) (hos : w'.os = F'.w0.os) (htp : w'.tape = F'.w0.tape) (hout : w'.output = F'.w0.output)
    (hR : ∀ i en b, lkE d i = some en → Has (ρ i) b → F'.w0.heap.size ≤ b ∨ F'.R b) : Core F' d ρ w' ∧ Ext (Un F.S0 ρ d) (Un F'.S0 ρ d) w w' := by
  have hE : Ext (Un F.S0 ρ d) (Un F'.S0 ρ d) w w' := ⟨by rw [hz]; exact Nat.le_refl _, fun k _ hk => ⟨ho k fun e => hk (.inl (e ▸ hl)), by rw [hS]; exact hk⟩⟩
  have hne : ∀ i en b, lkE d i = some en → Has (ρ i) b → b ≠ l := fun i en b h hb e => hc.apart i en b h hb (e ▸ hl)
  exact ⟨⟨by rw [hS]; exact hlow, hsz, hfr, hos, htp, hout, fun i en h => Ent.ok_mono (hc.own i en h) hE (fun _ _ => rfl) (fun b hb => ho b (hne i en b h hb)), fun i en b h hb => ⟨hR i en b h hb, by rw [hz]; exact (hc.fresh i en b h hb).2⟩, hc.inj, fun i en b h hb => by rw [hS]; exact hc.apart i en b h hb⟩, hE⟩

theorem foldl_size (ps : List (Tmp × Value)) (t : Array Value) : (ps.foldl (fun tmps (t, a) => tmps.setIfInBounds t a) t).size = t.size := by
  induction ps generalizing t with
  | nil => rfl
  | cons x ps ih => simp only [List.foldl_cons]; rw [ih]; simp
/-- slots behind a round's parameters -/
theorem putL_ok {ρ : Nat → LV} {S : Nat → Prop} {w : World} : ∀ (ps : List Tmp) (ss : List Slot) (us : List Value) (g : List (Nat × Slot)) (tm : Array Value), (∀ t s, lk g t = some s → s.ok ρ S w (tm.getD t undef)) → Slot.okv ρ S w ss us → ps.length = ss.length → (∀ t ∈ ps, t < tm.size) →
    ∀ t s, lk (putL ps ss g) t = some s → s.ok ρ S w (((ps.zip us).foldl (fun tmps (t, a) => tmps.setIfInBounds t a) tm).getD t undef)
  | [], [], us, g, tm, hg, hu, _, _ => by simp only [Slot.okv] at hu; subst hu; exact hg
  | p :: ps, s0 :: ss, us, g, tm, hg, hu, hl, hlt => by
    simp only [Slot.okv] at hu
    obtain ⟨u, us, rfl, h1, h2⟩ := hu
    simp only [putL, List.zip_cons_cons, List.foldl_cons]
    refine putL_ok ps ss us _ _ (fun t s ht => ?_) h2 (by simpa using hl) (fun t ht => by simpa using hlt t (List.mem_cons_of_mem _ ht))
    have hp := hlt p List.mem_cons_self
    rw [lk_cons] at ht
    rw [Array.getD_eq_getD_getElem?, Array.getElem?_setIfInBounds]
    split at ht
    · rename_i hpt; subst hpt; cases ht; simp [hp]; exact h1
    · rename_i hpt
      rw [if_neg hpt, ← Array.getD_eq_getD_getElem?]; exact hg t s ht
  | [], _ :: _, _, _, _, _, _, hl, _ => by simp at hl
  | _ :: _, [], _, _, _, _, _, hl, _ => by simp at hl

/-- 'for .. := range g { .. }' -/
theorem W.range {F0 F : Frm} {σ : AS} {cs : List Code} {Q : Exit → Act → World → Prop} {gt : Tmp} {ps : Array Tmp} {assign body : Code} {α ι δ : Type} {gf : FuncId} {cap : List Slot} {step : ι → α → Option (Step α δ)} {its : List ι} {x0 : α} {o : Ex α δ} (enc : ι → List Slot)
    {g : List (Nat × Slot)} {ds0 : List (Nat × Ent)} (ds : (Nat → Nat) → α → List (Nat × Ent)) (dx : (Nat → Nat) → δ → List (Nat × Ent)) (σ1 : (Nat → Nat) → ι → α → AS) {L : List Nat}
    (hF : Fol F0 F) (hrd : F.rd = none) (hm : rng step its x0 = some o) (h0 : Sub F σ ⟨g, ds0⟩) (hds : ∀ A, pinA A ds0 = ds A x0) (hg : lk g gt = some (.fnc gf cap)) (hit : IterC F.P gf cap (its.map enc))
    (hcall : ∀ args w, (callFunc gf args).run F.P w = .ok (.enter gf args) w) (hps : ∀ it, (enc it).length = ps.size) (hpN : ps.toList.all (fun t => Nat.blt t F.N) = true) (hel : ∀ it, Slot.labs (enc it) = [])
    (hL : (g.flatMap fun q => q.2.lab) = L) (hbx : ∀ A y, BoxesIn A (ds A y) L) (hbz : ∀ A z, BoxesIn A (dx A z) L)
    (hassign : ∀ A S w R l it y, W ⟨F.P, F.N, S, w, R, some l, []⟩ [assign] ⟨putL ps.toList (enc it) g, ds A y⟩ (AQ ⟨F.P, F.N, S, w, R, some l, []⟩ (σ1 A it y)))
    (hbody : ∀ A S w R l it y r, step it y = some r → W ⟨F.P, F.N, S, w, R, some l, []⟩ [body] (σ1 A it y) (RB ⟨F.P, F.N, S, w, R, some l, []⟩ (ds A) (dx A) r))
    (hk : ∀ A y, o = .brk y → ∀ S w R df, Fol F0 ⟨F.P, F.N, S, w, R, none, df⟩ → W ⟨F.P, F.N, S, w, R, none, df⟩ cs ⟨g, ds A y⟩ Q)
    (hx : ∀ A z, o = .ret z → ∀ S w R df, Fol F0 ⟨F.P, F.N, S, w, R, none, df⟩ → XQ ⟨F.P, F.N, S, w, R, none, df⟩ ⟨g, dx A z⟩ Q .ret) :
    W F (.rangeFunc (.tmp gt) ps assign body :: cs) σ Q := by
  intro a w hst
  obtain ⟨⟨ρ0, hc0, hs0⟩, hz, hde⟩ := h0 a w hst
  have hfe : F.fe = Fence.wide := by show ({ Fence.wide with round := F.rd } : Fence) = _; rw [hrd]; rfl
  let A : Nat → Nat := fun i => adr (ρ0 i).v
  obtain ⟨hc0, hU0⟩ := hc0.pin (A := A) (fun i b h => by show adr (ρ0 i).v = b; rw [h]; rfl)
  replace hs0 : ∀ t s, lk g t = some s → s.ok ρ0 (Un F.S0 ρ0 (ds A x0)) w (a.tmps.getD t undef) := by intro t s ht; rw [← hds, hU0]; exact hs0 t s ht
  rw [hds] at hc0
  clear hU0
  -- the function that is ranged over
  have hfn := hs0 gt _ hg
  simp only [Slot.ok] at hfn
  obtain ⟨vs, hv1, hv2⟩ := hfn
  obtain ⟨D, hD⟩ : ∃ D, D = w.heap.size := ⟨_, rfl⟩
  refine wpIn_rangeFunc fun fn _ => ?_
  obtain ⟨rec, hrec⟩ : ∃ rec : LoopState → Option Code → Loop, rec = fun st pe => { state := st, pending := pe, fn, tmps := a.tmps, params := ps, assign, body, defers := D } := ⟨_, rfl⟩
  obtain ⟨W1, hW1⟩ : ∃ W1, (w.alloc (.deferred (some []))).alloc (.loop (rec .ready none)) = W1 := ⟨_, rfl⟩
  have hb1 : Below w.heap.size w W1 := by rw [← hW1]; exact ((Below.refl _ w).alloc (Nat.le_refl _) _).alloc (by simp) _
  have hz1 : W1.heap.size = D + 2 := by rw [← hW1, hD]; simp
  have hL1 : W1.heap[D + 1]? = some (.loop (rec .ready none)) := by
    rw [← hW1, hD]; have := World.alloc_heap_new (w.alloc (.deferred (some []))) (.loop (rec .ready none)); rwa [World.size_alloc] at this
  have hK1 : W1.heap[D]? = some (.deferred (some [])) := by
    rw [← hW1, hD]; exact (Below.heap_alloc _ _ _ (by simp)).trans (World.alloc_heap_new w _)
  let S1 : Nat → Prop := fun k => F.S0 k ∨ k = D ∨ k = D + 1
  let R1 : Nat → Prop := Owns ρ0 (ds A x0)
  let FL : Frm := ⟨F.P, F.N, S1, W1, R1, none, []⟩
  let FX : Frm := ⟨F.P, F.N, S1, W1, fun k => R1 k ∨ k = D + 1, none, []⟩
  have hS1 : ∀ k, S1 k → k < W1.heap.size := by
    rintro k (h | rfl | rfl)
    · have := hc0.low k h; have := hc0.size; omega
    · omega
    · omega
  have hE01 : Ext (Un F.S0 ρ0 (ds A x0)) (Un S1 ρ0 (ds A x0)) w W1 := ⟨hb1.size, fun k hk hn => ⟨hb1.block k hk, by
    rintro ((h | rfl | rfl) | h)
    · exact hn (.inl h)
    · omega
    · omega
    · exact hn (.inr h)⟩⟩
  have hC1 : Core FL (ds A x0) ρ0 W1 := by
    refine ⟨hS1, Nat.le_refl _, fun _ _ _ => rfl, rfl, rfl, rfl, fun i en h => Ent.ok_mono (hc0.own i en h) hE01 (fun _ _ => rfl) (fun b hb => hb1.block b (hc0.fresh i en b h hb).2), fun i en b h hb => ⟨.inr ⟨i, en, h, hb⟩, Nat.lt_of_lt_of_le (hc0.fresh i en b h hb).2 hb1.size⟩, hc0.inj, fun i en b h hb => ?_⟩
    rintro (h' | rfl | rfl)
    · exact hc0.apart i en b h hb h'
    · have := (hc0.fresh i en _ h hb).2; omega
    · have := (hc0.fresh i en _ h hb).2; omega
  have hlD : ∀ {d : List (Nat × Ent)} {ρ : Nat → LV} {W : World}, Core FL d ρ W → W.heap[D + 1]? = some (.loop (rec .ready none)) ∧ W.heap[D]? = some (.deferred (some [])) := by
    intro d ρ W hc
    have hnR : ∀ k, k = D ∨ k = D + 1 → ¬ R1 k := by
      rintro k hk ⟨i, en, h1, h2⟩
      have := (hc0.fresh i en k h1 h2).2; omega
    exact ⟨(hc.frame (D + 1) (by show D + 1 < W1.heap.size; omega) (hnR _ (.inr rfl))).trans hL1, (hc.frame D (by show D < W1.heap.size; omega) (hnR _ (.inl rfl))).trans hK1⟩
  -- labels of what is fixed
  have hag : ∀ {d : List (Nat × Ent)} {ρ : Nat → LV} {W : World} {FF : Frm}, Core FF d ρ W → BoxesIn A d L → ∀ t s, lk g t = some s → agreeOn ρ0 ρ s.lab := by
    intro d ρ W FF hc hb t s ht i hi
    have hiL : i ∈ L := by rw [← hL]; exact List.mem_flatMap.2 ⟨_, lk_mem ht, hi⟩
    obtain ⟨T, l, h1⟩ := hb.spec i hiL
    obtain ⟨T', l', h2⟩ := (hbx A x0).spec i hiL
    rw [(hc.own i _ h1).2 _ rfl, (hc0.own i _ h2).2 _ rfl]
  -- what held ahead of the loop holds between rounds
  have hEk : ∀ {d : List (Nat × Ent)} {ρ : Nat → LV} {W : World}, Core FL d ρ W → Ext (Un S1 ρ0 (ds A x0)) (Un S1 ρ d) W1 W := by
    intro d ρ W hc
    refine ⟨hc.size, fun k hk hn => ⟨hc.frame k hk (fun h => hn (.inr h)), ?_⟩⟩
    rintro (h | ⟨i, en, h1, h2⟩)
    · exact hn (.inl h)
    · rcases (hc.fresh i en k h1 h2).1 with h | h
      · have : W1.heap.size ≤ k := h
        omega
      · exact hn (.inr h)
  have hEx : ∀ {d : List (Nat × Ent)} {ρ : Nat → LV} {W : World}, Core FX d ρ W → Ext (Un S1 ρ0 (ds A x0)) (Un S1 ρ d) W1 W := by
    intro d ρ W hc
    have hnl : ∀ k, ¬ Un S1 ρ0 (ds A x0) k → ¬ (R1 k ∨ k = D + 1) := by
      rintro k hn (h | rfl)
      · exact hn (.inr h)
      · exact hn (.inl (.inr (.inr rfl)))
    refine ⟨hc.size, fun k hk hn => ⟨hc.frame k hk (hnl k hn), ?_⟩⟩
    rintro (h | ⟨i, en, h1, h2⟩)
    · exact hn (.inl h)
    · rcases (hc.fresh i en k h1 h2).1 with h | h
      · have : W1.heap.size ≤ k := h
        omega
      · exact hnl k hn h
  -- behind the loop
  have hfol : ∀ {d : List (Nat × Ent)} {ρ : Nat → LV} {W W' : World} {FF : Frm}, (FF = FL ∨ FF = FX) → Core FF d ρ W → W'.heap.size = W.heap.size → (∀ k, k ≠ D + 1 → W'.heap[k]? = W.heap[k]?) → W'.os = W.os → W'.tape = W.tape → W'.output = W.output → W.heap[D]? = some (.deferred (some [])) →
      Fol F0 ⟨F.P, F.N, S1, W', Owns ρ d, none, { target := .collected D, args := #[] } :: F.df⟩ ∧ Core ⟨F.P, F.N, S1, W', Owns ρ d, none, { target := .collected D, args := #[] } :: F.df⟩ d ρ W' ∧ Ext (Un S1 ρ d) (Un S1 ρ d) W W' := by
    intro d ρ W W' FF hFF hc hzz hother hos htp hout hKD
    have hFS : FF.S0 = S1 := by rcases hFF with rfl | rfl <;> rfl
    have hFw : FF.w0 = W1 := by rcases hFF with rfl | rfl <;> rfl
    have hFR : ∀ k, FF.R k → R1 k ∨ k = D + 1 := by rcases hFF with rfl | rfl; exact fun k h => .inl h; exact fun k h => h
    have hcs := hc.size
    rw [hFw] at hcs
    have hfr : ∀ k, k < W1.heap.size → ¬ R1 k → k ≠ D + 1 → W.heap[k]? = W1.heap[k]? := fun k h1 h2 h3 => by
      have := hc.frame k (by rw [hFw]; exact h1) (fun h => (hFR k h).elim h2 h3); rwa [hFw] at this
    have hnown : ∀ k, F.S0 k ∨ k = D ∨ k = D + 1 → ¬ Owns ρ d k := by
      rintro k hk ⟨i, en, h1, h2⟩
      have := hc.apart i en k h1 h2
      rw [hFS] at this; exact this hk
    have hRold : ∀ k, Owns ρ d k → k < W1.heap.size → R1 k := by
      rintro k ⟨i, en, h1, h2⟩ hk
      rcases (hc.fresh i en k h1 h2).1 with h | h
      · rw [hFw] at h; omega
      · rcases hFR k h with h | rfl
        · exact h
        · exact absurd ⟨i, en, h1, h2⟩ (hnown _ (.inr (.inr rfl)))
    have hR0 : ∀ k, R1 k → F0.w0.heap.size ≤ k ∨ F0.R k := by
      rintro k ⟨i, en, h1, h2⟩
      rcases (hc0.fresh i en k h1 h2).1 with h | h
      · exact .inl (Nat.le_trans hF.size h)
      · exact hF.fresh k h
    have hosz : W'.os = F.w0.os ∧ W'.tape = F.w0.tape ∧ W'.output = F.w0.output := by
      have h1 := hc.os; have h2 := hc.tape; have h3 := hc.output
      rw [hFw] at h1 h2 h3
      exact ⟨((hos.trans h1).trans hb1.os).trans hc0.os, ((htp.trans h2).trans hb1.tape).trans hc0.tape, ((hout.trans h3).trans hb1.output).trans hc0.output⟩
    have hct := hc.turn (F' := ⟨F.P, F.N, S1, W', Owns ρ d, none, { target := .collected D, args := #[] } :: F.df⟩) (l := D + 1) (by rw [hFS]; exact .inr (.inr rfl)) hFS.symm hzz hother (Nat.le_refl _) (fun k h => by rw [hFS] at h; show k < W'.heap.size; have := hS1 k h; omega)
      (fun _ _ _ => rfl) rfl rfl rfl (fun i en b h hb => .inr ⟨i, en, h, hb⟩)
    rw [hFS] at hct
    refine ⟨⟨hF.P, fun k h => .inl (hF.S k h), by show F0.w0.heap.size ≤ W'.heap.size; have := hF.size; have := hc0.size; omega, hF.low, fun k hk hr => ?_, hosz.1.trans hF.os, hosz.2.1.trans hF.tape, hosz.2.2.trans hF.output, fun k hk => ?_, fun x hx => ?_, ?_⟩, hct.1, hct.2⟩
    · have hs1 := hF.size; have hs2 := hc0.size
      obtain ⟨h1, h2⟩ := hF.frame k hk hr
      have hnR1 : ¬ R1 k := fun h => (hR0 k h).elim (fun h => by omega) hr
      refine ⟨?_, fun h => hnR1 (hRold k h (by omega))⟩
      show W'.heap[k]? = _
      rw [hother k (by omega), hfr k (by omega) hnR1 (by omega), hb1.block k (by omega), hc0.frame k (by omega) h2, h1]
    · by_cases hlt : k < W1.heap.size
      · exact hR0 k (hRold k hk hlt)
      · have hs1 := hF.size; have hs2 := hc0.size; exact .inl (by omega)
    · rcases List.mem_cons.1 hx with rfl | hx
      · have hs1 := hF.size; have hs2 := hc0.size
        exact ⟨D, rfl, .inr (.inl rfl), hnown D (.inr (.inl rfl)), by omega, by show W'.heap[D]? = _; rw [hother D (by omega)]; exact hKD⟩
      · obtain ⟨r, h1, h2, h3, h4, h5⟩ := hF.df x hx
        have hlt := hc0.low r h2
        have hs2 := hc0.size
        refine ⟨r, h1, .inl h2, hnown r (.inl h2), h4, ?_⟩
        show W'.heap[r]? = _
        have hnR1 : ¬ R1 r := fun ⟨i, en, h6, h7⟩ => hc0.apart i en r h6 h7 h2
        rw [hother r (by omega), hfr r (by omega) hnR1 (by omega), hb1.block r (by omega), hc0.frame r hlt h3, h5]
    · refine List.pairwise_cons.2 ⟨fun x hx e => ?_, hF.nd⟩
      obtain ⟨r, h1, h2, _⟩ := hF.df x hx
      rw [h1] at e
      have e' : D = r := by simpa using e
      have := hc0.low r h2
      have := hc0.size
      omega
  -- the iterator
  let J : Nat → World → Prop := fun k W => ∃ y ρ, rng step (its.drop k) y = some o ∧ Core FL (ds A y) ρ W
  let Jx : World → Prop := fun W => ∃ z ρ, o = .ret z ∧ Core FX (dx A z) ρ W ∧ W.heap[D + 1]? = some (.loop (rec .done (some .ret))) ∧ W.heap[D]? = some (.deferred (some []))
  refine ⟨D + 1, [{ target := .collected D, args := #[] }], W1, { target := .fn (.func gf) vs.toArray, args := #[.func (.yield (D + 1)) #[] #[]] }, W1, gf, (.func (.yield (D + 1)) #[] #[] :: vs).toArray, W1, ?_, ?_, fun _ _ => by rw [hfe]; trivial, ?_, fun h => (by rw [hfe] at h; cases h), ?_⟩
  · rw [← hW1, hrec, hD]; show (Instr.enterLoop _ _ _ _ _ F.rd).run _ _ = _; rw [hrd]; exact run_enterLoop_outer _ _ _ _ _
  · have : a.eval (.tmp gt) = .func (.func gf) #[] vs.toArray := hv1
    simp only [resolve, this]
    simp [go_sem]
  · simp [invoke, go_sem, hcall]
  rw [hfe]
  refine CallsIn.mono (callsIn_wide.2 (hit (Un S1 ρ0 (ds A x0)) W1 vs ρ0 (D + 1) J Jx ?_ (Slot.okv_mono cap vs hv2 hE01 (fun _ _ => rfl)) ⟨x0, ρ0, by simpa using hm, hC1⟩ ?_ ?_ ?_ ?_)) ?_
  · rintro k (h | ⟨i, en, h1, h2⟩)
    · exact hS1 k h
    · exact (hC1.fresh i en k h1 h2).2
  · rintro k W ⟨y, ρ, _, hc⟩
    exact ⟨hc.size, fun b hb hn => hc.frame b hb (fun h => hn (.inr h))⟩
  · rintro k W W' ⟨y, ρ, h1, hc⟩ hbel
    exact ⟨y, ρ, h1, (hc.below hbel).1⟩
  · rintro W W' ⟨z, ρ, hoz, hc, hl2, hk2⟩ hbel
    exact ⟨z, ρ, hoz, (hc.below hbel).1, (hbel.block _ (Array.getElem?_eq_some_iff.1 hl2).1).trans hl2, (hbel.block _ (Array.getElem?_eq_some_iff.1 hk2).1).trans hk2⟩
  · -- one round
    rintro k item W0 W us hitem ⟨y, ρ, hrng, hcW0⟩ hbel hus
    have hc := (hcW0.below hbel).1
    have hEi : Ext (fun j => Un S1 ρ0 (ds A x0) j ∨ (W1.heap.size ≤ j ∧ j < W0.heap.size)) (Un S1 ρ (ds A y)) W W := ⟨Nat.le_refl _, fun k _ hn => ⟨rfl, by
      rintro (h | ⟨i, en, h1, h2⟩)
      · exact hn (.inl (.inl h))
      · obtain ⟨h3, h4⟩ := hcW0.fresh i en k h1 h2
        rcases h3 with h3 | h3
        · exact hn (.inr ⟨h3, h4⟩)
        · exact hn (.inl (.inr h3))⟩⟩
    obtain ⟨it, hit1, rfl⟩ : ∃ it, its[k]? = some it ∧ enc it = item := by
      rw [List.getElem?_map] at hitem
      cases hq : its[k]? with
      | none => rw [hq] at hitem; cases hitem
      | some it => rw [hq] at hitem; exact ⟨it, rfl, by simpa using hitem⟩
    have hdrop : its.drop k = it :: its.drop (k + 1) := by
      obtain ⟨hlt, he⟩ := List.getElem?_eq_some_iff.1 hit1
      rw [List.drop_eq_getElem_cons hlt, he]
    rw [hdrop] at hrng
    obtain ⟨hl, hkD⟩ := hlD hc
    have hlen := okv_len hus
    have hy := run_yield (P := F.P) (args := us.toArray) hl (by rw [hrec]; simp [hlen, hps])
    rw [hrec] at hy
    refine ⟨fn, _, assign, body, hy, roundIn_of_wpIn trivial ?_⟩
    let F2 : Frm := ⟨F.P, F.N, S1, W, Owns ρ (ds A y), some (D + 1), []⟩
    have hcW := hc.size
    have hcW2 : W1.heap.size ≤ W.heap.size := hcW
    have hc2 : Core F2 (ds A y) ρ W := ⟨fun k h => by have := hS1 k h; show k < W.heap.size; omega, Nat.le_refl _, fun _ _ _ => rfl, rfl, rfl, rfl, hc.own, fun i en b h hb => ⟨.inr ⟨i, en, h, hb⟩, (hc.fresh i en b h hb).2⟩, hc.inj, hc.apart⟩
    have hmem : agreeOn ρ0 ρ (Slot.labs (enc it)) := fun i hi => by rw [hel it] at hi; simp at hi
    have hst2 : St F2 ⟨putL ps.toList (enc it) g, ds A y⟩ { tmps := ((ps.zip us.toArray).foldl (fun tmps (t, a) => tmps.setIfInBounds t a) a.tmps), defers := [] } W := by
      refine ⟨⟨ρ, hc2, fun t s ht => ?_⟩, ?_, rfl⟩
      · have hzip : (ps.zip us.toArray).foldl (fun tmps (t, a) => tmps.setIfInBounds t a) a.tmps = (ps.toList.zip us).foldl (fun tmps (t, a) => tmps.setIfInBounds t a) a.tmps := by
          rw [← Array.foldl_toList]; simp
        rw [hzip]
        refine putL_ok ps.toList (enc it) us g a.tmps (fun t s ht => ?_) (Slot.okv_mono _ us hus hEi hmem) (by simpa using (hps it).symm) (fun t ht => ?_) t s ht
        · exact Slot.ok_mono s _ (Slot.ok_mono s _ (hs0 t s ht) hE01 (fun _ _ => rfl)) (hEk hc) (fun i hi => hag hc (hbx A y) t s ht i hi)
        · rw [hz]; have := List.all_eq_true.1 hpN t ht; exact Nat.le_of_ble_eq_true this
      · show ((ps.zip us.toArray).foldl (fun tmps (t, a) => tmps.setIfInBounds t a) a.tmps).size = F.N
        rw [← Array.foldl_toList]; rw [foldl_size]; exact hz
    have hass : assign.wpIn F2.fe 0 F.P (Exit.then (run F2.fe F.P (AQ F2 (σ1 A it y)) []) (AQ F2 (σ1 A it y))) _ W := hassign A S1 W (Owns ρ (ds A y)) (D + 1) it y _ _ hst2
    refine wpIn_mono (show assign.wpIn (Fence.wide.inRound (D + 1)) 0 F.P _ _ W from hass) ?_
    have fin : ∀ {e : Exit} {a1 : Act} {w1 : World}, St F2 (σ1 A it y) a1 w1 → ∃ w2, (Instr.beginRound (D + 1)).run F.P w1 = .ok () w2 ∧ body.wpIn (Fence.wide.inRound (D + 1)) 0 F.P (roundPost F.P (D + 1) fun e W' => (e = .returned (.bool true) ∧ J (k + 1) W') ∨ (e = .returned (.bool false) ∧ Jx W')) a1 w2 := by
      intro _ a1 w1 hst1
      obtain ⟨⟨ρ1, hc1, hs1⟩, hz1', hd1⟩ := hst1
      have hnR2 : ∀ k, S1 k → ¬ Owns ρ (ds A y) k := by rintro k hk ⟨i, en, h1, h2⟩; exact hc.apart i en k h1 h2 hk
      have hl1 : w1.heap[D + 1]? = some (.loop (rec .ready none)) := (hc1.frame (D + 1) (by show D + 1 < W.heap.size; have : W1.heap.size ≤ W.heap.size := hc.size; omega) (hnR2 _ (.inr (.inr rfl)))).trans hl
      have hk1 : w1.heap[D]? = some (.deferred (some [])) := (hc1.frame D (by show D < W.heap.size; have : W1.heap.size ≤ W.heap.size := hc.size; omega) (hnR2 _ (.inr (.inl rfl)))).trans hkD
      have hlt1 := (Array.getElem?_eq_some_iff.1 hl1).1
      have hbr := run_beginRound (P := F.P) hl1 (by rw [hrec])
      obtain ⟨w2, hw2⟩ : ∃ w2, w1.putObj (D + 1) (.loop { rec .ready none with state := .busy }) = w2 := ⟨_, rfl⟩
      rw [hw2] at hbr
      have hz2 : w2.heap.size = w1.heap.size := by rw [← hw2]; simp
      have hot2 : ∀ k, k ≠ D + 1 → w2.heap[k]? = w1.heap[k]? := fun k h => by rw [← hw2]; exact World.putObj_heap_other h
      have hl2 : w2.heap[D + 1]? = some (.loop { rec .ready none with state := .busy }) := by rw [← hw2]; exact World.putObj_heap_same hlt1
      let F3 : Frm := ⟨F.P, F.N, S1, w2, Owns ρ1 (σ1 A it y).d, some (D + 1), []⟩
      have hc1s : W.heap.size ≤ w1.heap.size := hc1.size
      have hcWs : W1.heap.size ≤ W.heap.size := hc.size
      obtain ⟨hc3, hE3⟩ := hc1.turn (F' := F3) (l := D + 1) (.inr (.inr rfl)) rfl hz2 hot2 (Nat.le_refl _) (fun k h => by have := hS1 k h; show k < w2.heap.size; omega) (fun _ _ _ => rfl) rfl rfl rfl (fun i en b h hb => .inr ⟨i, en, h, hb⟩)
      refine ⟨w2, hbr, ?_⟩
      -- what the body's world comes to
      have hcomp : ∀ {d : List (Nat × Ent)} {ρ3 : Nat → LV} {w3 w4 : World} {o4 : Obj}, Core F3 d ρ3 w3 → w4 = w3.putObj (D + 1) o4 → (o4 = .loop (rec .ready none) → Core FL d ρ3 w4) ∧ Core FX d ρ3 w4 ∧ w3.heap[D + 1]? = some (.loop { rec .ready none with state := .busy }) ∧ w4.heap[D + 1]? = some o4 ∧ w4.heap[D]? = some (.deferred (some [])) := by
        intro d ρ3 w3 w4 o4 hcc hw4
        have hnR3 : ∀ k, S1 k → ¬ Owns ρ1 (σ1 A it y).d k := by rintro k hk ⟨i, en, h1, h2⟩; exact hc1.apart i en k h1 h2 hk
        have h3s : w2.heap.size ≤ w3.heap.size := hcc.size
        have hl3 : w3.heap[D + 1]? = some (.loop { rec .ready none with state := .busy }) := (hcc.frame (D + 1) (by show D + 1 < w2.heap.size; omega) (hnR3 _ (.inr (.inr rfl)))).trans hl2
        have hk3 : w3.heap[D]? = some (.deferred (some [])) := (hcc.frame D (by show D < w2.heap.size; omega) (hnR3 _ (.inr (.inl rfl)))).trans ((hot2 D (by omega)).trans hk1)
        have hz4 : w4.heap.size = w3.heap.size := by rw [hw4]; simp
        have hot4 : ∀ k, k ≠ D + 1 → w4.heap[k]? = w3.heap[k]? := fun k h => by rw [hw4]; exact World.putObj_heap_other h
        have hl4 : w4.heap[D + 1]? = some o4 := by rw [hw4]; exact World.putObj_heap_same (Array.getElem?_eq_some_iff.1 hl3).1
        have hR3 : ∀ k, k < W1.heap.size → Owns ρ1 (σ1 A it y).d k → R1 k := by
          rintro k hk ⟨i, en, h1, h2⟩
          rcases (hc1.fresh i en k h1 h2).1 with h | ⟨i', en', h3, h4⟩
          · have : W.heap.size ≤ k := h
            omega
          · rcases (hc.fresh i' en' k h3 h4).1 with h | h
            · have : W1.heap.size ≤ k := h
              omega
            · exact h
        have hfr4 : ∀ k, k < W1.heap.size → ¬ R1 k → k ≠ D + 1 → w4.heap[k]? = W1.heap[k]? := by
          intro k hk hnr hne
          rw [hot4 k hne, hcc.frame k (by show k < w2.heap.size; omega) (fun h => hnr (hR3 k hk h))]
          show w2.heap[k]? = _
          rw [hot2 k hne, hc1.frame k (by show k < W.heap.size; omega) (fun h => ?_)]
          · exact hc.frame k hk hnr
          · obtain ⟨i, en, h1, h2⟩ := h
            rcases (hc.fresh i en k h1 h2).1 with h | h
            · have : W1.heap.size ≤ k := h
              omega
            · exact hnr h
        have hw4' : w4.os = w3.os ∧ w4.tape = w3.tape ∧ w4.output = w3.output := by rw [hw4]; exact ⟨rfl, rfl, rfl⟩
        have hw2' : w2.os = w1.os ∧ w2.tape = w1.tape ∧ w2.output = w1.output := by rw [← hw2]; exact ⟨rfl, rfl, rfl⟩
        have hos4 : w4.os = W1.os := hw4'.1.trans (hcc.os.trans (hw2'.1.trans (hc1.os.trans hc.os)))
        have htp4 : w4.tape = W1.tape := hw4'.2.1.trans (hcc.tape.trans (hw2'.2.1.trans (hc1.tape.trans hc.tape)))
        have hop4 : w4.output = W1.output := hw4'.2.2.trans (hcc.output.trans (hw2'.2.2.trans (hc1.output.trans hc.output)))
        have hRR : ∀ i en b, lkE d i = some en → Has (ρ3 i) b → W1.heap.size ≤ b ∨ R1 b := by
          intro i en b h hb
          by_cases hlt : b < W1.heap.size
          · rcases (hcc.fresh i en b h hb).1 with h' | h'
            · have : w2.heap.size ≤ b := h'
              omega
            · exact .inr (hR3 b hlt h')
          · exact .inl (by omega)
        have hlow : ∀ k, S1 k → k < W1.heap.size := hS1
        refine ⟨fun ho4 => ?_, ?_, hl3, hl4, by rw [hot4 D (by omega)]; exact hk3⟩
        · exact (hcc.turn (F' := FL) (l := D + 1) (.inr (.inr rfl)) rfl hz4 hot4 (by show W1.heap.size ≤ w4.heap.size; omega) hlow (fun k hk hnr => by
            by_cases hkl : k = D + 1
            · subst hkl; exact (hl4.trans (by rw [ho4])).trans hL1.symm
            · exact hfr4 k hk hnr hkl) hos4 htp4 hop4 hRR).1
        · exact (hcc.turn (F' := FX) (l := D + 1) (.inr (.inr rfl)) rfl hz4 hot4 (by show W1.heap.size ≤ w4.heap.size; omega) hlow (fun k hk hnr => hfr4 k hk (fun h => hnr (.inl h)) (fun h => hnr (.inr h))) hos4 htp4 hop4 (fun i en b h hb => (hRR i en b h hb).imp (fun h => h) .inl)).1
      have hst3 : St F3 (σ1 A it y) a1 w2 := ⟨⟨ρ1, hc3, fun t s ht => Slot.ok_mono s _ (hs1 t s ht) hE3 (fun _ _ => rfl)⟩, hz1', hd1⟩
      cases hsr : step it y with
      | none => simp only [rng, hsr] at hrng; cases hrng
      | some r =>
        have hbd : body.wpIn F3.fe 0 F.P (Exit.then (run F3.fe F.P (RB F3 (ds A) (dx A) r) []) (RB F3 (ds A) (dx A) r)) a1 w2 := hbody A S1 w2 _ (D + 1) it y r hsr _ _ hst3
        refine wpIn_mono (show body.wpIn (Fence.wide.inRound (D + 1)) 0 F.P _ a1 w2 from hbd) ?_
        intro e a3 w3 hq
        simp only [rng, hsr] at hrng
        cases r with
        | next y' =>
          cases e <;> simp only [RB, Exit.then, run] at hq
          obtain ⟨⟨ρ3, hc3', _⟩, _⟩ := hq
          obtain ⟨h1, h2, h3, h4, h5⟩ := hcomp (o4 := .loop (rec .ready none)) hc3' rfl
          have hen := run_endRound (P := F.P) none h3
          refine ⟨_, _, hen, .inl ⟨rfl, y', ρ3, ?_, ?_⟩⟩
          · exact hrng
          · rw [hrec] at h1 ⊢; exact h1 rfl
        | done z =>
          have hoz : o = .ret z := by simpa using hrng.symm
          cases e <;> simp only [RB, Exit.then, run] at hq
          obtain ⟨⟨ρ3, hc3', _⟩, _⟩ := hq
          obtain ⟨_, h2, h3, h4, h5⟩ := hcomp (o4 := .loop (rec .done (some .ret))) hc3' rfl
          have hen := run_endRound (P := F.P) (some .ret) h3
          refine ⟨_, _, hen, .inr ⟨rfl, z, ρ3, hoz, ?_, ?_, ?_⟩⟩
          · rw [hrec] at h2 ⊢; exact h2
          · rw [hrec] at h4 ⊢; exact h4
          · rw [hrec] at h5 ⊢; exact h5
    intro e a1 w1 hq
    cases e <;> simp only [AQ, Exit.then, run] at hq ⊢ <;> first | exact fin (e := .normal) hq | exact hq
  · -- behind the iterator
    rintro e W2 ⟨⟨v, rfl⟩, ⟨y, ρ, h1, hc⟩ | ⟨z, ρ, hoz, hc, hl2, hkD2⟩⟩
    · obtain ⟨hl, hkD⟩ := hlD hc
      have hoy : o = .brk y := by
        have h2 : its.drop (List.map enc its).length = [] := by simp
        rw [h2] at h1; simpa [rng] using h1.symm
      refine ⟨none, _, (by have := run_endLoop (P := F.P) hl (by rw [hrec]; simp); rw [hrec] at this; exact this), ?_⟩
      obtain ⟨W3, hW3⟩ : ∃ W3, W2.putObj (D + 1) (.loop { rec .ready none with state := .exhausted }) = W3 := ⟨_, rfl⟩
      have hoth : ∀ k, k ≠ D + 1 → W3.heap[k]? = W2.heap[k]? := fun k h => by rw [← hW3]; exact World.putObj_heap_other h
      obtain ⟨hf1, hf2, hf3⟩ := hfol (W' := W3) (.inl rfl) hc (by rw [← hW3]; simp) hoth (by rw [← hW3]; rfl) (by rw [← hW3]; rfl) (by rw [← hW3]; rfl) hkD
      have hfin := hk A y hoy S1 W3 (Owns ρ (ds A y)) _ hf1 { a with defers := [{ target := .collected D, args := #[] }] ++ a.defers } W3 ⟨⟨ρ, hf2, fun t s ht => ?_⟩, hz, by show _ ++ a.defers = _; rw [hde]; rfl⟩
      · have hWeq : W2.putObj (D + 1) (.loop { state := .exhausted, pending := none, fn, tmps := a.tmps, params := ps, assign, body, defers := D }) = W3 := by rw [← hW3, hrec]
        rw [hWeq]
        simp only [Exit.then]
        exact hfin
      · exact Slot.ok_mono s _ (Slot.ok_mono s _ (Slot.ok_mono s _ (hs0 t s ht) hE01 (fun _ _ => rfl)) (hEk hc) (fun i hi => hag hc (hbx A y) t s ht i hi)) hf3 (fun _ _ => rfl)
    · refine ⟨some .ret, _, (by have := run_endLoop (P := F.P) hl2 (by rw [hrec]; simp); rw [hrec] at this; exact this), ?_⟩
      obtain ⟨W3, hW3⟩ : ∃ W3, W2.putObj (D + 1) (.loop { rec .done (some .ret) with state := .exhausted }) = W3 := ⟨_, rfl⟩
      have hoth : ∀ k, k ≠ D + 1 → W3.heap[k]? = W2.heap[k]? := fun k h => by rw [← hW3]; exact World.putObj_heap_other h
      obtain ⟨hf1, hf2, hf3⟩ := hfol (W' := W3) (.inr rfl) hc (by rw [← hW3]; simp) hoth (by rw [← hW3]; rfl) (by rw [← hW3]; rfl) (by rw [← hW3]; rfl) hkD2
      have hfin := hx A z hoz S1 W3 (Owns ρ (dx A z)) _ hf1 { a with defers := [{ target := .collected D, args := #[] }] ++ a.defers } W3 ⟨⟨ρ, hf2, fun t s ht => ?_⟩, hz, by show _ ++ a.defers = _; rw [hde]; rfl⟩
      · have hWeq : W2.putObj (D + 1) (.loop { state := .exhausted, pending := some .ret, fn, tmps := a.tmps, params := ps, assign, body, defers := D }) = W3 := by rw [← hW3, hrec]
        show (Code.ret).wpIn _ _ _ _ _ _
        rw [hWeq]
        exact wpIn_ret hfin
      · exact Slot.ok_mono s _ (Slot.ok_mono s _ (Slot.ok_mono s _ (hs0 t s ht) hE01 (fun _ _ => rfl)) (hEx hc) (fun i hi => hag hc (hbz A z) t s ht i hi)) hf3 (fun _ _ => rfl)

/-- a range over a function, in the model: what comes behind it; what comes where it is left -/
def rg {ι α δ γ : Type} (step : ι → α → Option (Step α δ)) (its : List ι) (x : α) (k : α → Option γ) (kx : δ → Option γ) : Option γ := match rng step its x with
  | none => none
  | some (.brk y) => k y
  | some (.ret z) => kx z
/-- a slice that memory bears -/
def small {α : Type} (xs : List α) : Option Unit := if (xs.length : Int) ≤ 4294967296 then some () else none
/-- a number of a size that pieces may have -/
def chkn (n : Int) : Option Unit := if 1 ≤ n ∧ n ≤ 4294967296 then some () else none
end Go.Sw

namespace Go.Sw
open Go Go.RowKit

/-- a value just that -/
def Enc.cst (u : Value) (h : u.oneCell' = true) : Enc Unit where
  n := 1
  agg := false
  ok _ _ _ cs := cs = [u]
  len h := by rw [h]; rfl
  one _ := rfl
  cell hc c hm := by rw [hc] at hm; simp at hm; subst hm; exact h
  mono h _ := h
instance (u : Value) (h : u.oneCell' = true) : FlatE (Enc.cst u h) := ⟨fun h => h⟩
/-- a pointer, just that, to what lies there -/
def Enc.cp {α : Type} (b off : Nat) (e : Enc α) : Enc α where
  n := 1
  agg := false
  ok x S w cs := cs = [.pointer (some ⟨b, off, none⟩)] ∧ ∃ ds, b < w.heap.size ∧ ¬ S b ∧ MemAt w b off ds ∧ e.ok x S w ds
  len h := by rw [h.1]; rfl
  one _ := rfl
  cell hc c hm := by rw [hc.1] at hm; simp at hm; subst hm; rfl
  mono h k := by
    obtain ⟨h1, ds, h2, h3, h4, h5⟩ := h
    exact ⟨h1, ds, Nat.lt_of_lt_of_le h2 k.size, (k.keep b h2 h3).2, h4.mono h2 h3 k, e.mono h5 k⟩
theorem val_cp {α : Type} {b off : Nat} {e : Enc α} {x : α} {S w v} : (Enc.cp b off e).val x S w v ↔ v = .pointer (some ⟨b, off, none⟩) ∧ ∃ ds, b < w.heap.size ∧ ¬ S b ∧ MemAt w b off ds ∧ e.ok x S w ds :=
  ⟨fun ⟨_, h1, h2⟩ => by obtain ⟨rfl, h3⟩ := h1; exact ⟨h2, h3⟩, fun h => ⟨_, ⟨rfl, h.2⟩, h.1⟩⟩
section
variable {F : Frm} {σ : AS} {s : Slot} {d : Option Tmp} {ty : TypeId} {p : String} {af : Array Edge} {gd : Option (Nat × Bool)} {x y z : Operand}
end
def SW (S : Nat → Prop) (B : Nat) (W : World) (j : Nat) : Prop := S j ∨ (B ≤ j ∧ j < W.heap.size)
abbrev FW (P : Program) (N : Nat) (S : Nat → Prop) (B : Nat) (W : World) : Frm := ⟨P, N, SW S B W, W, fun _ => False, none, []⟩

/-- what an iterator may use -/
structure Its (P : Program) (S : Nat → Prop) (w : World) (ρ : Nat → LV) (l : Nat) (J : Nat → World → Prop) (Jx : World → Prop) (items : List (List Slot)) : Prop where
  low : ∀ k, S k → k < w.heap.size
  keep : ∀ k W, J k W → w.heap.size ≤ W.heap.size ∧ ∀ b, b < w.heap.size → ¬ S b → W.heap[b]? = w.heap[b]?
  below : ∀ k W W', J k W → Below W.heap.size W W' → J k W'
  belowx : ∀ W W', Jx W → Below W.heap.size W W' → Jx W'
  yields : ∀ k item W0 W us, items[k]? = some item → J k W0 → Below W0.heap.size W0 W → Slot.okv ρ (SW S w.heap.size W0) W item us → ∃ fn tmps assign body, (Instr.yield l us.toArray).run P W = .ok (.round l fn tmps assign body) W ∧
      RoundIn Fence.wide 0 P l fn tmps assign body W fun e W' => (e = .returned (.bool true) ∧ J (k + 1) W') ∨ (e = .returned (.bool false) ∧ Jx W')
/-- what can be told anew in whatever world the rounds leave -/
def Again (ρ : Nat → LV) (S : Nat → Prop) (w : World) (s : Slot) : Prop := s.lab = [] ∧ ∀ S1 W1 S2 W2 u, s.ok ρ S1 W1 u → Ext S S2 w W2 → s.ok ρ S2 W2 u
theorem Again.flat {α : Type} {e : Enc α} [FlatE e] {x : α} {ρ S w} : Again ρ S w (.v e x) := ⟨rfl, fun _ _ _ _ u h _ => by
  simp only [Slot.ok] at h ⊢
  obtain ⟨cs, h1, h2⟩ := h
  exact ⟨cs, FlatE.flat h1, h2⟩⟩
theorem Again.cp {α : Type} {e : Enc α} {x : α} {b off : Nat} {ρ S w} (h : (Slot.v (Enc.cp b off e) x).ok ρ S w (.pointer (some ⟨b, off, none⟩))) : Again ρ S w (.v (Enc.cp b off e) x) := ⟨rfl, fun _ _ _ _ u h1 k => by
  simp only [Slot.ok] at h h1 ⊢
  obtain ⟨rfl, _⟩ := val_cp.1 h1
  exact Enc.val_mono h k⟩
inductive AgainL (ρ : Nat → LV) (S : Nat → Prop) (w : World) : List (Nat × Slot) → Prop
  | nil : AgainL ρ S w []
  | cons {t : Nat} {s : Slot} {g : List (Nat × Slot)} : Again ρ S w s → AgainL ρ S w g → AgainL ρ S w ((t, s) :: g)
theorem AgainL.spec {ρ S w} {g : List (Nat × Slot)} (h : AgainL ρ S w g) : ∀ t s, lk g t = some s → Again ρ S w s := by
  induction h with
  | nil => intro t s h; simp [lk] at h
  | cons h1 _ ih =>
    intro t s h
    rw [lk_cons] at h
    split at h
    · cases h; exact h1
    · exact ih t s h
/-- slots that are among others -/
inductive SubS (g : List (Nat × Slot)) : List (Nat × Slot) → Prop
  | nil : SubS g []
  | cons {t : Nat} {s : Slot} {g' : List (Nat × Slot)} : lk g t = some s → SubS g g' → SubS g ((t, s) :: g')
theorem SubS.spec {g g' : List (Nat × Slot)} (h : SubS g g') : ∀ t s, lk g' t = some s → lk g t = some s := by
  induction h with
  | nil => intro t s h; simp [lk] at h
  | cons h1 _ ih =>
    intro t s h
    rw [lk_cons] at h
    split at h
    · rename_i he; subst he; cases h; exact h1
    · exact ih t s h
section
variable {P : Program} {N : Nat} {S : Nat → Prop} {w : World} {ρ : Nat → LV} {l : Nat} {J : Nat → World → Prop} {Jx : World → Prop} {items : List (List Slot)}

theorem Core.none {F : Frm} {ρ : Nat → LV} (hl : ∀ k, F.S0 k → k < F.w0.heap.size) : Core F [] ρ F.w0 :=
  ⟨hl, Nat.le_refl _, fun _ _ _ => rfl, rfl, rfl, rfl, fun i en h => by simp [lkE] at h, fun i en b h => by simp [lkE] at h, fun i j en en' b h => by simp [lkE] at h, fun i en b h => by simp [lkE] at h⟩
theorem Un.none {S : Nat → Prop} {ρ : Nat → LV} : Un S ρ [] = S := by
  funext k; refine propext ⟨fun h => ?_, .inl⟩
  rcases h with h | ⟨i, en, h, _⟩
  · exact h
  · simp [lkE] at h
/-- how a round of an iterator ends -/
def IQ (N : Nat) (J : Nat → World → Prop) (m : Nat) (gs : Nat → List (Nat × Slot)) (Q : Exit → Act → World → Prop) (k : Nat) : Exit → Act → World → Prop
  | .normal, a, W' => k < m ∧ J (k + 1) W' ∧ ∃ F', F'.N = N ∧ F'.df = [] ∧ St F' ⟨gs (k + 1), []⟩ a W'
  | e, a, W' => Q e a W'
/-- how an iterator ends -/
def RetI (P : Program) (fn : Func) (J : Nat → World → Prop) (Jx : World → Prop) (m : Nat) : Exit → Act → World → Prop := bodyPost P fn fun e w' => (∃ v, e = .returned v) ∧ (J m w' ∨ Jx w')
theorem RetI.of {fn : Func} {m : Nat} (hrs : fn.results = #[]) {e : Exit} (he : e = .normal ∨ e = .ret) {a : Act} {V : World} (hd : a.defers = []) (h : J m V ∨ Jx V) : RetI P fn J Jx m e a V := by
  have h1 : a.defers = [] ∧ ∃ v, (results fn a.tmps).run P V = .ok v V ∧ ((∃ u, Ending.returned v = .returned u) ∧ (J m V ∨ Jx V)) := ⟨hd, _, results0 hrs, ⟨_, rfl⟩, h⟩
  rcases he with rfl | rfl <;> exact h1
end
/-- pieces of n -/
def chunks {α : Type} (n : Nat) (xs : List α) : List (List α) := (List.range ((xs.length + n - 1) / n)).map fun k => (xs.drop (k * n)).take n
/-- from the last one to the first one, with their numbers -/
def backs {α : Type} (xs : List α) : List (Int × α) := (xs.zipIdx.map fun x => ((x.2 : Int), x.1)).reverse
end Go.Sw

namespace Go.Sw
open Go Go.RowKit
section
variable {F : Frm} {σ : AS} {pb : Option Nat} {s : Slot} {d : Option Tmp} {ty : TypeId} {p : String} {af : Array Edge} {gd : Option (Nat × Bool)} {x y z : Operand}
/-! ### an empty slice literal, and what is appended to it -/
def Enc.emp {α : Type} (_e : Enc α) : Enc Unit where
  n := 1
  agg := false
  ok _ _ _ cs := ∃ a, cs = [.slice a 0 0]
  len h := by obtain ⟨a, h⟩ := h; rw [h]; rfl
  one _ := rfl
  cell h c hc := by obtain ⟨a, h⟩ := h; rw [h] at hc; simp at hc; subst hc; rfl
  mono h _ := h
/-! ### parts of elements -/
/-- a part of what lies at a place, and what that comes to with another part -/
def Lns {α β : Type} (e : Enc α) (z : α) (off : Nat) (e' : Enc β) (z' : β) (u : β → α) : Prop := ∀ S w cs, e.ok z S w cs → ∃ a c d, cs = a ++ (c ++ d) ∧ a.length = off ∧ e'.ok z' S w c ∧ ∀ z2 c2, e'.ok z2 S w c2 → e.ok (u z2) S w (a ++ (c2 ++ d))
theorem Lns.here {α : Type} {e : Enc α} {z : α} : Lns e z 0 e z (fun y => y) := fun S w cs h => ⟨[], cs, [], by simp, rfl, h, fun z2 c2 h2 => by simpa using h2⟩
theorem Lns.fst {α β γ : Type} {a : Enc α} {b : Enc β} {e' : Enc γ} {z : α × β} {z' : γ} {off : Nat} {u : γ → α} (h : Lns a z.1 off e' z' u) : Lns (Enc.pr a b) z off e' z' (fun y => (u y, z.2)) := by
  rintro S w cs ⟨c, d, rfl, h1, h2⟩
  obtain ⟨a', c', d', rfl, k2, k3, k4⟩ := h S w c h1
  exact ⟨a', c', d' ++ d, by simp, k2, k3, fun z2 c2 h3 => ⟨a' ++ (c2 ++ d'), d, by simp, k4 z2 c2 h3, h2⟩⟩
theorem Lns.snd {α β γ : Type} {a : Enc α} {b : Enc β} {e' : Enc γ} {z : α × β} {z' : γ} {off : Nat} {u : γ → β} (h : Lns b z.2 off e' z' u) : Lns (Enc.pr a b) z (a.n + off) e' z' (fun y => (z.1, u y)) := by
  rintro S w cs ⟨c, d, rfl, h1, h2⟩
  obtain ⟨a', c', d', rfl, k2, k3, k4⟩ := h S w d h2
  exact ⟨c ++ a', c', d', by simp, by rw [List.length_append, a.len h1, k2], k3, fun z2 c2 h3 => ⟨c, a' ++ (c2 ++ d'), by simp, h1, k4 z2 c2 h3⟩⟩
theorem Lns.one1 {α γ : Type} {a : Enc α} {e' : Enc γ} {z : α} {z' : γ} {off : Nat} {u : γ → α} (h : Lns a z off e' z' u) : Lns (Enc.one1 a) z off e' z' u := h
theorem Lns.arr {α γ : Type} {m k : Nat} {e : Enc α} {e' : Enc γ} {zs : List α} {y : α} {z' : γ} {off : Nat} {u : γ → α} (hk : zs[k]? = some y) (h : Lns e y off e' z' u) : Lns (Enc.arr m e) zs (k * e.n + off) e' z' (fun v => zs.set k (u v)) := by
  rintro S w cs ⟨hm, h1⟩
  obtain ⟨a', c', b', rfl, hl, hc, hset⟩ := Enc.okL_get h1 hk
  obtain ⟨a2, c2, d2, rfl, k2, k3, k4⟩ := h S w c' hc
  exact ⟨a' ++ a2, c2, d2 ++ b', by simp, by rw [List.length_append, hl, k2], k3, fun z2 c3 h3 => ⟨by simp [hm], by have := hset _ _ (k4 z2 c3 h3); simpa using this⟩⟩
theorem Prj.arr {α γ : Type} {m k : Nat} {e : Enc α} {e' : Enc γ} {zs : List α} {y : α} {z' : γ} {off : Nat} (hk : zs[k]? = some y) (h : Prj e y off e' z') : Prj (Enc.arr m e) zs (k * e.n + off) e' z' := by
  rintro S w cs ⟨_, h1⟩
  obtain ⟨a', c', b', rfl, hl, hc, _⟩ := Enc.okL_get h1 hk
  obtain ⟨a2, c2, d2, rfl, k2, k3⟩ := h S w c' hc
  exact ⟨a' ++ a2, c2, d2 ++ b', by simp, by rw [List.length_append, hl, k2], k3⟩
/-! ### slices of arrays, copies -/
/-- bounds that an array bears -/
def upto (m : Nat) (hi : Int) : Option Unit := if 0 ≤ hi ∧ hi ≤ m then some () else none
/-- what is copied -/
def cpy {α : Type} (n : Nat) (ys zs : List α) : List α := ys.take n ++ zs.drop (min ys.length n)
/-- a clone of a slice that is not nil -/
theorem clone_f {α : Type} {x : Option α} {r : α} (h : x = some r) : (x.bind fun v => some v) = some r := by rw [h]; rfl
end
end Go.Sw

namespace Go.Sw
open Go
end Go.Sw

namespace Go.Sw
open Go Go.RowKit
section
variable {F : Frm} {σ : AS} {x y : Operand} {d : Option Tmp} {ty : TypeId} {p : String} {af : Array Edge} {gd : Option (Nat × Bool)}
end
end Go.Sw

namespace Go.Sw
open Go
theorem JO.pack {F : Frm} {σ : AS} {o : Oper} {l : List Slot} {new : List (Nat × Ent)} {α : Type} {e : Enc α} {z : α} (h : JO F o σ (.agg l) new) (hs : Spl l e z) (ha : e.agg = true) : JO F o σ (.v e z) new := by
  intro ρ S a w K
  refine (h ρ S a w K).mono ?_
  rintro v w' ⟨ρ', h1, h2, h3, h4⟩
  refine ⟨ρ', h1, h2, ?_, h4⟩
  simp only [Slot.ok] at h3 ⊢
  obtain ⟨cs, h5, h6⟩ := h3
  exact ⟨cs, (hs _ _ _ cs).1 h6, by rw [h5]; simp [Enc.pk, ha]⟩
end Go.Sw

namespace Go.Sw
open Go
section
variable {F F' : Frm} {σ : AS} {fn : Func} {r0 r1 r2 r3 r4 : ResultVar} {s0 s1 s2 s3 s4 : Slot} {new : List (Nat × Ent)}
end
end Go.Sw

namespace Go.Sw
open Go Go.RowKit

/-- the labels at which an operation looks, by what is known -/
def rdl (g : List (Nat × Slot)) (o : Oper) : List Nat := o.op.operands.toList.flatMap fun x => match evS g x with | some s => s.lab | none => []
/-- what the operation looks at is the same -/
structure Loc (ops : Array Oper) (o : Oper) (σ0 σ : AS) : Prop where
  g : ∀ u ∈ looks ops o, lk σ.g u = lk σ0.g u
  d : ∀ l ∈ rdl σ0.g o, lkE σ.d l = lkE σ0.d l
section
variable {F : Frm} {ops : Array Oper} {o : Oper} {σ0 σ : AS}
theorem Loc.ev (h : Loc ops o σ0 σ) {x : Operand} (hx : x ∈ o.op.operands) : evS σ.g x = evS σ0.g x := by
  cases x with
  | tmp u => exact h.g u (by simp only [looks, List.mem_append, List.mem_flatMap]; exact .inl ⟨_, by simpa using hx, by simp [rd]⟩)
  | const u => rfl
  | global g => rfl
  | func f => rfl
theorem Loc.ent (h : Loc ops o σ0 σ) {x : Operand} {s : Slot} {l : Nat} (hx : x ∈ o.op.operands) (hs : evS σ0.g x = some s) (hl : l ∈ s.lab) : lkE σ.d l = lkE σ0.d l :=
  h.d l (List.mem_flatMap.2 ⟨x, by simpa using hx, by rw [hs]; exact hl⟩)
theorem JO.loc {s : Slot} {new : List (Nat × Ent)} (h : JO F o σ0 s new) (hl : Loc ops o σ0 σ) : JO F o σ s new := fun ρ S a w K =>
  h ρ S a w ⟨K.low, fun x hx s hs => K.slot x hx s (by rw [hl.ev hx]; exact hs), fun x hx s hs i hi en he => K.ent x hx s (by rw [hl.ev hx]; exact hs) i hi en (by rw [hl.ent hx hs hi]; exact he)⟩
theorem gk_loc {b : Bool} (h : GK ops σ0.g o b) (hl : Loc ops o σ0 σ) : GK ops σ.g o b := by
  unfold GK at h ⊢
  split
  · rename_i hg; rw [hg] at h; exact h
  · rename_i j want hg
    rw [hg] at h
    have key : ∀ t, (ops[j]?).bind (·.dst) = some t → lk σ.g t = lk σ0.g t := fun t ht => hl.g t (by simp [looks, hg, ht])
    rcases h with ⟨t, x, h1, h2, h3⟩ | ⟨h0, t, h1, h2⟩
    · exact .inl ⟨t, x, h1, by rw [key t h1]; exact h2, h3⟩
    · exact .inr ⟨h0, t, h1, by rw [key t h1]; exact h2⟩
end
/-- what an operation makes, and at what it looks -/
structure Itm where
  s : Slot
  nw : List (Nat × Ent)
  fr : Bool
  rl : List Nat
/-- operations in the text's order -/
inductive JP2 (F : Frm) (ops : Array Oper) : List Oper → AS → List Itm → AS → Prop
  | nil {σ : AS} : JP2 F ops [] σ [] σ
  | cons {o : Oper} {os : List Oper} {σ σ' : AS} {s : Slot} {new : List (Nat × Ent)} {h : List Itm} : GK ops σ.g o true → JO F o σ s new → dstOk o.dst F.N = true → σ.free new = true →
      JP2 F ops os ⟨gput o.dst s σ.g, new ++ σ.d⟩ h σ' → JP2 F ops (o :: os) σ (⟨s, new, true, rdl σ.g o⟩ :: h) σ'
  | left {o : Oper} {os : List Oper} {σ σ' : AS} {h : List Itm} : GK ops σ.g o false → dstOk o.dst F.N = true → JP2 F ops os ⟨gput o.dst .top σ.g, σ.d⟩ h σ' → JP2 F ops (o :: os) σ (⟨.top, [], true, rdl σ.g o⟩ :: h) σ'
  | st {o : Oper} {os : List Oper} {σ σ' : AS} {l : Nat} {en : Ent} {h : List Itm} : GK ops σ.g o true → o.dst = none → (∀ σ2, Loc ops o σ σ2 → JM F o σ2 ⟨σ2.g, (l, en) :: σ2.d⟩) →
      JP2 F ops os ⟨σ.g, (l, en) :: σ.d⟩ h σ' → JP2 F ops (o :: os) σ (⟨.top, [(l, en)], false, rdl σ.g o⟩ :: h) σ'

/-- the marks of what each operation waits for -/
def msOk (ops : Array Oper) (ms : List Nat) : Bool := Nat.beq ms.length ops.size && (List.range ops.size).all fun i => match ops[i]? with
  | none => false
  | some o => Nat.beq (ms.getD i 0) ((deps o).foldl (fun m j => m ||| 1 <<< j ||| ms.getD j 0) 0)
/-- waits for -/
inductive Anc (ops : Array Oper) : Nat → Nat → Prop
  | one {i j : Nat} {o : Oper} : ops[i]? = some o → j ∈ deps o → Anc ops i j
  | up {i k j : Nat} {o : Oper} : ops[i]? = some o → k ∈ deps o → Anc ops k j → Anc ops i j
theorem Anc.down {ops : Array Oper} {L : Nat → Bool} (h : Down ops L) : ∀ {i j : Nat}, Anc ops i j → L i = true → L j = true := by
  intro i j ha
  induction ha with
  | one ho hj => exact fun hi => h _ _ hi ho _ hj
  | up ho hk _ ih => exact fun hi => ih (h _ _ hi ho _ hk)
theorem foldl_or_bit {ms : List Nat} {b : Nat} : ∀ {l : List Nat} {m : Nat}, (l.foldl (fun m j => m ||| 1 <<< j ||| ms.getD j 0) m).testBit b = true → m.testBit b = true ∨ ∃ j ∈ l, j = b ∨ (ms.getD j 0).testBit b = true
  | [], m, h => .inl h
  | j :: l, m, h => by
    rw [List.foldl_cons] at h
    rcases foldl_or_bit (l := l) h with h | ⟨q, hq, h⟩
    · rw [Nat.testBit_or, Nat.testBit_or, Bool.or_eq_true, Bool.or_eq_true] at h
      rcases h with (h | h) | h
      · exact .inl h
      · refine .inr ⟨j, List.mem_cons_self, .inl ?_⟩
        rw [Nat.one_shiftLeft, Nat.testBit_two_pow] at h
        simpa using h
      · exact .inr ⟨j, List.mem_cons_self, .inr h⟩
    · exact .inr ⟨q, List.mem_cons_of_mem _ hq, h⟩
theorem back_dep {ops : Array Oper} (hb : backOk ops = true) {i j : Nat} {o : Oper} (ho : ops[i]? = some o) (hj : j ∈ deps o) : j < i := by
  have hi : i < ops.size := by
    rcases Nat.lt_or_ge i ops.size with h | h
    · exact h
    · simp [Array.getElem?_eq_none h] at ho
  have := List.all_eq_true.1 hb i (List.mem_range.2 hi)
  simp only [ho] at this
  simpa using List.all_eq_true.1 this j hj
theorem ms_spec {ops : Array Oper} {ms : List Nat} (hb : backOk ops = true) (hm : msOk ops ms = true) : ∀ i j, (ms.getD i 0).testBit j = true → Anc ops i j := by
  simp only [msOk, Bool.and_eq_true, List.all_eq_true] at hm
  obtain ⟨hl, hm⟩ := hm
  have hl := Nat.eq_of_beq_eq_true hl
  intro i
  induction i using Nat.strongRecOn with
  | _ i ih =>
    intro j h
    rcases Nat.lt_or_ge i ops.size with hlt | hge
    · have h1 := hm i (List.mem_range.2 hlt)
      have ho : ops[i]? = some ops[i] := Array.getElem?_eq_getElem hlt
      simp only [ho] at h1
      rw [Nat.eq_of_beq_eq_true h1] at h
      rcases foldl_or_bit h with h | ⟨q, hq, rfl | h⟩
      · simp at h
      · exact .one ho hq
      · exact .up ho hq (ih q (back_dep hb ho hq) j h)
    · rw [List.getD_eq_getElem?_getD, List.getElem?_eq_none (by omega)] at h; simp at h
theorem Anc.lt {ops : Array Oper} (hb : backOk ops = true) : ∀ {i j : Nat}, Anc ops i j → j < i := by
  intro i j h
  induction h with
  | one ho hj => exact back_dep hb ho hj
  | up ho hk _ ih => exact Nat.lt_trans ih (back_dep hb ho hk)

/-- the first n operations each write a slot of their own, at which only those look that wait for them; the others wait for all that is ahead of them -/
def drawOk2 (ops : Array Oper) (n : Nat) (ms : List Nat) : Bool :=
  (List.range ops.size).all fun i =>
    match ops[i]? with
    | none => false
    | some o =>
      if i < n then
        (match o.dst with
         | none => true
         | some t => (List.range n).all fun j =>
            match ops[j]? with
            | none => false
            | some o' => (j == i || o'.dst != some t) && (!(looks ops o').contains t || (ms.getD j 0).testBit i || (ms.getD i 0).testBit j))
      else (List.range i).all fun j => (ms.getD i 0).testBit j
/-- what one makes is apart from what the other makes and looks at -/
def aptI (a b : Itm) : Bool := a.nw.all fun x => (!b.rl.contains x.1 && !b.s.lab.contains x.1) && b.nw.all fun y => !Nat.beq y.1 x.1 && !y.2.lab.contains x.1
/-- operations none of which waits for the other are apart -/
def comB (its : List Itm) (ms : List Nat) : Bool :=
  (List.range its.length).all fun i => (List.range its.length).all fun j => Nat.beq i j || (ms.getD j 0).testBit i || (ms.getD i 0).testBit j ||
    (match its[i]?, its[j]? with | some a, some b => aptI a b | _, _ => true)

/-! ### what is known when some are done -/
def gLs (dst : Nat → Option Tmp) (sl : Nat → Slot) (g : List (Nat × Slot)) : Nat → (Nat → Bool) → List (Nat × Slot)
  | 0, _ => g
  | m + 1, L => bif L m then gput (dst m) (sl m) (gLs dst sl g m L) else gLs dst sl g m L
def dLs (nw : Nat → List (Nat × Ent)) (d : List (Nat × Ent)) : Nat → (Nat → Bool) → List (Nat × Ent)
  | 0, _ => d
  | m + 1, L => bif L m then nw m ++ dLs nw d m L else dLs nw d m L
section
variable {dst : Nat → Option Tmp} {sl : Nat → Slot} {g : List (Nat × Slot)} {nw : Nat → List (Nat × Ent)} {d : List (Nat × Ent)}
theorem lk_gput {t : Option Tmp} {s : Slot} {g : List (Nat × Slot)} {u : Nat} : lk (gput t s g) u = if t = some u then some s else lk g u := by
  cases t with
  | none => simp [gput]
  | some t => simp only [gput, lk_cons, Option.some.injEq]
theorem gLs_congr {u : Nat} {L L' : Nat → Bool} : ∀ {m : Nat}, (∀ i, i < m → dst i = some u → L i = L' i) → lk (gLs dst sl g m L) u = lk (gLs dst sl g m L') u
  | 0, _ => rfl
  | m + 1, h => by
    have ih := gLs_congr (m := m) (fun i hi => h i (by omega))
    simp only [gLs]
    by_cases hd : dst m = some u
    · rw [h m (by omega) hd]; cases L' m <;> simp [lk_gput, hd, ih]
    · cases L m <;> cases L' m <;> simp [lk_gput, hd, ih]
theorem gLs_at {u j : Nat} {L : Nat → Bool} (hj : dst j = some u) (hL : L j = true) : ∀ {m : Nat}, j < m → (∀ i, i < m → i ≠ j → dst i ≠ some u) → lk (gLs dst sl g m L) u = some (sl j)
  | 0, h, _ => by omega
  | m + 1, h, hn => by
    simp only [gLs]
    by_cases hm : j = m
    · subst hm; rw [hL]; simp [lk_gput, hj]
    · have ih := gLs_at (m := m) hj hL (by omega) (fun i hi => hn i (by omega))
      have := hn m (by omega) (Ne.symm hm)
      cases L m <;> simp [lk_gput, this, ih]
theorem dLs_congr {l : Nat} {L L' : Nat → Bool} : ∀ {m : Nat}, (∀ i, i < m → lkE (nw i) l ≠ none → L i = L' i) → lkE (dLs nw d m L) l = lkE (dLs nw d m L') l
  | 0, _ => rfl
  | m + 1, h => by
    have ih := dLs_congr (m := m) (fun i hi => h i (by omega))
    simp only [dLs]
    by_cases hd : lkE (nw m) l = none
    · cases L m <;> cases L' m <;> simp [lkE_append, hd, ih]
    · rw [h m (by omega) hd]; cases L' m <;> simp [lkE_append, ih]
theorem dLs_at {l j : Nat} {en : Ent} {L : Nat → Bool} (hj : lkE (nw j) l = some en) (hL : L j = true) : ∀ {m : Nat}, j < m → (∀ i, j < i → i < m → L i = true → lkE (nw i) l = none) → lkE (dLs nw d m L) l = some en
  | 0, h, _ => by omega
  | m + 1, h, hn => by
    simp only [dLs]
    by_cases hm : j = m
    · subst hm; rw [hL]; simp [lkE_append, hj]
    · have ih := dLs_at (m := m) hj hL (by omega) (fun i h1 h2 => hn i h1 (by omega))
      cases hLm : L m with
      | false => simpa using ih
      | true => simp [lkE_append, hn m (by omega) (by omega) hLm, ih]
theorem mem_gLs {y : Nat × Slot} {L : Nat → Bool} : ∀ {m : Nat}, y ∈ gLs dst sl g m L → y ∈ g ∨ ∃ i, i < m ∧ L i = true ∧ y.2 = sl i
  | 0, h => .inl h
  | m + 1, h => by
    simp only [gLs] at h
    cases hL : L m with
    | false =>
      rw [hL] at h
      rcases mem_gLs (m := m) h with h | ⟨i, h1, h2⟩
      · exact .inl h
      · exact .inr ⟨i, by omega, h2⟩
    | true =>
      rw [hL] at h
      simp only [cond_true] at h
      have : y ∈ gLs dst sl g m L ∨ y.2 = sl m := by
        cases hd : dst m with
        | none => rw [hd] at h; exact .inl h
        | some t =>
          rw [hd] at h
          rcases List.mem_cons.1 h with rfl | h
          · exact .inr rfl
          · exact .inl h
      rcases this with h | h
      · rcases mem_gLs (m := m) h with h | ⟨i, h1, h2⟩
        · exact .inl h
        · exact .inr ⟨i, by omega, h2⟩
      · exact .inr ⟨m, by omega, hL, h⟩
theorem mem_dLs {y : Nat × Ent} {L : Nat → Bool} : ∀ {m : Nat}, y ∈ dLs nw d m L → y ∈ d ∨ ∃ i, i < m ∧ L i = true ∧ y ∈ nw i
  | 0, h => .inl h
  | m + 1, h => by
    simp only [dLs] at h
    cases hL : L m with
    | false =>
      rw [hL] at h
      rcases mem_dLs (m := m) h with h | ⟨i, h1, h2⟩
      · exact .inl h
      · exact .inr ⟨i, by omega, h2⟩
    | true =>
      rw [hL] at h
      rcases List.mem_append.1 h with h | h
      · exact .inr ⟨m, by omega, hL, h⟩
      · rcases mem_dLs (m := m) h with h | ⟨i, h1, h2⟩
        · exact .inl h
        · exact .inr ⟨i, by omega, h2⟩
end
theorem St.congr {F : Frm} {σ σ' : AS} {a : Act} {w : World} (hg : ∀ u, lk σ'.g u = lk σ.g u) (hd : ∀ l, lkE σ'.d l = lkE σ.d l) (h : St F σ a w) : St F σ' a w := by
  obtain ⟨⟨ρ, hc, hs⟩, hz, hde⟩ := h
  have hd' : ∀ l en, lkE σ.d l = some en ↔ lkE σ'.d l = some en := fun l en => by rw [hd]
  exact ⟨⟨ρ, hc.congr hd', fun t s ht => by rw [← Un.congr hd']; exact hs t s (by rw [← hg]; exact ht)⟩, hz, hde⟩

section
variable {F : Frm} {ops : Array Oper}
/-- what the i-th operation comes to -/
structure AtI (F : Frm) (ops : Array Oper) (dst : Nat → Option Tmp) (its : Nat → Itm) (σ : AS) (n : Nat) (i : Nat) (o : Oper) : Prop where
  ok : dstOk o.dst F.N = true
  rl : (its i).rl = rdl (gLs dst (fun i => (its i).s) σ.g n (fun k => decide (k < i))) o
  cs : (GK ops (gLs dst (fun i => (its i).s) σ.g n (fun k => decide (k < i))) o true ∧ (its i).fr = true ∧ JO F o ⟨gLs dst (fun i => (its i).s) σ.g n (fun k => decide (k < i)), dLs (fun i => (its i).nw) σ.d n (fun k => decide (k < i))⟩ (its i).s (its i).nw) ∨
    (GK ops (gLs dst (fun i => (its i).s) σ.g n (fun k => decide (k < i))) o false ∧ (its i).fr = true ∧ (its i).s = .top ∧ (its i).nw = []) ∨
    (GK ops (gLs dst (fun i => (its i).s) σ.g n (fun k => decide (k < i))) o true ∧ o.dst = none ∧ (its i).fr = false ∧ ∃ l en, (its i).nw = [(l, en)] ∧
      ∀ σ2, Loc ops o ⟨gLs dst (fun i => (its i).s) σ.g n (fun k => decide (k < i)), dLs (fun i => (its i).nw) σ.d n (fun k => decide (k < i))⟩ σ2 → JM F o σ2 ⟨σ2.g, (l, en) :: σ2.d⟩)
  free : (its i).fr = true → AS.free ⟨gLs dst (fun i => (its i).s) σ.g n (fun k => decide (k < i)), dLs (fun i => (its i).nw) σ.d n (fun k => decide (k < i))⟩ (its i).nw = true

theorem gLs_beyond {dst : Nat → Option Tmp} {sl : Nat → Slot} {g : List (Nat × Slot)} {L : Nat → Bool} {m : Nat} : ∀ {n : Nat}, m ≤ n → (∀ i, m ≤ i → i < n → L i = false) → gLs dst sl g n L = gLs dst sl g m L
  | 0, h, _ => by have : m = 0 := by omega
                  subst this; rfl
  | n + 1, h, hL => by
    rcases Nat.lt_or_ge n m with h1 | h1
    · have : m = n + 1 := by omega
      subst this; rfl
    · simp only [gLs, hL n h1 (by omega), cond_false]; exact gLs_beyond h1 fun i h2 h3 => hL i h2 (by omega)
theorem dLs_beyond {nw : Nat → List (Nat × Ent)} {d : List (Nat × Ent)} {L : Nat → Bool} {m : Nat} : ∀ {n : Nat}, m ≤ n → (∀ i, m ≤ i → i < n → L i = false) → dLs nw d n L = dLs nw d m L
  | 0, h, _ => by have : m = 0 := by omega
                  subst this; rfl
  | n + 1, h, hL => by
    rcases Nat.lt_or_ge n m with h1 | h1
    · have : m = n + 1 := by omega
      subst this; rfl
    · simp only [dLs, hL n h1 (by omega), cond_false]; exact dLs_beyond h1 fun i h2 h3 => hL i h2 (by omega)
/-- the first operation ahead of the others -/
theorem gLs_first {dst : Nat → Option Tmp} {sl : Nat → Slot} {g : List (Nat × Slot)} {L : Nat → Bool} : ∀ {m : Nat}, gLs dst sl g (m + 1) L = gLs (fun i => dst (i + 1)) (fun i => sl (i + 1)) (bif L 0 then gput (dst 0) (sl 0) g else g) m (fun i => L (i + 1))
  | 0 => rfl
  | m + 1 => by rw [gLs, gLs_first (m := m)]; rfl
theorem dLs_first {nw : Nat → List (Nat × Ent)} {d : List (Nat × Ent)} {L : Nat → Bool} : ∀ {m : Nat}, dLs nw d (m + 1) L = dLs (fun i => nw (i + 1)) (bif L 0 then nw 0 ++ d else d) m (fun i => L (i + 1))
  | 0 => rfl
  | m + 1 => by rw [dLs, dLs_first (m := m)]; rfl
theorem JP2.len {os : List Oper} {σ σ' : AS} {h : List Itm} (hp : JP2 F ops os σ h σ') : h.length = os.length := by
  induction hp with
  | nil => rfl
  | cons _ _ _ _ _ ih => simp [ih]
  | left _ _ _ ih => simp [ih]
  | st _ _ _ _ ih => simp [ih]
theorem JP2.at {os : List Oper} {σ σ' : AS} {h : List Itm} (hp : JP2 F ops os σ h σ') :
    σ'.g = gLs (fun i => (os[i]?).bind (·.dst)) (fun i => (h.getD i ⟨.top, [], true, []⟩).s) σ.g os.length (fun _ => true) ∧ σ'.d = dLs (fun i => (h.getD i ⟨.top, [], true, []⟩).nw) σ.d os.length (fun _ => true) ∧
    ∀ i o, os[i]? = some o → AtI F ops (fun i => (os[i]?).bind (·.dst)) (fun i => h.getD i ⟨.top, [], true, []⟩) σ os.length i o := by
  have step : ∀ {o0 : Oper} {os : List Oper} {σ σ' : AS} {h : List Itm} {it : Itm}, 
      (σ'.g = gLs (fun i => (os[i]?).bind (·.dst)) (fun i => (h.getD i ⟨.top, [], true, []⟩).s) (gput o0.dst it.s σ.g) os.length (fun _ => true) ∧ σ'.d = dLs (fun i => (h.getD i ⟨.top, [], true, []⟩).nw) (it.nw ++ σ.d) os.length (fun _ => true) ∧
        ∀ i o, os[i]? = some o → AtI F ops (fun i => (os[i]?).bind (·.dst)) (fun i => h.getD i ⟨.top, [], true, []⟩) ⟨gput o0.dst it.s σ.g, it.nw ++ σ.d⟩ os.length i o) →
      AtI F ops (fun i => ((o0 :: os)[i]?).bind (·.dst)) (fun i => (it :: h).getD i ⟨.top, [], true, []⟩) σ (o0 :: os).length 0 o0 →
      (σ'.g = gLs (fun i => ((o0 :: os)[i]?).bind (·.dst)) (fun i => ((it :: h).getD i ⟨.top, [], true, []⟩).s) σ.g (o0 :: os).length (fun _ => true) ∧ σ'.d = dLs (fun i => ((it :: h).getD i ⟨.top, [], true, []⟩).nw) σ.d (o0 :: os).length (fun _ => true) ∧
        ∀ i o, (o0 :: os)[i]? = some o → AtI F ops (fun i => ((o0 :: os)[i]?).bind (·.dst)) (fun i => (it :: h).getD i ⟨.top, [], true, []⟩) σ (o0 :: os).length i o) := by
    rintro o0 os σ σ' h it ⟨h1, h2, h3⟩ h0
    refine ⟨by rw [h1, List.length_cons, gLs_first]; rfl, by rw [h2, List.length_cons, dLs_first]; rfl, fun i o hi => ?_⟩
    cases i with
    | zero => simp at hi; subst hi; exact h0
    | succ i =>
      have h4 := h3 i o (by simpa using hi)
      have e1 : gLs (fun i => ((o0 :: os)[i]?).bind (·.dst)) (fun i => ((it :: h).getD i ⟨.top, [], true, []⟩).s) σ.g (o0 :: os).length (fun k => decide (k < i + 1)) =
          gLs (fun i => (os[i]?).bind (·.dst)) (fun i => (h.getD i ⟨.top, [], true, []⟩).s) (gput o0.dst it.s σ.g) os.length (fun k => decide (k < i)) := by
        rw [List.length_cons, gLs_first]
        simp
      have e2 : dLs (fun i => ((it :: h).getD i ⟨.top, [], true, []⟩).nw) σ.d (o0 :: os).length (fun k => decide (k < i + 1)) =
          dLs (fun i => (h.getD i ⟨.top, [], true, []⟩).nw) (it.nw ++ σ.d) os.length (fun k => decide (k < i)) := by
        rw [List.length_cons, dLs_first]
        simp
      refine ⟨h4.ok, ?_, ?_, ?_⟩
      · rw [e1]; exact h4.rl
      · rw [e1, e2]; exact h4.cs
      · rw [e1, e2]; exact h4.free
  have z1 : ∀ {o0 : Oper} {os : List Oper} {σ : AS} {h : List Itm} {it : Itm}, gLs (fun i => ((o0 :: os)[i]?).bind (·.dst)) (fun i => ((it :: h).getD i ⟨.top, [], true, []⟩).s) σ.g (o0 :: os).length (fun k => decide (k < 0)) = σ.g := by
    intro o0 os σ h it
    rw [gLs_beyond (m := 0) (Nat.zero_le _) (fun i _ _ => by simp)]; rfl
  have z2 : ∀ {o0 : Oper} {os : List Oper} {σ : AS} {h : List Itm} {it : Itm}, dLs (fun i => ((it :: h).getD i ⟨.top, [], true, []⟩).nw) σ.d (o0 :: os).length (fun k => decide (k < 0)) = σ.d := by
    intro o0 os σ h it
    rw [dLs_beyond (m := 0) (Nat.zero_le _) (fun i _ _ => by simp)]; rfl
  induction hp with
  | nil => exact ⟨rfl, rfl, fun i o h => by simp at h⟩
  | cons g j d hf _ ih =>
    refine step ih ⟨d, ?_, ?_, fun _ => ?_⟩
    · rw [z1]; rfl
    · rw [z1, z2]; exact .inl ⟨g, rfl, j⟩
    · rw [z1, z2]; exact hf
  | left g d _ ih =>
    refine step ih ⟨d, ?_, ?_, fun _ => ?_⟩
    · rw [z1]; rfl
    · rw [z1, z2]; exact .inr (.inl ⟨g, rfl, rfl, rfl⟩)
    · rw [z1, z2]; rfl
  | st g hd hm hp ih =>
    rename_i o os σ σ' l en h
    have hg : ∀ (s : Slot) (g : List (Nat × Slot)), gput o.dst s g = g := fun s g => by rw [hd]; rfl
    refine step (it := ⟨.top, [(l, en)], false, rdl σ.g o⟩) (by rw [hg]; exact ih) ⟨by rw [hd]; rfl, ?_, ?_, fun h => by cases h⟩
    · rw [z1]; rfl
    · rw [z1, z2]; exact .inr (.inr ⟨g, hd, rfl, l, en, rfl, hm⟩)

theorem W.dr2 {id : Nat} {ops : Array Oper} {cs : List Code} {σ σ1 σ' : AS} {its : List Itm} {Q : Exit → Act → World → Prop} (n : Nat) (ms : List Nat) (hm : F.P.follows .mixedOrders = true) (hp : JP2 F ops (ops.toList.take n) σ its σ1) (ht : J F ops (ops.toList.drop n) σ1 σ')
    (hn : Nat.ble n ops.size = true) (hbk : backOk ops = true) (hms : msOk ops ms = true) (hok : drawOk2 ops n ms = true) (hcm : comB its ms = true) (k : W F cs σ' Q) : W F (.region id ops true :: cs) σ Q := by
  intro a w hs
  have hn := Nat.le_of_ble_eq_true hn
  obtain ⟨l1, hl1⟩ : ∃ l1, l1 = ops.toList.take n := ⟨_, rfl⟩
  obtain ⟨l2, hl2⟩ : ∃ l2, l2 = ops.toList.drop n := ⟨_, rfl⟩
  rw [← hl1] at hp
  rw [← hl2] at ht
  have hl : ops.toList = l1 ++ l2 := by rw [hl1, hl2]; exact (List.take_append_drop n ops.toList).symm
  have hln : l1.length = n := by rw [hl1, List.length_take, Array.length_toList]; exact Nat.min_eq_left hn
  have hil : its.length = n := by rw [hp.len, hln]
  obtain ⟨s1, d1, hst⟩ := hp.at
  obtain ⟨dst, hdstE⟩ : ∃ dst : Nat → Option Tmp, dst = fun i => (l1[i]?).bind (·.dst) := ⟨_, rfl⟩
  obtain ⟨it, hitE⟩ : ∃ it : Nat → Itm, it = fun i => its.getD i ⟨.top, [], true, []⟩ := ⟨_, rfl⟩
  rw [← hdstE, hln] at hst
  rw [← hitE] at hst
  rw [← hdstE, hln] at s1
  rw [hln] at d1
  have s1 : σ1.g = gLs dst (fun i => (it i).s) σ.g n (fun _ => true) := by rw [s1, hitE]
  have d1 : σ1.d = dLs (fun i => (it i).nw) σ.d n (fun _ => true) := by rw [d1, hitE]
  have hsz : ops.size = l1.length + l2.length := by rw [← Array.length_toList, hl, List.length_append]
  have hget : ∀ i : Nat, ops[i]? = (l1 ++ l2)[i]? := fun i => by rw [← hl]; exact (Array.getElem?_toList).symm
  have hos : ∀ i, i < n → l1[i]? = ops[i]? := fun i hi => by rw [hget, List.getElem?_append_left (by omega)]
  have hdst : ∀ i o, i < n → ops[i]? = some o → dst i = o.dst := fun i o hi ho => by rw [hdstE]; show (l1[i]?).bind _ = _; rw [hos i hi, ho]; rfl
  have hop : ∀ i, i < n → ∃ o, ops[i]? = some o := fun i hi => ⟨ops[i]'(by omega), Array.getElem?_eq_getElem (by omega)⟩
  have hanc := ms_spec hbk hms
  have hat : ∀ i o, i < n → ops[i]? = some o → AtI F ops dst it σ n i o := fun i o hi ho => hst i o (by rw [hos i hi]; exact ho)
  -- two that do not wait for each other
  have hcom : ∀ i j, i < n → j < n → i ≠ j → Anc ops j i ∨ Anc ops i j ∨ aptI (it i) (it j) = true := by
    intro i j hi hj hij
    have h1 := List.all_eq_true.1 (List.all_eq_true.1 hcm i (List.mem_range.2 (by omega))) j (List.mem_range.2 (by omega))
    simp only [Bool.or_eq_true] at h1
    rcases h1 with ((h1 | h1) | h1) | h1
    · exact absurd (Nat.eq_of_beq_eq_true h1) hij
    · exact .inl (hanc _ _ h1)
    · exact .inr (.inl (hanc _ _ h1))
    · refine .inr (.inr ?_)
      have e : ∀ q, q < n → its[q]? = some (it q) := fun q hq => by
        rw [hitE]; simp only [List.getD_eq_getElem?_getD]; rw [List.getElem?_eq_getElem (by omega)]; rfl
      rw [e i hi, e j hj] at h1
      exact h1
  have hapt : ∀ {a b : Itm} {l : Nat}, aptI a b = true → lkE a.nw l ≠ none → l ∉ b.rl ∧ l ∉ b.s.lab ∧ ∀ y ∈ b.nw, y.1 ≠ l ∧ l ∉ y.2.lab := by
    intro a b l h hx
    obtain ⟨e, he⟩ := Option.ne_none_iff_exists'.1 hx
    have := List.all_eq_true.1 h _ (lkE_mem he)
    simp only [Bool.and_eq_true, Bool.not_eq_true', List.all_eq_true] at this
    refine ⟨fun hc => ?_, fun hc => ?_, fun y hy => ⟨fun e => ?_, fun hc => ?_⟩⟩
    · have h2 := this.1.1; simp at h2; exact h2 hc
    · have h2 := this.1.2; simp at h2; exact h2 hc
    · have h2 := (this.2 y hy).1; rw [e] at h2; simp at h2
    · have h2 := (this.2 y hy).2; simp at h2; exact h2 hc
  obtain ⟨σL, hσL⟩ : ∃ σL : (Nat → Bool) → AS, σL = fun L => ⟨gLs dst (fun i => (it i).s) σ.g n L, dLs (fun i => (it i).nw) σ.d n L⟩ := ⟨_, rfl⟩
  have hpure : ∀ i o t, i < n → ops[i]? = some o → o.dst = some t → ∀ j o', j < n → ops[j]? = some o' → (j = i ∨ o'.dst ≠ some t) ∧ (t ∈ looks ops o' → Anc ops j i ∨ Anc ops i j) := by
    intro i o t hi ho hd j o' hj ho'
    have h1 := List.all_eq_true.1 hok i (List.mem_range.2 (by omega))
    simp only [ho, if_pos hi, hd] at h1
    have h2 := List.all_eq_true.1 h1 j (List.mem_range.2 hj)
    simp only [ho', Bool.and_eq_true, Bool.or_eq_true, Bool.not_eq_true'] at h2
    obtain ⟨h3, h4⟩ := h2
    refine ⟨h3.imp (fun h => by simpa using h) (fun h => by simpa using h), fun hc => ?_⟩
    rcases h4 with (h4 | h4) | h4
    · simp at h4; exact absurd hc h4
    · exact .inl (hanc _ _ h4)
    · exact .inr (hanc _ _ h4)
  have htail : ∀ {i : Nat} {o : Oper}, ¬ i < n → ops[i]? = some o → ∀ {j : Nat}, j < i → Anc ops i j := by
    intro i o hi ho j hj
    have hlt : i < ops.size := by
      rcases Nat.lt_or_ge i ops.size with h | h
      · exact h
      · simp [Array.getElem?_eq_none h] at ho
    have h1 := List.all_eq_true.1 hok i (List.mem_range.2 hlt)
    simp only [ho, if_neg hi] at h1
    exact hanc _ _ (List.all_eq_true.1 h1 j (List.mem_range.2 hj))
  have hback : ∀ i o, i < ops.size → ops[i]? = some o → ∀ j ∈ deps o, j < i := fun i o _ ho j hj => back_dep hbk ho hj
  have hwait : ∀ m o, n ≤ m → ops[m]? = some o → ∀ j ∈ deps o, j < ops.size ∧ decide (j < m) = true := by
    intro m o _ ho j hj
    have hlt : m < ops.size := by
      rcases Nat.lt_or_ge m ops.size with h | h
      · exact h
      · simp [Array.getElem?_eq_none h] at ho
    have := hback m o hlt ho j hj
    exact ⟨by omega, by simpa using this⟩
  have hfull : ∀ L a w, St F (σL L) a w → (∀ i, i < n → L i = true) → St F σ1 a w := by
    intro L a w h hall
    rw [hσL] at h
    refine St.congr (fun u => ?_) (fun l => ?_) h
    · rw [s1]; exact gLs_congr fun i hi _ => by rw [hall i hi]
    · rw [d1]; exact dLs_congr fun i hi _ => by rw [hall i hi]
  -- one of them
  have hstep : ∀ L a w j o, Down ops L → St F (σL L) a w → j < n → ops[j]? = some o → L j = false → (∀ i ∈ deps o, L i = true) → ∀ K : Act → World → Prop,
      (∀ a' w', St F (σL fun i => i == j || L i) a' w' → K a' w') → wpOpIn F.fe 0 F.P ops (Exit.then (run F.fe F.P Q cs) Q) j K a w := by
    intro L a w j o hdn h hj ho hLj hdep K hK
    have hA := hat j o hj ho
    have hancL : ∀ i, Anc ops j i → L i = true := by
      intro i hi
      cases hi with
      | one ho' hd => rw [ho] at ho'; cases ho'; exact hdep _ hd
      | up ho' hd hr => rw [ho] at ho'; cases ho'; exact hr.down hdn (hdep _ hd)
    have hno : ∀ i, L i = true → ¬ Anc ops i j := fun i hi hc => by rw [hc.down hdn hi] at hLj; cases hLj
    obtain ⟨σ0, hσ0⟩ : ∃ σ0 : AS, σ0 = ⟨gLs dst (fun i => (it i).s) σ.g n (fun k => decide (k < j)), dLs (fun i => (it i).nw) σ.d n (fun k => decide (k < j))⟩ := ⟨_, rfl⟩
    have hloc : Loc ops o σ0 (σL L) := by
      rw [hσ0, hσL]
      refine ⟨fun u hu => gLs_congr fun i hi hd => ?_, fun l hl => dLs_congr fun i hi hx => ?_⟩
      · obtain ⟨oi, hoi⟩ := hop i hi
        rw [hdst i oi hi hoi] at hd
        rcases (hpure i oi u hi hoi hd j o hj ho).2 hu with h1 | h1
        · have := h1.lt hbk
          rw [hancL i h1]; simpa using this
        · have h2 := h1.lt hbk
          have h3 : L i = false := by
            cases hLi : L i with
            | false => rfl
            | true => exact absurd h1 (hno i hLi)
          rw [h3]; simp; omega
      · by_cases hij : i = j
        · subst hij; rw [hLj]; simp
        · have hrl : l ∈ (it j).rl := by rw [hA.rl]; exact hl
          rcases hcom i j hi hj hij with h1 | h1 | h1
          · have := h1.lt hbk
            rw [hancL i h1]; simpa using this
          · have h2 := h1.lt hbk
            have h3 : L i = false := by
              cases hLi : L i with
              | false => rfl
              | true => exact absurd h1 (hno i hLi)
            rw [h3]; simp; omega
          · exact absurd hrl (hapt h1 hx).1
    -- what is known then
    have hafter : ∀ a' w', St F ⟨gput o.dst (it j).s (σL L).g, (it j).nw ++ (σL L).d⟩ a' w' → St F (σL fun i => i == j || L i) a' w' := by
      intro a' w' h'
      rw [hσL] at h' ⊢
      refine St.congr (fun u => ?_) (fun l => ?_) h'
      · show lk (gLs _ _ _ _ _) u = lk (gput _ _ (gLs _ _ _ _ _)) u
        rw [lk_gput]
        split
        · rename_i hd
          refine gLs_at (by rw [hdst j o hj ho]; exact hd) (by simp) hj fun i hi hij hc => ?_
          obtain ⟨oi, hoi⟩ := hop i hi
          rw [hdst i oi hi hoi] at hc
          rcases (hpure j o u hj ho hd i oi hi hoi).1 with h1 | h1
          · exact hij h1
          · exact h1 hc
        · rename_i hd
          refine gLs_congr fun i hi hc => ?_
          by_cases hij : i = j
          · subst hij; rw [hdst i o hi ho] at hc; exact absurd hc hd
          · simp [hij]
      · show lkE (dLs _ _ _ _) l = lkE (_ ++ dLs _ _ _ _) l
        rw [lkE_append]
        cases hx : lkE (it j).nw l with
        | some en =>
          refine dLs_at hx (by simp) hj fun i hji hi hLi => ?_
          have hij : i ≠ j := by omega
          have hLi' : L i = true := by simpa [hij] using hLi
          rcases hcom j i hj hi (Ne.symm hij) with h1 | h1 | h1
          · exact absurd h1 (hno i hLi')
          · have := h1.lt hbk; omega
          · cases hy : lkE (it i).nw l with
            | none => rfl
            | some e => exact absurd rfl ((hapt (l := l) h1 (by rw [hx]; simp)).2.2 _ (lkE_mem hy)).1
        | none =>
          simp only [Option.none_or]
          refine dLs_congr fun i hi hc => ?_
          by_cases hij : i = j
          · subst hij; exact absurd hx hc
          · simp [hij]
    have hfree : (it j).fr = true → AS.free (σL L) (it j).nw = true := by
      intro hfr
      have h0 := hA.free hfr
      refine List.all_eq_true.2 fun x hx => ?_
      have h1 := List.all_eq_true.1 h0 x hx
      simp only [Bool.and_eq_true, List.all_eq_true, Bool.not_eq_true'] at h1 ⊢
      obtain ⟨h1, h2⟩ := h1
      rw [hσL]
      have hxl : lkE (it j).nw x.1 ≠ none := by
        intro hc
        have : ∀ {l : List (Nat × Ent)}, x ∈ l → lkE l x.1 ≠ none := by
          intro l hl
          induction l with
          | nil => simp at hl
          | cons y l ih =>
            rw [lkE_cons]
            split
            · simp
            · rename_i hne
              rcases List.mem_cons.1 hl with rfl | hl
              · exact absurd rfl hne
              · exact ih hl
        exact this hx hc
      have hg0 : ∀ y ∈ σ.g, y ∈ gLs dst (fun i => (it i).s) σ.g n (fun k => decide (k < j)) := by
        have : ∀ m y, y ∈ σ.g → y ∈ gLs dst (fun i => (it i).s) σ.g m (fun k => decide (k < j)) := by
          intro m
          induction m with
          | zero => exact fun y h => h
          | succ m ih =>
            intro y hy
            simp only [gLs]
            cases decide (m < j)
            · exact ih y hy
            · cases hd : dst m <;> simp [gput, ih y hy]
        exact this n
      have hd0 : ∀ y ∈ σ.d, y ∈ dLs (fun i => (it i).nw) σ.d n (fun k => decide (k < j)) := by
        have : ∀ m y, y ∈ σ.d → y ∈ dLs (fun i => (it i).nw) σ.d m (fun k => decide (k < j)) := by
          intro m
          induction m with
          | zero => exact fun y h => h
          | succ m ih =>
            intro y hy
            simp only [dLs]
            cases decide (m < j)
            · exact ih y hy
            · exact List.mem_append_right _ (ih y hy)
        exact this n
      have hgi : ∀ i, i < j → ∀ t, dst i = some t → (t, (it i).s) ∈ gLs dst (fun i => (it i).s) σ.g n (fun k => decide (k < j)) := by
        intro i hij t ht
        have : ∀ m, i < m → (t, (it i).s) ∈ gLs dst (fun i => (it i).s) σ.g m (fun k => decide (k < j)) := by
          intro m
          induction m with
          | zero => intro h; omega
          | succ m ih =>
            intro him
            simp only [gLs]
            by_cases hm : i = m
            · subst hm
              rw [show decide (i < j) = true by simpa using hij, ht]; simp [gput]
            · have := ih (by omega)
              cases decide (m < j)
              · exact this
              · cases hd : dst m <;> simp [gput, this]
        exact this n (by omega)
      have hdi : ∀ i, i < j → ∀ y ∈ (it i).nw, y ∈ dLs (fun i => (it i).nw) σ.d n (fun k => decide (k < j)) := by
        intro i hij y hy
        have : ∀ m, i < m → y ∈ dLs (fun i => (it i).nw) σ.d m (fun k => decide (k < j)) := by
          intro m
          induction m with
          | zero => intro h; omega
          | succ m ih =>
            intro him
            simp only [dLs]
            by_cases hm : i = m
            · subst hm
              rw [show decide (i < j) = true by simpa using hij]; exact List.mem_append_left _ hy
            · have := ih (by omega)
              cases decide (m < j)
              · exact this
              · exact List.mem_append_right _ this
        exact this n (by omega)
      -- an operation that is done and stands behind j is apart from it
      have hlate : ∀ i, i < n → L i = true → j < i → aptI (it j) (it i) = true := by
        intro i hi hLi hji
        rcases hcom j i hj hi (by omega) with h3 | h3 | h3
        · exact absurd h3 (hno i hLi)
        · have := h3.lt hbk; omega
        · exact h3
      refine ⟨fun y hy => ?_, fun y hy => ?_⟩
      · have hg1 : ∀ (m : Nat), m ≤ n → ∀ y ∈ gLs dst (fun i => (it i).s) σ.g m L, y ∈ σ.g ∨ ∃ i t, i < n ∧ L i = true ∧ dst i = some t ∧ y = (t, (it i).s) := by
          intro m
          induction m with
          | zero => exact fun _ y h => .inl h
          | succ m ih =>
            intro hm y h
            simp only [gLs] at h
            cases hL : L m with
            | false => rw [hL] at h; exact ih (by omega) y h
            | true =>
              rw [hL] at h
              simp only [cond_true] at h
              cases hd : dst m with
              | none => rw [hd] at h; exact ih (by omega) y h
              | some t =>
                rw [hd] at h
                rcases List.mem_cons.1 h with rfl | h
                · exact .inr ⟨m, t, by omega, hL, hd, rfl⟩
                · exact ih (by omega) y h
        rcases hg1 n (Nat.le_refl _) y hy with h3 | ⟨i, t, hi, hLi, hd, rfl⟩
        · exact h1 y (hg0 y h3)
        · rcases Nat.lt_trichotomy i j with h4 | rfl | h4
          · exact h1 _ (hgi i h4 t hd)
          · rw [hLj] at hLi; cases hLi
          · have := (hapt (hlate i hi hLi h4) hxl).2.1
            simpa using this
      · rcases mem_dLs hy with h3 | ⟨i, hi, hLi, hy⟩
        · exact h2 y (hd0 y h3)
        · rcases Nat.lt_trichotomy i j with h4 | rfl | h4
          · exact h2 _ (hdi i h4 y hy)
          · rw [hLj] at hLi; cases hLi
          · have := (hapt (hlate i hi hLi h4) hxl).2.2 y hy
            refine ⟨?_, by simpa using this.2⟩
            cases hb : Nat.beq y.1 x.1 with
            | false => rfl
            | true => exact absurd (Nat.eq_of_beq_eq_true hb) this.1
    have hgw : ∀ b, GK ops σ0.g o b → Region.wanted o (yielded ops a.tmps) = b := by
      intro b hg
      obtain ⟨⟨ρ, hc, hsl⟩, _, _⟩ := h
      exact wanted_of (gk_loc hg hloc) fun t s _ ht => hsl t s ht
    unfold wpOpIn
    rw [ho]
    have hcs := hA.cs
    rw [show (gLs dst (fun i => (it i).s) σ.g n fun k => decide (k < j)) = σ0.g by rw [hσ0], show (dLs (fun i => (it i).nw) σ.d n fun k => decide (k < j)) = σ0.d by rw [hσ0]] at hcs
    rcases hcs with ⟨hg, hfr, hjo⟩ | ⟨hg, hfr, htop, hnw⟩ | ⟨hg, hdn0, hfr, l, en, hnw, hjm⟩
    · simp only [hgw true hg, if_true]
      obtain ⟨⟨ρ, hc, hsl⟩, hz, hde⟩ := h
      refine (JO.loc hjo hloc ρ _ a w (Know.of_st hc hsl _)).wpIn fun v w' hr => hK _ _ (hafter _ _ ?_)
      have := St.put hc hsl hz hde (hfree hfr) hA.ok hr
      cases hd : o.dst with
      | none => rw [hd] at this; exact this
      | some t => rw [hd] at this; exact this
    · simp only [hgw false hg, Bool.false_eq_true, if_false]
      refine ⟨fun _ _ => trivial, hK _ _ (hafter _ _ ?_)⟩
      obtain ⟨⟨ρ, hc, hsl⟩, hz, hde⟩ := h
      have := St.put (s := (it j).s) (new := (it j).nw) (v := undef) hc hsl hz hde (hfree hfr) hA.ok (by rw [htop, hnw]; exact Res_top)
      cases hd : o.dst with
      | none => rw [hd] at this; exact this
      | some t => rw [hd] at this; exact this
    · simp only [hgw true hg, if_true]
      refine (hjm (σL L) hloc a w h).wpIn fun v w' h' => hK _ _ (hafter _ _ ?_)
      rw [hnw, hdn0]
      rw [hdn0] at h'
      exact h'
  -- whatever order
  have hgetD : ∀ (listed : Array Bool) (L : Nat → Bool), listed.size = ops.size → (∀ i, i < ops.size → listed.getD i false = L i) → ∀ i d, i < ops.size → listed.getD i d = L i := by
    intro listed L hls hL i d hi
    have := hL i hi
    rw [Array.getD_eq_getD_getElem?] at this ⊢
    rw [Array.getElem?_eq_getElem (by omega)] at this ⊢
    simpa using this
  have hready : ∀ (listed : Array Bool) (L : Nat → Bool), listed.size = ops.size → (∀ i, i < ops.size → listed.getD i false = L i) → ∀ i, i ∈ Region.ready .any ops listed ↔
      (i < ops.size ∧ L i = false ∧ ∀ o, ops[i]? = some o → ∀ j ∈ deps o, j < ops.size ∧ L j = true) := by
    intro listed L hls hL i
    unfold Region.ready
    rw [List.mem_filter, List.mem_range]
    constructor
    · rintro ⟨h1, h2⟩
      simp only [Bool.and_eq_true, Bool.not_eq_true'] at h2
      obtain ⟨h2, h3⟩ := h2
      rw [hgetD listed L hls hL i true h1] at h2
      refine ⟨h1, h2, fun o ho j hj => ?_⟩
      rw [ho] at h3
      simp only [Option.map_some, Option.getD_some] at h3
      obtain ⟨e, he, hej⟩ := List.mem_filterMap.1 hj
      have he' : e ∈ o.after := by simpa using he
      have := Array.all_eq_true_iff_forall_mem.1 h3 e he'
      split at hej
      · rename_i hb
        cases hej
        rw [hb] at this
        simp only [Bool.not_true, Bool.false_or] at this
        rcases Nat.lt_or_ge e.on ops.size with hl | hl
        · rw [hgetD listed L hls hL _ _ hl] at this; exact ⟨hl, this⟩
        · rw [Array.getD_eq_getD_getElem?, Array.getElem?_eq_none (by omega)] at this; simp at this
      · cases hej
    · rintro ⟨h1, h2, h3⟩
      refine ⟨h1, ?_⟩
      have ho : ops[i]? = some ops[i] := Array.getElem?_eq_getElem h1
      simp only [Bool.and_eq_true, Bool.not_eq_true', hgetD listed L hls hL i true h1, h2, true_and, ho, Option.map_some, Option.getD_some]
      refine Array.all_eq_true_iff_forall_mem.2 fun e he => ?_
      cases hb : Region.binds .any e with
      | false => rfl
      | true =>
        have := h3 _ ho e.on (List.mem_filterMap.2 ⟨e, by simpa using he, by simp [hb]⟩)
        rw [hgetD listed L hls hL _ _ this.1, this.2]; rfl
  have hset : ∀ (listed : Array Bool) (L : Nat → Bool) (j : Nat), listed.size = ops.size → j < ops.size → (∀ i, i < ops.size → listed.getD i false = L i) → ∀ i, i < ops.size → (listed.setIfInBounds j true).getD i false = (i == j || L i) := by
    intro listed L j hls hj hL i hi
    by_cases hij : i = j
    · subst hij
      simp only [Array.getD_eq_getD_getElem?, Array.getElem?_setIfInBounds]
      simp [hls, hi]
    · rw [getD_set_ne false (Ne.symm hij), hL i hi]; simp [hij]
  have hB : ∀ fuel m (listed : Array Bool) a w, listed.size = ops.size → (∀ i, i < ops.size → listed.getD i false = decide (i < m)) → Down ops (fun i => decide (i < m)) → n ≤ m → m + fuel = ops.size →
      wpListIn F.fe 0 F.P ops (Exit.then (run F.fe F.P Q cs) Q) (ops.toList.drop m) a w → wpAnyIn F.fe 0 F.P .any ops (Exit.then (run F.fe F.P Q cs) Q) fuel listed a w := by
    intro fuel
    induction fuel with
    | zero =>
      intro m listed a w hls hlm _ hnm hmf hw
      refine ⟨List.eq_nil_iff_forall_not_mem.2 fun i hi => ?_, ?_⟩
      · obtain ⟨h1, h2, _⟩ := (hready listed _ hls hlm i).1 hi
        have : i < m := by omega
        simp [this] at h2
      · rw [List.drop_eq_nil_of_le (by rw [Array.length_toList]; omega)] at hw
        exact hw
    | succ fuel ih =>
      intro m listed a w hls hlm hdn hnm hmf hw
      have hmlt : m < ops.size := by omega
      have hom : ops[m]? = some ops[m] := Array.getElem?_eq_getElem hmlt
      have hmr : ∀ i ∈ Region.ready .any ops listed, i = m := by
        intro i hi
        obtain ⟨h1, h2, h3⟩ := (hready listed _ hls hlm i).1 hi
        have him : m ≤ i := by simpa using h2
        rcases Nat.lt_or_ge m i with hlt | hge
        · exfalso
          have ho : ops[i]? = some ops[i] := Array.getElem?_eq_getElem h1
          have hmem := htail (by omega) ho hlt
          cases hmem with
          | one ho' hj => rw [ho] at ho'; cases ho'; have := (h3 _ ho _ hj).2; simp at this
          | up ho' hj hmj =>
            rw [ho] at ho'; cases ho'
            have hjm := (h3 _ ho _ hj).2
            have := hmj.down hdn hjm
            simp at this
        · omega
      have hdrop : ops.toList.drop m = ops[m] :: ops.toList.drop (m + 1) := by
        rw [List.drop_eq_getElem_cons (by rw [Array.length_toList]; exact hmlt)]
        simp
      rw [hdrop] at hw
      refine ⟨fun hr => ?_, fun i hi => ?_⟩
      · exfalso
        -- m itself is ready: what it waits for is ahead of it
        have hnr : m ∉ Region.ready .any ops listed := by rw [hr]; simp
        refine hnr ((hready listed _ hls hlm m).2 ⟨hmlt, by simp, fun o ho j hj => ?_⟩)
        exact hwait m o hnm ho j hj
      · have := hmr i hi
        subst this
        obtain ⟨_, _, h3⟩ := (hready listed _ hls hlm i).1 hi
        have hdn' : Down ops (fun k => decide (k < i + 1)) := by
          intro k o hk ho j hj
          have hk : k < i + 1 := by simpa using hk
          rcases Nat.lt_or_ge k i with h | h
          · have := hdn k o (by simpa using h) ho j hj
            have : j < i := by simpa using this
            simp; omega
          · have : k = i := by omega
            subst this
            have := (h3 o ho j hj).2
            have : j < k := by simpa using this
            simp; omega
        have hnext : ∀ a w, wpListIn F.fe 0 F.P ops (Exit.then (run F.fe F.P Q cs) Q) (ops.toList.drop (i + 1)) a w → wpAnyIn F.fe 0 F.P .any ops (Exit.then (run F.fe F.P Q cs) Q) fuel (listed.setIfInBounds i true) a w := by
          intro a w hw
          refine ih (i + 1) _ a w (by simpa using hls) (fun j hj => ?_) hdn' (by omega) (by omega) hw
          rw [hset listed _ i hls hmlt hlm j hj]
          by_cases hji : j = i
          · subst hji; simp
          · have : (j < i + 1) ↔ j < i := by omega
            simp [hji, this]
        unfold wpOpIn
        rw [hom]
        unfold wpListIn at hw
        split at hw
        · rename_i hwant
          simp only [hwant, if_true]
          exact Oper.wpIn_mono hnext hw
        · rename_i hwant
          simp only [hwant]
          exact ⟨hw.1, hnext _ _ hw.2⟩
  have hA : ∀ fuel (listed : Array Bool) (L : Nat → Bool) a w, listed.size = ops.size → (∀ i, i < ops.size → listed.getD i false = L i) → Down ops L → (∀ i, L i = true → i < n) → ((List.range ops.size).filter fun i => L i).length + fuel = ops.size →
      St F (σL L) a w → wpAnyIn F.fe 0 F.P .any ops (Exit.then (run F.fe F.P Q cs) Q) fuel listed a w := by
    intro fuel
    induction fuel with
    | zero =>
      intro listed L a w hls hL hdn hLn hcnt h
      have hall : ∀ i, i < ops.size → L i = true := by
        have hc : ((List.range ops.size).filter fun i => L i).length = (List.range ops.size).length := by simpa using hcnt
        have := List.length_filter_eq_length_iff.1 hc
        exact fun i hi => this i (List.mem_range.2 hi)
      have hnn : ops.size = n := by
        rcases Nat.lt_or_ge n ops.size with h | h
        · have := hLn n (hall n h); omega
        · omega
      have hl2 : l2 = [] := List.eq_nil_of_length_eq_zero (by omega)
      refine ⟨List.eq_nil_iff_forall_not_mem.2 fun i hi => ?_, ?_⟩
      · obtain ⟨h1, h2, _⟩ := (hready listed _ hls hL i).1 hi
        rw [hall i h1] at h2; cases h2
      · have hst1 := hfull L a w h fun i hi => hall i (by omega)
        have := ht (Exit.then (run F.fe F.P Q cs) Q) [] a w hst1 (fun a' w' h' => wpListIn_nil (k a' w' h'))
        rw [hl2] at this
        exact this
    | succ fuel ih =>
      intro listed L a w hls hL hdn hLn hcnt h
      by_cases hall : ∀ i, i < n → L i = true
      · -- all of the first are done: the others, in the text's order
        have hst1 := hfull L a w h hall
        have hw := ht (Exit.then (run F.fe F.P Q cs) Q) [] a w hst1 (fun a' w' h' => wpListIn_nil (k a' w' h'))
        have hLd : L = fun i => decide (i < n) := by
          funext i
          cases hLi : L i with
          | true => simp [hLn i hLi]
          | false =>
            rcases Nat.lt_or_ge i n with h | h
            · rw [hall i h] at hLi; cases hLi
            · simp; omega
        have hcn : ((List.range ops.size).filter fun i => L i).length = n := by
          rw [hLd]
          have : ops.size = n + (ops.size - n) := by omega
          rw [this, List.range_add, List.filter_append]
          rw [List.filter_eq_self.2 (by intro i hi; simpa using List.mem_range.1 hi), List.filter_eq_nil_iff.2 (by intro i hi; simp at hi ⊢; omega)]
          simp
        refine hB (fuel + 1) n listed a w hls (fun i hi => by rw [hL i hi, hLd]) (by rw [← hLd]; exact hdn) (Nat.le_refl _) (by omega) ?_
        have : ops.toList.drop n = l2 := by rw [hl, ← hln]; simp
        rw [this]; simpa using hw
      · refine ⟨fun hr => ?_, fun i hi => ?_⟩
        · exfalso
          -- the least one that is not done is ready
          have hex : ∃ i, i < n ∧ L i = false := by
            refine Classical.byContradiction fun hno => hall fun i hi => ?_
            cases hLi : L i with
            | true => rfl
            | false => exact absurd ⟨i, hi, hLi⟩ hno
          obtain ⟨i, ⟨hi, hLi⟩, hmin⟩ : ∃ i, (i < n ∧ L i = false) ∧ ∀ j, j < i → L j = true := by
            obtain ⟨i, hi⟩ := hex
            induction i using Nat.strongRecOn with
            | _ i ihi =>
              by_cases hj : ∃ j, j < i ∧ L j = false
              · obtain ⟨j, h1, h2⟩ := hj; exact ihi j h1 ⟨by omega, h2⟩
              · refine ⟨i, hi, fun j hj' => ?_⟩
                cases hLj : L j with
                | true => rfl
                | false => exact absurd ⟨j, hj', hLj⟩ hj
          have hnr : i ∉ Region.ready .any ops listed := by rw [hr]; simp
          refine hnr ((hready listed _ hls hL i).2 ⟨by omega, hLi, fun o ho j hj => ?_⟩)
          have := hback i o (by omega) ho j hj
          exact ⟨by omega, hmin j this⟩
        · obtain ⟨h1, h2, h3⟩ := (hready listed _ hls hL i).1 hi
          have ho : ops[i]? = some ops[i] := Array.getElem?_eq_getElem h1
          have hin : i < n := by
            refine Classical.byContradiction fun hge => hall fun j hj => ?_
            have hmem := htail hge ho (j := j) (by omega)
            cases hmem with
            | one ho' hj => rw [ho] at ho'; cases ho'; exact (h3 _ ho _ hj).2
            | up ho' hj hmj => rw [ho] at ho'; cases ho'; exact hmj.down hdn (h3 _ ho _ hj).2
          refine hstep L a w i _ hdn h hin ho h2 (fun j hj => (h3 _ ho j hj).2) _ fun a' w' h' => ?_
          refine ih _ _ a' w' (by simpa using hls) (hset listed L i hls h1 hL) ?_ ?_ ?_ h'
          · intro q o hq hoq j hj
            by_cases hqi : q = i
            · subst hqi; simp [(h3 o hoq j hj).2]
            · have : L q = true := by simpa [hqi] using hq
              simp [hdn q o this hoq j hj]
          · intro q hq
            by_cases hqi : q = i
            · omega
            · exact hLn q (by simpa [hqi] using hq)
          · have : ((List.range ops.size).filter fun q => q == i || L q).length = ((List.range ops.size).filter fun q => L q).length + 1 := count_add ops.size i L h1 h2
            omega
  refine wpIn_region_any hm ?_
  refine hA ops.size _ (fun _ => false) a _ (by simp) (fun i hi => by rw [Array.getD_eq_getD_getElem?, Array.getElem?_replicate, if_pos hi]; rfl) (fun _ _ h => by cases h) (fun _ h => by cases h) (by rw [List.filter_eq_nil_iff.2 (fun _ _ h => by cases h)]; simp) ?_
  obtain ⟨⟨ρ, hc, hsl⟩, hz, hde⟩ := hs
  have hb : Below w.heap.size w { w with drawn := w.drawn + 1 } := (Below.refl _ _).drew
  obtain ⟨hc', hE⟩ := hc.below hb
  have e0 : σL (fun _ => false) = σ := by
    rw [hσL]
    show (⟨gLs _ _ _ _ _, dLs _ _ _ _⟩ : AS) = σ
    rw [gLs_beyond (m := 0) (Nat.zero_le _) (fun _ _ _ => rfl), dLs_beyond (m := 0) (Nat.zero_le _) (fun _ _ _ => rfl)]; rfl
  rw [e0]
  exact ⟨⟨ρ, hc', fun t s hts => Slot.ok_mono s _ (hsl t s hts) hE (fun _ _ => rfl)⟩, hz, hde⟩
end
end Go.Sw

namespace Go.Sw
open Go Go.RowKit
section
variable {F : Frm} {ops : Array Oper} {os : List Oper} {σ σ' : AS} {its : List Itm} {s s0 : Slot} {d : Option Tmp} {pb : Option Nat} {ty : TypeId} {p : String} {af : Array Edge} {gd : Option (Nat × Bool)} {x y : Operand}
theorem JP2.store {T U : TypeId} {l : List Slot} {i off n : Nat} (g : GK ops σ.g ⟨none, .store U x y, ty, p, af, gd⟩ true) (hx : evS σ.g x = some (.ptr i off)) (he : lkE σ.d i = some (.box T l pb)) (ho : offAt l off = some s0) (hy : evS σ.g y = some s) (hp : s.plain = true) (hsz : Nat.beq s.sz n = true) (hsz0 : Nat.beq s0.sz n = true)
    (hS : ∀ w, (sizeOf U).run F.P w = .ok n w) (k : JP2 F ops os ⟨σ.g, (i, .box T (setOff l off s) pb) :: σ.d⟩ its σ') :
    JP2 F ops (⟨none, .store U x y, ty, p, af, gd⟩ :: os) σ (⟨.top, [(i, .box T (setOff l off s) pb)], false, rdl σ.g ⟨none, .store U x y, ty, p, af, gd⟩⟩ :: its) σ' :=
  .st g rfl (fun σ2 hL => JM.store ((hL.ev (by simp [Op.operands])).trans hx) ((hL.ent (x := x) (by simp [Op.operands]) hx (by simp [Slot.lab])).trans he) ho ((hL.ev (by simp [Op.operands])).trans hy) hp hsz hsz0 hS) k
theorem JP2.storeAll {α : Type} {e : Enc α} {z : α} {T U : TypeId} {l l' : List Slot} {i : Nat} (g : GK ops σ.g ⟨none, .store U x y, ty, p, af, gd⟩ true) (hx : evS σ.g x = some (.ptr i 0)) (he : lkE σ.d i = some (.box T l pb)) (hl : Nat.beq (l.map Slot.sz).sum e.n = true) (hy : evS σ.g y = some (.v e z)) (hl' : Spl l' e z)
    (hS : ∀ w, (sizeOf U).run F.P w = .ok e.n w) (k : JP2 F ops os ⟨σ.g, (i, .box T l' pb) :: σ.d⟩ its σ') :
    JP2 F ops (⟨none, .store U x y, ty, p, af, gd⟩ :: os) σ (⟨.top, [(i, .box T l' pb)], false, rdl σ.g ⟨none, .store U x y, ty, p, af, gd⟩⟩ :: its) σ' :=
  .st g rfl (fun σ2 hL => JM.storeAll ((hL.ev (by simp [Op.operands])).trans hx) ((hL.ent (x := x) (by simp [Op.operands]) hx (by simp [Slot.lab])).trans he) hl ((hL.ev (by simp [Op.operands])).trans hy) hl' hS) k
theorem JP2.storeAgg {T U : TypeId} {l l' : List Slot} {i n : Nat} (g : GK ops σ.g ⟨none, .store U x y, ty, p, af, gd⟩ true) (hx : evS σ.g x = some (.ptr i 0)) (he : lkE σ.d i = some (.box T l pb)) (hl : (l.map Slot.sz).sum = n) (hy : evS σ.g y = some (.agg l')) (hl' : (l'.map Slot.sz).sum = n) (hnt : l'.all Slot.plain = true)
    (hS : ∀ w, (sizeOf U).run F.P w = .ok n w) (k : JP2 F ops os ⟨σ.g, (i, .box T l' pb) :: σ.d⟩ its σ') :
    JP2 F ops (⟨none, .store U x y, ty, p, af, gd⟩ :: os) σ (⟨.top, [(i, .box T l' pb)], false, rdl σ.g ⟨none, .store U x y, ty, p, af, gd⟩⟩ :: its) σ' :=
  .st g rfl (fun σ2 hL => JM.storeAgg ((hL.ev (by simp [Op.operands])).trans hx) ((hL.ent (x := x) (by simp [Op.operands]) hx (by simp [Slot.lab])).trans he) hl ((hL.ev (by simp [Op.operands])).trans hy) hl' hnt hS) k
end
end Go.Sw

namespace Go.Sw
open Go Go.RowKit
/-- a value as it stands, in a cell -/
def Enc.raw : Enc Value where
  n := 1
  agg := false
  ok x _ _ cs := cs = [x] ∧ x.oneCell' = true
  len h := by rw [h.1]; rfl
  one _ := rfl
  cell h c hc := by rw [h.1] at hc; simp at hc; subst hc; exact h.2
  mono h _ := h
/-- a row of cells that is a slice's, all its own -/
def arrOk {α : Type} (T : TypeId) (e : Enc α) (xs : List α) (S : Nat → Prop) (w : World) (v : Value) : Prop :=
  (xs = [] ∧ v = .slice none 0 0) ∨ ∃ b cap pre cs post, v = .slice (some ⟨b, pre.length, none⟩) xs.length cap ∧
      w.heap[b]? = some (.cells (pre ++ (cs ++ post)).toArray T (0, 0)) ∧ e.okL xs S w cs ∧ xs.length ≤ cap ∧ cap * e.n ≤ cs.length + post.length ∧ xs.length ≤ 140737488355328
theorem arrOk.mono {α : Type} {T : TypeId} {e : Enc α} {xs : List α} {S S' : Nat → Prop} {w w' : World} {v : Value} (h : arrOk T e xs S w v) (k : Ext S S' w w') (hb : ∀ b, blk v = some b → w'.heap[b]? = w.heap[b]?) : arrOk T e xs S' w' v := by
  rcases h with h | ⟨b, cap, pre, cs, post, h1, h2, h3, h4⟩
  · exact .inl h
  · exact .inr ⟨b, cap, pre, cs, post, h1, by rw [hb b (by rw [h1]; rfl)]; exact h2, Enc.okL_mono h3 k, h4⟩
theorem arrOk.slice {α : Type} {T : TypeId} {e : Enc α} {xs : List α} {S : Nat → Prop} {w : World} {v : Value} (h : arrOk T e xs S w v) : ∃ a c, v = .slice a xs.length c := by
  rcases h with ⟨rfl, rfl⟩ | ⟨b, cap, pre, cs, post, h1, _⟩
  · exact ⟨none, 0, rfl⟩
  · exact ⟨_, _, h1⟩
theorem arrOk.lt {α : Type} {T : TypeId} {e : Enc α} {xs : List α} {S : Nat → Prop} {w : World} {v : Value} (h : arrOk T e xs S w v) {b : Nat} (hb : blk v = some b) : b < w.heap.size := by
  rcases h with ⟨rfl, rfl⟩ | ⟨b', cap, pre, cs, post, rfl, h2, _⟩
  · simp [blk] at hb
  · simp [blk] at hb; subst hb; exact (MemAt.of_heap h2).lt
end Go.Sw

namespace Go.Sw
open Go Go.RowKit

/-! ### entries told anew in the same memory -/
structure Rws {α : Type} (T2 : TypeId) (e : Enc α) (xss : List (List α)) (o : Option Nat) (S : Nat → Prop) (w : World) (x : Nat → Prop) (b0 : Option Nat) (hs : List Value) : Prop where
  len : hs.length = xss.length
  ok : ∀ j xs h, o ≠ some j → xss[j]? = some xs → hs[j]? = some h → arrOk T2 e xs S w h
  own : ∀ j h k, o ≠ some j → hs[j]? = some h → blk h = some k → x k ∧ b0 ≠ some k
  inj : ∀ j j' h h' k, o ≠ some j → o ≠ some j' → hs[j]? = some h → hs[j']? = some h' → blk h = some k → blk h' = some k → j = j'
/-- a slice of slices, all of them our own; one of them may be told by a label of its own -/
def DE.arrs {α : Type} (T T2 : TypeId) (e : Enc α) : DE (List (List α) × Option Nat) where
  ok q S w u l := ∃ hs, arrOk T Enc.raw hs S w u.v ∧ Rws T2 e q.1 q.2 S w u.x (blk u.v) hs ∧ ∀ j, q.2 = some j → hs[j]? = l.head?
  mono := by
    rintro q S S' w w' u l ⟨hs, h1, h2, h3⟩ hE hb
    refine ⟨hs, h1.mono hE (fun b h => hb b (.inl h)), ⟨h2.len, fun j xs h ho hx hh => (h2.ok j xs h ho hx hh).mono hE (fun b hb' => hb b (.inr (h2.own j h b ho hh hb').1)), h2.own, h2.inj⟩, h3⟩
/-- a slice literal of one slice of our own -/
def DE.ref1 (T : TypeId) : DE Unit where
  ok _ _ w u l := ∃ b v, l = [v] ∧ v.oneCell' = true ∧ u.v = .slice (some ⟨b, 0, none⟩) 1 1 ∧ w.heap[b]? = some (.cells #[v] T (0, 0))
  mono := by
    rintro q S S' w w' u l ⟨b, v, h1, h2, h3, h4⟩ _ hb
    exact ⟨b, v, h1, h2, h3, by rw [hb b (.inl (by rw [h3]; rfl))]; exact h4⟩
section
variable {F : Frm} {σ : AS} {pb : Option Nat} {s : Slot} {d : Option Tmp} {ty : TypeId} {p : String} {af : Array Edge} {gd : Option (Nat × Bool)} {x y : Operand} {α : Type} {e : Enc α} {T T2 U : TypeId} {xss : List (List α)} {i j : Nat}
theorem raw_okL {hs : List Value} {S w cs} (h : Enc.raw.okL hs S w cs) : cs = hs := by
  induction hs generalizing cs with
  | nil => exact h
  | cons v hs ih =>
    obtain ⟨c, d, h1, h2, h3⟩ := h
    rw [h1, ih h3, h2.1]; rfl
theorem lkE_new {dd : List (Nat × Ent)} {l k : Nat} {en en' : Ent} (h : lkE ((k, en') :: dd) l = some en) : (l = k ∧ en = en') ∨ (l ≠ k ∧ lkE dd l = some en) := by
  rw [lkE_cons] at h
  split at h
  · rename_i hk; cases h; exact .inl ⟨hk.symm, rfl⟩
  · rename_i hk; exact .inr ⟨fun e => hk e.symm, h⟩

theorem Has_mk {v : Value} {x : Nat → Prop} {b : Nat} : Has ⟨v, x⟩ b ↔ blk v = some b ∨ x b := Iff.rfl
end
end Go.Sw

namespace Go.Sw
open Go Go.RowKit
/-- entries told anew, where one block of ours changed and others are new -/
theorem Core.step {F : Frm} {d d' : List (Nat × Ent)} {ρ ρ' : Nat → LV} {w w' : World} (hc : Core F d ρ w) {c : Option Nat} (hch : Chg c w w') (hco : ∀ b, c = some b → ∃ l en, lkE d l = some en ∧ Has (ρ l) b)
    (hU : ∀ l en b, lkE d' l = some en → Has (ρ' l) b → (w.heap.size ≤ b ∧ b < w'.heap.size) ∨ ∃ l0 en0, lkE d l0 = some en0 ∧ Has (ρ l0) b)
    (hin : ∀ i j en en' b, lkE d' i = some en → lkE d' j = some en' → Has (ρ' i) b → Has (ρ' j) b → i = j)
    (hown : Ext (Un F.S0 ρ d) (Un F.S0 ρ' d') w w' → ∀ l en, lkE d' l = some en → en.ok ρ' (Un F.S0 ρ' d') w' (ρ' l)) :
    Core F d' ρ' w' ∧ Ext (Un F.S0 ρ d) (Un F.S0 ρ' d') w w' := by
  have hE : Ext (Un F.S0 ρ d) (Un F.S0 ρ' d') w w' := ⟨hch.size, fun k hk hn => ⟨hch.other k hk (fun e => hn (by obtain ⟨l, en, h1, h2⟩ := hco k e.symm; exact .inr ⟨l, en, h1, h2⟩)), fun h => hn (by
    rcases h with h | ⟨l, en, h1, h2⟩
    · exact .inl h
    · rcases hU l en k h1 h2 with h | ⟨l0, en0, h3, h4⟩
      · omega
      · exact .inr ⟨l0, en0, h3, h4⟩)⟩⟩
  refine ⟨⟨hc.low, Nat.le_trans hc.size hch.size, fun k hk hr => ?_, hch.os.trans hc.os, hch.tape.trans hc.tape, hch.output.trans hc.output, hown hE, fun i en b h hb => ?_, hin, fun i en b h hb => ?_⟩, hE⟩
  · rw [hch.other k (Nat.lt_of_lt_of_le hk hc.size) (fun e => ?_)]
    · exact hc.frame k hk hr
    · obtain ⟨l, en, h1, h2⟩ := hco k e.symm
      rcases (hc.fresh l en k h1 h2).1 with h | h
      · omega
      · exact hr h
  · rcases hU i en b h hb with h3 | ⟨l0, en0, h3, h4⟩
    · exact ⟨.inl (Nat.le_trans hc.size h3.1), h3.2⟩
    · exact ⟨(hc.fresh l0 en0 b h3 h4).1, Nat.lt_of_lt_of_le (hc.fresh l0 en0 b h3 h4).2 hch.size⟩
  · rcases hU i en b h hb with h3 | ⟨l0, en0, h3, h4⟩
    · intro h5; have := hc.low b h5; have := hc.size; omega
    · exact hc.apart l0 en0 b h3 h4
section
variable {F : Frm} {σ : AS} {pb : Option Nat} {s : Slot} {d : Option Tmp} {ty : TypeId} {p : String} {af : Array Edge} {gd : Option (Nat × Bool)} {x y z : Operand} {α : Type} {e : Enc α} {T T2 U : TypeId} {xss : List (List α)} {i j m : Nat}
theorem Frz.arrs : Frz (DE.arrs T T2 e) (xss, none) (Enc.sl (Enc.sl e)) xss := by
  intro S S' w u ⟨hh, h1, h2, _⟩ hE hb
  have key : ∀ (xs : List (List α)) (hs : List Value), hs.length = xs.length → (∀ (j : Nat) (ys : List α) (v : Value), xs[j]? = some ys → hs[j]? = some v → arrOk T2 e ys S w v ∧ ∀ b, blk v = some b → u.x b) → (Enc.sl e).okL xs S' w hs := by
    intro xs
    induction xs with
    | nil => intro hs hl _; exact List.eq_nil_of_length_eq_zero hl
    | cons ys xs ih =>
      intro hs hl h
      cases hs with
      | nil => simp at hl
      | cons v hs =>
        refine ⟨[v], hs, rfl, ?_, ih hs (by simpa using hl) fun j ys' v' hj hv => h (j + 1) ys' v' (by simpa using hj) (by simpa using hv)⟩
        obtain ⟨k1, k2⟩ := h 0 ys v rfl rfl
        exact arr_sl (ρ := fun _ => .of undef) (u := .of v) (T := T2) k1 hE fun b hb' => hb b (.inr (k2 b (Has_of.1 hb')))
  have hk := key xss hh h2.len fun j ys v hx hv => ⟨h2.ok j ys v (by simp) hx hv, fun b hb' => (h2.own j v b (by simp) hv hb').1⟩
  obtain ⟨ad, c, hs⟩ := h1.slice
  refine ⟨?_, by rw [hs]; rfl⟩
  have hlen : hh.length = xss.length := h2.len
  rcases h1 with ⟨rfl, h0⟩ | ⟨b, cap, pre, cs, post, h0, h3, h4, h5, h6, h7⟩ <;> rw [h0]
  · have : xss = [] := List.eq_nil_of_length_eq_zero (by simpa using hlen.symm)
    subst this; exact ⟨none, 0, rfl, by simp, .inl rfl⟩
  · have := raw_okL h4
    subst this
    refine ⟨_, cap, by rw [hlen], ⟨by omega, by omega⟩, .inr ⟨b, _, cs, rfl, ?_, hb b (.inl (by rw [h0]; rfl)), ?_, hk⟩⟩
    · exact (MemAt.of_heap h3).lt
    · have := (MemAt.of_heap h3).sub; simpa using this
theorem Arg.frzD {β γ : Type} {D : DE β} {q : β} {f : Enc γ} {r : γ} (h : evS σ.g x = some (.ref i)) (he : lkE σ.d i = some (.dp D q [])) (hf : Frz D q f r) : Arg σ true x (.v f r) := by
  intro ρ S a w K
  obtain ⟨h1, h2, _⟩ := K_ref K (x := x) (by simp) h he
  obtain ⟨k1, k2⟩ := hf _ _ _ _ h2 (lend_ext S w true) (fun _ _ h => h)
  rw [h1]
  simp only [Slot.ok]
  exact ⟨_, k1, k2.symm⟩
/-! ### parts of a slice of our own -/
/-- it is lent -/
theorem Arg.sub {xs ys : List α} {lo hi : Int} (hs : Sw.sub xs lo hi = some ys) (hx : evS σ.g x = some (.sub i (lo.toNat * e.n) (hi.toNat - lo.toNat))) (he : lkE σ.d i = some (.arr T e xs)) : Arg σ true x (.v (Enc.sl e) ys) := by
  intro ρ S a w K
  have h0 := K.slot x (by simp) _ hx
  have h2 : arrOk T e xs S w (ρ i).v := (K.ent x (by simp) _ hx i (by simp [Slot.lab]) _ he).1
  simp only [Slot.ok] at h0 ⊢
  obtain ⟨_, c, o, h3, h4, h5⟩ := h0
  obtain ⟨k0, k1, k2, rfl⟩ := sub_some hs
  have hyl : ((xs.take hi.toNat).drop lo.toNat).length = hi.toNat - lo.toNat := by rw [List.length_drop, List.length_take]; omega
  rw [h5]
  rcases h2 with ⟨rfl, h6⟩ | ⟨b, cap, pre, cs, post, h6, h7, h8, h9, h10, h11⟩ <;> rw [h6]
  · refine val_sl.2 ⟨none, c, ?_, ⟨by rw [hyl]; exact h3, by rw [hyl]; simp at k2; omega⟩, .inl (by simp)⟩
    simp only [subOf]; rw [hyl]
  · refine val_sl.2 ⟨some ⟨b, pre.length + o, none⟩, c, ?_, ⟨by rw [hyl]; exact h3, by rw [hyl]; omega⟩, ?_⟩
    · simp only [subOf]; rw [hyl]
    · by_cases hn : hi.toNat - lo.toNat = 0
      · exact .inl (List.eq_nil_of_length_eq_zero (by rw [hyl]; exact hn))
      · have ho : o = lo.toNat * e.n := h4.resolve_right hn
        subst ho
        have hm : MemAt w b pre.length cs := by have := (MemAt.of_heap h7).sub; simpa using this
        refine .inr ⟨b, _, _, rfl, (MemAt.of_heap h7).lt, fun h => h, (hm.take (hi.toNat * e.n)).drop (lo.toNat * e.n), Enc.okL_mono (okL_drop _ (okL_take _ h8)) (lend_ext S w true)⟩
end
end Go.Sw

namespace Go.Sw
open Go Go.RowKit
section
variable {F F' : Frm} {σ : AS} {pb : Option Nat} {s : Slot} {d : Option Tmp} {ty : TypeId} {p : String} {af : Array Edge} {gd : Option (Nat × Bool)} {x y z : Operand}
theorem Z.cst {u : Value} (h : u.oneCell' = true) : ∀ S w, (Enc.cst u h).ok () S w [u] := fun _ _ => rfl
end
end Go.Sw

namespace Go.Sw
open Go Go.RowKit
/-- a slice beyond whose elements there is no room -/
def Enc.slC {α : Type} (e : Enc α) : Enc (List α) where
  n := 1
  agg := false
  ok xs S w cs := (Enc.sl e).ok xs S w cs ∧ ∀ a l c, cs = [.slice a l c] → l = c
  len h := (Enc.sl e).len h.1
  one _ := rfl
  cell h := (Enc.sl e).cell h.1
  mono h k := ⟨(Enc.sl e).mono h.1 k, h.2⟩
section
variable {F : Frm} {σ : AS} {d : Option Tmp} {ty : TypeId} {p : String} {af : Array Edge} {gd : Option (Nat × Bool)} {x y : Operand}
end
end Go.Sw

namespace Go.Sw
open Go Go.RowKit
/-- leaves the world as it was -/
def Keeps {α : Type} (P : Program) (s : Sem α) : Prop := ∀ w x w', s.run P w = .ok x w' → w' = w
section
variable {P : Program} {α β : Type}
theorem Keeps.pure (x : α) : Keeps P (pure x : Sem α) := fun w y w' h => by simp at h; exact h.2.symm
theorem Keeps.bind {s : Sem α} {f : α → Sem β} (h1 : Keeps P s) (h2 : ∀ x, Keeps P (f x)) : Keeps P (s >>= f) := by
  intro w y w' h
  rw [Sem.run_bind] at h
  cases hr : s.run P w with
  | ok x w1 =>
    rw [hr] at h
    have e1 := h1 _ _ _ hr
    subst e1
    exact h2 x _ _ _ h
  | halt x w1 => rw [hr] at h; simp at h
theorem Keeps.halt {x} : Keeps P (.halt x : Sem α) := fun w y w' h => by simp [Sem.run] at h
theorem Keeps.program : Keeps P Go.program := fun w y w' h => by simp at h; exact h.2.symm
theorem Keeps.load {a : Addr} : Keeps P (load a) := fun w y w' h => by
  simp [Go.load, Sem.run] at h
  split at h
  · simp at h; exact h.2.symm
  · split at h
    · simp at h; exact h.2.symm
    · simp at h
theorem Keeps.shape {r : Nat} : Keeps P (shape r) := fun w y w' h => by simp [Go.shape, Sem.run] at h; exact h.2.symm
theorem Keeps.underlying {t : TypeId} : Keeps P (underlying t) := by
  unfold Go.underlying
  refine .bind .program fun p => ?_
  split
  · exact .pure _
  · exact .halt
theorem Keeps.typeInfo {t : TypeId} : Keeps P (typeInfo t) := by
  unfold Go.typeInfo
  refine .bind .program fun p => ?_
  split
  · exact .pure _
  · exact .halt
theorem Keeps.sizeOf {t : TypeId} : Keeps P (sizeOf t) := .bind .typeInfo fun _ => .pure _
theorem Keeps.isAgg {t : TypeId} : Keeps P (isAgg t) := by
  unfold Go.isAgg
  refine .bind .underlying fun p => ?_
  split <;> exact .pure _
theorem Keeps.loadCellsFrom {a : Addr} : ∀ (n i : Nat) (acc : Array Value), Keeps P (loadCellsFrom a i n acc)
  | 0, _, _ => .pure _
  | n + 1, i, _ => .bind .load fun _ => Keeps.loadCellsFrom n (i + 1) _
theorem Keeps.loadVar {t : TypeId} {a : Addr} : Keeps P (loadVar t a) := by
  unfold Go.loadVar
  refine .bind .isAgg fun b => ?_
  split
  · exact .bind .sizeOf fun n => .bind (.loadCellsFrom _ _ _) fun _ => .pure _
  · exact .load
theorem Keeps.sureAddr {v : Value} : Keeps P (Instr.sureAddr v) := by
  unfold Instr.sureAddr
  split
  · exact .pure _
  · exact .halt
theorem Keeps.getObj {r : Nat} : Keeps P (getObj r) := fun w y w' h => by
  simp [Go.getObj, Sem.run] at h
  split at h <;> simp at h
  exact h.2.symm
theorem Keeps.noView {a : Addr} : Keeps P (noView a) := by
  unfold Go.noView Go.viewAt
  refine .bind (.bind .shape fun o => ?_) fun o => ?_
  · split
    · exact .pure _
    · refine .bind .getObj fun o => ?_
      split <;> exact .pure _
  · split
    · exact .halt
    · exact .pure _
theorem Keeps.byteOf {a : Addr} : Keeps P (byteOf a) := by
  unfold Go.byteOf
  split
  · exact .pure _
  · refine .bind .program fun p => .bind .noView fun _ => .bind .shape fun o => ?_
    split
    · simp only []
      split
      · exact .pure _
      · split
        · exact .pure _
        · exact .halt
    · exact .halt
theorem Keeps.fieldPlace {a : Addr} {f : Field} : Keeps P (fieldPlace a f) := by
  unfold Go.fieldPlace
  refine .bind .sizeOf fun n => ?_
  split
  · unfold Go.partAt
    refine .bind .byteOf fun _ => .bind .byteOf fun _ => .pure _
  · exact .pure _
theorem Keeps.fieldAt {t : TypeId} {v : Value} {f : Nat} : Keeps P (Instr.fieldAt t v f) := by
  unfold Instr.fieldAt
  refine .bind .underlying fun d => ?_
  split
  · split
    · exact .bind .sureAddr fun a => .bind .fieldPlace fun _ => .pure _
    · exact .halt
  · exact .halt
/-- an operation that looks and makes nothing -/
def quiet (o : Oper) : Bool := match o.op with
  | .move _ | .assign _ | .load _ _ | .fieldAddr _ _ _ => true
  | _ => false
end
end Go.Sw

namespace Go.Sw
open Go Go.RowKit
structure QI where
  i : Nat
  t : Nat
  s : Slot
section
variable {F : Frm} {ops : Array Oper} {σ σ' σA : AS}
/-- those that look alone, in the text's order -/
inductive QA (F : Frm) (ops : Array Oper) : List QI → AS → AS → Prop
  | nil {σ : AS} : QA F ops [] σ σ
  | cons {σ σ' : AS} {l : List QI} {i t : Nat} {s : Slot} {o : Oper} : ops[i]? = some o → JO F o σ s [] → QA F ops l ⟨(t, s) :: σ.g, σ.d⟩ σ' → QA F ops (⟨i, t, s⟩ :: l) σ σ'
def StG (σ σ' : AS) : List Nat → Prop
  | [] => True
  | u :: us => lk σ'.g u = lk σ.g u ∧ StG σ σ' us
def StD (σ σ' : AS) : List Nat → Prop
  | [] => True
  | u :: us => lkE σ'.d u = lkE σ.d u ∧ StD σ σ' us
theorem StG.at {u : Nat} : ∀ {us : List Nat}, StG σ σ' us → u ∈ us → lk σ'.g u = lk σ.g u
  | [], _, h => by cases h
  | v :: us, ⟨h1, h2⟩, h => by
    rcases List.mem_cons.1 h with rfl | h
    · exact h1
    · exact StG.at h2 h
theorem StD.at {u : Nat} : ∀ {us : List Nat}, StD σ σ' us → u ∈ us → lkE σ'.d u = lkE σ.d u
  | [], _, h => by cases h
  | v :: us, ⟨h1, h2⟩, h => by
    rcases List.mem_cons.1 h with rfl | h
    · exact h1
    · exact StD.at h2 h
/-- those that stand in a chain -/
inductive QB (F : Frm) (ops : Array Oper) (us ls : List Nat) : List Nat → AS → AS → Prop
  | nil {σ : AS} : QB F ops us ls [] σ σ
  | cons {σ σ1 σ' : AS} {b : Nat} {bs : List Nat} {o : Oper} : ops[b]? = some o → JM F o σ σ1 → StG σ σ1 us → StD σ σ1 ls → QB F ops us ls bs σ1 σ' → QB F ops us ls (b :: bs) σ σ'
  | sub {σ σ1 σ' : AS} {bs : List Nat} : Sub F σ σ1 → StG σ σ1 us → StD σ σ1 ls → QB F ops us ls bs σ1 σ' → QB F ops us ls bs σ σ'
theorem QB.done {us ls : List Nat} : ∀ {bs : List Nat} {σ σ' : AS}, QB F ops us ls bs σ σ' → bs = [] → Sub F σ σ' := by
  intro bs σ σ' h
  induction h with
  | nil => exact fun _ a w h => h
  | cons _ _ _ _ _ _ => intro h; cases h
  | sub h1 _ _ _ ih => exact fun e a w h => ih e a w (h1 a w h)
theorem StG.trans {σ1 σ2 σ3 : AS} : ∀ {us : List Nat}, StG σ1 σ2 us → StG σ2 σ3 us → StG σ1 σ3 us
  | [], _, _ => trivial
  | _ :: _, ⟨h1, h2⟩, ⟨k1, k2⟩ => ⟨k1.trans h1, h2.trans k2⟩
theorem StD.trans {σ1 σ2 σ3 : AS} : ∀ {us : List Nat}, StD σ1 σ2 us → StD σ2 σ3 us → StD σ1 σ3 us
  | [], _, _ => trivial
  | _ :: _, ⟨h1, h2⟩, ⟨k1, k2⟩ => ⟨k1.trans h1, h2.trans k2⟩
theorem StG.rfl' {σ : AS} : ∀ {us : List Nat}, StG σ σ us
  | [] => trivial
  | _ :: _ => ⟨rfl, StG.rfl'⟩
theorem StD.rfl' {σ : AS} : ∀ {us : List Nat}, StD σ σ us
  | [] => trivial
  | _ :: _ => ⟨rfl, StD.rfl'⟩
theorem QB.head {us ls : List Nat} : ∀ {bs : List Nat} {σ σ' : AS}, QB F ops us ls bs σ σ' → ∀ {b : Nat} {r : List Nat}, bs = b :: r →
    ∃ σ1 o σ2, Sub F σ σ1 ∧ ops[b]? = some o ∧ JM F o σ1 σ2 ∧ StG σ σ1 us ∧ StD σ σ1 ls ∧ StG σ σ2 us ∧ StD σ σ2 ls ∧ QB F ops us ls r σ2 σ' := by
  intro bs σ σ' h
  induction h with
  | nil => intro b r e; cases e
  | cons ho hm hg hd hb _ => intro b r e; cases e; exact ⟨_, _, _, fun _ _ h => h, ho, hm, StG.rfl', StD.rfl', hg, hd, hb⟩
  | sub hs hg hd _ ih =>
    intro b r e
    obtain ⟨σ1, o, σ2, h1, h2, h3, h4, h5, h6, h7, h8⟩ := ih e
    exact ⟨σ1, o, σ2, fun a w h => h1 a w (hs a w h), h2, h3, hg.trans h4, hd.trans h5, hg.trans h6, hd.trans h7, h8⟩

def notSel (o : Oper) : Bool := match o.op with | .select _ _ => false | _ => true
def chainB (ms : List Nat) : List Nat → Bool
  | [] => true
  | b :: r => r.all (fun c => (ms.getD c 0).testBit b) && chainB ms r
def ordA (ops : Array Oper) : List QI → Bool
  | [] => true
  | x :: r => (match ops[x.i]? with | some o => !(looks ops o).contains x.t && r.all (fun y => !(looks ops o).contains y.t && y.t != x.t) | none => false) && ordA ops r
def part3 (ops : Array Oper) (ms : List Nat) (q : List QI) (bs us : List Nat) (N : Nat) : Bool :=
  (List.range ops.size).all (fun i => (q.map (·.i)).contains i || bs.contains i) &&
  q.all (fun x => match ops[x.i]? with
    | none => false
    | some o => (quiet o && o.guard.isNone && o.dst == some x.t && Nat.blt x.t N && (looks ops o).all us.contains && us.contains x.t) &&
      (List.range ops.size).all fun j => match ops[j]? with | none => false | some o' => (j == x.i || o'.dst != some x.t) && (!(looks ops o').contains x.t || (ms.getD j 0).testBit x.i)) &&
  bs.all (fun b => match ops[b]? with | none => false | some o => o.guard.isNone && notSel o && !(q.map (·.i)).contains b) && chainB ms bs && ordA ops q
def reads3 (ops : Array Oper) (σA : AS) (q : List QI) (ls : List Nat) : Bool := q.all fun x => match ops[x.i]? with | none => false | some o => (rdl σA.g o).all ls.contains

theorem QA.outside : ∀ {q : List QI} {σ σA : AS}, QA F ops q σ σA → σA.d = σ.d ∧ ∀ u, (∀ x ∈ q, x.t ≠ u) → lk σA.g u = lk σ.g u := by
  intro q σ σA h
  induction h with
  | nil => exact ⟨rfl, fun _ _ => rfl⟩
  | cons _ _ _ ih =>
    refine ⟨ih.1, fun u hu => ?_⟩
    rw [ih.2 u fun x hx => hu x (List.mem_cons_of_mem _ hx), lk_cons, if_neg (hu ⟨_, _, _⟩ List.mem_cons_self)]
theorem QA.at : ∀ {q : List QI} {σ σA : AS}, QA F ops q σ σA → ordA ops q = true → ∀ x ∈ q, ∃ o, ops[x.i]? = some o ∧ JO F o σA x.s [] ∧ lk σA.g x.t = some x.s := by
  intro q σ σA h
  induction h with
  | nil => intro _ x hx; cases hx
  | cons ho hj hq ih =>
    rename_i σ σ' l i t s o
    intro hor x hx
    simp only [ordA, ho, Bool.and_eq_true, List.all_eq_true] at hor
    rcases List.mem_cons.1 hx with rfl | hx
    · obtain ⟨hd, hg⟩ := hq.outside
      refine ⟨o, ho, JO.loc (ops := ops) hj ⟨fun u hu => ?_, fun l _ => by rw [hd]⟩, ?_⟩
      · have hne : ∀ y ∈ l, y.t ≠ u := fun y hy e => by
          have h1 := (hor.1.2 y hy).1
          subst e; simp at h1; exact h1 hu
        have h0 := hor.1.1
        rw [hg u hne, lk_cons, if_neg (fun e => by subst e; simp at h0; exact h0 hu)]
      · rw [hg t (fun y hy e => by have h1 := (hor.1.2 y hy).2; subst e; simp at h1)]
        simp [lk_cons]
    · exact ih hor.2 x hx
theorem St.same {a b : Act} {w : World} (h : St F σ a w) (hz : b.tmps.size = a.tmps.size) (hd : b.defers = a.defers) (hg : ∀ u, b.tmps.getD u undef = a.tmps.getD u undef) : St F σ b w := by
  obtain ⟨⟨ρ, hc, hs⟩, h1, h2⟩ := h
  exact ⟨⟨ρ, hc, fun t s ht => by rw [hg]; exact hs t s ht⟩, by rw [hz, h1], by rw [hd, h2]⟩
theorem eval_same {a b : Act} {x : Operand} {o : Oper} (hx : x ∈ o.op.operands) (h : ∀ u ∈ looks ops o, b.tmps.getD u undef = a.tmps.getD u undef) : b.eval x = a.eval x := by
  cases x with
  | tmp u => exact h u (by simp only [looks, List.mem_append, List.mem_flatMap]; exact .inl ⟨_, by simpa using hx, by simp [rd]⟩)
  | const u => rfl
  | global g => rfl
  | func f => rfl
theorem OpWp.same {a b : Act} {o : Oper} {w : World} {K : Value → World → Prop} (hn : notSel o = true) (h : ∀ u ∈ looks ops o, b.tmps.getD u undef = a.tmps.getD u undef) (hw : OpWp F.P o a w K) : OpWp F.P o b w K := by
  have e : execOp b.eval o = execOp a.eval o := execOp_congr o (fun cs bl hc => by simp [notSel, hc] at hn) fun x hx => eval_same hx h
  unfold OpWp at hw ⊢
  rw [e]; exact hw
theorem Know.same {a b : Act} {o : Oper} {ρ : Nat → LV} {S : Nat → Prop} {w : World} (h : ∀ u ∈ looks ops o, b.tmps.getD u undef = a.tmps.getD u undef) (k : Know σ o.op.operands ρ S a w) : Know σ o.op.operands ρ S b w :=
  ⟨k.low, fun x hx s hs => by rw [eval_same hx h]; exact k.slot x hx s hs, k.ent⟩
end
end Go.Sw

namespace Go.Sw
open Go Go.RowKit
/-- what an operation makes, what of it is new, at what it looks, and what is ours no more -/
structure Itm4 where
  s : Slot
  nw : List (Nat × Ent)
  fr : List (Nat × Ent)
  rl : List Nat
  dl : List Nat
/-- operations in the text's order -/
inductive JP4 (F : Frm) (ops : Array Oper) : List Oper → AS → List Itm4 → AS → Prop
  | nil {σ : AS} : JP4 F ops [] σ [] σ
  | cons {o : Oper} {os : List Oper} {σ σ' : AS} {s : Slot} {new : List (Nat × Ent)} {h : List Itm4} : GK ops σ.g o true → JO F o σ s new → dstOk o.dst F.N = true →
      JP4 F ops os ⟨gput o.dst s σ.g, new ++ σ.d⟩ h σ' → JP4 F ops (o :: os) σ (⟨s, new, new, rdl σ.g o, []⟩ :: h) σ'
  | left {o : Oper} {os : List Oper} {σ σ' : AS} {h : List Itm4} : GK ops σ.g o false → dstOk o.dst F.N = true → JP4 F ops os ⟨gput o.dst .top σ.g, σ.d⟩ h σ' → JP4 F ops (o :: os) σ (⟨.top, [], [], rdl σ.g o, []⟩ :: h) σ'
  | pu {o : Oper} {os : List Oper} {σ σ' : AS} {s : Slot} {h : List Itm4} : GK ops σ.g o true → dstOk o.dst F.N = true → (∀ d, JO F o ⟨σ.g, d⟩ s []) → JP4 F ops os ⟨gput o.dst s σ.g, σ.d⟩ h σ' → JP4 F ops (o :: os) σ (⟨s, [], [], [], []⟩ :: h) σ'
  | mv {o : Oper} {os : List Oper} {σ σ' : AS} {s : Slot} {nw fr : List (Nat × Ent)} {dl : List Nat} {h : List Itm4} : GK ops σ.g o true → dstOk o.dst F.N = true → (∀ σ2, Loc ops o σ σ2 → σ2.free fr = true → JM F o σ2 ⟨gput o.dst s σ2.g, nw ++ delEs σ2.d dl⟩) →
      JP4 F ops os ⟨gput o.dst s σ.g, nw ++ delEs σ.d dl⟩ h σ' → JP4 F ops (o :: os) σ (⟨s, nw, fr, rdl σ.g o, dl⟩ :: h) σ'
/-- what one makes or takes away is apart from what the other makes and looks at -/
def apt4 (a b : Itm4) : Bool := (a.nw.map (·.1) ++ a.dl).all fun l => (!b.rl.contains l && !b.dl.contains l) && b.nw.all fun y => !Nat.beq y.1 l
/-- operations none of which waits for the other are apart -/
def com4 (its : List Itm4) (ms : List Nat) : Bool :=
  (List.range its.length).all fun i => (List.range its.length).all fun j => Nat.beq i j || (ms.getD j 0).testBit i || (ms.getD i 0).testBit j ||
    (match its[i]?, its[j]? with | some a, some b => apt4 a b | _, _ => true)
/-- what is new is named nowhere else -/
def fre4 (σ : AS) (its : List Itm4) (ms : List Nat) : Bool :=
  (List.range its.length).all fun j => match its[j]? with
    | none => true
    | some b => b.fr.all fun x => (σ.g.all fun y => !y.2.lab.contains x.1) && (σ.d.all fun y => !Nat.beq y.1 x.1 && !y.2.lab.contains x.1) &&
        (List.range its.length).all fun i => Nat.beq i j || (ms.getD i 0).testBit j || (match its[i]? with | none => true | some a => !a.s.lab.contains x.1 && a.nw.all fun y => !Nat.beq y.1 x.1 && !y.2.lab.contains x.1)
def dL4 (nw : Nat → List (Nat × Ent)) (dl : Nat → List Nat) (d : List (Nat × Ent)) : Nat → (Nat → Bool) → List (Nat × Ent)
  | 0, _ => d
  | m + 1, L => bif L m then nw m ++ delEs (dL4 nw dl d m L) (dl m) else dL4 nw dl d m L
section
variable {nw : Nat → List (Nat × Ent)} {dl : Nat → List Nat} {d : List (Nat × Ent)}
theorem dL4_congr {l : Nat} {L L' : Nat → Bool} : ∀ {m : Nat}, (∀ i, i < m → (lkE (nw i) l ≠ none ∨ l ∈ dl i) → L i = L' i) → lkE (dL4 nw dl d m L) l = lkE (dL4 nw dl d m L') l
  | 0, _ => rfl
  | m + 1, h => by
    have ih := dL4_congr (m := m) (fun i hi => h i (by omega))
    simp only [dL4]
    by_cases hd : lkE (nw m) l = none ∧ l ∉ dl m
    · cases L m <;> cases L' m <;> simp [lkE_append, hd.1, lkE_delEs, hd.2, ih]
    · have hd' : lkE (nw m) l ≠ none ∨ l ∈ dl m := by
        by_cases h1 : lkE (nw m) l = none
        · by_cases h2 : l ∈ dl m
          · exact .inr h2
          · exact absurd ⟨h1, h2⟩ hd
        · exact .inl h1
      rw [h m (by omega) hd']; cases L' m <;> simp [lkE_append, lkE_delEs, ih]
theorem dL4_at {l j : Nat} {en : Ent} {L : Nat → Bool} (hj : lkE (nw j) l = some en) (hL : L j = true) : ∀ {m : Nat}, j < m → (∀ i, j < i → i < m → L i = true → lkE (nw i) l = none ∧ l ∉ dl i) → lkE (dL4 nw dl d m L) l = some en
  | 0, h, _ => by omega
  | m + 1, h, hn => by
    simp only [dL4]
    by_cases hm : j = m
    · subst hm; rw [hL]; simp [lkE_append, hj]
    · have ih := dL4_at (m := m) hj hL (by omega) (fun i h1 h2 => hn i h1 (by omega))
      cases hLm : L m with
      | false => simpa using ih
      | true => obtain ⟨h1, h2⟩ := hn m (by omega) (by omega) hLm; simp [lkE_append, h1, lkE_delEs, h2, ih]
theorem dL4_gone {l j : Nat} {L : Nat → Bool} (hj : lkE (nw j) l = none) (hg : l ∈ dl j) (hL : L j = true) : ∀ {m : Nat}, j < m → (∀ i, j < i → i < m → L i = true → lkE (nw i) l = none ∧ l ∉ dl i) → lkE (dL4 nw dl d m L) l = none
  | 0, h, _ => by omega
  | m + 1, h, hn => by
    simp only [dL4]
    by_cases hm : j = m
    · subst hm; rw [hL]; simp [lkE_append, hj, lkE_delEs, hg]
    · have ih := dL4_gone (m := m) hj hg hL (by omega) (fun i h1 h2 => hn i h1 (by omega))
      cases hLm : L m with
      | false => simpa using ih
      | true => obtain ⟨h1, h2⟩ := hn m (by omega) (by omega) hLm; simp [lkE_append, h1, lkE_delEs, h2, ih]
theorem mem_delE {y : Nat × Ent} {i : Nat} : ∀ {d : List (Nat × Ent)}, y ∈ delE d i → y ∈ d
  | [], h => by simp [delE] at h
  | (j, en) :: r, h => by
    simp only [delE] at h
    cases hb : Nat.beq j i with
    | true => rw [hb] at h; exact List.mem_cons_of_mem _ (mem_delE h)
    | false =>
      rw [hb] at h
      rcases List.mem_cons.1 h with h | h
      · rw [h]; exact List.mem_cons_self
      · exact List.mem_cons_of_mem _ (mem_delE h)
theorem mem_delEs {y : Nat × Ent} {d : List (Nat × Ent)} : ∀ {H : List Nat}, y ∈ delEs d H → y ∈ d
  | [], h => h
  | _ :: H, h => mem_delEs (H := H) (mem_delE h)
theorem mem_dL4 {y : Nat × Ent} {L : Nat → Bool} : ∀ {m : Nat}, y ∈ dL4 nw dl d m L → y ∈ d ∨ ∃ i, i < m ∧ L i = true ∧ y ∈ nw i
  | 0, h => .inl h
  | m + 1, h => by
    simp only [dL4] at h
    cases hL : L m with
    | false =>
      rw [hL] at h
      rcases mem_dL4 (m := m) h with h | ⟨i, h1, h2⟩
      · exact .inl h
      · exact .inr ⟨i, by omega, h2⟩
    | true =>
      rw [hL] at h
      rcases List.mem_append.1 h with h | h
      · exact .inr ⟨m, by omega, hL, h⟩
      · rcases mem_dL4 (m := m) (mem_delEs h) with h | ⟨i, h1, h2⟩
        · exact .inl h
        · exact .inr ⟨i, by omega, h2⟩
theorem dL4_beyond {L : Nat → Bool} {m : Nat} : ∀ {n : Nat}, m ≤ n → (∀ i, m ≤ i → i < n → L i = false) → dL4 nw dl d n L = dL4 nw dl d m L
  | 0, h, _ => by have : m = 0 := by omega
                  subst this; rfl
  | n + 1, h, hL => by
    rcases Nat.lt_or_ge n m with h1 | h1
    · have : m = n + 1 := by omega
      subst this; rfl
    · simp only [dL4, hL n h1 (by omega), cond_false]; exact dL4_beyond h1 fun i h2 h3 => hL i h2 (by omega)
theorem dL4_first {L : Nat → Bool} : ∀ {m : Nat}, dL4 nw dl d (m + 1) L = dL4 (fun i => nw (i + 1)) (fun i => dl (i + 1)) (bif L 0 then nw 0 ++ delEs d (dl 0) else d) m (fun i => L (i + 1))
  | 0 => rfl
  | m + 1 => by rw [dL4, dL4_first (m := m)]; rfl
end
section
variable {F : Frm} {ops : Array Oper}
/-- what the i-th operation comes to -/
structure AtI4 (F : Frm) (ops : Array Oper) (dst : Nat → Option Tmp) (its : Nat → Itm4) (σ : AS) (n : Nat) (i : Nat) (o : Oper) : Prop where
  ok : dstOk o.dst F.N = true
  rl : (its i).rl = rdl (gLs dst (fun i => (its i).s) σ.g n (fun k => decide (k < i))) o ∨
    (GK ops (gLs dst (fun i => (its i).s) σ.g n (fun k => decide (k < i))) o true ∧ (its i).nw = [] ∧ (its i).fr = [] ∧ (its i).dl = [] ∧ ∀ d, JO F o ⟨gLs dst (fun i => (its i).s) σ.g n (fun k => decide (k < i)), d⟩ (its i).s [])
  cs : (GK ops (gLs dst (fun i => (its i).s) σ.g n (fun k => decide (k < i))) o true ∧ (its i).fr = (its i).nw ∧ (its i).dl = [] ∧ JO F o ⟨gLs dst (fun i => (its i).s) σ.g n (fun k => decide (k < i)), dL4 (fun i => (its i).nw) (fun i => (its i).dl) σ.d n (fun k => decide (k < i))⟩ (its i).s (its i).nw) ∨
    (GK ops (gLs dst (fun i => (its i).s) σ.g n (fun k => decide (k < i))) o false ∧ (its i).s = .top ∧ (its i).nw = [] ∧ (its i).dl = []) ∨
    (GK ops (gLs dst (fun i => (its i).s) σ.g n (fun k => decide (k < i))) o true ∧
      ∀ σ2, Loc ops o ⟨gLs dst (fun i => (its i).s) σ.g n (fun k => decide (k < i)), dL4 (fun i => (its i).nw) (fun i => (its i).dl) σ.d n (fun k => decide (k < i))⟩ σ2 → σ2.free (its i).fr = true → JM F o σ2 ⟨gput o.dst (its i).s σ2.g, (its i).nw ++ delEs σ2.d (its i).dl⟩)
theorem JP4.len {os : List Oper} {σ σ' : AS} {h : List Itm4} (hp : JP4 F ops os σ h σ') : h.length = os.length := by
  induction hp with
  | nil => rfl
  | cons _ _ _ _ ih => simp [ih]
  | left _ _ _ ih => simp [ih]
  | pu _ _ _ _ ih => simp [ih]
  | mv _ _ _ _ ih => simp [ih]
theorem JP4.at {os : List Oper} {σ σ' : AS} {h : List Itm4} (hp : JP4 F ops os σ h σ') :
    σ'.g = gLs (fun i => (os[i]?).bind (·.dst)) (fun i => (h.getD i ⟨.top, [], [], [], []⟩).s) σ.g os.length (fun _ => true) ∧ σ'.d = dL4 (fun i => (h.getD i ⟨.top, [], [], [], []⟩).nw) (fun i => (h.getD i ⟨.top, [], [], [], []⟩).dl) σ.d os.length (fun _ => true) ∧
    ∀ i o, os[i]? = some o → AtI4 F ops (fun i => (os[i]?).bind (·.dst)) (fun i => h.getD i ⟨.top, [], [], [], []⟩) σ os.length i o := by
  have step : ∀ {o0 : Oper} {os : List Oper} {σ σ' : AS} {h : List Itm4} {it : Itm4}, 
      (σ'.g = gLs (fun i => (os[i]?).bind (·.dst)) (fun i => (h.getD i ⟨.top, [], [], [], []⟩).s) (gput o0.dst it.s σ.g) os.length (fun _ => true) ∧ σ'.d = dL4 (fun i => (h.getD i ⟨.top, [], [], [], []⟩).nw) (fun i => (h.getD i ⟨.top, [], [], [], []⟩).dl) (it.nw ++ delEs σ.d it.dl) os.length (fun _ => true) ∧
        ∀ i o, os[i]? = some o → AtI4 F ops (fun i => (os[i]?).bind (·.dst)) (fun i => h.getD i ⟨.top, [], [], [], []⟩) ⟨gput o0.dst it.s σ.g, it.nw ++ delEs σ.d it.dl⟩ os.length i o) →
      AtI4 F ops (fun i => ((o0 :: os)[i]?).bind (·.dst)) (fun i => (it :: h).getD i ⟨.top, [], [], [], []⟩) σ (o0 :: os).length 0 o0 →
      (σ'.g = gLs (fun i => ((o0 :: os)[i]?).bind (·.dst)) (fun i => ((it :: h).getD i ⟨.top, [], [], [], []⟩).s) σ.g (o0 :: os).length (fun _ => true) ∧ σ'.d = dL4 (fun i => ((it :: h).getD i ⟨.top, [], [], [], []⟩).nw) (fun i => ((it :: h).getD i ⟨.top, [], [], [], []⟩).dl) σ.d (o0 :: os).length (fun _ => true) ∧
        ∀ i o, (o0 :: os)[i]? = some o → AtI4 F ops (fun i => ((o0 :: os)[i]?).bind (·.dst)) (fun i => (it :: h).getD i ⟨.top, [], [], [], []⟩) σ (o0 :: os).length i o) := by
    rintro o0 os σ σ' h it ⟨h1, h2, h3⟩ h0
    refine ⟨by rw [h1, List.length_cons, gLs_first]; rfl, by rw [h2, List.length_cons, dL4_first]; rfl, fun i o hi => ?_⟩
    cases i with
    | zero => simp at hi; subst hi; exact h0
    | succ i =>
      have h4 := h3 i o (by simpa using hi)
      have e1 : gLs (fun i => ((o0 :: os)[i]?).bind (·.dst)) (fun i => ((it :: h).getD i ⟨.top, [], [], [], []⟩).s) σ.g (o0 :: os).length (fun k => decide (k < i + 1)) =
          gLs (fun i => (os[i]?).bind (·.dst)) (fun i => (h.getD i ⟨.top, [], [], [], []⟩).s) (gput o0.dst it.s σ.g) os.length (fun k => decide (k < i)) := by
        rw [List.length_cons, gLs_first]
        simp
      have e2 : dL4 (fun i => ((it :: h).getD i ⟨.top, [], [], [], []⟩).nw) (fun i => ((it :: h).getD i ⟨.top, [], [], [], []⟩).dl) σ.d (o0 :: os).length (fun k => decide (k < i + 1)) =
          dL4 (fun i => (h.getD i ⟨.top, [], [], [], []⟩).nw) (fun i => (h.getD i ⟨.top, [], [], [], []⟩).dl) (it.nw ++ delEs σ.d it.dl) os.length (fun k => decide (k < i)) := by
        rw [List.length_cons, dL4_first]
        simp
      refine ⟨h4.ok, ?_, ?_⟩
      · rw [e1]; exact h4.rl
      · rw [e1, e2]; exact h4.cs
  have z1 : ∀ {o0 : Oper} {os : List Oper} {σ : AS} {h : List Itm4} {it : Itm4}, gLs (fun i => ((o0 :: os)[i]?).bind (·.dst)) (fun i => ((it :: h).getD i ⟨.top, [], [], [], []⟩).s) σ.g (o0 :: os).length (fun k => decide (k < 0)) = σ.g := by
    intro o0 os σ h it
    rw [gLs_beyond (m := 0) (Nat.zero_le _) (fun i _ _ => by simp)]; rfl
  have z2 : ∀ {o0 : Oper} {os : List Oper} {σ : AS} {h : List Itm4} {it : Itm4}, dL4 (fun i => ((it :: h).getD i ⟨.top, [], [], [], []⟩).nw) (fun i => ((it :: h).getD i ⟨.top, [], [], [], []⟩).dl) σ.d (o0 :: os).length (fun k => decide (k < 0)) = σ.d := by
    intro o0 os σ h it
    rw [dL4_beyond (m := 0) (Nat.zero_le _) (fun i _ _ => by simp)]; rfl
  induction hp with
  | nil => exact ⟨rfl, rfl, fun i o h => by simp at h⟩
  | cons g j d _ ih =>
    rename_i o os σ σ' s new h _
    refine step (it := ⟨s, new, new, rdl σ.g o, []⟩) ih ⟨d, ?_, ?_⟩
    · rw [z1]; exact .inl rfl
    · rw [z1, z2]; exact .inl ⟨g, rfl, rfl, j⟩
  | left g d _ ih =>
    rename_i o os σ σ' h _
    refine step (it := ⟨.top, [], [], rdl σ.g o, []⟩) ih ⟨d, ?_, ?_⟩
    · rw [z1]; exact .inl rfl
    · rw [z1, z2]; exact .inr (.inl ⟨g, rfl, rfl, rfl⟩)
  | pu g hd hj hp ih =>
    rename_i o os σ σ' s h
    refine step (it := ⟨s, [], [], [], []⟩) ih ⟨hd, ?_, ?_⟩
    · rw [z1]; exact .inr ⟨g, rfl, rfl, rfl, hj⟩
    · rw [z1, z2]; exact .inl ⟨g, rfl, rfl, hj _⟩
  | mv g hd hm hp ih =>
    rename_i o os σ σ' s nw fr dl h
    refine step (it := ⟨s, nw, fr, rdl σ.g o, dl⟩) ih ⟨hd, ?_, ?_⟩
    · rw [z1]; exact .inl rfl
    · rw [z1, z2]; exact .inr (.inr ⟨g, hm⟩)

theorem W.dr4 {id : Nat} {ops : Array Oper} {cs : List Code} {σ σ1 σ' : AS} {its : List Itm4} {Q : Exit → Act → World → Prop} (n : Nat) (ms : List Nat) (hm : F.P.follows .mixedOrders = true) (hp : JP4 F ops (ops.toList.take n) σ its σ1) (ht : J F ops (ops.toList.drop n) σ1 σ')
    (hn : Nat.ble n ops.size = true) (hbk : backOk ops = true) (hms : msOk ops ms = true) (hok : drawOk2 ops n ms = true) (hcm : com4 its ms = true) (hfe : fre4 σ its ms = true) (k : W F cs σ' Q) : W F (.region id ops true :: cs) σ Q := by
  intro a w hs
  have hn := Nat.le_of_ble_eq_true hn
  obtain ⟨l1, hl1⟩ : ∃ l1, l1 = ops.toList.take n := ⟨_, rfl⟩
  obtain ⟨l2, hl2⟩ : ∃ l2, l2 = ops.toList.drop n := ⟨_, rfl⟩
  rw [← hl1] at hp
  rw [← hl2] at ht
  have hl : ops.toList = l1 ++ l2 := by rw [hl1, hl2]; exact (List.take_append_drop n ops.toList).symm
  have hln : l1.length = n := by rw [hl1, List.length_take, Array.length_toList]; exact Nat.min_eq_left hn
  have hil : its.length = n := by rw [hp.len, hln]
  obtain ⟨s1, d1, hst⟩ := hp.at
  obtain ⟨dst, hdstE⟩ : ∃ dst : Nat → Option Tmp, dst = fun i => (l1[i]?).bind (·.dst) := ⟨_, rfl⟩
  obtain ⟨it, hitE⟩ : ∃ it : Nat → Itm4, it = fun i => its.getD i ⟨.top, [], [], [], []⟩ := ⟨_, rfl⟩
  rw [← hdstE, hln] at hst
  rw [← hitE] at hst
  rw [← hdstE, hln] at s1
  rw [hln] at d1
  have s1 : σ1.g = gLs dst (fun i => (it i).s) σ.g n (fun _ => true) := by rw [s1, hitE]
  have d1 : σ1.d = dL4 (fun i => (it i).nw) (fun i => (it i).dl) σ.d n (fun _ => true) := by rw [d1, hitE]
  have hsz : ops.size = l1.length + l2.length := by rw [← Array.length_toList, hl, List.length_append]
  have hget : ∀ i : Nat, ops[i]? = (l1 ++ l2)[i]? := fun i => by rw [← hl]; exact (Array.getElem?_toList).symm
  have hos : ∀ i, i < n → l1[i]? = ops[i]? := fun i hi => by rw [hget, List.getElem?_append_left (by omega)]
  have hdst : ∀ i o, i < n → ops[i]? = some o → dst i = o.dst := fun i o hi ho => by rw [hdstE]; show (l1[i]?).bind _ = _; rw [hos i hi, ho]; rfl
  have hop : ∀ i, i < n → ∃ o, ops[i]? = some o := fun i hi => ⟨ops[i]'(by omega), Array.getElem?_eq_getElem (by omega)⟩
  have hanc := ms_spec hbk hms
  have hat : ∀ i o, i < n → ops[i]? = some o → AtI4 F ops dst it σ n i o := fun i o hi ho => hst i o (by rw [hos i hi]; exact ho)
  have hitE2 : ∀ q, q < n → its[q]? = some (it q) := fun q hq => by
    rw [hitE]; simp only [List.getD_eq_getElem?_getD]; rw [List.getElem?_eq_getElem (by omega)]; rfl
  -- two that do not wait for each other
  have hcom : ∀ i j, i < n → j < n → i ≠ j → Anc ops j i ∨ Anc ops i j ∨ apt4 (it i) (it j) = true := by
    intro i j hi hj hij
    have h1 := List.all_eq_true.1 (List.all_eq_true.1 hcm i (List.mem_range.2 (by omega))) j (List.mem_range.2 (by omega))
    simp only [Bool.or_eq_true] at h1
    rcases h1 with ((h1 | h1) | h1) | h1
    · exact absurd (Nat.eq_of_beq_eq_true h1) hij
    · exact .inl (hanc _ _ h1)
    · exact .inr (.inl (hanc _ _ h1))
    · refine .inr (.inr ?_)
      rw [hitE2 i hi, hitE2 j hj] at h1
      exact h1
  have hapt : ∀ {a b : Itm4} {l : Nat}, apt4 a b = true → (lkE a.nw l ≠ none ∨ l ∈ a.dl) → l ∉ b.rl ∧ l ∉ b.dl ∧ ∀ y ∈ b.nw, y.1 ≠ l := by
    intro a b l h hx
    have hl : l ∈ a.nw.map (·.1) ++ a.dl := by
      rcases hx with hx | hx
      · obtain ⟨e, he⟩ := Option.ne_none_iff_exists'.1 hx
        exact List.mem_append_left _ (List.mem_map.2 ⟨_, lkE_mem he, rfl⟩)
      · exact List.mem_append_right _ hx
    have := List.all_eq_true.1 h _ hl
    simp only [Bool.and_eq_true, Bool.not_eq_true', List.all_eq_true] at this
    refine ⟨fun hc => ?_, fun hc => ?_, fun y hy e => ?_⟩
    · have h2 := this.1.1; simp at h2; exact h2 hc
    · have h2 := this.1.2; simp at h2; exact h2 hc
    · have h2 := this.2 y hy; rw [e] at h2; simp at h2
  obtain ⟨σL, hσL⟩ : ∃ σL : (Nat → Bool) → AS, σL = fun L => ⟨gLs dst (fun i => (it i).s) σ.g n L, dL4 (fun i => (it i).nw) (fun i => (it i).dl) σ.d n L⟩ := ⟨_, rfl⟩
  have hpure : ∀ i o t, i < n → ops[i]? = some o → o.dst = some t → ∀ j o', j < n → ops[j]? = some o' → (j = i ∨ o'.dst ≠ some t) ∧ (t ∈ looks ops o' → Anc ops j i ∨ Anc ops i j) := by
    intro i o t hi ho hd j o' hj ho'
    have h1 := List.all_eq_true.1 hok i (List.mem_range.2 (by omega))
    simp only [ho, if_pos hi, hd] at h1
    have h2 := List.all_eq_true.1 h1 j (List.mem_range.2 hj)
    simp only [ho', Bool.and_eq_true, Bool.or_eq_true, Bool.not_eq_true'] at h2
    obtain ⟨h3, h4⟩ := h2
    refine ⟨h3.imp (fun h => by simpa using h) (fun h => by simpa using h), fun hc => ?_⟩
    rcases h4 with (h4 | h4) | h4
    · simp at h4; exact absurd hc h4
    · exact .inl (hanc _ _ h4)
    · exact .inr (hanc _ _ h4)
  have htail : ∀ {i : Nat} {o : Oper}, ¬ i < n → ops[i]? = some o → ∀ {j : Nat}, j < i → Anc ops i j := by
    intro i o hi ho j hj
    have hlt : i < ops.size := by
      rcases Nat.lt_or_ge i ops.size with h | h
      · exact h
      · simp [Array.getElem?_eq_none h] at ho
    have h1 := List.all_eq_true.1 hok i (List.mem_range.2 hlt)
    simp only [ho, if_neg hi] at h1
    exact hanc _ _ (List.all_eq_true.1 h1 j (List.mem_range.2 hj))
  have hback : ∀ i o, i < ops.size → ops[i]? = some o → ∀ j ∈ deps o, j < i := fun i o _ ho j hj => back_dep hbk ho hj
  have hwait : ∀ m o, n ≤ m → ops[m]? = some o → ∀ j ∈ deps o, j < ops.size ∧ decide (j < m) = true := by
    intro m o _ ho j hj
    have hlt : m < ops.size := by
      rcases Nat.lt_or_ge m ops.size with h | h
      · exact h
      · simp [Array.getElem?_eq_none h] at ho
    have := hback m o hlt ho j hj
    exact ⟨by omega, by simpa using this⟩
  have hfull : ∀ L a w, St F (σL L) a w → (∀ i, i < n → L i = true) → St F σ1 a w := by
    intro L a w h hall
    rw [hσL] at h
    refine St.congr (fun u => ?_) (fun l => ?_) h
    · rw [s1]; exact gLs_congr fun i hi _ => by rw [hall i hi]
    · rw [d1]; exact dL4_congr fun i hi _ => by rw [hall i hi]
  -- one of them
  have hstep : ∀ L a w j o, Down ops L → St F (σL L) a w → j < n → ops[j]? = some o → L j = false → (∀ i ∈ deps o, L i = true) → ∀ K : Act → World → Prop,
      (∀ a' w', St F (σL fun i => i == j || L i) a' w' → K a' w') → wpOpIn F.fe 0 F.P ops (Exit.then (run F.fe F.P Q cs) Q) j K a w := by
    intro L a w j o hdn h hj ho hLj hdep K hK
    have hA := hat j o hj ho
    have hancL : ∀ i, Anc ops j i → L i = true := by
      intro i hi
      cases hi with
      | one ho' hd => rw [ho] at ho'; cases ho'; exact hdep _ hd
      | up ho' hd hr => rw [ho] at ho'; cases ho'; exact hr.down hdn (hdep _ hd)
    have hno : ∀ i, L i = true → ¬ Anc ops i j := fun i hi hc => by rw [hc.down hdn hi] at hLj; cases hLj
    have hgl : ∀ u ∈ looks ops o, lk (σL L).g u = lk (gLs dst (fun i => (it i).s) σ.g n (fun k => decide (k < j))) u := by
      intro u hu
      rw [hσL]
      refine gLs_congr fun i hi hd => ?_
      obtain ⟨oi, hoi⟩ := hop i hi
      rw [hdst i oi hi hoi] at hd
      rcases (hpure i oi u hi hoi hd j o hj ho).2 hu with h1 | h1
      · have := h1.lt hbk
        rw [hancL i h1]; simpa using this
      · have h2 := h1.lt hbk
        have h3 : L i = false := by
          cases hLi : L i with
          | false => rfl
          | true => exact absurd h1 (hno i hLi)
        rw [h3]; simp; omega
    obtain ⟨σ0, hσg, hloc, hcs⟩ : ∃ σ0 : AS, σ0.g = gLs dst (fun i => (it i).s) σ.g n (fun k => decide (k < j)) ∧ Loc ops o σ0 (σL L) ∧
        ((GK ops σ0.g o true ∧ (it j).fr = (it j).nw ∧ (it j).dl = [] ∧ JO F o σ0 (it j).s (it j).nw) ∨ (GK ops σ0.g o false ∧ (it j).s = .top ∧ (it j).nw = [] ∧ (it j).dl = []) ∨
          (GK ops σ0.g o true ∧ ∀ σ2, Loc ops o σ0 σ2 → σ2.free (it j).fr = true → JM F o σ2 ⟨gput o.dst (it j).s σ2.g, (it j).nw ++ delEs σ2.d (it j).dl⟩)) := by
      rcases hA.rl with hrl | ⟨hg, hnw, hfr, hdl, hjo⟩
      · refine ⟨⟨gLs dst (fun i => (it i).s) σ.g n (fun k => decide (k < j)), dL4 (fun i => (it i).nw) (fun i => (it i).dl) σ.d n (fun k => decide (k < j))⟩, rfl, ⟨hgl, fun l hl => ?_⟩, hA.cs⟩
        rw [hσL]
        refine dL4_congr fun i hi hx => ?_
        by_cases hij : i = j
        · subst hij; rw [hLj]; simp
        · have hrl' : l ∈ (it j).rl := by rw [hrl]; exact hl
          rcases hcom i j hi hj hij with h1 | h1 | h1
          · have := h1.lt hbk
            rw [hancL i h1]; simpa using this
          · have h2 := h1.lt hbk
            have h3 : L i = false := by
              cases hLi : L i with
              | false => rfl
              | true => exact absurd h1 (hno i hLi)
            rw [h3]; simp; omega
          · exact absurd hrl' (hapt h1 hx).1
      · exact ⟨⟨gLs dst (fun i => (it i).s) σ.g n (fun k => decide (k < j)), (σL L).d⟩, rfl, ⟨hgl, fun l _ => rfl⟩, .inl ⟨hg, by rw [hfr, hnw], hdl, by rw [hnw]; exact hjo _⟩⟩
    -- one that stands behind j and is done does not touch what j makes
    have hbeh : ∀ l, (lkE (it j).nw l ≠ none ∨ l ∈ (it j).dl) → ∀ i, j < i → i < n → (i == j || L i) = true → lkE (it i).nw l = none ∧ l ∉ (it i).dl := by
      intro l hl i hji hi hLi
      have hij : i ≠ j := by omega
      have hLi' : L i = true := by simpa [hij] using hLi
      rcases hcom j i hj hi (Ne.symm hij) with h1 | h1 | h1
      · exact absurd h1 (hno i hLi')
      · have := h1.lt hbk; omega
      · refine ⟨?_, ?_⟩
        · cases hy : lkE (it i).nw l with
          | none => rfl
          | some e => exact absurd rfl ((hapt (l := l) h1 hl).2.2 _ (lkE_mem hy))
        · exact (hapt (l := l) h1 hl).2.1
    -- what is known then
    have hafter : ∀ a' w', St F ⟨gput o.dst (it j).s (σL L).g, (it j).nw ++ delEs (σL L).d (it j).dl⟩ a' w' → St F (σL fun i => i == j || L i) a' w' := by
      intro a' w' h'
      rw [hσL] at h' ⊢
      refine St.congr (fun u => ?_) (fun l => ?_) h'
      · show lk (gLs _ _ _ _ _) u = lk (gput _ _ (gLs _ _ _ _ _)) u
        rw [lk_gput]
        split
        · rename_i hd
          refine gLs_at (by rw [hdst j o hj ho]; exact hd) (by simp) hj fun i hi hij hc => ?_
          obtain ⟨oi, hoi⟩ := hop i hi
          rw [hdst i oi hi hoi] at hc
          rcases (hpure j o u hj ho hd i oi hi hoi).1 with h1 | h1
          · exact hij h1
          · exact h1 hc
        · rename_i hd
          refine gLs_congr fun i hi hc => ?_
          by_cases hij : i = j
          · subst hij; rw [hdst i o hi ho] at hc; exact absurd hc hd
          · simp [hij]
      · show lkE (dL4 _ _ _ _ _) l = lkE (_ ++ delEs (dL4 _ _ _ _ _) _) l
        rw [lkE_append]
        cases hx : lkE (it j).nw l with
        | some en => exact dL4_at hx (by simp) hj (hbeh l (.inl (by rw [hx]; simp)))
        | none =>
          simp only [Option.none_or]
          rw [lkE_delEs]
          by_cases hg : l ∈ (it j).dl
          · rw [if_pos hg]
            exact dL4_gone hx hg (by simp) hj (hbeh l (.inr hg))
          · rw [if_neg hg]
            refine dL4_congr fun i hi hc => ?_
            by_cases hij : i = j
            · subst hij; rcases hc with hc | hc
              · exact absurd hx hc
              · exact absurd hc hg
            · simp [hij]
    have hfree : AS.free (σL L) (it j).fr = true := by
      refine List.all_eq_true.2 fun x hx => ?_
      have h0 := List.all_eq_true.1 hfe j (List.mem_range.2 (by omega))
      rw [hitE2 j hj] at h0
      have h1 := List.all_eq_true.1 h0 x hx
      simp only [Bool.and_eq_true, List.all_eq_true, Bool.or_eq_true] at h1
      obtain ⟨⟨h1, h2⟩, h3⟩ := h1
      have h4 : ∀ i, i < n → L i = true → (!(it i).s.lab.contains x.1) = true ∧ ∀ y ∈ (it i).nw, (!Nat.beq y.1 x.1) = true ∧ (!y.2.lab.contains x.1) = true := by
        intro i hi hLi
        have h5 := h3 i (List.mem_range.2 (by omega))
        rw [hitE2 i hi] at h5
        rcases h5 with (h5 | h5) | h5
        · rw [Nat.eq_of_beq_eq_true h5, hLj] at hLi; cases hLi
        · exact absurd (hanc _ _ h5) (hno i hLi)
        · simp only [Bool.and_eq_true, List.all_eq_true] at h5
          exact h5
      rw [hσL]
      simp only [Bool.and_eq_true, List.all_eq_true]
      refine ⟨fun y hy => ?_, fun y hy => ?_⟩
      · rcases mem_gLs hy with h5 | ⟨i, hi, hLi, e⟩
        · exact h1 y h5
        · rw [e]; exact (h4 i hi hLi).1
      · rcases mem_dL4 hy with h5 | ⟨i, hi, hLi, hy⟩
        · exact h2 y h5
        · exact (h4 i hi hLi).2 y hy
    have hgw : ∀ b, GK ops σ0.g o b → Region.wanted o (yielded ops a.tmps) = b := by
      intro b hg
      obtain ⟨⟨ρ, hc, hsl⟩, _, _⟩ := h
      exact wanted_of (gk_loc hg hloc) fun t s _ ht => hsl t s ht
    unfold wpOpIn
    rw [ho]
    rcases hcs with ⟨hg, hfr, hdl, hjo⟩ | ⟨hg, htop, hnw, hdl⟩ | ⟨hg, hjm⟩
    · simp only [hgw true hg, if_true]
      obtain ⟨⟨ρ, hc, hsl⟩, hz, hde⟩ := h
      refine (JO.loc hjo hloc ρ _ a w (Know.of_st hc hsl _)).wpIn fun v w' hr => hK _ _ (hafter _ _ ?_)
      rw [hfr] at hfree
      have := St.put hc hsl hz hde hfree hA.ok hr
      rw [hdl]
      cases hd : o.dst with
      | none => rw [hd] at this; exact this
      | some t => rw [hd] at this; exact this
    · simp only [hgw false hg, Bool.false_eq_true, if_false]
      refine ⟨fun _ _ => trivial, hK _ _ (hafter _ _ ?_)⟩
      obtain ⟨⟨ρ, hc, hsl⟩, hz, hde⟩ := h
      have := St.put (s := .top) (new := []) (v := undef) (dst := o.dst) hc hsl hz hde rfl hA.ok Res_top
      rw [htop, hnw, hdl]
      cases hd : o.dst with
      | none => rw [hd] at this; exact this
      | some t => rw [hd] at this; exact this
    · simp only [hgw true hg, if_true]
      exact (hjm (σL L) hloc hfree a w h).wpIn fun v w' h' => hK _ _ (hafter _ _ h')
  -- whatever order
  have hgetD : ∀ (listed : Array Bool) (L : Nat → Bool), listed.size = ops.size → (∀ i, i < ops.size → listed.getD i false = L i) → ∀ i d, i < ops.size → listed.getD i d = L i := by
    intro listed L hls hL i d hi
    have := hL i hi
    rw [Array.getD_eq_getD_getElem?] at this ⊢
    rw [Array.getElem?_eq_getElem (by omega)] at this ⊢
    simpa using this
  have hready : ∀ (listed : Array Bool) (L : Nat → Bool), listed.size = ops.size → (∀ i, i < ops.size → listed.getD i false = L i) → ∀ i, i ∈ Region.ready .any ops listed ↔
      (i < ops.size ∧ L i = false ∧ ∀ o, ops[i]? = some o → ∀ j ∈ deps o, j < ops.size ∧ L j = true) := by
    intro listed L hls hL i
    unfold Region.ready
    rw [List.mem_filter, List.mem_range]
    constructor
    · rintro ⟨h1, h2⟩
      simp only [Bool.and_eq_true, Bool.not_eq_true'] at h2
      obtain ⟨h2, h3⟩ := h2
      rw [hgetD listed L hls hL i true h1] at h2
      refine ⟨h1, h2, fun o ho j hj => ?_⟩
      rw [ho] at h3
      simp only [Option.map_some, Option.getD_some] at h3
      obtain ⟨e, he, hej⟩ := List.mem_filterMap.1 hj
      have he' : e ∈ o.after := by simpa using he
      have := Array.all_eq_true_iff_forall_mem.1 h3 e he'
      split at hej
      · rename_i hb
        cases hej
        rw [hb] at this
        simp only [Bool.not_true, Bool.false_or] at this
        rcases Nat.lt_or_ge e.on ops.size with hl | hl
        · rw [hgetD listed L hls hL _ _ hl] at this; exact ⟨hl, this⟩
        · rw [Array.getD_eq_getD_getElem?, Array.getElem?_eq_none (by omega)] at this; simp at this
      · cases hej
    · rintro ⟨h1, h2, h3⟩
      refine ⟨h1, ?_⟩
      have ho : ops[i]? = some ops[i] := Array.getElem?_eq_getElem h1
      simp only [Bool.and_eq_true, Bool.not_eq_true', hgetD listed L hls hL i true h1, h2, true_and, ho, Option.map_some, Option.getD_some]
      refine Array.all_eq_true_iff_forall_mem.2 fun e he => ?_
      cases hb : Region.binds .any e with
      | false => rfl
      | true =>
        have := h3 _ ho e.on (List.mem_filterMap.2 ⟨e, by simpa using he, by simp [hb]⟩)
        rw [hgetD listed L hls hL _ _ this.1, this.2]; rfl
  have hset : ∀ (listed : Array Bool) (L : Nat → Bool) (j : Nat), listed.size = ops.size → j < ops.size → (∀ i, i < ops.size → listed.getD i false = L i) → ∀ i, i < ops.size → (listed.setIfInBounds j true).getD i false = (i == j || L i) := by
    intro listed L j hls hj hL i hi
    by_cases hij : i = j
    · subst hij
      simp only [Array.getD_eq_getD_getElem?, Array.getElem?_setIfInBounds]
      simp [hls, hi]
    · rw [getD_set_ne false (Ne.symm hij), hL i hi]; simp [hij]
  have hB : ∀ fuel m (listed : Array Bool) a w, listed.size = ops.size → (∀ i, i < ops.size → listed.getD i false = decide (i < m)) → Down ops (fun i => decide (i < m)) → n ≤ m → m + fuel = ops.size →
      wpListIn F.fe 0 F.P ops (Exit.then (run F.fe F.P Q cs) Q) (ops.toList.drop m) a w → wpAnyIn F.fe 0 F.P .any ops (Exit.then (run F.fe F.P Q cs) Q) fuel listed a w := by
    intro fuel
    induction fuel with
    | zero =>
      intro m listed a w hls hlm _ hnm hmf hw
      refine ⟨List.eq_nil_iff_forall_not_mem.2 fun i hi => ?_, ?_⟩
      · obtain ⟨h1, h2, _⟩ := (hready listed _ hls hlm i).1 hi
        have : i < m := by omega
        simp [this] at h2
      · rw [List.drop_eq_nil_of_le (by rw [Array.length_toList]; omega)] at hw
        exact hw
    | succ fuel ih =>
      intro m listed a w hls hlm hdn hnm hmf hw
      have hmlt : m < ops.size := by omega
      have hom : ops[m]? = some ops[m] := Array.getElem?_eq_getElem hmlt
      have hmr : ∀ i ∈ Region.ready .any ops listed, i = m := by
        intro i hi
        obtain ⟨h1, h2, h3⟩ := (hready listed _ hls hlm i).1 hi
        have him : m ≤ i := by simpa using h2
        rcases Nat.lt_or_ge m i with hlt | hge
        · exfalso
          have ho : ops[i]? = some ops[i] := Array.getElem?_eq_getElem h1
          have hmem := htail (by omega) ho hlt
          cases hmem with
          | one ho' hj => rw [ho] at ho'; cases ho'; have := (h3 _ ho _ hj).2; simp at this
          | up ho' hj hmj =>
            rw [ho] at ho'; cases ho'
            have hjm := (h3 _ ho _ hj).2
            have := hmj.down hdn hjm
            simp at this
        · omega
      have hdrop : ops.toList.drop m = ops[m] :: ops.toList.drop (m + 1) := by
        rw [List.drop_eq_getElem_cons (by rw [Array.length_toList]; exact hmlt)]
        simp
      rw [hdrop] at hw
      refine ⟨fun hr => ?_, fun i hi => ?_⟩
      · exfalso
        -- m itself is ready: what it waits for is ahead of it
        have hnr : m ∉ Region.ready .any ops listed := by rw [hr]; simp
        refine hnr ((hready listed _ hls hlm m).2 ⟨hmlt, by simp, fun o ho j hj => ?_⟩)
        exact hwait m o hnm ho j hj
      · have := hmr i hi
        subst this
        obtain ⟨_, _, h3⟩ := (hready listed _ hls hlm i).1 hi
        have hdn' : Down ops (fun k => decide (k < i + 1)) := by
          intro k o hk ho j hj
          have hk : k < i + 1 := by simpa using hk
          rcases Nat.lt_or_ge k i with h | h
          · have := hdn k o (by simpa using h) ho j hj
            have : j < i := by simpa using this
            simp; omega
          · have : k = i := by omega
            subst this
            have := (h3 o ho j hj).2
            have : j < k := by simpa using this
            simp; omega
        have hnext : ∀ a w, wpListIn F.fe 0 F.P ops (Exit.then (run F.fe F.P Q cs) Q) (ops.toList.drop (i + 1)) a w → wpAnyIn F.fe 0 F.P .any ops (Exit.then (run F.fe F.P Q cs) Q) fuel (listed.setIfInBounds i true) a w := by
          intro a w hw
          refine ih (i + 1) _ a w (by simpa using hls) (fun j hj => ?_) hdn' (by omega) (by omega) hw
          rw [hset listed _ i hls hmlt hlm j hj]
          by_cases hji : j = i
          · subst hji; simp
          · have : (j < i + 1) ↔ j < i := by omega
            simp [hji, this]
        unfold wpOpIn
        rw [hom]
        unfold wpListIn at hw
        split at hw
        · rename_i hwant
          simp only [hwant, if_true]
          exact Oper.wpIn_mono hnext hw
        · rename_i hwant
          simp only [hwant]
          exact ⟨hw.1, hnext _ _ hw.2⟩
  have hA : ∀ fuel (listed : Array Bool) (L : Nat → Bool) a w, listed.size = ops.size → (∀ i, i < ops.size → listed.getD i false = L i) → Down ops L → (∀ i, L i = true → i < n) → ((List.range ops.size).filter fun i => L i).length + fuel = ops.size →
      St F (σL L) a w → wpAnyIn F.fe 0 F.P .any ops (Exit.then (run F.fe F.P Q cs) Q) fuel listed a w := by
    intro fuel
    induction fuel with
    | zero =>
      intro listed L a w hls hL hdn hLn hcnt h
      have hall : ∀ i, i < ops.size → L i = true := by
        have hc : ((List.range ops.size).filter fun i => L i).length = (List.range ops.size).length := by simpa using hcnt
        have := List.length_filter_eq_length_iff.1 hc
        exact fun i hi => this i (List.mem_range.2 hi)
      have hnn : ops.size = n := by
        rcases Nat.lt_or_ge n ops.size with h | h
        · have := hLn n (hall n h); omega
        · omega
      have hl2 : l2 = [] := List.eq_nil_of_length_eq_zero (by omega)
      refine ⟨List.eq_nil_iff_forall_not_mem.2 fun i hi => ?_, ?_⟩
      · obtain ⟨h1, h2, _⟩ := (hready listed _ hls hL i).1 hi
        rw [hall i h1] at h2; cases h2
      · have hst1 := hfull L a w h fun i hi => hall i (by omega)
        have := ht (Exit.then (run F.fe F.P Q cs) Q) [] a w hst1 (fun a' w' h' => wpListIn_nil (k a' w' h'))
        rw [hl2] at this
        exact this
    | succ fuel ih =>
      intro listed L a w hls hL hdn hLn hcnt h
      by_cases hall : ∀ i, i < n → L i = true
      · -- all of the first are done: the others, in the text's order
        have hst1 := hfull L a w h hall
        have hw := ht (Exit.then (run F.fe F.P Q cs) Q) [] a w hst1 (fun a' w' h' => wpListIn_nil (k a' w' h'))
        have hLd : L = fun i => decide (i < n) := by
          funext i
          cases hLi : L i with
          | true => simp [hLn i hLi]
          | false =>
            rcases Nat.lt_or_ge i n with h | h
            · rw [hall i h] at hLi; cases hLi
            · simp; omega
        have hcn : ((List.range ops.size).filter fun i => L i).length = n := by
          rw [hLd]
          have : ops.size = n + (ops.size - n) := by omega
          rw [this, List.range_add, List.filter_append]
          rw [List.filter_eq_self.2 (by intro i hi; simpa using List.mem_range.1 hi), List.filter_eq_nil_iff.2 (by intro i hi; simp at hi ⊢; omega)]
          simp
        refine hB (fuel + 1) n listed a w hls (fun i hi => by rw [hL i hi, hLd]) (by rw [← hLd]; exact hdn) (Nat.le_refl _) (by omega) ?_
        have : ops.toList.drop n = l2 := by rw [hl, ← hln]; simp
        rw [this]; simpa using hw
      · refine ⟨fun hr => ?_, fun i hi => ?_⟩
        · exfalso
          -- the least one that is not done is ready
          have hex : ∃ i, i < n ∧ L i = false := by
            refine Classical.byContradiction fun hno => hall fun i hi => ?_
            cases hLi : L i with
            | true => rfl
            | false => exact absurd ⟨i, hi, hLi⟩ hno
          obtain ⟨i, ⟨hi, hLi⟩, hmin⟩ : ∃ i, (i < n ∧ L i = false) ∧ ∀ j, j < i → L j = true := by
            obtain ⟨i, hi⟩ := hex
            induction i using Nat.strongRecOn with
            | _ i ihi =>
              by_cases hj : ∃ j, j < i ∧ L j = false
              · obtain ⟨j, h1, h2⟩ := hj; exact ihi j h1 ⟨by omega, h2⟩
              · refine ⟨i, hi, fun j hj' => ?_⟩
                cases hLj : L j with
                | true => rfl
                | false => exact absurd ⟨j, hj', hLj⟩ hj
          have hnr : i ∉ Region.ready .any ops listed := by rw [hr]; simp
          refine hnr ((hready listed _ hls hL i).2 ⟨by omega, hLi, fun o ho j hj => ?_⟩)
          have := hback i o (by omega) ho j hj
          exact ⟨by omega, hmin j this⟩
        · obtain ⟨h1, h2, h3⟩ := (hready listed _ hls hL i).1 hi
          have ho : ops[i]? = some ops[i] := Array.getElem?_eq_getElem h1
          have hin : i < n := by
            refine Classical.byContradiction fun hge => hall fun j hj => ?_
            have hmem := htail hge ho (j := j) (by omega)
            cases hmem with
            | one ho' hj => rw [ho] at ho'; cases ho'; exact (h3 _ ho _ hj).2
            | up ho' hj hmj => rw [ho] at ho'; cases ho'; exact hmj.down hdn (h3 _ ho _ hj).2
          refine hstep L a w i _ hdn h hin ho h2 (fun j hj => (h3 _ ho j hj).2) _ fun a' w' h' => ?_
          refine ih _ _ a' w' (by simpa using hls) (hset listed L i hls h1 hL) ?_ ?_ ?_ h'
          · intro q o hq hoq j hj
            by_cases hqi : q = i
            · subst hqi; simp [(h3 o hoq j hj).2]
            · have : L q = true := by simpa [hqi] using hq
              simp [hdn q o this hoq j hj]
          · intro q hq
            by_cases hqi : q = i
            · omega
            · exact hLn q (by simpa [hqi] using hq)
          · have : ((List.range ops.size).filter fun q => q == i || L q).length = ((List.range ops.size).filter fun q => L q).length + 1 := count_add ops.size i L h1 h2
            omega
  refine wpIn_region_any hm ?_
  refine hA ops.size _ (fun _ => false) a _ (by simp) (fun i hi => by rw [Array.getD_eq_getD_getElem?, Array.getElem?_replicate, if_pos hi]; rfl) (fun _ _ h => by cases h) (fun _ h => by cases h) (by rw [List.filter_eq_nil_iff.2 (fun _ _ h => by cases h)]; simp) ?_
  obtain ⟨⟨ρ, hc, hsl⟩, hz, hde⟩ := hs
  have hb : Below w.heap.size w { w with drawn := w.drawn + 1 } := (Below.refl _ _).drew
  obtain ⟨hc', hE⟩ := hc.below hb
  have e0 : σL (fun _ => false) = σ := by
    rw [hσL]
    show (⟨gLs _ _ _ _ _, dL4 _ _ _ _ _⟩ : AS) = σ
    rw [gLs_beyond (m := 0) (Nat.zero_le _) (fun _ _ _ => rfl), dL4_beyond (m := 0) (Nat.zero_le _) (fun _ _ _ => rfl)]; rfl
  rw [e0]
  exact ⟨⟨ρ, hc', fun t s hts => Slot.ok_mono s _ (hsl t s hts) hE (fun _ _ => rfl)⟩, hz, hde⟩
section
variable {os : List Oper} {σ σ' : AS} {its : List Itm4} {s s0 : Slot} {d : Option Tmp} {pb : Option Nat} {ty : TypeId} {p : String} {af : Array Edge} {gd : Option (Nat × Bool)} {x y : Operand}
theorem JP4.store {T U : TypeId} {l : List Slot} {i off n : Nat} (g : GK ops σ.g ⟨none, .store U x y, ty, p, af, gd⟩ true) (hx : evS σ.g x = some (.ptr i off)) (he : lkE σ.d i = some (.box T l pb)) (ho : offAt l off = some s0) (hy : evS σ.g y = some s) (hp : s.plain = true) (hsz : Nat.beq s.sz n = true) (hsz0 : Nat.beq s0.sz n = true)
    (hS : ∀ w, (sizeOf U).run F.P w = .ok n w) (k : JP4 F ops os ⟨σ.g, (i, .box T (setOff l off s) pb) :: σ.d⟩ its σ') :
    JP4 F ops (⟨none, .store U x y, ty, p, af, gd⟩ :: os) σ (⟨.top, [(i, .box T (setOff l off s) pb)], [], rdl σ.g ⟨none, .store U x y, ty, p, af, gd⟩, []⟩ :: its) σ' :=
  .mv g rfl (fun σ2 hL _ => JM.store ((hL.ev (by simp [Op.operands])).trans hx) ((hL.ent (x := x) (by simp [Op.operands]) hx (by simp [Slot.lab])).trans he) ho ((hL.ev (by simp [Op.operands])).trans hy) hp hsz hsz0 hS) k
theorem JP4.storeAll {α : Type} {e : Enc α} {z : α} {T U : TypeId} {l l' : List Slot} {i : Nat} (g : GK ops σ.g ⟨none, .store U x y, ty, p, af, gd⟩ true) (hx : evS σ.g x = some (.ptr i 0)) (he : lkE σ.d i = some (.box T l pb)) (hl : Nat.beq (l.map Slot.sz).sum e.n = true) (hy : evS σ.g y = some (.v e z)) (hl' : Spl l' e z)
    (hS : ∀ w, (sizeOf U).run F.P w = .ok e.n w) (k : JP4 F ops os ⟨σ.g, (i, .box T l' pb) :: σ.d⟩ its σ') :
    JP4 F ops (⟨none, .store U x y, ty, p, af, gd⟩ :: os) σ (⟨.top, [(i, .box T l' pb)], [], rdl σ.g ⟨none, .store U x y, ty, p, af, gd⟩, []⟩ :: its) σ' :=
  .mv g rfl (fun σ2 hL _ => JM.storeAll ((hL.ev (by simp [Op.operands])).trans hx) ((hL.ent (x := x) (by simp [Op.operands]) hx (by simp [Slot.lab])).trans he) hl ((hL.ev (by simp [Op.operands])).trans hy) hl' hS) k
theorem JP4.storeAgg {T U : TypeId} {l l' : List Slot} {i n : Nat} (g : GK ops σ.g ⟨none, .store U x y, ty, p, af, gd⟩ true) (hx : evS σ.g x = some (.ptr i 0)) (he : lkE σ.d i = some (.box T l pb)) (hl : (l.map Slot.sz).sum = n) (hy : evS σ.g y = some (.agg l')) (hl' : (l'.map Slot.sz).sum = n) (hnt : l'.all Slot.plain = true)
    (hS : ∀ w, (sizeOf U).run F.P w = .ok n w) (k : JP4 F ops os ⟨σ.g, (i, .box T l' pb) :: σ.d⟩ its σ') :
    JP4 F ops (⟨none, .store U x y, ty, p, af, gd⟩ :: os) σ (⟨.top, [(i, .box T l' pb)], [], rdl σ.g ⟨none, .store U x y, ty, p, af, gd⟩, []⟩ :: its) σ' :=
  .mv g rfl (fun σ2 hL _ => JM.storeAgg ((hL.ev (by simp [Op.operands])).trans hx) ((hL.ent (x := x) (by simp [Op.operands]) hx (by simp [Slot.lab])).trans he) hl ((hL.ev (by simp [Op.operands])).trans hy) hl' hnt hS) k
/-- a source that another state knows as well -/
theorem Src.loc {α : Type} {e : Enc α} {ys : List α} {o : Oper} {σ2 : AS} (h : Src σ y e ys) (hL : Loc ops o σ σ2) (hm : y ∈ o.op.operands) : Src σ2 y e ys := fun ρ S a w K =>
  h ρ S a w ⟨K.low, fun x hx s hs => K.slot x hx s (by have : x = y := by simpa using hx
                                                       subst this; rw [hL.ev hm]; exact hs), fun x hx s hs i hi en he => K.ent x hx s (by have : x = y := by simpa using hx
                                                                                                                                          subst this; rw [hL.ev hm]; exact hs) i hi en (by have : x = y := by simpa using hx
                                                                                                                                                                                           subst this; rw [hL.ent hm hs hi]; exact he)⟩
theorem JP4.append {α : Type} {e : Enc α} {xs ys zs : List α} {T U : TypeId} {ti : TypeInfo} {z : Value} {i : Nat} (g : GK ops σ.g ⟨d, .call ⟨.builtin .append, #[x, y], #[U, U]⟩, ty, p, af, gd⟩ true) (j : Nat) (ha : app xs ys = some zs) (hx : evS σ.g x = some (.ref i)) (he : lkE σ.d i = some (.arr T e xs)) (hy : Src σ y e ys)
    (hU : ∀ w, (underlying U).run F.P w = .ok (.slice T) w) (hI : ∀ w, (typeInfo T).run F.P w = .ok ti w) (hS : ∀ w, (sizeOf T).run F.P w = .ok e.n w) (hz : ti.zero = some z) (hzs : z.cells.size = e.n) (hby : Nat.ble ti.bytes 4096 = true)
    (_ : σ.free [(j, .arr T e zs)] = true) (hd : dstOk d F.N = true) (k : JP4 F ops os ⟨gput d (.ref j) σ.g, (j, .arr T e zs) :: delE σ.d i⟩ its σ') :
    JP4 F ops (⟨d, .call ⟨.builtin .append, #[x, y], #[U, U]⟩, ty, p, af, gd⟩ :: os) σ (⟨.ref j, [(j, .arr T e zs)], [(j, .arr T e zs)], rdl σ.g ⟨d, .call ⟨.builtin .append, #[x, y], #[U, U]⟩, ty, p, af, gd⟩, [i]⟩ :: its) σ' :=
  .mv (nw := [(j, .arr T e zs)]) (dl := [i]) g hd (fun σ2 hL hf => JM.append j ha ((hL.ev (by simp [Op.operands, Call.operands])).trans hx) ((hL.ent (x := x) (by simp [Op.operands, Call.operands]) hx (by simp [Slot.lab])).trans he) (hy.loc hL (by simp [Op.operands, Call.operands])) hU hI hS hz hzs hby hf hd) k
end
end
end Go.Sw

namespace Go.Sw
open Go Go.RowKit
section
variable {F : Frm} {σ : AS} {pb : Option Nat} {s : Slot} {d : Option Tmp} {ty : TypeId} {p : String} {af : Array Edge} {gd : Option (Nat × Bool)} {x y z : Operand}
/-- a result told otherwise: what of it is ours no more is what nobody writes -/
theorem Res.cv {ρ : Nat → LV} {S : Nat → Prop} {w w' : World} {v : Value} {s s' : Slot} {new new' : List (Nat × Ent)} (hlow : ∀ k, S k → k < w.heap.size) (h : Res ρ S w s new v w')
    (hsub : ∀ F : Frm, Sub F ⟨[(0, s)], new⟩ ⟨[(0, s')], new'⟩) (hcl : closed s' new' = true) : Res ρ S w s' new' v w' := by
  obtain ⟨ρ', h1, h2, h3, h4⟩ := h
  let F' : Frm := ⟨default, 1, S, w, fun _ => False, none, []⟩
  have hc : Core F' new ρ' w' := ⟨hlow, h2.size, fun k hk _ => h2.block k hk, h2.os, h2.tape, h2.output, h4.own, fun i en b hi hb => ⟨.inl (h4.fresh i en b hi hb).1, (h4.fresh i en b hi hb).2⟩, h4.inj,
    fun i en b hi hb hS => by have := hlow b hS; have := (h4.fresh i en b hi hb).1; omega⟩
  let a : Act := ⟨#[v], []⟩
  have h0 : St F' ⟨[(0, s)], new⟩ a w' := ⟨⟨ρ', hc, fun t s1 ht => by
    simp only [lk] at ht
    cases hb : Nat.beq 0 t with
    | true => have := Nat.eq_of_beq_eq_true hb; subst this; simp at ht; subst ht; exact h3
    | false => rw [hb] at ht; cases ht⟩, rfl, rfl⟩
  obtain ⟨⟨ρ2, hc2, hs2⟩, _, _⟩ := hsub F' a w' h0
  have hs2 : s'.ok ρ2 (Un S ρ2 new') w' v := hs2 0 s' rfl
  simp only [closed, Bool.and_eq_true, List.all_eq_true] at hcl
  let ρ3 : Nat → LV := fun i => if (lkE new' i).isSome then ρ2 i else ρ i
  have r3 : ∀ i en, lkE new' i = some en → ρ3 i = ρ2 i := fun i en h => if_pos (by rw [h]; rfl)
  have r3' : ∀ i, (lkE new' i).isSome = true → ρ3 i = ρ2 i := fun i h => if_pos h
  have hU : Un S ρ3 new' = Un S ρ2 new' := by
    funext k; apply propext
    constructor
    · rintro (h | ⟨i, en, h5, h6⟩)
      · exact .inl h
      · exact .inr ⟨i, en, h5, by rw [← r3 i en h5]; exact h6⟩
    · rintro (h | ⟨i, en, h5, h6⟩)
      · exact .inl h
      · exact .inr ⟨i, en, h5, by rw [r3 i en h5]; exact h6⟩
  have hE : Ext (Un S ρ2 new') (Un S ρ3 new') w' w' := ⟨Nat.le_refl _, fun k _ h => ⟨rfl, by rw [hU]; exact h⟩⟩
  refine ⟨ρ3, fun i h => if_neg (by rw [h]; simp), h2, Slot.ok_mono s' v hs2 hE (fun i hi => congrArg LV.v (r3' i (hcl.1 i hi))), ⟨fun i en h => ?_, fun i en b h hb => ?_, fun i j en en' b h h' hb hb' => ?_⟩⟩
  · rw [r3 i en h]
    exact Ent.ok_mono (hc2.own i en h) hE (fun q hq => congrArg LV.v (r3' q (hcl.2 _ (lkE_mem h) q hq))) (fun _ _ => rfl)
  · rw [r3 i en h] at hb
    have := hc2.fresh i en b h hb
    exact ⟨this.1.resolve_right (fun h => h), this.2⟩
  · rw [r3 i en h] at hb; rw [r3 j en' h'] at hb'
    exact hc2.inj i j en en' b h h' hb hb'
theorem JO.cv {o : Oper} {s s' : Slot} {new new' : List (Nat × Ent)} (h : JO F o σ s new) (hsub : ∀ F : Frm, Sub F ⟨[(0, s)], new⟩ ⟨[(0, s')], new'⟩) (hcl : closed s' new' = true) : JO F o σ s' new' := by
  intro ρ S a w K
  exact (h ρ S a w K).mono fun v w' hr => hr.cv K.low hsub hcl
end
end Go.Sw

namespace Go.Sw
open Go Go.RowKit
section
variable {F : Frm} {σ : AS} {pb : Option Nat} {s : Slot} {d : Option Tmp} {ty : TypeId} {p : String} {af : Array Edge} {gd : Option (Nat × Bool)} {x y z : Operand} {α : Type} {e : Enc α} {T U : TypeId} {i : Nat}
/-! ### a slice of ours cut shorter -/
theorem arrOk.sub {xs ys : List α} {lo hi : Int} {S : Nat → Prop} {w : World} {v : Value} {a : Option Addr} {cap : Nat} (hs : Sw.sub xs lo hi = some ys) (h : arrOk T e xs S w v) (hv : v = .slice a xs.length cap) :
    arrOk T e ys S w (.slice (if cap = lo.toNat then a else a.map (·.add (lo.toNat * e.n))) (hi.toNat - lo.toNat) (cap - lo.toNat)) := by
  obtain ⟨h0, h1, h2, rfl⟩ := sub_some hs
  rcases h with ⟨rfl, rfl⟩ | ⟨b, cap', pre, cs, post, rfl, h4, h5, h6, h7, h8⟩
  · simp only [Value.slice.injEq, List.length_nil] at hv
    obtain ⟨rfl, _, rfl⟩ := hv
    have : lo.toNat = 0 := by simp at h2; omega
    have : hi.toNat = 0 := by simp at h2; omega
    refine .inl ⟨by simp, ?_⟩
    simp [*]
  · simp only [Value.slice.injEq, true_and] at hv
    obtain ⟨rfl, rfl⟩ := hv
    have hcl := Enc.okL_len h5
    obtain ⟨l, hl⟩ : ∃ l, l = lo.toNat := ⟨_, rfl⟩
    obtain ⟨m, hm⟩ : ∃ m, m = hi.toNat := ⟨_, rfl⟩
    rw [← hl, ← hm]
    have hlm : l ≤ m := by omega
    have hmx : m ≤ xs.length := by omega
    have e1 : l * e.n ≤ m * e.n := Nat.mul_le_mul_right _ hlm
    have e2 : m * e.n ≤ xs.length * e.n := Nat.mul_le_mul_right _ hmx
    have hlen : ((xs.take m).drop l).length = m - l := by rw [List.length_drop, List.length_take]; omega
    by_cases hc : cap' = l
    · rw [if_pos hc]
      have hm2 : m - l = 0 := by omega
      refine .inr ⟨b, cap' - l, pre, [], cs ++ post, by rw [hlen], by simpa using h4, ?_, by omega, ?_, by omega⟩
      · have : (xs.take m).drop l = [] := List.eq_nil_of_length_eq_zero (by omega)
        rw [this]; rfl
      · rw [hc, Nat.sub_self]; simp
    · rw [if_neg hc]
      refine .inr ⟨b, cap' - l, pre ++ cs.take (l * e.n), (cs.take (m * e.n)).drop (l * e.n), cs.drop (m * e.n) ++ post, ?_, ?_, okL_drop _ (okL_take _ h5), by omega, ?_, by omega⟩
      · rw [hlen]
        simp only [Option.map_some, Addr.add_lit, List.length_append, List.length_take, hcl]
        rw [Nat.min_eq_left (by omega)]
      · rw [h4]
        have : pre ++ (cs ++ post) = pre ++ cs.take (l * e.n) ++ ((cs.take (m * e.n)).drop (l * e.n) ++ (cs.drop (m * e.n) ++ post)) := by
          have k1 : cs = cs.take (l * e.n) ++ ((cs.take (m * e.n)).drop (l * e.n) ++ cs.drop (m * e.n)) := by
            have k2 : cs.take (l * e.n) = (cs.take (m * e.n)).take (l * e.n) := by rw [List.take_take, Nat.min_eq_left e1]
            rw [← List.append_assoc, k2, List.take_append_drop, List.take_append_drop]
          conv => lhs; rw [k1]
          simp only [List.append_assoc]
        rw [this]
      · simp only [List.length_append, List.length_drop, List.length_take, hcl]
        rw [Nat.min_eq_left (by omega)]
        have : (cap' - l) * e.n + l * e.n = cap' * e.n := by rw [← Nat.add_mul]; congr 1; omega
        omega
/-! ### what is cleared -/
end
end Go.Sw

namespace Go.Sw
open Go Go.RowKit
/-- a pointer to what nobody writes, or nil -/
def Enc.ptN {α : Type} (e : Enc α) : Enc (Option α) where
  n := 1
  agg := false
  ok x S w cs := match x with
    | none => cs = [.pointer none]
    | some z => ∃ b off ds, cs = [.pointer (some ⟨b, off, none⟩)] ∧ b < w.heap.size ∧ ¬ S b ∧ MemAt w b off ds ∧ e.ok z S w ds
  len {x _ _ _} h := by
    cases x with
    | none => rw [h]; rfl
    | some z => obtain ⟨_, _, _, h, _⟩ := h; rw [h]; rfl
  one _ := rfl
  cell {x _ _ _} h c hc := by
    cases x with
    | none => rw [h] at hc; simp at hc; subst hc; rfl
    | some z => obtain ⟨_, _, _, h, _⟩ := h; rw [h] at hc; simp at hc; subst hc; rfl
  mono {x _ _ _ _ _} h k := by
    cases x with
    | none => exact h
    | some z =>
      obtain ⟨b, off, ds, h1, h2, h3, h4, h5⟩ := h
      exact ⟨b, off, ds, h1, Nat.lt_of_lt_of_le h2 k.size, (k.keep b h2 h3).2, h4.mono h2 h3 k, e.mono h5 k⟩
theorem val_ptN_none {α : Type} {e : Enc α} {S w u} : (Enc.ptN e).val none S w u ↔ u = .pointer none := by
  constructor
  · rintro ⟨cs, h, rfl⟩; simp only [Enc.ptN] at h; subst h; rfl
  · rintro rfl; exact ⟨[.pointer none], rfl, rfl⟩
theorem val_ptN_some {α : Type} {e : Enc α} {z : α} {S w u} : (Enc.ptN e).val (some z) S w u ↔ ∃ b off ds, u = .pointer (some ⟨b, off, none⟩) ∧ b < w.heap.size ∧ ¬ S b ∧ MemAt w b off ds ∧ e.ok z S w ds := by
  constructor
  · rintro ⟨cs, ⟨b, off, ds, rfl, h⟩, rfl⟩; exact ⟨b, off, ds, rfl, h⟩
  · rintro ⟨b, off, ds, rfl, h⟩; exact ⟨[.pointer (some ⟨b, off, none⟩)], ⟨b, off, ds, rfl, h⟩, rfl⟩
section
variable {F : Frm} {σ : AS} {pb : Option Nat} {s : Slot} {d : Option Tmp} {ty : TypeId} {p : String} {af : Array Edge} {gd : Option (Nat × Bool)} {x y z : Operand} {α : Type} {e : Enc α}
theorem Z.ptN (e : Enc α) : ∀ S w, (Enc.ptN e).ok none S w [.pointer none] := fun _ _ => rfl
theorem pst_ptN {v : α} {ρ S w u} (h : (Slot.pst e v).ok ρ S w u) : (Slot.v (Enc.ptN e) (some v)).ok ρ S w u := by
  simp only [Slot.ok] at h ⊢
  exact val_ptN_some.2 h
/-- a pointer, told as one that may be nil -/
theorem JO.ptOf {o : Oper} {v : α} {new : List (Nat × Ent)} (h : JO F o σ (.pst e v) new) : JO F o σ (.v (Enc.ptN e) (some v)) new := by
  intro ρ S a w K
  refine (h ρ S a w K).mono ?_
  rintro u w' ⟨ρ', h1, h2, h3, h4⟩
  exact ⟨ρ', h1, h2, pst_ptN h3, h4⟩
theorem JO.assignPtN (e : Enc α) : JO F ⟨d, .assign (.const (.pointer none)), ty, p, af, gd⟩ σ (.v (Enc.ptN e) none) [] := by
  intro ρ S a w K
  exact OpWp.value (w' := w) (v := .pointer none) (by simp [execOp, Act.eval]) (Res.same (by simp only [Slot.ok]; exact val_ptN_none.2 rfl))
theorem JO.nilPtN {v : Option α} {v' : α} (hv : v = some v') (hx : evS σ.g x = some (.v (Enc.ptN e) v)) : JO F ⟨d, .nilCheck x, ty, p, af, gd⟩ σ (.pst e v') [] := by
  subst hv
  intro ρ S a w K
  have h := K.slot x (by simp [Op.operands]) _ hx
  simp only [Slot.ok] at h
  obtain ⟨b, off, ds, h1, h2⟩ := val_ptN_some.1 h
  refine OpWp.value (w' := w) (v := a.eval x) ?_ (Res.same (by simp only [Slot.ok]; exact ⟨b, off, ds, h1, h2⟩))
  simp [execOp, h1]
end
end Go.Sw

namespace Go.Sw
open Go Go.RowKit
/-- a piece of a row of cells: elements, or so many cells whatever -/
inductive Seg (α : Type) where
  | rows (xs : List α)
  | any (n : Nat)
def Seg.ok {α : Type} (e : Enc α) (S : Nat → Prop) (w : World) : Seg α → List Value → Prop
  | .rows xs, cs => e.okL xs S w cs
  | .any n, cs => cs.length = n
def Seg.okL {α : Type} (e : Enc α) (S : Nat → Prop) (w : World) : List (Seg α) → List Value → Prop
  | [], cs => cs = []
  | s :: r, cs => ∃ c d, cs = c ++ d ∧ s.ok e S w c ∧ Seg.okL e S w r d
section
variable {α : Type} {e : Enc α} {S S' : Nat → Prop} {w w' : World}
theorem Seg.ok_mono {s : Seg α} {cs} (h : s.ok e S w cs) (k : Ext S S' w w') : s.ok e S' w' cs := by
  cases s with
  | rows xs => exact Enc.okL_mono h k
  | any n => exact h
theorem Seg.okL_mono : ∀ {q : List (Seg α)} {cs}, Seg.okL e S w q cs → Ext S S' w w' → Seg.okL e S' w' q cs
  | [], _, h, _ => h
  | _ :: _, _, ⟨c, d, h1, h2, h3⟩, k => ⟨c, d, h1, Seg.ok_mono h2 k, Seg.okL_mono h3 k⟩
end
/-- a block of ours, piece by piece -/
def DE.seg {α : Type} (T : TypeId) (e : Enc α) (b : Nat) : DE (List (Seg α)) where
  ok q S w u _ := u.v = .pointer (some ⟨b, 0, none⟩) ∧ ∃ cs, w.heap[b]? = some (.cells cs.toArray T (0, 0)) ∧ Seg.okL e S w q cs
  mono := by
    rintro q S S' w w' u l ⟨h1, cs, h2, h3⟩ hE hb
    exact ⟨h1, cs, by rw [hb b (.inl (by rw [h1]; rfl))]; exact h2, Seg.okL_mono h3 hE⟩
section
variable {F : Frm} {σ : AS} {pb : Option Nat} {s : Slot} {d : Option Tmp} {ty : TypeId} {p : String} {af : Array Edge} {gd : Option (Nat × Bool)} {x y z : Operand} {α : Type} {e : Enc α} {T U : TypeId} {i b : Nat}
/-! ### slices into such a row -/
theorem asl_val {ρ : Nat → LV} {S : Nat → Prop} {w : World} {o n c : Nat} {v : Value} (h : (Slot.asl i o 0 n c).ok ρ S w v) : ∃ b, (ρ i).v = .pointer (some ⟨b, 0, none⟩) ∧ v = .slice (some ⟨b, o, none⟩) n c := by
  simp only [Slot.ok] at h
  obtain ⟨⟨b, h1⟩, h2⟩ := h
  exact ⟨b, h1, by rw [h2, h1]; rfl⟩
/-! ### copies -/
end
end Go.Sw

namespace Go.Sw
open Go Go.RowKit
section
variable {F : Frm} {σ : AS} {pb : Option Nat} {s : Slot} {d : Option Tmp} {ty : TypeId} {p : String} {af : Array Edge} {gd : Option (Nat × Bool)} {x y z : Operand} {α : Type} {e : Enc α} {T U : TypeId} {i b : Nat}
theorem K_seg' {xs : Array Operand} {ρ : Nat → LV} {S a w} (K : Know σ xs ρ S a w) (hm : x ∈ xs) {o n c : Nat} {q : List (Seg α)} (hx : evS σ.g x = some (.asl i o 0 n c)) (he : lkE σ.d i = some (.dp (DE.seg T e b) q [])) :
    a.eval x = .slice (some ⟨b, o, none⟩) n c ∧ (∃ cs, w.heap[b]? = some (.cells cs.toArray T (0, 0)) ∧ Seg.okL e S w q cs) ∧ S b ∧ b < w.heap.size := by
  obtain ⟨b1, h1, h2⟩ := asl_val (K.slot x hm _ hx)
  obtain ⟨⟨k1, k2⟩, k3⟩ := K.ent x hm _ hx i (by simp [Slot.lab]) _ he
  rw [k1] at h1; cases h1
  exact ⟨h2, k2, k3 b (.inl (by rw [k1]; rfl))⟩
theorem Src.seg {pp q n c o : Nat} {A B : List α} (h : evS σ.g y = some (.asl i o 0 n c)) (he : lkE σ.d i = some (.dp (DE.seg T e b) [.any pp, .rows A, .rows B, .any q] [])) (ho : o = pp + A.length * e.n) (hn : n = B.length) (hsz : B.length ≤ 140737488355328) : Src σ y e B := by
  subst ho hn
  intro ρ S a w K
  obtain ⟨h1, ⟨cs, h2, pre, _, rfl, hpre, ca, _, rfl, k4, cb, _, rfl, k5, post, _, rfl, hpost, rfl⟩, _⟩ := K_seg' K (x := y) (by simp) h he
  have hpre : pre.length = pp := hpre
  have hal := Enc.okL_len k4
  refine ⟨hsz, _, c, h1, .inr ⟨b, _, cb, rfl, ?_, k5⟩⟩
  have h1 := MemAt.of_heap h2
  rw [← List.append_assoc] at h1
  have := MemAt.sub (a := pre ++ ca) (c := cb) (d := post ++ []) h1
  simpa [hpre, hal] using this
/-- elements put in at a place -/
def ins {α : Type} (xs : List α) (n : Int) (vs : List α) : Option (List α) := if 0 ≤ n ∧ n ≤ xs.length ∧ xs.length + vs.length ≤ 4294967296 then some (xs.take n.toNat ++ (vs ++ xs.drop n.toNat)) else none
end
end Go.Sw

namespace Go.Sw
open Go Go.RowKit
/-! ### where a key is -/
def kp {α : Type} [DecidableEq α] : List α → α → Option Nat
  | [], _ => none
  | a :: l, k => if a = k then some 0 else (kp l k).map (· + 1)
theorem kp_lt {α : Type} [DecidableEq α] {k : α} : ∀ {l : List α} {i : Nat}, kp l k = some i → i < l.length ∧ l[i]? = some k
  | [], i, h => by simp [kp] at h
  | a :: l, i, h => by
    simp only [kp] at h
    split at h
    · rename_i ha; cases h; simp [ha]
    · cases hr : kp l k with
      | none => rw [hr] at h; cases h
      | some j => rw [hr] at h; cases h; obtain ⟨h1, h2⟩ := kp_lt hr; exact ⟨by simp; omega, by simpa using h2⟩
theorem mget_kp {α β : Type} [DecidableEq α] {k : α} : ∀ {m : List (α × β)}, mget m k = (kp (m.map (·.1)) k).bind fun i => (m[i]?).map (·.2)
  | [] => rfl
  | (a, b) :: m => by
    simp only [mget, List.map_cons, kp]
    split
    · simp
    · rw [mget_kp (m := m)]; cases kp (m.map (·.1)) k <;> simp
/-- the keys of a map's entries -/
def KsL {α : Type} (e : Enc α) (S : Nat → Prop) (w : World) : List α → List MapEntry → Prop
  | [], [] => True
  | k :: ks, x :: xs => e.val k S w x.key ∧ KsL e S w ks xs
  | _, _ => False
theorem KsL.mono {α : Type} {e : Enc α} {S S' : Nat → Prop} {w w' : World} (k : Ext S S' w w') : ∀ {m : List α} {xs : List MapEntry}, KsL e S w m xs → KsL e S' w' m xs
  | [], [], _ => trivial
  | _ :: _, _ :: _, ⟨h1, h3⟩ => ⟨Enc.val_mono h1 k, KsL.mono k h3⟩
  | [], _ :: _, h => h.elim
  | _ :: _, [], h => h.elim
theorem KsL.len {α : Type} {e : Enc α} {S : Nat → Prop} {w : World} : ∀ {m : List α} {xs : List MapEntry}, KsL e S w m xs → xs.length = m.length
  | [], [], _ => rfl
  | _ :: _, _ :: _, ⟨_, h3⟩ => by simp [h3.len]
  | [], _ :: _, h => h.elim
  | _ :: _, [], h => h.elim
theorem KsL.get {α : Type} {e : Enc α} {S : Nat → Prop} {w : World} : ∀ {m : List α} {xs : List MapEntry}, KsL e S w m xs → ∀ {i : Nat} {k : α} {x : MapEntry}, m[i]? = some k → xs[i]? = some x → e.val k S w x.key
  | [], [], _, i, k, x, h, _ => by simp at h
  | _ :: _, _ :: _, ⟨h1, h3⟩, i, k, x, h, h' => by
    cases i with
    | zero => simp at h h'; subst h; subst h'; exact h1
    | succ i => exact h3.get (by simpa using h) (by simpa using h')
  | [], _ :: _, h, _, _, _, _, _ => h.elim
  | _ :: _, [], h, _, _, _, _, _ => h.elim
theorem KsL.push {α : Type} {e : Enc α} {S : Nat → Prop} {w : World} {k : α} {x : MapEntry} (h1 : e.val k S w x.key) : ∀ {m : List α} {xs : List MapEntry}, KsL e S w m xs → KsL e S w (m ++ [k]) (xs ++ [x])
  | [], [], _ => ⟨h1, trivial⟩
  | _ :: _, _ :: _, ⟨h3, h5⟩ => ⟨h3, KsL.push h1 h5⟩
  | [], _ :: _, h => h.elim
  | _ :: _, [], h => h.elim
theorem KsL.modify {α : Type} {e : Enc α} {S : Nat → Prop} {w : World} {f : MapEntry → MapEntry} : ∀ {m : List α} {xs : List MapEntry} {i : Nat}, KsL e S w m xs → (∀ k x, m[i]? = some k → xs[i]? = some x → e.val k S w (f x).key) → KsL e S w m (xs.modify i f)
  | [], [], i, _, _ => by simp [KsL]
  | _ :: _, _ :: _, i, ⟨h1, h3⟩, h => by
    cases i with
    | zero => exact ⟨h _ _ rfl rfl, h3⟩
    | succ i => exact ⟨h1, h3.modify fun k x hk hx => h k x (by simpa using hk) (by simpa using hx)⟩
  | [], _ :: _, _, h, _ => h.elim
  | _ :: _, [], _, h, _ => h.elim
theorem findAskP {α : Type} [DecidableEq α] {n : Nat} {P : Program} {T : TypeId} {e : Enc α} (hn : n ≤ 10000) (he : EqE n P T e) {S S' : Nat → Prop} {w1 w2 : World} {k : α} {cs : List Value} (hk : e.ok k S' w2 cs) (w : World) :
    ∀ (m : List α) (es : List MapEntry) (i : Nat), KsL e S w1 m es → (Instr.findAsking T (e.pk cs) es i).run P w = .ok ((kp m k).bind fun j => (es[j]?).map fun x => (i + j, x.val)) w
  | [], [], i, _ => by simp [Instr.findAsking, kp]
  | a :: m, x :: xs, i, ⟨⟨ds, h1, h1'⟩, h3⟩ => by
    obtain ⟨r, hr, hiff⟩ := he 10000 hn w S' S w2 w1 k a cs ds hk h1
    rw [← h1'] at hr
    have hr' : (Op.equal T (e.pk cs) x.key).run P w = .ok r w := hr
    cases r with
    | true =>
      have hka := hiff.1 rfl
      simp [Instr.findAsking, hr', kp, hka]
    | false =>
      have hka : ¬ a = k := fun h => by have := hiff.2 h.symm; cases this
      have := findAskP hn he hk w m xs (i + 1) h3
      simp only [Instr.findAsking, Sem.run_bind, hr', Result.andThen_ok, Bool.false_eq_true, if_false, this, kp, if_neg hka]
      cases kp m k with
      | none => rfl
      | some j => simp [Nat.add_assoc, Nat.add_comm 1 j]
  | [], _ :: _, _, h => h.elim
  | _ :: _, [], _, h => h.elim
theorem findKeyP {α : Type} [DecidableEq α] {n l : Nat} {E : TypeId} {P : Program} {T : TypeId} {e : Enc α} (hn : n ≤ 10000) (hT : ∀ w, (underlying T).run P w = .ok (.array l E) w) (he : EqE n P T e) {S S' : Nat → Prop} {w1 w2 : World} {k : α} {cs : List Value} (hk : e.ok k S' w2 cs) (w : World)
    (m : List α) (es : List MapEntry) (h : KsL e S w1 m es) : (Instr.findKey T (e.pk cs) es).run P w = .ok ((kp m k).bind fun j => (es[j]?).map fun x => (j, x.val)) w := by
  match m, es, h with
  | [], [], _ => simp [Instr.findKey, hT, Instr.findNow, kp]
  | q :: m, x :: xs, h =>
    have h1 := findAskP hn he hk w (q :: m) (x :: xs) 0 h
    simp only [Nat.zero_add] at h1
    simp only [Instr.findKey, Sem.run_bind, hT, Result.andThen_ok, Instr.findNow, Instr.sameNow, h1]
/-- keys that are told alike are the same, bit by bit -/
def SameE {α : Type} (e : Enc α) : Prop := ∀ (x : α) (S S' : Nat → Prop) (w w' : World) (v v' : Value), e.val x S w v → e.val x S' w' v' → Instr.sameBits 10000 v v' = true
theorem okL_int {k : IntKind} {S S' : Nat → Prop} {w w' : World} : ∀ {xs : List Int} {cs ds : List Value}, (Enc.int k).okL xs S w cs → (Enc.int k).okL xs S' w' ds → ds = cs ∧ ∀ c ∈ cs, ∃ n, c = .int k n
  | [], _, _, h, h' => by simp only [Enc.okL] at h h'; subst h; subst h'; exact ⟨rfl, by simp⟩
  | x :: xs, _, _, ⟨c, d, h1, h2, h3⟩, ⟨c', d', h1', h2', h3'⟩ => by
    obtain ⟨h4, h5⟩ := okL_int h3 h3'
    have e1 : c = [.int k x] := h2.1
    have e2 : c' = [.int k x] := h2'.1
    subst e1; subst e2; subst h4
    refine ⟨by rw [h1, h1'], ?_⟩
    rw [h1]; intro q hq
    rcases List.mem_append.1 hq with hq | hq
    · exact ⟨x, by simpa using hq⟩
    · exact h5 q hq
theorem SameE.arr {k : IntKind} {m : Nat} : SameE (Enc.arr m (Enc.int k)) := by
  rintro x S S' w w' v v' ⟨cs, h, rfl⟩ ⟨ds, h', rfl⟩
  obtain ⟨rfl, h2⟩ := okL_int h.2 h'.2
  have h3 : ∀ l : List Value, (∀ c ∈ l, ∃ n, c = .int k n) → (l.zip l).all (fun (x, y) => Instr.sameBits 9999 x y) = true := by
    intro l hl
    rw [List.all_eq_true]
    rintro ⟨a, b⟩ hab
    have : a = b := by
      clear hl h2
      induction l with
      | nil => simp at hab
      | cons y l ih =>
        rcases List.mem_cons.1 hab with h | h
        · simp only [Prod.mk.injEq] at h; rw [h.1, h.2]
        · exact ih h
    subst this
    obtain ⟨n, rfl⟩ := hl a (List.of_mem_zip hab).1
    simp [Instr.sameBits]
  have := h3 ds h2
  simp only [Enc.pk, Enc.arr, if_true]
  show Instr.sameBits (9999 + 1) _ _ = true
  simp only [Instr.sameBits, BEq.rfl, Bool.true_and]
  simpa using this

/-! ### maps of slices -/
structure MpsOk {α κ : Type} (fr : Bool) (ke : Enc κ) (T2 : TypeId) (e : Enc α) (m : List (κ × List α)) (o : Option Nat) (S : Nat → Prop) (w : World) (x : Nat → Prop) (b : Nat) (es : List MapEntry) (ck : Nat) : Prop where
  keys : KsL ke S w (m.map (·.1)) es
  rows : Rws T2 e (m.map (·.2)) o S w x (some b) (es.map (·.val))
  born : fr = true → ck = es.length ∧ ∀ (j : Nat) (q : MapEntry), es[j]? = some q → q.born = j
theorem MpsOk.mono {α κ : Type} {fr : Bool} {ke : Enc κ} {T2 : TypeId} {e : Enc α} {m : List (κ × List α)} {o : Option Nat} {S S' : Nat → Prop} {w w' : World} {x x' : Nat → Prop} {b : Nat} {es : List MapEntry} {ck : Nat}
    (h : MpsOk fr ke T2 e m o S w x b es ck) (hE : Ext S S' w w') (hx : ∀ b, x b → x' b) (hb : ∀ b, x b → w'.heap[b]? = w.heap[b]?) : MpsOk fr ke T2 e m o S' w' x' b es ck :=
  ⟨h.keys.mono hE, ⟨h.rows.len, fun j xs q ho h1 h2 => (h.rows.ok j xs q ho h1 h2).mono hE (fun b hb' => hb b (h.rows.own j q b ho h2 hb').1), fun j q k ho h1 h2 => ⟨hx _ (h.rows.own j q k ho h1 h2).1, (h.rows.own j q k ho h1 h2).2⟩, h.rows.inj⟩, h.born⟩
/-- a map of slices, all of them our own; one of them may be told by a label of its own -/
def DE.mps {α κ : Type} (fr : Bool) (ke : Enc κ) (T2 : TypeId) (e : Enc α) : DE (List (κ × List α) × Option Nat) where
  ok q S w u l := ∃ b es ck, u.v = .map (some b) ∧ w.heap[b]? = some (.map es ck) ∧ MpsOk fr ke T2 e q.1 q.2 S w u.x b es.toList ck ∧ ∀ j, q.2 = some j → (es.toList.map (·.val))[j]? = l.head?
  mono := by
    rintro q S S' w w' u l ⟨b, es, ck, h1, h2, h3, h4⟩ hE hb
    exact ⟨b, es, ck, h1, by rw [hb b (.inl (by rw [h1]; rfl))]; exact h2, h3.mono hE (fun _ h => h) (fun b' h => hb b' (.inr h)), h4⟩
/-- what mapEntry comes to: the map with an entry for the key, its place, its slice -/
def ment {κ α : Type} [DecidableEq κ] (m : List (κ × List α)) (k : κ) : Option (List (κ × List α) × Nat × List α) :=
  if m.length ≤ 140737488355328 then some (match kp (m.map (·.1)) k with | none => (m ++ [(k, [])], m.length, []) | some i => (m, i, ((m[i]?).map (·.2)).getD [])) else none
def mset {κ β : Type} (m : List (κ × β)) (i : Nat) (v : β) : List (κ × β) := m.modify i fun p => (p.1, v)
theorem mset_fst {κ β : Type} {m : List (κ × β)} {i : Nat} {v : β} : (mset m i v).map (·.1) = m.map (·.1) := by
  apply List.ext_getElem?; intro j
  simp only [mset, List.getElem?_map, List.getElem?_modify]
  cases m[j]? <;> simp; split <;> rfl
theorem mset_snd {κ β : Type} {m : List (κ × β)} {i : Nat} {v : β} : (mset m i v).map (·.2) = (m.map (·.2)).set i v := by
  apply List.ext_getElem?; intro j
  simp only [mset, List.getElem?_map, List.getElem?_modify, List.getElem?_set, List.length_map]
  by_cases hj : j < m.length
  · rw [List.getElem?_eq_getElem hj]; by_cases hi : i = j <;> simp [hi, hj]
  · rw [List.getElem?_eq_none (by omega)]; by_cases hi : i = j <;> simp [hi]; omega
/-- a map that nobody writes -/
def Enc.mpF {κ β : Type} (ke : Enc κ) (f : Enc β) : Enc (List (κ × β)) where
  n := 1
  agg := false
  ok m S w cs := (m = [] ∧ cs = [.map none]) ∨ ∃ b es ck, cs = [.map (some b)] ∧ b < w.heap.size ∧ ¬ S b ∧ w.heap[b]? = some (.map es ck) ∧ MpL ke f S w m es.toList
  len h := by rcases h with ⟨_, h⟩ | ⟨b, es, ck, h, _⟩ <;> rw [h] <;> rfl
  one _ := rfl
  cell h c hc := by rcases h with ⟨_, h⟩ | ⟨b, es, ck, h, _⟩ <;> rw [h] at hc <;> simp at hc <;> subst hc <;> rfl
  mono h k := by
    rcases h with ⟨h, h'⟩ | ⟨b, es, ck, h1, h2, h3, h4, h5⟩
    · exact .inl ⟨h, h'⟩
    · exact .inr ⟨b, es, ck, h1, Nat.lt_of_lt_of_le h2 k.size, (k.keep b h2 h3).2, by rw [(k.keep b h2 h3).1]; exact h4, MpL_mono k h5⟩
theorem Z.mpF {κ β : Type} (ke : Enc κ) (f : Enc β) : ∀ S w, (Enc.mpF ke f).ok [] S w [.map none] := fun _ _ => .inl ⟨rfl, rfl⟩
section
variable {F : Frm} {σ : AS} {d : Option Tmp} {ty : TypeId} {p : String} {af : Array Edge} {gd : Option (Nat × Bool)} {x y z : Operand} {κ α : Type} {ke : Enc κ} {e : Enc α} {T2 : TypeId} {m : List (κ × List α)} {i j : Nat}
theorem Frz.mps {fr : Bool} : Frz (DE.mps fr ke T2 e) (m, none) (Enc.mpF ke (Enc.sl e)) m := by
  rintro S S' w u ⟨b, es, ck, h1, h2, ⟨h3, h4, _⟩, _⟩ hE hb
  have key : ∀ (ml : List (κ × List α)) (el : List MapEntry), KsL ke S w (ml.map (·.1)) el → (∀ (j : Nat) (ys : List α) (v : Value), (ml.map (·.2))[j]? = some ys → (el.map (·.val))[j]? = some v → arrOk T2 e ys S w v ∧ ∀ b, blk v = some b → u.x b) → MpL ke (Enc.sl e) S' w ml el := by
    intro ml
    induction ml with
    | nil => intro el hk _; cases el with
      | nil => trivial
      | cons q el => exact hk.elim
    | cons q ml ih =>
      intro el hk h
      cases el with
      | nil => exact hk.elim
      | cons v el =>
        obtain ⟨k1, k2⟩ := h 0 q.2 v.val rfl rfl
        obtain ⟨hk1, hk2⟩ := hk
        obtain ⟨q1, q2⟩ := q
        obtain ⟨ad, c, hs⟩ := k1.slice
        refine ⟨Enc.val_mono hk1 hE, ⟨[v.val], arr_sl (ρ := fun _ => .of undef) (u := .of v.val) (T := T2) k1 hE fun b hb' => hb b (.inr (k2 b (Has_of.1 hb'))), by simp [Enc.pk, Enc.sl]⟩, ih el hk2 fun j ys' v' hj hv => h (j + 1) ys' v' (by simpa using hj) (by simpa using hv)⟩
  have hk := key m es.toList h3 fun j ys v hx hv => ⟨h4.ok j ys v (by simp) hx hv, fun b hb' => (h4.own j v b (by simp) hv hb').1⟩
  have hlt : b < w.heap.size := by
    rcases Nat.lt_or_ge b w.heap.size with h | h
    · exact h
    · rw [Array.getElem?_eq_none h] at h2; cases h2
  refine ⟨.inr ⟨b, es, ck, by rw [h1], hlt, hb b (.inl (by rw [h1]; rfl)), h2, hk⟩, by rw [h1]; rfl⟩
theorem JO.makeMapS {T : TypeId} (i : Nat) (ke : Enc κ) (T2 : TypeId) (e : Enc α) : JO F ⟨d, .makeMap T none, ty, p, af, gd⟩ σ (.ref i) [(i, .dp (DE.mps true ke T2 e) ([], none) [])] := by
  intro ρ S a w K
  refine OpWp.value (w' := w.alloc (.map #[] 0)) (v := .map (some w.heap.size)) (by simp [execOp, Instr.makeMap]) ?_
  refine Res.new1 (.map (some w.heap.size)) (below_alloc _ _) rfl ?_ ?_ ?_
  · intro b hb; simp [blk] at hb; subst hb; exact ⟨Nat.le_refl _, by simp⟩
  · intro S' ρ' h _
    exact ⟨_, #[], 0, rfl, heap_alloc_new _ _, ⟨trivial, ⟨rfl, fun j xs q _ h1 => by simp at h1, fun j q k _ h1 => by simp at h1, fun j j' q q' k _ _ h1 => by simp at h1⟩, fun _ => ⟨rfl, fun j q h => by simp at h⟩⟩, fun j h => by cases h⟩
  · intro S' ρ' _ hi _
    simp only [Slot.ok]; exact ⟨by rw [hi]; exact .inr ⟨_, rfl⟩, hi.symm⟩
theorem JO.lookupF {β : Type} [DecidableEq κ] {n n' l : Nat} {M KT VT E : TypeId} {f : Enc β} {m : List (κ × β)} {k : κ} {u : β} {zv : Value} (hx : evS σ.g x = some (.v (Enc.mpF ke f) m)) (hy : evS σ.g y = some (.v ke k))
    (hM : ∀ w, (underlying M).run F.P w = .ok (.map KT VT) w) (hT : ∀ w, (underlying KT).run F.P w = .ok (.array l E) w) (he : EqE n F.P KT ke) (hn : Nat.ble n 10000 = true) (hk : KeyE n' F.P KT ke) (hn' : Nat.ble n' 10000 = true)
    (hz : ∀ w, (zeroValue VT).run F.P w = .ok zv w) (hzv : ∀ S w, f.val u S w zv) : JO F ⟨d, .lookup M x y false, ty, p, af, gd⟩ σ (.v f ((mget m k).getD u)) [] := by
  intro ρ S a w K
  have h1 := K.slot x (by simp [Op.operands]) _ hx
  have h6 := K.slot y (by simp [Op.operands]) _ hy
  simp only [Slot.ok] at h1 h6
  obtain ⟨cs, h6, h7⟩ := h6
  obtain ⟨ds, h1, h1'⟩ := h1
  rcases h1 with ⟨rfl, rfl⟩ | ⟨b, es, ck, rfl, _, _, h4, h5⟩
  · have hc := hk 10000 (Nat.le_of_ble_eq_true hn') true w S w k cs h6
    refine OpWp.value (w' := w) (v := zv) ?_ (Res.same (by simp only [Slot.ok]; exact hzv _ _))
    have h8 : a.eval x = .map none := h1'
    simp [execOp, h8, h7, Instr.lookup, hM, hc, hz, Instr.findKey, hT, Instr.findNow]
  · have h8 : a.eval x = .map (some b) := h1'
    obtain ⟨r, h9, h10, h11⟩ := findKey_e (Nat.le_of_ble_eq_true hn) hT he h6 w m es.toList h5
    have hc := hk 10000 (Nat.le_of_ble_eq_true hn') es.isEmpty w S w k cs h6
    have hg := MapKept.run_getObj_map (P := F.P) h4
    cases hm : mget m k with
    | none =>
      have := h10 hm
      subst this
      refine OpWp.value (w' := w) (v := zv) ?_ (Res.same (by simp only [Slot.ok]; exact hzv _ _))
      simp [execOp, h8, h7, Instr.lookup, hM, hg, hc, h9, hz]
    | some b' =>
      obtain ⟨j, v, rfl, hv⟩ := h11 b' hm
      refine OpWp.value (w' := w) (v := v) ?_ (Res.same (by simp only [Slot.ok]; exact hv))
      simp [execOp, h8, h7, Instr.lookup, hM, hg, hc, h9]

/-- an entry is found or made; its slice is told by a label of its own -/
theorem JM.mapEntry [DecidableEq κ] {n n' l : Nat} {M KT VT E : TypeId} {k : κ} {r : List (κ × List α) × Nat × List α} (j : Nat) (hm : ment m k = some r) (hx : evS σ.g x = some (.ref i)) (hd : lkE σ.d i = some (.dp (DE.mps true ke T2 e) (m, none) [])) (hy : evS σ.g y = some (.v ke k))
    (hM : ∀ w, (underlying M).run F.P w = .ok (.map KT VT) w) (hT : ∀ w, (underlying KT).run F.P w = .ok (.array l E) w) (he : EqE n F.P KT ke) (hn : Nat.ble n 10000 = true) (hk : KeyE n' F.P KT ke) (hn' : Nat.ble n' 10000 = true) (hsame : SameE ke)
    (hz : ∀ w, (zeroValue VT).run F.P w = .ok (.slice none 0 0) w) (hf : σ.free [(j, .arr T2 e r.2.2)] = true) (hdst : dstOk d F.N = true) :
    JM F ⟨d, .mapEntry M x y, ty, p, af, gd⟩ σ ⟨gput d (.tup [.ref j, .v (Enc.int .i64) (r.2.1 : Int)]) σ.g, (j, .arr T2 e r.2.2) :: (i, .dp (DE.mps true ke T2 e) (r.1, some r.2.1) [j]) :: σ.d⟩ := by
  rintro a w ⟨⟨ρ, hc, hs⟩, hsz, hde⟩
  have K := Know.of_st hc hs (Op.mapEntry M x y).operands
  obtain ⟨h1, ⟨b, es, ck, h3, h4, h5, _⟩, _⟩ := K_ref K (x := x) (by simp [Op.operands]) hx hd
  have h6 := K.slot y (by simp [Op.operands]) _ hy
  simp only [Slot.ok] at h6
  have hv6 := h6
  obtain ⟨cs, h6, h7⟩ := h6
  have h8 := findKeyP (Nat.le_of_ble_eq_true hn) hT he h6 w (m.map (·.1)) es.toList h5.keys
  have hcq := hk 10000 (Nat.le_of_ble_eq_true hn') false w _ w k cs h6
  have hg := MapKept.run_getObj_map (P := F.P) h4
  have hso := fun o => MapKept.run_setObj_map (P := F.P) o h4
  have hfr := AS.free_spec hf (i := j) (en := .arr T2 e r.2.2) (by simp [lkE])
  have hij : j ≠ i := fun e => by subst e; rw [hfr.2.1] at hd; cases hd
  obtain ⟨hck, hborn⟩ := h5.born rfl
  have hlen : es.toList.length = m.length := by simpa using h5.keys.len
  unfold ment at hm
  split at hm
  case isFalse => cases hm
  rename_i hbig
  have hm := Option.some.inj hm
  -- what the entries are then, and what the slice is
  obtain ⟨es', ck', v, hrun, hz2, hkeys, hlen', hvv, hoth, hbo⟩ : ∃ (es' : Array MapEntry) (ck' : Nat) (v : Value), (execOp a.eval ⟨d, .mapEntry M x y, ty, p, af, gd⟩).run F.P w = .ok (.value (.tuple #[v, .int .i64 (r.2.1 : Int)])) { w with heap := w.heap.setIfInBounds b (.map es' ck') } ∧
      (∃ a c, v = .slice a r.2.2.length c) ∧ (∀ S' w', Ext (Un F.S0 ρ σ.d) S' w w' → KsL ke S' w' (r.1.map (·.1)) es'.toList) ∧ es'.toList.length = r.1.length ∧ (es'.toList.map (·.val))[r.2.1]? = some v ∧
      ((v = .slice none 0 0 ∧ r.2.2 = [] ∧ (∀ q, q ≠ r.2.1 → r.1[q]? = m[q]? ∧ (es'.toList.map (·.val))[q]? = (es.toList.map (·.val))[q]?)) ∨ (m[r.2.1]?.map (·.2) = some r.2.2 ∧ r.1 = m ∧ es'.toList.map (·.val) = es.toList.map (·.val))) ∧
      (ck' = es'.toList.length ∧ ∀ (j : Nat) (q : MapEntry), es'.toList[j]? = some q → q.born = j) := by
    cases hkp : kp (m.map (·.1)) k with
    | none =>
      rw [hkp] at hm h8
      simp only [Option.bind_none] at h8
      simp only at hm
      subst hm
      refine ⟨es.push { key := a.eval y, val := .slice none 0 0, born := ck }, ck + 1, .slice none 0 0, ?_, ⟨none, 0, rfl⟩, ?_, ?_, ?_, .inl ⟨rfl, rfl, fun q hq => ?_⟩, ?_, ?_⟩
      · have : ck = m.length := by rw [hck, hlen]
        simp [execOp, h1, h3, h7, Instr.mapEntry, hM, hg, hcq, h8, hso, hz, goInt, this]
      · intro S' w' hE
        rw [Array.toList_push, List.map_append]
        exact (h5.keys.mono hE).push (Enc.val_mono hv6 hE)
      · simp [hlen]
      · simp [← hlen]
      · rw [Array.toList_push, List.map_append]
        have hq' : q ≠ m.length := hq
        rcases Nat.lt_or_ge q m.length with h | h
        · rw [List.getElem?_append_left h, List.getElem?_append_left (by simpa [hlen] using h)]; exact ⟨rfl, rfl⟩
        · rw [List.getElem?_eq_none (by simp; omega), List.getElem?_eq_none (by omega), List.getElem?_eq_none (by simp at hlen ⊢; omega), List.getElem?_eq_none (by simp at hlen ⊢; omega)]; exact ⟨rfl, rfl⟩
      · simp [hck]
      · intro q x hq
        rw [Array.toList_push] at hq
        rcases Nat.lt_or_ge q es.toList.length with h | h
        · rw [List.getElem?_append_left h] at hq; exact hborn q x hq
        · rw [List.getElem?_append_right h] at hq
          have h0 : q - es.toList.length = 0 := by
            rcases Nat.eq_zero_or_pos (q - es.toList.length) with h | h
            · exact h
            · rw [List.getElem?_eq_none (by simp at h ⊢; omega)] at hq; cases hq
          rw [h0] at hq; simp at hq; subst hq
          show ck = q
          omega
    | some q =>
      rw [hkp] at hm h8
      simp only at hm
      subst hm
      obtain ⟨k1, k2⟩ := kp_lt hkp
      have k1' : q < m.length := by simpa using k1
      have k3 : q < es.toList.length := by omega
      have k3' : q < es.size := by simpa using k3
      have k5 : es.toList[q]? = some es[q] := by simp [k3']
      simp only [Option.bind_some, k5, Option.map_some] at h8
      have k6 : es[q]? = some es[q] := Array.getElem?_eq_getElem k3'
      have hkey : ke.val k (Un F.S0 ρ σ.d) w es[q].key := h5.keys.get k2 k5
      have hsb := hsame k _ _ _ _ _ _ hkey hv6
      have hst : (Instr.keyThatStays es[q].key (a.eval y)).run F.P w = .ok (a.eval y) w := by simp [Instr.keyThatStays, hsb]
      have hbq := hborn q _ k5
      have harr := h5.rows.ok q (m[q].2) es[q].val (by simp) (by simp [k1']) (by simp [k3'])
      have hmq : m[q]? = some m[q] := List.getElem?_eq_getElem k1'
      refine ⟨es.modify q fun e => { e with key := a.eval y }, ck, es[q].val, ?_, ?_, ?_, ?_, ?_, .inr ⟨?_, rfl, ?_⟩, ?_, ?_⟩
      · simp [execOp, h1, h3, h7, Instr.mapEntry, hM, hg, hcq, h8, hso, goInt, k6, hbq]
        rw [← h7, hst]
        simp [hso]
      · simp only [hmq, Option.map_some, Option.getD_some]; exact harr.slice
      · intro S' w' hE
        rw [Array.toList_modify]
        exact (h5.keys.mono hE).modify fun k' x hk' hx' => by
          rw [k2] at hk'; cases hk'; exact Enc.val_mono hv6 hE
      · simpa using hlen
      · rw [Array.toList_modify, List.getElem?_map, List.getElem?_modify, k5]; simp
      · simp [hmq]
      · rw [Array.toList_modify]
        apply List.ext_getElem?; intro q'
        simp only [List.getElem?_map, List.getElem?_modify]
        cases es.toList[q']? <;> simp; split <;> rfl
      · simpa using hck
      · intro q' x' hq'
        rw [Array.toList_modify, List.getElem?_modify] at hq'
        cases hx' : es.toList[q']? with
        | none => rw [hx'] at hq'; cases hq'
        | some y' =>
          rw [hx'] at hq'
          have := hborn q' y' hx'
          simp only [Option.map_eq_map, Option.map_some, Option.some.injEq] at hq'
          subst hq'; split <;> exact this
  obtain ⟨av, cv, hsl⟩ := hz2
  have hpos : r.2.1 < r.1.length := by
    rw [← hlen']
    rcases Nat.lt_or_ge r.2.1 es'.toList.length with h | h
    · exact h
    · rw [List.getElem?_eq_none (by simpa using h)] at hvv; cases hvv
  have hi64 : inK .i64 (r.2.1 : Int) := by
    have : r.1.length ≤ m.length + 1 := by
      rcases hoth with ⟨_, _, h⟩ | ⟨_, h, _⟩
      · rcases Nat.lt_or_ge (m.length + 1) r.1.length with h9 | h9
        · have h10 := (h (m.length) )
          have h11 := (h (m.length + 1))
          by_cases h12 : m.length = r.2.1
          · have := (h11 (by omega)).1
            rw [List.getElem?_eq_getElem h9, List.getElem?_eq_none (by omega)] at this; cases this
          · have := (h10 h12).1
            rw [List.getElem?_eq_getElem (by omega), List.getElem?_eq_none (by omega)] at this; cases this
        · exact h9
      · rw [h]; omega
    exact len_in (n := r.2.1) (by omega)
  have hset := MapKept.heap_set (o' := .map es' ck') h4
  have hch : Chg (some b) w { w with heap := w.heap.setIfInBounds b (.map es' ck') } := ⟨by simp, fun k _ hk => hset.2 k (fun e => hk (by rw [e])), rfl, rfl, rfl⟩
  refine OpWp.value hrun ?_
  -- the slice's block is the map's
  have hown : ∀ c, blk v = some c → (ρ i).x c ∧ c ≠ b := by
    intro c hb
    rcases hoth with ⟨rfl, _⟩ | ⟨_, _, h⟩
    · simp [blk] at hb
    · rw [h] at hvv
      obtain ⟨k1, k2⟩ := h5.rows.own _ v c (by simp) hvv hb
      exact ⟨k1, fun e => k2 (by rw [e])⟩
  let ρ' : Nat → LV := fun l => if l = j then .of v else if l = i then ⟨(ρ i).v, fun b => (ρ i).x b ∧ blk v ≠ some b⟩ else ρ l
  have rj : ρ' j = .of v := if_pos rfl
  have ri : ρ' i = ⟨(ρ i).v, fun b => (ρ i).x b ∧ blk v ≠ some b⟩ := by show (if i = j then _ else _) = _; rw [if_neg (Ne.symm hij), if_pos rfl]
  have ro : ∀ l, l ≠ j → l ≠ i → ρ' l = ρ l := fun l h1 h2 => by show (if l = j then _ else _) = _; rw [if_neg h1, if_neg h2]
  have rv : ∀ l, l ≠ j → (ρ' l).v = (ρ l).v := fun l h1 => by
    by_cases h2 : l = i
    · subst h2; rw [ri]
    · rw [ro l h1 h2]
  have hl : ∀ l en, lkE ((j, .arr T2 e r.2.2) :: (i, .dp (DE.mps true ke T2 e) (r.1, some r.2.1) [j]) :: σ.d) l = some en → (l = j ∧ en = .arr T2 e r.2.2) ∨ (l = i ∧ en = .dp (DE.mps true ke T2 e) (r.1, some r.2.1) [j]) ∨ (l ≠ j ∧ l ≠ i ∧ lkE σ.d l = some en) := by
    intro l en h
    rcases lkE_new h with h | ⟨h0, h⟩
    · exact .inl h
    · rcases lkE_new h with h | ⟨h5, h⟩
      · exact .inr (.inl h)
      · exact .inr (.inr ⟨h0, h5, h⟩)
  have hsub : ∀ l en b, lkE ((j, .arr T2 e r.2.2) :: (i, .dp (DE.mps true ke T2 e) (r.1, some r.2.1) [j]) :: σ.d) l = some en → Has (ρ' l) b → ∃ l0 en0, lkE σ.d l0 = some en0 ∧ Has (ρ l0) b := by
    intro l en b h hb
    rcases hl l en h with ⟨rfl, rfl⟩ | ⟨rfl, rfl⟩ | ⟨h5, h6, h7⟩
    · rw [rj, Has_of] at hb; exact ⟨i, _, hd, .inr (hown b hb).1⟩
    · rw [ri, Has_mk] at hb
      exact ⟨l, _, hd, hb.imp id And.left⟩
    · rw [ro l h5 h6] at hb; exact ⟨l, en, h7, hb⟩
  have hib : blk (ρ i).v = some b := by rw [h3]; rfl
  have hji : ∀ b, Has (ρ' j) b → Has (ρ' i) b → False := by
    intro b' hb hb'
    rw [rj, Has_of] at hb; rw [ri, Has_mk] at hb'
    rcases hb' with hb' | hb'
    · rw [hib] at hb'; exact (hown b' hb).2 (Option.some.inj hb').symm
    · exact hb'.2 hb
  have hothers : ∀ l en b, l ≠ i → lkE σ.d l = some en → Has (ρ l) b → ¬ Has (ρ' j) b ∧ ¬ Has (ρ' i) b := by
    intro l en b hli hlk hb
    refine ⟨fun h => ?_, fun h => ?_⟩
    · rw [rj, Has_of] at h; exact hli (hc.inj l i en _ b hlk hd hb (.inr (hown b h).1))
    · rw [ri, Has_mk] at h; exact hli (hc.inj l i en _ b hlk hd hb (h.imp id And.left))
  obtain ⟨q1, q2⟩ := hc.step hch (fun c hb => ⟨i, _, hd, .inl (by rw [hib]; exact hb)⟩) (d' := (j, .arr T2 e r.2.2) :: (i, .dp (DE.mps true ke T2 e) (r.1, some r.2.1) [j]) :: σ.d) (ρ' := ρ') (fun l en b h hb => .inr (hsub l en b h hb)) (by
    intro l l' en en' b h h' hb hb'
    rcases hl l en h with ⟨rfl, rfl⟩ | ⟨rfl, rfl⟩ | ⟨g5, g6, g7⟩ <;> rcases hl l' en' h' with ⟨rfl, rfl⟩ | ⟨rfl, rfl⟩ | ⟨g5', g6', g7'⟩
    · rfl
    · exact (hji b hb hb').elim
    · rw [ro l' g5' g6'] at hb'; exact ((hothers l' en' b g6' g7' hb').1 hb).elim
    · exact (hji b hb' hb).elim
    · rfl
    · rw [ro l' g5' g6'] at hb'; exact ((hothers l' en' b g6' g7' hb').2 hb).elim
    · rw [ro l g5 g6] at hb; exact ((hothers l en b g6 g7 hb).1 hb').elim
    · rw [ro l g5 g6] at hb; exact ((hothers l en b g6 g7 hb).2 hb').elim
    · rw [ro l g5 g6] at hb; rw [ro l' g5' g6'] at hb'; exact hc.inj l l' en en' b g7 g7' hb hb') (by
    intro hE l en h
    have hsame : ∀ c, c ≠ b → (w.heap.setIfInBounds b (.map es' ck'))[c]? = w.heap[c]? := hset.2
    rcases hl l en h with ⟨rfl, rfl⟩ | ⟨rfl, rfl⟩ | ⟨h5', h6', h7'⟩
    · rw [rj]
      show arrOk T2 e r.2.2 _ _ v
      rcases hoth with ⟨h9, h10, _⟩ | ⟨h9, _, h11⟩
      · exact .inl ⟨h10, h9⟩
      · rw [h11] at hvv
        refine (h5.rows.ok r.2.1 r.2.2 v (by simp) (by simpa using h9) hvv).mono hE (fun c hb => hsame c (hown c hb).2)
    · rw [ri]
      refine ⟨b, es', ck', h3, hset.1, ⟨hkeys _ _ hE, ⟨by simp [hlen'], ?_, ?_, ?_⟩, fun _ => hbo⟩, fun q hq => ?_⟩
      · intro q xs vq ho hx' hq
        have ho' : q ≠ r.2.1 := fun e => ho (by rw [e])
        have : (m.map (·.2))[q]? = some xs ∧ (es.toList.map (·.val))[q]? = some vq := by
          rcases hoth with ⟨_, _, h9⟩ | ⟨_, h9, h10⟩
          · obtain ⟨h10, h11⟩ := h9 q ho'
            rw [h11] at hq
            rw [List.getElem?_map, h10, ← List.getElem?_map] at hx'
            exact ⟨hx', hq⟩
          · rw [h9] at hx'; rw [h10] at hq; exact ⟨hx', hq⟩
        exact (h5.rows.ok q xs vq (by simp) this.1 this.2).mono hE (fun c hb => hsame c fun e => by
          have := (h5.rows.own q vq c (by simp) this.2 hb).2; exact this (by rw [e]))
      · intro q vq c ho hq hb
        have ho' : q ≠ r.2.1 := fun e => ho (by rw [e])
        have hq' : (es.toList.map (·.val))[q]? = some vq := by
          rcases hoth with ⟨_, _, h9⟩ | ⟨_, h9, h10⟩
          · rw [← (h9 q ho').2]; exact hq
          · rw [← h10]; exact hq
        obtain ⟨k1, k2⟩ := h5.rows.own q vq c (by simp) hq' hb
        refine ⟨⟨k1, fun hcb => ?_⟩, k2⟩
        rcases hoth with ⟨h9, _⟩ | ⟨_, h9, h10⟩
        · rw [h9] at hcb; simp [blk] at hcb
        · rw [h10] at hvv; exact ho' (h5.rows.inj q r.2.1 vq v c (by simp) (by simp) hq' hvv hb hcb)
      · intro q q' vq vq' c ho ho2 hq hq2 hb hb2
        have ho' : q ≠ r.2.1 := fun e => ho (by rw [e])
        have ho2' : q' ≠ r.2.1 := fun e => ho2 (by rw [e])
        rcases hoth with ⟨_, _, h9⟩ | ⟨_, h9, h10⟩
        · rw [(h9 q ho').2] at hq; rw [(h9 q' ho2').2] at hq2
          exact h5.rows.inj q q' vq vq' c (by simp) (by simp) hq hq2 hb hb2
        · rw [h10] at hq hq2; exact h5.rows.inj q q' vq vq' c (by simp) (by simp) hq hq2 hb hb2
      · have : q = r.2.1 := by simpa using hq.symm
        subst this
        simp only [List.map_cons, List.map_nil, List.head?_cons, rj]; exact hvv
    · rw [ro l h5' h6']
      exact Ent.ok_mono (hc.own l en h7') hE (fun q hq => rv q fun e' => by subst e'; exact hfr.2.2 l en h7' hq) (fun c hb => hsame c fun e => h6' (hc.inj l i en _ c h7' hd hb (.inl (by rw [hib, e])))))
  refine ⟨⟨ρ', q1, fun t s' ht => ?_⟩, by rw [Act.size_put, hsz], by cases d <;> exact hde⟩
  have hold : ∀ t s, lk σ.g t = some s → s.ok ρ' (Un F.S0 ρ' ((j, .arr T2 e r.2.2) :: (i, .dp (DE.mps true ke T2 e) (r.1, some r.2.1) [j]) :: σ.d)) _ (a.tmps.getD t undef) := fun t s ht =>
    Slot.ok_mono s _ (hs t s ht) q2 (fun q hq => rv q fun e' => hfr.1 t s ht (e' ▸ hq))
  cases d with
  | none => exact hold t s' ht
  | some q =>
    simp only [gput] at ht
    have hlt : q < a.tmps.size := by rw [hsz]; exact Nat.le_of_ble_eq_true hdst
    rw [Act.getD_put a q _ t hlt]
    rw [lk_cons] at ht
    split at ht
    · rename_i h5; cases ht; rw [if_pos h5]
      simp only [Slot.ok]
      refine ⟨[v, .int .i64 (r.2.1 : Int)], rfl, v, [.int .i64 (r.2.1 : Int)], rfl, ?_, _, [], rfl, ?_, rfl⟩
      · simp only [Slot.ok]; exact ⟨by rw [rj]; exact .inl ⟨_, _, _, hsl⟩, by rw [rj]; rfl⟩
      · simp only [Slot.ok]; exact val_int.2 ⟨rfl, hi64⟩
    · rename_i h5; rw [if_neg h5]; exact hold t s' ht

theorem ment_lt [DecidableEq κ] {k : κ} {r : List (κ × List α) × Nat × List α} (h : ment m k = some r) : r.2.1 < r.1.length := by
  unfold ment at h
  split at h
  · have h := Option.some.inj h
    cases hk : kp (m.map (·.1)) k with
    | none => rw [hk] at h; subst h; simp
    | some q => rw [hk] at h; subst h; have := (kp_lt hk).1; simpa using this
  · cases h
/-- a slice of our own takes the place of the one that was told by a label -/
theorem JM.entryStore {M : TypeId} {ys : List α} {q : Nat} {ls : List Nat} (hq : q < m.length) (hx : evS σ.g x = some (.ref i)) (hd : lkE σ.d i = some (.dp (DE.mps true ke T2 e) (m, some q) ls)) (hy : evS σ.g y = some (.v (Enc.int .i64) (q : Int))) (hz : evS σ.g z = some (.ref j)) (hj : lkE σ.d j = some (.arr T2 e ys)) (hne : Nat.beq i j = false) :
    JM F ⟨none, .entryStore M x y z, ty, p, af, gd⟩ σ ⟨σ.g, (i, .dp (DE.mps true ke T2 e) (mset m q ys, none) []) :: delE σ.d j⟩ := by
  have hij : i ≠ j := fun e => by subst e; simp at hne
  rintro a w ⟨⟨ρ, hc, hs⟩, hsz, hde⟩
  have K := Know.of_st hc hs (Op.entryStore M x y z).operands
  obtain ⟨h1, ⟨b, es, ck, h3, h4, h5, _⟩, _⟩ := K_ref K (x := x) (by simp [Op.operands]) hx hd
  have h6 := (K_int K (x := y) (by simp [Op.operands]) hy).1
  obtain ⟨h7, harr, _⟩ := K_ref K (x := z) (by simp [Op.operands]) hz hj
  have harr : arrOk T2 e ys (Un F.S0 ρ σ.d) w (ρ j).v := harr
  obtain ⟨hck, hborn⟩ := h5.born rfl
  have hlen : es.toList.length = m.length := by simpa using h5.keys.len
  have hqs : q < es.size := by have : es.toList.length = es.size := by simp
                               omega
  have hg := MapKept.run_getObj_map (P := F.P) h4
  have hso := fun o => MapKept.run_setObj_map (P := F.P) o h4
  have hbq : ∀ (j : Nat) (h : j < es.size), es[j].born = j := fun j h => hborn j _ (by simp [h])
  have hfi : es.findIdx? (fun e => (e.born : Int) == (q : Int)) = some q := by
    rw [Array.findIdx?_eq_some_iff_getElem]
    exact ⟨hqs, by simp [hbq q hqs], fun j hj => by simp [hbq j (by omega)]; omega⟩
  obtain ⟨es', hes'⟩ : ∃ es', es' = es.modify q fun e => { e with val := (ρ j).v } := ⟨_, rfl⟩
  have hrun : (execOp a.eval ⟨none, .entryStore M x y z, ty, p, af, gd⟩).run F.P w = .ok .skip { w with heap := w.heap.setIfInBounds b (.map es' ck) } := by
    simp only [execOp, h1, h3, h6, h7, Instr.entryStore, Sem.run_bind, hg, Result.andThen_ok, asInt, asIntOf, Sem.run_pure, hfi, hso, hes']
  have hvals : es'.toList.map (·.val) = (es.toList.map (·.val)).set q (ρ j).v := by
    rw [hes', Array.toList_modify]
    apply List.ext_getElem?; intro q'
    simp only [List.getElem?_map, List.getElem?_modify, List.getElem?_set, List.length_map]
    by_cases hq' : q' < es.toList.length
    · rw [List.getElem?_eq_getElem hq']; by_cases hi : q = q' <;> simp [hi]; omega
    · rw [List.getElem?_eq_none (by omega)]; by_cases hi : q = q' <;> simp [hi]; simp at hq'; omega
  have hkeys : ∀ S' w', KsL ke S' w' (m.map (·.1)) es.toList → KsL ke S' w' (m.map (·.1)) es'.toList := by
    intro S' w' h
    rw [hes', Array.toList_modify]
    refine KsL.modify h fun k x hk hx' => ?_
    have := h.get hk hx'
    exact this
  have hset := MapKept.heap_set (o' := .map es' ck) h4
  have hch : Chg (some b) w { w with heap := w.heap.setIfInBounds b (.map es' ck) } := ⟨by simp, fun k _ hk => hset.2 k (fun e => hk (by rw [e])), rfl, rfl, rfl⟩
  have hib : blk (ρ i).v = some b := by rw [h3]; rfl
  have hjb : ∀ c, Has (ρ j) c → c ≠ b := fun c hc' e => hij (hc.inj i j _ _ c hd hj (.inl (by rw [hib, e])) hc')
  refine OpWp.skip hrun ?_
  let ρ' : Nat → LV := fun l => if l = i then ⟨(ρ i).v, fun b => (ρ i).x b ∨ Has (ρ j) b⟩ else ρ l
  have ri : ρ' i = ⟨(ρ i).v, fun b => (ρ i).x b ∨ Has (ρ j) b⟩ := if_pos rfl
  have ro : ∀ l, l ≠ i → ρ' l = ρ l := fun l h => if_neg h
  have rv : ∀ l, (ρ' l).v = (ρ l).v := fun l => by
    by_cases h2 : l = i
    · subst h2; rw [ri]
    · rw [ro l h2]
  have hl : ∀ l en, lkE ((i, .dp (DE.mps true ke T2 e) (mset m q ys, none) []) :: delE σ.d j) l = some en → (l = i ∧ en = .dp (DE.mps true ke T2 e) (mset m q ys, none) []) ∨ (l ≠ i ∧ l ≠ j ∧ lkE σ.d l = some en) := by
    intro l en h
    rcases lkE_new h with h | ⟨h0, h⟩
    · exact .inl h
    · rw [lkE_del] at h
      split at h
      · cases h
      · rename_i h6; exact .inr ⟨h0, h6, h⟩
  have hsub : ∀ l en b, lkE ((i, .dp (DE.mps true ke T2 e) (mset m q ys, none) []) :: delE σ.d j) l = some en → Has (ρ' l) b → ∃ l0 en0, lkE σ.d l0 = some en0 ∧ Has (ρ l0) b := by
    intro l en b h hb
    rcases hl l en h with ⟨rfl, rfl⟩ | ⟨h6, _, h7⟩
    · rw [ri, Has_mk] at hb
      rcases hb with hb | hb | hb
      · exact ⟨l, _, hd, .inl hb⟩
      · exact ⟨l, _, hd, .inr hb⟩
      · exact ⟨j, _, hj, hb⟩
    · rw [ro l h6] at hb; exact ⟨l, en, h7, hb⟩
  have hoth : ∀ l en b, l ≠ i → l ≠ j → lkE σ.d l = some en → Has (ρ l) b → ¬ Has (ρ' i) b := by
    intro l en b hli hlj hlk hb h
    rw [ri, Has_mk] at h
    rcases h with h | h | h
    · exact hli (hc.inj l i en _ b hlk hd hb (.inl h))
    · exact hli (hc.inj l i en _ b hlk hd hb (.inr h))
    · exact hlj (hc.inj l j en _ b hlk hj hb h)
  obtain ⟨q1, q2⟩ := hc.step hch (fun c hb => ⟨i, _, hd, .inl (by rw [hib]; exact hb)⟩) (d' := (i, .dp (DE.mps true ke T2 e) (mset m q ys, none) []) :: delE σ.d j) (ρ' := ρ') (fun l en b h hb => .inr (hsub l en b h hb)) (by
    intro l l' en en' b g g' hb hb'
    rcases hl l en g with ⟨rfl, rfl⟩ | ⟨g6, g7, g8⟩ <;> rcases hl l' en' g' with ⟨rfl, rfl⟩ | ⟨g6', g7', g8'⟩
    · rfl
    · rw [ro l' g6'] at hb'; exact (hoth l' en' b g6' g7' g8' hb' hb).elim
    · rw [ro l g6] at hb; exact (hoth l en b g6 g7 g8 hb hb').elim
    · rw [ro l g6] at hb; rw [ro l' g6'] at hb'; exact hc.inj l l' en en' b g8 g8' hb hb') (by
    intro hE l en g
    have hsame : ∀ c, c ≠ b → (w.heap.setIfInBounds b (.map es' ck))[c]? = w.heap[c]? := hset.2
    rcases hl l en g with ⟨rfl, rfl⟩ | ⟨g6, g7, g8⟩
    · rw [ri]
      refine ⟨b, es', ck, h3, hset.1, ⟨?_, ⟨?_, fun q' xs v _ hx' hv' => ?_, fun q' v c _ hv' hb => ?_, fun q1 q2 v1 v2 c _ _ hv1 hv2 hb1 hb2 => ?_⟩, fun _ => ⟨by rw [hes']; simpa using hck, fun q' x' hq' => ?_⟩⟩, fun q hq => by cases hq⟩
      · show KsL ke _ _ ((mset m q ys).map (·.1)) _
        rw [mset_fst]; exact hkeys _ _ (h5.keys.mono hE)
      · rw [hvals]; simp [mset]; simpa using hlen
      · have hx' : ((mset m q ys).map (·.2))[q']? = some xs := hx'
        rw [mset_snd] at hx'; rw [hvals] at hv'
        by_cases hqk : q' = q
        · subst hqk
          have e1 : xs = ys := by simpa [List.getElem?_set, hq] using hx'.symm
          have e2 : v = (ρ j).v := by
            rw [List.getElem?_set_self (by simpa using hqs)] at hv'; exact (Option.some.inj hv').symm
          subst e1; subst e2
          exact harr.mono hE (fun c hb => hsame c (hjb c (.inl hb)))
        · rw [List.getElem?_set_ne (Ne.symm hqk)] at hx' hv'
          refine (h5.rows.ok q' xs v (by simpa using fun e => hqk e.symm) hx' hv').mono hE (fun c hb => hsame c fun e => ?_)
          exact (h5.rows.own q' v c (by simpa using fun e => hqk e.symm) hv' hb).2 (by rw [e])
      · rw [hvals] at hv'
        by_cases hqk : q' = q
        · subst hqk
          rw [List.getElem?_set_self (by simpa using hqs)] at hv'
          have e2 := Option.some.inj hv'
          subst e2
          exact ⟨.inr (.inl hb), fun e => hjb c (.inl hb) (Option.some.inj e).symm⟩
        · rw [List.getElem?_set_ne (Ne.symm hqk)] at hv'
          obtain ⟨k1, k2⟩ := h5.rows.own q' v c (by simpa using fun e => hqk e.symm) hv' hb
          exact ⟨.inl k1, k2⟩
      · rw [hvals] at hv1 hv2
        by_cases e1 : q1 = q
        · subst e1
          rw [List.getElem?_set_self (by simpa using hqs)] at hv1
          have e3 := Option.some.inj hv1
          subst e3
          by_cases e2 : q2 = q1
          · exact e2.symm
          · rw [List.getElem?_set_ne (Ne.symm e2)] at hv2
            obtain ⟨k1, _⟩ := h5.rows.own q2 v2 c (by simpa using fun e => e2 e.symm) hv2 hb2
            exact (hij (hc.inj l j _ _ c hd hj (.inr k1) (.inl hb1))).elim
        · rw [List.getElem?_set_ne (Ne.symm e1)] at hv1
          by_cases e2 : q2 = q
          · subst e2
            rw [List.getElem?_set_self (by simpa using hqs)] at hv2
            have e3 := Option.some.inj hv2
            subst e3
            obtain ⟨k1, _⟩ := h5.rows.own q1 v1 c (by simpa using fun e => e1 e.symm) hv1 hb1
            exact (hij (hc.inj l j _ _ c hd hj (.inr k1) (.inl hb2))).elim
          · rw [List.getElem?_set_ne (Ne.symm e2)] at hv2
            exact h5.rows.inj q1 q2 v1 v2 c (by simpa using fun e => e1 e.symm) (by simpa using fun e => e2 e.symm) hv1 hv2 hb1 hb2
      · rw [hes', Array.toList_modify, List.getElem?_modify] at hq'
        cases hx' : es.toList[q']? with
        | none => rw [hx'] at hq'; cases hq'
        | some y' =>
          rw [hx'] at hq'
          have := hborn q' y' hx'
          simp only [Option.map_eq_map, Option.map_some, Option.some.injEq] at hq'
          subst hq'; split <;> exact this
    · rw [ro l g6]
      exact Ent.ok_mono (hc.own l en g8) hE (fun q _ => rv q) (fun c hb => hsame c fun e => g6 (hc.inj l i en _ c g8 hd hb (.inl (by rw [hib, e])))))
  exact ⟨⟨ρ', q1, fun t s ht => Slot.ok_mono s _ (hs t s ht) q2 (fun q _ => rv q)⟩, hsz, hde⟩
end
end Go.Sw

namespace Go.Sw
open Go Go.RowKit
section
variable {F : Frm} {σ σ' : AS} {ops : Array Oper} {os : List Oper} {its : List Itm4} {d : Option Tmp} {ty : TypeId} {p : String} {af : Array Edge} {gd : Option (Nat × Bool)} {x y z : Operand} {κ α : Type} {ke : Enc κ} {e : Enc α} {T2 : TypeId} {m : List (κ × List α)} {i : Nat}
theorem JP4.mapEntry [DecidableEq κ] {n n' l : Nat} {M KT VT E : TypeId} {k : κ} {r : List (κ × List α) × Nat × List α} (g : GK ops σ.g ⟨d, .mapEntry M x y, ty, p, af, gd⟩ true) (j : Nat) (hm : ment m k = some r) (hx : evS σ.g x = some (.ref i)) (hd : lkE σ.d i = some (.dp (DE.mps true ke T2 e) (m, none) [])) (hy : evS σ.g y = some (.v ke k))
    (hM : ∀ w, (underlying M).run F.P w = .ok (.map KT VT) w) (hT : ∀ w, (underlying KT).run F.P w = .ok (.array l E) w) (he : EqE n F.P KT ke) (hn : Nat.ble n 10000 = true) (hk : KeyE n' F.P KT ke) (hn' : Nat.ble n' 10000 = true) (hsame : SameE ke)
    (hz : ∀ w, (zeroValue VT).run F.P w = .ok (.slice none 0 0) w) (_ : σ.free [(j, .arr T2 e r.2.2)] = true) (hdst : dstOk d F.N = true)
    (k : JP4 F ops os ⟨gput d (.tup [.ref j, .v (Enc.int .i64) (r.2.1 : Int)]) σ.g, (j, .arr T2 e r.2.2) :: (i, .dp (DE.mps true ke T2 e) (r.1, some r.2.1) [j]) :: σ.d⟩ its σ') :
    JP4 F ops (⟨d, .mapEntry M x y, ty, p, af, gd⟩ :: os) σ (⟨.tup [.ref j, .v (Enc.int .i64) (r.2.1 : Int)], [(j, .arr T2 e r.2.2), (i, .dp (DE.mps true ke T2 e) (r.1, some r.2.1) [j])], [(j, .arr T2 e r.2.2)], rdl σ.g ⟨d, .mapEntry M x y, ty, p, af, gd⟩, []⟩ :: its) σ' :=
  .mv (nw := [(j, .arr T2 e r.2.2), (i, .dp (DE.mps true ke T2 e) (r.1, some r.2.1) [j])]) (dl := []) g hdst (fun σ2 hL hf => JM.mapEntry j hm ((hL.ev (by simp [Op.operands])).trans hx) ((hL.ent (x := x) (by simp [Op.operands]) hx (by simp [Slot.lab])).trans hd) ((hL.ev (by simp [Op.operands])).trans hy) hM hT he hn hk hn' hsame hz hf hdst) k
end
/-! ### empty structs -/
def Enc.st0 : Enc Unit where
  n := 0
  agg := true
  ok _ _ _ cs := cs = []
  len h := by rw [h]; rfl
  one h := by cases h
  cell h c hc := by rw [h] at hc; simp at hc
  mono h _ := h
theorem JO.packSt0 {F : Frm} {σ : AS} {o : Oper} {new : List (Nat × Ent)} (h : JO F o σ (.agg []) new) : JO F o σ (.v Enc.st0 ()) new := by
  intro ρ S a w K
  refine (h ρ S a w K).mono ?_
  rintro v w' ⟨ρ', h1, h2, h3, h4⟩
  refine ⟨ρ', h1, h2, ?_, h4⟩
  simp only [Slot.ok] at h3 ⊢
  obtain ⟨cs, h5, h6⟩ := h3
  have h6 : cs = [] := h6
  subst h6
  exact ⟨[], rfl, h5⟩
/-! ### interface values of a few known types -/
def Enc.ifn : Enc Unit where
  n := 1
  agg := false
  ok _ _ _ cs := cs = [.nilIface]
  len h := by rw [h]; rfl
  one _ := rfl
  cell h c hc := by rw [h] at hc; simp at hc; subst hc; rfl
  mono h _ := h
def Enc.ifc {α β : Type} (T : TypeId) (e : Enc α) (r : Enc β) (hn : r.n = 1) (_ha : r.agg = false) : Enc (α ⊕ β) where
  n := 1
  agg := false
  ok q S w cs := match q with | .inl x => ∃ ds, cs = [.iface T (e.pk ds)] ∧ e.ok x S w ds | .inr y => r.ok y S w cs
  len {q S w cs} h := by
    cases q with
    | inl x => obtain ⟨ds, h, _⟩ := h; rw [h]; rfl
    | inr y => rw [r.len h, hn]
  one _ := rfl
  cell {q S w cs} h := by
    cases q with
    | inl x => obtain ⟨ds, h, _⟩ := h; intro c hc; rw [h] at hc; simp at hc; subst hc; rfl
    | inr y => exact r.cell h
  mono {q S S' w w' cs} h k := by
    cases q with
    | inl x => obtain ⟨ds, h, h'⟩ := h; exact ⟨ds, h, e.mono h' k⟩
    | inr y => exact r.mono h k
/-- a value of a type among them, as one of theirs -/
def IfcIn {α β : Type} (T : TypeId) (e : Enc α) (z : α) (f : Enc β) (q : β) : Prop := ∀ S w v, e.val z S w v → f.val q S w (.iface T v)
theorem IfcIn.here {α β : Type} {T : TypeId} {e : Enc α} {z : α} {r : Enc β} {hn : r.n = 1} {ha : r.agg = false} : IfcIn T e z (Enc.ifc T e r hn ha) (.inl z) := by
  rintro S w v ⟨cs, h, rfl⟩
  exact ⟨_, ⟨cs, rfl, h⟩, rfl⟩
theorem IfcIn.there {α β γ : Type} {T T' : TypeId} {e : Enc α} {e' : Enc γ} {z : α} {r : Enc β} {hn : r.n = 1} {ha : r.agg = false} {q : β} (h : IfcIn T e z r q) : IfcIn T e z (Enc.ifc T' e' r hn ha) (.inr q) := by
  intro S w v hv
  obtain ⟨cs, h1, h2⟩ := h S w v hv
  exact ⟨cs, h1, by rw [h2]; simp [Enc.pk, Enc.ifc, ha]⟩
section
variable {F : Frm} {σ : AS} {d : Option Tmp} {ty : TypeId} {p : String} {af : Array Edge} {gd : Option (Nat × Bool)} {x : Operand}
theorem JO.mkIfc {α β : Type} {T : TypeId} {fs : Array Field} {e : Enc α} {z : α} {f : Enc β} {q : β} (hx : evS σ.g x = some (.v e z)) (hT : ∀ w, (underlying T).run F.P w = .ok (.struct fs) w) (hI : IfcIn T e z f q) : JO F ⟨d, .makeInterface T x, ty, p, af, gd⟩ σ (.v f q) [] := by
  intro ρ S a w K
  have h1 := K.slot x (by simp [Op.operands]) _ hx
  simp only [Slot.ok] at h1
  refine OpWp.value (w' := w) (v := .iface T (a.eval x)) ?_ (Res.same (by simp only [Slot.ok]; exact hI _ _ _ h1))
  simp [execOp, Instr.makeInterface, hT]
end
/-- what a call of a method of such a value comes to -/
def IfcCon {β : Type} (P : Program) (name : String) (f : Enc β) (q : β) (ss : List Slot) (res : Slot) (new : List (Nat × Ent)) : Prop :=
  ∀ S w v, f.val q S w v → ∃ T u g s0, v = .iface T u ∧ (∀ w, (method (P.types.size + Made.depth) T u name).run P w = .ok (g, u) w) ∧ (∀ args w, (callFunc g args).run P w = .ok (.enter g args) w) ∧ (∀ ρ, Slot.ok ρ S w s0 u) ∧ Con P g (s0 :: ss) res new
section
variable {P : Program} {name : String} {ss : List Slot} {res : Slot} {new : List (Nat × Ent)}
theorem IfcCon.here {α β : Type} {T : TypeId} {g : FuncId} {e : Enc α} {z : α} {r : Enc β} {hn : r.n = 1} {ha : r.agg = false} (hm : ∀ u w, (method (P.types.size + Made.depth) T u name).run P w = .ok (g, u) w) (hc : ∀ args w, (callFunc g args).run P w = .ok (.enter g args) w)
    (h : Con P g (.v e z :: ss) res new) : IfcCon P name (Enc.ifc T e r hn ha) (.inl z) ss res new := by
  rintro S w v ⟨cs, ⟨ds, rfl, h2⟩, rfl⟩
  exact ⟨T, e.pk ds, g, .v e z, rfl, hm _, hc, fun ρ => by simp only [Slot.ok]; exact ⟨ds, h2, rfl⟩, h⟩
theorem IfcCon.there {β γ : Type} {T' : TypeId} {e' : Enc γ} {r : Enc β} {hn : r.n = 1} {ha : r.agg = false} {q : β} (h : IfcCon P name r q ss res new) : IfcCon P name (Enc.ifc T' e' r hn ha) (.inr q) ss res new := by
  rintro S w v ⟨cs, h1, rfl⟩
  exact h S w _ ⟨cs, h1, by simp [Enc.pk, Enc.ifc, ha]⟩
end
section
variable {F : Frm} {σ : AS} {d : Option Tmp} {ty : TypeId} {p : String} {af : Array Edge} {gd : Option (Nat × Bool)} {x : Operand}
theorem JO.callI0 {β : Type} {name : String} {f : Enc β} {q : β} {xs : List Operand} {ts : Array TypeId} {ss : List Slot} {res : Slot} (hx : evS σ.g x = some (.v f q)) (hc : IfcCon F.P name f q ss res []) (ha : Args σ false xs ss) :
    JO F ⟨d, .call ⟨.invoke x name, xs.toArray, ts⟩, ty, p, af, gd⟩ σ res [] := by
  intro ρ S a w K
  have h0 := K.slot x (by simp [Op.operands, Call.operands]) _ hx
  simp only [Slot.ok] at h0
  obtain ⟨T, u, g, s0, h1, h2, h3, h4, h5⟩ := hc _ _ _ h0
  have hargs := ha.spec (ys := (Op.call ⟨.invoke x name, xs.toArray, ts⟩).operands) (by intro x hx; simp [Op.operands, Call.operands, hx]) K
  have hrun : (execOp a.eval ⟨d, .call ⟨.invoke x name, xs.toArray, ts⟩, ty, p, af, gd⟩).run F.P w = .ok (.enter g (u :: xs.map a.eval).toArray) w := by
    simp [execOp, resolve, h1, invoke, callMethod, h2, h3]
    exact List.take_of_length_le (by simp)
  refine OpWp.enter hrun ?_
  refine (h5 S w _ ρ K.low (by simp only [Slot.okv]; exact ⟨u, _, rfl, h4 ρ, hargs⟩)).mono ?_
  rintro e w' ⟨v, rfl, h⟩
  exact ⟨v, rfl, h⟩
end
end Go.Sw
