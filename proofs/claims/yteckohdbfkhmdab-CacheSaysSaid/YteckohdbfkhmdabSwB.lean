/- A library over the model, part 2: how values lie, what is ours in memory, rules for operations, calls, loops, ranges over functions. Conditions: none. -/
import Derived.Test.YteckohdbfkhmdabSwA
set_option linter.unusedVariables false
set_option linter.unusedSimpArgs false
namespace Go.Sw
open Go Go.RowKit

/-- what is handed in, to be changed -/
structure Ins (S : Nat → Prop) (ρ : Nat → LV) (w : World) (din : List (Nat × Ent)) : Prop where
  own : ∀ i en, lkE din i = some en → en.ok ρ (Un S ρ din) w (ρ i)
  lt : ∀ i en b, lkE din i = some en → Has (ρ i) b → b < w.heap.size
  apart : ∀ i en b, lkE din i = some en → Has (ρ i) b → ¬ S b
  inj : ∀ i j en en' b, lkE din i = some en → lkE din j = some en' → Has (ρ i) b → Has (ρ j) b → i = j
/-- what comes back -/
structure Outs (S : Nat → Prop) (R : Nat → Prop) (w0 : World) (res : Slot) (dout : List (Nat × Ent)) (ρ : Nat → LV) (v : Value) (w : World) : Prop where
  size : w0.heap.size ≤ w.heap.size
  frame : ∀ k, k < w0.heap.size → ¬ R k → w.heap[k]? = w0.heap[k]?
  os : w.os = w0.os
  tape : w.tape = w0.tape
  output : w.output = w0.output
  slot : res.ok ρ (Un S ρ dout) w v
  own : ∀ i en, lkE dout i = some en → en.ok ρ (Un S ρ dout) w (ρ i)
  fresh : ∀ i en b, lkE dout i = some en → Has (ρ i) b → (w0.heap.size ≤ b ∨ R b) ∧ b < w.heap.size
  apart : ∀ i en b, lkE dout i = some en → Has (ρ i) b → ¬ S b
  inj : ∀ i j en en' b, lkE dout i = some en → lkE dout j = some en' → Has (ρ i) b → Has (ρ j) b → i = j
/-- what a function comes to that may change what it is handed: entries in, entries out -/
def ConM (P : Program) (f : FuncId) (args : List Slot) (din : List (Nat × Ent)) (res : Slot) (dout : List (Nat × Ent)) : Prop :=
  ∀ S w vs ρ, (∀ k, S k → k < w.heap.size) → Ins S ρ w din → Slot.okv ρ (Un S ρ din) w args vs → Calls P f vs.toArray w fun e w' => ∃ v ρ', e = .returned v ∧ Outs S (Owns ρ din) w res dout ρ' v w'
def RetQM (F : Frm) (fn : Func) (res : Slot) (dout : List (Nat × Ent)) : Exit → Act → World → Prop :=
  bodyPostM Fence.wide 0 F.P fn fun e w' => ∃ v ρ', e = .returned v ∧ Outs F.S0 F.R F.w0 res dout ρ' v w'

theorem ConM.of {P : Program} {f : FuncId} {fn : Func} {c : Code} {N : Nat} {args : List Slot} {din : List (Nat × Ent)} {res : Slot} {dout : List (Nat × Ent)}
    (hf : P.funcs[f]? = some fn) (hb : fn.body = some c) (hN : fn.ntmps = N) (hle : Nat.ble args.length N = true)
    (h : ∀ S w R, Fol ⟨P, N, S, w, R, none, []⟩ ⟨P, N, S, w, R, none, []⟩ → W ⟨P, N, S, w, R, none, []⟩ [c] ⟨enum 0 args, din⟩ (RetQM ⟨P, N, S, w, R, none, []⟩ fn res dout)) : ConM P f args din res dout := by
  intro S w vs ρ hlow hin hv
  refine (callsIn_wide (n := 0)).1 (callsIn_of_wp_marks hf hb trivial ?_)
  have hl := okv_len hv
  have hle := Nat.le_of_ble_eq_true hle
  have hst : St ⟨P, N, S, w, Owns ρ din, none, []⟩ ⟨enum 0 args, din⟩ { tmps := vs.toArray ++ Array.replicate (fn.ntmps - vs.toArray.size) undef, defers := [] } w := ?_
  · have h1 : c.wpIn Fence.wide 0 P (Exit.then (run Fence.wide P (RetQM ⟨P, N, S, w, Owns ρ din, none, []⟩ fn res dout) []) (RetQM ⟨P, N, S, w, Owns ρ din, none, []⟩ fn res dout)) { tmps := vs.toArray ++ Array.replicate (fn.ntmps - vs.toArray.size) undef, defers := [] } w := h S w _ (.refl hlow rfl) _ w hst
    refine wpIn_mono h1 ?_
    intro e a w' hq
    cases e <;> exact hq
  · refine ⟨⟨ρ, ⟨hlow, Nat.le_refl _, fun _ _ _ => rfl, rfl, rfl, rfl, hin.own, fun i en b h hb => ⟨.inr ⟨i, en, h, hb⟩, hin.lt i en b h hb⟩, hin.inj, hin.apart⟩, fun t s ht => ?_⟩, ?_, rfl⟩
    · obtain ⟨_, u, h1, h2⟩ := okv_enum args vs 0 hv t s ht
      have hlt : t < vs.length := by
        rcases Nat.lt_or_ge t vs.length with h | h
        · exact h
        · simp [List.getElem?_eq_none h] at h1
      have : (vs.toArray ++ Array.replicate (fn.ntmps - vs.toArray.size) undef).getD t undef = u := by
        simp only [Array.getD_eq_getD_getElem?]
        rw [Array.getElem?_append_left (by simpa using hlt)]
        simp only [Nat.sub_zero] at h1
        simp [h1]
      rw [this]; exact h2
    · simp only [Array.size_append, List.size_toArray, Array.size_replicate]
      show _ = N
      omega

theorem Outs.of_core {F : Frm} {σ : AS} {ρ : Nat → LV} {w : World} {v : Value} {res : Slot} {dout : List (Nat × Ent)} (hc : Core F σ.d ρ w) (hr : res.ok ρ (Un F.S0 ρ σ.d) w v) (hn : SubE dout σ.d) : Outs F.S0 F.R F.w0 res dout ρ v w := by
  have hsub := hn.spec
  have hE : Ext (Un F.S0 ρ σ.d) (Un F.S0 ρ dout) w w := ⟨Nat.le_refl _, fun k _ hk => ⟨rfl, fun h => hk (by
    rcases h with h | ⟨i, en, h1, h2⟩
    · exact .inl h
    · exact .inr ⟨i, en, hsub i en h1, h2⟩)⟩⟩
  exact ⟨hc.size, hc.frame, hc.os, hc.tape, hc.output, Slot.ok_mono res v hr hE (fun _ _ => rfl), fun i en h => Ent.ok_mono (hc.own i en (hsub i en h)) hE (fun _ _ => rfl) (fun _ _ => rfl),
    fun i en b h hb => hc.fresh i en b (hsub i en h) hb, fun i en b h hb => hc.apart i en b (hsub i en h) hb, fun i j en en' b hi hj bi bj => hc.inj i j en en' b (hsub i en hi) (hsub j en' hj) bi bj⟩
theorem results0 {P : Program} {fn : Func} {a : Act} {w : World} (hrs : fn.results = #[]) : (results fn a.tmps).run P w = .ok (.tuple #[]) w := by rw [results_eq, hrs]; simp
section
variable {F F' : Frm} {σ : AS} {fn : Func} {rv rv' rv2 : ResultVar} {res s s' s2 : Slot} {dout : List (Nat × Ent)}
theorem XQ.retM1 (hF : Fol F F') (hrs : fn.results = #[rv]) (h : RV F σ rv res) (hn : SubE dout σ.d) : XQ F' σ (RetQM F fn res dout) .ret :=
  XQ.retK hF fun ρ a w hc hsl => by
    obtain ⟨v, h1, h2⟩ := h ρ a w hc hsl
    exact ⟨v, results1 hrs h1, v, ρ, rfl, Outs.of_core hc h2 hn⟩
theorem XQ.retM2 (hF : Fol F F') (hrs : fn.results = #[rv, rv']) (h : RV F σ rv s) (h' : RV F σ rv' s') (hn : SubE dout σ.d) : XQ F' σ (RetQM F fn (.tup [s, s']) dout) .ret :=
  XQ.retK hF fun ρ a w hc hsl => by
    obtain ⟨v, h1, h2⟩ := h ρ a w hc hsl
    obtain ⟨v', h1', h2'⟩ := h' ρ a w hc hsl
    exact ⟨_, results2 hrs h1 h1', _, ρ, rfl, Outs.of_core hc (tup2 h2 h2') hn⟩
end
end Go.Sw

namespace Go.Sw
open Go Go.RowKit

/-- what is handed in is what the caller has, by the caller's names -/
inductive DinR (σ : AS) (r : Nat → Nat) (A : Nat → Nat) : List (Nat × Ent) → Prop
  | nil : DinR σ r A []
  | box {i : Nat} {T : TypeId} {l : List Slot} {pb : Option Nat} {ds : List (Nat × Ent)} : lkE σ.d (r i) = some (.box T (Slot.maps r l) pb) → DinR σ r A ds → DinR σ r A ((i, .box T l (some (A i))) :: ds)
  | arr {α : Type} {i : Nat} {T : TypeId} {e : Enc α} {xs : List α} {ds : List (Nat × Ent)} : lkE σ.d (r i) = some (.arr T e xs) → DinR σ r A ds → DinR σ r A ((i, .arr T e xs) :: ds)
  | mp {α β : Type} {i : Nat} {e : Enc α} {f : Enc β} {m : List (α × β)} {ds : List (Nat × Ent)} : lkE σ.d (r i) = some (.mp e f m) → DinR σ r A ds → DinR σ r A ((i, .mp e f m) :: ds)
  | dp {α : Type} {i : Nat} {D : DE α} {x : α} {l : List Nat} {ds : List (Nat × Ent)} : lkE σ.d (r i) = some (.dp D x (l.map r)) → DinR σ r A ds → DinR σ r A ((i, .dp D x l) :: ds)
theorem DinR.spec {σ : AS} {r : Nat → Nat} {A : Nat → Nat} {ds : List (Nat × Ent)} (h : DinR σ r A ds) {ρ : Nat → LV} {S : Nat → Prop} {w : World} (ho : ∀ i en, lkE σ.d i = some en → en.ok ρ S w (ρ i)) (hA : ∀ i b, (ρ (r i)).v = .pointer (some ⟨b, 0, none⟩) → A i = b) :
    ∀ i en, lkE ds i = some en → (∃ en0, lkE σ.d (r i) = some en0) ∧ en.ok (fun i => ρ (r i)) S w (ρ (r i)) := by
  induction h with
  | nil => intro i en h; simp [lkE] at h
  | box h1 _ ih =>
    rename_i j T l pb ds _
    intro i en h
    rw [lkE_cons] at h
    split at h
    · rename_i hj; subst hj; cases h
      have h2 := ho _ _ h1
      refine ⟨⟨_, h1⟩, ?_⟩
      have h3 : ((Ent.box T l pb).map r).ok ρ S w (ρ (r j)) := h2
      rw [ent_map] at h3
      obtain ⟨⟨b, cs, k1, k2, k3⟩, _⟩ := h3
      exact ⟨⟨b, cs, k1, k2, k3⟩, fun c hc => by cases hc; rw [k1, hA j b k1]⟩
    · exact ih i en h
  | arr h1 _ ih =>
    rename_i j T e xs ds _
    intro i en h
    rw [lkE_cons] at h
    split at h
    · rename_i hj; subst hj; cases h; exact ⟨⟨_, h1⟩, ho _ _ h1⟩
    · exact ih i en h
  | mp h1 _ ih =>
    rename_i j e f m ds _
    intro i en h
    rw [lkE_cons] at h
    split at h
    · rename_i hj; subst hj; cases h; exact ⟨⟨_, h1⟩, ho _ _ h1⟩
    · exact ih i en h
  | dp h1 _ ih =>
    rename_i j D x l ds _
    intro i en h
    rw [lkE_cons] at h
    split at h
    · rename_i hj; subst hj; cases h
      refine ⟨⟨_, h1⟩, ?_⟩
      have h3 : ((Ent.dp D x l).map r).ok ρ S w (ρ (r j)) := ho _ _ h1
      rwa [ent_map] at h3
    · exact ih i en h

def memB (l : Nat) : List Nat → Bool
  | [] => false
  | i :: r => bif Nat.beq i l then true else memB l r
theorem memB_iff {l : Nat} : ∀ {r : List Nat}, memB l r = true ↔ l ∈ r
  | [] => by simp [memB]
  | i :: r => by
    simp only [memB]
    cases hb : Nat.beq i l with
    | true => have := Nat.eq_of_beq_eq_true hb; subst this; simp
    | false =>
      have : l ≠ i := fun e => by subst e; simp at hb
      simp [memB_iff, this]
/-- what comes back, by the caller's names: boxes that were handed in lie where they lay -/
inductive DoutR (σ : AS) (r : Nat → Nat) (A : Nat → Nat) : List (Nat × Ent) → List (Nat × Ent) → List Nat → Prop
  | nil : DoutR σ r A [] [] []
  | box {i : Nat} {T T0 : TypeId} {l l0 : List Slot} {pb : Option Nat} {ds D : List (Nat × Ent)} {K : List Nat} : lkE σ.d (r i) = some (.box T0 l0 pb) → DoutR σ r A ds D K → memB (r i) K = false → DoutR σ r A ((i, .box T l (some (A i))) :: ds) ((r i, .box T (Slot.maps r l) pb) :: D) (r i :: K)
  | boxN {i : Nat} {T : TypeId} {l : List Slot} {ds D : List (Nat × Ent)} {K : List Nat} : DoutR σ r A ds D K → memB (r i) K = false → DoutR σ r A ((i, .box T l none) :: ds) ((r i, .box T (Slot.maps r l) none) :: D) K
  | arr {α : Type} {i : Nat} {T : TypeId} {e : Enc α} {xs : List α} {ds D : List (Nat × Ent)} {K : List Nat} : DoutR σ r A ds D K → memB (r i) K = false → DoutR σ r A ((i, .arr T e xs) :: ds) ((r i, .arr T e xs) :: D) K
  | mp {α β : Type} {i : Nat} {e : Enc α} {f : Enc β} {m : List (α × β)} {ds D : List (Nat × Ent)} {K : List Nat} : DoutR σ r A ds D K → memB (r i) K = false → DoutR σ r A ((i, .mp e f m) :: ds) ((r i, .mp e f m) :: D) K
  | dp {α : Type} {i : Nat} {E : DE α} {x : α} {l : List Nat} {ds D : List (Nat × Ent)} {K : List Nat} : DoutR σ r A ds D K → memB (r i) K = false → DoutR σ r A ((i, .dp E x l) :: ds) ((r i, .dp E x (l.map r)) :: D) K

theorem DoutR.spec {σ : AS} {r : Nat → Nat} {A : Nat → Nat} {ds D : List (Nat × Ent)} {K : List Nat} (h : DoutR σ r A ds D K) (hinj : ∀ i j, r i = r j → i = j) :
    (∀ l en', lkE D l = some en' → ∃ i en, l = r i ∧ lkE ds i = some en ∧ (en' = en.map r ∨ ∃ T T0 m l0 pb, en = .box T m (some (A i)) ∧ en' = .box T (Slot.maps r m) pb ∧ lkE σ.d (r i) = some (.box T0 l0 pb))) ∧
    (∀ i en, lkE ds i = some en → ∃ en', lkE D (r i) = some en') ∧ (∀ k ∈ K, ∃ i T m T0 l0 pb, k = r i ∧ lkE ds i = some (.box T m (some (A i))) ∧ lkE σ.d k = some (.box T0 l0 pb)) := by
  have step : ∀ {i : Nat} {en en' : Ent} {ds D : List (Nat × Ent)}, ((∀ l en', lkE D l = some en' → ∃ i en, l = r i ∧ lkE ds i = some en ∧ (en' = en.map r ∨ ∃ T T0 m l0 pb, en = .box T m (some (A i)) ∧ en' = .box T (Slot.maps r m) pb ∧ lkE σ.d (r i) = some (.box T0 l0 pb))) ∧ (∀ i en, lkE ds i = some en → ∃ en', lkE D (r i) = some en')) →
      (en' = en.map r ∨ ∃ T T0 m l0 pb, en = .box T m (some (A i)) ∧ en' = .box T (Slot.maps r m) pb ∧ lkE σ.d (r i) = some (.box T0 l0 pb)) →
      ((∀ l en0, lkE ((r i, en') :: D) l = some en0 → ∃ j en1, l = r j ∧ lkE ((i, en) :: ds) j = some en1 ∧ (en0 = en1.map r ∨ ∃ T T0 m l0 pb, en1 = .box T m (some (A j)) ∧ en0 = .box T (Slot.maps r m) pb ∧ lkE σ.d (r j) = some (.box T0 l0 pb))) ∧
        (∀ j en1, lkE ((i, en) :: ds) j = some en1 → ∃ en0, lkE ((r i, en') :: D) (r j) = some en0)) := by
    rintro i en en' ds D ⟨ih1, ih2⟩ hh
    refine ⟨fun l en0 hl => ?_, fun j en1 hj => ?_⟩
    · rw [lkE_cons] at hl
      split at hl
      · rename_i hri; subst hri; cases hl; exact ⟨i, en, rfl, by rw [lkE_cons, if_pos rfl], hh⟩
      · rename_i hri
        obtain ⟨j, en1, rfl, k2, k3⟩ := ih1 l en0 hl
        exact ⟨j, en1, rfl, by rw [lkE_cons, if_neg (fun e => hri (by rw [e]))]; exact k2, k3⟩
    · rw [lkE_cons] at hj
      split at hj
      · rename_i hij; subst hij; exact ⟨en', by rw [lkE_cons, if_pos rfl]⟩
      · rename_i hij
        obtain ⟨en0, h0⟩ := ih2 j en1 hj
        exact ⟨en0, by rw [lkE_cons, if_neg (fun e => hij (hinj _ _ e))]; exact h0⟩
  have old : ∀ {i : Nat} {en : Ent} {ds : List (Nat × Ent)} {K : List Nat}, memB (r i) K = false → (∀ k ∈ K, ∃ i T m T0 l0 pb, k = r i ∧ lkE ds i = some (.box T m (some (A i))) ∧ lkE σ.d k = some (.box T0 l0 pb)) → ∀ k ∈ K, ∃ j T m T0 l0 pb, k = r j ∧ lkE ((i, en) :: ds) j = some (.box T m (some (A j))) ∧ lkE σ.d k = some (.box T0 l0 pb) := by
    intro i en ds K hm ih k hk
    obtain ⟨j, T, m, T0, l0, pb, rfl, h, h'⟩ := ih k hk
    have hne : i ≠ j := fun e => by subst e; rw [memB_iff.2 hk] at hm; cases hm
    exact ⟨j, T, m, T0, l0, pb, rfl, by rw [lkE_cons, if_neg hne]; exact h, h'⟩
  induction h with
  | nil => exact ⟨fun l en h => by simp [lkE] at h, fun i en h => by simp [lkE] at h, fun k h => by simp at h⟩
  | box h1 _ hm ih =>
    rename_i i T T0 l l0 pb ds D K _
    obtain ⟨a, b⟩ := step (i := i) (en := .box T l (some (A i))) (en' := .box T (Slot.maps r l) pb) ⟨ih.1, ih.2.1⟩ (.inr ⟨T, T0, l, l0, pb, rfl, rfl, h1⟩)
    refine ⟨a, b, fun k hk => ?_⟩
    rcases List.mem_cons.1 hk with rfl | hk
    · exact ⟨i, T, l, T0, l0, pb, rfl, by rw [lkE_cons, if_pos rfl], h1⟩
    · exact old hm ih.2.2 k hk
  | boxN _ hm ih =>
    rename_i i T l ds D K _
    obtain ⟨a, b⟩ := step (i := i) (en := .box T l none) (en' := .box T (Slot.maps r l) none) ⟨ih.1, ih.2.1⟩ (.inl rfl)
    exact ⟨a, b, old hm ih.2.2⟩
  | arr _ hm ih =>
    rename_i α i T e xs ds D K _
    obtain ⟨a, b⟩ := step (i := i) (en := .arr T e xs) (en' := .arr T e xs) ⟨ih.1, ih.2.1⟩ (.inl rfl)
    exact ⟨a, b, old hm ih.2.2⟩
  | mp _ hm ih =>
    rename_i α β i e f m ds D K _
    obtain ⟨a, b⟩ := step (i := i) (en := .mp e f m) (en' := .mp e f m) ⟨ih.1, ih.2.1⟩ (.inl rfl)
    exact ⟨a, b, old hm ih.2.2⟩
  | dp _ hm ih =>
    rename_i α i E x l ds D K _
    obtain ⟨a, b⟩ := step (i := i) (en := .dp E x l) (en' := .dp E x (l.map r)) ⟨ih.1, ih.2.1⟩ (.inl rfl)
    exact ⟨a, b, old hm ih.2.2⟩

def delEs (d : List (Nat × Ent)) : List Nat → List (Nat × Ent)
  | [] => d
  | i :: H => delE (delEs d H) i
theorem lkE_delEs {d : List (Nat × Ent)} {k : Nat} : ∀ {H : List Nat}, lkE (delEs d H) k = if k ∈ H then none else lkE d k
  | [] => by simp [delEs]
  | i :: H => by
    rw [delEs, lkE_del]
    by_cases h : k = i
    · simp [h]
    · rw [if_neg h, lkE_delEs]; simp [h]
/-- what stays speaks of nothing that went -/
def staysB (g : List (Nat × Slot)) (rest : List (Nat × Ent)) (H K : List Nat) (D : List (Nat × Ent)) : Bool :=
  (g.all fun y => y.2.lab.all fun l => !memB l H || memB l K || !memB l (D.map (·.1))) && rest.all fun y => y.2.lab.all fun l => !memB l H || memB l K || !memB l (D.map (·.1))
/-- what is new has a name of its own -/
def newB (σ : AS) (H : List Nat) (D : List (Nat × Ent)) : Bool :=
  D.all fun x => memB x.1 H || ((σ.d.all fun y => !Nat.beq y.1 x.1 && !memB x.1 y.2.lab) && σ.g.all fun y => !memB x.1 y.2.lab)
/-- an argument of a function that is handed what is ours -/
inductive ArgsM (σ : AS) (r : Nat → Nat) : List Operand → List Slot → Prop
  | nil : ArgsM σ r [] []
  | cons {x : Operand} {s : Slot} {xs : List Operand} {l : List Slot} : Arg σ false x (s.map r) → ArgsM σ r xs l → ArgsM σ r (x :: xs) (s :: l)
theorem ArgsM.spec {σ : AS} {r : Nat → Nat} {xs : List Operand} {l : List Slot} (h : ArgsM σ r xs l) {ρ S a w} {ys : Array Operand} (hys : ∀ x ∈ xs, x ∈ ys) (K : Know σ ys ρ S a w) : Slot.okv (fun i => ρ (r i)) S w l (xs.map a.eval) := by
  induction h with
  | nil => simp [Slot.okv]
  | cons h1 _ ih =>
    rename_i x s xs l _
    simp only [Slot.okv, List.map_cons]
    refine ⟨_, _, rfl, ?_, ih fun y hy => hys y (List.mem_cons_of_mem _ hy)⟩
    rw [← ok_map]
    exact h1 ρ S a w ⟨K.low, fun y hy => K.slot y (by simp at hy; subst hy; exact hys _ List.mem_cons_self), fun y hy => K.ent y (by simp at hy; subst hy; exact hys _ List.mem_cons_self)⟩
/-- names turned one to one -/
structure Bij (r : Nat → Nat) : Prop where
  inj : ∀ i j, r i = r j → i = j

def adr (v : Value) : Nat := match v with | .pointer (some a) => a.block | _ => 0

section
variable {F : Frm} {σ : AS} {s : Slot} {d : Option Tmp} {ty : TypeId} {p : String} {af : Array Edge} {gd : Option (Nat × Bool)}

/-- behind the call -/
theorem St.callM {ρ ρ' : Nat → LV} {r : Nat → Nat} {A : Nat → Nat} {a : Act} {w w' : World} {v : Value} {res : Slot} {din dout D : List (Nat × Ent)} {K H : List Nat} (hr : ∀ i j, r i = r j → i = j) (hc : Core F σ.d ρ w)
    (hs : ∀ t s, lk σ.g t = some s → s.ok ρ (Un F.S0 ρ σ.d) w (a.tmps.getD t undef)) (hz : a.tmps.size = F.N) (hde : a.defers = F.df) (hA : ∀ i b, (ρ (r i)).v = .pointer (some ⟨b, 0, none⟩) → A i = b) (hin : DinR σ r A din) (hout : DoutR σ r A dout D K)
    (hH : din.map (fun x => r x.1) = H) (hst : staysB σ.g (delEs σ.d H) H K D = true) (hnew : newB σ H D = true) (hcl : closed res dout = true) (hKH : K.all (fun k => memB k H) = true) (hdst : dstOk d F.N = true)
    (ho : Outs (fun k => Un F.S0 ρ σ.d k ∧ ¬ Owns (fun i => ρ (r i)) din k) (Owns (fun i => ρ (r i)) din) w res dout ρ' v w') : St F ⟨gput d (res.map r) σ.g, D ++ delEs σ.d H⟩ (a.put d v) w' := by
  obtain ⟨hD1, hD2, hD3⟩ := hout.spec hr
  have hdin := hin.spec hc.own hA
  have hmemH : ∀ i en, lkE din i = some en → r i ∈ H := fun i en h => by rw [← hH]; exact List.mem_map.2 ⟨(i, en), lkE_mem h, rfl⟩
  have hHmem : ∀ l, l ∈ H → ∃ i en, l = r i ∧ (i, en) ∈ din := fun l h => by rw [← hH] at h; obtain ⟨x, h1, h2⟩ := List.mem_map.1 h; exact ⟨x.1, x.2, h2.symm, h1⟩
  have hHin : ∀ l, l ∈ H → ∃ i en, l = r i ∧ lkE din i = some en := fun l h => by
    obtain ⟨i, en, h1, h2⟩ := hHmem l h
    cases hx : lkE din i with
    | some e => exact ⟨i, e, h1, hx⟩
    | none =>
      exfalso
      clear hin hdin hH ho hmemH hHmem
      induction din with
      | nil => simp at h2
      | cons y din ih =>
        obtain ⟨j, ej⟩ := y
        rw [lkE_cons] at hx
        split at hx
        · cases hx
        · rename_i hji
          rcases List.mem_cons.1 h2 with h2 | h2
          · simp at h2; exact hji h2.1.symm
          · exact ih h2 hx
  have hown : ∀ k, Owns (fun i => ρ (r i)) din k → ∃ l en, l ∈ H ∧ lkE σ.d l = some en ∧ Has (ρ l) k := by
    rintro k ⟨i, en, h1, h2⟩
    obtain ⟨⟨en0, h3⟩, _⟩ := hdin i en h1
    exact ⟨r i, en0, hmemH i en h1, h3, h2⟩
  have hownU : ∀ k, Owns (fun i => ρ (r i)) din k → Un F.S0 ρ σ.d k := fun k h => by obtain ⟨l, en, _, h1, h2⟩ := hown k h; exact .inr ⟨l, en, h1, h2⟩
  -- a label of the rest owns nothing that was handed in
  have hrest : ∀ l en k, l ∉ H → lkE σ.d l = some en → Has (ρ l) k → ¬ Owns (fun i => ρ (r i)) din k := by
    intro l en k hl h1 h2 h3
    obtain ⟨l', en', h4, h5, h6⟩ := hown k h3
    exact hl (hc.inj l l' en en' k h1 h5 h2 h6 ▸ h4)
  classical
  let ρn : Nat → LV := fun l => if h : ∃ i, l = r i ∧ (lkE dout i).isSome = true then ρ' (Classical.choose h) else ρ l
  have hn1 : ∀ i en, lkE dout i = some en → ρn (r i) = ρ' i := by
    intro i en h
    have hex : ∃ j, r i = r j ∧ (lkE dout j).isSome = true := ⟨i, rfl, by rw [h]; rfl⟩
    show (if h : ∃ j, r i = r j ∧ (lkE dout j).isSome = true then ρ' (Classical.choose h) else ρ (r i)) = _
    rw [dif_pos hex]
    have := Classical.choose_spec hex
    rw [← hr _ _ this.1]
  have hn0 : ∀ l, (∀ en, lkE D l ≠ some en) → ρn l = ρ l := by
    intro l h
    have hex : ¬ ∃ i, l = r i ∧ (lkE dout i).isSome = true := by
      rintro ⟨i, rfl, h2⟩
      cases hx : lkE dout i with
      | none => rw [hx] at h2; cases h2
      | some en => obtain ⟨en', h3⟩ := hD2 i en hx; exact h _ h3
    show (if h : ∃ i, l = r i ∧ (lkE dout i).isSome = true then ρ' (Classical.choose h) else ρ l) = _
    rw [dif_neg hex]
  -- labels of boxes that stay
  have hK : ∀ l, l ∈ K → (ρn l).v = (ρ l).v := by
    intro l hl
    obtain ⟨i, T, m, T0, l0, pb, rfl, h1, h2⟩ := hD3 l hl
    have ho1 := (ho.own i _ h1).2 (A i) rfl
    obtain ⟨⟨b, cs, h8, _⟩, _⟩ := hc.own _ _ h2
    rw [hn1 i _ h1, ho1, h8, hA i b h8]
  have hnD : ∀ l, memB l (D.map (·.1)) = false → ∀ en, lkE D l ≠ some en := fun l h en he => by
    have h1 : l ∈ D.map (·.1) := List.mem_map.2 ⟨(l, en), lkE_mem he, rfl⟩
    rw [memB_iff.2 h1] at h; cases h
  -- the names of what stays
  have hlab : ∀ (q : Slot), (q.lab.all fun l => !memB l H || memB l K || !memB l (D.map (·.1))) = true → (∀ l ∈ q.lab, lkE D l = none ∨ memB l H = true) → agreeOn ρ ρn q.lab := by
    intro q h1 h2 l hl
    rcases h2 l hl with h3 | h3
    · exact congrArg LV.v (hn0 l fun en he => by rw [h3] at he; cases he)
    · have := List.all_eq_true.1 h1 l hl
      rw [h3] at this
      cases hm : memB l (D.map (·.1)) with
      | false => exact congrArg LV.v (hn0 l (hnD l hm))
      | true => rw [hm] at this; exact hK l (memB_iff.1 (by simpa using this))
  have hnewD : ∀ l en, lkE D l = some en → memB l H = true ∨ ((∀ y ∈ σ.d, y.1 ≠ l ∧ l ∉ y.2.lab) ∧ ∀ y ∈ σ.g, l ∉ y.2.lab) := by
    intro l en h
    have := List.all_eq_true.1 hnew _ (lkE_mem h)
    rcases Bool.or_eq_true_iff.1 this with h | h
    · exact .inl h
    · rw [Bool.and_eq_true, List.all_eq_true, List.all_eq_true] at h
      refine .inr ⟨fun y hy => ?_, fun y hy hc' => ?_⟩
      · have h3 := h.1 y hy
        rw [Bool.and_eq_true] at h3
        refine ⟨fun e => ?_, fun hc' => ?_⟩
        · have := h3.1; rw [e] at this; simp at this
        · have := h3.2; rw [memB_iff.2 hc'] at this; cases this
      · have := h.2 y hy; rw [memB_iff.2 hc'] at this; cases this
  simp only [staysB, Bool.and_eq_true, List.all_eq_true] at hst
  have hgl : ∀ t s, lk σ.g t = some s → agreeOn ρ ρn s.lab := by
    intro t s ht
    refine hlab s (List.all_eq_true.2 (hst.1 _ (lk_mem ht))) fun l hl => ?_
    cases hx : lkE D l with
    | none => exact .inl rfl
    | some en =>
      rcases hnewD l en hx with h | ⟨_, h⟩
      · exact .inr h
      · exact absurd hl (h _ (lk_mem ht))
  have hrl : ∀ l en, l ∉ H → lkE σ.d l = some en → ρn l = ρ l ∧ agreeOn ρ ρn en.lab := by
    intro l en hl h
    refine ⟨hn0 l fun en' he => ?_, ?_⟩
    · rcases hnewD l en' he with h' | ⟨h', _⟩
      · exact hl (memB_iff.1 h')
      · exact (h' _ (lkE_mem h)).1 rfl
    · have hmem : (l, en) ∈ delEs σ.d H := lkE_mem (by rw [lkE_delEs, if_neg hl]; exact h)
      have := hst.2 _ hmem
      intro q hq
      have h1 := this q hq
      cases hx : lkE D q with
      | none => exact congrArg LV.v (hn0 q fun en he => by rw [hx] at he; cases he)
      | some en' =>
        rcases hnewD q en' hx with h' | ⟨h', _⟩
        · have h1' : q ∈ D.map (·.1) := List.mem_map.2 ⟨(q, en'), lkE_mem hx, rfl⟩
          rw [h', memB_iff.2 h1'] at h1; exact hK q (memB_iff.1 (by simpa using h1))
        · exact absurd hq (h' _ (lkE_mem h)).2
  -- what is ours then
  have hlk : ∀ l en, lkE (D ++ delEs σ.d H) l = some en → lkE D l = some en ∨ (lkE D l = none ∧ l ∉ H ∧ lkE σ.d l = some en) := by
    intro l en h
    rw [lkE_append] at h
    cases hx : lkE D l with
    | some e => rw [hx] at h; simp at h; subst h; exact .inl rfl
    | none =>
      rw [hx] at h; simp only [Option.none_or, lkE_delEs] at h
      split at h
      · cases h
      · rename_i hn; exact .inr ⟨rfl, hn, h⟩
  have hUn : ∀ k, Un F.S0 ρn (D ++ delEs σ.d H) k → Un (fun k => Un F.S0 ρ σ.d k ∧ ¬ Owns (fun i => ρ (r i)) din k) ρ' dout k := by
    rintro k (h | ⟨l, en, h1, h2⟩)
    · refine .inl ⟨.inl h, fun h' => ?_⟩
      obtain ⟨l, en, _, h3, h4⟩ := hown k h'
      exact hc.apart l en k h3 h4 h
    · rcases hlk l en h1 with h3 | ⟨_, h3, h4⟩
      · obtain ⟨i, en', rfl, h5, _⟩ := hD1 l en h3
        rw [hn1 i en' h5] at h2
        exact .inr ⟨i, en', h5, h2⟩
      · rw [(hrl l en h3 h4).1] at h2
        exact .inl ⟨.inr ⟨l, en, h4, h2⟩, hrest l en k h3 h4 h2⟩
  have hUo : ∀ k, k < w.heap.size → Un (fun k => Un F.S0 ρ σ.d k ∧ ¬ Owns (fun i => ρ (r i)) din k) ρ' dout k → Un F.S0 ρ σ.d k := by
    rintro k hk (h | ⟨i, en, h1, h2⟩)
    · exact h.1
    · rcases (ho.fresh i en k h1 h2).1 with h | h
      · omega
      · exact hownU k h
  have hE1 : Ext (Un (fun k => Un F.S0 ρ σ.d k ∧ ¬ Owns (fun i => ρ (r i)) din k) ρ' dout) (Un F.S0 ρn (D ++ delEs σ.d H)) w' w' := ⟨Nat.le_refl _, fun k _ hk => ⟨rfl, fun h => hk (hUn k h)⟩⟩
  have hE : Ext (Un F.S0 ρ σ.d) (Un F.S0 ρn (D ++ delEs σ.d H)) w w' := ⟨ho.size, fun k hk hn => ⟨ho.frame k hk (fun h => hn (hownU k h)), fun h => hn (hUo k hk (hUn k h))⟩⟩
  simp only [closed, Bool.and_eq_true, List.all_eq_true] at hcl
  have hdl : ∀ i en, lkE dout i = some en → agreeOn ρ' (fun i => ρn (r i)) en.lab := by
    intro i en h j hj
    have := hcl.2 _ (lkE_mem h) j hj
    cases hx : lkE dout j with
    | none => rw [hx] at this; cases this
    | some e => exact congrArg LV.v (hn1 j e hx)
  have hcore : Core F (D ++ delEs σ.d H) ρn w' := by
    refine ⟨hc.low, Nat.le_trans hc.size ho.size, fun k hk hr' => ?_, ho.os.trans hc.os, ho.tape.trans hc.tape, ho.output.trans hc.output, fun l en h => ?_, fun l en b h hb => ?_, fun l l' en en' b h h' hb hb' => ?_, fun l en b h hb => ?_⟩
    · rw [ho.frame k (Nat.lt_of_lt_of_le hk hc.size) (fun h => ?_)]
      · exact hc.frame k hk hr'
      · obtain ⟨l, en, _, h1, h2⟩ := hown k h
        rcases (hc.fresh l en k h1 h2).1 with h3 | h3
        · omega
        · exact hr' h3
    · rcases hlk l en h with h3 | ⟨_, h3, h4⟩
      · obtain ⟨i, en', rfl, h5, h6⟩ := hD1 l en h3
        have h7 := Ent.ok_mono (ρ' := fun i => ρn (r i)) (ho.own i en' h5) hE1 (hdl i en' h5) (fun _ _ => rfl)
        rw [hn1 i en' h5]
        rcases h6 with h6 | ⟨T, T0, m, l0, pb, h8, h9, h10⟩
        · rw [h6, ent_map]; exact h7
        · subst h8 h9
          obtain ⟨h11, h12⟩ := h7
          have h13 : ((Ent.box T m none).map r).ok ρn (Un F.S0 ρn (D ++ delEs σ.d H)) w' (ρ' i) := by rw [ent_map]; exact ⟨h11, fun c hc => by cases hc⟩
          refine ⟨h13.1, fun c hpb => ?_⟩
          obtain ⟨_, h14⟩ := hc.own _ _ h10
          have h15 := h14 c hpb
          rw [h12 (A i) rfl, hA i c h15]
      · obtain ⟨h5, h6⟩ := hrl l en h3 h4
        rw [h5]
        exact Ent.ok_mono (hc.own l en h4) hE h6 (fun b hb => ho.frame b (hc.fresh l en b h4 hb).2 (hrest l en b h3 h4 hb))
    · rcases hlk l en h with h3 | ⟨_, h3, h4⟩
      · obtain ⟨i, en', rfl, h5, _⟩ := hD1 l en h3
        rw [hn1 i en' h5] at hb
        obtain ⟨h6, h7⟩ := ho.fresh i en' b h5 hb
        refine ⟨?_, h7⟩
        rcases h6 with h6 | h6
        · exact .inl (Nat.le_trans hc.size h6)
        · obtain ⟨l', e', _, h8, h9⟩ := hown b h6; exact (hc.fresh l' e' b h8 h9).1
      · rw [(hrl l en h3 h4).1] at hb
        exact ⟨(hc.fresh l en b h4 hb).1, Nat.lt_of_lt_of_le (hc.fresh l en b h4 hb).2 ho.size⟩
    · have key : ∀ i en1 l2 en2, lkE dout i = some en1 → Has (ρ' i) b → l2 ∉ H → lkE σ.d l2 = some en2 → Has (ρ l2) b → False := by
        intro i en1 l2 en2 h1 h2 h3 h4 h5
        rcases (ho.fresh i en1 b h1 h2).1 with h6 | h6
        · have := (hc.fresh l2 en2 b h4 h5).2; omega
        · exact hrest l2 en2 b h3 h4 h5 h6
      rcases hlk l en h with h3 | ⟨_, h3, h4⟩
      · obtain ⟨i, e1, rfl, h5, _⟩ := hD1 l en h3
        rw [hn1 i e1 h5] at hb
        rcases hlk l' en' h' with h3' | ⟨_, h3', h4'⟩
        · obtain ⟨i', e1', rfl, h5', _⟩ := hD1 l' en' h3'
          rw [hn1 i' e1' h5'] at hb'
          rw [ho.inj i i' e1 e1' b h5 h5' hb hb']
        · rw [(hrl l' en' h3' h4').1] at hb'
          exact (key i e1 l' en' h5 hb h3' h4' hb').elim
      · rw [(hrl l en h3 h4).1] at hb
        rcases hlk l' en' h' with h3' | ⟨_, h3', h4'⟩
        · obtain ⟨i', e1', rfl, h5', _⟩ := hD1 l' en' h3'
          rw [hn1 i' e1' h5'] at hb'
          exact (key i' e1' l en h5' hb' h3 h4 hb).elim
        · rw [(hrl l' en' h3' h4').1] at hb'
          exact hc.inj l l' en en' b h4 h4' hb hb'
    · rcases hlk l en h with h3 | ⟨_, h3, h4⟩
      · obtain ⟨i, en', rfl, h5, _⟩ := hD1 l en h3
        rw [hn1 i en' h5] at hb
        intro h6
        refine ho.apart i en' b h5 hb ⟨.inl h6, fun h7 => ?_⟩
        obtain ⟨l', e', _, h8, h9⟩ := hown b h7
        exact hc.apart l' e' b h8 h9 h6
      · rw [(hrl l en h3 h4).1] at hb; exact hc.apart l en b h4 hb
  refine ⟨⟨ρn, hcore, fun t q ht => ?_⟩, by rw [Act.size_put, hz], by cases d <;> exact hde⟩
  have hold : ∀ t q, lk σ.g t = some q → q.ok ρn (Un F.S0 ρn (D ++ delEs σ.d H)) w' (a.tmps.getD t undef) := fun t q ht => Slot.ok_mono q _ (hs t q ht) hE (hgl t q ht)
  cases d with
  | none => exact hold t q ht
  | some q0 =>
    simp only [gput] at ht
    have hlt : q0 < a.tmps.size := by rw [hz]; exact Nat.le_of_ble_eq_true hdst
    rw [Act.getD_put a q0 v t hlt]
    rw [lk_cons] at ht
    split at ht
    · rename_i h1
      cases ht; rw [if_pos h1, ok_map]
      refine Slot.ok_mono res v ho.slot hE1 fun j hj => ?_
      have := hcl.1 j hj
      cases hx : lkE dout j with
      | none => rw [hx] at this; cases this
      | some e => exact congrArg LV.v (hn1 j e hx)
    · rename_i h1
      rw [if_neg h1]; exact hold t q ht

theorem JM.callM {f : FuncId} {xs : List Operand} {ts : Array TypeId} {ss : List Slot} {res : Slot} {din dout : (Nat → Nat) → List (Nat × Ent)} {D : List (Nat × Ent)} {K H : List Nat} (r : Nat → Nat) (hr : ∀ i j, r i = r j → i = j)
    (hc : ∀ A, ConM F.P f ss (din A) res (dout A)) (hcall : ∀ args w, (callFunc f args).run F.P w = .ok (.enter f args) w) (ha : ArgsM σ r xs ss) (hin : ∀ A, DinR σ r A (din A)) (hout : ∀ A, DoutR σ r A (dout A) D K)
    (hH : ∀ A, (din A).map (fun x => r x.1) = H) (hst : staysB σ.g (delEs σ.d H) H K D = true) (hnew : newB σ H D = true) (hcl : ∀ A, closed res (dout A) = true) (hKH : K.all (fun k => memB k H) = true) (hdst : dstOk d F.N = true) :
    JM F ⟨d, .call ⟨.value (.func f), xs.toArray, ts⟩, ty, p, af, gd⟩ σ ⟨gput d (res.map r) σ.g, D ++ delEs σ.d H⟩ := by
  rintro a w ⟨⟨ρ, hco, hs⟩, hz, hde⟩
  let A : Nat → Nat := fun i => adr (ρ (r i)).v
  have hA : ∀ i b, (ρ (r i)).v = .pointer (some ⟨b, 0, none⟩) → A i = b := fun i b h => by show adr (ρ (r i)).v = b; rw [h]; rfl
  have hd := (hin A).spec hco.own hA
  have hlow : ∀ k, (Un F.S0 ρ σ.d k ∧ ¬ Owns (fun i => ρ (r i)) (din A) k) → k < w.heap.size := by
    rintro k ⟨h | ⟨i, en, h1, h2⟩, _⟩
    · exact Nat.lt_of_lt_of_le (hco.low k h) hco.size
    · exact (hco.fresh i en k h1 h2).2
  have hU : Un (fun k => Un F.S0 ρ σ.d k ∧ ¬ Owns (fun i => ρ (r i)) (din A) k) (fun i => ρ (r i)) (din A) = Un F.S0 ρ σ.d := by
    funext k
    refine propext ⟨fun h => ?_, fun h => ?_⟩
    · rcases h with h | ⟨i, en, h1, h2⟩
      · exact h.1
      · obtain ⟨⟨en0, h3⟩, _⟩ := hd i en h1; exact .inr ⟨r i, en0, h3, h2⟩
    · by_cases ho : Owns (fun i => ρ (r i)) (din A) k
      · exact .inr ho
      · exact .inl ⟨h, ho⟩
  have hins : Ins (fun k => Un F.S0 ρ σ.d k ∧ ¬ Owns (fun i => ρ (r i)) (din A) k) (fun i => ρ (r i)) w (din A) := by
    refine ⟨fun i en h => ?_, fun i en b h hb => ?_, fun i en b h hb h' => h'.2 ⟨i, en, h, hb⟩, fun i j en en' b hi hj bi bj => ?_⟩
    · rw [hU]; exact (hd i en h).2
    · obtain ⟨⟨en0, h3⟩, _⟩ := hd i en h; exact (hco.fresh _ _ b h3 hb).2
    · obtain ⟨⟨en0, h3⟩, _⟩ := hd i en hi
      obtain ⟨⟨en1, h4⟩, _⟩ := hd j en' hj
      exact hr _ _ (hco.inj _ _ _ _ b h3 h4 bi bj)
  have K := Know.of_st hco hs (Op.call ⟨.value (.func f), xs.toArray, ts⟩).operands
  have hv := ha.spec (ys := (Op.call ⟨.value (.func f), xs.toArray, ts⟩).operands) (fun x hx => by simp [Op.operands, Call.operands, hx]) K
  refine OpWp.enter (run_call hcall) ((hc A _ w _ _ hlow hins (by rw [hU]; exact hv)).mono ?_)
  rintro e w' ⟨v, ρ', rfl, ho⟩
  exact ⟨v, rfl, St.callM hr hco hs hz hde hA (hin A) (hout A) (hH A) hst hnew (hcl A) hKH hdst ho⟩
end
/-- names turned by exchanges -/
def sw2 (a b i : Nat) : Nat := bif Nat.beq i a then b else bif Nat.beq i b then a else i
def swp : List (Nat × Nat) → Nat → Nat
  | [], i => i
  | (a, b) :: l, i => swp l (sw2 a b i)
theorem sw2_inv (a b i : Nat) : sw2 a b (sw2 a b i) = i := by
  unfold sw2
  cases h1 : Nat.beq i a <;> cases h2 : Nat.beq i b <;> simp only [cond_true, cond_false, h1, h2]
  all_goals first
    | (have := Nat.eq_of_beq_eq_true h1; subst this; cases h3 : Nat.beq b i <;> simp_all [Nat.beq_refl]; done)
    | (have := Nat.eq_of_beq_eq_true h2; subst this; cases h3 : Nat.beq a i <;> simp_all [Nat.beq_refl]; done)
    | simp_all
theorem swp_inj : ∀ (l : List (Nat × Nat)) (i j : Nat), swp l i = swp l j → i = j
  | [], _, _, h => h
  | (a, b) :: l, i, j, h => by
    have := swp_inj l _ _ h
    rw [← sw2_inv a b i, this, sw2_inv]
end Go.Sw

namespace Go.Sw
open Go Go.RowKit

/-- what an iterator comes to: it hands over these items, in order -/
def IterC (P : Program) (gf : FuncId) (cap : List Slot) (items : List (List Slot)) : Prop :=
  ∀ (S : Nat → Prop) (w : World) (vs : List Value) (ρ : Nat → LV) (l : Nat) (J : Nat → World → Prop) (Jx : World → Prop),
    (∀ k, S k → k < w.heap.size) → Slot.okv ρ S w cap vs → J 0 w →
    (∀ k W, J k W → w.heap.size ≤ W.heap.size ∧ ∀ b, b < w.heap.size → ¬ S b → W.heap[b]? = w.heap[b]?) →
    (∀ k W W', J k W → Below W.heap.size W W' → J k W') → (∀ W W', Jx W → Below W.heap.size W W' → Jx W') →
    (∀ k item W0 W us, items[k]? = some item → J k W0 → Below W0.heap.size W0 W → Slot.okv ρ (fun j => S j ∨ (w.heap.size ≤ j ∧ j < W0.heap.size)) W item us → ∃ fn tmps assign body, (Instr.yield l us.toArray).run P W = .ok (.round l fn tmps assign body) W ∧
      RoundIn Fence.wide 0 P l fn tmps assign body W fun e W' => (e = .returned (.bool true) ∧ J (k + 1) W') ∨ (e = .returned (.bool false) ∧ Jx W')) →
    Calls P gf (.func (.yield l) #[] #[] :: vs).toArray w fun e w' => (∃ v, e = .returned v) ∧ (J items.length w' ∨ Jx w')

/-- items one by one -/
def rng {ι α δ : Type} (step : ι → α → Option (Step α δ)) : List ι → α → Option (Ex α δ)
  | [], y => some (.brk y)
  | i :: is, y => match step i y with
    | none => none
    | some (.next y') => rng step is y'
    | some (.done z) => some (.ret z)
def putL : List Tmp → List Slot → List (Nat × Slot) → List (Nat × Slot)
  | t :: ts, s :: ss, g => putL ts ss ((t, s) :: g)
  | _, _, g => g
/-- boxes have the addresses that they have -/
def pinA (A : Nat → Nat) : List (Nat × Ent) → List (Nat × Ent)
  | [] => []
  | (i, en) :: d => (i, match en with | .box T l _ => .box T l (some (A i)) | .arr T e xs => .arr T e xs | .mp e f m => .mp e f m | .dp D x ls => .dp D x ls) :: pinA A d
theorem lkE_pin {A : Nat → Nat} : ∀ {d : List (Nat × Ent)} {i : Nat} {en : Ent}, lkE (pinA A d) i = some en → ∃ en0, lkE d i = some en0 ∧ ((∃ T l pb, en0 = .box T l pb ∧ en = .box T l (some (A i))) ∨ en = en0)
  | [], i, en, h => by simp [pinA, lkE] at h
  | (j, e) :: d, i, en, h => by
    simp only [pinA] at h
    rw [lkE_cons] at h
    rw [lkE_cons]
    split at h
    · rename_i hj; subst hj; cases h
      rw [if_pos rfl]
      refine ⟨_, rfl, ?_⟩
      cases e with
      | box T l pb => exact .inl ⟨T, l, pb, rfl, rfl⟩
      | arr T e xs => exact .inr rfl
      | mp e f m => exact .inr rfl
      | dp D x ls => exact .inr rfl
    · rename_i hj; rw [if_neg hj]; exact lkE_pin h
theorem lkE_pin1 {A : Nat → Nat} : ∀ {d : List (Nat × Ent)} {i : Nat} {en : Ent}, lkE d i = some en → ∃ en', lkE (pinA A d) i = some en'
  | [], i, en, h => by simp [lkE] at h
  | (j, e) :: d, i, en, h => by
    simp only [pinA]
    rw [lkE_cons] at h ⊢
    split
    · exact ⟨_, rfl⟩
    · rename_i hj; rw [if_neg hj] at h; exact lkE_pin1 h
inductive BoxesIn (A : Nat → Nat) (d : List (Nat × Ent)) : List Nat → Prop
  | nil : BoxesIn A d []
  | cons {i : Nat} {T : TypeId} {l : List Slot} {is : List Nat} : lkE d i = some (.box T l (some (A i))) → BoxesIn A d is → BoxesIn A d (i :: is)
theorem BoxesIn.spec {A : Nat → Nat} {d : List (Nat × Ent)} {is : List Nat} (h : BoxesIn A d is) : ∀ i ∈ is, ∃ T l, lkE d i = some (.box T l (some (A i))) := by
  induction h with
  | nil => intro i h; simp at h
  | cons h1 _ ih =>
    intro i hi
    rcases List.mem_cons.1 hi with rfl | hi
    · exact ⟨_, _, h1⟩
    · exact ih i hi
/-- how an assignment to a loop's variables ends -/
def AQ (F : Frm) (σ : AS) : Exit → Act → World → Prop
  | .normal, a, w => St F σ a w
  | _, _, _ => False
/-- how a round may end -/
def RB {α δ : Type} (F : Frm) (ds : α → List (Nat × Ent)) (dx : δ → List (Nat × Ent)) : Step α δ → Exit → Act → World → Prop
  | .next y, .normal, a, w => St F ⟨[], ds y⟩ a w
  | .done z, .ret, a, w => St F ⟨[], dx z⟩ a w
  | _, _, _, _ => False

theorem Core.pin {F : Frm} {d : List (Nat × Ent)} {ρ : Nat → LV} {w : World} {A : Nat → Nat} (hc : Core F d ρ w) (hA : ∀ i b, (ρ i).v = .pointer (some ⟨b, 0, none⟩) → A i = b) : Core F (pinA A d) ρ w ∧ Un F.S0 ρ (pinA A d) = Un F.S0 ρ d := by
  have hU : Un F.S0 ρ (pinA A d) = Un F.S0 ρ d := by
    funext k
    refine propext ⟨fun h => ?_, fun h => ?_⟩
    · rcases h with h | ⟨i, en, h1, h2⟩
      · exact .inl h
      · obtain ⟨en0, h3, _⟩ := lkE_pin h1; exact .inr ⟨i, en0, h3, h2⟩
    · rcases h with h | ⟨i, en, h1, h2⟩
      · exact .inl h
      · obtain ⟨en', h3⟩ := lkE_pin1 (A := A) h1; exact .inr ⟨i, en', h3, h2⟩
  refine ⟨⟨hc.low, hc.size, hc.frame, hc.os, hc.tape, hc.output, fun i en h => ?_, fun i en b h => ?_, fun i j en en' b hi hj => ?_, fun i en b h => ?_⟩, hU⟩
  · obtain ⟨en0, h1, h2⟩ := lkE_pin h
    rw [hU]
    have := hc.own i en0 h1
    rcases h2 with ⟨T, l, pb, rfl, rfl⟩ | rfl
    · obtain ⟨⟨b, cs, k1, k2, k3⟩, _⟩ := this
      exact ⟨⟨b, cs, k1, k2, k3⟩, fun c hc => by cases hc; rw [k1, hA i b k1]⟩
    · exact this
  · obtain ⟨en0, h1, _⟩ := lkE_pin h; exact hc.fresh i en0 b h1
  · obtain ⟨en0, h1, _⟩ := lkE_pin hi
    obtain ⟨en1, h2, _⟩ := lkE_pin hj
    exact hc.inj i j en0 en1 b h1 h2
  · obtain ⟨en0, h1, _⟩ := lkE_pin h; exact hc.apart i en0 b h1

/-- a change at blocks that are not ours and at which nothing lies that is read -/
theorem Core.turn {F F' : Frm} {d : List (Nat × Ent)} {ρ : Nat → LV} {w w' : World} {l : Nat} (hc : Core F d ρ w) (hl : F.S0 l) (hS : F'.S0 = F.S0) (hz : w'.heap.size = w.heap.size) (ho : ∀ k, k ≠ l → w'.heap[k]? = w.heap[k]?)
    (hsz : F'.w0.heap.size ≤ w'.heap.size) (hlow : ∀ k, F.S0 k → k < F'.w0.heap.size) (hfr : ∀ k, k < F'.w0.heap.size → ¬ F'.R k → w'.heap[k]? = F'.w0.heap[k]?) (hos : w'.os = F'.w0.os) (htp : w'.tape = F'.w0.tape) (hout : w'.output = F'.w0.output)
    (hR : ∀ i en b, lkE d i = some en → Has (ρ i) b → F'.w0.heap.size ≤ b ∨ F'.R b) : Core F' d ρ w' ∧ Ext (Un F.S0 ρ d) (Un F'.S0 ρ d) w w' := by
  have hE : Ext (Un F.S0 ρ d) (Un F'.S0 ρ d) w w' := ⟨by rw [hz]; exact Nat.le_refl _, fun k _ hk => ⟨ho k fun e => hk (.inl (e ▸ hl)), by rw [hS]; exact hk⟩⟩
  have hne : ∀ i en b, lkE d i = some en → Has (ρ i) b → b ≠ l := fun i en b h hb e => hc.apart i en b h hb (e ▸ hl)
  exact ⟨⟨by rw [hS]; exact hlow, hsz, hfr, hos, htp, hout, fun i en h => Ent.ok_mono (hc.own i en h) hE (fun _ _ => rfl) (fun b hb => ho b (hne i en b h hb)), fun i en b h hb => ⟨hR i en b h hb, by rw [hz]; exact (hc.fresh i en b h hb).2⟩, hc.inj, fun i en b h hb => by rw [hS]; exact hc.apart i en b h hb⟩, hE⟩

theorem foldl_size (ps : List (Tmp × Value)) (t : Array Value) : (ps.foldl (fun tmps (t, a) => tmps.setIfInBounds t a) t).size = t.size := by
  induction ps generalizing t with
  | nil => rfl
  | cons x ps ih => simp only [List.foldl_cons]; rw [ih]; simp
/-- slots behind a round's parameters -/
theorem putL_ok {ρ : Nat → LV} {S : Nat → Prop} {w : World} : ∀ (ps : List Tmp) (ss : List Slot) (us : List Value) (g : List (Nat × Slot)) (tm : Array Value), (∀ t s, lk g t = some s → s.ok ρ S w (tm.getD t undef)) → Slot.okv ρ S w ss us → ps.length = ss.length → (∀ t ∈ ps, t < tm.size) →
    ∀ t s, lk (putL ps ss g) t = some s → s.ok ρ S w (((ps.zip us).foldl (fun tmps (t, a) => tmps.setIfInBounds t a) tm).getD t undef)
  | [], [], us, g, tm, hg, hu, _, _ => by simp only [Slot.okv] at hu; subst hu; exact hg
  | p :: ps, s0 :: ss, us, g, tm, hg, hu, hl, hlt => by
    simp only [Slot.okv] at hu
    obtain ⟨u, us, rfl, h1, h2⟩ := hu
    simp only [putL, List.zip_cons_cons, List.foldl_cons]
    refine putL_ok ps ss us _ _ (fun t s ht => ?_) h2 (by simpa using hl) (fun t ht => by simpa using hlt t (List.mem_cons_of_mem _ ht))
    have hp := hlt p List.mem_cons_self
    rw [lk_cons] at ht
    rw [Array.getD_eq_getD_getElem?, Array.getElem?_setIfInBounds]
    split at ht
    · rename_i hpt; subst hpt; cases ht; simp [hp]; exact h1
    · rename_i hpt
      rw [if_neg hpt, ← Array.getD_eq_getD_getElem?]; exact hg t s ht
  | [], _ :: _, _, _, _, _, _, hl, _ => by simp at hl
  | _ :: _, [], _, _, _, _, _, hl, _ => by simp at hl

/-- 'for .. := range g { .. }' -/
theorem W.range {F0 F : Frm} {σ : AS} {cs : List Code} {Q : Exit → Act → World → Prop} {gt : Tmp} {ps : Array Tmp} {assign body : Code} {α ι δ : Type} {gf : FuncId} {cap : List Slot} {step : ι → α → Option (Step α δ)} {its : List ι} {x0 : α} {o : Ex α δ} (enc : ι → List Slot)
    {g : List (Nat × Slot)} {ds0 : List (Nat × Ent)} (ds : (Nat → Nat) → α → List (Nat × Ent)) (dx : (Nat → Nat) → δ → List (Nat × Ent)) (σ1 : (Nat → Nat) → ι → α → AS) {L : List Nat}
    (hF : Fol F0 F) (hrd : F.rd = none) (hm : rng step its x0 = some o) (h0 : Sub F σ ⟨g, ds0⟩) (hds : ∀ A, pinA A ds0 = ds A x0) (hg : lk g gt = some (.fnc gf cap)) (hit : IterC F.P gf cap (its.map enc))
    (hcall : ∀ args w, (callFunc gf args).run F.P w = .ok (.enter gf args) w) (hps : ∀ it, (enc it).length = ps.size) (hpN : ps.toList.all (fun t => Nat.blt t F.N) = true) (hel : ∀ it, Slot.labs (enc it) = [])
    (hL : (g.flatMap fun q => q.2.lab) = L) (hbx : ∀ A y, BoxesIn A (ds A y) L) (hbz : ∀ A z, BoxesIn A (dx A z) L)
    (hassign : ∀ A S w R l it y, W ⟨F.P, F.N, S, w, R, some l, []⟩ [assign] ⟨putL ps.toList (enc it) g, ds A y⟩ (AQ ⟨F.P, F.N, S, w, R, some l, []⟩ (σ1 A it y)))
    (hbody : ∀ A S w R l it y r, step it y = some r → W ⟨F.P, F.N, S, w, R, some l, []⟩ [body] (σ1 A it y) (RB ⟨F.P, F.N, S, w, R, some l, []⟩ (ds A) (dx A) r))
    (hk : ∀ A y, o = .brk y → ∀ S w R df, Fol F0 ⟨F.P, F.N, S, w, R, none, df⟩ → W ⟨F.P, F.N, S, w, R, none, df⟩ cs ⟨g, ds A y⟩ Q)
    (hx : ∀ A z, o = .ret z → ∀ S w R df, Fol F0 ⟨F.P, F.N, S, w, R, none, df⟩ → XQ ⟨F.P, F.N, S, w, R, none, df⟩ ⟨g, dx A z⟩ Q .ret) :
    W F (.rangeFunc (.tmp gt) ps assign body :: cs) σ Q := by
  intro a w hst
  obtain ⟨⟨ρ0, hc0, hs0⟩, hz, hde⟩ := h0 a w hst
  have hfe : F.fe = Fence.wide := by show ({ Fence.wide with round := F.rd } : Fence) = _; rw [hrd]; rfl
  let A : Nat → Nat := fun i => adr (ρ0 i).v
  obtain ⟨hc0, hU0⟩ := hc0.pin (A := A) (fun i b h => by show adr (ρ0 i).v = b; rw [h]; rfl)
  replace hs0 : ∀ t s, lk g t = some s → s.ok ρ0 (Un F.S0 ρ0 (ds A x0)) w (a.tmps.getD t undef) := by intro t s ht; rw [← hds, hU0]; exact hs0 t s ht
  rw [hds] at hc0
  clear hU0
  -- the function that is ranged over
  have hfn := hs0 gt _ hg
  simp only [Slot.ok] at hfn
  obtain ⟨vs, hv1, hv2⟩ := hfn
  obtain ⟨D, hD⟩ : ∃ D, D = w.heap.size := ⟨_, rfl⟩
  refine wpIn_rangeFunc fun fn _ => ?_
  obtain ⟨rec, hrec⟩ : ∃ rec : LoopState → Option Code → Loop, rec = fun st pe => { state := st, pending := pe, fn, tmps := a.tmps, params := ps, assign, body, defers := D } := ⟨_, rfl⟩
  obtain ⟨W1, hW1⟩ : ∃ W1, (w.alloc (.deferred (some []))).alloc (.loop (rec .ready none)) = W1 := ⟨_, rfl⟩
  have hb1 : Below w.heap.size w W1 := by rw [← hW1]; exact ((Below.refl _ w).alloc (Nat.le_refl _) _).alloc (by simp) _
  have hz1 : W1.heap.size = D + 2 := by rw [← hW1, hD]; simp
  have hL1 : W1.heap[D + 1]? = some (.loop (rec .ready none)) := by
    rw [← hW1, hD]; have := World.alloc_heap_new (w.alloc (.deferred (some []))) (.loop (rec .ready none)); rwa [World.size_alloc] at this
  have hK1 : W1.heap[D]? = some (.deferred (some [])) := by
    rw [← hW1, hD]; exact (Below.heap_alloc _ _ _ (by simp)).trans (World.alloc_heap_new w _)
  let S1 : Nat → Prop := fun k => F.S0 k ∨ k = D ∨ k = D + 1
  let R1 : Nat → Prop := Owns ρ0 (ds A x0)
  let FL : Frm := ⟨F.P, F.N, S1, W1, R1, none, []⟩
  let FX : Frm := ⟨F.P, F.N, S1, W1, fun k => R1 k ∨ k = D + 1, none, []⟩
  have hS1 : ∀ k, S1 k → k < W1.heap.size := by
    rintro k (h | rfl | rfl)
    · have := hc0.low k h; have := hc0.size; omega
    · omega
    · omega
  have hE01 : Ext (Un F.S0 ρ0 (ds A x0)) (Un S1 ρ0 (ds A x0)) w W1 := ⟨hb1.size, fun k hk hn => ⟨hb1.block k hk, by
    rintro ((h | rfl | rfl) | h)
    · exact hn (.inl h)
    · omega
    · omega
    · exact hn (.inr h)⟩⟩
  have hC1 : Core FL (ds A x0) ρ0 W1 := by
    refine ⟨hS1, Nat.le_refl _, fun _ _ _ => rfl, rfl, rfl, rfl, fun i en h => Ent.ok_mono (hc0.own i en h) hE01 (fun _ _ => rfl) (fun b hb => hb1.block b (hc0.fresh i en b h hb).2), fun i en b h hb => ⟨.inr ⟨i, en, h, hb⟩, Nat.lt_of_lt_of_le (hc0.fresh i en b h hb).2 hb1.size⟩, hc0.inj, fun i en b h hb => ?_⟩
    rintro (h' | rfl | rfl)
    · exact hc0.apart i en b h hb h'
    · have := (hc0.fresh i en _ h hb).2; omega
    · have := (hc0.fresh i en _ h hb).2; omega
  have hlD : ∀ {d : List (Nat × Ent)} {ρ : Nat → LV} {W : World}, Core FL d ρ W → W.heap[D + 1]? = some (.loop (rec .ready none)) ∧ W.heap[D]? = some (.deferred (some [])) := by
    intro d ρ W hc
    have hnR : ∀ k, k = D ∨ k = D + 1 → ¬ R1 k := by
      rintro k hk ⟨i, en, h1, h2⟩
      have := (hc0.fresh i en k h1 h2).2; omega
    exact ⟨(hc.frame (D + 1) (by show D + 1 < W1.heap.size; omega) (hnR _ (.inr rfl))).trans hL1, (hc.frame D (by show D < W1.heap.size; omega) (hnR _ (.inl rfl))).trans hK1⟩
  -- labels of what is fixed
  have hag : ∀ {d : List (Nat × Ent)} {ρ : Nat → LV} {W : World} {FF : Frm}, Core FF d ρ W → BoxesIn A d L → ∀ t s, lk g t = some s → agreeOn ρ0 ρ s.lab := by
    intro d ρ W FF hc hb t s ht i hi
    have hiL : i ∈ L := by rw [← hL]; exact List.mem_flatMap.2 ⟨_, lk_mem ht, hi⟩
    obtain ⟨T, l, h1⟩ := hb.spec i hiL
    obtain ⟨T', l', h2⟩ := (hbx A x0).spec i hiL
    rw [(hc.own i _ h1).2 _ rfl, (hc0.own i _ h2).2 _ rfl]
  -- what held ahead of the loop holds between rounds
  have hEk : ∀ {d : List (Nat × Ent)} {ρ : Nat → LV} {W : World}, Core FL d ρ W → Ext (Un S1 ρ0 (ds A x0)) (Un S1 ρ d) W1 W := by
    intro d ρ W hc
    refine ⟨hc.size, fun k hk hn => ⟨hc.frame k hk (fun h => hn (.inr h)), ?_⟩⟩
    rintro (h | ⟨i, en, h1, h2⟩)
    · exact hn (.inl h)
    · rcases (hc.fresh i en k h1 h2).1 with h | h
      · have : W1.heap.size ≤ k := h
        omega
      · exact hn (.inr h)
  have hEx : ∀ {d : List (Nat × Ent)} {ρ : Nat → LV} {W : World}, Core FX d ρ W → Ext (Un S1 ρ0 (ds A x0)) (Un S1 ρ d) W1 W := by
    intro d ρ W hc
    have hnl : ∀ k, ¬ Un S1 ρ0 (ds A x0) k → ¬ (R1 k ∨ k = D + 1) := by
      rintro k hn (h | rfl)
      · exact hn (.inr h)
      · exact hn (.inl (.inr (.inr rfl)))
    refine ⟨hc.size, fun k hk hn => ⟨hc.frame k hk (hnl k hn), ?_⟩⟩
    rintro (h | ⟨i, en, h1, h2⟩)
    · exact hn (.inl h)
    · rcases (hc.fresh i en k h1 h2).1 with h | h
      · have : W1.heap.size ≤ k := h
        omega
      · exact hnl k hn h
  -- behind the loop
  have hfol : ∀ {d : List (Nat × Ent)} {ρ : Nat → LV} {W W' : World} {FF : Frm}, (FF = FL ∨ FF = FX) → Core FF d ρ W → W'.heap.size = W.heap.size → (∀ k, k ≠ D + 1 → W'.heap[k]? = W.heap[k]?) → W'.os = W.os → W'.tape = W.tape → W'.output = W.output → W.heap[D]? = some (.deferred (some [])) →
      Fol F0 ⟨F.P, F.N, S1, W', Owns ρ d, none, { target := .collected D, args := #[] } :: F.df⟩ ∧ Core ⟨F.P, F.N, S1, W', Owns ρ d, none, { target := .collected D, args := #[] } :: F.df⟩ d ρ W' ∧ Ext (Un S1 ρ d) (Un S1 ρ d) W W' := by
    intro d ρ W W' FF hFF hc hzz hother hos htp hout hKD
    have hFS : FF.S0 = S1 := by rcases hFF with rfl | rfl <;> rfl
    have hFw : FF.w0 = W1 := by rcases hFF with rfl | rfl <;> rfl
    have hFR : ∀ k, FF.R k → R1 k ∨ k = D + 1 := by rcases hFF with rfl | rfl; exact fun k h => .inl h; exact fun k h => h
    have hcs := hc.size
    rw [hFw] at hcs
    have hfr : ∀ k, k < W1.heap.size → ¬ R1 k → k ≠ D + 1 → W.heap[k]? = W1.heap[k]? := fun k h1 h2 h3 => by
      have := hc.frame k (by rw [hFw]; exact h1) (fun h => (hFR k h).elim h2 h3); rwa [hFw] at this
    have hnown : ∀ k, F.S0 k ∨ k = D ∨ k = D + 1 → ¬ Owns ρ d k := by
      rintro k hk ⟨i, en, h1, h2⟩
      have := hc.apart i en k h1 h2
      rw [hFS] at this; exact this hk
    have hRold : ∀ k, Owns ρ d k → k < W1.heap.size → R1 k := by
      rintro k ⟨i, en, h1, h2⟩ hk
      rcases (hc.fresh i en k h1 h2).1 with h | h
      · rw [hFw] at h; omega
      · rcases hFR k h with h | rfl
        · exact h
        · exact absurd ⟨i, en, h1, h2⟩ (hnown _ (.inr (.inr rfl)))
    have hR0 : ∀ k, R1 k → F0.w0.heap.size ≤ k ∨ F0.R k := by
      rintro k ⟨i, en, h1, h2⟩
      rcases (hc0.fresh i en k h1 h2).1 with h | h
      · exact .inl (Nat.le_trans hF.size h)
      · exact hF.fresh k h
    have hosz : W'.os = F.w0.os ∧ W'.tape = F.w0.tape ∧ W'.output = F.w0.output := by
      have h1 := hc.os; have h2 := hc.tape; have h3 := hc.output
      rw [hFw] at h1 h2 h3
      exact ⟨((hos.trans h1).trans hb1.os).trans hc0.os, ((htp.trans h2).trans hb1.tape).trans hc0.tape, ((hout.trans h3).trans hb1.output).trans hc0.output⟩
    have hct := hc.turn (F' := ⟨F.P, F.N, S1, W', Owns ρ d, none, { target := .collected D, args := #[] } :: F.df⟩) (l := D + 1) (by rw [hFS]; exact .inr (.inr rfl)) hFS.symm hzz hother (Nat.le_refl _) (fun k h => by rw [hFS] at h; show k < W'.heap.size; have := hS1 k h; omega)
      (fun _ _ _ => rfl) rfl rfl rfl (fun i en b h hb => .inr ⟨i, en, h, hb⟩)
    rw [hFS] at hct
    refine ⟨⟨hF.P, fun k h => .inl (hF.S k h), by show F0.w0.heap.size ≤ W'.heap.size; have := hF.size; have := hc0.size; omega, hF.low, fun k hk hr => ?_, hosz.1.trans hF.os, hosz.2.1.trans hF.tape, hosz.2.2.trans hF.output, fun k hk => ?_, fun x hx => ?_, ?_⟩, hct.1, hct.2⟩
    · have hs1 := hF.size; have hs2 := hc0.size
      obtain ⟨h1, h2⟩ := hF.frame k hk hr
      have hnR1 : ¬ R1 k := fun h => (hR0 k h).elim (fun h => by omega) hr
      refine ⟨?_, fun h => hnR1 (hRold k h (by omega))⟩
      show W'.heap[k]? = _
      rw [hother k (by omega), hfr k (by omega) hnR1 (by omega), hb1.block k (by omega), hc0.frame k (by omega) h2, h1]
    · by_cases hlt : k < W1.heap.size
      · exact hR0 k (hRold k hk hlt)
      · have hs1 := hF.size; have hs2 := hc0.size; exact .inl (by omega)
    · rcases List.mem_cons.1 hx with rfl | hx
      · have hs1 := hF.size; have hs2 := hc0.size
        exact ⟨D, rfl, .inr (.inl rfl), hnown D (.inr (.inl rfl)), by omega, by show W'.heap[D]? = _; rw [hother D (by omega)]; exact hKD⟩
      · obtain ⟨r, h1, h2, h3, h4, h5⟩ := hF.df x hx
        have hlt := hc0.low r h2
        have hs2 := hc0.size
        refine ⟨r, h1, .inl h2, hnown r (.inl h2), h4, ?_⟩
        show W'.heap[r]? = _
        have hnR1 : ¬ R1 r := fun ⟨i, en, h6, h7⟩ => hc0.apart i en r h6 h7 h2
        rw [hother r (by omega), hfr r (by omega) hnR1 (by omega), hb1.block r (by omega), hc0.frame r hlt h3, h5]
    · refine List.pairwise_cons.2 ⟨fun x hx e => ?_, hF.nd⟩
      obtain ⟨r, h1, h2, _⟩ := hF.df x hx
      rw [h1] at e
      have e' : D = r := by simpa using e
      have := hc0.low r h2
      have := hc0.size
      omega
  -- the iterator
  let J : Nat → World → Prop := fun k W => ∃ y ρ, rng step (its.drop k) y = some o ∧ Core FL (ds A y) ρ W
  let Jx : World → Prop := fun W => ∃ z ρ, o = .ret z ∧ Core FX (dx A z) ρ W ∧ W.heap[D + 1]? = some (.loop (rec .done (some .ret))) ∧ W.heap[D]? = some (.deferred (some []))
  refine ⟨D + 1, [{ target := .collected D, args := #[] }], W1, { target := .fn (.func gf) vs.toArray, args := #[.func (.yield (D + 1)) #[] #[]] }, W1, gf, (.func (.yield (D + 1)) #[] #[] :: vs).toArray, W1, ?_, ?_, fun _ _ => by rw [hfe]; trivial, ?_, fun h => (by rw [hfe] at h; cases h), ?_⟩
  · rw [← hW1, hrec, hD]; show (Instr.enterLoop _ _ _ _ _ F.rd).run _ _ = _; rw [hrd]; exact run_enterLoop_outer _ _ _ _ _
  · have : a.eval (.tmp gt) = .func (.func gf) #[] vs.toArray := hv1
    simp only [resolve, this]
    simp [go_sem]
  · simp [invoke, go_sem, hcall]
  rw [hfe]
  refine CallsIn.mono (callsIn_wide.2 (hit (Un S1 ρ0 (ds A x0)) W1 vs ρ0 (D + 1) J Jx ?_ (Slot.okv_mono cap vs hv2 hE01 (fun _ _ => rfl)) ⟨x0, ρ0, by simpa using hm, hC1⟩ ?_ ?_ ?_ ?_)) ?_
  · rintro k (h | ⟨i, en, h1, h2⟩)
    · exact hS1 k h
    · exact (hC1.fresh i en k h1 h2).2
  · rintro k W ⟨y, ρ, _, hc⟩
    exact ⟨hc.size, fun b hb hn => hc.frame b hb (fun h => hn (.inr h))⟩
  · rintro k W W' ⟨y, ρ, h1, hc⟩ hbel
    exact ⟨y, ρ, h1, (hc.below hbel).1⟩
  · rintro W W' ⟨z, ρ, hoz, hc, hl2, hk2⟩ hbel
    exact ⟨z, ρ, hoz, (hc.below hbel).1, (hbel.block _ (Array.getElem?_eq_some_iff.1 hl2).1).trans hl2, (hbel.block _ (Array.getElem?_eq_some_iff.1 hk2).1).trans hk2⟩
  · -- one round
    rintro k item W0 W us hitem ⟨y, ρ, hrng, hcW0⟩ hbel hus
    have hc := (hcW0.below hbel).1
    have hEi : Ext (fun j => Un S1 ρ0 (ds A x0) j ∨ (W1.heap.size ≤ j ∧ j < W0.heap.size)) (Un S1 ρ (ds A y)) W W := ⟨Nat.le_refl _, fun k _ hn => ⟨rfl, by
      rintro (h | ⟨i, en, h1, h2⟩)
      · exact hn (.inl (.inl h))
      · obtain ⟨h3, h4⟩ := hcW0.fresh i en k h1 h2
        rcases h3 with h3 | h3
        · exact hn (.inr ⟨h3, h4⟩)
        · exact hn (.inl (.inr h3))⟩⟩
    obtain ⟨it, hit1, rfl⟩ : ∃ it, its[k]? = some it ∧ enc it = item := by
      rw [List.getElem?_map] at hitem
      cases hq : its[k]? with
      | none => rw [hq] at hitem; cases hitem
      | some it => rw [hq] at hitem; exact ⟨it, rfl, by simpa using hitem⟩
    have hdrop : its.drop k = it :: its.drop (k + 1) := by
      obtain ⟨hlt, he⟩ := List.getElem?_eq_some_iff.1 hit1
      rw [List.drop_eq_getElem_cons hlt, he]
    rw [hdrop] at hrng
    obtain ⟨hl, hkD⟩ := hlD hc
    have hlen := okv_len hus
    have hy := run_yield (P := F.P) (args := us.toArray) hl (by rw [hrec]; simp [hlen, hps])
    rw [hrec] at hy
    refine ⟨fn, _, assign, body, hy, roundIn_of_wpIn trivial ?_⟩
    let F2 : Frm := ⟨F.P, F.N, S1, W, Owns ρ (ds A y), some (D + 1), []⟩
    have hcW := hc.size
    have hcW2 : W1.heap.size ≤ W.heap.size := hcW
    have hc2 : Core F2 (ds A y) ρ W := ⟨fun k h => by have := hS1 k h; show k < W.heap.size; omega, Nat.le_refl _, fun _ _ _ => rfl, rfl, rfl, rfl, hc.own, fun i en b h hb => ⟨.inr ⟨i, en, h, hb⟩, (hc.fresh i en b h hb).2⟩, hc.inj, hc.apart⟩
    have hmem : agreeOn ρ0 ρ (Slot.labs (enc it)) := fun i hi => by rw [hel it] at hi; simp at hi
    have hst2 : St F2 ⟨putL ps.toList (enc it) g, ds A y⟩ { tmps := ((ps.zip us.toArray).foldl (fun tmps (t, a) => tmps.setIfInBounds t a) a.tmps), defers := [] } W := by
      refine ⟨⟨ρ, hc2, fun t s ht => ?_⟩, ?_, rfl⟩
      · have hzip : (ps.zip us.toArray).foldl (fun tmps (t, a) => tmps.setIfInBounds t a) a.tmps = (ps.toList.zip us).foldl (fun tmps (t, a) => tmps.setIfInBounds t a) a.tmps := by
          rw [← Array.foldl_toList]; simp
        rw [hzip]
        refine putL_ok ps.toList (enc it) us g a.tmps (fun t s ht => ?_) (Slot.okv_mono _ us hus hEi hmem) (by simpa using (hps it).symm) (fun t ht => ?_) t s ht
        · exact Slot.ok_mono s _ (Slot.ok_mono s _ (hs0 t s ht) hE01 (fun _ _ => rfl)) (hEk hc) (fun i hi => hag hc (hbx A y) t s ht i hi)
        · rw [hz]; have := List.all_eq_true.1 hpN t ht; exact Nat.le_of_ble_eq_true this
      · show ((ps.zip us.toArray).foldl (fun tmps (t, a) => tmps.setIfInBounds t a) a.tmps).size = F.N
        rw [← Array.foldl_toList]; rw [foldl_size]; exact hz
    have hass : assign.wpIn F2.fe 0 F.P (Exit.then (run F2.fe F.P (AQ F2 (σ1 A it y)) []) (AQ F2 (σ1 A it y))) _ W := hassign A S1 W (Owns ρ (ds A y)) (D + 1) it y _ _ hst2
    refine wpIn_mono (show assign.wpIn (Fence.wide.inRound (D + 1)) 0 F.P _ _ W from hass) ?_
    have fin : ∀ {e : Exit} {a1 : Act} {w1 : World}, St F2 (σ1 A it y) a1 w1 → ∃ w2, (Instr.beginRound (D + 1)).run F.P w1 = .ok () w2 ∧ body.wpIn (Fence.wide.inRound (D + 1)) 0 F.P (roundPost F.P (D + 1) fun e W' => (e = .returned (.bool true) ∧ J (k + 1) W') ∨ (e = .returned (.bool false) ∧ Jx W')) a1 w2 := by
      intro _ a1 w1 hst1
      obtain ⟨⟨ρ1, hc1, hs1⟩, hz1', hd1⟩ := hst1
      have hnR2 : ∀ k, S1 k → ¬ Owns ρ (ds A y) k := by rintro k hk ⟨i, en, h1, h2⟩; exact hc.apart i en k h1 h2 hk
      have hl1 : w1.heap[D + 1]? = some (.loop (rec .ready none)) := (hc1.frame (D + 1) (by show D + 1 < W.heap.size; have : W1.heap.size ≤ W.heap.size := hc.size; omega) (hnR2 _ (.inr (.inr rfl)))).trans hl
      have hk1 : w1.heap[D]? = some (.deferred (some [])) := (hc1.frame D (by show D < W.heap.size; have : W1.heap.size ≤ W.heap.size := hc.size; omega) (hnR2 _ (.inr (.inl rfl)))).trans hkD
      have hlt1 := (Array.getElem?_eq_some_iff.1 hl1).1
      have hbr := run_beginRound (P := F.P) hl1 (by rw [hrec])
      obtain ⟨w2, hw2⟩ : ∃ w2, w1.putObj (D + 1) (.loop { rec .ready none with state := .busy }) = w2 := ⟨_, rfl⟩
      rw [hw2] at hbr
      have hz2 : w2.heap.size = w1.heap.size := by rw [← hw2]; simp
      have hot2 : ∀ k, k ≠ D + 1 → w2.heap[k]? = w1.heap[k]? := fun k h => by rw [← hw2]; exact World.putObj_heap_other h
      have hl2 : w2.heap[D + 1]? = some (.loop { rec .ready none with state := .busy }) := by rw [← hw2]; exact World.putObj_heap_same hlt1
      let F3 : Frm := ⟨F.P, F.N, S1, w2, Owns ρ1 (σ1 A it y).d, some (D + 1), []⟩
      have hc1s : W.heap.size ≤ w1.heap.size := hc1.size
      have hcWs : W1.heap.size ≤ W.heap.size := hc.size
      obtain ⟨hc3, hE3⟩ := hc1.turn (F' := F3) (l := D + 1) (.inr (.inr rfl)) rfl hz2 hot2 (Nat.le_refl _) (fun k h => by have := hS1 k h; show k < w2.heap.size; omega) (fun _ _ _ => rfl) rfl rfl rfl (fun i en b h hb => .inr ⟨i, en, h, hb⟩)
      refine ⟨w2, hbr, ?_⟩
      -- what the body's world comes to
      have hcomp : ∀ {d : List (Nat × Ent)} {ρ3 : Nat → LV} {w3 w4 : World} {o4 : Obj}, Core F3 d ρ3 w3 → w4 = w3.putObj (D + 1) o4 → (o4 = .loop (rec .ready none) → Core FL d ρ3 w4) ∧ Core FX d ρ3 w4 ∧ w3.heap[D + 1]? = some (.loop { rec .ready none with state := .busy }) ∧ w4.heap[D + 1]? = some o4 ∧ w4.heap[D]? = some (.deferred (some [])) := by
        intro d ρ3 w3 w4 o4 hcc hw4
        have hnR3 : ∀ k, S1 k → ¬ Owns ρ1 (σ1 A it y).d k := by rintro k hk ⟨i, en, h1, h2⟩; exact hc1.apart i en k h1 h2 hk
        have h3s : w2.heap.size ≤ w3.heap.size := hcc.size
        have hl3 : w3.heap[D + 1]? = some (.loop { rec .ready none with state := .busy }) := (hcc.frame (D + 1) (by show D + 1 < w2.heap.size; omega) (hnR3 _ (.inr (.inr rfl)))).trans hl2
        have hk3 : w3.heap[D]? = some (.deferred (some [])) := (hcc.frame D (by show D < w2.heap.size; omega) (hnR3 _ (.inr (.inl rfl)))).trans ((hot2 D (by omega)).trans hk1)
        have hz4 : w4.heap.size = w3.heap.size := by rw [hw4]; simp
        have hot4 : ∀ k, k ≠ D + 1 → w4.heap[k]? = w3.heap[k]? := fun k h => by rw [hw4]; exact World.putObj_heap_other h
        have hl4 : w4.heap[D + 1]? = some o4 := by rw [hw4]; exact World.putObj_heap_same (Array.getElem?_eq_some_iff.1 hl3).1
        have hR3 : ∀ k, k < W1.heap.size → Owns ρ1 (σ1 A it y).d k → R1 k := by
          rintro k hk ⟨i, en, h1, h2⟩
          rcases (hc1.fresh i en k h1 h2).1 with h | ⟨i', en', h3, h4⟩
          · have : W.heap.size ≤ k := h
            omega
          · rcases (hc.fresh i' en' k h3 h4).1 with h | h
            · have : W1.heap.size ≤ k := h
              omega
            · exact h
        have hfr4 : ∀ k, k < W1.heap.size → ¬ R1 k → k ≠ D + 1 → w4.heap[k]? = W1.heap[k]? := by
          intro k hk hnr hne
          rw [hot4 k hne, hcc.frame k (by show k < w2.heap.size; omega) (fun h => hnr (hR3 k hk h))]
          show w2.heap[k]? = _
          rw [hot2 k hne, hc1.frame k (by show k < W.heap.size; omega) (fun h => ?_)]
          · exact hc.frame k hk hnr
          · obtain ⟨i, en, h1, h2⟩ := h
            rcases (hc.fresh i en k h1 h2).1 with h | h
            · have : W1.heap.size ≤ k := h
              omega
            · exact hnr h
        have hw4' : w4.os = w3.os ∧ w4.tape = w3.tape ∧ w4.output = w3.output := by rw [hw4]; exact ⟨rfl, rfl, rfl⟩
        have hw2' : w2.os = w1.os ∧ w2.tape = w1.tape ∧ w2.output = w1.output := by rw [← hw2]; exact ⟨rfl, rfl, rfl⟩
        have hos4 : w4.os = W1.os := hw4'.1.trans (hcc.os.trans (hw2'.1.trans (hc1.os.trans hc.os)))
        have htp4 : w4.tape = W1.tape := hw4'.2.1.trans (hcc.tape.trans (hw2'.2.1.trans (hc1.tape.trans hc.tape)))
        have hop4 : w4.output = W1.output := hw4'.2.2.trans (hcc.output.trans (hw2'.2.2.trans (hc1.output.trans hc.output)))
        have hRR : ∀ i en b, lkE d i = some en → Has (ρ3 i) b → W1.heap.size ≤ b ∨ R1 b := by
          intro i en b h hb
          by_cases hlt : b < W1.heap.size
          · rcases (hcc.fresh i en b h hb).1 with h' | h'
            · have : w2.heap.size ≤ b := h'
              omega
            · exact .inr (hR3 b hlt h')
          · exact .inl (by omega)
        have hlow : ∀ k, S1 k → k < W1.heap.size := hS1
        refine ⟨fun ho4 => ?_, ?_, hl3, hl4, by rw [hot4 D (by omega)]; exact hk3⟩
        · exact (hcc.turn (F' := FL) (l := D + 1) (.inr (.inr rfl)) rfl hz4 hot4 (by show W1.heap.size ≤ w4.heap.size; omega) hlow (fun k hk hnr => by
            by_cases hkl : k = D + 1
            · subst hkl; exact (hl4.trans (by rw [ho4])).trans hL1.symm
            · exact hfr4 k hk hnr hkl) hos4 htp4 hop4 hRR).1
        · exact (hcc.turn (F' := FX) (l := D + 1) (.inr (.inr rfl)) rfl hz4 hot4 (by show W1.heap.size ≤ w4.heap.size; omega) hlow (fun k hk hnr => hfr4 k hk (fun h => hnr (.inl h)) (fun h => hnr (.inr h))) hos4 htp4 hop4 (fun i en b h hb => (hRR i en b h hb).imp (fun h => h) .inl)).1
      have hst3 : St F3 (σ1 A it y) a1 w2 := ⟨⟨ρ1, hc3, fun t s ht => Slot.ok_mono s _ (hs1 t s ht) hE3 (fun _ _ => rfl)⟩, hz1', hd1⟩
      cases hsr : step it y with
      | none => simp only [rng, hsr] at hrng; cases hrng
      | some r =>
        have hbd : body.wpIn F3.fe 0 F.P (Exit.then (run F3.fe F.P (RB F3 (ds A) (dx A) r) []) (RB F3 (ds A) (dx A) r)) a1 w2 := hbody A S1 w2 _ (D + 1) it y r hsr _ _ hst3
        refine wpIn_mono (show body.wpIn (Fence.wide.inRound (D + 1)) 0 F.P _ a1 w2 from hbd) ?_
        intro e a3 w3 hq
        simp only [rng, hsr] at hrng
        cases r with
        | next y' =>
          cases e <;> simp only [RB, Exit.then, run] at hq
          obtain ⟨⟨ρ3, hc3', _⟩, _⟩ := hq
          obtain ⟨h1, h2, h3, h4, h5⟩ := hcomp (o4 := .loop (rec .ready none)) hc3' rfl
          have hen := run_endRound (P := F.P) none h3
          refine ⟨_, _, hen, .inl ⟨rfl, y', ρ3, ?_, ?_⟩⟩
          · exact hrng
          · rw [hrec] at h1 ⊢; exact h1 rfl
        | done z =>
          have hoz : o = .ret z := by simpa using hrng.symm
          cases e <;> simp only [RB, Exit.then, run] at hq
          obtain ⟨⟨ρ3, hc3', _⟩, _⟩ := hq
          obtain ⟨_, h2, h3, h4, h5⟩ := hcomp (o4 := .loop (rec .done (some .ret))) hc3' rfl
          have hen := run_endRound (P := F.P) (some .ret) h3
          refine ⟨_, _, hen, .inr ⟨rfl, z, ρ3, hoz, ?_, ?_, ?_⟩⟩
          · rw [hrec] at h2 ⊢; exact h2
          · rw [hrec] at h4 ⊢; exact h4
          · rw [hrec] at h5 ⊢; exact h5
    intro e a1 w1 hq
    cases e <;> simp only [AQ, Exit.then, run] at hq ⊢ <;> first | exact fin (e := .normal) hq | exact hq
  · -- behind the iterator
    rintro e W2 ⟨⟨v, rfl⟩, ⟨y, ρ, h1, hc⟩ | ⟨z, ρ, hoz, hc, hl2, hkD2⟩⟩
    · obtain ⟨hl, hkD⟩ := hlD hc
      have hoy : o = .brk y := by
        have h2 : its.drop (List.map enc its).length = [] := by simp
        rw [h2] at h1; simpa [rng] using h1.symm
      refine ⟨none, _, (by have := run_endLoop (P := F.P) hl (by rw [hrec]; simp); rw [hrec] at this; exact this), ?_⟩
      obtain ⟨W3, hW3⟩ : ∃ W3, W2.putObj (D + 1) (.loop { rec .ready none with state := .exhausted }) = W3 := ⟨_, rfl⟩
      have hoth : ∀ k, k ≠ D + 1 → W3.heap[k]? = W2.heap[k]? := fun k h => by rw [← hW3]; exact World.putObj_heap_other h
      obtain ⟨hf1, hf2, hf3⟩ := hfol (W' := W3) (.inl rfl) hc (by rw [← hW3]; simp) hoth (by rw [← hW3]; rfl) (by rw [← hW3]; rfl) (by rw [← hW3]; rfl) hkD
      have hfin := hk A y hoy S1 W3 (Owns ρ (ds A y)) _ hf1 { a with defers := [{ target := .collected D, args := #[] }] ++ a.defers } W3 ⟨⟨ρ, hf2, fun t s ht => ?_⟩, hz, by show _ ++ a.defers = _; rw [hde]; rfl⟩
      · have hWeq : W2.putObj (D + 1) (.loop { state := .exhausted, pending := none, fn, tmps := a.tmps, params := ps, assign, body, defers := D }) = W3 := by rw [← hW3, hrec]
        rw [hWeq]
        simp only [Exit.then]
        exact hfin
      · exact Slot.ok_mono s _ (Slot.ok_mono s _ (Slot.ok_mono s _ (hs0 t s ht) hE01 (fun _ _ => rfl)) (hEk hc) (fun i hi => hag hc (hbx A y) t s ht i hi)) hf3 (fun _ _ => rfl)
    · refine ⟨some .ret, _, (by have := run_endLoop (P := F.P) hl2 (by rw [hrec]; simp); rw [hrec] at this; exact this), ?_⟩
      obtain ⟨W3, hW3⟩ : ∃ W3, W2.putObj (D + 1) (.loop { rec .done (some .ret) with state := .exhausted }) = W3 := ⟨_, rfl⟩
      have hoth : ∀ k, k ≠ D + 1 → W3.heap[k]? = W2.heap[k]? := fun k h => by rw [← hW3]; exact World.putObj_heap_other h
      obtain ⟨hf1, hf2, hf3⟩ := hfol (W' := W3) (.inr rfl) hc (by rw [← hW3]; simp) hoth (by rw [← hW3]; rfl) (by rw [← hW3]; rfl) (by rw [← hW3]; rfl) hkD2
      have hfin := hx A z hoz S1 W3 (Owns ρ (dx A z)) _ hf1 { a with defers := [{ target := .collected D, args := #[] }] ++ a.defers } W3 ⟨⟨ρ, hf2, fun t s ht => ?_⟩, hz, by show _ ++ a.defers = _; rw [hde]; rfl⟩
      · have hWeq : W2.putObj (D + 1) (.loop { state := .exhausted, pending := some .ret, fn, tmps := a.tmps, params := ps, assign, body, defers := D }) = W3 := by rw [← hW3, hrec]
        show (Code.ret).wpIn _ _ _ _ _ _
        rw [hWeq]
        exact wpIn_ret hfin
      · exact Slot.ok_mono s _ (Slot.ok_mono s _ (Slot.ok_mono s _ (hs0 t s ht) hE01 (fun _ _ => rfl)) (hEx hc) (fun i hi => hag hc (hbz A z) t s ht i hi)) hf3 (fun _ _ => rfl)

/-- a range over a function, in the model: what comes behind it; what comes where it is left -/
def rg {ι α δ γ : Type} (step : ι → α → Option (Step α δ)) (its : List ι) (x : α) (k : α → Option γ) (kx : δ → Option γ) : Option γ := match rng step its x with
  | none => none
  | some (.brk y) => k y
  | some (.ret z) => kx z
/-- a slice that memory bears -/
def small {α : Type} (xs : List α) : Option Unit := if (xs.length : Int) ≤ 4294967296 then some () else none
/-- a number of a size that pieces may have -/
def chkn (n : Int) : Option Unit := if 1 ≤ n ∧ n ≤ 4294967296 then some () else none
end Go.Sw

namespace Go.Sw
open Go Go.RowKit

/-- a value just that -/
def Enc.cst (u : Value) (h : u.oneCell' = true) : Enc Unit where
  n := 1
  agg := false
  ok _ _ _ cs := cs = [u]
  len h := by rw [h]; rfl
  one _ := rfl
  cell hc c hm := by rw [hc] at hm; simp at hm; subst hm; exact h
  mono h _ := h
instance (u : Value) (h : u.oneCell' = true) : FlatE (Enc.cst u h) := ⟨fun h => h⟩
/-- a pointer, just that, to what lies there -/
def Enc.cp {α : Type} (b off : Nat) (e : Enc α) : Enc α where
  n := 1
  agg := false
  ok x S w cs := cs = [.pointer (some ⟨b, off, none⟩)] ∧ ∃ ds, b < w.heap.size ∧ ¬ S b ∧ MemAt w b off ds ∧ e.ok x S w ds
  len h := by rw [h.1]; rfl
  one _ := rfl
  cell hc c hm := by rw [hc.1] at hm; simp at hm; subst hm; rfl
  mono h k := by
    obtain ⟨h1, ds, h2, h3, h4, h5⟩ := h
    exact ⟨h1, ds, Nat.lt_of_lt_of_le h2 k.size, (k.keep b h2 h3).2, h4.mono h2 h3 k, e.mono h5 k⟩
theorem val_cp {α : Type} {b off : Nat} {e : Enc α} {x : α} {S w v} : (Enc.cp b off e).val x S w v ↔ v = .pointer (some ⟨b, off, none⟩) ∧ ∃ ds, b < w.heap.size ∧ ¬ S b ∧ MemAt w b off ds ∧ e.ok x S w ds :=
  ⟨fun ⟨_, h1, h2⟩ => by obtain ⟨rfl, h3⟩ := h1; exact ⟨h2, h3⟩, fun h => ⟨_, ⟨rfl, h.2⟩, h.1⟩⟩
section
variable {F : Frm} {σ : AS} {s : Slot} {d : Option Tmp} {ty : TypeId} {p : String} {af : Array Edge} {gd : Option (Nat × Bool)} {x y z : Operand}
end
def SW (S : Nat → Prop) (B : Nat) (W : World) (j : Nat) : Prop := S j ∨ (B ≤ j ∧ j < W.heap.size)
abbrev FW (P : Program) (N : Nat) (S : Nat → Prop) (B : Nat) (W : World) : Frm := ⟨P, N, SW S B W, W, fun _ => False, none, []⟩

/-- what an iterator may use -/
structure Its (P : Program) (S : Nat → Prop) (w : World) (ρ : Nat → LV) (l : Nat) (J : Nat → World → Prop) (Jx : World → Prop) (items : List (List Slot)) : Prop where
  low : ∀ k, S k → k < w.heap.size
  keep : ∀ k W, J k W → w.heap.size ≤ W.heap.size ∧ ∀ b, b < w.heap.size → ¬ S b → W.heap[b]? = w.heap[b]?
  below : ∀ k W W', J k W → Below W.heap.size W W' → J k W'
  belowx : ∀ W W', Jx W → Below W.heap.size W W' → Jx W'
  yields : ∀ k item W0 W us, items[k]? = some item → J k W0 → Below W0.heap.size W0 W → Slot.okv ρ (SW S w.heap.size W0) W item us → ∃ fn tmps assign body, (Instr.yield l us.toArray).run P W = .ok (.round l fn tmps assign body) W ∧
      RoundIn Fence.wide 0 P l fn tmps assign body W fun e W' => (e = .returned (.bool true) ∧ J (k + 1) W') ∨ (e = .returned (.bool false) ∧ Jx W')
/-- what can be told anew in whatever world the rounds leave -/
def Again (ρ : Nat → LV) (S : Nat → Prop) (w : World) (s : Slot) : Prop := s.lab = [] ∧ ∀ S1 W1 S2 W2 u, s.ok ρ S1 W1 u → Ext S S2 w W2 → s.ok ρ S2 W2 u
theorem Again.flat {α : Type} {e : Enc α} [FlatE e] {x : α} {ρ S w} : Again ρ S w (.v e x) := ⟨rfl, fun _ _ _ _ u h _ => by
  simp only [Slot.ok] at h ⊢
  obtain ⟨cs, h1, h2⟩ := h
  exact ⟨cs, FlatE.flat h1, h2⟩⟩
theorem Again.cp {α : Type} {e : Enc α} {x : α} {b off : Nat} {ρ S w} (h : (Slot.v (Enc.cp b off e) x).ok ρ S w (.pointer (some ⟨b, off, none⟩))) : Again ρ S w (.v (Enc.cp b off e) x) := ⟨rfl, fun _ _ _ _ u h1 k => by
  simp only [Slot.ok] at h h1 ⊢
  obtain ⟨rfl, _⟩ := val_cp.1 h1
  exact Enc.val_mono h k⟩
inductive AgainL (ρ : Nat → LV) (S : Nat → Prop) (w : World) : List (Nat × Slot) → Prop
  | nil : AgainL ρ S w []
  | cons {t : Nat} {s : Slot} {g : List (Nat × Slot)} : Again ρ S w s → AgainL ρ S w g → AgainL ρ S w ((t, s) :: g)
theorem AgainL.spec {ρ S w} {g : List (Nat × Slot)} (h : AgainL ρ S w g) : ∀ t s, lk g t = some s → Again ρ S w s := by
  induction h with
  | nil => intro t s h; simp [lk] at h
  | cons h1 _ ih =>
    intro t s h
    rw [lk_cons] at h
    split at h
    · cases h; exact h1
    · exact ih t s h
/-- slots that are among others -/
inductive SubS (g : List (Nat × Slot)) : List (Nat × Slot) → Prop
  | nil : SubS g []
  | cons {t : Nat} {s : Slot} {g' : List (Nat × Slot)} : lk g t = some s → SubS g g' → SubS g ((t, s) :: g')
theorem SubS.spec {g g' : List (Nat × Slot)} (h : SubS g g') : ∀ t s, lk g' t = some s → lk g t = some s := by
  induction h with
  | nil => intro t s h; simp [lk] at h
  | cons h1 _ ih =>
    intro t s h
    rw [lk_cons] at h
    split at h
    · rename_i he; subst he; cases h; exact h1
    · exact ih t s h
section
variable {P : Program} {N : Nat} {S : Nat → Prop} {w : World} {ρ : Nat → LV} {l : Nat} {J : Nat → World → Prop} {Jx : World → Prop} {items : List (List Slot)}

theorem Core.none {F : Frm} {ρ : Nat → LV} (hl : ∀ k, F.S0 k → k < F.w0.heap.size) : Core F [] ρ F.w0 :=
  ⟨hl, Nat.le_refl _, fun _ _ _ => rfl, rfl, rfl, rfl, fun i en h => by simp [lkE] at h, fun i en b h => by simp [lkE] at h, fun i j en en' b h => by simp [lkE] at h, fun i en b h => by simp [lkE] at h⟩
theorem Un.none {S : Nat → Prop} {ρ : Nat → LV} : Un S ρ [] = S := by
  funext k; refine propext ⟨fun h => ?_, .inl⟩
  rcases h with h | ⟨i, en, h, _⟩
  · exact h
  · simp [lkE] at h
/-- how a round of an iterator ends -/
def IQ (N : Nat) (J : Nat → World → Prop) (m : Nat) (gs : Nat → List (Nat × Slot)) (Q : Exit → Act → World → Prop) (k : Nat) : Exit → Act → World → Prop
  | .normal, a, W' => k < m ∧ J (k + 1) W' ∧ ∃ F', F'.N = N ∧ F'.df = [] ∧ St F' ⟨gs (k + 1), []⟩ a W'
  | e, a, W' => Q e a W'
/-- how an iterator ends -/
def RetI (P : Program) (fn : Func) (J : Nat → World → Prop) (Jx : World → Prop) (m : Nat) : Exit → Act → World → Prop := bodyPost P fn fun e w' => (∃ v, e = .returned v) ∧ (J m w' ∨ Jx w')
theorem RetI.of {fn : Func} {m : Nat} (hrs : fn.results = #[]) {e : Exit} (he : e = .normal ∨ e = .ret) {a : Act} {V : World} (hd : a.defers = []) (h : J m V ∨ Jx V) : RetI P fn J Jx m e a V := by
  have h1 : a.defers = [] ∧ ∃ v, (results fn a.tmps).run P V = .ok v V ∧ ((∃ u, Ending.returned v = .returned u) ∧ (J m V ∨ Jx V)) := ⟨hd, _, results0 hrs, ⟨_, rfl⟩, h⟩
  rcases he with rfl | rfl <;> exact h1
end
/-- pieces of n -/
def chunks {α : Type} (n : Nat) (xs : List α) : List (List α) := (List.range ((xs.length + n - 1) / n)).map fun k => (xs.drop (k * n)).take n
/-- from the last one to the first one, with their numbers -/
def backs {α : Type} (xs : List α) : List (Int × α) := (xs.zipIdx.map fun x => ((x.2 : Int), x.1)).reverse
end Go.Sw

namespace Go.Sw
open Go Go.RowKit
section
variable {F : Frm} {σ : AS} {pb : Option Nat} {s : Slot} {d : Option Tmp} {ty : TypeId} {p : String} {af : Array Edge} {gd : Option (Nat × Bool)} {x y z : Operand}
/-! ### an empty slice literal, and what is appended to it -/
def Enc.emp {α : Type} (_e : Enc α) : Enc Unit where
  n := 1
  agg := false
  ok _ _ _ cs := ∃ a, cs = [.slice a 0 0]
  len h := by obtain ⟨a, h⟩ := h; rw [h]; rfl
  one _ := rfl
  cell h c hc := by obtain ⟨a, h⟩ := h; rw [h] at hc; simp at hc; subst hc; rfl
  mono h _ := h
/-! ### parts of elements -/
/-- a part of what lies at a place, and what that comes to with another part -/
def Lns {α β : Type} (e : Enc α) (z : α) (off : Nat) (e' : Enc β) (z' : β) (u : β → α) : Prop := ∀ S w cs, e.ok z S w cs → ∃ a c d, cs = a ++ (c ++ d) ∧ a.length = off ∧ e'.ok z' S w c ∧ ∀ z2 c2, e'.ok z2 S w c2 → e.ok (u z2) S w (a ++ (c2 ++ d))
theorem Lns.here {α : Type} {e : Enc α} {z : α} : Lns e z 0 e z (fun y => y) := fun S w cs h => ⟨[], cs, [], by simp, rfl, h, fun z2 c2 h2 => by simpa using h2⟩
theorem Lns.one1 {α γ : Type} {a : Enc α} {e' : Enc γ} {z : α} {z' : γ} {off : Nat} {u : γ → α} (h : Lns a z off e' z' u) : Lns (Enc.one1 a) z off e' z' u := h
theorem Lns.arr {α γ : Type} {m k : Nat} {e : Enc α} {e' : Enc γ} {zs : List α} {y : α} {z' : γ} {off : Nat} {u : γ → α} (hk : zs[k]? = some y) (h : Lns e y off e' z' u) : Lns (Enc.arr m e) zs (k * e.n + off) e' z' (fun v => zs.set k (u v)) := by
  rintro S w cs ⟨hm, h1⟩
  obtain ⟨a', c', b', rfl, hl, hc, hset⟩ := Enc.okL_get h1 hk
  obtain ⟨a2, c2, d2, rfl, k2, k3, k4⟩ := h S w c' hc
  exact ⟨a' ++ a2, c2, d2 ++ b', by simp, by rw [List.length_append, hl, k2], k3, fun z2 c3 h3 => ⟨by simp [hm], by have := hset _ _ (k4 z2 c3 h3); simpa using this⟩⟩
theorem Prj.arr {α γ : Type} {m k : Nat} {e : Enc α} {e' : Enc γ} {zs : List α} {y : α} {z' : γ} {off : Nat} (hk : zs[k]? = some y) (h : Prj e y off e' z') : Prj (Enc.arr m e) zs (k * e.n + off) e' z' := by
  rintro S w cs ⟨_, h1⟩
  obtain ⟨a', c', b', rfl, hl, hc, _⟩ := Enc.okL_get h1 hk
  obtain ⟨a2, c2, d2, rfl, k2, k3⟩ := h S w c' hc
  exact ⟨a' ++ a2, c2, d2 ++ b', by simp, by rw [List.length_append, hl, k2], k3⟩
/-! ### slices of arrays, copies -/
/-- bounds that an array bears -/
def upto (m : Nat) (hi : Int) : Option Unit := if 0 ≤ hi ∧ hi ≤ m then some () else none
/-- what is copied -/
def cpy {α : Type} (n : Nat) (ys zs : List α) : List α := ys.take n ++ zs.drop (min ys.length n)
/-- a clone of a slice that is not nil -/
theorem clone_f {α : Type} {x : Option α} {r : α} (h : x = some r) : (x.bind fun v => some v) = some r := by rw [h]; rfl
end
end Go.Sw

namespace Go.Sw
open Go
end Go.Sw

namespace Go.Sw
open Go Go.RowKit
section
variable {F : Frm} {σ : AS} {x y : Operand} {d : Option Tmp} {ty : TypeId} {p : String} {af : Array Edge} {gd : Option (Nat × Bool)}
end
end Go.Sw

namespace Go.Sw
open Go
theorem JO.pack {F : Frm} {σ : AS} {o : Oper} {l : List Slot} {new : List (Nat × Ent)} {α : Type} {e : Enc α} {z : α} (h : JO F o σ (.agg l) new) (hs : Spl l e z) (ha : e.agg = true) : JO F o σ (.v e z) new := by
  intro ρ S a w K
  refine (h ρ S a w K).mono ?_
  rintro v w' ⟨ρ', h1, h2, h3, h4⟩
  refine ⟨ρ', h1, h2, ?_, h4⟩
  simp only [Slot.ok] at h3 ⊢
  obtain ⟨cs, h5, h6⟩ := h3
  exact ⟨cs, (hs _ _ _ cs).1 h6, by rw [h5]; simp [Enc.pk, ha]⟩
end Go.Sw

namespace Go.Sw
open Go
section
variable {F F' : Frm} {σ : AS} {fn : Func} {r0 r1 r2 r3 r4 : ResultVar} {s0 s1 s2 s3 s4 : Slot} {new : List (Nat × Ent)}
end
end Go.Sw

namespace Go.Sw
open Go Go.RowKit

/-- the labels at which an operation looks, by what is known -/
def rdl (g : List (Nat × Slot)) (o : Oper) : List Nat := o.op.operands.toList.flatMap fun x => match evS g x with | some s => s.lab | none => []
/-- what the operation looks at is the same -/
structure Loc (ops : Array Oper) (o : Oper) (σ0 σ : AS) : Prop where
  g : ∀ u ∈ looks ops o, lk σ.g u = lk σ0.g u
  d : ∀ l ∈ rdl σ0.g o, lkE σ.d l = lkE σ0.d l
section
variable {F : Frm} {ops : Array Oper} {o : Oper} {σ0 σ : AS}
theorem Loc.ev (h : Loc ops o σ0 σ) {x : Operand} (hx : x ∈ o.op.operands) : evS σ.g x = evS σ0.g x := by
  cases x with
  | tmp u => exact h.g u (by simp only [looks, List.mem_append, List.mem_flatMap]; exact .inl ⟨_, by simpa using hx, by simp [rd]⟩)
  | const u => rfl
  | global g => rfl
  | func f => rfl
theorem Loc.ent (h : Loc ops o σ0 σ) {x : Operand} {s : Slot} {l : Nat} (hx : x ∈ o.op.operands) (hs : evS σ0.g x = some s) (hl : l ∈ s.lab) : lkE σ.d l = lkE σ0.d l :=
  h.d l (List.mem_flatMap.2 ⟨x, by simpa using hx, by rw [hs]; exact hl⟩)
theorem JO.loc {s : Slot} {new : List (Nat × Ent)} (h : JO F o σ0 s new) (hl : Loc ops o σ0 σ) : JO F o σ s new := fun ρ S a w K =>
  h ρ S a w ⟨K.low, fun x hx s hs => K.slot x hx s (by rw [hl.ev hx]; exact hs), fun x hx s hs i hi en he => K.ent x hx s (by rw [hl.ev hx]; exact hs) i hi en (by rw [hl.ent hx hs hi]; exact he)⟩
theorem gk_loc {b : Bool} (h : GK ops σ0.g o b) (hl : Loc ops o σ0 σ) : GK ops σ.g o b := by
  unfold GK at h ⊢
  split
  · rename_i hg; rw [hg] at h; exact h
  · rename_i j want hg
    rw [hg] at h
    have key : ∀ t, (ops[j]?).bind (·.dst) = some t → lk σ.g t = lk σ0.g t := fun t ht => hl.g t (by simp [looks, hg, ht])
    rcases h with ⟨t, x, h1, h2, h3⟩ | ⟨h0, t, h1, h2⟩
    · exact .inl ⟨t, x, h1, by rw [key t h1]; exact h2, h3⟩
    · exact .inr ⟨h0, t, h1, by rw [key t h1]; exact h2⟩
end
/-- what an operation makes, and at what it looks -/
structure Itm where
  s : Slot
  nw : List (Nat × Ent)
  fr : Bool
  rl : List Nat
/-- operations in the text's order -/
inductive JP2 (F : Frm) (ops : Array Oper) : List Oper → AS → List Itm → AS → Prop
  | nil {σ : AS} : JP2 F ops [] σ [] σ
  | cons {o : Oper} {os : List Oper} {σ σ' : AS} {s : Slot} {new : List (Nat × Ent)} {h : List Itm} : GK ops σ.g o true → JO F o σ s new → dstOk o.dst F.N = true → σ.free new = true →
      JP2 F ops os ⟨gput o.dst s σ.g, new ++ σ.d⟩ h σ' → JP2 F ops (o :: os) σ (⟨s, new, true, rdl σ.g o⟩ :: h) σ'
  | left {o : Oper} {os : List Oper} {σ σ' : AS} {h : List Itm} : GK ops σ.g o false → dstOk o.dst F.N = true → JP2 F ops os ⟨gput o.dst .top σ.g, σ.d⟩ h σ' → JP2 F ops (o :: os) σ (⟨.top, [], true, rdl σ.g o⟩ :: h) σ'
  | st {o : Oper} {os : List Oper} {σ σ' : AS} {l : Nat} {en : Ent} {h : List Itm} : GK ops σ.g o true → o.dst = none → (∀ σ2, Loc ops o σ σ2 → JM F o σ2 ⟨σ2.g, (l, en) :: σ2.d⟩) →
      JP2 F ops os ⟨σ.g, (l, en) :: σ.d⟩ h σ' → JP2 F ops (o :: os) σ (⟨.top, [(l, en)], false, rdl σ.g o⟩ :: h) σ'

/-- the marks of what each operation waits for -/
def msOk (ops : Array Oper) (ms : List Nat) : Bool := Nat.beq ms.length ops.size && (List.range ops.size).all fun i => match ops[i]? with
  | none => false
  | some o => Nat.beq (ms.getD i 0) ((deps o).foldl (fun m j => m ||| 1 <<< j ||| ms.getD j 0) 0)
/-- waits for -/
inductive Anc (ops : Array Oper) : Nat → Nat → Prop
  | one {i j : Nat} {o : Oper} : ops[i]? = some o → j ∈ deps o → Anc ops i j
  | up {i k j : Nat} {o : Oper} : ops[i]? = some o → k ∈ deps o → Anc ops k j → Anc ops i j
theorem Anc.down {ops : Array Oper} {L : Nat → Bool} (h : Down ops L) : ∀ {i j : Nat}, Anc ops i j → L i = true → L j = true := by
  intro i j ha
  induction ha with
  | one ho hj => exact fun hi => h _ _ hi ho _ hj
  | up ho hk _ ih => exact fun hi => ih (h _ _ hi ho _ hk)
theorem foldl_or_bit {ms : List Nat} {b : Nat} : ∀ {l : List Nat} {m : Nat}, (l.foldl (fun m j => m ||| 1 <<< j ||| ms.getD j 0) m).testBit b = true → m.testBit b = true ∨ ∃ j ∈ l, j = b ∨ (ms.getD j 0).testBit b = true
  | [], m, h => .inl h
  | j :: l, m, h => by
    rw [List.foldl_cons] at h
    rcases foldl_or_bit (l := l) h with h | ⟨q, hq, h⟩
    · rw [Nat.testBit_or, Nat.testBit_or, Bool.or_eq_true, Bool.or_eq_true] at h
      rcases h with (h | h) | h
      · exact .inl h
      · refine .inr ⟨j, List.mem_cons_self, .inl ?_⟩
        rw [Nat.one_shiftLeft, Nat.testBit_two_pow] at h
        simpa using h
      · exact .inr ⟨j, List.mem_cons_self, .inr h⟩
    · exact .inr ⟨q, List.mem_cons_of_mem _ hq, h⟩
theorem back_dep {ops : Array Oper} (hb : backOk ops = true) {i j : Nat} {o : Oper} (ho : ops[i]? = some o) (hj : j ∈ deps o) : j < i := by
  have hi : i < ops.size := by
    rcases Nat.lt_or_ge i ops.size with h | h
    · exact h
    · simp [Array.getElem?_eq_none h] at ho
  have := List.all_eq_true.1 hb i (List.mem_range.2 hi)
  simp only [ho] at this
  simpa using List.all_eq_true.1 this j hj
theorem ms_spec {ops : Array Oper} {ms : List Nat} (hb : backOk ops = true) (hm : msOk ops ms = true) : ∀ i j, (ms.getD i 0).testBit j = true → Anc ops i j := by
  simp only [msOk, Bool.and_eq_true, List.all_eq_true] at hm
  obtain ⟨hl, hm⟩ := hm
  have hl := Nat.eq_of_beq_eq_true hl
  intro i
  induction i using Nat.strongRecOn with
  | _ i ih =>
    intro j h
    rcases Nat.lt_or_ge i ops.size with hlt | hge
    · have h1 := hm i (List.mem_range.2 hlt)
      have ho : ops[i]? = some ops[i] := Array.getElem?_eq_getElem hlt
      simp only [ho] at h1
      rw [Nat.eq_of_beq_eq_true h1] at h
      rcases foldl_or_bit h with h | ⟨q, hq, rfl | h⟩
      · simp at h
      · exact .one ho hq
      · exact .up ho hq (ih q (back_dep hb ho hq) j h)
    · rw [List.getD_eq_getElem?_getD, List.getElem?_eq_none (by omega)] at h; simp at h
theorem Anc.lt {ops : Array Oper} (hb : backOk ops = true) : ∀ {i j : Nat}, Anc ops i j → j < i := by
  intro i j h
  induction h with
  | one ho hj => exact back_dep hb ho hj
  | up ho hk _ ih => exact Nat.lt_trans ih (back_dep hb ho hk)

/-- the first n operations each write a slot of their own, at which only those look that wait for them; the others wait for all that is ahead of them -/
def drawOk2 (ops : Array Oper) (n : Nat) (ms : List Nat) : Bool :=
  (List.range ops.size).all fun i =>
    match ops[i]? with
    | none => false
    | some o =>
      if i < n then
        (match o.dst with
         | none => true
         | some t => (List.range n).all fun j =>
            match ops[j]? with
            | none => false
            | some o' => (j == i || o'.dst != some t) && (!(looks ops o').contains t || (ms.getD j 0).testBit i || (ms.getD i 0).testBit j))
      else (List.range i).all fun j => (ms.getD i 0).testBit j
/-- what one makes is apart from what the other makes and looks at -/
def aptI (a b : Itm) : Bool := a.nw.all fun x => (!b.rl.contains x.1 && !b.s.lab.contains x.1) && b.nw.all fun y => !Nat.beq y.1 x.1 && !y.2.lab.contains x.1
/-- operations none of which waits for the other are apart -/
def comB (its : List Itm) (ms : List Nat) : Bool :=
  (List.range its.length).all fun i => (List.range its.length).all fun j => Nat.beq i j || (ms.getD j 0).testBit i || (ms.getD i 0).testBit j ||
    (match its[i]?, its[j]? with | some a, some b => aptI a b | _, _ => true)

/-! ### what is known when some are done -/
def gLs (dst : Nat → Option Tmp) (sl : Nat → Slot) (g : List (Nat × Slot)) : Nat → (Nat → Bool) → List (Nat × Slot)
  | 0, _ => g
  | m + 1, L => bif L m then gput (dst m) (sl m) (gLs dst sl g m L) else gLs dst sl g m L
def dLs (nw : Nat → List (Nat × Ent)) (d : List (Nat × Ent)) : Nat → (Nat → Bool) → List (Nat × Ent)
  | 0, _ => d
  | m + 1, L => bif L m then nw m ++ dLs nw d m L else dLs nw d m L
section
variable {dst : Nat → Option Tmp} {sl : Nat → Slot} {g : List (Nat × Slot)} {nw : Nat → List (Nat × Ent)} {d : List (Nat × Ent)}
theorem lk_gput {t : Option Tmp} {s : Slot} {g : List (Nat × Slot)} {u : Nat} : lk (gput t s g) u = if t = some u then some s else lk g u := by
  cases t with
  | none => simp [gput]
  | some t => simp only [gput, lk_cons, Option.some.injEq]
theorem gLs_congr {u : Nat} {L L' : Nat → Bool} : ∀ {m : Nat}, (∀ i, i < m → dst i = some u → L i = L' i) → lk (gLs dst sl g m L) u = lk (gLs dst sl g m L') u
  | 0, _ => rfl
  | m + 1, h => by
    have ih := gLs_congr (m := m) (fun i hi => h i (by omega))
    simp only [gLs]
    by_cases hd : dst m = some u
    · rw [h m (by omega) hd]; cases L' m <;> simp [lk_gput, hd, ih]
    · cases L m <;> cases L' m <;> simp [lk_gput, hd, ih]
theorem gLs_at {u j : Nat} {L : Nat → Bool} (hj : dst j = some u) (hL : L j = true) : ∀ {m : Nat}, j < m → (∀ i, i < m → i ≠ j → dst i ≠ some u) → lk (gLs dst sl g m L) u = some (sl j)
  | 0, h, _ => by omega
  | m + 1, h, hn => by
    simp only [gLs]
    by_cases hm : j = m
    · subst hm; rw [hL]; simp [lk_gput, hj]
    · have ih := gLs_at (m := m) hj hL (by omega) (fun i hi => hn i (by omega))
      have := hn m (by omega) (Ne.symm hm)
      cases L m <;> simp [lk_gput, this, ih]
theorem dLs_congr {l : Nat} {L L' : Nat → Bool} : ∀ {m : Nat}, (∀ i, i < m → lkE (nw i) l ≠ none → L i = L' i) → lkE (dLs nw d m L) l = lkE (dLs nw d m L') l
  | 0, _ => rfl
  | m + 1, h => by
    have ih := dLs_congr (m := m) (fun i hi => h i (by omega))
    simp only [dLs]
    by_cases hd : lkE (nw m) l = none
    · cases L m <;> cases L' m <;> simp [lkE_append, hd, ih]
    · rw [h m (by omega) hd]; cases L' m <;> simp [lkE_append, ih]
theorem dLs_at {l j : Nat} {en : Ent} {L : Nat → Bool} (hj : lkE (nw j) l = some en) (hL : L j = true) : ∀ {m : Nat}, j < m → (∀ i, j < i → i < m → L i = true → lkE (nw i) l = none) → lkE (dLs nw d m L) l = some en
  | 0, h, _ => by omega
  | m + 1, h, hn => by
    simp only [dLs]
    by_cases hm : j = m
    · subst hm; rw [hL]; simp [lkE_append, hj]
    · have ih := dLs_at (m := m) hj hL (by omega) (fun i h1 h2 => hn i h1 (by omega))
      cases hLm : L m with
      | false => simpa using ih
      | true => simp [lkE_append, hn m (by omega) (by omega) hLm, ih]
theorem mem_gLs {y : Nat × Slot} {L : Nat → Bool} : ∀ {m : Nat}, y ∈ gLs dst sl g m L → y ∈ g ∨ ∃ i, i < m ∧ L i = true ∧ y.2 = sl i
  | 0, h => .inl h
  | m + 1, h => by
    simp only [gLs] at h
    cases hL : L m with
    | false =>
      rw [hL] at h
      rcases mem_gLs (m := m) h with h | ⟨i, h1, h2⟩
      · exact .inl h
      · exact .inr ⟨i, by omega, h2⟩
    | true =>
      rw [hL] at h
      simp only [cond_true] at h
      have : y ∈ gLs dst sl g m L ∨ y.2 = sl m := by
        cases hd : dst m with
        | none => rw [hd] at h; exact .inl h
        | some t =>
          rw [hd] at h
          rcases List.mem_cons.1 h with rfl | h
          · exact .inr rfl
          · exact .inl h
      rcases this with h | h
      · rcases mem_gLs (m := m) h with h | ⟨i, h1, h2⟩
        · exact .inl h
        · exact .inr ⟨i, by omega, h2⟩
      · exact .inr ⟨m, by omega, hL, h⟩
theorem mem_dLs {y : Nat × Ent} {L : Nat → Bool} : ∀ {m : Nat}, y ∈ dLs nw d m L → y ∈ d ∨ ∃ i, i < m ∧ L i = true ∧ y ∈ nw i
  | 0, h => .inl h
  | m + 1, h => by
    simp only [dLs] at h
    cases hL : L m with
    | false =>
      rw [hL] at h
      rcases mem_dLs (m := m) h with h | ⟨i, h1, h2⟩
      · exact .inl h
      · exact .inr ⟨i, by omega, h2⟩
    | true =>
      rw [hL] at h
      rcases List.mem_append.1 h with h | h
      · exact .inr ⟨m, by omega, hL, h⟩
      · rcases mem_dLs (m := m) h with h | ⟨i, h1, h2⟩
        · exact .inl h
        · exact .inr ⟨i, by omega, h2⟩
end
theorem St.congr {F : Frm} {σ σ' : AS} {a : Act} {w : World} (hg : ∀ u, lk σ'.g u = lk σ.g u) (hd : ∀ l, lkE σ'.d l = lkE σ.d l) (h : St F σ a w) : St F σ' a w := by
  obtain ⟨⟨ρ, hc, hs⟩, hz, hde⟩ := h
  have hd' : ∀ l en, lkE σ.d l = some en ↔ lkE σ'.d l = some en := fun l en => by rw [hd]
  exact ⟨⟨ρ, hc.congr hd', fun t s ht => by rw [← Un.congr hd']; exact hs t s (by rw [← hg]; exact ht)⟩, hz, hde⟩

section
variable {F : Frm} {ops : Array Oper}
/-- what the i-th operation comes to -/
structure AtI (F : Frm) (ops : Array Oper) (dst : Nat → Option Tmp) (its : Nat → Itm) (σ : AS) (n : Nat) (i : Nat) (o : Oper) : Prop where
  ok : dstOk o.dst F.N = true
  rl : (its i).rl = rdl (gLs dst (fun i => (its i).s) σ.g n (fun k => decide (k < i))) o
  cs : (GK ops (gLs dst (fun i => (its i).s) σ.g n (fun k => decide (k < i))) o true ∧ (its i).fr = true ∧ JO F o ⟨gLs dst (fun i => (its i).s) σ.g n (fun k => decide (k < i)), dLs (fun i => (its i).nw) σ.d n (fun k => decide (k < i))⟩ (its i).s (its i).nw) ∨
    (GK ops (gLs dst (fun i => (its i).s) σ.g n (fun k => decide (k < i))) o false ∧ (its i).fr = true ∧ (its i).s = .top ∧ (its i).nw = []) ∨
    (GK ops (gLs dst (fun i => (its i).s) σ.g n (fun k => decide (k < i))) o true ∧ o.dst = none ∧ (its i).fr = false ∧ ∃ l en, (its i).nw = [(l, en)] ∧
      ∀ σ2, Loc ops o ⟨gLs dst (fun i => (its i).s) σ.g n (fun k => decide (k < i)), dLs (fun i => (its i).nw) σ.d n (fun k => decide (k < i))⟩ σ2 → JM F o σ2 ⟨σ2.g, (l, en) :: σ2.d⟩)
  free : (its i).fr = true → AS.free ⟨gLs dst (fun i => (its i).s) σ.g n (fun k => decide (k < i)), dLs (fun i => (its i).nw) σ.d n (fun k => decide (k < i))⟩ (its i).nw = true

theorem gLs_beyond {dst : Nat → Option Tmp} {sl : Nat → Slot} {g : List (Nat × Slot)} {L : Nat → Bool} {m : Nat} : ∀ {n : Nat}, m ≤ n → (∀ i, m ≤ i → i < n → L i = false) → gLs dst sl g n L = gLs dst sl g m L
  | 0, h, _ => by have : m = 0 := by omega
                  subst this; rfl
  | n + 1, h, hL => by
    rcases Nat.lt_or_ge n m with h1 | h1
    · have : m = n + 1 := by omega
      subst this; rfl
    · simp only [gLs, hL n h1 (by omega), cond_false]; exact gLs_beyond h1 fun i h2 h3 => hL i h2 (by omega)
theorem dLs_beyond {nw : Nat → List (Nat × Ent)} {d : List (Nat × Ent)} {L : Nat → Bool} {m : Nat} : ∀ {n : Nat}, m ≤ n → (∀ i, m ≤ i → i < n → L i = false) → dLs nw d n L = dLs nw d m L
  | 0, h, _ => by have : m = 0 := by omega
                  subst this; rfl
  | n + 1, h, hL => by
    rcases Nat.lt_or_ge n m with h1 | h1
    · have : m = n + 1 := by omega
      subst this; rfl
    · simp only [dLs, hL n h1 (by omega), cond_false]; exact dLs_beyond h1 fun i h2 h3 => hL i h2 (by omega)
/-- the first operation ahead of the others -/
theorem gLs_first {dst : Nat → Option Tmp} {sl : Nat → Slot} {g : List (Nat × Slot)} {L : Nat → Bool} : ∀ {m : Nat}, gLs dst sl g (m + 1) L = gLs (fun i => dst (i + 1)) (fun i => sl (i + 1)) (bif L 0 then gput (dst 0) (sl 0) g else g) m (fun i => L (i + 1))
  | 0 => rfl
  | m + 1 => by rw [gLs, gLs_first (m := m)]; rfl
theorem dLs_first {nw : Nat → List (Nat × Ent)} {d : List (Nat × Ent)} {L : Nat → Bool} : ∀ {m : Nat}, dLs nw d (m + 1) L = dLs (fun i => nw (i + 1)) (bif L 0 then nw 0 ++ d else d) m (fun i => L (i + 1))
  | 0 => rfl
  | m + 1 => by rw [dLs, dLs_first (m := m)]; rfl
theorem JP2.len {os : List Oper} {σ σ' : AS} {h : List Itm} (hp : JP2 F ops os σ h σ') : h.length = os.length := by
  induction hp with
  | nil => rfl
  | cons _ _ _ _ _ ih => simp [ih]
  | left _ _ _ ih => simp [ih]
  | st _ _ _ _ ih => simp [ih]
theorem JP2.at {os : List Oper} {σ σ' : AS} {h : List Itm} (hp : JP2 F ops os σ h σ') :
    σ'.g = gLs (fun i => (os[i]?).bind (·.dst)) (fun i => (h.getD i ⟨.top, [], true, []⟩).s) σ.g os.length (fun _ => true) ∧ σ'.d = dLs (fun i => (h.getD i ⟨.top, [], true, []⟩).nw) σ.d os.length (fun _ => true) ∧
    ∀ i o, os[i]? = some o → AtI F ops (fun i => (os[i]?).bind (·.dst)) (fun i => h.getD i ⟨.top, [], true, []⟩) σ os.length i o := by
  have step : ∀ {o0 : Oper} {os : List Oper} {σ σ' : AS} {h : List Itm} {it : Itm}, 
      (σ'.g = gLs (fun i => (os[i]?).bind (·.dst)) (fun i => (h.getD i ⟨.top, [], true, []⟩).s) (gput o0.dst it.s σ.g) os.length (fun _ => true) ∧ σ'.d = dLs (fun i => (h.getD i ⟨.top, [], true, []⟩).nw) (it.nw ++ σ.d) os.length (fun _ => true) ∧
        ∀ i o, os[i]? = some o → AtI F ops (fun i => (os[i]?).bind (·.dst)) (fun i => h.getD i ⟨.top, [], true, []⟩) ⟨gput o0.dst it.s σ.g, it.nw ++ σ.d⟩ os.length i o) →
      AtI F ops (fun i => ((o0 :: os)[i]?).bind (·.dst)) (fun i => (it :: h).getD i ⟨.top, [], true, []⟩) σ (o0 :: os).length 0 o0 →
      (σ'.g = gLs (fun i => ((o0 :: os)[i]?).bind (·.dst)) (fun i => ((it :: h).getD i ⟨.top, [], true, []⟩).s) σ.g (o0 :: os).length (fun _ => true) ∧ σ'.d = dLs (fun i => ((it :: h).getD i ⟨.top, [], true, []⟩).nw) σ.d (o0 :: os).length (fun _ => true) ∧
        ∀ i o, (o0 :: os)[i]? = some o → AtI F ops (fun i => ((o0 :: os)[i]?).bind (·.dst)) (fun i => (it :: h).getD i ⟨.top, [], true, []⟩) σ (o0 :: os).length i o) := by
    rintro o0 os σ σ' h it ⟨h1, h2, h3⟩ h0
    refine ⟨by rw [h1, List.length_cons, gLs_first]; rfl, by rw [h2, List.length_cons, dLs_first]; rfl, fun i o hi => ?_⟩
    cases i with
    | zero => simp at hi; subst hi; exact h0
    | succ i =>
      have h4 := h3 i o (by simpa using hi)
      have e1 : gLs (fun i => ((o0 :: os)[i]?).bind (·.dst)) (fun i => ((it :: h).getD i ⟨.top, [], true, []⟩).s) σ.g (o0 :: os).length (fun k => decide (k < i + 1)) =
          gLs (fun i => (os[i]?).bind (·.dst)) (fun i => (h.getD i ⟨.top, [], true, []⟩).s) (gput o0.dst it.s σ.g) os.length (fun k => decide (k < i)) := by
        rw [List.length_cons, gLs_first]
        simp
      have e2 : dLs (fun i => ((it :: h).getD i ⟨.top, [], true, []⟩).nw) σ.d (o0 :: os).length (fun k => decide (k < i + 1)) =
          dLs (fun i => (h.getD i ⟨.top, [], true, []⟩).nw) (it.nw ++ σ.d) os.length (fun k => decide (k < i)) := by
        rw [List.length_cons, dLs_first]
        simp
      refine ⟨h4.ok, ?_, ?_, ?_⟩
      · rw [e1]; exact h4.rl
      · rw [e1, e2]; exact h4.cs
      · rw [e1, e2]; exact h4.free
  have z1 : ∀ {o0 : Oper} {os : List Oper} {σ : AS} {h : List Itm} {it : Itm}, gLs (fun i => ((o0 :: os)[i]?).bind (·.dst)) (fun i => ((it :: h).getD i ⟨.top, [], true, []⟩).s) σ.g (o0 :: os).length (fun k => decide (k < 0)) = σ.g := by
    intro o0 os σ h it
    rw [gLs_beyond (m := 0) (Nat.zero_le _) (fun i _ _ => by simp)]; rfl
  have z2 : ∀ {o0 : Oper} {os : List Oper} {σ : AS} {h : List Itm} {it : Itm}, dLs (fun i => ((it :: h).getD i ⟨.top, [], true, []⟩).nw) σ.d (o0 :: os).length (fun k => decide (k < 0)) = σ.d := by
    intro o0 os σ h it
    rw [dLs_beyond (m := 0) (Nat.zero_le _) (fun i _ _ => by simp)]; rfl
  induction hp with
  | nil => exact ⟨rfl, rfl, fun i o h => by simp at h⟩
  | cons g j d hf _ ih =>
    refine step ih ⟨d, ?_, ?_, fun _ => ?_⟩
    · rw [z1]; rfl
    · rw [z1, z2]; exact .inl ⟨g, rfl, j⟩
    · rw [z1, z2]; exact hf
  | left g d _ ih =>
    refine step ih ⟨d, ?_, ?_, fun _ => ?_⟩
    · rw [z1]; rfl
    · rw [z1, z2]; exact .inr (.inl ⟨g, rfl, rfl, rfl⟩)
    · rw [z1, z2]; rfl
  | st g hd hm hp ih =>
    rename_i o os σ σ' l en h
    have hg : ∀ (s : Slot) (g : List (Nat × Slot)), gput o.dst s g = g := fun s g => by rw [hd]; rfl
    refine step (it := ⟨.top, [(l, en)], false, rdl σ.g o⟩) (by rw [hg]; exact ih) ⟨by rw [hd]; rfl, ?_, ?_, fun h => by cases h⟩
    · rw [z1]; rfl
    · rw [z1, z2]; exact .inr (.inr ⟨g, hd, rfl, l, en, rfl, hm⟩)

theorem W.dr2 {id : Nat} {ops : Array Oper} {cs : List Code} {σ σ1 σ' : AS} {its : List Itm} {Q : Exit → Act → World → Prop} (n : Nat) (ms : List Nat) (hm : F.P.follows .mixedOrders = true) (hp : JP2 F ops (ops.toList.take n) σ its σ1) (ht : J F ops (ops.toList.drop n) σ1 σ')
    (hn : Nat.ble n ops.size = true) (hbk : backOk ops = true) (hms : msOk ops ms = true) (hok : drawOk2 ops n ms = true) (hcm : comB its ms = true) (k : W F cs σ' Q) : W F (.region id ops true :: cs) σ Q := by
  intro a w hs
  have hn := Nat.le_of_ble_eq_true hn
  obtain ⟨l1, hl1⟩ : ∃ l1, l1 = ops.toList.take n := ⟨_, rfl⟩
  obtain ⟨l2, hl2⟩ : ∃ l2, l2 = ops.toList.drop n := ⟨_, rfl⟩
  rw [← hl1] at hp
  rw [← hl2] at ht
  have hl : ops.toList = l1 ++ l2 := by rw [hl1, hl2]; exact (List.take_append_drop n ops.toList).symm
  have hln : l1.length = n := by rw [hl1, List.length_take, Array.length_toList]; exact Nat.min_eq_left hn
  have hil : its.length = n := by rw [hp.len, hln]
  obtain ⟨s1, d1, hst⟩ := hp.at
  obtain ⟨dst, hdstE⟩ : ∃ dst : Nat → Option Tmp, dst = fun i => (l1[i]?).bind (·.dst) := ⟨_, rfl⟩
  obtain ⟨it, hitE⟩ : ∃ it : Nat → Itm, it = fun i => its.getD i ⟨.top, [], true, []⟩ := ⟨_, rfl⟩
  rw [← hdstE, hln] at hst
  rw [← hitE] at hst
  rw [← hdstE, hln] at s1
  rw [hln] at d1
  have s1 : σ1.g = gLs dst (fun i => (it i).s) σ.g n (fun _ => true) := by rw [s1, hitE]
  have d1 : σ1.d = dLs (fun i => (it i).nw) σ.d n (fun _ => true) := by rw [d1, hitE]
  have hsz : ops.size = l1.length + l2.length := by rw [← Array.length_toList, hl, List.length_append]
  have hget : ∀ i : Nat, ops[i]? = (l1 ++ l2)[i]? := fun i => by rw [← hl]; exact (Array.getElem?_toList).symm
  have hos : ∀ i, i < n → l1[i]? = ops[i]? := fun i hi => by rw [hget, List.getElem?_append_left (by omega)]
  have hdst : ∀ i o, i < n → ops[i]? = some o → dst i = o.dst := fun i o hi ho => by rw [hdstE]; show (l1[i]?).bind _ = _; rw [hos i hi, ho]; rfl
  have hop : ∀ i, i < n → ∃ o, ops[i]? = some o := fun i hi => ⟨ops[i]'(by omega), Array.getElem?_eq_getElem (by omega)⟩
  have hanc := ms_spec hbk hms
  have hat : ∀ i o, i < n → ops[i]? = some o → AtI F ops dst it σ n i o := fun i o hi ho => hst i o (by rw [hos i hi]; exact ho)
  -- two that do not wait for each other
  have hcom : ∀ i j, i < n → j < n → i ≠ j → Anc ops j i ∨ Anc ops i j ∨ aptI (it i) (it j) = true := by
    intro i j hi hj hij
    have h1 := List.all_eq_true.1 (List.all_eq_true.1 hcm i (List.mem_range.2 (by omega))) j (List.mem_range.2 (by omega))
    simp only [Bool.or_eq_true] at h1
    rcases h1 with ((h1 | h1) | h1) | h1
    · exact absurd (Nat.eq_of_beq_eq_true h1) hij
    · exact .inl (hanc _ _ h1)
    · exact .inr (.inl (hanc _ _ h1))
    · refine .inr (.inr ?_)
      have e : ∀ q, q < n → its[q]? = some (it q) := fun q hq => by
        rw [hitE]; simp only [List.getD_eq_getElem?_getD]; rw [List.getElem?_eq_getElem (by omega)]; rfl
      rw [e i hi, e j hj] at h1
      exact h1
  have hapt : ∀ {a b : Itm} {l : Nat}, aptI a b = true → lkE a.nw l ≠ none → l ∉ b.rl ∧ l ∉ b.s.lab ∧ ∀ y ∈ b.nw, y.1 ≠ l ∧ l ∉ y.2.lab := by
    intro a b l h hx
    obtain ⟨e, he⟩ := Option.ne_none_iff_exists'.1 hx
    have := List.all_eq_true.1 h _ (lkE_mem he)
    simp only [Bool.and_eq_true, Bool.not_eq_true', List.all_eq_true] at this
    refine ⟨fun hc => ?_, fun hc => ?_, fun y hy => ⟨fun e => ?_, fun hc => ?_⟩⟩
    · have h2 := this.1.1; simp at h2; exact h2 hc
    · have h2 := this.1.2; simp at h2; exact h2 hc
    · have h2 := (this.2 y hy).1; rw [e] at h2; simp at h2
    · have h2 := (this.2 y hy).2; simp at h2; exact h2 hc
  obtain ⟨σL, hσL⟩ : ∃ σL : (Nat → Bool) → AS, σL = fun L => ⟨gLs dst (fun i => (it i).s) σ.g n L, dLs (fun i => (it i).nw) σ.d n L⟩ := ⟨_, rfl⟩
  have hpure : ∀ i o t, i < n → ops[i]? = some o → o.dst = some t → ∀ j o', j < n → ops[j]? = some o' → (j = i ∨ o'.dst ≠ some t) ∧ (t ∈ looks ops o' → Anc ops j i ∨ Anc ops i j) := by
    intro i o t hi ho hd j o' hj ho'
    have h1 := List.all_eq_true.1 hok i (List.mem_range.2 (by omega))
    simp only [ho, if_pos hi, hd] at h1
    have h2 := List.all_eq_true.1 h1 j (List.mem_range.2 hj)
    simp only [ho', Bool.and_eq_true, Bool.or_eq_true, Bool.not_eq_true'] at h2
    obtain ⟨h3, h4⟩ := h2
    refine ⟨h3.imp (fun h => by simpa using h) (fun h => by simpa using h), fun hc => ?_⟩
    rcases h4 with (h4 | h4) | h4
    · simp at h4; exact absurd hc h4
    · exact .inl (hanc _ _ h4)
    · exact .inr (hanc _ _ h4)
  have htail : ∀ {i : Nat} {o : Oper}, ¬ i < n → ops[i]? = some o → ∀ {j : Nat}, j < i → Anc ops i j := by
    intro i o hi ho j hj
    have hlt : i < ops.size := by
      rcases Nat.lt_or_ge i ops.size with h | h
      · exact h
      · simp [Array.getElem?_eq_none h] at ho
    have h1 := List.all_eq_true.1 hok i (List.mem_range.2 hlt)
    simp only [ho, if_neg hi] at h1
    exact hanc _ _ (List.all_eq_true.1 h1 j (List.mem_range.2 hj))
  have hback : ∀ i o, i < ops.size → ops[i]? = some o → ∀ j ∈ deps o, j < i := fun i o _ ho j hj => back_dep hbk ho hj
  have hwait : ∀ m o, n ≤ m → ops[m]? = some o → ∀ j ∈ deps o, j < ops.size ∧ decide (j < m) = true := by
    intro m o _ ho j hj
    have hlt : m < ops.size := by
      rcases Nat.lt_or_ge m ops.size with h | h
      · exact h
      · simp [Array.getElem?_eq_none h] at ho
    have := hback m o hlt ho j hj
    exact ⟨by omega, by simpa using this⟩
  have hfull : ∀ L a w, St F (σL L) a w → (∀ i, i < n → L i = true) → St F σ1 a w := by
    intro L a w h hall
    rw [hσL] at h
    refine St.congr (fun u => ?_) (fun l => ?_) h
    · rw [s1]; exact gLs_congr fun i hi _ => by rw [hall i hi]
    · rw [d1]; exact dLs_congr fun i hi _ => by rw [hall i hi]
  -- one of them
  have hstep : ∀ L a w j o, Down ops L → St F (σL L) a w → j < n → ops[j]? = some o → L j = false → (∀ i ∈ deps o, L i = true) → ∀ K : Act → World → Prop,
      (∀ a' w', St F (σL fun i => i == j || L i) a' w' → K a' w') → wpOpIn F.fe 0 F.P ops (Exit.then (run F.fe F.P Q cs) Q) j K a w := by
    intro L a w j o hdn h hj ho hLj hdep K hK
    have hA := hat j o hj ho
    have hancL : ∀ i, Anc ops j i → L i = true := by
      intro i hi
      cases hi with
      | one ho' hd => rw [ho] at ho'; cases ho'; exact hdep _ hd
      | up ho' hd hr => rw [ho] at ho'; cases ho'; exact hr.down hdn (hdep _ hd)
    have hno : ∀ i, L i = true → ¬ Anc ops i j := fun i hi hc => by rw [hc.down hdn hi] at hLj; cases hLj
    obtain ⟨σ0, hσ0⟩ : ∃ σ0 : AS, σ0 = ⟨gLs dst (fun i => (it i).s) σ.g n (fun k => decide (k < j)), dLs (fun i => (it i).nw) σ.d n (fun k => decide (k < j))⟩ := ⟨_, rfl⟩
    have hloc : Loc ops o σ0 (σL L) := by
      rw [hσ0, hσL]
      refine ⟨fun u hu => gLs_congr fun i hi hd => ?_, fun l hl => dLs_congr fun i hi hx => ?_⟩
      · obtain ⟨oi, hoi⟩ := hop i hi
        rw [hdst i oi hi hoi] at hd
        rcases (hpure i oi u hi hoi hd j o hj ho).2 hu with h1 | h1
        · have := h1.lt hbk
          rw [hancL i h1]; simpa using this
        · have h2 := h1.lt hbk
          have h3 : L i = false := by
            cases hLi : L i with
            | false => rfl
            | true => exact absurd h1 (hno i hLi)
          rw [h3]; simp; omega
      · by_cases hij : i = j
        · subst hij; rw [hLj]; simp
        · have hrl : l ∈ (it j).rl := by rw [hA.rl]; exact hl
          rcases hcom i j hi hj hij with h1 | h1 | h1
          · have := h1.lt hbk
            rw [hancL i h1]; simpa using this
          · have h2 := h1.lt hbk
            have h3 : L i = false := by
              cases hLi : L i with
              | false => rfl
              | true => exact absurd h1 (hno i hLi)
            rw [h3]; simp; omega
          · exact absurd hrl (hapt h1 hx).1
    -- what is known then
    have hafter : ∀ a' w', St F ⟨gput o.dst (it j).s (σL L).g, (it j).nw ++ (σL L).d⟩ a' w' → St F (σL fun i => i == j || L i) a' w' := by
      intro a' w' h'
      rw [hσL] at h' ⊢
      refine St.congr (fun u => ?_) (fun l => ?_) h'
      · show lk (gLs _ _ _ _ _) u = lk (gput _ _ (gLs _ _ _ _ _)) u
        rw [lk_gput]
        split
        · rename_i hd
          refine gLs_at (by rw [hdst j o hj ho]; exact hd) (by simp) hj fun i hi hij hc => ?_
          obtain ⟨oi, hoi⟩ := hop i hi
          rw [hdst i oi hi hoi] at hc
          rcases (hpure j o u hj ho hd i oi hi hoi).1 with h1 | h1
          · exact hij h1
          · exact h1 hc
        · rename_i hd
          refine gLs_congr fun i hi hc => ?_
          by_cases hij : i = j
          · subst hij; rw [hdst i o hi ho] at hc; exact absurd hc hd
          · simp [hij]
      · show lkE (dLs _ _ _ _) l = lkE (_ ++ dLs _ _ _ _) l
        rw [lkE_append]
        cases hx : lkE (it j).nw l with
        | some en =>
          refine dLs_at hx (by simp) hj fun i hji hi hLi => ?_
          have hij : i ≠ j := by omega
          have hLi' : L i = true := by simpa [hij] using hLi
          rcases hcom j i hj hi (Ne.symm hij) with h1 | h1 | h1
          · exact absurd h1 (hno i hLi')
          · have := h1.lt hbk; omega
          · cases hy : lkE (it i).nw l with
            | none => rfl
            | some e => exact absurd rfl ((hapt (l := l) h1 (by rw [hx]; simp)).2.2 _ (lkE_mem hy)).1
        | none =>
          simp only [Option.none_or]
          refine dLs_congr fun i hi hc => ?_
          by_cases hij : i = j
          · subst hij; exact absurd hx hc
          · simp [hij]
    have hfree : (it j).fr = true → AS.free (σL L) (it j).nw = true := by
      intro hfr
      have h0 := hA.free hfr
      refine List.all_eq_true.2 fun x hx => ?_
      have h1 := List.all_eq_true.1 h0 x hx
      simp only [Bool.and_eq_true, List.all_eq_true, Bool.not_eq_true'] at h1 ⊢
      obtain ⟨h1, h2⟩ := h1
      rw [hσL]
      have hxl : lkE (it j).nw x.1 ≠ none := by
        intro hc
        have : ∀ {l : List (Nat × Ent)}, x ∈ l → lkE l x.1 ≠ none := by
          intro l hl
          induction l with
          | nil => simp at hl
          | cons y l ih =>
            rw [lkE_cons]
            split
            · simp
            · rename_i hne
              rcases List.mem_cons.1 hl with rfl | hl
              · exact absurd rfl hne
              · exact ih hl
        exact this hx hc
      have hg0 : ∀ y ∈ σ.g, y ∈ gLs dst (fun i => (it i).s) σ.g n (fun k => decide (k < j)) := by
        have : ∀ m y, y ∈ σ.g → y ∈ gLs dst (fun i => (it i).s) σ.g m (fun k => decide (k < j)) := by
          intro m
          induction m with
          | zero => exact fun y h => h
          | succ m ih =>
            intro y hy
            simp only [gLs]
            cases decide (m < j)
            · exact ih y hy
            · cases hd : dst m <;> simp [gput, ih y hy]
        exact this n
      have hd0 : ∀ y ∈ σ.d, y ∈ dLs (fun i => (it i).nw) σ.d n (fun k => decide (k < j)) := by
        have : ∀ m y, y ∈ σ.d → y ∈ dLs (fun i => (it i).nw) σ.d m (fun k => decide (k < j)) := by
          intro m
          induction m with
          | zero => exact fun y h => h
          | succ m ih =>
            intro y hy
            simp only [dLs]
            cases decide (m < j)
            · exact ih y hy
            · exact List.mem_append_right _ (ih y hy)
        exact this n
      have hgi : ∀ i, i < j → ∀ t, dst i = some t → (t, (it i).s) ∈ gLs dst (fun i => (it i).s) σ.g n (fun k => decide (k < j)) := by
        intro i hij t ht
        have : ∀ m, i < m → (t, (it i).s) ∈ gLs dst (fun i => (it i).s) σ.g m (fun k => decide (k < j)) := by
          intro m
          induction m with
          | zero => intro h; omega
          | succ m ih =>
            intro him
            simp only [gLs]
            by_cases hm : i = m
            · subst hm
              rw [show decide (i < j) = true by simpa using hij, ht]; simp [gput]
            · have := ih (by omega)
              cases decide (m < j)
              · exact this
              · cases hd : dst m <;> simp [gput, this]
        exact this n (by omega)
      have hdi : ∀ i, i < j → ∀ y ∈ (it i).nw, y ∈ dLs (fun i => (it i).nw) σ.d n (fun k => decide (k < j)) := by
        intro i hij y hy
        have : ∀ m, i < m → y ∈ dLs (fun i => (it i).nw) σ.d m (fun k => decide (k < j)) := by
          intro m
          induction m with
          | zero => intro h; omega
          | succ m ih =>
            intro him
            simp only [dLs]
            by_cases hm : i = m
            · subst hm
              rw [show decide (i < j) = true by simpa using hij]; exact List.mem_append_left _ hy
            · have := ih (by omega)
              cases decide (m < j)
              · exact this
              · exact List.mem_append_right _ this
        exact this n (by omega)
      -- an operation that is done and stands behind j is apart from it
      have hlate : ∀ i, i < n → L i = true → j < i → aptI (it j) (it i) = true := by
        intro i hi hLi hji
        rcases hcom j i hj hi (by omega) with h3 | h3 | h3
        · exact absurd h3 (hno i hLi)
        · have := h3.lt hbk; omega
        · exact h3
      refine ⟨fun y hy => ?_, fun y hy => ?_⟩
      · have hg1 : ∀ (m : Nat), m ≤ n → ∀ y ∈ gLs dst (fun i => (it i).s) σ.g m L, y ∈ σ.g ∨ ∃ i t, i < n ∧ L i = true ∧ dst i = some t ∧ y = (t, (it i).s) := by
          intro m
          induction m with
          | zero => exact fun _ y h => .inl h
          | succ m ih =>
            intro hm y h
            simp only [gLs] at h
            cases hL : L m with
            | false => rw [hL] at h; exact ih (by omega) y h
            | true =>
              rw [hL] at h
              simp only [cond_true] at h
              cases hd : dst m with
              | none => rw [hd] at h; exact ih (by omega) y h
              | some t =>
                rw [hd] at h
                rcases List.mem_cons.1 h with rfl | h
                · exact .inr ⟨m, t, by omega, hL, hd, rfl⟩
                · exact ih (by omega) y h
        rcases hg1 n (Nat.le_refl _) y hy with h3 | ⟨i, t, hi, hLi, hd, rfl⟩
        · exact h1 y (hg0 y h3)
        · rcases Nat.lt_trichotomy i j with h4 | rfl | h4
          · exact h1 _ (hgi i h4 t hd)
          · rw [hLj] at hLi; cases hLi
          · have := (hapt (hlate i hi hLi h4) hxl).2.1
            simpa using this
      · rcases mem_dLs hy with h3 | ⟨i, hi, hLi, hy⟩
        · exact h2 y (hd0 y h3)
        · rcases Nat.lt_trichotomy i j with h4 | rfl | h4
          · exact h2 _ (hdi i h4 y hy)
          · rw [hLj] at hLi; cases hLi
          · have := (hapt (hlate i hi hLi h4) hxl).2.2 y hy
            refine ⟨?_, by simpa using this.2⟩
            cases hb : Nat.beq y.1 x.1 with
            | false => rfl
            | true => exact absurd (Nat.eq_of_beq_eq_true hb) this.1
    have hgw : ∀ b, GK ops σ0.g o b → Region.wanted o (yielded ops a.tmps) = b := by
      intro b hg
      obtain ⟨⟨ρ, hc, hsl⟩, _, _⟩ := h
      exact wanted_of (gk_loc hg hloc) fun t s _ ht => hsl t s ht
    unfold wpOpIn
    rw [ho]
    have hcs := hA.cs
    rw [show (gLs dst (fun i => (it i).s) σ.g n fun k => decide (k < j)) = σ0.g by rw [hσ0], show (dLs (fun i => (it i).nw) σ.d n fun k => decide (k < j)) = σ0.d by rw [hσ0]] at hcs
    rcases hcs with ⟨hg, hfr, hjo⟩ | ⟨hg, hfr, htop, hnw⟩ | ⟨hg, hdn0, hfr, l, en, hnw, hjm⟩
    · simp only [hgw true hg, if_true]
      obtain ⟨⟨ρ, hc, hsl⟩, hz, hde⟩ := h
      refine (JO.loc hjo hloc ρ _ a w (Know.of_st hc hsl _)).wpIn fun v w' hr => hK _ _ (hafter _ _ ?_)
      have := St.put hc hsl hz hde (hfree hfr) hA.ok hr
      cases hd : o.dst with
      | none => rw [hd] at this; exact this
      | some t => rw [hd] at this; exact this
    · simp only [hgw false hg, Bool.false_eq_true, if_false]
      refine ⟨fun _ _ => trivial, hK _ _ (hafter _ _ ?_)⟩
      obtain ⟨⟨ρ, hc, hsl⟩, hz, hde⟩ := h
      have := St.put (s := (it j).s) (new := (it j).nw) (v := undef) hc hsl hz hde (hfree hfr) hA.ok (by rw [htop, hnw]; exact Res_top)
      cases hd : o.dst with
      | none => rw [hd] at this; exact this
      | some t => rw [hd] at this; exact this
    · simp only [hgw true hg, if_true]
      refine (hjm (σL L) hloc a w h).wpIn fun v w' h' => hK _ _ (hafter _ _ ?_)
      rw [hnw, hdn0]
      rw [hdn0] at h'
      exact h'
  -- whatever order
  have hgetD : ∀ (listed : Array Bool) (L : Nat → Bool), listed.size = ops.size → (∀ i, i < ops.size → listed.getD i false = L i) → ∀ i d, i < ops.size → listed.getD i d = L i := by
    intro listed L hls hL i d hi
    have := hL i hi
    rw [Array.getD_eq_getD_getElem?] at this ⊢
    rw [Array.getElem?_eq_getElem (by omega)] at this ⊢
    simpa using this
  have hready : ∀ (listed : Array Bool) (L : Nat → Bool), listed.size = ops.size → (∀ i, i < ops.size → listed.getD i false = L i) → ∀ i, i ∈ Region.ready .any ops listed ↔
      (i < ops.size ∧ L i = false ∧ ∀ o, ops[i]? = some o → ∀ j ∈ deps o, j < ops.size ∧ L j = true) := by
    intro listed L hls hL i
    unfold Region.ready
    rw [List.mem_filter, List.mem_range]
    constructor
    · rintro ⟨h1, h2⟩
      simp only [Bool.and_eq_true, Bool.not_eq_true'] at h2
      obtain ⟨h2, h3⟩ := h2
      rw [hgetD listed L hls hL i true h1] at h2
      refine ⟨h1, h2, fun o ho j hj => ?_⟩
      rw [ho] at h3
      simp only [Option.map_some, Option.getD_some] at h3
      obtain ⟨e, he, hej⟩ := List.mem_filterMap.1 hj
      have he' : e ∈ o.after := by simpa using he
      have := Array.all_eq_true_iff_forall_mem.1 h3 e he'
      split at hej
      · rename_i hb
        cases hej
        rw [hb] at this
        simp only [Bool.not_true, Bool.false_or] at this
        rcases Nat.lt_or_ge e.on ops.size with hl | hl
        · rw [hgetD listed L hls hL _ _ hl] at this; exact ⟨hl, this⟩
        · rw [Array.getD_eq_getD_getElem?, Array.getElem?_eq_none (by omega)] at this; simp at this
      · cases hej
    · rintro ⟨h1, h2, h3⟩
      refine ⟨h1, ?_⟩
      have ho : ops[i]? = some ops[i] := Array.getElem?_eq_getElem h1
      simp only [Bool.and_eq_true, Bool.not_eq_true', hgetD listed L hls hL i true h1, h2, true_and, ho, Option.map_some, Option.getD_some]
      refine Array.all_eq_true_iff_forall_mem.2 fun e he => ?_
      cases hb : Region.binds .any e with
      | false => rfl
      | true =>
        have := h3 _ ho e.on (List.mem_filterMap.2 ⟨e, by simpa using he, by simp [hb]⟩)
        rw [hgetD listed L hls hL _ _ this.1, this.2]; rfl
  have hset : ∀ (listed : Array Bool) (L : Nat → Bool) (j : Nat), listed.size = ops.size → j < ops.size → (∀ i, i < ops.size → listed.getD i false = L i) → ∀ i, i < ops.size → (listed.setIfInBounds j true).getD i false = (i == j || L i) := by
    intro listed L j hls hj hL i hi
    by_cases hij : i = j
    · subst hij
      simp only [Array.getD_eq_getD_getElem?, Array.getElem?_setIfInBounds]
      simp [hls, hi]
    · rw [getD_set_ne false (Ne.symm hij), hL i hi]; simp [hij]
  have hB : ∀ fuel m (listed : Array Bool) a w, listed.size = ops.size → (∀ i, i < ops.size → listed.getD i false = decide (i < m)) → Down ops (fun i => decide (i < m)) → n ≤ m → m + fuel = ops.size →
      wpListIn F.fe 0 F.P ops (Exit.then (run F.fe F.P Q cs) Q) (ops.toList.drop m) a w → wpAnyIn F.fe 0 F.P .any ops (Exit.then (run F.fe F.P Q cs) Q) fuel listed a w := by
    intro fuel
    induction fuel with
    | zero =>
      intro m listed a w hls hlm _ hnm hmf hw
      refine ⟨List.eq_nil_iff_forall_not_mem.2 fun i hi => ?_, ?_⟩
      · obtain ⟨h1, h2, _⟩ := (hready listed _ hls hlm i).1 hi
        have : i < m := by omega
        simp [this] at h2
      · rw [List.drop_eq_nil_of_le (by rw [Array.length_toList]; omega)] at hw
        exact hw
    | succ fuel ih =>
      intro m listed a w hls hlm hdn hnm hmf hw
      have hmlt : m < ops.size := by omega
      have hom : ops[m]? = some ops[m] := Array.getElem?_eq_getElem hmlt
      have hmr : ∀ i ∈ Region.ready .any ops listed, i = m := by
        intro i hi
        obtain ⟨h1, h2, h3⟩ := (hready listed _ hls hlm i).1 hi
        have him : m ≤ i := by simpa using h2
        rcases Nat.lt_or_ge m i with hlt | hge
        · exfalso
          have ho : ops[i]? = some ops[i] := Array.getElem?_eq_getElem h1
          have hmem := htail (by omega) ho hlt
          cases hmem with
          | one ho' hj => rw [ho] at ho'; cases ho'; have := (h3 _ ho _ hj).2; simp at this
          | up ho' hj hmj =>
            rw [ho] at ho'; cases ho'
            have hjm := (h3 _ ho _ hj).2
            have := hmj.down hdn hjm
            simp at this
        · omega
      have hdrop : ops.toList.drop m = ops[m] :: ops.toList.drop (m + 1) := by
        rw [List.drop_eq_getElem_cons (by rw [Array.length_toList]; exact hmlt)]
        simp
      rw [hdrop] at hw
      refine ⟨fun hr => ?_, fun i hi => ?_⟩
      · exfalso
        -- m itself is ready: what it waits for is ahead of it
        have hnr : m ∉ Region.ready .any ops listed := by rw [hr]; simp
        refine hnr ((hready listed _ hls hlm m).2 ⟨hmlt, by simp, fun o ho j hj => ?_⟩)
        exact hwait m o hnm ho j hj
      · have := hmr i hi
        subst this
        obtain ⟨_, _, h3⟩ := (hready listed _ hls hlm i).1 hi
        have hdn' : Down ops (fun k => decide (k < i + 1)) := by
          intro k o hk ho j hj
          have hk : k < i + 1 := by simpa using hk
          rcases Nat.lt_or_ge k i with h | h
          · have := hdn k o (by simpa using h) ho j hj
            have : j < i := by simpa using this
            simp; omega
          · have : k = i := by omega
            subst this
            have := (h3 o ho j hj).2
            have : j < k := by simpa using this
            simp; omega
        have hnext : ∀ a w, wpListIn F.fe 0 F.P ops (Exit.then (run F.fe F.P Q cs) Q) (ops.toList.drop (i + 1)) a w → wpAnyIn F.fe 0 F.P .any ops (Exit.then (run F.fe F.P Q cs) Q) fuel (listed.setIfInBounds i true) a w := by
          intro a w hw
          refine ih (i + 1) _ a w (by simpa using hls) (fun j hj => ?_) hdn' (by omega) (by omega) hw
          rw [hset listed _ i hls hmlt hlm j hj]
          by_cases hji : j = i
          · subst hji; simp
          · have : (j < i + 1) ↔ j < i := by omega
            simp [hji, this]
        unfold wpOpIn
        rw [hom]
        unfold wpListIn at hw
        split at hw
        · rename_i hwant
          simp only [hwant, if_true]
          exact Oper.wpIn_mono hnext hw
        · rename_i hwant
          simp only [hwant]
          exact ⟨hw.1, hnext _ _ hw.2⟩
  have hA : ∀ fuel (listed : Array Bool) (L : Nat → Bool) a w, listed.size = ops.size → (∀ i, i < ops.size → listed.getD i false = L i) → Down ops L → (∀ i, L i = true → i < n) → ((List.range ops.size).filter fun i => L i).length + fuel = ops.size →
      St F (σL L) a w → wpAnyIn F.fe 0 F.P .any ops (Exit.then (run F.fe F.P Q cs) Q) fuel listed a w := by
    intro fuel
    induction fuel with
    | zero =>
      intro listed L a w hls hL hdn hLn hcnt h
      have hall : ∀ i, i < ops.size → L i = true := by
        have hc : ((List.range ops.size).filter fun i => L i).length = (List.range ops.size).length := by simpa using hcnt
        have := List.length_filter_eq_length_iff.1 hc
        exact fun i hi => this i (List.mem_range.2 hi)
      have hnn : ops.size = n := by
        rcases Nat.lt_or_ge n ops.size with h | h
        · have := hLn n (hall n h); omega
        · omega
      have hl2 : l2 = [] := List.eq_nil_of_length_eq_zero (by omega)
      refine ⟨List.eq_nil_iff_forall_not_mem.2 fun i hi => ?_, ?_⟩
      · obtain ⟨h1, h2, _⟩ := (hready listed _ hls hL i).1 hi
        rw [hall i h1] at h2; cases h2
      · have hst1 := hfull L a w h fun i hi => hall i (by omega)
        have := ht (Exit.then (run F.fe F.P Q cs) Q) [] a w hst1 (fun a' w' h' => wpListIn_nil (k a' w' h'))
        rw [hl2] at this
        exact this
    | succ fuel ih =>
      intro listed L a w hls hL hdn hLn hcnt h
      by_cases hall : ∀ i, i < n → L i = true
      · -- all of the first are done: the others, in the text's order
        have hst1 := hfull L a w h hall
        have hw := ht (Exit.then (run F.fe F.P Q cs) Q) [] a w hst1 (fun a' w' h' => wpListIn_nil (k a' w' h'))
        have hLd : L = fun i => decide (i < n) := by
          funext i
          cases hLi : L i with
          | true => simp [hLn i hLi]
          | false =>
            rcases Nat.lt_or_ge i n with h | h
            · rw [hall i h] at hLi; cases hLi
            · simp; omega
        have hcn : ((List.range ops.size).filter fun i => L i).length = n := by
          rw [hLd]
          have : ops.size = n + (ops.size - n) := by omega
          rw [this, List.range_add, List.filter_append]
          rw [List.filter_eq_self.2 (by intro i hi; simpa using List.mem_range.1 hi), List.filter_eq_nil_iff.2 (by intro i hi; simp at hi ⊢; omega)]
          simp
        refine hB (fuel + 1) n listed a w hls (fun i hi => by rw [hL i hi, hLd]) (by rw [← hLd]; exact hdn) (Nat.le_refl _) (by omega) ?_
        have : ops.toList.drop n = l2 := by rw [hl, ← hln]; simp
        rw [this]; simpa using hw
      · refine ⟨fun hr => ?_, fun i hi => ?_⟩
        · exfalso
          -- the least one that is not done is ready
          have hex : ∃ i, i < n ∧ L i = false := by
            refine Classical.byContradiction fun hno => hall fun i hi => ?_
            cases hLi : L i with
            | true => rfl
            | false => exact absurd ⟨i, hi, hLi⟩ hno
          obtain ⟨i, ⟨hi, hLi⟩, hmin⟩ : ∃ i, (i < n ∧ L i = false) ∧ ∀ j, j < i → L j = true := by
            obtain ⟨i, hi⟩ := hex
            induction i using Nat.strongRecOn with
            | _ i ihi =>
              by_cases hj : ∃ j, j < i ∧ L j = false
              · obtain ⟨j, h1, h2⟩ := hj; exact ihi j h1 ⟨by omega, h2⟩
              · refine ⟨i, hi, fun j hj' => ?_⟩
                cases hLj : L j with
                | true => rfl
                | false => exact absurd ⟨j, hj', hLj⟩ hj
          have hnr : i ∉ Region.ready .any ops listed := by rw [hr]; simp
          refine hnr ((hready listed _ hls hL i).2 ⟨by omega, hLi, fun o ho j hj => ?_⟩)
          have := hback i o (by omega) ho j hj
          exact ⟨by omega, hmin j this⟩
        · obtain ⟨h1, h2, h3⟩ := (hready listed _ hls hL i).1 hi
          have ho : ops[i]? = some ops[i] := Array.getElem?_eq_getElem h1
          have hin : i < n := by
            refine Classical.byContradiction fun hge => hall fun j hj => ?_
            have hmem := htail hge ho (j := j) (by omega)
            cases hmem with
            | one ho' hj => rw [ho] at ho'; cases ho'; exact (h3 _ ho _ hj).2
            | up ho' hj hmj => rw [ho] at ho'; cases ho'; exact hmj.down hdn (h3 _ ho _ hj).2
          refine hstep L a w i _ hdn h hin ho h2 (fun j hj => (h3 _ ho j hj).2) _ fun a' w' h' => ?_
          refine ih _ _ a' w' (by simpa using hls) (hset listed L i hls h1 hL) ?_ ?_ ?_ h'
          · intro q o hq hoq j hj
            by_cases hqi : q = i
            · subst hqi; simp [(h3 o hoq j hj).2]
            · have : L q = true := by simpa [hqi] using hq
              simp [hdn q o this hoq j hj]
          · intro q hq
            by_cases hqi : q = i
            · omega
            · exact hLn q (by simpa [hqi] using hq)
          · have : ((List.range ops.size).filter fun q => q == i || L q).length = ((List.range ops.size).filter fun q => L q).length + 1 := count_add ops.size i L h1 h2
            omega
  refine wpIn_region_any hm ?_
  refine hA ops.size _ (fun _ => false) a _ (by simp) (fun i hi => by rw [Array.getD_eq_getD_getElem?, Array.getElem?_replicate, if_pos hi]; rfl) (fun _ _ h => by cases h) (fun _ h => by cases h) (by rw [List.filter_eq_nil_iff.2 (fun _ _ h => by cases h)]; simp) ?_
  obtain ⟨⟨ρ, hc, hsl⟩, hz, hde⟩ := hs
  have hb : Below w.heap.size w { w with drawn := w.drawn + 1 } := (Below.refl _ _).drew
  obtain ⟨hc', hE⟩ := hc.below hb
  have e0 : σL (fun _ => false) = σ := by
    rw [hσL]
    show (⟨gLs _ _ _ _ _, dLs _ _ _ _⟩ : AS) = σ
    rw [gLs_beyond (m := 0) (Nat.zero_le _) (fun _ _ _ => rfl), dLs_beyond (m := 0) (Nat.zero_le _) (fun _ _ _ => rfl)]; rfl
  rw [e0]
  exact ⟨⟨ρ, hc', fun t s hts => Slot.ok_mono s _ (hsl t s hts) hE (fun _ _ => rfl)⟩, hz, hde⟩
end
end Go.Sw

namespace Go.Sw
open Go Go.RowKit
section
variable {F : Frm} {ops : Array Oper} {os : List Oper} {σ σ' : AS} {its : List Itm} {s s0 : Slot} {d : Option Tmp} {pb : Option Nat} {ty : TypeId} {p : String} {af : Array Edge} {gd : Option (Nat × Bool)} {x y : Operand}
theorem JP2.store {T U : TypeId} {l : List Slot} {i off n : Nat} (g : GK ops σ.g ⟨none, .store U x y, ty, p, af, gd⟩ true) (hx : evS σ.g x = some (.ptr i off)) (he : lkE σ.d i = some (.box T l pb)) (ho : offAt l off = some s0) (hy : evS σ.g y = some s) (hp : s.plain = true) (hsz : Nat.beq s.sz n = true) (hsz0 : Nat.beq s0.sz n = true)
    (hS : ∀ w, (sizeOf U).run F.P w = .ok n w) (k : JP2 F ops os ⟨σ.g, (i, .box T (setOff l off s) pb) :: σ.d⟩ its σ') :
    JP2 F ops (⟨none, .store U x y, ty, p, af, gd⟩ :: os) σ (⟨.top, [(i, .box T (setOff l off s) pb)], false, rdl σ.g ⟨none, .store U x y, ty, p, af, gd⟩⟩ :: its) σ' :=
  .st g rfl (fun σ2 hL => JM.store ((hL.ev (by simp [Op.operands])).trans hx) ((hL.ent (x := x) (by simp [Op.operands]) hx (by simp [Slot.lab])).trans he) ho ((hL.ev (by simp [Op.operands])).trans hy) hp hsz hsz0 hS) k
theorem JP2.storeAll {α : Type} {e : Enc α} {z : α} {T U : TypeId} {l l' : List Slot} {i : Nat} (g : GK ops σ.g ⟨none, .store U x y, ty, p, af, gd⟩ true) (hx : evS σ.g x = some (.ptr i 0)) (he : lkE σ.d i = some (.box T l pb)) (hl : Nat.beq (l.map Slot.sz).sum e.n = true) (hy : evS σ.g y = some (.v e z)) (hl' : Spl l' e z)
    (hS : ∀ w, (sizeOf U).run F.P w = .ok e.n w) (k : JP2 F ops os ⟨σ.g, (i, .box T l' pb) :: σ.d⟩ its σ') :
    JP2 F ops (⟨none, .store U x y, ty, p, af, gd⟩ :: os) σ (⟨.top, [(i, .box T l' pb)], false, rdl σ.g ⟨none, .store U x y, ty, p, af, gd⟩⟩ :: its) σ' :=
  .st g rfl (fun σ2 hL => JM.storeAll ((hL.ev (by simp [Op.operands])).trans hx) ((hL.ent (x := x) (by simp [Op.operands]) hx (by simp [Slot.lab])).trans he) hl ((hL.ev (by simp [Op.operands])).trans hy) hl' hS) k
end
end Go.Sw

namespace Go.Sw
open Go Go.RowKit
/-- a value as it stands, in a cell -/
def Enc.raw : Enc Value where
  n := 1
  agg := false
  ok x _ _ cs := cs = [x] ∧ x.oneCell' = true
  len h := by rw [h.1]; rfl
  one _ := rfl
  cell h c hc := by rw [h.1] at hc; simp at hc; subst hc; exact h.2
  mono h _ := h
/-- a row of cells that is a slice's, all its own -/
def arrOk {α : Type} (T : TypeId) (e : Enc α) (xs : List α) (S : Nat → Prop) (w : World) (v : Value) : Prop :=
  (xs = [] ∧ v = .slice none 0 0) ∨ ∃ b cap pre cs post, v = .slice (some ⟨b, pre.length, none⟩) xs.length cap ∧
      w.heap[b]? = some (.cells (pre ++ (cs ++ post)).toArray T (0, 0)) ∧ e.okL xs S w cs ∧ xs.length ≤ cap ∧ cap * e.n ≤ cs.length + post.length ∧ xs.length ≤ 140737488355328
theorem arrOk.mono {α : Type} {T : TypeId} {e : Enc α} {xs : List α} {S S' : Nat → Prop} {w w' : World} {v : Value} (h : arrOk T e xs S w v) (k : Ext S S' w w') (hb : ∀ b, blk v = some b → w'.heap[b]? = w.heap[b]?) : arrOk T e xs S' w' v := by
  rcases h with h | ⟨b, cap, pre, cs, post, h1, h2, h3, h4⟩
  · exact .inl h
  · exact .inr ⟨b, cap, pre, cs, post, h1, by rw [hb b (by rw [h1]; rfl)]; exact h2, Enc.okL_mono h3 k, h4⟩
theorem arrOk.slice {α : Type} {T : TypeId} {e : Enc α} {xs : List α} {S : Nat → Prop} {w : World} {v : Value} (h : arrOk T e xs S w v) : ∃ a c, v = .slice a xs.length c := by
  rcases h with ⟨rfl, rfl⟩ | ⟨b, cap, pre, cs, post, h1, _⟩
  · exact ⟨none, 0, rfl⟩
  · exact ⟨_, _, h1⟩
theorem arrOk.lt {α : Type} {T : TypeId} {e : Enc α} {xs : List α} {S : Nat → Prop} {w : World} {v : Value} (h : arrOk T e xs S w v) {b : Nat} (hb : blk v = some b) : b < w.heap.size := by
  rcases h with ⟨rfl, rfl⟩ | ⟨b', cap, pre, cs, post, rfl, h2, _⟩
  · simp [blk] at hb
  · simp [blk] at hb; subst hb; exact (MemAt.of_heap h2).lt
end Go.Sw

namespace Go.Sw
open Go Go.RowKit

/-! ### entries told anew in the same memory -/
theorem Core.regroup {F : Frm} {d d' : List (Nat × Ent)} {ρ ρ' : Nat → LV} {w : World} (hc : Core F d ρ w)
    (hU : ∀ l en b, lkE d' l = some en → Has (ρ' l) b → ∃ l0 en0, lkE d l0 = some en0 ∧ Has (ρ l0) b)
    (hin : ∀ i j en en' b, lkE d' i = some en → lkE d' j = some en' → Has (ρ' i) b → Has (ρ' j) b → i = j)
    (hown : Ext (Un F.S0 ρ d) (Un F.S0 ρ' d') w w → ∀ l en, lkE d' l = some en → en.ok ρ' (Un F.S0 ρ' d') w (ρ' l)) :
    Core F d' ρ' w ∧ Ext (Un F.S0 ρ d) (Un F.S0 ρ' d') w w := by
  have hE : Ext (Un F.S0 ρ d) (Un F.S0 ρ' d') w w := ⟨Nat.le_refl _, fun k _ hk => ⟨rfl, fun h => hk (by
    rcases h with h | ⟨l, en, h1, h2⟩
    · exact .inl h
    · obtain ⟨l0, en0, h3, h4⟩ := hU l en k h1 h2
      exact .inr ⟨l0, en0, h3, h4⟩)⟩⟩
  refine ⟨⟨hc.low, hc.size, hc.frame, hc.os, hc.tape, hc.output, hown hE, fun i en b h hb => ?_, hin, fun i en b h hb => ?_⟩, hE⟩
  · obtain ⟨l0, en0, h3, h4⟩ := hU i en b h hb; exact hc.fresh l0 en0 b h3 h4
  · obtain ⟨l0, en0, h3, h4⟩ := hU i en b h hb; exact hc.apart l0 en0 b h3 h4

structure Rws {α : Type} (T2 : TypeId) (e : Enc α) (xss : List (List α)) (o : Option Nat) (S : Nat → Prop) (w : World) (x : Nat → Prop) (b0 : Option Nat) (hs : List Value) : Prop where
  len : hs.length = xss.length
  ok : ∀ j xs h, o ≠ some j → xss[j]? = some xs → hs[j]? = some h → arrOk T2 e xs S w h
  own : ∀ j h k, o ≠ some j → hs[j]? = some h → blk h = some k → x k ∧ b0 ≠ some k
  inj : ∀ j j' h h' k, o ≠ some j → o ≠ some j' → hs[j]? = some h → hs[j']? = some h' → blk h = some k → blk h' = some k → j = j'
/-- a slice of slices, all of them our own; one of them may be told by a label of its own -/
def DE.arrs {α : Type} (T T2 : TypeId) (e : Enc α) : DE (List (List α) × Option Nat) where
  ok q S w u l := ∃ hs, arrOk T Enc.raw hs S w u.v ∧ Rws T2 e q.1 q.2 S w u.x (blk u.v) hs ∧ ∀ j, q.2 = some j → hs[j]? = l.head?
  mono := by
    rintro q S S' w w' u l ⟨hs, h1, h2, h3⟩ hE hb
    refine ⟨hs, h1.mono hE (fun b h => hb b (.inl h)), ⟨h2.len, fun j xs h ho hx hh => (h2.ok j xs h ho hx hh).mono hE (fun b hb' => hb b (.inr (h2.own j h b ho hh hb').1)), h2.own, h2.inj⟩, h3⟩
/-- a slice literal of one slice of our own -/
def DE.ref1 (T : TypeId) : DE Unit where
  ok _ _ w u l := ∃ b v, l = [v] ∧ v.oneCell' = true ∧ u.v = .slice (some ⟨b, 0, none⟩) 1 1 ∧ w.heap[b]? = some (.cells #[v] T (0, 0))
  mono := by
    rintro q S S' w w' u l ⟨b, v, h1, h2, h3, h4⟩ _ hb
    exact ⟨b, v, h1, h2, h3, by rw [hb b (.inl (by rw [h3]; rfl))]; exact h4⟩
section
variable {F : Frm} {σ : AS} {pb : Option Nat} {s : Slot} {d : Option Tmp} {ty : TypeId} {p : String} {af : Array Edge} {gd : Option (Nat × Bool)} {x y : Operand} {α : Type} {e : Enc α} {T T2 U : TypeId} {xss : List (List α)} {i j : Nat}
theorem raw_okL {hs : List Value} {S w cs} (h : Enc.raw.okL hs S w cs) : cs = hs := by
  induction hs generalizing cs with
  | nil => exact h
  | cons v hs ih =>
    obtain ⟨c, d, h1, h2, h3⟩ := h
    rw [h1, ih h3, h2.1]; rfl
theorem lkE_new {dd : List (Nat × Ent)} {l k : Nat} {en en' : Ent} (h : lkE ((k, en') :: dd) l = some en) : (l = k ∧ en = en') ∨ (l ≠ k ∧ lkE dd l = some en) := by
  rw [lkE_cons] at h
  split at h
  · rename_i hk; cases h; exact .inl ⟨hk.symm, rfl⟩
  · rename_i hk; exact .inr ⟨fun e => hk e.symm, h⟩

theorem Has_mk {v : Value} {x : Nat → Prop} {b : Nat} : Has ⟨v, x⟩ b ↔ blk v = some b ∨ x b := Iff.rfl
end
end Go.Sw

namespace Go.Sw
open Go Go.RowKit
/-- entries told anew, where one block of ours changed and others are new -/
theorem Core.step {F : Frm} {d d' : List (Nat × Ent)} {ρ ρ' : Nat → LV} {w w' : World} (hc : Core F d ρ w) {c : Option Nat} (hch : Chg c w w') (hco : ∀ b, c = some b → ∃ l en, lkE d l = some en ∧ Has (ρ l) b)
    (hU : ∀ l en b, lkE d' l = some en → Has (ρ' l) b → (w.heap.size ≤ b ∧ b < w'.heap.size) ∨ ∃ l0 en0, lkE d l0 = some en0 ∧ Has (ρ l0) b)
    (hin : ∀ i j en en' b, lkE d' i = some en → lkE d' j = some en' → Has (ρ' i) b → Has (ρ' j) b → i = j)
    (hown : Ext (Un F.S0 ρ d) (Un F.S0 ρ' d') w w' → ∀ l en, lkE d' l = some en → en.ok ρ' (Un F.S0 ρ' d') w' (ρ' l)) :
    Core F d' ρ' w' ∧ Ext (Un F.S0 ρ d) (Un F.S0 ρ' d') w w' := by
  have hE : Ext (Un F.S0 ρ d) (Un F.S0 ρ' d') w w' := ⟨hch.size, fun k hk hn => ⟨hch.other k hk (fun e => hn (by obtain ⟨l, en, h1, h2⟩ := hco k e.symm; exact .inr ⟨l, en, h1, h2⟩)), fun h => hn (by
    rcases h with h | ⟨l, en, h1, h2⟩
    · exact .inl h
    · rcases hU l en k h1 h2 with h | ⟨l0, en0, h3, h4⟩
      · omega
      · exact .inr ⟨l0, en0, h3, h4⟩)⟩⟩
  refine ⟨⟨hc.low, Nat.le_trans hc.size hch.size, fun k hk hr => ?_, hch.os.trans hc.os, hch.tape.trans hc.tape, hch.output.trans hc.output, hown hE, fun i en b h hb => ?_, hin, fun i en b h hb => ?_⟩, hE⟩
  · rw [hch.other k (Nat.lt_of_lt_of_le hk hc.size) (fun e => ?_)]
    · exact hc.frame k hk hr
    · obtain ⟨l, en, h1, h2⟩ := hco k e.symm
      rcases (hc.fresh l en k h1 h2).1 with h | h
      · omega
      · exact hr h
  · rcases hU i en b h hb with h3 | ⟨l0, en0, h3, h4⟩
    · exact ⟨.inl (Nat.le_trans hc.size h3.1), h3.2⟩
    · exact ⟨(hc.fresh l0 en0 b h3 h4).1, Nat.lt_of_lt_of_le (hc.fresh l0 en0 b h3 h4).2 hch.size⟩
  · rcases hU i en b h hb with h3 | ⟨l0, en0, h3, h4⟩
    · intro h5; have := hc.low b h5; have := hc.size; omega
    · exact hc.apart l0 en0 b h3 h4
section
variable {F : Frm} {σ : AS} {pb : Option Nat} {s : Slot} {d : Option Tmp} {ty : TypeId} {p : String} {af : Array Edge} {gd : Option (Nat × Bool)} {x y z : Operand} {α : Type} {e : Enc α} {T T2 U : TypeId} {xss : List (List α)} {i j m : Nat}
theorem Frz.arrs : Frz (DE.arrs T T2 e) (xss, none) (Enc.sl (Enc.sl e)) xss := by
  intro S S' w u ⟨hh, h1, h2, _⟩ hE hb
  have key : ∀ (xs : List (List α)) (hs : List Value), hs.length = xs.length → (∀ (j : Nat) (ys : List α) (v : Value), xs[j]? = some ys → hs[j]? = some v → arrOk T2 e ys S w v ∧ ∀ b, blk v = some b → u.x b) → (Enc.sl e).okL xs S' w hs := by
    intro xs
    induction xs with
    | nil => intro hs hl _; exact List.eq_nil_of_length_eq_zero hl
    | cons ys xs ih =>
      intro hs hl h
      cases hs with
      | nil => simp at hl
      | cons v hs =>
        refine ⟨[v], hs, rfl, ?_, ih hs (by simpa using hl) fun j ys' v' hj hv => h (j + 1) ys' v' (by simpa using hj) (by simpa using hv)⟩
        obtain ⟨k1, k2⟩ := h 0 ys v rfl rfl
        exact arr_sl (ρ := fun _ => .of undef) (u := .of v) (T := T2) k1 hE fun b hb' => hb b (.inr (k2 b (Has_of.1 hb')))
  have hk := key xss hh h2.len fun j ys v hx hv => ⟨h2.ok j ys v (by simp) hx hv, fun b hb' => (h2.own j v b (by simp) hv hb').1⟩
  obtain ⟨ad, c, hs⟩ := h1.slice
  refine ⟨?_, by rw [hs]; rfl⟩
  have hlen : hh.length = xss.length := h2.len
  rcases h1 with ⟨rfl, h0⟩ | ⟨b, cap, pre, cs, post, h0, h3, h4, h5, h6, h7⟩ <;> rw [h0]
  · have : xss = [] := List.eq_nil_of_length_eq_zero (by simpa using hlen.symm)
    subst this; exact ⟨none, 0, rfl, by simp, .inl rfl⟩
  · have := raw_okL h4
    subst this
    refine ⟨_, cap, by rw [hlen], ⟨by omega, by omega⟩, .inr ⟨b, _, cs, rfl, ?_, hb b (.inl (by rw [h0]; rfl)), ?_, hk⟩⟩
    · exact (MemAt.of_heap h3).lt
    · have := (MemAt.of_heap h3).sub; simpa using this
theorem Arg.frzD {β γ : Type} {D : DE β} {q : β} {f : Enc γ} {r : γ} (h : evS σ.g x = some (.ref i)) (he : lkE σ.d i = some (.dp D q [])) (hf : Frz D q f r) : Arg σ true x (.v f r) := by
  intro ρ S a w K
  obtain ⟨h1, h2, _⟩ := K_ref K (x := x) (by simp) h he
  obtain ⟨k1, k2⟩ := hf _ _ _ _ h2 (lend_ext S w true) (fun _ _ h => h)
  rw [h1]
  simp only [Slot.ok]
  exact ⟨_, k1, k2.symm⟩
/-! ### parts of a slice of our own -/
theorem sub_val {xs ys : List α} {lo hi : Int} {S : Nat → Prop} {w : World} {v : Value} {a : Option Addr} {cap : Nat} {ρ : Nat → LV} (hs : sub xs lo hi = some ys) (h : arrOk T e xs S w v) (hv : v = .slice a xs.length cap) (hρ : (ρ i).v = v) :
    (Slot.sub i (lo.toNat * e.n) (hi.toNat - lo.toNat)).ok ρ S w (.slice (if cap = lo.toNat then a else a.map (·.add (lo.toNat * e.n))) (hi.toNat - lo.toNat) (cap - lo.toNat)) := by
  obtain ⟨h0, h1, h2, _⟩ := sub_some hs
  have hcap : xs.length ≤ cap := by
    rcases h with ⟨rfl, rfl⟩ | ⟨b, cap', pre, cs, post, rfl, _, _, h5, _⟩
    · simp
    · simp only [Value.slice.injEq] at hv; omega
  simp only [Slot.ok]
  rw [hρ, hv]
  refine ⟨⟨_, _, _, rfl⟩, cap - lo.toNat, if cap = lo.toNat then 0 else lo.toNat * e.n, by omega, ?_, ?_⟩
  · split
    · right; omega
    · exact .inl rfl
  · split
    · cases a with
      | none => rfl
      | some ad =>
        have : ad.spot = none := by
          rcases h with ⟨rfl, rfl⟩ | ⟨b, cap', pre, cs, post, rfl, _⟩
          · cases hv
          · simp only [Value.slice.injEq, Option.some.injEq] at hv; rw [← hv.1]
        obtain ⟨b, o, q⟩ := ad
        simp only at this; subst this
        rfl
    · cases a with
      | none => rfl
      | some ad =>
        have : ad.spot = none := by
          rcases h with ⟨rfl, rfl⟩ | ⟨b, cap', pre, cs, post, rfl, _⟩
          · cases hv
          · simp only [Value.slice.injEq, Option.some.injEq] at hv; rw [← hv.1]
        obtain ⟨b, o, q⟩ := ad
        simp only at this; subst this
        simp [subOf, Addr.add_lit]
theorem K_arr {xs : List α} {xs' : Array Operand} {ρ : Nat → LV} {S a w} (K : Know σ xs' ρ S a w) (hm : x ∈ xs') (hx : evS σ.g x = some (.ref i)) (he : lkE σ.d i = some (.arr T e xs)) :
    ∃ ad cap, a.eval x = .slice ad xs.length cap ∧ xs.length ≤ cap ∧ (ρ i).v = .slice ad xs.length cap ∧ arrOk T e xs S w (ρ i).v := by
  obtain ⟨h1, h2, _⟩ := K_ref K hm hx he
  have h2 : arrOk T e xs S w (ρ i).v := h2
  obtain ⟨ad, cap, hs⟩ := h2.slice
  refine ⟨ad, cap, by rw [h1, hs], ?_, hs, h2⟩
  rcases h2 with ⟨rfl, h3⟩ | ⟨b, cap', pre, cs, post, h3, _, _, h5, _⟩
  · simp
  · rw [hs] at h3; simp only [Value.slice.injEq] at h3; omega
theorem JO.srLo {xs ys : List α} {lo : Int} {k : IntKind} {E : TypeId} (hs : sub xs lo (xs.length : Int) = some ys) (hx : evS σ.g x = some (.ref i)) (he : lkE σ.d i = some (.arr T e xs)) (hy : evS σ.g y = some (.v (Enc.int k) lo))
    (hU : ∀ w, (underlying U).run F.P w = .ok (.slice E) w) (hE : ∀ w, (sizeOf E).run F.P w = .ok e.n w) : JO F ⟨d, .slice U x (some y) none none, ty, p, af, gd⟩ σ (.sub i (lo.toNat * e.n) ((xs.length : Int).toNat - lo.toNat)) [] := by
  intro ρ S a w K
  obtain ⟨ad, cap, h1, h2, h2', h3⟩ := K_arr K (x := x) (by simp [Op.operands]) hx he
  have h4 := (K_int K (x := y) (by simp [Op.operands]) hy).1
  obtain ⟨s0, s1, s2, _⟩ := sub_some hs
  refine OpWp.value (w' := w) ?_ (Res.same (sub_val hs h3 h2' rfl))
  simp [execOp, Instr.sliceAt, Instr.slice, h1, h4, hU, hE, bounds_l s0 s1]
/-- it is lent -/
theorem Arg.sub {xs ys : List α} {lo hi : Int} (hs : Sw.sub xs lo hi = some ys) (hx : evS σ.g x = some (.sub i (lo.toNat * e.n) (hi.toNat - lo.toNat))) (he : lkE σ.d i = some (.arr T e xs)) : Arg σ true x (.v (Enc.sl e) ys) := by
  intro ρ S a w K
  have h0 := K.slot x (by simp) _ hx
  have h2 : arrOk T e xs S w (ρ i).v := (K.ent x (by simp) _ hx i (by simp [Slot.lab]) _ he).1
  simp only [Slot.ok] at h0 ⊢
  obtain ⟨_, c, o, h3, h4, h5⟩ := h0
  obtain ⟨k0, k1, k2, rfl⟩ := sub_some hs
  have hyl : ((xs.take hi.toNat).drop lo.toNat).length = hi.toNat - lo.toNat := by rw [List.length_drop, List.length_take]; omega
  rw [h5]
  rcases h2 with ⟨rfl, h6⟩ | ⟨b, cap, pre, cs, post, h6, h7, h8, h9, h10, h11⟩ <;> rw [h6]
  · refine val_sl.2 ⟨none, c, ?_, ⟨by rw [hyl]; exact h3, by rw [hyl]; simp at k2; omega⟩, .inl (by simp)⟩
    simp only [subOf]; rw [hyl]
  · refine val_sl.2 ⟨some ⟨b, pre.length + o, none⟩, c, ?_, ⟨by rw [hyl]; exact h3, by rw [hyl]; omega⟩, ?_⟩
    · simp only [subOf]; rw [hyl]
    · by_cases hn : hi.toNat - lo.toNat = 0
      · exact .inl (List.eq_nil_of_length_eq_zero (by rw [hyl]; exact hn))
      · have ho : o = lo.toNat * e.n := h4.resolve_right hn
        subst ho
        have hm : MemAt w b pre.length cs := by have := (MemAt.of_heap h7).sub; simpa using this
        refine .inr ⟨b, _, _, rfl, (MemAt.of_heap h7).lt, fun h => h, (hm.take (hi.toNat * e.n)).drop (lo.toNat * e.n), Enc.okL_mono (okL_drop _ (okL_take _ h8)) (lend_ext S w true)⟩
end
end Go.Sw

namespace Go.Sw
open Go Go.RowKit
section
variable {F F' : Frm} {σ : AS} {pb : Option Nat} {s : Slot} {d : Option Tmp} {ty : TypeId} {p : String} {af : Array Edge} {gd : Option (Nat × Bool)} {x y z : Operand}
theorem Z.cst {u : Value} (h : u.oneCell' = true) : ∀ S w, (Enc.cst u h).ok () S w [u] := fun _ _ => rfl
end
end Go.Sw

namespace Go.Sw
open Go Go.RowKit
/-- a slice beyond whose elements there is no room -/
def Enc.slC {α : Type} (e : Enc α) : Enc (List α) where
  n := 1
  agg := false
  ok xs S w cs := (Enc.sl e).ok xs S w cs ∧ ∀ a l c, cs = [.slice a l c] → l = c
  len h := (Enc.sl e).len h.1
  one _ := rfl
  cell h := (Enc.sl e).cell h.1
  mono h k := ⟨(Enc.sl e).mono h.1 k, h.2⟩
section
variable {F : Frm} {σ : AS} {d : Option Tmp} {ty : TypeId} {p : String} {af : Array Edge} {gd : Option (Nat × Bool)} {x y : Operand}
end
end Go.Sw

namespace Go.Sw
open Go Go.RowKit
/-- leaves the world as it was -/
def Keeps {α : Type} (P : Program) (s : Sem α) : Prop := ∀ w x w', s.run P w = .ok x w' → w' = w
section
variable {P : Program} {α β : Type}
theorem Keeps.pure (x : α) : Keeps P (pure x : Sem α) := fun w y w' h => by simp at h; exact h.2.symm
theorem Keeps.bind {s : Sem α} {f : α → Sem β} (h1 : Keeps P s) (h2 : ∀ x, Keeps P (f x)) : Keeps P (s >>= f) := by
  intro w y w' h
  rw [Sem.run_bind] at h
  cases hr : s.run P w with
  | ok x w1 =>
    rw [hr] at h
    have e1 := h1 _ _ _ hr
    subst e1
    exact h2 x _ _ _ h
  | halt x w1 => rw [hr] at h; simp at h
theorem Keeps.halt {x} : Keeps P (.halt x : Sem α) := fun w y w' h => by simp [Sem.run] at h
theorem Keeps.program : Keeps P Go.program := fun w y w' h => by simp at h; exact h.2.symm
theorem Keeps.load {a : Addr} : Keeps P (load a) := fun w y w' h => by
  simp [Go.load, Sem.run] at h
  split at h
  · simp at h; exact h.2.symm
  · split at h
    · simp at h; exact h.2.symm
    · simp at h
theorem Keeps.shape {r : Nat} : Keeps P (shape r) := fun w y w' h => by simp [Go.shape, Sem.run] at h; exact h.2.symm
theorem Keeps.underlying {t : TypeId} : Keeps P (underlying t) := by
  unfold Go.underlying
  refine .bind .program fun p => ?_
  split
  · exact .pure _
  · exact .halt
theorem Keeps.typeInfo {t : TypeId} : Keeps P (typeInfo t) := by
  unfold Go.typeInfo
  refine .bind .program fun p => ?_
  split
  · exact .pure _
  · exact .halt
theorem Keeps.sizeOf {t : TypeId} : Keeps P (sizeOf t) := .bind .typeInfo fun _ => .pure _
theorem Keeps.isAgg {t : TypeId} : Keeps P (isAgg t) := by
  unfold Go.isAgg
  refine .bind .underlying fun p => ?_
  split <;> exact .pure _
theorem Keeps.loadCellsFrom {a : Addr} : ∀ (n i : Nat) (acc : Array Value), Keeps P (loadCellsFrom a i n acc)
  | 0, _, _ => .pure _
  | n + 1, i, _ => .bind .load fun _ => Keeps.loadCellsFrom n (i + 1) _
theorem Keeps.loadVar {t : TypeId} {a : Addr} : Keeps P (loadVar t a) := by
  unfold Go.loadVar
  refine .bind .isAgg fun b => ?_
  split
  · exact .bind .sizeOf fun n => .bind (.loadCellsFrom _ _ _) fun _ => .pure _
  · exact .load
theorem Keeps.sureAddr {v : Value} : Keeps P (Instr.sureAddr v) := by
  unfold Instr.sureAddr
  split
  · exact .pure _
  · exact .halt
theorem Keeps.getObj {r : Nat} : Keeps P (getObj r) := fun w y w' h => by
  simp [Go.getObj, Sem.run] at h
  split at h <;> simp at h
  exact h.2.symm
theorem Keeps.noView {a : Addr} : Keeps P (noView a) := by
  unfold Go.noView Go.viewAt
  refine .bind (.bind .shape fun o => ?_) fun o => ?_
  · split
    · exact .pure _
    · refine .bind .getObj fun o => ?_
      split <;> exact .pure _
  · split
    · exact .halt
    · exact .pure _
theorem Keeps.byteOf {a : Addr} : Keeps P (byteOf a) := by
  unfold Go.byteOf
  split
  · exact .pure _
  · refine .bind .program fun p => .bind .noView fun _ => .bind .shape fun o => ?_
    split
    · simp only []
      split
      · exact .pure _
      · split
        · exact .pure _
        · exact .halt
    · exact .halt
theorem Keeps.fieldPlace {a : Addr} {f : Field} : Keeps P (fieldPlace a f) := by
  unfold Go.fieldPlace
  refine .bind .sizeOf fun n => ?_
  split
  · unfold Go.partAt
    refine .bind .byteOf fun _ => .bind .byteOf fun _ => .pure _
  · exact .pure _
theorem Keeps.fieldAt {t : TypeId} {v : Value} {f : Nat} : Keeps P (Instr.fieldAt t v f) := by
  unfold Instr.fieldAt
  refine .bind .underlying fun d => ?_
  split
  · split
    · exact .bind .sureAddr fun a => .bind .fieldPlace fun _ => .pure _
    · exact .halt
  · exact .halt
/-- an operation that looks and makes nothing -/
def quiet (o : Oper) : Bool := match o.op with
  | .move _ | .assign _ | .load _ _ | .fieldAddr _ _ _ => true
  | _ => false
end
end Go.Sw

namespace Go.Sw
open Go Go.RowKit
structure QI where
  i : Nat
  t : Nat
  s : Slot
section
variable {F : Frm} {ops : Array Oper} {σ σ' σA : AS}
/-- those that look alone, in the text's order -/
inductive QA (F : Frm) (ops : Array Oper) : List QI → AS → AS → Prop
  | nil {σ : AS} : QA F ops [] σ σ
  | cons {σ σ' : AS} {l : List QI} {i t : Nat} {s : Slot} {o : Oper} : ops[i]? = some o → JO F o σ s [] → QA F ops l ⟨(t, s) :: σ.g, σ.d⟩ σ' → QA F ops (⟨i, t, s⟩ :: l) σ σ'
def StG (σ σ' : AS) : List Nat → Prop
  | [] => True
  | u :: us => lk σ'.g u = lk σ.g u ∧ StG σ σ' us
def StD (σ σ' : AS) : List Nat → Prop
  | [] => True
  | u :: us => lkE σ'.d u = lkE σ.d u ∧ StD σ σ' us
theorem StG.at {u : Nat} : ∀ {us : List Nat}, StG σ σ' us → u ∈ us → lk σ'.g u = lk σ.g u
  | [], _, h => by cases h
  | v :: us, ⟨h1, h2⟩, h => by
    rcases List.mem_cons.1 h with rfl | h
    · exact h1
    · exact StG.at h2 h
theorem StD.at {u : Nat} : ∀ {us : List Nat}, StD σ σ' us → u ∈ us → lkE σ'.d u = lkE σ.d u
  | [], _, h => by cases h
  | v :: us, ⟨h1, h2⟩, h => by
    rcases List.mem_cons.1 h with rfl | h
    · exact h1
    · exact StD.at h2 h
/-- those that stand in a chain -/
inductive QB (F : Frm) (ops : Array Oper) (us ls : List Nat) : List Nat → AS → AS → Prop
  | nil {σ : AS} : QB F ops us ls [] σ σ
  | cons {σ σ1 σ' : AS} {b : Nat} {bs : List Nat} {o : Oper} : ops[b]? = some o → JM F o σ σ1 → StG σ σ1 us → StD σ σ1 ls → QB F ops us ls bs σ1 σ' → QB F ops us ls (b :: bs) σ σ'
  | sub {σ σ1 σ' : AS} {bs : List Nat} : Sub F σ σ1 → StG σ σ1 us → StD σ σ1 ls → QB F ops us ls bs σ1 σ' → QB F ops us ls bs σ σ'
theorem QB.done {us ls : List Nat} : ∀ {bs : List Nat} {σ σ' : AS}, QB F ops us ls bs σ σ' → bs = [] → Sub F σ σ' := by
  intro bs σ σ' h
  induction h with
  | nil => exact fun _ a w h => h
  | cons _ _ _ _ _ _ => intro h; cases h
  | sub h1 _ _ _ ih => exact fun e a w h => ih e a w (h1 a w h)
theorem StG.trans {σ1 σ2 σ3 : AS} : ∀ {us : List Nat}, StG σ1 σ2 us → StG σ2 σ3 us → StG σ1 σ3 us
  | [], _, _ => trivial
  | _ :: _, ⟨h1, h2⟩, ⟨k1, k2⟩ => ⟨k1.trans h1, h2.trans k2⟩
theorem StD.trans {σ1 σ2 σ3 : AS} : ∀ {us : List Nat}, StD σ1 σ2 us → StD σ2 σ3 us → StD σ1 σ3 us
  | [], _, _ => trivial
  | _ :: _, ⟨h1, h2⟩, ⟨k1, k2⟩ => ⟨k1.trans h1, h2.trans k2⟩
theorem StG.rfl' {σ : AS} : ∀ {us : List Nat}, StG σ σ us
  | [] => trivial
  | _ :: _ => ⟨rfl, StG.rfl'⟩
theorem StD.rfl' {σ : AS} : ∀ {us : List Nat}, StD σ σ us
  | [] => trivial
  | _ :: _ => ⟨rfl, StD.rfl'⟩
theorem QB.head {us ls : List Nat} : ∀ {bs : List Nat} {σ σ' : AS}, QB F ops us ls bs σ σ' → ∀ {b : Nat} {r : List Nat}, bs = b :: r →
    ∃ σ1 o σ2, Sub F σ σ1 ∧ ops[b]? = some o ∧ JM F o σ1 σ2 ∧ StG σ σ1 us ∧ StD σ σ1 ls ∧ StG σ σ2 us ∧ StD σ σ2 ls ∧ QB F ops us ls r σ2 σ' := by
  intro bs σ σ' h
  induction h with
  | nil => intro b r e; cases e
  | cons ho hm hg hd hb _ => intro b r e; cases e; exact ⟨_, _, _, fun _ _ h => h, ho, hm, StG.rfl', StD.rfl', hg, hd, hb⟩
  | sub hs hg hd _ ih =>
    intro b r e
    obtain ⟨σ1, o, σ2, h1, h2, h3, h4, h5, h6, h7, h8⟩ := ih e
    exact ⟨σ1, o, σ2, fun a w h => h1 a w (hs a w h), h2, h3, hg.trans h4, hd.trans h5, hg.trans h6, hd.trans h7, h8⟩

def notSel (o : Oper) : Bool := match o.op with | .select _ _ => false | _ => true
def chainB (ms : List Nat) : List Nat → Bool
  | [] => true
  | b :: r => r.all (fun c => (ms.getD c 0).testBit b) && chainB ms r
def ordA (ops : Array Oper) : List QI → Bool
  | [] => true
  | x :: r => (match ops[x.i]? with | some o => !(looks ops o).contains x.t && r.all (fun y => !(looks ops o).contains y.t && y.t != x.t) | none => false) && ordA ops r
def part3 (ops : Array Oper) (ms : List Nat) (q : List QI) (bs us : List Nat) (N : Nat) : Bool :=
  (List.range ops.size).all (fun i => (q.map (·.i)).contains i || bs.contains i) &&
  q.all (fun x => match ops[x.i]? with
    | none => false
    | some o => (quiet o && o.guard.isNone && o.dst == some x.t && Nat.blt x.t N && (looks ops o).all us.contains && us.contains x.t) &&
      (List.range ops.size).all fun j => match ops[j]? with | none => false | some o' => (j == x.i || o'.dst != some x.t) && (!(looks ops o').contains x.t || (ms.getD j 0).testBit x.i)) &&
  bs.all (fun b => match ops[b]? with | none => false | some o => o.guard.isNone && notSel o && !(q.map (·.i)).contains b) && chainB ms bs && ordA ops q
def reads3 (ops : Array Oper) (σA : AS) (q : List QI) (ls : List Nat) : Bool := q.all fun x => match ops[x.i]? with | none => false | some o => (rdl σA.g o).all ls.contains

theorem QA.outside : ∀ {q : List QI} {σ σA : AS}, QA F ops q σ σA → σA.d = σ.d ∧ ∀ u, (∀ x ∈ q, x.t ≠ u) → lk σA.g u = lk σ.g u := by
  intro q σ σA h
  induction h with
  | nil => exact ⟨rfl, fun _ _ => rfl⟩
  | cons _ _ _ ih =>
    refine ⟨ih.1, fun u hu => ?_⟩
    rw [ih.2 u fun x hx => hu x (List.mem_cons_of_mem _ hx), lk_cons, if_neg (hu ⟨_, _, _⟩ List.mem_cons_self)]
theorem QA.at : ∀ {q : List QI} {σ σA : AS}, QA F ops q σ σA → ordA ops q = true → ∀ x ∈ q, ∃ o, ops[x.i]? = some o ∧ JO F o σA x.s [] ∧ lk σA.g x.t = some x.s := by
  intro q σ σA h
  induction h with
  | nil => intro _ x hx; cases hx
  | cons ho hj hq ih =>
    rename_i σ σ' l i t s o
    intro hor x hx
    simp only [ordA, ho, Bool.and_eq_true, List.all_eq_true] at hor
    rcases List.mem_cons.1 hx with rfl | hx
    · obtain ⟨hd, hg⟩ := hq.outside
      refine ⟨o, ho, JO.loc (ops := ops) hj ⟨fun u hu => ?_, fun l _ => by rw [hd]⟩, ?_⟩
      · have hne : ∀ y ∈ l, y.t ≠ u := fun y hy e => by
          have h1 := (hor.1.2 y hy).1
          subst e; simp at h1; exact h1 hu
        have h0 := hor.1.1
        rw [hg u hne, lk_cons, if_neg (fun e => by subst e; simp at h0; exact h0 hu)]
      · rw [hg t (fun y hy e => by have h1 := (hor.1.2 y hy).2; subst e; simp at h1)]
        simp [lk_cons]
    · exact ih hor.2 x hx
theorem St.same {a b : Act} {w : World} (h : St F σ a w) (hz : b.tmps.size = a.tmps.size) (hd : b.defers = a.defers) (hg : ∀ u, b.tmps.getD u undef = a.tmps.getD u undef) : St F σ b w := by
  obtain ⟨⟨ρ, hc, hs⟩, h1, h2⟩ := h
  exact ⟨⟨ρ, hc, fun t s ht => by rw [hg]; exact hs t s ht⟩, by rw [hz, h1], by rw [hd, h2]⟩
theorem eval_same {a b : Act} {x : Operand} {o : Oper} (hx : x ∈ o.op.operands) (h : ∀ u ∈ looks ops o, b.tmps.getD u undef = a.tmps.getD u undef) : b.eval x = a.eval x := by
  cases x with
  | tmp u => exact h u (by simp only [looks, List.mem_append, List.mem_flatMap]; exact .inl ⟨_, by simpa using hx, by simp [rd]⟩)
  | const u => rfl
  | global g => rfl
  | func f => rfl
theorem OpWp.same {a b : Act} {o : Oper} {w : World} {K : Value → World → Prop} (hn : notSel o = true) (h : ∀ u ∈ looks ops o, b.tmps.getD u undef = a.tmps.getD u undef) (hw : OpWp F.P o a w K) : OpWp F.P o b w K := by
  have e : execOp b.eval o = execOp a.eval o := execOp_congr o (fun cs bl hc => by simp [notSel, hc] at hn) fun x hx => eval_same hx h
  unfold OpWp at hw ⊢
  rw [e]; exact hw
theorem Know.same {a b : Act} {o : Oper} {ρ : Nat → LV} {S : Nat → Prop} {w : World} (h : ∀ u ∈ looks ops o, b.tmps.getD u undef = a.tmps.getD u undef) (k : Know σ o.op.operands ρ S a w) : Know σ o.op.operands ρ S b w :=
  ⟨k.low, fun x hx s hs => by rw [eval_same hx h]; exact k.slot x hx s hs, k.ent⟩
end
end Go.Sw

namespace Go.Sw
open Go Go.RowKit
/-- what an operation makes, what of it is new, at what it looks, and what is ours no more -/
structure Itm4 where
  s : Slot
  nw : List (Nat × Ent)
  fr : List (Nat × Ent)
  rl : List Nat
  dl : List Nat
/-- operations in the text's order -/
inductive JP4 (F : Frm) (ops : Array Oper) : List Oper → AS → List Itm4 → AS → Prop
  | nil {σ : AS} : JP4 F ops [] σ [] σ
  | cons {o : Oper} {os : List Oper} {σ σ' : AS} {s : Slot} {new : List (Nat × Ent)} {h : List Itm4} : GK ops σ.g o true → JO F o σ s new → dstOk o.dst F.N = true →
      JP4 F ops os ⟨gput o.dst s σ.g, new ++ σ.d⟩ h σ' → JP4 F ops (o :: os) σ (⟨s, new, new, rdl σ.g o, []⟩ :: h) σ'
  | left {o : Oper} {os : List Oper} {σ σ' : AS} {h : List Itm4} : GK ops σ.g o false → dstOk o.dst F.N = true → JP4 F ops os ⟨gput o.dst .top σ.g, σ.d⟩ h σ' → JP4 F ops (o :: os) σ (⟨.top, [], [], rdl σ.g o, []⟩ :: h) σ'
  | pu {o : Oper} {os : List Oper} {σ σ' : AS} {s : Slot} {h : List Itm4} : GK ops σ.g o true → dstOk o.dst F.N = true → (∀ d, JO F o ⟨σ.g, d⟩ s []) → JP4 F ops os ⟨gput o.dst s σ.g, σ.d⟩ h σ' → JP4 F ops (o :: os) σ (⟨s, [], [], [], []⟩ :: h) σ'
  | mv {o : Oper} {os : List Oper} {σ σ' : AS} {s : Slot} {nw fr : List (Nat × Ent)} {dl : List Nat} {h : List Itm4} : GK ops σ.g o true → dstOk o.dst F.N = true → (∀ σ2, Loc ops o σ σ2 → σ2.free fr = true → JM F o σ2 ⟨gput o.dst s σ2.g, nw ++ delEs σ2.d dl⟩) →
      JP4 F ops os ⟨gput o.dst s σ.g, nw ++ delEs σ.d dl⟩ h σ' → JP4 F ops (o :: os) σ (⟨s, nw, fr, rdl σ.g o, dl⟩ :: h) σ'
  | mvx {o : Oper} {os : List Oper} {σ σ' : AS} {s : Slot} {nw fr : List (Nat × Ent)} {dl ex : List Nat} {h : List Itm4} : GK ops σ.g o true → dstOk o.dst F.N = true → (∀ σ2, Loc ops o σ σ2 → (∀ l ∈ ex, lkE σ2.d l = lkE σ.d l) → σ2.free fr = true → JM F o σ2 ⟨gput o.dst s σ2.g, nw ++ delEs σ2.d dl⟩) →
      JP4 F ops os ⟨gput o.dst s σ.g, nw ++ delEs σ.d dl⟩ h σ' → JP4 F ops (o :: os) σ (⟨s, nw, fr, rdl σ.g o ++ ex, dl⟩ :: h) σ'
/-- what one makes or takes away is apart from what the other makes and looks at -/
def apt4 (a b : Itm4) : Bool := (a.nw.map (·.1) ++ a.dl).all fun l => (!b.rl.contains l && !b.dl.contains l) && b.nw.all fun y => !Nat.beq y.1 l
/-- operations none of which waits for the other are apart -/
def com4 (its : List Itm4) (ms : List Nat) : Bool :=
  (List.range its.length).all fun i => (List.range its.length).all fun j => Nat.beq i j || (ms.getD j 0).testBit i || (ms.getD i 0).testBit j ||
    (match its[i]?, its[j]? with | some a, some b => apt4 a b | _, _ => true)
/-- what is new is named nowhere else -/
def fre4 (σ : AS) (its : List Itm4) (ms : List Nat) : Bool :=
  (List.range its.length).all fun j => match its[j]? with
    | none => true
    | some b => b.fr.all fun x => (σ.g.all fun y => !y.2.lab.contains x.1) && (σ.d.all fun y => !Nat.beq y.1 x.1 && !y.2.lab.contains x.1) &&
        (List.range its.length).all fun i => Nat.beq i j || (ms.getD i 0).testBit j || (match its[i]? with | none => true | some a => !a.s.lab.contains x.1 && a.nw.all fun y => !Nat.beq y.1 x.1 && !y.2.lab.contains x.1)
def dL4 (nw : Nat → List (Nat × Ent)) (dl : Nat → List Nat) (d : List (Nat × Ent)) : Nat → (Nat → Bool) → List (Nat × Ent)
  | 0, _ => d
  | m + 1, L => bif L m then nw m ++ delEs (dL4 nw dl d m L) (dl m) else dL4 nw dl d m L
section
variable {nw : Nat → List (Nat × Ent)} {dl : Nat → List Nat} {d : List (Nat × Ent)}
theorem dL4_congr {l : Nat} {L L' : Nat → Bool} : ∀ {m : Nat}, (∀ i, i < m → (lkE (nw i) l ≠ none ∨ l ∈ dl i) → L i = L' i) → lkE (dL4 nw dl d m L) l = lkE (dL4 nw dl d m L') l
  | 0, _ => rfl
  | m + 1, h => by
    have ih := dL4_congr (m := m) (fun i hi => h i (by omega))
    simp only [dL4]
    by_cases hd : lkE (nw m) l = none ∧ l ∉ dl m
    · cases L m <;> cases L' m <;> simp [lkE_append, hd.1, lkE_delEs, hd.2, ih]
    · have hd' : lkE (nw m) l ≠ none ∨ l ∈ dl m := by
        by_cases h1 : lkE (nw m) l = none
        · by_cases h2 : l ∈ dl m
          · exact .inr h2
          · exact absurd ⟨h1, h2⟩ hd
        · exact .inl h1
      rw [h m (by omega) hd']; cases L' m <;> simp [lkE_append, lkE_delEs, ih]
theorem dL4_at {l j : Nat} {en : Ent} {L : Nat → Bool} (hj : lkE (nw j) l = some en) (hL : L j = true) : ∀ {m : Nat}, j < m → (∀ i, j < i → i < m → L i = true → lkE (nw i) l = none ∧ l ∉ dl i) → lkE (dL4 nw dl d m L) l = some en
  | 0, h, _ => by omega
  | m + 1, h, hn => by
    simp only [dL4]
    by_cases hm : j = m
    · subst hm; rw [hL]; simp [lkE_append, hj]
    · have ih := dL4_at (m := m) hj hL (by omega) (fun i h1 h2 => hn i h1 (by omega))
      cases hLm : L m with
      | false => simpa using ih
      | true => obtain ⟨h1, h2⟩ := hn m (by omega) (by omega) hLm; simp [lkE_append, h1, lkE_delEs, h2, ih]
theorem dL4_gone {l j : Nat} {L : Nat → Bool} (hj : lkE (nw j) l = none) (hg : l ∈ dl j) (hL : L j = true) : ∀ {m : Nat}, j < m → (∀ i, j < i → i < m → L i = true → lkE (nw i) l = none ∧ l ∉ dl i) → lkE (dL4 nw dl d m L) l = none
  | 0, h, _ => by omega
  | m + 1, h, hn => by
    simp only [dL4]
    by_cases hm : j = m
    · subst hm; rw [hL]; simp [lkE_append, hj, lkE_delEs, hg]
    · have ih := dL4_gone (m := m) hj hg hL (by omega) (fun i h1 h2 => hn i h1 (by omega))
      cases hLm : L m with
      | false => simpa using ih
      | true => obtain ⟨h1, h2⟩ := hn m (by omega) (by omega) hLm; simp [lkE_append, h1, lkE_delEs, h2, ih]
theorem mem_delE {y : Nat × Ent} {i : Nat} : ∀ {d : List (Nat × Ent)}, y ∈ delE d i → y ∈ d
  | [], h => by simp [delE] at h
  | (j, en) :: r, h => by
    simp only [delE] at h
    cases hb : Nat.beq j i with
    | true => rw [hb] at h; exact List.mem_cons_of_mem _ (mem_delE h)
    | false =>
      rw [hb] at h
      rcases List.mem_cons.1 h with h | h
      · rw [h]; exact List.mem_cons_self
      · exact List.mem_cons_of_mem _ (mem_delE h)
theorem mem_delEs {y : Nat × Ent} {d : List (Nat × Ent)} : ∀ {H : List Nat}, y ∈ delEs d H → y ∈ d
  | [], h => h
  | _ :: H, h => mem_delEs (H := H) (mem_delE h)
theorem mem_dL4 {y : Nat × Ent} {L : Nat → Bool} : ∀ {m : Nat}, y ∈ dL4 nw dl d m L → y ∈ d ∨ ∃ i, i < m ∧ L i = true ∧ y ∈ nw i
  | 0, h => .inl h
  | m + 1, h => by
    simp only [dL4] at h
    cases hL : L m with
    | false =>
      rw [hL] at h
      rcases mem_dL4 (m := m) h with h | ⟨i, h1, h2⟩
      · exact .inl h
      · exact .inr ⟨i, by omega, h2⟩
    | true =>
      rw [hL] at h
      rcases List.mem_append.1 h with h | h
      · exact .inr ⟨m, by omega, hL, h⟩
      · rcases mem_dL4 (m := m) (mem_delEs h) with h | ⟨i, h1, h2⟩
        · exact .inl h
        · exact .inr ⟨i, by omega, h2⟩
theorem dL4_beyond {L : Nat → Bool} {m : Nat} : ∀ {n : Nat}, m ≤ n → (∀ i, m ≤ i → i < n → L i = false) → dL4 nw dl d n L = dL4 nw dl d m L
  | 0, h, _ => by have : m = 0 := by omega
                  subst this; rfl
  | n + 1, h, hL => by
    rcases Nat.lt_or_ge n m with h1 | h1
    · have : m = n + 1 := by omega
      subst this; rfl
    · simp only [dL4, hL n h1 (by omega), cond_false]; exact dL4_beyond h1 fun i h2 h3 => hL i h2 (by omega)
theorem dL4_first {L : Nat → Bool} : ∀ {m : Nat}, dL4 nw dl d (m + 1) L = dL4 (fun i => nw (i + 1)) (fun i => dl (i + 1)) (bif L 0 then nw 0 ++ delEs d (dl 0) else d) m (fun i => L (i + 1))
  | 0 => rfl
  | m + 1 => by rw [dL4, dL4_first (m := m)]; rfl
end
section
variable {F : Frm} {ops : Array Oper}
/-- what the i-th operation comes to -/
structure AtI4 (F : Frm) (ops : Array Oper) (dst : Nat → Option Tmp) (its : Nat → Itm4) (σ : AS) (n : Nat) (i : Nat) (o : Oper) : Prop where
  ok : dstOk o.dst F.N = true
  cs : (∃ ex, (its i).rl = rdl (gLs dst (fun i => (its i).s) σ.g n (fun k => decide (k < i))) o ++ ex ∧
    ((GK ops (gLs dst (fun i => (its i).s) σ.g n (fun k => decide (k < i))) o true ∧ (its i).fr = (its i).nw ∧ (its i).dl = [] ∧ JO F o ⟨gLs dst (fun i => (its i).s) σ.g n (fun k => decide (k < i)), dL4 (fun i => (its i).nw) (fun i => (its i).dl) σ.d n (fun k => decide (k < i))⟩ (its i).s (its i).nw) ∨
    (GK ops (gLs dst (fun i => (its i).s) σ.g n (fun k => decide (k < i))) o false ∧ (its i).s = .top ∧ (its i).nw = [] ∧ (its i).dl = []) ∨
    (GK ops (gLs dst (fun i => (its i).s) σ.g n (fun k => decide (k < i))) o true ∧
      ∀ σ2, Loc ops o ⟨gLs dst (fun i => (its i).s) σ.g n (fun k => decide (k < i)), dL4 (fun i => (its i).nw) (fun i => (its i).dl) σ.d n (fun k => decide (k < i))⟩ σ2 → (∀ l ∈ ex, lkE σ2.d l = lkE (dL4 (fun i => (its i).nw) (fun i => (its i).dl) σ.d n (fun k => decide (k < i))) l) → σ2.free (its i).fr = true → JM F o σ2 ⟨gput o.dst (its i).s σ2.g, (its i).nw ++ delEs σ2.d (its i).dl⟩))) ∨
    (GK ops (gLs dst (fun i => (its i).s) σ.g n (fun k => decide (k < i))) o true ∧ (its i).nw = [] ∧ (its i).fr = [] ∧ (its i).dl = [] ∧ ∀ d, JO F o ⟨gLs dst (fun i => (its i).s) σ.g n (fun k => decide (k < i)), d⟩ (its i).s [])
theorem JP4.len {os : List Oper} {σ σ' : AS} {h : List Itm4} (hp : JP4 F ops os σ h σ') : h.length = os.length := by
  induction hp with
  | nil => rfl
  | cons _ _ _ _ ih => simp [ih]
  | left _ _ _ ih => simp [ih]
  | pu _ _ _ _ ih => simp [ih]
  | mv _ _ _ _ ih => simp [ih]
  | mvx _ _ _ _ ih => simp [ih]
theorem JP4.at {os : List Oper} {σ σ' : AS} {h : List Itm4} (hp : JP4 F ops os σ h σ') :
    σ'.g = gLs (fun i => (os[i]?).bind (·.dst)) (fun i => (h.getD i ⟨.top, [], [], [], []⟩).s) σ.g os.length (fun _ => true) ∧ σ'.d = dL4 (fun i => (h.getD i ⟨.top, [], [], [], []⟩).nw) (fun i => (h.getD i ⟨.top, [], [], [], []⟩).dl) σ.d os.length (fun _ => true) ∧
    ∀ i o, os[i]? = some o → AtI4 F ops (fun i => (os[i]?).bind (·.dst)) (fun i => h.getD i ⟨.top, [], [], [], []⟩) σ os.length i o := by
  have step : ∀ {o0 : Oper} {os : List Oper} {σ σ' : AS} {h : List Itm4} {it : Itm4}, 
      (σ'.g = gLs (fun i => (os[i]?).bind (·.dst)) (fun i => (h.getD i ⟨.top, [], [], [], []⟩).s) (gput o0.dst it.s σ.g) os.length (fun _ => true) ∧ σ'.d = dL4 (fun i => (h.getD i ⟨.top, [], [], [], []⟩).nw) (fun i => (h.getD i ⟨.top, [], [], [], []⟩).dl) (it.nw ++ delEs σ.d it.dl) os.length (fun _ => true) ∧
        ∀ i o, os[i]? = some o → AtI4 F ops (fun i => (os[i]?).bind (·.dst)) (fun i => h.getD i ⟨.top, [], [], [], []⟩) ⟨gput o0.dst it.s σ.g, it.nw ++ delEs σ.d it.dl⟩ os.length i o) →
      AtI4 F ops (fun i => ((o0 :: os)[i]?).bind (·.dst)) (fun i => (it :: h).getD i ⟨.top, [], [], [], []⟩) σ (o0 :: os).length 0 o0 →
      (σ'.g = gLs (fun i => ((o0 :: os)[i]?).bind (·.dst)) (fun i => ((it :: h).getD i ⟨.top, [], [], [], []⟩).s) σ.g (o0 :: os).length (fun _ => true) ∧ σ'.d = dL4 (fun i => ((it :: h).getD i ⟨.top, [], [], [], []⟩).nw) (fun i => ((it :: h).getD i ⟨.top, [], [], [], []⟩).dl) σ.d (o0 :: os).length (fun _ => true) ∧
        ∀ i o, (o0 :: os)[i]? = some o → AtI4 F ops (fun i => ((o0 :: os)[i]?).bind (·.dst)) (fun i => (it :: h).getD i ⟨.top, [], [], [], []⟩) σ (o0 :: os).length i o) := by
    rintro o0 os σ σ' h it ⟨h1, h2, h3⟩ h0
    refine ⟨by rw [h1, List.length_cons, gLs_first]; rfl, by rw [h2, List.length_cons, dL4_first]; rfl, fun i o hi => ?_⟩
    cases i with
    | zero => simp at hi; subst hi; exact h0
    | succ i =>
      have h4 := h3 i o (by simpa using hi)
      have e1 : gLs (fun i => ((o0 :: os)[i]?).bind (·.dst)) (fun i => ((it :: h).getD i ⟨.top, [], [], [], []⟩).s) σ.g (o0 :: os).length (fun k => decide (k < i + 1)) =
          gLs (fun i => (os[i]?).bind (·.dst)) (fun i => (h.getD i ⟨.top, [], [], [], []⟩).s) (gput o0.dst it.s σ.g) os.length (fun k => decide (k < i)) := by
        rw [List.length_cons, gLs_first]
        simp
      have e2 : dL4 (fun i => ((it :: h).getD i ⟨.top, [], [], [], []⟩).nw) (fun i => ((it :: h).getD i ⟨.top, [], [], [], []⟩).dl) σ.d (o0 :: os).length (fun k => decide (k < i + 1)) =
          dL4 (fun i => (h.getD i ⟨.top, [], [], [], []⟩).nw) (fun i => (h.getD i ⟨.top, [], [], [], []⟩).dl) (it.nw ++ delEs σ.d it.dl) os.length (fun k => decide (k < i)) := by
        rw [List.length_cons, dL4_first]
        simp
      refine ⟨h4.ok, ?_⟩
      rw [e1, e2]; exact h4.cs
  have z1 : ∀ {o0 : Oper} {os : List Oper} {σ : AS} {h : List Itm4} {it : Itm4}, gLs (fun i => ((o0 :: os)[i]?).bind (·.dst)) (fun i => ((it :: h).getD i ⟨.top, [], [], [], []⟩).s) σ.g (o0 :: os).length (fun k => decide (k < 0)) = σ.g := by
    intro o0 os σ h it
    rw [gLs_beyond (m := 0) (Nat.zero_le _) (fun i _ _ => by simp)]; rfl
  have z2 : ∀ {o0 : Oper} {os : List Oper} {σ : AS} {h : List Itm4} {it : Itm4}, dL4 (fun i => ((it :: h).getD i ⟨.top, [], [], [], []⟩).nw) (fun i => ((it :: h).getD i ⟨.top, [], [], [], []⟩).dl) σ.d (o0 :: os).length (fun k => decide (k < 0)) = σ.d := by
    intro o0 os σ h it
    rw [dL4_beyond (m := 0) (Nat.zero_le _) (fun i _ _ => by simp)]; rfl
  induction hp with
  | nil => exact ⟨rfl, rfl, fun i o h => by simp at h⟩
  | cons g j d _ ih =>
    rename_i o os σ σ' s new h _
    refine step (it := ⟨s, new, new, rdl σ.g o, []⟩) ih ⟨d, ?_⟩
    rw [z1, z2]; exact .inl ⟨[], by simp, .inl ⟨g, rfl, rfl, j⟩⟩
  | left g d _ ih =>
    rename_i o os σ σ' h _
    refine step (it := ⟨.top, [], [], rdl σ.g o, []⟩) ih ⟨d, ?_⟩
    rw [z1, z2]; exact .inl ⟨[], by simp, .inr (.inl ⟨g, rfl, rfl, rfl⟩)⟩
  | pu g hd hj hp ih =>
    rename_i o os σ σ' s h
    refine step (it := ⟨s, [], [], [], []⟩) ih ⟨hd, ?_⟩
    rw [z1, z2]; exact .inr ⟨g, rfl, rfl, rfl, hj⟩
  | mv g hd hm hp ih =>
    rename_i o os σ σ' s nw fr dl h
    refine step (it := ⟨s, nw, fr, rdl σ.g o, dl⟩) ih ⟨hd, ?_⟩
    rw [z1, z2]; exact .inl ⟨[], by simp, .inr (.inr ⟨g, fun σ2 hL _ hf => hm σ2 hL hf⟩)⟩
  | mvx g hd hm hp ih =>
    rename_i o os σ σ' s nw fr dl ex h
    refine step (it := ⟨s, nw, fr, rdl σ.g o ++ ex, dl⟩) ih ⟨hd, ?_⟩
    rw [z1, z2]; exact .inl ⟨ex, rfl, .inr (.inr ⟨g, hm⟩)⟩

theorem W.dr4 {id : Nat} {ops : Array Oper} {cs : List Code} {σ σ1 σ' : AS} {its : List Itm4} {Q : Exit → Act → World → Prop} (n : Nat) (ms : List Nat) (hm : F.P.follows .mixedOrders = true) (hp : JP4 F ops (ops.toList.take n) σ its σ1) (ht : J F ops (ops.toList.drop n) σ1 σ')
    (hn : Nat.ble n ops.size = true) (hbk : backOk ops = true) (hms : msOk ops ms = true) (hok : drawOk2 ops n ms = true) (hcm : com4 its ms = true) (hfe : fre4 σ its ms = true) (k : W F cs σ' Q) : W F (.region id ops true :: cs) σ Q := by
  intro a w hs
  have hn := Nat.le_of_ble_eq_true hn
  obtain ⟨l1, hl1⟩ : ∃ l1, l1 = ops.toList.take n := ⟨_, rfl⟩
  obtain ⟨l2, hl2⟩ : ∃ l2, l2 = ops.toList.drop n := ⟨_, rfl⟩
  rw [← hl1] at hp
  rw [← hl2] at ht
  have hl : ops.toList = l1 ++ l2 := by rw [hl1, hl2]; exact (List.take_append_drop n ops.toList).symm
  have hln : l1.length = n := by rw [hl1, List.length_take, Array.length_toList]; exact Nat.min_eq_left hn
  have hil : its.length = n := by rw [hp.len, hln]
  obtain ⟨s1, d1, hst⟩ := hp.at
  obtain ⟨dst, hdstE⟩ : ∃ dst : Nat → Option Tmp, dst = fun i => (l1[i]?).bind (·.dst) := ⟨_, rfl⟩
  obtain ⟨it, hitE⟩ : ∃ it : Nat → Itm4, it = fun i => its.getD i ⟨.top, [], [], [], []⟩ := ⟨_, rfl⟩
  rw [← hdstE, hln] at hst
  rw [← hitE] at hst
  rw [← hdstE, hln] at s1
  rw [hln] at d1
  have s1 : σ1.g = gLs dst (fun i => (it i).s) σ.g n (fun _ => true) := by rw [s1, hitE]
  have d1 : σ1.d = dL4 (fun i => (it i).nw) (fun i => (it i).dl) σ.d n (fun _ => true) := by rw [d1, hitE]
  have hsz : ops.size = l1.length + l2.length := by rw [← Array.length_toList, hl, List.length_append]
  have hget : ∀ i : Nat, ops[i]? = (l1 ++ l2)[i]? := fun i => by rw [← hl]; exact (Array.getElem?_toList).symm
  have hos : ∀ i, i < n → l1[i]? = ops[i]? := fun i hi => by rw [hget, List.getElem?_append_left (by omega)]
  have hdst : ∀ i o, i < n → ops[i]? = some o → dst i = o.dst := fun i o hi ho => by rw [hdstE]; show (l1[i]?).bind _ = _; rw [hos i hi, ho]; rfl
  have hop : ∀ i, i < n → ∃ o, ops[i]? = some o := fun i hi => ⟨ops[i]'(by omega), Array.getElem?_eq_getElem (by omega)⟩
  have hanc := ms_spec hbk hms
  have hat : ∀ i o, i < n → ops[i]? = some o → AtI4 F ops dst it σ n i o := fun i o hi ho => hst i o (by rw [hos i hi]; exact ho)
  have hitE2 : ∀ q, q < n → its[q]? = some (it q) := fun q hq => by
    rw [hitE]; simp only [List.getD_eq_getElem?_getD]; rw [List.getElem?_eq_getElem (by omega)]; rfl
  -- two that do not wait for each other
  have hcom : ∀ i j, i < n → j < n → i ≠ j → Anc ops j i ∨ Anc ops i j ∨ apt4 (it i) (it j) = true := by
    intro i j hi hj hij
    have h1 := List.all_eq_true.1 (List.all_eq_true.1 hcm i (List.mem_range.2 (by omega))) j (List.mem_range.2 (by omega))
    simp only [Bool.or_eq_true] at h1
    rcases h1 with ((h1 | h1) | h1) | h1
    · exact absurd (Nat.eq_of_beq_eq_true h1) hij
    · exact .inl (hanc _ _ h1)
    · exact .inr (.inl (hanc _ _ h1))
    · refine .inr (.inr ?_)
      rw [hitE2 i hi, hitE2 j hj] at h1
      exact h1
  have hapt : ∀ {a b : Itm4} {l : Nat}, apt4 a b = true → (lkE a.nw l ≠ none ∨ l ∈ a.dl) → l ∉ b.rl ∧ l ∉ b.dl ∧ ∀ y ∈ b.nw, y.1 ≠ l := by
    intro a b l h hx
    have hl : l ∈ a.nw.map (·.1) ++ a.dl := by
      rcases hx with hx | hx
      · obtain ⟨e, he⟩ := Option.ne_none_iff_exists'.1 hx
        exact List.mem_append_left _ (List.mem_map.2 ⟨_, lkE_mem he, rfl⟩)
      · exact List.mem_append_right _ hx
    have := List.all_eq_true.1 h _ hl
    simp only [Bool.and_eq_true, Bool.not_eq_true', List.all_eq_true] at this
    refine ⟨fun hc => ?_, fun hc => ?_, fun y hy e => ?_⟩
    · have h2 := this.1.1; simp at h2; exact h2 hc
    · have h2 := this.1.2; simp at h2; exact h2 hc
    · have h2 := this.2 y hy; rw [e] at h2; simp at h2
  obtain ⟨σL, hσL⟩ : ∃ σL : (Nat → Bool) → AS, σL = fun L => ⟨gLs dst (fun i => (it i).s) σ.g n L, dL4 (fun i => (it i).nw) (fun i => (it i).dl) σ.d n L⟩ := ⟨_, rfl⟩
  have hpure : ∀ i o t, i < n → ops[i]? = some o → o.dst = some t → ∀ j o', j < n → ops[j]? = some o' → (j = i ∨ o'.dst ≠ some t) ∧ (t ∈ looks ops o' → Anc ops j i ∨ Anc ops i j) := by
    intro i o t hi ho hd j o' hj ho'
    have h1 := List.all_eq_true.1 hok i (List.mem_range.2 (by omega))
    simp only [ho, if_pos hi, hd] at h1
    have h2 := List.all_eq_true.1 h1 j (List.mem_range.2 hj)
    simp only [ho', Bool.and_eq_true, Bool.or_eq_true, Bool.not_eq_true'] at h2
    obtain ⟨h3, h4⟩ := h2
    refine ⟨h3.imp (fun h => by simpa using h) (fun h => by simpa using h), fun hc => ?_⟩
    rcases h4 with (h4 | h4) | h4
    · simp at h4; exact absurd hc h4
    · exact .inl (hanc _ _ h4)
    · exact .inr (hanc _ _ h4)
  have htail : ∀ {i : Nat} {o : Oper}, ¬ i < n → ops[i]? = some o → ∀ {j : Nat}, j < i → Anc ops i j := by
    intro i o hi ho j hj
    have hlt : i < ops.size := by
      rcases Nat.lt_or_ge i ops.size with h | h
      · exact h
      · simp [Array.getElem?_eq_none h] at ho
    have h1 := List.all_eq_true.1 hok i (List.mem_range.2 hlt)
    simp only [ho, if_neg hi] at h1
    exact hanc _ _ (List.all_eq_true.1 h1 j (List.mem_range.2 hj))
  have hback : ∀ i o, i < ops.size → ops[i]? = some o → ∀ j ∈ deps o, j < i := fun i o _ ho j hj => back_dep hbk ho hj
  have hwait : ∀ m o, n ≤ m → ops[m]? = some o → ∀ j ∈ deps o, j < ops.size ∧ decide (j < m) = true := by
    intro m o _ ho j hj
    have hlt : m < ops.size := by
      rcases Nat.lt_or_ge m ops.size with h | h
      · exact h
      · simp [Array.getElem?_eq_none h] at ho
    have := hback m o hlt ho j hj
    exact ⟨by omega, by simpa using this⟩
  have hfull : ∀ L a w, St F (σL L) a w → (∀ i, i < n → L i = true) → St F σ1 a w := by
    intro L a w h hall
    rw [hσL] at h
    refine St.congr (fun u => ?_) (fun l => ?_) h
    · rw [s1]; exact gLs_congr fun i hi _ => by rw [hall i hi]
    · rw [d1]; exact dL4_congr fun i hi _ => by rw [hall i hi]
  -- one of them
  have hstep : ∀ L a w j o, Down ops L → St F (σL L) a w → j < n → ops[j]? = some o → L j = false → (∀ i ∈ deps o, L i = true) → ∀ K : Act → World → Prop,
      (∀ a' w', St F (σL fun i => i == j || L i) a' w' → K a' w') → wpOpIn F.fe 0 F.P ops (Exit.then (run F.fe F.P Q cs) Q) j K a w := by
    intro L a w j o hdn h hj ho hLj hdep K hK
    have hA := hat j o hj ho
    have hancL : ∀ i, Anc ops j i → L i = true := by
      intro i hi
      cases hi with
      | one ho' hd => rw [ho] at ho'; cases ho'; exact hdep _ hd
      | up ho' hd hr => rw [ho] at ho'; cases ho'; exact hr.down hdn (hdep _ hd)
    have hno : ∀ i, L i = true → ¬ Anc ops i j := fun i hi hc => by rw [hc.down hdn hi] at hLj; cases hLj
    have hgl : ∀ u ∈ looks ops o, lk (σL L).g u = lk (gLs dst (fun i => (it i).s) σ.g n (fun k => decide (k < j))) u := by
      intro u hu
      rw [hσL]
      refine gLs_congr fun i hi hd => ?_
      obtain ⟨oi, hoi⟩ := hop i hi
      rw [hdst i oi hi hoi] at hd
      rcases (hpure i oi u hi hoi hd j o hj ho).2 hu with h1 | h1
      · have := h1.lt hbk
        rw [hancL i h1]; simpa using this
      · have h2 := h1.lt hbk
        have h3 : L i = false := by
          cases hLi : L i with
          | false => rfl
          | true => exact absurd h1 (hno i hLi)
        rw [h3]; simp; omega
    obtain ⟨σ0, hσg, hloc, ex, hex, hcs⟩ : ∃ σ0 : AS, σ0.g = gLs dst (fun i => (it i).s) σ.g n (fun k => decide (k < j)) ∧ Loc ops o σ0 (σL L) ∧ ∃ ex : List Nat, (∀ l ∈ ex, lkE (σL L).d l = lkE σ0.d l) ∧
        ((GK ops σ0.g o true ∧ (it j).fr = (it j).nw ∧ (it j).dl = [] ∧ JO F o σ0 (it j).s (it j).nw) ∨ (GK ops σ0.g o false ∧ (it j).s = .top ∧ (it j).nw = [] ∧ (it j).dl = []) ∨
          (GK ops σ0.g o true ∧ ∀ σ2, Loc ops o σ0 σ2 → (∀ l ∈ ex, lkE σ2.d l = lkE σ0.d l) → σ2.free (it j).fr = true → JM F o σ2 ⟨gput o.dst (it j).s σ2.g, (it j).nw ++ delEs σ2.d (it j).dl⟩)) := by
      rcases hA.cs with ⟨ex, hrl, hcs⟩ | ⟨hg, hnw, hfr, hdl, hjo⟩
      · have hd : ∀ l ∈ (it j).rl, lkE (σL L).d l = lkE (dL4 (fun i => (it i).nw) (fun i => (it i).dl) σ.d n (fun k => decide (k < j))) l := by
          intro l hl
          rw [hσL]
          refine dL4_congr fun i hi hx => ?_
          by_cases hij : i = j
          · subst hij; rw [hLj]; simp
          · rcases hcom i j hi hj hij with h1 | h1 | h1
            · have := h1.lt hbk
              rw [hancL i h1]; simpa using this
            · have h2 := h1.lt hbk
              have h3 : L i = false := by
                cases hLi : L i with
                | false => rfl
                | true => exact absurd h1 (hno i hLi)
              rw [h3]; simp; omega
            · exact absurd hl (hapt h1 hx).1
        exact ⟨⟨gLs dst (fun i => (it i).s) σ.g n (fun k => decide (k < j)), dL4 (fun i => (it i).nw) (fun i => (it i).dl) σ.d n (fun k => decide (k < j))⟩, rfl, ⟨hgl, fun l hl => hd l (by rw [hrl]; exact List.mem_append_left _ hl)⟩, ex, fun l hl => hd l (by rw [hrl]; exact List.mem_append_right _ hl), hcs⟩
      · exact ⟨⟨gLs dst (fun i => (it i).s) σ.g n (fun k => decide (k < j)), (σL L).d⟩, rfl, ⟨hgl, fun l _ => rfl⟩, [], fun l hl => rfl, .inl ⟨hg, by rw [hfr, hnw], hdl, by rw [hnw]; exact hjo _⟩⟩
    -- one that stands behind j and is done does not touch what j makes
    have hbeh : ∀ l, (lkE (it j).nw l ≠ none ∨ l ∈ (it j).dl) → ∀ i, j < i → i < n → (i == j || L i) = true → lkE (it i).nw l = none ∧ l ∉ (it i).dl := by
      intro l hl i hji hi hLi
      have hij : i ≠ j := by omega
      have hLi' : L i = true := by simpa [hij] using hLi
      rcases hcom j i hj hi (Ne.symm hij) with h1 | h1 | h1
      · exact absurd h1 (hno i hLi')
      · have := h1.lt hbk; omega
      · refine ⟨?_, ?_⟩
        · cases hy : lkE (it i).nw l with
          | none => rfl
          | some e => exact absurd rfl ((hapt (l := l) h1 hl).2.2 _ (lkE_mem hy))
        · exact (hapt (l := l) h1 hl).2.1
    -- what is known then
    have hafter : ∀ a' w', St F ⟨gput o.dst (it j).s (σL L).g, (it j).nw ++ delEs (σL L).d (it j).dl⟩ a' w' → St F (σL fun i => i == j || L i) a' w' := by
      intro a' w' h'
      rw [hσL] at h' ⊢
      refine St.congr (fun u => ?_) (fun l => ?_) h'
      · show lk (gLs _ _ _ _ _) u = lk (gput _ _ (gLs _ _ _ _ _)) u
        rw [lk_gput]
        split
        · rename_i hd
          refine gLs_at (by rw [hdst j o hj ho]; exact hd) (by simp) hj fun i hi hij hc => ?_
          obtain ⟨oi, hoi⟩ := hop i hi
          rw [hdst i oi hi hoi] at hc
          rcases (hpure j o u hj ho hd i oi hi hoi).1 with h1 | h1
          · exact hij h1
          · exact h1 hc
        · rename_i hd
          refine gLs_congr fun i hi hc => ?_
          by_cases hij : i = j
          · subst hij; rw [hdst i o hi ho] at hc; exact absurd hc hd
          · simp [hij]
      · show lkE (dL4 _ _ _ _ _) l = lkE (_ ++ delEs (dL4 _ _ _ _ _) _) l
        rw [lkE_append]
        cases hx : lkE (it j).nw l with
        | some en => exact dL4_at hx (by simp) hj (hbeh l (.inl (by rw [hx]; simp)))
        | none =>
          simp only [Option.none_or]
          rw [lkE_delEs]
          by_cases hg : l ∈ (it j).dl
          · rw [if_pos hg]
            exact dL4_gone hx hg (by simp) hj (hbeh l (.inr hg))
          · rw [if_neg hg]
            refine dL4_congr fun i hi hc => ?_
            by_cases hij : i = j
            · subst hij; rcases hc with hc | hc
              · exact absurd hx hc
              · exact absurd hc hg
            · simp [hij]
    have hfree : AS.free (σL L) (it j).fr = true := by
      refine List.all_eq_true.2 fun x hx => ?_
      have h0 := List.all_eq_true.1 hfe j (List.mem_range.2 (by omega))
      rw [hitE2 j hj] at h0
      have h1 := List.all_eq_true.1 h0 x hx
      simp only [Bool.and_eq_true, List.all_eq_true, Bool.or_eq_true] at h1
      obtain ⟨⟨h1, h2⟩, h3⟩ := h1
      have h4 : ∀ i, i < n → L i = true → (!(it i).s.lab.contains x.1) = true ∧ ∀ y ∈ (it i).nw, (!Nat.beq y.1 x.1) = true ∧ (!y.2.lab.contains x.1) = true := by
        intro i hi hLi
        have h5 := h3 i (List.mem_range.2 (by omega))
        rw [hitE2 i hi] at h5
        rcases h5 with (h5 | h5) | h5
        · rw [Nat.eq_of_beq_eq_true h5, hLj] at hLi; cases hLi
        · exact absurd (hanc _ _ h5) (hno i hLi)
        · simp only [Bool.and_eq_true, List.all_eq_true] at h5
          exact h5
      rw [hσL]
      simp only [Bool.and_eq_true, List.all_eq_true]
      refine ⟨fun y hy => ?_, fun y hy => ?_⟩
      · rcases mem_gLs hy with h5 | ⟨i, hi, hLi, e⟩
        · exact h1 y h5
        · rw [e]; exact (h4 i hi hLi).1
      · rcases mem_dL4 hy with h5 | ⟨i, hi, hLi, hy⟩
        · exact h2 y h5
        · exact (h4 i hi hLi).2 y hy
    have hgw : ∀ b, GK ops σ0.g o b → Region.wanted o (yielded ops a.tmps) = b := by
      intro b hg
      obtain ⟨⟨ρ, hc, hsl⟩, _, _⟩ := h
      exact wanted_of (gk_loc hg hloc) fun t s _ ht => hsl t s ht
    unfold wpOpIn
    rw [ho]
    rcases hcs with ⟨hg, hfr, hdl, hjo⟩ | ⟨hg, htop, hnw, hdl⟩ | ⟨hg, hjm⟩
    · simp only [hgw true hg, if_true]
      obtain ⟨⟨ρ, hc, hsl⟩, hz, hde⟩ := h
      refine (JO.loc hjo hloc ρ _ a w (Know.of_st hc hsl _)).wpIn fun v w' hr => hK _ _ (hafter _ _ ?_)
      rw [hfr] at hfree
      have := St.put hc hsl hz hde hfree hA.ok hr
      rw [hdl]
      cases hd : o.dst with
      | none => rw [hd] at this; exact this
      | some t => rw [hd] at this; exact this
    · simp only [hgw false hg, Bool.false_eq_true, if_false]
      refine ⟨fun _ _ => trivial, hK _ _ (hafter _ _ ?_)⟩
      obtain ⟨⟨ρ, hc, hsl⟩, hz, hde⟩ := h
      have := St.put (s := .top) (new := []) (v := undef) (dst := o.dst) hc hsl hz hde rfl hA.ok Res_top
      rw [htop, hnw, hdl]
      cases hd : o.dst with
      | none => rw [hd] at this; exact this
      | some t => rw [hd] at this; exact this
    · simp only [hgw true hg, if_true]
      exact (hjm (σL L) hloc hex hfree a w h).wpIn fun v w' h' => hK _ _ (hafter _ _ h')
  -- whatever order
  have hgetD : ∀ (listed : Array Bool) (L : Nat → Bool), listed.size = ops.size → (∀ i, i < ops.size → listed.getD i false = L i) → ∀ i d, i < ops.size → listed.getD i d = L i := by
    intro listed L hls hL i d hi
    have := hL i hi
    rw [Array.getD_eq_getD_getElem?] at this ⊢
    rw [Array.getElem?_eq_getElem (by omega)] at this ⊢
    simpa using this
  have hready : ∀ (listed : Array Bool) (L : Nat → Bool), listed.size = ops.size → (∀ i, i < ops.size → listed.getD i false = L i) → ∀ i, i ∈ Region.ready .any ops listed ↔
      (i < ops.size ∧ L i = false ∧ ∀ o, ops[i]? = some o → ∀ j ∈ deps o, j < ops.size ∧ L j = true) := by
    intro listed L hls hL i
    unfold Region.ready
    rw [List.mem_filter, List.mem_range]
    constructor
    · rintro ⟨h1, h2⟩
      simp only [Bool.and_eq_true, Bool.not_eq_true'] at h2
      obtain ⟨h2, h3⟩ := h2
      rw [hgetD listed L hls hL i true h1] at h2
      refine ⟨h1, h2, fun o ho j hj => ?_⟩
      rw [ho] at h3
      simp only [Option.map_some, Option.getD_some] at h3
      obtain ⟨e, he, hej⟩ := List.mem_filterMap.1 hj
      have he' : e ∈ o.after := by simpa using he
      have := Array.all_eq_true_iff_forall_mem.1 h3 e he'
      split at hej
      · rename_i hb
        cases hej
        rw [hb] at this
        simp only [Bool.not_true, Bool.false_or] at this
        rcases Nat.lt_or_ge e.on ops.size with hl | hl
        · rw [hgetD listed L hls hL _ _ hl] at this; exact ⟨hl, this⟩
        · rw [Array.getD_eq_getD_getElem?, Array.getElem?_eq_none (by omega)] at this; simp at this
      · cases hej
    · rintro ⟨h1, h2, h3⟩
      refine ⟨h1, ?_⟩
      have ho : ops[i]? = some ops[i] := Array.getElem?_eq_getElem h1
      simp only [Bool.and_eq_true, Bool.not_eq_true', hgetD listed L hls hL i true h1, h2, true_and, ho, Option.map_some, Option.getD_some]
      refine Array.all_eq_true_iff_forall_mem.2 fun e he => ?_
      cases hb : Region.binds .any e with
      | false => rfl
      | true =>
        have := h3 _ ho e.on (List.mem_filterMap.2 ⟨e, by simpa using he, by simp [hb]⟩)
        rw [hgetD listed L hls hL _ _ this.1, this.2]; rfl
  have hset : ∀ (listed : Array Bool) (L : Nat → Bool) (j : Nat), listed.size = ops.size → j < ops.size → (∀ i, i < ops.size → listed.getD i false = L i) → ∀ i, i < ops.size → (listed.setIfInBounds j true).getD i false = (i == j || L i) := by
    intro listed L j hls hj hL i hi
    by_cases hij : i = j
    · subst hij
      simp only [Array.getD_eq_getD_getElem?, Array.getElem?_setIfInBounds]
      simp [hls, hi]
    · rw [getD_set_ne false (Ne.symm hij), hL i hi]; simp [hij]
  have hB : ∀ fuel m (listed : Array Bool) a w, listed.size = ops.size → (∀ i, i < ops.size → listed.getD i false = decide (i < m)) → Down ops (fun i => decide (i < m)) → n ≤ m → m + fuel = ops.size →
      wpListIn F.fe 0 F.P ops (Exit.then (run F.fe F.P Q cs) Q) (ops.toList.drop m) a w → wpAnyIn F.fe 0 F.P .any ops (Exit.then (run F.fe F.P Q cs) Q) fuel listed a w := by
    intro fuel
    induction fuel with
    | zero =>
      intro m listed a w hls hlm _ hnm hmf hw
      refine ⟨List.eq_nil_iff_forall_not_mem.2 fun i hi => ?_, ?_⟩
      · obtain ⟨h1, h2, _⟩ := (hready listed _ hls hlm i).1 hi
        have : i < m := by omega
        simp [this] at h2
      · rw [List.drop_eq_nil_of_le (by rw [Array.length_toList]; omega)] at hw
        exact hw
    | succ fuel ih =>
      intro m listed a w hls hlm hdn hnm hmf hw
      have hmlt : m < ops.size := by omega
      have hom : ops[m]? = some ops[m] := Array.getElem?_eq_getElem hmlt
      have hmr : ∀ i ∈ Region.ready .any ops listed, i = m := by
        intro i hi
        obtain ⟨h1, h2, h3⟩ := (hready listed _ hls hlm i).1 hi
        have him : m ≤ i := by simpa using h2
        rcases Nat.lt_or_ge m i with hlt | hge
        · exfalso
          have ho : ops[i]? = some ops[i] := Array.getElem?_eq_getElem h1
          have hmem := htail (by omega) ho hlt
          cases hmem with
          | one ho' hj => rw [ho] at ho'; cases ho'; have := (h3 _ ho _ hj).2; simp at this
          | up ho' hj hmj =>
            rw [ho] at ho'; cases ho'
            have hjm := (h3 _ ho _ hj).2
            have := hmj.down hdn hjm
            simp at this
        · omega
      have hdrop : ops.toList.drop m = ops[m] :: ops.toList.drop (m + 1) := by
        rw [List.drop_eq_getElem_cons (by rw [Array.length_toList]; exact hmlt)]
        simp
      rw [hdrop] at hw
      refine ⟨fun hr => ?_, fun i hi => ?_⟩
      · exfalso
        -- m itself is ready: what it waits for is ahead of it
        have hnr : m ∉ Region.ready .any ops listed := by rw [hr]; simp
        refine hnr ((hready listed _ hls hlm m).2 ⟨hmlt, by simp, fun o ho j hj => ?_⟩)
        exact hwait m o hnm ho j hj
      · have := hmr i hi
        subst this
        obtain ⟨_, _, h3⟩ := (hready listed _ hls hlm i).1 hi
        have hdn' : Down ops (fun k => decide (k < i + 1)) := by
          intro k o hk ho j hj
          have hk : k < i + 1 := by simpa using hk
          rcases Nat.lt_or_ge k i with h | h
          · have := hdn k o (by simpa using h) ho j hj
            have : j < i := by simpa using this
            simp; omega
          · have : k = i := by omega
            subst this
            have := (h3 o ho j hj).2
            have : j < k := by simpa using this
            simp; omega
        have hnext : ∀ a w, wpListIn F.fe 0 F.P ops (Exit.then (run F.fe F.P Q cs) Q) (ops.toList.drop (i + 1)) a w → wpAnyIn F.fe 0 F.P .any ops (Exit.then (run F.fe F.P Q cs) Q) fuel (listed.setIfInBounds i true) a w := by
          intro a w hw
          refine ih (i + 1) _ a w (by simpa using hls) (fun j hj => ?_) hdn' (by omega) (by omega) hw
          rw [hset listed _ i hls hmlt hlm j hj]
          by_cases hji : j = i
          · subst hji; simp
          · have : (j < i + 1) ↔ j < i := by omega
            simp [hji, this]
        unfold wpOpIn
        rw [hom]
        unfold wpListIn at hw
        split at hw
        · rename_i hwant
          simp only [hwant, if_true]
          exact Oper.wpIn_mono hnext hw
        · rename_i hwant
          simp only [hwant]
          exact ⟨hw.1, hnext _ _ hw.2⟩
  have hA : ∀ fuel (listed : Array Bool) (L : Nat → Bool) a w, listed.size = ops.size → (∀ i, i < ops.size → listed.getD i false = L i) → Down ops L → (∀ i, L i = true → i < n) → ((List.range ops.size).filter fun i => L i).length + fuel = ops.size →
      St F (σL L) a w → wpAnyIn F.fe 0 F.P .any ops (Exit.then (run F.fe F.P Q cs) Q) fuel listed a w := by
    intro fuel
    induction fuel with
    | zero =>
      intro listed L a w hls hL hdn hLn hcnt h
      have hall : ∀ i, i < ops.size → L i = true := by
        have hc : ((List.range ops.size).filter fun i => L i).length = (List.range ops.size).length := by simpa using hcnt
        have := List.length_filter_eq_length_iff.1 hc
        exact fun i hi => this i (List.mem_range.2 hi)
      have hnn : ops.size = n := by
        rcases Nat.lt_or_ge n ops.size with h | h
        · have := hLn n (hall n h); omega
        · omega
      have hl2 : l2 = [] := List.eq_nil_of_length_eq_zero (by omega)
      refine ⟨List.eq_nil_iff_forall_not_mem.2 fun i hi => ?_, ?_⟩
      · obtain ⟨h1, h2, _⟩ := (hready listed _ hls hL i).1 hi
        rw [hall i h1] at h2; cases h2
      · have hst1 := hfull L a w h fun i hi => hall i (by omega)
        have := ht (Exit.then (run F.fe F.P Q cs) Q) [] a w hst1 (fun a' w' h' => wpListIn_nil (k a' w' h'))
        rw [hl2] at this
        exact this
    | succ fuel ih =>
      intro listed L a w hls hL hdn hLn hcnt h
      by_cases hall : ∀ i, i < n → L i = true
      · -- all of the first are done: the others, in the text's order
        have hst1 := hfull L a w h hall
        have hw := ht (Exit.then (run F.fe F.P Q cs) Q) [] a w hst1 (fun a' w' h' => wpListIn_nil (k a' w' h'))
        have hLd : L = fun i => decide (i < n) := by
          funext i
          cases hLi : L i with
          | true => simp [hLn i hLi]
          | false =>
            rcases Nat.lt_or_ge i n with h | h
            · rw [hall i h] at hLi; cases hLi
            · simp; omega
        have hcn : ((List.range ops.size).filter fun i => L i).length = n := by
          rw [hLd]
          have : ops.size = n + (ops.size - n) := by omega
          rw [this, List.range_add, List.filter_append]
          rw [List.filter_eq_self.2 (by intro i hi; simpa using List.mem_range.1 hi), List.filter_eq_nil_iff.2 (by intro i hi; simp at hi ⊢; omega)]
          simp
        refine hB (fuel + 1) n listed a w hls (fun i hi => by rw [hL i hi, hLd]) (by rw [← hLd]; exact hdn) (Nat.le_refl _) (by omega) ?_
        have : ops.toList.drop n = l2 := by rw [hl, ← hln]; simp
        rw [this]; simpa using hw
      · refine ⟨fun hr => ?_, fun i hi => ?_⟩
        · exfalso
          -- the least one that is not done is ready
          have hex : ∃ i, i < n ∧ L i = false := by
            refine Classical.byContradiction fun hno => hall fun i hi => ?_
            cases hLi : L i with
            | true => rfl
            | false => exact absurd ⟨i, hi, hLi⟩ hno
          obtain ⟨i, ⟨hi, hLi⟩, hmin⟩ : ∃ i, (i < n ∧ L i = false) ∧ ∀ j, j < i → L j = true := by
            obtain ⟨i, hi⟩ := hex
            induction i using Nat.strongRecOn with
            | _ i ihi =>
              by_cases hj : ∃ j, j < i ∧ L j = false
              · obtain ⟨j, h1, h2⟩ := hj; exact ihi j h1 ⟨by omega, h2⟩
              · refine ⟨i, hi, fun j hj' => ?_⟩
                cases hLj : L j with
                | true => rfl
                | false => exact absurd ⟨j, hj', hLj⟩ hj
          have hnr : i ∉ Region.ready .any ops listed := by rw [hr]; simp
          refine hnr ((hready listed _ hls hL i).2 ⟨by omega, hLi, fun o ho j hj => ?_⟩)
          have := hback i o (by omega) ho j hj
          exact ⟨by omega, hmin j this⟩
        · obtain ⟨h1, h2, h3⟩ := (hready listed _ hls hL i).1 hi
          have ho : ops[i]? = some ops[i] := Array.getElem?_eq_getElem h1
          have hin : i < n := by
            refine Classical.byContradiction fun hge => hall fun j hj => ?_
            have hmem := htail hge ho (j := j) (by omega)
            cases hmem with
            | one ho' hj => rw [ho] at ho'; cases ho'; exact (h3 _ ho _ hj).2
            | up ho' hj hmj => rw [ho] at ho'; cases ho'; exact hmj.down hdn (h3 _ ho _ hj).2
          refine hstep L a w i _ hdn h hin ho h2 (fun j hj => (h3 _ ho j hj).2) _ fun a' w' h' => ?_
          refine ih _ _ a' w' (by simpa using hls) (hset listed L i hls h1 hL) ?_ ?_ ?_ h'
          · intro q o hq hoq j hj
            by_cases hqi : q = i
            · subst hqi; simp [(h3 o hoq j hj).2]
            · have : L q = true := by simpa [hqi] using hq
              simp [hdn q o this hoq j hj]
          · intro q hq
            by_cases hqi : q = i
            · omega
            · exact hLn q (by simpa [hqi] using hq)
          · have : ((List.range ops.size).filter fun q => q == i || L q).length = ((List.range ops.size).filter fun q => L q).length + 1 := count_add ops.size i L h1 h2
            omega
  refine wpIn_region_any hm ?_
  refine hA ops.size _ (fun _ => false) a _ (by simp) (fun i hi => by rw [Array.getD_eq_getD_getElem?, Array.getElem?_replicate, if_pos hi]; rfl) (fun _ _ h => by cases h) (fun _ h => by cases h) (by rw [List.filter_eq_nil_iff.2 (fun _ _ h => by cases h)]; simp) ?_
  obtain ⟨⟨ρ, hc, hsl⟩, hz, hde⟩ := hs
  have hb : Below w.heap.size w { w with drawn := w.drawn + 1 } := (Below.refl _ _).drew
  obtain ⟨hc', hE⟩ := hc.below hb
  have e0 : σL (fun _ => false) = σ := by
    rw [hσL]
    show (⟨gLs _ _ _ _ _, dL4 _ _ _ _ _⟩ : AS) = σ
    rw [gLs_beyond (m := 0) (Nat.zero_le _) (fun _ _ _ => rfl), dL4_beyond (m := 0) (Nat.zero_le _) (fun _ _ _ => rfl)]; rfl
  rw [e0]
  exact ⟨⟨ρ, hc', fun t s hts => Slot.ok_mono s _ (hsl t s hts) hE (fun _ _ => rfl)⟩, hz, hde⟩
section
variable {os : List Oper} {σ σ' : AS} {its : List Itm4} {s s0 : Slot} {d : Option Tmp} {pb : Option Nat} {ty : TypeId} {p : String} {af : Array Edge} {gd : Option (Nat × Bool)} {x y : Operand}
theorem JP4.store {T U : TypeId} {l : List Slot} {i off n : Nat} (g : GK ops σ.g ⟨none, .store U x y, ty, p, af, gd⟩ true) (hx : evS σ.g x = some (.ptr i off)) (he : lkE σ.d i = some (.box T l pb)) (ho : offAt l off = some s0) (hy : evS σ.g y = some s) (hp : s.plain = true) (hsz : Nat.beq s.sz n = true) (hsz0 : Nat.beq s0.sz n = true)
    (hS : ∀ w, (sizeOf U).run F.P w = .ok n w) (k : JP4 F ops os ⟨σ.g, (i, .box T (setOff l off s) pb) :: σ.d⟩ its σ') :
    JP4 F ops (⟨none, .store U x y, ty, p, af, gd⟩ :: os) σ (⟨.top, [(i, .box T (setOff l off s) pb)], [], rdl σ.g ⟨none, .store U x y, ty, p, af, gd⟩, []⟩ :: its) σ' :=
  .mv g rfl (fun σ2 hL _ => JM.store ((hL.ev (by simp [Op.operands])).trans hx) ((hL.ent (x := x) (by simp [Op.operands]) hx (by simp [Slot.lab])).trans he) ho ((hL.ev (by simp [Op.operands])).trans hy) hp hsz hsz0 hS) k
theorem JP4.storeAll {α : Type} {e : Enc α} {z : α} {T U : TypeId} {l l' : List Slot} {i : Nat} (g : GK ops σ.g ⟨none, .store U x y, ty, p, af, gd⟩ true) (hx : evS σ.g x = some (.ptr i 0)) (he : lkE σ.d i = some (.box T l pb)) (hl : Nat.beq (l.map Slot.sz).sum e.n = true) (hy : evS σ.g y = some (.v e z)) (hl' : Spl l' e z)
    (hS : ∀ w, (sizeOf U).run F.P w = .ok e.n w) (k : JP4 F ops os ⟨σ.g, (i, .box T l' pb) :: σ.d⟩ its σ') :
    JP4 F ops (⟨none, .store U x y, ty, p, af, gd⟩ :: os) σ (⟨.top, [(i, .box T l' pb)], [], rdl σ.g ⟨none, .store U x y, ty, p, af, gd⟩, []⟩ :: its) σ' :=
  .mv g rfl (fun σ2 hL _ => JM.storeAll ((hL.ev (by simp [Op.operands])).trans hx) ((hL.ent (x := x) (by simp [Op.operands]) hx (by simp [Slot.lab])).trans he) hl ((hL.ev (by simp [Op.operands])).trans hy) hl' hS) k
/-- a source that another state knows as well -/
theorem Src.loc {α : Type} {e : Enc α} {ys : List α} {o : Oper} {σ2 : AS} (h : Src σ y e ys) (hL : Loc ops o σ σ2) (hm : y ∈ o.op.operands) : Src σ2 y e ys := fun ρ S a w K =>
  h ρ S a w ⟨K.low, fun x hx s hs => K.slot x hx s (by have : x = y := by simpa using hx
                                                       subst this; rw [hL.ev hm]; exact hs), fun x hx s hs i hi en he => K.ent x hx s (by have : x = y := by simpa using hx
                                                                                                                                          subst this; rw [hL.ev hm]; exact hs) i hi en (by have : x = y := by simpa using hx
                                                                                                                                                                                           subst this; rw [hL.ent hm hs hi]; exact he)⟩
theorem JP4.append {α : Type} {e : Enc α} {xs ys zs : List α} {T U : TypeId} {ti : TypeInfo} {z : Value} {i : Nat} (g : GK ops σ.g ⟨d, .call ⟨.builtin .append, #[x, y], #[U, U]⟩, ty, p, af, gd⟩ true) (j : Nat) (ha : app xs ys = some zs) (hx : evS σ.g x = some (.ref i)) (he : lkE σ.d i = some (.arr T e xs)) (hy : Src σ y e ys)
    (hU : ∀ w, (underlying U).run F.P w = .ok (.slice T) w) (hI : ∀ w, (typeInfo T).run F.P w = .ok ti w) (hS : ∀ w, (sizeOf T).run F.P w = .ok e.n w) (hz : ti.zero = some z) (hzs : z.cells.size = e.n) (hby : Nat.ble ti.bytes 4096 = true)
    (_ : σ.free [(j, .arr T e zs)] = true) (hd : dstOk d F.N = true) (k : JP4 F ops os ⟨gput d (.ref j) σ.g, (j, .arr T e zs) :: delE σ.d i⟩ its σ') :
    JP4 F ops (⟨d, .call ⟨.builtin .append, #[x, y], #[U, U]⟩, ty, p, af, gd⟩ :: os) σ (⟨.ref j, [(j, .arr T e zs)], [(j, .arr T e zs)], rdl σ.g ⟨d, .call ⟨.builtin .append, #[x, y], #[U, U]⟩, ty, p, af, gd⟩, [i]⟩ :: its) σ' :=
  .mv (nw := [(j, .arr T e zs)]) (dl := [i]) g hd (fun σ2 hL hf => JM.append j ha ((hL.ev (by simp [Op.operands, Call.operands])).trans hx) ((hL.ent (x := x) (by simp [Op.operands, Call.operands]) hx (by simp [Slot.lab])).trans he) (hy.loc hL (by simp [Op.operands, Call.operands])) hU hI hS hz hzs hby hf hd) k
end
end
end Go.Sw

namespace Go.Sw
open Go Go.RowKit
section
variable {F : Frm} {σ : AS} {pb : Option Nat} {s : Slot} {d : Option Tmp} {ty : TypeId} {p : String} {af : Array Edge} {gd : Option (Nat × Bool)} {x y z : Operand}
/-- a result told otherwise: what of it is ours no more is what nobody writes -/
theorem Res.cv {ρ : Nat → LV} {S : Nat → Prop} {w w' : World} {v : Value} {s s' : Slot} {new new' : List (Nat × Ent)} (hlow : ∀ k, S k → k < w.heap.size) (h : Res ρ S w s new v w')
    (hsub : ∀ F : Frm, Sub F ⟨[(0, s)], new⟩ ⟨[(0, s')], new'⟩) (hcl : closed s' new' = true) : Res ρ S w s' new' v w' := by
  obtain ⟨ρ', h1, h2, h3, h4⟩ := h
  let F' : Frm := ⟨default, 1, S, w, fun _ => False, none, []⟩
  have hc : Core F' new ρ' w' := ⟨hlow, h2.size, fun k hk _ => h2.block k hk, h2.os, h2.tape, h2.output, h4.own, fun i en b hi hb => ⟨.inl (h4.fresh i en b hi hb).1, (h4.fresh i en b hi hb).2⟩, h4.inj,
    fun i en b hi hb hS => by have := hlow b hS; have := (h4.fresh i en b hi hb).1; omega⟩
  let a : Act := ⟨#[v], []⟩
  have h0 : St F' ⟨[(0, s)], new⟩ a w' := ⟨⟨ρ', hc, fun t s1 ht => by
    simp only [lk] at ht
    cases hb : Nat.beq 0 t with
    | true => have := Nat.eq_of_beq_eq_true hb; subst this; simp at ht; subst ht; exact h3
    | false => rw [hb] at ht; cases ht⟩, rfl, rfl⟩
  obtain ⟨⟨ρ2, hc2, hs2⟩, _, _⟩ := hsub F' a w' h0
  have hs2 : s'.ok ρ2 (Un S ρ2 new') w' v := hs2 0 s' rfl
  simp only [closed, Bool.and_eq_true, List.all_eq_true] at hcl
  let ρ3 : Nat → LV := fun i => if (lkE new' i).isSome then ρ2 i else ρ i
  have r3 : ∀ i en, lkE new' i = some en → ρ3 i = ρ2 i := fun i en h => if_pos (by rw [h]; rfl)
  have r3' : ∀ i, (lkE new' i).isSome = true → ρ3 i = ρ2 i := fun i h => if_pos h
  have hU : Un S ρ3 new' = Un S ρ2 new' := by
    funext k; apply propext
    constructor
    · rintro (h | ⟨i, en, h5, h6⟩)
      · exact .inl h
      · exact .inr ⟨i, en, h5, by rw [← r3 i en h5]; exact h6⟩
    · rintro (h | ⟨i, en, h5, h6⟩)
      · exact .inl h
      · exact .inr ⟨i, en, h5, by rw [r3 i en h5]; exact h6⟩
  have hE : Ext (Un S ρ2 new') (Un S ρ3 new') w' w' := ⟨Nat.le_refl _, fun k _ h => ⟨rfl, by rw [hU]; exact h⟩⟩
  refine ⟨ρ3, fun i h => if_neg (by rw [h]; simp), h2, Slot.ok_mono s' v hs2 hE (fun i hi => congrArg LV.v (r3' i (hcl.1 i hi))), ⟨fun i en h => ?_, fun i en b h hb => ?_, fun i j en en' b h h' hb hb' => ?_⟩⟩
  · rw [r3 i en h]
    exact Ent.ok_mono (hc2.own i en h) hE (fun q hq => congrArg LV.v (r3' q (hcl.2 _ (lkE_mem h) q hq))) (fun _ _ => rfl)
  · rw [r3 i en h] at hb
    have := hc2.fresh i en b h hb
    exact ⟨this.1.resolve_right (fun h => h), this.2⟩
  · rw [r3 i en h] at hb; rw [r3 j en' h'] at hb'
    exact hc2.inj i j en en' b h h' hb hb'
theorem JO.cv {o : Oper} {s s' : Slot} {new new' : List (Nat × Ent)} (h : JO F o σ s new) (hsub : ∀ F : Frm, Sub F ⟨[(0, s)], new⟩ ⟨[(0, s')], new'⟩) (hcl : closed s' new' = true) : JO F o σ s' new' := by
  intro ρ S a w K
  exact (h ρ S a w K).mono fun v w' hr => hr.cv K.low hsub hcl
end
end Go.Sw

namespace Go.Sw
open Go Go.RowKit
section
variable {F : Frm} {σ : AS} {pb : Option Nat} {s : Slot} {d : Option Tmp} {ty : TypeId} {p : String} {af : Array Edge} {gd : Option (Nat × Bool)} {x y z : Operand} {α : Type} {e : Enc α} {T U : TypeId} {i : Nat}
/-! ### a slice of ours cut shorter -/
theorem arrOk.sub {xs ys : List α} {lo hi : Int} {S : Nat → Prop} {w : World} {v : Value} {a : Option Addr} {cap : Nat} (hs : Sw.sub xs lo hi = some ys) (h : arrOk T e xs S w v) (hv : v = .slice a xs.length cap) :
    arrOk T e ys S w (.slice (if cap = lo.toNat then a else a.map (·.add (lo.toNat * e.n))) (hi.toNat - lo.toNat) (cap - lo.toNat)) := by
  obtain ⟨h0, h1, h2, rfl⟩ := sub_some hs
  rcases h with ⟨rfl, rfl⟩ | ⟨b, cap', pre, cs, post, rfl, h4, h5, h6, h7, h8⟩
  · simp only [Value.slice.injEq, List.length_nil] at hv
    obtain ⟨rfl, _, rfl⟩ := hv
    have : lo.toNat = 0 := by simp at h2; omega
    have : hi.toNat = 0 := by simp at h2; omega
    refine .inl ⟨by simp, ?_⟩
    simp [*]
  · simp only [Value.slice.injEq, true_and] at hv
    obtain ⟨rfl, rfl⟩ := hv
    have hcl := Enc.okL_len h5
    obtain ⟨l, hl⟩ : ∃ l, l = lo.toNat := ⟨_, rfl⟩
    obtain ⟨m, hm⟩ : ∃ m, m = hi.toNat := ⟨_, rfl⟩
    rw [← hl, ← hm]
    have hlm : l ≤ m := by omega
    have hmx : m ≤ xs.length := by omega
    have e1 : l * e.n ≤ m * e.n := Nat.mul_le_mul_right _ hlm
    have e2 : m * e.n ≤ xs.length * e.n := Nat.mul_le_mul_right _ hmx
    have hlen : ((xs.take m).drop l).length = m - l := by rw [List.length_drop, List.length_take]; omega
    by_cases hc : cap' = l
    · rw [if_pos hc]
      have hm2 : m - l = 0 := by omega
      refine .inr ⟨b, cap' - l, pre, [], cs ++ post, by rw [hlen], by simpa using h4, ?_, by omega, ?_, by omega⟩
      · have : (xs.take m).drop l = [] := List.eq_nil_of_length_eq_zero (by omega)
        rw [this]; rfl
      · rw [hc, Nat.sub_self]; simp
    · rw [if_neg hc]
      refine .inr ⟨b, cap' - l, pre ++ cs.take (l * e.n), (cs.take (m * e.n)).drop (l * e.n), cs.drop (m * e.n) ++ post, ?_, ?_, okL_drop _ (okL_take _ h5), by omega, ?_, by omega⟩
      · rw [hlen]
        simp only [Option.map_some, Addr.add_lit, List.length_append, List.length_take, hcl]
        rw [Nat.min_eq_left (by omega)]
      · rw [h4]
        have : pre ++ (cs ++ post) = pre ++ cs.take (l * e.n) ++ ((cs.take (m * e.n)).drop (l * e.n) ++ (cs.drop (m * e.n) ++ post)) := by
          have k1 : cs = cs.take (l * e.n) ++ ((cs.take (m * e.n)).drop (l * e.n) ++ cs.drop (m * e.n)) := by
            have k2 : cs.take (l * e.n) = (cs.take (m * e.n)).take (l * e.n) := by rw [List.take_take, Nat.min_eq_left e1]
            rw [← List.append_assoc, k2, List.take_append_drop, List.take_append_drop]
          conv => lhs; rw [k1]
          simp only [List.append_assoc]
        rw [this]
      · simp only [List.length_append, List.length_drop, List.length_take, hcl]
        rw [Nat.min_eq_left (by omega)]
        have : (cap' - l) * e.n + l * e.n = cap' * e.n := by rw [← Nat.add_mul]; congr 1; omega
        omega
theorem St.resl {ρ : Nat → LV} {a : Act} {w : World} {xs ys : List α} {lo hi : Int} {j : Nat} {ad : Option Addr} {cap : Nat} (hc : Core F σ.d ρ w) (hs : ∀ t s, lk σ.g t = some s → s.ok ρ (Un F.S0 ρ σ.d) w (a.tmps.getD t undef)) (hz : a.tmps.size = F.N) (hde : a.defers = F.df)
    (hsub : Sw.sub xs lo hi = some ys) (he : lkE σ.d i = some (.arr T e xs)) (hv : (ρ i).v = .slice ad xs.length cap) (hf : σ.free [(j, .arr T e ys)] = true) (hd : dstOk d F.N = true) :
    St F ⟨gput d (.ref j) σ.g, (j, .arr T e ys) :: delE σ.d i⟩ (a.put d (.slice (if cap = lo.toNat then ad else ad.map (·.add (lo.toNat * e.n))) (hi.toNat - lo.toNat) (cap - lo.toNat))) w := by
  have harr : arrOk T e xs (Un F.S0 ρ σ.d) w (ρ i).v := hc.own i _ he
  have h2 := harr.sub hsub hv
  refine St.repl (u := .of _) hc hs hz hde he hf hd (Chg.refl _ _) (.inl ⟨_, _, _, rfl⟩) rfl (fun b hb => ?_) (fun S' ρ' hE => h2.mono hE fun _ _ => rfl)
  have hb' : Has (ρ i) b := by
    left
    rw [hv]
    have h3 := Has_of.1 hb
    cases ad with
    | none => simp [blk] at h3
    | some q =>
      by_cases hq : cap = lo.toNat
      · rw [if_pos hq] at h3; exact h3
      · rw [if_neg hq] at h3
        simp only [Option.map_some, blk, Option.some.injEq] at h3 ⊢
        rw [← h3]
        have hsp : q.spot = none := by
          rcases harr with ⟨_, h⟩ | ⟨b', cap', pre, cs, post, h, _⟩
          · rw [hv] at h; cases h
          · rw [hv] at h; simp only [Value.slice.injEq, Option.some.injEq] at h; rw [h.1]
        obtain ⟨b', o', sp⟩ := q
        simp only at hsp; subst hsp
        rw [Addr.add_lit]
  exact ⟨.inl hb', (hc.fresh i _ b he hb').2⟩
theorem JM.slHi {xs ys : List α} {hi : Int} {k' : IntKind} {E : TypeId} (j : Nat) (hs : Sw.sub xs 0 hi = some ys) (hx : evS σ.g x = some (.ref i)) (he : lkE σ.d i = some (.arr T e xs)) (hz : evS σ.g z = some (.v (Enc.int k') hi))
    (hU : ∀ w, (underlying U).run F.P w = .ok (.slice E) w) (hE : ∀ w, (sizeOf E).run F.P w = .ok e.n w) (hf : σ.free [(j, .arr T e ys)] = true) (hd : dstOk d F.N = true) : JM F ⟨d, .slice U x none (some z) none, ty, p, af, gd⟩ σ ⟨gput d (.ref j) σ.g, (j, .arr T e ys) :: delE σ.d i⟩ := by
  rintro a w ⟨⟨ρ, hc, hsl⟩, hsz, hde⟩
  have K := Know.of_st hc hsl (Op.slice U x none (some z) none).operands
  obtain ⟨ad, cap, h1, h2, h2', h3⟩ := K_arr K (x := x) (by simp [Op.operands]) hx he
  have h5 := (K_int K (x := z) (by simp [Op.operands]) hz).1
  obtain ⟨s0, s1, s2, _⟩ := sub_some hs
  refine OpWp.value (w' := w) ?_ (St.resl hc hsl hsz hde hs he h2' hf hd)
  simp [execOp, Instr.sliceAt, Instr.slice, h1, h5, hU, hE, bounds_h s1 (show hi ≤ (cap : Int) by omega)]
/-! ### what is cleared -/
theorem okL_zeros {zc : Array Value} {zv : α} {S : Nat → Prop} {w : World} (h : e.ok zv S w zc.toList) : ∀ (n : Nat) (L : List Value), L.length = n * e.n → (∀ i, i < n * e.n → L[i]? = some zc[i % zc.size]!) → e.okL (List.replicate n zv) S w L
  | 0, L, hl, _ => by simp at hl; subst hl; rfl
  | n + 1, L, hl, hi => by
    have hz : zc.size = e.n := by have := e.len h; simpa using this
    rw [Nat.add_mul, Nat.one_mul] at hl hi
    have h1 : L.take e.n = zc.toList := by
      apply List.ext_getElem?
      intro i
      by_cases hlt : i < e.n
      · rw [List.getElem?_take_of_lt hlt, hi i (by omega), Nat.mod_eq_of_lt (by omega)]
        rw [getElem!_pos zc i (by omega)]; simp [show i < zc.size by omega]
      · rw [List.getElem?_eq_none (by rw [List.length_take]; omega), List.getElem?_eq_none (by simp; omega)]
    refine ⟨L.take e.n, L.drop e.n, (List.take_append_drop _ _).symm, by rw [h1]; exact h, okL_zeros h n _ (by rw [List.length_drop]; omega) fun i hlt => ?_⟩
    rw [List.getElem?_drop, hi _ (by omega), hz, Nat.add_mod_left]
theorem zeroCells_at {zc : Array Value} {n i : Nat} (h : i < n * zc.size) : (Builtin.zeroCells zc n).toList[i]? = some zc[i % zc.size]! := by
  simp [Builtin.zeroCells, h]
theorem JM.clearLo {xs ys : List α} {lo : Int} {z0 : Value} {zv : α} {E : TypeId} (hs : Sw.sub xs lo (xs.length : Int) = some ys) (hx : evS σ.g x = some (.sub i (lo.toNat * e.n) ((xs.length : Int).toNat - lo.toNat))) (he : lkE σ.d i = some (.arr T e xs))
    (hU : ∀ w, (underlying U).run F.P w = .ok (.slice E) w) (hZ : ∀ w, (zeroValue E).run F.P w = .ok z0 w) (hz : ∀ S w, e.ok zv S w z0.cells.toList) :
    JM F ⟨none, .call ⟨.builtin .clear, #[x], #[U]⟩, ty, p, af, gd⟩ σ ⟨σ.g, (i, .arr T e (xs.take lo.toNat ++ List.replicate (xs.length - lo.toNat) zv)) :: σ.d⟩ := by
  rintro a w ⟨⟨ρ, hc, hsl⟩, hsz, hde⟩
  have K := Know.of_st hc hsl (Op.call ⟨.builtin .clear, #[x], #[U]⟩).operands
  have hxk := K.slot x (by simp [Op.operands, Call.operands]) _ hx
  simp only [Slot.ok] at hxk
  obtain ⟨_, c, o, g1, g2, g3⟩ := hxk
  have hen : arrOk T e xs (Un F.S0 ρ σ.d) w (ρ i).v := (K.ent x (by simp [Op.operands, Call.operands]) _ hx i (by simp [Slot.lab]) _ he).1
  obtain ⟨s0, s1, _, _⟩ := sub_some hs
  obtain ⟨l, hl⟩ : ∃ l, l = lo.toNat := ⟨_, rfl⟩
  simp only [Int.toNat_natCast] at g1 g2 g3
  rw [← hl] at g1 g2 g3 ⊢
  have hlx : l ≤ xs.length := by omega
  have done : ∀ w', (execOp a.eval ⟨none, .call ⟨.builtin .clear, #[x], #[U]⟩, ty, p, af, gd⟩).run F.P w = .ok (.value (.tuple #[])) w' →
      (∃ b, Has (ρ i) b ∧ Upd b w w' ∧ (Ext (Un F.S0 ρ σ.d) (Un F.S0 ρ σ.d) w w' → (Ent.arr T e (xs.take l ++ List.replicate (xs.length - l) zv)).ok ρ (Un F.S0 ρ σ.d) w' (ρ i))) ∨ (w' = w ∧ xs.take l ++ List.replicate (xs.length - l) zv = xs) →
      OpWp F.P ⟨none, .call ⟨.builtin .clear, #[x], #[U]⟩, ty, p, af, gd⟩ a w fun v w' => St F ⟨σ.g, (i, .arr T e (xs.take l ++ List.replicate (xs.length - l) zv)) :: σ.d⟩ (a.put none v) w' := by
    intro w' hr h
    refine OpWp.value hr ?_
    rcases h with ⟨b, h1, h2, h3⟩ | ⟨rfl, h2⟩
    · obtain ⟨q1, q2⟩ := hc.upd he h1 h2 h3
      exact ⟨⟨ρ, q1, fun t s ht => Slot.ok_mono s _ (hsl t s ht) q2 (fun _ _ => rfl)⟩, hsz, hde⟩
    · rw [h2]
      refine St.congr (σ := σ) (fun _ => rfl) (fun q => ?_) ⟨⟨ρ, hc, hsl⟩, hsz, hde⟩
      rw [lkE_cons]; split
      · rename_i h; subst h; exact he.symm
      · rfl
  by_cases hn : xs.length - l = 0
  · refine done w ?_ (.inr ⟨rfl, ?_⟩)
    · have hv : ∃ q, a.eval x = .slice q 0 c := by
        rw [g3, hn]
        rcases hen with ⟨_, h⟩ | ⟨b, cap, pre, cs, post, h, _⟩ <;> rw [h] <;> exact ⟨_, rfl⟩
      obtain ⟨q, hv⟩ := hv
      have hcl : (Builtin.clear_ #[U] ty #[.slice q 0 c]).run F.P w = .ok (.tuple #[]) w := by
        cases q <;> simp [Builtin.clear_, hU]
      simp [execOp, resolve, invoke, builtin, hv, hcl]
    · have : l = xs.length := by omega
      rw [hn, this]; simp
  · have ho : o = l * e.n := g2.resolve_right hn
    subst ho
    rcases hen with ⟨rfl, h⟩ | ⟨b, cap, pre, cs, post, h3, h4, h5, h6, h7, h8⟩
    · simp at hn
    · have hcl := Enc.okL_len h5
      have hv : a.eval x = .slice (some ⟨b, pre.length + l * e.n, none⟩) (xs.length - l) c := by rw [g3, h3]; rfl
      obtain ⟨n, hnn⟩ : ∃ n, n = xs.length - l := ⟨_, rfl⟩
      rw [← hnn] at hv hn done ⊢
      have hzl : z0.cells.size = e.n := by have := e.len (hz (fun _ => False) w); simpa using this
      obtain ⟨news, hnews⟩ : ∃ news, news = (Builtin.zeroCells z0.cells n).toList := ⟨_, rfl⟩
      have hnl : news.length = n * e.n := by rw [hnews, Array.length_toList, size_zeroCells, hzl]
      have hnok : ∀ S w, e.okL (List.replicate n zv) S w news := fun S w => okL_zeros (hz S w) n news hnl fun i hi => by rw [hnews]; exact zeroCells_at (by rw [hzl]; exact hi)
      have hone := Enc.okL_cell (hnok (fun _ => False) w)
      have hlen : l * e.n + n * e.n = cs.length := by rw [hcl, ← Nat.add_mul]; congr 1; omega
      have e1 : pre ++ (cs ++ post) = (pre ++ cs.take (l * e.n)) ++ (cs.drop (l * e.n) ++ post) := by
        rw [List.append_assoc, ← List.append_assoc (cs.take _), List.take_append_drop]
      have hfit : pre.length + l * e.n + news.length ≤ (pre ++ (cs ++ post)).length := by simp only [List.length_append, hnl]; omega
      have hst := run_storeCells_at F.P b (pre.length + l * e.n) T news 0 (pre ++ (cs ++ post)).toArray w h4 (by simpa using hfit) hone
      have ht : (pre ++ (cs ++ post)).take (pre.length + l * e.n) = pre ++ cs.take (l * e.n) := by
        have hl2 : (pre ++ cs.take (l * e.n)).length = pre.length + l * e.n := by rw [List.length_append, List.length_take]; omega
        rw [e1, ← hl2]; exact List.take_left
      have hdrop : (pre ++ (cs ++ post)).drop (pre.length + l * e.n + news.length) = post := by
        have hl2 : (pre ++ cs).length = pre.length + l * e.n + news.length := by rw [List.length_append, hnl]; omega
        rw [← List.append_assoc, ← hl2]; exact List.drop_left
      simp only [Nat.add_zero, List.toList_toArray] at hst
      rw [ht, hdrop] at hst
      refine done (w.setRow b (pre ++ cs.take (l * e.n) ++ news ++ post).toArray) ?_ (.inl ⟨b, .inl (by rw [h3]; rfl), Upd.setRow w b _, fun hE => .inr ⟨b, cap, pre, cs.take (l * e.n) ++ news, post, ?_, ?_, Enc.okL_append (Enc.okL_mono (okL_take l h5) hE) (hnok _ _), ?_, ?_, ?_⟩⟩)
      · have hcl : (Builtin.clear_ #[U] ty #[.slice (some ⟨b, pre.length + l * e.n, none⟩) n c]).run F.P w = .ok (.tuple #[]) (w.setRow b (pre ++ cs.take (l * e.n) ++ news ++ post).toArray) := by
          obtain ⟨n', rfl⟩ : ∃ n', n = n' + 1 := ⟨n - 1, by omega⟩
          simp [Builtin.clear_, hU, hZ, ← hnews, hst]
        simp [execOp, resolve, invoke, builtin, hv, hcl]
      · rw [h3]; simp only [List.length_append, List.length_take, List.length_replicate]; congr 1; omega
      · have := setRow_heap w b _ (pre ++ cs.take (l * e.n) ++ news ++ post).toArray T _ h4
        rw [this]; congr 3; simp
      · simp only [List.length_append, List.length_take, List.length_replicate]; omega
      · simp only [List.length_append, List.length_take, hnl]; rw [Nat.min_eq_left (by omega)]; omega
      · simp only [List.length_append, List.length_take, List.length_replicate]; omega
end
end Go.Sw

namespace Go.Sw
open Go Go.RowKit
/-- a pointer to what nobody writes, or nil -/
def Enc.ptN {α : Type} (e : Enc α) : Enc (Option α) where
  n := 1
  agg := false
  ok x S w cs := match x with
    | none => cs = [.pointer none]
    | some z => ∃ b off ds, cs = [.pointer (some ⟨b, off, none⟩)] ∧ b < w.heap.size ∧ ¬ S b ∧ MemAt w b off ds ∧ e.ok z S w ds
  len {x _ _ _} h := by
    cases x with
    | none => rw [h]; rfl
    | some z => obtain ⟨_, _, _, h, _⟩ := h; rw [h]; rfl
  one _ := rfl
  cell {x _ _ _} h c hc := by
    cases x with
    | none => rw [h] at hc; simp at hc; subst hc; rfl
    | some z => obtain ⟨_, _, _, h, _⟩ := h; rw [h] at hc; simp at hc; subst hc; rfl
  mono {x _ _ _ _ _} h k := by
    cases x with
    | none => exact h
    | some z =>
      obtain ⟨b, off, ds, h1, h2, h3, h4, h5⟩ := h
      exact ⟨b, off, ds, h1, Nat.lt_of_lt_of_le h2 k.size, (k.keep b h2 h3).2, h4.mono h2 h3 k, e.mono h5 k⟩
theorem val_ptN_none {α : Type} {e : Enc α} {S w u} : (Enc.ptN e).val none S w u ↔ u = .pointer none := by
  constructor
  · rintro ⟨cs, h, rfl⟩; simp only [Enc.ptN] at h; subst h; rfl
  · rintro rfl; exact ⟨[.pointer none], rfl, rfl⟩
theorem val_ptN_some {α : Type} {e : Enc α} {z : α} {S w u} : (Enc.ptN e).val (some z) S w u ↔ ∃ b off ds, u = .pointer (some ⟨b, off, none⟩) ∧ b < w.heap.size ∧ ¬ S b ∧ MemAt w b off ds ∧ e.ok z S w ds := by
  constructor
  · rintro ⟨cs, ⟨b, off, ds, rfl, h⟩, rfl⟩; exact ⟨b, off, ds, rfl, h⟩
  · rintro ⟨b, off, ds, rfl, h⟩; exact ⟨[.pointer (some ⟨b, off, none⟩)], ⟨b, off, ds, rfl, h⟩, rfl⟩
section
variable {F : Frm} {σ : AS} {pb : Option Nat} {s : Slot} {d : Option Tmp} {ty : TypeId} {p : String} {af : Array Edge} {gd : Option (Nat × Bool)} {x y z : Operand} {α : Type} {e : Enc α}
theorem Z.ptN (e : Enc α) : ∀ S w, (Enc.ptN e).ok none S w [.pointer none] := fun _ _ => rfl
theorem JO.assignPtN (e : Enc α) : JO F ⟨d, .assign (.const (.pointer none)), ty, p, af, gd⟩ σ (.v (Enc.ptN e) none) [] := by
  intro ρ S a w K
  exact OpWp.value (w' := w) (v := .pointer none) (by simp [execOp, Act.eval]) (Res.same (by simp only [Slot.ok]; exact val_ptN_none.2 rfl))
theorem run_equal_ptr_nil {P : Program} (w : World) (T E : TypeId) (ad : Option Addr) (hT : ∀ w, (underlying T).run P w = .ok (.pointer E) w) : (Op.equal T (.pointer ad) (.pointer none)).run P w = .ok ad.isNone w := by
  unfold Op.equal Op.maxDepth Op.equalIn
  cases ad <;> simp [hT]
theorem JO.ptEq {v : Option α} {T T' E : TypeId} (hx : evS σ.g x = some (.v (Enc.ptN e) v)) (hT : ∀ w, (underlying T).run F.P w = .ok (.pointer E) w) : JO F ⟨d, .binOp .eql T x (.const (.pointer none)) T', ty, p, af, gd⟩ σ (.v Enc.bool v.isNone) [] := by
  intro ρ S a w K
  have h := K.slot x (by simp [Op.operands]) _ hx
  simp only [Slot.ok] at h
  obtain ⟨ad, h1, h2⟩ : ∃ ad, a.eval x = .pointer ad ∧ ad.isNone = v.isNone := by
    cases v with
    | none => exact ⟨none, val_ptN_none.1 h, rfl⟩
    | some z => obtain ⟨b, off, ds, h1, _⟩ := val_ptN_some.1 h; exact ⟨_, h1, rfl⟩
  have hq := run_equal_ptr_nil (P := F.P) w T E ad hT
  refine OpWp.value (w' := w) (v := .bool v.isNone) ?_ (Res.same (bool_ok _ ρ S w))
  rw [← h2]
  exact eqop (r := ad.isNone) (.inl ⟨rfl, rfl⟩) h1 rfl (by intros; simp) (by intros; simp) (by intros; simp) (by intros; simp) (by simp [eqGuard, Act.eval]) hq
end
end Go.Sw

namespace Go.Sw
open Go Go.RowKit
/-- a piece of a row of cells: elements, or so many cells whatever -/
inductive Seg (α : Type) where
  | rows (xs : List α)
  | any (n : Nat)
def Seg.ok {α : Type} (e : Enc α) (S : Nat → Prop) (w : World) : Seg α → List Value → Prop
  | .rows xs, cs => e.okL xs S w cs
  | .any n, cs => cs.length = n
def Seg.okL {α : Type} (e : Enc α) (S : Nat → Prop) (w : World) : List (Seg α) → List Value → Prop
  | [], cs => cs = []
  | s :: r, cs => ∃ c d, cs = c ++ d ∧ s.ok e S w c ∧ Seg.okL e S w r d
section
variable {α : Type} {e : Enc α} {S S' : Nat → Prop} {w w' : World}
theorem Seg.ok_mono {s : Seg α} {cs} (h : s.ok e S w cs) (k : Ext S S' w w') : s.ok e S' w' cs := by
  cases s with
  | rows xs => exact Enc.okL_mono h k
  | any n => exact h
theorem Seg.okL_mono : ∀ {q : List (Seg α)} {cs}, Seg.okL e S w q cs → Ext S S' w w' → Seg.okL e S' w' q cs
  | [], _, h, _ => h
  | _ :: _, _, ⟨c, d, h1, h2, h3⟩, k => ⟨c, d, h1, Seg.ok_mono h2 k, Seg.okL_mono h3 k⟩
end
/-- a block of ours, piece by piece -/
def DE.seg {α : Type} (T : TypeId) (e : Enc α) (b : Nat) : DE (List (Seg α)) where
  ok q S w u _ := u.v = .pointer (some ⟨b, 0, none⟩) ∧ ∃ cs, w.heap[b]? = some (.cells cs.toArray T (0, 0)) ∧ Seg.okL e S w q cs
  mono := by
    rintro q S S' w w' u l ⟨h1, cs, h2, h3⟩ hE hb
    exact ⟨h1, cs, by rw [hb b (.inl (by rw [h1]; rfl))]; exact h2, Seg.okL_mono h3 hE⟩
section
variable {F : Frm} {σ : AS} {pb : Option Nat} {s : Slot} {d : Option Tmp} {ty : TypeId} {p : String} {af : Array Edge} {gd : Option (Nat × Bool)} {x y z : Operand} {α : Type} {e : Enc α} {T U : TypeId} {i b : Nat}
/-- a slice of ours is told piece by piece -/
theorem W.openSeg {cs : List Code} {Q : Exit → Act → World → Prop} {t : Nat} {g' : List (Nat × Slot)} {A B : List α} (hσ : σ.d = [(i, .arr T e (A ++ B))]) (hB : B ≠ []) (hx : lk σ.g t = some (.ref i)) (hg : SubS σ.g g') (hl : g'.all (fun y => y.2.lab.isEmpty) = true)
    (k : ∀ b p q c, (A ++ B).length ≤ c → c * e.n ≤ (A ++ B).length * e.n + q → (A ++ B).length ≤ 140737488355328 →
      W F cs ⟨(t, .asl i p 0 (A ++ B).length c) :: g', [(i, .dp (DE.seg T e b) [.any p, .rows A, .rows B, .any q] [])]⟩ Q) : W F cs σ Q := by
  obtain ⟨g, dd⟩ := σ
  simp only at hσ hx hg
  subst hσ
  rintro a w ⟨⟨ρ, hc, hs⟩, hz, hde⟩
  have he : lkE [(i, Ent.arr T e (A ++ B))] i = some (.arr T e (A ++ B)) := by simp [lkE]
  have h0 : arrOk T e (A ++ B) (Un F.S0 ρ [(i, .arr T e (A ++ B))]) w (ρ i).v := hc.own i _ he
  rcases h0 with ⟨h, _⟩ | ⟨b, cap, pre, cs', post, h1, h2, h3, h4, h5, h6⟩
  · simp at h; exact absurd h.2 hB
  have hcl := Enc.okL_len h3
  refine k b pre.length post.length cap h4 (by omega) h6 a w ?_
  let ρ' : Nat → LV := fun l => if l = i then .of (.pointer (some ⟨b, 0, none⟩)) else ρ l
  have ri : ρ' i = .of (.pointer (some ⟨b, 0, none⟩)) := if_pos rfl
  have hl1 : ∀ l en, lkE [(i, Ent.dp (DE.seg T e b) [.any pre.length, .rows A, .rows B, .any post.length] [])] l = some en → l = i := by
    intro l en h
    rw [lkE_cons] at h
    split at h
    · rename_i h7; exact h7.symm
    · cases h
  have hl0 : ∀ l en, lkE [(i, Ent.arr T e (A ++ B))] l = some en → l = i := by
    intro l en h
    rw [lkE_cons] at h
    split at h
    · rename_i h7; exact h7.symm
    · cases h
  have hhas : ∀ k, Has (ρ' i) k → Has (ρ i) k := by
    intro k hk
    rw [ri] at hk
    have := Has_of.1 hk
    left; rw [h1]; exact this
  obtain ⟨q1, q2⟩ := hc.regroup (d' := [(i, .dp (DE.seg T e b) [.any pre.length, .rows A, .rows B, .any post.length] [])]) (ρ' := ρ') (fun l en bb h hk => by
      have hli := hl1 l en h
      rw [hli] at hk
      exact ⟨i, _, he, hhas bb hk⟩) (fun l l' en en' k h h' _ _ => by rw [hl1 l en h, hl1 l' en' h']) (fun hE l en h => by
      obtain rfl := hl1 l en h
      simp only [lkE, Nat.beq_refl, cond_true, Option.some.injEq] at h
      subst h
      rw [ri]
      obtain ⟨ca, cb, rfl, k1, k2⟩ := Enc.okL_split (Enc.okL_mono h3 hE)
      exact ⟨rfl, _, h2, pre, _, rfl, rfl, ca, _, by rw [List.append_assoc], k1, cb, post, rfl, k2, post, [], by simp, rfl, rfl⟩)
  refine ⟨⟨ρ', q1, fun u s hu => ?_⟩, hz, hde⟩
  rw [lk_cons] at hu
  split at hu
  · rename_i h7; subst h7; cases hu
    have := hs t _ hx
    simp only [Slot.ok] at this ⊢
    refine ⟨⟨b, by rw [ri]; rfl⟩, ?_⟩
    rw [this.2, h1, ri]; rfl
  · have hgs := hg.spec u s hu
    refine Slot.ok_mono s _ (hs u s hgs) q2 fun l hlab => ?_
    have := List.all_eq_true.1 hl _ (lk_mem hu)
    have : s.lab = [] := by simpa using this
    rw [this] at hlab; cases hlab
/-- and back -/
theorem Sub.closeSeg {t p n c q : Nat} {A V B : List α} (hn : n = (A ++ (V ++ B)).length) (hnc : n ≤ c) (hcq : c * e.n ≤ n * e.n + q) (hsz : n ≤ 140737488355328) {g : List (Nat × Slot)} (hx : lk g t = some (.asl i p 0 n c)) :
    Sub F ⟨g, [(i, .dp (DE.seg T e b) [.any p, .rows A, .rows V, .rows B, .any q] [])]⟩ ⟨[(t, .ref i)], [(i, .arr T e (A ++ (V ++ B)))]⟩ := by
  rintro a w ⟨⟨ρ, hc, hs⟩, hz, hde⟩
  have he : lkE [(i, Ent.dp (DE.seg T e b) [.any p, .rows A, .rows V, .rows B, .any q] [])] i = some (.dp (DE.seg T e b) [.any p, .rows A, .rows V, .rows B, .any q] []) := by simp [lkE]
  obtain ⟨h1, cs, h2, h3⟩ := hc.own i _ he
  obtain ⟨pre, _, rfl, rfl, ca, _, rfl, k1, cv, _, rfl, k2, cb, _, rfl, k3, post, _, rfl, rfl, rfl⟩ := h3
  let ρ' : Nat → LV := fun l => if l = i then .of (.slice (some ⟨b, pre.length, none⟩) n c) else ρ l
  have ri : ρ' i = .of (.slice (some ⟨b, pre.length, none⟩) n c) := if_pos rfl
  have hl1 : ∀ l en, lkE [(i, Ent.arr T e (A ++ (V ++ B)))] l = some en → l = i := by
    intro l en h
    rw [lkE_cons] at h
    split at h
    · rename_i h7; exact h7.symm
    · cases h
  have k123 : ∀ {S w}, e.okL A S w ca → e.okL V S w cv → e.okL B S w cb → e.okL (A ++ (V ++ B)) S w (ca ++ (cv ++ cb)) := fun h1 h2 h3 => Enc.okL_append h1 (Enc.okL_append h2 h3)
  have hlen := Enc.okL_len (k123 k1 k2 k3)
  obtain ⟨q1, q2⟩ := hc.regroup (d' := [(i, .arr T e (A ++ (V ++ B)))]) (ρ' := ρ') (fun l en k h hk => by
      obtain rfl := hl1 l en h
      refine ⟨l, _, he, ?_⟩
      rw [ri] at hk
      have := Has_of.1 hk
      left; rw [h1]; exact this) (fun l l' en en' k h h' _ _ => by rw [hl1 l en h, hl1 l' en' h']) (fun hE l en h => by
      obtain rfl := hl1 l en h
      simp only [lkE, Nat.beq_refl, cond_true, Option.some.injEq] at h
      subst h
      rw [ri]
      refine .inr ⟨b, c, pre, ca ++ (cv ++ cb), post, by rw [hn]; rfl, ?_, k123 (Enc.okL_mono k1 hE) (Enc.okL_mono k2 hE) (Enc.okL_mono k3 hE), by omega, ?_, by omega⟩
      · rw [h2]; simp [List.append_assoc]
      · rw [hlen, ← hn]; exact hcq)
  refine ⟨⟨ρ', q1, fun u s hu => ?_⟩, hz, hde⟩
  rw [lk_cons] at hu
  split at hu
  · rename_i h7; subst h7; cases hu
    have := hs t _ hx
    simp only [Slot.ok] at this ⊢
    refine ⟨.inl ⟨_, _, _, by rw [ri]; rfl⟩, ?_⟩
    rw [this.2, h1, ri]; rfl
  · cases hu
/-! ### slices into such a row -/
theorem asl_val {ρ : Nat → LV} {S : Nat → Prop} {w : World} {o n c : Nat} {v : Value} (h : (Slot.asl i o 0 n c).ok ρ S w v) : ∃ b, (ρ i).v = .pointer (some ⟨b, 0, none⟩) ∧ v = .slice (some ⟨b, o, none⟩) n c := by
  simp only [Slot.ok] at h
  obtain ⟨⟨b, h1⟩, h2⟩ := h
  exact ⟨b, h1, by rw [h2, h1]; rfl⟩
theorem asl_mk {ρ : Nat → LV} {S : Nat → Prop} {w : World} {o n c b : Nat} (h : (ρ i).v = .pointer (some ⟨b, 0, none⟩)) : (Slot.asl i o 0 n c).ok ρ S w (.slice (some ⟨b, o, none⟩) n c) := by
  simp only [Slot.ok]
  exact ⟨⟨b, h⟩, by rw [h]; rfl⟩
theorem JO.aslLo {o n c m : Nat} {lo : Int} {k : IntKind} {E : TypeId} (o' n' c' : Nat) (hlo : lo = (m : Int)) (hm : m ≤ n) (hmc : m < c) (ho : o' = o + m * e.n) (hn' : n' = n - m) (hc' : c' = c - m) (hx : evS σ.g x = some (.asl i o 0 n c)) (hy : evS σ.g y = some (.v (Enc.int k) lo))
    (hU : ∀ w, (underlying U).run F.P w = .ok (.slice E) w) (hE : ∀ w, (sizeOf E).run F.P w = .ok e.n w) : JO F ⟨d, .slice U x (some y) none none, ty, p, af, gd⟩ σ (.asl i o' 0 n' c') [] := by
  subst hlo ho hn' hc'
  intro ρ S a w K
  obtain ⟨b, h1, h2⟩ := asl_val (K.slot x (by simp [Op.operands]) _ hx)
  have h4 := (K_int K (x := y) (by simp [Op.operands]) hy).1
  refine OpWp.value (w' := w) ?_ (Res.same (asl_mk h1))
  have hb := bounds_l (P := F.P) (w := w) (len := n) (cap := c) (k := k) (lo := (m : Int)) (by omega) (by omega)
  have hne : ¬ (c = m) := by omega
  simp [execOp, Instr.sliceAt, Instr.slice, h2, h4, hU, hE, hb, hne, Addr.add_lit]
theorem JO.aslHi2 {o n c m : Nat} {hi : Int} {k : IntKind} {E : TypeId} (n' : Nat) (hhi : hi = (m : Int)) (hm : m ≤ c) (hn' : n' = m) (hx : evS σ.g x = some (.asl i o 0 n c)) (hy : evS σ.g y = some (.v (Enc.int k) hi))
    (hU : ∀ w, (underlying U).run F.P w = .ok (.slice E) w) (hE : ∀ w, (sizeOf E).run F.P w = .ok e.n w) : JO F ⟨d, .slice U x none (some y) none, ty, p, af, gd⟩ σ (.asl i o 0 n' c) [] := by
  subst hhi hn'
  intro ρ S a w K
  obtain ⟨b, h1, h2⟩ := asl_val (K.slot x (by simp [Op.operands]) _ hx)
  have h4 := (K_int K (x := y) (by simp [Op.operands]) hy).1
  refine OpWp.value (w' := w) ?_ (Res.same (asl_mk h1))
  have hb := bounds_h (P := F.P) (w := w) (len := n) (cap := c) (k' := k) (hi := (n' : Int)) (by omega) (by omega)
  have h0 : Addr.add ⟨b, o, none⟩ 0 = ⟨b, o, none⟩ := by rw [Addr.add_lit]; rfl
  simp [execOp, Instr.sliceAt, Instr.slice, h2, h4, hU, hE, hb, h0]
/-! ### copies -/
theorem K_seg {ρ : Nat → LV} {w : World} {q : List (Seg α)} (hc : Core F σ.d ρ w) (he : lkE σ.d i = some (.dp (DE.seg T e b) q [])) : (ρ i).v = .pointer (some ⟨b, 0, none⟩) ∧ ∃ cs, w.heap[b]? = some (.cells cs.toArray T (0, 0)) ∧ Seg.okL e (Un F.S0 ρ σ.d) w q cs := hc.own i _ he
/-- cells put into such a row -/
theorem St.segPut {ρ : Nat → LV} {a : Act} {w : World} {q q' : List (Seg α)} {k : Nat} {c0 c1 c2 news : List Value} (hc : Core F σ.d ρ w) (hs : ∀ t s, lk σ.g t = some s → s.ok ρ (Un F.S0 ρ σ.d) w (a.tmps.getD t undef)) (hz : a.tmps.size = F.N) (hde : a.defers = F.df)
    (he : lkE σ.d i = some (.dp (DE.seg T e b) q [])) (hd : dstOk d F.N = true) (hb : w.heap[b]? = some (.cells (c0 ++ (c1 ++ c2)).toArray T (0, 0))) (hk : k ≤ 9223372036854775807)
    (hq : ∀ w', Ext (Un F.S0 ρ σ.d) (Un F.S0 ρ σ.d) w w' → Seg.okL e (Un F.S0 ρ σ.d) w' q' (c0 ++ (news ++ c2))) :
    St F ⟨gput d (.v (Enc.int .i64) ((k : Nat) : Int)) σ.g, (i, .dp (DE.seg T e b) q' []) :: σ.d⟩ (a.put d (.int .i64 (k : Int))) (w.setRow b (c0 ++ (news ++ c2)).toArray) := by
  have hv := (K_seg hc he).1
  have hup := Upd.setRow w b (c0 ++ (news ++ c2)).toArray
  obtain ⟨q1, q2⟩ := hc.upd (en' := .dp (DE.seg T e b) q' []) he (.inl (by rw [hv]; rfl)) hup (fun hE => ⟨hv, _, setRow_heap w b _ (c0 ++ (news ++ c2)).toArray T _ hb, hq _ hE⟩)
  refine ⟨⟨ρ, q1, fun t s ht => ?_⟩, by rw [Act.size_put, hz], by cases d <;> exact hde⟩
  have hold : ∀ t s, lk σ.g t = some s → s.ok ρ (Un F.S0 ρ ((i, .dp (DE.seg T e b) q' []) :: σ.d)) (w.setRow b (c0 ++ (news ++ c2)).toArray) (a.tmps.getD t undef) := fun t s ht => Slot.ok_mono s _ (hs t s ht) q2 (fun _ _ => rfl)
  cases d with
  | none => exact hold t s ht
  | some q0 =>
    simp only [gput] at ht
    have hlt : q0 < a.tmps.size := by rw [hz]; exact Nat.le_of_ble_eq_true hd
    rw [Act.getD_put a q0 _ t hlt]
    rw [lk_cons] at ht
    split at ht
    · rename_i h1
      cases ht; rw [if_pos h1]
      exact int_ok (len_in hk) _ _ _
    · rename_i h1
      rw [if_neg h1]; exact hold t s ht
theorem run_copyTo {P : Program} {w : World} {U E tt : TypeId} {en b o n c m cap : Nat} {ad : Option Addr} {c0 c1 c2 news : List Value} (hU : ∀ w, (underlying U).run P w = .ok (.slice E) w) (hE : ∀ w, (sizeOf E).run P w = .ok en w)
    (hb : w.heap[b]? = some (.cells (c0 ++ (c1 ++ c2)).toArray T (0, 0))) (h0 : c0.length = o) (h1 : c1.length = news.length) (hn : news.length = min m n * en) (hnews : ∀ ad0, ad = some ad0 → ∀ j u, news[j]? = some u → w.cell? (ad0.add j) = some u) (hnil : ad = none → news = []) (hone : ∀ v ∈ news, v.oneCell' = true) :
    (Builtin.copy_ #[U, U] tt #[.slice (some ⟨b, o, none⟩) n c, .slice ad m cap]).run P w = .ok (.int .i64 ((min m n : Nat) : Int)) (w.setRow b (c0 ++ (news ++ c2)).toArray) := by
  have hf : (Builtin.firstCells en (min m n) (.slice ad m cap)).run P w = .ok news.toArray w := by
    cases had : ad with
    | none => rw [hnil had]; simp [Builtin.firstCells]
    | some ad0 => exact run_firstCells_some (P := P) w en (min m n) ad0 m cap news hn (hnews ad0 had)
  have hfit : o + news.length ≤ (c0 ++ (c1 ++ c2)).length := by simp only [List.length_append]; omega
  have hst := run_storeCells_at P b o T news 0 (c0 ++ (c1 ++ c2)).toArray w hb (by simpa using hfit) hone
  have ht : (c0 ++ (c1 ++ c2)).take o = c0 := by rw [← h0]; exact List.take_left
  have hdr : (c0 ++ (c1 ++ c2)).drop (o + news.length) = c2 := by
    rw [← h0, ← h1, ← List.append_assoc, ← List.length_append]; exact List.drop_left
  simp only [Nat.add_zero] at hst
  rw [ht, hdr, List.append_assoc] at hst
  simp only [Builtin.copy_]
  have hmin : Nat.min m n = min m n := rfl
  simp [hU, hE, Builtin.lenOf, hmin, hf, hst, goInt]
theorem okL_one {xs : List α} {S w cs} (h : e.okL xs S w cs) : ∀ v ∈ cs, v.oneCell' = true := Enc.okL_cell h
/-- the tail is moved up within the row -/
theorem JM.segShift {q m pp n1 c1 n2 c2 o1 o2 : Nat} {A B : List α} {E : TypeId} (he : lkE σ.d i = some (.dp (DE.seg T e b) [.any pp, .rows A, .rows B, .any q] [])) (hx : evS σ.g x = some (.asl i o1 0 n1 c1)) (hy : evS σ.g y = some (.asl i o2 0 n2 c2))
    (ho1 : o1 = pp + (A.length + m) * e.n) (ho2 : o2 = pp + A.length * e.n) (hn1 : n1 = B.length) (hn2 : n2 = B.length + m) (hq : m * e.n ≤ q) (hBl : B.length ≤ 9223372036854775807)
    (hU : ∀ w, (underlying U).run F.P w = .ok (.slice E) w) (hE : ∀ w, (sizeOf E).run F.P w = .ok e.n w) (hd : dstOk d F.N = true) :
    JM F ⟨d, .call ⟨.builtin .copy, #[x, y], #[U, U]⟩, ty, p, af, gd⟩ σ ⟨gput d (.v (Enc.int .i64) ((B.length : Nat) : Int)) σ.g, (i, .dp (DE.seg T e b) [.any pp, .rows A, .any (m * e.n), .rows B, .any (q - m * e.n)] []) :: σ.d⟩ := by
  subst ho1 ho2 hn1 hn2
  rintro a w ⟨⟨ρ, hc, hs⟩, hsz, hde⟩
  have K := Know.of_st hc hs (Op.call ⟨.builtin .copy, #[x, y], #[U, U]⟩).operands
  obtain ⟨b1, g1, g2⟩ := asl_val (K.slot x (by simp [Op.operands, Call.operands]) _ hx)
  obtain ⟨b2, g3, g4⟩ := asl_val (K.slot y (by simp [Op.operands, Call.operands]) _ hy)
  obtain ⟨k1, cs, k2, pre, _, rfl, hpre, ca, _, rfl, k4, cb, _, rfl, k5, post, _, rfl, hpost, rfl⟩ := K_seg hc he
  have e1 : b1 = b := by rw [k1] at g1; cases g1; rfl
  have e2 : b2 = b := by rw [k1] at g3; cases g3; rfl
  rw [e1] at g2; rw [e2] at g4
  have hpre : pre.length = pp := hpre
  have hpost : post.length = q := hpost
  have hal := Enc.okL_len k4
  have hbl := Enc.okL_len k5
  obtain ⟨rest, hrest⟩ : ∃ rest, rest = cb ++ (post ++ []) := ⟨_, rfl⟩
  have hrl : rest.length = B.length * e.n + q := by rw [hrest]; simp only [List.length_append, List.length_nil]; omega
  have hsplit : pre ++ (ca ++ (cb ++ (post ++ []))) = (pre ++ ca ++ rest.take (m * e.n)) ++ ((rest.drop (m * e.n)).take (B.length * e.n) ++ rest.drop (m * e.n + B.length * e.n)) := by
    rw [← hrest]
    have : rest = rest.take (m * e.n) ++ ((rest.drop (m * e.n)).take (B.length * e.n) ++ rest.drop (m * e.n + B.length * e.n)) := by
      rw [← List.drop_drop, List.take_append_drop, List.take_append_drop]
    conv => lhs; rw [this]
    simp only [List.append_assoc]
  rw [hsplit] at k2
  have hmin : min (B.length + m) B.length = B.length := by omega
  have hcell : ∀ j u, cb[j]? = some u → w.cell? ((⟨b, pp + A.length * e.n, none⟩ : Addr).add j) = some u := by
    have hm : MemAt w b (pre.length + ca.length) cb := by
      have h1 := MemAt.of_heap k2
      rw [← hsplit, ← List.append_assoc] at h1
      have := MemAt.sub (a := pre ++ ca) (c := cb) (d := post ++ []) h1
      simpa using this
    intro j u hj
    have := hm.cell j u hj
    rwa [hpre, hal] at this
  have hr := run_copyTo (P := F.P) (w := w) (tt := ty) (T := T) (U := U) (E := E) (en := e.n) (b := b) (o := pp + (A.length + m) * e.n) (n := B.length) (c := c1) (m := B.length + m) (cap := c2) (ad := some ⟨b, pp + A.length * e.n, none⟩) (news := cb) hU hE k2
    (by simp only [List.length_append, List.length_take, hpre, hal, hrl]; rw [Nat.min_eq_left (by omega), Nat.add_mul]; omega)
    (by simp only [List.length_take, List.length_drop, hrl, hbl]; omega) (by rw [hmin]; exact hbl) (fun ad0 h => by cases h; exact hcell) (fun h => by cases h) (okL_one k5)
  rw [hmin] at hr
  refine OpWp.value (v := .int .i64 ((B.length : Nat) : Int)) (w' := _) ?_ (St.segPut (q' := [.any pp, .rows A, .any (m * e.n), .rows B, .any (q - m * e.n)]) hc hs hsz hde he hd k2 hBl (news := cb) fun w' hE' => ?_)
  · simp [execOp, resolve, invoke, builtin, g2, g4, hr]
  · refine ⟨pre, _, by rw [List.append_assoc, List.append_assoc], hpre, ca, _, rfl, Enc.okL_mono k4 hE', rest.take (m * e.n), _, rfl, ?_, cb, _, rfl, Enc.okL_mono k5 hE', rest.drop (m * e.n + B.length * e.n), [], by simp, ?_, rfl⟩
    · show (rest.take (m * e.n)).length = _
      rw [List.length_take, hrl]; omega
    · show (rest.drop (m * e.n + B.length * e.n)).length = _
      rw [List.length_drop, hrl]; omega
/-- and the gap is filled -/
theorem JM.segFill {q m pp n1 c1 o1 k : Nat} {A V B : List α} {E : TypeId} (he : lkE σ.d i = some (.dp (DE.seg T e b) [.any pp, .rows A, .any k, .rows B, .any q] [])) (hx : evS σ.g x = some (.asl i o1 0 n1 c1)) (hy : Src σ y e V)
    (ho1 : o1 = pp + A.length * e.n) (hV : V.length = m) (hk : k = m * e.n) (hn1 : m ≤ n1)
    (hU : ∀ w, (underlying U).run F.P w = .ok (.slice E) w) (hE : ∀ w, (sizeOf E).run F.P w = .ok e.n w) (hd : dstOk d F.N = true) :
    JM F ⟨d, .call ⟨.builtin .copy, #[x, y], #[U, U]⟩, ty, p, af, gd⟩ σ ⟨gput d (.v (Enc.int .i64) ((m : Nat) : Int)) σ.g, (i, .dp (DE.seg T e b) [.any pp, .rows A, .rows V, .rows B, .any q] []) :: σ.d⟩ := by
  subst ho1 hk
  rintro a w ⟨⟨ρ, hc, hs⟩, hsz, hde⟩
  have K := Know.of_st hc hs (Op.call ⟨.builtin .copy, #[x, y], #[U, U]⟩).operands
  obtain ⟨b1, g1, g2⟩ := asl_val (K.slot x (by simp [Op.operands, Call.operands]) _ hx)
  have hmem : ∀ q, q ∈ #[y] → q ∈ (Op.call ⟨.builtin .copy, #[x, y], #[U, U]⟩).operands := by
    intro q hq
    have hq' : q = y := by simpa using hq
    subst hq'; simp [Op.operands, Call.operands]
  obtain ⟨hyl, ad, c, r1, r2⟩ := hy ρ _ a w ⟨K.low, fun q hq s h => K.slot q (hmem q hq) s h, fun q hq s h => K.ent q (hmem q hq) s h⟩
  obtain ⟨k1, cs, k2, pre, _, rfl, hpre, ca, _, rfl, k4, cg, _, rfl, hg, cb, _, rfl, k5, post, _, rfl, hpost, rfl⟩ := K_seg hc he
  have e1 : b1 = b := by rw [k1] at g1; cases g1; rfl
  rw [e1] at g2
  have hpre : pre.length = pp := hpre
  have hg : cg.length = m * e.n := hg
  have hal := Enc.okL_len k4
  have hmin : min m n1 = m := by omega
  obtain ⟨news, n1', n2, n3, n4⟩ : ∃ news : List Value, news.length = m * e.n ∧ e.okL V (Un F.S0 ρ σ.d) w news ∧ (∀ ad0, ad = some ad0 → ∀ j u, news[j]? = some u → w.cell? (ad0.add j) = some u) ∧ (ad = none → news = []) := by
    rcases r2 with rfl | ⟨b3, off3, ds, rfl, hm3, hds⟩
    · simp at hV; subst hV
      exact ⟨[], by simp, rfl, fun _ _ j u h => by simp at h, fun _ => rfl⟩
    · exact ⟨ds, by rw [Enc.okL_len hds, hV], hds, fun ad0 h => by cases h; exact hm3.cell, fun h => by cases h⟩
  have hsplit : pre ++ (ca ++ (cg ++ (cb ++ (post ++ [])))) = (pre ++ ca) ++ (cg ++ (cb ++ post)) := by simp
  rw [hsplit] at k2
  have hr := run_copyTo (P := F.P) (w := w) (tt := ty) (T := T) (U := U) (E := E) (en := e.n) (b := b) (o := pp + A.length * e.n) (n := n1) (c := c1) (m := m) (cap := c) (ad := ad) (news := news) hU hE k2
    (by simp only [List.length_append, hpre, hal]) (by rw [hg, n1']) (by rw [hmin]; exact n1') n3 n4 (okL_one n2)
  rw [hmin] at hr
  refine OpWp.value (v := .int .i64 ((m : Nat) : Int)) (w' := _) ?_ (St.segPut (q' := [.any pp, .rows A, .rows V, .rows B, .any q]) hc hs hsz hde he hd k2 (by omega) (news := news) fun w' hE' => ?_)
  · rw [hV] at r1
    simp [execOp, resolve, invoke, builtin, g2, r1, hr]
  · exact ⟨pre, _, by rw [List.append_assoc], hpre, ca, _, rfl, Enc.okL_mono k4 hE', news, _, rfl, Enc.okL_mono n2 hE', cb, _, rfl, Enc.okL_mono k5 hE', post, [], by simp, hpost, rfl⟩
end
end Go.Sw
