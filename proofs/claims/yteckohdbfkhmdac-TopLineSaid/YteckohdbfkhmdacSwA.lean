/- A library over the model, part 1: how values lie, what is ours in memory, rules for operations, calls, loops, ranges over functions. Conditions: none. -/
import Derived.Orders
import Derived.Tactics
import Derived.Below
import Derived.TacticsIn
import Derived.OrdersIn
import Derived.Laws.Rows
import Derived.RangeFuncRecord
import Derived.Laws.StructEq
import Derived.Laws.AppendOwn
import Derived.Laws.CopyRow
import Derived.Laws.MakeOwn
import Derived.Laws.Tables
import Derived.ChangeKeysEq
set_option linter.unusedVariables false
set_option linter.unusedSimpArgs false
namespace Go.Sw
open Go Go.RowKit

/-- what was there and is not ours is as it was -/
structure Ext (S S' : Nat → Prop) (w w' : World) : Prop where
  size : w.heap.size ≤ w'.heap.size
  keep : ∀ k, k < w.heap.size → ¬ S k → w'.heap[k]? = w.heap[k]? ∧ ¬ S' k

theorem Ext.refl (S : Nat → Prop) (w : World) : Ext S S w w := ⟨Nat.le_refl _, fun _ _ h => ⟨rfl, h⟩⟩
theorem Ext.trans {S S' S'' : Nat → Prop} {w w' w'' : World} (h : Ext S S' w w') (k : Ext S' S'' w' w'') : Ext S S'' w w'' :=
  ⟨Nat.le_trans h.size k.size, fun i hi hs => by
    obtain ⟨a, b⟩ := h.keep i hi hs
    obtain ⟨c, d⟩ := k.keep i (Nat.lt_of_lt_of_le hi h.size) b
    exact ⟨c.trans a, d⟩⟩

/-- how a value of a Lean type lies in cells -/
structure Enc (α : Type) where
  n : Nat
  agg : Bool
  ok : α → (Nat → Prop) → World → List Value → Prop
  len : ∀ {x S w cs}, ok x S w cs → cs.length = n
  one : agg = false → n = 1
  cell : ∀ {x S w cs}, ok x S w cs → ∀ c ∈ cs, c.oneCell' = true
  mono : ∀ {x S S' w w' cs}, ok x S w cs → Ext S S' w w' → ok x S' w' cs

theorem cells_of_one {v : Value} (h : v.oneCell' = true) : v.cells = #[v] := by cases v <;> first | rfl | cases h
def Enc.pk {α : Type} (e : Enc α) (cs : List Value) : Value := if e.agg then .agg cs.toArray else cs.headD undef
def Enc.val {α : Type} (e : Enc α) (x : α) (S : Nat → Prop) (w : World) (v : Value) : Prop := ∃ cs, e.ok x S w cs ∧ v = e.pk cs
theorem Enc.val_mono {α : Type} {e : Enc α} {x : α} {S S' w w' v} (h : e.val x S w v) (k : Ext S S' w w') : e.val x S' w' v :=
  let ⟨cs, a, b⟩ := h; ⟨cs, e.mono a k, b⟩

/-- what a slot holds -/
inductive Slot : Type 1
  | v {α : Type} (e : Enc α) (x : α)
  | ref (i : Nat)
  | ptr (i off : Nat)
  | pel (i off k n : Nat)
  | el (i k n off : Nat)
  | asl (i off lo n cap : Nat)
  | esl (i off n cap : Nat)
  | sub (i off n : Nat)
  | pst {α : Type} (e : Enc α) (x : α)
  | fnc (g : Nat) (cap : List Slot)
  | top
  | agg (l : List Slot)
  | tup (l : List Slot)

def MemAt (w : World) (b off : Nat) (cs : List Value) : Prop :=
  ∃ c T fr, w.heap[b]? = some (.cells c T fr) ∧ ∀ j (h : j < cs.length), c[off + j]? = some cs[j]

def blk (v : Value) : Option Nat := match v with | .pointer (some a) => some a.block | .slice (some a) _ _ => some a.block | .map (some r) => some r | _ => none
def ptrEl (v : Value) (n : Nat) : Value := match v with | .slice (some a) _ _ => .pointer (some ⟨a.block, a.off + n, none⟩) | v => v
def slcOf (v : Value) (off n cap : Nat) : Value := match v with | .pointer (some a) => .slice (some ⟨a.block, off, none⟩) n cap | v => v
def slcEl (v : Value) (off n cap : Nat) : Value := match v with | .slice (some a) _ _ => .slice (some ⟨a.block, a.off + off, none⟩) n cap | v => v
def subOf (v : Value) (off n c : Nat) : Value := match v with | .slice (some a) _ _ => .slice (some ⟨a.block, a.off + off, none⟩) n c | .slice none _ _ => .slice none n c | v => v
def ptrAdd (v : Value) (n : Nat) : Value := match v with | .pointer (some a) => .pointer (some ⟨a.block, n, none⟩) | v => v

/-- what a label stands for: a value, and the blocks beside its own that are its own -/
structure LV where
  v : Value
  x : Nat → Prop
def LV.of (v : Value) : LV := ⟨v, fun _ => False⟩
def Has (u : LV) (b : Nat) : Prop := blk u.v = some b ∨ u.x b
theorem Has_of {v : Value} {b : Nat} : Has (.of v) b ↔ blk v = some b := ⟨fun h => h.elim id False.elim, .inl⟩
def IsRef (v : Value) : Prop := (∃ a l c, v = .slice a l c) ∨ ∃ r, v = .map r
mutual
def Slot.okc (ρ : Nat → LV) (S : Nat → Prop) (w : World) : Slot → List Value → Prop
  | .v e x, cs => e.ok x S w cs
  | .ref i, cs => IsRef (ρ i).v ∧ cs = [(ρ i).v]
  | .ptr i off, cs => (∃ b, (ρ i).v = .pointer (some ⟨b, 0, none⟩)) ∧ cs = [ptrAdd (ρ i).v off]
  | .pel i off k n, cs => (∃ b, (ρ i).v = .pointer (some ⟨b, 0, none⟩)) ∧ cs = [ptrAdd (ρ i).v (off + k * n)]
  | .el i k n off, cs => (∃ b o l c, (ρ i).v = .slice (some ⟨b, o, none⟩) l c) ∧ cs = [ptrEl (ρ i).v (k * n + off)]
  | .asl i off lo n cap, cs => (∃ b, (ρ i).v = .pointer (some ⟨b, 0, none⟩)) ∧ cs = [slcOf (ρ i).v (off + lo) n cap]
  | .esl i off n cap, cs => (∃ b o l c, (ρ i).v = .slice (some ⟨b, o, none⟩) l c) ∧ cs = [slcEl (ρ i).v off n cap]
  | .sub i off n, cs => (∃ a l c, (ρ i).v = .slice a l c) ∧ ∃ c o, n ≤ c ∧ (o = off ∨ n = 0) ∧ cs = [subOf (ρ i).v o n c]
  | .pst e x, cs => ∃ b off ds, cs = [.pointer (some ⟨b, off, none⟩)] ∧ b < w.heap.size ∧ ¬ S b ∧ MemAt w b off ds ∧ e.ok x S w ds
  | .fnc g cap, cs => ∃ vs, cs = [.func (.func g) #[] vs.toArray] ∧ Slot.okv ρ S w cap vs
  | .top, cs => cs = [undef]
  | .agg _, _ => False
  | .tup _, _ => False
/-- a list of slots, each a value -/
def Slot.okv (ρ : Nat → LV) (S : Nat → Prop) (w : World) : List Slot → List Value → Prop
  | [], vs => vs = []
  | s :: r, vs => ∃ u vs', vs = u :: vs' ∧ Slot.ok ρ S w s u ∧ Slot.okv ρ S w r vs'
/-- a list of slots, side by side in cells -/
def Slot.okl (ρ : Nat → LV) (S : Nat → Prop) (w : World) : List Slot → List Value → Prop
  | [], cs => cs = []
  | s :: r, cs => ∃ c d, cs = c ++ d ∧ Slot.okc ρ S w s c ∧ Slot.okl ρ S w r d
def Slot.ok (ρ : Nat → LV) (S : Nat → Prop) (w : World) : Slot → Value → Prop
  | .v e x, u => e.val x S w u
  | .ref i, u => IsRef (ρ i).v ∧ u = (ρ i).v
  | .ptr i off, u => (∃ b, (ρ i).v = .pointer (some ⟨b, 0, none⟩)) ∧ u = ptrAdd (ρ i).v off
  | .pel i off k n, u => (∃ b, (ρ i).v = .pointer (some ⟨b, 0, none⟩)) ∧ u = ptrAdd (ρ i).v (off + k * n)
  | .el i k n off, u => (∃ b o l c, (ρ i).v = .slice (some ⟨b, o, none⟩) l c) ∧ u = ptrEl (ρ i).v (k * n + off)
  | .asl i off lo n cap, u => (∃ b, (ρ i).v = .pointer (some ⟨b, 0, none⟩)) ∧ u = slcOf (ρ i).v (off + lo) n cap
  | .esl i off n cap, u => (∃ b o l c, (ρ i).v = .slice (some ⟨b, o, none⟩) l c) ∧ u = slcEl (ρ i).v off n cap
  | .sub i off n, u => (∃ a l c, (ρ i).v = .slice a l c) ∧ ∃ c o, n ≤ c ∧ (o = off ∨ n = 0) ∧ u = subOf (ρ i).v o n c
  | .pst e x, u => ∃ b off ds, u = .pointer (some ⟨b, off, none⟩) ∧ b < w.heap.size ∧ ¬ S b ∧ MemAt w b off ds ∧ e.ok x S w ds
  | .fnc g cap, u => ∃ vs, u = .func (.func g) #[] vs.toArray ∧ Slot.okv ρ S w cap vs
  | .top, u => u = undef
  | .agg l, u => ∃ cs, u = .agg cs.toArray ∧ Slot.okl ρ S w l cs
  | .tup l, u => ∃ vs, u = .tuple vs.toArray ∧ Slot.okv ρ S w l vs
end

def agreeOn (ρ ρ' : Nat → LV) (l : List Nat) : Prop := ∀ i ∈ l, (ρ' i).v = (ρ i).v

mutual
def Slot.lab : Slot → List Nat
  | .ref i => [i]
  | .ptr i _ => [i]
  | .pel i _ _ _ => [i]
  | .el i _ _ _ => [i]
  | .asl i _ _ _ _ => [i]
  | .esl i _ _ _ => [i]
  | .sub i _ _ => [i]
  | .fnc _ l => Slot.labs l
  | .agg l => Slot.labs l
  | .tup l => Slot.labs l
  | _ => []
def Slot.labs : List Slot → List Nat
  | [] => []
  | s :: r => s.lab ++ Slot.labs r
end

theorem MemAt.mono {S S' : Nat → Prop} {w w' : World} {b off : Nat} {cs : List Value} (h : MemAt w b off cs) (hb : b < w.heap.size) (hs : ¬ S b) (k : Ext S S' w w') : MemAt w' b off cs := by
  obtain ⟨c, T, fr, hc, hj⟩ := h
  exact ⟨c, T, fr, by rw [(k.keep b hb hs).1]; exact hc, hj⟩

section
variable {ρ ρ' : Nat → LV} {S S' : Nat → Prop} {w w' : World}
mutual
theorem Slot.okc_mono : ∀ (s : Slot) (cs : List Value), s.okc ρ S w cs → Ext S S' w w' → agreeOn ρ ρ' s.lab → s.okc ρ' S' w' cs
  | .v e x, cs, h, k, _ => e.mono h k
  | .ref i, cs, h, _, a => by simp only [Slot.okc] at h ⊢; rw [a i (by simp [Slot.lab])]; exact h
  | .ptr i off, cs, h, _, a => by simp only [Slot.okc] at h ⊢; rw [a i (by simp [Slot.lab])]; exact h
  | .pel i off j n, cs, h, _, a => by simp only [Slot.okc] at h ⊢; rw [a i (by simp [Slot.lab])]; exact h
  | .el i k n off, cs, h, _, a => by simp only [Slot.okc] at h ⊢; rw [a i (by simp [Slot.lab])]; exact h
  | .asl i off lo n cap, cs, h, _, a => by simp only [Slot.okc] at h ⊢; rw [a i (by simp [Slot.lab])]; exact h
  | .esl i off n cap, cs, h, _, a => by simp only [Slot.okc] at h ⊢; rw [a i (by simp [Slot.lab])]; exact h
  | .sub i off n, cs, h, _, a => by simp only [Slot.okc] at h ⊢; rw [a i (by simp [Slot.lab])]; exact h
  | .pst e x, cs, h, k, _ => by
    simp only [Slot.okc] at h ⊢
    obtain ⟨b, off, ds, h1, h2, h3, h4, h5⟩ := h
    exact ⟨b, off, ds, h1, Nat.lt_of_lt_of_le h2 k.size, (k.keep b h2 h3).2, h4.mono h2 h3 k, e.mono h5 k⟩
  | .fnc g cap, cs, h, k, a => by
    simp only [Slot.okc] at h ⊢
    obtain ⟨vs, h1, h2⟩ := h
    exact ⟨vs, h1, Slot.okv_mono cap vs h2 k (by simpa [Slot.lab] using a)⟩
  | .top, cs, h, _, _ => by simpa only [Slot.okc] using h
  | .agg l, cs, h, _, _ => by simp [Slot.okc] at h
  | .tup l, cs, h, _, _ => by simp [Slot.okc] at h
theorem Slot.okv_mono : ∀ (l : List Slot) (vs : List Value), Slot.okv ρ S w l vs → Ext S S' w w' → agreeOn ρ ρ' (Slot.labs l) → Slot.okv ρ' S' w' l vs
  | [], vs, h, _, _ => by simpa only [Slot.okv] using h
  | s :: r, vs, h, k, a => by
    simp only [Slot.okv] at h ⊢
    obtain ⟨u, vs', h1, h2, h3⟩ := h
    exact ⟨u, vs', h1, Slot.ok_mono s u h2 k (fun i hi => a i (by simp [Slot.labs, hi])), Slot.okv_mono r vs' h3 k (fun i hi => a i (by simp [Slot.labs, hi]))⟩
theorem Slot.okl_mono : ∀ (l : List Slot) (vs : List Value), Slot.okl ρ S w l vs → Ext S S' w w' → agreeOn ρ ρ' (Slot.labs l) → Slot.okl ρ' S' w' l vs
  | [], vs, h, _, _ => by simpa only [Slot.okl] using h
  | s :: r, vs, h, k, a => by
    simp only [Slot.okl] at h ⊢
    obtain ⟨u, vs', h1, h2, h3⟩ := h
    exact ⟨u, vs', h1, Slot.okc_mono s u h2 k (fun i hi => a i (by simp [Slot.labs, hi])), Slot.okl_mono r vs' h3 k (fun i hi => a i (by simp [Slot.labs, hi]))⟩
theorem Slot.ok_mono : ∀ (s : Slot) (u : Value), s.ok ρ S w u → Ext S S' w w' → agreeOn ρ ρ' s.lab → s.ok ρ' S' w' u
  | .v e x, cs, h, k, _ => by simp only [Slot.ok] at h ⊢; exact Enc.val_mono h k
  | .ref i, cs, h, _, a => by simp only [Slot.ok] at h ⊢; rw [a i (by simp [Slot.lab])]; exact h
  | .ptr i off, cs, h, _, a => by simp only [Slot.ok] at h ⊢; rw [a i (by simp [Slot.lab])]; exact h
  | .pel i off j n, cs, h, _, a => by simp only [Slot.ok] at h ⊢; rw [a i (by simp [Slot.lab])]; exact h
  | .el i k n off, cs, h, _, a => by simp only [Slot.ok] at h ⊢; rw [a i (by simp [Slot.lab])]; exact h
  | .asl i off lo n cap, cs, h, _, a => by simp only [Slot.ok] at h ⊢; rw [a i (by simp [Slot.lab])]; exact h
  | .esl i off n cap, cs, h, _, a => by simp only [Slot.ok] at h ⊢; rw [a i (by simp [Slot.lab])]; exact h
  | .sub i off n, cs, h, _, a => by simp only [Slot.ok] at h ⊢; rw [a i (by simp [Slot.lab])]; exact h
  | .pst e x, cs, h, k, _ => by
    simp only [Slot.ok] at h ⊢
    obtain ⟨b, off, ds, h1, h2, h3, h4, h5⟩ := h
    exact ⟨b, off, ds, h1, Nat.lt_of_lt_of_le h2 k.size, (k.keep b h2 h3).2, h4.mono h2 h3 k, e.mono h5 k⟩
  | .fnc g cap, cs, h, k, a => by
    simp only [Slot.ok] at h ⊢
    obtain ⟨vs, h1, h2⟩ := h
    exact ⟨vs, h1, Slot.okv_mono cap vs h2 k (by simpa [Slot.lab] using a)⟩
  | .top, cs, h, _, _ => by simpa only [Slot.ok] using h
  | .agg l, cs, h, k, a => by
    simp only [Slot.ok] at h ⊢
    obtain ⟨vs, h1, h2⟩ := h
    exact ⟨vs, h1, Slot.okl_mono l vs h2 k (by simpa [Slot.lab] using a)⟩
  | .tup l, cs, h, k, a => by
    simp only [Slot.ok] at h ⊢
    obtain ⟨vs, h1, h2⟩ := h
    exact ⟨vs, h1, Slot.okv_mono l vs h2 k (by simpa [Slot.lab] using a)⟩
end
end

/-! ### rows of a type -/
def Enc.okL {α : Type} (e : Enc α) : List α → (Nat → Prop) → World → List Value → Prop
  | [], _, _, cs => cs = []
  | x :: xs, S, w, cs => ∃ c d, cs = c ++ d ∧ e.ok x S w c ∧ Enc.okL e xs S w d

section
variable {α : Type} {e : Enc α} {S S' : Nat → Prop} {w w' : World}
theorem Enc.okL_mono : ∀ {xs : List α} {cs}, e.okL xs S w cs → Ext S S' w w' → e.okL xs S' w' cs
  | [], _, h, _ => h
  | _ :: _, _, ⟨c, d, h1, h2, h3⟩, k => ⟨c, d, h1, e.mono h2 k, Enc.okL_mono h3 k⟩
theorem Enc.okL_len : ∀ {xs : List α} {cs}, e.okL xs S w cs → cs.length = xs.length * e.n
  | [], _, h => by simp only [Enc.okL] at h; simp [h]
  | x :: xs, _, ⟨c, d, h1, h2, h3⟩ => by rw [h1, List.length_append, e.len h2, Enc.okL_len h3, List.length_cons, Nat.add_mul, Nat.one_mul, Nat.add_comm]
theorem Enc.okL_cell : ∀ {xs : List α} {cs}, e.okL xs S w cs → ∀ c ∈ cs, c.oneCell' = true
  | [], _, h => by simp only [Enc.okL] at h; simp [h]
  | x :: xs, _, ⟨c, d, h1, h2, h3⟩ => by
    intro y hy
    rw [h1] at hy
    rcases List.mem_append.1 hy with hy | hy
    · exact e.cell h2 y hy
    · exact Enc.okL_cell h3 y hy
theorem Enc.okL_append : ∀ {xs ys : List α} {cs ds}, e.okL xs S w cs → e.okL ys S w ds → e.okL (xs ++ ys) S w (cs ++ ds)
  | [], _, _, _, h, k => by simp only [Enc.okL] at h; simpa [h] using k
  | x :: xs, ys, _, ds, ⟨c, d, h1, h2, h3⟩, k => ⟨c, d ++ ds, by rw [h1, List.append_assoc], h2, Enc.okL_append h3 k⟩
theorem Enc.okL_split : ∀ {xs ys : List α} {cs}, e.okL (xs ++ ys) S w cs → ∃ c d, cs = c ++ d ∧ e.okL xs S w c ∧ e.okL ys S w d
  | [], _, cs, h => ⟨[], cs, rfl, rfl, h⟩
  | x :: xs, ys, _, ⟨c, d, h1, h2, h3⟩ => by
    obtain ⟨c', d', k1, k2, k3⟩ := Enc.okL_split (xs := xs) h3
    exact ⟨c ++ c', d', by rw [h1, k1, List.append_assoc], ⟨c, c', rfl, h2, k2⟩, k3⟩
theorem Enc.okL_get {xs : List α} {cs} (h : e.okL xs S w cs) {i : Nat} {x : α} (hx : xs[i]? = some x) :
    ∃ a c b, cs = a ++ (c ++ b) ∧ a.length = i * e.n ∧ e.ok x S w c ∧ (∀ y c', e.ok y S w c' → e.okL (xs.set i y) S w (a ++ (c' ++ b))) := by
  have hi : i < xs.length := by
    rcases Nat.lt_or_ge i xs.length with h | h
    · exact h
    · simp [List.getElem?_eq_none h] at hx
  have hx' : xs[i] = x := by simpa [List.getElem?_eq_getElem hi] using hx
  have hs : xs = xs.take i ++ (x :: xs.drop (i + 1)) := by
    rw [← hx', List.getElem_cons_drop, List.take_append_drop]
  have h' := h
  rw [hs] at h'
  obtain ⟨a, d, h1, h2, c, b, h3, h4, h5⟩ := Enc.okL_split h'
  refine ⟨a, c, b, by rw [h1, h3], ?_, h4, fun y c' hy => ?_⟩
  · rw [Enc.okL_len h2, List.length_take]; rw [Nat.min_eq_left (Nat.le_of_lt hi)]
  · have : xs.set i y = xs.take i ++ (y :: xs.drop (i + 1)) := by
      rw [List.set_eq_take_append_cons_drop, if_pos hi]
    rw [this]
    exact Enc.okL_append h2 ⟨c', b, rfl, hy, h5⟩
end

/-! ### what is ours in memory -/
/-- how a value of a Lean type lies in blocks of its own; some of its parts may be elsewhere (labels) -/
structure DE (α : Type) where
  ok : α → (Nat → Prop) → World → LV → List Value → Prop
  mono : ∀ {x : α} {S S' : Nat → Prop} {w w' : World} {u : LV} {l : List Value}, ok x S w u l → Ext S S' w w' → (∀ b, Has u b → w'.heap[b]? = w.heap[b]?) → ok x S' w' u l
inductive Ent : Type 1
  | box (T : TypeId) (l : List Slot) (pb : Option Nat := none)
  | arr {α : Type} (T : TypeId) (e : Enc α) (xs : List α)
  | mp {α β : Type} (e : Enc α) (f : Enc β) (m : List (α × β))
  | dp {α : Type} (D : DE α) (x : α) (ls : List Nat)

/-- the entries of a map -/
def MpL {α β : Type} (e : Enc α) (f : Enc β) (S : Nat → Prop) (w : World) : List (α × β) → List MapEntry → Prop
  | [], [] => True
  | (k, v) :: m, x :: xs => e.val k S w x.key ∧ f.val v S w x.val ∧ MpL e f S w m xs
  | _, _ => False
theorem MpL_mono {α β : Type} {e : Enc α} {f : Enc β} {S S' : Nat → Prop} {w w' : World} (k : Ext S S' w w') : ∀ {m : List (α × β)} {xs : List MapEntry}, MpL e f S w m xs → MpL e f S' w' m xs
  | [], [], _ => trivial
  | (_, _) :: _, _ :: _, ⟨h1, h2, h3⟩ => ⟨Enc.val_mono h1 k, Enc.val_mono h2 k, MpL_mono k h3⟩
  | [], _ :: _, h => h
  | _ :: _, [], h => h

def Ent.ok (ρ : Nat → LV) (S : Nat → Prop) (w : World) (u : LV) : Ent → Prop
  | .box T l pb => (∃ b cs, u.v = .pointer (some ⟨b, 0, none⟩) ∧ w.heap[b]? = some (.cells cs.toArray T (0, 0)) ∧ Slot.okl ρ S w l cs) ∧ ∀ c, pb = some c → u.v = .pointer (some ⟨c, 0, none⟩)
  | .arr T e xs => (xs = [] ∧ u.v = .slice none 0 0) ∨ ∃ b cap pre cs post, u.v = .slice (some ⟨b, pre.length, none⟩) xs.length cap ∧
      w.heap[b]? = some (.cells (pre ++ (cs ++ post)).toArray T (0, 0)) ∧ e.okL xs S w cs ∧ xs.length ≤ cap ∧ cap * e.n ≤ cs.length + post.length ∧ xs.length ≤ 140737488355328
  | .mp e f m => ∃ b es ck, u.v = .map (some b) ∧ w.heap[b]? = some (.map es ck) ∧ MpL e f S w m es.toList
  | .dp D x ls => D.ok x S w u (ls.map fun l => (ρ l).v)

def Ent.lab : Ent → List Nat
  | .box _ l _ => Slot.labs l
  | .arr _ _ _ => []
  | .mp _ _ _ => []
  | .dp _ _ ls => ls

/-- as Ext, and the block b too is as it was -/
theorem Ent.ok_mono {ρ ρ' : Nat → LV} {S S' : Nat → Prop} {w w' : World} {u : LV} {en : Ent} (h : en.ok ρ S w u) (k : Ext S S' w w') (a : agreeOn ρ ρ' en.lab)
    (hb : ∀ b, Has u b → w'.heap[b]? = w.heap[b]?) : en.ok ρ' S' w' u := by
  cases en with
  | box T l pb =>
    obtain ⟨⟨b, cs, h1, h2, h3⟩, h4⟩ := h
    exact ⟨⟨b, cs, h1, by rw [hb b (.inl (by simp [h1, blk]))]; exact h2, Slot.okl_mono l cs h3 k a⟩, h4⟩
  | arr T e xs =>
    rcases h with h | ⟨b, cap, pre, cs, post, h1, h2, h3, h4, h5⟩
    · exact .inl h
    · exact .inr ⟨b, cap, pre, cs, post, h1, by rw [hb b (.inl (by simp [h1, blk]))]; exact h2, Enc.okL_mono h3 k, h4, h5⟩
  | mp e f m =>
    obtain ⟨b, es, ck, h1, h2, h3⟩ := h
    exact ⟨b, es, ck, h1, by rw [hb b (.inl (by simp [h1, blk]))]; exact h2, MpL_mono k h3⟩
  | dp D x ls =>
    have := D.mono h k hb
    simp only [Ent.ok]
    have e : (ls.map fun l => (ρ' l).v) = ls.map fun l => (ρ l).v := List.map_congr_left fun l hl => a l hl
    rw [e]; exact this

def lk : List (Nat × Slot) → Nat → Option Slot
  | [], _ => none
  | (i, s) :: r, t => bif Nat.beq i t then some s else lk r t
def lkE : List (Nat × Ent) → Nat → Option Ent
  | [], _ => none
  | (i, s) :: r, t => bif Nat.beq i t then some s else lkE r t

structure AS : Type 1 where
  g : List (Nat × Slot)
  d : List (Nat × Ent)

structure Frm where
  P : Program
  N : Nat
  S0 : Nat → Prop
  w0 : World
  R : Nat → Prop
  rd : Option Nat
  df : List Deferred

def Owns (ρ : Nat → LV) (d : List (Nat × Ent)) (k : Nat) : Prop := ∃ i en, lkE d i = some en ∧ Has (ρ i) k
def Un (S : Nat → Prop) (ρ : Nat → LV) (d : List (Nat × Ent)) (k : Nat) : Prop := S k ∨ Owns ρ d k

structure Core (F : Frm) (d : List (Nat × Ent)) (ρ : Nat → LV) (w : World) : Prop where
  low : ∀ k, F.S0 k → k < F.w0.heap.size
  size : F.w0.heap.size ≤ w.heap.size
  frame : ∀ k, k < F.w0.heap.size → ¬ F.R k → w.heap[k]? = F.w0.heap[k]?
  os : w.os = F.w0.os
  tape : w.tape = F.w0.tape
  output : w.output = F.w0.output
  own : ∀ i en, lkE d i = some en → en.ok ρ (Un F.S0 ρ d) w (ρ i)
  fresh : ∀ i en b, lkE d i = some en → Has (ρ i) b → (F.w0.heap.size ≤ b ∨ F.R b) ∧ b < w.heap.size
  inj : ∀ i j en en' b, lkE d i = some en → lkE d j = some en' → Has (ρ i) b → Has (ρ j) b → i = j
  apart : ∀ i en b, lkE d i = some en → Has (ρ i) b → ¬ F.S0 b

structure St (F : Frm) (σ : AS) (a : Act) (w : World) : Prop where
  core : ∃ ρ, Core F σ.d ρ w ∧ ∀ t s, lk σ.g t = some s → s.ok ρ (Un F.S0 ρ σ.d) w (a.tmps.getD t undef)
  size : a.tmps.size = F.N
  defers : a.defers = F.df

end Go.Sw

namespace Go.Sw
open Go Go.RowKit

/-! ### numbers and bools -/
def inK (k : IntKind) (n : Int) : Prop := k.min ≤ n ∧ n ≤ k.max
instance (k : IntKind) (n : Int) : Decidable (inK k n) := inferInstanceAs (Decidable (_ ∧ _))

def Enc.int (k : IntKind) : Enc Int where
  n := 1
  agg := false
  ok x _ _ cs := cs = [.int k x] ∧ inK k x
  len h := by rw [h.1]; rfl
  one _ := rfl
  cell h c hc := by rw [h.1] at hc; simp at hc; subst hc; rfl
  mono h _ := h

def Enc.bool : Enc Bool where
  n := 1
  agg := false
  ok x _ _ cs := cs = [.bool x]
  len h := by rw [h]; rfl
  one _ := rfl
  cell h c hc := by rw [h] at hc; simp at hc; subst hc; rfl
  mono h _ := h

def Enc.str : Enc ByteArray where
  n := 1
  agg := false
  ok x _ _ cs := cs = [.string x] ∧ x.size ≤ 9223372036854775807
  len h := by rw [h.1]; rfl
  one _ := rfl
  cell h c hc := by rw [h.1] at hc; simp at hc; subst hc; rfl
  mono h _ := h

theorem val_int {k : IntKind} {x : Int} {S w u} : (Enc.int k).val x S w u ↔ u = .int k x ∧ inK k x := by
  constructor
  · rintro ⟨cs, ⟨rfl, h⟩, rfl⟩; exact ⟨rfl, h⟩
  · rintro ⟨rfl, h⟩; exact ⟨_, ⟨rfl, h⟩, rfl⟩
theorem val_bool {x : Bool} {S w u} : Enc.bool.val x S w u ↔ u = .bool x := by
  constructor
  · rintro ⟨cs, rfl, rfl⟩; rfl
  · rintro rfl; exact ⟨_, rfl, rfl⟩
theorem val_str {x : ByteArray} {S w u} : Enc.str.val x S w u ↔ u = .string x ∧ x.size ≤ 9223372036854775807 := by
  constructor
  · rintro ⟨cs, ⟨rfl, h⟩, rfl⟩; exact ⟨rfl, h⟩
  · rintro ⟨rfl, h⟩; exact ⟨_, ⟨rfl, h⟩, rfl⟩

/-! ### one operation -/
def OpWp (P : Program) (o : Oper) (a : Act) (w : World) (K : Value → World → Prop) : Prop :=
  (∃ v w', (execOp a.eval o).run P w = .ok (.value v) w' ∧ K v w') ∨ (∃ w', (execOp a.eval o).run P w = .ok .skip w' ∧ K undef w') ∨
  (∃ f args w', (execOp a.eval o).run P w = .ok (.enter f args) w' ∧ Calls P f args w' fun e w'' => ∃ v, e = .returned v ∧ K v w'') ∨
  (∃ l f tmps assign body w', (execOp a.eval o).run P w = .ok (.round l f tmps assign body) w' ∧ RoundIn Fence.wide 0 P l f tmps assign body w' fun e w'' => ∃ v, e = .returned v ∧ K v w'')
theorem opWp_plain {P : Program} {o : Oper} {a : Act} {w w' : World} {x : Next} (h : (execOp a.eval o).run P w = .ok x w') (hx : ∀ d, x ≠ .defer d) (l : Option Nat) : o.semAt l a.eval = execOp a.eval o := by
  refine Oper.semAt_eq _ _ _ fun c hc => ?_
  unfold execOp at h
  rw [hc] at h
  simp only [Sem.run_bind] at h
  cases hr : (resolve a.eval c o.type).run P w with
  | ok d w1 => rw [hr] at h; simp at h; exact hx d h.1.symm
  | halt x w1 => rw [hr] at h; simp at h
/-- the fence of a walk: all functions; in a round or not -/
abbrev Frm.fe (F : Frm) : Fence := { Fence.wide with round := F.rd }
theorem OpWp.wpIn {P : Program} {o : Oper} {a : Act} {w : World} {K : Value → World → Prop} (h : OpWp P o a w K) {l : Option Nat} {next : Act → World → Prop} {Q : Exit → Act → World → Prop} (hn : ∀ v w', K v w' → next (a.put o.dst v) w') :
    o.wpIn { Fence.wide with round := l } 0 P a w next Q := by
  refine ⟨fun _ _ => trivial, ?_⟩
  rcases h with ⟨v, w', h, k⟩ | ⟨w', h, k⟩ | ⟨f, args, w', h, k⟩ | ⟨l', f, tmps, assign, body, w', h, k⟩
  · rw [opWp_plain h (fun _ h => by cases h), h]; exact hn v w' k
  · rw [opWp_plain h (fun _ h => by cases h), h]; exact hn undef w' k
  · rw [opWp_plain h (fun _ h => by cases h), h]
    refine ⟨fun h => (by cases h), ?_⟩
    refine CallsIn.mono (callsIn_wide.2 k) ?_
    rintro e w'' ⟨v, rfl, hk⟩
    exact hn _ _ hk
  · rw [opWp_plain h (fun _ h => by cases h), h]
    refine ⟨fun h => (by cases h), ?_⟩
    refine RoundIn.mono (show RoundIn { Fence.wide with round := l } (0 - 1) P l' f tmps assign body w' _ from k) ?_
    rintro e w'' ⟨v, rfl, hk⟩
    exact hn _ _ hk

theorem OpWp.value {P : Program} {o : Oper} {a : Act} {w w' : World} {v : Value} {K : Value → World → Prop} (h : (execOp a.eval o).run P w = .ok (.value v) w') (k : K v w') : OpWp P o a w K := .inl ⟨v, w', h, k⟩
theorem OpWp.skip {P : Program} {o : Oper} {a : Act} {w w' : World} {K : Value → World → Prop} (h : (execOp a.eval o).run P w = .ok .skip w') (k : K undef w') : OpWp P o a w K := .inr (.inl ⟨w', h, k⟩)
theorem OpWp.enter {P : Program} {o : Oper} {a : Act} {w w' : World} {f : FuncId} {args : Array Value} {K : Value → World → Prop} (h : (execOp a.eval o).run P w = .ok (.enter f args) w')
    (k : Calls P f args w' fun e w'' => ∃ v, e = .returned v ∧ K v w'') : OpWp P o a w K := .inr (.inr (.inl ⟨f, args, w', h, k⟩))
theorem OpWp.mono {P : Program} {o : Oper} {a : Act} {w : World} {K K' : Value → World → Prop} (h : OpWp P o a w K) (k : ∀ v w', K v w' → K' v w') : OpWp P o a w K' := by
  rcases h with ⟨v, w', h, h'⟩ | ⟨w', h, h'⟩ | ⟨f, args, w', h, h'⟩ | ⟨l', f, tmps, assign, body, w', h, h'⟩
  · exact .inl ⟨v, w', h, k _ _ h'⟩
  · exact .inr (.inl ⟨w', h, k _ _ h'⟩)
  · exact .inr (.inr (.inl ⟨f, args, w', h, h'.mono fun e w'' ⟨v, h1, h2⟩ => ⟨v, h1, k _ _ h2⟩⟩))
  · exact .inr (.inr (.inr ⟨l', f, tmps, assign, body, w', h, h'.mono fun e w'' ⟨v, h1, h2⟩ => ⟨v, h1, k _ _ h2⟩⟩))

/-- the slot of an operand -/
def cslot : Value → Option Slot
  | .int k n => if inK k n then some (.v (Enc.int k) n) else none
  | .bool b => some (.v Enc.bool b)
  | .string s => if s.size ≤ 9223372036854775807 then some (.v Enc.str s) else none
  | _ => none
def evS (g : List (Nat × Slot)) : Operand → Option Slot
  | .tmp t => lk g t
  | .const u => cslot u
  | _ => none

theorem cslot_ok {u : Value} {s : Slot} (h : cslot u = some s) (ρ : Nat → LV) (S : Nat → Prop) (w : World) : s.ok ρ S w u ∧ s.lab = [] := by
  cases u <;> simp only [cslot] at h
  case int k n =>
    split at h
    · rename_i hk; cases h; exact ⟨by simp only [Slot.ok]; exact val_int.2 ⟨rfl, hk⟩, rfl⟩
    · cases h
  case bool b => cases h; exact ⟨by simp only [Slot.ok]; exact val_bool.2 rfl, rfl⟩
  case string b =>
    split at h
    · rename_i hk; cases h; exact ⟨by simp only [Slot.ok]; exact val_str.2 ⟨rfl, hk⟩, rfl⟩
    · cases h
  all_goals cases h

structure NewOk (ρ : Nat → LV) (S : Nat → Prop) (w w' : World) (new : List (Nat × Ent)) : Prop where
  own : ∀ i en, lkE new i = some en → en.ok ρ S w' (ρ i)
  fresh : ∀ i en b, lkE new i = some en → Has (ρ i) b → w.heap.size ≤ b ∧ b < w'.heap.size
  inj : ∀ i j en en' b, lkE new i = some en → lkE new j = some en' → Has (ρ i) b → Has (ρ j) b → i = j

/-- what an operation that changes nothing that was there comes to -/
def Res (ρ : Nat → LV) (S : Nat → Prop) (w : World) (s : Slot) (new : List (Nat × Ent)) (v : Value) (w' : World) : Prop :=
  ∃ ρ', (∀ i, lkE new i = none → ρ' i = ρ i) ∧ Below w.heap.size w w' ∧ s.ok ρ' (Un S ρ' new) w' v ∧ NewOk ρ' (Un S ρ' new) w w' new

/-- what an operation may know: its own operands, and what they lead to -/
structure Know (σ : AS) (xs : Array Operand) (ρ : Nat → LV) (S : Nat → Prop) (a : Act) (w : World) : Prop where
  low : ∀ k, S k → k < w.heap.size
  slot : ∀ x ∈ xs, ∀ s, evS σ.g x = some s → s.ok ρ S w (a.eval x)
  ent : ∀ x ∈ xs, ∀ s, evS σ.g x = some s → ∀ i ∈ s.lab, ∀ en, lkE σ.d i = some en → en.ok ρ S w (ρ i) ∧ ∀ b, Has (ρ i) b → S b ∧ b < w.heap.size

def JO (F : Frm) (o : Oper) (σ : AS) (s : Slot) (new : List (Nat × Ent)) : Prop :=
  ∀ ρ S a w, Know σ o.op.operands ρ S a w → OpWp F.P o a w (Res ρ S w s new)

def AS.put (σ : AS) (dst : Option Tmp) (s : Slot) (new : List (Nat × Ent)) : AS :=
  ⟨match dst with | some d => (d, s) :: σ.g | none => σ.g, new ++ σ.d⟩
def AS.free (σ : AS) (new : List (Nat × Ent)) : Bool :=
  new.all fun x => (σ.g.all fun y => !y.2.lab.contains x.1) && σ.d.all fun y => !Nat.beq y.1 x.1 && !y.2.lab.contains x.1
def dstOk (dst : Option Tmp) (n : Nat) : Bool := match dst with | some d => Nat.blt d n | none => true

theorem lkE_append (l r : List (Nat × Ent)) (i : Nat) : lkE (l ++ r) i = (lkE l i).or (lkE r i) := by
  induction l with
  | nil => simp [lkE]
  | cons x l ih =>
    obtain ⟨j, en⟩ := x
    simp only [List.cons_append, lkE]
    cases Nat.beq j i <;> simp [ih]
theorem lkE_mem {l : List (Nat × Ent)} {i : Nat} {en : Ent} (h : lkE l i = some en) : (i, en) ∈ l := by
  induction l with
  | nil => simp [lkE] at h
  | cons x l ih =>
    obtain ⟨j, en'⟩ := x
    simp only [lkE] at h
    cases hb : Nat.beq j i with
    | true => rw [hb] at h; simp at h; subst h; have := Nat.eq_of_beq_eq_true hb; subst this; exact List.mem_cons_self
    | false => rw [hb] at h; exact List.mem_cons_of_mem _ (ih h)
theorem lk_mem {l : List (Nat × Slot)} {i : Nat} {s : Slot} (h : lk l i = some s) : (i, s) ∈ l := by
  induction l with
  | nil => simp [lk] at h
  | cons x l ih =>
    obtain ⟨j, s'⟩ := x
    simp only [lk] at h
    cases hb : Nat.beq j i with
    | true => rw [hb] at h; simp at h; subst h; have := Nat.eq_of_beq_eq_true hb; subst this; exact List.mem_cons_self
    | false => rw [hb] at h; exact List.mem_cons_of_mem _ (ih h)

theorem AS.free_spec {σ : AS} {new : List (Nat × Ent)} (h : σ.free new = true) {i : Nat} {en : Ent} (hi : lkE new i = some en) :
    (∀ t s, lk σ.g t = some s → i ∉ s.lab) ∧ lkE σ.d i = none ∧ ∀ j e, lkE σ.d j = some e → i ∉ e.lab := by
  have h1 := List.all_eq_true.1 h _ (lkE_mem hi)
  simp only [Bool.and_eq_true, List.all_eq_true] at h1
  obtain ⟨h1, h2⟩ := h1
  refine ⟨fun t s hs hc => ?_, ?_, fun j e hj hc => ?_⟩
  · have := h1 _ (lk_mem hs); simp at this; exact this hc
  · cases hd : lkE σ.d i with
    | none => rfl
    | some e =>
      have := (h2 _ (lkE_mem hd)).1
      simp at this
  · have := (h2 _ (lkE_mem hj)).2; simp at this; exact this hc

theorem Ext.of_below {w w' : World} (h : Below w.heap.size w w') {S S' : Nat → Prop} (hs : ∀ k, k < w.heap.size → S' k → S k) : Ext S S' w w' :=
  ⟨h.size, fun k hk hn => ⟨h.block k hk, fun hc => hn (hs k hk hc)⟩⟩

theorem Core.put {F : Frm} {d new : List (Nat × Ent)} {ρ ρ' : Nat → LV} {w w' : World} {σ : AS} (hσ : σ.d = d) (hc : Core F d ρ w) (hf : σ.free new = true) (hρ : ∀ i, lkE new i = none → ρ' i = ρ i)
    (hb : Below w.heap.size w w') (hn : NewOk ρ' (Un (Un F.S0 ρ d) ρ' new) w w' new) :
    Core F (new ++ d) ρ' w' ∧ (∀ k, Un F.S0 ρ' (new ++ d) k ↔ Un (Un F.S0 ρ d) ρ' new k) ∧ Ext (Un F.S0 ρ d) (Un F.S0 ρ' (new ++ d)) w w' := by
  subst hσ
  have hag : ∀ i en, lkE σ.d i = some en → ρ' i = ρ i := fun i en h => hρ i (by
    cases hx : lkE new i with
    | none => rfl
    | some e => rw [(AS.free_spec hf hx).2.1] at h; cases h)
  have hU : ∀ k, Un F.S0 ρ' (new ++ σ.d) k ↔ Un (Un F.S0 ρ σ.d) ρ' new k := by
    intro k
    constructor
    · rintro (h | ⟨i, en, h1, h2⟩)
      · exact .inl (.inl h)
      · rw [lkE_append] at h1
        cases hx : lkE new i with
        | some e => exact .inr ⟨i, e, hx, h2⟩
        | none => rw [hx] at h1; simp at h1; exact .inl (.inr ⟨i, en, h1, by rw [← hag i en h1]; exact h2⟩)
    · rintro ((h | ⟨i, en, h1, h2⟩) | ⟨i, en, h1, h2⟩)
      · exact .inl h
      · refine .inr ⟨i, en, ?_, by rw [hag i en h1]; exact h2⟩
        rw [lkE_append]
        cases hx : lkE new i with
        | some e => rw [(AS.free_spec hf hx).2.1] at h1; cases h1
        | none => simpa using h1
      · exact .inr ⟨i, en, by rw [lkE_append, h1]; rfl, h2⟩
  have hE : Ext (Un F.S0 ρ σ.d) (Un F.S0 ρ' (new ++ σ.d)) w w' := by
    refine Ext.of_below hb fun k hk h => ?_
    rcases (hU k).1 h with h | ⟨i, en, h1, h2⟩
    · exact h
    · have := (hn.fresh i en k h1 h2).1; omega
  have hE2 : Ext (Un (Un F.S0 ρ σ.d) ρ' new) (Un F.S0 ρ' (new ++ σ.d)) w' w' := ⟨Nat.le_refl _, fun k _ h => ⟨rfl, fun hc => h ((hU k).1 hc)⟩⟩
  refine ⟨⟨hc.low, Nat.le_trans hc.size hb.size, fun k hk hr => (hb.block k (Nat.lt_of_lt_of_le hk hc.size)).trans (hc.frame k hk hr), hb.os.trans hc.os, hb.tape.trans hc.tape, hb.output.trans hc.output, ?_, ?_, ?_, ?_⟩, hU, hE⟩
  · intro i en h
    rw [lkE_append] at h
    cases hx : lkE new i with
    | some e =>
      rw [hx] at h; simp at h; subst h
      exact Ent.ok_mono (hn.own i e hx) hE2 (fun _ _ => rfl) (fun _ _ => rfl)
    | none =>
      rw [hx] at h; simp at h
      rw [hag i en h]
      refine Ent.ok_mono (hc.own i en h) hE (fun j hj => congrArg LV.v (hρ j ?_)) (fun b hb' => hb.block b (hc.fresh i en b h hb').2)
      cases hy : lkE new j with
      | none => rfl
      | some e => exact absurd hj ((AS.free_spec hf hy).2.2 i en h)
  · intro i en b h hb'
    rw [lkE_append] at h
    cases hx : lkE new i with
    | some e =>
      obtain ⟨h1, h2⟩ := hn.fresh i e b hx hb'
      exact ⟨.inl (Nat.le_trans hc.size h1), h2⟩
    | none =>
      rw [hx] at h; simp at h
      rw [hag i en h] at hb'
      obtain ⟨h1, h2⟩ := hc.fresh i en b h hb'
      exact ⟨h1, Nat.lt_of_lt_of_le h2 hb.size⟩
  · intro i j en en' b hi hj bi bj
    rw [lkE_append] at hi hj
    cases hx : lkE new i with
    | some e =>
      cases hy : lkE new j with
      | some e' => exact hn.inj i j e e' b hx hy bi bj
      | none =>
        rw [hy] at hj; simp at hj; rw [hag j en' hj] at bj
        have h1 := (hn.fresh i e b hx bi).1
        have h2 := (hc.fresh j en' b hj bj).2
        omega
    | none =>
      rw [hx] at hi; simp at hi; rw [hag i en hi] at bi
      cases hy : lkE new j with
      | some e' =>
        have h1 := (hn.fresh j e' b hy bj).1
        have h2 := (hc.fresh i en b hi bi).2
        omega
      | none =>
        rw [hy] at hj; simp at hj; rw [hag j en' hj] at bj
        exact hc.inj i j en en' b hi hj bi bj
  · intro i en b h hb' hs0
    rw [lkE_append] at h
    cases hx : lkE new i with
    | some e =>
      have h1 := (hn.fresh i e b hx hb').1
      have h2 := hc.low b hs0
      have h3 := hc.size
      omega
    | none =>
      rw [hx] at h; simp at h
      rw [hag i en h] at hb'
      exact hc.apart i en b h hb' hs0

theorem Act.size_put (a : Act) (dst : Option Tmp) (v : Value) : (a.put dst v).tmps.size = a.tmps.size := by
  cases dst <;> simp [Act.put]
theorem Act.getD_put (a : Act) (d : Tmp) (v : Value) (t : Tmp) (h : d < a.tmps.size) : (a.put (some d) v).tmps.getD t undef = if d = t then v else a.tmps.getD t undef := by
  simp only [Act.put, Array.getD_eq_getD_getElem?, Array.getElem?_setIfInBounds]
  split
  · simp_all
  · rfl

theorem St.put {F : Frm} {σ : AS} {dst : Option Tmp} {s : Slot} {new : List (Nat × Ent)} {ρ : Nat → LV} {a : Act} {w w' : World} {v : Value}
    (hc : Core F σ.d ρ w) (hs : ∀ t s, lk σ.g t = some s → s.ok ρ (Un F.S0 ρ σ.d) w (a.tmps.getD t undef)) (hz : a.tmps.size = F.N) (hd : a.defers = F.df)
    (hf : σ.free new = true) (hdst : dstOk dst F.N = true) (hr : Res ρ (Un F.S0 ρ σ.d) w s new v w') : St F (σ.put dst s new) (a.put dst v) w' := by
  obtain ⟨ρ', h1, h2, h3, h4⟩ := hr
  obtain ⟨k1, k2, k3⟩ := hc.put rfl hf h1 h2 h4
  refine ⟨⟨ρ', k1, ?_⟩, by rw [Act.size_put, hz], by cases dst <;> exact hd⟩
  have hold : ∀ t s, lk σ.g t = some s → s.ok ρ' (Un F.S0 ρ' (new ++ σ.d)) w' (a.tmps.getD t undef) := fun t s ht =>
    Slot.ok_mono s _ (hs t s ht) k3 (fun j hj => congrArg LV.v (h1 j (by
      cases hy : lkE new j with
      | none => rfl
      | some e => exact absurd hj ((AS.free_spec hf hy).1 t s ht))))
  intro t s' ht
  cases dst with
  | none => exact hold t s' ht
  | some d =>
    simp only [AS.put, lk] at ht
    have hlt : d < a.tmps.size := by rw [hz]; exact Nat.le_of_ble_eq_true hdst
    rw [Act.getD_put a d v t hlt]
    cases hb : Nat.beq d t with
    | true =>
      have := Nat.eq_of_beq_eq_true hb
      rw [hb] at ht; simp at ht; subst ht; rw [if_pos this]
      exact Slot.ok_mono s v h3 ⟨Nat.le_refl _, fun k _ h => ⟨rfl, fun hc => h ((k2 k).1 hc)⟩⟩ (fun _ _ => rfl)
    | false =>
      have : d ≠ t := fun e => by subst e; simp at hb
      rw [hb] at ht; rw [if_neg this]
      exact hold t s' ht

theorem Act.eval_tmp (a : Act) (t : Tmp) : a.eval (.tmp t) = a.tmps.getD t undef := rfl

theorem Know.of_st {F : Frm} {σ : AS} {ρ : Nat → LV} {a : Act} {w : World} (hc : Core F σ.d ρ w)
    (hs : ∀ t s, lk σ.g t = some s → s.ok ρ (Un F.S0 ρ σ.d) w (a.tmps.getD t undef)) (xs : Array Operand) : Know σ xs ρ (Un F.S0 ρ σ.d) a w := by
  refine ⟨fun k hk => ?_, fun x _ s h => ?_, fun x _ s h i hi en he => ⟨hc.own i en he, fun b hb => ⟨.inr ⟨i, en, he, hb⟩, (hc.fresh i en b he hb).2⟩⟩⟩
  · rcases hk with hk | ⟨i, en, h1, h2⟩
    · exact Nat.lt_of_lt_of_le (hc.low k hk) hc.size
    · exact (hc.fresh i en k h1 h2).2
  cases x with
  | tmp t => exact hs t s h
  | const u => exact (cslot_ok h ρ _ w).1
  | global g => cases h
  | func f => cases h

/-! ### guards, regions -/
def GK (ops : Array Oper) (g : List (Nat × Slot)) (o : Oper) (b : Bool) : Prop :=
  match o.guard with
  | none => b = true
  | some (j, want) => (∃ t x, (ops[j]?).bind (·.dst) = some t ∧ lk g t = some (.v Enc.bool x) ∧ (x == want) = b) ∨ (b = false ∧ ∃ t, (ops[j]?).bind (·.dst) = some t ∧ lk g t = some .top)

theorem GK.none {ops : Array Oper} {g : List (Nat × Slot)} {o : Oper} (h : o.guard = .none) : GK ops g o true := by unfold GK; rw [h]
theorem GK.some {ops : Array Oper} {g : List (Nat × Slot)} {o : Oper} {j : Nat} {want : Bool} (t : Tmp) (x : Bool) (b : Bool) (h : o.guard = .some (j, want)) (ht : (ops[j]?).bind (·.dst) = .some t)
    (hx : lk g t = .some (.v Enc.bool x)) (hb : (x == want) = b) : GK ops g o b := by unfold GK; rw [h]; exact .inl ⟨t, x, ht, hx, hb⟩
theorem GK.und {ops : Array Oper} {g : List (Nat × Slot)} {o : Oper} {j : Nat} {want : Bool} (t : Tmp) (h : o.guard = .some (j, want)) (ht : (ops[j]?).bind (·.dst) = .some t)
    (hx : lk g t = .some .top) : GK ops g o false := by unfold GK; rw [h]; exact .inr ⟨rfl, t, ht, hx⟩

theorem wanted_of {ops : Array Oper} {g : List (Nat × Slot)} {o : Oper} {b : Bool} (h : GK ops g o b) {ρ S w} {a : Act}
    (hs : ∀ t s, (∃ j want, o.guard = Option.some (j, want) ∧ (ops[j]?).bind (·.dst) = Option.some t) → lk g t = Option.some s → s.ok ρ S w (a.tmps.getD t undef)) :
    Region.wanted o (yielded ops a.tmps) = b := by
  unfold GK at h
  unfold Region.wanted
  split at h
  · rename_i hg; rw [hg]; exact h.symm
  · rename_i j want hg
    rcases h with ⟨t, x, h1, h2, h3⟩ | ⟨rfl, t, h1, h2⟩
    · have := hs t _ ⟨j, want, hg, h1⟩ h2
      simp only [Slot.ok] at this
      have hv := val_bool.1 this
      rw [hg]
      simp only [yielded, h1, Option.bind_some]
      have : a.tmps[t]? = Option.some (.bool x) := by
        rw [Array.getD_eq_getD_getElem?] at hv
        cases hq : a.tmps[t]? with
        | none => rw [hq] at hv; simp [undef] at hv
        | some y => rw [hq] at hv; simpa using hv
      rw [this]
      simp only
      rw [← h3]
      cases x <;> cases want <;> rfl
    · have := hs t _ ⟨j, want, hg, h1⟩ h2
      simp only [Slot.ok] at this
      rw [hg]
      simp only [yielded, h1, Option.bind_some]
      rw [Array.getD_eq_getD_getElem?] at this
      cases hq : a.tmps[t]? with
      | none => rfl
      | some y => rw [hq] at this; simp at this; subst this; rfl

def J (F : Frm) (ops : Array Oper) (os : List Oper) (σ σ' : AS) : Prop :=
  ∀ Q rest a w, St F σ a w → (∀ a' w', St F σ' a' w' → wpListIn F.fe 0 F.P ops Q rest a' w') → wpListIn F.fe 0 F.P ops Q (os ++ rest) a w

theorem wpList_taken {F : Frm} {ops : Array Oper} {Q : Exit → Act → World → Prop} {a : Act} {w : World} {rest : List Oper} {o : Oper} {K : Value → World → Prop}
    (hw : Region.wanted o (yielded ops a.tmps) = true) (h : OpWp F.P o a w K) (k : ∀ v w', K v w' → wpListIn F.fe 0 F.P ops Q rest (a.put o.dst v) w') : wpListIn F.fe 0 F.P ops Q (o :: rest) a w := by
  unfold wpListIn; rw [if_pos hw]; exact h.wpIn k
theorem wpList_left {F : Frm} {ops : Array Oper} {Q : Exit → Act → World → Prop} {a : Act} {w : World} {rest : List Oper} {o : Oper}
    (hw : Region.wanted o (yielded ops a.tmps) = false) (k : wpListIn F.fe 0 F.P ops Q rest (a.put o.dst undef) w) : wpListIn F.fe 0 F.P ops Q (o :: rest) a w := by
  unfold wpListIn; rw [if_neg (by rw [hw]; decide)]; exact ⟨fun _ _ => trivial, k⟩

section
variable {F : Frm} {ops : Array Oper} {os : List Oper} {o : Oper} {σ σ' σ'' : AS} {s : Slot} {new : List (Nat × Ent)}

theorem J.nil : J F ops [] σ σ := fun _ _ _ _ h k => k _ _ h

/-- an operation that changes nothing that was there -/
theorem J.cons (g : GK ops σ.g o true) (h : JO F o σ s new) (hf : σ.free new = true) (hd : dstOk o.dst F.N = true) (k : J F ops os (σ.put o.dst s new) σ') : J F ops (o :: os) σ σ' := by
  intro Q rest a w hst hk
  obtain ⟨⟨ρ, hc, hs⟩, hz, hde⟩ := hst
  refine wpList_taken (wanted_of g (fun t x _ hx => hs t _ hx)) (h ρ _ a w (Know.of_st hc hs _)) fun v w' hr => ?_
  exact k Q rest _ _ (St.put hc hs hz hde hf hd hr) hk

/-- an operation behind a guard that is not met -/
theorem Res_top {ρ : Nat → LV} {S : Nat → Prop} {w : World} : Res ρ S w .top [] undef w :=
  ⟨ρ, fun _ _ => rfl, Below.refl _ _, by simp [Slot.ok], ⟨fun _ _ h => by simp [lkE] at h, fun _ _ _ h => by simp [lkE] at h, fun _ _ _ _ _ h => by simp [lkE] at h⟩⟩
theorem J.left (g : GK ops σ.g o false) (hd : dstOk o.dst F.N = true) (k : J F ops os (σ.put o.dst .top []) σ') : J F ops (o :: os) σ σ' := by
  intro Q rest a w hst hk
  obtain ⟨⟨ρ, hc, hs⟩, hz, hde⟩ := hst
  refine wpList_left (wanted_of g (fun t x _ hx => hs t _ hx)) ?_
  exact k Q rest _ _ (St.put hc hs hz hde rfl hd Res_top) hk

/-- an operation that changes what is ours -/
def JM (F : Frm) (o : Oper) (σ σ' : AS) : Prop := ∀ a w, St F σ a w → OpWp F.P o a w fun v w' => St F σ' (a.put o.dst v) w'
theorem J.mut (g : GK ops σ.g o true) (h : JM F o σ σ') (k : J F ops os σ' σ'') : J F ops (o :: os) σ σ'' := by
  intro Q rest a w hst hk
  have hst' := hst
  obtain ⟨⟨ρ, hc, hs⟩, hz, hde⟩ := hst
  refine wpList_taken (wanted_of g (fun t x _ hx => hs t _ hx)) (h a w hst') fun v w' hr => ?_
  exact k Q rest _ _ hr hk
/-- what is known may be told otherwise, or forgotten -/
def Sub (F : Frm) (σ σ' : AS) : Prop := ∀ a w, St F σ a w → St F σ' a w
theorem J.sub (h : Sub F σ σ') (k : J F ops os σ' σ'') : J F ops os σ σ'' := fun Q rest a w hst hk => k Q rest a w (h a w hst) hk
end

/-! ### code -/
def run (Fe : Fence) (P : Program) (Q : Exit → Act → World → Prop) : List Code → Act → World → Prop
  | [], a, w => Q .normal a w
  | c :: cs, a, w => c.wpIn Fe 0 P (Exit.then (run Fe P Q cs) Q) a w
def W (F : Frm) (cs : List Code) (σ : AS) (Q : Exit → Act → World → Prop) : Prop := ∀ a w, St F σ a w → run F.fe F.P Q cs a w

section
variable {F : Frm} {cs : List Code} {σ σ' : AS} {Q : Exit → Act → World → Prop}

theorem W.seq {x y : Code} (h : W F (x :: y :: cs) σ Q) : W F (.seq x y :: cs) σ Q := by
  intro a w hs
  refine wpIn_seq (wpIn_mono (h a w hs) ?_)
  intro e a w hq
  cases e <;> exact hq
theorem W.reg {id : Nat} {ops : List Oper} (h : J F ops.toArray ops σ σ') (k : W F cs σ' Q) : W F (.region id ops.toArray false :: cs) σ Q := by
  intro a w hs
  refine wpIn_region_lit ?_
  have := h (Exit.then (run F.fe F.P Q cs) Q) [] a w hs (fun a' w' h' => wpListIn_nil (k a' w' h'))
  simpa using this
theorem W.cond {c : Tmp} {x y : Code} {b : Bool} (hb : lk σ.g c = some (.v Enc.bool b)) (ht : b = true → W F (x :: cs) σ Q) (hf : b = false → W F (y :: cs) σ Q) : W F (.cond (.tmp c) x y :: cs) σ Q := by
  intro a w hs
  obtain ⟨ρ, hc, hsl⟩ := hs.core
  have := hsl c _ hb
  simp only [Slot.ok] at this
  have hv := val_bool.1 this
  exact wpIn_cond_split (c := .tmp c) (by rw [Act.eval_tmp]; exact hv) (fun h => ht h a w hs) (fun h => hf h a w hs)
theorem W.skip (h : W F cs σ Q) : W F (.skip :: cs) σ Q := fun a w hs => wpIn_skip (h a w hs)
theorem W.sub (h : Sub F σ σ') (k : W F cs σ' Q) : W F cs σ Q := fun a w hs => k a w (h a w hs)
/-- how code is left -/
def XQ (F : Frm) (σ : AS) (Q : Exit → Act → World → Prop) (e : Exit) : Prop := ∀ a w, St F σ a w → Q e a w
theorem W.ret (h : XQ F σ Q .ret) : W F (.ret :: cs) σ Q := fun a w hs => wpIn_ret (h a w hs)
theorem W.exit {id : Nat} (h : XQ F σ Q (.exit id)) : W F (.exit id :: cs) σ Q := fun a w hs => wpIn_exit (h a w hs)
theorem W.nil (h : XQ F σ Q .normal) : W F [] σ Q := h
theorem W.block {id : Nat} {c : Code} (h : W F [c] σ (Exit.inBlock id (Exit.then (run F.fe F.P Q cs) Q))) : W F (.block id c :: cs) σ Q := by
  intro a w hs
  refine wpIn_block (wpIn_mono (h a w hs) ?_)
  intro e a w hq
  cases e <;> exact hq
/-- a block falls through -/
theorem W.fall {id : Nat} (h : W F cs σ Q) : W F [] σ (Exit.inBlock id (Exit.then (run F.fe F.P Q cs) Q)) := fun a w hs => h a w hs
theorem XQ.hit {id : Nat} (h : W F cs σ Q) : XQ F σ (Exit.inBlock id (Exit.then (run F.fe F.P Q cs) Q)) (.exit id) :=
  fun a w hs => by simp only [Exit.inBlock, if_true]; exact h a w hs
theorem XQ.ret {id : Nat} {N : Act → World → Prop} (h : XQ F σ Q .ret) : XQ F σ (Exit.inBlock id (Exit.then N Q)) .ret := h

/-! ### loops -/
end

/-- what a round of a loop comes to -/
inductive Step (α β : Type) where
  | next (x : α)
  | done (b : β)

def loop {α β : Type} (step : α → Option (Step α β)) : Nat → α → Option β
  | 0, _ => none
  | n + 1, x => match step x with
    | none => none
    | some (.next y) => loop step n y
    | some (.done b) => some b

/-- how a round may end: as the model's round does -/
def LQ {α β : Type} (F : Frm) (σs : α → AS) (b : β) (Q : Exit → Act → World → Prop) : Step α β → Exit → Act → World → Prop
  | .next y, .normal, a, w => St F (σs y) a w
  | .next _, _, _, _ => False
  | .done _, .normal, _, _ => False
  | .done b', e, a, w => b' = b → Q e a w

section
variable {F : Frm} {cs : List Code} {σ : AS} {Q : Exit → Act → World → Prop} {α β : Type}
theorem W.loop {c : Code} {σs : α → AS} {step : α → Option (Step α β)} {n : Nat} {x : α} {b : β} (hm : loop step n x = some b) (h0 : Sub F σ (σs x))
    (h : ∀ y r, step y = some r → W F [c] (σs y) (LQ F σs b Q r)) : W F (.loop c :: cs) σ Q := by
  intro a w hs
  have hs := h0 a w hs
  let I : Act → World → Prop := fun a w => ∃ m y, Sw.loop step m y = some b ∧ St F (σs y) a w
  let rel : Act → World → Nat → Prop := fun a w m => ∃ y, Sw.loop step m y = some b ∧ St F (σs y) a w
  have hw : ∀ a w, I a w → ∃ m, rel a w m ∧ ∀ k, rel a w k → m ≤ k := by
    rintro a w ⟨m, y, h1, h2⟩
    have : ∃ m, rel a w m := ⟨m, y, h1, h2⟩
    clear h1 h2
    obtain ⟨m, hm⟩ := this
    induction m using Nat.strongRecOn with
    | _ m ih =>
      by_cases hk : ∃ k, k < m ∧ rel a w k
      · obtain ⟨k, h1, h2⟩ := hk; exact ih k h1 h2
      · exact ⟨m, hm, fun k hr => Nat.le_of_not_lt fun hlt => hk ⟨k, hlt, hr⟩⟩
  classical
  let μ : Act → World → Nat := fun a w => if hI : I a w then Classical.choose (hw a w hI) else 0
  have hμ : ∀ a w (hI : I a w), rel a w (μ a w) ∧ ∀ k, rel a w k → μ a w ≤ k := by
    intro a w hI
    have := Classical.choose_spec (hw a w hI)
    simp only [μ, dif_pos hI]; exact this
  refine wpIn_loop (Q := Exit.then (run F.fe F.P Q cs) Q) I μ ⟨n, x, hm, hs⟩ fun a w hI => ?_
  obtain ⟨⟨y, h1, h2⟩, hmin⟩ := hμ a w hI
  cases hn : μ a w with
  | zero => rw [hn] at h1; simp [Sw.loop] at h1
  | succ m =>
    rw [hn] at h1
    simp only [Sw.loop] at h1
    cases hst : step y with
    | none => rw [hst] at h1; cases h1
    | some r =>
      have := h y r hst a w h2
      refine wpIn_mono this ?_
      intro e a' w' hq
      cases r with
      | next z =>
        rw [hst] at h1
        cases e <;> simp only [LQ, Exit.then, run] at hq ⊢
        have hI' : I a' w' := ⟨m, z, h1, hq⟩
        refine ⟨hI', ?_⟩
        have := (hμ a' w' hI').2 m ⟨z, h1, hq⟩
        omega
      | done b' =>
        rw [hst] at h1
        simp at h1
        cases e <;> simp only [LQ, Exit.then, run] at hq ⊢ <;> exact hq h1
end
end Go.Sw

namespace Go.Sw
open Go Go.RowKit

/-! ### slices, arrays, structs, errors -/
/-- a slice whose cells nobody writes -/
def Enc.sl {α : Type} (e : Enc α) : Enc (List α) where
  n := 1
  agg := false
  ok xs S w cs := ∃ a cap, cs = [.slice a xs.length cap] ∧ (xs.length ≤ cap ∧ xs.length ≤ 140737488355328) ∧ (xs = [] ∨ ∃ b off ds, a = some ⟨b, off, none⟩ ∧ b < w.heap.size ∧ ¬ S b ∧ MemAt w b off ds ∧ e.okL xs S w ds)
  len h := by obtain ⟨a, cap, h, _⟩ := h; rw [h]; rfl
  one _ := rfl
  cell h c hc := by obtain ⟨a, cap, h, _⟩ := h; rw [h] at hc; simp at hc; subst hc; rfl
  mono h k := by
    obtain ⟨a, cap, h, hm, h'⟩ := h
    refine ⟨a, cap, h, hm, ?_⟩
    rcases h' with h' | ⟨b, off, ds, h1, h2, h3, h4, h5⟩
    · exact .inl h'
    · exact .inr ⟨b, off, ds, h1, Nat.lt_of_lt_of_le h2 k.size, (k.keep b h2 h3).2, h4.mono h2 h3 k, Enc.okL_mono h5 k⟩

/-- an array -/
def Enc.arr {α : Type} (m : Nat) (e : Enc α) : Enc (List α) where
  n := m * e.n
  agg := true
  ok xs S w cs := xs.length = m ∧ e.okL xs S w cs
  len h := by rw [Enc.okL_len h.2, h.1]
  one h := by cases h
  cell h := Enc.okL_cell h.2
  mono h k := ⟨h.1, Enc.okL_mono h.2 k⟩

/-- a struct: its first field, and the others -/
def Enc.pr {α β : Type} (a : Enc α) (b : Enc β) : Enc (α × β) where
  n := a.n + b.n
  agg := true
  ok x S w cs := ∃ c d, cs = c ++ d ∧ a.ok x.1 S w c ∧ b.ok x.2 S w d
  len h := by obtain ⟨c, d, h, h1, h2⟩ := h; rw [h, List.length_append, a.len h1, b.len h2]
  one h := by cases h
  cell h y hy := by
    obtain ⟨c, d, h, h1, h2⟩ := h
    rw [h] at hy
    rcases List.mem_append.1 hy with hy | hy
    · exact a.cell h1 y hy
    · exact b.cell h2 y hy
  mono h k := by obtain ⟨c, d, h, h1, h2⟩ := h; exact ⟨c, d, h, a.mono h1 k, b.mono h2 k⟩

/-- a struct of one field -/
def Enc.one1 {α : Type} (a : Enc α) : Enc α where
  n := a.n
  agg := true
  ok := a.ok
  len := a.len
  one h := by cases h
  cell := a.cell
  mono := a.mono

/-- an error: nil, or a number of type T -/
def Enc.err (T : TypeId) : Enc (Option Int) where
  n := 1
  agg := false
  ok x _ _ cs := match x with | none => cs = [.nilIface] | some n => cs = [.iface T (.int .i64 n)] ∧ inK .i64 n
  len {x _ _ _} h := by cases x <;> simp only at h <;> first | (rw [h]; rfl) | (rw [h.1]; rfl)
  one _ := rfl
  cell {x _ _ _} h c hc := by
    cases x <;> simp only at h <;> first | (rw [h] at hc; simp at hc; subst hc; rfl) | (rw [h.1] at hc; simp at hc; subst hc; rfl)
  mono h _ := h

theorem val_sl {α : Type} {e : Enc α} {xs : List α} {S w u} : (Enc.sl e).val xs S w u ↔ ∃ a cap, u = .slice a xs.length cap ∧ (xs.length ≤ cap ∧ xs.length ≤ 140737488355328) ∧ (xs = [] ∨ ∃ b off ds, a = some ⟨b, off, none⟩ ∧ b < w.heap.size ∧ ¬ S b ∧ MemAt w b off ds ∧ e.okL xs S w ds) := by
  constructor
  · rintro ⟨cs, ⟨a, cap, h1, h2⟩, rfl⟩; rw [h1]; exact ⟨a, cap, rfl, h2⟩
  · rintro ⟨a, cap, rfl, h⟩; exact ⟨_, ⟨a, cap, rfl, h⟩, rfl⟩
theorem val_err_none {T : TypeId} {S w u} : (Enc.err T).val none S w u ↔ u = .nilIface := by
  constructor
  · rintro ⟨cs, h, rfl⟩; simp only [Enc.err] at h; rw [h]; rfl
  · rintro rfl; exact ⟨_, rfl, rfl⟩
theorem val_err_some {T : TypeId} {n : Int} {S w u} : (Enc.err T).val (some n) S w u ↔ u = .iface T (.int .i64 n) ∧ inK .i64 n := by
  constructor
  · rintro ⟨cs, h, rfl⟩; simp only [Enc.err] at h; rw [h.1]; exact ⟨rfl, h.2⟩
  · rintro ⟨rfl, h⟩; exact ⟨_, ⟨rfl, h⟩, rfl⟩

/-- what does not hang on memory -/
class FlatE {α : Type} (e : Enc α) : Prop where
  flat : ∀ {x S S' w w' cs}, e.ok x S w cs → e.ok x S' w' cs
instance (k : IntKind) : FlatE (Enc.int k) := ⟨fun h => h⟩
instance : FlatE Enc.bool := ⟨fun h => h⟩
instance : FlatE Enc.str := ⟨fun h => h⟩
instance (T : TypeId) : FlatE (Enc.err T) := ⟨fun h => h⟩
theorem FlatE.okL {α : Type} {e : Enc α} [FlatE e] {S S' w w'} : ∀ {xs : List α} {cs}, e.okL xs S w cs → e.okL xs S' w' cs
  | [], _, h => h
  | _ :: _, _, ⟨c, d, h1, h2, h3⟩ => ⟨c, d, h1, FlatE.flat h2, FlatE.okL h3⟩
instance {α : Type} (m : Nat) (e : Enc α) [FlatE e] : FlatE (Enc.arr m e) := ⟨fun h => ⟨h.1, FlatE.okL h.2⟩⟩
instance {α β : Type} (a : Enc α) (b : Enc β) [FlatE a] [FlatE b] : FlatE (Enc.pr a b) := ⟨fun h => let ⟨c, d, h, h1, h2⟩ := h; ⟨c, d, h, FlatE.flat h1, FlatE.flat h2⟩⟩
instance {α : Type} (a : Enc α) [i : FlatE a] : FlatE (Enc.one1 a) := ⟨fun h => i.flat (e := a) h⟩

/-! ### calls -/
/-- what a function comes to: of such arguments such a result, nothing that was there changed -/
def Con (P : Program) (f : FuncId) (args : List Slot) (res : Slot) (new : List (Nat × Ent)) : Prop :=
  ∀ S w vs ρ, (∀ k, S k → k < w.heap.size) → Slot.okv ρ S w args vs → Calls P f vs.toArray w fun e w' => ∃ v, e = .returned v ∧ Res ρ S w res new v w'

def enum : Nat → List Slot → List (Nat × Slot)
  | _, [] => []
  | i, s :: r => (i, s) :: enum (i + 1) r

theorem okv_enum {ρ S w} : ∀ (l : List Slot) (vs : List Value) (i : Nat), Slot.okv ρ S w l vs → ∀ t s, lk (enum i l) t = some s → i ≤ t ∧ ∃ u, vs[t - i]? = some u ∧ s.ok ρ S w u
  | [], _, _, _, t, s, h => by simp [enum, lk] at h
  | x :: r, vs, i, hv, t, s, h => by
    simp only [Slot.okv] at hv
    obtain ⟨u, vs', rfl, h1, h2⟩ := hv
    simp only [enum, lk] at h
    cases hb : Nat.beq i t with
    | true =>
      rw [hb] at h; simp at h; subst h
      have := Nat.eq_of_beq_eq_true hb; subst this
      exact ⟨Nat.le_refl _, u, by simp, h1⟩
    | false =>
      rw [hb] at h
      obtain ⟨k1, u', k2, k3⟩ := okv_enum r vs' (i + 1) h2 t s h
      refine ⟨by omega, u', ?_, k3⟩
      have : t - i = (t - (i + 1)) + 1 := by omega
      rw [this]; simpa using k2
theorem okv_len {ρ S w} : ∀ {l : List Slot} {vs : List Value}, Slot.okv ρ S w l vs → vs.length = l.length
  | [], vs, h => by simp only [Slot.okv] at h; simp [h]
  | x :: r, vs, h => by simp only [Slot.okv] at h; obtain ⟨u, vs', rfl, _, h2⟩ := h; simp [okv_len h2]

theorem leavesInM_mono {P : Program} {fn : Func} {tmps : Array Value} {R R' : Ending → World → Prop} (hR : ∀ e w, R e w → R' e w) : ∀ {ds : List Deferred} {u : FrameMode} {w : World}, LeavesInM Fence.wide 0 P fn tmps R ds u w → LeavesInM Fence.wide 0 P fn tmps R' ds u w
  | [], .returning, w, h => by obtain ⟨v, h1, h2⟩ := h; exact ⟨v, h1, hR _ _ h2⟩
  | [], .panicking chain, w, h => hR _ _ h
  | [], .run, w, h => h
  | d :: ds, u, w, h => by
    obtain ⟨h0, h⟩ := h
    refine ⟨h0, ?_⟩
    rcases h with ⟨r, w', h1, h2, h3⟩ | ⟨h1, fv, cap, f, args, h2, h3, h4, h5⟩
    · exact .inl ⟨r, w', h1, h2, leavesInM_mono hR h3⟩
    · refine .inr ⟨h1, fv, cap, f, args, h2, h3, h4, ?_⟩
      refine CallsDIn.mono h5 ?_
      intro e u' w' hh
      cases e
      · exact leavesInM_mono hR hh
      · exact leavesInM_mono hR hh
      · exact hR _ _ hh
theorem bodyPostM_mono {P : Program} {fn : Func} {R R' : Ending → World → Prop} (hR : ∀ e w, R e w → R' e w) {e : Exit} {a : Act} {w : World} (h : bodyPostM Fence.wide 0 P fn R e a w) : bodyPostM Fence.wide 0 P fn R' e a w := by
  cases e
  case goto | exit => exact h.elim
  case normal | ret => exact leavesInM_mono hR h
  case panic => exact leavesInM_mono hR h
  case outgrown => exact hR _ _ h
/-- the end of a function that changes nothing that was there -/
def RetQ (F : Frm) (fn : Func) (res : Slot) (new : List (Nat × Ent)) : Exit → Act → World → Prop :=
  bodyPostM Fence.wide 0 F.P fn fun e w' => ∃ v, e = .returned v ∧ ∀ ρ, Res ρ F.S0 F.w0 res new v w'
/-- how a function is left: the marks of its ranges over functions are taken up -/
def Leav (P : Program) (fn : Func) (tmps : Array Value) (R : Value → World → Prop) : List Deferred → World → Prop
  | [], w => ∃ v, (results fn tmps).run P w = .ok v w ∧ R v w
  | d :: ds, w => ∃ r w', d.target = .collected r ∧ (Instr.takeDeferred r).run P w = .ok [] w' ∧ Leav P fn tmps R ds w'
theorem Leav.leaves {P : Program} {fn : Func} {tmps : Array Value} {R : Value → World → Prop} {R' : Ending → World → Prop} (hR : ∀ v w, R v w → R' (.returned v) w) : ∀ {ds : List Deferred} {w : World}, Leav P fn tmps R ds w → LeavesInM Fence.wide 0 P fn tmps R' ds .returning w
  | [], w, h => by obtain ⟨v, h1, h2⟩ := h; exact ⟨v, h1, hR _ _ h2⟩
  | d :: ds, w, h => by
    obtain ⟨r, w', h1, h2, h3⟩ := h
    exact ⟨by simp, .inl ⟨r, w', h1, h2, h3.leaves hR⟩⟩
/-- a walk that goes on behind a range over a function, in a frame of its own -/
structure Fol (F F' : Frm) : Prop where
  P : F'.P = F.P
  S : ∀ k, F.S0 k → F'.S0 k
  size : F.w0.heap.size ≤ F'.w0.heap.size
  low : ∀ k, F.S0 k → k < F.w0.heap.size
  frame : ∀ k, k < F.w0.heap.size → ¬ F.R k → F'.w0.heap[k]? = F.w0.heap[k]? ∧ ¬ F'.R k
  os : F'.w0.os = F.w0.os
  tape : F'.w0.tape = F.w0.tape
  output : F'.w0.output = F.w0.output
  fresh : ∀ k, F'.R k → F.w0.heap.size ≤ k ∨ F.R k
  df : ∀ d ∈ F'.df, ∃ r, d.target = .collected r ∧ F'.S0 r ∧ ¬ F'.R r ∧ F.w0.heap.size ≤ r ∧ F'.w0.heap[r]? = some (.deferred (some []))
  nd : F'.df.Pairwise fun d d' => d.target ≠ d'.target

theorem Fol.refl {F : Frm} (hl : ∀ k, F.S0 k → k < F.w0.heap.size) (hd : F.df = []) : Fol F F :=
  ⟨rfl, fun _ h => h, Nat.le_refl _, hl, fun _ _ h => ⟨rfl, h⟩, rfl, rfl, rfl, fun _ h => .inr h, by rw [hd]; simp, by rw [hd]; exact .nil⟩

theorem Con.of {P : Program} {f : FuncId} {fn : Func} {c : Code} {N : Nat} {args : List Slot} {res : Slot} {new : List (Nat × Ent)}
    (hf : P.funcs[f]? = some fn) (hb : fn.body = some c) (hN : fn.ntmps = N) (hle : Nat.ble args.length N = true)
    (h : ∀ S w, Fol ⟨P, N, S, w, fun _ => False, none, []⟩ ⟨P, N, S, w, fun _ => False, none, []⟩ → W ⟨P, N, S, w, fun _ => False, none, []⟩ [c] ⟨enum 0 args, []⟩ (RetQ ⟨P, N, S, w, fun _ => False, none, []⟩ fn res new)) : Con P f args res new := by
  intro S w vs ρ hlow hv
  refine (callsIn_wide (n := 0)).1 (callsIn_of_wp_marks hf hb trivial ?_)
  have hl := okv_len hv
  have hle := Nat.le_of_ble_eq_true hle
  have hst : St ⟨P, N, S, w, fun _ => False, none, []⟩ ⟨enum 0 args, []⟩ { tmps := vs.toArray ++ Array.replicate (fn.ntmps - vs.toArray.size) undef, defers := [] } w := ?_
  · have h1 : c.wpIn Fence.wide 0 P (Exit.then (run Fence.wide P (RetQ ⟨P, N, S, w, fun _ => False, none, []⟩ fn res new) []) (RetQ ⟨P, N, S, w, fun _ => False, none, []⟩ fn res new)) { tmps := vs.toArray ++ Array.replicate (fn.ntmps - vs.toArray.size) undef, defers := [] } w := h S w (.refl hlow rfl) _ w hst
    refine wpIn_mono h1 ?_
    have hm : ∀ e a w', RetQ ⟨P, N, S, w, fun _ => False, none, []⟩ fn res new e a w' → bodyPostM Fence.wide 0 P fn (fun e w' => ∃ v, e = .returned v ∧ Res ρ S w res new v w') e a w' := fun e a w' hq => bodyPostM_mono (fun e w ⟨v, h1, h2⟩ => ⟨v, h1, h2 ρ⟩) hq
    intro e a w' hq
    cases e <;> exact hm _ _ _ hq
  · refine ⟨⟨ρ, ⟨hlow, Nat.le_refl _, fun _ _ _ => rfl, rfl, rfl, rfl, fun i en h => by simp [lkE] at h, fun i en b h => by simp [lkE] at h, fun i j en en' b h => by simp [lkE] at h, fun i en b h => by simp [lkE] at h⟩, fun t s ht => ?_⟩, ?_, rfl⟩
    · obtain ⟨_, u, h1, h2⟩ := okv_enum args vs 0 hv t s ht
      have hlt : t < vs.length := by
        rcases Nat.lt_or_ge t vs.length with h | h
        · exact h
        · simp [List.getElem?_eq_none h] at h1
      have : (vs.toArray ++ Array.replicate (fn.ntmps - vs.toArray.size) undef).getD t undef = u := by
        rw [Array.getD_eq_getD_getElem?, Array.getElem?_append_left (by simpa using hlt)]
        simp at h1 ⊢; rw [h1]; rfl
      rw [this]
      exact Slot.ok_mono s u h2 ⟨Nat.le_refl _, fun k _ hk => ⟨rfl, fun hc => hk (by rcases hc with hc | ⟨i, en, hc, _⟩; exact hc; simp [lkE] at hc)⟩⟩ (fun _ _ => rfl)
    · simp only [Array.size_append, Array.size_replicate, List.size_toArray]; omega
/-- a result variable -/
def rvSem (a : Act) : ResultVar → Sem Value
  | .tmp t => pure (a.tmps.getD t undef)
  | .cell c t => do loadVar t (← asAddr (a.tmps.getD c undef))
def RV (F : Frm) (σ : AS) (rv : ResultVar) (s : Slot) : Prop :=
  ∀ (ρ : Nat → LV) (a : Act) (w : World), Core F σ.d ρ w → (∀ t s, lk σ.g t = some s → s.ok ρ (Un F.S0 ρ σ.d) w (a.tmps.getD t undef)) →
    ∃ v, (rvSem a rv).run F.P w = .ok v w ∧ s.ok ρ (Un F.S0 ρ σ.d) w v
theorem RV.tmp {F : Frm} {σ : AS} {t : Tmp} {s : Slot} (h : lk σ.g t = some s) : RV F σ (.tmp t) s := fun _ a _ _ hs => ⟨a.tmps.getD t undef, rfl, hs t s h⟩

inductive SubE : List (Nat × Ent) → List (Nat × Ent) → Prop
  | nil {d} : SubE [] d
  | cons {d i en r} : lkE d i = some en → SubE r d → SubE ((i, en) :: r) d
theorem SubE.spec {n d : List (Nat × Ent)} (h : SubE n d) : ∀ i en, lkE n i = some en → lkE d i = some en := by
  induction h with
  | nil => intro i en h; simp [lkE] at h
  | cons h1 _ ih =>
    rename_i j en' r _
    intro i en h
    simp only [lkE] at h
    cases hb : Nat.beq j i with
    | true => have := Nat.eq_of_beq_eq_true hb; subst this; rw [hb] at h; simp at h; subst h; exact h1
    | false => rw [hb] at h; exact ih i en h

def closed (res : Slot) (new : List (Nat × Ent)) : Bool := res.lab.all (fun i => (lkE new i).isSome) && new.all fun x => x.2.lab.all fun i => (lkE new i).isSome

theorem Res.of_core {F : Frm} {σ : AS} {ρ : Nat → LV} {w : World} {v : Value} {res : Slot} {new : List (Nat × Ent)} (hR : ∀ k, ¬ F.R k) (hc : Core F σ.d ρ w) (hr : res.ok ρ (Un F.S0 ρ σ.d) w v)
    (hn : SubE new σ.d) (hcl : closed res new = true) (ρ0 : Nat → LV) : Res ρ0 F.S0 F.w0 res new v w := by
  have hsub := hn.spec
  simp only [closed, Bool.and_eq_true, List.all_eq_true] at hcl
  let ρ' : Nat → LV := fun i => if (lkE new i).isSome then ρ i else ρ0 i
  have hρ : ∀ i, (lkE new i).isSome = true → ρ' i = ρ i := fun i h => if_pos h
  have hE : Ext (Un F.S0 ρ σ.d) (Un F.S0 ρ' new) w w := ⟨Nat.le_refl _, fun k _ hk => ⟨rfl, fun h => hk (by
    rcases h with h | ⟨i, en, h1, h2⟩
    · exact .inl h
    · exact .inr ⟨i, en, hsub i en h1, by rw [← hρ i (by rw [h1]; rfl)]; exact h2⟩)⟩⟩
  refine ⟨ρ', fun i h => by simp [ρ', h], ⟨hc.os, hc.tape, hc.output, hc.size, fun k hk => hc.frame k hk (hR k)⟩, Slot.ok_mono res v hr hE (fun i hi => congrArg LV.v (hρ i (hcl.1 i hi))), ⟨fun i en h => ?_, fun i en b h hb => ?_, fun i j en en' b hi hj bi bj => ?_⟩⟩
  · rw [hρ i (by rw [h]; rfl)]
    exact Ent.ok_mono (hc.own i en (hsub i en h)) hE (fun j hj => congrArg LV.v (hρ j (hcl.2 _ (lkE_mem h) j hj))) (fun _ _ => rfl)
  · rw [hρ i (by rw [h]; rfl)] at hb
    obtain ⟨h1, h2⟩ := hc.fresh i en b (hsub i en h) hb
    exact ⟨h1.resolve_right (hR b), h2⟩
  · rw [hρ i (by rw [hi]; rfl)] at bi
    rw [hρ j (by rw [hj]; rfl)] at bj
    exact hc.inj i j en en' b (hsub i en hi) (hsub j en' hj) bi bj

theorem results_eq (fn : Func) (a : Act) : results fn a.tmps = (do
    let vs ← fn.results.mapM (rvSem a)
    pure (if h : vs.size = 1 then vs[0] else .tuple vs)) := rfl
theorem takeAll {P : Program} {S0 : Nat → Prop} {B : Nat} : ∀ (ds : List Deferred) (w : World), (∀ d ∈ ds, ∃ r, d.target = .collected r ∧ S0 r ∧ B ≤ r ∧ w.heap[r]? = some (.deferred (some []))) → ds.Pairwise (fun d d' => d.target ≠ d'.target) →
    ∃ w', w'.heap.size = w.heap.size ∧ (∀ k, ¬ (S0 k ∧ B ≤ k) → w'.heap[k]? = w.heap[k]?) ∧ w'.os = w.os ∧ w'.tape = w.tape ∧ w'.output = w.output ∧
      ∀ fn tmps R, (∃ v, (results fn tmps).run P w' = .ok v w' ∧ R v w') → Leav P fn tmps R ds w
  | [], w, _, _ => ⟨w, rfl, fun _ _ => rfl, rfl, rfl, rfl, fun _ _ _ h => h⟩
  | d :: ds, w, h, hp => by
    obtain ⟨r, h1, h2, h3, h4⟩ := h d List.mem_cons_self
    rw [List.pairwise_cons] at hp
    have hw : ∀ e ∈ ds, ∃ r', e.target = .collected r' ∧ S0 r' ∧ B ≤ r' ∧ (w.putObj r (.deferred none)).heap[r']? = some (.deferred (some [])) := by
      intro e he
      obtain ⟨r', k1, k2, k3, k4⟩ := h e (List.mem_cons_of_mem _ he)
      refine ⟨r', k1, k2, k3, ?_⟩
      rw [World.putObj_heap_other]; exact k4
      rintro rfl
      exact hp.1 e he (h1.trans k1.symm)
    obtain ⟨w', a1, a2, a3, a4, a5, a6⟩ := takeAll ds (w.putObj r (.deferred none)) hw hp.2
    refine ⟨w', by rw [a1, World.putObj_size], fun k hk => ?_, a3, a4, a5, fun fn tmps R hh => ⟨r, _, h1, run_takeDeferred h4, a6 fn tmps R hh⟩⟩
    rw [a2 k hk, World.putObj_heap_other]
    rintro rfl; exact hk ⟨h2, h3⟩

theorem Core.leave {F F' : Frm} {d : List (Nat × Ent)} {ρ : Nat → LV} {w : World} (hF : Fol F F') (hc : Core F' d ρ w) : ∃ w', Core F d ρ w' ∧ Ext (Un F'.S0 ρ d) (Un F.S0 ρ d) w w' ∧
    ∀ fn tmps R, (∃ v, (results fn tmps).run F.P w' = .ok v w' ∧ R v w') → Leav F.P fn tmps R F'.df w := by
  have hds : ∀ x ∈ F'.df, ∃ r, x.target = .collected r ∧ F'.S0 r ∧ F.w0.heap.size ≤ r ∧ w.heap[r]? = some (.deferred (some [])) := by
    intro x hx
    obtain ⟨r, h1, h2, h3, h4, h5⟩ := hF.df x hx
    exact ⟨r, h1, h2, h4, by rw [hc.frame r (Array.getElem?_eq_some_iff.1 h5).1 h3]; exact h5⟩
  obtain ⟨w', a1, a2, a3, a4, a5, a6⟩ := takeAll (P := F.P) F'.df w hds hF.nd
  have hS : ∀ k, Un F.S0 ρ d k → Un F'.S0 ρ d k := fun k h => h.imp (hF.S k) (fun h => h)
  have hE : Ext (Un F'.S0 ρ d) (Un F.S0 ρ d) w w' := ⟨by rw [a1]; exact Nat.le_refl _, fun k _ hk => ⟨a2 k fun h => hk (.inl h.1), fun h => hk (hS k h)⟩⟩
  have hown : ∀ i en b, lkE d i = some en → Has (ρ i) b → w'.heap[b]? = w.heap[b]? := fun i en b h hb => a2 b fun hx => hc.apart i en b h hb hx.1
  refine ⟨w', ⟨hF.low, by rw [a1]; exact Nat.le_trans hF.size hc.size, fun k hk hr => ?_, a3.trans (hc.os.trans hF.os), a4.trans (hc.tape.trans hF.tape), a5.trans (hc.output.trans hF.output), fun i en h => Ent.ok_mono (hc.own i en h) hE (fun _ _ => rfl) (fun b hb => hown i en b h hb),
    fun i en b h hb => ?_, hc.inj, fun i en b h hb hs => hc.apart i en b h hb (hF.S b hs)⟩, hE, a6⟩
  · obtain ⟨h1, h2⟩ := hF.frame k hk hr
    rw [a2 k (fun h => by omega), hc.frame k (Nat.lt_of_lt_of_le hk hF.size) h2, h1]
  · obtain ⟨h1, h2⟩ := hc.fresh i en b h hb
    refine ⟨?_, by rw [a1]; exact h2⟩
    rcases h1 with h1 | h1
    · exact .inl (Nat.le_trans hF.size h1)
    · exact hF.fresh b h1
theorem XQ.retK {F F' : Frm} {σ : AS} {fn : Func} {R : Ending → World → Prop} (hF : Fol F F')
    (h : ∀ (ρ : Nat → LV) (a : Act) (w : World), Core F σ.d ρ w → (∀ t s, lk σ.g t = some s → s.ok ρ (Un F.S0 ρ σ.d) w (a.tmps.getD t undef)) → ∃ v, (results fn a.tmps).run F.P w = .ok v w ∧ R (.returned v) w) :
    XQ F' σ (bodyPostM Fence.wide 0 F.P fn R) .ret := by
  intro a w hs
  obtain ⟨⟨ρ, hc, hsl⟩, hz, hd⟩ := hs
  obtain ⟨w', hc', hE, hL⟩ := hc.leave hF
  have hv := h ρ a w' hc' fun t s hts => Slot.ok_mono s _ (hsl t s hts) hE (fun _ _ => rfl)
  show LeavesInM Fence.wide 0 F.P fn a.tmps R a.defers .returning w
  rw [hd]
  exact (hL fn a.tmps (fun v w => R (.returned v) w) hv).leaves fun _ _ h => h
theorem results1 {P : Program} {fn : Func} {a : Act} {w : World} {rv : ResultVar} {v : Value} (hrs : fn.results = #[rv]) (h1 : (rvSem a rv).run P w = .ok v w) : (results fn a.tmps).run P w = .ok v w := by
  rw [results_eq, hrs]
  simp only [List.mapM_toArray, List.mapM_cons, List.mapM_nil, Sem.run_bind, Sem.run_map, h1, Result.andThen_ok, Sem.run_pure]
  simp
theorem results2 {P : Program} {fn : Func} {a : Act} {w : World} {rv rv' : ResultVar} {v v' : Value} (hrs : fn.results = #[rv, rv']) (h1 : (rvSem a rv).run P w = .ok v w) (h1' : (rvSem a rv').run P w = .ok v' w) : (results fn a.tmps).run P w = .ok (.tuple #[v, v']) w := by
  rw [results_eq, hrs]
  simp only [List.mapM_toArray, List.mapM_cons, List.mapM_nil, Sem.run_bind, Sem.run_map, h1, h1', Result.andThen_ok, Sem.run_pure]
  simp
theorem tup2 {ρ : Nat → LV} {S : Nat → Prop} {w : World} {s s' : Slot} {v v' : Value} (h2 : s.ok ρ S w v) (h2' : s'.ok ρ S w v') : (Slot.tup [s, s']).ok ρ S w (.tuple #[v, v']) := by
  simp only [Slot.ok]
  exact ⟨[v, v'], rfl, by simp only [Slot.okv]; exact ⟨v, _, rfl, h2, v', _, rfl, h2', rfl⟩⟩
section
variable {F F' : Frm} {σ : AS} {fn : Func} {rv rv' rv2 : ResultVar} {res s s' s2 : Slot} {new : List (Nat × Ent)}
theorem XQ.ret1 (hF : Fol F F') (hR : ∀ k, ¬ F.R k) (hrs : fn.results = #[rv]) (h : RV F σ rv res) (hn : SubE new σ.d) (hcl : closed res new = true) : XQ F' σ (RetQ F fn res new) .ret :=
  XQ.retK hF fun ρ a w hc hsl => by
    obtain ⟨v, h1, h2⟩ := h ρ a w hc hsl
    exact ⟨v, results1 hrs h1, v, rfl, Res.of_core hR hc h2 hn hcl⟩
theorem XQ.ret2 (hF : Fol F F') (hR : ∀ k, ¬ F.R k) (hrs : fn.results = #[rv, rv']) (h : RV F σ rv s) (h' : RV F σ rv' s') (hn : SubE new σ.d) (hcl : closed (.tup [s, s']) new = true) : XQ F' σ (RetQ F fn (.tup [s, s']) new) .ret :=
  XQ.retK hF fun ρ a w hc hsl => by
    obtain ⟨v, h1, h2⟩ := h ρ a w hc hsl
    obtain ⟨v', h1', h2'⟩ := h' ρ a w hc hsl
    exact ⟨_, results2 hrs h1 h1', _, rfl, Res.of_core hR hc (tup2 h2 h2') hn hcl⟩
end
end Go.Sw

namespace Go.Sw
open Go Go.RowKit

theorem Res.same {ρ : Nat → LV} {S : Nat → Prop} {w : World} {s : Slot} {v : Value} (h : s.ok ρ S w v) : Res ρ S w s [] v w :=
  ⟨ρ, fun _ _ => rfl, Below.refl _ _, Slot.ok_mono s v h ⟨Nat.le_refl _, fun k _ hk => ⟨rfl, fun h => hk (by
    rcases h with h | ⟨i, en, h1, _⟩
    · exact h
    · simp [lkE] at h1)⟩⟩ (fun _ _ => rfl), ⟨fun _ _ h => by simp [lkE] at h, fun _ _ _ h => by simp [lkE] at h, fun _ _ _ _ _ h => by simp [lkE] at h⟩⟩

theorem wrap_in (k : IntKind) (n : Int) : inK k (k.wrap n) := by
  unfold inK
  cases k <;> simp only [IntKind.min, IntKind.max, IntKind.wrap, IntKind.signed, IntKind.bits] <;> simp <;> (try split) <;> omega

section
variable {F : Frm} {σ : AS} {s : Slot} {d : Option Tmp} {ty : TypeId} {p : String} {af : Array Edge} {gd : Option (Nat × Bool)} {x y c : Operand}

theorem JO.move (hx : evS σ.g x = some s) : JO F ⟨d, .move x, ty, p, af, gd⟩ σ s [] :=
  fun _ _ _ w K => OpWp.value (w' := w) (by simp [execOp]) (Res.same (K.slot x (by simp [Op.operands]) s hx))
theorem JO.assign (hx : evS σ.g x = some s) : JO F ⟨d, .assign x, ty, p, af, gd⟩ σ s [] :=
  fun _ _ _ w K => OpWp.value (w' := w) (by simp [execOp]) (Res.same (K.slot x (by simp [Op.operands]) s hx))
/-- a nil slice, shared -/
theorem nilsl_ok {α : Type} (e : Enc α) (ρ : Nat → LV) (S : Nat → Prop) (w : World) : (Slot.v (Enc.sl e) []).ok ρ S w (.slice none 0 0) := by
  simp only [Slot.ok]; exact val_sl.2 ⟨none, 0, rfl, by simp, .inl rfl⟩
theorem JO.assignNil {α : Type} (e : Enc α) : JO F ⟨d, .assign (.const (.slice none 0 0)), ty, p, af, gd⟩ σ (.v (Enc.sl e) []) [] :=
  fun ρ S _ w _ => OpWp.value (w' := w) (by simp [execOp, Act.eval]) (Res.same (nilsl_ok e ρ S w))
theorem nilerr_ok (T : TypeId) (ρ : Nat → LV) (S : Nat → Prop) (w : World) : (Slot.v (Enc.err T) none).ok ρ S w .nilIface := by
  simp only [Slot.ok]; exact val_err_none.2 rfl
theorem JO.assignNilE (T : TypeId) : JO F ⟨d, .assign (.const .nilIface), ty, p, af, gd⟩ σ (.v (Enc.err T) none) [] :=
  fun ρ S _ w _ => OpWp.value (w' := w) (by simp [execOp, Act.eval]) (Res.same (nilerr_ok T ρ S w))
/-- a nil slice that is ours: what is appended to it is ours -/
theorem nilarr_res {α : Type} {w : World} {S : Nat → Prop} (T : TypeId) (e : Enc α) (i : Nat) (ρ : Nat → LV) : Res ρ S w (.ref i) [(i, .arr T e [])] (.slice none 0 0) w := by
  refine ⟨fun j => if j = i then .of (.slice none 0 0) else ρ j, fun j hj => ?_, Below.refl _ _, by simp only [Slot.ok, if_true]; exact ⟨.inl ⟨_, _, _, rfl⟩, rfl⟩, ⟨fun j en h => ?_, fun j en b h hb => ?_, fun j k en en' b h h' hb _ => ?_⟩⟩
  · have : j ≠ i := fun e => by subst e; simp [lkE] at hj
    simp [this]
  · simp only [lkE] at h
    cases hb : Nat.beq i j with
    | true => have := Nat.eq_of_beq_eq_true hb; subst this; rw [hb] at h; simp at h; subst h; exact .inl ⟨rfl, by simp [LV.of]⟩
    | false => rw [hb] at h; simp at h
  · simp only [lkE] at h
    cases hc : Nat.beq i j with
    | true => have := Nat.eq_of_beq_eq_true hc; subst this; simp [Has_of, blk] at hb
    | false => rw [hc] at h; simp at h
  · simp only [lkE] at h
    cases hc : Nat.beq i j with
    | true => have := Nat.eq_of_beq_eq_true hc; subst this; simp [Has_of, blk] at hb
    | false => rw [hc] at h; simp at h
theorem JO.assignNilR {α : Type} (i : Nat) (T : TypeId) (e : Enc α) : JO F ⟨d, .assign (.const (.slice none 0 0)), ty, p, af, gd⟩ σ (.ref i) [(i, .arr T e [])] :=
  fun ρ _ _ w _ => OpWp.value (w' := w) (by simp [execOp, Act.eval]) (nilarr_res T e i ρ)

theorem K_bool {σ : AS} {xs : Array Operand} {ρ S a w} (K : Know σ xs ρ S a w) {x : Operand} (hm : x ∈ xs) {b : Bool} (hx : evS σ.g x = some (.v Enc.bool b)) : a.eval x = .bool b := by
  have := K.slot x hm _ hx; simp only [Slot.ok] at this; exact val_bool.1 this
theorem K_int {σ : AS} {xs : Array Operand} {ρ S a w} (K : Know σ xs ρ S a w) {x : Operand} (hm : x ∈ xs) {k : IntKind} {n : Int} (hx : evS σ.g x = some (.v (Enc.int k) n)) : a.eval x = .int k n ∧ inK k n := by
  have := K.slot x hm _ hx; simp only [Slot.ok] at this; exact val_int.1 this
theorem bool_ok (b : Bool) (ρ : Nat → LV) (S : Nat → Prop) (w : World) : (Slot.v Enc.bool b).ok ρ S w (.bool b) := by simp only [Slot.ok]; exact val_bool.2 rfl
theorem int_ok {k : IntKind} {n : Int} (h : inK k n) (ρ : Nat → LV) (S : Nat → Prop) (w : World) : (Slot.v (Enc.int k) n).ok ρ S w (.int k n) := by simp only [Slot.ok]; exact val_int.2 ⟨rfl, h⟩

theorem JO.pickT (hc : evS σ.g c = some (.v Enc.bool true)) (hx : evS σ.g x = some s) : JO F ⟨d, .pick c x y, ty, p, af, gd⟩ σ s [] :=
  fun _ _ _ w K => OpWp.value (w' := w) (by simp [execOp, K_bool K (x := c) (by simp [Op.operands]) hc, asBool]) (Res.same (K.slot x (by simp [Op.operands]) s hx))
theorem JO.pickF (hc : evS σ.g c = some (.v Enc.bool false)) (hy : evS σ.g y = some s) : JO F ⟨d, .pick c x y, ty, p, af, gd⟩ σ s [] :=
  fun _ _ _ w K => OpWp.value (w' := w) (by simp [execOp, K_bool K (x := c) (by simp [Op.operands]) hc, asBool]) (Res.same (K.slot y (by simp [Op.operands]) s hy))

/-! ### numbers -/
theorem binop_pure {o : BinOp} {T T' : TypeId} {v : Value} {k k' : IntKind} {m n : Int} {ρ : Nat → LV} {S : Nat → Prop}
    {a : Act} {w : World} {s : Slot} (h1 : a.eval x = .int k m) (h2 : a.eval y = .int k' n) (h : (Go.binOp o T (.int k m) (.int k' n)).run F.P w = .ok v w) (hs : s.ok ρ S w v) :
    OpWp F.P ⟨d, .binOp o T x y T', ty, p, af, gd⟩ a w (Res ρ S w s []) := by
  refine OpWp.value (w' := w) (v := v) ?_ (Res.same hs)
  simp only [execOp, h1, h2]
  have : (eqGuard o T x y (.int k m) (.int k' n)).run F.P w = .ok () w := by
    unfold eqGuard
    by_cases hq : (!(match o with | .eql | .neq => true | _ => false)) = true
    · cases o <;> simp at hq <;> simp
    · cases o <;> simp at hq <;> simp
  simp [this, h]

/-- the value of an arithmetic operation -/
def ar (o : BinOp) (k : IntKind) (m n : Int) : Int :=
  match o with
  | .add => k.wrap (m + n)
  | .sub => k.wrap (m - n)
  | .mul => k.wrap (m * n)
  | .quo => k.wrap (m.tdiv n)
  | .rem => m.tmod n
  | .and => k.wrap (BitVec.ofInt k.bits m &&& BitVec.ofInt k.bits n).toNat
  | .or => k.wrap (BitVec.ofInt k.bits m ||| BitVec.ofInt k.bits n).toNat
  | .xor => k.wrap (BitVec.ofInt k.bits m ^^^ BitVec.ofInt k.bits n).toNat
  | .andNot => k.wrap (BitVec.ofInt k.bits m &&& ~~~ BitVec.ofInt k.bits n).toNat
  | _ => 0
def cm (o : BinOp) (m n : Int) : Bool :=
  match o with
  | .eql => m == n
  | .neq => m != n
  | .lss => decide (m < n)
  | .leq => decide (m ≤ n)
  | .gtr => decide (m > n)
  | .geq => decide (m ≥ n)
  | _ => false
def isAr : BinOp → Bool
  | .add | .sub | .mul | .and | .or | .xor | .andNot => true
  | _ => false
def isCm : BinOp → Bool
  | .eql | .neq | .lss | .leq | .gtr | .geq => true
  | _ => false

theorem JO.arith {o : BinOp} {T T' : TypeId} {k : IntKind} {m n : Int} (ho : isAr o = true) (hx : evS σ.g x = some (.v (Enc.int k) m)) (hy : evS σ.g y = some (.v (Enc.int k) n)) :
    JO F ⟨d, .binOp o T x y T', ty, p, af, gd⟩ σ (.v (Enc.int k) (ar o k m n)) [] := by
  intro ρ S a w K
  refine binop_pure (K_int K (by simp [Op.operands]) hx).1 (K_int K (by simp [Op.operands]) hy).1 (v := .int k (ar o k m n)) ?_ (int_ok ?_ ρ S w)
  · cases o <;> simp [isAr] at ho <;> simp [binOp, Op.intArith, Op.intBits, ar]
  · cases o <;> simp [isAr] at ho <;> exact wrap_in _ _
theorem tmod_in {k : IntKind} {m n : Int} (h : inK k m) : inK k (m.tmod n) := by
  unfold inK at *
  have h1 : (m.tmod n).natAbs ≤ m.natAbs := by rw [Int.natAbs_tmod]; exact Nat.mod_le _ _
  have h2 : 0 ≤ m → 0 ≤ m.tmod n := fun h => Int.tmod_nonneg _ h
  have h3 : m ≤ 0 → m.tmod n ≤ 0 := fun h => by
    have := Int.tmod_nonneg n (a := -m) (by omega)
    rw [Int.neg_tmod] at this; omega
  have h4 : k.min ≤ 0 := by cases k <;> decide
  have h5 : 0 ≤ k.max := by cases k <;> decide
  omega
theorem JO.div {o : BinOp} {T T' : TypeId} {k : IntKind} {m n : Int} (ho : o = .quo ∨ o = .rem) (hn : n ≠ 0) (hx : evS σ.g x = some (.v (Enc.int k) m)) (hy : evS σ.g y = some (.v (Enc.int k) n)) :
    JO F ⟨d, .binOp o T x y T', ty, p, af, gd⟩ σ (.v (Enc.int k) (ar o k m n)) [] := by
  intro ρ S a w K
  refine binop_pure (K_int K (by simp [Op.operands]) hx).1 (K_int K (by simp [Op.operands]) hy).1 (v := .int k (ar o k m n)) ?_ (int_ok ?_ ρ S w)
  · rcases ho with rfl | rfl <;> simp [binOp, Op.intDiv, hn, ar]
  · rcases ho with rfl | rfl
    · exact wrap_in _ _
    · exact tmod_in (K_int K (by simp [Op.operands]) hx).2
theorem JO.cmp {o : BinOp} {T T' : TypeId} {k : IntKind} {m n : Int} (ho : isCm o = true) (hx : evS σ.g x = some (.v (Enc.int k) m)) (hy : evS σ.g y = some (.v (Enc.int k) n)) :
    JO F ⟨d, .binOp o T x y T', ty, p, af, gd⟩ σ (.v Enc.bool (cm o m n)) [] := by
  intro ρ S a w K
  refine binop_pure (K_int K (by simp [Op.operands]) hx).1 (K_int K (by simp [Op.operands]) hy).1 (v := .bool (cm o m n)) ?_ (bool_ok _ ρ S w)
  cases o <;> simp [isCm] at ho <;> simp [binOp, Op.intCmp, cm]
/-- shifts -/
def sh (o : BinOp) (k : IntKind) (m n : Int) : Int :=
  match o with
  | .shl => k.wrap (m * 2 ^ min n.toNat k.bits)
  | .shr => m.fdiv (2 ^ min n.toNat k.bits)
  | _ => 0
theorem shr_in {k : IntKind} {m : Int} (h : inK k m) (j : Nat) : inK k (m.fdiv (2 ^ j)) := by
  unfold inK at *
  have hp : (0 : Int) < 2 ^ j := Int.pow_pos (by decide)
  have h4 : k.min ≤ 0 := by cases k <;> decide
  have h5 : 0 ≤ k.max := by cases k <;> decide
  rw [Int.fdiv_eq_ediv_of_nonneg _ (Int.le_of_lt hp)]
  constructor
  · refine (Int.le_ediv_iff_mul_le hp).2 ?_
    have : k.min * 2 ^ j ≤ k.min * 1 := Int.mul_le_mul_of_nonpos_left h4 (by omega)
    omega
  · refine Int.le_trans (Int.ediv_le_ediv hp h.2) ?_
    exact Int.ediv_le_self _ h5
theorem JO.shift {o : BinOp} {T T' : TypeId} {k k' : IntKind} {m n : Int} (ho : o = .shl ∨ o = .shr) (hn : 0 ≤ n) (hx : evS σ.g x = some (.v (Enc.int k) m)) (hy : evS σ.g y = some (.v (Enc.int k') n)) :
    JO F ⟨d, .binOp o T x y T', ty, p, af, gd⟩ σ (.v (Enc.int k) (sh o k m n)) [] := by
  intro ρ S a w K
  refine binop_pure (K_int K (by simp [Op.operands]) hx).1 (K_int K (by simp [Op.operands]) hy).1 (v := .int k (sh o k m n)) ?_ (int_ok ?_ ρ S w)
  · have : ¬ n < 0 := by omega
    rcases ho with rfl | rfl <;> simp [binOp, Op.shift, this, sh]
  · rcases ho with rfl | rfl
    · exact wrap_in _ _
    · exact shr_in (K_int K (by simp [Op.operands]) hx).2 _
theorem JO.not {T : TypeId} {b : Bool} (hx : evS σ.g x = some (.v Enc.bool b)) : JO F ⟨d, .unOp .not T x, ty, p, af, gd⟩ σ (.v Enc.bool (!b)) [] :=
  fun ρ S _ w K => OpWp.value (w' := w) (v := .bool (!b)) (by simp [execOp, K_bool K (x := x) (by simp [Op.operands]) hx, Op.unary]) (Res.same (bool_ok _ ρ S w))
theorem JO.neg {T : TypeId} {k : IntKind} {n : Int} (hx : evS σ.g x = some (.v (Enc.int k) n)) : JO F ⟨d, .unOp .neg T x, ty, p, af, gd⟩ σ (.v (Enc.int k) (k.wrap (0 - n))) [] :=
  fun ρ S _ w K => OpWp.value (w' := w) (v := .int k (k.wrap (0 - n))) (by simp [execOp, (K_int K (x := x) (by simp [Op.operands]) hx).1, Op.unary, Op.intArith]) (Res.same (int_ok (wrap_in _ _) ρ S w))
def bnot (k : IntKind) (n : Int) : Int := k.wrap (BitVec.ofInt k.bits (if k.signed then -1 else k.max) ^^^ BitVec.ofInt k.bits n).toNat
theorem JO.xor {T : TypeId} {k : IntKind} {n : Int} (hx : evS σ.g x = some (.v (Enc.int k) n)) : JO F ⟨d, .unOp .xor T x, ty, p, af, gd⟩ σ (.v (Enc.int k) (bnot k n)) [] :=
  fun ρ S _ w K => OpWp.value (w' := w) (v := .int k (bnot k n)) (by simp [execOp, (K_int K (x := x) (by simp [Op.operands]) hx).1, Op.unary, Op.intBits, bnot]) (Res.same (int_ok (wrap_in _ _) ρ S w))
theorem JO.conv {A B : TypeId} {da : TypeDesc} {k k' : IntKind} {n : Int} (ha : ∀ w, (underlying A).run F.P w = .ok da w) (hb : ∀ w, (underlying B).run F.P w = .ok (.int k') w) (hx : evS σ.g x = some (.v (Enc.int k) n)) :
    JO F ⟨d, .convert A B x, ty, p, af, gd⟩ σ (.v (Enc.int k') (k'.wrap n)) [] :=
  fun ρ S _ w K => OpWp.value (w' := w) (v := .int k' (k'.wrap n)) (by simp [execOp, (K_int K (x := x) (by simp [Op.operands]) hx).1, convert, ha, hb, Conv.intToInt]) (Res.same (int_ok (wrap_in _ _) ρ S w))

/-! ### errors, tuples -/
theorem JO.mkErr {T : TypeId} {n : Int} (ha : ∀ w, (underlying T).run F.P w = .ok (.int .i64) w) (hx : evS σ.g x = some (.v (Enc.int .i64) n)) :
    JO F ⟨d, .makeInterface T x, ty, p, af, gd⟩ σ (.v (Enc.err T) (some n)) [] := by
  intro ρ S a w K
  obtain ⟨h1, h2⟩ := K_int K (x := x) (by simp [Op.operands]) hx
  exact OpWp.value (w' := w) (v := .iface T (.int .i64 n)) (by simp [execOp, h1, Instr.makeInterface, ha]) (Res.same (by simp only [Slot.ok]; exact val_err_some.2 ⟨rfl, h2⟩))
theorem JO.extract {n : Nat} {l : List Slot} (hx : evS σ.g x = some (.tup l)) (hs : l[n]? = some s) : JO F ⟨d, .extract x n, ty, p, af, gd⟩ σ s [] := by
  intro ρ S a w K
  have h := K.slot x (by simp [Op.operands]) _ hx
  simp only [Slot.ok] at h
  obtain ⟨vs, h1, h2⟩ := h
  have key : ∀ (l : List Slot) (vs : List Value) (n : Nat), Slot.okv ρ S w l vs → l[n]? = some s → ∃ v, vs[n]? = some v ∧ s.ok ρ S w v := by
    intro l
    induction l with
    | nil => intro vs n _ h; simp at h
    | cons t l ih =>
      intro vs n hv hn
      simp only [Slot.okv] at hv
      obtain ⟨u, vs', rfl, k1, k2⟩ := hv
      cases n with
      | zero => simp at hn; subst hn; exact ⟨u, rfl, k1⟩
      | succ n => exact ih vs' n k2 (by simpa using hn)
  obtain ⟨v, k1, k2⟩ := key l vs n h2 hs
  exact OpWp.value (w' := w) (v := v) (by simp [execOp, h1, Instr.extract, k1]) (Res.same k2)

theorem K_err {σ : AS} {xs : Array Operand} {ρ S a w} (K : Know σ xs ρ S a w) {x : Operand} (hm : x ∈ xs) {T : TypeId} {o : Option Int} (hx : evS σ.g x = some (.v (Enc.err T) o)) :
    a.eval x = (match o with | none => .nilIface | some n => .iface T (.int .i64 n)) := by
  have := K.slot x hm _ hx; simp only [Slot.ok] at this
  cases o with
  | none => exact val_err_none.1 this
  | some n => exact (val_err_some.1 this).1
theorem equal_eq (t : TypeId) (x y : Value) : Op.equal t x y = Op.equalIn (9998 + 1 + 1) t x y := rfl
/-- '==' and '!=' out of what the values are -/
theorem eqop {P : Program} {a : Act} {w : World} {o : BinOp} {T T' : TypeId} {u v : Value} {r b : Bool} (ho : (o = .eql ∧ b = r) ∨ (o = .neq ∧ b = !r)) (hx : a.eval x = u) (hy : a.eval y = v)
    (hk : ∀ k m, u ≠ .int k m) (hs : ∀ s, u ≠ .string s) (hf : ∀ k m, u ≠ .float k m) (hc : ∀ k m n, u ≠ .complex k m n)
    (hg : (eqGuard o T x y u v).run P w = .ok () w) (he : (Op.equalIn (9998 + 1 + 1) T u v).run P w = .ok r w) :
    (execOp a.eval ⟨d, .binOp o T x y T', ty, p, af, gd⟩).run P w = .ok (.value (.bool b)) w := by
  have hb : (Go.binOp o T u v).run P w = .ok (.bool b) w := by
    rcases ho with ⟨rfl, rfl⟩ | ⟨rfl, rfl⟩
    · have : Go.binOp .eql T u v = (do pure (.bool (← Op.equal T u v))) := by
        cases u <;> first | rfl | (exact absurd rfl (hk _ _)) | (exact absurd rfl (hs _)) | (exact absurd rfl (hf _ _)) | (exact absurd rfl (hc _ _ _))
      rw [this, equal_eq]; simp [he]
    · have : Go.binOp .neq T u v = (do pure (.bool (!(← Op.equal T u v)))) := by
        cases u <;> first | rfl | (exact absurd rfl (hk _ _)) | (exact absurd rfl (hs _)) | (exact absurd rfl (hf _ _)) | (exact absurd rfl (hc _ _ _))
      rw [this, equal_eq]; simp [he]
  simp only [execOp, hx, hy]
  simp [hg, hb]
theorem eqIn_nil {P : Program} {w : World} {U T : TypeId} {ms : Array (String × TypeId)} (ha : ∀ w, (underlying U).run P w = .ok (.interface ms) w) (v : Value) : (Op.equalIn (9998 + 1 + 1) U (.iface T v) .nilIface).run P w = .ok false w ∧ (Op.equalIn (9998 + 1 + 1) U .nilIface (.iface T v)).run P w = .ok false w ∧ (Op.equalIn (9998 + 1 + 1) U .nilIface .nilIface).run P w = .ok true w := by
  refine ⟨?_, ?_, ?_⟩ <;> (rw [Op.equalIn]; simp [ha])
/-- err == nil, err != nil -/
theorem JO.errEq {T U U' : TypeId} {o : Option Int} {ms : Array (String × TypeId)} (ha : ∀ w, (underlying U).run F.P w = .ok (.interface ms) w) (hx : evS σ.g x = some (.v (Enc.err T) o)) :
    JO F ⟨d, .binOp .eql U x (.const .nilIface) U', ty, p, af, gd⟩ σ (.v Enc.bool o.isNone) [] := by
  intro ρ S a w K
  have h := K_err K (x := x) (by simp [Op.operands]) hx
  refine OpWp.value (w' := w) (v := .bool o.isNone) (eqop (r := o.isNone) ?_ h rfl ?_ ?_ ?_ ?_ ?_ ?_) (Res.same (bool_ok _ ρ S w))
  · cases o <;> simp
  · cases o <;> simp
  · cases o <;> simp
  · cases o <;> simp
  · cases o <;> simp
  · cases o <;> simp [eqGuard, Act.eval]
  · cases o with
    | none => exact (eqIn_nil (T := T) ha .nilIface).2.2
    | some n => exact (eqIn_nil ha _).1
theorem JO.errNe {T U U' : TypeId} {o : Option Int} {ms : Array (String × TypeId)} (ha : ∀ w, (underlying U).run F.P w = .ok (.interface ms) w) (hx : evS σ.g x = some (.v (Enc.err T) o)) :
    JO F ⟨d, .binOp .neq U x (.const .nilIface) U', ty, p, af, gd⟩ σ (.v Enc.bool o.isSome) [] := by
  intro ρ S a w K
  have h := K_err K (x := x) (by simp [Op.operands]) hx
  refine OpWp.value (w' := w) (v := .bool o.isSome) (eqop (r := o.isNone) ?_ h rfl ?_ ?_ ?_ ?_ ?_ ?_) (Res.same (bool_ok _ ρ S w))
  · cases o <;> simp
  · cases o <;> simp
  · cases o <;> simp
  · cases o <;> simp
  · cases o <;> simp
  · cases o <;> simp [eqGuard, Act.eval]
  · cases o with
    | none => exact (eqIn_nil (T := T) ha .nilIface).2.2
    | some n => exact (eqIn_nil ha _).1
end
end Go.Sw

namespace Go.Sw
open Go Go.RowKit

/-! ### reading memory -/
theorem MemAt.cell {w : World} {b off : Nat} {cs : List Value} (h : MemAt w b off cs) : ∀ j v, cs[j]? = some v → w.cell? ((⟨b, off, none⟩ : Addr).add j) = some v := by
  obtain ⟨c, T, fr, h1, h2⟩ := h
  intro j v hj
  have hlt : j < cs.length := by
    rcases Nat.lt_or_ge j cs.length with h | h
    · exact h
    · simp [List.getElem?_eq_none h] at hj
  have hv : cs[j] = v := by simpa [List.getElem?_eq_getElem hlt] using hj
  have := h2 j hlt
  unfold Addr.add
  split
  · rename_i e; subst e; simp [World.cell?, h1]; simpa [hv] using this
  · simp [World.cell?, h1, this, hv]
theorem MemAt.sub {w : World} {b off : Nat} {a c d : List Value} (h : MemAt w b off (a ++ (c ++ d))) : MemAt w b (off + a.length) c := by
  obtain ⟨r, T, fr, h1, h2⟩ := h
  refine ⟨r, T, fr, h1, fun j hj => ?_⟩
  have := h2 (a.length + j) (by simp; omega)
  rw [Nat.add_assoc, this]
  simp [List.getElem_append_left hj]
theorem MemAt.of_heap {w : World} {b : Nat} {cs : List Value} {T fr} (h : w.heap[b]? = some (.cells cs.toArray T fr)) : MemAt w b 0 cs :=
  ⟨_, T, fr, h, fun j hj => by simp [List.getElem?_eq_getElem hj]⟩
theorem MemAt.lt {w : World} {b off : Nat} {cs : List Value} (h : MemAt w b off cs) : b < w.heap.size := by
  obtain ⟨r, T, fr, h1, h2⟩ := h
  rcases Nat.lt_or_ge b w.heap.size with h | h
  · exact h
  · simp [Array.getElem?_eq_none h] at h1

theorem load_e {α : Type} {P : Program} {e : Enc α} {x : α} {S : Nat → Prop} {w w0 : World} {b off : Nat} {cs : List Value} {U : TypeId} (h : MemAt w b off cs) (ho : e.ok x S w0 cs)
    (hA : ∀ w, (isAgg U).run P w = .ok e.agg w) (hS : ∀ w, (sizeOf U).run P w = .ok e.n w) : (loadVar U ⟨b, off, none⟩).run P w = .ok (e.pk cs) w := by
  unfold loadVar
  simp only [Sem.run_bind, hA, Result.andThen_ok]
  have hl := e.len ho
  cases ha : e.agg with
  | true =>
    simp only [if_true, Sem.run_bind, hS, Result.andThen_ok, Enc.pk, ha]
    rw [← hl, run_loadCells_list w _ cs h.cell]
    simp
  | false =>
    have h1 := e.one ha
    rw [h1] at hl
    obtain ⟨v, rfl⟩ := List.length_eq_one_iff.1 hl
    have := h.cell 0 v rfl
    simp [Addr.add] at this
    simp [Enc.pk, ha, this]

def Slot.sz : Slot → Nat
  | .v e _ => e.n
  | _ => 1
def Slot.ag : Slot → Bool
  | .v e _ => e.agg
  | _ => false

section
variable {ρ : Nat → LV} {S : Nat → Prop} {w : World}
theorem okc_len {s : Slot} {c : List Value} (h : s.okc ρ S w c) : c.length = s.sz := by
  cases s <;> simp only [Slot.okc] at h <;> simp only [Slot.sz]
  case v e x => exact e.len h
  case ref => rw [h.2]; rfl
  case ptr => rw [h.2]; rfl
  case pel => rw [h.2]; rfl
  case el => rw [h.2]; rfl
  case asl => rw [h.2]; rfl
  case esl => rw [h.2]; rfl
  case sub => obtain ⟨_, c', o', _, _, h⟩ := h; rw [h]; rfl
  case pst => obtain ⟨b, off, ds, h, _⟩ := h; rw [h]; rfl
  case fnc => obtain ⟨vs, h, _⟩ := h; rw [h]; rfl
  case top => rw [h]; rfl
/-- the value of such cells -/
theorem okc_val {s : Slot} {c : List Value} (h : s.okc ρ S w c) : s.ok ρ S w (if s.ag then .agg c.toArray else c.headD undef) := by
  cases s <;> simp only [Slot.okc] at h <;> simp only [Slot.ok, Slot.ag]
  case v e x => exact ⟨c, h, rfl⟩
  case ref => rw [h.2]; exact ⟨h.1, rfl⟩
  case ptr => rw [h.2]; exact ⟨h.1, rfl⟩
  case pel => rw [h.2]; exact ⟨h.1, rfl⟩
  case el => rw [h.2]; exact ⟨h.1, rfl⟩
  case asl => rw [h.2]; exact ⟨h.1, rfl⟩
  case esl => rw [h.2]; exact ⟨h.1, rfl⟩
  case sub => obtain ⟨h0, c', o', h1, h1', h2⟩ := h; rw [h2]; exact ⟨h0, c', o', h1, h1', rfl⟩
  case pst => obtain ⟨b, off, ds, h, h'⟩ := h; rw [h]; exact ⟨b, off, ds, rfl, h'⟩
  case fnc => obtain ⟨vs, h, h'⟩ := h; rw [h]; exact ⟨vs, rfl, h'⟩
  case top => rw [h]; rfl
/-- what kind of slot can be stored in cells -/
def Slot.plain : Slot → Bool
  | .agg _ => false
  | .tup _ => false
  | .top => false
  | _ => true
theorem ok_cells {s : Slot} {v : Value} (hp : s.plain = true) (h : s.ok ρ S w v) : s.okc ρ S w v.cells.toList := by
  cases s <;> simp only [Slot.plain, Bool.false_eq_true] at hp <;> simp only [Slot.ok] at h <;> simp only [Slot.okc]
  case v e x =>
    obtain ⟨cs, h1, rfl⟩ := h
    unfold Enc.pk
    cases ha : e.agg with
    | true => simpa [Value.cells] using h1
    | false =>
      have hl := e.len h1
      rw [e.one ha] at hl
      obtain ⟨u, rfl⟩ := List.length_eq_one_iff.1 hl
      have := cells_of_one (e.cell h1 u (by simp))
      simp [this, h1]
  case ref i =>
    obtain ⟨⟨a, l, c, h1⟩ | ⟨a, h1⟩, rfl⟩ := h
    · exact ⟨.inl ⟨a, l, c, h1⟩, by simp [h1, Value.cells]⟩
    · exact ⟨.inr ⟨a, h1⟩, by simp [h1, Value.cells]⟩
  case ptr i off => obtain ⟨⟨b, h1⟩, rfl⟩ := h; exact ⟨⟨b, h1⟩, by simp [h1, ptrAdd, Value.cells]⟩
  case pel i off k n => obtain ⟨⟨b, h1⟩, rfl⟩ := h; exact ⟨⟨b, h1⟩, by simp [h1, ptrAdd, Value.cells]⟩
  case el i k n off => obtain ⟨⟨b, o, l, c, h1⟩, rfl⟩ := h; exact ⟨⟨b, o, l, c, h1⟩, by simp [h1, ptrEl, Value.cells]⟩
  case asl i off lo n cap => obtain ⟨⟨b, h1⟩, rfl⟩ := h; exact ⟨⟨b, h1⟩, by simp [h1, slcOf, Value.cells]⟩
  case esl i off n cap => obtain ⟨⟨b, o, l, c, h1⟩, rfl⟩ := h; exact ⟨⟨b, o, l, c, h1⟩, by simp [h1, slcEl, Value.cells]⟩
  case sub i off n => obtain ⟨⟨a, l, c, h1⟩, c', o', h2, h2', rfl⟩ := h; exact ⟨⟨a, l, c, h1⟩, c', o', h2, h2', by rw [h1]; cases a <;> simp [subOf, Value.cells]⟩
  case pst e x => obtain ⟨b, off, ds, rfl, h1⟩ := h; exact ⟨b, off, ds, rfl, h1⟩
  case fnc g cap => obtain ⟨vs, rfl, h1⟩ := h; exact ⟨vs, rfl, h1⟩

/-! ### boxes -/
def offAt : List Slot → Nat → Option Slot
  | [], _ => none
  | s :: r, off => bif Nat.beq off 0 then some s else bif Nat.ble s.sz off then offAt r (off - s.sz) else none
def setOff : List Slot → Nat → Slot → List Slot
  | [], _, _ => []
  | s :: r, off, s' => bif Nat.beq off 0 then s' :: r else s :: setOff r (off - s.sz) s'

theorem okl_at : ∀ {l : List Slot} {off : Nat} {s : Slot} {cs : List Value}, offAt l off = some s → Slot.okl ρ S w l cs →
    ∃ a c d, cs = a ++ (c ++ d) ∧ a.length = off ∧ s.okc ρ S w c ∧ ∀ s' c', s'.okc ρ S w c' → Slot.okl ρ S w (setOff l off s') (a ++ (c' ++ d))
  | [], _, _, _, h, _ => by simp [offAt] at h
  | t :: r, off, s, cs, h, k => by
    simp only [Slot.okl] at k
    obtain ⟨c, d, rfl, k1, k2⟩ := k
    simp only [offAt] at h
    cases hb : Nat.beq off 0 with
    | true =>
      rw [hb] at h; simp at h; subst h
      have := Nat.eq_of_beq_eq_true hb; subst this
      exact ⟨[], c, d, rfl, rfl, k1, fun s' c' hs => by simp only [setOff, List.nil_append]; exact ⟨c', d, rfl, hs, k2⟩⟩
    | false =>
      rw [hb] at h
      simp only [cond_false] at h
      cases hle : Nat.ble t.sz off with
      | false => rw [hle] at h; simp at h
      | true =>
        rw [hle] at h
        have hle' := Nat.le_of_ble_eq_true hle
        obtain ⟨a', c', d', h1, h2, h3, h4⟩ := okl_at (l := r) (by simpa using h) k2
        refine ⟨c ++ a', c', d', by rw [h1, List.append_assoc], by rw [List.length_append, okc_len k1, h2]; omega, h3, fun s' c'' hs => ?_⟩
        simp only [setOff, hb, cond_false, Slot.okl]
        exact ⟨c, a' ++ (c'' ++ d'), by rw [List.append_assoc], k1, h4 s' c'' hs⟩

/-- cells told as one value, or part by part -/
def Spl {α : Type} (l : List Slot) (e : Enc α) (x : α) : Prop := ∀ ρ S w cs, Slot.okl ρ S w l cs ↔ e.ok x S w cs
theorem Spl.one {α : Type} (e : Enc α) (x : α) : Spl [.v e x] e x := by
  intro ρ S w cs
  simp only [Slot.okl, Slot.okc]
  constructor
  · rintro ⟨c, d, rfl, h, rfl⟩; simpa using h
  · intro h; exact ⟨cs, [], by simp, h, rfl⟩
theorem okl_append {l l' : List Slot} {ρ S w} : ∀ {cs}, Slot.okl ρ S w (l ++ l') cs ↔ ∃ c d, cs = c ++ d ∧ Slot.okl ρ S w l c ∧ Slot.okl ρ S w l' d := by
  induction l with
  | nil => intro cs; simp only [List.nil_append, Slot.okl]; constructor
           · intro h; exact ⟨[], cs, rfl, rfl, h⟩
           · rintro ⟨c, d, rfl, rfl, h⟩; simpa using h
  | cons t l ih =>
    intro cs
    simp only [List.cons_append, Slot.okl, ih]
    constructor
    · rintro ⟨c, d, rfl, h1, c', d', rfl, h2, h3⟩; exact ⟨c ++ c', d', by simp, ⟨c, c', rfl, h1, h2⟩, h3⟩
    · rintro ⟨_, d, rfl, ⟨c, c', rfl, h1, h2⟩, h3⟩; exact ⟨c, c' ++ d, by simp, h1, c', d, rfl, h2, h3⟩
theorem Spl.pr {α β : Type} {l l' : List Slot} {a : Enc α} {b : Enc β} {x : α × β} (h : Spl l a x.1) (h' : Spl l' b x.2) : Spl (l ++ l') (Enc.pr a b) x := by
  intro ρ S w cs
  rw [okl_append]
  constructor
  · rintro ⟨c, d, rfl, h1, h2⟩; exact ⟨c, d, rfl, (h ρ S w c).1 h1, (h' ρ S w d).1 h2⟩
  · rintro ⟨c, d, rfl, h1, h2⟩; exact ⟨c, d, rfl, (h ρ S w c).2 h1, (h' ρ S w d).2 h2⟩
theorem Spl.one1 {α : Type} {l : List Slot} {a : Enc α} {x : α} (h : Spl l a x) : Spl l (Enc.one1 a) x := h
end
end Go.Sw

namespace Go.Sw
open Go Go.RowKit

theorem Res.newL {ρ : Nat → LV} {S : Nat → Prop} {w w' : World} {v : Value} {i : Nat} {en : Ent} {s : Slot} (u : LV) (hb : Below w.heap.size w w')
    (hlab : en.lab.all (fun j => !Nat.beq j i) = true)
    (hblk : ∀ b, Has u b → w.heap.size ≤ b ∧ b < w'.heap.size)
    (hen : ∀ S' ρ', (∀ k, k < w.heap.size → S' k → S k) → agreeOn ρ ρ' en.lab → en.ok ρ' S' w' u)
    (hs : ∀ S' ρ', (∀ k, k < w.heap.size → S' k → S k) → (ρ' i).v = u.v → (∀ j, j ≠ i → ρ' j = ρ j) → s.ok ρ' S' w' v) : Res ρ S w s [(i, en)] v w' := by
  let ρ' : Nat → LV := fun j => if j = i then u else ρ j
  have hi : ρ' i = u := if_pos rfl
  have hj : ∀ j, j ≠ i → ρ' j = ρ j := fun j h => if_neg h
  have hlk : ∀ j en', lkE [(i, en)] j = some en' → j = i ∧ en' = en := by
    intro j en' h
    simp only [lkE] at h
    cases hb : Nat.beq i j with
    | true => have := Nat.eq_of_beq_eq_true hb; subst this; rw [hb] at h; simp at h; exact ⟨rfl, h.symm⟩
    | false => rw [hb] at h; simp at h
  have hU : ∀ k, k < w.heap.size → Un S ρ' [(i, en)] k → S k := by
    rintro k hk (h | ⟨j, en', h1, h2⟩)
    · exact h
    · obtain ⟨rfl, rfl⟩ := hlk j en' h1
      rw [hi] at h2
      have := (hblk k h2).1; omega
  refine ⟨ρ', fun j h => hj j (fun e => by subst e; simp [lkE] at h), hb, hs _ _ hU (congrArg LV.v hi) hj, ⟨fun j en' h => ?_, fun j en' b h hb' => ?_, fun j k en' en'' b h h' _ _ => ?_⟩⟩
  · obtain ⟨rfl, rfl⟩ := hlk j en' h
    rw [hi]
    refine hen _ _ hU fun j' hj' => congrArg LV.v (hj j' fun e => ?_)
    subst e
    have := List.all_eq_true.1 hlab _ hj'
    simp at this
  · obtain ⟨rfl, rfl⟩ := hlk j en' h
    rw [hi] at hb'
    exact hblk b hb'
  · rw [(hlk j en' h).1, (hlk k en'' h').1]

theorem Res.new1 {ρ : Nat → LV} {S : Nat → Prop} {w w' : World} {v : Value} {i : Nat} {en : Ent} {s : Slot} (u : Value) (hb : Below w.heap.size w w')
    (hlab : en.lab.all (fun j => !Nat.beq j i) = true)
    (hblk : ∀ b, blk u = some b → w.heap.size ≤ b ∧ b < w'.heap.size)
    (hen : ∀ S' ρ', (∀ k, k < w.heap.size → S' k → S k) → agreeOn ρ ρ' en.lab → en.ok ρ' S' w' (.of u))
    (hs : ∀ S' ρ', (∀ k, k < w.heap.size → S' k → S k) → (ρ' i).v = u → (∀ j, j ≠ i → ρ' j = ρ j) → s.ok ρ' S' w' v) : Res ρ S w s [(i, en)] v w' :=
  Res.newL (.of u) hb hlab (fun b h => hblk b (Has_of.1 h)) hen hs

theorem below_alloc (w : World) (o : Obj) : Below w.heap.size w (w.alloc o) := (Below.refl _ _).alloc (Nat.le_refl _) o
theorem ext_low {S S' : Nat → Prop} {w w' : World} (hb : Below w.heap.size w w') (h : ∀ k, k < w.heap.size → S' k → S k) : Ext S S' w w' := Ext.of_below hb h
/-- a fresh box -/
theorem Res.box {ρ : Nat → LV} {S : Nat → Prop} {w : World} {T : TypeId} {l : List Slot} {cs : List Value} (i : Nat) (hl : Slot.okl ρ S w l cs)
    (hlab : (Slot.labs l).all (fun j => !Nat.beq j i) = true) : Res ρ S w (.ptr i 0) [(i, .box T l)] (.pointer (some ⟨w.heap.size, 0, none⟩)) (w.alloc (.cells cs.toArray T)) := by
  refine Res.new1 (.pointer (some ⟨w.heap.size, 0, none⟩)) (below_alloc _ _) hlab ?_ ?_ ?_
  · intro b hb; simp [blk] at hb; subst hb; exact ⟨Nat.le_refl _, by simp⟩
  · intro S' ρ' h ha
    exact ⟨⟨_, cs, rfl, heap_alloc_new _ _, Slot.okl_mono l cs hl (ext_low (below_alloc _ _) h) ha⟩, fun _ h => by cases h⟩
  · intro S' ρ' _ hi _
    simp only [Slot.ok]
    exact ⟨⟨_, hi⟩, by rw [hi]; rfl⟩

section
variable {F : Frm} {σ : AS} {pb : Option Nat} {s : Slot} {d : Option Tmp} {ty : TypeId} {p : String} {af : Array Edge} {gd : Option (Nat × Bool)} {x y c : Operand}

theorem run_newVar (P : Program) (w : World) (T : TypeId) (v : Value) : (newVar T v).run P w = .ok ⟨w.heap.size, 0, none⟩ (w.alloc (.cells v.cells T)) := by
  simp [newVar, newRow]
/-- a variable that is laid in memory -/
theorem JO.box {α : Type} {e : Enc α} {z : α} {T : TypeId} {l : List Slot} (i : Nat) (hx : evS σ.g x = some (.v e z)) (hl : Spl l e z) (hlab : (Slot.labs l).all (fun j => !Nat.beq j i) = true) :
    JO F ⟨d, .box T x, ty, p, af, gd⟩ σ (.ptr i 0) [(i, .box T l)] := by
  intro ρ S a w K
  have h := ok_cells (s := .v e z) rfl (K.slot x (by simp [Op.operands]) _ hx)
  simp only [Slot.okc] at h
  refine OpWp.value (w' := w.alloc (.cells (a.eval x).cells.toList.toArray T)) (v := .pointer (some ⟨w.heap.size, 0, none⟩)) (by simp [execOp, Instr.box, run_newVar]) ?_
  exact Res.box i ((hl ρ S w _).2 h) hlab
theorem JO.boxAgg {T : TypeId} {l : List Slot} (i : Nat) (hx : evS σ.g x = some (.agg l)) (hlab : (Slot.labs l).all (fun j => !Nat.beq j i) = true) :
    JO F ⟨d, .box T x, ty, p, af, gd⟩ σ (.ptr i 0) [(i, .box T l)] := by
  intro ρ S a w K
  have h := K.slot x (by simp [Op.operands]) _ hx
  simp only [Slot.ok] at h
  obtain ⟨cs, h1, h2⟩ := h
  refine OpWp.value (w' := w.alloc (.cells cs.toArray T)) (v := .pointer (some ⟨w.heap.size, 0, none⟩)) (by simp [execOp, Instr.box, run_newVar, h1, Value.cells]) ?_
  exact Res.box i h2 hlab

/-! ### zero values -/
def Zr (cs : List Value) (l : List Slot) : Prop := ∀ ρ S w, Slot.okl ρ S w l cs
theorem Zr.nil : Zr [] [] := fun _ _ _ => rfl
theorem Zr.cons {cs : List Value} {l : List Slot} {α : Type} {e : Enc α} {z : α} {c : List Value} (h : ∀ S w, e.ok z S w c) (k : Zr cs l) : Zr (c ++ cs) (.v e z :: l) := fun ρ S w => by
  simp only [Slot.okl]; exact ⟨c, cs, rfl, by simp only [Slot.okc]; exact h S w, k ρ S w⟩
theorem Z.int (k : IntKind) : ∀ S w, (Enc.int k).ok 0 S w [.int k 0] := fun _ _ => ⟨rfl, by cases k <;> decide⟩
theorem Z.bool : ∀ S w, Enc.bool.ok false S w [.bool false] := fun _ _ => rfl
theorem Z.sl {α : Type} (e : Enc α) : ∀ S w, (Enc.sl e).ok [] S w [.slice none 0 0] := fun _ _ => ⟨none, 0, rfl, by simp, .inl rfl⟩
theorem Z.err (T : TypeId) : ∀ S w, (Enc.err T).ok none S w [.nilIface] := fun _ _ => rfl
theorem Z.arr {α : Type} {e : Enc α} {z : α} {c : List Value} (m : Nat) (h : ∀ S w, e.ok z S w c) : ∀ S w, (Enc.arr m e).ok (List.replicate m z) S w (List.replicate m c).flatten := by
  intro S w
  refine ⟨by simp, ?_⟩
  induction m with
  | zero => simp [Enc.okL]
  | succ m ih => rw [List.replicate_succ, List.replicate_succ, List.flatten_cons]; exact ⟨c, _, rfl, h S w, ih⟩
theorem Z.pr {α β : Type} {a : Enc α} {b : Enc β} {x : α} {y : β} {c d : List Value} (h : ∀ S w, a.ok x S w c) (k : ∀ S w, b.ok y S w d) : ∀ S w, (Enc.pr a b).ok (x, y) S w (c ++ d) := fun S w => ⟨c, d, rfl, h S w, k S w⟩
theorem Z.one1 {α : Type} {a : Enc α} {x : α} {c : List Value} (h : ∀ S w, a.ok x S w c) : ∀ S w, (Enc.one1 a).ok x S w c := h

theorem JO.alloc {T : TypeId} {z : Value} {cs : List Value} {l : List Slot} (i : Nat) (hz : ∀ w, (zeroValue T).run F.P w = .ok z w) (hc : z.cells = cs.toArray) (hl : Zr cs l) (hlab : (Slot.labs l).all (fun j => !Nat.beq j i) = true) :
    JO F ⟨d, .alloc T, ty, p, af, gd⟩ σ (.ptr i 0) [(i, .box T l)] := by
  intro ρ S a w K
  refine OpWp.value (w' := w.alloc (.cells cs.toArray T)) (v := .pointer (some ⟨w.heap.size, 0, none⟩)) (by simp [execOp, Instr.alloc, hz, run_newVar, hc]) ?_
  exact Res.box i (hl ρ S w) hlab

/-! ### loads -/
theorem K_ptr {xs : Array Operand} {ρ : Nat → LV} {S a w} (K : Know σ xs ρ S a w) (hm : x ∈ xs) {i off : Nat} {T : TypeId} {l : List Slot} (hx : evS σ.g x = some (.ptr i off)) (he : lkE σ.d i = some (.box T l pb)) :
    ∃ b cs, (ρ i).v = .pointer (some ⟨b, 0, none⟩) ∧ a.eval x = .pointer (some ⟨b, off, none⟩) ∧ w.heap[b]? = some (.cells cs.toArray T (0, 0)) ∧ Slot.okl ρ S w l cs := by
  have h := K.slot x hm _ hx
  simp only [Slot.ok] at h
  obtain ⟨⟨b, h1⟩, h2⟩ := h
  have := (K.ent x hm _ hx i (by simp [Slot.lab]) _ he).1
  rw [h1] at h2
  obtain ⟨⟨b', cs, h3, h4, h5⟩, _⟩ := this
  have : b' = b := by rw [h1] at h3; simpa using h3.symm
  subst this
  exact ⟨b', cs, h1, h2, h4, h5⟩

theorem JO.load {T U : TypeId} {l : List Slot} {i off : Nat} (hx : evS σ.g x = some (.ptr i off)) (he : lkE σ.d i = some (.box T l pb)) (ho : offAt l off = some s)
    (hA : ∀ w, (isAgg U).run F.P w = .ok s.ag w) (hS : ∀ w, (sizeOf U).run F.P w = .ok s.sz w) : JO F ⟨d, .load U x, ty, p, af, gd⟩ σ s [] := by
  intro ρ S a w K
  obtain ⟨b, cs, h1, h2, h3, h4⟩ := K_ptr K (by simp [Op.operands]) hx he
  obtain ⟨pre, c, post, rfl, rfl, h5, _⟩ := okl_at ho h4
  have hm : MemAt w b pre.length c := by have := (MemAt.of_heap h3).sub; simpa using this
  have hlen := okc_len h5
  refine OpWp.value (w' := w) (v := if s.ag then .agg c.toArray else c.headD undef) ?_ (Res.same (okc_val h5))
  have : (loadVar U ⟨b, pre.length, none⟩).run F.P w = .ok (if s.ag then .agg c.toArray else c.headD undef) w := by
    unfold loadVar
    simp only [Sem.run_bind, hA, Result.andThen_ok]
    cases ha : s.ag with
    | true =>
      simp only [if_true, Sem.run_bind, hS, Result.andThen_ok]
      rw [← hlen, run_loadCells_list w _ c hm.cell]
      simp
    | false =>
      have h1 : c.length = 1 := by
        rw [hlen]
        cases s <;> simp only [Slot.ag, Slot.sz] at ha ⊢
        exact Enc.one _ ha
      obtain ⟨v, rfl⟩ := List.length_eq_one_iff.1 h1
      have := hm.cell 0 v rfl
      simp [Addr.add] at this
      simp [this]
  simp [execOp, h2, Instr.loadAt, Instr.sureAddr, this]
theorem JO.loadAll {α : Type} {e : Enc α} {z : α} {T U : TypeId} {l : List Slot} {i : Nat} (hx : evS σ.g x = some (.ptr i 0)) (he : lkE σ.d i = some (.box T l pb)) (hl : Spl l e z)
    (hA : ∀ w, (isAgg U).run F.P w = .ok e.agg w) (hS : ∀ w, (sizeOf U).run F.P w = .ok e.n w) : JO F ⟨d, .load U x, ty, p, af, gd⟩ σ (.v e z) [] := by
  intro ρ S a w K
  obtain ⟨b, cs, h1, h2, h3, h4⟩ := K_ptr K (by simp [Op.operands]) hx he
  have h5 := (hl ρ S w cs).1 h4
  refine OpWp.value (w' := w) (v := e.pk cs) ?_ (Res.same (by simp only [Slot.ok]; exact ⟨cs, h5, rfl⟩))
  have := load_e (P := F.P) (MemAt.of_heap h3) h5 hA hS
  simp [execOp, h2, Instr.loadAt, Instr.sureAddr, this]
theorem JO.loadAgg {T U : TypeId} {l : List Slot} {i n : Nat} (hx : evS σ.g x = some (.ptr i 0)) (he : lkE σ.d i = some (.box T l pb)) (hn : (l.map Slot.sz).sum = n)
    (hA : ∀ w, (isAgg U).run F.P w = .ok true w) (hS : ∀ w, (sizeOf U).run F.P w = .ok n w) : JO F ⟨d, .load U x, ty, p, af, gd⟩ σ (.agg l) [] := by
  intro ρ S a w K
  obtain ⟨b, cs, h1, h2, h3, h4⟩ := K_ptr K (by simp [Op.operands]) hx he
  have hlen : cs.length = n := by
    rw [← hn]
    clear hn hS hx he h3
    induction l generalizing cs with
    | nil => simp only [Slot.okl] at h4; simp [h4]
    | cons t l ih =>
      simp only [Slot.okl] at h4
      obtain ⟨c, d, rfl, k1, k2⟩ := h4
      rw [List.length_append, okc_len k1, ih d k2]; simp
  refine OpWp.value (w' := w) (v := .agg cs.toArray) ?_ (Res.same (by simp only [Slot.ok]; exact ⟨cs, rfl, h4⟩))
  have : (loadVar U ⟨b, 0, none⟩).run F.P w = .ok (.agg cs.toArray) w := by
    unfold loadVar
    simp only [Sem.run_bind, hA, Result.andThen_ok, if_true, hS]
    rw [← hlen, run_loadCells_list w _ cs (MemAt.of_heap h3).cell]
    simp
  simp [execOp, h2, Instr.loadAt, Instr.sureAddr, this]
theorem JO.loadPst {α : Type} {e : Enc α} {z : α} {U : TypeId} (hx : evS σ.g x = some (.pst e z)) (hA : ∀ w, (isAgg U).run F.P w = .ok e.agg w) (hS : ∀ w, (sizeOf U).run F.P w = .ok e.n w) :
    JO F ⟨d, .load U x, ty, p, af, gd⟩ σ (.v e z) [] := by
  intro ρ S a w K
  have h := K.slot x (by simp [Op.operands]) _ hx
  simp only [Slot.ok] at h
  obtain ⟨b, off, ds, h1, _, _, h2, h3⟩ := h
  refine OpWp.value (w' := w) (v := e.pk ds) ?_ (Res.same (by simp only [Slot.ok]; exact ⟨ds, h3, rfl⟩))
  have := load_e (P := F.P) h2 h3 hA hS
  simp [execOp, h1, Instr.loadAt, Instr.sureAddr, this]

/-! ### places in places -/
theorem run_fieldAt {P : Program} {w : World} {U : TypeId} {fs : Array Field} {n b off m : Nat} {fl : Field} (hU : ∀ w, (underlying U).run P w = .ok (.struct fs) w) (hf : fs[n]? = some fl) (hm : ∀ w, (sizeOf fl.type).run P w = .ok m w) (hne : Nat.beq m 0 = false) :
    (Instr.fieldAt U (.pointer (some ⟨b, off, none⟩)) n).run P w = .ok (.pointer (some ⟨b, off + fl.offset, none⟩)) w := by
  have hne' : m ≠ 0 := fun e => by subst e; simp at hne
  have : Addr.add ⟨b, off, none⟩ fl.offset = ⟨b, off + fl.offset, none⟩ := by
    unfold Addr.add; split
    · rename_i h; rw [h]; rfl
    · rfl
  simp [Instr.fieldAt, hU, hf, Instr.sureAddr, fieldPlace, hm, hne', this]
theorem JO.fieldPtr (o : Nat) {U : TypeId} {fs : Array Field} {n i off m : Nat} {fl : Field} (hx : evS σ.g x = some (.ptr i off)) (hU : ∀ w, (underlying U).run F.P w = .ok (.struct fs) w) (hf : fs[n]? = some fl) (hm : ∀ w, (sizeOf fl.type).run F.P w = .ok m w) (hne : Nat.beq m 0 = false) (ho : Nat.beq (off + fl.offset) o = true) :
    JO F ⟨d, .fieldAddr U x n, ty, p, af, gd⟩ σ (.ptr i o) [] := by
  have ho := Nat.eq_of_beq_eq_true ho
  subst ho
  intro ρ S a w K
  have h := K.slot x (by simp [Op.operands]) _ hx
  simp only [Slot.ok] at h
  obtain ⟨⟨b, h1⟩, h2⟩ := h
  rw [h1] at h2
  refine OpWp.value (w' := w) (v := .pointer (some ⟨b, off + fl.offset, none⟩)) ?_ (Res.same (by simp only [Slot.ok]; exact ⟨⟨b, h1⟩, by rw [h1]; rfl⟩))
  have := run_fieldAt (P := F.P) (w := w) (b := b) (off := off) hU hf hm hne
  simp only [execOp, h2, ptrAdd]
  simp [this]
/-- a part of what lies at a place -/
def Prj {α β : Type} (e : Enc α) (z : α) (off : Nat) (e' : Enc β) (z' : β) : Prop := ∀ S w cs, e.ok z S w cs → ∃ a c d, cs = a ++ (c ++ d) ∧ a.length = off ∧ e'.ok z' S w c
theorem Prj.here {α : Type} {e : Enc α} {z : α} : Prj e z 0 e z := fun _ _ cs h => ⟨[], cs, [], by simp, rfl, h⟩
theorem Prj.fst {α β γ : Type} {a : Enc α} {b : Enc β} {e' : Enc γ} {z : α × β} {z' : γ} {off : Nat} (h : Prj a z.1 off e' z') : Prj (Enc.pr a b) z off e' z' := by
  rintro S w cs ⟨c, d, rfl, h1, h2⟩
  obtain ⟨a', c', d', rfl, k2, k3⟩ := h S w c h1
  exact ⟨a', c', d' ++ d, by simp, k2, k3⟩
theorem Prj.snd {α β γ : Type} {a : Enc α} {b : Enc β} {e' : Enc γ} {z : α × β} {z' : γ} {off : Nat} (h : Prj b z.2 off e' z') : Prj (Enc.pr a b) z (a.n + off) e' z' := by
  rintro S w cs ⟨c, d, rfl, h1, h2⟩
  obtain ⟨a', c', d', rfl, k2, k3⟩ := h S w d h2
  exact ⟨c ++ a', c', d', by simp, by rw [List.length_append, a.len h1, k2], k3⟩
theorem Prj.one1 {α γ : Type} {a : Enc α} {e' : Enc γ} {z : α} {z' : γ} {off : Nat} (h : Prj a z off e' z') : Prj (Enc.one1 a) z off e' z' := h
/-- an element, by a number -/
def idx {α : Type} (xs : List α) (n : Int) : Option α := if 0 ≤ n then xs[n.toNat]? else none
theorem idx_some {α : Type} {xs : List α} {n : Int} {y : α} (h : idx xs n = some y) : 0 ≤ n ∧ n.toNat < xs.length ∧ xs[n.toNat]? = some y := by
  unfold idx at h
  split at h
  · rename_i h0
    refine ⟨h0, ?_, h⟩
    rcases Nat.lt_or_ge n.toNat xs.length with h' | h'
    · exact h'
    · simp [List.getElem?_eq_none h'] at h
  · cases h
theorem run_indexAt {P : Program} {w : World} {U E : TypeId} {m b off len cap : Nat} {k : IntKind} {n : Int} (hU : ∀ w, (underlying U).run P w = .ok (.slice E) w) (hE : ∀ w, (sizeOf E).run P w = .ok m w) (h0 : 0 ≤ n) (h1 : n < len) :
    (Instr.indexAt U (.slice (some ⟨b, off, none⟩) len cap) (.int k n)).run P w = .ok (.pointer (some ⟨b, off + n.toNat * m, none⟩)) w := by
  have : Addr.add ⟨b, off, none⟩ (n.toNat * m) = ⟨b, off + n.toNat * m, none⟩ := by
    unfold Addr.add; split
    · rename_i h; rw [h]; rfl
    · rfl
  simp [Instr.indexAt, asIntOf, hU, h0, h1, hE, this]
theorem JO.idx {α : Type} {e : Enc α} {xs : List α} {z : α} {U E : TypeId} {k : IntKind} {n : Int} (hz : Sw.idx xs n = some z) (hx : evS σ.g x = some (.v (Enc.sl e) xs)) (hy : evS σ.g y = some (.v (Enc.int k) n))
    (hU : ∀ w, (underlying U).run F.P w = .ok (.slice E) w) (hE : ∀ w, (sizeOf E).run F.P w = .ok e.n w) : JO F ⟨d, .indexAddr U x y, ty, p, af, gd⟩ σ (.pst e z) [] := by
  intro ρ S a w K
  have h := K.slot x (by simp [Op.operands]) _ hx
  have hn := (K_int K (x := y) (by simp [Op.operands]) hy).1
  simp only [Slot.ok] at h
  obtain ⟨ad, cap, h1, _, h2⟩ := val_sl.1 h
  obtain ⟨i0, i1, i2⟩ := idx_some hz
  rcases h2 with h2 | ⟨b, off, ds, rfl, hb, hs, hm, ho⟩
  · subst h2; simp at i1
  obtain ⟨pre, c, post, rfl, hl, hc, _⟩ := Enc.okL_get ho i2
  refine OpWp.value (w' := w) (v := .pointer (some ⟨b, off + n.toNat * e.n, none⟩)) ?_ (Res.same (by simp only [Slot.ok]; exact ⟨b, _, c, rfl, hb, hs, by rw [← hl]; exact hm.sub, hc⟩))
  have := run_indexAt (P := F.P) (w := w) (b := b) (off := off) (cap := cap) (k := k) hU hE i0 (by omega : n < (xs.length : Int))
  simp only [execOp, h1, hn]
  simp [this]

/-! ### lengths -/
theorem len_in {n : Nat} (h : n ≤ 9223372036854775807) : inK .i64 (n : Int) := by unfold inK; simp only [IntKind.min, IntKind.max, IntKind.signed, IntKind.bits]; simp; omega
theorem run_len {P : Program} {w : World} {U E : TypeId} {a : Option Addr} {n cap : Nat} {tt : TypeId} (hU : ∀ w, (underlying U).run P w = .ok (.slice E) w) : (Builtin.len_ #[U] tt #[.slice a n cap]).run P w = .ok (.int .i64 n) w := by
  simp [Builtin.len_, hU, goInt]
theorem JO.len {α : Type} {e : Enc α} {xs : List α} {U E : TypeId} (hx : evS σ.g x = some (.v (Enc.sl e) xs)) (hU : ∀ w, (underlying U).run F.P w = .ok (.slice E) w) :
    JO F ⟨d, .call ⟨.builtin .len, #[x], #[U]⟩, ty, p, af, gd⟩ σ (.v (Enc.int .i64) xs.length) [] := by
  intro ρ S a w K
  have h := K.slot x (by simp [Op.operands, Call.operands]) _ hx
  simp only [Slot.ok] at h
  obtain ⟨ad, cap, h1, hl, _⟩ := val_sl.1 h
  refine OpWp.value (w' := w) (v := .int .i64 xs.length) ?_ (Res.same (int_ok (len_in (by have := hl.2; omega)) ρ S w))
  simp [execOp, resolve, invoke, builtin, h1, run_len hU]
theorem K_ref {xs : Array Operand} {ρ : Nat → LV} {S a w} (K : Know σ xs ρ S a w) (hm : x ∈ xs) {i : Nat} {en : Ent} (hx : evS σ.g x = some (.ref i)) (he : lkE σ.d i = some en) :
    a.eval x = (ρ i).v ∧ en.ok ρ S w (ρ i) ∧ ∀ b, Has (ρ i) b → S b ∧ b < w.heap.size := by
  have h := K.slot x hm _ hx
  simp only [Slot.ok] at h
  exact ⟨h.2, K.ent x hm _ hx i (by simp [Slot.lab]) _ he⟩
theorem JO.lenR {α : Type} {e : Enc α} {xs : List α} {T U E : TypeId} {i : Nat} (hx : evS σ.g x = some (.ref i)) (he : lkE σ.d i = some (.arr T e xs)) (hU : ∀ w, (underlying U).run F.P w = .ok (.slice E) w) :
    JO F ⟨d, .call ⟨.builtin .len, #[x], #[U]⟩, ty, p, af, gd⟩ σ (.v (Enc.int .i64) xs.length) [] := by
  intro ρ S a w K
  obtain ⟨h1, h2, _⟩ := K_ref K (x := x) (by simp [Op.operands, Call.operands]) hx he
  rcases h2 with ⟨rfl, h2⟩ | ⟨b, cap, pre, cs, post, h2, _, _, _, _, hl⟩
  · refine OpWp.value (w' := w) (v := .int .i64 0) ?_ (Res.same (int_ok (len_in (n := 0) (by simp)) ρ S w))
    simp [execOp, resolve, invoke, builtin, h1, h2, run_len hU]
  · refine OpWp.value (w' := w) (v := .int .i64 xs.length) ?_ (Res.same (int_ok (len_in (by omega)) ρ S w))
    simp [execOp, resolve, invoke, builtin, h1, h2, run_len hU]
end
end Go.Sw

namespace Go.Sw
open Go Go.RowKit

mutual
def Slot.map (r : Nat → Nat) : Slot → Slot
  | .v e x => .v e x
  | .ref i => .ref (r i)
  | .ptr i off => .ptr (r i) off
  | .pel i off k n => .pel (r i) off k n
  | .el i k n off => .el (r i) k n off
  | .asl i off lo n cap => .asl (r i) off lo n cap
  | .esl i off n cap => .esl (r i) off n cap
  | .sub i off n => .sub (r i) off n
  | .pst e x => .pst e x
  | .fnc g cap => .fnc g (Slot.maps r cap)
  | .top => .top
  | .agg l => .agg (Slot.maps r l)
  | .tup l => .tup (Slot.maps r l)
def Slot.maps (r : Nat → Nat) : List Slot → List Slot
  | [] => []
  | s :: l => s.map r :: Slot.maps r l
end
def Ent.map (r : Nat → Nat) : Ent → Ent
  | .box T l pb => .box T (Slot.maps r l) pb
  | .arr T e xs => .arr T e xs
  | .mp e f m => .mp e f m
  | .dp D x ls => .dp D x (ls.map r)

section
variable {ρ : Nat → LV} {S : Nat → Prop} {w : World} {r : Nat → Nat}
mutual
theorem okc_map : ∀ (s : Slot) (cs : List Value), (s.map r).okc ρ S w cs ↔ s.okc (fun i => ρ (r i)) S w cs
  | .v e x, cs => by simp only [Slot.map, Slot.okc]
  | .ref i, cs => by simp only [Slot.map, Slot.okc]
  | .ptr i off, cs => by simp only [Slot.map, Slot.okc]
  | .pel i off k n, cs => by simp only [Slot.map, Slot.okc]
  | .el i k n off, cs => by simp only [Slot.map, Slot.okc]
  | .asl i off lo n cap, cs => by simp only [Slot.map, Slot.okc]
  | .esl i off n cap, cs => by simp only [Slot.map, Slot.okc]
  | .sub i off n, cs => by simp only [Slot.map, Slot.okc]
  | .pst e x, cs => by simp only [Slot.map, Slot.okc]
  | .fnc g cap, cs => by simp only [Slot.map, Slot.okc, okv_map cap]
  | .top, cs => by simp only [Slot.map, Slot.okc]
  | .agg l, cs => by simp only [Slot.map, Slot.okc]
  | .tup l, cs => by simp only [Slot.map, Slot.okc]
theorem okv_map : ∀ (l : List Slot) (vs : List Value), Slot.okv ρ S w (Slot.maps r l) vs ↔ Slot.okv (fun i => ρ (r i)) S w l vs
  | [], vs => by simp only [Slot.maps, Slot.okv]
  | s :: l, vs => by simp only [Slot.maps, Slot.okv, ok_map s, okv_map l]
theorem okl_map : ∀ (l : List Slot) (vs : List Value), Slot.okl ρ S w (Slot.maps r l) vs ↔ Slot.okl (fun i => ρ (r i)) S w l vs
  | [], vs => by simp only [Slot.maps, Slot.okl]
  | s :: l, vs => by simp only [Slot.maps, Slot.okl, okc_map s, okl_map l]
theorem ok_map : ∀ (s : Slot) (u : Value), (s.map r).ok ρ S w u ↔ s.ok (fun i => ρ (r i)) S w u
  | .v e x, cs => by simp only [Slot.map, Slot.ok]
  | .ref i, cs => by simp only [Slot.map, Slot.ok]
  | .ptr i off, cs => by simp only [Slot.map, Slot.ok]
  | .pel i off k n, cs => by simp only [Slot.map, Slot.ok]
  | .el i k n off, cs => by simp only [Slot.map, Slot.ok]
  | .asl i off lo n cap, cs => by simp only [Slot.map, Slot.ok]
  | .esl i off n cap, cs => by simp only [Slot.map, Slot.ok]
  | .sub i off n, cs => by simp only [Slot.map, Slot.ok]
  | .pst e x, cs => by simp only [Slot.map, Slot.ok]
  | .fnc g cap, cs => by simp only [Slot.map, Slot.ok, okv_map cap]
  | .top, cs => by simp only [Slot.map, Slot.ok]
  | .agg l, cs => by simp only [Slot.map, Slot.ok, okl_map l]
  | .tup l, cs => by simp only [Slot.map, Slot.ok, okv_map l]
end
theorem ent_map (en : Ent) (u : LV) : (en.map r).ok ρ S w u ↔ en.ok (fun i => ρ (r i)) S w u := by
  cases en with
  | box T l pb => simp only [Ent.map, Ent.ok, okl_map]
  | arr T e xs => simp only [Ent.map, Ent.ok]
  | mp e f m => simp only [Ent.map, Ent.ok]
  | dp D x ls => simp only [Ent.map, Ent.ok, List.map_map, Function.comp_def]
end

def mapE (r : Nat → Nat) : List (Nat × Ent) → List (Nat × Ent)
  | [] => []
  | (i, en) :: l => (r i, en.map r) :: mapE r l

theorem lkE_shift (k : Nat) : ∀ (l : List (Nat × Ent)) (j : Nat) (en : Ent), lkE (mapE (· + k) l) j = some en → ∃ i en', j = i + k ∧ lkE l i = some en' ∧ en = en'.map (· + k)
  | [], j, en, h => by simp [mapE, lkE] at h
  | (i, en') :: l, j, en, h => by
    simp only [mapE, lkE] at h
    cases hb : Nat.beq (i + k) j with
    | true =>
      have := Nat.eq_of_beq_eq_true hb
      rw [hb] at h; simp at h
      exact ⟨i, en', this.symm, by simp [lkE], h.symm⟩
    | false =>
      rw [hb] at h
      obtain ⟨i', e', h1, h2, h3⟩ := lkE_shift k l j en (by simpa using h)
      refine ⟨i', e', h1, ?_, h3⟩
      have : Nat.beq i i' = false := by
        cases hc : Nat.beq i i' with
        | false => rfl
        | true => have := Nat.eq_of_beq_eq_true hc; subst this; subst h1; simp at hb
      simp only [lkE, this]; exact h2
theorem lkE_shift_some (k : Nat) : ∀ (l : List (Nat × Ent)) (i : Nat) (en : Ent), lkE l i = some en → lkE (mapE (· + k) l) (i + k) = some (en.map (· + k))
  | [], i, en, h => by simp [lkE] at h
  | (i', en') :: l, i, en, h => by
    simp only [lkE] at h
    simp only [mapE, lkE]
    cases hb : Nat.beq i' i with
    | true =>
      have := Nat.eq_of_beq_eq_true hb; subst this
      rw [hb] at h; simp at h; subst h; simp
    | false =>
      rw [hb] at h
      have hne : i' ≠ i := fun e => by subst e; simp at hb
      have : Nat.beq (i' + k) (i + k) = false := by
        cases hc : Nat.beq (i' + k) (i + k) with
        | false => rfl
        | true => have := Nat.eq_of_beq_eq_true hc; omega
      rw [this]; exact lkE_shift_some k l i en (by simpa using h)

theorem Res.shift {ρ : Nat → LV} {S : Nat → Prop} {w w' : World} {res : Slot} {new : List (Nat × Ent)} {v : Value} (k : Nat) (hcl : closed res new = true) (h : Res ρ S w res new v w') :
    Res ρ S w (res.map (· + k)) (mapE (· + k) new) v w' := by
  obtain ⟨ρ', h1, h2, h3, h4⟩ := h
  simp only [closed, Bool.and_eq_true, List.all_eq_true] at hcl
  let ρ'' : Nat → LV := fun j => if k ≤ j ∧ (lkE new (j - k)).isSome = true then ρ' (j - k) else ρ j
  have hr : ∀ i, (lkE new i).isSome = true → ρ'' (i + k) = ρ' i := fun i hi => by simp [ρ'', hi]
  have hU : ∀ b, Un S ρ'' (mapE (· + k) new) b ↔ Un S ρ' new b := by
    intro b
    constructor
    · rintro (h | ⟨j, en, hj, hb⟩)
      · exact .inl h
      · obtain ⟨i, en', rfl, hi, _⟩ := lkE_shift k new j en hj
        rw [hr i (by rw [hi]; rfl)] at hb
        exact .inr ⟨i, en', hi, hb⟩
    · rintro (h | ⟨i, en, hi, hb⟩)
      · exact .inl h
      · exact .inr ⟨i + k, _, lkE_shift_some k new i en hi, by rw [hr i (by rw [hi]; rfl)]; exact hb⟩
  have hE : Ext (Un S ρ' new) (Un S ρ'' (mapE (· + k) new)) w' w' := ⟨Nat.le_refl _, fun b _ hb => ⟨rfl, fun h => hb ((hU b).1 h)⟩⟩
  refine ⟨ρ'', fun j hj => ?_, h2, ?_, ⟨fun j en hj => ?_, fun j en b hj hb => ?_, fun j j' en en' b hj hj' hb hb' => ?_⟩⟩
  · have : ¬ (k ≤ j ∧ (lkE new (j - k)).isSome = true) := by
      rintro ⟨hle, hs⟩
      obtain ⟨en, hen⟩ := Option.isSome_iff_exists.1 hs
      have := lkE_shift_some k new (j - k) en hen
      rw [Nat.sub_add_cancel hle, hj] at this; cases this
    simp only [ρ'', if_neg this]
  · rw [ok_map]
    exact Slot.ok_mono res v h3 hE (fun i hi => congrArg LV.v (hr i (hcl.1 i hi)))
  · obtain ⟨i, en', rfl, hi, rfl⟩ := lkE_shift k new j en hj
    rw [ent_map, hr i (by rw [hi]; rfl)]
    exact Ent.ok_mono (h4.own i en' hi) hE (fun i' hi' => congrArg LV.v (hr i' (hcl.2 _ (lkE_mem hi) i' hi'))) (fun _ _ => rfl)
  · obtain ⟨i, en', rfl, hi, rfl⟩ := lkE_shift k new j en hj
    rw [hr i (by rw [hi]; rfl)] at hb
    exact h4.fresh i en' b hi hb
  · obtain ⟨i, e, rfl, hi, rfl⟩ := lkE_shift k new j en hj
    obtain ⟨i', e', rfl, hi', rfl⟩ := lkE_shift k new j' en' hj'
    rw [hr i (by rw [hi]; rfl)] at hb
    rw [hr i' (by rw [hi']; rfl)] at hb'
    rw [h4.inj i i' e e' b hi hi' hb hb']

/-! ### what is told otherwise, or forgotten -/
/-- what lies in blocks of its own, told as what nobody writes -/
def Frz {α β : Type} (D : DE α) (x : α) (e : Enc β) (z : β) : Prop := ∀ S S' w u, D.ok x S w u [] → Ext S S' w w → (∀ b, Has u b → ¬ S' b) → e.ok z S' w [u.v] ∧ e.pk [u.v] = u.v
/-- the same, told otherwise -/
def EntCv (en en' : Ent) : Prop := en'.lab = [] ∧ ∀ ρ S w u, en.ok ρ S w u → en'.ok ρ S w u
mutual
inductive CvS (σ : AS) (r : Nat → Nat) (ls : List Nat) : Slot → Slot → Prop
  | same {s : Slot} : CvS σ r ls (s.map r) s
  | frz {α : Type} {j : Nat} {T : TypeId} {e : Enc α} {xs : List α} : lkE σ.d j = some (.arr T e xs) → ls.all (fun i => !Nat.beq (r i) j) = true → CvS σ r ls (.ref j) (.v (Enc.sl e) xs)
  | agg {l l' : List Slot} : CvL σ r ls l l' → CvS σ r ls (.agg l) (.agg l')
  | pack {α : Type} {l l' : List Slot} {e : Enc α} {z : α} : CvL σ r ls l l' → Spl l' e z → e.agg = true → CvS σ r ls (.agg l) (.v e z)
  | frzP {α : Type} {j : Nat} {T : TypeId} {l l' : List Slot} {pb : Option Nat} {e : Enc α} {z : α} : lkE σ.d j = some (.box T l pb) → ls.all (fun i => !Nat.beq (r i) j) = true → CvL σ r ls l l' → Spl l' e z → CvS σ r ls (.ptr j 0) (.pst e z)
  | fnc {g : Nat} {l l' : List Slot} : CvL σ r ls l l' → CvS σ r ls (.fnc g l) (.fnc g l')
  | frzD {α β : Type} {j : Nat} {D : DE α} {x : α} {e : Enc β} {z : β} : lkE σ.d j = some (.dp D x []) → ls.all (fun i => !Nat.beq (r i) j) = true → Frz D x e z → CvS σ r ls (.ref j) (.v e z)
  | enc {α β : Type} {e : Enc α} {f : Enc β} {x : α} {y : β} : (∀ S w cs, e.ok x S w cs → f.ok y S w cs) → (∀ cs, e.pk cs = f.pk cs) → CvS σ r ls (.v e x) (.v f y)
inductive CvL (σ : AS) (r : Nat → Nat) (ls : List Nat) : List Slot → List Slot → Prop
  | nil : CvL σ r ls [] []
  | cons {s s' : Slot} {l l' : List Slot} : CvS σ r ls s s' → CvL σ r ls l l' → CvL σ r ls (s :: l) (s' :: l')
end
inductive SubG (σ : AS) (r : Nat → Nat) (ls : List Nat) : List (Nat × Slot) → Prop
  | nil : SubG σ r ls []
  | cons {t : Nat} {s s' : Slot} {g : List (Nat × Slot)} : lk σ.g t = some s → CvS σ r ls s s' → SubG σ r ls g → SubG σ r ls ((t, s') :: g)
inductive SubD (σ : AS) (r : Nat → Nat) (ls : List Nat) : List (Nat × Ent) → Prop
  | nil : SubD σ r ls []
  | box {i : Nat} {T : TypeId} {l l' : List Slot} {pb : Option Nat} {d : List (Nat × Ent)} : lkE σ.d (r i) = some (.box T l pb) → CvL σ r ls l l' → SubD σ r ls d → SubD σ r ls ((i, .box T l' pb) :: d)
  | boxU {i : Nat} {T : TypeId} {l l' : List Slot} {pb : Option Nat} {d : List (Nat × Ent)} : lkE σ.d (r i) = some (.box T l pb) → CvL σ r ls l l' → SubD σ r ls d → SubD σ r ls ((i, .box T l' none) :: d)
  | arr {α : Type} {i : Nat} {T : TypeId} {e : Enc α} {xs : List α} {d : List (Nat × Ent)} : lkE σ.d (r i) = some (.arr T e xs) → SubD σ r ls d → SubD σ r ls ((i, .arr T e xs) :: d)
  | mp {α β : Type} {i : Nat} {e : Enc α} {f : Enc β} {m : List (α × β)} {d : List (Nat × Ent)} : lkE σ.d (r i) = some (.mp e f m) → SubD σ r ls d → SubD σ r ls ((i, .mp e f m) :: d)
  | dp {α : Type} {i : Nat} {D : DE α} {x : α} {l : List Nat} {d : List (Nat × Ent)} : lkE σ.d (r i) = some (.dp D x (l.map r)) → SubD σ r ls d → SubD σ r ls ((i, .dp D x l) :: d)
  | cv {i : Nat} {en en' : Ent} {d : List (Nat × Ent)} : lkE σ.d (r i) = some en → EntCv en en' → SubD σ r ls d → SubD σ r ls ((i, en') :: d)
def injB (r : Nat → Nat) : List Nat → Bool
  | [] => true
  | i :: l => l.all (fun j => !Nat.beq (r j) (r i)) && injB r l

theorem injB_spec {r : Nat → Nat} : ∀ {l : List Nat}, injB r l = true → ∀ i ∈ l, ∀ j ∈ l, r i = r j → i = j
  | [], _, i, hi, _, _, _ => by simp at hi
  | x :: l, h, i, hi, j, hj, hij => by
    simp only [injB, Bool.and_eq_true, List.all_eq_true] at h
    obtain ⟨h1, h2⟩ := h
    rcases List.mem_cons.1 hi with e | hi'
    · rcases List.mem_cons.1 hj with e' | hj'
      · rw [e, e']
      · have := h1 j hj'; rw [← e, hij] at this; simp at this
    · rcases List.mem_cons.1 hj with e' | hj'
      · have := h1 i hi'; rw [← e', hij] at this; simp at this
      · exact injB_spec h2 i hi' j hj' hij

section
variable {F : Frm} {σ : AS} {pb : Option Nat} {r : Nat → Nat} {ls : List Nat} {ρ : Nat → LV} {w : World} {d' : List (Nat × Ent)}
theorem arr_sl {α : Type} {e : Enc α} {xs : List α} {T : TypeId} {ρ S S' w u} (h : (Ent.arr T e xs).ok ρ S w u) (hE : Ext S S' w w) (hb : ∀ b, Has u b → ¬ S' b) : (Enc.sl e).ok xs S' w [u.v] := by
  rcases h with ⟨rfl, h0⟩ | ⟨b, cap, pre, cs, post, h0, h1, h2, h3, h4, h5⟩ <;> rw [h0]
  · exact ⟨none, 0, rfl, by simp, .inl rfl⟩
  · refine ⟨_, cap, rfl, ⟨h3, by omega⟩, .inr ⟨b, _, cs, rfl, ?_, hb b (.inl (by rw [h0]; rfl)), ?_, Enc.okL_mono h2 hE⟩⟩
    · exact (MemAt.of_heap h1).lt
    · have := (MemAt.of_heap h1).sub; simpa using this
mutual
theorem CvS.spec (hc : Core F σ.d ρ w) (hE : Ext (Un F.S0 ρ σ.d) (Un F.S0 (fun i => ρ (r i)) d') w w) (hn : ∀ j en, lkE σ.d j = some en → ls.all (fun i => !Nat.beq (r i) j) = true → ∀ b, Has (ρ j) b → ¬ Un F.S0 (fun i => ρ (r i)) d' b) :
    ∀ {s s' : Slot}, CvS σ r ls s s' → (∀ u, s.ok ρ (Un F.S0 ρ σ.d) w u → s'.ok (fun i => ρ (r i)) (Un F.S0 (fun i => ρ (r i)) d') w u) ∧
      (∀ cs, s.okc ρ (Un F.S0 ρ σ.d) w cs → s'.okc (fun i => ρ (r i)) (Un F.S0 (fun i => ρ (r i)) d') w cs)
  | _, s', .same => ⟨fun u h => Slot.ok_mono s' u ((ok_map s' u).1 h) hE (fun _ _ => rfl), fun cs h => Slot.okc_mono s' cs ((okc_map s' cs).1 h) hE (fun _ _ => rfl)⟩
  | _, _, .frz (j := j) h1 h2 => by
    have key := arr_sl (hc.own j _ h1) hE (hn j _ h1 h2)
    refine ⟨fun u h => ?_, fun cs h => ?_⟩
    · simp only [Slot.ok] at h ⊢
      rw [h.2]; exact ⟨_, key, rfl⟩
    · simp only [Slot.okc] at h ⊢
      rw [h.2]; exact key
  | _, _, .agg hl => by
    refine ⟨fun u h => ?_, fun cs h => by simp [Slot.okc] at h⟩
    simp only [Slot.ok] at h ⊢
    obtain ⟨cs, h1, h2⟩ := h
    exact ⟨cs, h1, (CvL.spec hc hE hn hl).1 cs h2⟩
  | _, _, .pack hl hs ha => by
    refine ⟨fun u h => ?_, fun cs h => by simp [Slot.okc] at h⟩
    simp only [Slot.ok] at h ⊢
    obtain ⟨cs, h1, h2⟩ := h
    exact ⟨cs, (hs _ _ _ cs).1 ((CvL.spec hc hE hn hl).1 cs h2), by rw [h1]; simp [Enc.pk, ha]⟩
  | _, _, .frzP (j := j) h1 h2 hl hs => by
    obtain ⟨⟨b, cs, k1, k2, k3⟩, _⟩ := hc.own j _ h1
    have k4 := hn j _ h1 h2 b (.inl (by rw [k1]; rfl))
    have k5 := (hs _ _ _ cs).1 ((CvL.spec hc hE hn hl).1 cs k3)
    have k6 : b < w.heap.size := (Array.getElem?_eq_some_iff.1 k2).1
    refine ⟨fun u h => ?_, fun cs' h => ?_⟩
    · simp only [Slot.ok] at h ⊢
      refine ⟨b, 0, cs, ?_, k6, k4, MemAt.of_heap k2, k5⟩
      rw [h.2, k1]; rfl
    · simp only [Slot.okc] at h ⊢
      refine ⟨b, 0, cs, ?_, k6, k4, MemAt.of_heap k2, k5⟩
      rw [h.2, k1]; rfl
  | _, _, .fnc hl => by
    refine ⟨fun u h => ?_, fun cs h => ?_⟩
    · simp only [Slot.ok] at h ⊢
      obtain ⟨vs, h1, h2⟩ := h
      exact ⟨vs, h1, (CvL.spec hc hE hn hl).2 vs h2⟩
    · simp only [Slot.okc] at h ⊢
      obtain ⟨vs, h1, h2⟩ := h
      exact ⟨vs, h1, (CvL.spec hc hE hn hl).2 vs h2⟩
  | _, _, .frzD (j := j) h1 h2 hf => by
    obtain ⟨key, hp⟩ := hf _ _ _ _ (hc.own j _ h1) hE (hn j _ h1 h2)
    refine ⟨fun u h => ?_, fun cs h => ?_⟩
    · simp only [Slot.ok] at h ⊢
      rw [h.2]; exact ⟨_, key, hp.symm⟩
    · simp only [Slot.okc] at h ⊢
      rw [h.2]; exact key
  | _, _, .enc (f := f) h hp => by
    refine ⟨fun u hu => ?_, fun cs hc => ?_⟩
    · simp only [Slot.ok] at hu ⊢
      obtain ⟨cs, h1, h2⟩ := hu
      exact Enc.val_mono ⟨cs, h _ _ _ h1, by rw [h2, hp]⟩ hE
    · simp only [Slot.okc] at hc ⊢
      exact f.mono (h _ _ _ hc) hE
theorem CvL.spec (hc : Core F σ.d ρ w) (hE : Ext (Un F.S0 ρ σ.d) (Un F.S0 (fun i => ρ (r i)) d') w w) (hn : ∀ j en, lkE σ.d j = some en → ls.all (fun i => !Nat.beq (r i) j) = true → ∀ b, Has (ρ j) b → ¬ Un F.S0 (fun i => ρ (r i)) d' b) :
    ∀ {l l' : List Slot}, CvL σ r ls l l' → (∀ cs, Slot.okl ρ (Un F.S0 ρ σ.d) w l cs → Slot.okl (fun i => ρ (r i)) (Un F.S0 (fun i => ρ (r i)) d') w l' cs) ∧ (∀ vs, Slot.okv ρ (Un F.S0 ρ σ.d) w l vs → Slot.okv (fun i => ρ (r i)) (Un F.S0 (fun i => ρ (r i)) d') w l' vs)
  | _, _, .nil => ⟨fun cs h => h, fun vs h => h⟩
  | _, _, .cons hs hl => ⟨fun cs h => by
    simp only [Slot.okl] at h ⊢
    obtain ⟨c, d, h1, h2, h3⟩ := h
    exact ⟨c, d, h1, (CvS.spec hc hE hn hs).2 c h2, (CvL.spec hc hE hn hl).1 d h3⟩, fun vs h => by
    simp only [Slot.okv] at h ⊢
    obtain ⟨u, vs', h1, h2, h3⟩ := h
    exact ⟨u, vs', h1, (CvS.spec hc hE hn hs).1 u h2, (CvL.spec hc hE hn hl).2 vs' h3⟩⟩
end

theorem SubG.spec {g : List (Nat × Slot)} (h : SubG σ r ls g) : ∀ t s', lk g t = some s' → ∃ s, lk σ.g t = some s ∧ CvS σ r ls s s' := by
  induction h with
  | nil => intro t s h; simp [lk] at h
  | cons h1 h2 _ ih =>
    rename_i t0 s0 s0' g0 _
    intro t s h
    simp only [lk] at h
    cases hb : Nat.beq t0 t with
    | true => have := Nat.eq_of_beq_eq_true hb; subst this; rw [hb] at h; simp at h; subst h; exact ⟨_, h1, h2⟩
    | false => rw [hb] at h; exact ih t s h
theorem SubD.spec {d : List (Nat × Ent)} (h : SubD σ r ls d) : ∀ i en', lkE d i = some en' → (∃ T l l' pb pb', lkE σ.d (r i) = some (.box T l pb) ∧ en' = .box T l' pb' ∧ (∀ c, pb' = some c → pb = some c) ∧ CvL σ r ls l l') ∨ ∃ en, lkE σ.d (r i) = some en ∧ ∀ ρ S S' w u, en.ok ρ S w u → Ext S S' w w → en'.ok (fun i => ρ (r i)) S' w u := by
  induction h with
  | nil => intro t s h; simp [lkE] at h
  | box h1 h2 _ ih =>
    rename_i i0 T l l' pb d0 _
    intro t s h
    simp only [lkE] at h
    cases hb : Nat.beq i0 t with
    | true => have := Nat.eq_of_beq_eq_true hb; subst this; rw [hb] at h; simp at h; subst h; exact .inl ⟨T, l, l', pb, pb, h1, rfl, fun _ h => h, h2⟩
    | false => rw [hb] at h; exact ih t s h
  | boxU h1 h2 _ ih =>
    rename_i i0 T l l' pb d0 _
    intro t s h
    simp only [lkE] at h
    cases hb : Nat.beq i0 t with
    | true => have := Nat.eq_of_beq_eq_true hb; subst this; rw [hb] at h; simp at h; subst h; exact .inl ⟨T, l, l', pb, none, h1, rfl, (fun _ h => (by cases h)), h2⟩
    | false => rw [hb] at h; exact ih t s h
  | arr h1 _ ih =>
    rename_i α i0 T e xs d0 _
    intro t s h
    simp only [lkE] at h
    cases hb : Nat.beq i0 t with
    | true =>
      have := Nat.eq_of_beq_eq_true hb; subst this; rw [hb] at h; simp at h; subst h
      exact .inr ⟨_, h1, fun ρ S S' w u h hE => Ent.ok_mono h hE (fun _ hj => by simp [Ent.lab] at hj) (fun _ _ => rfl)⟩
    | false => rw [hb] at h; exact ih t s h
  | mp h1 _ ih =>
    rename_i α β i0 e f m d0 _
    intro t s h
    simp only [lkE] at h
    cases hb : Nat.beq i0 t with
    | true =>
      have := Nat.eq_of_beq_eq_true hb; subst this; rw [hb] at h; simp at h; subst h
      exact .inr ⟨_, h1, fun ρ S S' w u h hE => Ent.ok_mono h hE (fun _ hj => by simp [Ent.lab] at hj) (fun _ _ => rfl)⟩
    | false => rw [hb] at h; exact ih t s h
  | dp h1 _ ih =>
    rename_i α i0 D x l d0 _
    intro t s h
    simp only [lkE] at h
    cases hb : Nat.beq i0 t with
    | true =>
      have := Nat.eq_of_beq_eq_true hb; subst this; rw [hb] at h; simp at h; subst h
      refine .inr ⟨_, h1, fun ρ S S' w u h hE => ?_⟩
      have := D.mono h hE (fun _ _ => rfl)
      simp only [Ent.ok, List.map_map, Function.comp_def] at this ⊢; exact this
    | false => rw [hb] at h; exact ih t s h
  | cv h1 hv _ ih =>
    rename_i i0 en en' d0 _
    intro t s h
    simp only [lkE] at h
    cases hb : Nat.beq i0 t with
    | true =>
      have := Nat.eq_of_beq_eq_true hb; subst this; rw [hb] at h; simp at h; subst h
      exact .inr ⟨_, h1, fun ρ S S' w u h hE => Ent.ok_mono (hv.2 _ _ _ _ h) hE (fun _ hj => by rw [hv.1] at hj; simp at hj) (fun _ _ => rfl)⟩
    | false => rw [hb] at h; exact ih t s h

theorem Sub.mk {σ' : AS} (r : Nat → Nat) (hg : SubG σ r (σ'.d.map (·.1)) σ'.g) (hd : SubD σ r (σ'.d.map (·.1)) σ'.d) (hi : injB r (σ'.d.map (·.1)) = true) : Sub F σ σ' := by
  rintro a w ⟨⟨ρ, hc, hs⟩, hz, hde⟩
  have hdS := hd.spec
  have hin : ∀ i en, lkE σ'.d i = some en → ∃ en0, lkE σ.d (r i) = some en0 := fun i en h => by
    rcases hdS i en h with ⟨T, l, l', pb, _, h1, _⟩ | ⟨_, h1, _⟩
    · exact ⟨_, h1⟩
    · exact ⟨_, h1⟩
  have hmem : ∀ i en, lkE σ'.d i = some en → i ∈ σ'.d.map (·.1) := fun i en h => List.mem_map.2 ⟨_, lkE_mem h, rfl⟩
  have hU : ∀ b, Un F.S0 (fun i => ρ (r i)) σ'.d b → Un F.S0 ρ σ.d b := by
    rintro b (h | ⟨i, en, h1, h2⟩)
    · exact .inl h
    · obtain ⟨en0, h3⟩ := hin i en h1
      exact .inr ⟨r i, en0, h3, h2⟩
  have hE : Ext (Un F.S0 ρ σ.d) (Un F.S0 (fun i => ρ (r i)) σ'.d) w w := ⟨Nat.le_refl _, fun b _ hb => ⟨rfl, fun h => hb (hU b h)⟩⟩
  have hn : ∀ j en, lkE σ.d j = some en → (σ'.d.map (·.1)).all (fun i => !Nat.beq (r i) j) = true → ∀ b, Has (ρ j) b → ¬ Un F.S0 (fun i => ρ (r i)) σ'.d b := by
    intro j en hj hall b hb hU'
    rcases hU' with h | ⟨i, en', h1, h2⟩
    · have h1 := (hc.fresh j en b hj hb).1
      exact absurd h (hc.apart j en b hj hb)
    · obtain ⟨en0, h3⟩ := hin i en' h1
      have := hc.inj j (r i) en en0 b hj h3 hb h2
      have hq := List.all_eq_true.1 hall i (hmem i en' h1)
      rw [this] at hq; simp at hq
  refine ⟨⟨fun i => ρ (r i), ⟨hc.low, hc.size, hc.frame, hc.os, hc.tape, hc.output, ?_, ?_, ?_, ?_⟩, ?_⟩, hz, hde⟩
  · intro i en h
    rcases hdS i en h with ⟨T, l, l', pb, pb', h1, rfl, h0, h2⟩ | ⟨en0, h1, h2⟩
    · obtain ⟨⟨b, cs, k1, k2, k3⟩, k4⟩ := hc.own _ _ h1
      exact ⟨⟨b, cs, k1, k2, (CvL.spec hc hE hn h2).1 cs k3⟩, fun c hc' => k4 c (h0 c hc')⟩
    · exact h2 _ _ _ _ _ (hc.own _ _ h1) hE
  · intro i en b h hb
    obtain ⟨en0, h3⟩ := hin i en h
    exact hc.fresh (r i) en0 b h3 hb
  · intro i j en en' b h h' hb hb'
    obtain ⟨en0, h3⟩ := hin i en h
    obtain ⟨en1, h4⟩ := hin j en' h'
    exact injB_spec hi i (hmem i en h) j (hmem j en' h') (hc.inj _ _ _ _ b h3 h4 hb hb')
  · intro i en b h hb
    obtain ⟨en0, h3⟩ := hin i en h
    exact hc.apart (r i) en0 b h3 hb
  · intro t s' ht
    obtain ⟨s, h1, h2⟩ := hg.spec t s' ht
    exact (CvS.spec hc hE hn h2).1 _ (hs t s h1)
end

/-! ### calls -/
section
variable {F : Frm} {σ : AS} {pb : Option Nat} {d : Option Tmp} {ty : TypeId} {p : String} {af : Array Edge} {gd : Option (Nat × Bool)}

/-- an argument -/
def Arg (σ : AS) (lend : Bool) (x : Operand) (s : Slot) : Prop := ∀ ρ S a w, Know σ #[x] ρ S a w → s.ok ρ (if lend then fun _ => False else S) w (a.eval x)
theorem lend_ext (S : Nat → Prop) (w : World) (b : Bool) : Ext S (if b then fun _ => False else S) w w := by
  cases b
  · exact Ext.refl _ _
  · exact ⟨Nat.le_refl _, fun _ _ _ => ⟨rfl, fun h => h⟩⟩
theorem Arg.dir {lend : Bool} {x : Operand} {s : Slot} (h : evS σ.g x = some s) : Arg σ lend x s := fun ρ S a w K =>
  Slot.ok_mono s _ (K.slot x (by simp) s h) (lend_ext S w lend) (fun _ _ => rfl)
theorem Arg.ref {α : Type} {x : Operand} {i : Nat} {T : TypeId} {e : Enc α} {xs : List α} (h : evS σ.g x = some (.ref i)) (he : lkE σ.d i = some (.arr T e xs)) : Arg σ true x (.v (Enc.sl e) xs) := by
  intro ρ S a w K
  obtain ⟨h1, h2, _⟩ := K_ref K (x := x) (by simp) h he
  rw [h1]
  simp only [Slot.ok]
  exact ⟨_, arr_sl h2 (lend_ext S w true) (fun _ _ h => h), rfl⟩
/-- the parts of a struct, some of them lent -/
inductive ArgL (σ : AS) (lend : Bool) : List Slot → List Slot → Prop
  | nil : ArgL σ lend [] []
  | same {s : Slot} {l l' : List Slot} : ArgL σ lend l l' → ArgL σ lend (s :: l) (s :: l')
  | ref {α : Type} {i : Nat} {T : TypeId} {e : Enc α} {xs : List α} {l l' : List Slot} : lend = true → lkE σ.d i = some (.arr T e xs) → ArgL σ lend l l' → ArgL σ lend (.ref i :: l) (.v (Enc.sl e) xs :: l')
theorem ArgL.spec {lend : Bool} {l l' : List Slot} (h : ArgL σ lend l l') {ρ S w} (hent : ∀ i ∈ Slot.labs l, ∀ en, lkE σ.d i = some en → en.ok ρ S w (ρ i)) :
    ∀ cs, Slot.okl ρ S w l cs → Slot.okl ρ (if lend then fun _ => False else S) w l' cs := by
  induction h with
  | nil => intro cs h; exact h
  | same _ ih =>
    rename_i s l l' _
    intro cs h
    simp only [Slot.okl] at h ⊢
    obtain ⟨c, d, h1, h2, h3⟩ := h
    exact ⟨c, d, h1, Slot.okc_mono s c h2 (lend_ext S w lend) (fun _ _ => rfl), ih (fun i hi => hent i (by simp [Slot.labs, hi])) d h3⟩
  | ref hl he _ ih =>
    rename_i α i T e xs l l' _
    intro cs h
    simp only [Slot.okl, Slot.okc] at h ⊢
    obtain ⟨c, d, h1, h2, h3⟩ := h
    refine ⟨c, d, h1, ?_, ih (fun i hi => hent i (by simp [Slot.labs, hi])) d h3⟩
    rw [h2.2]
    subst hl
    exact arr_sl (hent i (by simp [Slot.labs, Slot.lab]) _ he) (lend_ext S w true) (fun _ _ h => h)
theorem Arg.agg {lend : Bool} {α : Type} {x : Operand} {l l' : List Slot} {e : Enc α} {z : α} (h : evS σ.g x = some (.agg l)) (hl : ArgL σ lend l l') (hs : Spl l' e z) (ha : e.agg = true) : Arg σ lend x (.v e z) := by
  intro ρ S a w K
  have h1 := K.slot x (by simp) _ h
  simp only [Slot.ok] at h1 ⊢
  obtain ⟨cs, h2, h3⟩ := h1
  refine ⟨cs, (hs _ _ _ cs).1 (hl.spec (fun i hi en he => (K.ent x (by simp) _ h i (by simpa [Slot.lab] using hi) en he).1) cs h3), ?_⟩
  rw [h2]; simp [Enc.pk, ha]

inductive Args (σ : AS) (lend : Bool) : List Operand → List Slot → Prop
  | nil : Args σ lend [] []
  | cons {x : Operand} {s : Slot} {xs : List Operand} {l : List Slot} : Arg σ lend x s → Args σ lend xs l → Args σ lend (x :: xs) (s :: l)
theorem Args.spec {lend : Bool} {xs : List Operand} {l : List Slot} (h : Args σ lend xs l) {ρ S a w} {ys : Array Operand} (hys : ∀ x ∈ xs, x ∈ ys) (K : Know σ ys ρ S a w) : Slot.okv ρ (if lend then fun _ => False else S) w l (xs.map a.eval) := by
  induction h with
  | nil => rfl
  | cons h1 _ ih =>
    rename_i x s xs l _
    simp only [List.map_cons, Slot.okv]
    refine ⟨_, _, rfl, h1 ρ S a w ⟨K.low, fun y hy s h => ?_, fun y hy s h => ?_⟩, ih fun y hy => hys y (List.mem_cons_of_mem _ hy)⟩
    · have : y = x := by simpa using hy
      subst this; exact K.slot y (hys y (by simp)) s h
    · have : y = x := by simpa using hy
      subst this; exact K.ent y (hys y (by simp)) s h

theorem run_call {P : Program} {f : FuncId} {xs : List Operand} {ts : Array TypeId} {a : Act} {w : World} (hcall : ∀ args w, (callFunc f args).run P w = .ok (.enter f args) w) :
    (execOp a.eval ⟨d, .call ⟨.value (.func f), xs.toArray, ts⟩, ty, p, af, gd⟩).run P w = .ok (.enter f (xs.map a.eval).toArray) w := by
  simp [execOp, resolve, Act.eval, Deferred.ofValue, invoke, hcall]

theorem JO.call {f : FuncId} {xs : List Operand} {ts : Array TypeId} {ss : List Slot} {res : Slot} {new : List (Nat × Ent)} (k : Nat) (hc : Con F.P f ss res new) (hcall : ∀ args w, (callFunc f args).run F.P w = .ok (.enter f args) w)
    (ha : Args σ false xs ss) (hcl : closed res new = true) :
    JO F ⟨d, .call ⟨.value (.func f), xs.toArray, ts⟩, ty, p, af, gd⟩ σ (res.map (· + k)) (mapE (· + k) new) := by
  intro ρ S a w K
  refine OpWp.enter (run_call hcall) ?_
  have := ha.spec (ys := (Op.call ⟨.value (.func f), xs.toArray, ts⟩).operands) (by intro x hx; simp [Op.operands, Call.operands, hx]) K
  refine (hc S w _ ρ K.low this).mono ?_
  rintro e w' ⟨v, rfl, h⟩
  exact ⟨v, rfl, h.shift k hcl⟩

/-- nothing of it hangs on memory that is not its own -/
def FlatS (s : Slot) : Prop := ∀ ρ S S' w u, s.ok ρ S w u → s.ok ρ S' w u
def FlatN (new : List (Nat × Ent)) : Prop := ∀ i en, lkE new i = some en → ∀ ρ S S' w u, en.ok ρ S w u → en.ok ρ S' w u
theorem CvS.of_eq {σ : AS} {r : Nat → Nat} {ls : List Nat} {s s' : Slot} (h : s = s'.map r) : CvS σ r ls s s' := by subst h; exact .same
theorem FlatS.v {α : Type} {e : Enc α} [FlatE e] {x : α} : FlatS (.v e x) := fun ρ S S' w u h => by
  simp only [Slot.ok] at h ⊢; obtain ⟨cs, h1, h2⟩ := h; exact ⟨cs, FlatE.flat h1, h2⟩
theorem FlatS.ref {i : Nat} : FlatS (.ref i) := fun ρ S S' w u h => by simpa only [Slot.ok] using h
inductive FlatL : List Slot → Prop
  | nil : FlatL []
  | v {α : Type} {e : Enc α} [FlatE e] {x : α} {l} : FlatL l → FlatL (.v e x :: l)
  | ref {i : Nat} {l} : FlatL l → FlatL (.ref i :: l)
  | agg {l l' : List Slot} : FlatL l' → FlatL l → FlatL (.agg l' :: l)
theorem FlatL.spec {l : List Slot} (h : FlatL l) : (∀ ρ S S' w vs, Slot.okv ρ S w l vs → Slot.okv ρ S' w l vs) ∧ (∀ ρ S S' w vs, Slot.okl ρ S w l vs → Slot.okl ρ S' w l vs) := by
  induction h with
  | nil => exact ⟨fun _ _ _ _ _ h => h, fun _ _ _ _ _ h => h⟩
  | v _ ih =>
    refine ⟨fun ρ S S' w vs h => ?_, fun ρ S S' w vs h => ?_⟩
    · simp only [Slot.okv] at h ⊢; obtain ⟨u, vs', h1, h2, h3⟩ := h; exact ⟨u, vs', h1, FlatS.v ρ S S' w u h2, ih.1 ρ S S' w _ h3⟩
    · simp only [Slot.okl, Slot.okc] at h ⊢; obtain ⟨u, vs', h1, h2, h3⟩ := h; exact ⟨u, vs', h1, FlatE.flat h2, ih.2 ρ S S' w _ h3⟩
  | ref _ ih =>
    refine ⟨fun ρ S S' w vs h => ?_, fun ρ S S' w vs h => ?_⟩
    · simp only [Slot.okv] at h ⊢; obtain ⟨u, vs', h1, h2, h3⟩ := h; exact ⟨u, vs', h1, FlatS.ref ρ S S' w u h2, ih.1 ρ S S' w _ h3⟩
    · simp only [Slot.okl, Slot.okc] at h ⊢; obtain ⟨u, vs', h1, h2, h3⟩ := h; exact ⟨u, vs', h1, h2, ih.2 ρ S S' w _ h3⟩
  | agg _ _ ih' ih =>
    refine ⟨fun ρ S S' w vs h => ?_, fun ρ S S' w vs h => ?_⟩
    · simp only [Slot.okv, Slot.ok] at h ⊢; obtain ⟨u, vs', h1, ⟨cs, h2, h2'⟩, h3⟩ := h; exact ⟨u, vs', h1, ⟨cs, h2, ih'.2 ρ S S' w _ h2'⟩, ih.1 ρ S S' w _ h3⟩
    · simp only [Slot.okl, Slot.okc] at h ⊢; obtain ⟨u, vs', h1, h2, h3⟩ := h; exact h2.elim
theorem FlatS.agg {l : List Slot} (h : FlatL l) : FlatS (.agg l) := fun ρ S S' w u k => by
  simp only [Slot.ok] at k ⊢; obtain ⟨cs, h1, h2⟩ := k; exact ⟨cs, h1, h.spec.2 ρ S S' w _ h2⟩
theorem FlatS.tup {l : List Slot} (h : FlatL l) : FlatS (.tup l) := fun ρ S S' w u k => by
  simp only [Slot.ok] at k ⊢; obtain ⟨cs, h1, h2⟩ := k; exact ⟨cs, h1, h.spec.1 ρ S S' w _ h2⟩
theorem FlatN.nil : FlatN [] := fun i en h => by simp [lkE] at h
theorem FlatN.arr {α : Type} {i : Nat} {T : TypeId} {e : Enc α} [FlatE e] {xs : List α} {r : List (Nat × Ent)} (h : FlatN r) : FlatN ((i, .arr T e xs) :: r) := by
  intro j en hj
  simp only [lkE] at hj
  cases hb : Nat.beq i j with
  | true =>
    rw [hb] at hj; simp at hj; subst hj
    intro ρ S S' w u h
    rcases h with h | ⟨b, cap, pre, cs, post, h1, h2, h3, h4⟩
    · exact .inl h
    · exact .inr ⟨b, cap, pre, cs, post, h1, h2, FlatE.okL h3, h4⟩
  | false => rw [hb] at hj; exact h j en hj

end
end Go.Sw

namespace Go.Sw
open Go Go.RowKit

def gput (d : Option Tmp) (s : Slot) (g : List (Nat × Slot)) : List (Nat × Slot) := match d with | some t => (t, s) :: g | none => g
/-- what an operation makes is apart from what others make -/
def aptB (s : Slot) (new : List (Nat × Ent)) (h : List (Slot × List (Nat × Ent))) : Bool :=
  h.all fun q => (new.all fun x => !q.1.lab.contains x.1 && q.2.all fun y => !Nat.beq y.1 x.1 && !y.2.lab.contains x.1) && q.2.all fun y => !s.lab.contains y.1 && new.all fun x => !x.2.lab.contains y.1
/-- operations that change nothing that was there, in the text's order; what they make is looked at by none of them -/
inductive JP (F : Frm) (ops : Array Oper) : List Oper → AS → List (Slot × List (Nat × Ent)) → AS → Prop
  | nil {σ : AS} {h : List (Slot × List (Nat × Ent))} : JP F ops [] σ h ⟨σ.g, h.flatMap (·.2) ++ σ.d⟩
  | cons {o : Oper} {os : List Oper} {σ σ' : AS} {s : Slot} {new : List (Nat × Ent)} {h : List (Slot × List (Nat × Ent))} : GK ops σ.g o true → JO F o σ s new → dstOk o.dst F.N = true → (σ.free new && aptB s new h) = true →
      JP F ops os ⟨gput o.dst s σ.g, σ.d⟩ ((s, new) :: h) σ' → JP F ops (o :: os) σ h σ'
  | left {o : Oper} {os : List Oper} {σ σ' : AS} {h : List (Slot × List (Nat × Ent))} : GK ops σ.g o false → dstOk o.dst F.N = true → JP F ops os ⟨gput o.dst .top σ.g, σ.d⟩ ((.top, []) :: h) σ' → JP F ops (o :: os) σ h σ'

def rd : Operand → List Nat
  | .tmp t => [t]
  | _ => []
/-- the slots that an operation looks at -/
def looks (ops : Array Oper) (o : Oper) : List Nat :=
  o.op.operands.toList.flatMap rd ++ (match o.guard with | some (g, _) => ((ops[g]?).bind (·.dst)).toList | none => [])
/-- the edges of an operation -/
def deps (o : Oper) : List Nat := o.after.toList.filterMap fun e => if Region.binds .any e then some e.on else none
/-- all that an operation waits for -/
def anc (ops : Array Oper) : Nat → Nat → List Nat
  | 0, _ => []
  | f + 1, i => match ops[i]? with | some o => (deps o).flatMap fun j => j :: anc ops f j | none => []

/-- operations wait for what is ahead of them alone -/
def backOk (ops : Array Oper) : Bool := (List.range ops.size).all fun i => match ops[i]? with | none => false | some o => (deps o).all fun j => decide (j < i)
/-- the first n operations each write a slot of their own, at which only those look that wait for them; the others wait for all that is ahead of them -/
def drawOk (ops : Array Oper) (n : Nat) : Bool :=
  (List.range ops.size).all fun i =>
    match ops[i]? with
    | none => false
    | some o =>
      if i < n then
        (match o.dst with
         | none => false
         | some t => (List.range n).all fun j =>
            match ops[j]? with
            | none => false
            | some o' => (j == i || o'.dst != some t) && (!(looks ops o').contains t || (decide (i < j) && (deps o').contains i)))
      else (List.range i).all fun j => (anc ops ops.size i).contains j

section
variable {F : Frm} {ops : Array Oper}

/-- what the i-th operation comes to, in the text's order -/
theorem JP.at {os : List Oper} {σ σ' : AS} {h : List (Slot × List (Nat × Ent))} (hp : JP F ops os σ h σ') : ∃ (gs : Nat → List (Nat × Slot)) (sl : Nat → Slot) (nw : Nat → List (Nat × Ent)), gs 0 = σ.g ∧ gs os.length = σ'.g ∧
    σ'.d = ((List.range os.length).reverse.flatMap nw) ++ (h.flatMap (·.2) ++ σ.d) ∧
    ∀ i o, os[i]? = some o → gs (i + 1) = gput o.dst (sl i) (gs i) ∧ dstOk o.dst F.N = true ∧ ((GK ops (gs i) o true ∧ JO F o ⟨gs i, σ.d⟩ (sl i) (nw i)) ∨ (GK ops (gs i) o false ∧ sl i = .top ∧ nw i = [])) ∧
      AS.free σ (nw i) = true ∧ aptB (sl i) (nw i) h = true ∧ ∀ j, j < i → aptB (sl i) (nw i) [(sl j, nw j)] = true := by
  induction hp with
  | nil => rename_i σ h; exact ⟨fun _ => σ.g, fun _ => .top, fun _ => [], rfl, rfl, by simp, fun i o h => by simp at h⟩
  | cons g j d ha _ ih =>
    rename_i o os σ σ' s new h _
    obtain ⟨gs, sl, nw, h1, h2, h3, h4⟩ := ih
    simp only [Bool.and_eq_true] at ha
    have hfree : ∀ n : List (Nat × Ent), AS.free ⟨gput o.dst s σ.g, σ.d⟩ n = true → AS.free σ n = true := by
      intro n hn
      refine List.all_eq_true.2 fun x hx => ?_
      have := List.all_eq_true.1 hn x hx
      simp only [Bool.and_eq_true] at this ⊢
      refine ⟨?_, this.2⟩
      have h1 := this.1
      cases hd : o.dst with
      | none => rw [hd] at h1; exact h1
      | some t => rw [hd] at h1; simp only [gput, List.all_cons, Bool.and_eq_true] at h1; exact h1.2
    refine ⟨fun | 0 => σ.g | i + 1 => gs i, fun | 0 => s | i + 1 => sl i, fun | 0 => new | i + 1 => nw i, rfl, h2, ?_, fun i o' h => ?_⟩
    · rw [h3]
      have hr : (List.range (o :: os).length).reverse.flatMap (fun | 0 => new | i + 1 => nw i) = (List.range os.length).reverse.flatMap nw ++ new := by
        rw [List.length_cons, List.range_succ_eq_map, List.reverse_cons, List.flatMap_append]
        simp [List.flatMap_map, ← List.map_reverse]
      show _ = (List.range (o :: os).length).reverse.flatMap (fun | 0 => new | i + 1 => nw i) ++ _
      rw [hr]; simp
    cases i with
    | zero =>
      simp at h; subst h
      exact ⟨h1, d, .inl ⟨g, j⟩, ha.1, ha.2, fun j hj => by omega⟩
    | succ i =>
      obtain ⟨k1, k2, k3, k4, k5, k6⟩ := h4 i o' (by simpa using h)
      simp only [aptB, List.all_cons, List.all_nil, Bool.and_true, Bool.and_eq_true] at k5
      refine ⟨k1, k2, k3, hfree _ k4, by simpa only [aptB, Bool.and_eq_true] using k5.2, fun j hj => ?_⟩
      cases j with
      | zero => simp only [aptB, List.all_cons, List.all_nil, Bool.and_true, Bool.and_eq_true]; exact k5.1
      | succ j => exact k6 j (by omega)
  | left g d _ ih =>
    rename_i o os σ σ' h _
    obtain ⟨gs, sl, nw, h1, h2, h3, h4⟩ := ih
    have hfree : ∀ n : List (Nat × Ent), AS.free ⟨gput o.dst .top σ.g, σ.d⟩ n = true → AS.free σ n = true := by
      intro n hn
      refine List.all_eq_true.2 fun x hx => ?_
      have := List.all_eq_true.1 hn x hx
      simp only [Bool.and_eq_true] at this ⊢
      refine ⟨?_, this.2⟩
      have h1 := this.1
      cases hd : o.dst with
      | none => rw [hd] at h1; exact h1
      | some t => rw [hd] at h1; simp only [gput, List.all_cons, Bool.and_eq_true] at h1; exact h1.2
    refine ⟨fun | 0 => σ.g | i + 1 => gs i, fun | 0 => .top | i + 1 => sl i, fun | 0 => [] | i + 1 => nw i, rfl, h2, ?_, fun i o' h => ?_⟩
    · rw [h3]
      have hr : (List.range (o :: os).length).reverse.flatMap (fun | 0 => [] | i + 1 => nw i) = (List.range os.length).reverse.flatMap nw ++ [] := by
        rw [List.length_cons, List.range_succ_eq_map, List.reverse_cons, List.flatMap_append]
        simp [List.flatMap_map, ← List.map_reverse]
      show _ = (List.range (o :: os).length).reverse.flatMap (fun | 0 => [] | i + 1 => nw i) ++ _
      rw [hr]; simp
    cases i with
    | zero =>
      simp at h; subst h
      exact ⟨h1, d, .inr ⟨g, rfl, rfl⟩, rfl, by simp [aptB, Slot.lab], fun j hj => by omega⟩
    | succ i =>
      obtain ⟨k1, k2, k3, k4, k5, k6⟩ := h4 i o' (by simpa using h)
      simp only [aptB, List.all_cons, List.all_nil, Bool.and_true, Bool.and_eq_true] at k5
      refine ⟨k1, k2, k3, hfree _ k4, by simpa only [aptB, Bool.and_eq_true] using k5.2, fun j hj => ?_⟩
      cases j with
      | zero => simp only [aptB, List.all_cons, List.all_nil, Bool.and_true, Bool.and_eq_true]; exact k5.1
      | succ j => exact k6 j (by omega)

/-- which operations are done: what they wait for is done -/
def Down (ops : Array Oper) (L : Nat → Bool) : Prop := ∀ i o, L i = true → ops[i]? = some o → ∀ j ∈ deps o, L j = true
theorem Down.anc {L : Nat → Bool} (h : Down ops L) : ∀ f i, L i = true → ∀ j ∈ Sw.anc ops f i, L j = true
  | 0, _, _, j, hj => by simp [Sw.anc] at hj
  | f + 1, i, hi, j, hj => by
    simp only [Sw.anc] at hj
    cases ho : ops[i]? with
    | none => rw [ho] at hj; simp at hj
    | some o =>
      rw [ho] at hj
      simp only [List.mem_flatMap] at hj
      obtain ⟨k, hk, hj⟩ := hj
      rcases List.mem_cons.1 hj with rfl | hj
      · exact h i o hi ho _ hk
      · exact Down.anc h f k (h i o hi ho k hk) j hj

theorem drawOk_pure {n : Nat} (h : drawOk ops n = true) {i : Nat} {o : Oper} (hi : i < n) (ho : ops[i]? = some o) : ∃ t, o.dst = some t ∧ ∀ j o', j < n → ops[j]? = some o' → (j = i ∨ o'.dst ≠ some t) ∧ (t ∈ looks ops o' → i < j ∧ i ∈ deps o') := by
  have hlt : i < ops.size := by
    rcases Nat.lt_or_ge i ops.size with h | h
    · exact h
    · simp [Array.getElem?_eq_none h] at ho
  have := List.all_eq_true.1 h i (List.mem_range.2 hlt)
  simp only [ho, hi, if_true] at this
  cases hd : o.dst with
  | none => rw [hd] at this; cases this
  | some t =>
    rw [hd] at this
    simp only at this
    refine ⟨t, rfl, fun j o' hj ho' => ?_⟩
    have := List.all_eq_true.1 this j (List.mem_range.2 hj)
    simp only [ho', Bool.and_eq_true, Bool.or_eq_true, beq_iff_eq, bne_iff_ne, Bool.not_eq_true', List.contains_eq_mem, decide_eq_false_iff_not, decide_eq_true_eq] at this
    refine ⟨this.1, fun hl => ?_⟩
    rcases this.2 with h | h
    · exact absurd hl h
    · exact h
theorem drawOk_tail {n : Nat} (h : drawOk ops n = true) {i : Nat} {o : Oper} (hi : ¬ i < n) (ho : ops[i]? = some o) {j : Nat} (hj : j < i) : j ∈ anc ops ops.size i := by
  have hlt : i < ops.size := by
    rcases Nat.lt_or_ge i ops.size with h | h
    · exact h
    · simp [Array.getElem?_eq_none h] at ho
  have := List.all_eq_true.1 h i (List.mem_range.2 hlt)
  simp only [ho, hi, if_false] at this
  have := List.all_eq_true.1 this j (List.mem_range.2 hj)
  simpa using this

/-- what the operations that are done have made, and what was there -/
def dL (n : Nat) (nw : Nat → List (Nat × Ent)) (d : List (Nat × Ent)) (L : Nat → Bool) : List (Nat × Ent) := ((List.range n).filter L).flatMap nw ++ d
theorem lkE_fm {nw : Nat → List (Nat × Ent)} {d : List (Nat × Ent)} {l : Nat} {en : Ent} : ∀ {is : List Nat}, lkE (is.flatMap nw ++ d) l = some en → (∃ i ∈ is, lkE (nw i) l = some en) ∨ lkE d l = some en
  | [], h => .inr (by simpa using h)
  | i :: is, h => by
    rw [List.flatMap_cons, List.append_assoc, lkE_append] at h
    cases hx : lkE (nw i) l with
    | some e => rw [hx] at h; simp at h; subst h; exact .inl ⟨i, List.mem_cons_self, hx⟩
    | none =>
      rw [hx] at h; simp at h
      rcases lkE_fm h with ⟨k, hk, h⟩ | h
      · exact .inl ⟨k, List.mem_cons_of_mem _ hk, h⟩
      · exact .inr h
theorem lkE_fm1 {nw : Nat → List (Nat × Ent)} {d : List (Nat × Ent)} {l : Nat} {en : Ent} {i : Nat} (he : lkE (nw i) l = some en) : ∀ {is : List Nat}, i ∈ is → (∀ k ∈ is, k ≠ i → lkE (nw k) l = none) → lkE (is.flatMap nw ++ d) l = some en
  | [], h, _ => by simp at h
  | k :: is, h, hn => by
    rw [List.flatMap_cons, List.append_assoc, lkE_append]
    by_cases hk : k = i
    · subst hk; rw [he]; rfl
    · rw [hn k List.mem_cons_self hk]
      have : i ∈ is := by rcases List.mem_cons.1 h with h | h; exact absurd h.symm hk; exact h
      simpa using lkE_fm1 he this fun k hk => hn k (List.mem_cons_of_mem _ hk)
theorem lkE_fm0 {nw : Nat → List (Nat × Ent)} {d : List (Nat × Ent)} {l : Nat} {en : Ent} (he : lkE d l = some en) : ∀ {is : List Nat}, (∀ k ∈ is, lkE (nw k) l = none) → lkE (is.flatMap nw ++ d) l = some en
  | [], _ => by simpa using he
  | k :: is, hn => by
    rw [List.flatMap_cons, List.append_assoc, lkE_append, hn k List.mem_cons_self]
    simpa using lkE_fm0 he fun k hk => hn k (List.mem_cons_of_mem _ hk)
theorem Un.congr {S : Nat → Prop} {ρ : Nat → LV} {d d' : List (Nat × Ent)} (h : ∀ l en, lkE d l = some en ↔ lkE d' l = some en) : Un S ρ d = Un S ρ d' := by
  funext k
  refine propext ⟨fun hk => ?_, fun hk => ?_⟩
  · rcases hk with hk | ⟨i, en, h1, h2⟩
    · exact .inl hk
    · exact .inr ⟨i, en, (h i en).1 h1, h2⟩
  · rcases hk with hk | ⟨i, en, h1, h2⟩
    · exact .inl hk
    · exact .inr ⟨i, en, (h i en).2 h1, h2⟩
theorem Core.congr {d d' : List (Nat × Ent)} {ρ : Nat → LV} {w : World} (h : ∀ l en, lkE d l = some en ↔ lkE d' l = some en) (hc : Core F d ρ w) : Core F d' ρ w :=
  ⟨hc.low, hc.size, hc.frame, hc.os, hc.tape, hc.output, fun i en hi => by rw [← Un.congr h]; exact hc.own i en ((h i en).2 hi), fun i en b hi => hc.fresh i en b ((h i en).2 hi), fun i j en en' b hi hj => hc.inj i j en en' b ((h i en).2 hi) ((h j en').2 hj),
    fun i en b hi => hc.apart i en b ((h i en).2 hi)⟩
/-- what holds when some of the first operations are done -/
structure Half (F : Frm) (ops : Array Oper) (n : Nat) (g : List (Nat × Slot)) (d : List (Nat × Ent)) (sl : Nat → Slot) (nw : Nat → List (Nat × Ent)) (L : Nat → Bool) (a : Act) (w : World) : Prop where
  core : ∃ ρ, Core F (dL n nw d L) ρ w ∧ (∀ t s, lk g t = some s → (∀ i o, i < n → L i = true → ops[i]? = some o → o.dst ≠ some t) → s.ok ρ (Un F.S0 ρ (dL n nw d L)) w (a.tmps.getD t undef)) ∧
    (∀ i o t, i < n → L i = true → ops[i]? = some o → o.dst = some t → (sl i).ok ρ (Un F.S0 ρ (dL n nw d L)) w (a.tmps.getD t undef))
  size : a.tmps.size = F.N
  defers : a.defers = F.df

theorem Core.below {d : List (Nat × Ent)} {ρ : Nat → LV} {w w' : World} (hc : Core F d ρ w) (hb : Below w.heap.size w w') : Core F d ρ w' ∧ Ext (Un F.S0 ρ d) (Un F.S0 ρ d) w w' := by
  have hE : Ext (Un F.S0 ρ d) (Un F.S0 ρ d) w w' := Ext.of_below hb fun _ _ h => h
  exact ⟨⟨hc.low, Nat.le_trans hc.size hb.size, fun k hk hr => (hb.block k (Nat.lt_of_lt_of_le hk hc.size)).trans (hc.frame k hk hr), hb.os.trans hc.os, hb.tape.trans hc.tape, hb.output.trans hc.output,
    fun i en h => Ent.ok_mono (hc.own i en h) hE (fun _ _ => rfl) (fun b hb' => hb.block b (hc.fresh i en b h hb').2), fun i en b h hb' => ⟨(hc.fresh i en b h hb').1, Nat.lt_of_lt_of_le (hc.fresh i en b h hb').2 hb.size⟩, hc.inj, hc.apart⟩, hE⟩

theorem lk_cons {g : List (Nat × Slot)} {t u : Nat} {s : Slot} : lk ((t, s) :: g) u = if t = u then some s else lk g u := by
  simp only [lk]
  cases hb : Nat.beq t u with
  | true => have := Nat.eq_of_beq_eq_true hb; subst this; simp
  | false =>
    have : t ≠ u := fun e => by subst e; simp at hb
    simp [this]

/-- the slot of t ahead of the j-th operation -/
theorem lk_before {n : Nat} {os : List Oper} {gs : Nat → List (Nat × Slot)} {sl : Nat → Slot} (hos : ∀ i, i < n → os[i]? = ops[i]?) (hst : ∀ i o, os[i]? = some o → gs (i + 1) = gput o.dst (sl i) (gs i)) :
    ∀ j, j ≤ n → n ≤ os.length → ∀ t s, lk (gs j) t = some s → (∃ i o, i < j ∧ ops[i]? = some o ∧ o.dst = some t ∧ ∃ i' o', i ≤ i' ∧ i' < j ∧ ops[i']? = some o' ∧ o'.dst = some t ∧ s = sl i') ∨
      (lk (gs 0) t = some s ∧ ∀ i o, i < j → ops[i]? = some o → o.dst ≠ some t)
  | 0, _, _, t, s, h => .inr ⟨h, fun i o hi => by omega⟩
  | j + 1, hj, hn, t, s, h => by
    have hlt : j < os.length := by omega
    have ho : os[j]? = some os[j] := List.getElem?_eq_getElem hlt
    have ho' : ops[j]? = some os[j] := by rw [← hos j (by omega)]; exact ho
    rw [hst j _ ho] at h
    simp only [gput] at h
    by_cases hd : os[j].dst = some t
    · rw [hd] at h
      rw [lk_cons, if_pos rfl] at h
      exact .inl ⟨j, _, by omega, ho', hd, j, _, Nat.le_refl _, by omega, ho', hd, by simpa using h.symm⟩
    · have h' : lk (gs j) t = some s := by
        cases hq : os[j].dst with
        | none => rw [hq] at h; exact h
        | some u =>
          rw [hq] at h
          have : u ≠ t := fun e => by subst e; exact hd hq
          rw [lk_cons, if_neg this] at h; exact h
      rcases lk_before hos hst j (by omega) hn t s h' with ⟨i, o, h1, h2, h3, i', o', h4, h5, h6, h7, h8⟩ | ⟨h1, h2⟩
      · exact .inl ⟨i, o, by omega, h2, h3, i', o', h4, by omega, h6, h7, h8⟩
      · refine .inr ⟨h1, fun i o hi hoi => ?_⟩
        rcases Nat.lt_or_ge i j with h | h
        · exact h2 i o h hoi
        · have : i = j := by omega
          subst this
          rw [ho'] at hoi; cases hoi; exact hd

theorem count_add (m i : Nat) (L : Nat → Bool) (hi : i < m) (hL : L i = false) : ((List.range m).filter fun q => q == i || L q).length = ((List.range m).filter fun q => L q).length + 1 := by
  induction m with
  | zero => omega
  | succ m ih =>
    rw [List.range_succ, List.filter_append, List.filter_append, List.length_append, List.length_append]
    by_cases him : i = m
    · subst him
      have : ((List.range i).filter fun q => q == i || L q) = (List.range i).filter fun q => L q := by
        refine List.filter_congr fun q hq => ?_
        have := List.mem_range.1 hq
        have : (q == i) = false := by simp; omega
        simp [this]
      rw [this]; simp [hL]
    · rw [ih (by omega)]
      have : (m == i) = false := by simp; omega
      simp [List.filter_cons, this]
      split <;> simp <;> omega

theorem W.draw {id n : Nat} {l1 l2 : List Oper} {cs : List Code} {σ σ1 σ' : AS} {Q : Exit → Act → World → Prop} (hm : F.P.follows .mixedOrders = true) (hl : ops.toList = l1 ++ l2) (hn : l1.length = n)
    (hok : drawOk ops n = true) (hbk : backOk ops = true) (hp : JP F ops l1 σ [] σ1) (ht : J F ops l2 σ1 σ') (k : W F cs σ' Q) : W F (.region id ops true :: cs) σ Q := by
  intro a w hs
  obtain ⟨gs, sl, nw, s0, s1, hd1, hst⟩ := hp.at
  have hsz : ops.size = l1.length + l2.length := by rw [← Array.length_toList, hl, List.length_append]
  have hget : ∀ i : Nat, ops[i]? = (l1 ++ l2)[i]? := fun i => by rw [← hl]; exact (Array.getElem?_toList).symm
  have hos : ∀ i, i < n → l1[i]? = ops[i]? := fun i hi => by rw [hget, List.getElem?_append_left (by omega)]
  have hsto : ∀ i, i < n → ∃ o, l1[i]? = some o := fun i hi => ⟨l1[i], List.getElem?_eq_getElem (by omega)⟩
  -- what they make is apart
  have hfr : ∀ i, i < n → AS.free σ (nw i) = true := fun i hi => by obtain ⟨o, ho⟩ := hsto i hi; exact (hst i o ho).2.2.2.1
  have hap : ∀ i j, i < j → j < n → aptB (sl j) (nw j) [(sl i, nw i)] = true := fun i j hij hj => by obtain ⟨o, ho⟩ := hsto j hj; exact (hst j o ho).2.2.2.2.2 i hij
  have hdis : ∀ i j l e, i < n → j < n → i ≠ j → lkE (nw i) l = some e → lkE (nw j) l = none ∧ l ∉ (sl j).lab ∧ ∀ j' e', lkE (nw j) j' = some e' → l ∉ e'.lab := by
    intro i j l e hi hj hij he
    have hm := lkE_mem he
    rcases Nat.lt_or_ge i j with h | h
    · have := hap i j h hj
      simp only [aptB, List.all_cons, List.all_nil, Bool.and_true, Bool.and_eq_true, List.all_eq_true, Bool.not_eq_true'] at this
      obtain ⟨h1, h2⟩ := this
      refine ⟨?_, fun hc => ?_, fun j' e' hj' hc => ?_⟩
      · cases hx : lkE (nw j) l with
        | none => rfl
        | some e' =>
          have := ((h1 _ (lkE_mem hx)).2 _ hm).1
          simp at this
      · have := (h2 _ hm).1; simp at this; exact this hc
      · have := (h2 _ hm).2 _ (lkE_mem hj'); simp at this; exact this hc
    · have := hap j i (by omega) hi
      simp only [aptB, List.all_cons, List.all_nil, Bool.and_true, Bool.and_eq_true, List.all_eq_true, Bool.not_eq_true'] at this
      obtain ⟨h1, h2⟩ := this
      refine ⟨?_, fun hc => ?_, fun j' e' hj' hc => ?_⟩
      · cases hx : lkE (nw j) l with
        | none => rfl
        | some e' =>
          have := ((h1 _ hm).2 _ (lkE_mem hx)).1
          simp at this
      · have := (h1 _ hm).1; simp at this; exact this hc
      · have := ((h1 _ hm).2 _ (lkE_mem hj')).2; simp at this; exact this hc
  have hd0 : ∀ i l e, i < n → lkE (nw i) l = some e → lkE σ.d l = none := fun i l e hi he => (AS.free_spec (hfr i hi) he).2.1
  have hisE : ∀ (is : List Nat), (∀ i ∈ is, i < n) → ∀ l en, lkE (is.flatMap nw ++ σ.d) l = some en ↔ ((∃ i ∈ is, lkE (nw i) l = some en) ∨ lkE σ.d l = some en) := by
    intro is his l en
    refine ⟨lkE_fm, fun h => ?_⟩
    rcases h with ⟨i, hi, h⟩ | h
    · exact lkE_fm1 h hi fun k hk hne => (hdis i k l en (his i hi) (his k hk) (Ne.symm hne) h).1
    · refine lkE_fm0 h fun k hk => ?_
      cases hx : lkE (nw k) l with
      | none => rfl
      | some e => rw [hd0 k l e (his k hk) hx] at h; cases h
  have hdL : ∀ (L : Nat → Bool) l en, lkE (dL n nw σ.d L) l = some en ↔ ((∃ i, i < n ∧ L i = true ∧ lkE (nw i) l = some en) ∨ lkE σ.d l = some en) := by
    intro L l en
    unfold dL
    rw [hisE _ (fun i hi => List.mem_range.1 (List.mem_filter.1 hi).1)]
    constructor
    · rintro (⟨i, hi, h⟩ | h)
      · exact .inl ⟨i, List.mem_range.1 (List.mem_filter.1 hi).1, (List.mem_filter.1 hi).2, h⟩
      · exact .inr h
    · rintro (⟨i, hi, hL, h⟩ | h)
      · exact .inl ⟨i, List.mem_filter.2 ⟨List.mem_range.2 hi, hL⟩, h⟩
      · exact .inr h
  have hpure := fun {i : Nat} {o : Oper} (hi : i < n) (ho : ops[i]? = some o) => drawOk_pure hok hi ho
  have htail := fun {i : Nat} {o : Oper} (hi : ¬ i < n) (ho : ops[i]? = some o) {j : Nat} (hj : j < i) => drawOk_tail hok hi ho hj
  have hback : ∀ i o, i < ops.size → ops[i]? = some o → ∀ j ∈ deps o, j < i := by
    intro i o hi ho j hj
    have := List.all_eq_true.1 hbk i (List.mem_range.2 hi)
    simp only [ho] at this
    simpa using List.all_eq_true.1 this j hj
  have hwait : ∀ m o, n ≤ m → ops[m]? = some o → ∀ j ∈ deps o, j < ops.size ∧ decide (j < m) = true := by
    intro m o _ ho j hj
    have hlt : m < ops.size := by
      rcases Nat.lt_or_ge m ops.size with h | h
      · exact h
      · simp [Array.getElem?_eq_none h] at ho
    have := hback m o hlt ho j hj
    exact ⟨by omega, by simpa using this⟩
  -- all of the first are done
  have hfull : ∀ L a w, Half F ops n σ.g σ.d sl nw L a w → (∀ i, i < n → L i = true) → St F σ1 a w := by
    intro L a w h hall
    obtain ⟨⟨ρ, hc, h0, h1⟩, hz, hde⟩ := h
    have hcg : ∀ l en, lkE (dL n nw σ.d L) l = some en ↔ lkE σ1.d l = some en := by
      intro l en
      rw [hdL, hd1, hn]
      simp only [List.flatMap_nil, List.nil_append]
      rw [hisE _ (fun i hi => by simpa using hi)]
      constructor
      · rintro (⟨i, hi, hL, h⟩ | h)
        · exact .inl ⟨i, by simpa using hi, h⟩
        · exact .inr h
      · rintro (⟨i, hi, h⟩ | h)
        · exact .inl ⟨i, by simpa using hi, hall i (by simpa using hi), h⟩
        · exact .inr h
    refine ⟨⟨ρ, hc.congr hcg, fun t s hts => ?_⟩, hz, hde⟩
    rw [← Un.congr hcg]
    rw [← s1, hn] at hts
    rcases lk_before (ops := ops) (n := n) hos (fun i o h => (hst i o h).1) n (Nat.le_refl _) (by omega) t s hts with ⟨_, _, _, _, _, i', o', _, h5, h6, h7, rfl⟩ | ⟨h2, h3⟩
    · exact h1 i' o' t h5 (hall i' h5) h6 h7
    · rw [s0] at h2; exact h0 t s h2 fun i o hi _ ho => h3 i o hi ho
  -- one of them
  have hstep : ∀ L a w j o, Half F ops n σ.g σ.d sl nw L a w → j < n → ops[j]? = some o → L j = false → (∀ i ∈ deps o, L i = true) → ∀ K : Act → World → Prop,
      (∀ a' w', Half F ops n σ.g σ.d sl nw (fun i => i == j || L i) a' w' → K a' w') → wpOpIn F.fe 0 F.P ops (Exit.then (run F.fe F.P Q cs) Q) j K a w := by
    intro L a w j o h hj ho hLj hdep K hK
    have ho1 : l1[j]? = some o := by rw [hos j hj]; exact ho
    obtain ⟨hnext, hdst, hcase, hfree, _, _⟩ := hst j o ho1
    obtain ⟨⟨ρ, hc, h0, h1⟩, hz, hde⟩ := h
    obtain ⟨t, htd, hfresh⟩ := hpure hj ho
    -- what the operation looks at
    have hlook : ∀ u s, u ∈ looks ops o → lk (gs j) u = some s → s.ok ρ (Un F.S0 ρ (dL n nw σ.d L)) w (a.tmps.getD u undef) := by
      intro u s hu hs
      rcases lk_before (ops := ops) (n := n) hos (fun i o h => (hst i o h).1) j (by omega) (by omega) u s hs with ⟨_, _, _, _, _, i', o', _, h5, h6, h7, rfl⟩ | ⟨h2, h3⟩
      · obtain ⟨t', h8, h9⟩ := hpure (i := i') (by omega) h6
        rw [h7] at h8; cases h8
        exact h1 i' o' u (by omega) (hdep i' ((h9 j o hj ho).2 hu).2) h6 h7
      · rw [s0] at h2
        refine h0 u s h2 fun i o' hi hLi ho' hdu => ?_
        obtain ⟨t', h8, h9⟩ := hpure hi ho'
        rw [hdu] at h8; cases h8
        exact h3 i o' ((h9 j o hj ho).2 hu).1 ho' hdu
    have hcg : ∀ l en, lkE (nw j ++ dL n nw σ.d L) l = some en ↔ lkE (dL n nw σ.d fun i => i == j || L i) l = some en := by
      intro l en
      rw [hdL, lkE_append]
      constructor
      · intro h
        cases hx : lkE (nw j) l with
        | some e => rw [hx] at h; simp at h; subst h; exact .inl ⟨j, hj, by simp, hx⟩
        | none =>
          rw [hx] at h; simp at h
          rcases (hdL L l en).1 h with ⟨i, hi, hL, h⟩ | h
          · exact .inl ⟨i, hi, by simp [hL], h⟩
          · exact .inr h
      · rintro (⟨i, hi, hL, h⟩ | h)
        · by_cases hij : i = j
          · subst hij; rw [h]; rfl
          · rw [(hdis i j l en hi hj hij h).1]
            have : L i = true := by simpa [hij] using hL
            simpa using (hdL L l en).2 (.inl ⟨i, hi, this, h⟩)
        · cases hx : lkE (nw j) l with
          | some e => rw [hd0 j l e hj hx] at h; cases h
          | none => simpa using (hdL L l en).2 (.inr h)
    have hget2 : ∀ (v : Value) w', Res ρ (Un F.S0 ρ (dL n nw σ.d L)) w (sl j) (nw j) v w' → Half F ops n σ.g σ.d sl nw (fun i => i == j || L i) (a.put o.dst v) w' := by
      intro v w' hr
      obtain ⟨ρ', q1, q2, q3, q4⟩ := hr
      have hlt : t < a.tmps.size := by rw [hz]; rw [htd] at hdst; exact Nat.le_of_ble_eq_true hdst
      have hff : AS.free ⟨[], dL n nw σ.d L⟩ (nw j) = true := by
        refine List.all_eq_true.2 fun x hx => ?_
        have hx0 := (Bool.and_eq_true_iff.1 (List.all_eq_true.1 hfree x hx)).2
        refine Bool.and_eq_true_iff.2 ⟨rfl, List.all_eq_true.2 fun y hy => ?_⟩
        simp only [Bool.and_eq_true, Bool.not_eq_true']
        unfold dL at hy
        rcases List.mem_append.1 hy with hy | hy
        · obtain ⟨i, hi, hyi⟩ := List.mem_flatMap.1 hy
          have hin := List.mem_range.1 (List.mem_filter.1 hi).1
          have hLi := (List.mem_filter.1 hi).2
          have hij : i ≠ j := fun e => by subst e; rw [hLj] at hLi; cases hLi
          rcases Nat.lt_or_ge i j with h | h
          · have := hap i j h hj
            simp only [aptB, List.all_cons, List.all_nil, Bool.and_true, Bool.and_eq_true, List.all_eq_true, Bool.not_eq_true'] at this
            exact (this.1 x hx).2 y hyi
          · have := hap j i (by omega) hin
            simp only [aptB, List.all_cons, List.all_nil, Bool.and_true, Bool.and_eq_true, List.all_eq_true, Bool.not_eq_true'] at this
            refine ⟨?_, (this.2 x hx).2 y hyi⟩
            have := ((this.1 y hyi).2 x hx).1
            have hne : x.1 ≠ y.1 := fun e => by rw [e] at this; simp at this
            cases hb : Nat.beq y.1 x.1 with
            | false => rfl
            | true => exact absurd (Nat.eq_of_beq_eq_true hb).symm hne
        · have := List.all_eq_true.1 hx0 y hy; simpa using this
      obtain ⟨k1, k2, k3⟩ := hc.put (σ := ⟨[], dL n nw σ.d L⟩) rfl hff q1 q2 q4
      have hUc : Un F.S0 ρ' (dL n nw σ.d fun i => i == j || L i) = Un F.S0 ρ' (nw j ++ dL n nw σ.d L) := (Un.congr hcg).symm
      refine ⟨⟨ρ', k1.congr hcg, fun u s hus hno => ?_, fun i o' u hi hLi hoi hdu => ?_⟩, by rw [Act.size_put, hz], by rw [htd]; exact hde⟩
      · have hne : t ≠ u := fun e => by subst e; exact hno j o hj (by simp) ho htd
        rw [htd, Act.getD_put a t v u hlt, if_neg hne, hUc]
        refine Slot.ok_mono s _ (h0 u s hus fun i o' hi hLi => hno i o' hi (by simp [hLi])) k3 (fun l hl => congrArg LV.v (q1 l ?_))
        cases hy : lkE (nw j) l with
        | none => rfl
        | some e => exact absurd hl ((AS.free_spec hfree hy).1 u s hus)
      · rw [htd, Act.getD_put a t v u hlt, hUc]
        by_cases hij : i = j
        · subst hij
          rw [ho] at hoi; cases hoi
          rw [htd] at hdu; cases hdu
          rw [if_pos rfl]
          exact Slot.ok_mono _ _ q3 ⟨Nat.le_refl _, fun k _ h => ⟨rfl, fun hc => h ((k2 k).1 hc)⟩⟩ (fun _ _ => rfl)
        · have hne : t ≠ u := fun e => by
            subst e
            rcases (hfresh i o' hi hoi).1 with h | h
            · exact hij h
            · exact h hdu
          rw [if_neg hne]
          have hL : L i = true := by simpa [hij] using hLi
          refine Slot.ok_mono _ _ (h1 i o' u hi hL hoi hdu) k3 (fun l hl => congrArg LV.v (q1 l ?_))
          cases hy : lkE (nw j) l with
          | none => rfl
          | some e => exact absurd hl (hdis j i l e hj hi (Ne.symm hij) hy).2.1
    have hgw : ∀ b, GK ops (gs j) o b → Region.wanted o (yielded ops a.tmps) = b := fun b hg => wanted_of hg fun u x hex hx => by
      obtain ⟨g, want, h8, h9⟩ := hex
      exact hlook u _ (by simp [looks, h8, h9]) hx
    unfold wpOpIn
    rw [ho]
    rcases hcase with ⟨hg, hj'⟩ | ⟨hg, htop, hnw⟩
    · have hK' : Know ⟨gs j, σ.d⟩ o.op.operands ρ (Un F.S0 ρ (dL n nw σ.d L)) a w := by
        refine ⟨fun b hb => ?_, fun x hx s hxs => ?_, fun x hx s hxs i hi en he => ?_⟩
        · rcases hb with hb | ⟨i, en, h1, h2⟩
          · exact Nat.lt_of_lt_of_le (hc.low b hb) hc.size
          · exact (hc.fresh i en b h1 h2).2
        · cases x with
          | tmp u => exact hlook u s (by simp only [looks, List.mem_append, List.mem_flatMap]; exact .inl ⟨_, by simpa using hx, by simp [rd]⟩) hxs
          | const u => exact (cslot_ok hxs ρ _ w).1
          | global g => cases hxs
          | func f => cases hxs
        · have he' := (hdL L i en).2 (.inr he)
          exact ⟨hc.own i en he', fun b hb => ⟨.inr ⟨i, en, he', hb⟩, (hc.fresh i en b he' hb).2⟩⟩
      simp only [hgw true hg, if_true]
      exact (hj' ρ _ a w hK').wpIn fun v w' hr => hK _ _ (hget2 v w' hr)
    · simp only [hgw false hg, Bool.false_eq_true, if_false]
      refine ⟨fun _ _ => trivial, hK _ _ (hget2 undef w ?_)⟩
      rw [htop, hnw]; exact Res_top
  -- whatever order
  have hgetD : ∀ (listed : Array Bool) (L : Nat → Bool), listed.size = ops.size → (∀ i, i < ops.size → listed.getD i false = L i) → ∀ i d, i < ops.size → listed.getD i d = L i := by
    intro listed L hls hL i d hi
    have := hL i hi
    rw [Array.getD_eq_getD_getElem?] at this ⊢
    rw [Array.getElem?_eq_getElem (by omega)] at this ⊢
    simpa using this
  have hready : ∀ (listed : Array Bool) (L : Nat → Bool), listed.size = ops.size → (∀ i, i < ops.size → listed.getD i false = L i) → ∀ i, i ∈ Region.ready .any ops listed ↔
      (i < ops.size ∧ L i = false ∧ ∀ o, ops[i]? = some o → ∀ j ∈ deps o, j < ops.size ∧ L j = true) := by
    intro listed L hls hL i
    unfold Region.ready
    rw [List.mem_filter, List.mem_range]
    constructor
    · rintro ⟨h1, h2⟩
      simp only [Bool.and_eq_true, Bool.not_eq_true'] at h2
      obtain ⟨h2, h3⟩ := h2
      rw [hgetD listed L hls hL i true h1] at h2
      refine ⟨h1, h2, fun o ho j hj => ?_⟩
      rw [ho] at h3
      simp only [Option.map_some, Option.getD_some] at h3
      obtain ⟨e, he, hej⟩ := List.mem_filterMap.1 hj
      have he' : e ∈ o.after := by simpa using he
      have := Array.all_eq_true_iff_forall_mem.1 h3 e he'
      split at hej
      · rename_i hb
        cases hej
        rw [hb] at this
        simp only [Bool.not_true, Bool.false_or] at this
        rcases Nat.lt_or_ge e.on ops.size with hl | hl
        · rw [hgetD listed L hls hL _ _ hl] at this; exact ⟨hl, this⟩
        · rw [Array.getD_eq_getD_getElem?, Array.getElem?_eq_none (by omega)] at this; simp at this
      · cases hej
    · rintro ⟨h1, h2, h3⟩
      refine ⟨h1, ?_⟩
      have ho : ops[i]? = some ops[i] := Array.getElem?_eq_getElem h1
      simp only [Bool.and_eq_true, Bool.not_eq_true', hgetD listed L hls hL i true h1, h2, true_and, ho, Option.map_some, Option.getD_some]
      refine Array.all_eq_true_iff_forall_mem.2 fun e he => ?_
      cases hb : Region.binds .any e with
      | false => rfl
      | true =>
        have := h3 _ ho e.on (List.mem_filterMap.2 ⟨e, by simpa using he, by simp [hb]⟩)
        rw [hgetD listed L hls hL _ _ this.1, this.2]; rfl
  have hset : ∀ (listed : Array Bool) (L : Nat → Bool) (j : Nat), listed.size = ops.size → j < ops.size → (∀ i, i < ops.size → listed.getD i false = L i) → ∀ i, i < ops.size → (listed.setIfInBounds j true).getD i false = (i == j || L i) := by
    intro listed L j hls hj hL i hi
    by_cases hij : i = j
    · subst hij
      simp only [Array.getD_eq_getD_getElem?, Array.getElem?_setIfInBounds]
      simp [hls, hi]
    · rw [getD_set_ne false (Ne.symm hij), hL i hi]; simp [hij]
  have hB : ∀ fuel m (listed : Array Bool) a w, listed.size = ops.size → (∀ i, i < ops.size → listed.getD i false = decide (i < m)) → Down ops (fun i => decide (i < m)) → n ≤ m → m + fuel = ops.size →
      wpListIn F.fe 0 F.P ops (Exit.then (run F.fe F.P Q cs) Q) (ops.toList.drop m) a w → wpAnyIn F.fe 0 F.P .any ops (Exit.then (run F.fe F.P Q cs) Q) fuel listed a w := by
    intro fuel
    induction fuel with
    | zero =>
      intro m listed a w hls hlm _ hnm hmf hw
      refine ⟨List.eq_nil_iff_forall_not_mem.2 fun i hi => ?_, ?_⟩
      · obtain ⟨h1, h2, _⟩ := (hready listed _ hls hlm i).1 hi
        have : i < m := by omega
        simp [this] at h2
      · rw [List.drop_eq_nil_of_le (by rw [Array.length_toList]; omega)] at hw
        exact hw
    | succ fuel ih =>
      intro m listed a w hls hlm hdn hnm hmf hw
      have hmlt : m < ops.size := by omega
      have hom : ops[m]? = some ops[m] := Array.getElem?_eq_getElem hmlt
      have hmr : ∀ i ∈ Region.ready .any ops listed, i = m := by
        intro i hi
        obtain ⟨h1, h2, h3⟩ := (hready listed _ hls hlm i).1 hi
        have him : m ≤ i := by simpa using h2
        rcases Nat.lt_or_ge m i with hlt | hge
        · exfalso
          have ho : ops[i]? = some ops[i] := Array.getElem?_eq_getElem h1
          have hmem := htail (by omega) ho hlt
          have hs1 : ops.size = (ops.size - 1) + 1 := by omega
          rw [hs1] at hmem
          simp only [Sw.anc, ho] at hmem
          obtain ⟨j, hj, hmj⟩ := List.mem_flatMap.1 hmem
          have hjm := (h3 _ ho j hj).2
          rcases List.mem_cons.1 hmj with rfl | hmj
          · simp at hjm
          · have := hdn.anc _ j hjm m hmj
            simp at this
        · omega
      have hdrop : ops.toList.drop m = ops[m] :: ops.toList.drop (m + 1) := by
        rw [List.drop_eq_getElem_cons (by rw [Array.length_toList]; exact hmlt)]
        simp
      rw [hdrop] at hw
      refine ⟨fun hr => ?_, fun i hi => ?_⟩
      · exfalso
        -- m itself is ready: what it waits for is ahead of it
        have hnr : m ∉ Region.ready .any ops listed := by rw [hr]; simp
        refine hnr ((hready listed _ hls hlm m).2 ⟨hmlt, by simp, fun o ho j hj => ?_⟩)
        exact hwait m o hnm ho j hj
      · have := hmr i hi
        subst this
        obtain ⟨_, _, h3⟩ := (hready listed _ hls hlm i).1 hi
        have hdn' : Down ops (fun k => decide (k < i + 1)) := by
          intro k o hk ho j hj
          have hk : k < i + 1 := by simpa using hk
          rcases Nat.lt_or_ge k i with h | h
          · have := hdn k o (by simpa using h) ho j hj
            have : j < i := by simpa using this
            simp; omega
          · have : k = i := by omega
            subst this
            have := (h3 o ho j hj).2
            have : j < k := by simpa using this
            simp; omega
        have hnext : ∀ a w, wpListIn F.fe 0 F.P ops (Exit.then (run F.fe F.P Q cs) Q) (ops.toList.drop (i + 1)) a w → wpAnyIn F.fe 0 F.P .any ops (Exit.then (run F.fe F.P Q cs) Q) fuel (listed.setIfInBounds i true) a w := by
          intro a w hw
          refine ih (i + 1) _ a w (by simpa using hls) (fun j hj => ?_) hdn' (by omega) (by omega) hw
          rw [hset listed _ i hls hmlt hlm j hj]
          by_cases hji : j = i
          · subst hji; simp
          · have : (j < i + 1) ↔ j < i := by omega
            simp [hji, this]
        unfold wpOpIn
        rw [hom]
        unfold wpListIn at hw
        split at hw
        · rename_i hwant
          simp only [hwant, if_true]
          exact Oper.wpIn_mono hnext hw
        · rename_i hwant
          simp only [hwant]
          exact ⟨hw.1, hnext _ _ hw.2⟩
  have hA : ∀ fuel (listed : Array Bool) (L : Nat → Bool) a w, listed.size = ops.size → (∀ i, i < ops.size → listed.getD i false = L i) → Down ops L → (∀ i, L i = true → i < n) → ((List.range ops.size).filter fun i => L i).length + fuel = ops.size →
      Half F ops n σ.g σ.d sl nw L a w → wpAnyIn F.fe 0 F.P .any ops (Exit.then (run F.fe F.P Q cs) Q) fuel listed a w := by
    intro fuel
    induction fuel with
    | zero =>
      intro listed L a w hls hL hdn hLn hcnt h
      have hall : ∀ i, i < ops.size → L i = true := by
        have hc : ((List.range ops.size).filter fun i => L i).length = (List.range ops.size).length := by simpa using hcnt
        have := List.length_filter_eq_length_iff.1 hc
        exact fun i hi => this i (List.mem_range.2 hi)
      have hnn : ops.size = n := by
        rcases Nat.lt_or_ge n ops.size with h | h
        · have := hLn n (hall n h); omega
        · omega
      have hl2 : l2 = [] := List.eq_nil_of_length_eq_zero (by omega)
      refine ⟨List.eq_nil_iff_forall_not_mem.2 fun i hi => ?_, ?_⟩
      · obtain ⟨h1, h2, _⟩ := (hready listed _ hls hL i).1 hi
        rw [hall i h1] at h2; cases h2
      · have hst1 := hfull L a w h fun i hi => hall i (by omega)
        have := ht (Exit.then (run F.fe F.P Q cs) Q) [] a w hst1 (fun a' w' h' => wpListIn_nil (k a' w' h'))
        rw [hl2] at this
        exact this
    | succ fuel ih =>
      intro listed L a w hls hL hdn hLn hcnt h
      by_cases hall : ∀ i, i < n → L i = true
      · -- all of the first are done: the others, in the text's order
        have hst1 := hfull L a w h hall
        have hw := ht (Exit.then (run F.fe F.P Q cs) Q) [] a w hst1 (fun a' w' h' => wpListIn_nil (k a' w' h'))
        have hLd : L = fun i => decide (i < n) := by
          funext i
          cases hLi : L i with
          | true => simp [hLn i hLi]
          | false =>
            rcases Nat.lt_or_ge i n with h | h
            · rw [hall i h] at hLi; cases hLi
            · simp; omega
        have hcn : ((List.range ops.size).filter fun i => L i).length = n := by
          rw [hLd]
          have : ops.size = n + (ops.size - n) := by omega
          rw [this, List.range_add, List.filter_append]
          rw [List.filter_eq_self.2 (by intro i hi; simpa using List.mem_range.1 hi), List.filter_eq_nil_iff.2 (by intro i hi; simp at hi ⊢; omega)]
          simp
        refine hB (fuel + 1) n listed a w hls (fun i hi => by rw [hL i hi, hLd]) (by rw [← hLd]; exact hdn) (Nat.le_refl _) (by omega) ?_
        have : ops.toList.drop n = l2 := by rw [hl, ← hn]; simp
        rw [this]; simpa using hw
      · refine ⟨fun hr => ?_, fun i hi => ?_⟩
        · exfalso
          -- the least one that is not done is ready
          have hex : ∃ i, i < n ∧ L i = false := by
            refine Classical.byContradiction fun hno => hall fun i hi => ?_
            cases hLi : L i with
            | true => rfl
            | false => exact absurd ⟨i, hi, hLi⟩ hno
          obtain ⟨i, ⟨hi, hLi⟩, hmin⟩ : ∃ i, (i < n ∧ L i = false) ∧ ∀ j, j < i → L j = true := by
            obtain ⟨i, hi⟩ := hex
            induction i using Nat.strongRecOn with
            | _ i ihi =>
              by_cases hj : ∃ j, j < i ∧ L j = false
              · obtain ⟨j, h1, h2⟩ := hj; exact ihi j h1 ⟨by omega, h2⟩
              · refine ⟨i, hi, fun j hj' => ?_⟩
                cases hLj : L j with
                | true => rfl
                | false => exact absurd ⟨j, hj', hLj⟩ hj
          have hnr : i ∉ Region.ready .any ops listed := by rw [hr]; simp
          refine hnr ((hready listed _ hls hL i).2 ⟨by omega, hLi, fun o ho j hj => ?_⟩)
          have := hback i o (by omega) ho j hj
          exact ⟨by omega, hmin j this⟩
        · obtain ⟨h1, h2, h3⟩ := (hready listed _ hls hL i).1 hi
          have ho : ops[i]? = some ops[i] := Array.getElem?_eq_getElem h1
          have hin : i < n := by
            refine Classical.byContradiction fun hge => hall fun j hj => ?_
            have hmem := htail hge ho (j := j) (by omega)
            have hs1 : ops.size = (ops.size - 1) + 1 := by omega
            rw [hs1] at hmem
            simp only [Sw.anc, ho] at hmem
            obtain ⟨q, hq, hmq⟩ := List.mem_flatMap.1 hmem
            have hqm := (h3 _ ho q hq).2
            rcases List.mem_cons.1 hmq with rfl | hmq
            · exact hqm
            · exact hdn.anc _ q hqm j hmq
          refine hstep L a w i _ h hin ho h2 (fun j hj => (h3 _ ho j hj).2) _ fun a' w' h' => ?_
          refine ih _ _ a' w' (by simpa using hls) (hset listed L i hls h1 hL) ?_ ?_ ?_ h'
          · intro q o hq hoq j hj
            by_cases hqi : q = i
            · subst hqi; simp [(h3 o hoq j hj).2]
            · have : L q = true := by simpa [hqi] using hq
              simp [hdn q o this hoq j hj]
          · intro q hq
            by_cases hqi : q = i
            · omega
            · exact hLn q (by simpa [hqi] using hq)
          · have : ((List.range ops.size).filter fun q => q == i || L q).length = ((List.range ops.size).filter fun q => L q).length + 1 := count_add ops.size i L h1 h2
            omega
  refine wpIn_region_any hm ?_
  refine hA ops.size _ (fun _ => false) a _ (by simp) (fun i hi => by rw [Array.getD_eq_getD_getElem?, Array.getElem?_replicate, if_pos hi]; rfl) (fun _ _ h => by cases h) (fun _ h => by cases h) (by rw [List.filter_eq_nil_iff.2 (fun _ _ h => by cases h)]; simp) ?_
  obtain ⟨⟨ρ, hc, hsl⟩, hz, hde⟩ := hs
  have hb : Below w.heap.size w { w with drawn := w.drawn + 1 } := (Below.refl _ _).drew
  obtain ⟨hc', hE⟩ := hc.below hb
  have hd00 : dL n nw σ.d (fun _ => false) = σ.d := by unfold dL; rw [List.filter_eq_nil_iff.2 (fun _ _ h => by cases h)]; rfl
  exact ⟨⟨ρ, by rw [hd00]; exact hc', fun t s hts _ => by rw [hd00]; exact Slot.ok_mono s _ (hsl t s hts) hE (fun _ _ => rfl), fun _ _ _ _ h => by cases h⟩, hz, hde⟩
end
end Go.Sw

namespace Go.Sw
open Go Go.RowKit

theorem info_of {P : Program} {T : TypeId} {ti : TypeInfo} (h : ∀ w, (typeInfo T).run P w = .ok ti w) : P.info? T = some ti := by
  have := h default
  unfold typeInfo at this
  simp only [Sem.run_bind, run_program, Result.andThen_ok] at this
  cases hi : P.info? T with
  | none => rw [hi] at this; simp at this
  | some i => rw [hi] at this; simp at this; rw [this]
theorem under_of {P : Program} {T : TypeId} {de : TypeDesc} (h : ∀ w, (underlying T).run P w = .ok de w) : P.underlying T = some de := by
  have := h default
  unfold underlying at this
  simp only [Sem.run_bind, run_program, Result.andThen_ok] at this
  cases hi : P.underlying T with
  | none => rw [hi] at this; simp at this
  | some i => rw [hi] at this; simp at this; rw [this]
theorem size_of {P : Program} {T : TypeId} {ti : TypeInfo} {n : Nat} (h : ∀ w, (typeInfo T).run P w = .ok ti w) (hs : ∀ w, (sizeOf T).run P w = .ok n w) : ti.size = n := by
  have := hs default
  unfold sizeOf at this
  simp only [Sem.run_bind, h, Result.andThen_ok, Sem.run_pure, Result.ok.injEq, and_true] at this
  exact this

/-- one block, of ours, is another one then -/
structure Upd (b : Nat) (w w' : World) : Prop where
  size : w'.heap.size = w.heap.size
  other : ∀ k, k ≠ b → w'.heap[k]? = w.heap[k]?
  os : w'.os = w.os
  tape : w'.tape = w.tape
  output : w'.output = w.output
theorem Upd.setRow (w : World) (b : Nat) (cs : Array Value) : Upd b w (w.setRow b cs) := ⟨by simp [World.setRow], fun k h => setRow_other w b k cs h, rfl, rfl, rfl⟩

theorem lkE_cons {d : List (Nat × Ent)} {t u : Nat} {s : Ent} : lkE ((t, s) :: d) u = if t = u then some s else lkE d u := by
  simp only [lkE]
  cases hb : Nat.beq t u with
  | true => have := Nat.eq_of_beq_eq_true hb; subst this; simp
  | false =>
    have : t ≠ u := fun e => by subst e; simp at hb
    simp [this]

section
variable {F : Frm} {σ : AS}
theorem Core.upd {d : List (Nat × Ent)} {ρ : Nat → LV} {w w' : World} {i b : Nat} {en en' : Ent} (hc : Core F d ρ w) (hi : lkE d i = some en) (hb : Has (ρ i) b) (hu : Upd b w w')
    (hen : Ext (Un F.S0 ρ d) (Un F.S0 ρ d) w w' → en'.ok ρ (Un F.S0 ρ d) w' (ρ i)) : Core F ((i, en') :: d) ρ w' ∧ Ext (Un F.S0 ρ d) (Un F.S0 ρ ((i, en') :: d)) w w' := by
  have hU : ∀ k, Un F.S0 ρ ((i, en') :: d) k ↔ Un F.S0 ρ d k := by
    intro k
    constructor
    · rintro (h | ⟨j, e, h1, h2⟩)
      · exact .inl h
      · rw [lkE_cons] at h1
        split at h1
        · rename_i hij; subst hij; exact .inr ⟨i, en, hi, h2⟩
        · exact .inr ⟨j, e, h1, h2⟩
    · rintro (h | ⟨j, e, h1, h2⟩)
      · exact .inl h
      · by_cases hij : i = j
        · subst hij; exact .inr ⟨i, en', by rw [lkE_cons, if_pos rfl], h2⟩
        · exact .inr ⟨j, e, by rw [lkE_cons, if_neg hij]; exact h1, h2⟩
  have hUb : Un F.S0 ρ d b := .inr ⟨i, en, hi, hb⟩
  have hE0 : Ext (Un F.S0 ρ d) (Un F.S0 ρ d) w w' := ⟨by rw [hu.size]; exact Nat.le_refl _, fun k hk hn => ⟨hu.other k (fun e => by subst e; exact hn hUb), hn⟩⟩
  have hE : Ext (Un F.S0 ρ d) (Un F.S0 ρ ((i, en') :: d)) w w' := ⟨hE0.size, fun k hk hn => ⟨(hE0.keep k hk hn).1, fun h => hn ((hU k).1 h)⟩⟩
  have hE1 : Ext (Un F.S0 ρ d) (Un F.S0 ρ ((i, en') :: d)) w' w' := ⟨Nat.le_refl _, fun k hk hn => ⟨rfl, fun h => hn ((hU k).1 h)⟩⟩
  have hlab : ∀ j e, lkE ((i, en') :: d) j = some e → (j = i ∧ e = en') ∨ (j ≠ i ∧ lkE d j = some e) := by
    intro j e h
    rw [lkE_cons] at h
    split at h
    · rename_i hij; cases h; exact .inl ⟨hij.symm, rfl⟩
    · rename_i hij; exact .inr ⟨fun e => hij e.symm, h⟩
  have hin : ∀ j e, lkE ((i, en') :: d) j = some e → ∃ e', lkE d j = some e' := fun j e h => by
    rcases hlab j e h with ⟨rfl, _⟩ | ⟨_, h⟩
    · exact ⟨en, hi⟩
    · exact ⟨e, h⟩
  refine ⟨⟨hc.low, by rw [hu.size]; exact hc.size, fun k hk hr => ?_, hu.os.trans hc.os, hu.tape.trans hc.tape, hu.output.trans hc.output, fun j e h => ?_, fun j e k h hb' => ?_, fun j j' e e' k h h' hb1 hb2 => ?_, fun j e k h hb' => ?_⟩, hE⟩
  · have : k ≠ b := fun e => by
      subst e
      rcases (hc.fresh i en k hi hb).1 with h | h
      · omega
      · exact hr h
    rw [hu.other k this]; exact hc.frame k hk hr
  · rcases hlab j e h with ⟨rfl, rfl⟩ | ⟨hne, h⟩
    · exact Ent.ok_mono (hen hE0) hE1 (fun _ _ => rfl) (fun _ _ => rfl)
    · refine Ent.ok_mono (hc.own j e h) hE (fun _ _ => rfl) (fun k hk => hu.other k fun e' => hne ?_)
      subst e'; exact hc.inj j i e en k h hi hk hb
  · obtain ⟨e', h'⟩ := hin j e h
    rw [hu.size]; exact hc.fresh j e' k h' hb'
  · obtain ⟨e1, h1⟩ := hin j e h
    obtain ⟨e2, h2⟩ := hin j' e' h'
    exact hc.inj j j' e1 e2 k h1 h2 hb1 hb2
  · obtain ⟨e', h'⟩ := hin j e h
    exact hc.apart j e' k h' hb'

/-- what is stored, into memory of ours -/
theorem JM.of_upd {o : Oper} {i : Nat} {en en' : Ent} (hi : lkE σ.d i = some en) (hd : o.dst = none)
    (h : ∀ (ρ : Nat → LV) (a : Act) (w : World), Core F σ.d ρ w → (∀ t s, lk σ.g t = some s → s.ok ρ (Un F.S0 ρ σ.d) w (a.tmps.getD t undef)) → ∃ b w', Has (ρ i) b ∧ Upd b w w' ∧ (execOp a.eval o).run F.P w = .ok .skip w' ∧
      (Ext (Un F.S0 ρ σ.d) (Un F.S0 ρ σ.d) w w' → en'.ok ρ (Un F.S0 ρ σ.d) w' (ρ i))) : JM F o σ ⟨σ.g, (i, en') :: σ.d⟩ := by
  rintro a w ⟨⟨ρ, hc, hs⟩, hz, hde⟩
  obtain ⟨b, w', h1, h2, h3, h4⟩ := h ρ a w hc hs
  refine OpWp.skip h3 ?_
  obtain ⟨k1, k2⟩ := hc.upd hi h1 h2 h4
  rw [hd]
  exact ⟨⟨ρ, k1, fun t s ht => Slot.ok_mono s _ (hs t s ht) k2 (fun _ _ => rfl)⟩, hz, hde⟩
end
end Go.Sw

namespace Go.Sw
open Go Go.RowKit

section
variable {F : Frm} {σ : AS} {pb : Option Nat} {s : Slot} {d : Option Tmp} {ty : TypeId} {p : String} {af : Array Edge} {gd : Option (Nat × Bool)} {x y : Operand}

theorem ev_ok {ρ : Nat → LV} {a : Act} {w : World} (hs : ∀ t s, lk σ.g t = some s → s.ok ρ (Un F.S0 ρ σ.d) w (a.tmps.getD t undef)) (h : evS σ.g x = some s) : s.ok ρ (Un F.S0 ρ σ.d) w (a.eval x) := by
  cases x with
  | tmp t => exact hs t s h
  | const u => exact (cslot_ok h ρ _ w).1
  | global g => cases h
  | func f => cases h
theorem okc_one {ρ S w} {s : Slot} {cs : List Value} (h : s.okc ρ S w cs) : ∀ v ∈ cs, s ≠ .top → v.oneCell' = true := by
  intro v hv ht
  cases s <;> simp only [Slot.okc] at h
  case v e z => exact e.cell h v hv
  case ref i => obtain ⟨⟨a, l, c, h1⟩ | ⟨a, h1⟩, rfl⟩ := h <;> (simp at hv; rw [hv, h1]; rfl)
  case ptr i off => obtain ⟨⟨b, h1⟩, rfl⟩ := h; simp at hv; rw [hv, h1]; rfl
  case pel i off k n => obtain ⟨⟨b, h1⟩, rfl⟩ := h; simp at hv; rw [hv, h1]; rfl
  case el i k n off => obtain ⟨⟨b, o, l, c, h1⟩, rfl⟩ := h; simp at hv; rw [hv, h1]; rfl
  case asl i off lo n cap => obtain ⟨⟨b, h1⟩, rfl⟩ := h; simp at hv; rw [hv, h1]; rfl
  case esl i off n cap => obtain ⟨⟨b, o, l, c, h1⟩, rfl⟩ := h; simp at hv; rw [hv, h1]; rfl
  case sub i off n => obtain ⟨⟨a, l, c, h1⟩, c', o', h2, h2', rfl⟩ := h; simp at hv; rw [hv, h1]; cases a <;> rfl
  case pst e z => obtain ⟨b, off, ds, rfl, h1⟩ := h; simp at hv; rw [hv]; rfl
  case fnc g cap => obtain ⟨vs, rfl, h1⟩ := h; simp at hv; rw [hv]; rfl
  case top => exact absurd rfl ht

theorem run_storeVar {P : Program} {w : World} {U T : TypeId} {b off n : Nat} {v : Value} {a c e : List Value} (hS : ∀ w, (sizeOf U).run P w = .ok n w) (hn : v.cells.size = n) (hone : ∀ u ∈ v.cells.toList, u.oneCell' = true)
    (hb : w.heap[b]? = some (.cells (a ++ (c ++ e)).toArray T (0, 0))) (hoff : a.length = off) (hc : c.length = n) :
    (storeVar U ⟨b, off, none⟩ v).run P w = .ok () (w.setRow b (a ++ (v.cells.toList ++ e)).toArray) := by
  unfold storeVar
  simp only [Sem.run_bind, hS, Result.andThen_ok, hn, ne_eq, not_true_eq_false, if_false]
  have hvl : v.cells.toList.length = n := by simpa using hn
  have := run_storeCells_at P b off T v.cells.toList 0 _ w hb (by simp; omega) hone
  simp only [Nat.add_zero] at this
  have e1 : (a ++ (c ++ e)).take off = a := by rw [← hoff]; exact List.take_left
  have e2 : (a ++ (c ++ e)).drop (off + v.cells.toList.length) = e := by
    rw [← List.append_assoc]
    have : off + v.cells.toList.length = (a ++ c).length := by rw [List.length_append, hoff, hvl, hc]
    rw [this]; exact List.drop_left
  rw [e1, e2] at this
  simpa [List.append_assoc] using this

theorem run_store_of {P : Program} {a : Act} {w w' : World} {U : TypeId} {ad : Addr} (h2 : a.eval x = .pointer (some ad)) (hst : (storeVar U ad (a.eval y)).run P w = .ok () w') :
    (execOp a.eval ⟨d, .store U x y, ty, p, af, gd⟩).run P w = .ok .skip w' := by
  simp only [execOp, h2, Instr.storeAt, Instr.sureAddr, Sem.run_bind, Sem.run_pure, Result.andThen_ok, hst]
/-- a store into a part of a box -/
theorem JM.store {T U : TypeId} {l : List Slot} {i off n : Nat} {s0 : Slot} (hx : evS σ.g x = some (.ptr i off)) (he : lkE σ.d i = some (.box T l pb)) (ho : offAt l off = some s0) (hy : evS σ.g y = some s) (hp : s.plain = true) (hsz : Nat.beq s.sz n = true) (hsz0 : Nat.beq s0.sz n = true)
    (hS : ∀ w, (sizeOf U).run F.P w = .ok n w) : JM F ⟨none, .store U x y, ty, p, af, gd⟩ σ ⟨σ.g, (i, .box T (setOff l off s) pb) :: σ.d⟩ := by
  replace hsz := Nat.eq_of_beq_eq_true hsz
  replace hsz0 := Nat.eq_of_beq_eq_true hsz0
  refine JM.of_upd he rfl fun ρ a w hc hs => ?_
  have K := Know.of_st hc hs (Op.store U x y).operands
  obtain ⟨b, cs, h1, h2, h3, h4⟩ := K_ptr K (x := x) (by simp [Op.operands]) hx he
  have hv := ok_cells hp (ev_ok hs hy)
  obtain ⟨pre, c, post, rfl, rfl, h5, h6⟩ := okl_at ho h4
  have hone : ∀ u ∈ (a.eval y).cells.toList, u.oneCell' = true := fun u hu => okc_one hv u hu (fun e => by subst e; cases hp)
  have hst := run_storeVar (P := F.P) (w := w) (U := U) hS (by have := okc_len hv; simp only [Array.length_toList] at this; omega) hone h3 rfl (by rw [okc_len h5]; exact hsz0)
  refine ⟨b, w.setRow b (pre ++ ((a.eval y).cells.toList ++ post)).toArray, .inl (by rw [h1]; rfl), Upd.setRow w b _, ?_, fun hE => ?_⟩
  · exact run_store_of h2 hst
  · refine ⟨⟨b, _, h1, setRow_heap w b _ _ T _ h3, ?_⟩, (hc.own i _ he).2⟩
    exact Slot.okl_mono _ _ (h6 s _ hv) hE (fun _ _ => rfl)
/-- a store of a whole box -/
theorem JM.storeAll {α : Type} {e : Enc α} {z : α} {T U : TypeId} {l l' : List Slot} {i : Nat} (hx : evS σ.g x = some (.ptr i 0)) (he : lkE σ.d i = some (.box T l pb)) (hl : Nat.beq (l.map Slot.sz).sum e.n = true) (hy : evS σ.g y = some (.v e z)) (hl' : Spl l' e z)
    (hS : ∀ w, (sizeOf U).run F.P w = .ok e.n w) : JM F ⟨none, .store U x y, ty, p, af, gd⟩ σ ⟨σ.g, (i, .box T l' pb) :: σ.d⟩ := by
  replace hl := Nat.eq_of_beq_eq_true hl
  refine JM.of_upd he rfl fun ρ a w hc hs => ?_
  have K := Know.of_st hc hs (Op.store U x y).operands
  obtain ⟨b, cs, h1, h2, h3, h4⟩ := K_ptr K (x := x) (by simp [Op.operands]) hx he
  have hv := ok_cells (s := .v e z) rfl (ev_ok hs hy)
  simp only [Slot.okc] at hv
  have hlen : cs.length = e.n := by
    rw [← hl]
    clear hl hS hx he h3 K
    induction l generalizing cs with
    | nil => simp only [Slot.okl] at h4; simp [h4]
    | cons t l ih =>
      simp only [Slot.okl] at h4
      obtain ⟨c, d, rfl, k1, k2⟩ := h4
      rw [List.length_append, okc_len k1, ih d k2]; simp
  have hst := run_storeVar (P := F.P) (w := w) (U := U) (a := []) (c := cs) (e := []) hS (by have := e.len hv; simp only [Array.length_toList] at this; omega) (fun u hu => e.cell hv u hu) (by simpa using h3) rfl hlen
  refine ⟨b, w.setRow b ([] ++ ((a.eval y).cells.toList ++ [])).toArray, .inl (by rw [h1]; rfl), Upd.setRow w b _, ?_, fun hE => ?_⟩
  · exact run_store_of h2 hst
  · refine ⟨⟨b, _, h1, setRow_heap w b _ _ T _ h3, ?_⟩, (hc.own i _ he).2⟩
    refine Slot.okl_mono _ _ ((hl' _ _ _ _).2 ?_) hE (fun _ _ => rfl)
    simpa using hv
theorem JM.storeAgg {T U : TypeId} {l l' : List Slot} {i n : Nat} (hx : evS σ.g x = some (.ptr i 0)) (he : lkE σ.d i = some (.box T l pb)) (hl : (l.map Slot.sz).sum = n) (hy : evS σ.g y = some (.agg l')) (hl' : (l'.map Slot.sz).sum = n) (hnt : l'.all Slot.plain = true)
    (hS : ∀ w, (sizeOf U).run F.P w = .ok n w) : JM F ⟨none, .store U x y, ty, p, af, gd⟩ σ ⟨σ.g, (i, .box T l' pb) :: σ.d⟩ := by
  refine JM.of_upd he rfl fun ρ a w hc hs => ?_
  have K := Know.of_st hc hs (Op.store U x y).operands
  obtain ⟨b, cs, h1, h2, h3, h4⟩ := K_ptr K (x := x) (by simp [Op.operands]) hx he
  have hv := ev_ok hs hy
  simp only [Slot.ok] at hv
  obtain ⟨ds, hv1, hv2⟩ := hv
  have hlen : ∀ (l : List Slot) (cs : List Value), Slot.okl ρ (Un F.S0 ρ σ.d) w l cs → cs.length = (l.map Slot.sz).sum := by
    intro l
    induction l with
    | nil => intro cs h4; simp only [Slot.okl] at h4; simp [h4]
    | cons t l ih =>
      intro cs h4
      simp only [Slot.okl] at h4
      obtain ⟨c, d, rfl, k1, k2⟩ := h4
      rw [List.length_append, okc_len k1, ih d k2]; simp
  have hone : ∀ (l : List Slot) (cs : List Value), l.all Slot.plain = true → Slot.okl ρ (Un F.S0 ρ σ.d) w l cs → ∀ u ∈ cs, u.oneCell' = true := by
    intro l
    induction l with
    | nil => intro cs _ h4; simp only [Slot.okl] at h4; simp [h4]
    | cons t l ih =>
      intro cs hp h4 u hu
      simp only [Slot.okl] at h4
      obtain ⟨c, d, rfl, k1, k2⟩ := h4
      simp only [List.all_cons, Bool.and_eq_true] at hp
      rcases List.mem_append.1 hu with hu | hu
      · exact okc_one k1 u hu (fun e => by subst e; cases hp.1)
      · exact ih d hp.2 k2 u hu
  have hst := run_storeVar (P := F.P) (w := w) (U := U) (a := []) (c := cs) (e := []) (v := a.eval y) hS (by rw [hv1]; simp [Value.cells, hlen l' ds hv2, hl']) (by rw [hv1]; simpa [Value.cells] using hone l' ds hnt hv2) (by simpa using h3) rfl (by rw [hlen l cs h4, hl])
  refine ⟨b, w.setRow b ([] ++ ((a.eval y).cells.toList ++ [])).toArray, .inl (by rw [h1]; rfl), Upd.setRow w b _, ?_, fun hE => ?_⟩
  · exact run_store_of h2 hst
  · refine ⟨⟨b, _, h1, setRow_heap w b _ _ T _ h3, ?_⟩, (hc.own i _ he).2⟩
    refine Slot.okl_mono _ _ ?_ hE (fun _ _ => rfl)
    rw [hv1]
    simpa [Value.cells] using hv2

/-! ### elements of what is ours -/
theorem K_el {xs : Array Operand} {ρ : Nat → LV} {S a w} (K : Know σ xs ρ S a w) (hm : x ∈ xs) {α : Type} {e : Enc α} {zs : List α} {T : TypeId} {i k off : Nat} (hx : evS σ.g x = some (.el i k e.n off)) (he : lkE σ.d i = some (.arr T e zs)) :
    ∃ b cap pre cs post, (ρ i).v = .slice (some ⟨b, pre.length, none⟩) zs.length cap ∧ a.eval x = .pointer (some ⟨b, pre.length + (k * e.n + off), none⟩) ∧ w.heap[b]? = some (.cells (pre ++ (cs ++ post)).toArray T (0, 0)) ∧ e.okL zs S w cs ∧
      zs.length ≤ cap ∧ cap * e.n ≤ cs.length + post.length ∧ zs.length ≤ 140737488355328 := by
  have h := K.slot x hm _ hx
  simp only [Slot.ok] at h
  obtain ⟨⟨b, o, l, c, h1⟩, h2⟩ := h
  have := (K.ent x hm _ hx i (by simp [Slot.lab]) _ he).1
  rw [h1] at h2
  rcases this with ⟨_, h3⟩ | ⟨b', cap, pre, cs, post, h3, h4, h5⟩
  · rw [h1] at h3; cases h3
  · have h6 := h1.symm.trans h3
    simp only [Value.slice.injEq, Option.some.injEq, Addr.mk.injEq, and_true] at h6
    obtain ⟨⟨rfl, rfl⟩, _, _⟩ := h6
    exact ⟨b, cap, pre, cs, post, h3, h2, h4, h5⟩
theorem JO.idxR {α : Type} {e : Enc α} {zs : List α} {T U E : TypeId} {k : IntKind} {n : Int} {z : α} {i : Nat} (hz : Sw.idx zs n = some z) (hx : evS σ.g x = some (.ref i)) (he : lkE σ.d i = some (.arr T e zs)) (hy : evS σ.g y = some (.v (Enc.int k) n))
    (hU : ∀ w, (underlying U).run F.P w = .ok (.slice E) w) (hE : ∀ w, (sizeOf E).run F.P w = .ok e.n w) : JO F ⟨d, .indexAddr U x y, ty, p, af, gd⟩ σ (.el i n.toNat e.n 0) [] := by
  intro ρ S a w K
  obtain ⟨h1, h2, _⟩ := K_ref K (x := x) (by simp [Op.operands]) hx he
  have hn := (K_int K (x := y) (by simp [Op.operands]) hy).1
  obtain ⟨i0, i1, i2⟩ := idx_some hz
  rcases h2 with ⟨rfl, _⟩ | ⟨b, cap, pre, cs, post, h3, _⟩
  · simp at i1
  refine OpWp.value (w' := w) (v := .pointer (some ⟨b, pre.length + n.toNat * e.n, none⟩)) ?_ (Res.same (by simp only [Slot.ok]; exact ⟨⟨b, _, _, _, h3⟩, by rw [h3]; simp [ptrEl]⟩))
  have := run_indexAt (P := F.P) (w := w) (b := b) (off := pre.length) (cap := cap) (k := k) hU hE i0 (by omega : n < (zs.length : Int))
  simp only [execOp, h1, hn, h3]
  simp [this]
theorem JO.loadEl {α β : Type} {e : Enc α} {zs : List α} {z : α} {e' : Enc β} {z' : β} {T U : TypeId} {i k off : Nat} (hz : zs[k]? = some z) (hx : evS σ.g x = some (.el i k e.n off)) (he : lkE σ.d i = some (.arr T e zs)) (hp : Prj e z off e' z')
    (hA : ∀ w, (isAgg U).run F.P w = .ok e'.agg w) (hS : ∀ w, (sizeOf U).run F.P w = .ok e'.n w) : JO F ⟨d, .load U x, ty, p, af, gd⟩ σ (.v e' z') [] := by
  intro ρ S a w K
  obtain ⟨b, cap, pre, cs, post, h1, h2, h3, h4, _⟩ := K_el K (x := x) (by simp [Op.operands]) hx he
  obtain ⟨a', c, b', rfl, hl, hc, _⟩ := Enc.okL_get h4 hz
  obtain ⟨a2, c2, d2, rfl, hl2, hc2⟩ := hp S w c hc
  have hm : MemAt w b (pre.length + (k * e.n + off)) c2 := by
    have h5 := MemAt.of_heap h3
    have e1 : pre ++ (a' ++ (a2 ++ (c2 ++ d2) ++ b') ++ post) = (pre ++ a' ++ a2) ++ (c2 ++ (d2 ++ b' ++ post)) := by simp
    rw [e1] at h5
    have := h5.sub
    have e2 : 0 + (pre ++ a' ++ a2).length = pre.length + (k * e.n + off) := by simp only [List.length_append, hl, hl2]; omega
    rw [e2] at this; exact this
  refine OpWp.value (w' := w) (v := e'.pk c2) ?_ (Res.same (by simp only [Slot.ok]; exact ⟨c2, hc2, rfl⟩))
  have := load_e (P := F.P) hm hc2 hA hS
  simp [execOp, h2, Instr.loadAt, Instr.sureAddr, this]
end
end Go.Sw

namespace Go.Sw
open Go Go.RowKit

def delE (d : List (Nat × Ent)) (i : Nat) : List (Nat × Ent) := match d with
  | [] => []
  | (j, en) :: r => bif Nat.beq j i then delE r i else (j, en) :: delE r i
theorem lkE_del {i k : Nat} : ∀ {d : List (Nat × Ent)}, lkE (delE d i) k = if k = i then none else lkE d k
  | [] => by simp [delE, lkE]
  | (j, en) :: r => by
    have ih := lkE_del (i := i) (k := k) (d := r)
    simp only [delE]
    cases hb : Nat.beq j i with
    | true =>
      have := Nat.eq_of_beq_eq_true hb; subst this
      simp only [cond_true, ih, lkE_cons]
      by_cases hk : k = j
      · simp [hk]
      · have : ¬ j = k := fun e => hk e.symm
        simp [hk, this]
    | false =>
      have hne : j ≠ i := fun e => by subst e; simp at hb
      simp only [cond_false, lkE_cons, ih]
      by_cases hk : j = k
      · subst hk; simp [hne]
      · simp [hk]

/-- memory then: what there was, but for one block of ours; and what is new -/
structure Chg (b : Option Nat) (w w' : World) : Prop where
  size : w.heap.size ≤ w'.heap.size
  other : ∀ k, k < w.heap.size → some k ≠ b → w'.heap[k]? = w.heap[k]?
  os : w'.os = w.os
  tape : w'.tape = w.tape
  output : w'.output = w.output
theorem Chg.setRow (w : World) (b : Nat) (cs : Array Value) : Chg (some b) w (w.setRow b cs) := ⟨by simp [World.setRow], fun k _ h => setRow_other w b k cs (fun e => h (by rw [e])), rfl, rfl, rfl⟩
theorem Chg.refl (b : Option Nat) (w : World) : Chg b w w := ⟨Nat.le_refl _, fun _ _ _ => rfl, rfl, rfl, rfl⟩
theorem Chg.alloc (b : Option Nat) (w : World) (o : Obj) : Chg b w (w.drew.alloc o) := ⟨by simp, fun k hk _ => heap_alloc_old w.drew o k hk, rfl, rfl, rfl⟩

section
variable {F : Frm} {σ : AS} {s : Slot} {d : Option Tmp} {ty : TypeId} {p : String} {af : Array Edge} {gd : Option (Nat × Bool)} {x y : Operand}

/-- a slice of ours becomes another one -/
theorem St.repl {ρ : Nat → LV} {a : Act} {w w' : World} {i j : Nat} {en en' : Ent} {u : LV} (hc : Core F σ.d ρ w) (hs : ∀ t s, lk σ.g t = some s → s.ok ρ (Un F.S0 ρ σ.d) w (a.tmps.getD t undef)) (hz : a.tmps.size = F.N) (hde : a.defers = F.df)
    (hi : lkE σ.d i = some en) (hf : σ.free [(j, en')] = true) (hdst : dstOk d F.N = true) (hu : Chg (blk (ρ i).v) w w') (hsh : IsRef u.v) (hlab : en'.lab = [])
    (hb : ∀ b, Has u b → (Has (ρ i) b ∨ w.heap.size ≤ b) ∧ b < w'.heap.size)
    (hen : ∀ S' ρ', Ext (Un F.S0 ρ σ.d) S' w w' → en'.ok ρ' S' w' u) : St F ⟨gput d (.ref j) σ.g, (j, en') :: delE σ.d i⟩ (a.put d u.v) w' := by
  let ρ' : Nat → LV := fun k => if k = j then u else ρ k
  have hj : ρ' j = u := if_pos rfl
  have hne : ∀ k, k ≠ j → ρ' k = ρ k := fun k h => if_neg h
  have hfr := AS.free_spec hf (i := j) (en := en') (by simp [lkE])
  have hl : ∀ k e, lkE ((j, en') :: delE σ.d i) k = some e → (k = j ∧ e = en') ∨ (k ≠ j ∧ k ≠ i ∧ lkE σ.d k = some e) := by
    intro k e h
    rw [lkE_cons] at h
    split at h
    · rename_i h1; cases h; exact .inl ⟨h1.symm, rfl⟩
    · rename_i h1
      rw [lkE_del] at h
      split at h
      · cases h
      · rename_i h2; exact .inr ⟨fun e => h1 e.symm, h2, h⟩
  have hU : ∀ k, k < w.heap.size → Un F.S0 ρ' ((j, en') :: delE σ.d i) k → Un F.S0 ρ σ.d k := by
    rintro k hk (h | ⟨q, e, h1, h2⟩)
    · exact .inl h
    · rcases hl q e h1 with ⟨rfl, rfl⟩ | ⟨h3, h4, h5⟩
      · rw [hj] at h2
        rcases (hb k h2).1 with h | h
        · exact .inr ⟨i, en, hi, h⟩
        · omega
      · rw [hne q h3] at h2; exact .inr ⟨q, e, h5, h2⟩
  have hE : Ext (Un F.S0 ρ σ.d) (Un F.S0 ρ' ((j, en') :: delE σ.d i)) w w' := ⟨hu.size, fun k hk hn => ⟨hu.other k hk (fun e => hn (.inr ⟨i, en, hi, .inl e.symm⟩)), fun h => hn (hU k hk h)⟩⟩
  have hagS : ∀ t s, lk σ.g t = some s → agreeOn ρ ρ' s.lab := fun t s h k hk => congrArg LV.v (hne k fun e => by subst e; exact hfr.1 t s h hk)
  have hbk : ∀ k e b, k ≠ i → lkE σ.d k = some e → Has (ρ k) b → ¬ Has (ρ i) b := fun k e b h h1 h2 h3 => h (hc.inj k i e en b h1 hi h2 h3)
  refine ⟨⟨ρ', ⟨hc.low, Nat.le_trans hc.size hu.size, fun k hk hr => ?_, hu.os.trans hc.os, hu.tape.trans hc.tape, hu.output.trans hc.output, fun k e h => ?_, fun k e b h hb' => ?_, fun k k' e e' b h h' hb1 hb2 => ?_, fun k e b h hb' => ?_⟩, ?_⟩, by rw [Act.size_put, hz], by cases d <;> exact hde⟩
  · rw [hu.other k (Nat.lt_of_lt_of_le hk hc.size) (fun e => ?_)]
    · exact hc.frame k hk hr
    · rcases (hc.fresh i en k hi (.inl e.symm)).1 with h | h
      · omega
      · exact hr h
  · rcases hl k e h with ⟨rfl, rfl⟩ | ⟨h1, h2, h3⟩
    · rw [hj]; exact hen _ _ hE
    · rw [hne k h1]
      refine Ent.ok_mono (hc.own k e h3) hE (fun q hq => congrArg LV.v (hne q fun e' => ?_)) (fun b hb' => hu.other b (hc.fresh k e b h3 hb').2 (fun e' => hbk k e b h2 h3 hb' (.inl e'.symm)))
      subst e'; exact hfr.2.2 k e h3 hq
  · rcases hl k e h with ⟨rfl, rfl⟩ | ⟨h1, h2, h3⟩
    · rw [hj] at hb'
      obtain ⟨h4, h5⟩ := hb b hb'
      refine ⟨?_, h5⟩
      rcases h4 with h4 | h4
      · exact (hc.fresh i en b hi h4).1
      · exact .inl (Nat.le_trans hc.size h4)
    · rw [hne k h1] at hb'
      exact ⟨(hc.fresh k e b h3 hb').1, Nat.lt_of_lt_of_le (hc.fresh k e b h3 hb').2 hu.size⟩
  · have key : ∀ k e, k ≠ j → k ≠ i → lkE σ.d k = some e → Has (ρ k) b → Has u b → False := fun k e _ h2 h3 h4 h5 => by
      rcases (hb b h5).1 with h6 | h6
      · exact hbk k e b h2 h3 h4 h6
      · have := (hc.fresh k e b h3 h4).2; omega
    rcases hl k e h with ⟨rfl, rfl⟩ | ⟨h1, h2, h3⟩
    · rcases hl k' e' h' with ⟨rfl, rfl⟩ | ⟨h1', h2', h3'⟩
      · rfl
      · rw [hj] at hb1; rw [hne k' h1'] at hb2; exact (key k' e' h1' h2' h3' hb2 hb1).elim
    · rw [hne k h1] at hb1
      rcases hl k' e' h' with ⟨rfl, rfl⟩ | ⟨h1', h2', h3'⟩
      · rw [hj] at hb2; exact (key k e h1 h2 h3 hb1 hb2).elim
      · rw [hne k' h1'] at hb2; exact hc.inj k k' e e' b h3 h3' hb1 hb2
  · rcases hl k e h with ⟨rfl, rfl⟩ | ⟨h1, h2, h3⟩
    · rw [hj] at hb'
      rcases (hb b hb').1 with h4 | h4
      · exact hc.apart i en b hi h4
      · intro h5; have := hc.low b h5; have := hc.size; omega
    · rw [hne k h1] at hb'; exact hc.apart k e b h3 hb'
  · intro t s ht
    have hold : ∀ t s, lk σ.g t = some s → s.ok ρ' (Un F.S0 ρ' ((j, en') :: delE σ.d i)) w' (a.tmps.getD t undef) := fun t s ht => Slot.ok_mono s _ (hs t s ht) hE (hagS t s ht)
    cases d with
    | none => exact hold t s ht
    | some q =>
      simp only [gput] at ht
      have hlt : q < a.tmps.size := by rw [hz]; exact Nat.le_of_ble_eq_true hdst
      rw [Act.getD_put a q u.v t hlt]
      rw [lk_cons] at ht
      split at ht
      · rename_i h1
        cases ht; rw [if_pos h1]
        simp only [Slot.ok]
        exact ⟨by rw [hj]; exact hsh, by rw [hj]⟩
      · rename_i h1
        rw [if_neg h1]; exact hold t s ht

/-! ### append -/
/-- the cells of what is appended -/
def Src (σ : AS) (y : Operand) {α : Type} (e : Enc α) (ys : List α) : Prop := ∀ (ρ : Nat → LV) (S : Nat → Prop) (a : Act) (w : World), Know σ #[y] ρ S a w →
  ys.length ≤ 140737488355328 ∧ ∃ ad cap, a.eval y = .slice ad ys.length cap ∧ (ys = [] ∨ ∃ b off ds, ad = some ⟨b, off, none⟩ ∧ MemAt w b off ds ∧ e.okL ys S w ds)
theorem Src.sl {α : Type} {e : Enc α} {ys : List α} (h : evS σ.g y = some (.v (Enc.sl e) ys)) : Src σ y e ys := by
  intro ρ S a w K
  have h1 := K.slot y (by simp) _ h
  simp only [Slot.ok] at h1
  obtain ⟨ad, cap, h2, hl, h3⟩ := val_sl.1 h1
  refine ⟨hl.2, ad, cap, h2, ?_⟩
  rcases h3 with h3 | ⟨b, off, ds, h4, _, _, h5, h6⟩
  · exact .inl h3
  · exact .inr ⟨b, off, ds, h4, h5, h6⟩
theorem Src.ref {α : Type} {e : Enc α} {ys : List α} {i : Nat} {T : TypeId} (h : evS σ.g y = some (.ref i)) (he : lkE σ.d i = some (.arr T e ys)) : Src σ y e ys := by
  intro ρ S a w K
  obtain ⟨h1, h2, _⟩ := K_ref K (x := y) (by simp) h he
  rw [h1]
  rcases h2 with ⟨rfl, h2⟩ | ⟨b, cap, pre, cs, post, h2, h3, h4, h5, h6, h7⟩
  · exact ⟨by simp, none, 0, h2, .inl rfl⟩
  · refine ⟨by omega, _, cap, h2, .inr ⟨b, _, cs, rfl, ?_, h4⟩⟩
    have := (MemAt.of_heap h3).sub; simpa using this

/-- as long as memory bears it -/
def app {α : Type} (xs ys : List α) : Option (List α) := if xs.length + ys.length ≤ 4294967296 then some (xs ++ ys) else none
theorem app_some {α : Type} {xs ys zs : List α} (h : app xs ys = some zs) : xs.length + ys.length ≤ 4294967296 ∧ zs = xs ++ ys := by
  unfold app at h; split at h
  · rename_i h1; exact ⟨h1, by cases h; rfl⟩
  · cases h

theorem run_append0 {P : Program} {w : World} {U E tt : TypeId} {n : Nat} {base ad : Option Addr} {l c cap : Nat} (hU : ∀ w, (underlying U).run P w = .ok (.slice E) w) (hE : ∀ w, (sizeOf E).run P w = .ok n w) (hle : l ≤ cap) :
    (Builtin.append_ #[U, U] tt #[.slice base l cap, .slice ad 0 c]).run P w = .ok (.slice base l cap) w := by
  have hf : (Builtin.firstCells n 0 (.slice ad 0 c)).run P w = .ok #[] w := by
    cases ad <;> simp [Builtin.firstCells, loadCells, loadCellsFrom]
  cases base <;> simp [Builtin.append_, hU, hE, Builtin.lenOf, hle, hf, storeCells]
theorem run_append_at {P : Program} {w : World} {U E tt : TypeId} {n g off l cap m c : Nat} {cur : List Value} {a : Addr} {news : List Value} (hU : ∀ w, (underlying U).run P w = .ok (.slice E) w) (hE : ∀ w, (sizeOf E).run P w = .ok n w)
    (hg : w.heap[g]? = some (.cells cur.toArray E (0, 0))) (hl : news.length = m * n) (hnews : ∀ j u, news[j]? = some u → w.cell? (a.add j) = some u) (h1 : ∀ u ∈ news, u.oneCell' = true) (hroom : l + m ≤ cap) (hfit : off + l * n + news.length ≤ cur.length) :
    (Builtin.append_ #[U, U] tt #[.slice (some ⟨g, off, none⟩) l cap, .slice (some a) m c]).run P w =
      .ok (.slice (some ⟨g, off, none⟩) (l + m) cap) (w.setRow g (cur.take (off + l * n) ++ news ++ cur.drop (off + l * n + news.length)).toArray) := by
  have hf := run_firstCells_some (P := P) w n m a m c news hl hnews
  have hst := run_storeCells_at P g (off + l * n) E news 0 cur.toArray w hg (by simpa using hfit) h1
  simp only [Nat.add_zero] at hst
  simp [Builtin.append_, hU, hE, Builtin.lenOf, hroom, hf, Addr.add_lit, hst]

theorem JM.append {α : Type} {e : Enc α} {xs ys zs : List α} {T U : TypeId} {ti : TypeInfo} {z : Value} {i : Nat} (j : Nat) (ha : app xs ys = some zs) (hx : evS σ.g x = some (.ref i)) (he : lkE σ.d i = some (.arr T e xs)) (hy : Src σ y e ys)
    (hU : ∀ w, (underlying U).run F.P w = .ok (.slice T) w) (hI : ∀ w, (typeInfo T).run F.P w = .ok ti w) (hS : ∀ w, (sizeOf T).run F.P w = .ok e.n w) (hz : ti.zero = some z) (hzs : z.cells.size = e.n) (hby : Nat.ble ti.bytes 4096 = true)
    (hf : σ.free [(j, .arr T e zs)] = true) (hd : dstOk d F.N = true) :
    JM F ⟨d, .call ⟨.builtin .append, #[x, y], #[U, U]⟩, ty, p, af, gd⟩ σ ⟨gput d (.ref j) σ.g, (j, .arr T e zs) :: delE σ.d i⟩ := by
  obtain ⟨hlen, rfl⟩ := app_some ha
  have hby := Nat.le_of_ble_eq_true hby
  rintro a w ⟨⟨ρ, hc, hs⟩, hsz, hde⟩
  have K := Know.of_st hc hs (Op.call ⟨.builtin .append, #[x, y], #[U, U]⟩).operands
  have hti : ti.size = e.n := size_of hI hS
  obtain ⟨h1, h2, h3⟩ := K_ref K (x := x) (by simp [Op.operands, Call.operands]) hx he
  have hmem : ∀ q, q ∈ #[y] → q ∈ (Op.call ⟨.builtin .append, #[x, y], #[U, U]⟩).operands := by
    intro q hq
    have hq' : q = y := by simpa using hq
    subst hq'; simp [Op.operands, Call.operands]
  obtain ⟨hyl, ad, c, h4, h5⟩ := hy ρ _ a w ⟨K.low, fun q hq s h => K.slot q (hmem q hq) s h, fun q hq s h => K.ent q (hmem q hq) s h⟩
  have hexec : ∀ v w', (Builtin.append_ #[U, U] ty #[(ρ i).v, .slice ad ys.length c]).run F.P w = .ok v w' → (execOp a.eval ⟨d, .call ⟨.builtin .append, #[x, y], #[U, U]⟩, ty, p, af, gd⟩).run F.P w = .ok (.value v) w' := by
    intro v w' h
    simp [execOp, resolve, invoke, builtin, h1, h4, h]
  have fin : ∀ u w', (Builtin.append_ #[U, U] ty #[(ρ i).v, .slice ad ys.length c]).run F.P w = .ok u w' → Chg (blk (ρ i).v) w w' → IsRef u → (∀ b, blk u = some b → (blk (ρ i).v = some b ∨ w.heap.size ≤ b) ∧ b < w'.heap.size) →
      (∀ S' ρ', Ext (Un F.S0 ρ σ.d) S' w w' → (Ent.arr T e (xs ++ ys)).ok ρ' S' w' (.of u)) →
      OpWp F.P ⟨d, .call ⟨.builtin .append, #[x, y], #[U, U]⟩, ty, p, af, gd⟩ a w fun v w' => St F ⟨gput d (.ref j) σ.g, (j, .arr T e (xs ++ ys)) :: delE σ.d i⟩ (a.put d v) w' :=
    fun u w' hr hu hsh hb hen => OpWp.value (hexec u w' hr) (St.repl (u := .of u) hc hs hsz hde he hf hd hu hsh rfl (fun b h => ⟨(hb b (Has_of.1 h)).1.imp .inl id, (hb b (Has_of.1 h)).2⟩) hen)
  rcases h5 with rfl | ⟨b, off, ds, rfl, hm, hds⟩
  · -- nothing is appended
    rw [List.append_nil] at *
    rcases h2 with ⟨rfl, h2⟩ | ⟨b, cap, pre, cs, post, h2, h6, h7, h8, h9⟩
    · refine fin (.slice none 0 0) w ?_ (Chg.refl _ _) (.inl ⟨_, _, _, rfl⟩) (fun b h => by simp [blk] at h) (fun _ _ _ => .inl ⟨rfl, rfl⟩)
      rw [h2]; exact run_append0 hU hS (Nat.le_refl _)
    · refine fin (ρ i).v w ?_ (Chg.refl _ _) (.inl ⟨_, _, _, h2⟩) (fun b h => ⟨.inl h, (h3 b (.inl h)).2⟩) (fun S' ρ' hE => ?_)
      · rw [h2]; exact run_append0 hU hS h8
      · exact .inr ⟨b, cap, pre, cs, post, h2, h6, Enc.okL_mono h7 hE, h8, h9⟩
  · have hdl := Enc.okL_len hds
    have hcell := hm.cell
    have hone := Enc.okL_cell hds
    have hEn : ∀ (S' : Nat → Prop) (w' : World) (cs : List Value), Ext (Un F.S0 ρ σ.d) S' w w' → e.okL xs (Un F.S0 ρ σ.d) w cs → e.okL (xs ++ ys) S' w' (cs ++ ds) := fun S' w' cs hE h => Enc.okL_append (Enc.okL_mono h hE) (Enc.okL_mono hds hE)
    have hzl : ∀ q, (Builtin.zeroCells z.cells q).toList.length = q * e.n := fun q => by rw [Array.length_toList, size_zeroCells, hzs]
    by_cases hm0 : ys.length = 0
    · -- the same
      have hy0 : ys = [] := List.eq_nil_of_length_eq_zero hm0
      subst hy0
      rw [List.append_nil] at *
      rcases h2 with ⟨rfl, h2⟩ | ⟨b', cap, pre, cs, post, h2, h6, h7, h8, h9⟩
      · refine fin (.slice none 0 0) w ?_ (Chg.refl _ _) (.inl ⟨_, _, _, rfl⟩) (fun b h => by simp [blk] at h) (fun _ _ _ => .inl ⟨rfl, rfl⟩)
        rw [h2]; exact run_append0 hU hS (Nat.le_refl _)
      · refine fin (ρ i).v w ?_ (Chg.refl _ _) (.inl ⟨_, _, _, h2⟩) (fun b h => ⟨.inl h, (h3 b (.inl h)).2⟩) (fun S' ρ' hE => ?_)
        · rw [h2]; exact run_append0 hU hS h8
        · exact .inr ⟨b', cap, pre, cs, post, h2, h6, Enc.okL_mono h7 hE, h8, h9⟩
    rcases h2 with ⟨rfl, h2⟩ | ⟨g, cap, pre, cs, post, h2, h6, h7, h8, h9, h10⟩
    · -- to nil
      have hr := run_append_nil (P := F.P) w U ty T ti z (under_of hU) (info_of hI) hz ⟨b, off, none⟩ ys.length c ds (by rw [hti]; exact hdl) hcell (by omega) (by simp at hlen; omega) (by
        have : ys.length * ti.bytes ≤ 4294967296 * 4096 := Nat.mul_le_mul (by simp at hlen; omega) hby
        omega)
      have hge := grownCap_ge w ys.length 0 T
      refine fin _ _ (by rw [h2]; exact hr) (Chg.alloc _ _ _) (.inl ⟨_, _, _, rfl⟩) (fun b' h => ?_) (fun S' ρ' hE => ?_)
      · simp only [blk, Option.some.injEq] at h; subst h; exact ⟨.inr (Nat.le_refl _), by simp⟩
      · have h11 := hEn S' _ [] hE rfl
        simp only [List.nil_append] at h11 ⊢
        refine .inr ⟨w.heap.size, _, [], ds, (Builtin.zeroCells z.cells (grownCap w ys.length 0 T - ys.length)).toList, rfl, ?_, h11, hge, ?_, by simp at hlen; omega⟩
        · rw [show w.heap.size = w.drew.heap.size from rfl, heap_alloc_new]; simp
        · rw [hdl, hzl, ← Nat.add_mul]; exact Nat.mul_le_mul_right _ (by omega)
    · by_cases hroom : xs.length + ys.length ≤ cap
      · -- there is room
        have hcl := Enc.okL_len h7
        have hfit : pre.length + xs.length * e.n + ds.length ≤ (pre ++ (cs ++ post)).length := by
          have : (xs.length + ys.length) * e.n ≤ cap * e.n := Nat.mul_le_mul_right _ hroom
          rw [Nat.add_mul] at this
          simp only [List.length_append]; omega
        have hr := run_append_at (P := F.P) (w := w) (tt := ty) (cap := cap) (c := c) hU hS h6 (by exact hdl) hcell hone hroom hfit
        have e1 : (pre ++ (cs ++ post)).take (pre.length + xs.length * e.n) = pre ++ cs := by
          rw [← List.append_assoc, ← hcl, ← List.length_append]; exact List.take_left
        have e2 : (pre ++ (cs ++ post)).drop (pre.length + xs.length * e.n + ds.length) = post.drop ds.length := by
          rw [← List.append_assoc, ← hcl, ← List.length_append, List.drop_append]
          simp
        rw [e1, e2] at hr
        refine fin _ _ (by rw [h2]; exact hr) (by rw [h2]; exact Chg.setRow w g _) (.inl ⟨_, _, _, rfl⟩) (fun b' h => ?_) (fun S' ρ' hE => ?_)
        · rw [h2]
          simp only [blk, Option.some.injEq] at h ⊢; subst h
          exact ⟨.inl rfl, by have := (MemAt.of_heap h6).lt; simpa [World.setRow] using this⟩
        · refine .inr ⟨g, cap, pre, cs ++ ds, post.drop ds.length, by simp [LV.of], ?_, hEn S' _ cs hE h7, by simpa using hroom, ?_, by simp; omega⟩
          · have := setRow_heap w g _ (pre ++ cs ++ ds ++ post.drop ds.length).toArray T _ h6
            rw [this]; simp
          · have : (xs.length + ys.length) * e.n ≤ cap * e.n := Nat.mul_le_mul_right _ hroom
            rw [Nat.add_mul] at this
            simp only [List.length_append, List.length_drop]; omega
      · -- it grows
        have hcl := Enc.okL_len h7
        have hm2 : MemAt w g pre.length cs := by have := (MemAt.of_heap h6).sub; simpa using this
        have hr := run_append_grow (P := F.P) w U ty T ti z (under_of hU) (info_of hI) hz ⟨g, pre.length, none⟩ xs.length cap cs (by rw [hti]; exact hcl) hm2.cell ⟨b, off, none⟩ ys.length c ds (by rw [hti]; exact hdl) hcell (by omega) (by omega) (growslice_fits (by omega) (by
          have : (xs.length + ys.length) * ti.bytes ≤ 4294967296 * 4096 := Nat.mul_le_mul hlen hby
          omega))
        have hge := grownCap_ge w (xs.length + ys.length) cap T
        refine fin _ _ (by rw [h2]; exact hr) (Chg.alloc _ _ _) (.inl ⟨_, _, _, rfl⟩) (fun b' h => ?_) (fun S' ρ' hE => ?_)
        · simp only [blk, Option.some.injEq] at h; subst h; exact ⟨.inr (Nat.le_refl _), by simp⟩
        · refine .inr ⟨w.heap.size, grownCap w (xs.length + ys.length) cap T, [], cs ++ ds, (Builtin.zeroCells z.cells (grownCap w (xs.length + ys.length) cap T - (xs.length + ys.length))).toList, by simp [LV.of], ?_, hEn S' _ cs hE h7, by simpa using hge, ?_, by simp; omega⟩
          · rw [show w.heap.size = w.drew.heap.size from rfl, heap_alloc_new]
            have : cs.toArray ++ ds.toArray ++ Builtin.zeroCells z.cells (grownCap w (xs.length + ys.length) cap T - (xs.length + ys.length)) =
                ([] ++ ((cs ++ ds) ++ (Builtin.zeroCells z.cells (grownCap w (xs.length + ys.length) cap T - (xs.length + ys.length))).toList)).toArray := by
              apply Array.ext'; simp
            rw [this]
          · rw [List.length_append, hcl, hdl, hzl, ← Nat.add_mul, ← Nat.add_mul]; exact Nat.mul_le_mul_right _ (by omega)
end
end Go.Sw

namespace Go.Sw
open Go Go.RowKit

theorem splice_fold : ∀ (vs : List Value) (k off : Nat) (cs : Array Value), off + k + vs.length ≤ cs.size →
    ((vs.zipIdx k).foldl (fun cs (x : Value × Nat) => cs.setIfInBounds (off + x.2) x.1) cs).toList = cs.toList.take (off + k) ++ vs ++ cs.toList.drop (off + k + vs.length)
  | [], k, off, cs, _ => by simp
  | v :: vs, k, off, cs, h => by
    simp only [List.zipIdx_cons, List.foldl_cons]
    rw [splice_fold vs (k + 1) off _ (by simp at h ⊢; omega)]
    have hlt : off + k < cs.toList.length := by simp at h ⊢; omega
    simp only [Array.toList_setIfInBounds]
    have e1 : off + (k + 1) = off + k + 1 := by omega
    rw [e1, List.take_set, List.drop_set_of_lt (by omega)]
    have e2 : (cs.toList.take (off + k + 1)).set (off + k) v = cs.toList.take (off + k) ++ [v] := by
      rw [List.take_succ_eq_append_getElem hlt, List.set_append_right _ _ (by rw [List.length_take]; omega)]
      have : off + k - (cs.toList.take (off + k)).length = 0 := by rw [List.length_take]; omega
      rw [this]; rfl
    rw [e2]
    simp only [List.length_cons, List.append_assoc, List.singleton_append]
    congr 3; omega

theorem fill_cons {place : Nat → Option (Nat × Nat)} {cells : Array Value} {i off n : Nat} {v : Value} {rest : List (Nat × Value)} {a c e : List Value} (hp : place i = some (off, n)) (hn : v.cells.size = n) (hc : cells.toList = a ++ (c ++ e)) (ha : a.length = off) (hl : c.length = n) :
    Instr.fill place cells ((i, v) :: rest) = Instr.fill place (a ++ (v.cells.toList ++ e)).toArray rest := by
  have hsz : cells.size = a.length + (c.length + e.length) := by rw [← Array.length_toList, hc]; simp
  have h1 : ¬ (v.cells.size ≠ n || decide (off + v.cells.size > cells.size)) = true := by
    simp only [Bool.or_eq_true, decide_eq_true_eq, not_or]; omega
  simp only [Instr.fill, hp]
  rw [if_neg h1]
  congr 1
  apply Array.ext'
  have := splice_fold v.cells.toList 0 off cells (by simp; omega)
  simp only [Nat.add_zero] at this
  rw [← Array.foldl_toList, Array.toList_zipIdx, this, hc]
  have e1 : (a ++ (c ++ e)).take off = a := by rw [← ha]; exact List.take_left
  have e2 : (a ++ (c ++ e)).drop (off + v.cells.toList.length) = e := by
    rw [← List.append_assoc]
    have : off + v.cells.toList.length = (a ++ c).length := by simp; omega
    rw [this]; exact List.drop_left
  rw [e1, e2]; simp

section
variable {F : Frm} {σ : AS} {s : Slot} {d : Option Tmp} {ty : TypeId} {p : String} {af : Array Edge} {gd : Option (Nat × Bool)} {x y : Operand}

/-- the parts of a struct literal -/
inductive Parts (σ : AS) (pl : Array (Nat × Nat)) : List Slot → List (Nat × Operand) → List Slot → Prop
  | nil {l : List Slot} : Parts σ pl l [] l
  | cons {l l' : List Slot} {i off n : Nat} {x : Operand} {s s0 : Slot} {rest : List (Nat × Operand)} : pl[i]? = some (off, n) → Arg σ false x s → s.plain = true → s.sz = n → offAt l off = some s0 → s0.sz = n → Parts σ pl (setOff l off s) rest l' → Parts σ pl l ((i, x) :: rest) l'

theorem Parts.spec {pl : Array (Nat × Nat)} {l l' : List Slot} {ps : List (Nat × Operand)} (h : Parts σ pl l ps l') {ρ S a w} {ys : Array Operand} (hys : ∀ x ∈ ps.map (·.2), x ∈ ys) (K : Know σ ys ρ S a w) :
    ∀ cs : List Value, Slot.okl ρ S w l cs → ∃ ds : List Value, Instr.fill (pl[·]?) cs.toArray (ps.map fun q => (q.1, a.eval q.2)) = some ds.toArray ∧ Slot.okl ρ S w l' ds := by
  induction h with
  | nil => intro cs h; exact ⟨cs, rfl, h⟩
  | cons h1 h2 h3 h4 h5 h6 _ ih =>
    rename_i l l' i off n x s s0 rest _
    intro cs hcs
    have hx := h2 ρ S a w ⟨K.low, fun y hy s h => K.slot y (hys y (by have : y = x := by simpa using hy
                                                                      subst this; simp)) s h, fun y hy s h => K.ent y (hys y (by have : y = x := by simpa using hy
                                                                                                                                 subst this; simp)) s h⟩
    simp only [Bool.false_eq_true, if_false] at hx
    have hc := ok_cells h3 hx
    obtain ⟨pre, c, post, rfl, hpre, k1, k2⟩ := okl_at h5 hcs
    obtain ⟨ds, k3, k4⟩ := ih (fun y hy => hys y (by simp only [List.map_cons, List.mem_cons]; exact .inr hy)) _ (k2 s _ hc)
    refine ⟨ds, ?_, k4⟩
    rw [List.map_cons, fill_cons (a := pre) (c := c) (e := post) h1 (by have := okc_len hc; simp only [Array.length_toList] at this; rw [this]; exact h4) (by simp) hpre (by rw [okc_len k1]; exact h6)]
    exact k3

/-- a struct literal -/
theorem JO.build {T : TypeId} {pl : Array (Nat × Nat)} {zs : List Value} {ps : List (Nat × Operand)} {l l' : List Slot} (hB : ∀ parts, F.P.built T parts = Instr.fill (pl[·]?) zs.toArray parts) (hz : Zr zs l) (hp : Parts σ pl l ps l') :
    JO F ⟨d, .build T ps.toArray, ty, p, af, gd⟩ σ (.agg l') [] := by
  intro ρ S a w K
  obtain ⟨ds, h1, h2⟩ := hp.spec (ys := (Op.build T ps.toArray).operands) (by intro x hx; simp [Op.operands] at hx ⊢; exact hx) K zs (hz ρ S w)
  refine OpWp.value (w' := w) (v := .agg ds.toArray) ?_ (Res.same (by simp only [Slot.ok]; exact ⟨ds, rfl, h2⟩))
  have := run_build (P := F.P) w T (ps.map fun q => (q.1, a.eval q.2)).toArray ds.toArray (by rw [hB]; exact h1)
  simp only [execOp, List.map_toArray]
  simp [this]

/-- the elements of a slice literal -/
inductive Elems (σ : AS) {α : Type} (e : Enc α) : Nat → List (Nat × Operand) → List α → Prop
  | nil {k : Nat} : Elems σ e k [] []
  | cons {k : Nat} {x : Operand} {z : α} {ps : List (Nat × Operand)} {zs : List α} : Arg σ false x (.v e z) → Elems σ e (k + 1) ps zs → Elems σ e k ((k, x) :: ps) (z :: zs)
theorem Elems.spec {α : Type} {e : Enc α} {k : Nat} {ps : List (Nat × Operand)} {zs : List α} (h : Elems σ e k ps zs) {ρ S a w} {ys : Array Operand} (hys : ∀ x ∈ ps.map (·.2), x ∈ ys) (K : Know σ ys ρ S a w) :
    ∀ pre rest : List Value, pre.length = k * e.n → rest.length = ps.length * e.n → ∃ ds : List Value, Instr.fill (fun i => some (i * e.n, e.n)) (pre ++ rest).toArray (ps.map fun q => (q.1, a.eval q.2)) = some (pre ++ ds).toArray ∧ e.okL zs S w ds := by
  induction h with
  | nil => intro pre rest h1 h2; simp at h2; subst h2; exact ⟨[], rfl, rfl⟩
  | cons h1 _ ih =>
    rename_i k x z ps zs _
    intro pre rest hpre hrest
    have hx := h1 ρ S a w ⟨K.low, fun y hy s h => K.slot y (hys y (by have : y = x := by simpa using hy
                                                                      subst this; simp)) s h, fun y hy s h => K.ent y (hys y (by have : y = x := by simpa using hy
                                                                                                                                 subst this; simp)) s h⟩
    simp only [Bool.false_eq_true, if_false] at hx
    have hc := ok_cells (s := .v e z) rfl hx
    simp only [Slot.okc] at hc
    have hcl := e.len hc
    simp only [List.length_cons, Nat.add_mul, Nat.one_mul] at hrest
    obtain ⟨ds, k1, k2⟩ := ih (fun y hy => hys y (by simp only [List.map_cons, List.mem_cons]; exact .inr hy)) (pre ++ (a.eval x).cells.toList) (rest.drop e.n) (by rw [List.length_append, hpre, hcl, Nat.add_mul, Nat.one_mul]) (by rw [List.length_drop]; omega)
    refine ⟨(a.eval x).cells.toList ++ ds, ?_, ⟨_, _, rfl, hc, k2⟩⟩
    rw [List.map_cons, fill_cons (a := pre) (c := rest.take e.n) (e := rest.drop e.n) rfl (by simp only [Array.length_toList] at hcl; exact hcl) (by simp) hpre (by rw [List.length_take]; omega)]
    simpa [List.append_assoc] using k1

theorem run_lit {P : Program} {w : World} {U E : TypeId} {n len : Nat} {z : Value} {parts : Array (Nat × Value)} {R : List Value → Prop} (hU : ∀ w, (underlying U).run P w = .ok (.slice E) w) (hS : ∀ w, (sizeOf E).run P w = .ok n w) (hz : ∀ w, (zeroValue E).run P w = .ok z w)
    (hle : len * n ≤ 16777216) (hf : ∀ rest : List Value, rest.length = len * n → ∃ ds : List Value, Instr.fill (fun i => some (i * n, n)) rest.toArray parts.toList = some ds.toArray ∧ R ds) :
    ∃ ds : List Value, R ds ∧ (Instr.buildSlice U len parts).run P w = .ok (.slice (some ⟨w.heap.size, 0, none⟩) len len) (w.alloc (.cells ds.toArray E)) := by
  have h1 : ¬ (16777216 < len * n) := by omega
  have key : ∀ zs : Array Value, ∃ ds : List Value, R ds ∧ Instr.fill (fun i => some (i * n, n)) ((Array.range (len * n)).map (zs[· % zs.size]!)) parts.toList = some ds.toArray := by
    intro zs
    obtain ⟨ds, h2, h3⟩ := hf ((Array.range (len * n)).map (zs[· % zs.size]!)).toList (by simp)
    exact ⟨ds, h3, by rw [← h2]⟩
  obtain ⟨ds, h2, h3⟩ := key (if len * n = 0 then #[] else z.cells)
  refine ⟨ds, h2, ?_⟩
  unfold Instr.buildSlice
  simp only [Sem.run_bind, hU, hS, Result.andThen_ok]
  rw [if_neg (by simpa using h1)]
  by_cases h0 : len * n = 0
  · rw [if_pos h0] at h3
    simp only [Sem.run_bind, Sem.run_pure, Result.andThen_ok, h0, if_true]
    rw [h0] at h3
    rw [h3]
    simp [newRow]
  · rw [if_neg h0] at h3
    simp only [Sem.run_bind, Sem.run_pure, Result.andThen_ok, h0, if_false, hz]
    rw [h3]
    simp [newRow]

theorem memAt_alloc (w : World) (ds : List Value) (E : TypeId) : MemAt (w.alloc (.cells ds.toArray E)) w.heap.size 0 ds := MemAt.of_heap (T := E) (fr := (0, 0)) (heap_alloc_new _ _)

theorem lit_run {α : Type} {e : Enc α} {U E : TypeId} {len : Nat} {z : Value} {ps : List (Nat × Operand)} {zs : List α} {ρ S a w} (hU : ∀ w, (underlying U).run F.P w = .ok (.slice E) w) (hS : ∀ w, (sizeOf E).run F.P w = .ok e.n w) (hz : ∀ w, (zeroValue E).run F.P w = .ok z w)
    (hle : Nat.ble (len * e.n) 16777216 = true) (hl : ps.length = len) (he : Elems σ e 0 ps zs) (K : Know σ (Op.buildSlice U len ps.toArray).operands ρ S a w) :
    ∃ ds : List Value, e.okL zs S w ds ∧ (execOp a.eval ⟨d, .buildSlice U len ps.toArray, ty, p, af, gd⟩).run F.P w = .ok (.value (.slice (some ⟨w.heap.size, 0, none⟩) len len)) (w.alloc (.cells ds.toArray E)) := by
  obtain ⟨ds, h1, h2⟩ := run_lit (P := F.P) (w := w) (U := U) (len := len) (parts := (ps.map fun q => (q.1, a.eval q.2)).toArray) (R := fun ds => e.okL zs S w ds) hU hS hz (Nat.le_of_ble_eq_true hle) (fun rest hrest => by
    obtain ⟨ds, h1, h2⟩ := he.spec (ys := (Op.buildSlice U len ps.toArray).operands) (by intro x hx; simp [Op.operands] at hx ⊢; exact hx) K [] rest (by simp) (by rw [hl]; exact hrest)
    exact ⟨ds, by simpa using h1, h2⟩)
  refine ⟨ds, h1, ?_⟩
  simp only [execOp, List.map_toArray]
  simp [h2]

theorem JO.lit {α : Type} {e : Enc α} {U E : TypeId} {len : Nat} {z : Value} {ps : List (Nat × Operand)} {zs : List α} (hU : ∀ w, (underlying U).run F.P w = .ok (.slice E) w) (hS : ∀ w, (sizeOf E).run F.P w = .ok e.n w) (hz : ∀ w, (zeroValue E).run F.P w = .ok z w)
    (hle : Nat.ble (len * e.n) 16777216 = true) (hl : ps.length = len) (hl' : zs.length = len) (hb : Nat.ble len 16777216 = true) (he : Elems σ e 0 ps zs) : JO F ⟨d, .buildSlice U len ps.toArray, ty, p, af, gd⟩ σ (.v (Enc.sl e) zs) [] := by
  intro ρ S a w K
  obtain ⟨ds, h1, h2⟩ := lit_run (d := d) (ty := ty) (p := p) (af := af) (gd := gd) hU hS hz hle hl he K
  have hbl := below_alloc w (.cells ds.toArray E)
  have hE : Ext S (Un S ρ []) w (w.alloc (.cells ds.toArray E)) := Ext.of_below hbl fun k _ h => by
    rcases h with h | ⟨i, en, h, _⟩
    · exact h
    · simp [lkE] at h
  refine OpWp.value h2 ⟨ρ, fun _ _ => rfl, hbl, ?_, ⟨fun _ _ h => by simp [lkE] at h, fun _ _ _ h => by simp [lkE] at h, fun _ _ _ _ _ h => by simp [lkE] at h⟩⟩
  simp only [Slot.ok]
  have hb := Nat.le_of_ble_eq_true hb
  refine val_sl.2 ⟨_, len, by rw [hl'], ⟨by omega, by omega⟩, .inr ⟨w.heap.size, 0, ds, rfl, by simp, ?_, memAt_alloc w ds E, Enc.okL_mono h1 hE⟩⟩
  rintro (h | ⟨i, en, h, _⟩)
  · have := K.low _ h; omega
  · simp [lkE] at h
theorem JO.litR {α : Type} {e : Enc α} {U E : TypeId} {len : Nat} {z : Value} {ps : List (Nat × Operand)} {zs : List α} (i : Nat) (hU : ∀ w, (underlying U).run F.P w = .ok (.slice E) w) (hS : ∀ w, (sizeOf E).run F.P w = .ok e.n w) (hz : ∀ w, (zeroValue E).run F.P w = .ok z w)
    (hle : Nat.ble (len * e.n) 16777216 = true) (hl : ps.length = len) (hl' : zs.length = len) (hb : Nat.ble len 16777216 = true) (he : Elems σ e 0 ps zs) : JO F ⟨d, .buildSlice U len ps.toArray, ty, p, af, gd⟩ σ (.ref i) [(i, .arr E e zs)] := by
  intro ρ S a w K
  obtain ⟨ds, h1, h2⟩ := lit_run (d := d) (ty := ty) (p := p) (af := af) (gd := gd) hU hS hz hle hl he K
  have hb := Nat.le_of_ble_eq_true hb
  refine OpWp.value h2 (Res.new1 (.slice (some ⟨w.heap.size, 0, none⟩) len len) (below_alloc _ _) rfl ?_ ?_ ?_)
  · intro b h; simp only [blk, Option.some.injEq] at h; subst h; exact ⟨Nat.le_refl _, by simp⟩
  · intro S' ρ' h _
    refine .inr ⟨w.heap.size, len, [], ds, [], by rw [hl']; rfl, ?_, Enc.okL_mono h1 (ext_low (below_alloc _ _) h), by omega, ?_, by omega⟩
    · rw [heap_alloc_new]; simp
    · have := Enc.okL_len h1; rw [hl'] at this; simp [this]
  · intro S' ρ' _ hi _
    simp only [Slot.ok]; exact ⟨by rw [hi]; exact .inl ⟨_, _, _, rfl⟩, hi.symm⟩

/-! ### make -/
def mk {α : Type} (n : Int) (z : α) : Option (List α) := if 0 ≤ n ∧ n ≤ 4294967296 then some (List.replicate n.toNat z) else none
theorem mk_some {α : Type} {n : Int} {z : α} {zs : List α} (h : mk n z = some zs) : 0 ≤ n ∧ n ≤ 4294967296 ∧ zs = List.replicate n.toNat z := by
  unfold mk at h; split at h
  · rename_i h1; exact ⟨h1.1, h1.2, by cases h; rfl⟩
  · cases h
theorem okL_made {α : Type} {e : Enc α} {z : α} {zc : Array Value} (hz : ∀ S w, e.ok z S w zc.toList) (m : Nat) (S : Nat → Prop) (w : World) : e.okL (List.replicate m z) S w (madeCells zc (m * e.n)).toList := by
  have hn : zc.size = e.n := by have := e.len (hz S w); simpa using this
  have key : (madeCells zc (m * e.n)).toList = (List.replicate m zc.toList).flatten := by
    induction m with
    | zero => simp [madeCells, Array.range_zero']
    | succ m ih =>
      rw [List.replicate_succ', List.flatten_append, ← ih]
      apply List.ext_getElem?
      intro i
      simp only [madeCells, Array.toList_map, List.getElem?_append, List.getElem?_map, List.length_map, Array.length_toList, Array.size_range, Array.getElem?_toList]
      by_cases h1 : i < m * e.n
      · have h2 : i < (m + 1) * e.n := by rw [Nat.add_mul]; omega
        simp [h1, h2]
      · rw [if_neg h1]
        by_cases h2 : i < (m + 1) * e.n
        · have h3 : i - m * e.n < zc.size := by rw [Nat.add_mul, Nat.one_mul] at h2; omega
          have h4 : i % zc.size = i - m * e.n := by
            have h5 : zc.size * m = m * e.n := by rw [hn, Nat.mul_comm e.n m]
            have h6 : i % zc.size = ((i - m * e.n) + zc.size * m) % zc.size := by congr 1; omega
            rw [h6, Nat.add_mul_mod_self_left, Nat.mod_eq_of_lt h3]
          simp [h2, h4, h3]
        · have h3 : zc.size ≤ i - m * e.n := by rw [Nat.add_mul, Nat.one_mul] at h2; omega
          have h4 : (Array.range ((m + 1) * e.n))[i]? = none := by simp; omega
          simp [h4, h3]
  rw [key]
  clear key
  induction m with
  | zero => rfl
  | succ m ih => rw [List.replicate_succ, List.replicate_succ, List.flatten_cons]; exact ⟨_, _, rfl, hz S w, ih⟩
theorem mk_run {α : Type} {e : Enc α} {z : α} {zs : List α} {U E : TypeId} {ti : TypeInfo} {zv : Value} {k k' : IntKind} {n : Int} {ρ S a w} (hm : mk n z = some zs) (hx : evS σ.g x = some (.v (Enc.int k) n)) (hy : evS σ.g y = some (.v (Enc.int k') n)) (hU : ∀ w, (underlying U).run F.P w = .ok (.slice E) w)
    (hI : ∀ w, (typeInfo E).run F.P w = .ok ti w) (hS : ∀ w, (sizeOf E).run F.P w = .ok e.n w) (hz : ti.zero = some zv) (hby : Nat.ble ti.bytes 4096 = true) (K : Know σ (Op.makeSlice U x y).operands ρ S a w) :
    (execOp a.eval ⟨d, .makeSlice U x y, ty, p, af, gd⟩).run F.P w = .ok (.value (.slice (some ⟨w.heap.size, 0, none⟩) n.toNat n.toNat)) (w.alloc (.cells (madeCells zv.cells (n.toNat * e.n)).toList.toArray E)) := by
  obtain ⟨h0, h1, rfl⟩ := mk_some hm
  have hx := (K_int K (x := x) (by simp [Op.operands]) hx).1
  have hy := (K_int K (x := y) (by simp [Op.operands]) hy).1
  have hby := Nat.le_of_ble_eq_true hby
  have hti := size_of hI hS
  have := run_make (P := F.P) w U E ti zv (under_of hU) (info_of hI) hz k k' n n h0 (Int.le_refl _) (by
    have : (ti.bytes : Int) * n ≤ 4096 * 4294967296 := Int.mul_le_mul (by omega) h1 h0 (by omega)
    omega) (by omega)
  rw [hti] at this
  simp [execOp, hx, hy, this]
theorem JO.mk {α : Type} {e : Enc α} {z : α} {zs : List α} {U E : TypeId} {ti : TypeInfo} {zv : Value} {k k' : IntKind} {n : Int} (hm : Sw.mk n z = some zs) (hx : evS σ.g x = some (.v (Enc.int k) n)) (hy : evS σ.g y = some (.v (Enc.int k') n)) (hU : ∀ w, (underlying U).run F.P w = .ok (.slice E) w)
    (hI : ∀ w, (typeInfo E).run F.P w = .ok ti w) (hS : ∀ w, (sizeOf E).run F.P w = .ok e.n w) (hz : ti.zero = some zv) (hby : Nat.ble ti.bytes 4096 = true) (hzv : ∀ S w, e.ok z S w zv.cells.toList) : JO F ⟨d, .makeSlice U x y, ty, p, af, gd⟩ σ (.v (Enc.sl e) zs) [] := by
  intro ρ S a w K
  have h2 := mk_run (d := d) (ty := ty) (p := p) (af := af) (gd := gd) hm hx hy hU hI hS hz hby K
  obtain ⟨h0, h1, rfl⟩ := mk_some hm
  have hbl := below_alloc w (.cells (madeCells zv.cells (n.toNat * e.n)).toList.toArray E)
  refine OpWp.value h2 ⟨ρ, fun _ _ => rfl, hbl, ?_, ⟨fun _ _ h => by simp [lkE] at h, fun _ _ _ h => by simp [lkE] at h, fun _ _ _ _ _ h => by simp [lkE] at h⟩⟩
  simp only [Slot.ok]
  refine val_sl.2 ⟨_, n.toNat, by simp, ⟨by simp, by simp; omega⟩, .inr ⟨w.heap.size, 0, _, rfl, by simp, ?_, memAt_alloc w _ E, okL_made hzv _ _ _⟩⟩
  rintro (h | ⟨i, en, h, _⟩)
  · have := K.low _ h; omega
  · simp [lkE] at h
end
end Go.Sw

namespace Go.Sw
open Go Go.RowKit

/-- '==' at a type says whether the values are the same -/
def EqE {α : Type} (n : Nat) (P : Program) (T : TypeId) (e : Enc α) : Prop := ∀ d, n ≤ d → ∀ (w : World) (S S' : Nat → Prop) (w1 w2 : World) (x y : α) (cs ds : List Value), e.ok x S w1 cs → e.ok y S' w2 ds →
  ∃ r, (Op.equalIn d T (e.pk cs) (e.pk ds)).run P w = .ok r w ∧ (r = true ↔ x = y)
theorem EqE.int {P : Program} {T : TypeId} {k k' : IntKind} (h : P.underlying T = some (.int k')) : EqE 1 P T (Enc.int k) := by
  intro d hd w S S' w1 w2 x y cs ds hx hy
  obtain ⟨d, rfl⟩ : ∃ d', d = d' + 1 := ⟨d - 1, by omega⟩
  rw [hx.1, hy.1]
  exact ⟨x == y, run_equalIn_int w d T k k' x y h, by simp⟩
theorem EqE.bool {P : Program} {T : TypeId} (h : P.underlying T = some .bool) : EqE 1 P T Enc.bool := by
  intro d hd w S S' w1 w2 x y cs ds hx hy
  obtain ⟨d, rfl⟩ : ∃ d', d = d' + 1 := ⟨d - 1, by omega⟩
  rw [show cs = [.bool x] from hx, show ds = [.bool y] from hy]
  exact ⟨x == y, run_equalIn_bool' w d T x y h, by simp⟩
theorem part_e {α : Type} {P : Program} {e : Enc α} {x : α} {S w w0} {a c b : List Value} {T : TypeId} {off : Nat} (ho : e.ok x S w0 c) (ha : a.length = off) (hA : ∀ w, (isAgg T).run P w = .ok e.agg w) (hS : ∀ w, (sizeOf T).run P w = .ok e.n w) :
    (part T (a ++ (c ++ b)).toArray off).run P w = .ok (e.pk c) w := by
  have hl := e.len ho
  unfold part
  simp only [Sem.run_bind, hA, Result.andThen_ok]
  cases hag : e.agg with
  | true =>
    simp only [if_true, Sem.run_bind, hS, Result.andThen_ok, Sem.run_pure, Enc.pk, hag]
    congr 2
    simp only [List.extract_toArray, List.extract_eq_take_drop]
    rw [← ha, List.drop_left]
    have : a.length + e.n - a.length = c.length := by omega
    rw [this, List.take_left]
  | false =>
    rw [e.one hag] at hl
    obtain ⟨v, rfl⟩ := List.length_eq_one_iff.1 hl
    have : (a ++ ([v] ++ b)).toArray[off]? = some v := by simp [← ha]
    simp only [Bool.false_eq_true, if_false, this, Sem.run_pure, Enc.pk, hag]
    rfl
theorem eqItems_e {α : Type} {n d : Nat} {P : Program} {E : TypeId} {e : Enc α} (hd : n ≤ d) (he : EqE n P E e) (hA : ∀ w, (isAgg E).run P w = .ok e.agg w) (hS : ∀ w, (sizeOf E).run P w = .ok e.n w) {S S' : Nat → Prop} {w1 w2 : World} :
    ∀ (xs ys : List α) (k : Nat) (pre pre' cs ds : List Value) (w : World), xs.length = ys.length → pre.length = k * e.n → pre'.length = k * e.n → e.okL xs S w1 cs → e.okL ys S' w2 ds →
      ∃ r, (Op.eqItems d E e.n (pre ++ cs).toArray (pre' ++ ds).toArray (List.range' k xs.length)).run P w = .ok r w ∧ (r = true ↔ xs = ys)
  | [], ys, k, pre, pre', cs, ds, w, hl, _, _, _, _ => by
    have : ys = [] := List.eq_nil_of_length_eq_zero (by simpa using hl.symm)
    subst this
    exact ⟨true, by simp [Op.eqItems], by simp⟩
  | x :: xs, [], k, pre, pre', cs, ds, w, hl, _, _, _, _ => by simp at hl
  | x :: xs, y :: ys, k, pre, pre', cs, ds, w, hl, hp, hp', ⟨c, c', h1, h2, h3⟩, ⟨q, q', k1, k2, k3⟩ => by
    subst h1; subst k1
    obtain ⟨r, hr, hiff⟩ := he d hd w S S' w1 w2 x y c q h2 k2
    obtain ⟨r', hr', hiff'⟩ := eqItems_e hd he hA hS xs ys (k + 1) (pre ++ c) (pre' ++ q) c' q' w (by simpa using hl) (by rw [List.length_append, hp, e.len h2, Nat.add_mul, Nat.one_mul]) (by rw [List.length_append, hp', e.len k2, Nat.add_mul, Nat.one_mul]) h3 k3
    simp only [List.length_cons, List.range'_succ, Op.eqItems, Sem.run_bind, part_e (P := P) (w := w) h2 hp hA hS, part_e (P := P) (w := w) k2 hp' hA hS, Result.andThen_ok, hr]
    cases r
    · refine ⟨false, by simp, ?_⟩
      simp only [Bool.false_eq_true, false_iff, List.cons.injEq, not_and]
      intro h; exact absurd (hiff.2 h) (by simp)
    · refine ⟨r', by simpa using hr', ?_⟩
      rw [hiff']; simp [hiff.1 rfl]
theorem EqE.arr {α : Type} {n m : Nat} {P : Program} {T E : TypeId} {e : Enc α} (hT : ∀ w, (underlying T).run P w = .ok (.array m E) w) (hI : ∀ w, (sizeOf E).run P w = .ok e.n w) (hA : ∀ w, (isAgg E).run P w = .ok e.agg w) (he : EqE n P E e) : EqE (n + 1) P T (Enc.arr m e) := by
  intro d hd w S S' w1 w2 x y cs ds hx hy
  obtain ⟨d, rfl⟩ : ∃ d', d = d' + 1 := ⟨d - 1, by omega⟩
  obtain ⟨i, hi, hsz⟩ : ∃ i, P.info? E = some i ∧ i.size = e.n := by
    have := hI default
    unfold sizeOf typeInfo at this
    simp only [Sem.run_bind, run_program, Result.andThen_ok] at this
    cases hq : P.info? E with
    | none => rw [hq] at this; simp at this
    | some i => rw [hq] at this; simp at this; exact ⟨i, rfl, this⟩
  have hce : P.cellsOf E = e.n := by unfold Program.cellsOf; rw [hi]; exact hsz
  obtain ⟨r, hr, hiff⟩ := eqItems_e (d := d) (by omega) he hA hI x y 0 [] [] cs ds w (by rw [hx.1, hy.1]) (by simp) (by simp) hx.2 hy.2
  refine ⟨r, ?_, hiff⟩
  have := run_equalIn_array (w := w) d cs.toArray ds.toArray (under_of hT) hi
  simp only [Enc.pk, show (Enc.arr m e).agg = true from rfl, if_true]
  rw [this, hce, List.range_eq_range', ← hx.1]
  simpa using hr

/-- the fields of a struct, from an offset on -/
def EqFs {α : Type} (n : Nat) (P : Program) (fs : List Field) (off : Nat) (e : Enc α) : Prop := ∀ d, n ≤ d → ∀ (w : World) (S S' : Nat → Prop) (w1 w2 : World) (x y : α) (pre pre' cs ds : List Value), pre.length = off → pre'.length = off → e.ok x S w1 cs → e.ok y S' w2 ds →
  ∃ r, (Op.eqFields d (pre ++ cs).toArray (pre' ++ ds).toArray fs).run P w = .ok r w ∧ (r = true ↔ x = y)
theorem EqFs.last {α : Type} {n off : Nat} {P : Program} {f : Field} {e : Enc α} (hn : f.name ≠ "_") (hf : f.offset = off) (he : EqE n P f.type e) (hA : ∀ w, (isAgg f.type).run P w = .ok e.agg w) (hS : ∀ w, (sizeOf f.type).run P w = .ok e.n w) : EqFs n P [f] off e := by
  intro d hd w S S' w1 w2 x y pre pre' cs ds hp hp' hx hy
  obtain ⟨r, hr, hiff⟩ := he d hd w S S' w1 w2 x y cs ds hx hy
  have h1 := part_e (P := P) (w := w) (a := pre) (b := []) hx hp hA hS
  have h2 := part_e (P := P) (w := w) (a := pre') (b := []) hy hp' hA hS
  rw [List.append_nil] at h1 h2
  refine ⟨r, ?_, hiff⟩
  simp only [Op.eqFields, hn, ne_eq, not_false_eq_true, if_true, Sem.run_bind, hf, h1, h2, Result.andThen_ok, hr]
  cases r <;> simp
theorem EqFs.cons {α β : Type} {n off : Nat} {P : Program} {f : Field} {fs : List Field} {a : Enc α} {b : Enc β} (hn : f.name ≠ "_") (hf : f.offset = off) (he : EqE n P f.type a) (hA : ∀ w, (isAgg f.type).run P w = .ok a.agg w) (hS : ∀ w, (sizeOf f.type).run P w = .ok a.n w)
    (hr : EqFs n P fs (off + a.n) b) : EqFs n P (f :: fs) off (Enc.pr a b) := by
  rintro d hd w S S' w1 w2 ⟨x, x'⟩ ⟨y, y'⟩ pre pre' cs ds hp hp' ⟨c, c', rfl, hx, hx'⟩ ⟨q, q', rfl, hy, hy'⟩
  obtain ⟨r, hr1, hiff⟩ := he d hd w S S' w1 w2 x y c q hx hy
  have h1 := part_e (P := P) (w := w) (a := pre) (b := c') hx hp hA hS
  have h2 := part_e (P := P) (w := w) (a := pre') (b := q') hy hp' hA hS
  obtain ⟨r', hr', hiff'⟩ := hr d hd w S S' w1 w2 x' y' (pre ++ c) (pre' ++ q) c' q' (by rw [List.length_append, hp, a.len hx]) (by rw [List.length_append, hp', a.len hy]) hx' hy'
  rw [List.append_assoc, List.append_assoc] at hr'
  simp only [Op.eqFields, hn, ne_eq, not_false_eq_true, if_true, Sem.run_bind, hf, h1, h2, Result.andThen_ok, hr1]
  cases r
  · refine ⟨false, by simp, ?_⟩
    simp only [Bool.false_eq_true, false_iff, Prod.mk.injEq, not_and]
    intro h; exact absurd (hiff.2 h) (by simp)
  · refine ⟨r', by simpa using hr', ?_⟩
    rw [hiff']; simp [hiff.1 rfl]
theorem EqE.struct {α : Type} {n : Nat} {P : Program} {T : TypeId} {fs : Array Field} {e : Enc α} (hT : ∀ w, (underlying T).run P w = .ok (.struct fs) w) (hp : P.stoodInHeld T = false) (ha : e.agg = true) (h : EqFs n P fs.toList 0 e) : EqE (n + 1) P T e := by
  intro d hd w S S' w1 w2 x y cs ds hx hy
  obtain ⟨d, rfl⟩ : ∃ d', d = d' + 1 := ⟨d - 1, by omega⟩
  obtain ⟨r, hr, hiff⟩ := h d (by omega) w S S' w1 w2 x y [] [] cs ds rfl rfl hx hy
  refine ⟨r, ?_, hiff⟩
  have hf : P.fieldsOf T = fs := by unfold Program.fieldsOf; rw [under_of hT]
  have := run_equalIn_struct (w := w) d T cs.toArray ds.toArray (by rw [under_of hT, hf]) hp
  simp only [Enc.pk, ha, if_true]
  rw [this, hf]
  simpa using hr

section
variable {F : Frm} {σ : AS} {d : Option Tmp} {ty : TypeId} {p : String} {af : Array Edge} {gd : Option (Nat × Bool)} {x y : Operand}
theorem eqV_run {α : Type} [DecidableEq α] {n : Nat} {e : Enc α} {o : BinOp} {T T' : TypeId} {z z' : α} {b : Bool} {ρ S a w} (ho : (o = .eql ∧ b = decide (z = z')) ∨ (o = .neq ∧ b = !decide (z = z'))) (he : EqE n F.P T e) (hn : Nat.ble n 10000 = true) (ha : e.agg = true) (hg : F.P.eqGuardType F.P.depth T = false)
    (hx : evS σ.g x = some (.v e z)) (hy : evS σ.g y = some (.v e z')) (K : Know σ (Op.binOp o T x y T').operands ρ S a w) : (execOp a.eval ⟨d, .binOp o T x y T', ty, p, af, gd⟩).run F.P w = .ok (.value (.bool b)) w := by
  have h1 := K.slot x (by simp [Op.operands]) _ hx
  have h2 := K.slot y (by simp [Op.operands]) _ hy
  simp only [Slot.ok] at h1 h2
  obtain ⟨cs, k1, k2⟩ := h1
  obtain ⟨ds, k3, k4⟩ := h2
  obtain ⟨r, hr, hiff⟩ := he 10000 (Nat.le_of_ble_eq_true hn) w S S w w z z' cs ds k1 k3
  have hrd : r = decide (z = z') := by
    cases r
    · symm; simp; intro h; exact absurd (hiff.2 h) (by simp)
    · symm; simp; exact hiff.1 rfl
  simp only [Enc.pk, ha, if_true] at k2 k4 hr
  refine eqop (r := r) (by rw [hrd]; exact ho) k2 k4 (by intros; simp) (by intros; simp) (by intros; simp) (by intros; simp) ?_ hr
  exact run_eqGuard_agg (w := w) o T x y _ _ hg
theorem JO.neV {α : Type} [DecidableEq α] {n : Nat} {e : Enc α} {T T' : TypeId} {z z' : α} (he : EqE n F.P T e) (hn : Nat.ble n 10000 = true) (ha : e.agg = true) (hg : F.P.eqGuardType F.P.depth T = false)
    (hx : evS σ.g x = some (.v e z)) (hy : evS σ.g y = some (.v e z')) : JO F ⟨d, .binOp .neq T x y T', ty, p, af, gd⟩ σ (.v Enc.bool (!decide (z = z'))) [] :=
  fun ρ S _ w K => OpWp.value (w' := w) (eqV_run (.inr ⟨rfl, rfl⟩) he hn ha hg hx hy K) (Res.same (bool_ok _ ρ S w))
end
end Go.Sw

namespace Go.Sw
open Go Go.RowKit

/-! ### the words of the models -/
/-- more rounds than any loop takes -/
def FUEL : Nat := 1125899906842624
inductive Ex (α β : Type) where
  | brk (x : α)
  | ret (r : β)
/-- a loop, and what comes behind it -/
def lp {α β γ : Type} (step : α → Option (Step α (Ex β γ))) (x : α) (k : β → Option γ) : Option γ :=
  match loop step FUEL x with
  | none => none
  | some (.brk y) => k y
  | some (.ret z) => some z
/-- where ways meet -/
def jp {β γ : Type} (k : β → Option γ) (body : (β → Option γ) → Option γ) : Option γ := body k

theorem lp_elim {α β γ : Type} {step : α → Option (Step α (Ex β γ))} {x : α} {k : β → Option γ} {r : γ} (h : lp step x k = some r) :
    ∃ o, loop step FUEL x = some o ∧ (∀ y, o = .brk y → k y = some r) ∧ (∀ z, o = .ret z → z = r) := by
  unfold lp at h
  cases hl : loop step FUEL x with
  | none => rw [hl] at h; cases h
  | some o =>
    rw [hl] at h
    refine ⟨o, rfl, ?_, ?_⟩
    · rintro y rfl; exact h
    · rintro z rfl; exact Option.some.inj h
theorem jp_elim {β γ : Type} {k : β → Option γ} {body : (β → Option γ) → Option γ} {r : γ} (h : jp k body = some r) : ∃ K, K = k ∧ body K = some r := ⟨k, rfl, h⟩
theorem cond_t {α : Type} {c : Bool} {x y : Option α} {r : α} (hc : c = true) (h : (bif c then x else y) = some r) : x = some r := by subst hc; exact h
theorem cond_f {α : Type} {c : Bool} {x y : Option α} {r : α} (hc : c = false) (h : (bif c then x else y) = some r) : y = some r := by subst hc; exact h
theorem bind_e {α β : Type} {x : Option α} {f : α → Option β} {r : β} (h : x.bind f = some r) : ∃ a, x = some a ∧ f a = some r := Option.bind_eq_some_iff.1 h

/-- names of what is ours, told anew -/
def rn : List (Nat × Nat) → Nat → Nat
  | [], i => i
  | (a, b) :: r, i => bif Nat.beq a i then b else rn r i

section
variable {F : Frm} {cs : List Code} {σ σ' : AS} {Q : Exit → Act → World → Prop} {α β γ : Type}

theorem W.condT {c : Tmp} {x y : Code} {b : Bool} (hb : lk σ.g c = some (.v Enc.bool b)) (hc : b = true) (ht : W F (x :: cs) σ Q) : W F (.cond (.tmp c) x y :: cs) σ Q := by
  subst hc; exact W.cond hb (fun _ => ht) (fun h => by cases h)
theorem W.condF {c : Tmp} {x y : Code} {b : Bool} (hb : lk σ.g c = some (.v Enc.bool b)) (hc : b = false) (ht : W F (y :: cs) σ Q) : W F (.cond (.tmp c) x y :: cs) σ Q := by
  subst hc; exact W.cond hb (fun h => by cases h) (fun _ => ht)

/-- how a round may end -/
def LB (F : Frm) (id : Nat) (σs : α → AS) (σx : β → AS) (o : Ex β γ) (Q : Exit → Act → World → Prop) : Step α (Ex β γ) → Exit → Act → World → Prop
  | .next y, .normal, a, w => St F (σs y) a w
  | .next _, _, _, _ => False
  | .done (.brk x), .exit i, a, w => i = id ∧ (o = .brk x → St F (σx x) a w)
  | .done (.brk _), _, _, _ => False
  | .done (.ret _), .normal, _, _ => False
  | .done (.ret z), .exit i, a, w => i ≠ id ∧ (o = .ret z → Q (.exit i) a w)
  | .done (.ret z), e, a, w => o = .ret z → Q e a w

/-- a loop in its block -/
theorem W.lp {id : Nat} {body : Code} {σs : α → AS} {step : α → Option (Step α (Ex β γ))} {x : α} {o : Ex β γ} (σx : β → AS) (hm : Sw.loop step FUEL x = some o) (h0 : Sub F σ (σs x))
    (hk : ∀ y, o = .brk y → W F cs (σx y) Q) (h : ∀ y r, step y = some r → W F [body] (σs y) (LB F id σs σx o Q r)) : W F (.block id (.loop body) :: cs) σ Q := by
  refine W.block (W.loop (b := o) hm h0 fun y r hr a w hs => ?_)
  refine wpIn_mono (h y r hr a w hs) ?_
  intro e a w hq
  cases r with
  | next z => cases e <;> simp only [LB, LQ, Exit.then, run] at hq ⊢ <;> exact hq
  | done b =>
    cases b with
    | brk z =>
      cases e <;> simp only [LB, LQ, Exit.then, run] at hq ⊢
      intro hb
      obtain ⟨rfl, hq⟩ := hq
      simp only [Exit.inBlock, if_true]
      exact hk z hb.symm a w (hq hb.symm)
    | ret z =>
      cases e <;> simp only [LB, LQ, Exit.then, run] at hq ⊢ <;> intro hb <;> first
        | (obtain ⟨hne, hq⟩ := hq; simp only [Exit.inBlock, if_neg hne]; exact hq hb.symm)
        | exact hq hb.symm
theorem W.next {id : Nat} {σs : α → AS} {σx : β → AS} {o : Ex β γ} {y : α} (h : Sub F σ (σs y)) : W F [] σ (LB F id σs σx o Q (.next y)) := fun a w hs => h a w hs
theorem XQ.brk {id : Nat} {σs : α → AS} {σx : β → AS} {o : Ex β γ} {y : β} (h : Sub F σ (σx y)) : XQ F σ (LB F id σs σx o Q (.done (.brk y))) (.exit id) := fun a w hs => ⟨rfl, fun _ => h a w hs⟩
theorem XQ.lret {id : Nat} {σs : α → AS} {σx : β → AS} {o : Ex β γ} {z : γ} (h : o = .ret z → XQ F σ Q .ret) : XQ F σ (LB F id σs σx o Q (.done (.ret z))) .ret := fun a w hs ho => h ho a w hs
/-- how an arm may end -/
def JQ (F : Frm) (σx : β → AS) (P : β → Prop) (Q : Exit → Act → World → Prop) : Exit → Act → World → Prop
  | .normal, a, w => ∃ x, P x ∧ St F (σx x) a w
  | e, a, w => Q e a w
theorem W.jn {c : Tmp} {x y : Code} {b : Bool} (σx : β → AS) (P : β → Prop) (hb : lk σ.g c = some (.v Enc.bool b)) (hk : ∀ x, P x → W F cs (σx x) Q) (ht : b = true → W F [x] σ (JQ F σx P Q)) (hf : b = false → W F [y] σ (JQ F σx P Q)) : W F (.cond (.tmp c) x y :: cs) σ Q := by
  refine W.cond hb (fun hc a w hs => ?_) (fun hc a w hs => ?_)
  · refine wpIn_mono (ht hc a w hs) ?_
    intro e a w hq
    cases e <;> simp only [Exit.then, run, JQ] at hq ⊢ <;> first | exact hq | (obtain ⟨z, h1, h2⟩ := hq; exact hk z h1 a w h2)
  · refine wpIn_mono (hf hc a w hs) ?_
    intro e a w hq
    cases e <;> simp only [Exit.then, run, JQ] at hq ⊢ <;> first | exact hq | (obtain ⟨z, h1, h2⟩ := hq; exact hk z h1 a w h2)
theorem W.jfall {σx : β → AS} {P : β → Prop} {z : β} (hz : P z) (h : Sub F σ (σx z)) : W F [] σ (JQ F σx P Q) := fun a w hs => ⟨z, hz, h a w hs⟩
/-- two ways to the same place -/
theorem W.two {b : Bool} (h : b = true → W F cs σ Q) (h' : b = false → W F cs σ Q) : W F cs σ Q := by cases b; exact h' rfl; exact h rfl
theorem J.fin {ops : Array Oper} (h : Sub F σ σ') : J F ops [] σ σ' := fun _ _ a w hs hk => hk a w (h a w hs)
end
theorem noR {P : Program} {N : Nat} {S : Nat → Prop} {w : World} : ∀ k, ¬ (Frm.R ⟨P, N, S, w, fun _ => False, none, []⟩ k) := fun _ h => h
end Go.Sw

namespace Go.Sw
open Go Go.RowKit

section
variable {F : Frm} {cs : List Code} {σ σ' : AS} {Q : Exit → Act → World → Prop} {α β γ : Type} {ops : Array Oper} {os : List Oper}

theorem GK.met {g : List (Nat × Slot)} {o : Oper} {j : Nat} {want : Bool} (t : Tmp) {x : Bool} (h : o.guard = .some (j, want)) (ht : (ops[j]?).bind (·.dst) = .some t)
    (hx : lk g t = .some (.v Enc.bool x)) (hb : x = want) : GK ops g o true := GK.some t x true h ht hx (by subst hb; simp)
theorem GK.unmet {g : List (Nat × Slot)} {o : Oper} {j : Nat} {want : Bool} (t : Tmp) {x : Bool} (h : o.guard = .some (j, want)) (ht : (ops[j]?).bind (·.dst) = .some t)
    (hx : lk g t = .some (.v Enc.bool x)) (hb : x = !want) : GK ops g o false := GK.some t x false h ht hx (by subst hb; simp)

/-- many ways to the same place -/
theorem W.mg {c : Code} (h : W F cs σ' Q → W F (c :: cs) σ Q) (k : W F cs σ' Q) : W F (c :: cs) σ Q := h k
theorem XQ.sub {e : Exit} (h : Sub F σ σ') (k : XQ F σ' Q e) : XQ F σ Q e := fun a w hs => k a w (h a w hs)

/-- a block, and what comes behind it, whichever way it is left -/
def BQ (F : Frm) (id : Nat) (σx : β → AS) (P : β → Prop) (Q : Exit → Act → World → Prop) : Exit → Act → World → Prop
  | .normal, a, w => ∃ x, P x ∧ St F (σx x) a w
  | .exit i, a, w => if i = id then ∃ x, P x ∧ St F (σx x) a w else Q (.exit i) a w
  | e, a, w => Q e a w
theorem W.bj {id : Nat} {body : Code} (σx : β → AS) (P : β → Prop) (hk : ∀ x, P x → W F cs (σx x) Q) (h : W F [body] σ (BQ F id σx P Q)) : W F (.block id body :: cs) σ Q := by
  refine W.block fun a w hs => wpIn_mono (h a w hs) ?_
  intro e a w hq
  cases e <;> simp only [Exit.then, run, BQ, Exit.inBlock] at hq ⊢ <;> first
    | exact hq
    | (obtain ⟨z, h1, h2⟩ := hq; exact hk z h1 a w h2)
    | (split at hq
       · rename_i hi; rw [if_pos hi]; obtain ⟨z, h1, h2⟩ := hq; exact hk z h1 a w h2
       · rename_i hi; rw [if_neg hi]; exact hq)
theorem W.bfall {id : Nat} {σx : β → AS} {P : β → Prop} {z : β} (hz : P z) (h : Sub F σ (σx z)) : W F [] σ (BQ F id σx P Q) := fun a w hs => ⟨z, hz, h a w hs⟩
theorem XQ.bhit {id : Nat} {σx : β → AS} {P : β → Prop} {z : β} (hz : P z) (h : Sub F σ (σx z)) : XQ F σ (BQ F id σx P Q) (.exit id) := fun a w hs => by
  simp only [BQ, if_true]; exact ⟨z, hz, h a w hs⟩
end

section
variable {F : Frm} {σ : AS} {pb : Option Nat} {s : Slot} {d : Option Tmp} {ty : TypeId} {p : String} {af : Array Edge} {gd : Option (Nat × Bool)} {x y c : Operand}

theorem JO.pT {b : Bool} (hb : b = true) (hc : evS σ.g c = some (.v Enc.bool b)) (hx : evS σ.g x = some s) : JO F ⟨d, .pick c x y, ty, p, af, gd⟩ σ s [] := by subst hb; exact JO.pickT hc hx
theorem JO.pF {b : Bool} (hb : b = false) (hc : evS σ.g c = some (.v Enc.bool b)) (hy : evS σ.g y = some s) : JO F ⟨d, .pick c x y, ty, p, af, gd⟩ σ s [] := by subst hb; exact JO.pickF hc hy

/-- a conversion that keeps the number -/
def wider (k k' : IntKind) : Bool := decide (k'.min ≤ k.min) && decide (k.max ≤ k'.max)
theorem wrap_id {k : IntKind} {n : Int} (h : inK k n) : k.wrap n = n := by
  unfold inK at h
  cases k <;> simp [IntKind.min, IntKind.max, IntKind.signed, IntKind.bits] at h <;> simp [IntKind.wrap, IntKind.signed, IntKind.bits] <;> omega
theorem JO.convUp {A B : TypeId} {da : TypeDesc} {k k' : IntKind} {n : Int} (ha : ∀ w, (underlying A).run F.P w = .ok da w) (hb : ∀ w, (underlying B).run F.P w = .ok (.int k') w) (hx : evS σ.g x = some (.v (Enc.int k) n)) (hw : wider k k' = true) :
    JO F ⟨d, .convert A B x, ty, p, af, gd⟩ σ (.v (Enc.int k') n) [] := by
  intro ρ S a w K
  have hk := (K_int K (x := x) (by simp [Op.operands]) hx).2
  have h := JO.conv (ty := ty) (p := p) (d := d) (af := af) (gd := gd) ha hb hx ρ S a w K
  have : k'.wrap n = n := by
    refine wrap_id ?_
    simp [wider] at hw
    unfold inK at *; omega
  rw [this] at h
  exact h

/-! ### what a model checks -/
def nz (n : Int) : Option Unit := if n = 0 then none else some ()
theorem nz_some {n : Int} {u : Unit} (h : nz n = some u) : n ≠ 0 := by unfold nz at h; split at h <;> simp_all
def nn (n : Int) : Option Unit := if 0 ≤ n then some () else none
theorem nn_some {n : Int} {u : Unit} (h : nn n = some u) : 0 ≤ n := by unfold nn at h; split at h <;> simp_all

/-! ### results that lie in memory -/
theorem K_cell {c : Nat} {ρ : Nat → LV} {a : Act} {w : World} (hc : Core F σ.d ρ w) (hs : ∀ t s, lk σ.g t = some s → s.ok ρ (Un F.S0 ρ σ.d) w (a.tmps.getD t undef)) {i off : Nat} {T : TypeId} {l : List Slot} (hx : lk σ.g c = some (.ptr i off)) (he : lkE σ.d i = some (.box T l pb)) :
    ∃ b cs, a.tmps.getD c undef = .pointer (some ⟨b, off, none⟩) ∧ w.heap[b]? = some (.cells cs.toArray T (0, 0)) ∧ Slot.okl ρ (Un F.S0 ρ σ.d) w l cs := by
  obtain ⟨b, cs, _, h2, h3, h4⟩ := K_ptr (x := .tmp c) (xs := #[.tmp c]) (Know.of_st hc hs #[.tmp c]) (by simp) hx he
  exact ⟨b, cs, h2, h3, h4⟩
theorem RV.cellAll {α : Type} {e : Enc α} {z : α} {T U : TypeId} {l : List Slot} {i c : Nat} (hx : lk σ.g c = some (.ptr i 0)) (he : lkE σ.d i = some (.box T l pb)) (hl : Spl l e z)
    (hA : ∀ w, (isAgg U).run F.P w = .ok e.agg w) (hS : ∀ w, (sizeOf U).run F.P w = .ok e.n w) : RV F σ (.cell c U) (.v e z) := by
  intro ρ a w hc hs
  obtain ⟨b, cs, h2, h3, h4⟩ := K_cell hc hs hx he
  have h5 := (hl ρ _ w cs).1 h4
  refine ⟨e.pk cs, ?_, by simp only [Slot.ok]; exact ⟨cs, h5, rfl⟩⟩
  have := load_e (P := F.P) (MemAt.of_heap h3) h5 hA hS
  simp [rvSem, h2, asAddr, this]
end
end Go.Sw
