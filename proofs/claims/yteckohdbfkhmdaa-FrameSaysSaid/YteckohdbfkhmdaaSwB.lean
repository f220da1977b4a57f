/- The library, second part: writing, literals, append, equality, models, maps. Conditions: none. -/
import Derived.Test.YteckohdbfkhmdaaSwA
import Derived.Laws.MakeOwn
import Derived.Laws.Tables
import Derived.ChangeKeysEq
import Derived.Laws.Cover3
namespace Go.Sw
open Go Go.RowKit

section
variable {F : Frm} {σ : AS} {s : Slot} {d : Option Tmp} {ty : TypeId} {p : String} {af : Array Edge} {gd : Option (Nat × Bool)} {x y : Operand}

theorem ev_ok {ρ : Nat → Value} {a : Act} {w : World} (hs : ∀ t s, lk σ.g t = some s → s.ok ρ (Un F.S0 ρ σ.d) w (a.tmps.getD t undef)) (h : evS σ.g x = some s) : s.ok ρ (Un F.S0 ρ σ.d) w (a.eval x) := by
  cases x with
  | tmp t => exact hs t s h
  | const u => exact (cslot_ok h ρ _ w).1
  | global g => cases h
  | func f => cases h
theorem okc_one {ρ S w} {s : Slot} {cs : List Value} (h : s.okc ρ S w cs) : ∀ v ∈ cs, s ≠ .top → v.oneCell' = true := by
  intro v hv ht
  cases s <;> simp only [Slot.okc] at h
  case v e z => exact e.cell h v hv
  case ref i => obtain ⟨⟨a, l, c, h1⟩ | ⟨a, h1⟩, rfl⟩ := h <;> (simp at hv; rw [hv, h1]; rfl)
  case ptr i off => obtain ⟨⟨b, h1⟩, rfl⟩ := h; simp at hv; rw [hv, h1]; rfl
  case pel i off k n => obtain ⟨⟨b, h1⟩, rfl⟩ := h; simp at hv; rw [hv, h1]; rfl
  case el i k n off => obtain ⟨⟨b, o, l, c, h1⟩, rfl⟩ := h; simp at hv; rw [hv, h1]; rfl
  case asl i off lo n cap => obtain ⟨⟨b, h1⟩, rfl⟩ := h; simp at hv; rw [hv, h1]; rfl
  case pst e z => obtain ⟨b, off, ds, rfl, h1⟩ := h; simp at hv; rw [hv]; rfl
  case fnc g cap => obtain ⟨vs, rfl, h1⟩ := h; simp at hv; rw [hv]; rfl
  case top => exact absurd rfl ht

theorem run_storeVar {P : Program} {w : World} {U T : TypeId} {b off n : Nat} {v : Value} {a c e : List Value} (hS : ∀ w, (sizeOf U).run P w = .ok n w) (hn : v.cells.size = n) (hone : ∀ u ∈ v.cells.toList, u.oneCell' = true)
    (hb : w.heap[b]? = some (.cells (a ++ (c ++ e)).toArray T (0, 0))) (hoff : a.length = off) (hc : c.length = n) :
    (storeVar U ⟨b, off, none⟩ v).run P w = .ok () (w.setRow b (a ++ (v.cells.toList ++ e)).toArray) := by
  unfold storeVar
  simp only [Sem.run_bind, hS, Result.andThen_ok, hn, ne_eq, not_true_eq_false, if_false]
  have hvl : v.cells.toList.length = n := by simpa using hn
  have := run_storeCells_at P b off T v.cells.toList 0 _ w hb (by simp; omega) hone
  simp only [Nat.add_zero] at this
  have e1 : (a ++ (c ++ e)).take off = a := by rw [← hoff]; exact List.take_left
  have e2 : (a ++ (c ++ e)).drop (off + v.cells.toList.length) = e := by
    rw [← List.append_assoc]
    have : off + v.cells.toList.length = (a ++ c).length := by rw [List.length_append, hoff, hvl, hc]
    rw [this]; exact List.drop_left
  rw [e1, e2] at this
  simpa [List.append_assoc] using this

theorem run_store_of {P : Program} {a : Act} {w w' : World} {U : TypeId} {ad : Addr} (h2 : a.eval x = .pointer (some ad)) (hst : (storeVar U ad (a.eval y)).run P w = .ok () w') :
    (execOp a.eval ⟨d, .store U x y, ty, p, af, gd⟩).run P w = .ok .skip w' := by
  simp only [execOp, h2, Instr.storeAt, Instr.sureAddr, Sem.run_bind, Sem.run_pure, Result.andThen_ok, hst]
/-- a store into a part of a box -/
theorem JM.store {T U : TypeId} {l : List Slot} {i off n : Nat} {s0 : Slot} (hx : evS σ.g x = some (.ptr i off)) (he : lkE σ.d i = some (.box T l)) (ho : offAt l off = some s0) (hy : evS σ.g y = some s) (hp : s.plain = true) (hsz : s.sz = n) (hsz0 : s0.sz = n)
    (hS : ∀ w, (sizeOf U).run F.P w = .ok n w) : JM F ⟨none, .store U x y, ty, p, af, gd⟩ σ ⟨σ.g, (i, .box T (setOff l off s)) :: σ.d⟩ := by
  refine JM.of_upd he rfl fun ρ a w hc hs => ?_
  have K := Know.of_st hc hs (Op.store U x y).operands
  obtain ⟨b, cs, h1, h2, h3, h4⟩ := K_ptr K (x := x) (by simp [Op.operands]) hx he
  have hv := ok_cells hp (ev_ok hs hy)
  obtain ⟨pre, c, post, rfl, rfl, h5, h6⟩ := okl_at ho h4
  have hone : ∀ u ∈ (a.eval y).cells.toList, u.oneCell' = true := fun u hu => okc_one hv u hu (fun e => by subst e; cases hp)
  have hst := run_storeVar (P := F.P) (w := w) (U := U) hS (by have := okc_len hv; simp only [Array.length_toList] at this; omega) hone h3 rfl (by rw [okc_len h5]; exact hsz0)
  refine ⟨b, w.setRow b (pre ++ ((a.eval y).cells.toList ++ post)).toArray, by rw [h1]; rfl, Upd.setRow w b _, ?_, fun hE => ?_⟩
  · exact run_store_of h2 hst
  · refine ⟨b, _, h1, setRow_heap w b _ _ T _ h3, ?_⟩
    exact Slot.okl_mono _ _ (h6 s _ hv) hE (fun _ _ => rfl)
/-- a store of a whole box -/
theorem JM.storeAll {α : Type} {e : Enc α} {z : α} {T U : TypeId} {l l' : List Slot} {i : Nat} (hx : evS σ.g x = some (.ptr i 0)) (he : lkE σ.d i = some (.box T l)) (hl : (l.map Slot.sz).sum = e.n) (hy : evS σ.g y = some (.v e z)) (hl' : Spl l' e z)
    (hS : ∀ w, (sizeOf U).run F.P w = .ok e.n w) : JM F ⟨none, .store U x y, ty, p, af, gd⟩ σ ⟨σ.g, (i, .box T l') :: σ.d⟩ := by
  refine JM.of_upd he rfl fun ρ a w hc hs => ?_
  have K := Know.of_st hc hs (Op.store U x y).operands
  obtain ⟨b, cs, h1, h2, h3, h4⟩ := K_ptr K (x := x) (by simp [Op.operands]) hx he
  have hv := ok_cells (s := .v e z) rfl (ev_ok hs hy)
  simp only [Slot.okc] at hv
  have hlen : cs.length = e.n := by
    rw [← hl]
    clear hl hS hx he h3 K
    induction l generalizing cs with
    | nil => simp only [Slot.okl] at h4; simp [h4]
    | cons t l ih =>
      simp only [Slot.okl] at h4
      obtain ⟨c, d, rfl, k1, k2⟩ := h4
      rw [List.length_append, okc_len k1, ih d k2]; simp
  have hst := run_storeVar (P := F.P) (w := w) (U := U) (a := []) (c := cs) (e := []) hS (by have := e.len hv; simp only [Array.length_toList] at this; omega) (fun u hu => e.cell hv u hu) (by simpa using h3) rfl hlen
  refine ⟨b, w.setRow b ([] ++ ((a.eval y).cells.toList ++ [])).toArray, by rw [h1]; rfl, Upd.setRow w b _, ?_, fun hE => ?_⟩
  · exact run_store_of h2 hst
  · refine ⟨b, _, h1, setRow_heap w b _ _ T _ h3, ?_⟩
    refine Slot.okl_mono _ _ ((hl' _ _ _ _).2 ?_) hE (fun _ _ => rfl)
    simpa using hv
theorem JM.storeAgg {T U : TypeId} {l l' : List Slot} {i n : Nat} (hx : evS σ.g x = some (.ptr i 0)) (he : lkE σ.d i = some (.box T l)) (hl : (l.map Slot.sz).sum = n) (hy : evS σ.g y = some (.agg l')) (hl' : (l'.map Slot.sz).sum = n) (hnt : l'.all Slot.plain = true)
    (hS : ∀ w, (sizeOf U).run F.P w = .ok n w) : JM F ⟨none, .store U x y, ty, p, af, gd⟩ σ ⟨σ.g, (i, .box T l') :: σ.d⟩ := by
  refine JM.of_upd he rfl fun ρ a w hc hs => ?_
  have K := Know.of_st hc hs (Op.store U x y).operands
  obtain ⟨b, cs, h1, h2, h3, h4⟩ := K_ptr K (x := x) (by simp [Op.operands]) hx he
  have hv := ev_ok hs hy
  simp only [Slot.ok] at hv
  obtain ⟨ds, hv1, hv2⟩ := hv
  have hlen : ∀ (l : List Slot) (cs : List Value), Slot.okl ρ (Un F.S0 ρ σ.d) w l cs → cs.length = (l.map Slot.sz).sum := by
    intro l
    induction l with
    | nil => intro cs h4; simp only [Slot.okl] at h4; simp [h4]
    | cons t l ih =>
      intro cs h4
      simp only [Slot.okl] at h4
      obtain ⟨c, d, rfl, k1, k2⟩ := h4
      rw [List.length_append, okc_len k1, ih d k2]; simp
  have hone : ∀ (l : List Slot) (cs : List Value), l.all Slot.plain = true → Slot.okl ρ (Un F.S0 ρ σ.d) w l cs → ∀ u ∈ cs, u.oneCell' = true := by
    intro l
    induction l with
    | nil => intro cs _ h4; simp only [Slot.okl] at h4; simp [h4]
    | cons t l ih =>
      intro cs hp h4 u hu
      simp only [Slot.okl] at h4
      obtain ⟨c, d, rfl, k1, k2⟩ := h4
      simp only [List.all_cons, Bool.and_eq_true] at hp
      rcases List.mem_append.1 hu with hu | hu
      · exact okc_one k1 u hu (fun e => by subst e; cases hp.1)
      · exact ih d hp.2 k2 u hu
  have hst := run_storeVar (P := F.P) (w := w) (U := U) (a := []) (c := cs) (e := []) (v := a.eval y) hS (by rw [hv1]; simp [Value.cells, hlen l' ds hv2, hl']) (by rw [hv1]; simpa [Value.cells] using hone l' ds hnt hv2) (by simpa using h3) rfl (by rw [hlen l cs h4, hl])
  refine ⟨b, w.setRow b ([] ++ ((a.eval y).cells.toList ++ [])).toArray, by rw [h1]; rfl, Upd.setRow w b _, ?_, fun hE => ?_⟩
  · exact run_store_of h2 hst
  · refine ⟨b, _, h1, setRow_heap w b _ _ T _ h3, ?_⟩
    refine Slot.okl_mono _ _ ?_ hE (fun _ _ => rfl)
    rw [hv1]
    simpa [Value.cells] using hv2

/-! ### elements of what is ours -/
theorem K_el {xs : Array Operand} {ρ : Nat → Value} {S a w} (K : Know σ xs ρ S a w) (hm : x ∈ xs) {α : Type} {e : Enc α} {zs : List α} {T : TypeId} {i k off : Nat} (hx : evS σ.g x = some (.el i k e.n off)) (he : lkE σ.d i = some (.arr T e zs)) :
    ∃ b cap pre cs post, ρ i = .slice (some ⟨b, pre.length, none⟩) zs.length cap ∧ a.eval x = .pointer (some ⟨b, pre.length + (k * e.n + off), none⟩) ∧ w.heap[b]? = some (.cells (pre ++ (cs ++ post)).toArray T (0, 0)) ∧ e.okL zs S w cs ∧
      zs.length ≤ cap ∧ cap * e.n ≤ cs.length + post.length ∧ zs.length ≤ 140737488355328 := by
  have h := K.slot x hm _ hx
  simp only [Slot.ok] at h
  obtain ⟨⟨b, o, l, c, h1⟩, h2⟩ := h
  have := (K.ent x hm _ hx i (by simp [Slot.lab]) _ he).1
  rw [h1] at this h2
  rcases this with ⟨_, h3⟩ | ⟨b', cap, pre, cs, post, h3, h4, h5⟩
  · cases h3
  · have h6 := h3
    simp only [Value.slice.injEq, Option.some.injEq, Addr.mk.injEq, and_true] at h6
    obtain ⟨⟨rfl, rfl⟩, _, _⟩ := h6
    exact ⟨b, cap, pre, cs, post, by rw [h1, h3], h2, h4, h5⟩
theorem JO.idxR {α : Type} {e : Enc α} {zs : List α} {T U E : TypeId} {k : IntKind} {n : Int} {z : α} {i : Nat} (hz : Sw.idx zs n = some z) (hx : evS σ.g x = some (.ref i)) (he : lkE σ.d i = some (.arr T e zs)) (hy : evS σ.g y = some (.v (Enc.int k) n))
    (hU : ∀ w, (underlying U).run F.P w = .ok (.slice E) w) (hE : ∀ w, (sizeOf E).run F.P w = .ok e.n w) : JO F ⟨d, .indexAddr U x y, ty, p, af, gd⟩ σ (.el i n.toNat e.n 0) [] := by
  intro ρ S a w K
  obtain ⟨h1, h2, _⟩ := K_ref K (x := x) (by simp [Op.operands]) hx he
  have hn := (K_int K (x := y) (by simp [Op.operands]) hy).1
  obtain ⟨i0, i1, i2⟩ := idx_some hz
  rcases h2 with ⟨rfl, _⟩ | ⟨b, cap, pre, cs, post, h3, _⟩
  · simp at i1
  refine OpWp.value (w' := w) (v := .pointer (some ⟨b, pre.length + n.toNat * e.n, none⟩)) ?_ (Res.same (by simp only [Slot.ok]; exact ⟨⟨b, _, _, _, h3⟩, by rw [h3]; simp [ptrEl]⟩))
  have := run_indexAt (P := F.P) (w := w) (b := b) (off := pre.length) (cap := cap) (k := k) hU hE i0 (by omega : n < (zs.length : Int))
  simp only [execOp, h1, hn, h3]
  simp [this]
theorem JO.loadEl {α β : Type} {e : Enc α} {zs : List α} {z : α} {e' : Enc β} {z' : β} {T U : TypeId} {i k off : Nat} (hz : zs[k]? = some z) (hx : evS σ.g x = some (.el i k e.n off)) (he : lkE σ.d i = some (.arr T e zs)) (hp : Prj e z off e' z')
    (hA : ∀ w, (isAgg U).run F.P w = .ok e'.agg w) (hS : ∀ w, (sizeOf U).run F.P w = .ok e'.n w) : JO F ⟨d, .load U x, ty, p, af, gd⟩ σ (.v e' z') [] := by
  intro ρ S a w K
  obtain ⟨b, cap, pre, cs, post, h1, h2, h3, h4, _⟩ := K_el K (x := x) (by simp [Op.operands]) hx he
  obtain ⟨a', c, b', rfl, hl, hc, _⟩ := Enc.okL_get h4 hz
  obtain ⟨a2, c2, d2, rfl, hl2, hc2⟩ := hp S w c hc
  have hm : MemAt w b (pre.length + (k * e.n + off)) c2 := by
    have h5 := MemAt.of_heap h3
    have e1 : pre ++ (a' ++ (a2 ++ (c2 ++ d2) ++ b') ++ post) = (pre ++ a' ++ a2) ++ (c2 ++ (d2 ++ b' ++ post)) := by simp
    rw [e1] at h5
    have := h5.sub
    have e2 : 0 + (pre ++ a' ++ a2).length = pre.length + (k * e.n + off) := by simp only [List.length_append, hl, hl2]; omega
    rw [e2] at this; exact this
  refine OpWp.value (w' := w) (v := e'.pk c2) ?_ (Res.same (by simp only [Slot.ok]; exact ⟨c2, hc2, rfl⟩))
  have := load_e (P := F.P) hm hc2 hA hS
  simp [execOp, h2, Instr.loadAt, Instr.sureAddr, this]
theorem JO.fieldEl (o' : Nat) {α : Type} {e : Enc α} {U : TypeId} {fs : Array Field} {n m i k off : Nat} {fl : Field} (hx : evS σ.g x = some (.el i k e.n off)) (hU : ∀ w, (underlying U).run F.P w = .ok (.struct fs) w) (hf : fs[n]? = some fl)
    (hm : ∀ w, (sizeOf fl.type).run F.P w = .ok m w) (hne : Nat.beq m 0 = false) (ho : Nat.beq (off + fl.offset) o' = true) : JO F ⟨d, .fieldAddr U x n, ty, p, af, gd⟩ σ (.el i k e.n o') [] := by
  have ho := Nat.eq_of_beq_eq_true ho
  subst ho
  intro ρ S a w K
  have h := K.slot x (by simp [Op.operands]) _ hx
  simp only [Slot.ok] at h
  obtain ⟨⟨b, o, l, c, h1⟩, h2⟩ := h
  rw [h1] at h2
  refine OpWp.value (w' := w) (v := .pointer (some ⟨b, o + (k * e.n + off) + fl.offset, none⟩)) ?_ (Res.same (by simp only [Slot.ok]; exact ⟨⟨b, o, l, c, h1⟩, by rw [h1]; simp [ptrEl]; omega⟩))
  have := run_fieldAt (P := F.P) (w := w) (b := b) (off := o + (k * e.n + off)) hU hf hm hne
  simp only [execOp, h2, ptrEl]
  simp [this]
/-- a store of an element -/
theorem JM.storeEl {α : Type} {e : Enc α} {zs : List α} {z z' : α} {T U : TypeId} {i k : Nat} (hz : zs[k]? = some z) (hx : evS σ.g x = some (.el i k e.n 0)) (he : lkE σ.d i = some (.arr T e zs)) (hy : evS σ.g y = some (.v e z'))
    (hS : ∀ w, (sizeOf U).run F.P w = .ok e.n w) : JM F ⟨none, .store U x y, ty, p, af, gd⟩ σ ⟨σ.g, (i, .arr T e (zs.set k z')) :: σ.d⟩ := by
  refine JM.of_upd he rfl fun ρ a w hc hs => ?_
  have K := Know.of_st hc hs (Op.store U x y).operands
  obtain ⟨b, cap, pre, cs, post, h1, h2, h3, h4, h5, h6, h7⟩ := K_el K (x := x) (by simp [Op.operands]) hx he
  have hv := ok_cells (s := .v e z') rfl (ev_ok hs hy)
  simp only [Slot.okc] at hv
  obtain ⟨a', c, b', rfl, hl, hc', hset⟩ := Enc.okL_get h4 hz
  have e1 : pre ++ (a' ++ (c ++ b') ++ post) = (pre ++ a') ++ (c ++ (b' ++ post)) := by simp
  rw [e1] at h3
  have hst := run_storeVar (P := F.P) (w := w) (U := U) (off := pre.length + (k * e.n + 0)) hS (by have := e.len hv; simp only [Array.length_toList] at this; omega) (fun u hu => e.cell hv u hu) h3 (by simp [hl]) (e.len hc')
  have e2 : (pre ++ a') ++ ((a.eval y).cells.toList ++ (b' ++ post)) = pre ++ ((a' ++ ((a.eval y).cells.toList ++ b')) ++ post) := by simp
  refine ⟨b, w.setRow b ((pre ++ a') ++ ((a.eval y).cells.toList ++ (b' ++ post))).toArray, by rw [h1]; rfl, Upd.setRow w b _, ?_, fun hE => ?_⟩
  · exact run_store_of h2 hst
  · refine .inr ⟨b, cap, pre, a' ++ ((a.eval y).cells.toList ++ b'), post, by simpa using h1, ?_, Enc.okL_mono (hset z' _ hv) hE, by simpa using h5, ?_, by simpa using h7⟩
    · rw [← e2]; exact setRow_heap w b _ _ T _ h3
    · have := e.len hv; have := e.len hc'; simp only [List.length_append] at h6 ⊢; omega
/-- arrays in boxes -/
theorem run_indexAtArr {P : Program} {w : World} {U E : TypeId} {m b off len : Nat} {k : IntKind} {n : Int} (hU : ∀ w, (underlying U).run P w = .ok (.array len E) w) (hE : ∀ w, (sizeOf E).run P w = .ok m w) (h0 : 0 ≤ n) (h1 : n < len) :
    (Instr.indexAt U (.pointer (some ⟨b, off, none⟩)) (.int k n)).run P w = .ok (.pointer (some ⟨b, off + n.toNat * m, none⟩)) w := by
  have : Addr.add ⟨b, off, none⟩ (n.toNat * m) = ⟨b, off + n.toNat * m, none⟩ := Addr.add_lit _ _ _
  simp [Instr.indexAt, asIntOf, hU, Instr.sureAddr, h0, h1, hE, this]
theorem JO.idxBox {α : Type} {e : Enc α} {zs : List α} {T U E : TypeId} {l : List Slot} {len i off : Nat} {k : IntKind} {n : Int} {z : α} (hz : Sw.idx zs n = some z) (hx : evS σ.g x = some (.ptr i off)) (he : lkE σ.d i = some (.box T l)) (ho : offAt l off = some (.v (Enc.arr len e) zs))
    (hy : evS σ.g y = some (.v (Enc.int k) n)) (hU : ∀ w, (underlying U).run F.P w = .ok (.array len E) w) (hE : ∀ w, (sizeOf E).run F.P w = .ok e.n w) : JO F ⟨d, .indexAddr U x y, ty, p, af, gd⟩ σ (.pel i off n.toNat e.n) [] := by
  intro ρ S a w K
  obtain ⟨b, cs, h1, h2, h3, h4⟩ := K_ptr K (x := x) (by simp [Op.operands]) hx he
  have hn := (K_int K (x := y) (by simp [Op.operands]) hy).1
  obtain ⟨i0, i1, i2⟩ := idx_some hz
  obtain ⟨pre, c, post, rfl, _, h5, _⟩ := okl_at ho h4
  simp only [Slot.okc] at h5
  have hlen := h5.1
  refine OpWp.value (w' := w) (v := .pointer (some ⟨b, off + n.toNat * e.n, none⟩)) ?_ (Res.same (by simp only [Slot.ok]; exact ⟨⟨b, h1⟩, by rw [h1]; rfl⟩))
  have := run_indexAtArr (P := F.P) (w := w) (b := b) (off := off) (k := k) hU hE i0 (by omega : n < (len : Int))
  simp only [execOp, h2, hn]
  simp [this]
theorem K_pel {xs : Array Operand} {ρ : Nat → Value} {S a w} (K : Know σ xs ρ S a w) (hm : x ∈ xs) {i off k n : Nat} {T : TypeId} {l : List Slot} (hx : evS σ.g x = some (.pel i off k n)) (he : lkE σ.d i = some (.box T l)) :
    ∃ b cs, ρ i = .pointer (some ⟨b, 0, none⟩) ∧ a.eval x = .pointer (some ⟨b, off + k * n, none⟩) ∧ w.heap[b]? = some (.cells cs.toArray T (0, 0)) ∧ Slot.okl ρ S w l cs := by
  have h := K.slot x hm _ hx
  simp only [Slot.ok] at h
  obtain ⟨⟨b, h1⟩, h2⟩ := h
  have := (K.ent x hm _ hx i (by simp [Slot.lab]) _ he).1
  rw [h1] at this h2
  obtain ⟨b', cs, h3, h4, h5⟩ := this
  have : b' = b := by simpa using h3.symm
  subst this
  exact ⟨b', cs, h1, h2, h4, h5⟩
theorem JO.loadPel {α : Type} {e : Enc α} {zs : List α} {z : α} {T U : TypeId} {l : List Slot} {len i off k : Nat} (hz : zs[k]? = some z) (hx : evS σ.g x = some (.pel i off k e.n)) (he : lkE σ.d i = some (.box T l)) (ho : offAt l off = some (.v (Enc.arr len e) zs))
    (hA : ∀ w, (isAgg U).run F.P w = .ok e.agg w) (hS : ∀ w, (sizeOf U).run F.P w = .ok e.n w) : JO F ⟨d, .load U x, ty, p, af, gd⟩ σ (.v e z) [] := by
  intro ρ S a w K
  obtain ⟨b, cs, h1, h2, h3, h4⟩ := K_pel K (x := x) (by simp [Op.operands]) hx he
  obtain ⟨pre, c, post, rfl, hpre, h5, _⟩ := okl_at ho h4
  simp only [Slot.okc] at h5
  obtain ⟨a', c', b', rfl, hl, hc, _⟩ := Enc.okL_get h5.2 hz
  have hm : MemAt w b (off + k * e.n) c' := by
    have h6 := MemAt.of_heap h3
    have e1 : pre ++ (a' ++ (c' ++ b') ++ post) = (pre ++ a') ++ (c' ++ (b' ++ post)) := by simp
    rw [e1] at h6
    have := h6.sub
    have e2 : 0 + (pre ++ a').length = off + k * e.n := by simp [hl, hpre]
    rw [e2] at this; exact this
  refine OpWp.value (w' := w) (v := e.pk c') ?_ (Res.same (by simp only [Slot.ok]; exact ⟨c', hc, rfl⟩))
  have := load_e (P := F.P) hm hc hA hS
  simp [execOp, h2, Instr.loadAt, Instr.sureAddr, this]
theorem JM.storePel {α : Type} {e : Enc α} {zs : List α} {z z' : α} {T U : TypeId} {l : List Slot} {len i off k : Nat} (hz : zs[k]? = some z) (hx : evS σ.g x = some (.pel i off k e.n)) (he : lkE σ.d i = some (.box T l)) (ho : offAt l off = some (.v (Enc.arr len e) zs))
    (hy : evS σ.g y = some (.v e z')) (hS : ∀ w, (sizeOf U).run F.P w = .ok e.n w) : JM F ⟨none, .store U x y, ty, p, af, gd⟩ σ ⟨σ.g, (i, .box T (setOff l off (.v (Enc.arr len e) (zs.set k z')))) :: σ.d⟩ := by
  refine JM.of_upd he rfl fun ρ a w hc hs => ?_
  have K := Know.of_st hc hs (Op.store U x y).operands
  obtain ⟨b, cs, h1, h2, h3, h4⟩ := K_pel K (x := x) (by simp [Op.operands]) hx he
  have hv := ok_cells (s := .v e z') rfl (ev_ok hs hy)
  simp only [Slot.okc] at hv
  obtain ⟨pre, c, post, rfl, hpre, h5, h6⟩ := okl_at ho h4
  simp only [Slot.okc] at h5
  obtain ⟨h5l, h5⟩ := h5
  obtain ⟨a', c', b', rfl, hl, hc', hset⟩ := Enc.okL_get h5 hz
  have e1 : pre ++ (a' ++ (c' ++ b') ++ post) = (pre ++ a') ++ (c' ++ (b' ++ post)) := by simp
  rw [e1] at h3
  have hst := run_storeVar (P := F.P) (w := w) (U := U) (off := off + k * e.n) hS (by have := e.len hv; simp only [Array.length_toList] at this; omega) (fun u hu => e.cell hv u hu) h3 (by simp [hl, hpre]) (e.len hc')
  have e2 : (pre ++ a') ++ ((a.eval y).cells.toList ++ (b' ++ post)) = pre ++ ((a' ++ ((a.eval y).cells.toList ++ b')) ++ post) := by simp
  refine ⟨b, w.setRow b ((pre ++ a') ++ ((a.eval y).cells.toList ++ (b' ++ post))).toArray, by rw [h1]; rfl, Upd.setRow w b _, ?_, fun hE => ?_⟩
  · exact run_store_of h2 hst
  · refine ⟨b, pre ++ ((a' ++ ((a.eval y).cells.toList ++ b')) ++ post), h1, ?_, ?_⟩
    · rw [← e2]; exact setRow_heap w b _ _ T _ h3
    · refine Slot.okl_mono _ _ (h6 (.v (Enc.arr len e) (zs.set k z')) (a' ++ ((a.eval y).cells.toList ++ b')) ?_) hE (fun _ _ => rfl)
      simp only [Slot.okc]
      exact ⟨by simpa using h5l, hset z' _ hv⟩
end
end Go.Sw

namespace Go.Sw
open Go Go.RowKit

def delE (d : List (Nat × Ent)) (i : Nat) : List (Nat × Ent) := match d with
  | [] => []
  | (j, en) :: r => bif Nat.beq j i then delE r i else (j, en) :: delE r i
theorem lkE_del {i k : Nat} : ∀ {d : List (Nat × Ent)}, lkE (delE d i) k = if k = i then none else lkE d k
  | [] => by simp [delE, lkE]
  | (j, en) :: r => by
    have ih := lkE_del (i := i) (k := k) (d := r)
    simp only [delE]
    cases hb : Nat.beq j i with
    | true =>
      have := Nat.eq_of_beq_eq_true hb; subst this
      simp only [cond_true, ih, lkE_cons]
      by_cases hk : k = j
      · simp [hk]
      · have : ¬ j = k := fun e => hk e.symm
        simp [hk, this]
    | false =>
      have hne : j ≠ i := fun e => by subst e; simp at hb
      simp only [cond_false, lkE_cons, ih]
      by_cases hk : j = k
      · subst hk; simp [hne]
      · simp [hk]

/-- memory then: what there was, but for one block of ours; and what is new -/
structure Chg (b : Option Nat) (w w' : World) : Prop where
  size : w.heap.size ≤ w'.heap.size
  other : ∀ k, k < w.heap.size → some k ≠ b → w'.heap[k]? = w.heap[k]?
  os : w'.os = w.os
  tape : w'.tape = w.tape
  output : w'.output = w.output
theorem Chg.setRow (w : World) (b : Nat) (cs : Array Value) : Chg (some b) w (w.setRow b cs) := ⟨by simp [World.setRow], fun k _ h => setRow_other w b k cs (fun e => h (by rw [e])), rfl, rfl, rfl⟩
theorem Chg.refl (b : Option Nat) (w : World) : Chg b w w := ⟨Nat.le_refl _, fun _ _ _ => rfl, rfl, rfl, rfl⟩
theorem Chg.alloc (b : Option Nat) (w : World) (o : Obj) : Chg b w (w.drew.alloc o) := ⟨by simp, fun k hk _ => heap_alloc_old w.drew o k hk, rfl, rfl, rfl⟩

section
variable {F : Frm} {σ : AS} {s : Slot} {d : Option Tmp} {ty : TypeId} {p : String} {af : Array Edge} {gd : Option (Nat × Bool)} {x y : Operand}

def gput (d : Option Tmp) (s : Slot) (g : List (Nat × Slot)) : List (Nat × Slot) := match d with | some t => (t, s) :: g | none => g
/-- a slice of ours becomes another one -/
theorem St.repl {ρ : Nat → Value} {a : Act} {w w' : World} {i j : Nat} {en en' : Ent} {u : Value} (hc : Core F σ.d ρ w) (hs : ∀ t s, lk σ.g t = some s → s.ok ρ (Un F.S0 ρ σ.d) w (a.tmps.getD t undef)) (hz : a.tmps.size = F.N) (hde : a.defers = [])
    (hi : lkE σ.d i = some en) (hf : σ.free [(j, en')] = true) (hdst : dstOk d F.N = true) (hu : Chg (blk (ρ i)) w w') (hsh : IsRef u) (hlab : en'.lab = [])
    (hb : ∀ b, blk u = some b → (blk (ρ i) = some b ∨ w.heap.size ≤ b) ∧ b < w'.heap.size)
    (hen : ∀ S' ρ', Ext (Un F.S0 ρ σ.d) S' w w' → en'.ok ρ' S' w' u) : St F ⟨gput d (.ref j) σ.g, (j, en') :: delE σ.d i⟩ (a.put d u) w' := by
  let ρ' : Nat → Value := fun k => if k = j then u else ρ k
  have hj : ρ' j = u := if_pos rfl
  have hne : ∀ k, k ≠ j → ρ' k = ρ k := fun k h => if_neg h
  have hfr := AS.free_spec hf (i := j) (en := en') (by simp [lkE])
  have hl : ∀ k e, lkE ((j, en') :: delE σ.d i) k = some e → (k = j ∧ e = en') ∨ (k ≠ j ∧ k ≠ i ∧ lkE σ.d k = some e) := by
    intro k e h
    rw [lkE_cons] at h
    split at h
    · rename_i h1; cases h; exact .inl ⟨h1.symm, rfl⟩
    · rename_i h1
      rw [lkE_del] at h
      split at h
      · cases h
      · rename_i h2; exact .inr ⟨fun e => h1 e.symm, h2, h⟩
  have hU : ∀ k, k < w.heap.size → Un F.S0 ρ' ((j, en') :: delE σ.d i) k → Un F.S0 ρ σ.d k := by
    rintro k hk (h | ⟨q, e, h1, h2⟩)
    · exact .inl h
    · rcases hl q e h1 with ⟨rfl, rfl⟩ | ⟨h3, h4, h5⟩
      · rw [hj] at h2
        rcases (hb k h2).1 with h | h
        · exact .inr ⟨i, en, hi, h⟩
        · omega
      · rw [hne q h3] at h2; exact .inr ⟨q, e, h5, h2⟩
  have hE : Ext (Un F.S0 ρ σ.d) (Un F.S0 ρ' ((j, en') :: delE σ.d i)) w w' := ⟨hu.size, fun k hk hn => ⟨hu.other k hk (fun e => hn (.inr ⟨i, en, hi, e.symm⟩)), fun h => hn (hU k hk h)⟩⟩
  have hagS : ∀ t s, lk σ.g t = some s → agreeOn ρ ρ' s.lab := fun t s h k hk => hne k fun e => by subst e; exact hfr.1 t s h hk
  have hbk : ∀ k e b, k ≠ i → lkE σ.d k = some e → blk (ρ k) = some b → blk (ρ i) ≠ some b := fun k e b h h1 h2 h3 => h (hc.inj k i e en b h1 hi h2 h3)
  refine ⟨⟨ρ', ⟨hc.low, Nat.le_trans hc.size hu.size, fun k hk hr => ?_, hu.os.trans hc.os, hu.tape.trans hc.tape, hu.output.trans hc.output, fun k e h => ?_, fun k e b h hb' => ?_, fun k k' e e' b h h' hb1 hb2 => ?_, fun k e b h hb' => ?_⟩, ?_⟩, by rw [Act.size_put, hz], by cases d <;> exact hde⟩
  · rw [hu.other k (Nat.lt_of_lt_of_le hk hc.size) (fun e => ?_)]
    · exact hc.frame k hk hr
    · rcases (hc.fresh i en k hi e.symm).1 with h | h
      · omega
      · exact hr h
  · rcases hl k e h with ⟨rfl, rfl⟩ | ⟨h1, h2, h3⟩
    · rw [hj]; exact hen _ _ hE
    · rw [hne k h1]
      refine Ent.ok_mono (hc.own k e h3) hE (fun q hq => hne q fun e' => ?_) (fun b hb' => hu.other b (hc.fresh k e b h3 hb').2 (fun e' => hbk k e b h2 h3 hb' e'.symm))
      subst e'; exact hfr.2.2 k e h3 hq
  · rcases hl k e h with ⟨rfl, rfl⟩ | ⟨h1, h2, h3⟩
    · rw [hj] at hb'
      obtain ⟨h4, h5⟩ := hb b hb'
      refine ⟨?_, h5⟩
      rcases h4 with h4 | h4
      · exact (hc.fresh i en b hi h4).1
      · exact .inl (Nat.le_trans hc.size h4)
    · rw [hne k h1] at hb'
      exact ⟨(hc.fresh k e b h3 hb').1, Nat.lt_of_lt_of_le (hc.fresh k e b h3 hb').2 hu.size⟩
  · have key : ∀ k e, k ≠ j → k ≠ i → lkE σ.d k = some e → blk (ρ k) = some b → blk u = some b → False := fun k e _ h2 h3 h4 h5 => by
      rcases (hb b h5).1 with h6 | h6
      · exact hbk k e b h2 h3 h4 h6
      · have := (hc.fresh k e b h3 h4).2; omega
    rcases hl k e h with ⟨rfl, rfl⟩ | ⟨h1, h2, h3⟩
    · rcases hl k' e' h' with ⟨rfl, rfl⟩ | ⟨h1', h2', h3'⟩
      · rfl
      · rw [hj] at hb1; rw [hne k' h1'] at hb2; exact (key k' e' h1' h2' h3' hb2 hb1).elim
    · rw [hne k h1] at hb1
      rcases hl k' e' h' with ⟨rfl, rfl⟩ | ⟨h1', h2', h3'⟩
      · rw [hj] at hb2; exact (key k e h1 h2 h3 hb1 hb2).elim
      · rw [hne k' h1'] at hb2; exact hc.inj k k' e e' b h3 h3' hb1 hb2
  · rcases hl k e h with ⟨rfl, rfl⟩ | ⟨h1, h2, h3⟩
    · rw [hj] at hb'
      rcases (hb b hb').1 with h4 | h4
      · exact hc.apart i en b hi h4
      · intro h5; have := hc.low b h5; have := hc.size; omega
    · rw [hne k h1] at hb'; exact hc.apart k e b h3 hb'
  · intro t s ht
    have hold : ∀ t s, lk σ.g t = some s → s.ok ρ' (Un F.S0 ρ' ((j, en') :: delE σ.d i)) w' (a.tmps.getD t undef) := fun t s ht => Slot.ok_mono s _ (hs t s ht) hE (hagS t s ht)
    cases d with
    | none => exact hold t s ht
    | some q =>
      simp only [gput] at ht
      have hlt : q < a.tmps.size := by rw [hz]; exact Nat.le_of_ble_eq_true hdst
      rw [Act.getD_put a q u t hlt]
      rw [lk_cons] at ht
      split at ht
      · rename_i h1
        cases ht; rw [if_pos h1]
        simp only [Slot.ok]
        exact ⟨by rw [hj]; exact hsh, hj.symm⟩
      · rename_i h1
        rw [if_neg h1]; exact hold t s ht

/-! ### append -/
/-- the cells of what is appended -/
def Src (σ : AS) (y : Operand) {α : Type} (e : Enc α) (ys : List α) : Prop := ∀ (ρ : Nat → Value) (S : Nat → Prop) (a : Act) (w : World), Know σ #[y] ρ S a w →
  ys.length ≤ 9223372036854775807 ∧ ∃ ad cap, a.eval y = .slice ad ys.length cap ∧ (ys = [] ∨ ∃ b off ds, ad = some ⟨b, off, none⟩ ∧ MemAt w b off ds ∧ e.okL ys S w ds)
theorem Src.sl {α : Type} {e : Enc α} {ys : List α} (h : evS σ.g y = some (.v (Enc.sl e) ys)) : Src σ y e ys := by
  intro ρ S a w K
  have h1 := K.slot y (by simp) _ h
  simp only [Slot.ok] at h1
  obtain ⟨ad, cap, h2, hl, h3⟩ := val_sl.1 h1
  refine ⟨hl.2, ad, cap, h2, ?_⟩
  rcases h3 with h3 | ⟨b, off, ds, h4, _, _, h5, h6⟩
  · exact .inl h3
  · exact .inr ⟨b, off, ds, h4, h5, h6⟩
theorem Src.ref {α : Type} {e : Enc α} {ys : List α} {i : Nat} {T : TypeId} (h : evS σ.g y = some (.ref i)) (he : lkE σ.d i = some (.arr T e ys)) : Src σ y e ys := by
  intro ρ S a w K
  obtain ⟨h1, h2, _⟩ := K_ref K (x := y) (by simp) h he
  rw [h1]
  rcases h2 with ⟨rfl, h2⟩ | ⟨b, cap, pre, cs, post, h2, h3, h4, h5, h6, h7⟩
  · exact ⟨by simp, none, 0, h2, .inl rfl⟩
  · refine ⟨by omega, _, cap, h2, .inr ⟨b, _, cs, rfl, ?_, h4⟩⟩
    have := (MemAt.of_heap h3).sub; simpa using this

/-- as long as memory bears it -/
def app {α : Type} (xs ys : List α) : Option (List α) := if xs.length + ys.length ≤ 4294967296 then some (xs ++ ys) else none
theorem app_some {α : Type} {xs ys zs : List α} (h : app xs ys = some zs) : xs.length + ys.length ≤ 4294967296 ∧ zs = xs ++ ys := by
  unfold app at h; split at h
  · rename_i h1; exact ⟨h1, by cases h; rfl⟩
  · cases h

theorem run_append0 {P : Program} {w : World} {U E tt : TypeId} {n : Nat} {base ad : Option Addr} {l c cap : Nat} (hU : ∀ w, (underlying U).run P w = .ok (.slice E) w) (hE : ∀ w, (sizeOf E).run P w = .ok n w) (hle : l ≤ cap) :
    (Builtin.append_ #[U, U] tt #[.slice base l cap, .slice ad 0 c]).run P w = .ok (.slice base l cap) w := by
  have hf : (Builtin.firstCells n 0 (.slice ad 0 c)).run P w = .ok #[] w := by
    cases ad <;> simp [Builtin.firstCells, loadCells, loadCellsFrom]
  cases base <;> simp [Builtin.append_, hU, hE, Builtin.lenOf, hle, hf, storeCells]
theorem run_append_at {P : Program} {w : World} {U E tt : TypeId} {n g off l cap m c : Nat} {cur : List Value} {a : Addr} {news : List Value} (hU : ∀ w, (underlying U).run P w = .ok (.slice E) w) (hE : ∀ w, (sizeOf E).run P w = .ok n w)
    (hg : w.heap[g]? = some (.cells cur.toArray E (0, 0))) (hl : news.length = m * n) (hnews : ∀ j u, news[j]? = some u → w.cell? (a.add j) = some u) (h1 : ∀ u ∈ news, u.oneCell' = true) (hroom : l + m ≤ cap) (hfit : off + l * n + news.length ≤ cur.length) :
    (Builtin.append_ #[U, U] tt #[.slice (some ⟨g, off, none⟩) l cap, .slice (some a) m c]).run P w =
      .ok (.slice (some ⟨g, off, none⟩) (l + m) cap) (w.setRow g (cur.take (off + l * n) ++ news ++ cur.drop (off + l * n + news.length)).toArray) := by
  have hf := run_firstCells_some (P := P) w n m a m c news hl hnews
  have hst := run_storeCells_at P g (off + l * n) E news 0 cur.toArray w hg (by simpa using hfit) h1
  simp only [Nat.add_zero] at hst
  simp [Builtin.append_, hU, hE, Builtin.lenOf, hroom, hf, Addr.add_lit, hst]

theorem JM.append {α : Type} {e : Enc α} {xs ys zs : List α} {T U : TypeId} {ti : TypeInfo} {z : Value} {i : Nat} (j : Nat) (ha : app xs ys = some zs) (hx : evS σ.g x = some (.ref i)) (he : lkE σ.d i = some (.arr T e xs)) (hy : Src σ y e ys)
    (hU : ∀ w, (underlying U).run F.P w = .ok (.slice T) w) (hI : ∀ w, (typeInfo T).run F.P w = .ok ti w) (hS : ∀ w, (sizeOf T).run F.P w = .ok e.n w) (hz : ti.zero = some z) (hzs : z.cells.size = e.n) (hby : Nat.ble ti.bytes 4096 = true)
    (hf : σ.free [(j, .arr T e zs)] = true) (hd : dstOk d F.N = true) :
    JM F ⟨d, .call ⟨.builtin .append, #[x, y], #[U, U]⟩, ty, p, af, gd⟩ σ ⟨gput d (.ref j) σ.g, (j, .arr T e zs) :: delE σ.d i⟩ := by
  obtain ⟨hlen, rfl⟩ := app_some ha
  have hby := Nat.le_of_ble_eq_true hby
  rintro a w ⟨⟨ρ, hc, hs⟩, hsz, hde⟩
  have K := Know.of_st hc hs (Op.call ⟨.builtin .append, #[x, y], #[U, U]⟩).operands
  have hti : ti.size = e.n := size_of hI hS
  obtain ⟨h1, h2, h3⟩ := K_ref K (x := x) (by simp [Op.operands, Call.operands]) hx he
  have hmem : ∀ q, q ∈ #[y] → q ∈ (Op.call ⟨.builtin .append, #[x, y], #[U, U]⟩).operands := by
    intro q hq
    have hq' : q = y := by simpa using hq
    subst hq'; simp [Op.operands, Call.operands]
  obtain ⟨hyl, ad, c, h4, h5⟩ := hy ρ _ a w ⟨K.low, fun q hq s h => K.slot q (hmem q hq) s h, fun q hq s h => K.ent q (hmem q hq) s h⟩
  have hexec : ∀ v w', (Builtin.append_ #[U, U] ty #[ρ i, .slice ad ys.length c]).run F.P w = .ok v w' → (execOp a.eval ⟨d, .call ⟨.builtin .append, #[x, y], #[U, U]⟩, ty, p, af, gd⟩).run F.P w = .ok (.value v) w' := by
    intro v w' h
    simp [execOp, resolve, invoke, builtin, h1, h4, h]
  have fin : ∀ u w', (Builtin.append_ #[U, U] ty #[ρ i, .slice ad ys.length c]).run F.P w = .ok u w' → Chg (blk (ρ i)) w w' → IsRef u → (∀ b, blk u = some b → (blk (ρ i) = some b ∨ w.heap.size ≤ b) ∧ b < w'.heap.size) →
      (∀ S' ρ', Ext (Un F.S0 ρ σ.d) S' w w' → (Ent.arr T e (xs ++ ys)).ok ρ' S' w' u) →
      OpWp F.P ⟨d, .call ⟨.builtin .append, #[x, y], #[U, U]⟩, ty, p, af, gd⟩ a w fun v w' => St F ⟨gput d (.ref j) σ.g, (j, .arr T e (xs ++ ys)) :: delE σ.d i⟩ (a.put d v) w' :=
    fun u w' hr hu hsh hb hen => OpWp.value (hexec u w' hr) (St.repl hc hs hsz hde he hf hd hu hsh rfl hb hen)
  rcases h5 with rfl | ⟨b, off, ds, rfl, hm, hds⟩
  · -- nothing is appended
    rw [List.append_nil] at *
    rcases h2 with ⟨rfl, h2⟩ | ⟨b, cap, pre, cs, post, h2, h6, h7, h8, h9⟩
    · refine fin (.slice none 0 0) w ?_ (Chg.refl _ _) (.inl ⟨_, _, _, rfl⟩) (fun b h => by simp [blk] at h) (fun _ _ _ => .inl ⟨rfl, rfl⟩)
      rw [h2]; exact run_append0 hU hS (Nat.le_refl _)
    · refine fin _ w ?_ (Chg.refl _ _) (.inl ⟨_, _, _, h2⟩) (fun b h => ⟨.inl h, (h3 b h).2⟩) (fun S' ρ' hE => ?_)
      · rw [h2]; exact run_append0 hU hS h8
      · exact .inr ⟨b, cap, pre, cs, post, h2, h6, Enc.okL_mono h7 hE, h8, h9⟩
  · have hdl := Enc.okL_len hds
    have hcell := hm.cell
    have hone := Enc.okL_cell hds
    have hEn : ∀ (S' : Nat → Prop) (w' : World) (cs : List Value), Ext (Un F.S0 ρ σ.d) S' w w' → e.okL xs (Un F.S0 ρ σ.d) w cs → e.okL (xs ++ ys) S' w' (cs ++ ds) := fun S' w' cs hE h => Enc.okL_append (Enc.okL_mono h hE) (Enc.okL_mono hds hE)
    have hzl : ∀ q, (Builtin.zeroCells z.cells q).toList.length = q * e.n := fun q => by rw [Array.length_toList, size_zeroCells, hzs]
    by_cases hm0 : ys.length = 0
    · -- the same
      have hy0 : ys = [] := List.eq_nil_of_length_eq_zero hm0
      subst hy0
      rw [List.append_nil] at *
      rcases h2 with ⟨rfl, h2⟩ | ⟨b', cap, pre, cs, post, h2, h6, h7, h8, h9⟩
      · refine fin (.slice none 0 0) w ?_ (Chg.refl _ _) (.inl ⟨_, _, _, rfl⟩) (fun b h => by simp [blk] at h) (fun _ _ _ => .inl ⟨rfl, rfl⟩)
        rw [h2]; exact run_append0 hU hS (Nat.le_refl _)
      · refine fin _ w ?_ (Chg.refl _ _) (.inl ⟨_, _, _, h2⟩) (fun b h => ⟨.inl h, (h3 b h).2⟩) (fun S' ρ' hE => ?_)
        · rw [h2]; exact run_append0 hU hS h8
        · exact .inr ⟨b', cap, pre, cs, post, h2, h6, Enc.okL_mono h7 hE, h8, h9⟩
    rcases h2 with ⟨rfl, h2⟩ | ⟨g, cap, pre, cs, post, h2, h6, h7, h8, h9, h10⟩
    · -- to nil
      have hr := run_append_nil (P := F.P) w U ty T ti z (under_of hU) (info_of hI) hz ⟨b, off, none⟩ ys.length c ds (by rw [hti]; exact hdl) hcell (by omega) (by simp at hlen; omega) (by
        have : ys.length * ti.bytes ≤ 4294967296 * 4096 := Nat.mul_le_mul (by simp at hlen; omega) hby
        omega)
      have hge := grownCap_ge w ys.length 0 T
      refine fin _ _ (by rw [h2]; exact hr) (Chg.alloc _ _ _) (.inl ⟨_, _, _, rfl⟩) (fun b' h => ?_) (fun S' ρ' hE => ?_)
      · simp only [blk, Option.some.injEq] at h; subst h; exact ⟨.inr (Nat.le_refl _), by simp⟩
      · have h11 := hEn S' _ [] hE rfl
        simp only [List.nil_append] at h11 ⊢
        refine .inr ⟨w.heap.size, _, [], ds, (Builtin.zeroCells z.cells (grownCap w ys.length 0 T - ys.length)).toList, rfl, ?_, h11, hge, ?_, by simp at hlen; omega⟩
        · rw [show w.heap.size = w.drew.heap.size from rfl, heap_alloc_new]; simp
        · rw [hdl, hzl, ← Nat.add_mul]; exact Nat.mul_le_mul_right _ (by omega)
    · by_cases hroom : xs.length + ys.length ≤ cap
      · -- there is room
        have hcl := Enc.okL_len h7
        have hfit : pre.length + xs.length * e.n + ds.length ≤ (pre ++ (cs ++ post)).length := by
          have : (xs.length + ys.length) * e.n ≤ cap * e.n := Nat.mul_le_mul_right _ hroom
          rw [Nat.add_mul] at this
          simp only [List.length_append]; omega
        have hr := run_append_at (P := F.P) (w := w) (tt := ty) (cap := cap) (c := c) hU hS h6 (by exact hdl) hcell hone hroom hfit
        have e1 : (pre ++ (cs ++ post)).take (pre.length + xs.length * e.n) = pre ++ cs := by
          rw [← List.append_assoc, ← hcl, ← List.length_append]; exact List.take_left
        have e2 : (pre ++ (cs ++ post)).drop (pre.length + xs.length * e.n + ds.length) = post.drop ds.length := by
          rw [← List.append_assoc, ← hcl, ← List.length_append, List.drop_append]
          simp
        rw [e1, e2] at hr
        refine fin _ _ (by rw [h2]; exact hr) (by rw [h2]; exact Chg.setRow w g _) (.inl ⟨_, _, _, rfl⟩) (fun b' h => ?_) (fun S' ρ' hE => ?_)
        · rw [h2]
          simp only [blk, Option.some.injEq] at h ⊢; subst h
          exact ⟨.inl rfl, by have := (MemAt.of_heap h6).lt; simpa [World.setRow] using this⟩
        · refine .inr ⟨g, cap, pre, cs ++ ds, post.drop ds.length, by simp, ?_, hEn S' _ cs hE h7, by simpa using hroom, ?_, by simp; omega⟩
          · have := setRow_heap w g _ (pre ++ cs ++ ds ++ post.drop ds.length).toArray T _ h6
            rw [this]; simp
          · have : (xs.length + ys.length) * e.n ≤ cap * e.n := Nat.mul_le_mul_right _ hroom
            rw [Nat.add_mul] at this
            simp only [List.length_append, List.length_drop]; omega
      · -- it grows
        have hcl := Enc.okL_len h7
        have hm2 : MemAt w g pre.length cs := by have := (MemAt.of_heap h6).sub; simpa using this
        have hr := run_append_grow (P := F.P) w U ty T ti z (under_of hU) (info_of hI) hz ⟨g, pre.length, none⟩ xs.length cap cs (by rw [hti]; exact hcl) hm2.cell ⟨b, off, none⟩ ys.length c ds (by rw [hti]; exact hdl) hcell (by omega) (by omega) (growslice_fits (by omega) (by
          have : (xs.length + ys.length) * ti.bytes ≤ 4294967296 * 4096 := Nat.mul_le_mul hlen hby
          omega))
        have hge := grownCap_ge w (xs.length + ys.length) cap T
        refine fin _ _ (by rw [h2]; exact hr) (Chg.alloc _ _ _) (.inl ⟨_, _, _, rfl⟩) (fun b' h => ?_) (fun S' ρ' hE => ?_)
        · simp only [blk, Option.some.injEq] at h; subst h; exact ⟨.inr (Nat.le_refl _), by simp⟩
        · refine .inr ⟨w.heap.size, grownCap w (xs.length + ys.length) cap T, [], cs ++ ds, (Builtin.zeroCells z.cells (grownCap w (xs.length + ys.length) cap T - (xs.length + ys.length))).toList, by simp, ?_, hEn S' _ cs hE h7, by simpa using hge, ?_, by simp; omega⟩
          · rw [show w.heap.size = w.drew.heap.size from rfl, heap_alloc_new]
            have : cs.toArray ++ ds.toArray ++ Builtin.zeroCells z.cells (grownCap w (xs.length + ys.length) cap T - (xs.length + ys.length)) =
                ([] ++ ((cs ++ ds) ++ (Builtin.zeroCells z.cells (grownCap w (xs.length + ys.length) cap T - (xs.length + ys.length))).toList)).toArray := by
              apply Array.ext'; simp
            rw [this]
          · rw [List.length_append, hcl, hdl, hzl, ← Nat.add_mul, ← Nat.add_mul]; exact Nat.mul_le_mul_right _ (by omega)
end
end Go.Sw

namespace Go.Sw
open Go Go.RowKit

theorem splice_fold : ∀ (vs : List Value) (k off : Nat) (cs : Array Value), off + k + vs.length ≤ cs.size →
    ((vs.zipIdx k).foldl (fun cs (x : Value × Nat) => cs.setIfInBounds (off + x.2) x.1) cs).toList = cs.toList.take (off + k) ++ vs ++ cs.toList.drop (off + k + vs.length)
  | [], k, off, cs, _ => by simp
  | v :: vs, k, off, cs, h => by
    simp only [List.zipIdx_cons, List.foldl_cons]
    rw [splice_fold vs (k + 1) off _ (by simp at h ⊢; omega)]
    have hlt : off + k < cs.toList.length := by simp at h ⊢; omega
    simp only [Array.toList_setIfInBounds]
    have e1 : off + (k + 1) = off + k + 1 := by omega
    rw [e1, List.take_set, List.drop_set_of_lt (by omega)]
    have e2 : (cs.toList.take (off + k + 1)).set (off + k) v = cs.toList.take (off + k) ++ [v] := by
      rw [List.take_succ_eq_append_getElem hlt, List.set_append_right _ _ (by rw [List.length_take]; omega)]
      have : off + k - (cs.toList.take (off + k)).length = 0 := by rw [List.length_take]; omega
      rw [this]; rfl
    rw [e2]
    simp only [List.length_cons, List.append_assoc, List.singleton_append]
    congr 3; omega

theorem fill_cons {place : Nat → Option (Nat × Nat)} {cells : Array Value} {i off n : Nat} {v : Value} {rest : List (Nat × Value)} {a c e : List Value} (hp : place i = some (off, n)) (hn : v.cells.size = n) (hc : cells.toList = a ++ (c ++ e)) (ha : a.length = off) (hl : c.length = n) :
    Instr.fill place cells ((i, v) :: rest) = Instr.fill place (a ++ (v.cells.toList ++ e)).toArray rest := by
  have hsz : cells.size = a.length + (c.length + e.length) := by rw [← Array.length_toList, hc]; simp
  have h1 : ¬ (v.cells.size ≠ n || decide (off + v.cells.size > cells.size)) = true := by
    simp only [Bool.or_eq_true, decide_eq_true_eq, not_or]; omega
  simp only [Instr.fill, hp]
  rw [if_neg h1]
  congr 1
  apply Array.ext'
  have := splice_fold v.cells.toList 0 off cells (by simp; omega)
  simp only [Nat.add_zero] at this
  rw [← Array.foldl_toList, Array.toList_zipIdx, this, hc]
  have e1 : (a ++ (c ++ e)).take off = a := by rw [← ha]; exact List.take_left
  have e2 : (a ++ (c ++ e)).drop (off + v.cells.toList.length) = e := by
    rw [← List.append_assoc]
    have : off + v.cells.toList.length = (a ++ c).length := by simp; omega
    rw [this]; exact List.drop_left
  rw [e1, e2]; simp

section
variable {F : Frm} {σ : AS} {s : Slot} {d : Option Tmp} {ty : TypeId} {p : String} {af : Array Edge} {gd : Option (Nat × Bool)} {x y : Operand}

/-- the parts of a struct literal -/
inductive Parts (σ : AS) (pl : Array (Nat × Nat)) : List Slot → List (Nat × Operand) → List Slot → Prop
  | nil {l : List Slot} : Parts σ pl l [] l
  | cons {l l' : List Slot} {i off n : Nat} {x : Operand} {s s0 : Slot} {rest : List (Nat × Operand)} : pl[i]? = some (off, n) → Arg σ false x s → s.plain = true → s.sz = n → offAt l off = some s0 → s0.sz = n → Parts σ pl (setOff l off s) rest l' → Parts σ pl l ((i, x) :: rest) l'

theorem Parts.spec {pl : Array (Nat × Nat)} {l l' : List Slot} {ps : List (Nat × Operand)} (h : Parts σ pl l ps l') {ρ S a w} {ys : Array Operand} (hys : ∀ x ∈ ps.map (·.2), x ∈ ys) (K : Know σ ys ρ S a w) :
    ∀ cs : List Value, Slot.okl ρ S w l cs → ∃ ds : List Value, Instr.fill (pl[·]?) cs.toArray (ps.map fun q => (q.1, a.eval q.2)) = some ds.toArray ∧ Slot.okl ρ S w l' ds := by
  induction h with
  | nil => intro cs h; exact ⟨cs, rfl, h⟩
  | cons h1 h2 h3 h4 h5 h6 _ ih =>
    rename_i l l' i off n x s s0 rest _
    intro cs hcs
    have hx := h2 ρ S a w ⟨K.low, fun y hy s h => K.slot y (hys y (by have : y = x := by simpa using hy
                                                                      subst this; simp)) s h, fun y hy s h => K.ent y (hys y (by have : y = x := by simpa using hy
                                                                                                                                 subst this; simp)) s h⟩
    simp only [Bool.false_eq_true, if_false] at hx
    have hc := ok_cells h3 hx
    obtain ⟨pre, c, post, rfl, hpre, k1, k2⟩ := okl_at h5 hcs
    obtain ⟨ds, k3, k4⟩ := ih (fun y hy => hys y (by simp only [List.map_cons, List.mem_cons]; exact .inr hy)) _ (k2 s _ hc)
    refine ⟨ds, ?_, k4⟩
    rw [List.map_cons, fill_cons (a := pre) (c := c) (e := post) h1 (by have := okc_len hc; simp only [Array.length_toList] at this; rw [this]; exact h4) (by simp) hpre (by rw [okc_len k1]; exact h6)]
    exact k3

/-- a struct literal -/
theorem JO.build {T : TypeId} {pl : Array (Nat × Nat)} {zs : List Value} {ps : List (Nat × Operand)} {l l' : List Slot} (hB : ∀ parts, F.P.built T parts = Instr.fill (pl[·]?) zs.toArray parts) (hz : Zr zs l) (hp : Parts σ pl l ps l') :
    JO F ⟨d, .build T ps.toArray, ty, p, af, gd⟩ σ (.agg l') [] := by
  intro ρ S a w K
  obtain ⟨ds, h1, h2⟩ := hp.spec (ys := (Op.build T ps.toArray).operands) (by intro x hx; simp [Op.operands] at hx ⊢; exact hx) K zs (hz ρ S w)
  refine OpWp.value (w' := w) (v := .agg ds.toArray) ?_ (Res.same (by simp only [Slot.ok]; exact ⟨ds, rfl, h2⟩))
  have := run_build (P := F.P) w T (ps.map fun q => (q.1, a.eval q.2)).toArray ds.toArray (by rw [hB]; exact h1)
  simp only [execOp, List.map_toArray]
  simp [this]

/-- the elements of a slice literal -/
inductive Elems (σ : AS) {α : Type} (e : Enc α) : Nat → List (Nat × Operand) → List α → Prop
  | nil {k : Nat} : Elems σ e k [] []
  | cons {k : Nat} {x : Operand} {z : α} {ps : List (Nat × Operand)} {zs : List α} : Arg σ false x (.v e z) → Elems σ e (k + 1) ps zs → Elems σ e k ((k, x) :: ps) (z :: zs)
theorem Elems.spec {α : Type} {e : Enc α} {k : Nat} {ps : List (Nat × Operand)} {zs : List α} (h : Elems σ e k ps zs) {ρ S a w} {ys : Array Operand} (hys : ∀ x ∈ ps.map (·.2), x ∈ ys) (K : Know σ ys ρ S a w) :
    ∀ pre rest : List Value, pre.length = k * e.n → rest.length = ps.length * e.n → ∃ ds : List Value, Instr.fill (fun i => some (i * e.n, e.n)) (pre ++ rest).toArray (ps.map fun q => (q.1, a.eval q.2)) = some (pre ++ ds).toArray ∧ e.okL zs S w ds := by
  induction h with
  | nil => intro pre rest h1 h2; simp at h2; subst h2; exact ⟨[], rfl, rfl⟩
  | cons h1 _ ih =>
    rename_i k x z ps zs _
    intro pre rest hpre hrest
    have hx := h1 ρ S a w ⟨K.low, fun y hy s h => K.slot y (hys y (by have : y = x := by simpa using hy
                                                                      subst this; simp)) s h, fun y hy s h => K.ent y (hys y (by have : y = x := by simpa using hy
                                                                                                                                 subst this; simp)) s h⟩
    simp only [Bool.false_eq_true, if_false] at hx
    have hc := ok_cells (s := .v e z) rfl hx
    simp only [Slot.okc] at hc
    have hcl := e.len hc
    simp only [List.length_cons, Nat.add_mul, Nat.one_mul] at hrest
    obtain ⟨ds, k1, k2⟩ := ih (fun y hy => hys y (by simp only [List.map_cons, List.mem_cons]; exact .inr hy)) (pre ++ (a.eval x).cells.toList) (rest.drop e.n) (by rw [List.length_append, hpre, hcl, Nat.add_mul, Nat.one_mul]) (by rw [List.length_drop]; omega)
    refine ⟨(a.eval x).cells.toList ++ ds, ?_, ⟨_, _, rfl, hc, k2⟩⟩
    rw [List.map_cons, fill_cons (a := pre) (c := rest.take e.n) (e := rest.drop e.n) rfl (by simp only [Array.length_toList] at hcl; exact hcl) (by simp) hpre (by rw [List.length_take]; omega)]
    simpa [List.append_assoc] using k1

theorem run_lit {P : Program} {w : World} {U E : TypeId} {n len : Nat} {z : Value} {parts : Array (Nat × Value)} {R : List Value → Prop} (hU : ∀ w, (underlying U).run P w = .ok (.slice E) w) (hS : ∀ w, (sizeOf E).run P w = .ok n w) (hz : ∀ w, (zeroValue E).run P w = .ok z w)
    (hle : len * n ≤ 16777216) (hf : ∀ rest : List Value, rest.length = len * n → ∃ ds : List Value, Instr.fill (fun i => some (i * n, n)) rest.toArray parts.toList = some ds.toArray ∧ R ds) :
    ∃ ds : List Value, R ds ∧ (Instr.buildSlice U len parts).run P w = .ok (.slice (some ⟨w.heap.size, 0, none⟩) len len) (w.alloc (.cells ds.toArray E)) := by
  have h1 : ¬ (16777216 < len * n) := by omega
  have key : ∀ zs : Array Value, ∃ ds : List Value, R ds ∧ Instr.fill (fun i => some (i * n, n)) ((Array.range (len * n)).map (zs[· % zs.size]!)) parts.toList = some ds.toArray := by
    intro zs
    obtain ⟨ds, h2, h3⟩ := hf ((Array.range (len * n)).map (zs[· % zs.size]!)).toList (by simp)
    exact ⟨ds, h3, by rw [← h2]⟩
  obtain ⟨ds, h2, h3⟩ := key (if len * n = 0 then #[] else z.cells)
  refine ⟨ds, h2, ?_⟩
  unfold Instr.buildSlice
  simp only [Sem.run_bind, hU, hS, Result.andThen_ok]
  rw [if_neg (by simpa using h1)]
  by_cases h0 : len * n = 0
  · rw [if_pos h0] at h3
    simp only [Sem.run_bind, Sem.run_pure, Result.andThen_ok, h0, if_true]
    rw [h0] at h3
    rw [h3]
    simp [newRow]
  · rw [if_neg h0] at h3
    simp only [Sem.run_bind, Sem.run_pure, Result.andThen_ok, h0, if_false, hz]
    rw [h3]
    simp [newRow]

theorem memAt_alloc (w : World) (ds : List Value) (E : TypeId) : MemAt (w.alloc (.cells ds.toArray E)) w.heap.size 0 ds := MemAt.of_heap (T := E) (fr := (0, 0)) (heap_alloc_new _ _)

theorem lit_run {α : Type} {e : Enc α} {U E : TypeId} {len : Nat} {z : Value} {ps : List (Nat × Operand)} {zs : List α} {ρ S a w} (hU : ∀ w, (underlying U).run F.P w = .ok (.slice E) w) (hS : ∀ w, (sizeOf E).run F.P w = .ok e.n w) (hz : ∀ w, (zeroValue E).run F.P w = .ok z w)
    (hle : Nat.ble (len * e.n) 16777216 = true) (hl : ps.length = len) (he : Elems σ e 0 ps zs) (K : Know σ (Op.buildSlice U len ps.toArray).operands ρ S a w) :
    ∃ ds : List Value, e.okL zs S w ds ∧ (execOp a.eval ⟨d, .buildSlice U len ps.toArray, ty, p, af, gd⟩).run F.P w = .ok (.value (.slice (some ⟨w.heap.size, 0, none⟩) len len)) (w.alloc (.cells ds.toArray E)) := by
  obtain ⟨ds, h1, h2⟩ := run_lit (P := F.P) (w := w) (U := U) (len := len) (parts := (ps.map fun q => (q.1, a.eval q.2)).toArray) (R := fun ds => e.okL zs S w ds) hU hS hz (Nat.le_of_ble_eq_true hle) (fun rest hrest => by
    obtain ⟨ds, h1, h2⟩ := he.spec (ys := (Op.buildSlice U len ps.toArray).operands) (by intro x hx; simp [Op.operands] at hx ⊢; exact hx) K [] rest (by simp) (by rw [hl]; exact hrest)
    exact ⟨ds, by simpa using h1, h2⟩)
  refine ⟨ds, h1, ?_⟩
  simp only [execOp, List.map_toArray]
  simp [h2]

theorem JO.lit {α : Type} {e : Enc α} {U E : TypeId} {len : Nat} {z : Value} {ps : List (Nat × Operand)} {zs : List α} (hU : ∀ w, (underlying U).run F.P w = .ok (.slice E) w) (hS : ∀ w, (sizeOf E).run F.P w = .ok e.n w) (hz : ∀ w, (zeroValue E).run F.P w = .ok z w)
    (hle : Nat.ble (len * e.n) 16777216 = true) (hl : ps.length = len) (hl' : zs.length = len) (hb : Nat.ble len 16777216 = true) (he : Elems σ e 0 ps zs) : JO F ⟨d, .buildSlice U len ps.toArray, ty, p, af, gd⟩ σ (.v (Enc.sl e) zs) [] := by
  intro ρ S a w K
  obtain ⟨ds, h1, h2⟩ := lit_run (d := d) (ty := ty) (p := p) (af := af) (gd := gd) hU hS hz hle hl he K
  have hbl := below_alloc w (.cells ds.toArray E)
  have hE : Ext S (Un S ρ []) w (w.alloc (.cells ds.toArray E)) := Ext.of_below hbl fun k _ h => by
    rcases h with h | ⟨i, en, h, _⟩
    · exact h
    · simp [lkE] at h
  refine OpWp.value h2 ⟨ρ, fun _ _ => rfl, hbl, ?_, ⟨fun _ _ h => by simp [lkE] at h, fun _ _ _ h => by simp [lkE] at h, fun _ _ _ _ _ h => by simp [lkE] at h⟩⟩
  simp only [Slot.ok]
  have hb := Nat.le_of_ble_eq_true hb
  refine val_sl.2 ⟨_, len, by rw [hl'], ⟨by omega, by omega⟩, .inr ⟨w.heap.size, 0, ds, rfl, by simp, ?_, memAt_alloc w ds E, Enc.okL_mono h1 hE⟩⟩
  rintro (h | ⟨i, en, h, _⟩)
  · have := K.low _ h; omega
  · simp [lkE] at h
theorem JO.litR {α : Type} {e : Enc α} {U E : TypeId} {len : Nat} {z : Value} {ps : List (Nat × Operand)} {zs : List α} (i : Nat) (hU : ∀ w, (underlying U).run F.P w = .ok (.slice E) w) (hS : ∀ w, (sizeOf E).run F.P w = .ok e.n w) (hz : ∀ w, (zeroValue E).run F.P w = .ok z w)
    (hle : Nat.ble (len * e.n) 16777216 = true) (hl : ps.length = len) (hl' : zs.length = len) (hb : Nat.ble len 16777216 = true) (he : Elems σ e 0 ps zs) : JO F ⟨d, .buildSlice U len ps.toArray, ty, p, af, gd⟩ σ (.ref i) [(i, .arr E e zs)] := by
  intro ρ S a w K
  obtain ⟨ds, h1, h2⟩ := lit_run (d := d) (ty := ty) (p := p) (af := af) (gd := gd) hU hS hz hle hl he K
  have hb := Nat.le_of_ble_eq_true hb
  refine OpWp.value h2 (Res.new1 (.slice (some ⟨w.heap.size, 0, none⟩) len len) (below_alloc _ _) rfl ?_ ?_ ?_)
  · intro b h; simp only [blk, Option.some.injEq] at h; subst h; exact ⟨Nat.le_refl _, by simp⟩
  · intro S' ρ' h _
    refine .inr ⟨w.heap.size, len, [], ds, [], by rw [hl']; rfl, ?_, Enc.okL_mono h1 (ext_low (below_alloc _ _) h), by omega, ?_, by omega⟩
    · rw [heap_alloc_new]; simp
    · have := Enc.okL_len h1; rw [hl'] at this; simp [this]
  · intro S' ρ' _ hi _
    simp only [Slot.ok]; exact ⟨by rw [hi]; exact .inl ⟨_, _, _, rfl⟩, hi.symm⟩

/-! ### make -/
def mk {α : Type} (n : Int) (z : α) : Option (List α) := if 0 ≤ n ∧ n ≤ 4294967296 then some (List.replicate n.toNat z) else none
theorem mk_some {α : Type} {n : Int} {z : α} {zs : List α} (h : mk n z = some zs) : 0 ≤ n ∧ n ≤ 4294967296 ∧ zs = List.replicate n.toNat z := by
  unfold mk at h; split at h
  · rename_i h1; exact ⟨h1.1, h1.2, by cases h; rfl⟩
  · cases h
theorem okL_made {α : Type} {e : Enc α} {z : α} {zc : Array Value} (hz : ∀ S w, e.ok z S w zc.toList) (m : Nat) (S : Nat → Prop) (w : World) : e.okL (List.replicate m z) S w (madeCells zc (m * e.n)).toList := by
  have hn : zc.size = e.n := by have := e.len (hz S w); simpa using this
  have key : (madeCells zc (m * e.n)).toList = (List.replicate m zc.toList).flatten := by
    induction m with
    | zero => simp [madeCells, Array.range_zero']
    | succ m ih =>
      rw [List.replicate_succ', List.flatten_append, ← ih]
      apply List.ext_getElem?
      intro i
      simp only [madeCells, Array.toList_map, List.getElem?_append, List.getElem?_map, List.length_map, Array.length_toList, Array.size_range, Array.getElem?_toList]
      by_cases h1 : i < m * e.n
      · have h2 : i < (m + 1) * e.n := by rw [Nat.add_mul]; omega
        simp [h1, h2]
      · rw [if_neg h1]
        by_cases h2 : i < (m + 1) * e.n
        · have h3 : i - m * e.n < zc.size := by rw [Nat.add_mul, Nat.one_mul] at h2; omega
          have h4 : i % zc.size = i - m * e.n := by
            have h5 : zc.size * m = m * e.n := by rw [hn, Nat.mul_comm e.n m]
            have h6 : i % zc.size = ((i - m * e.n) + zc.size * m) % zc.size := by congr 1; omega
            rw [h6, Nat.add_mul_mod_self_left, Nat.mod_eq_of_lt h3]
          simp [h2, h4, h3]
        · have h3 : zc.size ≤ i - m * e.n := by rw [Nat.add_mul, Nat.one_mul] at h2; omega
          have h4 : (Array.range ((m + 1) * e.n))[i]? = none := by simp; omega
          simp [h4, h3]
  rw [key]
  clear key
  induction m with
  | zero => rfl
  | succ m ih => rw [List.replicate_succ, List.replicate_succ, List.flatten_cons]; exact ⟨_, _, rfl, hz S w, ih⟩
theorem mk_run {α : Type} {e : Enc α} {z : α} {zs : List α} {U E : TypeId} {ti : TypeInfo} {zv : Value} {k k' : IntKind} {n : Int} {ρ S a w} (hm : mk n z = some zs) (hx : evS σ.g x = some (.v (Enc.int k) n)) (hy : evS σ.g y = some (.v (Enc.int k') n)) (hU : ∀ w, (underlying U).run F.P w = .ok (.slice E) w)
    (hI : ∀ w, (typeInfo E).run F.P w = .ok ti w) (hS : ∀ w, (sizeOf E).run F.P w = .ok e.n w) (hz : ti.zero = some zv) (hby : Nat.ble ti.bytes 4096 = true) (K : Know σ (Op.makeSlice U x y).operands ρ S a w) :
    (execOp a.eval ⟨d, .makeSlice U x y, ty, p, af, gd⟩).run F.P w = .ok (.value (.slice (some ⟨w.heap.size, 0, none⟩) n.toNat n.toNat)) (w.alloc (.cells (madeCells zv.cells (n.toNat * e.n)).toList.toArray E)) := by
  obtain ⟨h0, h1, rfl⟩ := mk_some hm
  have hx := (K_int K (x := x) (by simp [Op.operands]) hx).1
  have hy := (K_int K (x := y) (by simp [Op.operands]) hy).1
  have hby := Nat.le_of_ble_eq_true hby
  have hti := size_of hI hS
  have := run_make (P := F.P) w U E ti zv (under_of hU) (info_of hI) hz k k' n n h0 (Int.le_refl _) (by
    have : (ti.bytes : Int) * n ≤ 4096 * 4294967296 := Int.mul_le_mul (by omega) h1 h0 (by omega)
    omega) (by omega)
  rw [hti] at this
  simp [execOp, hx, hy, this]
theorem JO.mk {α : Type} {e : Enc α} {z : α} {zs : List α} {U E : TypeId} {ti : TypeInfo} {zv : Value} {k k' : IntKind} {n : Int} (hm : Sw.mk n z = some zs) (hx : evS σ.g x = some (.v (Enc.int k) n)) (hy : evS σ.g y = some (.v (Enc.int k') n)) (hU : ∀ w, (underlying U).run F.P w = .ok (.slice E) w)
    (hI : ∀ w, (typeInfo E).run F.P w = .ok ti w) (hS : ∀ w, (sizeOf E).run F.P w = .ok e.n w) (hz : ti.zero = some zv) (hby : Nat.ble ti.bytes 4096 = true) (hzv : ∀ S w, e.ok z S w zv.cells.toList) : JO F ⟨d, .makeSlice U x y, ty, p, af, gd⟩ σ (.v (Enc.sl e) zs) [] := by
  intro ρ S a w K
  have h2 := mk_run (d := d) (ty := ty) (p := p) (af := af) (gd := gd) hm hx hy hU hI hS hz hby K
  obtain ⟨h0, h1, rfl⟩ := mk_some hm
  have hbl := below_alloc w (.cells (madeCells zv.cells (n.toNat * e.n)).toList.toArray E)
  refine OpWp.value h2 ⟨ρ, fun _ _ => rfl, hbl, ?_, ⟨fun _ _ h => by simp [lkE] at h, fun _ _ _ h => by simp [lkE] at h, fun _ _ _ _ _ h => by simp [lkE] at h⟩⟩
  simp only [Slot.ok]
  refine val_sl.2 ⟨_, n.toNat, by simp, ⟨by simp, by simp; omega⟩, .inr ⟨w.heap.size, 0, _, rfl, by simp, ?_, memAt_alloc w _ E, okL_made hzv _ _ _⟩⟩
  rintro (h | ⟨i, en, h, _⟩)
  · have := K.low _ h; omega
  · simp [lkE] at h
theorem JO.mkR {α : Type} {e : Enc α} {z : α} {zs : List α} {U E : TypeId} {ti : TypeInfo} {zv : Value} {k k' : IntKind} {n : Int} (i : Nat) (hm : Sw.mk n z = some zs) (hx : evS σ.g x = some (.v (Enc.int k) n)) (hy : evS σ.g y = some (.v (Enc.int k') n)) (hU : ∀ w, (underlying U).run F.P w = .ok (.slice E) w)
    (hI : ∀ w, (typeInfo E).run F.P w = .ok ti w) (hS : ∀ w, (sizeOf E).run F.P w = .ok e.n w) (hz : ti.zero = some zv) (hby : Nat.ble ti.bytes 4096 = true) (hzv : ∀ S w, e.ok z S w zv.cells.toList) : JO F ⟨d, .makeSlice U x y, ty, p, af, gd⟩ σ (.ref i) [(i, .arr E e zs)] := by
  intro ρ S a w K
  have h2 := mk_run (d := d) (ty := ty) (p := p) (af := af) (gd := gd) hm hx hy hU hI hS hz hby K
  obtain ⟨h0, h1, rfl⟩ := mk_some hm
  refine OpWp.value h2 (Res.new1 (.slice (some ⟨w.heap.size, 0, none⟩) n.toNat n.toNat) (below_alloc _ _) rfl ?_ ?_ ?_)
  · intro b h; simp only [blk, Option.some.injEq] at h; subst h; exact ⟨Nat.le_refl _, by simp⟩
  · intro S' ρ' h _
    refine .inr ⟨w.heap.size, n.toNat, [], (madeCells zv.cells (n.toNat * e.n)).toList, [], by simp, ?_, okL_made hzv _ _ _, by simp, ?_, by simp; omega⟩
    · rw [heap_alloc_new]; simp
    · simp [size_madeCells]
  · intro S' ρ' _ hi _
    simp only [Slot.ok]; exact ⟨by rw [hi]; exact .inl ⟨_, _, _, rfl⟩, hi.symm⟩
end
end Go.Sw

namespace Go.Sw
open Go Go.RowKit

/-- '==' at a type says whether the values are the same -/
def EqE {α : Type} (n : Nat) (P : Program) (T : TypeId) (e : Enc α) : Prop := ∀ d, n ≤ d → ∀ (w : World) (S S' : Nat → Prop) (w1 w2 : World) (x y : α) (cs ds : List Value), e.ok x S w1 cs → e.ok y S' w2 ds →
  ∃ r, (Op.equalIn d T (e.pk cs) (e.pk ds)).run P w = .ok r w ∧ (r = true ↔ x = y)
theorem EqE.int {P : Program} {T : TypeId} {k k' : IntKind} (h : P.underlying T = some (.int k')) : EqE 1 P T (Enc.int k) := by
  intro d hd w S S' w1 w2 x y cs ds hx hy
  obtain ⟨d, rfl⟩ : ∃ d', d = d' + 1 := ⟨d - 1, by omega⟩
  rw [hx.1, hy.1]
  exact ⟨x == y, run_equalIn_int w d T k k' x y h, by simp⟩
theorem EqE.bool {P : Program} {T : TypeId} (h : P.underlying T = some .bool) : EqE 1 P T Enc.bool := by
  intro d hd w S S' w1 w2 x y cs ds hx hy
  obtain ⟨d, rfl⟩ : ∃ d', d = d' + 1 := ⟨d - 1, by omega⟩
  rw [show cs = [.bool x] from hx, show ds = [.bool y] from hy]
  exact ⟨x == y, run_equalIn_bool' w d T x y h, by simp⟩
theorem part_e {α : Type} {P : Program} {e : Enc α} {x : α} {S w w0} {a c b : List Value} {T : TypeId} {off : Nat} (ho : e.ok x S w0 c) (ha : a.length = off) (hA : ∀ w, (isAgg T).run P w = .ok e.agg w) (hS : ∀ w, (sizeOf T).run P w = .ok e.n w) :
    (part T (a ++ (c ++ b)).toArray off).run P w = .ok (e.pk c) w := by
  have hl := e.len ho
  unfold part
  simp only [Sem.run_bind, hA, Result.andThen_ok]
  cases hag : e.agg with
  | true =>
    simp only [if_true, Sem.run_bind, hS, Result.andThen_ok, Sem.run_pure, Enc.pk, hag]
    congr 2
    simp only [List.extract_toArray, List.extract_eq_take_drop]
    rw [← ha, List.drop_left]
    have : a.length + e.n - a.length = c.length := by omega
    rw [this, List.take_left]
  | false =>
    rw [e.one hag] at hl
    obtain ⟨v, rfl⟩ := List.length_eq_one_iff.1 hl
    have : (a ++ ([v] ++ b)).toArray[off]? = some v := by simp [← ha]
    simp only [Bool.false_eq_true, if_false, this, Sem.run_pure, Enc.pk, hag]
    rfl
theorem eqItems_e {α : Type} {n d : Nat} {P : Program} {E : TypeId} {e : Enc α} (hd : n ≤ d) (he : EqE n P E e) (hA : ∀ w, (isAgg E).run P w = .ok e.agg w) (hS : ∀ w, (sizeOf E).run P w = .ok e.n w) {S S' : Nat → Prop} {w1 w2 : World} :
    ∀ (xs ys : List α) (k : Nat) (pre pre' cs ds : List Value) (w : World), xs.length = ys.length → pre.length = k * e.n → pre'.length = k * e.n → e.okL xs S w1 cs → e.okL ys S' w2 ds →
      ∃ r, (Op.eqItems d E e.n (pre ++ cs).toArray (pre' ++ ds).toArray (List.range' k xs.length)).run P w = .ok r w ∧ (r = true ↔ xs = ys)
  | [], ys, k, pre, pre', cs, ds, w, hl, _, _, _, _ => by
    have : ys = [] := List.eq_nil_of_length_eq_zero (by simpa using hl.symm)
    subst this
    exact ⟨true, by simp [Op.eqItems], by simp⟩
  | x :: xs, [], k, pre, pre', cs, ds, w, hl, _, _, _, _ => by simp at hl
  | x :: xs, y :: ys, k, pre, pre', cs, ds, w, hl, hp, hp', ⟨c, c', h1, h2, h3⟩, ⟨q, q', k1, k2, k3⟩ => by
    subst h1; subst k1
    obtain ⟨r, hr, hiff⟩ := he d hd w S S' w1 w2 x y c q h2 k2
    obtain ⟨r', hr', hiff'⟩ := eqItems_e hd he hA hS xs ys (k + 1) (pre ++ c) (pre' ++ q) c' q' w (by simpa using hl) (by rw [List.length_append, hp, e.len h2, Nat.add_mul, Nat.one_mul]) (by rw [List.length_append, hp', e.len k2, Nat.add_mul, Nat.one_mul]) h3 k3
    simp only [List.length_cons, List.range'_succ, Op.eqItems, Sem.run_bind, part_e (P := P) (w := w) h2 hp hA hS, part_e (P := P) (w := w) k2 hp' hA hS, Result.andThen_ok, hr]
    cases r
    · refine ⟨false, by simp, ?_⟩
      simp only [Bool.false_eq_true, false_iff, List.cons.injEq, not_and]
      intro h; exact absurd (hiff.2 h) (by simp)
    · refine ⟨r', by simpa using hr', ?_⟩
      rw [hiff']; simp [hiff.1 rfl]
theorem EqE.arr {α : Type} {n m : Nat} {P : Program} {T E : TypeId} {e : Enc α} (hT : ∀ w, (underlying T).run P w = .ok (.array m E) w) (hI : ∀ w, (sizeOf E).run P w = .ok e.n w) (hA : ∀ w, (isAgg E).run P w = .ok e.agg w) (he : EqE n P E e) : EqE (n + 1) P T (Enc.arr m e) := by
  intro d hd w S S' w1 w2 x y cs ds hx hy
  obtain ⟨d, rfl⟩ : ∃ d', d = d' + 1 := ⟨d - 1, by omega⟩
  obtain ⟨i, hi, hsz⟩ : ∃ i, P.info? E = some i ∧ i.size = e.n := by
    have := hI default
    unfold sizeOf typeInfo at this
    simp only [Sem.run_bind, run_program, Result.andThen_ok] at this
    cases hq : P.info? E with
    | none => rw [hq] at this; simp at this
    | some i => rw [hq] at this; simp at this; exact ⟨i, rfl, this⟩
  have hce : P.cellsOf E = e.n := by unfold Program.cellsOf; rw [hi]; exact hsz
  obtain ⟨r, hr, hiff⟩ := eqItems_e (d := d) (by omega) he hA hI x y 0 [] [] cs ds w (by rw [hx.1, hy.1]) (by simp) (by simp) hx.2 hy.2
  refine ⟨r, ?_, hiff⟩
  have := run_equalIn_array (w := w) d cs.toArray ds.toArray (under_of hT) hi
  simp only [Enc.pk, show (Enc.arr m e).agg = true from rfl, if_true]
  rw [this, hce, List.range_eq_range', ← hx.1]
  simpa using hr

/-- the fields of a struct, from an offset on -/
def EqFs {α : Type} (n : Nat) (P : Program) (fs : List Field) (off : Nat) (e : Enc α) : Prop := ∀ d, n ≤ d → ∀ (w : World) (S S' : Nat → Prop) (w1 w2 : World) (x y : α) (pre pre' cs ds : List Value), pre.length = off → pre'.length = off → e.ok x S w1 cs → e.ok y S' w2 ds →
  ∃ r, (Op.eqFields d (pre ++ cs).toArray (pre' ++ ds).toArray fs).run P w = .ok r w ∧ (r = true ↔ x = y)
theorem EqFs.last {α : Type} {n off : Nat} {P : Program} {f : Field} {e : Enc α} (hn : f.name ≠ "_") (hf : f.offset = off) (he : EqE n P f.type e) (hA : ∀ w, (isAgg f.type).run P w = .ok e.agg w) (hS : ∀ w, (sizeOf f.type).run P w = .ok e.n w) : EqFs n P [f] off e := by
  intro d hd w S S' w1 w2 x y pre pre' cs ds hp hp' hx hy
  obtain ⟨r, hr, hiff⟩ := he d hd w S S' w1 w2 x y cs ds hx hy
  have h1 := part_e (P := P) (w := w) (a := pre) (b := []) hx hp hA hS
  have h2 := part_e (P := P) (w := w) (a := pre') (b := []) hy hp' hA hS
  rw [List.append_nil] at h1 h2
  refine ⟨r, ?_, hiff⟩
  simp only [Op.eqFields, hn, ne_eq, not_false_eq_true, if_true, Sem.run_bind, hf, h1, h2, Result.andThen_ok, hr]
  cases r <;> simp
theorem EqFs.cons {α β : Type} {n off : Nat} {P : Program} {f : Field} {fs : List Field} {a : Enc α} {b : Enc β} (hn : f.name ≠ "_") (hf : f.offset = off) (he : EqE n P f.type a) (hA : ∀ w, (isAgg f.type).run P w = .ok a.agg w) (hS : ∀ w, (sizeOf f.type).run P w = .ok a.n w)
    (hr : EqFs n P fs (off + a.n) b) : EqFs n P (f :: fs) off (Enc.pr a b) := by
  rintro d hd w S S' w1 w2 ⟨x, x'⟩ ⟨y, y'⟩ pre pre' cs ds hp hp' ⟨c, c', rfl, hx, hx'⟩ ⟨q, q', rfl, hy, hy'⟩
  obtain ⟨r, hr1, hiff⟩ := he d hd w S S' w1 w2 x y c q hx hy
  have h1 := part_e (P := P) (w := w) (a := pre) (b := c') hx hp hA hS
  have h2 := part_e (P := P) (w := w) (a := pre') (b := q') hy hp' hA hS
  obtain ⟨r', hr', hiff'⟩ := hr d hd w S S' w1 w2 x' y' (pre ++ c) (pre' ++ q) c' q' (by rw [List.length_append, hp, a.len hx]) (by rw [List.length_append, hp', a.len hy]) hx' hy'
  rw [List.append_assoc, List.append_assoc] at hr'
  simp only [Op.eqFields, hn, ne_eq, not_false_eq_true, if_true, Sem.run_bind, hf, h1, h2, Result.andThen_ok, hr1]
  cases r
  · refine ⟨false, by simp, ?_⟩
    simp only [Bool.false_eq_true, false_iff, Prod.mk.injEq, not_and]
    intro h; exact absurd (hiff.2 h) (by simp)
  · refine ⟨r', by simpa using hr', ?_⟩
    rw [hiff']; simp [hiff.1 rfl]
theorem EqE.struct {α : Type} {n : Nat} {P : Program} {T : TypeId} {fs : Array Field} {e : Enc α} (hT : ∀ w, (underlying T).run P w = .ok (.struct fs) w) (hp : P.stoodInHeld T = false) (ha : e.agg = true) (h : EqFs n P fs.toList 0 e) : EqE (n + 1) P T e := by
  intro d hd w S S' w1 w2 x y cs ds hx hy
  obtain ⟨d, rfl⟩ : ∃ d', d = d' + 1 := ⟨d - 1, by omega⟩
  obtain ⟨r, hr, hiff⟩ := h d (by omega) w S S' w1 w2 x y [] [] cs ds rfl rfl hx hy
  refine ⟨r, ?_, hiff⟩
  have hf : P.fieldsOf T = fs := by unfold Program.fieldsOf; rw [under_of hT]
  have := run_equalIn_struct (w := w) d T cs.toArray ds.toArray (by rw [under_of hT, hf]) hp
  simp only [Enc.pk, ha, if_true]
  rw [this, hf]
  simpa using hr

section
variable {F : Frm} {σ : AS} {d : Option Tmp} {ty : TypeId} {p : String} {af : Array Edge} {gd : Option (Nat × Bool)} {x y : Operand}
theorem eqV_run {α : Type} [DecidableEq α] {n : Nat} {e : Enc α} {o : BinOp} {T T' : TypeId} {z z' : α} {b : Bool} {ρ S a w} (ho : (o = .eql ∧ b = decide (z = z')) ∨ (o = .neq ∧ b = !decide (z = z'))) (he : EqE n F.P T e) (hn : Nat.ble n 10000 = true) (ha : e.agg = true) (hg : F.P.eqGuardType F.P.depth T = false)
    (hx : evS σ.g x = some (.v e z)) (hy : evS σ.g y = some (.v e z')) (K : Know σ (Op.binOp o T x y T').operands ρ S a w) : (execOp a.eval ⟨d, .binOp o T x y T', ty, p, af, gd⟩).run F.P w = .ok (.value (.bool b)) w := by
  have h1 := K.slot x (by simp [Op.operands]) _ hx
  have h2 := K.slot y (by simp [Op.operands]) _ hy
  simp only [Slot.ok] at h1 h2
  obtain ⟨cs, k1, k2⟩ := h1
  obtain ⟨ds, k3, k4⟩ := h2
  obtain ⟨r, hr, hiff⟩ := he 10000 (Nat.le_of_ble_eq_true hn) w S S w w z z' cs ds k1 k3
  have hrd : r = decide (z = z') := by
    cases r
    · symm; simp; intro h; exact absurd (hiff.2 h) (by simp)
    · symm; simp; exact hiff.1 rfl
  simp only [Enc.pk, ha, if_true] at k2 k4 hr
  refine eqop (r := r) (by rw [hrd]; exact ho) k2 k4 (by intros; simp) (by intros; simp) (by intros; simp) (by intros; simp) ?_ hr
  exact run_eqGuard_agg (w := w) o T x y _ _ hg
theorem JO.eqV {α : Type} [DecidableEq α] {n : Nat} {e : Enc α} {T T' : TypeId} {z z' : α} (he : EqE n F.P T e) (hn : Nat.ble n 10000 = true) (ha : e.agg = true) (hg : F.P.eqGuardType F.P.depth T = false)
    (hx : evS σ.g x = some (.v e z)) (hy : evS σ.g y = some (.v e z')) : JO F ⟨d, .binOp .eql T x y T', ty, p, af, gd⟩ σ (.v Enc.bool (decide (z = z'))) [] :=
  fun ρ S _ w K => OpWp.value (w' := w) (eqV_run (.inl ⟨rfl, rfl⟩) he hn ha hg hx hy K) (Res.same (bool_ok _ ρ S w))
theorem JO.neV {α : Type} [DecidableEq α] {n : Nat} {e : Enc α} {T T' : TypeId} {z z' : α} (he : EqE n F.P T e) (hn : Nat.ble n 10000 = true) (ha : e.agg = true) (hg : F.P.eqGuardType F.P.depth T = false)
    (hx : evS σ.g x = some (.v e z)) (hy : evS σ.g y = some (.v e z')) : JO F ⟨d, .binOp .neq T x y T', ty, p, af, gd⟩ σ (.v Enc.bool (!decide (z = z'))) [] :=
  fun ρ S _ w K => OpWp.value (w' := w) (eqV_run (.inr ⟨rfl, rfl⟩) he hn ha hg hx hy K) (Res.same (bool_ok _ ρ S w))
end
end Go.Sw

namespace Go.Sw
open Go Go.RowKit

/-! ### the words of the models -/
/-- more rounds than any loop takes -/
def FUEL : Nat := 1125899906842624
inductive Ex (α β : Type) where
  | brk (x : α)
  | ret (r : β)
/-- a loop, and what comes behind it -/
def lp {α β γ : Type} (step : α → Option (Step α (Ex β γ))) (x : α) (k : β → Option γ) : Option γ :=
  match loop step FUEL x with
  | none => none
  | some (.brk y) => k y
  | some (.ret z) => some z
/-- where ways meet -/
def jp {β γ : Type} (k : β → Option γ) (body : (β → Option γ) → Option γ) : Option γ := body k

theorem lp_elim {α β γ : Type} {step : α → Option (Step α (Ex β γ))} {x : α} {k : β → Option γ} {r : γ} (h : lp step x k = some r) :
    ∃ o, loop step FUEL x = some o ∧ (∀ y, o = .brk y → k y = some r) ∧ (∀ z, o = .ret z → z = r) := by
  unfold lp at h
  cases hl : loop step FUEL x with
  | none => rw [hl] at h; cases h
  | some o =>
    rw [hl] at h
    refine ⟨o, rfl, ?_, ?_⟩
    · rintro y rfl; exact h
    · rintro z rfl; exact Option.some.inj h
theorem jp_elim {β γ : Type} {k : β → Option γ} {body : (β → Option γ) → Option γ} {r : γ} (h : jp k body = some r) : ∃ K, K = k ∧ body K = some r := ⟨k, rfl, h⟩
theorem cond_t {α : Type} {c : Bool} {x y : Option α} {r : α} (hc : c = true) (h : (bif c then x else y) = some r) : x = some r := by subst hc; exact h
theorem cond_f {α : Type} {c : Bool} {x y : Option α} {r : α} (hc : c = false) (h : (bif c then x else y) = some r) : y = some r := by subst hc; exact h
theorem bind_e {α β : Type} {x : Option α} {f : α → Option β} {r : β} (h : x.bind f = some r) : ∃ a, x = some a ∧ f a = some r := Option.bind_eq_some_iff.1 h

/-- names of what is ours, told anew -/
def rn : List (Nat × Nat) → Nat → Nat
  | [], i => i
  | (a, b) :: r, i => bif Nat.beq a i then b else rn r i

section
variable {F : Frm} {cs : List Code} {σ σ' : AS} {Q : Exit → Act → World → Prop} {α β γ : Type}

theorem W.condT {c : Tmp} {x y : Code} {b : Bool} (hb : lk σ.g c = some (.v Enc.bool b)) (hc : b = true) (ht : W F (x :: cs) σ Q) : W F (.cond (.tmp c) x y :: cs) σ Q := by
  subst hc; exact W.cond hb (fun _ => ht) (fun h => by cases h)
theorem W.condF {c : Tmp} {x y : Code} {b : Bool} (hb : lk σ.g c = some (.v Enc.bool b)) (hc : b = false) (ht : W F (y :: cs) σ Q) : W F (.cond (.tmp c) x y :: cs) σ Q := by
  subst hc; exact W.cond hb (fun h => by cases h) (fun _ => ht)

/-- how a round may end -/
def LB (F : Frm) (id : Nat) (σs : α → AS) (σx : β → AS) (o : Ex β γ) (Q : Exit → Act → World → Prop) : Step α (Ex β γ) → Exit → Act → World → Prop
  | .next y, .normal, a, w => St F (σs y) a w
  | .next _, _, _, _ => False
  | .done (.brk x), .exit i, a, w => i = id ∧ (o = .brk x → St F (σx x) a w)
  | .done (.brk _), _, _, _ => False
  | .done (.ret _), .normal, _, _ => False
  | .done (.ret z), .exit i, a, w => i ≠ id ∧ (o = .ret z → Q (.exit i) a w)
  | .done (.ret z), e, a, w => o = .ret z → Q e a w

/-- a loop in its block -/
theorem W.lp {id : Nat} {body : Code} {σs : α → AS} {step : α → Option (Step α (Ex β γ))} {x : α} {o : Ex β γ} (σx : β → AS) (hm : Sw.loop step FUEL x = some o) (h0 : Sub F σ (σs x))
    (hk : ∀ y, o = .brk y → W F cs (σx y) Q) (h : ∀ y r, step y = some r → W F [body] (σs y) (LB F id σs σx o Q r)) : W F (.block id (.loop body) :: cs) σ Q := by
  refine W.block (W.loop (b := o) hm h0 fun y r hr a w hs => ?_)
  refine wp_mono (h y r hr a w hs) ?_
  intro e a w hq
  cases r with
  | next z => cases e <;> simp only [LB, LQ, Exit.then, run] at hq ⊢ <;> exact hq
  | done b =>
    cases b with
    | brk z =>
      cases e <;> simp only [LB, LQ, Exit.then, run] at hq ⊢
      intro hb
      obtain ⟨rfl, hq⟩ := hq
      simp only [Exit.inBlock, if_true]
      exact hk z hb.symm a w (hq hb.symm)
    | ret z =>
      cases e <;> simp only [LB, LQ, Exit.then, run] at hq ⊢ <;> intro hb <;> first
        | (obtain ⟨hne, hq⟩ := hq; simp only [Exit.inBlock, if_neg hne]; exact hq hb.symm)
        | exact hq hb.symm
theorem W.next {id : Nat} {σs : α → AS} {σx : β → AS} {o : Ex β γ} {y : α} (h : Sub F σ (σs y)) : W F [] σ (LB F id σs σx o Q (.next y)) := fun a w hs => h a w hs
theorem XQ.brk {id : Nat} {σs : α → AS} {σx : β → AS} {o : Ex β γ} {y : β} (h : Sub F σ (σx y)) : XQ F σ (LB F id σs σx o Q (.done (.brk y))) (.exit id) := fun a w hs => ⟨rfl, fun _ => h a w hs⟩
theorem XQ.lret {id : Nat} {σs : α → AS} {σx : β → AS} {o : Ex β γ} {z : γ} (h : o = .ret z → XQ F σ Q .ret) : XQ F σ (LB F id σs σx o Q (.done (.ret z))) .ret := fun a w hs ho => h ho a w hs
theorem XQ.lexit {id i : Nat} {σs : α → AS} {σx : β → AS} {o : Ex β γ} {z : γ} (hne : Nat.beq i id = false) (h : o = .ret z → XQ F σ Q (.exit i)) : XQ F σ (LB F id σs σx o Q (.done (.ret z))) (.exit i) :=
  fun a w hs => ⟨fun e => by subst e; simp at hne, fun ho => h ho a w hs⟩

/-- how an arm may end -/
def JQ (F : Frm) (σx : β → AS) (P : β → Prop) (Q : Exit → Act → World → Prop) : Exit → Act → World → Prop
  | .normal, a, w => ∃ x, P x ∧ St F (σx x) a w
  | e, a, w => Q e a w
theorem W.jn {c : Tmp} {x y : Code} {b : Bool} (σx : β → AS) (P : β → Prop) (hb : lk σ.g c = some (.v Enc.bool b)) (hk : ∀ x, P x → W F cs (σx x) Q) (ht : b = true → W F [x] σ (JQ F σx P Q)) (hf : b = false → W F [y] σ (JQ F σx P Q)) : W F (.cond (.tmp c) x y :: cs) σ Q := by
  refine W.cond hb (fun hc a w hs => ?_) (fun hc a w hs => ?_)
  · refine wp_mono (ht hc a w hs) ?_
    intro e a w hq
    cases e <;> simp only [Exit.then, run, JQ] at hq ⊢ <;> first | exact hq | (obtain ⟨z, h1, h2⟩ := hq; exact hk z h1 a w h2)
  · refine wp_mono (hf hc a w hs) ?_
    intro e a w hq
    cases e <;> simp only [Exit.then, run, JQ] at hq ⊢ <;> first | exact hq | (obtain ⟨z, h1, h2⟩ := hq; exact hk z h1 a w h2)
theorem W.jfall {σx : β → AS} {P : β → Prop} {z : β} (hz : P z) (h : Sub F σ (σx z)) : W F [] σ (JQ F σx P Q) := fun a w hs => ⟨z, hz, h a w hs⟩
theorem XQ.jret {σx : β → AS} {P : β → Prop} (h : XQ F σ Q .ret) : XQ F σ (JQ F σx P Q) .ret := h
theorem XQ.jexit {i : Nat} {σx : β → AS} {P : β → Prop} (h : XQ F σ Q (.exit i)) : XQ F σ (JQ F σx P Q) (.exit i) := h
/-- two ways to the same place -/
theorem W.two {b : Bool} (h : b = true → W F cs σ Q) (h' : b = false → W F cs σ Q) : W F cs σ Q := by cases b; exact h' rfl; exact h rfl
theorem J.fin {ops : Array Oper} (h : Sub F σ σ') : J F ops [] σ σ' := fun _ _ a w hs hk => hk a w (h a w hs)
end
theorem noR {P : Program} {N : Nat} {S : Nat → Prop} {w : World} : ∀ k, ¬ (Frm.R ⟨P, N, S, w, fun _ => False⟩ k) := fun _ h => h
end Go.Sw

namespace Go.Sw
open Go Go.RowKit

section
variable {F : Frm} {cs : List Code} {σ σ' : AS} {Q : Exit → Act → World → Prop} {α β γ : Type} {ops : Array Oper} {os : List Oper}

theorem GK.met {g : List (Nat × Slot)} {o : Oper} {j : Nat} {want : Bool} (t : Tmp) {x : Bool} (h : o.guard = .some (j, want)) (ht : (ops[j]?).bind (·.dst) = .some t)
    (hx : lk g t = .some (.v Enc.bool x)) (hb : x = want) : GK ops g o true := GK.some t x true h ht hx (by subst hb; simp)
theorem GK.unmet {g : List (Nat × Slot)} {o : Oper} {j : Nat} {want : Bool} (t : Tmp) {x : Bool} (h : o.guard = .some (j, want)) (ht : (ops[j]?).bind (·.dst) = .some t)
    (hx : lk g t = .some (.v Enc.bool x)) (hb : x = !want) : GK ops g o false := GK.some t x false h ht hx (by subst hb; simp)

/-- many ways to the same place -/
theorem W.mg {c : Code} (h : W F cs σ' Q → W F (c :: cs) σ Q) (k : W F cs σ' Q) : W F (c :: cs) σ Q := h k
theorem XQ.sub {e : Exit} (h : Sub F σ σ') (k : XQ F σ' Q e) : XQ F σ Q e := fun a w hs => k a w (h a w hs)

/-- a block, and what comes behind it, whichever way it is left -/
def BQ (F : Frm) (id : Nat) (σx : β → AS) (P : β → Prop) (Q : Exit → Act → World → Prop) : Exit → Act → World → Prop
  | .normal, a, w => ∃ x, P x ∧ St F (σx x) a w
  | .exit i, a, w => if i = id then ∃ x, P x ∧ St F (σx x) a w else Q (.exit i) a w
  | e, a, w => Q e a w
theorem W.bj {id : Nat} {body : Code} (σx : β → AS) (P : β → Prop) (hk : ∀ x, P x → W F cs (σx x) Q) (h : W F [body] σ (BQ F id σx P Q)) : W F (.block id body :: cs) σ Q := by
  refine W.block fun a w hs => wp_mono (h a w hs) ?_
  intro e a w hq
  cases e <;> simp only [Exit.then, run, BQ, Exit.inBlock] at hq ⊢ <;> first
    | exact hq
    | (obtain ⟨z, h1, h2⟩ := hq; exact hk z h1 a w h2)
    | (split at hq
       · rename_i hi; rw [if_pos hi]; obtain ⟨z, h1, h2⟩ := hq; exact hk z h1 a w h2
       · rename_i hi; rw [if_neg hi]; exact hq)
theorem W.bfall {id : Nat} {σx : β → AS} {P : β → Prop} {z : β} (hz : P z) (h : Sub F σ (σx z)) : W F [] σ (BQ F id σx P Q) := fun a w hs => ⟨z, hz, h a w hs⟩
theorem XQ.bhit {id : Nat} {σx : β → AS} {P : β → Prop} {z : β} (hz : P z) (h : Sub F σ (σx z)) : XQ F σ (BQ F id σx P Q) (.exit id) := fun a w hs => by
  simp only [BQ, if_true]; exact ⟨z, hz, h a w hs⟩
theorem XQ.bmiss {id i : Nat} {σx : β → AS} {P : β → Prop} (hne : Nat.beq i id = false) (h : XQ F σ Q (.exit i)) : XQ F σ (BQ F id σx P Q) (.exit i) := fun a w hs => by
  simp only [BQ]; rw [if_neg (fun e => by subst e; simp at hne)]; exact h a w hs
theorem XQ.bret {id : Nat} {σx : β → AS} {P : β → Prop} (h : XQ F σ Q .ret) : XQ F σ (BQ F id σx P Q) .ret := h
end

section
variable {F : Frm} {σ : AS} {s : Slot} {d : Option Tmp} {ty : TypeId} {p : String} {af : Array Edge} {gd : Option (Nat × Bool)} {x y c : Operand}

theorem JO.pT {b : Bool} (hb : b = true) (hc : evS σ.g c = some (.v Enc.bool b)) (hx : evS σ.g x = some s) : JO F ⟨d, .pick c x y, ty, p, af, gd⟩ σ s [] := by subst hb; exact JO.pickT hc hx
theorem JO.pF {b : Bool} (hb : b = false) (hc : evS σ.g c = some (.v Enc.bool b)) (hy : evS σ.g y = some s) : JO F ⟨d, .pick c x y, ty, p, af, gd⟩ σ s [] := by subst hb; exact JO.pickF hc hy

/-- a conversion that keeps the number -/
def wider (k k' : IntKind) : Bool := decide (k'.min ≤ k.min) && decide (k.max ≤ k'.max)
theorem wrap_id {k : IntKind} {n : Int} (h : inK k n) : k.wrap n = n := by
  unfold inK at h
  cases k <;> simp [IntKind.min, IntKind.max, IntKind.signed, IntKind.bits] at h <;> simp [IntKind.wrap, IntKind.signed, IntKind.bits] <;> omega
theorem JO.convUp {A B : TypeId} {da : TypeDesc} {k k' : IntKind} {n : Int} (ha : ∀ w, (underlying A).run F.P w = .ok da w) (hb : ∀ w, (underlying B).run F.P w = .ok (.int k') w) (hx : evS σ.g x = some (.v (Enc.int k) n)) (hw : wider k k' = true) :
    JO F ⟨d, .convert A B x, ty, p, af, gd⟩ σ (.v (Enc.int k') n) [] := by
  intro ρ S a w K
  have hk := (K_int K (x := x) (by simp [Op.operands]) hx).2
  have h := JO.conv (ty := ty) (p := p) (d := d) (af := af) (gd := gd) ha hb hx ρ S a w K
  have : k'.wrap n = n := by
    refine wrap_id ?_
    simp [wider] at hw
    unfold inK at *; omega
  rw [this] at h
  exact h

/-! ### what a model checks -/
def nz (n : Int) : Option Unit := if n = 0 then none else some ()
theorem nz_some {n : Int} {u : Unit} (h : nz n = some u) : n ≠ 0 := by unfold nz at h; split at h <;> simp_all
def nn (n : Int) : Option Unit := if 0 ≤ n then some () else none
theorem nn_some {n : Int} {u : Unit} (h : nn n = some u) : 0 ≤ n := by unfold nn at h; split at h <;> simp_all

/-! ### results that lie in memory -/
theorem K_cell {c : Nat} {ρ : Nat → Value} {a : Act} {w : World} (hc : Core F σ.d ρ w) (hs : ∀ t s, lk σ.g t = some s → s.ok ρ (Un F.S0 ρ σ.d) w (a.tmps.getD t undef)) {i off : Nat} {T : TypeId} {l : List Slot} (hx : lk σ.g c = some (.ptr i off)) (he : lkE σ.d i = some (.box T l)) :
    ∃ b cs, a.tmps.getD c undef = .pointer (some ⟨b, off, none⟩) ∧ w.heap[b]? = some (.cells cs.toArray T (0, 0)) ∧ Slot.okl ρ (Un F.S0 ρ σ.d) w l cs := by
  obtain ⟨b, cs, _, h2, h3, h4⟩ := K_ptr (x := .tmp c) (xs := #[.tmp c]) (Know.of_st hc hs #[.tmp c]) (by simp) hx he
  exact ⟨b, cs, h2, h3, h4⟩
theorem RV.cellAll {α : Type} {e : Enc α} {z : α} {T U : TypeId} {l : List Slot} {i c : Nat} (hx : lk σ.g c = some (.ptr i 0)) (he : lkE σ.d i = some (.box T l)) (hl : Spl l e z)
    (hA : ∀ w, (isAgg U).run F.P w = .ok e.agg w) (hS : ∀ w, (sizeOf U).run F.P w = .ok e.n w) : RV F σ (.cell c U) (.v e z) := by
  intro ρ a w hc hs
  obtain ⟨b, cs, h2, h3, h4⟩ := K_cell hc hs hx he
  have h5 := (hl ρ _ w cs).1 h4
  refine ⟨e.pk cs, ?_, by simp only [Slot.ok]; exact ⟨cs, h5, rfl⟩⟩
  have := load_e (P := F.P) (MemAt.of_heap h3) h5 hA hS
  simp [rvSem, h2, asAddr, this]
theorem RV.cellAgg {T U : TypeId} {l : List Slot} {i c n : Nat} (hx : lk σ.g c = some (.ptr i 0)) (he : lkE σ.d i = some (.box T l)) (hn : (l.map Slot.sz).sum = n)
    (hA : ∀ w, (isAgg U).run F.P w = .ok true w) (hS : ∀ w, (sizeOf U).run F.P w = .ok n w) : RV F σ (.cell c U) (.agg l) := by
  intro ρ a w hc hs
  obtain ⟨b, cs, h2, h3, h4⟩ := K_cell hc hs hx he
  have hlen : cs.length = n := by
    rw [← hn]
    clear hn hS hx he h3
    induction l generalizing cs with
    | nil => simp only [Slot.okl] at h4; simp [h4]
    | cons t l ih =>
      simp only [Slot.okl] at h4
      obtain ⟨c, d, rfl, k1, k2⟩ := h4
      rw [List.length_append, okc_len k1, ih d k2]; simp
  refine ⟨.agg cs.toArray, ?_, by simp only [Slot.ok]; exact ⟨cs, rfl, h4⟩⟩
  have : (loadVar U ⟨b, 0, none⟩).run F.P w = .ok (.agg cs.toArray) w := by
    unfold loadVar
    simp only [Sem.run_bind, hA, Result.andThen_ok, if_true, hS]
    rw [← hlen, run_loadCells_list w _ cs (MemAt.of_heap h3).cell]
    simp
  simp [rvSem, h2, asAddr, this]
theorem RV.cellAt {T U : TypeId} {l : List Slot} {i c : Nat} (hx : lk σ.g c = some (.ptr i 0)) (he : lkE σ.d i = some (.box T l)) (ho : offAt l 0 = some s)
    (hA : ∀ w, (isAgg U).run F.P w = .ok s.ag w) (hS : ∀ w, (sizeOf U).run F.P w = .ok s.sz w) : RV F σ (.cell c U) s := by
  intro ρ a w hc hs
  obtain ⟨b, cs, h2, h3, h4⟩ := K_cell hc hs hx he
  obtain ⟨pre, c', post, rfl, hp, h5, _⟩ := okl_at ho h4
  have hm : MemAt w b pre.length c' := by have := (MemAt.of_heap h3).sub; simpa using this
  have hlen := okc_len h5
  refine ⟨if s.ag then .agg c'.toArray else c'.headD undef, ?_, okc_val h5⟩
  have : (loadVar U ⟨b, 0, none⟩).run F.P w = .ok (if s.ag then .agg c'.toArray else c'.headD undef) w := by
    rw [← hp]
    unfold loadVar
    simp only [Sem.run_bind, hA, Result.andThen_ok]
    cases ha : s.ag with
    | true =>
      simp only [if_true, Sem.run_bind, hS, Result.andThen_ok]
      rw [← hlen, run_loadCells_list w _ c' hm.cell]
      simp
    | false =>
      have h1 : c'.length = 1 := by
        rw [hlen]
        cases s <;> simp only [Slot.ag, Slot.sz] at ha ⊢
        exact Enc.one _ ha
      obtain ⟨v, rfl⟩ := List.length_eq_one_iff.1 h1
      have := hm.cell 0 v rfl
      simp [Addr.add] at this
      simp [this]
  simp [rvSem, h2, asAddr, this]
end
end Go.Sw

namespace Go.Sw
open Go Go.RowKit

def mget {α β : Type} [DecidableEq α] : List (α × β) → α → Option β
  | [], _ => none
  | (a, b) :: m, k => if a = k then some b else mget m k
def mput {α β : Type} [DecidableEq α] (m : List (α × β)) (k : α) (v : β) : Option (List (α × β)) := match mget m k with | none => some (m ++ [(k, v)]) | some _ => none
theorem mput_some {α β : Type} [DecidableEq α] {m m' : List (α × β)} {k : α} {v : β} (h : mput m k v = some m') : mget m k = none ∧ m' = m ++ [(k, v)] := by
  unfold mput at h
  cases hm : mget m k with
  | none => rw [hm] at h; exact ⟨rfl, by simpa using h.symm⟩
  | some b => rw [hm] at h; cases h

/-- what may be a key -/
def KeyE {α : Type} (n : Nat) (P : Program) (T : TypeId) (e : Enc α) : Prop := ∀ d, n ≤ d → ∀ (em : Bool) (w : World) (S : Nat → Prop) (w1 : World) (x : α) (cs : List Value), e.ok x S w1 cs → (Instr.checkKey em d T (e.pk cs)).run P w = .ok () w
theorem KeyE.int {P : Program} {T : TypeId} {k k' : IntKind} (h : ∀ w, (underlying T).run P w = .ok (.int k') w) : KeyE 1 P T (Enc.int k) := by
  intro d hd em w S w1 x cs hx
  obtain ⟨d, rfl⟩ : ∃ d', d = d' + 1 := ⟨d - 1, by omega⟩
  rw [hx.1]
  simp [Instr.checkKey, h, Enc.pk, Enc.int]
theorem checkItems {α : Type} {n d : Nat} {P : Program} {E : TypeId} {e : Enc α} {em : Bool} (hd : n ≤ d) (he : KeyE n P E e) (hA : ∀ w, (isAgg E).run P w = .ok e.agg w) (hS : ∀ w, (sizeOf E).run P w = .ok e.n w) {S : Nat → Prop} {w1 : World} :
    ∀ (xs : List α) (k : Nat) (pre cs : List Value) (w : World), pre.length = k * e.n → e.okL xs S w1 cs →
      (forIn (List.range' k xs.length) PUnit.unit fun i (_ : PUnit) => do
        let s ← sizeOf E
        let v ← part E (pre ++ cs).toArray (i * s)
        Instr.checkKey em d E v
        pure (ForInStep.yield PUnit.unit) : Sem PUnit).run P w = .ok () w
  | [], k, pre, cs, w, _, _ => by simp
  | x :: xs, k, pre, cs, w, hp, ⟨c, c', h1, h2, h3⟩ => by
    subst h1
    have ih := checkItems (em := em) hd he hA hS xs (k + 1) (pre ++ c) c' w (by rw [List.length_append, hp, e.len h2, Nat.add_mul, Nat.one_mul]) h3
    have hpart := part_e (P := P) (w := w) (b := c') h2 hp hA hS
    rw [List.append_assoc] at ih
    simp only [List.length_cons, List.range'_succ, List.forIn_cons, Sem.run_bind, hS, Result.andThen_ok, hpart, he d hd em w S w1 x c h2]
    simpa using ih
theorem KeyE.arr {α : Type} {n m : Nat} {P : Program} {T E : TypeId} {e : Enc α} (hT : ∀ w, (underlying T).run P w = .ok (.array m E) w) (hS : ∀ w, (sizeOf E).run P w = .ok e.n w) (hA : ∀ w, (isAgg E).run P w = .ok e.agg w) (he : KeyE n P E e) : KeyE (n + 1) P T (Enc.arr m e) := by
  intro d hd em w S w1 x cs hx
  obtain ⟨d, rfl⟩ : ∃ d', d = d' + 1 := ⟨d - 1, by omega⟩
  have h := checkItems (em := em) (d := d) (by omega) he hA hS x 0 [] cs w (by simp) hx.2
  rw [hx.1] at h
  simp only [Instr.checkKey, Sem.run_bind, hT, Result.andThen_ok, Enc.pk, Enc.arr, if_true]
  simp [Std.Legacy.Range.forIn_eq_forIn_range', Std.Legacy.Range.size] at h ⊢
  rw [h]; rfl

/-! ### looking a key up -/
theorem findAsk {α β : Type} [DecidableEq α] {n : Nat} {P : Program} {T : TypeId} {e : Enc α} {f : Enc β} (hn : n ≤ 10000) (he : EqE n P T e) {S S' : Nat → Prop} {w1 w2 : World} {k : α} {cs : List Value} (hk : e.ok k S' w2 cs) (w : World) :
    ∀ (m : List (α × β)) (es : List MapEntry) (i : Nat), MpL e f S w1 m es → ∃ r, (Instr.findAsking T (e.pk cs) es i).run P w = .ok r w ∧ (mget m k = none → r = none) ∧ (∀ b, mget m k = some b → ∃ j v, r = some (j, v) ∧ f.val b S w1 v)
  | [], [], i, _ => ⟨none, by simp [Instr.findAsking], fun _ => rfl, fun b h => by simp [mget] at h⟩
  | (a, b) :: m, x :: xs, i, ⟨⟨ds, h1, h1'⟩, h2, h3⟩ => by
    obtain ⟨r, hr, hiff⟩ := he 10000 hn w S' S w2 w1 k a cs ds hk h1
    rw [← h1'] at hr
    have hr' : (Op.equal T (e.pk cs) x.key).run P w = .ok r w := hr
    cases r with
    | true =>
      have hka := hiff.1 rfl
      refine ⟨some (i, x.val), by simp [Instr.findAsking, hr'], fun h => ?_, fun b' h => ?_⟩
      · simp [mget, hka] at h
      · simp [mget, hka] at h; subst h; exact ⟨i, x.val, rfl, h2⟩
    | false =>
      have hka : ¬ a = k := fun h => by have := hiff.2 h.symm; cases this
      obtain ⟨r, hr2, h4, h5⟩ := findAsk hn he hk w m xs (i + 1) h3
      refine ⟨r, by simp [Instr.findAsking, hr', hr2], fun h => ?_, fun b' h => ?_⟩
      · simp [mget, hka] at h; exact h4 h
      · simp [mget, hka] at h; exact h5 b' h
  | [], _ :: _, _, h => h.elim
  | _ :: _, [], _, h => h.elim
theorem findKey_e {α β : Type} [DecidableEq α] {n l : Nat} {E : TypeId} {P : Program} {T : TypeId} {e : Enc α} {f : Enc β} (hn : n ≤ 10000) (hT : ∀ w, (underlying T).run P w = .ok (.array l E) w) (he : EqE n P T e) {S S' : Nat → Prop} {w1 w2 : World} {k : α} {cs : List Value} (hk : e.ok k S' w2 cs) (w : World)
    (m : List (α × β)) (es : List MapEntry) (h : MpL e f S w1 m es) : ∃ r, (Instr.findKey T (e.pk cs) es).run P w = .ok r w ∧ (mget m k = none → r = none) ∧ (∀ b, mget m k = some b → ∃ j v, r = some (j, v) ∧ f.val b S w1 v) := by
  match m, es, h with
  | [], [], _ => exact ⟨none, by simp [Instr.findKey, hT, Instr.findNow], fun _ => rfl, fun b h => by simp [mget] at h⟩
  | q :: m, x :: xs, h =>
    obtain ⟨r, h1, h2⟩ := findAsk hn he hk w (q :: m) (x :: xs) 0 h
    refine ⟨r, ?_, h2⟩
    simp [Instr.findKey, hT, Instr.findNow, Instr.sameNow, h1]

section
variable {F : Frm} {σ : AS} {d : Option Tmp} {ty : TypeId} {p : String} {af : Array Edge} {gd : Option (Nat × Bool)} {x y z : Operand}
theorem JO.makeMap {α β : Type} {T : TypeId} (i : Nat) (e : Enc α) (f : Enc β) : JO F ⟨d, .makeMap T none, ty, p, af, gd⟩ σ (.ref i) [(i, .mp e f [])] := by
  intro ρ S a w K
  refine OpWp.value (w' := w.alloc (.map #[] 0)) (v := .map (some w.heap.size)) (by simp [execOp, Instr.makeMap]) ?_
  refine Res.new1 (.map (some w.heap.size)) (below_alloc _ _) rfl ?_ ?_ ?_
  · intro b hb; simp [blk] at hb; subst hb; exact ⟨Nat.le_refl _, by simp⟩
  · intro S' ρ' h _
    exact ⟨_, #[], 0, rfl, heap_alloc_new _ _, trivial⟩
  · intro S' ρ' _ hi _
    simp only [Slot.ok]; exact ⟨by rw [hi]; exact .inr ⟨_, rfl⟩, hi.symm⟩
theorem JO.lookup {α β : Type} [DecidableEq α] {n n' l : Nat} {M KT VT E : TypeId} {e : Enc α} {f : Enc β} {m : List (α × β)} {i : Nat} {k : α} {u : β} {zv : Value} (hx : evS σ.g x = some (.ref i)) (hd : lkE σ.d i = some (.mp e f m)) (hy : evS σ.g y = some (.v e k))
    (hM : ∀ w, (underlying M).run F.P w = .ok (.map KT VT) w) (hT : ∀ w, (underlying KT).run F.P w = .ok (.array l E) w) (he : EqE n F.P KT e) (hn : Nat.ble n 10000 = true) (hk : KeyE n' F.P KT e) (hn' : Nat.ble n' 10000 = true)
    (hz : ∀ w, (zeroValue VT).run F.P w = .ok zv w) (hzv : ∀ S w, f.val u S w zv) : JO F ⟨d, .lookup M x y false, ty, p, af, gd⟩ σ (.v f ((mget m k).getD u)) [] := by
  intro ρ S a w K
  obtain ⟨h1, h2, _⟩ := K_ref K (x := x) (by simp [Op.operands]) hx hd
  obtain ⟨b, es, ck, h3, h4, h5⟩ := h2
  have h6 := K.slot y (by simp [Op.operands]) _ hy
  simp only [Slot.ok] at h6
  obtain ⟨cs, h6, h7⟩ := h6
  obtain ⟨r, h8, h9, h10⟩ := findKey_e (Nat.le_of_ble_eq_true hn) hT he h6 w m es.toList h5
  have hc := hk 10000 (Nat.le_of_ble_eq_true hn') es.isEmpty w S w k cs h6
  have hg := MapKept.run_getObj_map (P := F.P) h4
  cases hm : mget m k with
  | none =>
    have := h9 hm
    subst this
    refine OpWp.value (w' := w) (v := zv) ?_ (Res.same (by simp only [Slot.ok]; exact hzv _ _))
    simp [execOp, h1, h3, h7, Instr.lookup, hM, hg, hc, h8, hz]
  | some b' =>
    obtain ⟨j, v, rfl, hv⟩ := h10 b' hm
    refine OpWp.value (w' := w) (v := v) ?_ (Res.same (by simp only [Slot.ok]; exact hv))
    simp [execOp, h1, h3, h7, Instr.lookup, hM, hg, hc, h8]
theorem MpL_push {α β : Type} {e : Enc α} {f : Enc β} {S : Nat → Prop} {w : World} {k : α} {v : β} {x : MapEntry} (h1 : e.val k S w x.key) (h2 : f.val v S w x.val) : ∀ {m : List (α × β)} {xs : List MapEntry}, MpL e f S w m xs → MpL e f S w (m ++ [(k, v)]) (xs ++ [x])
  | [], [], _ => ⟨h1, h2, trivial⟩
  | (_, _) :: _, _ :: _, ⟨h3, h4, h5⟩ => ⟨h3, h4, MpL_push h1 h2 h5⟩
  | [], _ :: _, h => h.elim
  | _ :: _, [], h => h.elim
theorem JM.mapPut {α β : Type} [DecidableEq α] {n n' l : Nat} {M KT VT E : TypeId} {e : Enc α} {f : Enc β} {m m' : List (α × β)} {i : Nat} {k : α} {v : β} (hm : mput m k v = some m') (hx : evS σ.g x = some (.ref i)) (hd : lkE σ.d i = some (.mp e f m)) (hy : evS σ.g y = some (.v e k)) (hz : evS σ.g z = some (.v f v))
    (hM : ∀ w, (underlying M).run F.P w = .ok (.map KT VT) w) (hT : ∀ w, (underlying KT).run F.P w = .ok (.array l E) w) (he : EqE n F.P KT e) (hn : Nat.ble n 10000 = true) (hk : KeyE n' F.P KT e) (hn' : Nat.ble n' 10000 = true) :
    JM F ⟨none, .mapUpdate M x y z, ty, p, af, gd⟩ σ ⟨σ.g, (i, .mp e f m') :: σ.d⟩ := by
  obtain ⟨hg0, rfl⟩ := mput_some hm
  refine JM.of_upd hd rfl fun ρ a w hc hs => ?_
  have K := Know.of_st hc hs (Op.mapUpdate M x y z).operands
  obtain ⟨h1, h2, _⟩ := K_ref K (x := x) (by simp [Op.operands]) hx hd
  obtain ⟨b, es, ck, h3, h4, h5⟩ := h2
  have h6 := K.slot y (by simp [Op.operands]) _ hy
  have h7 := K.slot z (by simp [Op.operands]) _ hz
  simp only [Slot.ok] at h6 h7
  have hv6 := h6
  obtain ⟨cs, h6, h6'⟩ := h6
  obtain ⟨r, h8, h9, _⟩ := findKey_e (Nat.le_of_ble_eq_true hn) hT he h6 w m es.toList h5
  have hr := h9 hg0
  subst hr
  have hcq := hk 10000 (Nat.le_of_ble_eq_true hn') false w _ w k cs h6
  have hg := MapKept.run_getObj_map (P := F.P) h4
  have hso := fun o => MapKept.run_setObj_map (P := F.P) o h4
  have hb := MapKept.heap_set (o' := .map (es.push { key := a.eval y, val := a.eval z, born := ck }) (ck + 1)) h4
  refine ⟨b, { w with heap := w.heap.setIfInBounds b (.map (es.push { key := a.eval y, val := a.eval z, born := ck }) (ck + 1)) }, by rw [h3]; rfl, ⟨by simp, hb.2, rfl, rfl, rfl⟩, ?_, fun hE => ?_⟩
  · simp [execOp, h1, h3, h6', Instr.mapUpdate, hM, hg, hcq, h8, hso]
  · refine ⟨b, _, _, h3, hb.1, ?_⟩
    rw [Array.toList_push]
    exact MpL_push (Enc.val_mono hv6 hE) (Enc.val_mono h7 hE) (MpL_mono hE h5)
end
end Go.Sw

namespace Go.Sw
open Go Go.RowKit

theorem EqE.up {α : Type} {n : Nat} {P : Program} {T : TypeId} {e : Enc α} (m : Nat) (h : EqE n P T e) (hle : Nat.ble n m = true) : EqE m P T e :=
  fun d hd => h d (Nat.le_trans (Nat.le_of_ble_eq_true hle) hd)

/-- the places of a struct's fields -/
inductive Places (P : Program) : List Field → List (Nat × Nat) → Prop
  | nil : Places P [] []
  | cons {f : Field} {fs : List Field} {n off : Nat} {l : List (Nat × Nat)} : f.offset = off → P.cellsOf f.type = n → (P.info? f.type).isSome = true → Places P fs l → Places P (f :: fs) ((off, n) :: l)
theorem Places.mapM {P : Program} {fs : List Field} {l : List (Nat × Nat)} (h : Places P fs l) : (fs.mapM fun f => (P.info? f.type).map fun i => (f.offset, i.size)) = some l := by
  induction h with
  | nil => rfl
  | cons h1 h2 h3 _ ih =>
    rename_i f fs n off l _
    rw [List.mapM_cons, ih]
    unfold Program.cellsOf at h2
    cases hi : P.info? f.type with
    | none => rw [hi] at h3; cases h3
    | some i => rw [hi] at h2; simp at h2; simp [h1, h2]
theorem built_struct {P : Program} {T : TypeId} {ti : TypeInfo} {fs : Array Field} {l : List (Nat × Nat)} {z : Value} {zs : List Value} (hI : ∀ w, (typeInfo T).run P w = .ok ti w) (hU : ∀ w, (underlying T).run P w = .ok (.struct fs) w) (hz : ti.zero = some z) (hc : z.cells = zs.toArray)
    (hp : Places P fs.toList l) : ∀ parts, P.built T parts = Instr.fill (l.toArray[·]?) zs.toArray parts := by
  intro parts
  unfold Program.built
  rw [info_of hI, under_of hU]
  simp only [hz, hp.mapM, hc]
/-- a zero literal -/
theorem zero_built {P : Program} {T : TypeId} {ti : TypeInfo} {de : TypeDesc} {z : Value} (hI : ∀ w, (typeInfo T).run P w = .ok ti w) (hU : ∀ w, (underlying T).run P w = .ok de w) (hz : ti.zero = some z) (hd : (∃ n E iE, de = .array n E ∧ P.info? E = some iE)) : P.built T [] = some z.cells := by
  obtain ⟨n, E, iE, rfl, hE⟩ := hd
  unfold Program.built
  rw [info_of hI, under_of hU]
  simp only [hz, hE]
  rfl

section
variable {F : Frm} {σ : AS} {s : Slot} {d : Option Tmp} {ty : TypeId} {p : String} {af : Array Edge} {gd : Option (Nat × Bool)} {x y z : Operand}
/-- an array of noughts -/
theorem JO.zeroArr {α : Type} {e : Enc α} {v : α} {T E : TypeId} {n : Nat} {ti tE : TypeInfo} {cs : List Value} (hI : ∀ w, (typeInfo T).run F.P w = .ok ti w) (hU : ∀ w, (underlying T).run F.P w = .ok (.array n E) w) (hE : ∀ w, (typeInfo E).run F.P w = .ok tE w) (hz : ti.zero = some (.agg cs.toArray)) (ha : e.agg = true) (hv : ∀ S w, e.ok v S w cs) :
    JO F ⟨d, .build T #[], ty, p, af, gd⟩ σ (.v e v) [] := by
  intro ρ S a w K
  have hb := zero_built hI hU hz ⟨n, E, tE, rfl, info_of hE⟩
  refine OpWp.value (w' := w) (v := .agg cs.toArray) ?_ (Res.same (by simp only [Slot.ok]; exact ⟨cs, hv _ _, by simp [Enc.pk, ha]⟩))
  have := run_build (P := F.P) w T #[] cs.toArray (by simpa [Value.cells] using hb)
  simp only [execOp, List.map_toArray]
  simp [this]

/-- an element of an array that is read -/
theorem JO.idxPst {α : Type} {e : Enc α} {zs : List α} {U E : TypeId} {len : Nat} {k : IntKind} {n : Int} {v : α} (hz : Sw.idx zs n = some v) (hx : evS σ.g x = some (.pst (Enc.arr len e) zs))
    (hy : evS σ.g y = some (.v (Enc.int k) n)) (hU : ∀ w, (underlying U).run F.P w = .ok (.array len E) w) (hE : ∀ w, (sizeOf E).run F.P w = .ok e.n w) : JO F ⟨d, .indexAddr U x y, ty, p, af, gd⟩ σ (.pst e v) [] := by
  intro ρ S a w K
  have h := K.slot x (by simp [Op.operands]) _ hx
  simp only [Slot.ok] at h
  obtain ⟨b, off, ds, h1, h2, h3, h4, h5, h6⟩ := h
  have hn := (K_int K (x := y) (by simp [Op.operands]) hy).1
  obtain ⟨i0, i1, i2⟩ := idx_some hz
  obtain ⟨pre, c, post, rfl, hl, hc, _⟩ := Enc.okL_get h6 i2
  refine OpWp.value (w' := w) (v := .pointer (some ⟨b, off + n.toNat * e.n, none⟩)) ?_ (Res.same (by simp only [Slot.ok]; exact ⟨b, _, c, rfl, h2, h3, by rw [← hl]; exact h4.sub, hc⟩))
  have := run_indexAtArr (P := F.P) (w := w) (b := b) (off := off) (k := k) hU hE i0 (by omega : n < (len : Int))
  simp only [execOp, h1, hn]
  simp [this]

/-! ### slices of slices -/
def sub {α : Type} (xs : List α) (lo hi : Int) : Option (List α) := if 0 ≤ lo ∧ lo ≤ hi ∧ hi ≤ xs.length then some ((xs.take hi.toNat).drop lo.toNat) else none
theorem sub_some {α : Type} {xs ys : List α} {lo hi : Int} (h : sub xs lo hi = some ys) : 0 ≤ lo ∧ lo ≤ hi ∧ hi ≤ xs.length ∧ ys = (xs.take hi.toNat).drop lo.toNat := by
  unfold sub at h; split at h
  · rename_i hc; cases h; exact ⟨hc.1, hc.2.1, hc.2.2, rfl⟩
  · cases h
theorem okL_drop {α : Type} {e : Enc α} {S w} : ∀ {xs : List α} {cs : List Value} (n : Nat), e.okL xs S w cs → e.okL (xs.drop n) S w (cs.drop (n * e.n))
  | xs, cs, 0, h => by simpa using h
  | [], cs, n + 1, h => by
    have : cs = [] := h
    subst this; simpa using h
  | x :: xs, cs, n + 1, ⟨c, d, h1, h2, h3⟩ => by
    subst h1
    have := okL_drop n h3
    have hl := e.len h2
    rw [Nat.succ_mul, Nat.add_comm (n * e.n), ← hl, List.drop_append, hl]
    have e1 : c.drop (e.n + n * e.n) = [] := List.drop_eq_nil_of_le (by omega)
    rw [e1]
    simpa using this
theorem okL_take {α : Type} {e : Enc α} {S w} : ∀ {xs : List α} {cs : List Value} (n : Nat), e.okL xs S w cs → e.okL (xs.take n) S w (cs.take (n * e.n))
  | xs, cs, 0, h => by simp; rfl
  | [], cs, n + 1, h => by
    have : cs = [] := h
    subst this; simpa using h
  | x :: xs, cs, n + 1, ⟨c, d, h1, h2, h3⟩ => by
    subst h1
    have := okL_take n h3
    have hl := e.len h2
    refine ⟨c, d.take (n * e.n), ?_, h2, this⟩
    rw [Nat.succ_mul, Nat.add_comm (n * e.n), ← hl, List.take_append, hl]
    have e1 : c.take (e.n + n * e.n) = c := List.take_of_length_le (by omega)
    rw [e1]
    simp
theorem MemAt.drop {w : World} {b off : Nat} {ds : List Value} (n : Nat) (h : MemAt w b off ds) : MemAt w b (off + n) (ds.drop n) := by
  obtain ⟨c, T, fr, h1, h2⟩ := h
  refine ⟨c, T, fr, h1, fun j hj => ?_⟩
  have := h2 (n + j) (by simp at hj; omega)
  rw [List.getElem_drop, ← this]; congr 1; omega
theorem MemAt.take {w : World} {b off : Nat} {ds : List Value} (n : Nat) (h : MemAt w b off ds) : MemAt w b off (ds.take n) := by
  obtain ⟨c, T, fr, h1, h2⟩ := h
  refine ⟨c, T, fr, h1, fun j hj => ?_⟩
  rw [List.getElem_take]
  exact h2 j (by simp at hj; omega)
theorem sl_sub {α : Type} {e : Enc α} {xs ys : List α} {lo hi : Int} {S : Nat → Prop} {w : World} {a : Option Addr} {cap : Nat} (hs : sub xs lo hi = some ys) (hl : xs.length ≤ cap ∧ xs.length ≤ 9223372036854775807)
    (h : xs = [] ∨ ∃ b off ds, a = some ⟨b, off, none⟩ ∧ b < w.heap.size ∧ ¬ S b ∧ MemAt w b off ds ∧ e.okL xs S w ds) :
    (Enc.sl e).val ys S w (.slice (if cap = lo.toNat then a else a.map (·.add (lo.toNat * e.n))) (hi.toNat - lo.toNat) (cap - lo.toNat)) := by
  obtain ⟨h0, h1, h2, rfl⟩ := sub_some hs
  have hyl : ((xs.take hi.toNat).drop lo.toNat).length = hi.toNat - lo.toNat := by rw [List.length_drop, List.length_take]; omega
  refine val_sl.2 ⟨_, _, by rw [hyl], ⟨by rw [hyl]; omega, by rw [hyl]; omega⟩, ?_⟩
  rcases h with h | ⟨b, off, ds, rfl, h3, h4, h5, h6⟩
  · subst h; left; simp
  · by_cases hn : hi.toNat - lo.toNat = 0
    · left; exact List.eq_nil_of_length_eq_zero (by rw [hyl]; exact hn)
    · right
      have hc : ¬ cap = lo.toNat := by omega
      refine ⟨b, off + lo.toNat * e.n, _, by rw [if_neg hc]; simp [Addr.add_lit], h3, h4, (h5.take (hi.toNat * e.n)).drop (lo.toNat * e.n), okL_drop _ (okL_take _ h6)⟩
theorem bounds_hi {P : Program} {w : World} {len cap : Nat} {k k' : IntKind} {lo hi : Int} (h0 : 0 ≤ lo) (h1 : lo ≤ hi) (h2 : hi ≤ cap) : (Instr.sliceBounds true len cap (some (.int k lo)) (some (.int k' hi)) none).run P w = .ok (lo.toNat, hi.toNat, cap) w := by
  have h3 : 0 ≤ hi := by omega
  have h4 : lo ≤ (hi.toNat : Int) := by omega
  simp only [Instr.sliceBounds, Instr.sliceBound, asIntOf, Sem.run_bind, Sem.run_pure, Result.andThen_ok, h2, h3, h4, h0, and_self, if_true]
theorem bounds_h {P : Program} {w : World} {len cap : Nat} {k' : IntKind} {hi : Int} (h1 : 0 ≤ hi) (h2 : hi ≤ cap) : (Instr.sliceBounds true len cap none (some (.int k' hi)) none).run P w = .ok (0, hi.toNat, cap) w := by
  simp [Instr.sliceBounds, Instr.sliceBound, asIntOf, h1, h2]
theorem bounds_l {P : Program} {w : World} {len cap : Nat} {k : IntKind} {lo : Int} (h0 : 0 ≤ lo) (h1 : lo ≤ len) : (Instr.sliceBounds true len cap (some (.int k lo)) none none).run P w = .ok (lo.toNat, len, cap) w := by
  simp [Instr.sliceBounds, Instr.sliceBound, asIntOf, h0, h1]
theorem K_sl {α : Type} {e : Enc α} {xs : List α} {xs' : Array Operand} {ρ : Nat → Value} {S a w} (K : Know σ xs' ρ S a w) (hm : x ∈ xs') (hx : evS σ.g x = some (.v (Enc.sl e) xs)) :
    ∃ ad cap, a.eval x = .slice ad xs.length cap ∧ (xs.length ≤ cap ∧ xs.length ≤ 9223372036854775807) ∧ (xs = [] ∨ ∃ b off ds, ad = some ⟨b, off, none⟩ ∧ b < w.heap.size ∧ ¬ S b ∧ MemAt w b off ds ∧ e.okL xs S w ds) := by
  have h := K.slot x hm _ hx
  simp only [Slot.ok] at h
  exact val_sl.1 h
theorem JO.slLoHi {α : Type} {e : Enc α} {xs ys : List α} {lo hi : Int} {k k' : IntKind} {U E : TypeId} (hs : sub xs lo hi = some ys) (hx : evS σ.g x = some (.v (Enc.sl e) xs)) (hy : evS σ.g y = some (.v (Enc.int k) lo)) (hz : evS σ.g z = some (.v (Enc.int k') hi))
    (hU : ∀ w, (underlying U).run F.P w = .ok (.slice E) w) (hE : ∀ w, (sizeOf E).run F.P w = .ok e.n w) : JO F ⟨d, .slice U x (some y) (some z) none, ty, p, af, gd⟩ σ (.v (Enc.sl e) ys) [] := by
  intro ρ S a w K
  obtain ⟨ad, cap, h1, h2, h3⟩ := K_sl K (x := x) (by simp [Op.operands]) hx
  have h4 := (K_int K (x := y) (by simp [Op.operands]) hy).1
  have h5 := (K_int K (x := z) (by simp [Op.operands]) hz).1
  obtain ⟨s0, s1, s2, _⟩ := sub_some hs
  refine OpWp.value (w' := w) ?_ (Res.same (by simp only [Slot.ok]; exact sl_sub hs h2 h3))
  simp [execOp, Instr.sliceAt, Instr.slice, h1, h4, h5, hU, hE, bounds_hi s0 s1 (show hi ≤ (cap : Int) by omega)]
theorem JO.slHi {α : Type} {e : Enc α} {xs ys : List α} {hi : Int} {k' : IntKind} {U E : TypeId} (hs : sub xs 0 hi = some ys) (hx : evS σ.g x = some (.v (Enc.sl e) xs)) (hz : evS σ.g z = some (.v (Enc.int k') hi))
    (hU : ∀ w, (underlying U).run F.P w = .ok (.slice E) w) (hE : ∀ w, (sizeOf E).run F.P w = .ok e.n w) : JO F ⟨d, .slice U x none (some z) none, ty, p, af, gd⟩ σ (.v (Enc.sl e) ys) [] := by
  intro ρ S a w K
  obtain ⟨ad, cap, h1, h2, h3⟩ := K_sl K (x := x) (by simp [Op.operands]) hx
  have h5 := (K_int K (x := z) (by simp [Op.operands]) hz).1
  obtain ⟨s0, s1, s2, _⟩ := sub_some hs
  refine OpWp.value (w' := w) ?_ (Res.same (by simp only [Slot.ok]; exact sl_sub hs h2 h3))
  simp [execOp, Instr.sliceAt, Instr.slice, h1, h5, hU, hE, bounds_h s1 (show hi ≤ (cap : Int) by omega)]
theorem JO.slLo {α : Type} {e : Enc α} {xs ys : List α} {lo : Int} {k : IntKind} {U E : TypeId} (hs : sub xs lo (xs.length : Int) = some ys) (hx : evS σ.g x = some (.v (Enc.sl e) xs)) (hy : evS σ.g y = some (.v (Enc.int k) lo))
    (hU : ∀ w, (underlying U).run F.P w = .ok (.slice E) w) (hE : ∀ w, (sizeOf E).run F.P w = .ok e.n w) : JO F ⟨d, .slice U x (some y) none none, ty, p, af, gd⟩ σ (.v (Enc.sl e) ys) [] := by
  intro ρ S a w K
  obtain ⟨ad, cap, h1, h2, h3⟩ := K_sl K (x := x) (by simp [Op.operands]) hx
  have h4 := (K_int K (x := y) (by simp [Op.operands]) hy).1
  obtain ⟨s0, s1, s2, _⟩ := sub_some hs
  refine OpWp.value (w' := w) ?_ (Res.same (by simp only [Slot.ok]; exact sl_sub hs h2 h3))
  simp [execOp, Instr.sliceAt, Instr.slice, h1, h4, hU, hE, bounds_l s0 s1]
/-- a full slice of a slice: 'x[lo:hi:m]', where the greatest is no further than the end -/
theorem JO.sl3 {α : Type} {e : Enc α} {xs ys : List α} {lo hi m : Int} {k k' k2 : IntKind} {q : Operand} {U E : TypeId} (hs : sub xs lo hi = some ys) (hm : hi ≤ m ∧ m ≤ xs.length) (hx : evS σ.g x = some (.v (Enc.sl e) xs)) (hy : evS σ.g y = some (.v (Enc.int k) lo)) (hz : evS σ.g z = some (.v (Enc.int k') hi)) (hq : evS σ.g q = some (.v (Enc.int k2) m))
    (hU : ∀ w, (underlying U).run F.P w = .ok (.slice E) w) (hE : ∀ w, (sizeOf E).run F.P w = .ok e.n w) : JO F ⟨d, .slice U x (some y) (some z) (some q), ty, p, af, gd⟩ σ (.v (Enc.sl e) ys) [] := by
  intro ρ S a w K
  obtain ⟨ad, cap, h1, h2, h3⟩ := K_sl K (x := x) (by simp [Op.operands]) hx
  have h4 := (K_int K (x := y) (by simp [Op.operands]) hy).1
  have h5 := (K_int K (x := z) (by simp [Op.operands]) hz).1
  have h6 := (K_int K (x := q) (by simp [Op.operands]) hq).1
  obtain ⟨s0, s1, s2, rfl⟩ := sub_some hs
  have hyl : ((xs.take hi.toNat).drop lo.toNat).length = hi.toNat - lo.toNat := by rw [List.length_drop, List.length_take]; omega
  have hval : (Enc.sl e).val ((xs.take hi.toNat).drop lo.toNat) S w (.slice (if m.toNat = lo.toNat then ad else ad.map (·.add (lo.toNat * e.n))) (hi.toNat - lo.toNat) (m.toNat - lo.toNat)) := by
    refine val_sl.2 ⟨_, _, by rw [hyl], ⟨by rw [hyl]; omega, by rw [hyl]; omega⟩, ?_⟩
    rcases h3 with h | ⟨b, off, ds, rfl, h3, h4, h5, h6⟩
    · subst h; left; simp
    · by_cases hn : hi.toNat - lo.toNat = 0
      · left; exact List.eq_nil_of_length_eq_zero (by rw [hyl]; exact hn)
      · right
        have hc : ¬ m.toNat = lo.toNat := by omega
        refine ⟨b, off + lo.toNat * e.n, _, by rw [if_neg hc]; simp [Addr.add_lit], h3, h4, (h5.take (hi.toNat * e.n)).drop (lo.toNat * e.n), okL_drop _ (okL_take _ h6)⟩
  refine OpWp.value (w' := w) ?_ (Res.same (by simp only [Slot.ok]; exact hval))
  have hb : (Instr.sliceBounds true xs.length cap (some (.int k lo)) (some (.int k' hi)) (some (.int k2 m))).run F.P w = .ok (lo.toNat, hi.toNat, m.toNat) w := by
    have q1 : 0 ≤ m := by omega
    have q2 : m ≤ (cap : Int) := by omega
    have q3 : 0 ≤ hi := by omega
    have q4 : hi ≤ (m.toNat : Int) := by omega
    have q5 : lo ≤ (hi.toNat : Int) := by omega
    simp only [Instr.sliceBounds, Instr.sliceBound, asIntOf, Sem.run_bind, Sem.run_pure, Result.andThen_ok, s0, q1, q2, q3, q4, q5, and_self, if_true]
  simp [execOp, Instr.sliceAt, Instr.slice, h1, h4, h5, h6, hU, hE, hb]

def sub3 {α : Type} (xs : List α) (lo hi m : Int) : Option (List α) := if hi ≤ m ∧ m ≤ xs.length then sub xs lo hi else none
theorem sub3_some {α : Type} {xs ys : List α} {lo hi m : Int} (h : sub3 xs lo hi m = some ys) : sub xs lo hi = some ys ∧ hi ≤ m ∧ m ≤ xs.length := by
  unfold sub3 at h; split at h
  · rename_i hc; exact ⟨h, hc⟩
  · cases h
/-! ### an array's pointer -/
def arrOf {α : Type} (n : Nat) (xs : List α) : Option (List α) := if n ≤ xs.length ∧ 0 < n then some (xs.take n) else none
theorem JO.arrPtr {α : Type} {e : Enc α} {xs ys : List α} {n : Nat} {U E : TypeId} (hs : arrOf n xs = some ys) (hx : evS σ.g x = some (.v (Enc.sl e) xs)) (hU : ∀ w, (underlying U).run F.P w = .ok (.array n E) w) :
    JO F ⟨d, .sliceToArrayPointer U x, ty, p, af, gd⟩ σ (.pst (Enc.arr n e) ys) [] := by
  intro ρ S a w K
  obtain ⟨ad, cap, h1, h2, h3⟩ := K_sl K (x := x) (by simp [Op.operands]) hx
  unfold arrOf at hs
  split at hs
  · rename_i hn
    cases hs
    rcases h3 with h | ⟨b, off, ds, rfl, h3, h4, h5, h6⟩
    · subst h; simp at hn; omega
    · have hnl : ¬ xs.length < n := by omega
      refine OpWp.value (w' := w) (v := .pointer (some ⟨b, off, none⟩)) ?_ (Res.same (by simp only [Slot.ok]; exact ⟨b, off, _, rfl, h3, h4, h5.take (n * e.n), by rw [List.length_take]; omega, okL_take _ h6⟩))
      simp [execOp, Instr.arrayAt, h1, hU, hnl]
  · cases hs

/-! ### greatest, least -/
theorem JO.gmax {k : IntKind} {m n : Int} {U U' : TypeId} (hx : evS σ.g x = some (.v (Enc.int k) m)) (hy : evS σ.g y = some (.v (Enc.int k) n)) :
    JO F ⟨d, .call ⟨.builtin .max, #[x, y], #[U, U']⟩, ty, p, af, gd⟩ σ (.v (Enc.int k) (max m n)) [] := by
  intro ρ S a w K
  obtain ⟨h1, k1⟩ := K_int K (x := x) (by simp [Op.operands, Call.operands]) hx
  obtain ⟨h2, k2⟩ := K_int K (x := y) (by simp [Op.operands, Call.operands]) hy
  have e : (if n > m then n else m) = max m n := by split <;> omega
  refine OpWp.value (w' := w) (v := .int k (max m n)) ?_ (Res.same (int_ok (by unfold inK at *; omega) ρ S w))
  simp [execOp, resolve, invoke, builtin, h1, h2, Builtin.max_, Builtin.max2, e]
theorem JO.gmin {k : IntKind} {m n : Int} {U U' : TypeId} (hx : evS σ.g x = some (.v (Enc.int k) m)) (hy : evS σ.g y = some (.v (Enc.int k) n)) :
    JO F ⟨d, .call ⟨.builtin .min, #[x, y], #[U, U']⟩, ty, p, af, gd⟩ σ (.v (Enc.int k) (min m n)) [] := by
  intro ρ S a w K
  obtain ⟨h1, k1⟩ := K_int K (x := x) (by simp [Op.operands, Call.operands]) hx
  obtain ⟨h2, k2⟩ := K_int K (x := y) (by simp [Op.operands, Call.operands]) hy
  have e : (if n < m then n else m) = min m n := by split <;> omega
  refine OpWp.value (w' := w) (v := .int k (min m n)) ?_ (Res.same (int_ok (by unfold inK at *; omega) ρ S w))
  simp [execOp, resolve, invoke, builtin, h1, h2, Builtin.min_, Builtin.min2, e]

/-! ### what has no slot of its own is stored -/
theorem JM.storeA {T U : TypeId} {l : List Slot} {i off n : Nat} {s0 : Slot} (hx : evS σ.g x = some (.ptr i off)) (he : lkE σ.d i = some (.box T l)) (ho : offAt l off = some s0) (hy : Arg σ false y s) (hp : s.plain = true) (hsz : s.sz = n) (hsz0 : s0.sz = n)
    (hS : ∀ w, (sizeOf U).run F.P w = .ok n w) : JM F ⟨none, .store U x y, ty, p, af, gd⟩ σ ⟨σ.g, (i, .box T (setOff l off s)) :: σ.d⟩ := by
  refine JM.of_upd he rfl fun ρ a w hc hs => ?_
  have K := Know.of_st hc hs (Op.store U x y).operands
  obtain ⟨b, cs, h1, h2, h3, h4⟩ := K_ptr K (x := x) (by simp [Op.operands]) hx he
  have hv := ok_cells hp (hy ρ _ a w (Know.of_st hc hs #[y]))
  simp only [Bool.false_eq_true, if_false] at hv
  obtain ⟨pre, c, post, rfl, rfl, h5, h6⟩ := okl_at ho h4
  have hone : ∀ u ∈ (a.eval y).cells.toList, u.oneCell' = true := fun u hu => okc_one hv u hu (fun e => by subst e; cases hp)
  have hst := run_storeVar (P := F.P) (w := w) (U := U) hS (by have := okc_len hv; simp only [Array.length_toList] at this; omega) hone h3 rfl (by rw [okc_len h5]; exact hsz0)
  refine ⟨b, w.setRow b (pre ++ ((a.eval y).cells.toList ++ post)).toArray, by rw [h1]; rfl, Upd.setRow w b _, ?_, fun hE => ?_⟩
  · exact run_store_of h2 hst
  · refine ⟨b, _, h1, setRow_heap w b _ _ T _ h3, ?_⟩
    exact Slot.okl_mono _ _ (h6 s _ hv) hE (fun _ _ => rfl)
/-- a nil slice that is ours -/
theorem JO.moveNilR {α : Type} (i : Nat) (T : TypeId) (e : Enc α) : JO F ⟨d, .move (.const (.slice none 0 0)), ty, p, af, gd⟩ σ (.ref i) [(i, .arr T e [])] :=
  fun ρ _ _ w _ => OpWp.value (w' := w) (by simp [execOp, Act.eval]) (nilarr_res T e i ρ)

/-! ### functions as values -/
theorem fnc_ok (g : Nat) (ρ : Nat → Value) (S : Nat → Prop) (w : World) : (Slot.fnc g []).ok ρ S w (.func (.func g) #[] #[]) := by
  simp only [Slot.ok]; exact ⟨[], rfl, rfl⟩
theorem Arg.fn {g : Nat} {lend : Bool} : Arg σ lend (.func g) (.fnc g []) := fun ρ _ a w _ => fnc_ok g ρ _ w
end
end Go.Sw

namespace Go.Sw
open Go Go.RowKit
section
variable {F : Frm} {σ : AS} {s : Slot} {d : Option Tmp} {ty : TypeId} {p : String} {af : Array Edge} {gd : Option (Nat × Bool)} {x y z : Operand}

theorem okv_append {ρ S w} : ∀ {l l' : List Slot} {vs vs' : List Value}, Slot.okv ρ S w l vs → Slot.okv ρ S w l' vs' → Slot.okv ρ S w (l ++ l') (vs ++ vs')
  | [], _, vs, _, h, h' => by simp only [Slot.okv] at h; subst h; exact h'
  | s :: l, _, vs, _, h, h' => by
    simp only [Slot.okv] at h
    obtain ⟨u, ws, rfl, h1, h2⟩ := h
    simp only [List.cons_append, Slot.okv]
    exact ⟨u, _, rfl, h1, okv_append h2 h'⟩

theorem run_callF {P : Program} {f : FuncId} {xs : List Operand} {ts : Array TypeId} {a : Act} {w : World} {cs : List Value} (hx : a.eval x = .func (.func f) #[] cs.toArray) (hcall : ∀ args w, (callFunc f args).run P w = .ok (.enter f args) w) :
    (execOp a.eval ⟨d, .call ⟨.value x, xs.toArray, ts⟩, ty, p, af, gd⟩).run P w = .ok (.enter f (xs.map a.eval ++ cs).toArray) w := by
  simp [execOp, resolve, hx, Deferred.ofValue, invoke, hcall]
/-- a function that is a value is called -/
theorem JO.callF {f : FuncId} {xs : List Operand} {ts : Array TypeId} {ss cap : List Slot} {res : Slot} {new : List (Nat × Ent)} (k : Nat) (hx : evS σ.g x = some (.fnc f cap)) (hc : Con F.P f (ss ++ cap) res new) (hcall : ∀ args w, (callFunc f args).run F.P w = .ok (.enter f args) w)
    (ha : Args σ false xs ss) (hcl : closed res new = true) :
    JO F ⟨d, .call ⟨.value x, xs.toArray, ts⟩, ty, p, af, gd⟩ σ (res.map (· + k)) (mapE (· + k) new) := by
  intro ρ S a w K
  have h0 := K.slot x (by simp [Op.operands, Call.operands]) _ hx
  simp only [Slot.ok] at h0
  obtain ⟨cs, h1, h2⟩ := h0
  refine OpWp.enter (run_callF h1 hcall) ?_
  have := ha.spec (ys := (Op.call ⟨.value x, xs.toArray, ts⟩).operands) (by intro x hx; simp [Op.operands, Call.operands, hx]) K
  refine (hc S w _ ρ K.low (okv_append this h2)).mono ?_
  rintro e w' ⟨v, rfl, h⟩
  exact ⟨v, rfl, h.shift k hcl⟩
theorem JO.makeFunc {f : FuncId} {xs : List Operand} {cap : List Slot} (ha : Args σ false xs cap) : JO F ⟨d, .makeFunc (.func f) #[] xs.toArray, ty, p, af, gd⟩ σ (.fnc f cap) [] := by
  intro ρ S a w K
  have := ha.spec (ys := (Op.makeFunc (.func f) #[] xs.toArray).operands) (by intro x hx; simp [Op.operands, hx]) K
  simp only [Bool.false_eq_true, if_false] at this
  refine OpWp.value (w' := w) (v := .func (.func f) #[] (xs.map a.eval).toArray) (by simp [execOp, Instr.makeFunc]) (Res.same (by simp only [Slot.ok]; exact ⟨_, rfl, this⟩))

theorem pst_of {α : Type} {i : Nat} {T : TypeId} {e : Enc α} {v : α} {bl : List Slot} {ρ : Nat → Value} {S : Nat → Prop} {w : World} {u : Value} (h0 : (Slot.ptr i 0).ok ρ S w u) (he : (Ent.box T bl).ok ρ S w (ρ i)) (hs : Spl bl e v) :
    (Slot.pst e v).ok ρ (fun _ => False) w u := by
  simp only [Slot.ok] at h0 ⊢
  obtain ⟨⟨b, h1⟩, h2⟩ := h0
  obtain ⟨b', cs, h3, h4, h5⟩ := he
  obtain rfl : b' = b := by rw [h1] at h3; simpa using h3.symm
  exact ⟨b', 0, cs, by rw [h2, h1]; rfl, (MemAt.of_heap h4).lt, fun h => h, MemAt.of_heap h4, e.mono ((hs _ _ _ _).1 h5) (lend_ext S w true)⟩
/-- what a function took with it, lent -/
inductive CapL (σ : AS) : List Slot → List Slot → Prop
  | nil : CapL σ [] []
  | same {s : Slot} {l l' : List Slot} : CapL σ l l' → CapL σ (s :: l) (s :: l')
  | ptr {α : Type} {i : Nat} {T : TypeId} {e : Enc α} {v : α} {bl l l' : List Slot} : lkE σ.d i = some (.box T bl) → Spl bl e v → CapL σ l l' → CapL σ (.ptr i 0 :: l) (.pst e v :: l')
theorem CapL.spec {l l' : List Slot} (h : CapL σ l l') {ρ S w} (hent : ∀ i ∈ Slot.labs l, ∀ en, lkE σ.d i = some en → en.ok ρ S w (ρ i)) : ∀ vs, Slot.okv ρ S w l vs → Slot.okv ρ (fun _ => False) w l' vs := by
  induction h with
  | nil => intro vs h; exact h
  | same _ ih =>
    intro vs h
    simp only [Slot.okv] at h ⊢
    obtain ⟨u, ws, h1, h2, h3⟩ := h
    exact ⟨u, ws, h1, Slot.ok_mono _ u h2 (lend_ext S w true) (fun _ _ => rfl), ih (fun i hi => hent i (by simp [Slot.labs, hi])) ws h3⟩
  | ptr he hs _ ih =>
    intro vs h
    simp only [Slot.okv] at h ⊢
    obtain ⟨u, ws, h1, h2, h3⟩ := h
    exact ⟨u, ws, h1, pst_of h2 (hent _ (by simp [Slot.labs, Slot.lab]) _ he) hs, ih (fun i hi => hent i (by simp [Slot.labs, hi])) ws h3⟩
theorem Arg.lendP {α : Type} {i : Nat} {T : TypeId} {e : Enc α} {v : α} {bl : List Slot} (h : evS σ.g x = some (.ptr i 0)) (he : lkE σ.d i = some (.box T bl)) (hs : Spl bl e v) : Arg σ true x (.pst e v) := by
  intro ρ S a w K
  have h0 := K.slot x (by simp) _ h
  exact pst_of h0 (K.ent x (by simp) _ h i (by simp [Slot.lab]) _ he).1 hs
theorem Arg.lendF {g : Nat} {cap cap' : List Slot} (h : evS σ.g x = some (.fnc g cap)) (hc : CapL σ cap cap') : Arg σ true x (.fnc g cap') := by
  intro ρ S a w K
  have h0 := K.slot x (by simp) _ h
  simp only [Slot.ok] at h0
  obtain ⟨vs, h1, h2⟩ := h0
  simp only [Slot.ok, if_true]
  exact ⟨vs, h1, hc.spec (fun i hi en he => (K.ent x (by simp) _ h i (by simpa [Slot.lab] using hi) en he).1) vs h2⟩
theorem JO.nilPst {α : Type} {e : Enc α} {v : α} (hx : evS σ.g x = some (.pst e v)) : JO F ⟨d, .nilCheck x, ty, p, af, gd⟩ σ (.pst e v) [] := by
  intro ρ S a w K
  have h := K.slot x (by simp [Op.operands]) _ hx
  have h' := h
  simp only [Slot.ok] at h'
  obtain ⟨b, off, ds, h1, _⟩ := h'
  refine OpWp.value (w' := w) (v := a.eval x) ?_ (Res.same h)
  simp [execOp, h1]
theorem JO.nilPtr {i off : Nat} (hx : evS σ.g x = some (.ptr i off)) : JO F ⟨d, .nilCheck x, ty, p, af, gd⟩ σ (.ptr i off) [] := by
  intro ρ S a w K
  have h := K.slot x (by simp [Op.operands]) _ hx
  have h' := h
  simp only [Slot.ok] at h'
  obtain ⟨⟨b, h1⟩, h2⟩ := h'
  refine OpWp.value (w' := w) (v := a.eval x) ?_ (Res.same h)
  simp [execOp, h2, h1, ptrAdd]
end
end Go.Sw

namespace Go.Sw
open Go Go.RowKit

theorem Spl.prm {α β : Type} {l l' : List Slot} {a : Enc α} {b : Enc β} {x : α} {y : β} (h : Spl l a x) (h' : Spl l' b y) : Spl (l ++ l') (Enc.pr a b) (x, y) := Spl.pr (x := (x, y)) h h'

theorem XQ.ret3 {F : Frm} {σ : AS} {fn : Func} {rv rv' rv2 : ResultVar} {s s' s2 : Slot} {new : List (Nat × Ent)} (hR : ∀ k, ¬ F.R k) (hrs : fn.results = #[rv, rv', rv2]) (h : RV F σ rv s) (h' : RV F σ rv' s') (h2 : RV F σ rv2 s2) (hn : SubE new σ.d) (hcl : closed (.tup [s, s', s2]) new = true) :
    XQ F σ (RetQ F fn (.tup [s, s', s2]) new) .ret := by
  intro a w hs
  obtain ⟨⟨ρ, hc, hsl⟩, hz, hd⟩ := hs
  obtain ⟨v, h1, h2q⟩ := h ρ a w hc hsl
  obtain ⟨v', h1', h2'⟩ := h' ρ a w hc hsl
  obtain ⟨v2, k1, k2⟩ := h2 ρ a w hc hsl
  refine ⟨hd, .tuple #[v, v', v2], ?_, _, rfl, Res.of_core hR hc ?_ hn hcl⟩
  · rw [results_eq, hrs]
    simp only [List.mapM_toArray, List.mapM_cons, List.mapM_nil, Sem.run_bind, Sem.run_map, h1, h1', k1, Result.andThen_ok, Sem.run_pure]
    simp
  · simp only [Slot.ok]
    exact ⟨[v, v', v2], rfl, by simp only [Slot.okv]; exact ⟨v, _, rfl, h2q, v', _, rfl, h2', v2, _, rfl, k2, rfl⟩⟩

section
variable {F : Frm} {σ : AS} {s : Slot} {d : Option Tmp} {ty : TypeId} {p : String} {af : Array Edge} {gd : Option (Nat × Bool)} {x y z : Operand}
theorem JO.call0 {f : FuncId} {xs : List Operand} {ts : Array TypeId} {ss : List Slot} {res : Slot} (hc : Con F.P f ss res []) (hcall : ∀ args w, (callFunc f args).run F.P w = .ok (.enter f args) w)
    (ha : Args σ false xs ss) : JO F ⟨d, .call ⟨.value (.func f), xs.toArray, ts⟩, ty, p, af, gd⟩ σ res [] := by
  intro ρ S a w K
  refine OpWp.enter (run_call hcall) ?_
  have := ha.spec (ys := (Op.call ⟨.value (.func f), xs.toArray, ts⟩).operands) (by intro x hx; simp [Op.operands, Call.operands, hx]) K
  refine (hc S w _ ρ K.low this).mono ?_
  rintro e w' ⟨v, rfl, h⟩
  exact ⟨v, rfl, h⟩
theorem JO.callF0 {f : FuncId} {xs : List Operand} {ts : Array TypeId} {ss cap : List Slot} {res : Slot} (hx : evS σ.g x = some (.fnc f cap)) (hc : Con F.P f (ss ++ cap) res []) (hcall : ∀ args w, (callFunc f args).run F.P w = .ok (.enter f args) w)
    (ha : Args σ false xs ss) : JO F ⟨d, .call ⟨.value x, xs.toArray, ts⟩, ty, p, af, gd⟩ σ res [] := by
  intro ρ S a w K
  have h0 := K.slot x (by simp [Op.operands, Call.operands]) _ hx
  simp only [Slot.ok] at h0
  obtain ⟨cs, h1, h2⟩ := h0
  refine OpWp.enter (run_callF h1 hcall) ?_
  have := ha.spec (ys := (Op.call ⟨.value x, xs.toArray, ts⟩).operands) (by intro x hx; simp [Op.operands, Call.operands, hx]) K
  refine (hc S w _ ρ K.low (okv_append this h2)).mono ?_
  rintro e w' ⟨v, rfl, h⟩
  exact ⟨v, rfl, h⟩
/-- a call that is lent what is ours, and makes nothing of ours -/
theorem JO.callL0 {f : FuncId} {xs : List Operand} {ts : Array TypeId} {ss : List Slot} {res : Slot} (hc : Con F.P f ss res []) (hcall : ∀ args w, (callFunc f args).run F.P w = .ok (.enter f args) w)
    (ha : Args σ true xs ss) (hf : FlatS res) : JO F ⟨d, .call ⟨.value (.func f), xs.toArray, ts⟩, ty, p, af, gd⟩ σ res [] := by
  intro ρ S a w K
  refine OpWp.enter (run_call hcall) ?_
  have := ha.spec (ys := (Op.call ⟨.value (.func f), xs.toArray, ts⟩).operands) (by intro x hx; simp [Op.operands, Call.operands, hx]) K
  refine (hc (fun _ => False) w _ ρ (fun _ h => h.elim) this).mono ?_
  rintro e w' ⟨v, rfl, ρ', h1, h2, h3, h4⟩
  refine ⟨v, rfl, ρ', h1, h2, hf _ _ _ _ _ h3, ⟨fun i en h => by simp [lkE] at h, fun i en b h => by simp [lkE] at h, fun i j en en' b h => by simp [lkE] at h⟩⟩

/-! ### slices of arrays in boxes -/
theorem bounds_arr {P : Program} {w : World} {n : Nat} : (Instr.sliceBounds false n n none none none).run P w = .ok (0, n, n) w := by simp [Instr.sliceBounds]
theorem bounds_arrh {P : Program} {w : World} {n : Nat} {k : IntKind} {hi : Int} (h0 : 0 ≤ hi) (h1 : hi ≤ n) : (Instr.sliceBounds false n n none (some (.int k hi)) none).run P w = .ok (0, hi.toNat, n) w := by
  simp [Instr.sliceBounds, Instr.sliceBound, asIntOf, h0, h1]
theorem run_slArr {P : Program} {w : World} {U E : TypeId} {b off len m : Nat} (hU : ∀ w, (underlying U).run P w = .ok (.array len E) w) (hE : ∀ w, (sizeOf E).run P w = .ok m w) : (Instr.sliceAt U (.pointer (some ⟨b, off, none⟩)) none none none).run P w = .ok (.slice (some ⟨b, off, none⟩) len len) w := by
  have h0 : Addr.add ⟨b, off, none⟩ 0 = ⟨b, off, none⟩ := by rw [Addr.add_lit]; rfl
  by_cases hl : len = 0
  · subst hl; simp [Instr.sliceAt, hU, hE, Instr.sureAddr, bounds_arr]
  · simp [Instr.sliceAt, hU, hE, Instr.sureAddr, bounds_arr, hl, h0]
theorem run_slArrH {P : Program} {w : World} {U E : TypeId} {b off len m : Nat} {k : IntKind} {hi : Int} (h0 : 0 ≤ hi) (h1 : hi ≤ len) (hU : ∀ w, (underlying U).run P w = .ok (.array len E) w) (hE : ∀ w, (sizeOf E).run P w = .ok m w) : (Instr.sliceAt U (.pointer (some ⟨b, off, none⟩)) none (some (.int k hi)) none).run P w = .ok (.slice (some ⟨b, off, none⟩) hi.toNat len) w := by
  have hz : Addr.add ⟨b, off, none⟩ 0 = ⟨b, off, none⟩ := by rw [Addr.add_lit]; rfl
  by_cases hl : len = 0
  · subst hl; simp [Instr.sliceAt, hU, hE, Instr.sureAddr, bounds_arrh h0 h1]
  · simp [Instr.sliceAt, hU, hE, Instr.sureAddr, bounds_arrh h0 h1, hl, hz]
theorem JO.aslAll {α : Type} {e : Enc α} {zs : List α} {T U E : TypeId} {l : List Slot} {i off len : Nat} (hx : evS σ.g x = some (.ptr i off)) (he : lkE σ.d i = some (.box T l)) (_ho : offAt l off = some (.v (Enc.arr len e) zs))
    (hU : ∀ w, (underlying U).run F.P w = .ok (.array len E) w) (hE : ∀ w, (sizeOf E).run F.P w = .ok e.n w) :
    JO F ⟨d, .slice U x none none none, ty, p, af, gd⟩ σ (.asl i off 0 len len) [] := by
  intro ρ S a w K
  obtain ⟨b, cs, h1, h2, h3, h4⟩ := K_ptr K (x := x) (by simp [Op.operands]) hx he
  refine OpWp.value (w' := w) (v := .slice (some ⟨b, off, none⟩) len len) ?_ (Res.same (by simp only [Slot.ok]; exact ⟨⟨b, h1⟩, by rw [h1]; rfl⟩))
  simp [execOp, h2, run_slArr hU hE]
theorem K_asl {xs : Array Operand} {ρ : Nat → Value} {S a w} (K : Know σ xs ρ S a w) (hm : x ∈ xs) {i off n cap : Nat} {T : TypeId} {l : List Slot} (hx : evS σ.g x = some (.asl i off 0 n cap)) (he : lkE σ.d i = some (.box T l)) :
    ∃ b cs, a.eval x = .slice (some ⟨b, off, none⟩) n cap ∧ w.heap[b]? = some (.cells cs.toArray T (0, 0)) ∧ Slot.okl ρ S w l cs := by
  have h := K.slot x hm _ hx
  simp only [Slot.ok] at h
  obtain ⟨⟨b, h1⟩, h2⟩ := h
  have := (K.ent x hm _ hx i (by simp [Slot.lab]) _ he).1
  obtain ⟨b', cs, h3, h4, h5⟩ := this
  obtain rfl : b' = b := by rw [h1] at h3; simpa using h3.symm
  exact ⟨b', cs, by rw [h2, h1]; rfl, h4, h5⟩
theorem asl_mem {α : Type} {e : Enc α} {zs : List α} {T : TypeId} {l : List Slot} {b off len : Nat} {cs : List Value} {ρ : Nat → Value} {S : Nat → Prop} {w : World} (h3 : w.heap[b]? = some (.cells cs.toArray T (0, 0))) (h4 : Slot.okl ρ S w l cs) (ho : offAt l off = some (.v (Enc.arr len e) zs)) :
    zs.length = len ∧ ∃ ds, MemAt w b off ds ∧ e.okL zs S w ds := by
  obtain ⟨pre, c, post, rfl, rfl, h5, _⟩ := okl_at ho h4
  simp only [Slot.okc] at h5
  exact ⟨h5.1, c, by have := (MemAt.of_heap h3).sub; simpa using this, h5.2⟩
theorem Arg.asl {α : Type} {e : Enc α} {zs : List α} {T : TypeId} {l : List Slot} {i off len : Nat} (h : evS σ.g x = some (.asl i off 0 len len)) (he : lkE σ.d i = some (.box T l)) (ho : offAt l off = some (.v (Enc.arr len e) zs)) (hlen : Nat.ble len 4294967296 = true) : Arg σ true x (.v (Enc.sl e) zs) := by
  intro ρ S a w K
  have hlen := Nat.le_of_ble_eq_true hlen
  obtain ⟨b, cs, h1, h2, h3⟩ := K_asl K (x := x) (by simp) h he
  obtain ⟨h4, ds, h5, h6⟩ := asl_mem h2 h3 ho
  simp only [Slot.ok, if_true]
  rw [h1]
  exact val_sl.2 ⟨_, _, by rw [h4], ⟨by omega, by omega⟩, .inr ⟨b, off, ds, rfl, (MemAt.of_heap h2).lt, fun h => h, h5, Enc.okL_mono h6 (lend_ext S w true)⟩⟩
theorem Src.asl {α : Type} {e : Enc α} {zs : List α} {T : TypeId} {l : List Slot} {i off len : Nat} (h : evS σ.g y = some (.asl i off 0 len len)) (he : lkE σ.d i = some (.box T l)) (ho : offAt l off = some (.v (Enc.arr len e) zs)) (hlen : Nat.ble len 4294967296 = true) : Src σ y e zs := by
  intro ρ S a w K
  have hlen := Nat.le_of_ble_eq_true hlen
  obtain ⟨b, cs, h1, h2, h3⟩ := K_asl K (x := y) (by simp) h he
  obtain ⟨h4, ds, h5, h6⟩ := asl_mem h2 h3 ho
  exact ⟨by omega, _, _, by rw [h1, h4], .inr ⟨b, off, ds, rfl, h5, h6⟩⟩
/-- a slice of a whole array that is read -/
theorem JO.slPst {α : Type} {e : Enc α} {zs : List α} {U E : TypeId} {len : Nat} (hx : evS σ.g x = some (.pst (Enc.arr len e) zs)) (hlen : Nat.ble len 4294967296 = true)
    (hU : ∀ w, (underlying U).run F.P w = .ok (.array len E) w) (hE : ∀ w, (sizeOf E).run F.P w = .ok e.n w) : JO F ⟨d, .slice U x none none none, ty, p, af, gd⟩ σ (.v (Enc.sl e) zs) [] := by
  intro ρ S a w K
  have hlen := Nat.le_of_ble_eq_true hlen
  have h := K.slot x (by simp [Op.operands]) _ hx
  simp only [Slot.ok] at h
  obtain ⟨b, off, ds, h1, h2, h3, h4, h5, h6⟩ := h
  refine OpWp.value (w' := w) (v := .slice (some ⟨b, off, none⟩) len len) ?_ (Res.same (by simp only [Slot.ok]; exact val_sl.2 ⟨_, _, by rw [h5], ⟨by omega, by omega⟩, .inr ⟨b, off, ds, rfl, h2, h3, h4, h6⟩⟩))
  simp [execOp, h1, run_slArr hU hE]
/-- an array literal -/
theorem JO.litArr {α : Type} {e : Enc α} {T E : TypeId} {n : Nat} {ti tE : TypeInfo} {z : Value} {ps : List (Nat × Operand)} {zs : List α} (hI : ∀ w, (typeInfo T).run F.P w = .ok ti w) (hU : ∀ w, (underlying T).run F.P w = .ok (.array n E) w) (hE : ∀ w, (typeInfo E).run F.P w = .ok tE w) (hs : tE.size = e.n) (hz : ti.zero = some z) (hzn : z.cells.size = n * e.n)
    (hl : ps.length = n) (hl' : zs.length = n) (he : Elems σ e 0 ps zs) : JO F ⟨d, .build T ps.toArray, ty, p, af, gd⟩ σ (.v (Enc.arr n e) zs) [] := by
  intro ρ S a w K
  obtain ⟨ds, h1, h2⟩ := he.spec (ys := (Op.build T ps.toArray).operands) (by intro x hx; simp [Op.operands] at hx ⊢; exact hx) K [] z.cells.toList (by simp) (by rw [hl, Array.length_toList, hzn])
  refine OpWp.value (w' := w) (v := .agg ds.toArray) ?_ (Res.same (by simp only [Slot.ok]; exact ⟨ds, ⟨hl', h2⟩, rfl⟩))
  have hb : F.P.built T (ps.map fun q => (q.1, a.eval q.2)) = some ds.toArray := by
    unfold Program.built
    rw [info_of hI, under_of hU]
    simp only [hz, info_of hE, hs]
    simpa using h1
  have := run_build (P := F.P) w T (ps.map fun q => (q.1, a.eval q.2)).toArray ds.toArray (by simpa using hb)
  simp only [execOp, List.map_toArray]
  simp [this]
end
end Go.Sw

namespace Go.Sw
open Go Go.RowKit
/-- a slice, and whether it is nil -/
def Enc.slN {α : Type} (e : Enc α) : Enc (Bool × List α) where
  n := 1
  agg := false
  ok x S w cs := (Enc.sl e).ok x.2 S w cs ∧ ∀ a l c, cs = [.slice a l c] → x.1 = a.isNone
  len h := (Enc.sl e).len h.1
  one _ := rfl
  cell h := (Enc.sl e).cell h.1
  mono h k := ⟨(Enc.sl e).mono h.1 k, h.2⟩
theorem val_slN {α : Type} {e : Enc α} {b : Bool} {xs : List α} {S w u} (h : (Enc.slN e).val (b, xs) S w u) : (Enc.sl e).val xs S w u ∧ ∃ a l c, u = .slice a l c ∧ b = a.isNone := by
  obtain ⟨cs, ⟨h1, h2⟩, rfl⟩ := h
  refine ⟨⟨cs, h1, rfl⟩, ?_⟩
  obtain ⟨a, cap, h3, _⟩ := h1
  exact ⟨a, _, cap, by rw [h3]; rfl, h2 _ _ _ h3⟩
theorem Con.nilCases {α : Type} {P : Program} {f : FuncId} {e : Enc α} {xs : List α} {res : Slot} {new : List (Nat × Ent)} (h : ∀ b, (b = true → xs = []) → Con P f [.v (Enc.slN e) (b, xs)] res new) : Con P f [.v (Enc.sl e) xs] res new := by
  intro S w vs ρ hl hv
  simp only [Slot.okv, Slot.ok] at hv
  obtain ⟨u, ws, rfl, h1, rfl⟩ := hv
  obtain ⟨a, cap, rfl, h2, h3⟩ := val_sl.1 h1
  refine h a.isNone (fun ha => ?_) S w _ ρ hl ?_
  · rcases h3 with h3 | ⟨b, off, ds, rfl, _⟩
    · exact h3
    · cases ha
  · simp only [Slot.okv, Slot.ok]
    refine ⟨_, [], rfl, ⟨[.slice a xs.length cap], ⟨⟨a, cap, rfl, h2, h3⟩, fun a' l c h => ?_⟩, rfl⟩, rfl⟩
    simp at h; rw [h.1]
section
variable {F : Frm} {σ : AS} {s : Slot} {d : Option Tmp} {ty : TypeId} {p : String} {af : Array Edge} {gd : Option (Nat × Bool)} {x y z : Operand}
theorem JO.eqNilS {α : Type} {e : Enc α} {v : Bool × List α} {T T' E : TypeId} (hx : evS σ.g x = some (.v (Enc.slN e) v)) (hT : ∀ w, (underlying T).run F.P w = .ok (.slice E) w) : JO F ⟨d, .binOp .eql T x (.const (.slice none 0 0)) T', ty, p, af, gd⟩ σ (.v Enc.bool v.1) [] := by
  intro ρ S a w K
  have h := K.slot x (by simp [Op.operands]) _ hx
  simp only [Slot.ok] at h
  obtain ⟨b, xs⟩ := v
  obtain ⟨_, ad, l, c, h1, rfl⟩ := val_slN h
  have hq := run_equalIn_slice_nil (P := F.P) w 9999 T E ad l c (under_of hT)
  refine OpWp.value (w' := w) (v := .bool ad.isNone) ?_ (Res.same (bool_ok _ ρ S w))
  exact eqop (r := ad.isNone) (.inl ⟨rfl, rfl⟩) h1 rfl (by intros; simp) (by intros; simp) (by intros; simp) (by intros; simp) (by simp [eqGuard, Act.eval]) hq
theorem Src.slN {α : Type} {e : Enc α} {v : Bool × List α} (h : evS σ.g y = some (.v (Enc.slN e) v)) : Src σ y e v.2 := by
  intro ρ S a w K
  have h1 := K.slot y (by simp) _ h
  simp only [Slot.ok] at h1
  obtain ⟨ad, cap, h2, hl, h3⟩ := val_sl.1 (val_slN h1).1
  refine ⟨hl.2, ad, cap, h2, ?_⟩
  rcases h3 with h3 | ⟨b, off, ds, h4, _, _, h5, h6⟩
  · exact .inl h3
  · exact .inr ⟨b, off, ds, h4, h5, h6⟩
end
end Go.Sw
