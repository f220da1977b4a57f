/- A library over the model, part 3: how values lie, what is ours in memory, rules for operations, calls, loops, ranges over functions. Conditions: none. -/
import Derived.Test.YteckohdbfkhmdabSwB
import Derived.Laws.Externs
set_option linter.unusedVariables false
set_option linter.unusedSimpArgs false
namespace Go.Sw
open Go Go.RowKit
/-- a piece of a row of cells: elements, or so many cells whatever -/
inductive Seg (α : Type) where
  | rows (xs : List α)
  | any (n : Nat)
def Seg.ok {α : Type} (e : Enc α) (S : Nat → Prop) (w : World) : Seg α → List Value → Prop
  | .rows xs, cs => e.okL xs S w cs
  | .any n, cs => cs.length = n
def Seg.okL {α : Type} (e : Enc α) (S : Nat → Prop) (w : World) : List (Seg α) → List Value → Prop
  | [], cs => cs = []
  | s :: r, cs => ∃ c d, cs = c ++ d ∧ s.ok e S w c ∧ Seg.okL e S w r d
section
variable {α : Type} {e : Enc α} {S S' : Nat → Prop} {w w' : World}
theorem Seg.ok_mono {s : Seg α} {cs} (h : s.ok e S w cs) (k : Ext S S' w w') : s.ok e S' w' cs := by
  cases s with
  | rows xs => exact Enc.okL_mono h k
  | any n => exact h
theorem Seg.okL_mono : ∀ {q : List (Seg α)} {cs}, Seg.okL e S w q cs → Ext S S' w w' → Seg.okL e S' w' q cs
  | [], _, h, _ => h
  | _ :: _, _, ⟨c, d, h1, h2, h3⟩, k => ⟨c, d, h1, Seg.ok_mono h2 k, Seg.okL_mono h3 k⟩
end
/-- a block of ours, piece by piece -/
def DE.seg {α : Type} (T : TypeId) (e : Enc α) (b : Nat) : DE (List (Seg α)) where
  ok q S w u _ := u.v = .pointer (some ⟨b, 0, none⟩) ∧ ∃ cs, w.heap[b]? = some (.cells cs.toArray T (0, 0)) ∧ Seg.okL e S w q cs
  mono := by
    rintro q S S' w w' u l ⟨h1, cs, h2, h3⟩ hE hb
    exact ⟨h1, cs, by rw [hb b (.inl (by rw [h1]; rfl))]; exact h2, Seg.okL_mono h3 hE⟩
section
variable {F : Frm} {σ : AS} {pb : Option Nat} {s : Slot} {d : Option Tmp} {ty : TypeId} {p : String} {af : Array Edge} {gd : Option (Nat × Bool)} {x y z : Operand} {α : Type} {e : Enc α} {T U : TypeId} {i b : Nat}
/-- a slice of ours is told piece by piece -/
theorem W.openSeg {cs : List Code} {Q : Exit → Act → World → Prop} {t : Nat} {g' : List (Nat × Slot)} {A B : List α} (hσ : σ.d = [(i, .arr T e (A ++ B))]) (hB : B ≠ []) (hx : lk σ.g t = some (.ref i)) (hg : SubS σ.g g') (hl : g'.all (fun y => y.2.lab.isEmpty) = true)
    (k : ∀ b p q c, (A ++ B).length ≤ c → c * e.n ≤ (A ++ B).length * e.n + q → (A ++ B).length ≤ 140737488355328 →
      W F cs ⟨(t, .asl i p 0 (A ++ B).length c) :: g', [(i, .dp (DE.seg T e b) [.any p, .rows A, .rows B, .any q] [])]⟩ Q) : W F cs σ Q := by
  obtain ⟨g, dd⟩ := σ
  simp only at hσ hx hg
  subst hσ
  rintro a w ⟨⟨ρ, hc, hs⟩, hz, hde⟩
  have he : lkE [(i, Ent.arr T e (A ++ B))] i = some (.arr T e (A ++ B)) := by simp [lkE]
  have h0 : arrOk T e (A ++ B) (Un F.S0 ρ [(i, .arr T e (A ++ B))]) w (ρ i).v := hc.own i _ he
  rcases h0 with ⟨h, _⟩ | ⟨b, cap, pre, cs', post, h1, h2, h3, h4, h5, h6⟩
  · simp at h; exact absurd h.2 hB
  have hcl := Enc.okL_len h3
  refine k b pre.length post.length cap h4 (by omega) h6 a w ?_
  let ρ' : Nat → LV := fun l => if l = i then .of (.pointer (some ⟨b, 0, none⟩)) else ρ l
  have ri : ρ' i = .of (.pointer (some ⟨b, 0, none⟩)) := if_pos rfl
  have hl1 : ∀ l en, lkE [(i, Ent.dp (DE.seg T e b) [.any pre.length, .rows A, .rows B, .any post.length] [])] l = some en → l = i := by
    intro l en h
    rw [lkE_cons] at h
    split at h
    · rename_i h7; exact h7.symm
    · cases h
  have hl0 : ∀ l en, lkE [(i, Ent.arr T e (A ++ B))] l = some en → l = i := by
    intro l en h
    rw [lkE_cons] at h
    split at h
    · rename_i h7; exact h7.symm
    · cases h
  have hhas : ∀ k, Has (ρ' i) k → Has (ρ i) k := by
    intro k hk
    rw [ri] at hk
    have := Has_of.1 hk
    left; rw [h1]; exact this
  obtain ⟨q1, q2⟩ := hc.regroup (d' := [(i, .dp (DE.seg T e b) [.any pre.length, .rows A, .rows B, .any post.length] [])]) (ρ' := ρ') (fun l en bb h hk => by
      have hli := hl1 l en h
      rw [hli] at hk
      exact ⟨i, _, he, hhas bb hk⟩) (fun l l' en en' k h h' _ _ => by rw [hl1 l en h, hl1 l' en' h']) (fun hE l en h => by
      obtain rfl := hl1 l en h
      simp only [lkE, Nat.beq_refl, cond_true, Option.some.injEq] at h
      subst h
      rw [ri]
      obtain ⟨ca, cb, rfl, k1, k2⟩ := Enc.okL_split (Enc.okL_mono h3 hE)
      exact ⟨rfl, _, h2, pre, _, rfl, rfl, ca, _, by rw [List.append_assoc], k1, cb, post, rfl, k2, post, [], by simp, rfl, rfl⟩)
  refine ⟨⟨ρ', q1, fun u s hu => ?_⟩, hz, hde⟩
  rw [lk_cons] at hu
  split at hu
  · rename_i h7; subst h7; cases hu
    have := hs t _ hx
    simp only [Slot.ok] at this ⊢
    refine ⟨⟨b, by rw [ri]; rfl⟩, ?_⟩
    rw [this.2, h1, ri]; rfl
  · have hgs := hg.spec u s hu
    refine Slot.ok_mono s _ (hs u s hgs) q2 fun l hlab => ?_
    have := List.all_eq_true.1 hl _ (lk_mem hu)
    have : s.lab = [] := by simpa using this
    rw [this] at hlab; cases hlab
/-- and back -/
theorem Sub.closeSeg {t p n c q : Nat} {A V B : List α} (hn : n = (A ++ (V ++ B)).length) (hnc : n ≤ c) (hcq : c * e.n ≤ n * e.n + q) (hsz : n ≤ 140737488355328) {g : List (Nat × Slot)} (hx : lk g t = some (.asl i p 0 n c)) :
    Sub F ⟨g, [(i, .dp (DE.seg T e b) [.any p, .rows A, .rows V, .rows B, .any q] [])]⟩ ⟨[(t, .ref i)], [(i, .arr T e (A ++ (V ++ B)))]⟩ := by
  rintro a w ⟨⟨ρ, hc, hs⟩, hz, hde⟩
  have he : lkE [(i, Ent.dp (DE.seg T e b) [.any p, .rows A, .rows V, .rows B, .any q] [])] i = some (.dp (DE.seg T e b) [.any p, .rows A, .rows V, .rows B, .any q] []) := by simp [lkE]
  obtain ⟨h1, cs, h2, h3⟩ := hc.own i _ he
  obtain ⟨pre, _, rfl, rfl, ca, _, rfl, k1, cv, _, rfl, k2, cb, _, rfl, k3, post, _, rfl, rfl, rfl⟩ := h3
  let ρ' : Nat → LV := fun l => if l = i then .of (.slice (some ⟨b, pre.length, none⟩) n c) else ρ l
  have ri : ρ' i = .of (.slice (some ⟨b, pre.length, none⟩) n c) := if_pos rfl
  have hl1 : ∀ l en, lkE [(i, Ent.arr T e (A ++ (V ++ B)))] l = some en → l = i := by
    intro l en h
    rw [lkE_cons] at h
    split at h
    · rename_i h7; exact h7.symm
    · cases h
  have k123 : ∀ {S w}, e.okL A S w ca → e.okL V S w cv → e.okL B S w cb → e.okL (A ++ (V ++ B)) S w (ca ++ (cv ++ cb)) := fun h1 h2 h3 => Enc.okL_append h1 (Enc.okL_append h2 h3)
  have hlen := Enc.okL_len (k123 k1 k2 k3)
  obtain ⟨q1, q2⟩ := hc.regroup (d' := [(i, .arr T e (A ++ (V ++ B)))]) (ρ' := ρ') (fun l en k h hk => by
      obtain rfl := hl1 l en h
      refine ⟨l, _, he, ?_⟩
      rw [ri] at hk
      have := Has_of.1 hk
      left; rw [h1]; exact this) (fun l l' en en' k h h' _ _ => by rw [hl1 l en h, hl1 l' en' h']) (fun hE l en h => by
      obtain rfl := hl1 l en h
      simp only [lkE, Nat.beq_refl, cond_true, Option.some.injEq] at h
      subst h
      rw [ri]
      refine .inr ⟨b, c, pre, ca ++ (cv ++ cb), post, by rw [hn]; rfl, ?_, k123 (Enc.okL_mono k1 hE) (Enc.okL_mono k2 hE) (Enc.okL_mono k3 hE), by omega, ?_, by omega⟩
      · rw [h2]; simp [List.append_assoc]
      · rw [hlen, ← hn]; exact hcq)
  refine ⟨⟨ρ', q1, fun u s hu => ?_⟩, hz, hde⟩
  rw [lk_cons] at hu
  split at hu
  · rename_i h7; subst h7; cases hu
    have := hs t _ hx
    simp only [Slot.ok] at this ⊢
    refine ⟨.inl ⟨_, _, _, by rw [ri]; rfl⟩, ?_⟩
    rw [this.2, h1, ri]; rfl
  · cases hu
/-! ### slices into such a row -/
theorem asl_val {ρ : Nat → LV} {S : Nat → Prop} {w : World} {o n c : Nat} {v : Value} (h : (Slot.asl i o 0 n c).ok ρ S w v) : ∃ b, (ρ i).v = .pointer (some ⟨b, 0, none⟩) ∧ v = .slice (some ⟨b, o, none⟩) n c := by
  simp only [Slot.ok] at h
  obtain ⟨⟨b, h1⟩, h2⟩ := h
  exact ⟨b, h1, by rw [h2, h1]; rfl⟩
theorem asl_mk {ρ : Nat → LV} {S : Nat → Prop} {w : World} {o n c b : Nat} (h : (ρ i).v = .pointer (some ⟨b, 0, none⟩)) : (Slot.asl i o 0 n c).ok ρ S w (.slice (some ⟨b, o, none⟩) n c) := by
  simp only [Slot.ok]
  exact ⟨⟨b, h⟩, by rw [h]; rfl⟩
theorem JO.aslLo {o n c m : Nat} {lo : Int} {k : IntKind} {E : TypeId} (o' n' c' : Nat) (hlo : lo = (m : Int)) (hm : m ≤ n) (hmc : m < c) (ho : o' = o + m * e.n) (hn' : n' = n - m) (hc' : c' = c - m) (hx : evS σ.g x = some (.asl i o 0 n c)) (hy : evS σ.g y = some (.v (Enc.int k) lo))
    (hU : ∀ w, (underlying U).run F.P w = .ok (.slice E) w) (hE : ∀ w, (sizeOf E).run F.P w = .ok e.n w) : JO F ⟨d, .slice U x (some y) none none, ty, p, af, gd⟩ σ (.asl i o' 0 n' c') [] := by
  subst hlo ho hn' hc'
  intro ρ S a w K
  obtain ⟨b, h1, h2⟩ := asl_val (K.slot x (by simp [Op.operands]) _ hx)
  have h4 := (K_int K (x := y) (by simp [Op.operands]) hy).1
  refine OpWp.value (w' := w) ?_ (Res.same (asl_mk h1))
  have hb := bounds_l (P := F.P) (w := w) (len := n) (cap := c) (k := k) (lo := (m : Int)) (by omega) (by omega)
  have hne : ¬ (c = m) := by omega
  simp [execOp, Instr.sliceAt, Instr.slice, h2, h4, hU, hE, hb, hne, Addr.add_lit]
theorem JO.aslHi2 {o n c m : Nat} {hi : Int} {k : IntKind} {E : TypeId} (n' : Nat) (hhi : hi = (m : Int)) (hm : m ≤ c) (hn' : n' = m) (hx : evS σ.g x = some (.asl i o 0 n c)) (hy : evS σ.g y = some (.v (Enc.int k) hi))
    (hU : ∀ w, (underlying U).run F.P w = .ok (.slice E) w) (hE : ∀ w, (sizeOf E).run F.P w = .ok e.n w) : JO F ⟨d, .slice U x none (some y) none, ty, p, af, gd⟩ σ (.asl i o 0 n' c) [] := by
  subst hhi hn'
  intro ρ S a w K
  obtain ⟨b, h1, h2⟩ := asl_val (K.slot x (by simp [Op.operands]) _ hx)
  have h4 := (K_int K (x := y) (by simp [Op.operands]) hy).1
  refine OpWp.value (w' := w) ?_ (Res.same (asl_mk h1))
  have hb := bounds_h (P := F.P) (w := w) (len := n) (cap := c) (k' := k) (hi := (n' : Int)) (by omega) (by omega)
  have h0 : Addr.add ⟨b, o, none⟩ 0 = ⟨b, o, none⟩ := by rw [Addr.add_lit]; rfl
  simp [execOp, Instr.sliceAt, Instr.slice, h2, h4, hU, hE, hb, h0]
/-! ### copies -/
theorem K_seg {ρ : Nat → LV} {w : World} {q : List (Seg α)} (hc : Core F σ.d ρ w) (he : lkE σ.d i = some (.dp (DE.seg T e b) q [])) : (ρ i).v = .pointer (some ⟨b, 0, none⟩) ∧ ∃ cs, w.heap[b]? = some (.cells cs.toArray T (0, 0)) ∧ Seg.okL e (Un F.S0 ρ σ.d) w q cs := hc.own i _ he
/-- cells put into such a row -/
theorem St.segPut {ρ : Nat → LV} {a : Act} {w : World} {q q' : List (Seg α)} {k : Nat} {c0 c1 c2 news : List Value} (hc : Core F σ.d ρ w) (hs : ∀ t s, lk σ.g t = some s → s.ok ρ (Un F.S0 ρ σ.d) w (a.tmps.getD t undef)) (hz : a.tmps.size = F.N) (hde : a.defers = F.df)
    (he : lkE σ.d i = some (.dp (DE.seg T e b) q [])) (hd : dstOk d F.N = true) (hb : w.heap[b]? = some (.cells (c0 ++ (c1 ++ c2)).toArray T (0, 0))) (hk : k ≤ 9223372036854775807)
    (hq : ∀ w', Ext (Un F.S0 ρ σ.d) (Un F.S0 ρ σ.d) w w' → Seg.okL e (Un F.S0 ρ σ.d) w' q' (c0 ++ (news ++ c2))) :
    St F ⟨gput d (.v (Enc.int .i64) ((k : Nat) : Int)) σ.g, (i, .dp (DE.seg T e b) q' []) :: σ.d⟩ (a.put d (.int .i64 (k : Int))) (w.setRow b (c0 ++ (news ++ c2)).toArray) := by
  have hv := (K_seg hc he).1
  have hup := Upd.setRow w b (c0 ++ (news ++ c2)).toArray
  obtain ⟨q1, q2⟩ := hc.upd (en' := .dp (DE.seg T e b) q' []) he (.inl (by rw [hv]; rfl)) hup (fun hE => ⟨hv, _, setRow_heap w b _ (c0 ++ (news ++ c2)).toArray T _ hb, hq _ hE⟩)
  refine ⟨⟨ρ, q1, fun t s ht => ?_⟩, by rw [Act.size_put, hz], by cases d <;> exact hde⟩
  have hold : ∀ t s, lk σ.g t = some s → s.ok ρ (Un F.S0 ρ ((i, .dp (DE.seg T e b) q' []) :: σ.d)) (w.setRow b (c0 ++ (news ++ c2)).toArray) (a.tmps.getD t undef) := fun t s ht => Slot.ok_mono s _ (hs t s ht) q2 (fun _ _ => rfl)
  cases d with
  | none => exact hold t s ht
  | some q0 =>
    simp only [gput] at ht
    have hlt : q0 < a.tmps.size := by rw [hz]; exact Nat.le_of_ble_eq_true hd
    rw [Act.getD_put a q0 _ t hlt]
    rw [lk_cons] at ht
    split at ht
    · rename_i h1
      cases ht; rw [if_pos h1]
      exact int_ok (len_in hk) _ _ _
    · rename_i h1
      rw [if_neg h1]; exact hold t s ht
theorem run_copyTo {P : Program} {w : World} {U E tt : TypeId} {en b o n c m cap : Nat} {ad : Option Addr} {c0 c1 c2 news : List Value} (hU : ∀ w, (underlying U).run P w = .ok (.slice E) w) (hE : ∀ w, (sizeOf E).run P w = .ok en w)
    (hb : w.heap[b]? = some (.cells (c0 ++ (c1 ++ c2)).toArray T (0, 0))) (h0 : c0.length = o) (h1 : c1.length = news.length) (hn : news.length = min m n * en) (hnews : ∀ ad0, ad = some ad0 → ∀ j u, news[j]? = some u → w.cell? (ad0.add j) = some u) (hnil : ad = none → news = []) (hone : ∀ v ∈ news, v.oneCell' = true) :
    (Builtin.copy_ #[U, U] tt #[.slice (some ⟨b, o, none⟩) n c, .slice ad m cap]).run P w = .ok (.int .i64 ((min m n : Nat) : Int)) (w.setRow b (c0 ++ (news ++ c2)).toArray) := by
  have hf : (Builtin.firstCells en (min m n) (.slice ad m cap)).run P w = .ok news.toArray w := by
    cases had : ad with
    | none => rw [hnil had]; simp [Builtin.firstCells]
    | some ad0 => exact run_firstCells_some (P := P) w en (min m n) ad0 m cap news hn (hnews ad0 had)
  have hfit : o + news.length ≤ (c0 ++ (c1 ++ c2)).length := by simp only [List.length_append]; omega
  have hst := run_storeCells_at P b o T news 0 (c0 ++ (c1 ++ c2)).toArray w hb (by simpa using hfit) hone
  have ht : (c0 ++ (c1 ++ c2)).take o = c0 := by rw [← h0]; exact List.take_left
  have hdr : (c0 ++ (c1 ++ c2)).drop (o + news.length) = c2 := by
    rw [← h0, ← h1, ← List.append_assoc, ← List.length_append]; exact List.drop_left
  simp only [Nat.add_zero] at hst
  rw [ht, hdr, List.append_assoc] at hst
  simp only [Builtin.copy_]
  have hmin : Nat.min m n = min m n := rfl
  simp [hU, hE, Builtin.lenOf, hmin, hf, hst, goInt]
theorem okL_one {xs : List α} {S w cs} (h : e.okL xs S w cs) : ∀ v ∈ cs, v.oneCell' = true := Enc.okL_cell h
/-- the tail is moved up within the row -/
theorem JM.segShift {q m pp n1 c1 n2 c2 o1 o2 : Nat} {A B : List α} {E : TypeId} (he : lkE σ.d i = some (.dp (DE.seg T e b) [.any pp, .rows A, .rows B, .any q] [])) (hx : evS σ.g x = some (.asl i o1 0 n1 c1)) (hy : evS σ.g y = some (.asl i o2 0 n2 c2))
    (ho1 : o1 = pp + (A.length + m) * e.n) (ho2 : o2 = pp + A.length * e.n) (hn1 : n1 = B.length) (hn2 : n2 = B.length + m) (hq : m * e.n ≤ q) (hBl : B.length ≤ 9223372036854775807)
    (hU : ∀ w, (underlying U).run F.P w = .ok (.slice E) w) (hE : ∀ w, (sizeOf E).run F.P w = .ok e.n w) (hd : dstOk d F.N = true) :
    JM F ⟨d, .call ⟨.builtin .copy, #[x, y], #[U, U]⟩, ty, p, af, gd⟩ σ ⟨gput d (.v (Enc.int .i64) ((B.length : Nat) : Int)) σ.g, (i, .dp (DE.seg T e b) [.any pp, .rows A, .any (m * e.n), .rows B, .any (q - m * e.n)] []) :: σ.d⟩ := by
  subst ho1 ho2 hn1 hn2
  rintro a w ⟨⟨ρ, hc, hs⟩, hsz, hde⟩
  have K := Know.of_st hc hs (Op.call ⟨.builtin .copy, #[x, y], #[U, U]⟩).operands
  obtain ⟨b1, g1, g2⟩ := asl_val (K.slot x (by simp [Op.operands, Call.operands]) _ hx)
  obtain ⟨b2, g3, g4⟩ := asl_val (K.slot y (by simp [Op.operands, Call.operands]) _ hy)
  obtain ⟨k1, cs, k2, pre, _, rfl, hpre, ca, _, rfl, k4, cb, _, rfl, k5, post, _, rfl, hpost, rfl⟩ := K_seg hc he
  have e1 : b1 = b := by rw [k1] at g1; cases g1; rfl
  have e2 : b2 = b := by rw [k1] at g3; cases g3; rfl
  rw [e1] at g2; rw [e2] at g4
  have hpre : pre.length = pp := hpre
  have hpost : post.length = q := hpost
  have hal := Enc.okL_len k4
  have hbl := Enc.okL_len k5
  obtain ⟨rest, hrest⟩ : ∃ rest, rest = cb ++ (post ++ []) := ⟨_, rfl⟩
  have hrl : rest.length = B.length * e.n + q := by rw [hrest]; simp only [List.length_append, List.length_nil]; omega
  have hsplit : pre ++ (ca ++ (cb ++ (post ++ []))) = (pre ++ ca ++ rest.take (m * e.n)) ++ ((rest.drop (m * e.n)).take (B.length * e.n) ++ rest.drop (m * e.n + B.length * e.n)) := by
    rw [← hrest]
    have : rest = rest.take (m * e.n) ++ ((rest.drop (m * e.n)).take (B.length * e.n) ++ rest.drop (m * e.n + B.length * e.n)) := by
      rw [← List.drop_drop, List.take_append_drop, List.take_append_drop]
    conv => lhs; rw [this]
    simp only [List.append_assoc]
  rw [hsplit] at k2
  have hmin : min (B.length + m) B.length = B.length := by omega
  have hcell : ∀ j u, cb[j]? = some u → w.cell? ((⟨b, pp + A.length * e.n, none⟩ : Addr).add j) = some u := by
    have hm : MemAt w b (pre.length + ca.length) cb := by
      have h1 := MemAt.of_heap k2
      rw [← hsplit, ← List.append_assoc] at h1
      have := MemAt.sub (a := pre ++ ca) (c := cb) (d := post ++ []) h1
      simpa using this
    intro j u hj
    have := hm.cell j u hj
    rwa [hpre, hal] at this
  have hr := run_copyTo (P := F.P) (w := w) (tt := ty) (T := T) (U := U) (E := E) (en := e.n) (b := b) (o := pp + (A.length + m) * e.n) (n := B.length) (c := c1) (m := B.length + m) (cap := c2) (ad := some ⟨b, pp + A.length * e.n, none⟩) (news := cb) hU hE k2
    (by simp only [List.length_append, List.length_take, hpre, hal, hrl]; rw [Nat.min_eq_left (by omega), Nat.add_mul]; omega)
    (by simp only [List.length_take, List.length_drop, hrl, hbl]; omega) (by rw [hmin]; exact hbl) (fun ad0 h => by cases h; exact hcell) (fun h => by cases h) (okL_one k5)
  rw [hmin] at hr
  refine OpWp.value (v := .int .i64 ((B.length : Nat) : Int)) (w' := _) ?_ (St.segPut (q' := [.any pp, .rows A, .any (m * e.n), .rows B, .any (q - m * e.n)]) hc hs hsz hde he hd k2 hBl (news := cb) fun w' hE' => ?_)
  · simp [execOp, resolve, invoke, builtin, g2, g4, hr]
  · refine ⟨pre, _, by rw [List.append_assoc, List.append_assoc], hpre, ca, _, rfl, Enc.okL_mono k4 hE', rest.take (m * e.n), _, rfl, ?_, cb, _, rfl, Enc.okL_mono k5 hE', rest.drop (m * e.n + B.length * e.n), [], by simp, ?_, rfl⟩
    · show (rest.take (m * e.n)).length = _
      rw [List.length_take, hrl]; omega
    · show (rest.drop (m * e.n + B.length * e.n)).length = _
      rw [List.length_drop, hrl]; omega
/-- and the gap is filled -/
theorem JM.segFill {q m pp n1 c1 o1 k : Nat} {A V B : List α} {E : TypeId} (he : lkE σ.d i = some (.dp (DE.seg T e b) [.any pp, .rows A, .any k, .rows B, .any q] [])) (hx : evS σ.g x = some (.asl i o1 0 n1 c1)) (hy : Src σ y e V)
    (ho1 : o1 = pp + A.length * e.n) (hV : V.length = m) (hk : k = m * e.n) (hn1 : m ≤ n1)
    (hU : ∀ w, (underlying U).run F.P w = .ok (.slice E) w) (hE : ∀ w, (sizeOf E).run F.P w = .ok e.n w) (hd : dstOk d F.N = true) :
    JM F ⟨d, .call ⟨.builtin .copy, #[x, y], #[U, U]⟩, ty, p, af, gd⟩ σ ⟨gput d (.v (Enc.int .i64) ((m : Nat) : Int)) σ.g, (i, .dp (DE.seg T e b) [.any pp, .rows A, .rows V, .rows B, .any q] []) :: σ.d⟩ := by
  subst ho1 hk
  rintro a w ⟨⟨ρ, hc, hs⟩, hsz, hde⟩
  have K := Know.of_st hc hs (Op.call ⟨.builtin .copy, #[x, y], #[U, U]⟩).operands
  obtain ⟨b1, g1, g2⟩ := asl_val (K.slot x (by simp [Op.operands, Call.operands]) _ hx)
  have hmem : ∀ q, q ∈ #[y] → q ∈ (Op.call ⟨.builtin .copy, #[x, y], #[U, U]⟩).operands := by
    intro q hq
    have hq' : q = y := by simpa using hq
    subst hq'; simp [Op.operands, Call.operands]
  obtain ⟨hyl, ad, c, r1, r2⟩ := hy ρ _ a w ⟨K.low, fun q hq s h => K.slot q (hmem q hq) s h, fun q hq s h => K.ent q (hmem q hq) s h⟩
  obtain ⟨k1, cs, k2, pre, _, rfl, hpre, ca, _, rfl, k4, cg, _, rfl, hg, cb, _, rfl, k5, post, _, rfl, hpost, rfl⟩ := K_seg hc he
  have e1 : b1 = b := by rw [k1] at g1; cases g1; rfl
  rw [e1] at g2
  have hpre : pre.length = pp := hpre
  have hg : cg.length = m * e.n := hg
  have hal := Enc.okL_len k4
  have hmin : min m n1 = m := by omega
  obtain ⟨news, n1', n2, n3, n4⟩ : ∃ news : List Value, news.length = m * e.n ∧ e.okL V (Un F.S0 ρ σ.d) w news ∧ (∀ ad0, ad = some ad0 → ∀ j u, news[j]? = some u → w.cell? (ad0.add j) = some u) ∧ (ad = none → news = []) := by
    rcases r2 with rfl | ⟨b3, off3, ds, rfl, hm3, hds⟩
    · simp at hV; subst hV
      exact ⟨[], by simp, rfl, fun _ _ j u h => by simp at h, fun _ => rfl⟩
    · exact ⟨ds, by rw [Enc.okL_len hds, hV], hds, fun ad0 h => by cases h; exact hm3.cell, fun h => by cases h⟩
  have hsplit : pre ++ (ca ++ (cg ++ (cb ++ (post ++ [])))) = (pre ++ ca) ++ (cg ++ (cb ++ post)) := by simp
  rw [hsplit] at k2
  have hr := run_copyTo (P := F.P) (w := w) (tt := ty) (T := T) (U := U) (E := E) (en := e.n) (b := b) (o := pp + A.length * e.n) (n := n1) (c := c1) (m := m) (cap := c) (ad := ad) (news := news) hU hE k2
    (by simp only [List.length_append, hpre, hal]) (by rw [hg, n1']) (by rw [hmin]; exact n1') n3 n4 (okL_one n2)
  rw [hmin] at hr
  refine OpWp.value (v := .int .i64 ((m : Nat) : Int)) (w' := _) ?_ (St.segPut (q' := [.any pp, .rows A, .rows V, .rows B, .any q]) hc hs hsz hde he hd k2 (by omega) (news := news) fun w' hE' => ?_)
  · rw [hV] at r1
    simp [execOp, resolve, invoke, builtin, g2, r1, hr]
  · exact ⟨pre, _, by rw [List.append_assoc], hpre, ca, _, rfl, Enc.okL_mono k4 hE', news, _, rfl, Enc.okL_mono n2 hE', cb, _, rfl, Enc.okL_mono k5 hE', post, [], by simp, hpost, rfl⟩
end
end Go.Sw

namespace Go.Sw
open Go Go.RowKit
section
variable {F : Frm} {σ : AS} {pb : Option Nat} {s : Slot} {d : Option Tmp} {ty : TypeId} {p : String} {af : Array Edge} {gd : Option (Nat × Bool)} {x y z : Operand} {α : Type} {e : Enc α} {T U : TypeId} {i b : Nat}
theorem K_seg' {xs : Array Operand} {ρ : Nat → LV} {S a w} (K : Know σ xs ρ S a w) (hm : x ∈ xs) {o n c : Nat} {q : List (Seg α)} (hx : evS σ.g x = some (.asl i o 0 n c)) (he : lkE σ.d i = some (.dp (DE.seg T e b) q [])) :
    a.eval x = .slice (some ⟨b, o, none⟩) n c ∧ (∃ cs, w.heap[b]? = some (.cells cs.toArray T (0, 0)) ∧ Seg.okL e S w q cs) ∧ S b ∧ b < w.heap.size := by
  obtain ⟨b1, h1, h2⟩ := asl_val (K.slot x hm _ hx)
  obtain ⟨⟨k1, k2⟩, k3⟩ := K.ent x hm _ hx i (by simp [Slot.lab]) _ he
  rw [k1] at h1; cases h1
  exact ⟨h2, k2, k3 b (.inl (by rw [k1]; rfl))⟩
theorem Src.seg {pp q n c o : Nat} {A B : List α} (h : evS σ.g y = some (.asl i o 0 n c)) (he : lkE σ.d i = some (.dp (DE.seg T e b) [.any pp, .rows A, .rows B, .any q] [])) (ho : o = pp + A.length * e.n) (hn : n = B.length) (hsz : B.length ≤ 140737488355328) : Src σ y e B := by
  subst ho hn
  intro ρ S a w K
  obtain ⟨h1, ⟨cs, h2, pre, _, rfl, hpre, ca, _, rfl, k4, cb, _, rfl, k5, post, _, rfl, hpost, rfl⟩, _⟩ := K_seg' K (x := y) (by simp) h he
  have hpre : pre.length = pp := hpre
  have hal := Enc.okL_len k4
  refine ⟨hsz, _, c, h1, .inr ⟨b, _, cb, rfl, ?_, k5⟩⟩
  have h1 := MemAt.of_heap h2
  rw [← List.append_assoc] at h1
  have := MemAt.sub (a := pre ++ ca) (c := cb) (d := post ++ []) h1
  simpa [hpre, hal] using this
/-- a copy into a slice of ours, from a place on -/
theorem JM.copySub {zs ys ws : List α} {lo : Int} {E : TypeId} (hs0 : Sw.sub zs lo (zs.length : Int) = some ws) (hx : evS σ.g x = some (.sub i (lo.toNat * e.n) ((zs.length : Int).toNat - lo.toNat))) (he : lkE σ.d i = some (.arr T e zs)) (hy : Src σ y e ys) (hle : ys.length ≤ zs.length - lo.toNat)
    (hU : ∀ w, (underlying U).run F.P w = .ok (.slice E) w) (hE : ∀ w, (sizeOf E).run F.P w = .ok e.n w) (hd : dstOk d F.N = true) :
    JM F ⟨d, .call ⟨.builtin .copy, #[x, y], #[U, U]⟩, ty, p, af, gd⟩ σ ⟨gput d (.v (Enc.int .i64) ((ys.length : Nat) : Int)) σ.g, (i, .arr T e (zs.take lo.toNat ++ ys ++ zs.drop (lo.toNat + ys.length))) :: σ.d⟩ := by
  rintro a w ⟨⟨ρ, hc, hsl⟩, hsz, hde⟩
  have K := Know.of_st hc hsl (Op.call ⟨.builtin .copy, #[x, y], #[U, U]⟩).operands
  have hxk := K.slot x (by simp [Op.operands, Call.operands]) _ hx
  simp only [Slot.ok] at hxk
  obtain ⟨_, c, o, g1, g2, g3⟩ := hxk
  have hen : arrOk T e zs (Un F.S0 ρ σ.d) w (ρ i).v := (K.ent x (by simp [Op.operands, Call.operands]) _ hx i (by simp [Slot.lab]) _ he).1
  have hmem : ∀ q, q ∈ #[y] → q ∈ (Op.call ⟨.builtin .copy, #[x, y], #[U, U]⟩).operands := by
    intro q hq
    have hq' : q = y := by simpa using hq
    subst hq'; simp [Op.operands, Call.operands]
  obtain ⟨hyl, ad, cy, r1, r2⟩ := hy ρ _ a w ⟨K.low, fun q hq s h => K.slot q (hmem q hq) s h, fun q hq s h => K.ent q (hmem q hq) s h⟩
  obtain ⟨s0, s1, _, _⟩ := sub_some hs0
  obtain ⟨l, hl⟩ : ∃ l, l = lo.toNat := ⟨_, rfl⟩
  simp only [Int.toNat_natCast] at g1 g2 g3
  rw [← hl] at g1 g2 g3 hle ⊢
  have hlx : l ≤ zs.length := by omega
  have done : ∀ w', (execOp a.eval ⟨d, .call ⟨.builtin .copy, #[x, y], #[U, U]⟩, ty, p, af, gd⟩).run F.P w = .ok (.value (.int .i64 ((ys.length : Nat) : Int))) w' →
      (∃ b, Has (ρ i) b ∧ Upd b w w' ∧ (Ext (Un F.S0 ρ σ.d) (Un F.S0 ρ σ.d) w w' → (Ent.arr T e (zs.take l ++ ys ++ zs.drop (l + ys.length))).ok ρ (Un F.S0 ρ σ.d) w' (ρ i))) ∨ (w' = w ∧ zs.take l ++ ys ++ zs.drop (l + ys.length) = zs) →
      OpWp F.P ⟨d, .call ⟨.builtin .copy, #[x, y], #[U, U]⟩, ty, p, af, gd⟩ a w fun v w' => St F ⟨gput d (.v (Enc.int .i64) ((ys.length : Nat) : Int)) σ.g, (i, .arr T e (zs.take l ++ ys ++ zs.drop (l + ys.length))) :: σ.d⟩ (a.put d v) w' := by
    intro w' hr h
    refine OpWp.value hr ?_
    obtain ⟨q1, q2⟩ : Core F ((i, .arr T e (zs.take l ++ ys ++ zs.drop (l + ys.length))) :: σ.d) ρ w' ∧ Ext (Un F.S0 ρ σ.d) (Un F.S0 ρ ((i, .arr T e (zs.take l ++ ys ++ zs.drop (l + ys.length))) :: σ.d)) w w' := by
      rcases h with ⟨b, h1, h2, h3⟩ | ⟨rfl, h2⟩
      · exact hc.upd he h1 h2 h3
      · rw [h2]
        have hcg : ∀ q en, lkE σ.d q = some en ↔ lkE ((i, .arr T e zs) :: σ.d) q = some en := fun q en => by
          rw [lkE_cons]; split
          · rename_i h; subst h; rw [he]
          · rfl
        exact ⟨hc.congr hcg, ⟨Nat.le_refl _, fun k _ hk => ⟨rfl, by rw [← Un.congr hcg]; exact hk⟩⟩⟩
    refine ⟨⟨ρ, q1, fun t s ht => ?_⟩, by rw [Act.size_put, hsz], by cases d <;> exact hde⟩
    have hold : ∀ t s, lk σ.g t = some s → s.ok ρ (Un F.S0 ρ ((i, .arr T e (zs.take l ++ ys ++ zs.drop (l + ys.length))) :: σ.d)) w' (a.tmps.getD t undef) := fun t s ht => Slot.ok_mono s _ (hsl t s ht) q2 (fun _ _ => rfl)
    cases d with
    | none => exact hold t s ht
    | some q0 =>
      simp only [gput] at ht
      have hlt : q0 < a.tmps.size := by rw [hsz]; exact Nat.le_of_ble_eq_true hd
      rw [Act.getD_put a q0 _ t hlt]
      rw [lk_cons] at ht
      split at ht
      · rename_i h1
        cases ht; rw [if_pos h1]
        exact int_ok (len_in (by omega)) _ _ _
      · rename_i h1
        rw [if_neg h1]; exact hold t s ht
  by_cases hn : zs.length - l = 0
  · have hy0 : ys = [] := List.eq_nil_of_length_eq_zero (by omega)
    subst hy0
    refine done w ?_ (.inr ⟨rfl, by simp⟩)
    have hv : ∃ q, a.eval x = .slice q 0 c := by
      rw [g3, hn]
      rcases hen with ⟨_, h⟩ | ⟨b, cap, pre, cs, post, h, _⟩ <;> rw [h] <;> exact ⟨_, rfl⟩
    obtain ⟨q, hv⟩ := hv
    have hf : (Builtin.firstCells e.n 0 (.slice ad 0 cy)).run F.P w = .ok #[] w := by
      cases ad <;> simp [Builtin.firstCells, loadCells, loadCellsFrom]
    have hcp : (Builtin.copy_ #[U, U] ty #[.slice q 0 c, .slice ad 0 cy]).run F.P w = .ok (.int .i64 0) w := by
      have hmin : Nat.min 0 0 = 0 := rfl
      cases q <;> simp [Builtin.copy_, hU, hE, Builtin.lenOf, hmin, hf, goInt, storeCells]
    simp only [List.length_nil] at r1
    simp [execOp, resolve, invoke, builtin, hv, r1, hcp]
  · have ho : o = l * e.n := g2.resolve_right hn
    subst ho
    rcases hen with ⟨rfl, h⟩ | ⟨b, cap, pre, cs, post, h3, h4, h5, h6, h7, h8⟩
    · simp at hn
    · have hcl := Enc.okL_len h5
      have hv : a.eval x = .slice (some ⟨b, pre.length + l * e.n, none⟩) (zs.length - l) c := by rw [g3, h3]; rfl
      obtain ⟨news, n1', n2, n3, n4⟩ : ∃ news : List Value, news.length = ys.length * e.n ∧ e.okL ys (Un F.S0 ρ σ.d) w news ∧ (∀ ad0, ad = some ad0 → ∀ j u, news[j]? = some u → w.cell? (ad0.add j) = some u) ∧ (ad = none → news = []) := by
        rcases r2 with rfl | ⟨b3, off3, ds, rfl, hm3, hds⟩
        · exact ⟨[], by simp, rfl, fun _ _ j u h => by simp at h, fun _ => rfl⟩
        · exact ⟨ds, Enc.okL_len hds, hds, fun ad0 h => by cases h; exact hm3.cell, fun h => by cases h⟩
      have hmin : min ys.length (zs.length - l) = ys.length := by omega
      have m1 : l * e.n + ys.length * e.n ≤ cs.length := by rw [hcl, ← Nat.add_mul]; exact Nat.mul_le_mul_right _ (by omega)
      have hsplit : pre ++ (cs ++ post) = (pre ++ cs.take (l * e.n)) ++ ((cs.drop (l * e.n)).take (ys.length * e.n) ++ (cs.drop (l * e.n + ys.length * e.n) ++ post)) := by
        have : cs = cs.take (l * e.n) ++ ((cs.drop (l * e.n)).take (ys.length * e.n) ++ cs.drop (l * e.n + ys.length * e.n)) := by
          rw [← List.drop_drop, List.take_append_drop, List.take_append_drop]
        conv => lhs; rw [this]
        simp only [List.append_assoc]
      rw [hsplit] at h4
      have hr := run_copyTo (P := F.P) (w := w) (tt := ty) (T := T) (U := U) (E := E) (en := e.n) (b := b) (o := pre.length + l * e.n) (n := zs.length - l) (c := c) (m := ys.length) (cap := cy) (ad := ad) (news := news) hU hE h4
        (by simp only [List.length_append, List.length_take]; omega) (by simp only [List.length_take, List.length_drop]; omega) (by rw [hmin]; exact n1') n3 n4 (okL_one n2)
      rw [hmin] at hr
      refine done (w.setRow b ((pre ++ cs.take (l * e.n)) ++ (news ++ (cs.drop (l * e.n + ys.length * e.n) ++ post))).toArray) ?_ (.inl ⟨b, .inl (by rw [h3]; rfl), Upd.setRow w b _, fun hE' => .inr ⟨b, cap, pre, cs.take (l * e.n) ++ news ++ cs.drop (l * e.n + ys.length * e.n), post, ?_, ?_, ?_, ?_, ?_, ?_⟩⟩)
      · simp [execOp, resolve, invoke, builtin, hv, r1, hr]
      · rw [h3]; simp only [List.length_append, List.length_take, List.length_drop]; congr 1; omega
      · have := setRow_heap w b _ ((pre ++ cs.take (l * e.n)) ++ (news ++ (cs.drop (l * e.n + ys.length * e.n) ++ post))).toArray T _ h4
        rw [this]; congr 3; simp
      · refine Enc.okL_append (Enc.okL_append (Enc.okL_mono (okL_take l h5) hE') (Enc.okL_mono n2 hE')) ?_
        have hdd := Enc.okL_mono (okL_drop (l + ys.length) h5) hE'
        rw [Nat.add_mul] at hdd; exact hdd
      · simp only [List.length_append, List.length_take, List.length_drop]; omega
      · simp only [List.length_append, List.length_take, List.length_drop, n1']; omega
      · simp only [List.length_append, List.length_take, List.length_drop]; omega
/-- as long a row more, of noughts, behind the first elements: in a new place -/
theorem JO.appMk {pp q k n c o : Nat} {nk : Int} {A B : List α} {I : TypeId} {kI : IntKind} {kI' : IntKind} {ti : TypeInfo} {z0 : Value} {zv : α} (j : Nat) (h : evS σ.g x = some (.asl i o 0 n c)) (he : lkE σ.d i = some (.dp (DE.seg T e b) [.any pp, .rows A, .rows B, .any q] [])) (hy : evS σ.g y = some (.v (Enc.int kI) nk))
    (ho : o = pp) (hn : n = A.length) (hnk : nk = (k : Int)) (hk : 0 < k) (hcap : c < n + k) (hlen : A.length + k ≤ 4294967296) (hpos : Nat.blt 0 e.n = true)
    (hU : ∀ w, (underlying U).run F.P w = .ok (.slice T) w) (hI : ∀ w, (underlying I).run F.P w = .ok (.int kI') w) (hi : ∀ w, (typeInfo T).run F.P w = .ok ti w) (hS : ∀ w, (sizeOf T).run F.P w = .ok e.n w) (hz : ti.zero = some z0) (hzv : ∀ S w, e.ok zv S w z0.cells.toList) (hby : Nat.ble ti.bytes 4096 = true) :
    JO F ⟨d, .call ⟨.builtin .append, #[x, y], #[U, I]⟩, ty, p, af, gd⟩ σ (.ref j) [(j, .arr T e (A ++ List.replicate k zv))] := by
  subst ho hn hnk
  have hpos : 1 ≤ e.n := by simpa [Nat.blt] using hpos
  have hby := Nat.le_of_ble_eq_true hby
  intro ρ S a w K
  obtain ⟨h1, ⟨cs, h2, pre, _, rfl, hpre, ca, _, rfl, k4, cb, _, rfl, k5, post, _, rfl, hpost, rfl⟩, hSb, hlt⟩ := K_seg' K (x := x) (by simp [Op.operands, Call.operands]) h he
  have hpre : pre.length = o := hpre
  have hal := Enc.okL_len k4
  have hyv := (K_int K (x := y) (by simp [Op.operands, Call.operands]) hy).1
  have hti : ti.size = e.n := size_of hi hS
  have hm : MemAt w b o ca := by
    have := MemAt.sub (a := pre) (c := ca) (d := cb ++ (post ++ [])) (MemAt.of_heap h2)
    simpa [hpre] using this
  have hmd : ∀ j v, ca[j]? = some v → w.drew.cell? ((⟨b, o, none⟩ : Addr).add j) = some v := hm.cell
  have hold : (Builtin.firstCells e.n A.length (.slice (some ⟨b, o, none⟩) A.length c)).run F.P w.drew = .ok ca.toArray w.drew := run_firstCells_some (P := F.P) w.drew e.n A.length ⟨b, o, none⟩ A.length c ca hal hmd
  have hkb : k * ti.bytes ≤ 281474976710656 := by
    have : k * ti.bytes ≤ 4294967296 * 4096 := Nat.mul_le_mul (by omega) hby
    omega
  have hfit : Builtin.nextslicecap (A.length + k) c * ti.bytes ≤ 281474976710656 := growslice_fits (by omega) (by
    have : (A.length + k) * ti.bytes ≤ 4294967296 * 4096 := Nat.mul_le_mul hlen hby
    omega)
  have hrun : (Builtin.append_ #[U, I] ty #[.slice (some ⟨b, o, none⟩) A.length c, .int kI k]).run F.P w =
      .ok (.slice (some ⟨w.heap.size, 0, none⟩) (A.length + k) (grownCap w (A.length + k) c T))
        (w.drew.alloc (.cells (ca.toArray ++ Builtin.zeroCells z0.cells k ++ Builtin.zeroCells z0.cells (grownCap w (A.length + k) c T - (A.length + k))) T)) := by
    have hk0 : k ≠ 0 := by omega
    have hw : IntKind.i64.wrap (k : Int) = k := by rw [IntKind.wrap_i64]; omega
    have hn : ¬ (A.length + k ≤ c) := by omega
    have h63' : ¬ (9223372036854775807 < ((A.length : Int) + (k : Int))) := by omega
    have h48' : ¬ (281474976710656 < Builtin.nextslicecap (A.length + k) c * ti.bytes) := by omega
    have h48i : ¬ (281474976710656 < (k : Int) * (ti.bytes : Int)) := by
      rw [← Int.natCast_mul]; omega
    have hneg : ¬ ((k : Int) < 0) := by omega
    have hns : ¬ (k * e.n = 0) := Nat.mul_ne_zero hk0 (by omega)
    have hzr : ∀ w, (zeroValue T).run F.P w = .ok z0 w := fun w => by
      have := hi w
      simp [zeroValue, this, hz]
    simp [Builtin.append_, hU, hI, hS, hi, hzr, asInt, asIntOf, hw, hn, hneg, hns, h63', h48', h48i, Question.forced, hold, newRow, grownCap]
  have hge := grownCap_ge w (A.length + k) c T
  obtain ⟨rest, hrest⟩ : ∃ rest, rest = (Builtin.zeroCells z0.cells (grownCap w (A.length + k) c T - (A.length + k))).toList := ⟨_, rfl⟩
  have hzn : z0.cells.size = e.n := by have := e.len (hzv (fun _ => False) w); simpa using this
  have hzl : (Builtin.zeroCells z0.cells k).toList.length = k * e.n := by rw [Array.length_toList, size_zeroCells, hzn]
  have hrl : rest.length = (grownCap w (A.length + k) c T - (A.length + k)) * e.n := by rw [hrest, Array.length_toList, size_zeroCells, hzn]
  have hzok : ∀ S w, e.okL (List.replicate k zv) S w (Builtin.zeroCells z0.cells k).toList := fun S w => okL_zeros (hzv S w) k _ hzl fun i hi => zeroCells_at (by rw [hzn]; exact hi)
  have hcells : ca.toArray ++ Builtin.zeroCells z0.cells k ++ Builtin.zeroCells z0.cells (grownCap w (A.length + k) c T - (A.length + k)) = ([] ++ ((ca ++ (Builtin.zeroCells z0.cells k).toList) ++ rest)).toArray := by
    apply Array.ext'; simp [hrest]
  rw [hcells] at hrun
  obtain ⟨w', hw'⟩ : ∃ w', w' = w.drew.alloc (.cells ([] ++ ((ca ++ (Builtin.zeroCells z0.cells k).toList) ++ rest)).toArray T) := ⟨_, rfl⟩
  rw [← hw'] at hrun
  have hbel : Below w.heap.size w w' := by
    rw [hw']; exact Below.trans (b := w.drew) ⟨rfl, rfl, rfl, Nat.le_refl _, fun _ _ => rfl⟩ (below_alloc w.drew _)
  refine OpWp.value (w' := w') (v := .slice (some ⟨w.heap.size, 0, none⟩) (A.length + k) (grownCap w (A.length + k) c T)) (by simp [execOp, resolve, invoke, builtin, h1, hyv, hrun]) ?_
  refine Res.new1 (.slice (some ⟨w.heap.size, 0, none⟩) (A.length + k) (grownCap w (A.length + k) c T)) hbel rfl ?_ ?_ ?_
  · intro b' hb'
    simp only [blk, Option.some.injEq] at hb'; subst hb'
    exact ⟨Nat.le_refl _, by rw [hw', World.size_alloc]; exact Nat.lt_succ_self _⟩
  · intro S' ρ' hS' _
    have hE' : Ext S S' w w' := ext_low hbel hS'
    refine .inr ⟨w.heap.size, grownCap w (A.length + k) c T, [], ca ++ (Builtin.zeroCells z0.cells k).toList, rest, by simp [LV.of], ?_, Enc.okL_append (Enc.okL_mono k4 hE') (hzok _ _), by simpa using hge, ?_, by simp; omega⟩
    · rw [hw', show w.heap.size = w.drew.heap.size from rfl, heap_alloc_new]
    · rw [List.length_append, hal, hzl, hrl, ← Nat.add_mul, ← Nat.add_mul]; exact Nat.mul_le_mul_right _ (by omega)
  · intro S' ρ' _ hρ _
    simp only [Slot.ok]
    exact ⟨.inl ⟨_, _, _, hρ⟩, hρ.symm⟩
/-- what nobody writes lies elsewhere than a row of ours -/
theorem run_overlaps {P : Program} {w : World} {tS tR E : TypeId} {size b o la ca lb cb oa ba : Nat} {cs : List Value} {c' : Array Value} {T' : TypeId} {fr : Nat × Nat} (hU : ∀ w, (underlying tS).run P w = .ok (.slice E) w) (hz : ∀ w, (sizeOf E).run P w = .ok size w)
    (hne : ba ≠ b) (hb : w.heap[b]? = some (.cells cs.toArray T (0, 0))) (hcs : cs ≠ []) (ha : w.heap[ba]? = some (.cells c' T' fr)) (hc' : c'.size ≠ 0) :
    (Extern.SlicesOverlaps.overlaps #[tS, tS] #[tR] #[.slice (some ⟨ba, oa, none⟩) la ca, .slice (some ⟨b, o, none⟩) lb cb]).run P w = .ok (.bool false) w := by
  have hnb : (ba != b) = true := by simpa using hne
  have hnb' : (ba == b) = false := by simpa using hne
  have hfb : ∀ o, w.frozen? ⟨b, o, none⟩ = false := fun o => by simp [World.frozen?, hb]
  have hsb : w.shape? b = some (T, cs.length) := by simp [World.shape?, hb]
  have hsa : w.shape? ba = some (T', c'.size) := by simp [World.shape?, ha]
  obtain ⟨mc, hmc⟩ : ∃ mc, c'.size = mc + 1 := ⟨c'.size - 1, by omega⟩
  rw [hmc] at hsa
  have hl : ∃ m, cs.length = m + 1 := ⟨cs.length - 1, by have := List.length_pos_iff.2 hcs; omega⟩
  obtain ⟨m, hm⟩ := hl
  rw [hm] at hsb
  change Sem.run P (α := Value) (do
    let some t := (#[tS, tS] : Array TypeId)[0]? | stuck "slices.overlaps: no parameter types"
    let .slice elem ← underlying t | stuck "slices.overlaps: slice type expected"
    let size ← sizeOf elem
    match (some ⟨ba, oa, none⟩ : Option Addr), (some ⟨b, o, none⟩ : Option Addr) with
    | some a, some b =>
      if la = 0 ∨ lb = 0 ∨ size = 0 then pure (Value.bool false)
      else if a.block != b.block && (← frozen a) && (← frozen b) then unsupported .addressObserved
      else do
        if a.block != b.block then do
          noView a; noView b
          if ← mayBeOne a b then return Value.bool ((← choose (.extern "sameAddr.stringBytes" 2)) == 1)
        pure (Value.bool (a.block == b.block && a.off < b.off + lb * size && b.off < a.off + la * size))
    | _, _ => pure (Value.bool false)) w = _
  by_cases h0 : la = 0 ∨ lb = 0 ∨ size = 0
  · simp [hU, hz, h0]
  · cases hfa : w.frozen? ⟨ba, oa, none⟩ <;> cases hfa2 : w.frozen? ⟨ba, mc + 1, none⟩ <;>
      simp [hU, hz, h0, hnb, hnb', frozen, noView, viewAt, mayBeOne, stringish, shape, Sem.run, hsa, hsb, hfb, hfa, hfa2]
theorem JO.overlaps {f : FuncId} {fn : Func} {vs : List α} {o n c pp q : Nat} {A B : List α} {ts : Array TypeId} {R : TypeId} (hf : F.P.funcs[f]? = some fn) (hname : (fn.name == "runtime.NumGoroutine") = false) (hb : fn.body.isNone = true) (hn : Extern.findNext fn = none)
    (hext : Extern.find fn = some (Extern.SlicesOverlaps.overlaps #[U, U] #[R])) (hx : evS σ.g x = some (.v (Enc.sl e) vs)) (hy : evS σ.g y = some (.asl i o 0 n c)) (he : lkE σ.d i = some (.dp (DE.seg T e b) [.any pp, .rows A, .rows B, .any q] [])) (hvs : vs ≠ []) (hB : B ≠ []) (hpos : Nat.blt 0 e.n = true)
    (hU : ∀ w, (underlying U).run F.P w = .ok (.slice T) w) (hE : ∀ w, (sizeOf T).run F.P w = .ok e.n w) : JO F ⟨d, .call ⟨.value (.func f), #[x, y], ts⟩, ty, p, af, gd⟩ σ (.v Enc.bool false) [] := by
  have hpos : 1 ≤ e.n := by simpa [Nat.blt] using hpos
  intro ρ S a w K
  obtain ⟨ad, cap, h1, _, h2⟩ := K_sl K (x := x) (by simp [Op.operands, Call.operands]) hx
  obtain ⟨g1, ⟨cs, g2, g3⟩, g4, g5⟩ := K_seg' K (x := y) (by simp [Op.operands, Call.operands]) hy he
  obtain ⟨b1, off, ds, rfl, k1, k2, k3, k4⟩ := h2.resolve_left hvs
  obtain ⟨c', T', fr, k5, k6⟩ := k3
  have hdl := Enc.okL_len k4
  have hvl := List.length_pos_iff.2 hvs
  have hd0 : 0 < ds.length := by rw [hdl]; exact Nat.mul_pos hvl hpos
  have hc' : c'.size ≠ 0 := by
    intro h0
    have := k6 0 hd0
    rw [Array.getElem?_eq_none (by omega)] at this; cases this
  have hcs : cs ≠ [] := by
    rintro rfl
    obtain ⟨pre, _, h, _, ca, _, rfl, _, cb, _, rfl, h5, _⟩ := g3
    have hbl := Enc.okL_len h5
    have hBl := List.length_pos_iff.2 hB
    have : 0 < cb.length := by rw [hbl]; exact Nat.mul_pos hBl hpos
    have h6 := congrArg List.length h
    simp only [List.length_append, List.length_nil] at h6; omega
  have hr := run_overlaps (P := F.P) (w := w) (T := T) (tS := U) (tR := R) (size := e.n) (la := vs.length) (ca := cap) (lb := n) (cb := c) (oa := off) (o := o) hU hE (fun hh => k2 (by rw [hh]; exact g4)) g2 hcs k5 hc'
  have hcall := run_callFunc_extern hf hname hb hn hext #[a.eval x, a.eval y] w
  rw [h1, g1] at hcall
  rw [hr] at hcall
  refine OpWp.value (w' := w) (v := .bool false) ?_ (Res.same (bool_ok _ ρ S w))
  have h1' : (execOp a.eval ⟨d, .call ⟨.value (.func f), #[x, y], ts⟩, ty, p, af, gd⟩).run F.P w = (callFunc f #[a.eval x, a.eval y]).run F.P w := by
    simp [execOp, resolve, invoke, Deferred.ofValue, Act.eval]
  rw [h1', h1, g1, hcall]; rfl
/-- elements put in at a place -/
def ins {α : Type} (xs : List α) (n : Int) (vs : List α) : Option (List α) := if 0 ≤ n ∧ n ≤ xs.length ∧ xs.length + vs.length ≤ 4294967296 then some (xs.take n.toNat ++ (vs ++ xs.drop n.toNat)) else none
theorem ins_some {α : Type} {xs vs r : List α} {n : Int} (h : ins xs n vs = some r) : 0 ≤ n ∧ n ≤ xs.length ∧ xs.length + vs.length ≤ 4294967296 ∧ r = xs.take n.toNat ++ (vs ++ xs.drop n.toNat) := by
  unfold ins at h; split at h
  · rename_i h1; exact ⟨h1.1, h1.2.1, h1.2.2, by cases h; rfl⟩
  · cases h
theorem val_raw {v : Value} {S w u} : Enc.raw.val v S w u ↔ u = v ∧ v.oneCell' = true := by
  constructor
  · rintro ⟨cs, ⟨rfl, h⟩, rfl⟩; exact ⟨rfl, h⟩
  · rintro ⟨rfl, h⟩; exact ⟨[u], ⟨rfl, h⟩, rfl⟩
theorem JO.capRaw {o n c : Nat} {E : TypeId} (hx : evS σ.g x = some (.asl i o 0 n c)) (hU : ∀ w, (underlying U).run F.P w = .ok (.slice E) w) : JO F ⟨d, .call ⟨.builtin .cap, #[x], #[U]⟩, ty, p, af, gd⟩ σ (.v Enc.raw (.int .i64 (c : Int))) [] := by
  intro ρ S a w K
  obtain ⟨b, _, h2⟩ := asl_val (K.slot x (by simp [Op.operands, Call.operands]) _ hx)
  refine OpWp.value (w' := w) (v := .int .i64 (c : Int)) ?_ (Res.same (by simp only [Slot.ok]; exact val_raw.2 ⟨rfl, rfl⟩))
  have hc : (Builtin.cap_ #[U] ty #[.slice (some ⟨b, o, none⟩) n c]).run F.P w = .ok (.int .i64 c) w := by simp [Builtin.cap_, hU, goInt]
  simp [execOp, resolve, invoke, builtin, h2, hc]
theorem JO.gtrRaw {m n : Int} {T T' : TypeId} (hx : evS σ.g x = some (.v (Enc.int .i64) m)) (hy : evS σ.g y = some (.v Enc.raw (.int .i64 n))) : JO F ⟨d, .binOp .gtr T x y T', ty, p, af, gd⟩ σ (.v Enc.bool (cm .gtr m n)) [] := by
  intro ρ S a w K
  have h1 := (K_int K (x := x) (by simp [Op.operands]) hx).1
  have h2 := K.slot y (by simp [Op.operands]) _ hy
  simp only [Slot.ok] at h2
  have h2 := (val_raw.1 h2).1
  refine OpWp.value (w' := w) (v := .bool (cm .gtr m n)) ?_ (Res.same (bool_ok _ ρ S w))
  simp [execOp, h1, h2, eqGuard, Go.binOp, Op.intCmp, cm]
end
end Go.Sw
