/- A library over the model, part 3: how values lie, what is ours in memory, rules for operations, calls, loops, ranges over functions. Conditions: none. -/
import Derived.Test.YteckohdbfkhmdabSwB
set_option linter.unusedVariables false
set_option linter.unusedSimpArgs false
namespace Go.Sw
open Go Go.RowKit
section
variable {F : Frm} {ops : Array Oper} {os : List Oper} {σ σ' : AS} {its : List Itm} {s s0 : Slot} {d : Option Tmp} {pb : Option Nat} {ty : TypeId} {p : String} {af : Array Edge} {gd : Option (Nat × Bool)} {x y : Operand}
theorem JP2.store {T U : TypeId} {l : List Slot} {i off n : Nat} (g : GK ops σ.g ⟨none, .store U x y, ty, p, af, gd⟩ true) (hx : evS σ.g x = some (.ptr i off)) (he : lkE σ.d i = some (.box T l pb)) (ho : offAt l off = some s0) (hy : evS σ.g y = some s) (hp : s.plain = true) (hsz : Nat.beq s.sz n = true) (hsz0 : Nat.beq s0.sz n = true)
    (hS : ∀ w, (sizeOf U).run F.P w = .ok n w) (k : JP2 F ops os ⟨σ.g, (i, .box T (setOff l off s) pb) :: σ.d⟩ its σ') :
    JP2 F ops (⟨none, .store U x y, ty, p, af, gd⟩ :: os) σ (⟨.top, [(i, .box T (setOff l off s) pb)], false, rdl σ.g ⟨none, .store U x y, ty, p, af, gd⟩⟩ :: its) σ' :=
  .st g rfl (fun σ2 hL => JM.store ((hL.ev (by simp [Op.operands])).trans hx) ((hL.ent (x := x) (by simp [Op.operands]) hx (by simp [Slot.lab])).trans he) ho ((hL.ev (by simp [Op.operands])).trans hy) hp hsz hsz0 hS) k
theorem JP2.storeAll {α : Type} {e : Enc α} {z : α} {T U : TypeId} {l l' : List Slot} {i : Nat} (g : GK ops σ.g ⟨none, .store U x y, ty, p, af, gd⟩ true) (hx : evS σ.g x = some (.ptr i 0)) (he : lkE σ.d i = some (.box T l pb)) (hl : Nat.beq (l.map Slot.sz).sum e.n = true) (hy : evS σ.g y = some (.v e z)) (hl' : Spl l' e z)
    (hS : ∀ w, (sizeOf U).run F.P w = .ok e.n w) (k : JP2 F ops os ⟨σ.g, (i, .box T l' pb) :: σ.d⟩ its σ') :
    JP2 F ops (⟨none, .store U x y, ty, p, af, gd⟩ :: os) σ (⟨.top, [(i, .box T l' pb)], false, rdl σ.g ⟨none, .store U x y, ty, p, af, gd⟩⟩ :: its) σ' :=
  .st g rfl (fun σ2 hL => JM.storeAll ((hL.ev (by simp [Op.operands])).trans hx) ((hL.ent (x := x) (by simp [Op.operands]) hx (by simp [Slot.lab])).trans he) hl ((hL.ev (by simp [Op.operands])).trans hy) hl' hS) k
theorem JP2.storeAgg {T U : TypeId} {l l' : List Slot} {i n : Nat} (g : GK ops σ.g ⟨none, .store U x y, ty, p, af, gd⟩ true) (hx : evS σ.g x = some (.ptr i 0)) (he : lkE σ.d i = some (.box T l pb)) (hl : (l.map Slot.sz).sum = n) (hy : evS σ.g y = some (.agg l')) (hl' : (l'.map Slot.sz).sum = n) (hnt : l'.all Slot.plain = true)
    (hS : ∀ w, (sizeOf U).run F.P w = .ok n w) (k : JP2 F ops os ⟨σ.g, (i, .box T l' pb) :: σ.d⟩ its σ') :
    JP2 F ops (⟨none, .store U x y, ty, p, af, gd⟩ :: os) σ (⟨.top, [(i, .box T l' pb)], false, rdl σ.g ⟨none, .store U x y, ty, p, af, gd⟩⟩ :: its) σ' :=
  .st g rfl (fun σ2 hL => JM.storeAgg ((hL.ev (by simp [Op.operands])).trans hx) ((hL.ent (x := x) (by simp [Op.operands]) hx (by simp [Slot.lab])).trans he) hl ((hL.ev (by simp [Op.operands])).trans hy) hl' hnt hS) k
theorem JP2.storeA {T U : TypeId} {l : List Slot} {i off n : Nat} (g : GK ops σ.g ⟨none, .store U x y, ty, p, af, gd⟩ true) (hx : evS σ.g x = some (.ptr i off)) (he : lkE σ.d i = some (.box T l pb)) (ho : offAt l off = some s0) (hy : ∀ σ, Arg σ false y s) (hp : s.plain = true) (hsz : s.sz = n) (hsz0 : s0.sz = n)
    (hS : ∀ w, (sizeOf U).run F.P w = .ok n w) (k : JP2 F ops os ⟨σ.g, (i, .box T (setOff l off s) pb) :: σ.d⟩ its σ') :
    JP2 F ops (⟨none, .store U x y, ty, p, af, gd⟩ :: os) σ (⟨.top, [(i, .box T (setOff l off s) pb)], false, rdl σ.g ⟨none, .store U x y, ty, p, af, gd⟩⟩ :: its) σ' :=
  .st g rfl (fun σ2 hL => JM.storeA ((hL.ev (by simp [Op.operands])).trans hx) ((hL.ent (x := x) (by simp [Op.operands]) hx (by simp [Slot.lab])).trans he) ho (hy σ2) hp hsz hsz0 hS) k

/-- a function that is a value, and changes what it took with it, is called -/
theorem JM.callMF {f : FuncId} {xs : List Operand} {ts : Array TypeId} {ss cap cap' : List Slot} {res : Slot} {din dout : (Nat → Nat) → List (Nat × Ent)} {D : List (Nat × Ent)} {K H : List Nat} (r : Nat → Nat) (hr : ∀ i j, r i = r j → i = j) (hx : evS σ.g x = some (.fnc f cap')) (hcap : cap' = Slot.maps r cap)
    (hc : ∀ A, ConM F.P f (ss ++ cap) (din A) res (dout A)) (hcall : ∀ args w, (callFunc f args).run F.P w = .ok (.enter f args) w) (ha : ArgsM σ r xs ss) (hin : ∀ A, DinR σ r A (din A)) (hout : ∀ A, DoutR σ r A (dout A) D K)
    (hH : ∀ A, (din A).map (fun x => r x.1) = H) (hst : staysB σ.g (delEs σ.d H) H K = true) (hnew : newB σ H D = true) (hcl : ∀ A, closed res (dout A) = true) (hKH : K.all (fun k => memB k H) = true) (hdst : dstOk d F.N = true) :
    JM F ⟨d, .call ⟨.value x, xs.toArray, ts⟩, ty, p, af, gd⟩ σ ⟨gput d (res.map r) σ.g, D ++ delEs σ.d H⟩ := by
  subst hcap
  rintro a w ⟨⟨ρ, hco, hs⟩, hz, hde⟩
  let A : Nat → Nat := fun i => adr (ρ (r i)).v
  have hA : ∀ i b, (ρ (r i)).v = .pointer (some ⟨b, 0, none⟩) → A i = b := fun i b h => by show adr (ρ (r i)).v = b; rw [h]; rfl
  have hd := (hin A).spec hco.own hA
  have hlow : ∀ k, (Un F.S0 ρ σ.d k ∧ ¬ Owns (fun i => ρ (r i)) (din A) k) → k < w.heap.size := by
    rintro k ⟨h | ⟨i, en, h1, h2⟩, _⟩
    · exact Nat.lt_of_lt_of_le (hco.low k h) hco.size
    · exact (hco.fresh i en k h1 h2).2
  have hU : Un (fun k => Un F.S0 ρ σ.d k ∧ ¬ Owns (fun i => ρ (r i)) (din A) k) (fun i => ρ (r i)) (din A) = Un F.S0 ρ σ.d := by
    funext k
    refine propext ⟨fun h => ?_, fun h => ?_⟩
    · rcases h with h | ⟨i, en, h1, h2⟩
      · exact h.1
      · obtain ⟨⟨en0, h3⟩, _⟩ := hd i en h1; exact .inr ⟨r i, en0, h3, h2⟩
    · by_cases ho : Owns (fun i => ρ (r i)) (din A) k
      · exact .inr ho
      · exact .inl ⟨h, ho⟩
  have hins : Ins (fun k => Un F.S0 ρ σ.d k ∧ ¬ Owns (fun i => ρ (r i)) (din A) k) (fun i => ρ (r i)) w (din A) := by
    refine ⟨fun i en h => ?_, fun i en b h hb => ?_, fun i en b h hb h' => h'.2 ⟨i, en, h, hb⟩, fun i j en en' b hi hj bi bj => ?_⟩
    · rw [hU]; exact (hd i en h).2
    · obtain ⟨⟨en0, h3⟩, _⟩ := hd i en h; exact (hco.fresh _ _ b h3 hb).2
    · obtain ⟨⟨en0, h3⟩, _⟩ := hd i en hi
      obtain ⟨⟨en1, h4⟩, _⟩ := hd j en' hj
      exact hr _ _ (hco.inj _ _ _ _ b h3 h4 bi bj)
  have K := Know.of_st hco hs (Op.call ⟨.value x, xs.toArray, ts⟩).operands
  have hv := ha.spec (ys := (Op.call ⟨.value x, xs.toArray, ts⟩).operands) (fun x hx => by simp [Op.operands, Call.operands, hx]) K
  have h0 := K.slot x (by simp [Op.operands, Call.operands]) _ hx
  simp only [Slot.ok] at h0
  obtain ⟨cs, h1, h2⟩ := h0
  rw [okv_map] at h2
  refine OpWp.enter (run_callF h1 hcall) ((hc A _ w _ _ hlow hins (by rw [hU]; exact okv_append hv h2)).mono ?_)
  rintro e w' ⟨v, ρ', rfl, ho⟩
  exact ⟨v, rfl, St.callM hr hco hs hz hde hA (hin A) (hout A) (hH A) hst hnew (hcl A) hKH hdst ho⟩
end
end Go.Sw

namespace Go.Sw
open Go Go.RowKit
/-- a value as it stands, in a cell -/
def Enc.raw : Enc Value where
  n := 1
  agg := false
  ok x _ _ cs := cs = [x] ∧ x.oneCell' = true
  len h := by rw [h.1]; rfl
  one _ := rfl
  cell h c hc := by rw [h.1] at hc; simp at hc; subst hc; exact h.2
  mono h _ := h
/-- a row of cells that is a slice's, all its own -/
def arrOk {α : Type} (T : TypeId) (e : Enc α) (xs : List α) (S : Nat → Prop) (w : World) (v : Value) : Prop :=
  (xs = [] ∧ v = .slice none 0 0) ∨ ∃ b cap pre cs post, v = .slice (some ⟨b, pre.length, none⟩) xs.length cap ∧
      w.heap[b]? = some (.cells (pre ++ (cs ++ post)).toArray T (0, 0)) ∧ e.okL xs S w cs ∧ xs.length ≤ cap ∧ cap * e.n ≤ cs.length + post.length ∧ xs.length ≤ 140737488355328
theorem arrOk_iff {α : Type} {T : TypeId} {e : Enc α} {xs : List α} {ρ : Nat → LV} {S : Nat → Prop} {w : World} {u : LV} : (Ent.arr T e xs).ok ρ S w u ↔ arrOk T e xs S w u.v := Iff.rfl
theorem arrOk.mono {α : Type} {T : TypeId} {e : Enc α} {xs : List α} {S S' : Nat → Prop} {w w' : World} {v : Value} (h : arrOk T e xs S w v) (k : Ext S S' w w') (hb : ∀ b, blk v = some b → w'.heap[b]? = w.heap[b]?) : arrOk T e xs S' w' v := by
  rcases h with h | ⟨b, cap, pre, cs, post, h1, h2, h3, h4⟩
  · exact .inl h
  · exact .inr ⟨b, cap, pre, cs, post, h1, by rw [hb b (by rw [h1]; rfl)]; exact h2, Enc.okL_mono h3 k, h4⟩
theorem arrOk.slice {α : Type} {T : TypeId} {e : Enc α} {xs : List α} {S : Nat → Prop} {w : World} {v : Value} (h : arrOk T e xs S w v) : ∃ a c, v = .slice a xs.length c := by
  rcases h with ⟨rfl, rfl⟩ | ⟨b, cap, pre, cs, post, h1, _⟩
  · exact ⟨none, 0, rfl⟩
  · exact ⟨_, _, h1⟩
theorem arrOk.lt {α : Type} {T : TypeId} {e : Enc α} {xs : List α} {S : Nat → Prop} {w : World} {v : Value} (h : arrOk T e xs S w v) {b : Nat} (hb : blk v = some b) : b < w.heap.size := by
  rcases h with ⟨rfl, rfl⟩ | ⟨b', cap, pre, cs, post, rfl, h2, _⟩
  · simp [blk] at hb
  · simp [blk] at hb; subst hb; exact (MemAt.of_heap h2).lt
theorem append_run {α : Type} {P : Program} {e : Enc α} {xs ys : List α} {T U ty : TypeId} {ti : TypeInfo} {z : Value} {S : Nat → Prop} {w : World} {v : Value} {ad : Option Addr} {c : Nat} (hlen : xs.length + ys.length ≤ 4294967296)
    (h2 : arrOk T e xs S w v) (h3 : ∀ b, blk v = some b → b < w.heap.size) (hyl : ys.length ≤ c) (h5 : ys = [] ∨ ∃ b off ds, ad = some ⟨b, off, none⟩ ∧ MemAt w b off ds ∧ e.okL ys S w ds)
    (hU : ∀ w, (underlying U).run P w = .ok (.slice T) w) (hI : ∀ w, (typeInfo T).run P w = .ok ti w) (hS : ∀ w, (sizeOf T).run P w = .ok e.n w) (hz : ti.zero = some z) (hzs : z.cells.size = e.n) (hby : Nat.ble ti.bytes 4096 = true) :
    ∃ u w', (Builtin.append_ #[U, U] ty #[v, .slice ad ys.length c]).run P w = .ok u w' ∧ Chg (blk v) w w' ∧ IsRef u ∧ (∀ b, blk u = some b → (blk v = some b ∨ w.heap.size ≤ b) ∧ b < w'.heap.size) ∧
      ∀ S', Ext S S' w w' → arrOk T e (xs ++ ys) S' w' u := by
  have hby := Nat.le_of_ble_eq_true hby
  have hti : ti.size = e.n := size_of hI hS
  have fin : ∀ u w', (Builtin.append_ #[U, U] ty #[v, .slice ad ys.length c]).run P w = .ok u w' → Chg (blk v) w w' → IsRef u → (∀ b, blk u = some b → (blk v = some b ∨ w.heap.size ≤ b) ∧ b < w'.heap.size) →
      (∀ S', Ext S S' w w' → arrOk T e (xs ++ ys) S' w' u) → ∃ u w', (Builtin.append_ #[U, U] ty #[v, .slice ad ys.length c]).run P w = .ok u w' ∧ Chg (blk v) w w' ∧ IsRef u ∧ (∀ b, blk u = some b → (blk v = some b ∨ w.heap.size ≤ b) ∧ b < w'.heap.size) ∧
      ∀ S', Ext S S' w w' → arrOk T e (xs ++ ys) S' w' u := fun u w' a b c d e => ⟨u, w', a, b, c, d, e⟩
  rcases h5 with rfl | ⟨b, off, ds, rfl, hm, hds⟩
  · -- nothing is appended
    rw [List.append_nil] at *
    rcases h2 with ⟨rfl, h2⟩ | ⟨b, cap, pre, cs, post, h2, h6, h7, h8, h9⟩
    · refine fin (.slice none 0 0) w ?_ (Chg.refl _ _) (.inl ⟨_, _, _, rfl⟩) (fun b h => by simp [blk] at h) (fun _ _ => .inl ⟨rfl, rfl⟩)
      rw [h2]; exact run_append0 hU hS (Nat.le_refl _)
    · refine fin v w ?_ (Chg.refl _ _) (.inl ⟨_, _, _, h2⟩) (fun b h => ⟨.inl h, h3 b h⟩) (fun S' hE => ?_)
      · rw [h2]; exact run_append0 hU hS h8
      · exact .inr ⟨b, cap, pre, cs, post, h2, h6, Enc.okL_mono h7 hE, h8, h9⟩
  · have hdl := Enc.okL_len hds
    have hcell := hm.cell
    have hone := Enc.okL_cell hds
    have hEn : ∀ (S' : Nat → Prop) (w' : World) (cs : List Value), Ext S S' w w' → e.okL xs S w cs → e.okL (xs ++ ys) S' w' (cs ++ ds) := fun S' w' cs hE h => Enc.okL_append (Enc.okL_mono h hE) (Enc.okL_mono hds hE)
    have hzl : ∀ q, (Builtin.zeroCells z.cells q).toList.length = q * e.n := fun q => by rw [Array.length_toList, size_zeroCells, hzs]
    by_cases hm0 : ys.length = 0
    · -- the same
      have hy0 : ys = [] := List.eq_nil_of_length_eq_zero hm0
      subst hy0
      rw [List.append_nil] at *
      rcases h2 with ⟨rfl, h2⟩ | ⟨b', cap, pre, cs, post, h2, h6, h7, h8, h9⟩
      · refine fin (.slice none 0 0) w ?_ (Chg.refl _ _) (.inl ⟨_, _, _, rfl⟩) (fun b h => by simp [blk] at h) (fun _ _ => .inl ⟨rfl, rfl⟩)
        rw [h2]; exact run_append0 hU hS (Nat.le_refl _)
      · refine fin v w ?_ (Chg.refl _ _) (.inl ⟨_, _, _, h2⟩) (fun b h => ⟨.inl h, h3 b h⟩) (fun S' hE => ?_)
        · rw [h2]; exact run_append0 hU hS h8
        · exact .inr ⟨b', cap, pre, cs, post, h2, h6, Enc.okL_mono h7 hE, h8, h9⟩
    rcases h2 with ⟨rfl, h2⟩ | ⟨g, cap, pre, cs, post, h2, h6, h7, h8, h9, h10⟩
    · -- to nil
      have hr := run_append_nil (P := P) w U ty T ti z (under_of hU) (info_of hI) hz ⟨b, off, none⟩ ys.length c ds (by rw [hti]; exact hdl) hcell (by omega) (by simp at hlen; omega) (by
        have : ys.length * ti.bytes ≤ 4294967296 * 4096 := Nat.mul_le_mul (by simp at hlen; omega) hby
        omega)
      have hge := grownCap_ge w ys.length 0 T
      refine fin _ _ (by rw [h2]; exact hr) (Chg.alloc _ _ _) (.inl ⟨_, _, _, rfl⟩) (fun b' h => ?_) (fun S' hE => ?_)
      · simp only [blk, Option.some.injEq] at h; subst h; exact ⟨.inr (Nat.le_refl _), by simp⟩
      · have h11 := hEn S' _ [] hE rfl
        simp only [List.nil_append] at h11 ⊢
        refine .inr ⟨w.heap.size, _, [], ds, (Builtin.zeroCells z.cells (grownCap w ys.length 0 T - ys.length)).toList, rfl, ?_, h11, hge, ?_, by simp at hlen; omega⟩
        · rw [show w.heap.size = w.drew.heap.size from rfl, heap_alloc_new]; simp
        · rw [hdl, hzl, ← Nat.add_mul]; exact Nat.mul_le_mul_right _ (by omega)
    · by_cases hroom : xs.length + ys.length ≤ cap
      · -- there is room
        have hcl := Enc.okL_len h7
        have hfit : pre.length + xs.length * e.n + ds.length ≤ (pre ++ (cs ++ post)).length := by
          have : (xs.length + ys.length) * e.n ≤ cap * e.n := Nat.mul_le_mul_right _ hroom
          rw [Nat.add_mul] at this
          simp only [List.length_append]; omega
        have hr := run_append_at (P := P) (w := w) (tt := ty) (cap := cap) (c := c) hU hS h6 (by exact hdl) hcell hone hroom hfit
        have e1 : (pre ++ (cs ++ post)).take (pre.length + xs.length * e.n) = pre ++ cs := by
          rw [← List.append_assoc, ← hcl, ← List.length_append]; exact List.take_left
        have e2 : (pre ++ (cs ++ post)).drop (pre.length + xs.length * e.n + ds.length) = post.drop ds.length := by
          rw [← List.append_assoc, ← hcl, ← List.length_append, List.drop_append]
          simp
        rw [e1, e2] at hr
        refine fin _ _ (by rw [h2]; exact hr) (by rw [h2]; exact Chg.setRow w g _) (.inl ⟨_, _, _, rfl⟩) (fun b' h => ?_) (fun S' hE => ?_)
        · rw [h2]
          simp only [blk, Option.some.injEq] at h ⊢; subst h
          exact ⟨.inl rfl, by have := (MemAt.of_heap h6).lt; simpa [World.setRow] using this⟩
        · refine .inr ⟨g, cap, pre, cs ++ ds, post.drop ds.length, by simp, ?_, hEn S' _ cs hE h7, by simpa using hroom, ?_, by simp; omega⟩
          · have := setRow_heap w g _ (pre ++ cs ++ ds ++ post.drop ds.length).toArray T _ h6
            rw [this]; simp
          · have : (xs.length + ys.length) * e.n ≤ cap * e.n := Nat.mul_le_mul_right _ hroom
            rw [Nat.add_mul] at this
            simp only [List.length_append, List.length_drop]; omega
      · -- it grows
        have hcl := Enc.okL_len h7
        have hm2 : MemAt w g pre.length cs := by have := (MemAt.of_heap h6).sub; simpa using this
        have hr := run_append_grow (P := P) w U ty T ti z (under_of hU) (info_of hI) hz ⟨g, pre.length, none⟩ xs.length cap cs (by rw [hti]; exact hcl) hm2.cell ⟨b, off, none⟩ ys.length c ds (by rw [hti]; exact hdl) hcell (by omega) (by omega) (growslice_fits (by omega) (by
          have : (xs.length + ys.length) * ti.bytes ≤ 4294967296 * 4096 := Nat.mul_le_mul hlen hby
          omega))
        have hge := grownCap_ge w (xs.length + ys.length) cap T
        refine fin _ _ (by rw [h2]; exact hr) (Chg.alloc _ _ _) (.inl ⟨_, _, _, rfl⟩) (fun b' h => ?_) (fun S' hE => ?_)
        · simp only [blk, Option.some.injEq] at h; subst h; exact ⟨.inr (Nat.le_refl _), by simp⟩
        · refine .inr ⟨w.heap.size, grownCap w (xs.length + ys.length) cap T, [], cs ++ ds, (Builtin.zeroCells z.cells (grownCap w (xs.length + ys.length) cap T - (xs.length + ys.length))).toList, by simp, ?_, hEn S' _ cs hE h7, by simpa using hge, ?_, by simp; omega⟩
          · rw [show w.heap.size = w.drew.heap.size from rfl, heap_alloc_new]
            have : cs.toArray ++ ds.toArray ++ Builtin.zeroCells z.cells (grownCap w (xs.length + ys.length) cap T - (xs.length + ys.length)) =
                ([] ++ ((cs ++ ds) ++ (Builtin.zeroCells z.cells (grownCap w (xs.length + ys.length) cap T - (xs.length + ys.length))).toList)).toArray := by
              apply Array.ext'; simp
            rw [this]
          · rw [List.length_append, hcl, hdl, hzl, ← Nat.add_mul, ← Nat.add_mul]; exact Nat.mul_le_mul_right _ (by omega)
end Go.Sw

namespace Go.Sw
open Go Go.RowKit

/-! ### entries told anew in the same memory -/
theorem Core.regroup {F : Frm} {d d' : List (Nat × Ent)} {ρ ρ' : Nat → LV} {w : World} (hc : Core F d ρ w)
    (hU : ∀ l en b, lkE d' l = some en → Has (ρ' l) b → ∃ l0 en0, lkE d l0 = some en0 ∧ Has (ρ l0) b)
    (hin : ∀ i j en en' b, lkE d' i = some en → lkE d' j = some en' → Has (ρ' i) b → Has (ρ' j) b → i = j)
    (hown : Ext (Un F.S0 ρ d) (Un F.S0 ρ' d') w w → ∀ l en, lkE d' l = some en → en.ok ρ' (Un F.S0 ρ' d') w (ρ' l)) :
    Core F d' ρ' w ∧ Ext (Un F.S0 ρ d) (Un F.S0 ρ' d') w w := by
  have hE : Ext (Un F.S0 ρ d) (Un F.S0 ρ' d') w w := ⟨Nat.le_refl _, fun k _ hk => ⟨rfl, fun h => hk (by
    rcases h with h | ⟨l, en, h1, h2⟩
    · exact .inl h
    · obtain ⟨l0, en0, h3, h4⟩ := hU l en k h1 h2
      exact .inr ⟨l0, en0, h3, h4⟩)⟩⟩
  refine ⟨⟨hc.low, hc.size, hc.frame, hc.os, hc.tape, hc.output, hown hE, fun i en b h hb => ?_, hin, fun i en b h hb => ?_⟩, hE⟩
  · obtain ⟨l0, en0, h3, h4⟩ := hU i en b h hb; exact hc.fresh l0 en0 b h3 h4
  · obtain ⟨l0, en0, h3, h4⟩ := hU i en b h hb; exact hc.apart l0 en0 b h3 h4

structure Rws {α : Type} (T2 : TypeId) (e : Enc α) (xss : List (List α)) (o : Option Nat) (S : Nat → Prop) (w : World) (x : Nat → Prop) (b0 : Option Nat) (hs : List Value) : Prop where
  len : hs.length = xss.length
  ok : ∀ j xs h, o ≠ some j → xss[j]? = some xs → hs[j]? = some h → arrOk T2 e xs S w h
  own : ∀ j h k, o ≠ some j → hs[j]? = some h → blk h = some k → x k ∧ b0 ≠ some k
  inj : ∀ j j' h h' k, o ≠ some j → o ≠ some j' → hs[j]? = some h → hs[j']? = some h' → blk h = some k → blk h' = some k → j = j'
/-- a slice of slices, all of them our own; one of them may be told by a label of its own -/
def DE.arrs {α : Type} (T T2 : TypeId) (e : Enc α) : DE (List (List α) × Option Nat) where
  ok q S w u l := ∃ hs, arrOk T Enc.raw hs S w u.v ∧ Rws T2 e q.1 q.2 S w u.x (blk u.v) hs ∧ ∀ j, q.2 = some j → hs[j]? = l.head?
  mono := by
    rintro q S S' w w' u l ⟨hs, h1, h2, h3⟩ hE hb
    refine ⟨hs, h1.mono hE (fun b h => hb b (.inl h)), ⟨h2.len, fun j xs h ho hx hh => (h2.ok j xs h ho hx hh).mono hE (fun b hb' => hb b (.inr (h2.own j h b ho hh hb').1)), h2.own, h2.inj⟩, h3⟩
/-- a slice literal of one slice of our own -/
def DE.ref1 (T : TypeId) : DE Unit where
  ok _ _ w u l := ∃ b v, l = [v] ∧ v.oneCell' = true ∧ u.v = .slice (some ⟨b, 0, none⟩) 1 1 ∧ w.heap[b]? = some (.cells #[v] T (0, 0))
  mono := by
    rintro q S S' w w' u l ⟨b, v, h1, h2, h3, h4⟩ _ hb
    exact ⟨b, v, h1, h2, h3, by rw [hb b (.inl (by rw [h3]; rfl))]; exact h4⟩
section
variable {F : Frm} {σ : AS} {pb : Option Nat} {s : Slot} {d : Option Tmp} {ty : TypeId} {p : String} {af : Array Edge} {gd : Option (Nat × Bool)} {x y : Operand} {α : Type} {e : Enc α} {T T2 U : TypeId} {xss : List (List α)} {i j : Nat}
theorem raw_okL {hs : List Value} {S w cs} (h : Enc.raw.okL hs S w cs) : cs = hs := by
  induction hs generalizing cs with
  | nil => exact h
  | cons v hs ih =>
    obtain ⟨c, d, h1, h2, h3⟩ := h
    rw [h1, ih h3, h2.1]; rfl
theorem raw_okL_mk {hs : List Value} {S w} (h : ∀ v ∈ hs, v.oneCell' = true) : Enc.raw.okL hs S w hs := by
  induction hs with
  | nil => rfl
  | cons v hs ih => exact ⟨[v], hs, rfl, ⟨rfl, h v (by simp)⟩, ih fun u hu => h u (by simp [hu])⟩
theorem lkE_new {dd : List (Nat × Ent)} {l k : Nat} {en en' : Ent} (h : lkE ((k, en') :: dd) l = some en) : (l = k ∧ en = en') ∨ (l ≠ k ∧ lkE dd l = some en) := by
  rw [lkE_cons] at h
  split at h
  · rename_i hk; cases h; exact .inl ⟨hk.symm, rfl⟩
  · rename_i hk; exact .inr ⟨fun e => hk e.symm, h⟩

theorem JO.lenD {q : Option Nat} {ls : List Nat} {E : TypeId} (hx : evS σ.g x = some (.ref i)) (he : lkE σ.d i = some (.dp (DE.arrs T T2 e) (xss, q) ls)) (hU : ∀ w, (underlying U).run F.P w = .ok (.slice E) w) :
    JO F ⟨d, .call ⟨.builtin .len, #[x], #[U]⟩, ty, p, af, gd⟩ σ (.v (Enc.int .i64) xss.length) [] := by
  intro ρ S a w K
  obtain ⟨h1, ⟨hs, h2, h3, _⟩, _⟩ := K_ref K (x := x) (by simp [Op.operands, Call.operands]) hx he
  obtain ⟨ad, c, h4⟩ := h2.slice
  have hl : hs.length ≤ 9223372036854775807 := by
    rcases h2 with ⟨rfl, _⟩ | ⟨b, cap, pre, cs, post, _, _, _, _, _, h⟩
    · simp
    · omega
  rw [← h3.len]
  refine OpWp.value (w' := w) (v := .int .i64 hs.length) ?_ (Res.same (int_ok (len_in hl) ρ S w))
  simp [execOp, resolve, invoke, builtin, h1, h4, run_len hU]
theorem JO.idxD {E : TypeId} {k : IntKind} {n : Int} {z : List α} {q : Option Nat} {ls : List Nat} (hz : Sw.idx xss n = some z) (hx : evS σ.g x = some (.ref i)) (he : lkE σ.d i = some (.dp (DE.arrs T T2 e) (xss, q) ls)) (hy : evS σ.g y = some (.v (Enc.int k) n))
    (hU : ∀ w, (underlying U).run F.P w = .ok (.slice E) w) (hE : ∀ w, (sizeOf E).run F.P w = .ok 1 w) : JO F ⟨d, .indexAddr U x y, ty, p, af, gd⟩ σ (.el i n.toNat 1 0) [] := by
  intro ρ S a w K
  obtain ⟨h1, ⟨hs, h2, h2', _⟩, _⟩ := K_ref K (x := x) (by simp [Op.operands]) hx he
  have hn := (K_int K (x := y) (by simp [Op.operands]) hy).1
  obtain ⟨i0, i1, i2⟩ := idx_some hz
  have hlen : n < (hs.length : Int) := by rw [h2'.len]; show n < (xss.length : Int); omega
  rcases h2 with ⟨rfl, _⟩ | ⟨b, cap, pre, cs, post, h3, _⟩
  · simp at hlen; omega
  refine OpWp.value (w' := w) (v := .pointer (some ⟨b, pre.length + n.toNat * 1, none⟩)) ?_ (Res.same (by simp only [Slot.ok]; exact ⟨⟨b, _, _, _, h3⟩, by rw [h3]; simp [ptrEl]⟩))
  have := run_indexAt (P := F.P) (w := w) (b := b) (off := pre.length) (cap := cap) (k := k) hU hE i0 hlen
  simp only [execOp, h1, hn, h3]
  simp [this]
theorem Has_mk {v : Value} {x : Nat → Prop} {b : Nat} : Has ⟨v, x⟩ b ↔ blk v = some b ∨ x b := Iff.rfl
/-- a slice out of a slice of slices is told by a label of its own -/
theorem JM.openD {U : TypeId} {k : Nat} {z : List α} (j : Nat) (hz : xss[k]? = some z) (hx : evS σ.g x = some (.el i k 1 0)) (he : lkE σ.d i = some (.dp (DE.arrs T T2 e) (xss, none) []))
    (hA : ∀ w, (isAgg U).run F.P w = .ok false w) (hS : ∀ w, (sizeOf U).run F.P w = .ok 1 w) (hf : σ.free [(j, .arr T2 e z)] = true) (hd : dstOk d F.N = true) :
    JM F ⟨d, .load U x, ty, p, af, gd⟩ σ ⟨gput d (.ref j) σ.g, (j, .arr T2 e z) :: (i, .dp (DE.arrs T T2 e) (xss, some k) [j]) :: σ.d⟩ := by
  rintro a w ⟨⟨ρ, hc, hs⟩, hsz, hde⟩
  have K := Know.of_st hc hs (Op.load U x).operands
  have hxk := K.slot x (by simp [Op.operands]) _ hx
  simp only [Slot.ok] at hxk
  obtain ⟨⟨b0, o0, l0, c0, h1⟩, h2⟩ := hxk
  obtain ⟨hh, h3, h4, _⟩ := hc.own i _ he
  have hfr := AS.free_spec hf (i := j) (en := .arr T2 e z) (by simp [lkE])
  have hij : j ≠ i := fun e => by subst e; rw [hfr.2.1] at he; cases he
  have hk : k < hh.length := by
    rw [h4.len]; rcases Nat.lt_or_ge k xss.length with h | h
    · exact h
    · rw [List.getElem?_eq_none h] at hz; cases hz
  obtain ⟨hk', hhk⟩ : ∃ v, hh[k]? = some v := ⟨_, List.getElem?_eq_getElem hk⟩
  have harr : arrOk T2 e z (Un F.S0 ρ σ.d) w hk' := h4.ok k z hk' (by simp) hz hhk
  obtain ⟨ah, ch, hsl⟩ := harr.slice
  -- the cell
  have hm : MemAt w b0 (o0 + k) [hk'] := by
    rcases h3 with ⟨rfl, h3⟩ | ⟨b, cap, pre, cs, post, h3, h5, h6, _⟩
    · simp at hk
    · rw [h1] at h3
      simp only [Value.slice.injEq, Option.some.injEq, Addr.mk.injEq, and_true] at h3
      obtain ⟨⟨rfl, rfl⟩, _⟩ := h3
      have := raw_okL h6; subst this
      refine ⟨_, _, _, h5, fun q hq => ?_⟩
      have hq0 : q = 0 := by simpa using hq
      subst hq0
      simp only [Nat.add_zero, List.getElem?_toArray, List.getElem_cons_zero]
      rw [List.getElem?_append_right (by omega), Nat.add_sub_cancel_left, List.getElem?_append_left hk]; exact hhk
  have hrun : (execOp a.eval ⟨d, .load U x, ty, p, af, gd⟩).run F.P w = .ok (.value hk') w := by
    have h5 : (loadVar U ⟨b0, o0 + k, none⟩).run F.P w = .ok (Enc.raw.pk [hk']) w := load_e (e := Enc.raw) (x := hk') (S := fun _ => False) (w0 := w) hm ⟨rfl, by rw [hsl]; rfl⟩ hA hS
    have h6 : a.eval x = .pointer (some ⟨b0, o0 + k, none⟩) := by rw [h2, h1]; simp [ptrEl]
    simp only [execOp, h6]
    simp [Instr.loadAt, Instr.sureAddr, h5, Enc.pk, Enc.raw]
  refine OpWp.value hrun ?_
  let ρ' : Nat → LV := fun l => if l = j then .of hk' else if l = i then ⟨(ρ i).v, fun b => (ρ i).x b ∧ blk hk' ≠ some b⟩ else ρ l
  have rj : ρ' j = .of hk' := if_pos rfl
  have ri : ρ' i = ⟨(ρ i).v, fun b => (ρ i).x b ∧ blk hk' ≠ some b⟩ := by show (if i = j then _ else _) = _; rw [if_neg (Ne.symm hij), if_pos rfl]
  have ro : ∀ l, l ≠ j → l ≠ i → ρ' l = ρ l := fun l h1 h2 => by show (if l = j then _ else _) = _; rw [if_neg h1, if_neg h2]
  have rv : ∀ l, l ≠ j → (ρ' l).v = (ρ l).v := fun l h1 => by
    by_cases h2 : l = i
    · subst h2; rw [ri]
    · rw [ro l h1 h2]
  have hl : ∀ l en, lkE ((j, .arr T2 e z) :: (i, .dp (DE.arrs T T2 e) (xss, some k) [j]) :: σ.d) l = some en → (l = j ∧ en = .arr T2 e z) ∨ (l = i ∧ en = .dp (DE.arrs T T2 e) (xss, some k) [j]) ∨ (l ≠ j ∧ l ≠ i ∧ lkE σ.d l = some en) := by
    intro l en h
    rcases lkE_new h with h | ⟨h0, h⟩
    · exact .inl h
    · rcases lkE_new h with h | ⟨h5, h⟩
      · exact .inr (.inl h)
      · exact .inr (.inr ⟨h0, h5, h⟩)
  have hown := fun b (hb : blk hk' = some b) => h4.own k hk' b (by simp) hhk hb
  have hsub : ∀ l en b, lkE ((j, .arr T2 e z) :: (i, .dp (DE.arrs T T2 e) (xss, some k) [j]) :: σ.d) l = some en → Has (ρ' l) b → ∃ l0 en0, lkE σ.d l0 = some en0 ∧ Has (ρ l0) b := by
    intro l en b h hb
    rcases hl l en h with ⟨rfl, rfl⟩ | ⟨rfl, rfl⟩ | ⟨h5, h6, h7⟩
    · rw [rj, Has_of] at hb; exact ⟨i, _, he, .inr (hown b hb).1⟩
    · rw [ri, Has_mk] at hb
      exact ⟨l, _, he, hb.imp id And.left⟩
    · rw [ro l h5 h6] at hb; exact ⟨l, en, h7, hb⟩
  have hji : ∀ b, Has (ρ' j) b → Has (ρ' i) b → False := by
    intro b hb hb'
    rw [rj, Has_of] at hb; rw [ri, Has_mk] at hb'
    rcases hb' with hb' | hb'
    · exact (hown b hb).2 hb'
    · exact hb'.2 hb
  have hoth : ∀ l en b, l ≠ i → lkE σ.d l = some en → Has (ρ l) b → ¬ Has (ρ' j) b ∧ ¬ Has (ρ' i) b := by
    intro l en b hli hlk hb
    refine ⟨fun h => ?_, fun h => ?_⟩
    · rw [rj, Has_of] at h; exact hli (hc.inj l i en _ b hlk he hb (.inr (hown b h).1))
    · rw [ri, Has_mk] at h; exact hli (hc.inj l i en _ b hlk he hb (h.imp id And.left))
  obtain ⟨q1, q2⟩ := hc.regroup hsub (by
    intro l l' en en' b h h' hb hb'
    rcases hl l en h with ⟨rfl, rfl⟩ | ⟨rfl, rfl⟩ | ⟨h5, h6, h7⟩ <;> rcases hl l' en' h' with ⟨rfl, rfl⟩ | ⟨rfl, rfl⟩ | ⟨h5', h6', h7'⟩
    · rfl
    · exact (hji b hb hb').elim
    · rw [ro l' h5' h6'] at hb'; exact ((hoth l' en' b h6' h7' hb').1 hb).elim
    · exact (hji b hb' hb).elim
    · rfl
    · rw [ro l' h5' h6'] at hb'; exact ((hoth l' en' b h6' h7' hb').2 hb).elim
    · rw [ro l h5 h6] at hb; exact ((hoth l en b h6 h7 hb).1 hb').elim
    · rw [ro l h5 h6] at hb; exact ((hoth l en b h6 h7 hb).2 hb').elim
    · rw [ro l h5 h6] at hb; rw [ro l' h5' h6'] at hb'; exact hc.inj l l' en en' b h7 h7' hb hb') (by
    intro hE l en h
    rcases hl l en h with ⟨rfl, rfl⟩ | ⟨rfl, rfl⟩ | ⟨h5, h6, h7⟩
    · rw [rj]; exact harr.mono hE (fun _ _ => rfl)
    · rw [ri]
      refine ⟨hh, h3.mono hE (fun _ _ => rfl), ⟨h4.len, fun q xs h ho hx hh' => (h4.ok q xs h (by simp) hx hh').mono hE (fun _ _ => rfl), fun q h b ho hq hb => ?_, fun q q' h h' b _ _ => h4.inj q q' h h' b (by simp) (by simp)⟩, fun q hq => ?_⟩
      · obtain ⟨k1, k2⟩ := h4.own q h b (by simp) hq hb
        exact ⟨⟨k1, fun hc' => ho (by rw [h4.inj k q hk' h b (by simp) (by simp) hhk hq hc' hb])⟩, k2⟩
      · have : q = k := by simpa using hq.symm
        subst this
        simp only [List.map_cons, List.map_nil, List.head?_cons, rj]; exact hhk
    · rw [ro l h5 h6]
      exact Ent.ok_mono (hc.own l en h7) hE (fun q hq => rv q fun e' => by subst e'; exact hfr.2.2 l en h7 hq) (fun _ _ => rfl))
  refine ⟨⟨ρ', q1, fun t s' ht => ?_⟩, by rw [Act.size_put, hsz], by cases d <;> exact hde⟩
  have hold : ∀ t s, lk σ.g t = some s → s.ok ρ' (Un F.S0 ρ' ((j, .arr T2 e z) :: (i, .dp (DE.arrs T T2 e) (xss, some k) [j]) :: σ.d)) w (a.tmps.getD t undef) := fun t s ht =>
    Slot.ok_mono s _ (hs t s ht) q2 (fun q hq => rv q fun e' => hfr.1 t s ht (e' ▸ hq))
  cases d with
  | none => exact hold t s' ht
  | some q =>
    simp only [gput] at ht
    have hlt : q < a.tmps.size := by rw [hsz]; exact Nat.le_of_ble_eq_true hd
    rw [Act.getD_put a q hk' t hlt]
    rw [lk_cons] at ht
    split at ht
    · rename_i h5; cases ht; rw [if_pos h5]
      simp only [Slot.ok]
      exact ⟨by rw [rj]; exact .inl ⟨_, _, _, hsl⟩, by rw [rj]; rfl⟩
    · rename_i h5; rw [if_neg h5]; exact hold t s' ht
/-- and back -/
theorem Sub.closeD {k : Nat} {ys : List α} {g : List (Nat × Slot)} (hij : Nat.beq i j = false) (hk : k < xss.length) (he : lkE σ.d i = some (.dp (DE.arrs T T2 e) (xss, some k) [j])) (hj : lkE σ.d j = some (.arr T2 e ys)) (hg : g = σ.g) :
    Sub F σ ⟨g, (i, .dp (DE.arrs T T2 e) (xss.set k ys, none) []) :: delE σ.d j⟩ := by
  subst hg
  have hij : i ≠ j := fun e => by subst e; simp at hij
  rintro a w ⟨⟨ρ, hc, hs⟩, hsz, hde⟩
  obtain ⟨hh, h3, h4, h5⟩ := hc.own i _ he
  have h5 := h5 k rfl
  simp only [List.map_cons, List.map_nil, List.head?_cons] at h5
  have harr : arrOk T2 e ys (Un F.S0 ρ σ.d) w (ρ j).v := hc.own j _ hj
  let ρ' : Nat → LV := fun l => if l = i then ⟨(ρ i).v, fun b => (ρ i).x b ∨ Has (ρ j) b⟩ else ρ l
  have ri : ρ' i = ⟨(ρ i).v, fun b => (ρ i).x b ∨ Has (ρ j) b⟩ := if_pos rfl
  have ro : ∀ l, l ≠ i → ρ' l = ρ l := fun l h => if_neg h
  have rv : ∀ l, (ρ' l).v = (ρ l).v := fun l => by
    by_cases h2 : l = i
    · subst h2; rw [ri]
    · rw [ro l h2]
  have hl : ∀ l en, lkE ((i, .dp (DE.arrs T T2 e) (xss.set k ys, none) []) :: delE σ.d j) l = some en → (l = i ∧ en = .dp (DE.arrs T T2 e) (xss.set k ys, none) []) ∨ (l ≠ i ∧ l ≠ j ∧ lkE σ.d l = some en) := by
    intro l en h
    rcases lkE_new h with h | ⟨h0, h⟩
    · exact .inl h
    · rw [lkE_del] at h
      split at h
      · cases h
      · rename_i h6; exact .inr ⟨h0, h6, h⟩
  have hsub : ∀ l en b, lkE ((i, .dp (DE.arrs T T2 e) (xss.set k ys, none) []) :: delE σ.d j) l = some en → Has (ρ' l) b → ∃ l0 en0, lkE σ.d l0 = some en0 ∧ Has (ρ l0) b := by
    intro l en b h hb
    rcases hl l en h with ⟨rfl, rfl⟩ | ⟨h6, _, h7⟩
    · rw [ri, Has_mk] at hb
      rcases hb with hb | hb | hb
      · exact ⟨l, _, he, .inl hb⟩
      · exact ⟨l, _, he, .inr hb⟩
      · exact ⟨j, _, hj, hb⟩
    · rw [ro l h6] at hb; exact ⟨l, en, h7, hb⟩
  have hoth : ∀ l en b, l ≠ i → l ≠ j → lkE σ.d l = some en → Has (ρ l) b → ¬ Has (ρ' i) b := by
    intro l en b hli hlj hlk hb h
    rw [ri, Has_mk] at h
    rcases h with h | h | h
    · exact hli (hc.inj l i en _ b hlk he hb (.inl h))
    · exact hli (hc.inj l i en _ b hlk he hb (.inr h))
    · exact hlj (hc.inj l j en _ b hlk hj hb h)
  obtain ⟨q1, q2⟩ := hc.regroup hsub (by
    intro l l' en en' b h h' hb hb'
    rcases hl l en h with ⟨rfl, rfl⟩ | ⟨h6, h7, h8⟩ <;> rcases hl l' en' h' with ⟨rfl, rfl⟩ | ⟨h6', h7', h8'⟩
    · rfl
    · rw [ro l' h6'] at hb'; exact (hoth l' en' b h6' h7' h8' hb' hb).elim
    · rw [ro l h6] at hb; exact (hoth l en b h6 h7 h8 hb hb').elim
    · rw [ro l h6] at hb; rw [ro l' h6'] at hb'; exact hc.inj l l' en en' b h8 h8' hb hb') (by
    intro hE l en h
    rcases hl l en h with ⟨rfl, rfl⟩ | ⟨h6, h7, h8⟩
    · rw [ri]
      refine ⟨hh, h3.mono hE (fun _ _ => rfl), ⟨by rw [h4.len]; simp, fun q xs h _ hx hh' => ?_, fun q v b _ hq hb => ?_, fun q q' v v' b _ _ hq hq' hb hb' => ?_⟩, fun q hq => by cases hq⟩
      · by_cases hqk : q = k
        · subst hqk
          rw [h5] at hh'; cases hh'
          have : xs = ys := by simpa [List.getElem?_set, hk] using hx.symm
          subst this
          exact harr.mono hE (fun _ _ => rfl)
        · refine (h4.ok q xs h (by simpa using fun e => hqk e.symm) ?_ hh').mono hE (fun _ _ => rfl)
          have hx' : (xss.set k ys)[q]? = some xs := hx
          rwa [List.getElem?_set_ne (Ne.symm hqk)] at hx'
      · by_cases hqk : q = k
        · subst hqk
          rw [h5] at hq; cases hq
          exact ⟨.inr (.inl hb), fun hc' => hij (hc.inj l j _ _ b he hj (.inl hc') (.inl hb))⟩
        · obtain ⟨k1, k2⟩ := h4.own q v b (by simpa using fun e => hqk e.symm) hq hb
          exact ⟨.inl k1, k2⟩
      · by_cases hqk : q = k
        · subst hqk
          rw [h5] at hq; cases hq
          by_cases hqk' : q' = q
          · exact hqk'.symm
          · obtain ⟨k1, _⟩ := h4.own q' v' b (by simpa using fun e => hqk' e.symm) hq' hb'
            exact (hij (hc.inj l j _ _ b he hj (.inr k1) (.inl hb))).elim
        · by_cases hqk' : q' = k
          · subst hqk'
            rw [h5] at hq'; cases hq'
            obtain ⟨k1, _⟩ := h4.own q v b (by simpa using fun e => hqk e.symm) hq hb
            exact (hij (hc.inj l j _ _ b he hj (.inr k1) (.inl hb'))).elim
          · exact h4.inj q q' v v' b (by simpa using fun e => hqk e.symm) (by simpa using fun e => hqk' e.symm) hq hq' hb hb'
    · rw [ro l h6]
      exact Ent.ok_mono (hc.own l en h8) hE (fun q _ => rv q) (fun _ _ => rfl))
  exact ⟨⟨ρ', q1, fun t s ht => Slot.ok_mono s _ (hs t s ht) q2 (fun q _ => rv q)⟩, hsz, hde⟩
end
end Go.Sw

namespace Go.Sw
open Go Go.RowKit
/-- entries told anew, where one block of ours changed and others are new -/
theorem Core.step {F : Frm} {d d' : List (Nat × Ent)} {ρ ρ' : Nat → LV} {w w' : World} (hc : Core F d ρ w) {c : Option Nat} (hch : Chg c w w') (hco : ∀ b, c = some b → ∃ l en, lkE d l = some en ∧ Has (ρ l) b)
    (hU : ∀ l en b, lkE d' l = some en → Has (ρ' l) b → (w.heap.size ≤ b ∧ b < w'.heap.size) ∨ ∃ l0 en0, lkE d l0 = some en0 ∧ Has (ρ l0) b)
    (hin : ∀ i j en en' b, lkE d' i = some en → lkE d' j = some en' → Has (ρ' i) b → Has (ρ' j) b → i = j)
    (hown : Ext (Un F.S0 ρ d) (Un F.S0 ρ' d') w w' → ∀ l en, lkE d' l = some en → en.ok ρ' (Un F.S0 ρ' d') w' (ρ' l)) :
    Core F d' ρ' w' ∧ Ext (Un F.S0 ρ d) (Un F.S0 ρ' d') w w' := by
  have hE : Ext (Un F.S0 ρ d) (Un F.S0 ρ' d') w w' := ⟨hch.size, fun k hk hn => ⟨hch.other k hk (fun e => hn (by obtain ⟨l, en, h1, h2⟩ := hco k e.symm; exact .inr ⟨l, en, h1, h2⟩)), fun h => hn (by
    rcases h with h | ⟨l, en, h1, h2⟩
    · exact .inl h
    · rcases hU l en k h1 h2 with h | ⟨l0, en0, h3, h4⟩
      · omega
      · exact .inr ⟨l0, en0, h3, h4⟩)⟩⟩
  refine ⟨⟨hc.low, Nat.le_trans hc.size hch.size, fun k hk hr => ?_, hch.os.trans hc.os, hch.tape.trans hc.tape, hch.output.trans hc.output, hown hE, fun i en b h hb => ?_, hin, fun i en b h hb => ?_⟩, hE⟩
  · rw [hch.other k (Nat.lt_of_lt_of_le hk hc.size) (fun e => ?_)]
    · exact hc.frame k hk hr
    · obtain ⟨l, en, h1, h2⟩ := hco k e.symm
      rcases (hc.fresh l en k h1 h2).1 with h | h
      · omega
      · exact hr h
  · rcases hU i en b h hb with h3 | ⟨l0, en0, h3, h4⟩
    · exact ⟨.inl (Nat.le_trans hc.size h3.1), h3.2⟩
    · exact ⟨(hc.fresh l0 en0 b h3 h4).1, Nat.lt_of_lt_of_le (hc.fresh l0 en0 b h3 h4).2 hch.size⟩
  · rcases hU i en b h hb with h3 | ⟨l0, en0, h3, h4⟩
    · intro h5; have := hc.low b h5; have := hc.size; omega
    · exact hc.apart l0 en0 b h3 h4
section
variable {F : Frm} {σ : AS} {pb : Option Nat} {s : Slot} {d : Option Tmp} {ty : TypeId} {p : String} {af : Array Edge} {gd : Option (Nat × Bool)} {x y z : Operand} {α : Type} {e : Enc α} {T T2 U : TypeId} {xss : List (List α)} {i j m : Nat}
/-- a literal of one slice of our own -/
theorem JO.lit1 {E : TypeId} {zv : Value} {en : Ent} (m : Nat) (hx : evS σ.g x = some (.ref j)) (he : lkE σ.d j = some en) (hU : ∀ w, (underlying U).run F.P w = .ok (.slice E) w) (hS : ∀ w, (sizeOf E).run F.P w = .ok 1 w) (hz : ∀ w, (zeroValue E).run F.P w = .ok zv w)
    (hm : Nat.beq j m = false) : JO F ⟨d, .buildSlice U 1 #[(0, x)], ty, p, af, gd⟩ σ (.ref m) [(m, .dp (DE.ref1 E) () [j])] := by
  have hjm : j ≠ m := fun e => by subst e; simp at hm
  intro ρ S a w K
  have h0 := K.slot x (by simp [Op.operands]) _ hx
  simp only [Slot.ok] at h0
  obtain ⟨hr, h1⟩ := h0
  have hone : (a.eval x).oneCell' = true ∧ (a.eval x).cells = #[a.eval x] := by
    rw [h1]
    rcases hr with ⟨q, l, c, h⟩ | ⟨q, h⟩ <;> rw [h] <;> exact ⟨rfl, rfl⟩
  obtain ⟨ds, h2, h3⟩ := run_lit (P := F.P) (w := w) (U := U) (len := 1) (parts := #[(0, a.eval x)]) (R := fun ds => ds = [a.eval x]) hU hS hz (by decide) (fun rest hrest => by
    obtain ⟨r0, rfl⟩ := List.length_eq_one_iff.1 hrest
    refine ⟨[a.eval x], ?_, rfl⟩
    simp [hone.2, Instr.fill])
  subst h2
  refine OpWp.value (w' := w.alloc (.cells [a.eval x].toArray E)) (v := .slice (some ⟨w.heap.size, 0, none⟩) 1 1) (by simp [execOp, h3]) (Res.new1 (.slice (some ⟨w.heap.size, 0, none⟩) 1 1) (below_alloc _ _) (by simp [Ent.lab, hm]) ?_ ?_ ?_)
  · intro b h; simp only [blk, Option.some.injEq] at h; subst h; exact ⟨Nat.le_refl _, by simp⟩
  · intro S' ρ' _ ha
    refine ⟨w.heap.size, a.eval x, ?_, hone.1, rfl, by rw [heap_alloc_new]⟩
    simp only [List.map_cons, List.map_nil]
    rw [ha j (by simp [Ent.lab]), h1]
  · intro S' ρ' _ hi _
    simp only [Slot.ok]; exact ⟨by rw [hi]; exact .inl ⟨_, _, _, rfl⟩, hi.symm⟩
/-- a slice of our own is put behind the others -/
theorem JM.appendD {zs : List α} {yss : List (List α)} {ti : TypeInfo} {zv : Value} (i' : Nat) (happ : app xss [zs] = some yss) (hx : evS σ.g x = some (.ref i)) (he : lkE σ.d i = some (.dp (DE.arrs T T2 e) (xss, none) []))
    (hy : evS σ.g y = some (.ref m)) (hm : lkE σ.d m = some (.dp (DE.ref1 T) () [j])) (hj : lkE σ.d j = some (.arr T2 e zs))
    (hU : ∀ w, (underlying U).run F.P w = .ok (.slice T) w) (hI : ∀ w, (typeInfo T).run F.P w = .ok ti w) (hS : ∀ w, (sizeOf T).run F.P w = .ok 1 w) (hz : ti.zero = some zv) (hzs : zv.cells.size = 1) (hby : Nat.ble ti.bytes 4096 = true)
    (hne : (!Nat.beq i j && !Nat.beq i m && !Nat.beq j m) = true) (hf : σ.free [(i', .dp (DE.arrs T T2 e) (yss, none) [])] = true) (hd : dstOk d F.N = true) :
    JM F ⟨d, .call ⟨.builtin .append, #[x, y], #[U, U]⟩, ty, p, af, gd⟩ σ ⟨gput d (.ref i') σ.g, (i', .dp (DE.arrs T T2 e) (yss, none) []) :: delE (delE (delE σ.d i) j) m⟩ := by
  obtain ⟨hlen, rfl⟩ := app_some happ
  simp only [List.length_singleton] at hlen
  simp only [Bool.and_eq_true, Bool.not_eq_true'] at hne
  obtain ⟨⟨hij, him⟩, hjm⟩ := hne
  have nb : ∀ {a b : Nat}, Nat.beq a b = false → a ≠ b := fun h e => by subst e; simp at h
  have hij := nb hij; have him := nb him; have hjm := nb hjm
  rintro a w ⟨⟨ρ, hc, hs⟩, hsz, hde⟩
  have K := Know.of_st hc hs (Op.call ⟨.builtin .append, #[x, y], #[U, U]⟩).operands
  obtain ⟨h1, ⟨hh, h2, h3, _⟩, hbd⟩ := K_ref K (x := x) (by simp [Op.operands, Call.operands]) hx he
  obtain ⟨h4, ⟨b1, v1, h5, hv1, h6, h7⟩, _⟩ := K_ref K (x := y) (by simp [Op.operands, Call.operands]) hy hm
  have hv : v1 = (ρ j).v := by simpa using h5.symm
  subst hv
  have harr : arrOk T2 e zs (Un F.S0 ρ σ.d) w (ρ j).v := hc.own j _ hj
  have hfr := AS.free_spec hf (i := i') (en := .dp (DE.arrs T T2 e) (xss ++ [zs], none) []) (by simp [lkE])
  have hnew : ∀ l en, lkE σ.d l = some en → l ≠ i' := fun l en h e => by subst e; rw [hfr.2.1] at h; cases h
  obtain ⟨u, w', r1, r2, r3, r4, r5⟩ := append_run (P := F.P) (e := Enc.raw) (xs := hh) (ys := [(ρ j).v]) (T := T) (U := U) (ty := ty) (z := zv) (S := Un F.S0 ρ σ.d) (w := w) (v := (ρ i).v) (ad := some ⟨b1, 0, none⟩) (c := 1)
    (by rw [h3.len]; simpa using hlen) h2 (fun b hb => (hbd b (.inl hb)).2) (by simp) (.inr ⟨b1, 0, [(ρ j).v], rfl, MemAt.of_heap (T := T) (fr := (0, 0)) h7, ⟨[(ρ j).v], [], rfl, ⟨rfl, hv1⟩, rfl⟩⟩) hU hI hS hz hzs hby
  have hexec : (execOp a.eval ⟨d, .call ⟨.builtin .append, #[x, y], #[U, U]⟩, ty, p, af, gd⟩).run F.P w = .ok (.value u) w' := by
    simp only [List.length_singleton] at r1
    simp [execOp, resolve, invoke, builtin, h1, h4, h6, r1]
  refine OpWp.value hexec ?_
  let ρ' : Nat → LV := fun l => if l = i' then ⟨u, fun b => (ρ i).x b ∨ Has (ρ j) b⟩ else ρ l
  have ri : ρ' i' = ⟨u, fun b => (ρ i).x b ∨ Has (ρ j) b⟩ := if_pos rfl
  have ro : ∀ l, l ≠ i' → ρ' l = ρ l := fun l h => if_neg h
  have hl : ∀ l en, lkE ((i', .dp (DE.arrs T T2 e) (xss ++ [zs], none) []) :: delE (delE (delE σ.d i) j) m) l = some en → (l = i' ∧ en = .dp (DE.arrs T T2 e) (xss ++ [zs], none) []) ∨ (l ≠ i' ∧ l ≠ i ∧ l ≠ j ∧ lkE σ.d l = some en) := by
    intro l en h
    rcases lkE_new h with h | ⟨h0, h⟩
    · exact .inl h
    · rw [lkE_del] at h
      split at h
      · cases h
      · rw [lkE_del] at h
        split at h
        · cases h
        · rename_i h9
          rw [lkE_del] at h
          split at h
          · cases h
          · rename_i h10; exact .inr ⟨h0, h10, h9, h⟩
  have hoth : ∀ l en b, l ≠ i → l ≠ j → lkE σ.d l = some en → Has (ρ l) b → ¬ Has (ρ' i') b := by
    intro l en b hli hlj hlk hb h
    rw [ri, Has_mk] at h
    rcases h with h | h | h
    · rcases (r4 b h).1 with h | h
      · exact hli (hc.inj l i en _ b hlk he hb (.inl h))
      · have := (hc.fresh l en b hlk hb).2; omega
    · exact hli (hc.inj l i en _ b hlk he hb (.inr h))
    · exact hlj (hc.inj l j en _ b hlk hj hb h)
  -- what is not the row of the slices
  have hkeep : ∀ l en b, l ≠ i → lkE σ.d l = some en → Has (ρ l) b → w'.heap[b]? = w.heap[b]? := fun l en b hli hlk hb =>
    r2.other b (hc.fresh l en b hlk hb).2 fun e => hli (hc.inj l i en _ b hlk he hb (.inl e.symm))
  have hkeepX : ∀ b, (ρ i).x b → blk (ρ i).v ≠ some b → w'.heap[b]? = w.heap[b]? := fun b hb hne => r2.other b (hc.fresh i _ b he (.inr hb)).2 (fun e => hne e.symm)
  obtain ⟨q1, q2⟩ := hc.step r2 (fun b hb => ⟨i, _, he, .inl hb⟩) (d' := (i', .dp (DE.arrs T T2 e) (xss ++ [zs], none) []) :: delE (delE (delE σ.d i) j) m) (ρ' := ρ') (by
    intro l en b h hb
    rcases hl l en h with ⟨rfl, rfl⟩ | ⟨h8, h9, h10, h11⟩
    · rw [ri, Has_mk] at hb
      rcases hb with hb | hb | hb
      · rcases (r4 b hb).1 with h | h
        · exact .inr ⟨i, _, he, .inl h⟩
        · exact .inl ⟨h, (r4 b hb).2⟩
      · exact .inr ⟨i, _, he, .inr hb⟩
      · exact .inr ⟨j, _, hj, hb⟩
    · rw [ro l h8] at hb; exact .inr ⟨l, en, h11, hb⟩) (by
    intro l l' en en' b h h' hb hb'
    rcases hl l en h with ⟨rfl, rfl⟩ | ⟨h8, h9, h10, h11⟩ <;> rcases hl l' en' h' with ⟨rfl, rfl⟩ | ⟨h8', h9', h10', h11'⟩
    · rfl
    · rw [ro l' h8'] at hb'; exact (hoth l' en' b h9' h10' h11' hb' hb).elim
    · rw [ro l h8] at hb; exact (hoth l en b h9 h10 h11 hb hb').elim
    · rw [ro l h8] at hb; rw [ro l' h8'] at hb'; exact hc.inj l l' en en' b h11 h11' hb hb') (by
    intro hE l en h
    rcases hl l en h with ⟨rfl, rfl⟩ | ⟨h8, h9, h10, h11⟩
    · rw [ri]
      have hlast : hh.length = xss.length := h3.len
      have hat : ∀ q v, (hh ++ [(ρ j).v])[q]? = some v → (q < xss.length ∧ hh[q]? = some v) ∨ (q = xss.length ∧ v = (ρ j).v) := by
        intro q v hq
        rcases Nat.lt_or_ge q hh.length with h | h
        · rw [List.getElem?_append_left h] at hq; exact .inl ⟨by omega, hq⟩
        · rw [List.getElem?_append_right h] at hq
          have : q - hh.length = 0 := by
            rcases Nat.eq_zero_or_pos (q - hh.length) with h' | h'
            · exact h'
            · rw [List.getElem?_eq_none (by simp; omega)] at hq; cases hq
          rw [this] at hq
          exact .inr ⟨by omega, by simpa using hq.symm⟩
      have hmem : ∀ q v b, hh[q]? = some v → blk v = some b → (ρ i).x b ∧ blk (ρ i).v ≠ some b := fun q v b h hb => h3.own q v b (by simp) h hb
      refine ⟨hh ++ [(ρ j).v], r5 _ hE, ⟨by simp [hlast], fun q xs v _ hx hq => ?_, fun q v b _ hq hb => ?_, fun q q' v v' b _ _ hq hq' hb hb' => ?_⟩, fun q hq => by cases hq⟩
      · rcases hat q v hq with ⟨hlt, hq⟩ | ⟨rfl, rfl⟩
        · have hx' : xss[q]? = some xs := by
            have hx1 : (xss ++ [zs])[q]? = some xs := hx
            rwa [List.getElem?_append_left hlt] at hx1
          refine (h3.ok q xs v (by simp) hx' hq).mono hE fun b hb => ?_
          obtain ⟨k1, k2⟩ := hmem q v b hq hb
          exact hkeepX b k1 k2
        · have : xs = zs := by
            have hx1 : (xss ++ [zs])[xss.length]? = some xs := hx
            simpa using hx1.symm
          subst this
          exact harr.mono hE fun b hb => hkeep j _ b (Ne.symm hij) hj (.inl hb)
      · rcases hat q v hq with ⟨hlt, hq⟩ | ⟨rfl, rfl⟩
        · obtain ⟨k1, k2⟩ := hmem q v b hq hb
          refine ⟨.inl k1, fun h => ?_⟩
          rcases (r4 b h).1 with h | h
          · exact k2 h
          · have := (hc.fresh i _ b he (.inr k1)).2; omega
        · refine ⟨.inr (.inl hb), fun h => ?_⟩
          rcases (r4 b h).1 with h | h
          · exact hij (hc.inj i j _ _ b he hj (.inl h) (.inl hb))
          · have := (hc.fresh j _ b hj (.inl hb)).2; omega
      · rcases hat q v hq with ⟨hlt, hq⟩ | ⟨rfl, rfl⟩ <;> rcases hat q' v' hq' with ⟨hlt', hq'⟩ | ⟨rfl, rfl⟩
        · exact h3.inj q q' v v' b (by simp) (by simp) hq hq' hb hb'
        · exact (hij (hc.inj i j _ _ b he hj (.inr (hmem q v b hq hb).1) (.inl hb'))).elim
        · exact (hij (hc.inj i j _ _ b he hj (.inr (hmem q' v' b hq' hb').1) (.inl hb))).elim
        · rfl
    · rw [ro l h8]
      exact Ent.ok_mono (hc.own l en h11) hE (fun q hq => congrArg LV.v (ro q fun e' => hfr.2.2 l en h11 (e' ▸ hq))) (fun b hb => hkeep l en b h9 h11 hb))
  refine ⟨⟨ρ', q1, fun t s' ht => ?_⟩, by rw [Act.size_put, hsz], by cases d <;> exact hde⟩
  have hold : ∀ t s, lk σ.g t = some s → s.ok ρ' (Un F.S0 ρ' ((i', .dp (DE.arrs T T2 e) (xss ++ [zs], none) []) :: delE (delE (delE σ.d i) j) m)) w' (a.tmps.getD t undef) := fun t s ht =>
    Slot.ok_mono s _ (hs t s ht) q2 (fun q hq => congrArg LV.v (ro q fun e' => hfr.1 t s ht (e' ▸ hq)))
  cases d with
  | none => exact hold t s' ht
  | some q =>
    simp only [gput] at ht
    have hlt : q < a.tmps.size := by rw [hsz]; exact Nat.le_of_ble_eq_true hd
    rw [Act.getD_put a q u t hlt]
    rw [lk_cons] at ht
    split at ht
    · rename_i h5; cases ht; rw [if_pos h5]
      simp only [Slot.ok]
      exact ⟨by rw [ri]; exact r3, by rw [ri]⟩
    · rename_i h5; rw [if_neg h5]; exact hold t s' ht
theorem Frz.arrs : Frz (DE.arrs T T2 e) (xss, none) (Enc.sl (Enc.sl e)) xss := by
  intro S S' w u ⟨hh, h1, h2, _⟩ hE hb
  have key : ∀ (xs : List (List α)) (hs : List Value), hs.length = xs.length → (∀ (j : Nat) (ys : List α) (v : Value), xs[j]? = some ys → hs[j]? = some v → arrOk T2 e ys S w v ∧ ∀ b, blk v = some b → u.x b) → (Enc.sl e).okL xs S' w hs := by
    intro xs
    induction xs with
    | nil => intro hs hl _; exact List.eq_nil_of_length_eq_zero hl
    | cons ys xs ih =>
      intro hs hl h
      cases hs with
      | nil => simp at hl
      | cons v hs =>
        refine ⟨[v], hs, rfl, ?_, ih hs (by simpa using hl) fun j ys' v' hj hv => h (j + 1) ys' v' (by simpa using hj) (by simpa using hv)⟩
        obtain ⟨k1, k2⟩ := h 0 ys v rfl rfl
        exact arr_sl (ρ := fun _ => .of undef) (u := .of v) (T := T2) k1 hE fun b hb' => hb b (.inr (k2 b (Has_of.1 hb')))
  have hk := key xss hh h2.len fun j ys v hx hv => ⟨h2.ok j ys v (by simp) hx hv, fun b hb' => (h2.own j v b (by simp) hv hb').1⟩
  obtain ⟨ad, c, hs⟩ := h1.slice
  refine ⟨?_, by rw [hs]; rfl⟩
  have hlen : hh.length = xss.length := h2.len
  rcases h1 with ⟨rfl, h0⟩ | ⟨b, cap, pre, cs, post, h0, h3, h4, h5, h6, h7⟩ <;> rw [h0]
  · have : xss = [] := List.eq_nil_of_length_eq_zero (by simpa using hlen.symm)
    subst this; exact ⟨none, 0, rfl, by simp, .inl rfl⟩
  · have := raw_okL h4
    subst this
    refine ⟨_, cap, by rw [hlen], ⟨by omega, by omega⟩, .inr ⟨b, _, cs, rfl, ?_, hb b (.inl (by rw [h0]; rfl)), ?_, hk⟩⟩
    · exact (MemAt.of_heap h3).lt
    · have := (MemAt.of_heap h3).sub; simpa using this
theorem nilD {S : Nat → Prop} {w : World} : (DE.arrs T T2 e).ok (([] : List (List α)), none) S w (.of (.slice none 0 0)) [] :=
  ⟨[], .inl ⟨rfl, rfl⟩, ⟨rfl, fun j xs h _ hx => by simp at hx, fun j h k _ hj => by simp at hj, fun j j' h h' k _ _ hj => by simp at hj⟩, fun j hj => by cases hj⟩
theorem Arg.frzD {β γ : Type} {D : DE β} {q : β} {f : Enc γ} {r : γ} (h : evS σ.g x = some (.ref i)) (he : lkE σ.d i = some (.dp D q [])) (hf : Frz D q f r) : Arg σ true x (.v f r) := by
  intro ρ S a w K
  obtain ⟨h1, h2, _⟩ := K_ref K (x := x) (by simp) h he
  obtain ⟨k1, k2⟩ := hf _ _ _ _ h2 (lend_ext S w true) (fun _ _ h => h)
  rw [h1]
  simp only [Slot.ok]
  exact ⟨_, k1, k2.symm⟩
/-! ### parts of a slice of our own -/
theorem sub_val {xs ys : List α} {lo hi : Int} {S : Nat → Prop} {w : World} {v : Value} {a : Option Addr} {cap : Nat} {ρ : Nat → LV} (hs : sub xs lo hi = some ys) (h : arrOk T e xs S w v) (hv : v = .slice a xs.length cap) (hρ : (ρ i).v = v) :
    (Slot.sub i (lo.toNat * e.n) (hi.toNat - lo.toNat)).ok ρ S w (.slice (if cap = lo.toNat then a else a.map (·.add (lo.toNat * e.n))) (hi.toNat - lo.toNat) (cap - lo.toNat)) := by
  obtain ⟨h0, h1, h2, _⟩ := sub_some hs
  have hcap : xs.length ≤ cap := by
    rcases h with ⟨rfl, rfl⟩ | ⟨b, cap', pre, cs, post, rfl, _, _, h5, _⟩
    · simp
    · simp only [Value.slice.injEq] at hv; omega
  simp only [Slot.ok]
  rw [hρ, hv]
  refine ⟨⟨_, _, _, rfl⟩, cap - lo.toNat, if cap = lo.toNat then 0 else lo.toNat * e.n, by omega, ?_, ?_⟩
  · split
    · right; omega
    · exact .inl rfl
  · split
    · cases a with
      | none => rfl
      | some ad =>
        have : ad.spot = none := by
          rcases h with ⟨rfl, rfl⟩ | ⟨b, cap', pre, cs, post, rfl, _⟩
          · cases hv
          · simp only [Value.slice.injEq, Option.some.injEq] at hv; rw [← hv.1]
        obtain ⟨b, o, q⟩ := ad
        simp only at this; subst this
        rfl
    · cases a with
      | none => rfl
      | some ad =>
        have : ad.spot = none := by
          rcases h with ⟨rfl, rfl⟩ | ⟨b, cap', pre, cs, post, rfl, _⟩
          · cases hv
          · simp only [Value.slice.injEq, Option.some.injEq] at hv; rw [← hv.1]
        obtain ⟨b, o, q⟩ := ad
        simp only at this; subst this
        simp [subOf, Addr.add_lit]
theorem K_arr {xs : List α} {xs' : Array Operand} {ρ : Nat → LV} {S a w} (K : Know σ xs' ρ S a w) (hm : x ∈ xs') (hx : evS σ.g x = some (.ref i)) (he : lkE σ.d i = some (.arr T e xs)) :
    ∃ ad cap, a.eval x = .slice ad xs.length cap ∧ xs.length ≤ cap ∧ (ρ i).v = .slice ad xs.length cap ∧ arrOk T e xs S w (ρ i).v := by
  obtain ⟨h1, h2, _⟩ := K_ref K hm hx he
  have h2 : arrOk T e xs S w (ρ i).v := h2
  obtain ⟨ad, cap, hs⟩ := h2.slice
  refine ⟨ad, cap, by rw [h1, hs], ?_, hs, h2⟩
  rcases h2 with ⟨rfl, h3⟩ | ⟨b, cap', pre, cs, post, h3, _, _, h5, _⟩
  · simp
  · rw [hs] at h3; simp only [Value.slice.injEq] at h3; omega
theorem JO.srLoHi {xs ys : List α} {lo hi : Int} {k k' : IntKind} {E : TypeId} (hs : sub xs lo hi = some ys) (hx : evS σ.g x = some (.ref i)) (he : lkE σ.d i = some (.arr T e xs)) (hy : evS σ.g y = some (.v (Enc.int k) lo)) (hz : evS σ.g z = some (.v (Enc.int k') hi))
    (hU : ∀ w, (underlying U).run F.P w = .ok (.slice E) w) (hE : ∀ w, (sizeOf E).run F.P w = .ok e.n w) : JO F ⟨d, .slice U x (some y) (some z) none, ty, p, af, gd⟩ σ (.sub i (lo.toNat * e.n) (hi.toNat - lo.toNat)) [] := by
  intro ρ S a w K
  obtain ⟨ad, cap, h1, h2, h2', h3⟩ := K_arr K (x := x) (by simp [Op.operands]) hx he
  have h4 := (K_int K (x := y) (by simp [Op.operands]) hy).1
  have h5 := (K_int K (x := z) (by simp [Op.operands]) hz).1
  obtain ⟨s0, s1, s2, _⟩ := sub_some hs
  refine OpWp.value (w' := w) ?_ (Res.same (sub_val hs h3 h2' rfl))
  simp [execOp, Instr.sliceAt, Instr.slice, h1, h4, h5, hU, hE, bounds_hi s0 s1 (show hi ≤ (cap : Int) by omega)]
theorem JO.srHi {xs ys : List α} {hi : Int} {k' : IntKind} {E : TypeId} (hs : sub xs 0 hi = some ys) (hx : evS σ.g x = some (.ref i)) (he : lkE σ.d i = some (.arr T e xs)) (hz : evS σ.g z = some (.v (Enc.int k') hi))
    (hU : ∀ w, (underlying U).run F.P w = .ok (.slice E) w) (hE : ∀ w, (sizeOf E).run F.P w = .ok e.n w) : JO F ⟨d, .slice U x none (some z) none, ty, p, af, gd⟩ σ (.sub i ((0 : Int).toNat * e.n) (hi.toNat - (0 : Int).toNat)) [] := by
  intro ρ S a w K
  obtain ⟨ad, cap, h1, h2, h2', h3⟩ := K_arr K (x := x) (by simp [Op.operands]) hx he
  have h5 := (K_int K (x := z) (by simp [Op.operands]) hz).1
  obtain ⟨s0, s1, s2, _⟩ := sub_some hs
  refine OpWp.value (w' := w) ?_ (Res.same (sub_val hs h3 h2' rfl))
  simp [execOp, Instr.sliceAt, Instr.slice, h1, h5, hU, hE, bounds_h s1 (show hi ≤ (cap : Int) by omega)]
theorem JO.srLo {xs ys : List α} {lo : Int} {k : IntKind} {E : TypeId} (hs : sub xs lo (xs.length : Int) = some ys) (hx : evS σ.g x = some (.ref i)) (he : lkE σ.d i = some (.arr T e xs)) (hy : evS σ.g y = some (.v (Enc.int k) lo))
    (hU : ∀ w, (underlying U).run F.P w = .ok (.slice E) w) (hE : ∀ w, (sizeOf E).run F.P w = .ok e.n w) : JO F ⟨d, .slice U x (some y) none none, ty, p, af, gd⟩ σ (.sub i (lo.toNat * e.n) ((xs.length : Int).toNat - lo.toNat)) [] := by
  intro ρ S a w K
  obtain ⟨ad, cap, h1, h2, h2', h3⟩ := K_arr K (x := x) (by simp [Op.operands]) hx he
  have h4 := (K_int K (x := y) (by simp [Op.operands]) hy).1
  obtain ⟨s0, s1, s2, _⟩ := sub_some hs
  refine OpWp.value (w' := w) ?_ (Res.same (sub_val hs h3 h2' rfl))
  simp [execOp, Instr.sliceAt, Instr.slice, h1, h4, hU, hE, bounds_l s0 s1]
/-- it is lent -/
theorem Arg.sub {xs ys : List α} {lo hi : Int} (hs : Sw.sub xs lo hi = some ys) (hx : evS σ.g x = some (.sub i (lo.toNat * e.n) (hi.toNat - lo.toNat))) (he : lkE σ.d i = some (.arr T e xs)) : Arg σ true x (.v (Enc.sl e) ys) := by
  intro ρ S a w K
  have h0 := K.slot x (by simp) _ hx
  have h2 : arrOk T e xs S w (ρ i).v := (K.ent x (by simp) _ hx i (by simp [Slot.lab]) _ he).1
  simp only [Slot.ok] at h0 ⊢
  obtain ⟨_, c, o, h3, h4, h5⟩ := h0
  obtain ⟨k0, k1, k2, rfl⟩ := sub_some hs
  have hyl : ((xs.take hi.toNat).drop lo.toNat).length = hi.toNat - lo.toNat := by rw [List.length_drop, List.length_take]; omega
  rw [h5]
  rcases h2 with ⟨rfl, h6⟩ | ⟨b, cap, pre, cs, post, h6, h7, h8, h9, h10, h11⟩ <;> rw [h6]
  · refine val_sl.2 ⟨none, c, ?_, ⟨by rw [hyl]; exact h3, by rw [hyl]; simp at k2; omega⟩, .inl (by simp)⟩
    simp only [subOf]; rw [hyl]
  · refine val_sl.2 ⟨some ⟨b, pre.length + o, none⟩, c, ?_, ⟨by rw [hyl]; exact h3, by rw [hyl]; omega⟩, ?_⟩
    · simp only [subOf]; rw [hyl]
    · by_cases hn : hi.toNat - lo.toNat = 0
      · exact .inl (List.eq_nil_of_length_eq_zero (by rw [hyl]; exact hn))
      · have ho : o = lo.toNat * e.n := h4.resolve_right hn
        subst ho
        have hm : MemAt w b pre.length cs := by have := (MemAt.of_heap h7).sub; simpa using this
        refine .inr ⟨b, _, _, rfl, (MemAt.of_heap h7).lt, fun h => h, (hm.take (hi.toNat * e.n)).drop (lo.toNat * e.n), Enc.okL_mono (okL_drop _ (okL_take _ h8)) (lend_ext S w true)⟩
theorem Sub.shut {k : Nat} {ys : List α} {g : List (Nat × Slot)} {dd : List (Nat × Ent)} (hij : Nat.beq i j = false) (hk : k < xss.length) (he : lkE σ.d i = some (.dp (DE.arrs T T2 e) (xss, some k) [j])) (hj : lkE σ.d j = some (.arr T2 e ys)) (hg : g = σ.g)
    (hd : dd = delE (delE σ.d j) i) : Sub F σ ⟨g, (i, .dp (DE.arrs T T2 e) (xss.set k ys, none) []) :: dd⟩ := fun a w h => by
  subst hd
  refine St.congr (σ := ⟨g, (i, .dp (DE.arrs T T2 e) (xss.set k ys, none) []) :: delE σ.d j⟩) (fun u => rfl) (fun l => ?_) (Sub.closeD hij hk he hj hg a w h)
  rw [lkE_cons, lkE_cons]
  split
  · rfl
  · rename_i hl; rw [lkE_del, if_neg (fun e => hl e.symm)]
end
end Go.Sw

namespace Go.Sw
open Go Go.RowKit
section
variable {F F' : Frm} {σ : AS} {pb : Option Nat} {s : Slot} {d : Option Tmp} {ty : TypeId} {p : String} {af : Array Edge} {gd : Option (Nat × Bool)} {x y z : Operand}
theorem run_part {P : Program} {w : World} {U : TypeId} {a c e : List Value} {n : Nat} {ag : Bool} (hA : ∀ w, (isAgg U).run P w = .ok ag w) (hS : ∀ w, (sizeOf U).run P w = .ok n w) (hl : c.length = n) (h1 : ag = false → n = 1) :
    (part U (a ++ (c ++ e)).toArray a.length).run P w = .ok (if ag then .agg c.toArray else c.headD undef) w := by
  unfold part
  simp only [Sem.run_bind, hA, Result.andThen_ok]
  cases ag with
  | true =>
    simp only [if_true, Sem.run_bind, hS, Result.andThen_ok, Sem.run_pure]
    have : (a ++ (c ++ e)).toArray.extract a.length (a.length + n) = c.toArray := by
      subst hl
      rw [List.extract_toArray]
      congr 1
      simp [List.extract]
    rw [this]
  | false =>
    have hn := h1 rfl
    rw [hn] at hl
    obtain ⟨v, rfl⟩ := List.length_eq_one_iff.1 hl
    simp
theorem JO.fieldV {α β : Type} {e : Enc α} {v : α} {e' : Enc β} {v' : β} {U : TypeId} {fs : Array Field} {n off : Nat} {fl : Field} (hx : evS σ.g x = some (.v e v)) (hU : ∀ w, (underlying U).run F.P w = .ok (.struct fs) w) (hf : fs[n]? = some fl)
    (ha : e.agg = true) (hp : Prj e v off e' v') (hoff : off = fl.offset) (hA : ∀ w, (isAgg fl.type).run F.P w = .ok e'.agg w) (hS : ∀ w, (sizeOf fl.type).run F.P w = .ok e'.n w) : JO F ⟨d, .field U x n, ty, p, af, gd⟩ σ (.v e' v') [] := by
  subst hoff
  intro ρ S a w K
  have h := K.slot x (by simp [Op.operands]) _ hx
  simp only [Slot.ok] at h
  obtain ⟨cs, h1, h2⟩ := h
  obtain ⟨a', c', d', rfl, k2, k3⟩ := hp S w cs h1
  have h3 : a.eval x = .agg (a' ++ (c' ++ d')).toArray := by rw [h2]; simp [Enc.pk, ha]
  refine OpWp.value (w' := w) (v := e'.pk c') ?_ (Res.same (by simp only [Slot.ok]; exact ⟨c', k3, rfl⟩))
  have := run_part (P := F.P) (w := w) (a := a') (c := c') (e := d') hA hS (e'.len k3) e'.one
  rw [k2] at this
  simp only [execOp, Instr.field, Sem.run_bind, hU, Result.andThen_ok, hf, h3, asAgg, Sem.run_pure, this]
  rfl
theorem JO.fieldAgg {l : List Slot} {U : TypeId} {fs : Array Field} {n : Nat} {fl : Field} (hx : evS σ.g x = some (.agg l)) (hU : ∀ w, (underlying U).run F.P w = .ok (.struct fs) w) (hf : fs[n]? = some fl)
    (ho : offAt l fl.offset = some s) (hA : ∀ w, (isAgg fl.type).run F.P w = .ok s.ag w) (hS : ∀ w, (sizeOf fl.type).run F.P w = .ok s.sz w) : JO F ⟨d, .field U x n, ty, p, af, gd⟩ σ s [] := by
  intro ρ S a w K
  have h := K.slot x (by simp [Op.operands]) _ hx
  simp only [Slot.ok] at h
  obtain ⟨cs, h1, h2⟩ := h
  obtain ⟨pre, c, post, rfl, k2, k3, _⟩ := okl_at ho h2
  refine OpWp.value (w' := w) (v := if s.ag then .agg c.toArray else c.headD undef) ?_ (Res.same (okc_val k3))
  have := run_part (P := F.P) (w := w) (a := pre) (c := c) (e := post) hA hS (okc_len k3) (fun h => by
    cases s <;> simp only [Slot.ag] at h <;> simp only [Slot.sz]
    exact Enc.one _ h)
  rw [k2] at this
  simp only [execOp, Instr.field, Sem.run_bind, hU, Result.andThen_ok, hf, h1, asAgg, Sem.run_pure, this]
theorem XQ.normM0 {fn : Func} {dout : List (Nat × Ent)} (hF : Fol F F') (hrs : fn.results = #[]) (hn : SubE dout σ.d) : XQ F' σ (RetQM F fn (.tup []) dout) .normal :=
  fun a w h => XQ.retM0 hF hrs hn a w h
theorem Z.cst {u : Value} (h : u.oneCell' = true) : ∀ S w, (Enc.cst u h).ok () S w [u] := fun _ _ => rfl
end
end Go.Sw

namespace Go.Sw
open Go Go.RowKit
/-- a slice beyond whose elements there is no room -/
def Enc.slC {α : Type} (e : Enc α) : Enc (List α) where
  n := 1
  agg := false
  ok xs S w cs := (Enc.sl e).ok xs S w cs ∧ ∀ a l c, cs = [.slice a l c] → l = c
  len h := (Enc.sl e).len h.1
  one _ := rfl
  cell h := (Enc.sl e).cell h.1
  mono h k := ⟨(Enc.sl e).mono h.1 k, h.2⟩
theorem val_slC {α : Type} {e : Enc α} {xs : List α} {S w u} (h : (Enc.slC e).val xs S w u) : (Enc.sl e).val xs S w u ∧ ∀ a l c, u = .slice a l c → l = c := by
  obtain ⟨cs, ⟨h1, h2⟩, rfl⟩ := h
  refine ⟨⟨cs, h1, rfl⟩, ?_⟩
  obtain ⟨a, cap, h3, _⟩ := h1
  intro a2 l2 c2 h4
  rw [h3] at h4
  have h5 : (Value.slice a xs.length cap) = .slice a2 l2 c2 := h4
  exact h2 a2 l2 c2 (by rw [h3, h5])
section
variable {F : Frm} {σ : AS} {d : Option Tmp} {ty : TypeId} {p : String} {af : Array Edge} {gd : Option (Nat × Bool)} {x y : Operand}
theorem JO.litC {α : Type} {e : Enc α} {U E : TypeId} {len : Nat} {z : Value} {ps : List (Nat × Operand)} {zs : List α} (hU : ∀ w, (underlying U).run F.P w = .ok (.slice E) w) (hS : ∀ w, (sizeOf E).run F.P w = .ok e.n w) (hz : ∀ w, (zeroValue E).run F.P w = .ok z w)
    (hle : Nat.ble (len * e.n) 16777216 = true) (hl : ps.length = len) (hl' : zs.length = len) (hb : Nat.ble len 16777216 = true) (he : Elems σ e 0 ps zs) : JO F ⟨d, .buildSlice U len ps.toArray, ty, p, af, gd⟩ σ (.v (Enc.slC e) zs) [] := by
  intro ρ S a w K
  obtain ⟨ds, h1, h2⟩ := lit_run (d := d) (ty := ty) (p := p) (af := af) (gd := gd) hU hS hz hle hl he K
  have hbl := below_alloc w (.cells ds.toArray E)
  have hE : Ext S (Un S ρ []) w (w.alloc (.cells ds.toArray E)) := Ext.of_below hbl fun k _ h => by
    rcases h with h | ⟨i, en, h, _⟩
    · exact h
    · simp [lkE] at h
  refine OpWp.value h2 ⟨ρ, fun _ _ => rfl, hbl, ?_, ⟨fun _ _ h => by simp [lkE] at h, fun _ _ _ h => by simp [lkE] at h, fun _ _ _ _ _ h => by simp [lkE] at h⟩⟩
  simp only [Slot.ok]
  have hb := Nat.le_of_ble_eq_true hb
  have hv : (Enc.sl e).val zs (Un S ρ []) (w.alloc (.cells ds.toArray E)) (.slice (some ⟨w.heap.size, 0, none⟩) len len) := by
    refine val_sl.2 ⟨_, len, by rw [hl'], ⟨by omega, by omega⟩, .inr ⟨w.heap.size, 0, ds, rfl, by simp, ?_, memAt_alloc w ds E, Enc.okL_mono h1 hE⟩⟩
    rintro (h | ⟨i, en, h, _⟩)
    · have := K.low _ h; omega
    · simp [lkE] at h
  obtain ⟨cs, h3, h4⟩ := hv
  refine ⟨cs, ⟨h3, fun a2 l2 c2 h5 => ?_⟩, h4⟩
  subst h5
  have h6 : (Value.slice (some ⟨w.heap.size, 0, none⟩) len len) = .slice a2 l2 c2 := h4
  injection h6 with _ e1 e2
  omega
theorem JO.appC {α : Type} {e : Enc α} {xs ys zs : List α} {T U : TypeId} {ti : TypeInfo} {zv : Value} (ha : app xs ys = some zs) (hne : xs ≠ []) (hx : evS σ.g x = some (.v (Enc.slC e) xs)) (hy : Src σ y e ys)
    (hU : ∀ w, (underlying U).run F.P w = .ok (.slice T) w) (hI : ∀ w, (typeInfo T).run F.P w = .ok ti w) (hS : ∀ w, (sizeOf T).run F.P w = .ok e.n w) (hz : ti.zero = some zv) (hzs : zv.cells.size = e.n) (hby : Nat.ble ti.bytes 4096 = true) :
    JO F ⟨d, .call ⟨.builtin .append, #[x, y], #[U, U]⟩, ty, p, af, gd⟩ σ (.v (Enc.sl e) zs) [] := by
  obtain ⟨hlen, rfl⟩ := app_some ha
  have hby := Nat.le_of_ble_eq_true hby
  intro ρ S a w K
  have hti : ti.size = e.n := size_of hI hS
  have hx' := K.slot x (by simp [Op.operands, Call.operands]) _ hx
  simp only [Slot.ok] at hx'
  obtain ⟨hv, hcap⟩ := val_slC hx'
  obtain ⟨a1, cap, h1, ⟨hc1, hc2⟩, h2⟩ := val_sl.1 hv
  have hcc := hcap _ _ _ h1
  subst hcc
  obtain ⟨g, o1, cs, rfl, hg1, hg2, hm1, hcs⟩ := h2.resolve_left hne
  have hcl := Enc.okL_len hcs
  have hmem : ∀ q, q ∈ #[y] → q ∈ (Op.call ⟨.builtin .append, #[x, y], #[U, U]⟩).operands := by
    intro q hq
    have hq' : q = y := by simpa using hq
    subst hq'; simp [Op.operands, Call.operands]
  obtain ⟨hyl, ad, c, h4, h5⟩ := hy ρ S a w ⟨K.low, fun q hq s h => K.slot q (hmem q hq) s h, fun q hq s h => K.ent q (hmem q hq) s h⟩
  have hexec : ∀ v w', (Builtin.append_ #[U, U] ty #[.slice (some ⟨g, o1, none⟩) xs.length xs.length, .slice ad ys.length c]).run F.P w = .ok v w' → (execOp a.eval ⟨d, .call ⟨.builtin .append, #[x, y], #[U, U]⟩, ty, p, af, gd⟩).run F.P w = .ok (.value v) w' := by
    intro v w' h
    simp [execOp, resolve, invoke, builtin, h1, h4, h]
  have noNew : ∀ {w' : World}, NewOk ρ (Un S ρ []) w w' [] := ⟨fun i en h => by simp [lkE] at h, fun i en b h => by simp [lkE] at h, fun i j en en' b h => by simp [lkE] at h⟩
  by_cases hm0 : ys = []
  · subst hm0
    refine OpWp.value (hexec _ w (run_append0 hU hS (Nat.le_refl _))) ⟨ρ, fun _ _ => rfl, Below.refl _ _, ?_, noNew⟩
    simp only [Slot.ok, List.append_nil, Un.none]
    rw [h1] at hv
    exact hv
  · obtain ⟨b, off, ds, rfl, hm, hds⟩ := h5.resolve_left hm0
    have hyp : 0 < ys.length := List.length_pos_iff.2 hm0
    have hdl := Enc.okL_len hds
    have hge := grownCap_ge w (xs.length + ys.length) xs.length T
    have hr := run_append_grow (P := F.P) w U ty T ti zv (under_of hU) (info_of hI) hz ⟨g, o1, none⟩ xs.length xs.length cs (by rw [hti]; exact hcl) hm1.cell ⟨b, off, none⟩ ys.length c ds (by rw [hti]; exact hdl) hm.cell (by omega) (by omega) (growslice_fits (by omega) (by
      have : (xs.length + ys.length) * ti.bytes ≤ 4294967296 * 4096 := Nat.mul_le_mul hlen hby
      omega))
    obtain ⟨w', hw'⟩ : ∃ w', w' = w.drew.alloc (.cells (cs.toArray ++ ds.toArray ++ Builtin.zeroCells zv.cells (grownCap w (xs.length + ys.length) xs.length T - (xs.length + ys.length))) T (0, 0)) := ⟨_, rfl⟩
    have hb : Below w.heap.size w w' := by rw [hw']; exact (Below.refl _ w).drew.alloc (Nat.le_refl _) _
    refine OpWp.value (hexec _ w' (by rw [hw']; exact hr)) ⟨ρ, fun _ _ => rfl, hb, ?_, noNew⟩
    simp only [Slot.ok]
    have hE : Ext S (Un S ρ []) w w' := by rw [Un.none]; exact Ext.of_below hb fun _ _ h => h
    refine val_sl.2 ⟨_, _, by rw [List.length_append], ⟨by rw [List.length_append]; exact hge, by rw [List.length_append]; omega⟩, .inr ⟨w.heap.size, 0, cs ++ ds, rfl, ?_, ?_, ?_, Enc.okL_mono (Enc.okL_append hcs hds) hE⟩⟩
    · rw [hw', World.size_alloc]; exact Nat.lt_succ_self _
    · rw [Un.none]; intro h; have := K.low _ h; omega
    · have h6 : w'.heap[w.heap.size]? = some (.cells ([] ++ ((cs ++ ds) ++ (Builtin.zeroCells zv.cells (grownCap w (xs.length + ys.length) xs.length T - (xs.length + ys.length))).toList)).toArray T (0, 0)) := by
        rw [hw', show w.heap.size = w.drew.heap.size from rfl, heap_alloc_new]
        congr 2
        apply Array.ext'; simp
      have := (MemAt.of_heap h6).sub
      simpa using this
end
end Go.Sw

namespace Go.Sw
open Go Go.RowKit
/-- leaves the world as it was -/
def Keeps {α : Type} (P : Program) (s : Sem α) : Prop := ∀ w x w', s.run P w = .ok x w' → w' = w
section
variable {P : Program} {α β : Type}
theorem Keeps.pure (x : α) : Keeps P (pure x : Sem α) := fun w y w' h => by simp at h; exact h.2.symm
theorem Keeps.bind {s : Sem α} {f : α → Sem β} (h1 : Keeps P s) (h2 : ∀ x, Keeps P (f x)) : Keeps P (s >>= f) := by
  intro w y w' h
  rw [Sem.run_bind] at h
  cases hr : s.run P w with
  | ok x w1 =>
    rw [hr] at h
    have e1 := h1 _ _ _ hr
    subst e1
    exact h2 x _ _ _ h
  | halt x w1 => rw [hr] at h; simp at h
theorem Keeps.halt {x} : Keeps P (.halt x : Sem α) := fun w y w' h => by simp [Sem.run] at h
theorem Keeps.program : Keeps P Go.program := fun w y w' h => by simp at h; exact h.2.symm
theorem Keeps.load {a : Addr} : Keeps P (load a) := fun w y w' h => by
  simp [Go.load, Sem.run] at h
  split at h
  · simp at h; exact h.2.symm
  · split at h
    · simp at h; exact h.2.symm
    · simp at h
theorem Keeps.shape {r : Nat} : Keeps P (shape r) := fun w y w' h => by simp [Go.shape, Sem.run] at h; exact h.2.symm
theorem Keeps.underlying {t : TypeId} : Keeps P (underlying t) := by
  unfold Go.underlying
  refine .bind .program fun p => ?_
  split
  · exact .pure _
  · exact .halt
theorem Keeps.typeInfo {t : TypeId} : Keeps P (typeInfo t) := by
  unfold Go.typeInfo
  refine .bind .program fun p => ?_
  split
  · exact .pure _
  · exact .halt
theorem Keeps.sizeOf {t : TypeId} : Keeps P (sizeOf t) := .bind .typeInfo fun _ => .pure _
theorem Keeps.isAgg {t : TypeId} : Keeps P (isAgg t) := by
  unfold Go.isAgg
  refine .bind .underlying fun p => ?_
  split <;> exact .pure _
theorem Keeps.loadCellsFrom {a : Addr} : ∀ (n i : Nat) (acc : Array Value), Keeps P (loadCellsFrom a i n acc)
  | 0, _, _ => .pure _
  | n + 1, i, _ => .bind .load fun _ => Keeps.loadCellsFrom n (i + 1) _
theorem Keeps.loadVar {t : TypeId} {a : Addr} : Keeps P (loadVar t a) := by
  unfold Go.loadVar
  refine .bind .isAgg fun b => ?_
  split
  · exact .bind .sizeOf fun n => .bind (.loadCellsFrom _ _ _) fun _ => .pure _
  · exact .load
theorem Keeps.sureAddr {v : Value} : Keeps P (Instr.sureAddr v) := by
  unfold Instr.sureAddr
  split
  · exact .pure _
  · exact .halt
theorem Keeps.getObj {r : Nat} : Keeps P (getObj r) := fun w y w' h => by
  simp [Go.getObj, Sem.run] at h
  split at h <;> simp at h
  exact h.2.symm
theorem Keeps.noView {a : Addr} : Keeps P (noView a) := by
  unfold Go.noView Go.viewAt
  refine .bind (.bind .shape fun o => ?_) fun o => ?_
  · split
    · exact .pure _
    · refine .bind .getObj fun o => ?_
      split <;> exact .pure _
  · split
    · exact .halt
    · exact .pure _
theorem Keeps.byteOf {a : Addr} : Keeps P (byteOf a) := by
  unfold Go.byteOf
  split
  · exact .pure _
  · refine .bind .program fun p => .bind .noView fun _ => .bind .shape fun o => ?_
    split
    · simp only []
      split
      · exact .pure _
      · split
        · exact .pure _
        · exact .halt
    · exact .halt
theorem Keeps.fieldPlace {a : Addr} {f : Field} : Keeps P (fieldPlace a f) := by
  unfold Go.fieldPlace
  refine .bind .sizeOf fun n => ?_
  split
  · unfold Go.partAt
    refine .bind .byteOf fun _ => .bind .byteOf fun _ => .pure _
  · exact .pure _
theorem Keeps.fieldAt {t : TypeId} {v : Value} {f : Nat} : Keeps P (Instr.fieldAt t v f) := by
  unfold Instr.fieldAt
  refine .bind .underlying fun d => ?_
  split
  · split
    · exact .bind .sureAddr fun a => .bind .fieldPlace fun _ => .pure _
    · exact .halt
  · exact .halt
theorem keeps_value {s : Sem Value} (h : Keeps P s) {w w' : World} {x : Next} (hr : (do pure (.value (← s)) : Sem Next).run P w = .ok x w') : w' = w ∧ ∃ v, x = .value v := by
  rw [Sem.run_bind] at hr
  cases hs : s.run P w with
  | ok v w1 => rw [hs] at hr; simp at hr; have := h _ _ _ hs; subst this; exact ⟨hr.2.symm, v, hr.1.symm⟩
  | halt y w1 => rw [hs] at hr; simp at hr
/-- an operation that looks and makes nothing -/
def quiet (o : Oper) : Bool := match o.op with
  | .move _ | .assign _ | .load _ _ | .fieldAddr _ _ _ => true
  | _ => false
theorem quiet_value {o : Oper} (h : quiet o = true) {f : Operand → Value} {w w' : World} {x : Next} (hr : (execOp f o).run P w = .ok x w') : w' = w ∧ ∃ v, x = .value v := by
  obtain ⟨d, op, ty, p, af, gd⟩ := o
  cases op <;> simp only [quiet] at h <;> try cases h
  · simp [execOp] at hr; exact ⟨hr.2.symm, _, hr.1.symm⟩
  · simp [execOp] at hr; exact ⟨hr.2.symm, _, hr.1.symm⟩
  · exact keeps_value (s := Instr.loadAt _ _) (.bind .sureAddr fun a => .loadVar) hr
  · exact keeps_value (s := Instr.fieldAt _ _ _) .fieldAt hr
end
end Go.Sw

namespace Go.Sw
open Go Go.RowKit
structure QI where
  i : Nat
  t : Nat
  s : Slot
section
variable {F : Frm} {ops : Array Oper} {σ σ' σA : AS}
/-- those that look alone, in the text's order -/
inductive QA (F : Frm) (ops : Array Oper) : List QI → AS → AS → Prop
  | nil {σ : AS} : QA F ops [] σ σ
  | cons {σ σ' : AS} {l : List QI} {i t : Nat} {s : Slot} {o : Oper} : ops[i]? = some o → JO F o σ s [] → QA F ops l ⟨(t, s) :: σ.g, σ.d⟩ σ' → QA F ops (⟨i, t, s⟩ :: l) σ σ'
def StG (σ σ' : AS) : List Nat → Prop
  | [] => True
  | u :: us => lk σ'.g u = lk σ.g u ∧ StG σ σ' us
def StD (σ σ' : AS) : List Nat → Prop
  | [] => True
  | u :: us => lkE σ'.d u = lkE σ.d u ∧ StD σ σ' us
theorem StG.at {u : Nat} : ∀ {us : List Nat}, StG σ σ' us → u ∈ us → lk σ'.g u = lk σ.g u
  | [], _, h => by cases h
  | v :: us, ⟨h1, h2⟩, h => by
    rcases List.mem_cons.1 h with rfl | h
    · exact h1
    · exact StG.at h2 h
theorem StD.at {u : Nat} : ∀ {us : List Nat}, StD σ σ' us → u ∈ us → lkE σ'.d u = lkE σ.d u
  | [], _, h => by cases h
  | v :: us, ⟨h1, h2⟩, h => by
    rcases List.mem_cons.1 h with rfl | h
    · exact h1
    · exact StD.at h2 h
/-- those that stand in a chain -/
inductive QB (F : Frm) (ops : Array Oper) (us ls : List Nat) : List Nat → AS → AS → Prop
  | nil {σ : AS} : QB F ops us ls [] σ σ
  | cons {σ σ1 σ' : AS} {b : Nat} {bs : List Nat} {o : Oper} : ops[b]? = some o → JM F o σ σ1 → StG σ σ1 us → StD σ σ1 ls → QB F ops us ls bs σ1 σ' → QB F ops us ls (b :: bs) σ σ'
  | sub {σ σ1 σ' : AS} {bs : List Nat} : Sub F σ σ1 → StG σ σ1 us → StD σ σ1 ls → QB F ops us ls bs σ1 σ' → QB F ops us ls bs σ σ'
theorem JM.of_jo {o : Oper} {s : Slot} {new : List (Nat × Ent)} (h : JO F o σ s new) (hf : σ.free new = true) (hd : dstOk o.dst F.N = true) : JM F o σ ⟨gput o.dst s σ.g, new ++ σ.d⟩ := by
  rintro a w ⟨⟨ρ, hc, hs⟩, hz, hde⟩
  refine (h ρ _ a w (Know.of_st hc hs _)).mono fun v w' hr => ?_
  have := St.put hc hs hz hde hf hd hr
  cases hd' : o.dst with
  | none => rw [hd'] at this; exact this
  | some t => rw [hd'] at this; exact this
theorem QB.done {us ls : List Nat} : ∀ {bs : List Nat} {σ σ' : AS}, QB F ops us ls bs σ σ' → bs = [] → Sub F σ σ' := by
  intro bs σ σ' h
  induction h with
  | nil => exact fun _ a w h => h
  | cons _ _ _ _ _ _ => intro h; cases h
  | sub h1 _ _ _ ih => exact fun e a w h => ih e a w (h1 a w h)
theorem StG.trans {σ1 σ2 σ3 : AS} : ∀ {us : List Nat}, StG σ1 σ2 us → StG σ2 σ3 us → StG σ1 σ3 us
  | [], _, _ => trivial
  | _ :: _, ⟨h1, h2⟩, ⟨k1, k2⟩ => ⟨k1.trans h1, h2.trans k2⟩
theorem StD.trans {σ1 σ2 σ3 : AS} : ∀ {us : List Nat}, StD σ1 σ2 us → StD σ2 σ3 us → StD σ1 σ3 us
  | [], _, _ => trivial
  | _ :: _, ⟨h1, h2⟩, ⟨k1, k2⟩ => ⟨k1.trans h1, h2.trans k2⟩
theorem StG.rfl' {σ : AS} : ∀ {us : List Nat}, StG σ σ us
  | [] => trivial
  | _ :: _ => ⟨rfl, StG.rfl'⟩
theorem StD.rfl' {σ : AS} : ∀ {us : List Nat}, StD σ σ us
  | [] => trivial
  | _ :: _ => ⟨rfl, StD.rfl'⟩
theorem QB.head {us ls : List Nat} : ∀ {bs : List Nat} {σ σ' : AS}, QB F ops us ls bs σ σ' → ∀ {b : Nat} {r : List Nat}, bs = b :: r →
    ∃ σ1 o σ2, Sub F σ σ1 ∧ ops[b]? = some o ∧ JM F o σ1 σ2 ∧ StG σ σ1 us ∧ StD σ σ1 ls ∧ StG σ σ2 us ∧ StD σ σ2 ls ∧ QB F ops us ls r σ2 σ' := by
  intro bs σ σ' h
  induction h with
  | nil => intro b r e; cases e
  | cons ho hm hg hd hb _ => intro b r e; cases e; exact ⟨_, _, _, fun _ _ h => h, ho, hm, StG.rfl', StD.rfl', hg, hd, hb⟩
  | sub hs hg hd _ ih =>
    intro b r e
    obtain ⟨σ1, o, σ2, h1, h2, h3, h4, h5, h6, h7, h8⟩ := ih e
    exact ⟨σ1, o, σ2, fun a w h => h1 a w (hs a w h), h2, h3, hg.trans h4, hd.trans h5, hg.trans h6, hd.trans h7, h8⟩

def notSel (o : Oper) : Bool := match o.op with | .select _ _ => false | _ => true
def chainB (ms : List Nat) : List Nat → Bool
  | [] => true
  | b :: r => r.all (fun c => (ms.getD c 0).testBit b) && chainB ms r
def ordA (ops : Array Oper) : List QI → Bool
  | [] => true
  | x :: r => (match ops[x.i]? with | some o => !(looks ops o).contains x.t && r.all (fun y => !(looks ops o).contains y.t && y.t != x.t) | none => false) && ordA ops r
def part3 (ops : Array Oper) (ms : List Nat) (q : List QI) (bs us : List Nat) (N : Nat) : Bool :=
  (List.range ops.size).all (fun i => (q.map (·.i)).contains i || bs.contains i) &&
  q.all (fun x => match ops[x.i]? with
    | none => false
    | some o => (quiet o && o.guard.isNone && o.dst == some x.t && Nat.blt x.t N && (looks ops o).all us.contains && us.contains x.t) &&
      (List.range ops.size).all fun j => match ops[j]? with | none => false | some o' => (j == x.i || o'.dst != some x.t) && (!(looks ops o').contains x.t || (ms.getD j 0).testBit x.i)) &&
  bs.all (fun b => match ops[b]? with | none => false | some o => o.guard.isNone && notSel o && !(q.map (·.i)).contains b) && chainB ms bs && ordA ops q
def reads3 (ops : Array Oper) (σA : AS) (q : List QI) (ls : List Nat) : Bool := q.all fun x => match ops[x.i]? with | none => false | some o => (rdl σA.g o).all ls.contains

theorem QA.outside : ∀ {q : List QI} {σ σA : AS}, QA F ops q σ σA → σA.d = σ.d ∧ ∀ u, (∀ x ∈ q, x.t ≠ u) → lk σA.g u = lk σ.g u := by
  intro q σ σA h
  induction h with
  | nil => exact ⟨rfl, fun _ _ => rfl⟩
  | cons _ _ _ ih =>
    refine ⟨ih.1, fun u hu => ?_⟩
    rw [ih.2 u fun x hx => hu x (List.mem_cons_of_mem _ hx), lk_cons, if_neg (hu ⟨_, _, _⟩ List.mem_cons_self)]
theorem QA.at : ∀ {q : List QI} {σ σA : AS}, QA F ops q σ σA → ordA ops q = true → ∀ x ∈ q, ∃ o, ops[x.i]? = some o ∧ JO F o σA x.s [] ∧ lk σA.g x.t = some x.s := by
  intro q σ σA h
  induction h with
  | nil => intro _ x hx; cases hx
  | cons ho hj hq ih =>
    rename_i σ σ' l i t s o
    intro hor x hx
    simp only [ordA, ho, Bool.and_eq_true, List.all_eq_true] at hor
    rcases List.mem_cons.1 hx with rfl | hx
    · obtain ⟨hd, hg⟩ := hq.outside
      refine ⟨o, ho, JO.loc (ops := ops) hj ⟨fun u hu => ?_, fun l _ => by rw [hd]⟩, ?_⟩
      · have hne : ∀ y ∈ l, y.t ≠ u := fun y hy e => by
          have h1 := (hor.1.2 y hy).1
          subst e; simp at h1; exact h1 hu
        have h0 := hor.1.1
        rw [hg u hne, lk_cons, if_neg (fun e => by subst e; simp at h0; exact h0 hu)]
      · rw [hg t (fun y hy e => by have h1 := (hor.1.2 y hy).2; subst e; simp at h1)]
        simp [lk_cons]
    · exact ih hor.2 x hx
/-- what they would come to at once -/
theorem QA.would : ∀ {q : List QI} {σ σA : AS}, QA F ops q σ σA → (∀ x ∈ q, ∃ o, ops[x.i]? = some o ∧ quiet o = true ∧ o.dst = some x.t ∧ x.t < F.N) → ∀ {a : Act} {w : World}, St F σ a w →
    ∃ b, St F σA b w ∧ b.tmps.size = a.tmps.size ∧ b.defers = a.defers ∧ ∀ u, (∀ x ∈ q, x.t ≠ u) → b.tmps.getD u undef = a.tmps.getD u undef := by
  intro q σ σA h
  induction h with
  | nil => exact fun _ a w h => ⟨a, h, rfl, rfl, fun _ _ => rfl⟩
  | cons ho hj hq ih =>
    rename_i σ σ' l i t s o
    intro hall a w hst
    obtain ⟨o', ho', hqu, hdst, hlt⟩ := hall ⟨i, t, s⟩ List.mem_cons_self
    have ho' : ops[i]? = some o' := ho'
    rw [ho] at ho'; cases ho'
    obtain ⟨⟨ρ, hc, hs⟩, hz, hde⟩ := hst
    have hr := hj ρ _ a w (Know.of_st hc hs _)
    have hlt : t < F.N := hlt
    have hdst : o.dst = some t := hdst
    have key : ∃ v, Res ρ (Un F.S0 ρ σ.d) w s [] v w := by
      rcases hr with ⟨v, w', h1, h2⟩ | ⟨w', h1, _⟩ | ⟨f, args, w', h1, _⟩ | ⟨l', f, tm, as, bd, w', h1, _⟩
      · have := (quiet_value hqu h1).1; subst this; exact ⟨v, h2⟩
      · obtain ⟨_, v, h3⟩ := quiet_value hqu h1; cases h3
      · obtain ⟨_, v, h3⟩ := quiet_value hqu h1; cases h3
      · obtain ⟨_, v, h3⟩ := quiet_value hqu h1; cases h3
    obtain ⟨v, hv⟩ := key
    have hst1 : St F ⟨(t, s) :: σ.g, σ.d⟩ (a.put (some t) v) w := St.put (dst := some t) (new := []) hc hs hz hde rfl (by simpa [dstOk] using hlt) hv
    obtain ⟨b, h1, h2, h3, h4⟩ := ih (fun x hx => hall x (List.mem_cons_of_mem _ hx)) hst1
    refine ⟨b, h1, by rw [h2, Act.size_put], h3, fun u hu => ?_⟩
    rw [h4 u fun x hx => hu x (List.mem_cons_of_mem _ hx), Act.getD_put a t v u (by rw [hz]; exact hlt), if_neg (hu ⟨i, t, s⟩ List.mem_cons_self)]
theorem St.same {a b : Act} {w : World} (h : St F σ a w) (hz : b.tmps.size = a.tmps.size) (hd : b.defers = a.defers) (hg : ∀ u, b.tmps.getD u undef = a.tmps.getD u undef) : St F σ b w := by
  obtain ⟨⟨ρ, hc, hs⟩, h1, h2⟩ := h
  exact ⟨⟨ρ, hc, fun t s ht => by rw [hg]; exact hs t s ht⟩, by rw [hz, h1], by rw [hd, h2]⟩
theorem eval_same {a b : Act} {x : Operand} {o : Oper} (hx : x ∈ o.op.operands) (h : ∀ u ∈ looks ops o, b.tmps.getD u undef = a.tmps.getD u undef) : b.eval x = a.eval x := by
  cases x with
  | tmp u => exact h u (by simp only [looks, List.mem_append, List.mem_flatMap]; exact .inl ⟨_, by simpa using hx, by simp [rd]⟩)
  | const u => rfl
  | global g => rfl
  | func f => rfl
theorem OpWp.same {a b : Act} {o : Oper} {w : World} {K : Value → World → Prop} (hn : notSel o = true) (h : ∀ u ∈ looks ops o, b.tmps.getD u undef = a.tmps.getD u undef) (hw : OpWp F.P o a w K) : OpWp F.P o b w K := by
  have e : execOp b.eval o = execOp a.eval o := execOp_congr o (fun cs bl hc => by simp [notSel, hc] at hn) fun x hx => eval_same hx h
  unfold OpWp at hw ⊢
  rw [e]; exact hw
theorem Know.same {a b : Act} {o : Oper} {ρ : Nat → LV} {S : Nat → Prop} {w : World} (h : ∀ u ∈ looks ops o, b.tmps.getD u undef = a.tmps.getD u undef) (k : Know σ o.op.operands ρ S a w) : Know σ o.op.operands ρ S b w :=
  ⟨k.low, fun x hx s hs => by rw [eval_same hx h]; exact k.slot x hx s hs, k.ent⟩
/-- what is listed, told by a function -/
theorem ready_iff {listed : Array Bool} {L : Nat → Bool} (hls : listed.size = ops.size) (hL : ∀ i, i < ops.size → listed.getD i false = L i) (i : Nat) : i ∈ Region.ready .any ops listed ↔
    (i < ops.size ∧ L i = false ∧ ∀ o, ops[i]? = some o → ∀ j ∈ deps o, j < ops.size ∧ L j = true) := by
  have hgetD : ∀ i d, i < ops.size → listed.getD i d = L i := by
    intro i d hi
    have := hL i hi
    rw [Array.getD_eq_getD_getElem?] at this ⊢
    rw [Array.getElem?_eq_getElem (by omega)] at this ⊢
    simpa using this
  unfold Region.ready
  rw [List.mem_filter, List.mem_range]
  constructor
  · rintro ⟨h1, h2⟩
    simp only [Bool.and_eq_true, Bool.not_eq_true'] at h2
    obtain ⟨h2, h3⟩ := h2
    rw [hgetD i true h1] at h2
    refine ⟨h1, h2, fun o ho j hj => ?_⟩
    rw [ho] at h3
    simp only [Option.map_some, Option.getD_some] at h3
    obtain ⟨e, he, hej⟩ := List.mem_filterMap.1 hj
    have he' : e ∈ o.after := by simpa using he
    have := Array.all_eq_true_iff_forall_mem.1 h3 e he'
    split at hej
    · rename_i hb
      cases hej
      rw [hb] at this
      simp only [Bool.not_true, Bool.false_or] at this
      rcases Nat.lt_or_ge e.on ops.size with hl | hl
      · rw [hgetD _ _ hl] at this; exact ⟨hl, this⟩
      · rw [Array.getD_eq_getD_getElem?, Array.getElem?_eq_none (by omega)] at this; simp at this
    · cases hej
  · rintro ⟨h1, h2, h3⟩
    refine ⟨h1, ?_⟩
    have ho : ops[i]? = some ops[i] := Array.getElem?_eq_getElem h1
    simp only [Bool.and_eq_true, Bool.not_eq_true', hgetD i true h1, h2, true_and, ho, Option.map_some, Option.getD_some]
    refine Array.all_eq_true_iff_forall_mem.2 fun e he => ?_
    cases hb : Region.binds .any e with
    | false => rfl
    | true =>
      have := h3 _ ho e.on (List.mem_filterMap.2 ⟨e, by simpa using he, by simp [hb]⟩)
      rw [hgetD _ _ this.1, this.2]; rfl
theorem listed_set {listed : Array Bool} {L : Nat → Bool} {j : Nat} (hls : listed.size = ops.size) (hL : ∀ i, i < ops.size → listed.getD i false = L i) : ∀ i, i < ops.size → (listed.setIfInBounds j true).getD i false = (i == j || L i) := by
  intro i hi
  by_cases hij : i = j
  · subst hij
    simp only [Array.getD_eq_getD_getElem?, Array.getElem?_setIfInBounds]
    simp [hls, hi]
  · rw [getD_set_ne false (Ne.symm hij), hL i hi]; simp [hij]
theorem put_agree {a b : Act} {d : Option Tmp} {v : Value} {u : Nat} (hz : a.tmps.size = b.tmps.size) (h : d ≠ some u → a.tmps.getD u undef = b.tmps.getD u undef) : (a.put d v).tmps.getD u undef = (b.put d v).tmps.getD u undef := by
  cases d with
  | none => exact h (by simp)
  | some d =>
    by_cases hd : d < a.tmps.size
    · rw [Act.getD_put a d v u hd, Act.getD_put b d v u (hz ▸ hd)]
      by_cases e : d = u
      · rw [if_pos e, if_pos e]
      · rw [if_neg e, if_neg e]; exact h (by simpa using e)
    · have e1 : (a.put (some d) v).tmps = a.tmps := by simp [Act.put, Array.setIfInBounds, hd]
      have e2 : (b.put (some d) v).tmps = b.tmps := by simp [Act.put, Array.setIfInBounds, hz ▸ hd]
      rw [e1, e2]
      by_cases e : d = u
      · subst e
        rw [Array.getD_eq_getD_getElem?, Array.getD_eq_getD_getElem?, Array.getElem?_eq_none (Nat.le_of_not_lt hd), Array.getElem?_eq_none (Nat.le_of_not_lt (hz ▸ hd))]
      · exact h (by simpa using e)
theorem chainB_at {ms : List Nat} : ∀ {bs : List Nat}, chainB ms bs = true → ∀ pre b r, bs = pre ++ b :: r → ∀ c ∈ r, (ms.getD c 0).testBit b = true
  | [], _, pre, b, r, e => by simp at e
  | x :: bs, h, pre, b, r, e => by
    simp only [chainB, Bool.and_eq_true, List.all_eq_true] at h
    cases pre with
    | nil => simp at e; obtain ⟨rfl, rfl⟩ := e; exact h.1
    | cons y pre => simp at e; exact chainB_at h.2 pre b r e.2
theorem W.dr3 {id : Nat} {cs : List Code} {Q : Exit → Act → World → Prop} (q : List QI) (bs us ls ms : List Nat) (hm : F.P.follows .mixedOrders = true) (hq : QA F ops q σ σA) (hb : QB F ops us ls bs σA σ')
    (hbk : backOk ops = true) (hms : msOk ops ms = true) (hp : part3 ops ms q bs us F.N = true) (hr : reads3 ops σA q ls = true) (k : W F cs σ' Q) : W F (.region id ops true :: cs) σ Q := by
  intro a w hs
  have hanc := ms_spec hbk hms
  simp only [part3, Bool.and_eq_true, List.all_eq_true] at hp
  obtain ⟨⟨⟨⟨p1, p2⟩, p3⟩, p4⟩, p5⟩ := hp
  have hqA := hq.at p5
  have hA : ∀ x ∈ q, ∃ o, ops[x.i]? = some o ∧ quiet o = true ∧ o.guard = none ∧ o.dst = some x.t ∧ x.t < F.N ∧ (∀ u ∈ looks ops o, u ∈ us) ∧ x.t ∈ us ∧
      ∀ j o', ops[j]? = some o' → (j = x.i ∨ o'.dst ≠ some x.t) ∧ (x.t ∈ looks ops o' → Anc ops j x.i) := by
    intro x hx
    have h1 := p2 x hx
    cases ho : ops[x.i]? with
    | none => rw [ho] at h1; simp at h1
    | some o =>
      rw [ho] at h1
      simp only [Bool.and_eq_true, List.all_eq_true, Option.isNone_iff_eq_none, beq_iff_eq] at h1
      obtain ⟨⟨⟨⟨⟨⟨h2, h3⟩, h4⟩, h5⟩, h6⟩, h7⟩, h8⟩ := h1
      refine ⟨o, rfl, h2, h3, h4, Nat.le_of_ble_eq_true h5, fun u hu => by simpa using h6 u hu, by simpa using h7, fun j o' ho' => ?_⟩
      have hj : j < ops.size := by
        rcases Nat.lt_or_ge j ops.size with h | h
        · exact h
        · simp [Array.getElem?_eq_none h] at ho'
      have h9 := h8 j (List.mem_range.2 hj)
      rw [ho'] at h9
      simp only [Bool.and_eq_true, Bool.or_eq_true, Bool.not_eq_true', beq_iff_eq, bne_iff_ne] at h9
      refine ⟨h9.1, fun hc => ?_⟩
      rcases h9.2 with h | h
      · simp at h; exact absurd hc h
      · exact hanc _ _ h
  have hB : ∀ b ∈ bs, ∃ o, ops[b]? = some o ∧ o.guard = none ∧ notSel o = true ∧ ∀ x ∈ q, x.i ≠ b := by
    intro b hb
    have h1 := p3 b hb
    cases ho : ops[b]? with
    | none => rw [ho] at h1; simp at h1
    | some o =>
      rw [ho] at h1
      simp only [Bool.and_eq_true, Option.isNone_iff_eq_none, Bool.not_eq_true'] at h1
      obtain ⟨⟨h2, h3⟩, h4⟩ := h1
      refine ⟨o, rfl, h2, h3, fun x hx e => ?_⟩
      have : (q.map (·.i)).contains b = true := by simpa using ⟨x, hx, e⟩
      rw [this] at h4; cases h4
  have hall : ∀ i, i < ops.size → (∃ x ∈ q, x.i = i) ∨ i ∈ bs := by
    intro i hi
    have h1 := p1 i (List.mem_range.2 hi)
    rw [Bool.or_eq_true] at h1
    rcases h1 with h1 | h1
    · left; simpa using h1
    · right; simpa using h1
  have hrd : ∀ x ∈ q, ∀ o, ops[x.i]? = some o → ∀ l ∈ rdl σA.g o, l ∈ ls := by
    intro x hx o ho l hl
    have h1 := List.all_eq_true.1 hr x hx
    rw [ho] at h1
    simpa using List.all_eq_true.1 h1 l hl
  have hwanted : ∀ (o : Oper) (y : Nat → Option Value), o.guard = none → True := fun _ _ _ => trivial
  have hdown : ∀ (L : Nat → Bool) (i : Nat), Down ops L → (∀ o, ops[i]? = some o → ∀ j ∈ deps o, j < ops.size ∧ L j = true) → Down ops (fun j => j == i || L j) := by
    intro L i hdn h3 j o hj hoj d hd
    by_cases hji : j = i
    · subst hji; simp [(h3 o hoj d hd).2]
    · have : L j = true := by simpa [hji] using hj
      simp [hdn j o this hoj d hd]
  have hancL : ∀ (L : Nat → Bool) (i : Nat), Down ops L → (∀ o, ops[i]? = some o → ∀ j ∈ deps o, j < ops.size ∧ L j = true) → ∀ j, Anc ops i j → L j = true := by
    intro L i hdn h3 j hj
    cases hj with
    | one ho' hd => exact (h3 _ ho' _ hd).2
    | up ho' hd hr => exact hr.down hdn (h3 _ ho' _ hd).2
  have fin : ∀ (L : Nat → Bool) (rest : List Nat) (σk : AS) (a b : Act) (w : World), (∀ i, i < ops.size → L i = true) → (∀ c ∈ rest, c ∈ bs ∧ L c = false) → QB F ops us ls rest σk σ' → St F σk b w → a.tmps.size = b.tmps.size → a.defers = b.defers →
      (∀ u, (∀ x ∈ q, x.t = u → L x.i = true) → a.tmps.getD u undef = b.tmps.getD u undef) → Exit.then (run F.fe F.P Q cs) Q .normal a w := by
    intro L rest σk a b w hL hrest hQ hst hz hde hag
    have hlt : ∀ {i : Nat} {o : Oper}, ops[i]? = some o → i < ops.size := by
      intro i o ho
      rcases Nat.lt_or_ge i ops.size with h | h
      · exact h
      · simp [Array.getElem?_eq_none h] at ho
    have hnil : rest = [] := by
      cases rest with
      | nil => rfl
      | cons c r =>
        obtain ⟨h1, h2⟩ := hrest c List.mem_cons_self
        obtain ⟨o, ho, _⟩ := hB c h1
        rw [hL c (hlt ho)] at h2; cases h2
    exact k a w ((hQ.done hnil b w hst).same hz hde fun u => hag u fun x hx _ => by
      obtain ⟨o, ho, _⟩ := hA x hx
      exact hL _ (hlt ho))
  have main : ∀ fuel (listed : Array Bool) (L : Nat → Bool) (pre rest : List Nat) (σk : AS) (a b : Act) (w : World), listed.size = ops.size → (∀ i, i < ops.size → listed.getD i false = L i) → Down ops L → bs = pre ++ rest → (∀ c ∈ pre, L c = true) → (∀ c ∈ rest, L c = false) →
      ((List.range ops.size).filter fun i => L i).length + fuel = ops.size → QB F ops us ls rest σk σ' → StG σA σk us → StD σA σk ls → St F σk b w → a.tmps.size = b.tmps.size → a.defers = b.defers → (∀ u, (∀ x ∈ q, x.t = u → L x.i = true) → a.tmps.getD u undef = b.tmps.getD u undef) →
      wpAnyIn F.fe 0 F.P .any ops (Exit.then (run F.fe F.P Q cs) Q) fuel listed a w := by
    intro fuel
    induction fuel with
    | zero =>
      intro listed L pre rest σk a b w hls hL hdn hbs hpre hrest hcnt hQ hG hD hst hz hde hag
      have hallL : ∀ i, i < ops.size → L i = true := by
        have hc : ((List.range ops.size).filter fun i => L i).length = (List.range ops.size).length := by simpa using hcnt
        have := List.length_filter_eq_length_iff.1 hc
        exact fun i hi => this i (List.mem_range.2 hi)
      refine ⟨List.eq_nil_iff_forall_not_mem.2 fun i hi => ?_, fin L rest σk a b w hallL (fun c hc => ⟨by rw [hbs]; exact List.mem_append_right _ hc, hrest c hc⟩) hQ hst hz hde hag⟩
      obtain ⟨h1, h2, _⟩ := (ready_iff hls hL i).1 hi
      rw [hallL i h1] at h2; cases h2
    | succ fuel ih =>
      intro listed L pre rest σk a b w hls hL hdn hbs hpre hrest hcnt hQ hG hD hst hz hde hag
      refine ⟨fun hre => ?_, fun i hi => ?_⟩
      · refine fin L rest σk a b w ?_ (fun c hc => ⟨by rw [hbs]; exact List.mem_append_right _ hc, hrest c hc⟩) hQ hst hz hde hag
        intro i
        induction i using Nat.strongRecOn with
        | _ i ihi =>
          intro hi
          cases hLi : L i with
          | true => rfl
          | false =>
            exfalso
            have hnr : i ∉ Region.ready .any ops listed := by rw [hre]; simp
            refine hnr ((ready_iff hls hL i).2 ⟨hi, hLi, fun o ho j hj => ?_⟩)
            have := back_dep hbk ho hj
            exact ⟨by omega, ihi j this (by omega)⟩
      · obtain ⟨h1, h2, h3⟩ := (ready_iff hls hL i).1 hi
        have hanci := hancL L i hdn h3
        have hcnt' : ((List.range ops.size).filter fun j => j == i || L j).length + fuel = ops.size := by
          have := count_add ops.size i L h1 h2
          omega
        unfold wpOpIn
        rcases hall i h1 with ⟨x, hx, rfl⟩ | hib
        · obtain ⟨o, ho, hqu, hg, hdst, hlt, hlk, htu, hoth⟩ := hA x hx
          rw [ho]
          have hw : Region.wanted o (yielded ops a.tmps) = true := by unfold Region.wanted; rw [hg]
          simp only [hw, if_true]
          have hagr : ∀ u ∈ looks ops o, a.tmps.getD u undef = b.tmps.getD u undef := by
            intro u hu
            refine hag u fun y hy e => ?_
            obtain ⟨_, _, _, _, _, _, _, _, hy2⟩ := hA y hy
            subst e
            exact hanci _ ((hy2 _ o ho).2 hu)
          obtain ⟨o2, ho2, hjo, hlk2⟩ := hqA x hx
          rw [ho] at ho2; cases ho2
          have hloc : Loc ops o σA σk := ⟨fun u hu => hG.at (hlk u hu), fun l hl => hD.at (hrd x hx o ho l hl)⟩
          have hst' := hst
          obtain ⟨⟨ρ, hc, hsl⟩, hbz, hbd⟩ := hst
          refine (JO.loc hjo hloc ρ _ a w (Know.same hagr (Know.of_st hc hsl _))).wpIn fun v w' hres => ?_
          refine ih _ (fun j => j == x.i || L j) pre rest σk (a.put o.dst v) (b.put (some x.t) v) w' (by simpa using hls) (listed_set hls hL) (hdown L x.i hdn h3) hbs (fun c hc => by simp [hpre c hc]) (fun c hc => ?_) hcnt' hQ hG hD ?_ (by rw [Act.size_put, Act.size_put, hz]) (by rw [hdst]; exact hde) ?_
          · obtain ⟨_, _, _, _, h6⟩ := hB c (by rw [hbs]; exact List.mem_append_right _ hc)
            have := h6 x hx
            simp [hrest c hc, Ne.symm this]
          · have h7 : St F ⟨(x.t, x.s) :: σk.g, σk.d⟩ (b.put (some x.t) v) w' := St.put (dst := some x.t) (new := []) hc hsl hbz hbd rfl (by simpa [dstOk] using hlt) hres
            refine St.congr (σ := ⟨(x.t, x.s) :: σk.g, σk.d⟩) (σ' := σk) (fun u => ?_) (fun _ => rfl) h7
            show lk σk.g u = lk ((x.t, x.s) :: σk.g) u
            rw [lk_cons]
            split
            · rename_i e; subst e; rw [hG.at htu, hlk2]
            · rfl
          · intro u hu
            rw [hdst]
            refine put_agree hz fun hne => hag u fun y hy e => ?_
            have h8 := hu y hy e
            simp only [Bool.or_eq_true, beq_iff_eq] at h8
            rcases h8 with h8 | h8
            · exfalso
              obtain ⟨oy, hoy, _, _, hdy, _⟩ := hA y hy
              rw [h8, ho] at hoy; cases hoy
              rw [hdst] at hdy
              exact hne (by rw [Option.some.inj hdy, e])
            · exact h8
        · obtain ⟨o, ho, hg, hns, hnq⟩ := hB i hib
          rw [ho]
          have hw : Region.wanted o (yielded ops a.tmps) = true := by unfold Region.wanted; rw [hg]
          simp only [hw, if_true]
          have hir : i ∈ rest := by
            rw [hbs] at hib
            rcases List.mem_append.1 hib with h | h
            · rw [hpre i h] at h2; cases h2
            · exact h
          obtain ⟨r, rfl⟩ : ∃ r, rest = i :: r := by
            cases rest with
            | nil => cases hir
            | cons c r =>
              rcases List.mem_cons.1 hir with rfl | hir
              · exact ⟨r, rfl⟩
              · exfalso
                have := hanci c (hanc _ _ (chainB_at p4 pre c r hbs i hir))
                rw [hrest c List.mem_cons_self] at this; cases this
          have hagr : ∀ u ∈ looks ops o, a.tmps.getD u undef = b.tmps.getD u undef := by
            intro u hu
            refine hag u fun y hy e => ?_
            obtain ⟨_, _, _, _, _, _, _, _, hy2⟩ := hA y hy
            subst e
            exact hanci _ ((hy2 _ o ho).2 hu)
          obtain ⟨σ1, o2, σ2, k1, k2, k3, _, _, k6, k7, k8⟩ := hQ.head rfl
          rw [ho] at k2; cases k2
          refine (OpWp.same hns hagr (k3 b w (k1 b w hst))).wpIn fun v w' h' => ?_
          refine ih _ (fun j => j == i || L j) (pre ++ [i]) r σ2 (a.put o.dst v) (b.put o.dst v) w' (by simpa using hls) (listed_set hls hL) (hdown L i hdn h3) (by rw [hbs]; simp) (fun c hc => ?_) (fun c hc => ?_) hcnt' k8 (hG.trans k6) (hD.trans k7) h' (by rw [Act.size_put, Act.size_put, hz]) (by cases o.dst <;> exact hde) ?_
          · rcases List.mem_append.1 hc with hc | hc
            · simp [hpre c hc]
            · simp at hc; simp [hc]
          · have hne : c ≠ i := by
              rintro rfl
              have := (hanc _ _ (chainB_at p4 pre c r hbs c hc)).lt hbk
              omega
            simp [hne, hrest c (List.mem_cons_of_mem _ hc)]
          · intro u hu
            refine put_agree hz fun _ => hag u fun y hy e => ?_
            have h8 := hu y hy e
            simp only [Bool.or_eq_true, beq_iff_eq] at h8
            rcases h8 with h8 | h8
            · exact absurd h8 (hnq y hy)
            · exact h8
  refine wpIn_region_any hm ?_
  obtain ⟨⟨ρ, hc, hsl⟩, hz, hde⟩ := hs
  have hbl : Below w.heap.size w { w with drawn := w.drawn + 1 } := (Below.refl _ _).drew
  obtain ⟨hc', hE⟩ := hc.below hbl
  have hs' : St F σ a { w with drawn := w.drawn + 1 } := ⟨⟨ρ, hc', fun t s hts => Slot.ok_mono s _ (hsl t s hts) hE (fun _ _ => rfl)⟩, hz, hde⟩
  obtain ⟨b, k1, k2, k3, k4⟩ := hq.would (fun x hx => by
    obtain ⟨o, ho, h1, _, h2, h3, _⟩ := hA x hx
    exact ⟨o, ho, h1, h2, h3⟩) hs'
  refine main ops.size _ (fun _ => false) [] bs σA a b _ (by simp) (fun i hi => by rw [Array.getD_eq_getD_getElem?, Array.getElem?_replicate, if_pos hi]; rfl) (fun _ _ h => by cases h) rfl (fun _ h => by cases h) (fun _ _ => rfl) (by rw [List.filter_eq_nil_iff.2 (fun _ _ h => by cases h)]; simp) hb StG.rfl' StD.rfl' k1 k2.symm k3.symm fun u hu => (k4 u fun x hx e => by have := hu x hx e; cases this).symm
end
end Go.Sw

namespace Go.Sw
open Go Go.RowKit
/-- what an operation makes, what of it is new, at what it looks, and what is ours no more -/
structure Itm4 where
  s : Slot
  nw : List (Nat × Ent)
  fr : List (Nat × Ent)
  rl : List Nat
  dl : List Nat
/-- operations in the text's order -/
inductive JP4 (F : Frm) (ops : Array Oper) : List Oper → AS → List Itm4 → AS → Prop
  | nil {σ : AS} : JP4 F ops [] σ [] σ
  | cons {o : Oper} {os : List Oper} {σ σ' : AS} {s : Slot} {new : List (Nat × Ent)} {h : List Itm4} : GK ops σ.g o true → JO F o σ s new → dstOk o.dst F.N = true →
      JP4 F ops os ⟨gput o.dst s σ.g, new ++ σ.d⟩ h σ' → JP4 F ops (o :: os) σ (⟨s, new, new, rdl σ.g o, []⟩ :: h) σ'
  | left {o : Oper} {os : List Oper} {σ σ' : AS} {h : List Itm4} : GK ops σ.g o false → dstOk o.dst F.N = true → JP4 F ops os ⟨gput o.dst .top σ.g, σ.d⟩ h σ' → JP4 F ops (o :: os) σ (⟨.top, [], [], rdl σ.g o, []⟩ :: h) σ'
  | mv {o : Oper} {os : List Oper} {σ σ' : AS} {s : Slot} {nw fr : List (Nat × Ent)} {dl : List Nat} {h : List Itm4} : GK ops σ.g o true → dstOk o.dst F.N = true → (∀ σ2, Loc ops o σ σ2 → σ2.free fr = true → JM F o σ2 ⟨gput o.dst s σ2.g, nw ++ delEs σ2.d dl⟩) →
      JP4 F ops os ⟨gput o.dst s σ.g, nw ++ delEs σ.d dl⟩ h σ' → JP4 F ops (o :: os) σ (⟨s, nw, fr, rdl σ.g o, dl⟩ :: h) σ'
/-- what one makes or takes away is apart from what the other makes and looks at -/
def apt4 (a b : Itm4) : Bool := (a.nw.map (·.1) ++ a.dl).all fun l => (!b.rl.contains l && !b.dl.contains l) && b.nw.all fun y => !Nat.beq y.1 l
/-- operations none of which waits for the other are apart -/
def com4 (its : List Itm4) (ms : List Nat) : Bool :=
  (List.range its.length).all fun i => (List.range its.length).all fun j => Nat.beq i j || (ms.getD j 0).testBit i || (ms.getD i 0).testBit j ||
    (match its[i]?, its[j]? with | some a, some b => apt4 a b | _, _ => true)
/-- what is new is named nowhere else -/
def fre4 (σ : AS) (its : List Itm4) (ms : List Nat) : Bool :=
  (List.range its.length).all fun j => match its[j]? with
    | none => true
    | some b => b.fr.all fun x => (σ.g.all fun y => !y.2.lab.contains x.1) && (σ.d.all fun y => !Nat.beq y.1 x.1 && !y.2.lab.contains x.1) &&
        (List.range its.length).all fun i => Nat.beq i j || (ms.getD i 0).testBit j || (match its[i]? with | none => true | some a => !a.s.lab.contains x.1 && a.nw.all fun y => !Nat.beq y.1 x.1 && !y.2.lab.contains x.1)
def dL4 (nw : Nat → List (Nat × Ent)) (dl : Nat → List Nat) (d : List (Nat × Ent)) : Nat → (Nat → Bool) → List (Nat × Ent)
  | 0, _ => d
  | m + 1, L => bif L m then nw m ++ delEs (dL4 nw dl d m L) (dl m) else dL4 nw dl d m L
section
variable {nw : Nat → List (Nat × Ent)} {dl : Nat → List Nat} {d : List (Nat × Ent)}
theorem dL4_congr {l : Nat} {L L' : Nat → Bool} : ∀ {m : Nat}, (∀ i, i < m → (lkE (nw i) l ≠ none ∨ l ∈ dl i) → L i = L' i) → lkE (dL4 nw dl d m L) l = lkE (dL4 nw dl d m L') l
  | 0, _ => rfl
  | m + 1, h => by
    have ih := dL4_congr (m := m) (fun i hi => h i (by omega))
    simp only [dL4]
    by_cases hd : lkE (nw m) l = none ∧ l ∉ dl m
    · cases L m <;> cases L' m <;> simp [lkE_append, hd.1, lkE_delEs, hd.2, ih]
    · have hd' : lkE (nw m) l ≠ none ∨ l ∈ dl m := by
        by_cases h1 : lkE (nw m) l = none
        · by_cases h2 : l ∈ dl m
          · exact .inr h2
          · exact absurd ⟨h1, h2⟩ hd
        · exact .inl h1
      rw [h m (by omega) hd']; cases L' m <;> simp [lkE_append, lkE_delEs, ih]
theorem dL4_at {l j : Nat} {en : Ent} {L : Nat → Bool} (hj : lkE (nw j) l = some en) (hL : L j = true) : ∀ {m : Nat}, j < m → (∀ i, j < i → i < m → L i = true → lkE (nw i) l = none ∧ l ∉ dl i) → lkE (dL4 nw dl d m L) l = some en
  | 0, h, _ => by omega
  | m + 1, h, hn => by
    simp only [dL4]
    by_cases hm : j = m
    · subst hm; rw [hL]; simp [lkE_append, hj]
    · have ih := dL4_at (m := m) hj hL (by omega) (fun i h1 h2 => hn i h1 (by omega))
      cases hLm : L m with
      | false => simpa using ih
      | true => obtain ⟨h1, h2⟩ := hn m (by omega) (by omega) hLm; simp [lkE_append, h1, lkE_delEs, h2, ih]
theorem dL4_gone {l j : Nat} {L : Nat → Bool} (hj : lkE (nw j) l = none) (hg : l ∈ dl j) (hL : L j = true) : ∀ {m : Nat}, j < m → (∀ i, j < i → i < m → L i = true → lkE (nw i) l = none ∧ l ∉ dl i) → lkE (dL4 nw dl d m L) l = none
  | 0, h, _ => by omega
  | m + 1, h, hn => by
    simp only [dL4]
    by_cases hm : j = m
    · subst hm; rw [hL]; simp [lkE_append, hj, lkE_delEs, hg]
    · have ih := dL4_gone (m := m) hj hg hL (by omega) (fun i h1 h2 => hn i h1 (by omega))
      cases hLm : L m with
      | false => simpa using ih
      | true => obtain ⟨h1, h2⟩ := hn m (by omega) (by omega) hLm; simp [lkE_append, h1, lkE_delEs, h2, ih]
theorem mem_delE {y : Nat × Ent} {i : Nat} : ∀ {d : List (Nat × Ent)}, y ∈ delE d i → y ∈ d
  | [], h => by simp [delE] at h
  | (j, en) :: r, h => by
    simp only [delE] at h
    cases hb : Nat.beq j i with
    | true => rw [hb] at h; exact List.mem_cons_of_mem _ (mem_delE h)
    | false =>
      rw [hb] at h
      rcases List.mem_cons.1 h with h | h
      · rw [h]; exact List.mem_cons_self
      · exact List.mem_cons_of_mem _ (mem_delE h)
theorem mem_delEs {y : Nat × Ent} {d : List (Nat × Ent)} : ∀ {H : List Nat}, y ∈ delEs d H → y ∈ d
  | [], h => h
  | _ :: H, h => mem_delEs (H := H) (mem_delE h)
theorem mem_dL4 {y : Nat × Ent} {L : Nat → Bool} : ∀ {m : Nat}, y ∈ dL4 nw dl d m L → y ∈ d ∨ ∃ i, i < m ∧ L i = true ∧ y ∈ nw i
  | 0, h => .inl h
  | m + 1, h => by
    simp only [dL4] at h
    cases hL : L m with
    | false =>
      rw [hL] at h
      rcases mem_dL4 (m := m) h with h | ⟨i, h1, h2⟩
      · exact .inl h
      · exact .inr ⟨i, by omega, h2⟩
    | true =>
      rw [hL] at h
      rcases List.mem_append.1 h with h | h
      · exact .inr ⟨m, by omega, hL, h⟩
      · rcases mem_dL4 (m := m) (mem_delEs h) with h | ⟨i, h1, h2⟩
        · exact .inl h
        · exact .inr ⟨i, by omega, h2⟩
theorem dL4_beyond {L : Nat → Bool} {m : Nat} : ∀ {n : Nat}, m ≤ n → (∀ i, m ≤ i → i < n → L i = false) → dL4 nw dl d n L = dL4 nw dl d m L
  | 0, h, _ => by have : m = 0 := by omega
                  subst this; rfl
  | n + 1, h, hL => by
    rcases Nat.lt_or_ge n m with h1 | h1
    · have : m = n + 1 := by omega
      subst this; rfl
    · simp only [dL4, hL n h1 (by omega), cond_false]; exact dL4_beyond h1 fun i h2 h3 => hL i h2 (by omega)
theorem dL4_first {L : Nat → Bool} : ∀ {m : Nat}, dL4 nw dl d (m + 1) L = dL4 (fun i => nw (i + 1)) (fun i => dl (i + 1)) (bif L 0 then nw 0 ++ delEs d (dl 0) else d) m (fun i => L (i + 1))
  | 0 => rfl
  | m + 1 => by rw [dL4, dL4_first (m := m)]; rfl
end
section
variable {F : Frm} {ops : Array Oper}
/-- what the i-th operation comes to -/
structure AtI4 (F : Frm) (ops : Array Oper) (dst : Nat → Option Tmp) (its : Nat → Itm4) (σ : AS) (n : Nat) (i : Nat) (o : Oper) : Prop where
  ok : dstOk o.dst F.N = true
  rl : (its i).rl = rdl (gLs dst (fun i => (its i).s) σ.g n (fun k => decide (k < i))) o
  cs : (GK ops (gLs dst (fun i => (its i).s) σ.g n (fun k => decide (k < i))) o true ∧ (its i).fr = (its i).nw ∧ (its i).dl = [] ∧ JO F o ⟨gLs dst (fun i => (its i).s) σ.g n (fun k => decide (k < i)), dL4 (fun i => (its i).nw) (fun i => (its i).dl) σ.d n (fun k => decide (k < i))⟩ (its i).s (its i).nw) ∨
    (GK ops (gLs dst (fun i => (its i).s) σ.g n (fun k => decide (k < i))) o false ∧ (its i).s = .top ∧ (its i).nw = [] ∧ (its i).dl = []) ∨
    (GK ops (gLs dst (fun i => (its i).s) σ.g n (fun k => decide (k < i))) o true ∧
      ∀ σ2, Loc ops o ⟨gLs dst (fun i => (its i).s) σ.g n (fun k => decide (k < i)), dL4 (fun i => (its i).nw) (fun i => (its i).dl) σ.d n (fun k => decide (k < i))⟩ σ2 → σ2.free (its i).fr = true → JM F o σ2 ⟨gput o.dst (its i).s σ2.g, (its i).nw ++ delEs σ2.d (its i).dl⟩)
theorem JP4.len {os : List Oper} {σ σ' : AS} {h : List Itm4} (hp : JP4 F ops os σ h σ') : h.length = os.length := by
  induction hp with
  | nil => rfl
  | cons _ _ _ _ ih => simp [ih]
  | left _ _ _ ih => simp [ih]
  | mv _ _ _ _ ih => simp [ih]
theorem JP4.at {os : List Oper} {σ σ' : AS} {h : List Itm4} (hp : JP4 F ops os σ h σ') :
    σ'.g = gLs (fun i => (os[i]?).bind (·.dst)) (fun i => (h.getD i ⟨.top, [], [], [], []⟩).s) σ.g os.length (fun _ => true) ∧ σ'.d = dL4 (fun i => (h.getD i ⟨.top, [], [], [], []⟩).nw) (fun i => (h.getD i ⟨.top, [], [], [], []⟩).dl) σ.d os.length (fun _ => true) ∧
    ∀ i o, os[i]? = some o → AtI4 F ops (fun i => (os[i]?).bind (·.dst)) (fun i => h.getD i ⟨.top, [], [], [], []⟩) σ os.length i o := by
  have step : ∀ {o0 : Oper} {os : List Oper} {σ σ' : AS} {h : List Itm4} {it : Itm4}, 
      (σ'.g = gLs (fun i => (os[i]?).bind (·.dst)) (fun i => (h.getD i ⟨.top, [], [], [], []⟩).s) (gput o0.dst it.s σ.g) os.length (fun _ => true) ∧ σ'.d = dL4 (fun i => (h.getD i ⟨.top, [], [], [], []⟩).nw) (fun i => (h.getD i ⟨.top, [], [], [], []⟩).dl) (it.nw ++ delEs σ.d it.dl) os.length (fun _ => true) ∧
        ∀ i o, os[i]? = some o → AtI4 F ops (fun i => (os[i]?).bind (·.dst)) (fun i => h.getD i ⟨.top, [], [], [], []⟩) ⟨gput o0.dst it.s σ.g, it.nw ++ delEs σ.d it.dl⟩ os.length i o) →
      AtI4 F ops (fun i => ((o0 :: os)[i]?).bind (·.dst)) (fun i => (it :: h).getD i ⟨.top, [], [], [], []⟩) σ (o0 :: os).length 0 o0 →
      (σ'.g = gLs (fun i => ((o0 :: os)[i]?).bind (·.dst)) (fun i => ((it :: h).getD i ⟨.top, [], [], [], []⟩).s) σ.g (o0 :: os).length (fun _ => true) ∧ σ'.d = dL4 (fun i => ((it :: h).getD i ⟨.top, [], [], [], []⟩).nw) (fun i => ((it :: h).getD i ⟨.top, [], [], [], []⟩).dl) σ.d (o0 :: os).length (fun _ => true) ∧
        ∀ i o, (o0 :: os)[i]? = some o → AtI4 F ops (fun i => ((o0 :: os)[i]?).bind (·.dst)) (fun i => (it :: h).getD i ⟨.top, [], [], [], []⟩) σ (o0 :: os).length i o) := by
    rintro o0 os σ σ' h it ⟨h1, h2, h3⟩ h0
    refine ⟨by rw [h1, List.length_cons, gLs_first]; rfl, by rw [h2, List.length_cons, dL4_first]; rfl, fun i o hi => ?_⟩
    cases i with
    | zero => simp at hi; subst hi; exact h0
    | succ i =>
      have h4 := h3 i o (by simpa using hi)
      have e1 : gLs (fun i => ((o0 :: os)[i]?).bind (·.dst)) (fun i => ((it :: h).getD i ⟨.top, [], [], [], []⟩).s) σ.g (o0 :: os).length (fun k => decide (k < i + 1)) =
          gLs (fun i => (os[i]?).bind (·.dst)) (fun i => (h.getD i ⟨.top, [], [], [], []⟩).s) (gput o0.dst it.s σ.g) os.length (fun k => decide (k < i)) := by
        rw [List.length_cons, gLs_first]
        simp
      have e2 : dL4 (fun i => ((it :: h).getD i ⟨.top, [], [], [], []⟩).nw) (fun i => ((it :: h).getD i ⟨.top, [], [], [], []⟩).dl) σ.d (o0 :: os).length (fun k => decide (k < i + 1)) =
          dL4 (fun i => (h.getD i ⟨.top, [], [], [], []⟩).nw) (fun i => (h.getD i ⟨.top, [], [], [], []⟩).dl) (it.nw ++ delEs σ.d it.dl) os.length (fun k => decide (k < i)) := by
        rw [List.length_cons, dL4_first]
        simp
      refine ⟨h4.ok, ?_, ?_⟩
      · rw [e1]; exact h4.rl
      · rw [e1, e2]; exact h4.cs
  have z1 : ∀ {o0 : Oper} {os : List Oper} {σ : AS} {h : List Itm4} {it : Itm4}, gLs (fun i => ((o0 :: os)[i]?).bind (·.dst)) (fun i => ((it :: h).getD i ⟨.top, [], [], [], []⟩).s) σ.g (o0 :: os).length (fun k => decide (k < 0)) = σ.g := by
    intro o0 os σ h it
    rw [gLs_beyond (m := 0) (Nat.zero_le _) (fun i _ _ => by simp)]; rfl
  have z2 : ∀ {o0 : Oper} {os : List Oper} {σ : AS} {h : List Itm4} {it : Itm4}, dL4 (fun i => ((it :: h).getD i ⟨.top, [], [], [], []⟩).nw) (fun i => ((it :: h).getD i ⟨.top, [], [], [], []⟩).dl) σ.d (o0 :: os).length (fun k => decide (k < 0)) = σ.d := by
    intro o0 os σ h it
    rw [dL4_beyond (m := 0) (Nat.zero_le _) (fun i _ _ => by simp)]; rfl
  induction hp with
  | nil => exact ⟨rfl, rfl, fun i o h => by simp at h⟩
  | cons g j d _ ih =>
    rename_i o os σ σ' s new h _
    refine step (it := ⟨s, new, new, rdl σ.g o, []⟩) ih ⟨d, ?_, ?_⟩
    · rw [z1]; rfl
    · rw [z1, z2]; exact .inl ⟨g, rfl, rfl, j⟩
  | left g d _ ih =>
    rename_i o os σ σ' h _
    refine step (it := ⟨.top, [], [], rdl σ.g o, []⟩) ih ⟨d, ?_, ?_⟩
    · rw [z1]; rfl
    · rw [z1, z2]; exact .inr (.inl ⟨g, rfl, rfl, rfl⟩)
  | mv g hd hm hp ih =>
    rename_i o os σ σ' s nw fr dl h
    refine step (it := ⟨s, nw, fr, rdl σ.g o, dl⟩) ih ⟨hd, ?_, ?_⟩
    · rw [z1]; rfl
    · rw [z1, z2]; exact .inr (.inr ⟨g, hm⟩)

theorem W.dr4 {id : Nat} {ops : Array Oper} {cs : List Code} {σ σ1 σ' : AS} {its : List Itm4} {Q : Exit → Act → World → Prop} (n : Nat) (ms : List Nat) (hm : F.P.follows .mixedOrders = true) (hp : JP4 F ops (ops.toList.take n) σ its σ1) (ht : J F ops (ops.toList.drop n) σ1 σ')
    (hn : Nat.ble n ops.size = true) (hbk : backOk ops = true) (hms : msOk ops ms = true) (hok : drawOk2 ops n ms = true) (hcm : com4 its ms = true) (hfe : fre4 σ its ms = true) (k : W F cs σ' Q) : W F (.region id ops true :: cs) σ Q := by
  intro a w hs
  have hn := Nat.le_of_ble_eq_true hn
  obtain ⟨l1, hl1⟩ : ∃ l1, l1 = ops.toList.take n := ⟨_, rfl⟩
  obtain ⟨l2, hl2⟩ : ∃ l2, l2 = ops.toList.drop n := ⟨_, rfl⟩
  rw [← hl1] at hp
  rw [← hl2] at ht
  have hl : ops.toList = l1 ++ l2 := by rw [hl1, hl2]; exact (List.take_append_drop n ops.toList).symm
  have hln : l1.length = n := by rw [hl1, List.length_take, Array.length_toList]; exact Nat.min_eq_left hn
  have hil : its.length = n := by rw [hp.len, hln]
  obtain ⟨s1, d1, hst⟩ := hp.at
  obtain ⟨dst, hdstE⟩ : ∃ dst : Nat → Option Tmp, dst = fun i => (l1[i]?).bind (·.dst) := ⟨_, rfl⟩
  obtain ⟨it, hitE⟩ : ∃ it : Nat → Itm4, it = fun i => its.getD i ⟨.top, [], [], [], []⟩ := ⟨_, rfl⟩
  rw [← hdstE, hln] at hst
  rw [← hitE] at hst
  rw [← hdstE, hln] at s1
  rw [hln] at d1
  have s1 : σ1.g = gLs dst (fun i => (it i).s) σ.g n (fun _ => true) := by rw [s1, hitE]
  have d1 : σ1.d = dL4 (fun i => (it i).nw) (fun i => (it i).dl) σ.d n (fun _ => true) := by rw [d1, hitE]
  have hsz : ops.size = l1.length + l2.length := by rw [← Array.length_toList, hl, List.length_append]
  have hget : ∀ i : Nat, ops[i]? = (l1 ++ l2)[i]? := fun i => by rw [← hl]; exact (Array.getElem?_toList).symm
  have hos : ∀ i, i < n → l1[i]? = ops[i]? := fun i hi => by rw [hget, List.getElem?_append_left (by omega)]
  have hdst : ∀ i o, i < n → ops[i]? = some o → dst i = o.dst := fun i o hi ho => by rw [hdstE]; show (l1[i]?).bind _ = _; rw [hos i hi, ho]; rfl
  have hop : ∀ i, i < n → ∃ o, ops[i]? = some o := fun i hi => ⟨ops[i]'(by omega), Array.getElem?_eq_getElem (by omega)⟩
  have hanc := ms_spec hbk hms
  have hat : ∀ i o, i < n → ops[i]? = some o → AtI4 F ops dst it σ n i o := fun i o hi ho => hst i o (by rw [hos i hi]; exact ho)
  have hitE2 : ∀ q, q < n → its[q]? = some (it q) := fun q hq => by
    rw [hitE]; simp only [List.getD_eq_getElem?_getD]; rw [List.getElem?_eq_getElem (by omega)]; rfl
  -- two that do not wait for each other
  have hcom : ∀ i j, i < n → j < n → i ≠ j → Anc ops j i ∨ Anc ops i j ∨ apt4 (it i) (it j) = true := by
    intro i j hi hj hij
    have h1 := List.all_eq_true.1 (List.all_eq_true.1 hcm i (List.mem_range.2 (by omega))) j (List.mem_range.2 (by omega))
    simp only [Bool.or_eq_true] at h1
    rcases h1 with ((h1 | h1) | h1) | h1
    · exact absurd (Nat.eq_of_beq_eq_true h1) hij
    · exact .inl (hanc _ _ h1)
    · exact .inr (.inl (hanc _ _ h1))
    · refine .inr (.inr ?_)
      rw [hitE2 i hi, hitE2 j hj] at h1
      exact h1
  have hapt : ∀ {a b : Itm4} {l : Nat}, apt4 a b = true → (lkE a.nw l ≠ none ∨ l ∈ a.dl) → l ∉ b.rl ∧ l ∉ b.dl ∧ ∀ y ∈ b.nw, y.1 ≠ l := by
    intro a b l h hx
    have hl : l ∈ a.nw.map (·.1) ++ a.dl := by
      rcases hx with hx | hx
      · obtain ⟨e, he⟩ := Option.ne_none_iff_exists'.1 hx
        exact List.mem_append_left _ (List.mem_map.2 ⟨_, lkE_mem he, rfl⟩)
      · exact List.mem_append_right _ hx
    have := List.all_eq_true.1 h _ hl
    simp only [Bool.and_eq_true, Bool.not_eq_true', List.all_eq_true] at this
    refine ⟨fun hc => ?_, fun hc => ?_, fun y hy e => ?_⟩
    · have h2 := this.1.1; simp at h2; exact h2 hc
    · have h2 := this.1.2; simp at h2; exact h2 hc
    · have h2 := this.2 y hy; rw [e] at h2; simp at h2
  obtain ⟨σL, hσL⟩ : ∃ σL : (Nat → Bool) → AS, σL = fun L => ⟨gLs dst (fun i => (it i).s) σ.g n L, dL4 (fun i => (it i).nw) (fun i => (it i).dl) σ.d n L⟩ := ⟨_, rfl⟩
  have hpure : ∀ i o t, i < n → ops[i]? = some o → o.dst = some t → ∀ j o', j < n → ops[j]? = some o' → (j = i ∨ o'.dst ≠ some t) ∧ (t ∈ looks ops o' → Anc ops j i ∨ Anc ops i j) := by
    intro i o t hi ho hd j o' hj ho'
    have h1 := List.all_eq_true.1 hok i (List.mem_range.2 (by omega))
    simp only [ho, if_pos hi, hd] at h1
    have h2 := List.all_eq_true.1 h1 j (List.mem_range.2 hj)
    simp only [ho', Bool.and_eq_true, Bool.or_eq_true, Bool.not_eq_true'] at h2
    obtain ⟨h3, h4⟩ := h2
    refine ⟨h3.imp (fun h => by simpa using h) (fun h => by simpa using h), fun hc => ?_⟩
    rcases h4 with (h4 | h4) | h4
    · simp at h4; exact absurd hc h4
    · exact .inl (hanc _ _ h4)
    · exact .inr (hanc _ _ h4)
  have htail : ∀ {i : Nat} {o : Oper}, ¬ i < n → ops[i]? = some o → ∀ {j : Nat}, j < i → Anc ops i j := by
    intro i o hi ho j hj
    have hlt : i < ops.size := by
      rcases Nat.lt_or_ge i ops.size with h | h
      · exact h
      · simp [Array.getElem?_eq_none h] at ho
    have h1 := List.all_eq_true.1 hok i (List.mem_range.2 hlt)
    simp only [ho, if_neg hi] at h1
    exact hanc _ _ (List.all_eq_true.1 h1 j (List.mem_range.2 hj))
  have hback : ∀ i o, i < ops.size → ops[i]? = some o → ∀ j ∈ deps o, j < i := fun i o _ ho j hj => back_dep hbk ho hj
  have hwait : ∀ m o, n ≤ m → ops[m]? = some o → ∀ j ∈ deps o, j < ops.size ∧ decide (j < m) = true := by
    intro m o _ ho j hj
    have hlt : m < ops.size := by
      rcases Nat.lt_or_ge m ops.size with h | h
      · exact h
      · simp [Array.getElem?_eq_none h] at ho
    have := hback m o hlt ho j hj
    exact ⟨by omega, by simpa using this⟩
  have hfull : ∀ L a w, St F (σL L) a w → (∀ i, i < n → L i = true) → St F σ1 a w := by
    intro L a w h hall
    rw [hσL] at h
    refine St.congr (fun u => ?_) (fun l => ?_) h
    · rw [s1]; exact gLs_congr fun i hi _ => by rw [hall i hi]
    · rw [d1]; exact dL4_congr fun i hi _ => by rw [hall i hi]
  -- one of them
  have hstep : ∀ L a w j o, Down ops L → St F (σL L) a w → j < n → ops[j]? = some o → L j = false → (∀ i ∈ deps o, L i = true) → ∀ K : Act → World → Prop,
      (∀ a' w', St F (σL fun i => i == j || L i) a' w' → K a' w') → wpOpIn F.fe 0 F.P ops (Exit.then (run F.fe F.P Q cs) Q) j K a w := by
    intro L a w j o hdn h hj ho hLj hdep K hK
    have hA := hat j o hj ho
    have hancL : ∀ i, Anc ops j i → L i = true := by
      intro i hi
      cases hi with
      | one ho' hd => rw [ho] at ho'; cases ho'; exact hdep _ hd
      | up ho' hd hr => rw [ho] at ho'; cases ho'; exact hr.down hdn (hdep _ hd)
    have hno : ∀ i, L i = true → ¬ Anc ops i j := fun i hi hc => by rw [hc.down hdn hi] at hLj; cases hLj
    obtain ⟨σ0, hσ0⟩ : ∃ σ0 : AS, σ0 = ⟨gLs dst (fun i => (it i).s) σ.g n (fun k => decide (k < j)), dL4 (fun i => (it i).nw) (fun i => (it i).dl) σ.d n (fun k => decide (k < j))⟩ := ⟨_, rfl⟩
    have hloc : Loc ops o σ0 (σL L) := by
      rw [hσ0, hσL]
      refine ⟨fun u hu => gLs_congr fun i hi hd => ?_, fun l hl => dL4_congr fun i hi hx => ?_⟩
      · obtain ⟨oi, hoi⟩ := hop i hi
        rw [hdst i oi hi hoi] at hd
        rcases (hpure i oi u hi hoi hd j o hj ho).2 hu with h1 | h1
        · have := h1.lt hbk
          rw [hancL i h1]; simpa using this
        · have h2 := h1.lt hbk
          have h3 : L i = false := by
            cases hLi : L i with
            | false => rfl
            | true => exact absurd h1 (hno i hLi)
          rw [h3]; simp; omega
      · by_cases hij : i = j
        · subst hij; rw [hLj]; simp
        · have hrl : l ∈ (it j).rl := by rw [hA.rl]; exact hl
          rcases hcom i j hi hj hij with h1 | h1 | h1
          · have := h1.lt hbk
            rw [hancL i h1]; simpa using this
          · have h2 := h1.lt hbk
            have h3 : L i = false := by
              cases hLi : L i with
              | false => rfl
              | true => exact absurd h1 (hno i hLi)
            rw [h3]; simp; omega
          · exact absurd hrl (hapt h1 hx).1
    -- one that stands behind j and is done does not touch what j makes
    have hbeh : ∀ l, (lkE (it j).nw l ≠ none ∨ l ∈ (it j).dl) → ∀ i, j < i → i < n → (i == j || L i) = true → lkE (it i).nw l = none ∧ l ∉ (it i).dl := by
      intro l hl i hji hi hLi
      have hij : i ≠ j := by omega
      have hLi' : L i = true := by simpa [hij] using hLi
      rcases hcom j i hj hi (Ne.symm hij) with h1 | h1 | h1
      · exact absurd h1 (hno i hLi')
      · have := h1.lt hbk; omega
      · refine ⟨?_, ?_⟩
        · cases hy : lkE (it i).nw l with
          | none => rfl
          | some e => exact absurd rfl ((hapt (l := l) h1 hl).2.2 _ (lkE_mem hy))
        · exact (hapt (l := l) h1 hl).2.1
    -- what is known then
    have hafter : ∀ a' w', St F ⟨gput o.dst (it j).s (σL L).g, (it j).nw ++ delEs (σL L).d (it j).dl⟩ a' w' → St F (σL fun i => i == j || L i) a' w' := by
      intro a' w' h'
      rw [hσL] at h' ⊢
      refine St.congr (fun u => ?_) (fun l => ?_) h'
      · show lk (gLs _ _ _ _ _) u = lk (gput _ _ (gLs _ _ _ _ _)) u
        rw [lk_gput]
        split
        · rename_i hd
          refine gLs_at (by rw [hdst j o hj ho]; exact hd) (by simp) hj fun i hi hij hc => ?_
          obtain ⟨oi, hoi⟩ := hop i hi
          rw [hdst i oi hi hoi] at hc
          rcases (hpure j o u hj ho hd i oi hi hoi).1 with h1 | h1
          · exact hij h1
          · exact h1 hc
        · rename_i hd
          refine gLs_congr fun i hi hc => ?_
          by_cases hij : i = j
          · subst hij; rw [hdst i o hi ho] at hc; exact absurd hc hd
          · simp [hij]
      · show lkE (dL4 _ _ _ _ _) l = lkE (_ ++ delEs (dL4 _ _ _ _ _) _) l
        rw [lkE_append]
        cases hx : lkE (it j).nw l with
        | some en => exact dL4_at hx (by simp) hj (hbeh l (.inl (by rw [hx]; simp)))
        | none =>
          simp only [Option.none_or]
          rw [lkE_delEs]
          by_cases hg : l ∈ (it j).dl
          · rw [if_pos hg]
            exact dL4_gone hx hg (by simp) hj (hbeh l (.inr hg))
          · rw [if_neg hg]
            refine dL4_congr fun i hi hc => ?_
            by_cases hij : i = j
            · subst hij; rcases hc with hc | hc
              · exact absurd hx hc
              · exact absurd hc hg
            · simp [hij]
    have hfree : AS.free (σL L) (it j).fr = true := by
      refine List.all_eq_true.2 fun x hx => ?_
      have h0 := List.all_eq_true.1 hfe j (List.mem_range.2 (by omega))
      rw [hitE2 j hj] at h0
      have h1 := List.all_eq_true.1 h0 x hx
      simp only [Bool.and_eq_true, List.all_eq_true, Bool.or_eq_true] at h1
      obtain ⟨⟨h1, h2⟩, h3⟩ := h1
      have h4 : ∀ i, i < n → L i = true → (!(it i).s.lab.contains x.1) = true ∧ ∀ y ∈ (it i).nw, (!Nat.beq y.1 x.1) = true ∧ (!y.2.lab.contains x.1) = true := by
        intro i hi hLi
        have h5 := h3 i (List.mem_range.2 (by omega))
        rw [hitE2 i hi] at h5
        rcases h5 with (h5 | h5) | h5
        · rw [Nat.eq_of_beq_eq_true h5, hLj] at hLi; cases hLi
        · exact absurd (hanc _ _ h5) (hno i hLi)
        · simp only [Bool.and_eq_true, List.all_eq_true] at h5
          exact h5
      rw [hσL]
      simp only [Bool.and_eq_true, List.all_eq_true]
      refine ⟨fun y hy => ?_, fun y hy => ?_⟩
      · rcases mem_gLs hy with h5 | ⟨i, hi, hLi, e⟩
        · exact h1 y h5
        · rw [e]; exact (h4 i hi hLi).1
      · rcases mem_dL4 hy with h5 | ⟨i, hi, hLi, hy⟩
        · exact h2 y h5
        · exact (h4 i hi hLi).2 y hy
    have hgw : ∀ b, GK ops σ0.g o b → Region.wanted o (yielded ops a.tmps) = b := by
      intro b hg
      obtain ⟨⟨ρ, hc, hsl⟩, _, _⟩ := h
      exact wanted_of (gk_loc hg hloc) fun t s _ ht => hsl t s ht
    unfold wpOpIn
    rw [ho]
    have hcs := hA.cs
    rw [show (gLs dst (fun i => (it i).s) σ.g n fun k => decide (k < j)) = σ0.g by rw [hσ0], show (dL4 (fun i => (it i).nw) (fun i => (it i).dl) σ.d n fun k => decide (k < j)) = σ0.d by rw [hσ0]] at hcs
    rcases hcs with ⟨hg, hfr, hdl, hjo⟩ | ⟨hg, htop, hnw, hdl⟩ | ⟨hg, hjm⟩
    · simp only [hgw true hg, if_true]
      obtain ⟨⟨ρ, hc, hsl⟩, hz, hde⟩ := h
      refine (JO.loc hjo hloc ρ _ a w (Know.of_st hc hsl _)).wpIn fun v w' hr => hK _ _ (hafter _ _ ?_)
      rw [hfr] at hfree
      have := St.put hc hsl hz hde hfree hA.ok hr
      rw [hdl]
      cases hd : o.dst with
      | none => rw [hd] at this; exact this
      | some t => rw [hd] at this; exact this
    · simp only [hgw false hg, Bool.false_eq_true, if_false]
      refine ⟨fun _ _ => trivial, hK _ _ (hafter _ _ ?_)⟩
      obtain ⟨⟨ρ, hc, hsl⟩, hz, hde⟩ := h
      have := St.put (s := .top) (new := []) (v := undef) (dst := o.dst) hc hsl hz hde rfl hA.ok Res_top
      rw [htop, hnw, hdl]
      cases hd : o.dst with
      | none => rw [hd] at this; exact this
      | some t => rw [hd] at this; exact this
    · simp only [hgw true hg, if_true]
      exact (hjm (σL L) hloc hfree a w h).wpIn fun v w' h' => hK _ _ (hafter _ _ h')
  -- whatever order
  have hgetD : ∀ (listed : Array Bool) (L : Nat → Bool), listed.size = ops.size → (∀ i, i < ops.size → listed.getD i false = L i) → ∀ i d, i < ops.size → listed.getD i d = L i := by
    intro listed L hls hL i d hi
    have := hL i hi
    rw [Array.getD_eq_getD_getElem?] at this ⊢
    rw [Array.getElem?_eq_getElem (by omega)] at this ⊢
    simpa using this
  have hready : ∀ (listed : Array Bool) (L : Nat → Bool), listed.size = ops.size → (∀ i, i < ops.size → listed.getD i false = L i) → ∀ i, i ∈ Region.ready .any ops listed ↔
      (i < ops.size ∧ L i = false ∧ ∀ o, ops[i]? = some o → ∀ j ∈ deps o, j < ops.size ∧ L j = true) := by
    intro listed L hls hL i
    unfold Region.ready
    rw [List.mem_filter, List.mem_range]
    constructor
    · rintro ⟨h1, h2⟩
      simp only [Bool.and_eq_true, Bool.not_eq_true'] at h2
      obtain ⟨h2, h3⟩ := h2
      rw [hgetD listed L hls hL i true h1] at h2
      refine ⟨h1, h2, fun o ho j hj => ?_⟩
      rw [ho] at h3
      simp only [Option.map_some, Option.getD_some] at h3
      obtain ⟨e, he, hej⟩ := List.mem_filterMap.1 hj
      have he' : e ∈ o.after := by simpa using he
      have := Array.all_eq_true_iff_forall_mem.1 h3 e he'
      split at hej
      · rename_i hb
        cases hej
        rw [hb] at this
        simp only [Bool.not_true, Bool.false_or] at this
        rcases Nat.lt_or_ge e.on ops.size with hl | hl
        · rw [hgetD listed L hls hL _ _ hl] at this; exact ⟨hl, this⟩
        · rw [Array.getD_eq_getD_getElem?, Array.getElem?_eq_none (by omega)] at this; simp at this
      · cases hej
    · rintro ⟨h1, h2, h3⟩
      refine ⟨h1, ?_⟩
      have ho : ops[i]? = some ops[i] := Array.getElem?_eq_getElem h1
      simp only [Bool.and_eq_true, Bool.not_eq_true', hgetD listed L hls hL i true h1, h2, true_and, ho, Option.map_some, Option.getD_some]
      refine Array.all_eq_true_iff_forall_mem.2 fun e he => ?_
      cases hb : Region.binds .any e with
      | false => rfl
      | true =>
        have := h3 _ ho e.on (List.mem_filterMap.2 ⟨e, by simpa using he, by simp [hb]⟩)
        rw [hgetD listed L hls hL _ _ this.1, this.2]; rfl
  have hset : ∀ (listed : Array Bool) (L : Nat → Bool) (j : Nat), listed.size = ops.size → j < ops.size → (∀ i, i < ops.size → listed.getD i false = L i) → ∀ i, i < ops.size → (listed.setIfInBounds j true).getD i false = (i == j || L i) := by
    intro listed L j hls hj hL i hi
    by_cases hij : i = j
    · subst hij
      simp only [Array.getD_eq_getD_getElem?, Array.getElem?_setIfInBounds]
      simp [hls, hi]
    · rw [getD_set_ne false (Ne.symm hij), hL i hi]; simp [hij]
  have hB : ∀ fuel m (listed : Array Bool) a w, listed.size = ops.size → (∀ i, i < ops.size → listed.getD i false = decide (i < m)) → Down ops (fun i => decide (i < m)) → n ≤ m → m + fuel = ops.size →
      wpListIn F.fe 0 F.P ops (Exit.then (run F.fe F.P Q cs) Q) (ops.toList.drop m) a w → wpAnyIn F.fe 0 F.P .any ops (Exit.then (run F.fe F.P Q cs) Q) fuel listed a w := by
    intro fuel
    induction fuel with
    | zero =>
      intro m listed a w hls hlm _ hnm hmf hw
      refine ⟨List.eq_nil_iff_forall_not_mem.2 fun i hi => ?_, ?_⟩
      · obtain ⟨h1, h2, _⟩ := (hready listed _ hls hlm i).1 hi
        have : i < m := by omega
        simp [this] at h2
      · rw [List.drop_eq_nil_of_le (by rw [Array.length_toList]; omega)] at hw
        exact hw
    | succ fuel ih =>
      intro m listed a w hls hlm hdn hnm hmf hw
      have hmlt : m < ops.size := by omega
      have hom : ops[m]? = some ops[m] := Array.getElem?_eq_getElem hmlt
      have hmr : ∀ i ∈ Region.ready .any ops listed, i = m := by
        intro i hi
        obtain ⟨h1, h2, h3⟩ := (hready listed _ hls hlm i).1 hi
        have him : m ≤ i := by simpa using h2
        rcases Nat.lt_or_ge m i with hlt | hge
        · exfalso
          have ho : ops[i]? = some ops[i] := Array.getElem?_eq_getElem h1
          have hmem := htail (by omega) ho hlt
          cases hmem with
          | one ho' hj => rw [ho] at ho'; cases ho'; have := (h3 _ ho _ hj).2; simp at this
          | up ho' hj hmj =>
            rw [ho] at ho'; cases ho'
            have hjm := (h3 _ ho _ hj).2
            have := hmj.down hdn hjm
            simp at this
        · omega
      have hdrop : ops.toList.drop m = ops[m] :: ops.toList.drop (m + 1) := by
        rw [List.drop_eq_getElem_cons (by rw [Array.length_toList]; exact hmlt)]
        simp
      rw [hdrop] at hw
      refine ⟨fun hr => ?_, fun i hi => ?_⟩
      · exfalso
        -- m itself is ready: what it waits for is ahead of it
        have hnr : m ∉ Region.ready .any ops listed := by rw [hr]; simp
        refine hnr ((hready listed _ hls hlm m).2 ⟨hmlt, by simp, fun o ho j hj => ?_⟩)
        exact hwait m o hnm ho j hj
      · have := hmr i hi
        subst this
        obtain ⟨_, _, h3⟩ := (hready listed _ hls hlm i).1 hi
        have hdn' : Down ops (fun k => decide (k < i + 1)) := by
          intro k o hk ho j hj
          have hk : k < i + 1 := by simpa using hk
          rcases Nat.lt_or_ge k i with h | h
          · have := hdn k o (by simpa using h) ho j hj
            have : j < i := by simpa using this
            simp; omega
          · have : k = i := by omega
            subst this
            have := (h3 o ho j hj).2
            have : j < k := by simpa using this
            simp; omega
        have hnext : ∀ a w, wpListIn F.fe 0 F.P ops (Exit.then (run F.fe F.P Q cs) Q) (ops.toList.drop (i + 1)) a w → wpAnyIn F.fe 0 F.P .any ops (Exit.then (run F.fe F.P Q cs) Q) fuel (listed.setIfInBounds i true) a w := by
          intro a w hw
          refine ih (i + 1) _ a w (by simpa using hls) (fun j hj => ?_) hdn' (by omega) (by omega) hw
          rw [hset listed _ i hls hmlt hlm j hj]
          by_cases hji : j = i
          · subst hji; simp
          · have : (j < i + 1) ↔ j < i := by omega
            simp [hji, this]
        unfold wpOpIn
        rw [hom]
        unfold wpListIn at hw
        split at hw
        · rename_i hwant
          simp only [hwant, if_true]
          exact Oper.wpIn_mono hnext hw
        · rename_i hwant
          simp only [hwant]
          exact ⟨hw.1, hnext _ _ hw.2⟩
  have hA : ∀ fuel (listed : Array Bool) (L : Nat → Bool) a w, listed.size = ops.size → (∀ i, i < ops.size → listed.getD i false = L i) → Down ops L → (∀ i, L i = true → i < n) → ((List.range ops.size).filter fun i => L i).length + fuel = ops.size →
      St F (σL L) a w → wpAnyIn F.fe 0 F.P .any ops (Exit.then (run F.fe F.P Q cs) Q) fuel listed a w := by
    intro fuel
    induction fuel with
    | zero =>
      intro listed L a w hls hL hdn hLn hcnt h
      have hall : ∀ i, i < ops.size → L i = true := by
        have hc : ((List.range ops.size).filter fun i => L i).length = (List.range ops.size).length := by simpa using hcnt
        have := List.length_filter_eq_length_iff.1 hc
        exact fun i hi => this i (List.mem_range.2 hi)
      have hnn : ops.size = n := by
        rcases Nat.lt_or_ge n ops.size with h | h
        · have := hLn n (hall n h); omega
        · omega
      have hl2 : l2 = [] := List.eq_nil_of_length_eq_zero (by omega)
      refine ⟨List.eq_nil_iff_forall_not_mem.2 fun i hi => ?_, ?_⟩
      · obtain ⟨h1, h2, _⟩ := (hready listed _ hls hL i).1 hi
        rw [hall i h1] at h2; cases h2
      · have hst1 := hfull L a w h fun i hi => hall i (by omega)
        have := ht (Exit.then (run F.fe F.P Q cs) Q) [] a w hst1 (fun a' w' h' => wpListIn_nil (k a' w' h'))
        rw [hl2] at this
        exact this
    | succ fuel ih =>
      intro listed L a w hls hL hdn hLn hcnt h
      by_cases hall : ∀ i, i < n → L i = true
      · -- all of the first are done: the others, in the text's order
        have hst1 := hfull L a w h hall
        have hw := ht (Exit.then (run F.fe F.P Q cs) Q) [] a w hst1 (fun a' w' h' => wpListIn_nil (k a' w' h'))
        have hLd : L = fun i => decide (i < n) := by
          funext i
          cases hLi : L i with
          | true => simp [hLn i hLi]
          | false =>
            rcases Nat.lt_or_ge i n with h | h
            · rw [hall i h] at hLi; cases hLi
            · simp; omega
        have hcn : ((List.range ops.size).filter fun i => L i).length = n := by
          rw [hLd]
          have : ops.size = n + (ops.size - n) := by omega
          rw [this, List.range_add, List.filter_append]
          rw [List.filter_eq_self.2 (by intro i hi; simpa using List.mem_range.1 hi), List.filter_eq_nil_iff.2 (by intro i hi; simp at hi ⊢; omega)]
          simp
        refine hB (fuel + 1) n listed a w hls (fun i hi => by rw [hL i hi, hLd]) (by rw [← hLd]; exact hdn) (Nat.le_refl _) (by omega) ?_
        have : ops.toList.drop n = l2 := by rw [hl, ← hln]; simp
        rw [this]; simpa using hw
      · refine ⟨fun hr => ?_, fun i hi => ?_⟩
        · exfalso
          -- the least one that is not done is ready
          have hex : ∃ i, i < n ∧ L i = false := by
            refine Classical.byContradiction fun hno => hall fun i hi => ?_
            cases hLi : L i with
            | true => rfl
            | false => exact absurd ⟨i, hi, hLi⟩ hno
          obtain ⟨i, ⟨hi, hLi⟩, hmin⟩ : ∃ i, (i < n ∧ L i = false) ∧ ∀ j, j < i → L j = true := by
            obtain ⟨i, hi⟩ := hex
            induction i using Nat.strongRecOn with
            | _ i ihi =>
              by_cases hj : ∃ j, j < i ∧ L j = false
              · obtain ⟨j, h1, h2⟩ := hj; exact ihi j h1 ⟨by omega, h2⟩
              · refine ⟨i, hi, fun j hj' => ?_⟩
                cases hLj : L j with
                | true => rfl
                | false => exact absurd ⟨j, hj', hLj⟩ hj
          have hnr : i ∉ Region.ready .any ops listed := by rw [hr]; simp
          refine hnr ((hready listed _ hls hL i).2 ⟨by omega, hLi, fun o ho j hj => ?_⟩)
          have := hback i o (by omega) ho j hj
          exact ⟨by omega, hmin j this⟩
        · obtain ⟨h1, h2, h3⟩ := (hready listed _ hls hL i).1 hi
          have ho : ops[i]? = some ops[i] := Array.getElem?_eq_getElem h1
          have hin : i < n := by
            refine Classical.byContradiction fun hge => hall fun j hj => ?_
            have hmem := htail hge ho (j := j) (by omega)
            cases hmem with
            | one ho' hj => rw [ho] at ho'; cases ho'; exact (h3 _ ho _ hj).2
            | up ho' hj hmj => rw [ho] at ho'; cases ho'; exact hmj.down hdn (h3 _ ho _ hj).2
          refine hstep L a w i _ hdn h hin ho h2 (fun j hj => (h3 _ ho j hj).2) _ fun a' w' h' => ?_
          refine ih _ _ a' w' (by simpa using hls) (hset listed L i hls h1 hL) ?_ ?_ ?_ h'
          · intro q o hq hoq j hj
            by_cases hqi : q = i
            · subst hqi; simp [(h3 o hoq j hj).2]
            · have : L q = true := by simpa [hqi] using hq
              simp [hdn q o this hoq j hj]
          · intro q hq
            by_cases hqi : q = i
            · omega
            · exact hLn q (by simpa [hqi] using hq)
          · have : ((List.range ops.size).filter fun q => q == i || L q).length = ((List.range ops.size).filter fun q => L q).length + 1 := count_add ops.size i L h1 h2
            omega
  refine wpIn_region_any hm ?_
  refine hA ops.size _ (fun _ => false) a _ (by simp) (fun i hi => by rw [Array.getD_eq_getD_getElem?, Array.getElem?_replicate, if_pos hi]; rfl) (fun _ _ h => by cases h) (fun _ h => by cases h) (by rw [List.filter_eq_nil_iff.2 (fun _ _ h => by cases h)]; simp) ?_
  obtain ⟨⟨ρ, hc, hsl⟩, hz, hde⟩ := hs
  have hb : Below w.heap.size w { w with drawn := w.drawn + 1 } := (Below.refl _ _).drew
  obtain ⟨hc', hE⟩ := hc.below hb
  have e0 : σL (fun _ => false) = σ := by
    rw [hσL]
    show (⟨gLs _ _ _ _ _, dL4 _ _ _ _ _⟩ : AS) = σ
    rw [gLs_beyond (m := 0) (Nat.zero_le _) (fun _ _ _ => rfl), dL4_beyond (m := 0) (Nat.zero_le _) (fun _ _ _ => rfl)]; rfl
  rw [e0]
  exact ⟨⟨ρ, hc', fun t s hts => Slot.ok_mono s _ (hsl t s hts) hE (fun _ _ => rfl)⟩, hz, hde⟩
section
variable {os : List Oper} {σ σ' : AS} {its : List Itm4} {s s0 : Slot} {d : Option Tmp} {pb : Option Nat} {ty : TypeId} {p : String} {af : Array Edge} {gd : Option (Nat × Bool)} {x y : Operand}
theorem JP4.store {T U : TypeId} {l : List Slot} {i off n : Nat} (g : GK ops σ.g ⟨none, .store U x y, ty, p, af, gd⟩ true) (hx : evS σ.g x = some (.ptr i off)) (he : lkE σ.d i = some (.box T l pb)) (ho : offAt l off = some s0) (hy : evS σ.g y = some s) (hp : s.plain = true) (hsz : Nat.beq s.sz n = true) (hsz0 : Nat.beq s0.sz n = true)
    (hS : ∀ w, (sizeOf U).run F.P w = .ok n w) (k : JP4 F ops os ⟨σ.g, (i, .box T (setOff l off s) pb) :: σ.d⟩ its σ') :
    JP4 F ops (⟨none, .store U x y, ty, p, af, gd⟩ :: os) σ (⟨.top, [(i, .box T (setOff l off s) pb)], [], rdl σ.g ⟨none, .store U x y, ty, p, af, gd⟩, []⟩ :: its) σ' :=
  .mv g rfl (fun σ2 hL _ => JM.store ((hL.ev (by simp [Op.operands])).trans hx) ((hL.ent (x := x) (by simp [Op.operands]) hx (by simp [Slot.lab])).trans he) ho ((hL.ev (by simp [Op.operands])).trans hy) hp hsz hsz0 hS) k
theorem JP4.storeAll {α : Type} {e : Enc α} {z : α} {T U : TypeId} {l l' : List Slot} {i : Nat} (g : GK ops σ.g ⟨none, .store U x y, ty, p, af, gd⟩ true) (hx : evS σ.g x = some (.ptr i 0)) (he : lkE σ.d i = some (.box T l pb)) (hl : Nat.beq (l.map Slot.sz).sum e.n = true) (hy : evS σ.g y = some (.v e z)) (hl' : Spl l' e z)
    (hS : ∀ w, (sizeOf U).run F.P w = .ok e.n w) (k : JP4 F ops os ⟨σ.g, (i, .box T l' pb) :: σ.d⟩ its σ') :
    JP4 F ops (⟨none, .store U x y, ty, p, af, gd⟩ :: os) σ (⟨.top, [(i, .box T l' pb)], [], rdl σ.g ⟨none, .store U x y, ty, p, af, gd⟩, []⟩ :: its) σ' :=
  .mv g rfl (fun σ2 hL _ => JM.storeAll ((hL.ev (by simp [Op.operands])).trans hx) ((hL.ent (x := x) (by simp [Op.operands]) hx (by simp [Slot.lab])).trans he) hl ((hL.ev (by simp [Op.operands])).trans hy) hl' hS) k
theorem JP4.storeAgg {T U : TypeId} {l l' : List Slot} {i n : Nat} (g : GK ops σ.g ⟨none, .store U x y, ty, p, af, gd⟩ true) (hx : evS σ.g x = some (.ptr i 0)) (he : lkE σ.d i = some (.box T l pb)) (hl : (l.map Slot.sz).sum = n) (hy : evS σ.g y = some (.agg l')) (hl' : (l'.map Slot.sz).sum = n) (hnt : l'.all Slot.plain = true)
    (hS : ∀ w, (sizeOf U).run F.P w = .ok n w) (k : JP4 F ops os ⟨σ.g, (i, .box T l' pb) :: σ.d⟩ its σ') :
    JP4 F ops (⟨none, .store U x y, ty, p, af, gd⟩ :: os) σ (⟨.top, [(i, .box T l' pb)], [], rdl σ.g ⟨none, .store U x y, ty, p, af, gd⟩, []⟩ :: its) σ' :=
  .mv g rfl (fun σ2 hL _ => JM.storeAgg ((hL.ev (by simp [Op.operands])).trans hx) ((hL.ent (x := x) (by simp [Op.operands]) hx (by simp [Slot.lab])).trans he) hl ((hL.ev (by simp [Op.operands])).trans hy) hl' hnt hS) k
theorem JP4.storeA {T U : TypeId} {l : List Slot} {i off n : Nat} (g : GK ops σ.g ⟨none, .store U x y, ty, p, af, gd⟩ true) (hx : evS σ.g x = some (.ptr i off)) (he : lkE σ.d i = some (.box T l pb)) (ho : offAt l off = some s0) (hy : ∀ σ, Arg σ false y s) (hp : s.plain = true) (hsz : s.sz = n) (hsz0 : s0.sz = n)
    (hS : ∀ w, (sizeOf U).run F.P w = .ok n w) (k : JP4 F ops os ⟨σ.g, (i, .box T (setOff l off s) pb) :: σ.d⟩ its σ') :
    JP4 F ops (⟨none, .store U x y, ty, p, af, gd⟩ :: os) σ (⟨.top, [(i, .box T (setOff l off s) pb)], [], rdl σ.g ⟨none, .store U x y, ty, p, af, gd⟩, []⟩ :: its) σ' :=
  .mv g rfl (fun σ2 hL _ => JM.storeA ((hL.ev (by simp [Op.operands])).trans hx) ((hL.ent (x := x) (by simp [Op.operands]) hx (by simp [Slot.lab])).trans he) ho (hy σ2) hp hsz hsz0 hS) k
/-- a source that another state knows as well -/
theorem Src.loc {α : Type} {e : Enc α} {ys : List α} {o : Oper} {σ2 : AS} (h : Src σ y e ys) (hL : Loc ops o σ σ2) (hm : y ∈ o.op.operands) : Src σ2 y e ys := fun ρ S a w K =>
  h ρ S a w ⟨K.low, fun x hx s hs => K.slot x hx s (by have : x = y := by simpa using hx
                                                       subst this; rw [hL.ev hm]; exact hs), fun x hx s hs i hi en he => K.ent x hx s (by have : x = y := by simpa using hx
                                                                                                                                          subst this; rw [hL.ev hm]; exact hs) i hi en (by have : x = y := by simpa using hx
                                                                                                                                                                                           subst this; rw [hL.ent hm hs hi]; exact he)⟩
theorem JP4.append {α : Type} {e : Enc α} {xs ys zs : List α} {T U : TypeId} {ti : TypeInfo} {z : Value} {i : Nat} (g : GK ops σ.g ⟨d, .call ⟨.builtin .append, #[x, y], #[U, U]⟩, ty, p, af, gd⟩ true) (j : Nat) (ha : app xs ys = some zs) (hx : evS σ.g x = some (.ref i)) (he : lkE σ.d i = some (.arr T e xs)) (hy : Src σ y e ys)
    (hU : ∀ w, (underlying U).run F.P w = .ok (.slice T) w) (hI : ∀ w, (typeInfo T).run F.P w = .ok ti w) (hS : ∀ w, (sizeOf T).run F.P w = .ok e.n w) (hz : ti.zero = some z) (hzs : z.cells.size = e.n) (hby : Nat.ble ti.bytes 4096 = true)
    (_ : σ.free [(j, .arr T e zs)] = true) (hd : dstOk d F.N = true) (k : JP4 F ops os ⟨gput d (.ref j) σ.g, (j, .arr T e zs) :: delE σ.d i⟩ its σ') :
    JP4 F ops (⟨d, .call ⟨.builtin .append, #[x, y], #[U, U]⟩, ty, p, af, gd⟩ :: os) σ (⟨.ref j, [(j, .arr T e zs)], [(j, .arr T e zs)], rdl σ.g ⟨d, .call ⟨.builtin .append, #[x, y], #[U, U]⟩, ty, p, af, gd⟩, [i]⟩ :: its) σ' :=
  .mv (nw := [(j, .arr T e zs)]) (dl := [i]) g hd (fun σ2 hL hf => JM.append j ha ((hL.ev (by simp [Op.operands, Call.operands])).trans hx) ((hL.ent (x := x) (by simp [Op.operands, Call.operands]) hx (by simp [Slot.lab])).trans he) (hy.loc hL (by simp [Op.operands, Call.operands])) hU hI hS hz hzs hby hf hd) k
end
end
end Go.Sw
