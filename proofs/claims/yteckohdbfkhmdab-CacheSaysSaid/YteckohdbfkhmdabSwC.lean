/- A library over the model, part 3: how values lie, what is ours in memory, rules for operations, calls, loops, ranges over functions. Conditions: none. -/
import Derived.Test.YteckohdbfkhmdabSwB
import Derived.Laws.Externs
set_option linter.unusedVariables false
set_option linter.unusedSimpArgs false
namespace Go.Sw
open Go Go.RowKit
section
variable {F : Frm} {σ : AS} {pb : Option Nat} {s : Slot} {d : Option Tmp} {ty : TypeId} {p : String} {af : Array Edge} {gd : Option (Nat × Bool)} {x y z : Operand} {α : Type} {e : Enc α} {T U : TypeId} {i b : Nat}
theorem K_seg' {xs : Array Operand} {ρ : Nat → LV} {S a w} (K : Know σ xs ρ S a w) (hm : x ∈ xs) {o n c : Nat} {q : List (Seg α)} (hx : evS σ.g x = some (.asl i o 0 n c)) (he : lkE σ.d i = some (.dp (DE.seg T e b) q [])) :
    a.eval x = .slice (some ⟨b, o, none⟩) n c ∧ (∃ cs, w.heap[b]? = some (.cells cs.toArray T (0, 0)) ∧ Seg.okL e S w q cs) ∧ S b ∧ b < w.heap.size := by
  obtain ⟨b1, h1, h2⟩ := asl_val (K.slot x hm _ hx)
  obtain ⟨⟨k1, k2⟩, k3⟩ := K.ent x hm _ hx i (by simp [Slot.lab]) _ he
  rw [k1] at h1; cases h1
  exact ⟨h2, k2, k3 b (.inl (by rw [k1]; rfl))⟩
theorem Src.seg {pp q n c o : Nat} {A B : List α} (h : evS σ.g y = some (.asl i o 0 n c)) (he : lkE σ.d i = some (.dp (DE.seg T e b) [.any pp, .rows A, .rows B, .any q] [])) (ho : o = pp + A.length * e.n) (hn : n = B.length) (hsz : B.length ≤ 140737488355328) : Src σ y e B := by
  subst ho hn
  intro ρ S a w K
  obtain ⟨h1, ⟨cs, h2, pre, _, rfl, hpre, ca, _, rfl, k4, cb, _, rfl, k5, post, _, rfl, hpost, rfl⟩, _⟩ := K_seg' K (x := y) (by simp) h he
  have hpre : pre.length = pp := hpre
  have hal := Enc.okL_len k4
  refine ⟨hsz, _, c, h1, .inr ⟨b, _, cb, rfl, ?_, k5⟩⟩
  have h1 := MemAt.of_heap h2
  rw [← List.append_assoc] at h1
  have := MemAt.sub (a := pre ++ ca) (c := cb) (d := post ++ []) h1
  simpa [hpre, hal] using this
/-- a copy into a slice of ours, from a place on -/
theorem JM.copySub {zs ys ws : List α} {lo : Int} {E : TypeId} (hs0 : Sw.sub zs lo (zs.length : Int) = some ws) (hx : evS σ.g x = some (.sub i (lo.toNat * e.n) ((zs.length : Int).toNat - lo.toNat))) (he : lkE σ.d i = some (.arr T e zs)) (hy : Src σ y e ys) (hle : ys.length ≤ zs.length - lo.toNat)
    (hU : ∀ w, (underlying U).run F.P w = .ok (.slice E) w) (hE : ∀ w, (sizeOf E).run F.P w = .ok e.n w) (hd : dstOk d F.N = true) :
    JM F ⟨d, .call ⟨.builtin .copy, #[x, y], #[U, U]⟩, ty, p, af, gd⟩ σ ⟨gput d (.v (Enc.int .i64) ((ys.length : Nat) : Int)) σ.g, (i, .arr T e (zs.take lo.toNat ++ ys ++ zs.drop (lo.toNat + ys.length))) :: σ.d⟩ := by
  rintro a w ⟨⟨ρ, hc, hsl⟩, hsz, hde⟩
  have K := Know.of_st hc hsl (Op.call ⟨.builtin .copy, #[x, y], #[U, U]⟩).operands
  have hxk := K.slot x (by simp [Op.operands, Call.operands]) _ hx
  simp only [Slot.ok] at hxk
  obtain ⟨_, c, o, g1, g2, g3⟩ := hxk
  have hen : arrOk T e zs (Un F.S0 ρ σ.d) w (ρ i).v := (K.ent x (by simp [Op.operands, Call.operands]) _ hx i (by simp [Slot.lab]) _ he).1
  have hmem : ∀ q, q ∈ #[y] → q ∈ (Op.call ⟨.builtin .copy, #[x, y], #[U, U]⟩).operands := by
    intro q hq
    have hq' : q = y := by simpa using hq
    subst hq'; simp [Op.operands, Call.operands]
  obtain ⟨hyl, ad, cy, r1, r2⟩ := hy ρ _ a w ⟨K.low, fun q hq s h => K.slot q (hmem q hq) s h, fun q hq s h => K.ent q (hmem q hq) s h⟩
  obtain ⟨s0, s1, _, _⟩ := sub_some hs0
  obtain ⟨l, hl⟩ : ∃ l, l = lo.toNat := ⟨_, rfl⟩
  simp only [Int.toNat_natCast] at g1 g2 g3
  rw [← hl] at g1 g2 g3 hle ⊢
  have hlx : l ≤ zs.length := by omega
  have done : ∀ w', (execOp a.eval ⟨d, .call ⟨.builtin .copy, #[x, y], #[U, U]⟩, ty, p, af, gd⟩).run F.P w = .ok (.value (.int .i64 ((ys.length : Nat) : Int))) w' →
      (∃ b, Has (ρ i) b ∧ Upd b w w' ∧ (Ext (Un F.S0 ρ σ.d) (Un F.S0 ρ σ.d) w w' → (Ent.arr T e (zs.take l ++ ys ++ zs.drop (l + ys.length))).ok ρ (Un F.S0 ρ σ.d) w' (ρ i))) ∨ (w' = w ∧ zs.take l ++ ys ++ zs.drop (l + ys.length) = zs) →
      OpWp F.P ⟨d, .call ⟨.builtin .copy, #[x, y], #[U, U]⟩, ty, p, af, gd⟩ a w fun v w' => St F ⟨gput d (.v (Enc.int .i64) ((ys.length : Nat) : Int)) σ.g, (i, .arr T e (zs.take l ++ ys ++ zs.drop (l + ys.length))) :: σ.d⟩ (a.put d v) w' := by
    intro w' hr h
    refine OpWp.value hr ?_
    obtain ⟨q1, q2⟩ : Core F ((i, .arr T e (zs.take l ++ ys ++ zs.drop (l + ys.length))) :: σ.d) ρ w' ∧ Ext (Un F.S0 ρ σ.d) (Un F.S0 ρ ((i, .arr T e (zs.take l ++ ys ++ zs.drop (l + ys.length))) :: σ.d)) w w' := by
      rcases h with ⟨b, h1, h2, h3⟩ | ⟨rfl, h2⟩
      · exact hc.upd he h1 h2 h3
      · rw [h2]
        have hcg : ∀ q en, lkE σ.d q = some en ↔ lkE ((i, .arr T e zs) :: σ.d) q = some en := fun q en => by
          rw [lkE_cons]; split
          · rename_i h; subst h; rw [he]
          · rfl
        exact ⟨hc.congr hcg, ⟨Nat.le_refl _, fun k _ hk => ⟨rfl, by rw [← Un.congr hcg]; exact hk⟩⟩⟩
    refine ⟨⟨ρ, q1, fun t s ht => ?_⟩, by rw [Act.size_put, hsz], by cases d <;> exact hde⟩
    have hold : ∀ t s, lk σ.g t = some s → s.ok ρ (Un F.S0 ρ ((i, .arr T e (zs.take l ++ ys ++ zs.drop (l + ys.length))) :: σ.d)) w' (a.tmps.getD t undef) := fun t s ht => Slot.ok_mono s _ (hsl t s ht) q2 (fun _ _ => rfl)
    cases d with
    | none => exact hold t s ht
    | some q0 =>
      simp only [gput] at ht
      have hlt : q0 < a.tmps.size := by rw [hsz]; exact Nat.le_of_ble_eq_true hd
      rw [Act.getD_put a q0 _ t hlt]
      rw [lk_cons] at ht
      split at ht
      · rename_i h1
        cases ht; rw [if_pos h1]
        exact int_ok (len_in (by omega)) _ _ _
      · rename_i h1
        rw [if_neg h1]; exact hold t s ht
  by_cases hn : zs.length - l = 0
  · have hy0 : ys = [] := List.eq_nil_of_length_eq_zero (by omega)
    subst hy0
    refine done w ?_ (.inr ⟨rfl, by simp⟩)
    have hv : ∃ q, a.eval x = .slice q 0 c := by
      rw [g3, hn]
      rcases hen with ⟨_, h⟩ | ⟨b, cap, pre, cs, post, h, _⟩ <;> rw [h] <;> exact ⟨_, rfl⟩
    obtain ⟨q, hv⟩ := hv
    have hf : (Builtin.firstCells e.n 0 (.slice ad 0 cy)).run F.P w = .ok #[] w := by
      cases ad <;> simp [Builtin.firstCells, loadCells, loadCellsFrom]
    have hcp : (Builtin.copy_ #[U, U] ty #[.slice q 0 c, .slice ad 0 cy]).run F.P w = .ok (.int .i64 0) w := by
      have hmin : Nat.min 0 0 = 0 := rfl
      cases q <;> simp [Builtin.copy_, hU, hE, Builtin.lenOf, hmin, hf, goInt, storeCells]
    simp only [List.length_nil] at r1
    simp [execOp, resolve, invoke, builtin, hv, r1, hcp]
  · have ho : o = l * e.n := g2.resolve_right hn
    subst ho
    rcases hen with ⟨rfl, h⟩ | ⟨b, cap, pre, cs, post, h3, h4, h5, h6, h7, h8⟩
    · simp at hn
    · have hcl := Enc.okL_len h5
      have hv : a.eval x = .slice (some ⟨b, pre.length + l * e.n, none⟩) (zs.length - l) c := by rw [g3, h3]; rfl
      obtain ⟨news, n1', n2, n3, n4⟩ : ∃ news : List Value, news.length = ys.length * e.n ∧ e.okL ys (Un F.S0 ρ σ.d) w news ∧ (∀ ad0, ad = some ad0 → ∀ j u, news[j]? = some u → w.cell? (ad0.add j) = some u) ∧ (ad = none → news = []) := by
        rcases r2 with rfl | ⟨b3, off3, ds, rfl, hm3, hds⟩
        · exact ⟨[], by simp, rfl, fun _ _ j u h => by simp at h, fun _ => rfl⟩
        · exact ⟨ds, Enc.okL_len hds, hds, fun ad0 h => by cases h; exact hm3.cell, fun h => by cases h⟩
      have hmin : min ys.length (zs.length - l) = ys.length := by omega
      have m1 : l * e.n + ys.length * e.n ≤ cs.length := by rw [hcl, ← Nat.add_mul]; exact Nat.mul_le_mul_right _ (by omega)
      have hsplit : pre ++ (cs ++ post) = (pre ++ cs.take (l * e.n)) ++ ((cs.drop (l * e.n)).take (ys.length * e.n) ++ (cs.drop (l * e.n + ys.length * e.n) ++ post)) := by
        have : cs = cs.take (l * e.n) ++ ((cs.drop (l * e.n)).take (ys.length * e.n) ++ cs.drop (l * e.n + ys.length * e.n)) := by
          rw [← List.drop_drop, List.take_append_drop, List.take_append_drop]
        conv => lhs; rw [this]
        simp only [List.append_assoc]
      rw [hsplit] at h4
      have hr := run_copyTo (P := F.P) (w := w) (tt := ty) (T := T) (U := U) (E := E) (en := e.n) (b := b) (o := pre.length + l * e.n) (n := zs.length - l) (c := c) (m := ys.length) (cap := cy) (ad := ad) (news := news) hU hE h4
        (by simp only [List.length_append, List.length_take]; omega) (by simp only [List.length_take, List.length_drop]; omega) (by rw [hmin]; exact n1') n3 n4 (okL_one n2)
      rw [hmin] at hr
      refine done (w.setRow b ((pre ++ cs.take (l * e.n)) ++ (news ++ (cs.drop (l * e.n + ys.length * e.n) ++ post))).toArray) ?_ (.inl ⟨b, .inl (by rw [h3]; rfl), Upd.setRow w b _, fun hE' => .inr ⟨b, cap, pre, cs.take (l * e.n) ++ news ++ cs.drop (l * e.n + ys.length * e.n), post, ?_, ?_, ?_, ?_, ?_, ?_⟩⟩)
      · simp [execOp, resolve, invoke, builtin, hv, r1, hr]
      · rw [h3]; simp only [List.length_append, List.length_take, List.length_drop]; congr 1; omega
      · have := setRow_heap w b _ ((pre ++ cs.take (l * e.n)) ++ (news ++ (cs.drop (l * e.n + ys.length * e.n) ++ post))).toArray T _ h4
        rw [this]; congr 3; simp
      · refine Enc.okL_append (Enc.okL_append (Enc.okL_mono (okL_take l h5) hE') (Enc.okL_mono n2 hE')) ?_
        have hdd := Enc.okL_mono (okL_drop (l + ys.length) h5) hE'
        rw [Nat.add_mul] at hdd; exact hdd
      · simp only [List.length_append, List.length_take, List.length_drop]; omega
      · simp only [List.length_append, List.length_take, List.length_drop, n1']; omega
      · simp only [List.length_append, List.length_take, List.length_drop]; omega
/-- as long a row more, of noughts, behind the first elements: in a new place -/
theorem JO.appMk {pp q k n c o : Nat} {nk : Int} {A B : List α} {I : TypeId} {kI : IntKind} {kI' : IntKind} {ti : TypeInfo} {z0 : Value} {zv : α} (j : Nat) (h : evS σ.g x = some (.asl i o 0 n c)) (he : lkE σ.d i = some (.dp (DE.seg T e b) [.any pp, .rows A, .rows B, .any q] [])) (hy : evS σ.g y = some (.v (Enc.int kI) nk))
    (ho : o = pp) (hn : n = A.length) (hnk : nk = (k : Int)) (hk : 0 < k) (hcap : c < n + k) (hlen : A.length + k ≤ 4294967296) (hpos : Nat.blt 0 e.n = true)
    (hU : ∀ w, (underlying U).run F.P w = .ok (.slice T) w) (hI : ∀ w, (underlying I).run F.P w = .ok (.int kI') w) (hi : ∀ w, (typeInfo T).run F.P w = .ok ti w) (hS : ∀ w, (sizeOf T).run F.P w = .ok e.n w) (hz : ti.zero = some z0) (hzv : ∀ S w, e.ok zv S w z0.cells.toList) (hby : Nat.ble ti.bytes 4096 = true) :
    JO F ⟨d, .call ⟨.builtin .append, #[x, y], #[U, I]⟩, ty, p, af, gd⟩ σ (.ref j) [(j, .arr T e (A ++ List.replicate k zv))] := by
  subst ho hn hnk
  have hpos : 1 ≤ e.n := by simpa [Nat.blt] using hpos
  have hby := Nat.le_of_ble_eq_true hby
  intro ρ S a w K
  obtain ⟨h1, ⟨cs, h2, pre, _, rfl, hpre, ca, _, rfl, k4, cb, _, rfl, k5, post, _, rfl, hpost, rfl⟩, hSb, hlt⟩ := K_seg' K (x := x) (by simp [Op.operands, Call.operands]) h he
  have hpre : pre.length = o := hpre
  have hal := Enc.okL_len k4
  have hyv := (K_int K (x := y) (by simp [Op.operands, Call.operands]) hy).1
  have hti : ti.size = e.n := size_of hi hS
  have hm : MemAt w b o ca := by
    have := MemAt.sub (a := pre) (c := ca) (d := cb ++ (post ++ [])) (MemAt.of_heap h2)
    simpa [hpre] using this
  have hmd : ∀ j v, ca[j]? = some v → w.drew.cell? ((⟨b, o, none⟩ : Addr).add j) = some v := hm.cell
  have hold : (Builtin.firstCells e.n A.length (.slice (some ⟨b, o, none⟩) A.length c)).run F.P w.drew = .ok ca.toArray w.drew := run_firstCells_some (P := F.P) w.drew e.n A.length ⟨b, o, none⟩ A.length c ca hal hmd
  have hkb : k * ti.bytes ≤ 281474976710656 := by
    have : k * ti.bytes ≤ 4294967296 * 4096 := Nat.mul_le_mul (by omega) hby
    omega
  have hfit : Builtin.nextslicecap (A.length + k) c * ti.bytes ≤ 281474976710656 := growslice_fits (by omega) (by
    have : (A.length + k) * ti.bytes ≤ 4294967296 * 4096 := Nat.mul_le_mul hlen hby
    omega)
  have hrun : (Builtin.append_ #[U, I] ty #[.slice (some ⟨b, o, none⟩) A.length c, .int kI k]).run F.P w =
      .ok (.slice (some ⟨w.heap.size, 0, none⟩) (A.length + k) (grownCap w (A.length + k) c T))
        (w.drew.alloc (.cells (ca.toArray ++ Builtin.zeroCells z0.cells k ++ Builtin.zeroCells z0.cells (grownCap w (A.length + k) c T - (A.length + k))) T)) := by
    have hk0 : k ≠ 0 := by omega
    have hw : IntKind.i64.wrap (k : Int) = k := by rw [IntKind.wrap_i64]; omega
    have hn : ¬ (A.length + k ≤ c) := by omega
    have h63' : ¬ (9223372036854775807 < ((A.length : Int) + (k : Int))) := by omega
    have h48' : ¬ (281474976710656 < Builtin.nextslicecap (A.length + k) c * ti.bytes) := by omega
    have h48i : ¬ (281474976710656 < (k : Int) * (ti.bytes : Int)) := by
      rw [← Int.natCast_mul]; omega
    have hneg : ¬ ((k : Int) < 0) := by omega
    have hns : ¬ (k * e.n = 0) := Nat.mul_ne_zero hk0 (by omega)
    have hzr : ∀ w, (zeroValue T).run F.P w = .ok z0 w := fun w => by
      have := hi w
      simp [zeroValue, this, hz]
    simp [Builtin.append_, hU, hI, hS, hi, hzr, asInt, asIntOf, hw, hn, hneg, hns, h63', h48', h48i, Question.forced, hold, newRow, grownCap]
  have hge := grownCap_ge w (A.length + k) c T
  obtain ⟨rest, hrest⟩ : ∃ rest, rest = (Builtin.zeroCells z0.cells (grownCap w (A.length + k) c T - (A.length + k))).toList := ⟨_, rfl⟩
  have hzn : z0.cells.size = e.n := by have := e.len (hzv (fun _ => False) w); simpa using this
  have hzl : (Builtin.zeroCells z0.cells k).toList.length = k * e.n := by rw [Array.length_toList, size_zeroCells, hzn]
  have hrl : rest.length = (grownCap w (A.length + k) c T - (A.length + k)) * e.n := by rw [hrest, Array.length_toList, size_zeroCells, hzn]
  have hzok : ∀ S w, e.okL (List.replicate k zv) S w (Builtin.zeroCells z0.cells k).toList := fun S w => okL_zeros (hzv S w) k _ hzl fun i hi => zeroCells_at (by rw [hzn]; exact hi)
  have hcells : ca.toArray ++ Builtin.zeroCells z0.cells k ++ Builtin.zeroCells z0.cells (grownCap w (A.length + k) c T - (A.length + k)) = ([] ++ ((ca ++ (Builtin.zeroCells z0.cells k).toList) ++ rest)).toArray := by
    apply Array.ext'; simp [hrest]
  rw [hcells] at hrun
  obtain ⟨w', hw'⟩ : ∃ w', w' = w.drew.alloc (.cells ([] ++ ((ca ++ (Builtin.zeroCells z0.cells k).toList) ++ rest)).toArray T) := ⟨_, rfl⟩
  rw [← hw'] at hrun
  have hbel : Below w.heap.size w w' := by
    rw [hw']; exact Below.trans (b := w.drew) ⟨rfl, rfl, rfl, Nat.le_refl _, fun _ _ => rfl⟩ (below_alloc w.drew _)
  refine OpWp.value (w' := w') (v := .slice (some ⟨w.heap.size, 0, none⟩) (A.length + k) (grownCap w (A.length + k) c T)) (by simp [execOp, resolve, invoke, builtin, h1, hyv, hrun]) ?_
  refine Res.new1 (.slice (some ⟨w.heap.size, 0, none⟩) (A.length + k) (grownCap w (A.length + k) c T)) hbel rfl ?_ ?_ ?_
  · intro b' hb'
    simp only [blk, Option.some.injEq] at hb'; subst hb'
    exact ⟨Nat.le_refl _, by rw [hw', World.size_alloc]; exact Nat.lt_succ_self _⟩
  · intro S' ρ' hS' _
    have hE' : Ext S S' w w' := ext_low hbel hS'
    refine .inr ⟨w.heap.size, grownCap w (A.length + k) c T, [], ca ++ (Builtin.zeroCells z0.cells k).toList, rest, by simp [LV.of], ?_, Enc.okL_append (Enc.okL_mono k4 hE') (hzok _ _), by simpa using hge, ?_, by simp; omega⟩
    · rw [hw', show w.heap.size = w.drew.heap.size from rfl, heap_alloc_new]
    · rw [List.length_append, hal, hzl, hrl, ← Nat.add_mul, ← Nat.add_mul]; exact Nat.mul_le_mul_right _ (by omega)
  · intro S' ρ' _ hρ _
    simp only [Slot.ok]
    exact ⟨.inl ⟨_, _, _, hρ⟩, hρ.symm⟩
/-- what nobody writes lies elsewhere than a row of ours -/
theorem run_overlaps {P : Program} {w : World} {tS tR E : TypeId} {size b o la ca lb cb oa ba : Nat} {cs : List Value} {c' : Array Value} {T' : TypeId} {fr : Nat × Nat} (hU : ∀ w, (underlying tS).run P w = .ok (.slice E) w) (hz : ∀ w, (sizeOf E).run P w = .ok size w)
    (hne : ba ≠ b) (hb : w.heap[b]? = some (.cells cs.toArray T (0, 0))) (hcs : cs ≠ []) (ha : w.heap[ba]? = some (.cells c' T' fr)) (hc' : c'.size ≠ 0) :
    (Extern.SlicesOverlaps.overlaps #[tS, tS] #[tR] #[.slice (some ⟨ba, oa, none⟩) la ca, .slice (some ⟨b, o, none⟩) lb cb]).run P w = .ok (.bool false) w := by
  have hnb : (ba != b) = true := by simpa using hne
  have hnb' : (ba == b) = false := by simpa using hne
  have hfb : ∀ o, w.frozen? ⟨b, o, none⟩ = false := fun o => by simp [World.frozen?, hb]
  have hsb : w.shape? b = some (T, cs.length) := by simp [World.shape?, hb]
  have hsa : w.shape? ba = some (T', c'.size) := by simp [World.shape?, ha]
  obtain ⟨mc, hmc⟩ : ∃ mc, c'.size = mc + 1 := ⟨c'.size - 1, by omega⟩
  rw [hmc] at hsa
  have hl : ∃ m, cs.length = m + 1 := ⟨cs.length - 1, by have := List.length_pos_iff.2 hcs; omega⟩
  obtain ⟨m, hm⟩ := hl
  rw [hm] at hsb
  change Sem.run P (α := Value) (do
    let some t := (#[tS, tS] : Array TypeId)[0]? | stuck "slices.overlaps: no parameter types"
    let .slice elem ← underlying t | stuck "slices.overlaps: slice type expected"
    let size ← sizeOf elem
    match (some ⟨ba, oa, none⟩ : Option Addr), (some ⟨b, o, none⟩ : Option Addr) with
    | some a, some b =>
      if la = 0 ∨ lb = 0 ∨ size = 0 then pure (Value.bool false)
      else if a.block != b.block && (← frozen a) && (← frozen b) then unsupported .addressObserved
      else do
        if a.block != b.block then do
          noView a; noView b
          if ← mayBeOne a b then return Value.bool ((← choose (.extern "sameAddr.stringBytes" 2)) == 1)
        pure (Value.bool (a.block == b.block && a.off < b.off + lb * size && b.off < a.off + la * size))
    | _, _ => pure (Value.bool false)) w = _
  by_cases h0 : la = 0 ∨ lb = 0 ∨ size = 0
  · simp [hU, hz, h0]
  · cases hfa : w.frozen? ⟨ba, oa, none⟩ <;> cases hfa2 : w.frozen? ⟨ba, mc + 1, none⟩ <;>
      simp [hU, hz, h0, hnb, hnb', frozen, noView, viewAt, mayBeOne, stringish, shape, Sem.run, hsa, hsb, hfb, hfa, hfa2]
theorem JO.overlaps {f : FuncId} {fn : Func} {vs : List α} {o n c pp q : Nat} {A B : List α} {ts : Array TypeId} {R : TypeId} (hf : F.P.funcs[f]? = some fn) (hname : (fn.name == "runtime.NumGoroutine") = false) (hb : fn.body.isNone = true) (hn : Extern.findNext fn = none)
    (hext : Extern.find fn = some (Extern.SlicesOverlaps.overlaps #[U, U] #[R])) (hx : evS σ.g x = some (.v (Enc.sl e) vs)) (hy : evS σ.g y = some (.asl i o 0 n c)) (he : lkE σ.d i = some (.dp (DE.seg T e b) [.any pp, .rows A, .rows B, .any q] [])) (hvs : vs ≠ []) (hB : B ≠ []) (hpos : Nat.blt 0 e.n = true)
    (hU : ∀ w, (underlying U).run F.P w = .ok (.slice T) w) (hE : ∀ w, (sizeOf T).run F.P w = .ok e.n w) : JO F ⟨d, .call ⟨.value (.func f), #[x, y], ts⟩, ty, p, af, gd⟩ σ (.v Enc.bool false) [] := by
  have hpos : 1 ≤ e.n := by simpa [Nat.blt] using hpos
  intro ρ S a w K
  obtain ⟨ad, cap, h1, _, h2⟩ := K_sl K (x := x) (by simp [Op.operands, Call.operands]) hx
  obtain ⟨g1, ⟨cs, g2, g3⟩, g4, g5⟩ := K_seg' K (x := y) (by simp [Op.operands, Call.operands]) hy he
  obtain ⟨b1, off, ds, rfl, k1, k2, k3, k4⟩ := h2.resolve_left hvs
  obtain ⟨c', T', fr, k5, k6⟩ := k3
  have hdl := Enc.okL_len k4
  have hvl := List.length_pos_iff.2 hvs
  have hd0 : 0 < ds.length := by rw [hdl]; exact Nat.mul_pos hvl hpos
  have hc' : c'.size ≠ 0 := by
    intro h0
    have := k6 0 hd0
    rw [Array.getElem?_eq_none (by omega)] at this; cases this
  have hcs : cs ≠ [] := by
    rintro rfl
    obtain ⟨pre, _, h, _, ca, _, rfl, _, cb, _, rfl, h5, _⟩ := g3
    have hbl := Enc.okL_len h5
    have hBl := List.length_pos_iff.2 hB
    have : 0 < cb.length := by rw [hbl]; exact Nat.mul_pos hBl hpos
    have h6 := congrArg List.length h
    simp only [List.length_append, List.length_nil] at h6; omega
  have hr := run_overlaps (P := F.P) (w := w) (T := T) (tS := U) (tR := R) (size := e.n) (la := vs.length) (ca := cap) (lb := n) (cb := c) (oa := off) (o := o) hU hE (fun hh => k2 (by rw [hh]; exact g4)) g2 hcs k5 hc'
  have hcall := run_callFunc_extern hf hname hb hn hext #[a.eval x, a.eval y] w
  rw [h1, g1] at hcall
  rw [hr] at hcall
  refine OpWp.value (w' := w) (v := .bool false) ?_ (Res.same (bool_ok _ ρ S w))
  have h1' : (execOp a.eval ⟨d, .call ⟨.value (.func f), #[x, y], ts⟩, ty, p, af, gd⟩).run F.P w = (callFunc f #[a.eval x, a.eval y]).run F.P w := by
    simp [execOp, resolve, invoke, Deferred.ofValue, Act.eval]
  rw [h1', h1, g1, hcall]; rfl
/-- elements put in at a place -/
def ins {α : Type} (xs : List α) (n : Int) (vs : List α) : Option (List α) := if 0 ≤ n ∧ n ≤ xs.length ∧ xs.length + vs.length ≤ 4294967296 then some (xs.take n.toNat ++ (vs ++ xs.drop n.toNat)) else none
theorem ins_some {α : Type} {xs vs r : List α} {n : Int} (h : ins xs n vs = some r) : 0 ≤ n ∧ n ≤ xs.length ∧ xs.length + vs.length ≤ 4294967296 ∧ r = xs.take n.toNat ++ (vs ++ xs.drop n.toNat) := by
  unfold ins at h; split at h
  · rename_i h1; exact ⟨h1.1, h1.2.1, h1.2.2, by cases h; rfl⟩
  · cases h
theorem val_raw {v : Value} {S w u} : Enc.raw.val v S w u ↔ u = v ∧ v.oneCell' = true := by
  constructor
  · rintro ⟨cs, ⟨rfl, h⟩, rfl⟩; exact ⟨rfl, h⟩
  · rintro ⟨rfl, h⟩; exact ⟨[u], ⟨rfl, h⟩, rfl⟩
theorem JO.capRaw {o n c : Nat} {E : TypeId} (hx : evS σ.g x = some (.asl i o 0 n c)) (hU : ∀ w, (underlying U).run F.P w = .ok (.slice E) w) : JO F ⟨d, .call ⟨.builtin .cap, #[x], #[U]⟩, ty, p, af, gd⟩ σ (.v Enc.raw (.int .i64 (c : Int))) [] := by
  intro ρ S a w K
  obtain ⟨b, _, h2⟩ := asl_val (K.slot x (by simp [Op.operands, Call.operands]) _ hx)
  refine OpWp.value (w' := w) (v := .int .i64 (c : Int)) ?_ (Res.same (by simp only [Slot.ok]; exact val_raw.2 ⟨rfl, rfl⟩))
  have hc : (Builtin.cap_ #[U] ty #[.slice (some ⟨b, o, none⟩) n c]).run F.P w = .ok (.int .i64 c) w := by simp [Builtin.cap_, hU, goInt]
  simp [execOp, resolve, invoke, builtin, h2, hc]
theorem JO.gtrRaw {m n : Int} {T T' : TypeId} (hx : evS σ.g x = some (.v (Enc.int .i64) m)) (hy : evS σ.g y = some (.v Enc.raw (.int .i64 n))) : JO F ⟨d, .binOp .gtr T x y T', ty, p, af, gd⟩ σ (.v Enc.bool (cm .gtr m n)) [] := by
  intro ρ S a w K
  have h1 := (K_int K (x := x) (by simp [Op.operands]) hx).1
  have h2 := K.slot y (by simp [Op.operands]) _ hy
  simp only [Slot.ok] at h2
  have h2 := (val_raw.1 h2).1
  refine OpWp.value (w' := w) (v := .bool (cm .gtr m n)) ?_ (Res.same (bool_ok _ ρ S w))
  simp [execOp, h1, h2, eqGuard, Go.binOp, Op.intCmp, cm]
end
end Go.Sw

namespace Go.Sw
open Go Go.RowKit
/-! ### where a key is -/
def kp {α : Type} [DecidableEq α] : List α → α → Option Nat
  | [], _ => none
  | a :: l, k => if a = k then some 0 else (kp l k).map (· + 1)
theorem kp_lt {α : Type} [DecidableEq α] {k : α} : ∀ {l : List α} {i : Nat}, kp l k = some i → i < l.length ∧ l[i]? = some k
  | [], i, h => by simp [kp] at h
  | a :: l, i, h => by
    simp only [kp] at h
    split at h
    · rename_i ha; cases h; simp [ha]
    · cases hr : kp l k with
      | none => rw [hr] at h; cases h
      | some j => rw [hr] at h; cases h; obtain ⟨h1, h2⟩ := kp_lt hr; exact ⟨by simp; omega, by simpa using h2⟩
theorem mget_kp {α β : Type} [DecidableEq α] {k : α} : ∀ {m : List (α × β)}, mget m k = (kp (m.map (·.1)) k).bind fun i => (m[i]?).map (·.2)
  | [] => rfl
  | (a, b) :: m => by
    simp only [mget, List.map_cons, kp]
    split
    · simp
    · rw [mget_kp (m := m)]; cases kp (m.map (·.1)) k <;> simp
/-- the keys of a map's entries -/
def KsL {α : Type} (e : Enc α) (S : Nat → Prop) (w : World) : List α → List MapEntry → Prop
  | [], [] => True
  | k :: ks, x :: xs => e.val k S w x.key ∧ KsL e S w ks xs
  | _, _ => False
theorem KsL.mono {α : Type} {e : Enc α} {S S' : Nat → Prop} {w w' : World} (k : Ext S S' w w') : ∀ {m : List α} {xs : List MapEntry}, KsL e S w m xs → KsL e S' w' m xs
  | [], [], _ => trivial
  | _ :: _, _ :: _, ⟨h1, h3⟩ => ⟨Enc.val_mono h1 k, KsL.mono k h3⟩
  | [], _ :: _, h => h.elim
  | _ :: _, [], h => h.elim
theorem KsL.len {α : Type} {e : Enc α} {S : Nat → Prop} {w : World} : ∀ {m : List α} {xs : List MapEntry}, KsL e S w m xs → xs.length = m.length
  | [], [], _ => rfl
  | _ :: _, _ :: _, ⟨_, h3⟩ => by simp [h3.len]
  | [], _ :: _, h => h.elim
  | _ :: _, [], h => h.elim
theorem KsL.get {α : Type} {e : Enc α} {S : Nat → Prop} {w : World} : ∀ {m : List α} {xs : List MapEntry}, KsL e S w m xs → ∀ {i : Nat} {k : α} {x : MapEntry}, m[i]? = some k → xs[i]? = some x → e.val k S w x.key
  | [], [], _, i, k, x, h, _ => by simp at h
  | _ :: _, _ :: _, ⟨h1, h3⟩, i, k, x, h, h' => by
    cases i with
    | zero => simp at h h'; subst h; subst h'; exact h1
    | succ i => exact h3.get (by simpa using h) (by simpa using h')
  | [], _ :: _, h, _, _, _, _, _ => h.elim
  | _ :: _, [], h, _, _, _, _, _ => h.elim
theorem KsL.push {α : Type} {e : Enc α} {S : Nat → Prop} {w : World} {k : α} {x : MapEntry} (h1 : e.val k S w x.key) : ∀ {m : List α} {xs : List MapEntry}, KsL e S w m xs → KsL e S w (m ++ [k]) (xs ++ [x])
  | [], [], _ => ⟨h1, trivial⟩
  | _ :: _, _ :: _, ⟨h3, h5⟩ => ⟨h3, KsL.push h1 h5⟩
  | [], _ :: _, h => h.elim
  | _ :: _, [], h => h.elim
theorem KsL.modify {α : Type} {e : Enc α} {S : Nat → Prop} {w : World} {f : MapEntry → MapEntry} : ∀ {m : List α} {xs : List MapEntry} {i : Nat}, KsL e S w m xs → (∀ k x, m[i]? = some k → xs[i]? = some x → e.val k S w (f x).key) → KsL e S w m (xs.modify i f)
  | [], [], i, _, _ => by simp [KsL]
  | _ :: _, _ :: _, i, ⟨h1, h3⟩, h => by
    cases i with
    | zero => exact ⟨h _ _ rfl rfl, h3⟩
    | succ i => exact ⟨h1, h3.modify fun k x hk hx => h k x (by simpa using hk) (by simpa using hx)⟩
  | [], _ :: _, _, h, _ => h.elim
  | _ :: _, [], _, h, _ => h.elim
theorem findAskP {α : Type} [DecidableEq α] {n : Nat} {P : Program} {T : TypeId} {e : Enc α} (hn : n ≤ 10000) (he : EqE n P T e) {S S' : Nat → Prop} {w1 w2 : World} {k : α} {cs : List Value} (hk : e.ok k S' w2 cs) (w : World) :
    ∀ (m : List α) (es : List MapEntry) (i : Nat), KsL e S w1 m es → (Instr.findAsking T (e.pk cs) es i).run P w = .ok ((kp m k).bind fun j => (es[j]?).map fun x => (i + j, x.val)) w
  | [], [], i, _ => by simp [Instr.findAsking, kp]
  | a :: m, x :: xs, i, ⟨⟨ds, h1, h1'⟩, h3⟩ => by
    obtain ⟨r, hr, hiff⟩ := he 10000 hn w S' S w2 w1 k a cs ds hk h1
    rw [← h1'] at hr
    have hr' : (Op.equal T (e.pk cs) x.key).run P w = .ok r w := hr
    cases r with
    | true =>
      have hka := hiff.1 rfl
      simp [Instr.findAsking, hr', kp, hka]
    | false =>
      have hka : ¬ a = k := fun h => by have := hiff.2 h.symm; cases this
      have := findAskP hn he hk w m xs (i + 1) h3
      simp only [Instr.findAsking, Sem.run_bind, hr', Result.andThen_ok, Bool.false_eq_true, if_false, this, kp, if_neg hka]
      cases kp m k with
      | none => rfl
      | some j => simp [Nat.add_assoc, Nat.add_comm 1 j]
  | [], _ :: _, _, h => h.elim
  | _ :: _, [], _, h => h.elim
theorem findKeyP {α : Type} [DecidableEq α] {n l : Nat} {E : TypeId} {P : Program} {T : TypeId} {e : Enc α} (hn : n ≤ 10000) (hT : ∀ w, (underlying T).run P w = .ok (.array l E) w) (he : EqE n P T e) {S S' : Nat → Prop} {w1 w2 : World} {k : α} {cs : List Value} (hk : e.ok k S' w2 cs) (w : World)
    (m : List α) (es : List MapEntry) (h : KsL e S w1 m es) : (Instr.findKey T (e.pk cs) es).run P w = .ok ((kp m k).bind fun j => (es[j]?).map fun x => (j, x.val)) w := by
  match m, es, h with
  | [], [], _ => simp [Instr.findKey, hT, Instr.findNow, kp]
  | q :: m, x :: xs, h =>
    have h1 := findAskP hn he hk w (q :: m) (x :: xs) 0 h
    simp only [Nat.zero_add] at h1
    simp only [Instr.findKey, Sem.run_bind, hT, Result.andThen_ok, Instr.findNow, Instr.sameNow, h1]
/-- keys that are told alike are the same, bit by bit -/
def SameE {α : Type} (e : Enc α) : Prop := ∀ (x : α) (S S' : Nat → Prop) (w w' : World) (v v' : Value), e.val x S w v → e.val x S' w' v' → Instr.sameBits 10000 v v' = true
theorem okL_int {k : IntKind} {S S' : Nat → Prop} {w w' : World} : ∀ {xs : List Int} {cs ds : List Value}, (Enc.int k).okL xs S w cs → (Enc.int k).okL xs S' w' ds → ds = cs ∧ ∀ c ∈ cs, ∃ n, c = .int k n
  | [], _, _, h, h' => by simp only [Enc.okL] at h h'; subst h; subst h'; exact ⟨rfl, by simp⟩
  | x :: xs, _, _, ⟨c, d, h1, h2, h3⟩, ⟨c', d', h1', h2', h3'⟩ => by
    obtain ⟨h4, h5⟩ := okL_int h3 h3'
    have e1 : c = [.int k x] := h2.1
    have e2 : c' = [.int k x] := h2'.1
    subst e1; subst e2; subst h4
    refine ⟨by rw [h1, h1'], ?_⟩
    rw [h1]; intro q hq
    rcases List.mem_append.1 hq with hq | hq
    · exact ⟨x, by simpa using hq⟩
    · exact h5 q hq
theorem SameE.arr {k : IntKind} {m : Nat} : SameE (Enc.arr m (Enc.int k)) := by
  rintro x S S' w w' v v' ⟨cs, h, rfl⟩ ⟨ds, h', rfl⟩
  obtain ⟨rfl, h2⟩ := okL_int h.2 h'.2
  have h3 : ∀ l : List Value, (∀ c ∈ l, ∃ n, c = .int k n) → (l.zip l).all (fun (x, y) => Instr.sameBits 9999 x y) = true := by
    intro l hl
    rw [List.all_eq_true]
    rintro ⟨a, b⟩ hab
    have : a = b := by
      clear hl h2
      induction l with
      | nil => simp at hab
      | cons y l ih =>
        rcases List.mem_cons.1 hab with h | h
        · simp only [Prod.mk.injEq] at h; rw [h.1, h.2]
        · exact ih h
    subst this
    obtain ⟨n, rfl⟩ := hl a (List.of_mem_zip hab).1
    simp [Instr.sameBits]
  have := h3 ds h2
  simp only [Enc.pk, Enc.arr, if_true]
  show Instr.sameBits (9999 + 1) _ _ = true
  simp only [Instr.sameBits, BEq.rfl, Bool.true_and]
  simpa using this

/-! ### maps of slices -/
structure MpsOk {α κ : Type} (fr : Bool) (ke : Enc κ) (T2 : TypeId) (e : Enc α) (m : List (κ × List α)) (o : Option Nat) (S : Nat → Prop) (w : World) (x : Nat → Prop) (b : Nat) (es : List MapEntry) (ck : Nat) : Prop where
  keys : KsL ke S w (m.map (·.1)) es
  rows : Rws T2 e (m.map (·.2)) o S w x (some b) (es.map (·.val))
  born : fr = true → ck = es.length ∧ ∀ (j : Nat) (q : MapEntry), es[j]? = some q → q.born = j
theorem MpsOk.mono {α κ : Type} {fr : Bool} {ke : Enc κ} {T2 : TypeId} {e : Enc α} {m : List (κ × List α)} {o : Option Nat} {S S' : Nat → Prop} {w w' : World} {x x' : Nat → Prop} {b : Nat} {es : List MapEntry} {ck : Nat}
    (h : MpsOk fr ke T2 e m o S w x b es ck) (hE : Ext S S' w w') (hx : ∀ b, x b → x' b) (hb : ∀ b, x b → w'.heap[b]? = w.heap[b]?) : MpsOk fr ke T2 e m o S' w' x' b es ck :=
  ⟨h.keys.mono hE, ⟨h.rows.len, fun j xs q ho h1 h2 => (h.rows.ok j xs q ho h1 h2).mono hE (fun b hb' => hb b (h.rows.own j q b ho h2 hb').1), fun j q k ho h1 h2 => ⟨hx _ (h.rows.own j q k ho h1 h2).1, (h.rows.own j q k ho h1 h2).2⟩, h.rows.inj⟩, h.born⟩
/-- a map of slices, all of them our own; one of them may be told by a label of its own -/
def DE.mps {α κ : Type} (fr : Bool) (ke : Enc κ) (T2 : TypeId) (e : Enc α) : DE (List (κ × List α) × Option Nat) where
  ok q S w u l := ∃ b es ck, u.v = .map (some b) ∧ w.heap[b]? = some (.map es ck) ∧ MpsOk fr ke T2 e q.1 q.2 S w u.x b es.toList ck ∧ ∀ j, q.2 = some j → (es.toList.map (·.val))[j]? = l.head?
  mono := by
    rintro q S S' w w' u l ⟨b, es, ck, h1, h2, h3, h4⟩ hE hb
    exact ⟨b, es, ck, h1, by rw [hb b (.inl (by rw [h1]; rfl))]; exact h2, h3.mono hE (fun _ h => h) (fun b' h => hb b' (.inr h)), h4⟩
/-- what mapEntry comes to: the map with an entry for the key, its place, its slice -/
def ment {κ α : Type} [DecidableEq κ] (m : List (κ × List α)) (k : κ) : Option (List (κ × List α) × Nat × List α) :=
  if m.length ≤ 140737488355328 then some (match kp (m.map (·.1)) k with | none => (m ++ [(k, [])], m.length, []) | some i => (m, i, ((m[i]?).map (·.2)).getD [])) else none
def mset {κ β : Type} (m : List (κ × β)) (i : Nat) (v : β) : List (κ × β) := m.modify i fun p => (p.1, v)
theorem mset_fst {κ β : Type} {m : List (κ × β)} {i : Nat} {v : β} : (mset m i v).map (·.1) = m.map (·.1) := by
  apply List.ext_getElem?; intro j
  simp only [mset, List.getElem?_map, List.getElem?_modify]
  cases m[j]? <;> simp; split <;> rfl
theorem mset_snd {κ β : Type} {m : List (κ × β)} {i : Nat} {v : β} : (mset m i v).map (·.2) = (m.map (·.2)).set i v := by
  apply List.ext_getElem?; intro j
  simp only [mset, List.getElem?_map, List.getElem?_modify, List.getElem?_set, List.length_map]
  by_cases hj : j < m.length
  · rw [List.getElem?_eq_getElem hj]; by_cases hi : i = j <;> simp [hi, hj]
  · rw [List.getElem?_eq_none (by omega)]; by_cases hi : i = j <;> simp [hi]; omega
/-- a map that nobody writes -/
def Enc.mpF {κ β : Type} (ke : Enc κ) (f : Enc β) : Enc (List (κ × β)) where
  n := 1
  agg := false
  ok m S w cs := (m = [] ∧ cs = [.map none]) ∨ ∃ b es ck, cs = [.map (some b)] ∧ b < w.heap.size ∧ ¬ S b ∧ w.heap[b]? = some (.map es ck) ∧ MpL ke f S w m es.toList
  len h := by rcases h with ⟨_, h⟩ | ⟨b, es, ck, h, _⟩ <;> rw [h] <;> rfl
  one _ := rfl
  cell h c hc := by rcases h with ⟨_, h⟩ | ⟨b, es, ck, h, _⟩ <;> rw [h] at hc <;> simp at hc <;> subst hc <;> rfl
  mono h k := by
    rcases h with ⟨h, h'⟩ | ⟨b, es, ck, h1, h2, h3, h4, h5⟩
    · exact .inl ⟨h, h'⟩
    · exact .inr ⟨b, es, ck, h1, Nat.lt_of_lt_of_le h2 k.size, (k.keep b h2 h3).2, by rw [(k.keep b h2 h3).1]; exact h4, MpL_mono k h5⟩
theorem Z.mpF {κ β : Type} (ke : Enc κ) (f : Enc β) : ∀ S w, (Enc.mpF ke f).ok [] S w [.map none] := fun _ _ => .inl ⟨rfl, rfl⟩
section
variable {F : Frm} {σ : AS} {d : Option Tmp} {ty : TypeId} {p : String} {af : Array Edge} {gd : Option (Nat × Bool)} {x y z : Operand} {κ α : Type} {ke : Enc κ} {e : Enc α} {T2 : TypeId} {m : List (κ × List α)} {i j : Nat}
theorem Frz.mps {fr : Bool} : Frz (DE.mps fr ke T2 e) (m, none) (Enc.mpF ke (Enc.sl e)) m := by
  rintro S S' w u ⟨b, es, ck, h1, h2, ⟨h3, h4, _⟩, _⟩ hE hb
  have key : ∀ (ml : List (κ × List α)) (el : List MapEntry), KsL ke S w (ml.map (·.1)) el → (∀ (j : Nat) (ys : List α) (v : Value), (ml.map (·.2))[j]? = some ys → (el.map (·.val))[j]? = some v → arrOk T2 e ys S w v ∧ ∀ b, blk v = some b → u.x b) → MpL ke (Enc.sl e) S' w ml el := by
    intro ml
    induction ml with
    | nil => intro el hk _; cases el with
      | nil => trivial
      | cons q el => exact hk.elim
    | cons q ml ih =>
      intro el hk h
      cases el with
      | nil => exact hk.elim
      | cons v el =>
        obtain ⟨k1, k2⟩ := h 0 q.2 v.val rfl rfl
        obtain ⟨hk1, hk2⟩ := hk
        obtain ⟨q1, q2⟩ := q
        obtain ⟨ad, c, hs⟩ := k1.slice
        refine ⟨Enc.val_mono hk1 hE, ⟨[v.val], arr_sl (ρ := fun _ => .of undef) (u := .of v.val) (T := T2) k1 hE fun b hb' => hb b (.inr (k2 b (Has_of.1 hb'))), by simp [Enc.pk, Enc.sl]⟩, ih el hk2 fun j ys' v' hj hv => h (j + 1) ys' v' (by simpa using hj) (by simpa using hv)⟩
  have hk := key m es.toList h3 fun j ys v hx hv => ⟨h4.ok j ys v (by simp) hx hv, fun b hb' => (h4.own j v b (by simp) hv hb').1⟩
  have hlt : b < w.heap.size := by
    rcases Nat.lt_or_ge b w.heap.size with h | h
    · exact h
    · rw [Array.getElem?_eq_none h] at h2; cases h2
  refine ⟨.inr ⟨b, es, ck, by rw [h1], hlt, hb b (.inl (by rw [h1]; rfl)), h2, hk⟩, by rw [h1]; rfl⟩
theorem JO.makeMapS {T : TypeId} (i : Nat) (ke : Enc κ) (T2 : TypeId) (e : Enc α) : JO F ⟨d, .makeMap T none, ty, p, af, gd⟩ σ (.ref i) [(i, .dp (DE.mps true ke T2 e) ([], none) [])] := by
  intro ρ S a w K
  refine OpWp.value (w' := w.alloc (.map #[] 0)) (v := .map (some w.heap.size)) (by simp [execOp, Instr.makeMap]) ?_
  refine Res.new1 (.map (some w.heap.size)) (below_alloc _ _) rfl ?_ ?_ ?_
  · intro b hb; simp [blk] at hb; subst hb; exact ⟨Nat.le_refl _, by simp⟩
  · intro S' ρ' h _
    exact ⟨_, #[], 0, rfl, heap_alloc_new _ _, ⟨trivial, ⟨rfl, fun j xs q _ h1 => by simp at h1, fun j q k _ h1 => by simp at h1, fun j j' q q' k _ _ h1 => by simp at h1⟩, fun _ => ⟨rfl, fun j q h => by simp at h⟩⟩, fun j h => by cases h⟩
  · intro S' ρ' _ hi _
    simp only [Slot.ok]; exact ⟨by rw [hi]; exact .inr ⟨_, rfl⟩, hi.symm⟩
/-- an entry is found or made; its slice is told by a label of its own -/
theorem JM.mapEntry [DecidableEq κ] {n n' l : Nat} {M KT VT E : TypeId} {k : κ} {r : List (κ × List α) × Nat × List α} (j : Nat) (hm : ment m k = some r) (hx : evS σ.g x = some (.ref i)) (hd : lkE σ.d i = some (.dp (DE.mps true ke T2 e) (m, none) [])) (hy : evS σ.g y = some (.v ke k))
    (hM : ∀ w, (underlying M).run F.P w = .ok (.map KT VT) w) (hT : ∀ w, (underlying KT).run F.P w = .ok (.array l E) w) (he : EqE n F.P KT ke) (hn : Nat.ble n 10000 = true) (hk : KeyE n' F.P KT ke) (hn' : Nat.ble n' 10000 = true) (hsame : SameE ke)
    (hz : ∀ w, (zeroValue VT).run F.P w = .ok (.slice none 0 0) w) (hf : σ.free [(j, .arr T2 e r.2.2)] = true) (hdst : dstOk d F.N = true) :
    JM F ⟨d, .mapEntry M x y, ty, p, af, gd⟩ σ ⟨gput d (.tup [.ref j, .v (Enc.int .i64) (r.2.1 : Int)]) σ.g, (j, .arr T2 e r.2.2) :: (i, .dp (DE.mps true ke T2 e) (r.1, some r.2.1) [j]) :: σ.d⟩ := by
  rintro a w ⟨⟨ρ, hc, hs⟩, hsz, hde⟩
  have K := Know.of_st hc hs (Op.mapEntry M x y).operands
  obtain ⟨h1, ⟨b, es, ck, h3, h4, h5, _⟩, _⟩ := K_ref K (x := x) (by simp [Op.operands]) hx hd
  have h6 := K.slot y (by simp [Op.operands]) _ hy
  simp only [Slot.ok] at h6
  have hv6 := h6
  obtain ⟨cs, h6, h7⟩ := h6
  have h8 := findKeyP (Nat.le_of_ble_eq_true hn) hT he h6 w (m.map (·.1)) es.toList h5.keys
  have hcq := hk 10000 (Nat.le_of_ble_eq_true hn') false w _ w k cs h6
  have hg := MapKept.run_getObj_map (P := F.P) h4
  have hso := fun o => MapKept.run_setObj_map (P := F.P) o h4
  have hfr := AS.free_spec hf (i := j) (en := .arr T2 e r.2.2) (by simp [lkE])
  have hij : j ≠ i := fun e => by subst e; rw [hfr.2.1] at hd; cases hd
  obtain ⟨hck, hborn⟩ := h5.born rfl
  have hlen : es.toList.length = m.length := by simpa using h5.keys.len
  unfold ment at hm
  split at hm
  case isFalse => cases hm
  rename_i hbig
  have hm := Option.some.inj hm
  -- what the entries are then, and what the slice is
  obtain ⟨es', ck', v, hrun, hz2, hkeys, hlen', hvv, hoth, hbo⟩ : ∃ (es' : Array MapEntry) (ck' : Nat) (v : Value), (execOp a.eval ⟨d, .mapEntry M x y, ty, p, af, gd⟩).run F.P w = .ok (.value (.tuple #[v, .int .i64 (r.2.1 : Int)])) { w with heap := w.heap.setIfInBounds b (.map es' ck') } ∧
      (∃ a c, v = .slice a r.2.2.length c) ∧ (∀ S' w', Ext (Un F.S0 ρ σ.d) S' w w' → KsL ke S' w' (r.1.map (·.1)) es'.toList) ∧ es'.toList.length = r.1.length ∧ (es'.toList.map (·.val))[r.2.1]? = some v ∧
      ((v = .slice none 0 0 ∧ r.2.2 = [] ∧ (∀ q, q ≠ r.2.1 → r.1[q]? = m[q]? ∧ (es'.toList.map (·.val))[q]? = (es.toList.map (·.val))[q]?)) ∨ (m[r.2.1]?.map (·.2) = some r.2.2 ∧ r.1 = m ∧ es'.toList.map (·.val) = es.toList.map (·.val))) ∧
      (ck' = es'.toList.length ∧ ∀ (j : Nat) (q : MapEntry), es'.toList[j]? = some q → q.born = j) := by
    cases hkp : kp (m.map (·.1)) k with
    | none =>
      rw [hkp] at hm h8
      simp only [Option.bind_none] at h8
      simp only at hm
      subst hm
      refine ⟨es.push { key := a.eval y, val := .slice none 0 0, born := ck }, ck + 1, .slice none 0 0, ?_, ⟨none, 0, rfl⟩, ?_, ?_, ?_, .inl ⟨rfl, rfl, fun q hq => ?_⟩, ?_, ?_⟩
      · have : ck = m.length := by rw [hck, hlen]
        simp [execOp, h1, h3, h7, Instr.mapEntry, hM, hg, hcq, h8, hso, hz, goInt, this]
      · intro S' w' hE
        rw [Array.toList_push, List.map_append]
        exact (h5.keys.mono hE).push (Enc.val_mono hv6 hE)
      · simp [hlen]
      · simp [← hlen]
      · rw [Array.toList_push, List.map_append]
        have hq' : q ≠ m.length := hq
        rcases Nat.lt_or_ge q m.length with h | h
        · rw [List.getElem?_append_left h, List.getElem?_append_left (by simpa [hlen] using h)]; exact ⟨rfl, rfl⟩
        · rw [List.getElem?_eq_none (by simp; omega), List.getElem?_eq_none (by omega), List.getElem?_eq_none (by simp at hlen ⊢; omega), List.getElem?_eq_none (by simp at hlen ⊢; omega)]; exact ⟨rfl, rfl⟩
      · simp [hck]
      · intro q x hq
        rw [Array.toList_push] at hq
        rcases Nat.lt_or_ge q es.toList.length with h | h
        · rw [List.getElem?_append_left h] at hq; exact hborn q x hq
        · rw [List.getElem?_append_right h] at hq
          have h0 : q - es.toList.length = 0 := by
            rcases Nat.eq_zero_or_pos (q - es.toList.length) with h | h
            · exact h
            · rw [List.getElem?_eq_none (by simp at h ⊢; omega)] at hq; cases hq
          rw [h0] at hq; simp at hq; subst hq
          show ck = q
          omega
    | some q =>
      rw [hkp] at hm h8
      simp only at hm
      subst hm
      obtain ⟨k1, k2⟩ := kp_lt hkp
      have k1' : q < m.length := by simpa using k1
      have k3 : q < es.toList.length := by omega
      have k3' : q < es.size := by simpa using k3
      have k5 : es.toList[q]? = some es[q] := by simp [k3']
      simp only [Option.bind_some, k5, Option.map_some] at h8
      have k6 : es[q]? = some es[q] := Array.getElem?_eq_getElem k3'
      have hkey : ke.val k (Un F.S0 ρ σ.d) w es[q].key := h5.keys.get k2 k5
      have hsb := hsame k _ _ _ _ _ _ hkey hv6
      have hst : (Instr.keyThatStays es[q].key (a.eval y)).run F.P w = .ok (a.eval y) w := by simp [Instr.keyThatStays, hsb]
      have hbq := hborn q _ k5
      have harr := h5.rows.ok q (m[q].2) es[q].val (by simp) (by simp [k1']) (by simp [k3'])
      have hmq : m[q]? = some m[q] := List.getElem?_eq_getElem k1'
      refine ⟨es.modify q fun e => { e with key := a.eval y }, ck, es[q].val, ?_, ?_, ?_, ?_, ?_, .inr ⟨?_, rfl, ?_⟩, ?_, ?_⟩
      · simp [execOp, h1, h3, h7, Instr.mapEntry, hM, hg, hcq, h8, hso, goInt, k6, hbq]
        rw [← h7, hst]
        simp [hso]
      · simp only [hmq, Option.map_some, Option.getD_some]; exact harr.slice
      · intro S' w' hE
        rw [Array.toList_modify]
        exact (h5.keys.mono hE).modify fun k' x hk' hx' => by
          rw [k2] at hk'; cases hk'; exact Enc.val_mono hv6 hE
      · simpa using hlen
      · rw [Array.toList_modify, List.getElem?_map, List.getElem?_modify, k5]; simp
      · simp [hmq]
      · rw [Array.toList_modify]
        apply List.ext_getElem?; intro q'
        simp only [List.getElem?_map, List.getElem?_modify]
        cases es.toList[q']? <;> simp; split <;> rfl
      · simpa using hck
      · intro q' x' hq'
        rw [Array.toList_modify, List.getElem?_modify] at hq'
        cases hx' : es.toList[q']? with
        | none => rw [hx'] at hq'; cases hq'
        | some y' =>
          rw [hx'] at hq'
          have := hborn q' y' hx'
          simp only [Option.map_eq_map, Option.map_some, Option.some.injEq] at hq'
          subst hq'; split <;> exact this
  obtain ⟨av, cv, hsl⟩ := hz2
  have hpos : r.2.1 < r.1.length := by
    rw [← hlen']
    rcases Nat.lt_or_ge r.2.1 es'.toList.length with h | h
    · exact h
    · rw [List.getElem?_eq_none (by simpa using h)] at hvv; cases hvv
  have hi64 : inK .i64 (r.2.1 : Int) := by
    have : r.1.length ≤ m.length + 1 := by
      rcases hoth with ⟨_, _, h⟩ | ⟨_, h, _⟩
      · rcases Nat.lt_or_ge (m.length + 1) r.1.length with h9 | h9
        · have h10 := (h (m.length) )
          have h11 := (h (m.length + 1))
          by_cases h12 : m.length = r.2.1
          · have := (h11 (by omega)).1
            rw [List.getElem?_eq_getElem h9, List.getElem?_eq_none (by omega)] at this; cases this
          · have := (h10 h12).1
            rw [List.getElem?_eq_getElem (by omega), List.getElem?_eq_none (by omega)] at this; cases this
        · exact h9
      · rw [h]; omega
    exact len_in (n := r.2.1) (by omega)
  have hset := MapKept.heap_set (o' := .map es' ck') h4
  have hch : Chg (some b) w { w with heap := w.heap.setIfInBounds b (.map es' ck') } := ⟨by simp, fun k _ hk => hset.2 k (fun e => hk (by rw [e])), rfl, rfl, rfl⟩
  refine OpWp.value hrun ?_
  -- the slice's block is the map's
  have hown : ∀ c, blk v = some c → (ρ i).x c ∧ c ≠ b := by
    intro c hb
    rcases hoth with ⟨rfl, _⟩ | ⟨_, _, h⟩
    · simp [blk] at hb
    · rw [h] at hvv
      obtain ⟨k1, k2⟩ := h5.rows.own _ v c (by simp) hvv hb
      exact ⟨k1, fun e => k2 (by rw [e])⟩
  let ρ' : Nat → LV := fun l => if l = j then .of v else if l = i then ⟨(ρ i).v, fun b => (ρ i).x b ∧ blk v ≠ some b⟩ else ρ l
  have rj : ρ' j = .of v := if_pos rfl
  have ri : ρ' i = ⟨(ρ i).v, fun b => (ρ i).x b ∧ blk v ≠ some b⟩ := by show (if i = j then _ else _) = _; rw [if_neg (Ne.symm hij), if_pos rfl]
  have ro : ∀ l, l ≠ j → l ≠ i → ρ' l = ρ l := fun l h1 h2 => by show (if l = j then _ else _) = _; rw [if_neg h1, if_neg h2]
  have rv : ∀ l, l ≠ j → (ρ' l).v = (ρ l).v := fun l h1 => by
    by_cases h2 : l = i
    · subst h2; rw [ri]
    · rw [ro l h1 h2]
  have hl : ∀ l en, lkE ((j, .arr T2 e r.2.2) :: (i, .dp (DE.mps true ke T2 e) (r.1, some r.2.1) [j]) :: σ.d) l = some en → (l = j ∧ en = .arr T2 e r.2.2) ∨ (l = i ∧ en = .dp (DE.mps true ke T2 e) (r.1, some r.2.1) [j]) ∨ (l ≠ j ∧ l ≠ i ∧ lkE σ.d l = some en) := by
    intro l en h
    rcases lkE_new h with h | ⟨h0, h⟩
    · exact .inl h
    · rcases lkE_new h with h | ⟨h5, h⟩
      · exact .inr (.inl h)
      · exact .inr (.inr ⟨h0, h5, h⟩)
  have hsub : ∀ l en b, lkE ((j, .arr T2 e r.2.2) :: (i, .dp (DE.mps true ke T2 e) (r.1, some r.2.1) [j]) :: σ.d) l = some en → Has (ρ' l) b → ∃ l0 en0, lkE σ.d l0 = some en0 ∧ Has (ρ l0) b := by
    intro l en b h hb
    rcases hl l en h with ⟨rfl, rfl⟩ | ⟨rfl, rfl⟩ | ⟨h5, h6, h7⟩
    · rw [rj, Has_of] at hb; exact ⟨i, _, hd, .inr (hown b hb).1⟩
    · rw [ri, Has_mk] at hb
      exact ⟨l, _, hd, hb.imp id And.left⟩
    · rw [ro l h5 h6] at hb; exact ⟨l, en, h7, hb⟩
  have hib : blk (ρ i).v = some b := by rw [h3]; rfl
  have hji : ∀ b, Has (ρ' j) b → Has (ρ' i) b → False := by
    intro b' hb hb'
    rw [rj, Has_of] at hb; rw [ri, Has_mk] at hb'
    rcases hb' with hb' | hb'
    · rw [hib] at hb'; exact (hown b' hb).2 (Option.some.inj hb').symm
    · exact hb'.2 hb
  have hothers : ∀ l en b, l ≠ i → lkE σ.d l = some en → Has (ρ l) b → ¬ Has (ρ' j) b ∧ ¬ Has (ρ' i) b := by
    intro l en b hli hlk hb
    refine ⟨fun h => ?_, fun h => ?_⟩
    · rw [rj, Has_of] at h; exact hli (hc.inj l i en _ b hlk hd hb (.inr (hown b h).1))
    · rw [ri, Has_mk] at h; exact hli (hc.inj l i en _ b hlk hd hb (h.imp id And.left))
  obtain ⟨q1, q2⟩ := hc.step hch (fun c hb => ⟨i, _, hd, .inl (by rw [hib]; exact hb)⟩) (d' := (j, .arr T2 e r.2.2) :: (i, .dp (DE.mps true ke T2 e) (r.1, some r.2.1) [j]) :: σ.d) (ρ' := ρ') (fun l en b h hb => .inr (hsub l en b h hb)) (by
    intro l l' en en' b h h' hb hb'
    rcases hl l en h with ⟨rfl, rfl⟩ | ⟨rfl, rfl⟩ | ⟨g5, g6, g7⟩ <;> rcases hl l' en' h' with ⟨rfl, rfl⟩ | ⟨rfl, rfl⟩ | ⟨g5', g6', g7'⟩
    · rfl
    · exact (hji b hb hb').elim
    · rw [ro l' g5' g6'] at hb'; exact ((hothers l' en' b g6' g7' hb').1 hb).elim
    · exact (hji b hb' hb).elim
    · rfl
    · rw [ro l' g5' g6'] at hb'; exact ((hothers l' en' b g6' g7' hb').2 hb).elim
    · rw [ro l g5 g6] at hb; exact ((hothers l en b g6 g7 hb).1 hb').elim
    · rw [ro l g5 g6] at hb; exact ((hothers l en b g6 g7 hb).2 hb').elim
    · rw [ro l g5 g6] at hb; rw [ro l' g5' g6'] at hb'; exact hc.inj l l' en en' b g7 g7' hb hb') (by
    intro hE l en h
    have hsame : ∀ c, c ≠ b → (w.heap.setIfInBounds b (.map es' ck'))[c]? = w.heap[c]? := hset.2
    rcases hl l en h with ⟨rfl, rfl⟩ | ⟨rfl, rfl⟩ | ⟨h5', h6', h7'⟩
    · rw [rj]
      show arrOk T2 e r.2.2 _ _ v
      rcases hoth with ⟨h9, h10, _⟩ | ⟨h9, _, h11⟩
      · exact .inl ⟨h10, h9⟩
      · rw [h11] at hvv
        refine (h5.rows.ok r.2.1 r.2.2 v (by simp) (by simpa using h9) hvv).mono hE (fun c hb => hsame c (hown c hb).2)
    · rw [ri]
      refine ⟨b, es', ck', h3, hset.1, ⟨hkeys _ _ hE, ⟨by simp [hlen'], ?_, ?_, ?_⟩, fun _ => hbo⟩, fun q hq => ?_⟩
      · intro q xs vq ho hx' hq
        have ho' : q ≠ r.2.1 := fun e => ho (by rw [e])
        have : (m.map (·.2))[q]? = some xs ∧ (es.toList.map (·.val))[q]? = some vq := by
          rcases hoth with ⟨_, _, h9⟩ | ⟨_, h9, h10⟩
          · obtain ⟨h10, h11⟩ := h9 q ho'
            rw [h11] at hq
            rw [List.getElem?_map, h10, ← List.getElem?_map] at hx'
            exact ⟨hx', hq⟩
          · rw [h9] at hx'; rw [h10] at hq; exact ⟨hx', hq⟩
        exact (h5.rows.ok q xs vq (by simp) this.1 this.2).mono hE (fun c hb => hsame c fun e => by
          have := (h5.rows.own q vq c (by simp) this.2 hb).2; exact this (by rw [e]))
      · intro q vq c ho hq hb
        have ho' : q ≠ r.2.1 := fun e => ho (by rw [e])
        have hq' : (es.toList.map (·.val))[q]? = some vq := by
          rcases hoth with ⟨_, _, h9⟩ | ⟨_, h9, h10⟩
          · rw [← (h9 q ho').2]; exact hq
          · rw [← h10]; exact hq
        obtain ⟨k1, k2⟩ := h5.rows.own q vq c (by simp) hq' hb
        refine ⟨⟨k1, fun hcb => ?_⟩, k2⟩
        rcases hoth with ⟨h9, _⟩ | ⟨_, h9, h10⟩
        · rw [h9] at hcb; simp [blk] at hcb
        · rw [h10] at hvv; exact ho' (h5.rows.inj q r.2.1 vq v c (by simp) (by simp) hq' hvv hb hcb)
      · intro q q' vq vq' c ho ho2 hq hq2 hb hb2
        have ho' : q ≠ r.2.1 := fun e => ho (by rw [e])
        have ho2' : q' ≠ r.2.1 := fun e => ho2 (by rw [e])
        rcases hoth with ⟨_, _, h9⟩ | ⟨_, h9, h10⟩
        · rw [(h9 q ho').2] at hq; rw [(h9 q' ho2').2] at hq2
          exact h5.rows.inj q q' vq vq' c (by simp) (by simp) hq hq2 hb hb2
        · rw [h10] at hq hq2; exact h5.rows.inj q q' vq vq' c (by simp) (by simp) hq hq2 hb hb2
      · have : q = r.2.1 := by simpa using hq.symm
        subst this
        simp only [List.map_cons, List.map_nil, List.head?_cons, rj]; exact hvv
    · rw [ro l h5' h6']
      exact Ent.ok_mono (hc.own l en h7') hE (fun q hq => rv q fun e' => by subst e'; exact hfr.2.2 l en h7' hq) (fun c hb => hsame c fun e => h6' (hc.inj l i en _ c h7' hd hb (.inl (by rw [hib, e])))))
  refine ⟨⟨ρ', q1, fun t s' ht => ?_⟩, by rw [Act.size_put, hsz], by cases d <;> exact hde⟩
  have hold : ∀ t s, lk σ.g t = some s → s.ok ρ' (Un F.S0 ρ' ((j, .arr T2 e r.2.2) :: (i, .dp (DE.mps true ke T2 e) (r.1, some r.2.1) [j]) :: σ.d)) _ (a.tmps.getD t undef) := fun t s ht =>
    Slot.ok_mono s _ (hs t s ht) q2 (fun q hq => rv q fun e' => hfr.1 t s ht (e' ▸ hq))
  cases d with
  | none => exact hold t s' ht
  | some q =>
    simp only [gput] at ht
    have hlt : q < a.tmps.size := by rw [hsz]; exact Nat.le_of_ble_eq_true hdst
    rw [Act.getD_put a q _ t hlt]
    rw [lk_cons] at ht
    split at ht
    · rename_i h5; cases ht; rw [if_pos h5]
      simp only [Slot.ok]
      refine ⟨[v, .int .i64 (r.2.1 : Int)], rfl, v, [.int .i64 (r.2.1 : Int)], rfl, ?_, _, [], rfl, ?_, rfl⟩
      · simp only [Slot.ok]; exact ⟨by rw [rj]; exact .inl ⟨_, _, _, hsl⟩, by rw [rj]; rfl⟩
      · simp only [Slot.ok]; exact val_int.2 ⟨rfl, hi64⟩
    · rename_i h5; rw [if_neg h5]; exact hold t s' ht

theorem ment_lt [DecidableEq κ] {k : κ} {r : List (κ × List α) × Nat × List α} (h : ment m k = some r) : r.2.1 < r.1.length := by
  unfold ment at h
  split at h
  · have h := Option.some.inj h
    cases hk : kp (m.map (·.1)) k with
    | none => rw [hk] at h; subst h; simp
    | some q => rw [hk] at h; subst h; have := (kp_lt hk).1; simpa using this
  · cases h
/-- a slice of our own takes the place of the one that was told by a label -/
theorem JM.entryStore {M : TypeId} {ys : List α} {q : Nat} {ls : List Nat} (hq : q < m.length) (hx : evS σ.g x = some (.ref i)) (hd : lkE σ.d i = some (.dp (DE.mps true ke T2 e) (m, some q) ls)) (hy : evS σ.g y = some (.v (Enc.int .i64) (q : Int))) (hz : evS σ.g z = some (.ref j)) (hj : lkE σ.d j = some (.arr T2 e ys)) (hne : Nat.beq i j = false) :
    JM F ⟨none, .entryStore M x y z, ty, p, af, gd⟩ σ ⟨σ.g, (i, .dp (DE.mps true ke T2 e) (mset m q ys, none) []) :: delE σ.d j⟩ := by
  have hij : i ≠ j := fun e => by subst e; simp at hne
  rintro a w ⟨⟨ρ, hc, hs⟩, hsz, hde⟩
  have K := Know.of_st hc hs (Op.entryStore M x y z).operands
  obtain ⟨h1, ⟨b, es, ck, h3, h4, h5, _⟩, _⟩ := K_ref K (x := x) (by simp [Op.operands]) hx hd
  have h6 := (K_int K (x := y) (by simp [Op.operands]) hy).1
  obtain ⟨h7, harr, _⟩ := K_ref K (x := z) (by simp [Op.operands]) hz hj
  have harr : arrOk T2 e ys (Un F.S0 ρ σ.d) w (ρ j).v := harr
  obtain ⟨hck, hborn⟩ := h5.born rfl
  have hlen : es.toList.length = m.length := by simpa using h5.keys.len
  have hqs : q < es.size := by have : es.toList.length = es.size := by simp
                               omega
  have hg := MapKept.run_getObj_map (P := F.P) h4
  have hso := fun o => MapKept.run_setObj_map (P := F.P) o h4
  have hbq : ∀ (j : Nat) (h : j < es.size), es[j].born = j := fun j h => hborn j _ (by simp [h])
  have hfi : es.findIdx? (fun e => (e.born : Int) == (q : Int)) = some q := by
    rw [Array.findIdx?_eq_some_iff_getElem]
    exact ⟨hqs, by simp [hbq q hqs], fun j hj => by simp [hbq j (by omega)]; omega⟩
  obtain ⟨es', hes'⟩ : ∃ es', es' = es.modify q fun e => { e with val := (ρ j).v } := ⟨_, rfl⟩
  have hrun : (execOp a.eval ⟨none, .entryStore M x y z, ty, p, af, gd⟩).run F.P w = .ok .skip { w with heap := w.heap.setIfInBounds b (.map es' ck) } := by
    simp only [execOp, h1, h3, h6, h7, Instr.entryStore, Sem.run_bind, hg, Result.andThen_ok, asInt, asIntOf, Sem.run_pure, hfi, hso, hes']
  have hvals : es'.toList.map (·.val) = (es.toList.map (·.val)).set q (ρ j).v := by
    rw [hes', Array.toList_modify]
    apply List.ext_getElem?; intro q'
    simp only [List.getElem?_map, List.getElem?_modify, List.getElem?_set, List.length_map]
    by_cases hq' : q' < es.toList.length
    · rw [List.getElem?_eq_getElem hq']; by_cases hi : q = q' <;> simp [hi]; omega
    · rw [List.getElem?_eq_none (by omega)]; by_cases hi : q = q' <;> simp [hi]; simp at hq'; omega
  have hkeys : ∀ S' w', KsL ke S' w' (m.map (·.1)) es.toList → KsL ke S' w' (m.map (·.1)) es'.toList := by
    intro S' w' h
    rw [hes', Array.toList_modify]
    refine KsL.modify h fun k x hk hx' => ?_
    have := h.get hk hx'
    exact this
  have hset := MapKept.heap_set (o' := .map es' ck) h4
  have hch : Chg (some b) w { w with heap := w.heap.setIfInBounds b (.map es' ck) } := ⟨by simp, fun k _ hk => hset.2 k (fun e => hk (by rw [e])), rfl, rfl, rfl⟩
  have hib : blk (ρ i).v = some b := by rw [h3]; rfl
  have hjb : ∀ c, Has (ρ j) c → c ≠ b := fun c hc' e => hij (hc.inj i j _ _ c hd hj (.inl (by rw [hib, e])) hc')
  refine OpWp.skip hrun ?_
  let ρ' : Nat → LV := fun l => if l = i then ⟨(ρ i).v, fun b => (ρ i).x b ∨ Has (ρ j) b⟩ else ρ l
  have ri : ρ' i = ⟨(ρ i).v, fun b => (ρ i).x b ∨ Has (ρ j) b⟩ := if_pos rfl
  have ro : ∀ l, l ≠ i → ρ' l = ρ l := fun l h => if_neg h
  have rv : ∀ l, (ρ' l).v = (ρ l).v := fun l => by
    by_cases h2 : l = i
    · subst h2; rw [ri]
    · rw [ro l h2]
  have hl : ∀ l en, lkE ((i, .dp (DE.mps true ke T2 e) (mset m q ys, none) []) :: delE σ.d j) l = some en → (l = i ∧ en = .dp (DE.mps true ke T2 e) (mset m q ys, none) []) ∨ (l ≠ i ∧ l ≠ j ∧ lkE σ.d l = some en) := by
    intro l en h
    rcases lkE_new h with h | ⟨h0, h⟩
    · exact .inl h
    · rw [lkE_del] at h
      split at h
      · cases h
      · rename_i h6; exact .inr ⟨h0, h6, h⟩
  have hsub : ∀ l en b, lkE ((i, .dp (DE.mps true ke T2 e) (mset m q ys, none) []) :: delE σ.d j) l = some en → Has (ρ' l) b → ∃ l0 en0, lkE σ.d l0 = some en0 ∧ Has (ρ l0) b := by
    intro l en b h hb
    rcases hl l en h with ⟨rfl, rfl⟩ | ⟨h6, _, h7⟩
    · rw [ri, Has_mk] at hb
      rcases hb with hb | hb | hb
      · exact ⟨l, _, hd, .inl hb⟩
      · exact ⟨l, _, hd, .inr hb⟩
      · exact ⟨j, _, hj, hb⟩
    · rw [ro l h6] at hb; exact ⟨l, en, h7, hb⟩
  have hoth : ∀ l en b, l ≠ i → l ≠ j → lkE σ.d l = some en → Has (ρ l) b → ¬ Has (ρ' i) b := by
    intro l en b hli hlj hlk hb h
    rw [ri, Has_mk] at h
    rcases h with h | h | h
    · exact hli (hc.inj l i en _ b hlk hd hb (.inl h))
    · exact hli (hc.inj l i en _ b hlk hd hb (.inr h))
    · exact hlj (hc.inj l j en _ b hlk hj hb h)
  obtain ⟨q1, q2⟩ := hc.step hch (fun c hb => ⟨i, _, hd, .inl (by rw [hib]; exact hb)⟩) (d' := (i, .dp (DE.mps true ke T2 e) (mset m q ys, none) []) :: delE σ.d j) (ρ' := ρ') (fun l en b h hb => .inr (hsub l en b h hb)) (by
    intro l l' en en' b g g' hb hb'
    rcases hl l en g with ⟨rfl, rfl⟩ | ⟨g6, g7, g8⟩ <;> rcases hl l' en' g' with ⟨rfl, rfl⟩ | ⟨g6', g7', g8'⟩
    · rfl
    · rw [ro l' g6'] at hb'; exact (hoth l' en' b g6' g7' g8' hb' hb).elim
    · rw [ro l g6] at hb; exact (hoth l en b g6 g7 g8 hb hb').elim
    · rw [ro l g6] at hb; rw [ro l' g6'] at hb'; exact hc.inj l l' en en' b g8 g8' hb hb') (by
    intro hE l en g
    have hsame : ∀ c, c ≠ b → (w.heap.setIfInBounds b (.map es' ck))[c]? = w.heap[c]? := hset.2
    rcases hl l en g with ⟨rfl, rfl⟩ | ⟨g6, g7, g8⟩
    · rw [ri]
      refine ⟨b, es', ck, h3, hset.1, ⟨?_, ⟨?_, fun q' xs v _ hx' hv' => ?_, fun q' v c _ hv' hb => ?_, fun q1 q2 v1 v2 c _ _ hv1 hv2 hb1 hb2 => ?_⟩, fun _ => ⟨by rw [hes']; simpa using hck, fun q' x' hq' => ?_⟩⟩, fun q hq => by cases hq⟩
      · show KsL ke _ _ ((mset m q ys).map (·.1)) _
        rw [mset_fst]; exact hkeys _ _ (h5.keys.mono hE)
      · rw [hvals]; simp [mset]; simpa using hlen
      · have hx' : ((mset m q ys).map (·.2))[q']? = some xs := hx'
        rw [mset_snd] at hx'; rw [hvals] at hv'
        by_cases hqk : q' = q
        · subst hqk
          have e1 : xs = ys := by simpa [List.getElem?_set, hq] using hx'.symm
          have e2 : v = (ρ j).v := by
            rw [List.getElem?_set_self (by simpa using hqs)] at hv'; exact (Option.some.inj hv').symm
          subst e1; subst e2
          exact harr.mono hE (fun c hb => hsame c (hjb c (.inl hb)))
        · rw [List.getElem?_set_ne (Ne.symm hqk)] at hx' hv'
          refine (h5.rows.ok q' xs v (by simpa using fun e => hqk e.symm) hx' hv').mono hE (fun c hb => hsame c fun e => ?_)
          exact (h5.rows.own q' v c (by simpa using fun e => hqk e.symm) hv' hb).2 (by rw [e])
      · rw [hvals] at hv'
        by_cases hqk : q' = q
        · subst hqk
          rw [List.getElem?_set_self (by simpa using hqs)] at hv'
          have e2 := Option.some.inj hv'
          subst e2
          exact ⟨.inr (.inl hb), fun e => hjb c (.inl hb) (Option.some.inj e).symm⟩
        · rw [List.getElem?_set_ne (Ne.symm hqk)] at hv'
          obtain ⟨k1, k2⟩ := h5.rows.own q' v c (by simpa using fun e => hqk e.symm) hv' hb
          exact ⟨.inl k1, k2⟩
      · rw [hvals] at hv1 hv2
        by_cases e1 : q1 = q
        · subst e1
          rw [List.getElem?_set_self (by simpa using hqs)] at hv1
          have e3 := Option.some.inj hv1
          subst e3
          by_cases e2 : q2 = q1
          · exact e2.symm
          · rw [List.getElem?_set_ne (Ne.symm e2)] at hv2
            obtain ⟨k1, _⟩ := h5.rows.own q2 v2 c (by simpa using fun e => e2 e.symm) hv2 hb2
            exact (hij (hc.inj l j _ _ c hd hj (.inr k1) (.inl hb1))).elim
        · rw [List.getElem?_set_ne (Ne.symm e1)] at hv1
          by_cases e2 : q2 = q
          · subst e2
            rw [List.getElem?_set_self (by simpa using hqs)] at hv2
            have e3 := Option.some.inj hv2
            subst e3
            obtain ⟨k1, _⟩ := h5.rows.own q1 v1 c (by simpa using fun e => e1 e.symm) hv1 hb1
            exact (hij (hc.inj l j _ _ c hd hj (.inr k1) (.inl hb2))).elim
          · rw [List.getElem?_set_ne (Ne.symm e2)] at hv2
            exact h5.rows.inj q1 q2 v1 v2 c (by simpa using fun e => e1 e.symm) (by simpa using fun e => e2 e.symm) hv1 hv2 hb1 hb2
      · rw [hes', Array.toList_modify, List.getElem?_modify] at hq'
        cases hx' : es.toList[q']? with
        | none => rw [hx'] at hq'; cases hq'
        | some y' =>
          rw [hx'] at hq'
          have := hborn q' y' hx'
          simp only [Option.map_eq_map, Option.map_some, Option.some.injEq] at hq'
          subst hq'; split <;> exact this
    · rw [ro l g6]
      exact Ent.ok_mono (hc.own l en g8) hE (fun q _ => rv q) (fun c hb => hsame c fun e => g6 (hc.inj l i en _ c g8 hd hb (.inl (by rw [hib, e])))))
  exact ⟨⟨ρ', q1, fun t s ht => Slot.ok_mono s _ (hs t s ht) q2 (fun q _ => rv q)⟩, hsz, hde⟩
end
end Go.Sw

namespace Go.Sw
open Go Go.RowKit
section
variable {F : Frm} {σ σ' : AS} {ops : Array Oper} {os : List Oper} {its : List Itm4} {d : Option Tmp} {ty : TypeId} {p : String} {af : Array Edge} {gd : Option (Nat × Bool)} {x y z : Operand} {κ α : Type} {ke : Enc κ} {e : Enc α} {T2 : TypeId} {m : List (κ × List α)} {i : Nat}
theorem JP4.mapEntry [DecidableEq κ] {n n' l : Nat} {M KT VT E : TypeId} {k : κ} {r : List (κ × List α) × Nat × List α} (g : GK ops σ.g ⟨d, .mapEntry M x y, ty, p, af, gd⟩ true) (j : Nat) (hm : ment m k = some r) (hx : evS σ.g x = some (.ref i)) (hd : lkE σ.d i = some (.dp (DE.mps true ke T2 e) (m, none) [])) (hy : evS σ.g y = some (.v ke k))
    (hM : ∀ w, (underlying M).run F.P w = .ok (.map KT VT) w) (hT : ∀ w, (underlying KT).run F.P w = .ok (.array l E) w) (he : EqE n F.P KT ke) (hn : Nat.ble n 10000 = true) (hk : KeyE n' F.P KT ke) (hn' : Nat.ble n' 10000 = true) (hsame : SameE ke)
    (hz : ∀ w, (zeroValue VT).run F.P w = .ok (.slice none 0 0) w) (_ : σ.free [(j, .arr T2 e r.2.2)] = true) (hdst : dstOk d F.N = true)
    (k : JP4 F ops os ⟨gput d (.tup [.ref j, .v (Enc.int .i64) (r.2.1 : Int)]) σ.g, (j, .arr T2 e r.2.2) :: (i, .dp (DE.mps true ke T2 e) (r.1, some r.2.1) [j]) :: σ.d⟩ its σ') :
    JP4 F ops (⟨d, .mapEntry M x y, ty, p, af, gd⟩ :: os) σ (⟨.tup [.ref j, .v (Enc.int .i64) (r.2.1 : Int)], [(j, .arr T2 e r.2.2), (i, .dp (DE.mps true ke T2 e) (r.1, some r.2.1) [j])], [(j, .arr T2 e r.2.2)], rdl σ.g ⟨d, .mapEntry M x y, ty, p, af, gd⟩, []⟩ :: its) σ' :=
  .mv (nw := [(j, .arr T2 e r.2.2), (i, .dp (DE.mps true ke T2 e) (r.1, some r.2.1) [j])]) (dl := []) g hdst (fun σ2 hL hf => JM.mapEntry j hm ((hL.ev (by simp [Op.operands])).trans hx) ((hL.ent (x := x) (by simp [Op.operands]) hx (by simp [Slot.lab])).trans hd) ((hL.ev (by simp [Op.operands])).trans hy) hM hT he hn hk hn' hsame hz hf hdst) k
end
/-! ### empty structs -/
def Enc.st0 : Enc Unit where
  n := 0
  agg := true
  ok _ _ _ cs := cs = []
  len h := by rw [h]; rfl
  one h := by cases h
  cell h c hc := by rw [h] at hc; simp at hc
  mono h _ := h
/-! ### interface values of a few known types -/
def Enc.ifn : Enc Unit where
  n := 1
  agg := false
  ok _ _ _ cs := cs = [.nilIface]
  len h := by rw [h]; rfl
  one _ := rfl
  cell h c hc := by rw [h] at hc; simp at hc; subst hc; rfl
  mono h _ := h
def Enc.ifc {α β : Type} (T : TypeId) (e : Enc α) (r : Enc β) (hn : r.n = 1) (_ha : r.agg = false) : Enc (α ⊕ β) where
  n := 1
  agg := false
  ok q S w cs := match q with | .inl x => ∃ ds, cs = [.iface T (e.pk ds)] ∧ e.ok x S w ds | .inr y => r.ok y S w cs
  len {q S w cs} h := by
    cases q with
    | inl x => obtain ⟨ds, h, _⟩ := h; rw [h]; rfl
    | inr y => rw [r.len h, hn]
  one _ := rfl
  cell {q S w cs} h := by
    cases q with
    | inl x => obtain ⟨ds, h, _⟩ := h; intro c hc; rw [h] at hc; simp at hc; subst hc; rfl
    | inr y => exact r.cell h
  mono {q S S' w w' cs} h k := by
    cases q with
    | inl x => obtain ⟨ds, h, h'⟩ := h; exact ⟨ds, h, e.mono h' k⟩
    | inr y => exact r.mono h k
/-- a value of a type among them, as one of theirs -/
def IfcIn {α β : Type} (T : TypeId) (e : Enc α) (z : α) (f : Enc β) (q : β) : Prop := ∀ S w v, e.val z S w v → f.val q S w (.iface T v)
theorem IfcIn.here {α β : Type} {T : TypeId} {e : Enc α} {z : α} {r : Enc β} {hn : r.n = 1} {ha : r.agg = false} : IfcIn T e z (Enc.ifc T e r hn ha) (.inl z) := by
  rintro S w v ⟨cs, h, rfl⟩
  exact ⟨_, ⟨cs, rfl, h⟩, rfl⟩
theorem IfcIn.there {α β γ : Type} {T T' : TypeId} {e : Enc α} {e' : Enc γ} {z : α} {r : Enc β} {hn : r.n = 1} {ha : r.agg = false} {q : β} (h : IfcIn T e z r q) : IfcIn T e z (Enc.ifc T' e' r hn ha) (.inr q) := by
  intro S w v hv
  obtain ⟨cs, h1, h2⟩ := h S w v hv
  exact ⟨cs, h1, by rw [h2]; simp [Enc.pk, Enc.ifc, ha]⟩
section
variable {F : Frm} {σ : AS} {d : Option Tmp} {ty : TypeId} {p : String} {af : Array Edge} {gd : Option (Nat × Bool)} {x : Operand}
end
/-- what a call of a method of such a value comes to -/
def IfcCon {β : Type} (P : Program) (name : String) (f : Enc β) (q : β) (ss : List Slot) (res : Slot) (new : List (Nat × Ent)) : Prop :=
  ∀ S w v, f.val q S w v → ∃ T u g s0, v = .iface T u ∧ (∀ w, (method (P.types.size + Made.depth) T u name).run P w = .ok (g, u) w) ∧ (∀ args w, (callFunc g args).run P w = .ok (.enter g args) w) ∧ (∀ ρ, Slot.ok ρ S w s0 u) ∧ Con P g (s0 :: ss) res new
section
variable {P : Program} {name : String} {ss : List Slot} {res : Slot} {new : List (Nat × Ent)}
theorem IfcCon.here {α β : Type} {T : TypeId} {g : FuncId} {e : Enc α} {z : α} {r : Enc β} {hn : r.n = 1} {ha : r.agg = false} (hm : ∀ u w, (method (P.types.size + Made.depth) T u name).run P w = .ok (g, u) w) (hc : ∀ args w, (callFunc g args).run P w = .ok (.enter g args) w)
    (h : Con P g (.v e z :: ss) res new) : IfcCon P name (Enc.ifc T e r hn ha) (.inl z) ss res new := by
  rintro S w v ⟨cs, ⟨ds, rfl, h2⟩, rfl⟩
  exact ⟨T, e.pk ds, g, .v e z, rfl, hm _, hc, fun ρ => by simp only [Slot.ok]; exact ⟨ds, h2, rfl⟩, h⟩
theorem IfcCon.there {β γ : Type} {T' : TypeId} {e' : Enc γ} {r : Enc β} {hn : r.n = 1} {ha : r.agg = false} {q : β} (h : IfcCon P name r q ss res new) : IfcCon P name (Enc.ifc T' e' r hn ha) (.inr q) ss res new := by
  rintro S w v ⟨cs, h1, rfl⟩
  exact h S w _ ⟨cs, h1, by simp [Enc.pk, Enc.ifc, ha]⟩
end
section
variable {F : Frm} {σ : AS} {d : Option Tmp} {ty : TypeId} {p : String} {af : Array Edge} {gd : Option (Nat × Bool)} {x : Operand}
end
end Go.Sw

namespace Go.Sw
open Go Go.RowKit
/-! ### two shapes of a result -/
def ocase {α β : Type} (o : Option α) (n : Option β) (s : α → Option β) : Option β := match o with | none => n | some z => s z
theorem ocase_n {α β : Type} {o : Option α} {n : Option β} {s : α → Option β} {r : β} (h : o = none) (k : ocase o n s = some r) : n = some r := by subst h; exact k
theorem ocase_s {α β : Type} {o : Option α} {n : Option β} {s : α → Option β} {r : β} {z : α} (h : o = some z) (k : ocase o n s = some r) : s z = some r := by subst h; exact k
section
variable {F : Frm} {σ : AS} {d : Option Tmp} {ty : TypeId} {p : String} {af : Array Edge} {gd : Option (Nat × Bool)} {x : Operand}
theorem JO.ptrEqN {i off : Nat} {T T' E : TypeId} (hx : evS σ.g x = some (.ptr i off)) (hT : ∀ w, (underlying T).run F.P w = .ok (.pointer E) w) : JO F ⟨d, .binOp .eql T x (.const (.pointer none)) T', ty, p, af, gd⟩ σ (.v Enc.bool false) [] := by
  intro ρ S a w K
  have h := K.slot x (by simp [Op.operands]) _ hx
  simp only [Slot.ok] at h
  obtain ⟨⟨b, h1⟩, h2⟩ := h
  obtain ⟨ad, h3, h4⟩ : ∃ ad : Option Addr, a.eval x = .pointer ad ∧ ad.isNone = false := ⟨some ⟨b, off, none⟩, by rw [h2, h1]; rfl, rfl⟩
  have hq := run_equal_ptr_nil (P := F.P) w T E ad hT
  rw [h4] at hq
  refine OpWp.value (w' := w) (v := .bool false) ?_ (Res.same (bool_ok _ ρ S w))
  exact eqop (r := false) (.inl ⟨rfl, rfl⟩) h3 rfl (by intros; simp) (by intros; simp) (by intros; simp) (by intros; simp) (by simp [eqGuard, Act.eval]) hq
end
/-! ### calls that change what they are handed, where the order is open -/
section
variable {F : Frm} {ops : Array Oper} {os : List Oper} {σ σ2 σ' : AS} {its : List Itm4} {d : Option Tmp} {ty : TypeId} {p : String} {af : Array Edge} {gd : Option (Nat × Bool)} {o : Oper}
theorem Arg.loc {x : Operand} {s : Slot} {l : Bool} (h : Arg σ l x s) (hL : Loc ops o σ σ2) (hm : x ∈ o.op.operands) : Arg σ2 l x s := fun ρ S a w K =>
  h ρ S a w ⟨K.low, fun y hy s hs => K.slot y hy s (by have : y = x := by simpa using hy
                                                       subst this; rw [hL.ev hm]; exact hs), fun y hy s hs i hi en he => K.ent y hy s (by have : y = x := by simpa using hy
                                                                                                                                          subst this; rw [hL.ev hm]; exact hs) i hi en (by have : y = x := by simpa using hy
                                                                                                                                                                                           subst this; rw [hL.ent hm hs hi]; exact he)⟩
theorem ArgsM.loc {r : Nat → Nat} {xs : List Operand} {l : List Slot} (h : ArgsM σ r xs l) (hL : Loc ops o σ σ2) (hm : ∀ x ∈ xs, x ∈ o.op.operands) : ArgsM σ2 r xs l := by
  induction h with
  | nil => exact .nil
  | cons h1 _ ih => exact .cons (h1.loc hL (hm _ List.mem_cons_self)) (ih fun x hx => hm x (List.mem_cons_of_mem _ hx))
theorem DinR.loc {r A : Nat → Nat} {ds : List (Nat × Ent)} (h : DinR σ r A ds) (hd : ∀ l ∈ ds.map (fun x => r x.1), lkE σ2.d l = lkE σ.d l) : DinR σ2 r A ds := by
  induction h with
  | nil => exact .nil
  | box h1 _ ih => exact .box (by rw [hd _ (by simp)]; exact h1) (ih fun l hl => hd l (by simp at hl ⊢; exact .inr hl))
  | arr h1 _ ih => exact .arr (by rw [hd _ (by simp)]; exact h1) (ih fun l hl => hd l (by simp at hl ⊢; exact .inr hl))
  | mp h1 _ ih => exact .mp (by rw [hd _ (by simp)]; exact h1) (ih fun l hl => hd l (by simp at hl ⊢; exact .inr hl))
  | dp h1 _ ih => exact .dp (by rw [hd _ (by simp)]; exact h1) (ih fun l hl => hd l (by simp at hl ⊢; exact .inr hl))
theorem DoutR.loc {r A : Nat → Nat} {ds D : List (Nat × Ent)} {K : List Nat} (h : DoutR σ r A ds D K) (hd : ∀ l ∈ K, lkE σ2.d l = lkE σ.d l) : DoutR σ2 r A ds D K := by
  induction h with
  | nil => exact .nil
  | box h1 _ hm ih => exact .box (by rw [hd _ List.mem_cons_self]; exact h1) (ih fun l hl => hd l (List.mem_cons_of_mem _ hl)) hm
  | boxN _ hm ih => exact .boxN (ih hd) hm
  | arr _ hm ih => exact .arr (ih hd) hm
  | mp _ hm ih => exact .mp (ih hd) hm
  | dp _ hm ih => exact .dp (ih hd) hm
theorem JP4.callM {f : FuncId} {xs : List Operand} {ts : Array TypeId} {ss : List Slot} {res : Slot} {din dout : (Nat → Nat) → List (Nat × Ent)} {D : List (Nat × Ent)} {K H : List Nat} (g : GK ops σ.g ⟨d, .call ⟨.value (.func f), xs.toArray, ts⟩, ty, p, af, gd⟩ true) (r : Nat → Nat) (hr : ∀ i j, r i = r j → i = j)
    (hc : ∀ A, ConM F.P f ss (din A) res (dout A)) (hcall : ∀ args w, (callFunc f args).run F.P w = .ok (.enter f args) w) (ha : ArgsM σ r xs ss) (hin : ∀ A, DinR σ r A (din A)) (hout : ∀ A, DoutR σ r A (dout A) D K)
    (hH : ∀ A, (din A).map (fun x => r x.1) = H) (hDK : D.all (fun x => !memB x.1 H || memB x.1 K) = true) (_ : newB σ H D = true) (hcl : ∀ A, closed res (dout A) = true) (hKH : K.all (fun k => memB k H) = true) (hdst : dstOk d F.N = true)
    (k : JP4 F ops os ⟨gput d (res.map r) σ.g, D ++ delEs σ.d H⟩ its σ') :
    JP4 F ops (⟨d, .call ⟨.value (.func f), xs.toArray, ts⟩, ty, p, af, gd⟩ :: os) σ (⟨res.map r, D, D.filter (fun x => !memB x.1 H), rdl σ.g ⟨d, .call ⟨.value (.func f), xs.toArray, ts⟩, ty, p, af, gd⟩ ++ H, H⟩ :: its) σ' := by
  refine .mvx (nw := D) (fr := D.filter (fun x => !memB x.1 H)) (dl := H) (ex := H) g hdst (fun σ2 hL hex hf => ?_) k
  have hDK' : ∀ x ∈ D, memB x.1 H = true → memB x.1 K = true := fun x hx hm => by
    have := List.all_eq_true.1 hDK x hx
    simpa [hm] using this
  refine JM.callM r hr hc hcall (ha.loc hL fun x hx => by simp [Op.operands, Call.operands, hx]) (fun A => (hin A).loc fun l hl => hex l (by rw [← hH A]; exact hl)) (fun A => (hout A).loc fun l hl => hex l (memB_iff.1 (List.all_eq_true.1 hKH l hl))) hH ?_ ?_ hcl hKH hdst
  · have key : ∀ l, (!memB l H || memB l K || !memB l (D.map (·.1))) = true := by
      intro l
      cases h1 : memB l H with
      | false => simp
      | true =>
        cases h2 : memB l (D.map (·.1)) with
        | false => simp
        | true =>
          obtain ⟨x, hx, rfl⟩ := List.mem_map.1 (memB_iff.1 h2)
          simp [hDK' x hx h1]
    unfold staysB
    simp only [Bool.and_eq_true, List.all_eq_true]
    exact ⟨fun y _ l _ => key l, fun y _ l _ => key l⟩
  · unfold newB
    rw [List.all_eq_true]
    intro x hx
    cases hm : memB x.1 H with
    | true => simp
    | false =>
      have h1 := List.all_eq_true.1 hf x (List.mem_filter.2 ⟨hx, by simp [hm]⟩)
      simp only [Bool.and_eq_true, List.all_eq_true] at h1
      have mb : ∀ l : List Nat, (!l.contains x.1) = true → (!memB x.1 l) = true := by
        intro l hl
        cases h2 : memB x.1 l with
        | false => rfl
        | true => have := memB_iff.1 h2; simp at hl; exact absurd this hl
      simp only [Bool.or_eq_true, Bool.and_eq_true, List.all_eq_true]
      exact .inr ⟨fun y hy => ⟨(h1.2 y hy).1, mb _ (h1.2 y hy).2⟩, fun y hy => mb _ (h1.1 y hy)⟩
end
end Go.Sw

namespace Go.Sw
open Go Go.RowKit
/-- the slice that was told by a label is put back -/
def mshut {κ β : Type} (m : List (κ × β)) (o : Option Nat) (v : β) : List (κ × β) := match o with | some q => mset m q v | none => m
/-- a slice for a key -/
def mputS {κ β : Type} [DecidableEq κ] (m : List (κ × β)) (k : κ) (v : β) : List (κ × β) := match kp (m.map (·.1)) k with | some q => mset m q v | none => m ++ [(k, v)]
/-- a key less -/
def mdel {κ β : Type} [DecidableEq κ] (m : List (κ × β)) (k : κ) : List (κ × β) := match kp (m.map (·.1)) k with | some q => m.eraseIdx q | none => m
theorem mget_kp' {κ α : Type} [DecidableEq κ] (m : List (κ × List α)) (k : κ) : (mget m k).getD [] = match kp (m.map (·.1)) k with | some q => ((m.map (·.2))[q]?).getD [] | none => [] := by
  rw [mget_kp]
  cases kp (m.map (·.1)) k with
  | none => rfl
  | some q => simp
theorem mshut_get {κ α : Type} [DecidableEq κ] (m : List (κ × List α)) (k : κ) : mshut m (kp (m.map (·.1)) k) ((mget m k).getD []) = m := by
  rw [mget_kp']
  cases hk : kp (m.map (·.1)) k with
  | none => rfl
  | some q =>
    have hq := (kp_lt hk).1
    simp only [mshut, mset]
    apply List.ext_getElem?; intro j
    rw [List.getElem?_modify]
    by_cases hj : q = j
    · subst hj
      have : q < m.length := by simpa using hq
      simp [this]
    · simp [hj]
section
variable {F : Frm} {σ : AS} {d : Option Tmp} {ty : TypeId} {p : String} {af : Array Edge} {gd : Option (Nat × Bool)} {x y z : Operand} {κ α : Type} {ke : Enc κ} {e : Enc α} {T2 : TypeId} {m : List (κ × List α)} {i j : Nat} {fr : Bool}
theorem EntCv.mps : EntCv (.dp (DE.mps fr ke T2 e) (m, none) []) (.dp (DE.mps false ke T2 e) (m, none) []) :=
  ⟨rfl, fun ρ S w u ⟨b, es, ck, h1, h2, h3, h4⟩ => ⟨b, es, ck, h1, h2, ⟨h3.keys, h3.rows, fun h => by cases h⟩, h4⟩⟩
/-- a key is looked up; its slice is told by a label of its own -/
theorem JM.lookupS [DecidableEq κ] {n n' l : Nat} {M KT VT E : TypeId} {k : κ} (j : Nat) (hx : evS σ.g x = some (.ref i)) (hd : lkE σ.d i = some (.dp (DE.mps fr ke T2 e) (m, none) [])) (hy : evS σ.g y = some (.v ke k))
    (hM : ∀ w, (underlying M).run F.P w = .ok (.map KT VT) w) (hT : ∀ w, (underlying KT).run F.P w = .ok (.array l E) w) (he : EqE n F.P KT ke) (hn : Nat.ble n 10000 = true) (hk : KeyE n' F.P KT ke) (hn' : Nat.ble n' 10000 = true)
    (hz : ∀ w, (zeroValue VT).run F.P w = .ok (.slice none 0 0) w) (hf : σ.free [(j, .arr T2 e ((mget m k).getD []))] = true) (hdst : dstOk d F.N = true) :
    JM F ⟨d, .lookup M x y false, ty, p, af, gd⟩ σ ⟨gput d (.ref j) σ.g, (j, .arr T2 e ((mget m k).getD [])) :: (i, .dp (DE.mps fr ke T2 e) (m, kp (m.map (·.1)) k) [j]) :: σ.d⟩ := by
  rintro a w ⟨⟨ρ, hc, hs⟩, hsz, hde⟩
  have K := Know.of_st hc hs (Op.lookup M x y false).operands
  obtain ⟨h1, ⟨b, es, ck, h3, h4, h5, _⟩, _⟩ := K_ref K (x := x) (by simp [Op.operands]) hx hd
  have h6 := K.slot y (by simp [Op.operands]) _ hy
  simp only [Slot.ok] at h6
  obtain ⟨cs, h6, h7⟩ := h6
  have h8 := findKeyP (Nat.le_of_ble_eq_true hn) hT he h6 w (m.map (·.1)) es.toList h5.keys
  have hcq := hk 10000 (Nat.le_of_ble_eq_true hn') es.isEmpty w _ w k cs h6
  have hg := MapKept.run_getObj_map (P := F.P) h4
  have hfr := AS.free_spec hf (i := j) (en := .arr T2 e ((mget m k).getD [])) (by simp [lkE])
  have hij : j ≠ i := fun e => by subst e; rw [hfr.2.1] at hd; cases hd
  have hlen : es.toList.length = m.length := by simpa using h5.keys.len
  have hib : blk (ρ i).v = some b := by rw [h3]; rfl
  obtain ⟨v, hrun, harr, hown, hat⟩ : ∃ v, (execOp a.eval ⟨d, .lookup M x y false, ty, p, af, gd⟩).run F.P w = .ok (.value v) w ∧ arrOk T2 e ((mget m k).getD []) (Un F.S0 ρ σ.d) w v ∧ (∀ c, blk v = some c → (ρ i).x c ∧ c ≠ b) ∧
      ∀ q, kp (m.map (·.1)) k = some q → (es.toList.map (·.val))[q]? = some v := by
    rw [mget_kp']
    cases hkp : kp (m.map (·.1)) k with
    | none =>
      rw [hkp] at h8
      refine ⟨.slice none 0 0, ?_, .inl ⟨rfl, rfl⟩, fun c h => by simp [blk] at h, fun q h => by cases h⟩
      simp only [Option.bind_none] at h8
      simp [execOp, h1, h3, h7, Instr.lookup, hM, hg, hcq, h8, hz]
    | some q =>
      rw [hkp] at h8
      obtain ⟨k1, k2⟩ := kp_lt hkp
      have k1' : q < m.length := by simpa using k1
      have k3 : q < es.toList.length := by omega
      have k3' : q < es.size := by simpa using k3
      have k5 : es.toList[q]? = some es[q] := by simp [k3']
      simp only [Option.bind_some, k5, Option.map_some] at h8
      have hv : (es.toList.map (·.val))[q]? = some es[q].val := by rw [List.getElem?_map, k5]; rfl
      have hm : (m.map (·.2))[q]? = some m[q].2 := by simp [k1']
      refine ⟨es[q].val, ?_, ?_, fun c hb => ?_, fun q' h => ?_⟩
      · simp [execOp, h1, h3, h7, Instr.lookup, hM, hg, hcq, h8]
      · show arrOk T2 e (((m.map (·.2))[q]?).getD []) _ _ _
        rw [hm]; exact h5.rows.ok q _ _ (by simp) hm hv
      · obtain ⟨k6, k7⟩ := h5.rows.own q _ c (by simp) hv hb
        exact ⟨k6, fun e => k7 (by rw [e])⟩
      · cases h; exact hv
  obtain ⟨av, cv, hsl⟩ := harr.slice
  refine OpWp.value hrun ?_
  let ρ' : Nat → LV := fun l => if l = j then .of v else if l = i then ⟨(ρ i).v, fun b => (ρ i).x b ∧ blk v ≠ some b⟩ else ρ l
  have rj : ρ' j = .of v := if_pos rfl
  have ri : ρ' i = ⟨(ρ i).v, fun b => (ρ i).x b ∧ blk v ≠ some b⟩ := by show (if i = j then _ else _) = _; rw [if_neg (Ne.symm hij), if_pos rfl]
  have ro : ∀ l, l ≠ j → l ≠ i → ρ' l = ρ l := fun l h1 h2 => by show (if l = j then _ else _) = _; rw [if_neg h1, if_neg h2]
  have rv : ∀ l, l ≠ j → (ρ' l).v = (ρ l).v := fun l h1 => by
    by_cases h2 : l = i
    · subst h2; rw [ri]
    · rw [ro l h1 h2]
  have hl : ∀ l en, lkE ((j, .arr T2 e ((mget m k).getD [])) :: (i, .dp (DE.mps fr ke T2 e) (m, kp (m.map (·.1)) k) [j]) :: σ.d) l = some en → (l = j ∧ en = .arr T2 e ((mget m k).getD [])) ∨ (l = i ∧ en = .dp (DE.mps fr ke T2 e) (m, kp (m.map (·.1)) k) [j]) ∨ (l ≠ j ∧ l ≠ i ∧ lkE σ.d l = some en) := by
    intro l en h
    rcases lkE_new h with h | ⟨h0, h⟩
    · exact .inl h
    · rcases lkE_new h with h | ⟨h5, h⟩
      · exact .inr (.inl h)
      · exact .inr (.inr ⟨h0, h5, h⟩)
  have hsub : ∀ l en b, lkE ((j, .arr T2 e ((mget m k).getD [])) :: (i, .dp (DE.mps fr ke T2 e) (m, kp (m.map (·.1)) k) [j]) :: σ.d) l = some en → Has (ρ' l) b → ∃ l0 en0, lkE σ.d l0 = some en0 ∧ Has (ρ l0) b := by
    intro l en b h hb
    rcases hl l en h with ⟨rfl, rfl⟩ | ⟨rfl, rfl⟩ | ⟨g5, g6, g7⟩
    · rw [rj, Has_of] at hb; exact ⟨i, _, hd, .inr (hown b hb).1⟩
    · rw [ri, Has_mk] at hb; exact ⟨l, _, hd, hb.imp id And.left⟩
    · rw [ro l g5 g6] at hb; exact ⟨l, en, g7, hb⟩
  have hji : ∀ b, Has (ρ' j) b → Has (ρ' i) b → False := by
    intro b' hb hb'
    rw [rj, Has_of] at hb; rw [ri, Has_mk] at hb'
    rcases hb' with hb' | hb'
    · rw [hib] at hb'; exact (hown b' hb).2 (Option.some.inj hb').symm
    · exact hb'.2 hb
  have hothers : ∀ l en b, l ≠ i → lkE σ.d l = some en → Has (ρ l) b → ¬ Has (ρ' j) b ∧ ¬ Has (ρ' i) b := by
    intro l en b hli hlk hb
    refine ⟨fun h => ?_, fun h => ?_⟩
    · rw [rj, Has_of] at h; exact hli (hc.inj l i en _ b hlk hd hb (.inr (hown b h).1))
    · rw [ri, Has_mk] at h; exact hli (hc.inj l i en _ b hlk hd hb (h.imp id And.left))
  obtain ⟨q1, q2⟩ := hc.regroup hsub (by
    intro l l' en en' b g g' hb hb'
    rcases hl l en g with ⟨rfl, rfl⟩ | ⟨rfl, rfl⟩ | ⟨g5, g6, g7⟩ <;> rcases hl l' en' g' with ⟨rfl, rfl⟩ | ⟨rfl, rfl⟩ | ⟨g5', g6', g7'⟩
    · rfl
    · exact (hji b hb hb').elim
    · rw [ro l' g5' g6'] at hb'; exact ((hothers l' en' b g6' g7' hb').1 hb).elim
    · exact (hji b hb' hb).elim
    · rfl
    · rw [ro l' g5' g6'] at hb'; exact ((hothers l' en' b g6' g7' hb').2 hb).elim
    · rw [ro l g5 g6] at hb; exact ((hothers l en b g6 g7 hb).1 hb').elim
    · rw [ro l g5 g6] at hb; exact ((hothers l en b g6 g7 hb).2 hb').elim
    · rw [ro l g5 g6] at hb; rw [ro l' g5' g6'] at hb'; exact hc.inj l l' en en' b g7 g7' hb hb') (by
    intro hE l en g
    rcases hl l en g with ⟨rfl, rfl⟩ | ⟨rfl, rfl⟩ | ⟨g5, g6, g7⟩
    · rw [rj]; exact harr.mono hE (fun _ _ => rfl)
    · rw [ri]
      refine ⟨b, es, ck, h3, h4, ⟨h5.keys.mono hE, ⟨h5.rows.len, fun q xs h ho hx hh' => (h5.rows.ok q xs h (by simp) hx hh').mono hE (fun _ _ => rfl), fun q h c ho hq hb => ?_, fun q q' h h' c _ _ => h5.rows.inj q q' h h' c (by simp) (by simp)⟩, h5.born⟩, fun q hq => ?_⟩
      · obtain ⟨k1, k2⟩ := h5.rows.own q h c (by simp) hq hb
        refine ⟨⟨k1, fun hc' => ?_⟩, k2⟩
        -- the slice with that block is the one that was opened
        cases hkp : kp (m.map (·.1)) k with
        | none =>
          have : (mget m k).getD [] = [] := by rw [mget_kp', hkp]
          rcases harr with ⟨_, rfl⟩ | ⟨b9, cap, pre, cs9, post, rfl, _, _, _, _, _⟩
          · simp [blk] at hc'
          · -- no such entry: then v is nil
            have hv := hrun
            rw [hkp] at h8
            simp only [Option.bind_none] at h8
            simp [execOp, h1, h3, h7, Instr.lookup, hM, hg, hcq, h8, hz] at hv
        | some q0 =>
          have hv := hat q0 hkp
          have := h5.rows.inj q q0 h v c (by simp) (by simp) hq hv hb hc'
          exact ho (by rw [hkp, this])
      · simp only [List.map_cons, List.map_nil, List.head?_cons, rj]; exact hat q hq
    · rw [ro l g5 g6]
      exact Ent.ok_mono (hc.own l en g7) hE (fun q hq => rv q fun e' => by subst e'; exact hfr.2.2 l en g7 hq) (fun _ _ => rfl))
  refine ⟨⟨ρ', q1, fun t s' ht => ?_⟩, by rw [Act.size_put, hsz], by cases d <;> exact hde⟩
  have hold : ∀ t s, lk σ.g t = some s → s.ok ρ' (Un F.S0 ρ' ((j, .arr T2 e ((mget m k).getD [])) :: (i, .dp (DE.mps fr ke T2 e) (m, kp (m.map (·.1)) k) [j]) :: σ.d)) w (a.tmps.getD t undef) := fun t s ht =>
    Slot.ok_mono s _ (hs t s ht) q2 (fun q hq => rv q fun e' => hfr.1 t s ht (e' ▸ hq))
  cases d with
  | none => exact hold t s' ht
  | some q =>
    simp only [gput] at ht
    have hlt : q < a.tmps.size := by rw [hsz]; exact Nat.le_of_ble_eq_true hdst
    rw [Act.getD_put a q v t hlt]
    rw [lk_cons] at ht
    split at ht
    · rename_i h5; cases ht; rw [if_pos h5]
      simp only [Slot.ok]
      exact ⟨by rw [rj]; exact .inl ⟨_, _, _, hsl⟩, by rw [rj]; rfl⟩
    · rename_i h5; rw [if_neg h5]; exact hold t s' ht

/-- what a map's slot and one of ours become, when the slice takes a place in the map: the rows -/
theorem put_rows {q : Nat} {o : Option Nat} {ys : List α} {S S' : Nat → Prop} {w w' : World} {x : Nat → Prop} {c0 : Nat} {v : Value} {hs : List Value} {xss : List (List α)} (hrows : Rws T2 e xss o S w x (some c0) hs) (ho : o = none ∨ o = some q) (hq : q < xss.length)
    (harr : arrOk T2 e ys S w v) (hE : Ext S S' w w') (hsame : ∀ c, c ≠ c0 → w'.heap[c]? = w.heap[c]?) (hv : ∀ c, blk v = some c → c ≠ c0 ∧ ¬ x c) :
    Rws T2 e (xss.set q ys) none S' w' (fun b => x b ∨ blk v = some b) (some c0) (hs.set q v) := by
  have hno : ∀ q', q' ≠ q → o ≠ some q' := fun q' h => by rcases ho with rfl | rfl <;> simp; exact fun e => h e.symm
  have hl := hrows.len
  refine ⟨by simp [hl], fun q' xs u _ hx hu => ?_, fun q' u c _ hu hb => ?_, fun q1 q2 u1 u2 c _ _ hu1 hu2 hb1 hb2 => ?_⟩
  · by_cases h : q' = q
    · subst h
      rw [List.getElem?_set_self hq] at hx; rw [List.getElem?_set_self (by omega)] at hu
      have e1 := Option.some.inj hx; have e2 := Option.some.inj hu
      subst e1; subst e2
      exact harr.mono hE fun c hb => hsame c (hv c hb).1
    · rw [List.getElem?_set_ne (Ne.symm h)] at hx hu
      exact (hrows.ok q' xs u (hno q' h) hx hu).mono hE fun c hb => hsame c fun e => (hrows.own q' u c (hno q' h) hu hb).2 (by rw [e])
  · by_cases h : q' = q
    · subst h
      rw [List.getElem?_set_self (by omega)] at hu
      have e2 := Option.some.inj hu
      subst e2
      exact ⟨.inr hb, fun e => (hv c hb).1 (Option.some.inj e).symm⟩
    · rw [List.getElem?_set_ne (Ne.symm h)] at hu
      obtain ⟨k1, k2⟩ := hrows.own q' u c (hno q' h) hu hb
      exact ⟨.inl k1, k2⟩
  · by_cases h1 : q1 = q
    · subst h1
      rw [List.getElem?_set_self (by omega)] at hu1
      have e2 := Option.some.inj hu1
      subst e2
      by_cases h2 : q2 = q1
      · exact h2.symm
      · rw [List.getElem?_set_ne (Ne.symm h2)] at hu2
        exact ((hv c hb1).2 (hrows.own q2 u2 c (hno q2 h2) hu2 hb2).1).elim
    · rw [List.getElem?_set_ne (Ne.symm h1)] at hu1
      by_cases h2 : q2 = q
      · subst h2
        rw [List.getElem?_set_self (by omega)] at hu2
        have e2 := Option.some.inj hu2
        subst e2
        exact ((hv c hb2).2 (hrows.own q1 u1 c (hno q1 h1) hu1 hb1).1).elim
      · rw [List.getElem?_set_ne (Ne.symm h2)] at hu2
        exact hrows.inj q1 q2 u1 u2 c (hno q1 h1) (hno q2 h2) hu1 hu2 hb1 hb2
theorem push_rows {ys : List α} {S S' : Nat → Prop} {w w' : World} {x : Nat → Prop} {c0 : Nat} {v : Value} {hs : List Value} {xss : List (List α)} (hrows : Rws T2 e xss none S w x (some c0) hs)
    (harr : arrOk T2 e ys S w v) (hE : Ext S S' w w') (hsame : ∀ c, c ≠ c0 → w'.heap[c]? = w.heap[c]?) (hv : ∀ c, blk v = some c → c ≠ c0 ∧ ¬ x c) :
    Rws T2 e (xss ++ [ys]) none S' w' (fun b => x b ∨ blk v = some b) (some c0) (hs ++ [v]) := by
  have hl := hrows.len
  have key : ∀ q' u, (hs ++ [v])[q']? = some u → (q' < hs.length ∧ hs[q']? = some u) ∨ (q' = hs.length ∧ u = v) := by
    intro q' u h
    rcases Nat.lt_or_ge q' hs.length with h1 | h1
    · rw [List.getElem?_append_left h1] at h; exact .inl ⟨h1, h⟩
    · rw [List.getElem?_append_right h1] at h
      rcases Nat.eq_zero_or_pos (q' - hs.length) with h2 | h2
      · rw [h2] at h; simp at h; exact .inr ⟨by omega, h.symm⟩
      · rw [List.getElem?_eq_none (by simp; omega)] at h; cases h
  refine ⟨by simp [hl], fun q' xs u _ hx hu => ?_, fun q' u c _ hu hb => ?_, fun q1 q2 u1 u2 c _ _ hu1 hu2 hb1 hb2 => ?_⟩
  · rcases key q' u hu with ⟨h1, h2⟩ | ⟨rfl, rfl⟩
    · rw [List.getElem?_append_left (by omega)] at hx
      exact (hrows.ok q' xs u (by simp) hx h2).mono hE fun c hb => hsame c fun e => (hrows.own q' u c (by simp) h2 hb).2 (by rw [e])
    · rw [List.getElem?_append_right (by omega), hl, Nat.sub_self] at hx
      have e1 : ys = xs := by simpa using hx
      subst e1
      exact harr.mono hE fun c hb => hsame c (hv c hb).1
  · rcases key q' u hu with ⟨h1, h2⟩ | ⟨rfl, rfl⟩
    · obtain ⟨k1, k2⟩ := hrows.own q' u c (by simp) h2 hb
      exact ⟨.inl k1, k2⟩
    · exact ⟨.inr hb, fun e => (hv c hb).1 (Option.some.inj e).symm⟩
  · rcases key q1 u1 hu1 with ⟨h1, h2⟩ | ⟨rfl, rfl⟩ <;> rcases key q2 u2 hu2 with ⟨h1', h2'⟩ | ⟨rfl, rfl⟩
    · exact hrows.inj q1 q2 u1 u2 c (by simp) (by simp) h2 h2' hb1 hb2
    · exact ((hv c hb2).2 (hrows.own q1 u1 c (by simp) h2 hb1).1).elim
    · exact ((hv c hb1).2 (hrows.own q2 u2 c (by simp) h2' hb2).1).elim
    · rfl
/-- a slice of our own takes its place in a map of our own -/
theorem JM.of_mps {o0 : Oper} {o : Option Nat} {ls : List Nat} {ys : List α} {m' : List (κ × List α)} {fr' : Bool} (hd : lkE σ.d i = some (.dp (DE.mps fr ke T2 e) (m, o) ls)) (hj : lkE σ.d j = some (.arr T2 e ys)) (hne : Nat.beq i j = false) (hdst : o0.dst = none)
    (h : ∀ (ρ : Nat → LV) (a : Act) (w : World) (b : Nat) (es : Array MapEntry) (ck : Nat), Core F σ.d ρ w → (∀ t s, lk σ.g t = some s → s.ok ρ (Un F.S0 ρ σ.d) w (a.tmps.getD t undef)) → (ρ i).v = .map (some b) → w.heap[b]? = some (.map es ck) → MpsOk fr ke T2 e m o (Un F.S0 ρ σ.d) w (ρ i).x b es.toList ck →
      ∃ es' ck', (execOp a.eval o0).run F.P w = .ok .skip { w with heap := w.heap.setIfInBounds b (.map es' ck') } ∧
        ∀ S', Ext (Un F.S0 ρ σ.d) S' w { w with heap := w.heap.setIfInBounds b (.map es' ck') } → (∀ c, blk (ρ j).v = some c → c ≠ b ∧ ¬ (ρ i).x c) → MpsOk fr' ke T2 e m' none S' { w with heap := w.heap.setIfInBounds b (.map es' ck') } (fun c => (ρ i).x c ∨ blk (ρ j).v = some c) b es'.toList ck') :
    JM F o0 σ ⟨σ.g, (i, .dp (DE.mps fr' ke T2 e) (m', none) []) :: delE σ.d j⟩ := by
  have hij : i ≠ j := fun e => by subst e; simp at hne
  rintro a w ⟨⟨ρ, hc, hs⟩, hsz, hde⟩
  obtain ⟨b, es, ck, h3, h4, h5, _⟩ := hc.own i _ hd
  obtain ⟨es', ck', hrun, hnew⟩ := h ρ a w b es ck hc hs h3 h4 h5
  have hset := MapKept.heap_set (o' := .map es' ck') h4
  have hch : Chg (some b) w { w with heap := w.heap.setIfInBounds b (.map es' ck') } := ⟨by simp, fun k _ hk => hset.2 k (fun e => hk (by rw [e])), rfl, rfl, rfl⟩
  have hib : blk (ρ i).v = some b := by rw [h3]; rfl
  have hjb : ∀ c, blk (ρ j).v = some c → c ≠ b ∧ ¬ (ρ i).x c := fun c hc' => ⟨fun e => hij (hc.inj i j _ _ c hd hj (.inl (by rw [hib, e])) (.inl hc')), fun hx => hij (hc.inj i j _ _ c hd hj (.inr hx) (.inl hc'))⟩
  refine OpWp.skip hrun ?_
  rw [hdst]
  let ρ' : Nat → LV := fun l => if l = i then ⟨(ρ i).v, fun c => (ρ i).x c ∨ blk (ρ j).v = some c⟩ else ρ l
  have ri : ρ' i = ⟨(ρ i).v, fun c => (ρ i).x c ∨ blk (ρ j).v = some c⟩ := if_pos rfl
  have ro : ∀ l, l ≠ i → ρ' l = ρ l := fun l h => if_neg h
  have rv : ∀ l, (ρ' l).v = (ρ l).v := fun l => by
    by_cases h2 : l = i
    · subst h2; rw [ri]
    · rw [ro l h2]
  have hl : ∀ l en, lkE ((i, .dp (DE.mps fr' ke T2 e) (m', none) []) :: delE σ.d j) l = some en → (l = i ∧ en = .dp (DE.mps fr' ke T2 e) (m', none) []) ∨ (l ≠ i ∧ l ≠ j ∧ lkE σ.d l = some en) := by
    intro l en h
    rcases lkE_new h with h | ⟨h0, h⟩
    · exact .inl h
    · rw [lkE_del] at h
      split at h
      · cases h
      · rename_i h6; exact .inr ⟨h0, h6, h⟩
  have hsub : ∀ l en b, lkE ((i, .dp (DE.mps fr' ke T2 e) (m', none) []) :: delE σ.d j) l = some en → Has (ρ' l) b → ∃ l0 en0, lkE σ.d l0 = some en0 ∧ Has (ρ l0) b := by
    intro l en b h hb
    rcases hl l en h with ⟨rfl, rfl⟩ | ⟨h6, _, h7⟩
    · rw [ri, Has_mk] at hb
      rcases hb with hb | hb | hb
      · exact ⟨l, _, hd, .inl hb⟩
      · exact ⟨l, _, hd, .inr hb⟩
      · exact ⟨j, _, hj, .inl hb⟩
    · rw [ro l h6] at hb; exact ⟨l, en, h7, hb⟩
  have hoth : ∀ l en b, l ≠ i → l ≠ j → lkE σ.d l = some en → Has (ρ l) b → ¬ Has (ρ' i) b := by
    intro l en b hli hlj hlk hb h
    rw [ri, Has_mk] at h
    rcases h with h | h | h
    · exact hli (hc.inj l i en _ b hlk hd hb (.inl h))
    · exact hli (hc.inj l i en _ b hlk hd hb (.inr h))
    · exact hlj (hc.inj l j en _ b hlk hj hb (.inl h))
  obtain ⟨q1, q2⟩ := hc.step hch (fun c hb => ⟨i, _, hd, .inl (by rw [hib]; exact hb)⟩) (d' := (i, .dp (DE.mps fr' ke T2 e) (m', none) []) :: delE σ.d j) (ρ' := ρ') (fun l en b h hb => .inr (hsub l en b h hb)) (by
    intro l l' en en' b g g' hb hb'
    rcases hl l en g with ⟨rfl, rfl⟩ | ⟨g6, g7, g8⟩ <;> rcases hl l' en' g' with ⟨rfl, rfl⟩ | ⟨g6', g7', g8'⟩
    · rfl
    · rw [ro l' g6'] at hb'; exact (hoth l' en' b g6' g7' g8' hb' hb).elim
    · rw [ro l g6] at hb; exact (hoth l en b g6 g7 g8 hb hb').elim
    · rw [ro l g6] at hb; rw [ro l' g6'] at hb'; exact hc.inj l l' en en' b g8 g8' hb hb') (by
    intro hE l en g
    have hsame : ∀ c, c ≠ b → (w.heap.setIfInBounds b (.map es' ck'))[c]? = w.heap[c]? := hset.2
    rcases hl l en g with ⟨rfl, rfl⟩ | ⟨g6, g7, g8⟩
    · rw [ri]
      exact ⟨b, es', ck', h3, hset.1, hnew _ hE hjb, fun q hq => by cases hq⟩
    · rw [ro l g6]
      exact Ent.ok_mono (hc.own l en g8) hE (fun q _ => rv q) (fun c hb => hsame c fun e => g6 (hc.inj l i en _ c g8 hd hb (.inl (by rw [hib, e])))))
  exact ⟨⟨ρ', q1, fun t s ht => Slot.ok_mono s _ (hs t s ht) q2 (fun q _ => rv q)⟩, hsz, hde⟩
theorem JM.mapPutS [DecidableEq κ] {n n' l : Nat} {M KT VT E : TypeId} {k : κ} {ys : List α} {ls : List Nat} (hx : evS σ.g x = some (.ref i)) (hd : lkE σ.d i = some (.dp (DE.mps fr ke T2 e) (m, kp (m.map (·.1)) k) ls)) (hy : evS σ.g y = some (.v ke k)) (hz : evS σ.g z = some (.ref j)) (hj : lkE σ.d j = some (.arr T2 e ys)) (hne : Nat.beq i j = false)
    (hM : ∀ w, (underlying M).run F.P w = .ok (.map KT VT) w) (hT : ∀ w, (underlying KT).run F.P w = .ok (.array l E) w) (he : EqE n F.P KT ke) (hn : Nat.ble n 10000 = true) (hk : KeyE n' F.P KT ke) (hn' : Nat.ble n' 10000 = true) (hsame : SameE ke) :
    JM F ⟨none, .mapUpdate M x y z, ty, p, af, gd⟩ σ ⟨σ.g, (i, .dp (DE.mps fr ke T2 e) (mputS m k ys, none) []) :: delE σ.d j⟩ := by
  refine JM.of_mps hd hj hne rfl fun ρ a w b es ck hc hs h3 h4 h5 => ?_
  have K := Know.of_st hc hs (Op.mapUpdate M x y z).operands
  obtain ⟨h1, _, _⟩ := K_ref K (x := x) (by simp [Op.operands]) hx hd
  obtain ⟨h2, harr, _⟩ := K_ref K (x := z) (by simp [Op.operands]) hz hj
  have harr : arrOk T2 e ys (Un F.S0 ρ σ.d) w (ρ j).v := harr
  have h6 := K.slot y (by simp [Op.operands]) _ hy
  simp only [Slot.ok] at h6
  have hv6 := h6
  obtain ⟨cs, h6, h7⟩ := h6
  have h8 := findKeyP (Nat.le_of_ble_eq_true hn) hT he h6 w (m.map (·.1)) es.toList h5.keys
  have hcq := hk 10000 (Nat.le_of_ble_eq_true hn') false w _ w k cs h6
  have hg := MapKept.run_getObj_map (P := F.P) h4
  have hso := fun o => MapKept.run_setObj_map (P := F.P) o h4
  have hlen : es.toList.length = m.length := by simpa using h5.keys.len
  have hvl : (es.toList.map (·.val)).length = (m.map (·.2)).length := h5.rows.len
  cases hkp : kp (m.map (·.1)) k with
  | none =>
    rw [hkp] at h8
    simp only [Option.bind_none] at h8
    refine ⟨es.push { key := a.eval y, val := (ρ j).v, born := ck }, ck + 1, ?_, fun S' hE hjb => ?_⟩
    · simp [execOp, h1, h2, h3, h7, Instr.mapUpdate, hM, hg, hcq, h8, hso]
    · have hset := MapKept.heap_set (o' := .map (es.push { key := a.eval y, val := (ρ j).v, born := ck }) (ck + 1)) h4
      have hrows := h5.rows
      rw [hkp] at hrows
      unfold mputS
      rw [hkp]
      refine ⟨?_, ?_, fun hf => ?_⟩
      · rw [Array.toList_push, List.map_append]; exact (h5.keys.mono hE).push (Enc.val_mono hv6 hE)
      · rw [Array.toList_push, List.map_append, List.map_append]; exact push_rows hrows harr hE hset.2 hjb
      · obtain ⟨hck, hborn⟩ := h5.born hf
        refine ⟨by simp [hck], fun q x hq => ?_⟩
        rw [Array.toList_push] at hq
        rcases Nat.lt_or_ge q es.toList.length with h | h
        · rw [List.getElem?_append_left h] at hq; exact hborn q x hq
        · rw [List.getElem?_append_right h] at hq
          rcases Nat.eq_zero_or_pos (q - es.toList.length) with h9 | h9
          · rw [h9] at hq; simp at hq; subst hq; show ck = q; omega
          · rw [List.getElem?_eq_none (by simp at h h9 ⊢; omega)] at hq; cases hq
  | some q =>
    rw [hkp] at h8
    obtain ⟨k1, k2⟩ := kp_lt hkp
    have k1' : q < m.length := by simpa using k1
    have k3 : q < es.toList.length := by omega
    have k3' : q < es.size := by simpa using k3
    have k5 : es.toList[q]? = some es[q] := by simp [k3']
    simp only [Option.bind_some, k5, Option.map_some] at h8
    have k6 : es[q]? = some es[q] := Array.getElem?_eq_getElem k3'
    have hkey : ke.val k (Un F.S0 ρ σ.d) w es[q].key := h5.keys.get k2 k5
    have hsb := hsame k _ _ _ _ _ _ hkey hv6
    have hst : (Instr.keyThatStays es[q].key (a.eval y)).run F.P w = .ok (a.eval y) w := by simp [Instr.keyThatStays, hsb]
    refine ⟨es.modify q fun e => { e with key := a.eval y, val := (ρ j).v }, ck, ?_, fun S' hE hjb => ?_⟩
    · simp [execOp, h1, h2, h3, h7, Instr.mapUpdate, hM, hg, hcq, h8, hso, k6]
      rw [← h7, hst]
      simp [hso]
    · have hset := MapKept.heap_set (o' := .map (es.modify q fun e => { e with key := a.eval y, val := (ρ j).v }) ck) h4
      have hvals : (es.modify q fun e => { e with key := a.eval y, val := (ρ j).v }).toList.map (·.val) = (es.toList.map (·.val)).set q (ρ j).v := by
        rw [Array.toList_modify]
        apply List.ext_getElem?; intro q'
        simp only [List.getElem?_map, List.getElem?_modify, List.getElem?_set, List.length_map]
        by_cases hq' : q' < es.toList.length
        · rw [List.getElem?_eq_getElem hq']; by_cases hi : q = q' <;> simp [hi]; omega
        · rw [List.getElem?_eq_none (by omega)]; by_cases hi : q = q' <;> simp [hi]; simp at hq'; omega
      have hks : ∀ S' w', KsL ke S' w' (m.map (·.1)) es.toList → ke.val k S' w' (a.eval y) → KsL ke S' w' (m.map (·.1)) (es.modify q fun e => { e with key := a.eval y, val := (ρ j).v }).toList := by
        intro S' w' hK hky
        rw [Array.toList_modify]
        refine KsL.modify hK fun k' x hk' hx' => ?_
        rw [k2] at hk'; cases hk'; exact hky
      have hrows := h5.rows
      rw [hkp] at hrows
      unfold mputS
      rw [hkp]
      refine ⟨?_, ?_, fun hf => ?_⟩
      · show KsL ke _ _ ((mset m q ys).map (·.1)) _
        rw [mset_fst]; exact hks _ _ (h5.keys.mono hE) (Enc.val_mono hv6 hE)
      · show Rws T2 e ((mset m q ys).map (·.2)) _ _ _ _ _ _
        rw [mset_snd, hvals]
        exact put_rows hrows (.inr rfl) (by simpa using k1') harr hE hset.2 hjb
      · obtain ⟨hck, hborn⟩ := h5.born hf
        refine ⟨by simpa using hck, fun q' x' hq' => ?_⟩
        rw [Array.toList_modify, List.getElem?_modify] at hq'
        cases hx' : es.toList[q']? with
        | none => rw [hx'] at hq'; cases hq'
        | some y' =>
          rw [hx'] at hq'
          have := hborn q' y' hx'
          simp only [Option.map_eq_map, Option.map_some, Option.some.injEq] at hq'
          subst hq'; split <;> exact this
/-- the slice that was told by a label is put back, or nothing is -/
theorem Sub.shutS {o : Option Nat} {ys : List α} {g : List (Nat × Slot)} (hne : Nat.beq i j = false) (hd : lkE σ.d i = some (.dp (DE.mps fr ke T2 e) (m, o) [j])) (ho : ∀ q, o = some q → q < m.length) (hj : lkE σ.d j = some (.arr T2 e ys)) (hg : g = σ.g) :
    Sub F σ ⟨g, (i, .dp (DE.mps fr ke T2 e) (mshut m o ys, none) []) :: delE σ.d j⟩ := by
  subst hg
  have hij : i ≠ j := fun e => by subst e; simp at hne
  rintro a w ⟨⟨ρ, hc, hs⟩, hsz, hde⟩
  obtain ⟨b, es, ck, h3, h4, h5, h6⟩ := hc.own i _ hd
  have harr : arrOk T2 e ys (Un F.S0 ρ σ.d) w (ρ j).v := hc.own j _ hj
  have hib : blk (ρ i).v = some b := by rw [h3]; rfl
  have hjb : ∀ c, blk (ρ j).v = some c → c ≠ b ∧ ¬ (ρ i).x c := fun c hc' => ⟨fun e => hij (hc.inj i j _ _ c hd hj (.inl (by rw [hib, e])) (.inl hc')), fun hx => hij (hc.inj i j _ _ c hd hj (.inr hx) (.inl hc'))⟩
  let ρ' : Nat → LV := fun l => if l = i then ⟨(ρ i).v, fun c => (ρ i).x c ∨ blk (ρ j).v = some c⟩ else ρ l
  have ri : ρ' i = ⟨(ρ i).v, fun c => (ρ i).x c ∨ blk (ρ j).v = some c⟩ := if_pos rfl
  have ro : ∀ l, l ≠ i → ρ' l = ρ l := fun l h => if_neg h
  have rv : ∀ l, (ρ' l).v = (ρ l).v := fun l => by
    by_cases h2 : l = i
    · subst h2; rw [ri]
    · rw [ro l h2]
  have hl : ∀ l en, lkE ((i, .dp (DE.mps fr ke T2 e) (mshut m o ys, none) []) :: delE σ.d j) l = some en → (l = i ∧ en = .dp (DE.mps fr ke T2 e) (mshut m o ys, none) []) ∨ (l ≠ i ∧ l ≠ j ∧ lkE σ.d l = some en) := by
    intro l en h
    rcases lkE_new h with h | ⟨h0, h⟩
    · exact .inl h
    · rw [lkE_del] at h
      split at h
      · cases h
      · rename_i h6; exact .inr ⟨h0, h6, h⟩
  have hsub : ∀ l en b, lkE ((i, .dp (DE.mps fr ke T2 e) (mshut m o ys, none) []) :: delE σ.d j) l = some en → Has (ρ' l) b → ∃ l0 en0, lkE σ.d l0 = some en0 ∧ Has (ρ l0) b := by
    intro l en b h hb
    rcases hl l en h with ⟨rfl, rfl⟩ | ⟨g6, _, g7⟩
    · rw [ri, Has_mk] at hb
      rcases hb with hb | hb | hb
      · exact ⟨l, _, hd, .inl hb⟩
      · exact ⟨l, _, hd, .inr hb⟩
      · exact ⟨j, _, hj, .inl hb⟩
    · rw [ro l g6] at hb; exact ⟨l, en, g7, hb⟩
  have hoth : ∀ l en b, l ≠ i → l ≠ j → lkE σ.d l = some en → Has (ρ l) b → ¬ Has (ρ' i) b := by
    intro l en b hli hlj hlk hb h
    rw [ri, Has_mk] at h
    rcases h with h | h | h
    · exact hli (hc.inj l i en _ b hlk hd hb (.inl h))
    · exact hli (hc.inj l i en _ b hlk hd hb (.inr h))
    · exact hlj (hc.inj l j en _ b hlk hj hb (.inl h))
  obtain ⟨q1, q2⟩ := hc.regroup hsub (by
    intro l l' en en' b g g' hb hb'
    rcases hl l en g with ⟨rfl, rfl⟩ | ⟨g6, g7, g8⟩ <;> rcases hl l' en' g' with ⟨rfl, rfl⟩ | ⟨g6', g7', g8'⟩
    · rfl
    · rw [ro l' g6'] at hb'; exact (hoth l' en' b g6' g7' g8' hb' hb).elim
    · rw [ro l g6] at hb; exact (hoth l en b g6 g7 g8 hb hb').elim
    · rw [ro l g6] at hb; rw [ro l' g6'] at hb'; exact hc.inj l l' en en' b g8 g8' hb hb') (by
    intro hE l en g
    rcases hl l en g with ⟨rfl, rfl⟩ | ⟨g6, g7, g8⟩
    · rw [ri]
      refine ⟨b, es, ck, h3, h4, ?_, fun q hq => by cases hq⟩
      cases o with
      | none => exact ⟨h5.keys.mono hE, ⟨h5.rows.len, fun q xs u ho hx hu => (h5.rows.ok q xs u (by simp) hx hu).mono hE (fun _ _ => rfl), fun q u c _ hu hb => ⟨.inl (h5.rows.own q u c (by simp) hu hb).1, (h5.rows.own q u c (by simp) hu hb).2⟩, h5.rows.inj⟩, h5.born⟩
      | some q =>
        have hq := ho q rfl
        have hv := h6 q rfl
        simp only [List.map_cons, List.map_nil, List.head?_cons] at hv
        refine ⟨?_, ?_, h5.born⟩
        · show KsL ke _ _ ((mset m q ys).map (·.1)) _
          rw [mset_fst]; exact h5.keys.mono hE
        · show Rws T2 e ((mset m q ys).map (·.2)) _ _ _ _ _ _
          have := put_rows h5.rows (.inr rfl) (by simpa using hq) harr hE (fun _ _ => rfl) hjb
          rw [mset_snd]
          have e2 : (es.toList.map (·.val)).set q (ρ j).v = es.toList.map (·.val) := by
            apply List.ext_getElem?; intro q'
            rw [List.getElem?_set]
            split
            · rename_i h9; subst h9; split
              · exact hv.symm
              · rename_i h9; rw [List.getElem?_eq_none (by omega)]
            · rfl
          rw [e2] at this; exact this
    · rw [ro l g6]
      exact Ent.ok_mono (hc.own l en g8) hE (fun q _ => rv q) (fun _ _ => rfl))
  exact ⟨⟨ρ', q1, fun t s ht => Slot.ok_mono s _ (hs t s ht) q2 (fun q _ => rv q)⟩, hsz, hde⟩
theorem Sub.shutM {o : Option Nat} {ys : List α} {g : List (Nat × Slot)} {dd : List (Nat × Ent)} (hne : Nat.beq i j = false) (hd : lkE σ.d i = some (.dp (DE.mps fr ke T2 e) (m, o) [j])) (hj : lkE σ.d j = some (.arr T2 e ys)) (ho : ∀ q, o = some q → q < m.length) (hg : g = σ.g)
    (hdd : dd = delE (delE σ.d j) i) : Sub F σ ⟨g, (i, .dp (DE.mps fr ke T2 e) (mshut m o ys, none) []) :: dd⟩ := fun a w h => by
  subst hdd
  refine St.congr (σ := ⟨g, (i, .dp (DE.mps fr ke T2 e) (mshut m o ys, none) []) :: delE σ.d j⟩) (fun u => rfl) (fun l => ?_) (Sub.shutS hne hd ho hj hg a w h)
  rw [lkE_cons, lkE_cons]
  split
  · rfl
  · rename_i hl; rw [lkE_del, if_neg (fun e => hl e.symm)]
theorem kp_ok [DecidableEq κ] {β : Type} {m : List (κ × β)} {k : κ} : ∀ q, kp (m.map (·.1)) k = some q → q < m.length := fun q h => by have := (kp_lt h).1; simpa using this

theorem KsL.erase {S : Nat → Prop} {w : World} : ∀ {m : List κ} {xs : List MapEntry} {q : Nat}, KsL ke S w m xs → KsL ke S w (m.eraseIdx q) (xs.eraseIdx q)
  | [], [], q, _ => by simp [KsL]
  | _ :: _, _ :: _, q, ⟨h1, h3⟩ => by
    cases q with
    | zero => exact h3
    | succ q => exact ⟨h1, h3.erase⟩
  | [], _ :: _, _, h => h.elim
  | _ :: _, [], _, h => h.elim
theorem erase_at {β : Type} {l : List β} {q q' : Nat} {v : β} (h : (l.eraseIdx q)[q']? = some v) : l[if q' < q then q' else q' + 1]? = some v := by
  rw [List.getElem?_eraseIdx] at h
  split at h <;> rename_i h1
  · rw [if_pos h1]; exact h
  · rw [if_neg h1]; exact h
theorem erase_rows {q : Nat} {S : Nat → Prop} {w : World} {x : Nat → Prop} {b0 : Option Nat} {hs : List Value} {xss : List (List α)} (h : Rws T2 e xss none S w x b0 hs) : Rws T2 e (xss.eraseIdx q) none S w x b0 (hs.eraseIdx q) := by
  refine ⟨by rw [List.length_eraseIdx, List.length_eraseIdx, h.len], fun q' xs u _ hx hu => h.ok _ xs u (by simp) (erase_at hx) (erase_at hu), fun q' u c _ hu hb => h.own _ u c (by simp) (erase_at hu) hb, fun q1 q2 u1 u2 c _ _ h1 h2 hb1 hb2 => ?_⟩
  have := h.inj _ _ u1 u2 c (by simp) (by simp) (erase_at h1) (erase_at h2) hb1 hb2
  split at this <;> split at this <;> omega
theorem map_erase {β γ : Type} {f : β → γ} : ∀ {l : List β} {q : Nat}, (l.eraseIdx q).map f = (l.map f).eraseIdx q
  | [], q => by simp
  | a :: l, 0 => rfl
  | a :: l, q + 1 => by simp only [List.eraseIdx_cons_succ, List.map_cons, map_erase (l := l)]
theorem JM.mapDelS [DecidableEq κ] {n n' l : Nat} {M KT KT' VT E : TypeId} {k : κ} (hx : evS σ.g x = some (.ref i)) (hd : lkE σ.d i = some (.dp (DE.mps fr ke T2 e) (m, none) [])) (hy : evS σ.g y = some (.v ke k))
    (hM : ∀ w, (underlying M).run F.P w = .ok (.map KT VT) w) (hT : ∀ w, (underlying KT).run F.P w = .ok (.array l E) w) (he : EqE n F.P KT ke) (hn : Nat.ble n 10000 = true) (hk : KeyE n' F.P KT ke) (hn' : Nat.ble n' 10000 = true) :
    JM F ⟨none, .call ⟨.builtin .delete, #[x, y], #[M, KT']⟩, ty, p, af, gd⟩ σ ⟨σ.g, (i, .dp (DE.mps false ke T2 e) (mdel m k, none) []) :: σ.d⟩ := by
  rintro a w ⟨⟨ρ, hc, hs⟩, hsz, hde⟩
  have K := Know.of_st hc hs (Op.call ⟨.builtin .delete, #[x, y], #[M, KT']⟩).operands
  obtain ⟨h1, ⟨b, es, ck, h3, h4, h5, _⟩, _⟩ := K_ref K (x := x) (by simp [Op.operands, Call.operands]) hx hd
  have h6 := K.slot y (by simp [Op.operands, Call.operands]) _ hy
  simp only [Slot.ok] at h6
  obtain ⟨cs, h6, h7⟩ := h6
  have h8 := findKeyP (Nat.le_of_ble_eq_true hn) hT he h6 w (m.map (·.1)) es.toList h5.keys
  have hcq := hk 10000 (Nat.le_of_ble_eq_true hn') es.isEmpty w _ w k cs h6
  have hg := MapKept.run_getObj_map (P := F.P) h4
  have hso := fun o => MapKept.run_setObj_map (P := F.P) o h4
  have hlen : es.toList.length = m.length := by simpa using h5.keys.len
  have hib : blk (ρ i).v = some b := by rw [h3]; rfl
  obtain ⟨es', hrun, hks, hrs⟩ : ∃ es' : Array MapEntry, (execOp a.eval ⟨none, .call ⟨.builtin .delete, #[x, y], #[M, KT']⟩, ty, p, af, gd⟩).run F.P w = .ok (.value (.tuple #[])) { w with heap := w.heap.setIfInBounds b (.map es' ck) } ∧
      KsL ke (Un F.S0 ρ σ.d) w ((mdel m k).map (·.1)) es'.toList ∧ Rws T2 e ((mdel m k).map (·.2)) none (Un F.S0 ρ σ.d) w (ρ i).x (some b) (es'.toList.map (·.val)) := by
    unfold mdel
    cases hkp : kp (m.map (·.1)) k with
    | none =>
      rw [hkp] at h8
      simp only [Option.bind_none] at h8
      exact ⟨es, by simp [execOp, resolve, invoke, builtin, Builtin.delete_, h1, h3, h7, hM, hg, hcq, h8, hso], h5.keys, h5.rows⟩
    | some q =>
      rw [hkp] at h8
      have k1' : q < m.length := kp_ok q hkp
      have k3' : q < es.size := by have : es.toList.length = es.size := by simp
                                   omega
      have k5 : es.toList[q]? = some es[q] := by simp [k3']
      simp only [Option.bind_some, k5, Option.map_some] at h8
      refine ⟨es.eraseIdxIfInBounds q, by simp [execOp, resolve, invoke, builtin, Builtin.delete_, h1, h3, h7, hM, hg, hcq, h8, hso], ?_, ?_⟩
      · simp only [Array.toList_eraseIdxIfInBounds, map_erase]; exact h5.keys.erase (q := q)
      · simp only [Array.toList_eraseIdxIfInBounds, map_erase]; exact erase_rows (q := q) h5.rows
  have hset := MapKept.heap_set (o' := .map es' ck) h4
  refine OpWp.value hrun ?_
  obtain ⟨k1, k2⟩ := hc.upd (en' := .dp (DE.mps false ke T2 e) (mdel m k, none) []) hd (.inl hib) (b := b) (w' := { w with heap := w.heap.setIfInBounds b (.map es' ck) }) ⟨by simp, hset.2, rfl, rfl, rfl⟩ (fun hE => by
    refine ⟨b, es', ck, h3, hset.1, ⟨hks.mono hE, ⟨hrs.len, fun q xs u ho hx hu => (hrs.ok q xs u ho hx hu).mono hE fun c hb => hset.2 c fun e => (hrs.own q u c ho hu hb).2 (by rw [e]), hrs.own, hrs.inj⟩, fun h => by cases h⟩, fun q hq => by cases hq⟩)
  exact ⟨⟨ρ, k1, fun t s ht => Slot.ok_mono s _ (hs t s ht) k2 (fun _ _ => rfl)⟩, hsz, hde⟩
end
section
variable {F : Frm} {σ σ' : AS} {ops : Array Oper} {os : List Oper} {its : List Itm4} {d : Option Tmp} {ty : TypeId} {p : String} {af : Array Edge} {gd : Option (Nat × Bool)} {x y : Operand} {κ α : Type} {ke : Enc κ} {e : Enc α} {T2 : TypeId} {m : List (κ × List α)} {i : Nat} {fr : Bool}
theorem JP4.lookupS [DecidableEq κ] {n n' l : Nat} {M KT VT E : TypeId} {k : κ} (g : GK ops σ.g ⟨d, .lookup M x y false, ty, p, af, gd⟩ true) (j : Nat) (hx : evS σ.g x = some (.ref i)) (hd : lkE σ.d i = some (.dp (DE.mps fr ke T2 e) (m, none) [])) (hy : evS σ.g y = some (.v ke k))
    (hM : ∀ w, (underlying M).run F.P w = .ok (.map KT VT) w) (hT : ∀ w, (underlying KT).run F.P w = .ok (.array l E) w) (he : EqE n F.P KT ke) (hn : Nat.ble n 10000 = true) (hk : KeyE n' F.P KT ke) (hn' : Nat.ble n' 10000 = true)
    (hz : ∀ w, (zeroValue VT).run F.P w = .ok (.slice none 0 0) w) (_ : σ.free [(j, .arr T2 e ((mget m k).getD []))] = true) (hdst : dstOk d F.N = true)
    (kk : JP4 F ops os ⟨gput d (.ref j) σ.g, (j, .arr T2 e ((mget m k).getD [])) :: (i, .dp (DE.mps fr ke T2 e) (m, kp (m.map (·.1)) k) [j]) :: σ.d⟩ its σ') :
    JP4 F ops (⟨d, .lookup M x y false, ty, p, af, gd⟩ :: os) σ (⟨.ref j, [(j, .arr T2 e ((mget m k).getD [])), (i, .dp (DE.mps fr ke T2 e) (m, kp (m.map (·.1)) k) [j])], [(j, .arr T2 e ((mget m k).getD []))], rdl σ.g ⟨d, .lookup M x y false, ty, p, af, gd⟩, []⟩ :: its) σ' :=
  .mv (nw := [(j, .arr T2 e ((mget m k).getD [])), (i, .dp (DE.mps fr ke T2 e) (m, kp (m.map (·.1)) k) [j])]) (dl := []) g hdst (fun σ2 hL hf => JM.lookupS j ((hL.ev (by simp [Op.operands])).trans hx) ((hL.ent (x := x) (by simp [Op.operands]) hx (by simp [Slot.lab])).trans hd) ((hL.ev (by simp [Op.operands])).trans hy) hM hT he hn hk hn' hz hf hdst) kk
end
end Go.Sw
