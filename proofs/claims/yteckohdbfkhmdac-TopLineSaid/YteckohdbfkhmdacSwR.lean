/- The library: arguments that can be read. Conditions: none. -/
import Derived.Test.YteckohdbfkhmdacSwC
import Derived.WalkKit
import Derived.ProofKit
import Derived.OpenShut
import Derived.ChangeOld
import Derived.Below
import Derived.SizedLaws
set_option linter.unusedVariables false
set_option linter.unusedSimpArgs false
namespace Go.Sw
open Go Go.RowKit Go.WideShapes

theorem mapM_all {α β : Type} {f : α → Option β} : ∀ {l : List α} {ys : List β}, l.mapM f = some ys → ∀ x ∈ l, ∃ y ∈ ys, f x = some y
  | [], _, _, x, hx => by simp at hx
  | a :: l, ys, h, x, hx => by
    rw [List.mapM_cons] at h
    cases ha : f a with
    | none => rw [ha] at h; simp at h
    | some y =>
      rw [ha] at h
      cases hl : l.mapM f with
      | none => rw [hl] at h; simp at h
      | some zs =>
        rw [hl] at h
        obtain rfl : ys = y :: zs := by simpa using h.symm
        rcases List.mem_cons.1 hx with rfl | hx
        · exact ⟨y, by simp, ha⟩
        · obtain ⟨z, h1, h2⟩ := mapM_all hl x hx
          exact ⟨z, by simp [h1], h2⟩
theorem mapM_len {α β : Type} {f : α → Option β} : ∀ {l : List α} {ys : List β}, l.mapM f = some ys → ys.length = l.length
  | [], ys, h => by simp at h; subst h; rfl
  | a :: l, ys, h => by
    rw [List.mapM_cons] at h
    cases ha : f a with
    | none => rw [ha] at h; simp at h
    | some y =>
      rw [ha] at h
      cases hl : l.mapM f with
      | none => rw [hl] at h; simp at h
      | some zs =>
        rw [hl] at h
        obtain rfl : ys = y :: zs := by simpa using h.symm
        simp [mapM_len hl]
theorem weightsAll_mem {H : Type} {P : Program} {E n : Nat} {d : DataW H} : ∀ {l : List (DataW H)}, d ∈ l → n ∈ d.weights P E → n ∈ DataW.weightsAll P E l
  | [], h, _ => by simp at h
  | x :: l, h, hn => by
    rw [DataW.weightsAll, List.mem_append]
    rcases List.mem_cons.1 h with rfl | h
    · exact .inl hn
    · exact .inr (weightsAll_mem h hn)

/-- cells that can be read -/
def RdE {α : Type} (P : Program) (T : TypeId) (e : Enc α) : Prop := ∀ (H : Type) (enc : TypeId × Value → H) (w : World) (spare : Nat → Bool) (held : Bool) (fuel : Nat) (cs : List Value) (d : DataW H) (ps : List MemPlace),
  DataW.trod enc P w 0 spare held fuel T cs = some (d, ps) → (∀ n ∈ d.weights P T, n ≤ reachBytes) → ∃ x, e.ok x (fun _ => False) w cs

theorem inK_wf {k : IntKind} {n : Int} (h : (Lit.int k n).wf = true) : inK k n := by
  unfold Lit.wf at h; simp at h; exact h
theorem RdE.int {P : Program} {T : TypeId} {k : IntKind} (h : P.underlying T = some (.int k)) : RdE P T (Enc.int k) := by
  intro H enc w spare held fuel cs d ps ht hz
  cases fuel with
  | zero => simp [DataW.trod] at ht
  | succ fuel =>
    unfold DataW.trod at ht
    rw [h] at ht
    split at ht <;> first | (exfalso; simp_all; done) | skip
    rename_i k1 k' n hu
    obtain rfl : k = k1 := by simpa using hu
    split at ht
    · rename_i hk; obtain ⟨rfl, hw⟩ := hk; exact ⟨n, rfl, inK_wf hw⟩
    · cases ht
theorem RdE.bool {P : Program} {T : TypeId} (h : P.underlying T = some .bool) : RdE P T Enc.bool := by
  intro H enc w spare held fuel cs d ps ht hz
  cases fuel with
  | zero => simp [DataW.trod] at ht
  | succ fuel =>
    unfold DataW.trod at ht
    rw [h] at ht
    split at ht <;> first | (exfalso; simp_all; done) | skip
    rename_i b hu
    exact ⟨b, rfl⟩
theorem RdE.str {P : Program} {T : TypeId} (h : P.underlying T = some .string) : RdE P T Enc.str := by
  intro H enc w spare held fuel cs d ps ht hz
  cases fuel with
  | zero => simp [DataW.trod] at ht
  | succ fuel =>
    unfold DataW.trod at ht
    rw [h] at ht
    split at ht <;> first | (exfalso; simp_all; done) | skip
    rename_i s hu
    split at ht
    · rename_i hs; exact ⟨s, rfl, hs⟩
    · cases ht

/-- one behind the other -/
theorem okL_of {α : Type} {e : Enc α} {S : Nat → Prop} {w : World} : ∀ (n : Nat) (cs : List Value), cs.length = n * e.n → (∀ i, i < n → ∃ x, e.ok x S w ((cs.drop (i * e.n)).take e.n)) → ∃ xs : List α, xs.length = n ∧ e.okL xs S w cs
  | 0, cs, hl, _ => ⟨[], rfl, by simp at hl; subst hl; rfl⟩
  | n + 1, cs, hl, h => by
    obtain ⟨x, hx⟩ := h 0 (by omega)
    obtain ⟨xs, h1, h2⟩ := okL_of (e := e) (S := S) (w := w) n (cs.drop e.n) (by rw [List.length_drop, hl, Nat.succ_mul]; omega) (fun i hi => by
      obtain ⟨y, hy⟩ := h (i + 1) (by omega)
      refine ⟨y, ?_⟩
      rw [List.drop_drop]
      rw [Nat.succ_mul, Nat.add_comm] at hy
      exact hy)
    refine ⟨x :: xs, by simp [h1], cs.take e.n, cs.drop e.n, by rw [List.take_append_drop], by simpa using hx, h2⟩
theorem RdE.arr {α : Type} {P : Program} {T E : TypeId} {m : Nat} {e : Enc α} (h : P.underlying T = some (.array m E)) (hc : P.cellsOf T = m * e.n) (hE : P.cellsOf E = e.n) (he : RdE P E e) : RdE P T (Enc.arr m e) := by
  intro H enc w spare held fuel cs d ps ht hz
  cases fuel with
  | zero => simp [DataW.trod] at ht
  | succ fuel =>
    unfold DataW.trod at ht
    rw [h] at ht
    split at ht <;> first | (exfalso; simp_all; done) | skip
    rename_i cs x1 cs1 m1 E1 hu
    obtain ⟨rfl, rfl⟩ : m = m1 ∧ E = E1 := by simpa using hu
    split at ht
    · rename_i hl
      cases hm : (List.range m).mapM fun i => DataW.trod enc P w 0 spare held fuel E ((cs.drop (i * P.cellsOf E)).take (P.cellsOf E)) with
      | none => rw [hm] at ht; simp at ht
      | some ys =>
        obtain ⟨xs, h1, h2⟩ := okL_of (e := e) (S := fun _ => False) (w := w) m cs (by rw [hl, hc]) (fun i hi => by
          obtain ⟨⟨d', ps'⟩, hym, hy⟩ := mapM_all hm i (by simpa using hi)
          rw [hE] at hy
          refine he H enc w spare held fuel _ _ _ hy fun n hn => hz n ?_
          rw [hm] at ht
          simp only [Option.map_some, Option.some.injEq, Prod.mk.injEq] at ht
          rw [← ht.1, DataW.weights, h]
          exact weightsAll_mem (List.mem_map.2 ⟨_, hym, rfl⟩) hn)
        exact ⟨xs, h1, h2⟩
    · cases ht

/-- the fields of a struct, from one on -/
def RdFs {α : Type} (P : Program) (fs : List Field) (off : Nat) (e : Enc α) : Prop := ∀ (H : Type) (enc : TypeId × Value → H) (w : World) (spare : Nat → Bool) (held : Bool) (fuel : Nat) (cs : List Value) (ys : List (DataW H × List MemPlace)),
  cs.length = off + e.n → (fs.mapM fun f => DataW.trod enc P w 0 spare held fuel f.type ((cs.drop f.offset).take (P.cellsOf f.type))) = some ys → (∀ n ∈ DataW.weightsEach P (fs.map (·.type)) (ys.map (·.1)), n ≤ reachBytes) → ∃ x, e.ok x (fun _ => False) w (cs.drop off)
theorem mapM_cons_some {α β : Type} {f : α → Option β} {a : α} {l : List α} {ys : List β} (h : (a :: l).mapM f = some ys) : ∃ y zs, f a = some y ∧ l.mapM f = some zs ∧ ys = y :: zs := by
  rw [List.mapM_cons] at h
  cases ha : f a with
  | none => rw [ha] at h; simp at h
  | some y =>
    rw [ha] at h
    cases hl : l.mapM f with
    | none => rw [hl] at h; simp at h
    | some zs => rw [hl] at h; exact ⟨y, zs, rfl, rfl, by simpa using h.symm⟩
theorem RdFs.last {α : Type} {P : Program} {f : Field} {off : Nat} {e : Enc α} (ho : f.offset = off) (hc : P.cellsOf f.type = e.n) (he : RdE P f.type e) : RdFs P [f] off e := by
  intro H enc w spare held fuel cs ys hl hm hz
  obtain ⟨⟨d, ps⟩, zs, hy, hzs, rfl⟩ := mapM_cons_some hm
  rw [ho, hc] at hy
  obtain ⟨x, hx⟩ := he H enc w spare held fuel _ _ _ hy fun n hn => hz n (by simp only [List.map_cons, DataW.weightsEach, List.mem_append]; exact .inl hn)
  rw [List.take_of_length_le (by rw [List.length_drop, hl]; omega)] at hx
  exact ⟨x, hx⟩
theorem RdFs.cons {α β : Type} {P : Program} {f : Field} {fs : List Field} {off : Nat} {a : Enc α} {b : Enc β} (ho : f.offset = off) (hc : P.cellsOf f.type = a.n) (he : RdE P f.type a) (hr : RdFs P fs (off + a.n) b) : RdFs P (f :: fs) off (Enc.pr a b) := by
  intro H enc w spare held fuel cs ys hl hm hz
  obtain ⟨⟨d, ps⟩, zs, hy, hzs, rfl⟩ := mapM_cons_some hm
  rw [ho, hc] at hy
  obtain ⟨x, hx⟩ := he H enc w spare held fuel _ _ _ hy fun n hn => hz n (by simp only [List.map_cons, DataW.weightsEach, List.mem_append]; exact .inl hn)
  obtain ⟨y, hy⟩ := hr H enc w spare held fuel cs zs (by simp only [Enc.pr] at hl; omega) hzs fun n hn => hz n (by simp only [List.map_cons, DataW.weightsEach, List.mem_append]; exact .inr hn)
  refine ⟨(x, y), (cs.drop off).take a.n, cs.drop (off + a.n), ?_, hx, hy⟩
  rw [← List.drop_drop, List.take_append_drop]
theorem RdFs.one1 {α : Type} {P : Program} {fs : List Field} {e : Enc α} (h : RdFs P fs 0 e) : RdFs P fs 0 (Enc.one1 e) := h
theorem RdE.struct {α : Type} {P : Program} {T : TypeId} {fs : Array Field} {e : Enc α} (h : P.underlying T = some (.struct fs)) (hc : P.cellsOf T = e.n) (hf : RdFs P fs.toList 0 e) : RdE P T e := by
  intro H enc w spare held fuel cs d ps ht hz
  cases fuel with
  | zero => simp [DataW.trod] at ht
  | succ fuel =>
    unfold DataW.trod at ht
    rw [h] at ht
    split at ht <;> first | (exfalso; simp_all; done) | skip
    rename_i cs x1 cs1 fs1 hu
    obtain rfl : fs = fs1 := by simpa using hu
    split at ht
    · rename_i hl
      cases hm : fs.toList.mapM fun f => DataW.trod enc P w 0 spare held fuel f.type ((cs.drop f.offset).take (P.cellsOf f.type)) with
      | none => rw [hm] at ht; simp at ht
      | some ys =>
        rw [hm] at ht
        simp only [Option.map_some, Option.some.injEq, Prod.mk.injEq] at ht
        obtain ⟨x, hx⟩ := hf H enc w spare held fuel cs ys (by rw [hl, hc]; omega) hm fun n hn => hz n (by rw [← ht.1, DataW.weights, h]; exact hn)
        exact ⟨x, by simpa using hx⟩
    · cases ht

theorem cells_row {w : World} {b off : Nat} {sp : Option Nat} {n : Nat} {cs : List Value} (h : w.cells? 0 ⟨b, off, sp⟩ n = some cs) : cs.length = n ∧ ∀ i, i < n → ∃ v, cs[i]? = some v ∧ w.cell? (Addr.add ⟨b, off, sp⟩ i) = some v := by
  unfold World.cells? at h
  rw [if_pos (Nat.zero_le _)] at h
  have key : ∀ (l : List Nat) (ys : List Value), l.mapM (fun i => w.cell? (Addr.add ⟨b, off, sp⟩ i)) = some ys → ys.length = l.length ∧ ∀ j, j < l.length → ∃ v, ys[j]? = some v ∧ ∃ i, l[j]? = some i ∧ w.cell? (Addr.add ⟨b, off, sp⟩ i) = some v := by
    intro l
    induction l with
    | nil => intro ys h; simp at h; subst h; simp
    | cons a l ih =>
      intro ys h
      rw [List.mapM_cons] at h
      cases ha : w.cell? (Addr.add ⟨b, off, sp⟩ a) with
      | none => rw [ha] at h; simp at h
      | some y =>
        rw [ha] at h
        cases hl : l.mapM (fun i => w.cell? (Addr.add ⟨b, off, sp⟩ i)) with
        | none => rw [hl] at h; simp at h
        | some zs =>
          rw [hl] at h
          obtain rfl : ys = y :: zs := by simpa using h.symm
          obtain ⟨h1, h2⟩ := ih zs hl
          refine ⟨by simp [h1], fun j hj => ?_⟩
          cases j with
          | zero => exact ⟨y, rfl, a, rfl, ha⟩
          | succ j => exact h2 j (by simpa using hj)
  obtain ⟨h1, h2⟩ := key _ _ h
  refine ⟨by simpa using h1, fun i hi => ?_⟩
  obtain ⟨v, h3, j, h4, h5⟩ := h2 i (by simpa using hi)
  have : j = i := by simpa [hi] using h4.symm
  subst this
  exact ⟨v, h3, h5⟩
theorem cell_block {w : World} {b off : Nat} {sp : Option Nat} {v : Value} (h : w.cell? ⟨b, off, sp⟩ = some v) : sp = none ∧ ∃ c T fr, w.heap[b]? = some (.cells c T fr) ∧ c[off]? = some v := by
  unfold World.cell? at h
  split at h
  · rename_i c T fr hb
    split at h
    · cases h
    · rename_i hs
      refine ⟨by cases sp <;> simp_all, c, T, fr, hb, h⟩
  · cases h
/-- the cells of rows, one behind the other -/
theorem rows_mem {α : Type} {e : Enc α} {w : World} {b off : Nat} {sp : Option Nat} (hpos : 0 < e.n) : ∀ (n : Nat), (∀ i, i < n + 1 → ∃ x cs, w.cells? 0 (Addr.add ⟨b, off, sp⟩ (i * e.n)) e.n = some cs ∧ e.ok x (fun _ => False) w cs) →
    ∃ (xs : List α) (ds : List Value), sp = none ∧ xs.length = n + 1 ∧ b < w.heap.size ∧ MemAt w b off ds ∧ e.okL xs (fun _ => False) w ds := by
  intro n h
  obtain ⟨x0, cs0, h0, _⟩ := h 0 (by omega)
  simp only [Nat.zero_mul] at h0
  obtain ⟨hl0, hc0⟩ := cells_row h0
  obtain ⟨v0, _, hv0⟩ := hc0 0 hpos
  obtain ⟨hsp, c, T, fr, hb, _⟩ := cell_block hv0
  subst hsp
  have hlt : b < w.heap.size := (Array.getElem?_eq_some_iff.1 hb).1
  have key : ∀ m o, (∀ i, i < m → ∃ x cs, w.cells? 0 (Addr.add ⟨b, o, none⟩ (i * e.n)) e.n = some cs ∧ e.ok x (fun _ => False) w cs) → ∃ (xs : List α) (ds : List Value), xs.length = m ∧ (∀ j (hj : j < ds.length), c[o + j]? = some ds[j]) ∧ e.okL xs (fun _ => False) w ds := by
    intro m
    induction m with
    | zero => intro o _; exact ⟨[], [], rfl, fun j hj => by simp at hj, rfl⟩
    | succ m ih =>
      intro o h
      obtain ⟨x, cs, h1, h2⟩ := h 0 (by omega)
      simp only [Nat.zero_mul] at h1
      obtain ⟨k1, k2⟩ := cells_row h1
      obtain ⟨xs, ds, k3, k4, k5⟩ := ih (o + e.n) (fun i hi => by
        obtain ⟨y, qs, q1, q2⟩ := h (i + 1) (by omega)
        refine ⟨y, qs, ?_, q2⟩
        rw [← q1, Addr.add_lit, Addr.add_lit, Nat.succ_mul]
        congr 2; omega)
      refine ⟨x :: xs, cs ++ ds, by simp [k3], fun j hj => ?_, cs, ds, rfl, h2, k5⟩
      by_cases hjc : j < cs.length
      · obtain ⟨v, hv1, hv2⟩ := k2 j (by omega)
        rw [Addr.add_lit] at hv2
        obtain ⟨_, c', T', fr', hb', hv3⟩ := cell_block hv2
        rw [hb] at hb'
        obtain ⟨rfl, rfl, rfl⟩ : c = c' ∧ T = T' ∧ fr = fr' := by simpa using hb'
        rw [List.getElem_append_left hjc]
        have : cs[j] = v := by simpa [hjc] using hv1
        rw [this]; simpa using hv3
      · rw [List.getElem_append_right (by omega)]
        have := k4 (j - cs.length) (by simp at hj; omega)
        rw [← this]; congr 1; omega
  obtain ⟨xs, ds, k1, k2, k3⟩ := key (n + 1) off h
  exact ⟨xs, ds, rfl, k1, hlt, ⟨c, T, fr, hb, k2⟩, k3⟩
theorem RdE.sl {α : Type} {P : Program} {T E : TypeId} {e : Enc α} (h : P.underlying T = some (.slice E)) (hE : P.cellsOf E = e.n) (hpos : Nat.blt 0 e.n = true) (hby : Nat.blt 0 (P.bytesOf E) = true) (he : RdE P E e) : RdE P T (Enc.sl e) := by
  intro H enc w spare held fuel cs d ps ht hz
  have hpos := Nat.le_of_ble_eq_true hpos
  cases fuel with
  | zero => simp [DataW.trod] at ht
  | succ fuel =>
    unfold DataW.trod at ht
    rw [h] at ht
    split at ht <;> first | (exfalso; simp_all; done) | skip
    · exact ⟨[], none, 0, rfl, by simp, .inl rfl⟩
    · rename_i E1 a len cap hu
      obtain rfl : E = E1 := by simpa using hu
      simp only at ht
      split at ht
      · rename_i hc
        obtain ⟨_, h1, h2⟩ := hc
        cases len with
        | zero => exact ⟨[], some a, cap, rfl, ⟨by simp, by simp⟩, .inl rfl⟩
        | succ n =>
          cases hm : (List.range (n + 1)).mapM fun i => (w.cells? 0 (a.add (i * P.cellsOf E)) (P.cellsOf E)).bind (DataW.trod enc P w 0 spare held fuel E) with
          | none => rw [hm] at ht; simp at ht
          | some ys =>
            have hd : ∃ rest, d = .slice (ys.map (·.1)) rest := by
              rw [hm] at ht
              simp only [Option.bind_some] at ht
              obtain ⟨r, _, hr⟩ := Option.map_eq_some_iff.1 ht
              simp only [Prod.mk.injEq] at hr
              exact ⟨_, hr.1.symm⟩
            obtain ⟨rest, rfl⟩ := hd
            rw [DataW.weights, h] at hz
            obtain ⟨b, off, sp⟩ := a
            obtain ⟨xs, ds, rfl, k1, k2, k3, k4⟩ := rows_mem (e := e) (w := w) (b := b) (off := off) (sp := sp) hpos n (fun i hi => by
              obtain ⟨y, hym, hy⟩ := mapM_all hm i (by simpa using hi)
              rw [hE] at hy
              obtain ⟨qs, q1, q2⟩ := Option.bind_eq_some_iff.1 hy
              obtain ⟨x, hx⟩ := he H enc w spare held fuel qs y.1 y.2 q2 fun n hn => hz n (List.mem_cons_of_mem _ (List.mem_append_left _ (weightsAll_mem (List.mem_map.2 ⟨_, hym, rfl⟩) hn)))
              exact ⟨x, qs, q1, hx⟩)
            have hlen : ys.length = n + 1 := by rw [mapM_len hm, List.length_range]
            have hw := hz _ List.mem_cons_self
            rw [List.length_map, hlen] at hw
            have hb1 := Nat.le_of_ble_eq_true hby
            have hb2 : n + 1 ≤ reachBytes := by
              refine Nat.le_trans ?_ hw
              calc n + 1 ≤ (n + 1 + rest.length) * 1 := by omega
                _ ≤ _ := Nat.mul_le_mul_left _ hb1
            have hb3 := reachBytes_lt
            refine ⟨xs, some ⟨b, off, none⟩, cap, by rw [k1], ⟨by omega, by omega⟩, .inr ⟨b, off, ds, rfl, k2, fun h => h, k3, k4⟩⟩
      · cases ht

/-! ### whole arguments -/
def RdV {α : Type} (P : Program) (T : TypeId) (e : Enc α) : Prop := ∀ (H : Type) (enc : TypeId × Value → H) (w w0 : World) (v : Value) (d : DataW H) (ps : List MemPlace),
  Value.okWide P w0 .any 0 T v → DataW.Trod enc P w 0 (fun _ => true) true T v d ps → (∀ n ∈ d.weights P T, n ≤ reachBytes) → ∃ x, e.val x (fun _ => False) w v
theorem RdV.of_one {α : Type} {P : Program} {T : TypeId} {e : Enc α} (ha : e.agg = false) (hs : ∀ w v, Value.okWide P w .any 0 T v → v.cells = #[v]) (he : RdE P T e) : RdV P T e := by
  intro H enc w w0 v d ps ho ⟨fuel, ht⟩ hz
  rw [hs w0 v ho] at ht
  obtain ⟨x, hx⟩ := he H enc w _ _ fuel _ _ _ ht hz
  exact ⟨x, _, hx, by simp [Enc.pk, ha]⟩
theorem RdV.int {P : Program} {T : TypeId} {k : IntKind} (h : P.underlying T = some (.int k)) : RdV P T (Enc.int k) :=
  RdV.of_one rfl (fun w v ho => by obtain ⟨n, rfl⟩ := okWide_int h ho; rfl) (RdE.int h)
theorem RdV.bool {P : Program} {T : TypeId} (h : P.underlying T = some .bool) : RdV P T Enc.bool :=
  RdV.of_one rfl (fun w v ho => by obtain ⟨n, rfl⟩ := okWide_bool h ho; rfl) (RdE.bool h)
theorem RdV.str {P : Program} {T : TypeId} (h : P.underlying T = some .string) : RdV P T Enc.str :=
  RdV.of_one rfl (fun w v ho => by obtain ⟨n, rfl⟩ := okWide_string h ho; rfl) (RdE.str h)
theorem RdV.sl {α : Type} {P : Program} {T E : TypeId} {e : Enc α} (h : P.underlying T = some (.slice E)) (hE : P.cellsOf E = e.n) (hpos : Nat.blt 0 e.n = true) (hby : Nat.blt 0 (P.bytesOf E) = true) (he : RdE P E e) : RdV P T (Enc.sl e) :=
  RdV.of_one rfl (fun w v ho => by obtain ⟨a, l, c, rfl⟩ := okWide_slice h ho; rfl) (RdE.sl h hE hpos hby he)
theorem RdV.of_agg {α : Type} {P : Program} {T : TypeId} {e : Enc α} (ha : e.agg = true) (hs : ∀ w v, Value.okWide P w .any 0 T v → ∃ cs, v = .agg cs) (he : RdE P T e) : RdV P T e := by
  intro H enc w w0 v d ps ho ⟨fuel, ht⟩ hz
  obtain ⟨cs, rfl⟩ := hs w0 v ho
  obtain ⟨x, hx⟩ := he H enc w _ _ fuel _ _ _ ht hz
  exact ⟨x, _, hx, by simp [Enc.pk, ha, Value.cells]⟩
theorem RdV.struct {α : Type} {P : Program} {T : TypeId} {fs : Array Field} {e : Enc α} (ha : e.agg = true) (h : P.underlying T = some (.struct fs)) (he : RdE P T e) : RdV P T e :=
  RdV.of_agg ha (fun w v ho => by obtain ⟨cs, h1, _⟩ := okWide_struct h ho; exact ⟨cs, h1⟩) he
theorem RdV.arr {α : Type} {P : Program} {T E : TypeId} {m : Nat} {e : Enc α} (ha : e.agg = true) (h : P.underlying T = some (.array m E)) (he : RdE P T e) : RdV P T e :=
  RdV.of_agg ha (fun w v ho => by unfold Value.okWide at ho; rw [h] at ho; obtain ⟨cs, h1, _⟩ := ho; exact ⟨cs, h1⟩) he

/-- the function answers true, and leaves all as it was -/
theorem Con.law {P : Program} {f : FuncId} {ss : List Slot} {vs : List Value} {w : World} (hc : Con P f ss (.v Enc.bool true) []) (hv : Slot.okv (fun _ => .of undef) (fun _ => False) w ss vs) :
    Calls P f vs.toArray w fun e w' => e = .returned (.bool true) ∧ Below w.heap.size w w' := by
  refine Calls.mono (hc (fun _ => False) w vs (fun _ => .of undef) (fun _ h => h.elim) hv) ?_
  rintro e w' ⟨v, rfl, h⟩
  obtain ⟨ρ', _, hb, hs, _⟩ := h
  simp only [Slot.ok] at hs
  rw [val_bool.1 hs]
  exact ⟨rfl, hb⟩
end Go.Sw
