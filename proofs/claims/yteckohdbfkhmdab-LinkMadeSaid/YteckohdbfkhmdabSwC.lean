/- A library over the model, part 3: how values lie, what is ours in memory, rules for operations, calls, loops, ranges over functions. Conditions: none. -/
import Derived.Test.YteckohdbfkhmdabSwB
set_option linter.unusedVariables false
set_option linter.unusedSimpArgs false
namespace Go.Sw
open Go Go.RowKit
/-- what an operation makes, what of it is new, at what it looks, and what is ours no more -/
structure Itm4 where
  s : Slot
  nw : List (Nat × Ent)
  fr : List (Nat × Ent)
  rl : List Nat
  dl : List Nat
/-- operations in the text's order -/
inductive JP4 (F : Frm) (ops : Array Oper) : List Oper → AS → List Itm4 → AS → Prop
  | nil {σ : AS} : JP4 F ops [] σ [] σ
  | cons {o : Oper} {os : List Oper} {σ σ' : AS} {s : Slot} {new : List (Nat × Ent)} {h : List Itm4} : GK ops σ.g o true → JO F o σ s new → dstOk o.dst F.N = true →
      JP4 F ops os ⟨gput o.dst s σ.g, new ++ σ.d⟩ h σ' → JP4 F ops (o :: os) σ (⟨s, new, new, rdl σ.g o, []⟩ :: h) σ'
  | left {o : Oper} {os : List Oper} {σ σ' : AS} {h : List Itm4} : GK ops σ.g o false → dstOk o.dst F.N = true → JP4 F ops os ⟨gput o.dst .top σ.g, σ.d⟩ h σ' → JP4 F ops (o :: os) σ (⟨.top, [], [], rdl σ.g o, []⟩ :: h) σ'
  | mv {o : Oper} {os : List Oper} {σ σ' : AS} {s : Slot} {nw fr : List (Nat × Ent)} {dl : List Nat} {h : List Itm4} : GK ops σ.g o true → dstOk o.dst F.N = true → (∀ σ2, Loc ops o σ σ2 → σ2.free fr = true → JM F o σ2 ⟨gput o.dst s σ2.g, nw ++ delEs σ2.d dl⟩) →
      JP4 F ops os ⟨gput o.dst s σ.g, nw ++ delEs σ.d dl⟩ h σ' → JP4 F ops (o :: os) σ (⟨s, nw, fr, rdl σ.g o, dl⟩ :: h) σ'
/-- what one makes or takes away is apart from what the other makes and looks at -/
def apt4 (a b : Itm4) : Bool := (a.nw.map (·.1) ++ a.dl).all fun l => (!b.rl.contains l && !b.dl.contains l) && b.nw.all fun y => !Nat.beq y.1 l
/-- operations none of which waits for the other are apart -/
def com4 (its : List Itm4) (ms : List Nat) : Bool :=
  (List.range its.length).all fun i => (List.range its.length).all fun j => Nat.beq i j || (ms.getD j 0).testBit i || (ms.getD i 0).testBit j ||
    (match its[i]?, its[j]? with | some a, some b => apt4 a b | _, _ => true)
/-- what is new is named nowhere else -/
def fre4 (σ : AS) (its : List Itm4) (ms : List Nat) : Bool :=
  (List.range its.length).all fun j => match its[j]? with
    | none => true
    | some b => b.fr.all fun x => (σ.g.all fun y => !y.2.lab.contains x.1) && (σ.d.all fun y => !Nat.beq y.1 x.1 && !y.2.lab.contains x.1) &&
        (List.range its.length).all fun i => Nat.beq i j || (ms.getD i 0).testBit j || (match its[i]? with | none => true | some a => !a.s.lab.contains x.1 && a.nw.all fun y => !Nat.beq y.1 x.1 && !y.2.lab.contains x.1)
def dL4 (nw : Nat → List (Nat × Ent)) (dl : Nat → List Nat) (d : List (Nat × Ent)) : Nat → (Nat → Bool) → List (Nat × Ent)
  | 0, _ => d
  | m + 1, L => bif L m then nw m ++ delEs (dL4 nw dl d m L) (dl m) else dL4 nw dl d m L
section
variable {nw : Nat → List (Nat × Ent)} {dl : Nat → List Nat} {d : List (Nat × Ent)}
theorem dL4_congr {l : Nat} {L L' : Nat → Bool} : ∀ {m : Nat}, (∀ i, i < m → (lkE (nw i) l ≠ none ∨ l ∈ dl i) → L i = L' i) → lkE (dL4 nw dl d m L) l = lkE (dL4 nw dl d m L') l
  | 0, _ => rfl
  | m + 1, h => by
    have ih := dL4_congr (m := m) (fun i hi => h i (by omega))
    simp only [dL4]
    by_cases hd : lkE (nw m) l = none ∧ l ∉ dl m
    · cases L m <;> cases L' m <;> simp [lkE_append, hd.1, lkE_delEs, hd.2, ih]
    · have hd' : lkE (nw m) l ≠ none ∨ l ∈ dl m := by
        by_cases h1 : lkE (nw m) l = none
        · by_cases h2 : l ∈ dl m
          · exact .inr h2
          · exact absurd ⟨h1, h2⟩ hd
        · exact .inl h1
      rw [h m (by omega) hd']; cases L' m <;> simp [lkE_append, lkE_delEs, ih]
theorem dL4_at {l j : Nat} {en : Ent} {L : Nat → Bool} (hj : lkE (nw j) l = some en) (hL : L j = true) : ∀ {m : Nat}, j < m → (∀ i, j < i → i < m → L i = true → lkE (nw i) l = none ∧ l ∉ dl i) → lkE (dL4 nw dl d m L) l = some en
  | 0, h, _ => by omega
  | m + 1, h, hn => by
    simp only [dL4]
    by_cases hm : j = m
    · subst hm; rw [hL]; simp [lkE_append, hj]
    · have ih := dL4_at (m := m) hj hL (by omega) (fun i h1 h2 => hn i h1 (by omega))
      cases hLm : L m with
      | false => simpa using ih
      | true => obtain ⟨h1, h2⟩ := hn m (by omega) (by omega) hLm; simp [lkE_append, h1, lkE_delEs, h2, ih]
theorem dL4_gone {l j : Nat} {L : Nat → Bool} (hj : lkE (nw j) l = none) (hg : l ∈ dl j) (hL : L j = true) : ∀ {m : Nat}, j < m → (∀ i, j < i → i < m → L i = true → lkE (nw i) l = none ∧ l ∉ dl i) → lkE (dL4 nw dl d m L) l = none
  | 0, h, _ => by omega
  | m + 1, h, hn => by
    simp only [dL4]
    by_cases hm : j = m
    · subst hm; rw [hL]; simp [lkE_append, hj, lkE_delEs, hg]
    · have ih := dL4_gone (m := m) hj hg hL (by omega) (fun i h1 h2 => hn i h1 (by omega))
      cases hLm : L m with
      | false => simpa using ih
      | true => obtain ⟨h1, h2⟩ := hn m (by omega) (by omega) hLm; simp [lkE_append, h1, lkE_delEs, h2, ih]
theorem mem_delE {y : Nat × Ent} {i : Nat} : ∀ {d : List (Nat × Ent)}, y ∈ delE d i → y ∈ d
  | [], h => by simp [delE] at h
  | (j, en) :: r, h => by
    simp only [delE] at h
    cases hb : Nat.beq j i with
    | true => rw [hb] at h; exact List.mem_cons_of_mem _ (mem_delE h)
    | false =>
      rw [hb] at h
      rcases List.mem_cons.1 h with h | h
      · rw [h]; exact List.mem_cons_self
      · exact List.mem_cons_of_mem _ (mem_delE h)
theorem mem_delEs {y : Nat × Ent} {d : List (Nat × Ent)} : ∀ {H : List Nat}, y ∈ delEs d H → y ∈ d
  | [], h => h
  | _ :: H, h => mem_delEs (H := H) (mem_delE h)
theorem mem_dL4 {y : Nat × Ent} {L : Nat → Bool} : ∀ {m : Nat}, y ∈ dL4 nw dl d m L → y ∈ d ∨ ∃ i, i < m ∧ L i = true ∧ y ∈ nw i
  | 0, h => .inl h
  | m + 1, h => by
    simp only [dL4] at h
    cases hL : L m with
    | false =>
      rw [hL] at h
      rcases mem_dL4 (m := m) h with h | ⟨i, h1, h2⟩
      · exact .inl h
      · exact .inr ⟨i, by omega, h2⟩
    | true =>
      rw [hL] at h
      rcases List.mem_append.1 h with h | h
      · exact .inr ⟨m, by omega, hL, h⟩
      · rcases mem_dL4 (m := m) (mem_delEs h) with h | ⟨i, h1, h2⟩
        · exact .inl h
        · exact .inr ⟨i, by omega, h2⟩
theorem dL4_beyond {L : Nat → Bool} {m : Nat} : ∀ {n : Nat}, m ≤ n → (∀ i, m ≤ i → i < n → L i = false) → dL4 nw dl d n L = dL4 nw dl d m L
  | 0, h, _ => by have : m = 0 := by omega
                  subst this; rfl
  | n + 1, h, hL => by
    rcases Nat.lt_or_ge n m with h1 | h1
    · have : m = n + 1 := by omega
      subst this; rfl
    · simp only [dL4, hL n h1 (by omega), cond_false]; exact dL4_beyond h1 fun i h2 h3 => hL i h2 (by omega)
theorem dL4_first {L : Nat → Bool} : ∀ {m : Nat}, dL4 nw dl d (m + 1) L = dL4 (fun i => nw (i + 1)) (fun i => dl (i + 1)) (bif L 0 then nw 0 ++ delEs d (dl 0) else d) m (fun i => L (i + 1))
  | 0 => rfl
  | m + 1 => by rw [dL4, dL4_first (m := m)]; rfl
end
section
variable {F : Frm} {ops : Array Oper}
/-- what the i-th operation comes to -/
structure AtI4 (F : Frm) (ops : Array Oper) (dst : Nat → Option Tmp) (its : Nat → Itm4) (σ : AS) (n : Nat) (i : Nat) (o : Oper) : Prop where
  ok : dstOk o.dst F.N = true
  rl : (its i).rl = rdl (gLs dst (fun i => (its i).s) σ.g n (fun k => decide (k < i))) o
  cs : (GK ops (gLs dst (fun i => (its i).s) σ.g n (fun k => decide (k < i))) o true ∧ (its i).fr = (its i).nw ∧ (its i).dl = [] ∧ JO F o ⟨gLs dst (fun i => (its i).s) σ.g n (fun k => decide (k < i)), dL4 (fun i => (its i).nw) (fun i => (its i).dl) σ.d n (fun k => decide (k < i))⟩ (its i).s (its i).nw) ∨
    (GK ops (gLs dst (fun i => (its i).s) σ.g n (fun k => decide (k < i))) o false ∧ (its i).s = .top ∧ (its i).nw = [] ∧ (its i).dl = []) ∨
    (GK ops (gLs dst (fun i => (its i).s) σ.g n (fun k => decide (k < i))) o true ∧
      ∀ σ2, Loc ops o ⟨gLs dst (fun i => (its i).s) σ.g n (fun k => decide (k < i)), dL4 (fun i => (its i).nw) (fun i => (its i).dl) σ.d n (fun k => decide (k < i))⟩ σ2 → σ2.free (its i).fr = true → JM F o σ2 ⟨gput o.dst (its i).s σ2.g, (its i).nw ++ delEs σ2.d (its i).dl⟩)
theorem JP4.len {os : List Oper} {σ σ' : AS} {h : List Itm4} (hp : JP4 F ops os σ h σ') : h.length = os.length := by
  induction hp with
  | nil => rfl
  | cons _ _ _ _ ih => simp [ih]
  | left _ _ _ ih => simp [ih]
  | mv _ _ _ _ ih => simp [ih]
theorem JP4.at {os : List Oper} {σ σ' : AS} {h : List Itm4} (hp : JP4 F ops os σ h σ') :
    σ'.g = gLs (fun i => (os[i]?).bind (·.dst)) (fun i => (h.getD i ⟨.top, [], [], [], []⟩).s) σ.g os.length (fun _ => true) ∧ σ'.d = dL4 (fun i => (h.getD i ⟨.top, [], [], [], []⟩).nw) (fun i => (h.getD i ⟨.top, [], [], [], []⟩).dl) σ.d os.length (fun _ => true) ∧
    ∀ i o, os[i]? = some o → AtI4 F ops (fun i => (os[i]?).bind (·.dst)) (fun i => h.getD i ⟨.top, [], [], [], []⟩) σ os.length i o := by
  have step : ∀ {o0 : Oper} {os : List Oper} {σ σ' : AS} {h : List Itm4} {it : Itm4}, 
      (σ'.g = gLs (fun i => (os[i]?).bind (·.dst)) (fun i => (h.getD i ⟨.top, [], [], [], []⟩).s) (gput o0.dst it.s σ.g) os.length (fun _ => true) ∧ σ'.d = dL4 (fun i => (h.getD i ⟨.top, [], [], [], []⟩).nw) (fun i => (h.getD i ⟨.top, [], [], [], []⟩).dl) (it.nw ++ delEs σ.d it.dl) os.length (fun _ => true) ∧
        ∀ i o, os[i]? = some o → AtI4 F ops (fun i => (os[i]?).bind (·.dst)) (fun i => h.getD i ⟨.top, [], [], [], []⟩) ⟨gput o0.dst it.s σ.g, it.nw ++ delEs σ.d it.dl⟩ os.length i o) →
      AtI4 F ops (fun i => ((o0 :: os)[i]?).bind (·.dst)) (fun i => (it :: h).getD i ⟨.top, [], [], [], []⟩) σ (o0 :: os).length 0 o0 →
      (σ'.g = gLs (fun i => ((o0 :: os)[i]?).bind (·.dst)) (fun i => ((it :: h).getD i ⟨.top, [], [], [], []⟩).s) σ.g (o0 :: os).length (fun _ => true) ∧ σ'.d = dL4 (fun i => ((it :: h).getD i ⟨.top, [], [], [], []⟩).nw) (fun i => ((it :: h).getD i ⟨.top, [], [], [], []⟩).dl) σ.d (o0 :: os).length (fun _ => true) ∧
        ∀ i o, (o0 :: os)[i]? = some o → AtI4 F ops (fun i => ((o0 :: os)[i]?).bind (·.dst)) (fun i => (it :: h).getD i ⟨.top, [], [], [], []⟩) σ (o0 :: os).length i o) := by
    rintro o0 os σ σ' h it ⟨h1, h2, h3⟩ h0
    refine ⟨by rw [h1, List.length_cons, gLs_first]; rfl, by rw [h2, List.length_cons, dL4_first]; rfl, fun i o hi => ?_⟩
    cases i with
    | zero => simp at hi; subst hi; exact h0
    | succ i =>
      have h4 := h3 i o (by simpa using hi)
      have e1 : gLs (fun i => ((o0 :: os)[i]?).bind (·.dst)) (fun i => ((it :: h).getD i ⟨.top, [], [], [], []⟩).s) σ.g (o0 :: os).length (fun k => decide (k < i + 1)) =
          gLs (fun i => (os[i]?).bind (·.dst)) (fun i => (h.getD i ⟨.top, [], [], [], []⟩).s) (gput o0.dst it.s σ.g) os.length (fun k => decide (k < i)) := by
        rw [List.length_cons, gLs_first]
        simp
      have e2 : dL4 (fun i => ((it :: h).getD i ⟨.top, [], [], [], []⟩).nw) (fun i => ((it :: h).getD i ⟨.top, [], [], [], []⟩).dl) σ.d (o0 :: os).length (fun k => decide (k < i + 1)) =
          dL4 (fun i => (h.getD i ⟨.top, [], [], [], []⟩).nw) (fun i => (h.getD i ⟨.top, [], [], [], []⟩).dl) (it.nw ++ delEs σ.d it.dl) os.length (fun k => decide (k < i)) := by
        rw [List.length_cons, dL4_first]
        simp
      refine ⟨h4.ok, ?_, ?_⟩
      · rw [e1]; exact h4.rl
      · rw [e1, e2]; exact h4.cs
  have z1 : ∀ {o0 : Oper} {os : List Oper} {σ : AS} {h : List Itm4} {it : Itm4}, gLs (fun i => ((o0 :: os)[i]?).bind (·.dst)) (fun i => ((it :: h).getD i ⟨.top, [], [], [], []⟩).s) σ.g (o0 :: os).length (fun k => decide (k < 0)) = σ.g := by
    intro o0 os σ h it
    rw [gLs_beyond (m := 0) (Nat.zero_le _) (fun i _ _ => by simp)]; rfl
  have z2 : ∀ {o0 : Oper} {os : List Oper} {σ : AS} {h : List Itm4} {it : Itm4}, dL4 (fun i => ((it :: h).getD i ⟨.top, [], [], [], []⟩).nw) (fun i => ((it :: h).getD i ⟨.top, [], [], [], []⟩).dl) σ.d (o0 :: os).length (fun k => decide (k < 0)) = σ.d := by
    intro o0 os σ h it
    rw [dL4_beyond (m := 0) (Nat.zero_le _) (fun i _ _ => by simp)]; rfl
  induction hp with
  | nil => exact ⟨rfl, rfl, fun i o h => by simp at h⟩
  | cons g j d _ ih =>
    rename_i o os σ σ' s new h _
    refine step (it := ⟨s, new, new, rdl σ.g o, []⟩) ih ⟨d, ?_, ?_⟩
    · rw [z1]; rfl
    · rw [z1, z2]; exact .inl ⟨g, rfl, rfl, j⟩
  | left g d _ ih =>
    rename_i o os σ σ' h _
    refine step (it := ⟨.top, [], [], rdl σ.g o, []⟩) ih ⟨d, ?_, ?_⟩
    · rw [z1]; rfl
    · rw [z1, z2]; exact .inr (.inl ⟨g, rfl, rfl, rfl⟩)
  | mv g hd hm hp ih =>
    rename_i o os σ σ' s nw fr dl h
    refine step (it := ⟨s, nw, fr, rdl σ.g o, dl⟩) ih ⟨hd, ?_, ?_⟩
    · rw [z1]; rfl
    · rw [z1, z2]; exact .inr (.inr ⟨g, hm⟩)

theorem W.dr4 {id : Nat} {ops : Array Oper} {cs : List Code} {σ σ1 σ' : AS} {its : List Itm4} {Q : Exit → Act → World → Prop} (n : Nat) (ms : List Nat) (hm : F.P.follows .mixedOrders = true) (hp : JP4 F ops (ops.toList.take n) σ its σ1) (ht : J F ops (ops.toList.drop n) σ1 σ')
    (hn : Nat.ble n ops.size = true) (hbk : backOk ops = true) (hms : msOk ops ms = true) (hok : drawOk2 ops n ms = true) (hcm : com4 its ms = true) (hfe : fre4 σ its ms = true) (k : W F cs σ' Q) : W F (.region id ops true :: cs) σ Q := by
  intro a w hs
  have hn := Nat.le_of_ble_eq_true hn
  obtain ⟨l1, hl1⟩ : ∃ l1, l1 = ops.toList.take n := ⟨_, rfl⟩
  obtain ⟨l2, hl2⟩ : ∃ l2, l2 = ops.toList.drop n := ⟨_, rfl⟩
  rw [← hl1] at hp
  rw [← hl2] at ht
  have hl : ops.toList = l1 ++ l2 := by rw [hl1, hl2]; exact (List.take_append_drop n ops.toList).symm
  have hln : l1.length = n := by rw [hl1, List.length_take, Array.length_toList]; exact Nat.min_eq_left hn
  have hil : its.length = n := by rw [hp.len, hln]
  obtain ⟨s1, d1, hst⟩ := hp.at
  obtain ⟨dst, hdstE⟩ : ∃ dst : Nat → Option Tmp, dst = fun i => (l1[i]?).bind (·.dst) := ⟨_, rfl⟩
  obtain ⟨it, hitE⟩ : ∃ it : Nat → Itm4, it = fun i => its.getD i ⟨.top, [], [], [], []⟩ := ⟨_, rfl⟩
  rw [← hdstE, hln] at hst
  rw [← hitE] at hst
  rw [← hdstE, hln] at s1
  rw [hln] at d1
  have s1 : σ1.g = gLs dst (fun i => (it i).s) σ.g n (fun _ => true) := by rw [s1, hitE]
  have d1 : σ1.d = dL4 (fun i => (it i).nw) (fun i => (it i).dl) σ.d n (fun _ => true) := by rw [d1, hitE]
  have hsz : ops.size = l1.length + l2.length := by rw [← Array.length_toList, hl, List.length_append]
  have hget : ∀ i : Nat, ops[i]? = (l1 ++ l2)[i]? := fun i => by rw [← hl]; exact (Array.getElem?_toList).symm
  have hos : ∀ i, i < n → l1[i]? = ops[i]? := fun i hi => by rw [hget, List.getElem?_append_left (by omega)]
  have hdst : ∀ i o, i < n → ops[i]? = some o → dst i = o.dst := fun i o hi ho => by rw [hdstE]; show (l1[i]?).bind _ = _; rw [hos i hi, ho]; rfl
  have hop : ∀ i, i < n → ∃ o, ops[i]? = some o := fun i hi => ⟨ops[i]'(by omega), Array.getElem?_eq_getElem (by omega)⟩
  have hanc := ms_spec hbk hms
  have hat : ∀ i o, i < n → ops[i]? = some o → AtI4 F ops dst it σ n i o := fun i o hi ho => hst i o (by rw [hos i hi]; exact ho)
  have hitE2 : ∀ q, q < n → its[q]? = some (it q) := fun q hq => by
    rw [hitE]; simp only [List.getD_eq_getElem?_getD]; rw [List.getElem?_eq_getElem (by omega)]; rfl
  -- two that do not wait for each other
  have hcom : ∀ i j, i < n → j < n → i ≠ j → Anc ops j i ∨ Anc ops i j ∨ apt4 (it i) (it j) = true := by
    intro i j hi hj hij
    have h1 := List.all_eq_true.1 (List.all_eq_true.1 hcm i (List.mem_range.2 (by omega))) j (List.mem_range.2 (by omega))
    simp only [Bool.or_eq_true] at h1
    rcases h1 with ((h1 | h1) | h1) | h1
    · exact absurd (Nat.eq_of_beq_eq_true h1) hij
    · exact .inl (hanc _ _ h1)
    · exact .inr (.inl (hanc _ _ h1))
    · refine .inr (.inr ?_)
      rw [hitE2 i hi, hitE2 j hj] at h1
      exact h1
  have hapt : ∀ {a b : Itm4} {l : Nat}, apt4 a b = true → (lkE a.nw l ≠ none ∨ l ∈ a.dl) → l ∉ b.rl ∧ l ∉ b.dl ∧ ∀ y ∈ b.nw, y.1 ≠ l := by
    intro a b l h hx
    have hl : l ∈ a.nw.map (·.1) ++ a.dl := by
      rcases hx with hx | hx
      · obtain ⟨e, he⟩ := Option.ne_none_iff_exists'.1 hx
        exact List.mem_append_left _ (List.mem_map.2 ⟨_, lkE_mem he, rfl⟩)
      · exact List.mem_append_right _ hx
    have := List.all_eq_true.1 h _ hl
    simp only [Bool.and_eq_true, Bool.not_eq_true', List.all_eq_true] at this
    refine ⟨fun hc => ?_, fun hc => ?_, fun y hy e => ?_⟩
    · have h2 := this.1.1; simp at h2; exact h2 hc
    · have h2 := this.1.2; simp at h2; exact h2 hc
    · have h2 := this.2 y hy; rw [e] at h2; simp at h2
  obtain ⟨σL, hσL⟩ : ∃ σL : (Nat → Bool) → AS, σL = fun L => ⟨gLs dst (fun i => (it i).s) σ.g n L, dL4 (fun i => (it i).nw) (fun i => (it i).dl) σ.d n L⟩ := ⟨_, rfl⟩
  have hpure : ∀ i o t, i < n → ops[i]? = some o → o.dst = some t → ∀ j o', j < n → ops[j]? = some o' → (j = i ∨ o'.dst ≠ some t) ∧ (t ∈ looks ops o' → Anc ops j i ∨ Anc ops i j) := by
    intro i o t hi ho hd j o' hj ho'
    have h1 := List.all_eq_true.1 hok i (List.mem_range.2 (by omega))
    simp only [ho, if_pos hi, hd] at h1
    have h2 := List.all_eq_true.1 h1 j (List.mem_range.2 hj)
    simp only [ho', Bool.and_eq_true, Bool.or_eq_true, Bool.not_eq_true'] at h2
    obtain ⟨h3, h4⟩ := h2
    refine ⟨h3.imp (fun h => by simpa using h) (fun h => by simpa using h), fun hc => ?_⟩
    rcases h4 with (h4 | h4) | h4
    · simp at h4; exact absurd hc h4
    · exact .inl (hanc _ _ h4)
    · exact .inr (hanc _ _ h4)
  have htail : ∀ {i : Nat} {o : Oper}, ¬ i < n → ops[i]? = some o → ∀ {j : Nat}, j < i → Anc ops i j := by
    intro i o hi ho j hj
    have hlt : i < ops.size := by
      rcases Nat.lt_or_ge i ops.size with h | h
      · exact h
      · simp [Array.getElem?_eq_none h] at ho
    have h1 := List.all_eq_true.1 hok i (List.mem_range.2 hlt)
    simp only [ho, if_neg hi] at h1
    exact hanc _ _ (List.all_eq_true.1 h1 j (List.mem_range.2 hj))
  have hback : ∀ i o, i < ops.size → ops[i]? = some o → ∀ j ∈ deps o, j < i := fun i o _ ho j hj => back_dep hbk ho hj
  have hwait : ∀ m o, n ≤ m → ops[m]? = some o → ∀ j ∈ deps o, j < ops.size ∧ decide (j < m) = true := by
    intro m o _ ho j hj
    have hlt : m < ops.size := by
      rcases Nat.lt_or_ge m ops.size with h | h
      · exact h
      · simp [Array.getElem?_eq_none h] at ho
    have := hback m o hlt ho j hj
    exact ⟨by omega, by simpa using this⟩
  have hfull : ∀ L a w, St F (σL L) a w → (∀ i, i < n → L i = true) → St F σ1 a w := by
    intro L a w h hall
    rw [hσL] at h
    refine St.congr (fun u => ?_) (fun l => ?_) h
    · rw [s1]; exact gLs_congr fun i hi _ => by rw [hall i hi]
    · rw [d1]; exact dL4_congr fun i hi _ => by rw [hall i hi]
  -- one of them
  have hstep : ∀ L a w j o, Down ops L → St F (σL L) a w → j < n → ops[j]? = some o → L j = false → (∀ i ∈ deps o, L i = true) → ∀ K : Act → World → Prop,
      (∀ a' w', St F (σL fun i => i == j || L i) a' w' → K a' w') → wpOpIn F.fe 0 F.P ops (Exit.then (run F.fe F.P Q cs) Q) j K a w := by
    intro L a w j o hdn h hj ho hLj hdep K hK
    have hA := hat j o hj ho
    have hancL : ∀ i, Anc ops j i → L i = true := by
      intro i hi
      cases hi with
      | one ho' hd => rw [ho] at ho'; cases ho'; exact hdep _ hd
      | up ho' hd hr => rw [ho] at ho'; cases ho'; exact hr.down hdn (hdep _ hd)
    have hno : ∀ i, L i = true → ¬ Anc ops i j := fun i hi hc => by rw [hc.down hdn hi] at hLj; cases hLj
    obtain ⟨σ0, hσ0⟩ : ∃ σ0 : AS, σ0 = ⟨gLs dst (fun i => (it i).s) σ.g n (fun k => decide (k < j)), dL4 (fun i => (it i).nw) (fun i => (it i).dl) σ.d n (fun k => decide (k < j))⟩ := ⟨_, rfl⟩
    have hloc : Loc ops o σ0 (σL L) := by
      rw [hσ0, hσL]
      refine ⟨fun u hu => gLs_congr fun i hi hd => ?_, fun l hl => dL4_congr fun i hi hx => ?_⟩
      · obtain ⟨oi, hoi⟩ := hop i hi
        rw [hdst i oi hi hoi] at hd
        rcases (hpure i oi u hi hoi hd j o hj ho).2 hu with h1 | h1
        · have := h1.lt hbk
          rw [hancL i h1]; simpa using this
        · have h2 := h1.lt hbk
          have h3 : L i = false := by
            cases hLi : L i with
            | false => rfl
            | true => exact absurd h1 (hno i hLi)
          rw [h3]; simp; omega
      · by_cases hij : i = j
        · subst hij; rw [hLj]; simp
        · have hrl : l ∈ (it j).rl := by rw [hA.rl]; exact hl
          rcases hcom i j hi hj hij with h1 | h1 | h1
          · have := h1.lt hbk
            rw [hancL i h1]; simpa using this
          · have h2 := h1.lt hbk
            have h3 : L i = false := by
              cases hLi : L i with
              | false => rfl
              | true => exact absurd h1 (hno i hLi)
            rw [h3]; simp; omega
          · exact absurd hrl (hapt h1 hx).1
    -- one that stands behind j and is done does not touch what j makes
    have hbeh : ∀ l, (lkE (it j).nw l ≠ none ∨ l ∈ (it j).dl) → ∀ i, j < i → i < n → (i == j || L i) = true → lkE (it i).nw l = none ∧ l ∉ (it i).dl := by
      intro l hl i hji hi hLi
      have hij : i ≠ j := by omega
      have hLi' : L i = true := by simpa [hij] using hLi
      rcases hcom j i hj hi (Ne.symm hij) with h1 | h1 | h1
      · exact absurd h1 (hno i hLi')
      · have := h1.lt hbk; omega
      · refine ⟨?_, ?_⟩
        · cases hy : lkE (it i).nw l with
          | none => rfl
          | some e => exact absurd rfl ((hapt (l := l) h1 hl).2.2 _ (lkE_mem hy))
        · exact (hapt (l := l) h1 hl).2.1
    -- what is known then
    have hafter : ∀ a' w', St F ⟨gput o.dst (it j).s (σL L).g, (it j).nw ++ delEs (σL L).d (it j).dl⟩ a' w' → St F (σL fun i => i == j || L i) a' w' := by
      intro a' w' h'
      rw [hσL] at h' ⊢
      refine St.congr (fun u => ?_) (fun l => ?_) h'
      · show lk (gLs _ _ _ _ _) u = lk (gput _ _ (gLs _ _ _ _ _)) u
        rw [lk_gput]
        split
        · rename_i hd
          refine gLs_at (by rw [hdst j o hj ho]; exact hd) (by simp) hj fun i hi hij hc => ?_
          obtain ⟨oi, hoi⟩ := hop i hi
          rw [hdst i oi hi hoi] at hc
          rcases (hpure j o u hj ho hd i oi hi hoi).1 with h1 | h1
          · exact hij h1
          · exact h1 hc
        · rename_i hd
          refine gLs_congr fun i hi hc => ?_
          by_cases hij : i = j
          · subst hij; rw [hdst i o hi ho] at hc; exact absurd hc hd
          · simp [hij]
      · show lkE (dL4 _ _ _ _ _) l = lkE (_ ++ delEs (dL4 _ _ _ _ _) _) l
        rw [lkE_append]
        cases hx : lkE (it j).nw l with
        | some en => exact dL4_at hx (by simp) hj (hbeh l (.inl (by rw [hx]; simp)))
        | none =>
          simp only [Option.none_or]
          rw [lkE_delEs]
          by_cases hg : l ∈ (it j).dl
          · rw [if_pos hg]
            exact dL4_gone hx hg (by simp) hj (hbeh l (.inr hg))
          · rw [if_neg hg]
            refine dL4_congr fun i hi hc => ?_
            by_cases hij : i = j
            · subst hij; rcases hc with hc | hc
              · exact absurd hx hc
              · exact absurd hc hg
            · simp [hij]
    have hfree : AS.free (σL L) (it j).fr = true := by
      refine List.all_eq_true.2 fun x hx => ?_
      have h0 := List.all_eq_true.1 hfe j (List.mem_range.2 (by omega))
      rw [hitE2 j hj] at h0
      have h1 := List.all_eq_true.1 h0 x hx
      simp only [Bool.and_eq_true, List.all_eq_true, Bool.or_eq_true] at h1
      obtain ⟨⟨h1, h2⟩, h3⟩ := h1
      have h4 : ∀ i, i < n → L i = true → (!(it i).s.lab.contains x.1) = true ∧ ∀ y ∈ (it i).nw, (!Nat.beq y.1 x.1) = true ∧ (!y.2.lab.contains x.1) = true := by
        intro i hi hLi
        have h5 := h3 i (List.mem_range.2 (by omega))
        rw [hitE2 i hi] at h5
        rcases h5 with (h5 | h5) | h5
        · rw [Nat.eq_of_beq_eq_true h5, hLj] at hLi; cases hLi
        · exact absurd (hanc _ _ h5) (hno i hLi)
        · simp only [Bool.and_eq_true, List.all_eq_true] at h5
          exact h5
      rw [hσL]
      simp only [Bool.and_eq_true, List.all_eq_true]
      refine ⟨fun y hy => ?_, fun y hy => ?_⟩
      · rcases mem_gLs hy with h5 | ⟨i, hi, hLi, e⟩
        · exact h1 y h5
        · rw [e]; exact (h4 i hi hLi).1
      · rcases mem_dL4 hy with h5 | ⟨i, hi, hLi, hy⟩
        · exact h2 y h5
        · exact (h4 i hi hLi).2 y hy
    have hgw : ∀ b, GK ops σ0.g o b → Region.wanted o (yielded ops a.tmps) = b := by
      intro b hg
      obtain ⟨⟨ρ, hc, hsl⟩, _, _⟩ := h
      exact wanted_of (gk_loc hg hloc) fun t s _ ht => hsl t s ht
    unfold wpOpIn
    rw [ho]
    have hcs := hA.cs
    rw [show (gLs dst (fun i => (it i).s) σ.g n fun k => decide (k < j)) = σ0.g by rw [hσ0], show (dL4 (fun i => (it i).nw) (fun i => (it i).dl) σ.d n fun k => decide (k < j)) = σ0.d by rw [hσ0]] at hcs
    rcases hcs with ⟨hg, hfr, hdl, hjo⟩ | ⟨hg, htop, hnw, hdl⟩ | ⟨hg, hjm⟩
    · simp only [hgw true hg, if_true]
      obtain ⟨⟨ρ, hc, hsl⟩, hz, hde⟩ := h
      refine (JO.loc hjo hloc ρ _ a w (Know.of_st hc hsl _)).wpIn fun v w' hr => hK _ _ (hafter _ _ ?_)
      rw [hfr] at hfree
      have := St.put hc hsl hz hde hfree hA.ok hr
      rw [hdl]
      cases hd : o.dst with
      | none => rw [hd] at this; exact this
      | some t => rw [hd] at this; exact this
    · simp only [hgw false hg, Bool.false_eq_true, if_false]
      refine ⟨fun _ _ => trivial, hK _ _ (hafter _ _ ?_)⟩
      obtain ⟨⟨ρ, hc, hsl⟩, hz, hde⟩ := h
      have := St.put (s := .top) (new := []) (v := undef) (dst := o.dst) hc hsl hz hde rfl hA.ok Res_top
      rw [htop, hnw, hdl]
      cases hd : o.dst with
      | none => rw [hd] at this; exact this
      | some t => rw [hd] at this; exact this
    · simp only [hgw true hg, if_true]
      exact (hjm (σL L) hloc hfree a w h).wpIn fun v w' h' => hK _ _ (hafter _ _ h')
  -- whatever order
  have hgetD : ∀ (listed : Array Bool) (L : Nat → Bool), listed.size = ops.size → (∀ i, i < ops.size → listed.getD i false = L i) → ∀ i d, i < ops.size → listed.getD i d = L i := by
    intro listed L hls hL i d hi
    have := hL i hi
    rw [Array.getD_eq_getD_getElem?] at this ⊢
    rw [Array.getElem?_eq_getElem (by omega)] at this ⊢
    simpa using this
  have hready : ∀ (listed : Array Bool) (L : Nat → Bool), listed.size = ops.size → (∀ i, i < ops.size → listed.getD i false = L i) → ∀ i, i ∈ Region.ready .any ops listed ↔
      (i < ops.size ∧ L i = false ∧ ∀ o, ops[i]? = some o → ∀ j ∈ deps o, j < ops.size ∧ L j = true) := by
    intro listed L hls hL i
    unfold Region.ready
    rw [List.mem_filter, List.mem_range]
    constructor
    · rintro ⟨h1, h2⟩
      simp only [Bool.and_eq_true, Bool.not_eq_true'] at h2
      obtain ⟨h2, h3⟩ := h2
      rw [hgetD listed L hls hL i true h1] at h2
      refine ⟨h1, h2, fun o ho j hj => ?_⟩
      rw [ho] at h3
      simp only [Option.map_some, Option.getD_some] at h3
      obtain ⟨e, he, hej⟩ := List.mem_filterMap.1 hj
      have he' : e ∈ o.after := by simpa using he
      have := Array.all_eq_true_iff_forall_mem.1 h3 e he'
      split at hej
      · rename_i hb
        cases hej
        rw [hb] at this
        simp only [Bool.not_true, Bool.false_or] at this
        rcases Nat.lt_or_ge e.on ops.size with hl | hl
        · rw [hgetD listed L hls hL _ _ hl] at this; exact ⟨hl, this⟩
        · rw [Array.getD_eq_getD_getElem?, Array.getElem?_eq_none (by omega)] at this; simp at this
      · cases hej
    · rintro ⟨h1, h2, h3⟩
      refine ⟨h1, ?_⟩
      have ho : ops[i]? = some ops[i] := Array.getElem?_eq_getElem h1
      simp only [Bool.and_eq_true, Bool.not_eq_true', hgetD listed L hls hL i true h1, h2, true_and, ho, Option.map_some, Option.getD_some]
      refine Array.all_eq_true_iff_forall_mem.2 fun e he => ?_
      cases hb : Region.binds .any e with
      | false => rfl
      | true =>
        have := h3 _ ho e.on (List.mem_filterMap.2 ⟨e, by simpa using he, by simp [hb]⟩)
        rw [hgetD listed L hls hL _ _ this.1, this.2]; rfl
  have hset : ∀ (listed : Array Bool) (L : Nat → Bool) (j : Nat), listed.size = ops.size → j < ops.size → (∀ i, i < ops.size → listed.getD i false = L i) → ∀ i, i < ops.size → (listed.setIfInBounds j true).getD i false = (i == j || L i) := by
    intro listed L j hls hj hL i hi
    by_cases hij : i = j
    · subst hij
      simp only [Array.getD_eq_getD_getElem?, Array.getElem?_setIfInBounds]
      simp [hls, hi]
    · rw [getD_set_ne false (Ne.symm hij), hL i hi]; simp [hij]
  have hB : ∀ fuel m (listed : Array Bool) a w, listed.size = ops.size → (∀ i, i < ops.size → listed.getD i false = decide (i < m)) → Down ops (fun i => decide (i < m)) → n ≤ m → m + fuel = ops.size →
      wpListIn F.fe 0 F.P ops (Exit.then (run F.fe F.P Q cs) Q) (ops.toList.drop m) a w → wpAnyIn F.fe 0 F.P .any ops (Exit.then (run F.fe F.P Q cs) Q) fuel listed a w := by
    intro fuel
    induction fuel with
    | zero =>
      intro m listed a w hls hlm _ hnm hmf hw
      refine ⟨List.eq_nil_iff_forall_not_mem.2 fun i hi => ?_, ?_⟩
      · obtain ⟨h1, h2, _⟩ := (hready listed _ hls hlm i).1 hi
        have : i < m := by omega
        simp [this] at h2
      · rw [List.drop_eq_nil_of_le (by rw [Array.length_toList]; omega)] at hw
        exact hw
    | succ fuel ih =>
      intro m listed a w hls hlm hdn hnm hmf hw
      have hmlt : m < ops.size := by omega
      have hom : ops[m]? = some ops[m] := Array.getElem?_eq_getElem hmlt
      have hmr : ∀ i ∈ Region.ready .any ops listed, i = m := by
        intro i hi
        obtain ⟨h1, h2, h3⟩ := (hready listed _ hls hlm i).1 hi
        have him : m ≤ i := by simpa using h2
        rcases Nat.lt_or_ge m i with hlt | hge
        · exfalso
          have ho : ops[i]? = some ops[i] := Array.getElem?_eq_getElem h1
          have hmem := htail (by omega) ho hlt
          cases hmem with
          | one ho' hj => rw [ho] at ho'; cases ho'; have := (h3 _ ho _ hj).2; simp at this
          | up ho' hj hmj =>
            rw [ho] at ho'; cases ho'
            have hjm := (h3 _ ho _ hj).2
            have := hmj.down hdn hjm
            simp at this
        · omega
      have hdrop : ops.toList.drop m = ops[m] :: ops.toList.drop (m + 1) := by
        rw [List.drop_eq_getElem_cons (by rw [Array.length_toList]; exact hmlt)]
        simp
      rw [hdrop] at hw
      refine ⟨fun hr => ?_, fun i hi => ?_⟩
      · exfalso
        -- m itself is ready: what it waits for is ahead of it
        have hnr : m ∉ Region.ready .any ops listed := by rw [hr]; simp
        refine hnr ((hready listed _ hls hlm m).2 ⟨hmlt, by simp, fun o ho j hj => ?_⟩)
        exact hwait m o hnm ho j hj
      · have := hmr i hi
        subst this
        obtain ⟨_, _, h3⟩ := (hready listed _ hls hlm i).1 hi
        have hdn' : Down ops (fun k => decide (k < i + 1)) := by
          intro k o hk ho j hj
          have hk : k < i + 1 := by simpa using hk
          rcases Nat.lt_or_ge k i with h | h
          · have := hdn k o (by simpa using h) ho j hj
            have : j < i := by simpa using this
            simp; omega
          · have : k = i := by omega
            subst this
            have := (h3 o ho j hj).2
            have : j < k := by simpa using this
            simp; omega
        have hnext : ∀ a w, wpListIn F.fe 0 F.P ops (Exit.then (run F.fe F.P Q cs) Q) (ops.toList.drop (i + 1)) a w → wpAnyIn F.fe 0 F.P .any ops (Exit.then (run F.fe F.P Q cs) Q) fuel (listed.setIfInBounds i true) a w := by
          intro a w hw
          refine ih (i + 1) _ a w (by simpa using hls) (fun j hj => ?_) hdn' (by omega) (by omega) hw
          rw [hset listed _ i hls hmlt hlm j hj]
          by_cases hji : j = i
          · subst hji; simp
          · have : (j < i + 1) ↔ j < i := by omega
            simp [hji, this]
        unfold wpOpIn
        rw [hom]
        unfold wpListIn at hw
        split at hw
        · rename_i hwant
          simp only [hwant, if_true]
          exact Oper.wpIn_mono hnext hw
        · rename_i hwant
          simp only [hwant]
          exact ⟨hw.1, hnext _ _ hw.2⟩
  have hA : ∀ fuel (listed : Array Bool) (L : Nat → Bool) a w, listed.size = ops.size → (∀ i, i < ops.size → listed.getD i false = L i) → Down ops L → (∀ i, L i = true → i < n) → ((List.range ops.size).filter fun i => L i).length + fuel = ops.size →
      St F (σL L) a w → wpAnyIn F.fe 0 F.P .any ops (Exit.then (run F.fe F.P Q cs) Q) fuel listed a w := by
    intro fuel
    induction fuel with
    | zero =>
      intro listed L a w hls hL hdn hLn hcnt h
      have hall : ∀ i, i < ops.size → L i = true := by
        have hc : ((List.range ops.size).filter fun i => L i).length = (List.range ops.size).length := by simpa using hcnt
        have := List.length_filter_eq_length_iff.1 hc
        exact fun i hi => this i (List.mem_range.2 hi)
      have hnn : ops.size = n := by
        rcases Nat.lt_or_ge n ops.size with h | h
        · have := hLn n (hall n h); omega
        · omega
      have hl2 : l2 = [] := List.eq_nil_of_length_eq_zero (by omega)
      refine ⟨List.eq_nil_iff_forall_not_mem.2 fun i hi => ?_, ?_⟩
      · obtain ⟨h1, h2, _⟩ := (hready listed _ hls hL i).1 hi
        rw [hall i h1] at h2; cases h2
      · have hst1 := hfull L a w h fun i hi => hall i (by omega)
        have := ht (Exit.then (run F.fe F.P Q cs) Q) [] a w hst1 (fun a' w' h' => wpListIn_nil (k a' w' h'))
        rw [hl2] at this
        exact this
    | succ fuel ih =>
      intro listed L a w hls hL hdn hLn hcnt h
      by_cases hall : ∀ i, i < n → L i = true
      · -- all of the first are done: the others, in the text's order
        have hst1 := hfull L a w h hall
        have hw := ht (Exit.then (run F.fe F.P Q cs) Q) [] a w hst1 (fun a' w' h' => wpListIn_nil (k a' w' h'))
        have hLd : L = fun i => decide (i < n) := by
          funext i
          cases hLi : L i with
          | true => simp [hLn i hLi]
          | false =>
            rcases Nat.lt_or_ge i n with h | h
            · rw [hall i h] at hLi; cases hLi
            · simp; omega
        have hcn : ((List.range ops.size).filter fun i => L i).length = n := by
          rw [hLd]
          have : ops.size = n + (ops.size - n) := by omega
          rw [this, List.range_add, List.filter_append]
          rw [List.filter_eq_self.2 (by intro i hi; simpa using List.mem_range.1 hi), List.filter_eq_nil_iff.2 (by intro i hi; simp at hi ⊢; omega)]
          simp
        refine hB (fuel + 1) n listed a w hls (fun i hi => by rw [hL i hi, hLd]) (by rw [← hLd]; exact hdn) (Nat.le_refl _) (by omega) ?_
        have : ops.toList.drop n = l2 := by rw [hl, ← hln]; simp
        rw [this]; simpa using hw
      · refine ⟨fun hr => ?_, fun i hi => ?_⟩
        · exfalso
          -- the least one that is not done is ready
          have hex : ∃ i, i < n ∧ L i = false := by
            refine Classical.byContradiction fun hno => hall fun i hi => ?_
            cases hLi : L i with
            | true => rfl
            | false => exact absurd ⟨i, hi, hLi⟩ hno
          obtain ⟨i, ⟨hi, hLi⟩, hmin⟩ : ∃ i, (i < n ∧ L i = false) ∧ ∀ j, j < i → L j = true := by
            obtain ⟨i, hi⟩ := hex
            induction i using Nat.strongRecOn with
            | _ i ihi =>
              by_cases hj : ∃ j, j < i ∧ L j = false
              · obtain ⟨j, h1, h2⟩ := hj; exact ihi j h1 ⟨by omega, h2⟩
              · refine ⟨i, hi, fun j hj' => ?_⟩
                cases hLj : L j with
                | true => rfl
                | false => exact absurd ⟨j, hj', hLj⟩ hj
          have hnr : i ∉ Region.ready .any ops listed := by rw [hr]; simp
          refine hnr ((hready listed _ hls hL i).2 ⟨by omega, hLi, fun o ho j hj => ?_⟩)
          have := hback i o (by omega) ho j hj
          exact ⟨by omega, hmin j this⟩
        · obtain ⟨h1, h2, h3⟩ := (hready listed _ hls hL i).1 hi
          have ho : ops[i]? = some ops[i] := Array.getElem?_eq_getElem h1
          have hin : i < n := by
            refine Classical.byContradiction fun hge => hall fun j hj => ?_
            have hmem := htail hge ho (j := j) (by omega)
            cases hmem with
            | one ho' hj => rw [ho] at ho'; cases ho'; exact (h3 _ ho _ hj).2
            | up ho' hj hmj => rw [ho] at ho'; cases ho'; exact hmj.down hdn (h3 _ ho _ hj).2
          refine hstep L a w i _ hdn h hin ho h2 (fun j hj => (h3 _ ho j hj).2) _ fun a' w' h' => ?_
          refine ih _ _ a' w' (by simpa using hls) (hset listed L i hls h1 hL) ?_ ?_ ?_ h'
          · intro q o hq hoq j hj
            by_cases hqi : q = i
            · subst hqi; simp [(h3 o hoq j hj).2]
            · have : L q = true := by simpa [hqi] using hq
              simp [hdn q o this hoq j hj]
          · intro q hq
            by_cases hqi : q = i
            · omega
            · exact hLn q (by simpa [hqi] using hq)
          · have : ((List.range ops.size).filter fun q => q == i || L q).length = ((List.range ops.size).filter fun q => L q).length + 1 := count_add ops.size i L h1 h2
            omega
  refine wpIn_region_any hm ?_
  refine hA ops.size _ (fun _ => false) a _ (by simp) (fun i hi => by rw [Array.getD_eq_getD_getElem?, Array.getElem?_replicate, if_pos hi]; rfl) (fun _ _ h => by cases h) (fun _ h => by cases h) (by rw [List.filter_eq_nil_iff.2 (fun _ _ h => by cases h)]; simp) ?_
  obtain ⟨⟨ρ, hc, hsl⟩, hz, hde⟩ := hs
  have hb : Below w.heap.size w { w with drawn := w.drawn + 1 } := (Below.refl _ _).drew
  obtain ⟨hc', hE⟩ := hc.below hb
  have e0 : σL (fun _ => false) = σ := by
    rw [hσL]
    show (⟨gLs _ _ _ _ _, dL4 _ _ _ _ _⟩ : AS) = σ
    rw [gLs_beyond (m := 0) (Nat.zero_le _) (fun _ _ _ => rfl), dL4_beyond (m := 0) (Nat.zero_le _) (fun _ _ _ => rfl)]; rfl
  rw [e0]
  exact ⟨⟨ρ, hc', fun t s hts => Slot.ok_mono s _ (hsl t s hts) hE (fun _ _ => rfl)⟩, hz, hde⟩
section
variable {os : List Oper} {σ σ' : AS} {its : List Itm4} {s s0 : Slot} {d : Option Tmp} {pb : Option Nat} {ty : TypeId} {p : String} {af : Array Edge} {gd : Option (Nat × Bool)} {x y : Operand}
theorem JP4.store {T U : TypeId} {l : List Slot} {i off n : Nat} (g : GK ops σ.g ⟨none, .store U x y, ty, p, af, gd⟩ true) (hx : evS σ.g x = some (.ptr i off)) (he : lkE σ.d i = some (.box T l pb)) (ho : offAt l off = some s0) (hy : evS σ.g y = some s) (hp : s.plain = true) (hsz : Nat.beq s.sz n = true) (hsz0 : Nat.beq s0.sz n = true)
    (hS : ∀ w, (sizeOf U).run F.P w = .ok n w) (k : JP4 F ops os ⟨σ.g, (i, .box T (setOff l off s) pb) :: σ.d⟩ its σ') :
    JP4 F ops (⟨none, .store U x y, ty, p, af, gd⟩ :: os) σ (⟨.top, [(i, .box T (setOff l off s) pb)], [], rdl σ.g ⟨none, .store U x y, ty, p, af, gd⟩, []⟩ :: its) σ' :=
  .mv g rfl (fun σ2 hL _ => JM.store ((hL.ev (by simp [Op.operands])).trans hx) ((hL.ent (x := x) (by simp [Op.operands]) hx (by simp [Slot.lab])).trans he) ho ((hL.ev (by simp [Op.operands])).trans hy) hp hsz hsz0 hS) k
theorem JP4.storeAll {α : Type} {e : Enc α} {z : α} {T U : TypeId} {l l' : List Slot} {i : Nat} (g : GK ops σ.g ⟨none, .store U x y, ty, p, af, gd⟩ true) (hx : evS σ.g x = some (.ptr i 0)) (he : lkE σ.d i = some (.box T l pb)) (hl : Nat.beq (l.map Slot.sz).sum e.n = true) (hy : evS σ.g y = some (.v e z)) (hl' : Spl l' e z)
    (hS : ∀ w, (sizeOf U).run F.P w = .ok e.n w) (k : JP4 F ops os ⟨σ.g, (i, .box T l' pb) :: σ.d⟩ its σ') :
    JP4 F ops (⟨none, .store U x y, ty, p, af, gd⟩ :: os) σ (⟨.top, [(i, .box T l' pb)], [], rdl σ.g ⟨none, .store U x y, ty, p, af, gd⟩, []⟩ :: its) σ' :=
  .mv g rfl (fun σ2 hL _ => JM.storeAll ((hL.ev (by simp [Op.operands])).trans hx) ((hL.ent (x := x) (by simp [Op.operands]) hx (by simp [Slot.lab])).trans he) hl ((hL.ev (by simp [Op.operands])).trans hy) hl' hS) k
theorem JP4.storeAgg {T U : TypeId} {l l' : List Slot} {i n : Nat} (g : GK ops σ.g ⟨none, .store U x y, ty, p, af, gd⟩ true) (hx : evS σ.g x = some (.ptr i 0)) (he : lkE σ.d i = some (.box T l pb)) (hl : (l.map Slot.sz).sum = n) (hy : evS σ.g y = some (.agg l')) (hl' : (l'.map Slot.sz).sum = n) (hnt : l'.all Slot.plain = true)
    (hS : ∀ w, (sizeOf U).run F.P w = .ok n w) (k : JP4 F ops os ⟨σ.g, (i, .box T l' pb) :: σ.d⟩ its σ') :
    JP4 F ops (⟨none, .store U x y, ty, p, af, gd⟩ :: os) σ (⟨.top, [(i, .box T l' pb)], [], rdl σ.g ⟨none, .store U x y, ty, p, af, gd⟩, []⟩ :: its) σ' :=
  .mv g rfl (fun σ2 hL _ => JM.storeAgg ((hL.ev (by simp [Op.operands])).trans hx) ((hL.ent (x := x) (by simp [Op.operands]) hx (by simp [Slot.lab])).trans he) hl ((hL.ev (by simp [Op.operands])).trans hy) hl' hnt hS) k
/-- a source that another state knows as well -/
theorem Src.loc {α : Type} {e : Enc α} {ys : List α} {o : Oper} {σ2 : AS} (h : Src σ y e ys) (hL : Loc ops o σ σ2) (hm : y ∈ o.op.operands) : Src σ2 y e ys := fun ρ S a w K =>
  h ρ S a w ⟨K.low, fun x hx s hs => K.slot x hx s (by have : x = y := by simpa using hx
                                                       subst this; rw [hL.ev hm]; exact hs), fun x hx s hs i hi en he => K.ent x hx s (by have : x = y := by simpa using hx
                                                                                                                                          subst this; rw [hL.ev hm]; exact hs) i hi en (by have : x = y := by simpa using hx
                                                                                                                                                                                           subst this; rw [hL.ent hm hs hi]; exact he)⟩
theorem JP4.append {α : Type} {e : Enc α} {xs ys zs : List α} {T U : TypeId} {ti : TypeInfo} {z : Value} {i : Nat} (g : GK ops σ.g ⟨d, .call ⟨.builtin .append, #[x, y], #[U, U]⟩, ty, p, af, gd⟩ true) (j : Nat) (ha : app xs ys = some zs) (hx : evS σ.g x = some (.ref i)) (he : lkE σ.d i = some (.arr T e xs)) (hy : Src σ y e ys)
    (hU : ∀ w, (underlying U).run F.P w = .ok (.slice T) w) (hI : ∀ w, (typeInfo T).run F.P w = .ok ti w) (hS : ∀ w, (sizeOf T).run F.P w = .ok e.n w) (hz : ti.zero = some z) (hzs : z.cells.size = e.n) (hby : Nat.ble ti.bytes 4096 = true)
    (_ : σ.free [(j, .arr T e zs)] = true) (hd : dstOk d F.N = true) (k : JP4 F ops os ⟨gput d (.ref j) σ.g, (j, .arr T e zs) :: delE σ.d i⟩ its σ') :
    JP4 F ops (⟨d, .call ⟨.builtin .append, #[x, y], #[U, U]⟩, ty, p, af, gd⟩ :: os) σ (⟨.ref j, [(j, .arr T e zs)], [(j, .arr T e zs)], rdl σ.g ⟨d, .call ⟨.builtin .append, #[x, y], #[U, U]⟩, ty, p, af, gd⟩, [i]⟩ :: its) σ' :=
  .mv (nw := [(j, .arr T e zs)]) (dl := [i]) g hd (fun σ2 hL hf => JM.append j ha ((hL.ev (by simp [Op.operands, Call.operands])).trans hx) ((hL.ent (x := x) (by simp [Op.operands, Call.operands]) hx (by simp [Slot.lab])).trans he) (hy.loc hL (by simp [Op.operands, Call.operands])) hU hI hS hz hzs hby hf hd) k
end
end
end Go.Sw
