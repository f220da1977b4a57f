/- A library over the model, part 3: how values lie, what is ours in memory, rules for operations, calls, loops, ranges over functions. Conditions: none. -/
import Derived.Test.YteckohdbfkhmdacSwB
import Derived.Laws.Externs
set_option linter.unusedVariables false
set_option linter.unusedSimpArgs false
namespace Go.Sw
open Go Go.RowKit
/-- what an operation makes, what of it is new, at what it looks, and what is ours no more -/
structure Itm4 where
  s : Slot
  nw : List (Nat × Ent)
  fr : List (Nat × Ent)
  rl : List Nat
  dl : List Nat
/-- operations in the text's order -/
inductive JP4 (F : Frm) (ops : Array Oper) : List Oper → AS → List Itm4 → AS → Prop
  | nil {σ : AS} : JP4 F ops [] σ [] σ
  | cons {o : Oper} {os : List Oper} {σ σ' : AS} {s : Slot} {new : List (Nat × Ent)} {h : List Itm4} : GK ops σ.g o true → JO F o σ s new → dstOk o.dst F.N = true →
      JP4 F ops os ⟨gput o.dst s σ.g, new ++ σ.d⟩ h σ' → JP4 F ops (o :: os) σ (⟨s, new, new, rdl σ.g o, []⟩ :: h) σ'
  | left {o : Oper} {os : List Oper} {σ σ' : AS} {h : List Itm4} : GK ops σ.g o false → dstOk o.dst F.N = true → JP4 F ops os ⟨gput o.dst .top σ.g, σ.d⟩ h σ' → JP4 F ops (o :: os) σ (⟨.top, [], [], rdl σ.g o, []⟩ :: h) σ'
  | pu {o : Oper} {os : List Oper} {σ σ' : AS} {s : Slot} {h : List Itm4} : GK ops σ.g o true → dstOk o.dst F.N = true → (∀ d, JO F o ⟨σ.g, d⟩ s []) → JP4 F ops os ⟨gput o.dst s σ.g, σ.d⟩ h σ' → JP4 F ops (o :: os) σ (⟨s, [], [], [], []⟩ :: h) σ'
  | mv {o : Oper} {os : List Oper} {σ σ' : AS} {s : Slot} {nw fr : List (Nat × Ent)} {dl : List Nat} {h : List Itm4} : GK ops σ.g o true → dstOk o.dst F.N = true → (∀ σ2, Loc ops o σ σ2 → σ2.free fr = true → JM F o σ2 ⟨gput o.dst s σ2.g, nw ++ delEs σ2.d dl⟩) →
      JP4 F ops os ⟨gput o.dst s σ.g, nw ++ delEs σ.d dl⟩ h σ' → JP4 F ops (o :: os) σ (⟨s, nw, fr, rdl σ.g o, dl⟩ :: h) σ'
  | mvx {o : Oper} {os : List Oper} {σ σ' : AS} {s : Slot} {nw fr : List (Nat × Ent)} {dl ex : List Nat} {h : List Itm4} : GK ops σ.g o true → dstOk o.dst F.N = true → (∀ σ2, Loc ops o σ σ2 → (∀ l ∈ ex, lkE σ2.d l = lkE σ.d l) → σ2.free fr = true → JM F o σ2 ⟨gput o.dst s σ2.g, nw ++ delEs σ2.d dl⟩) →
      JP4 F ops os ⟨gput o.dst s σ.g, nw ++ delEs σ.d dl⟩ h σ' → JP4 F ops (o :: os) σ (⟨s, nw, fr, rdl σ.g o ++ ex, dl⟩ :: h) σ'
/-- what one makes or takes away is apart from what the other makes and looks at -/
def apt4 (a b : Itm4) : Bool := (a.nw.map (·.1) ++ a.dl).all fun l => (!b.rl.contains l && !b.dl.contains l) && b.nw.all fun y => !Nat.beq y.1 l
/-- operations none of which waits for the other are apart -/
def com4 (its : List Itm4) (ms : List Nat) : Bool :=
  (List.range its.length).all fun i => (List.range its.length).all fun j => Nat.beq i j || (ms.getD j 0).testBit i || (ms.getD i 0).testBit j ||
    (match its[i]?, its[j]? with | some a, some b => apt4 a b | _, _ => true)
/-- what is new is named nowhere else -/
def fre4 (σ : AS) (its : List Itm4) (ms : List Nat) : Bool :=
  (List.range its.length).all fun j => match its[j]? with
    | none => true
    | some b => b.fr.all fun x => (σ.g.all fun y => !y.2.lab.contains x.1) && (σ.d.all fun y => !Nat.beq y.1 x.1 && !y.2.lab.contains x.1) &&
        (List.range its.length).all fun i => Nat.beq i j || (ms.getD i 0).testBit j || (match its[i]? with | none => true | some a => !a.s.lab.contains x.1 && a.nw.all fun y => !Nat.beq y.1 x.1 && !y.2.lab.contains x.1)
def dL4 (nw : Nat → List (Nat × Ent)) (dl : Nat → List Nat) (d : List (Nat × Ent)) : Nat → (Nat → Bool) → List (Nat × Ent)
  | 0, _ => d
  | m + 1, L => bif L m then nw m ++ delEs (dL4 nw dl d m L) (dl m) else dL4 nw dl d m L
section
variable {nw : Nat → List (Nat × Ent)} {dl : Nat → List Nat} {d : List (Nat × Ent)}
theorem dL4_congr {l : Nat} {L L' : Nat → Bool} : ∀ {m : Nat}, (∀ i, i < m → (lkE (nw i) l ≠ none ∨ l ∈ dl i) → L i = L' i) → lkE (dL4 nw dl d m L) l = lkE (dL4 nw dl d m L') l
  | 0, _ => rfl
  | m + 1, h => by
    have ih := dL4_congr (m := m) (fun i hi => h i (by omega))
    simp only [dL4]
    by_cases hd : lkE (nw m) l = none ∧ l ∉ dl m
    · cases L m <;> cases L' m <;> simp [lkE_append, hd.1, lkE_delEs, hd.2, ih]
    · have hd' : lkE (nw m) l ≠ none ∨ l ∈ dl m := by
        by_cases h1 : lkE (nw m) l = none
        · by_cases h2 : l ∈ dl m
          · exact .inr h2
          · exact absurd ⟨h1, h2⟩ hd
        · exact .inl h1
      rw [h m (by omega) hd']; cases L' m <;> simp [lkE_append, lkE_delEs, ih]
theorem dL4_at {l j : Nat} {en : Ent} {L : Nat → Bool} (hj : lkE (nw j) l = some en) (hL : L j = true) : ∀ {m : Nat}, j < m → (∀ i, j < i → i < m → L i = true → lkE (nw i) l = none ∧ l ∉ dl i) → lkE (dL4 nw dl d m L) l = some en
  | 0, h, _ => by omega
  | m + 1, h, hn => by
    simp only [dL4]
    by_cases hm : j = m
    · subst hm; rw [hL]; simp [lkE_append, hj]
    · have ih := dL4_at (m := m) hj hL (by omega) (fun i h1 h2 => hn i h1 (by omega))
      cases hLm : L m with
      | false => simpa using ih
      | true => obtain ⟨h1, h2⟩ := hn m (by omega) (by omega) hLm; simp [lkE_append, h1, lkE_delEs, h2, ih]
theorem dL4_gone {l j : Nat} {L : Nat → Bool} (hj : lkE (nw j) l = none) (hg : l ∈ dl j) (hL : L j = true) : ∀ {m : Nat}, j < m → (∀ i, j < i → i < m → L i = true → lkE (nw i) l = none ∧ l ∉ dl i) → lkE (dL4 nw dl d m L) l = none
  | 0, h, _ => by omega
  | m + 1, h, hn => by
    simp only [dL4]
    by_cases hm : j = m
    · subst hm; rw [hL]; simp [lkE_append, hj, lkE_delEs, hg]
    · have ih := dL4_gone (m := m) hj hg hL (by omega) (fun i h1 h2 => hn i h1 (by omega))
      cases hLm : L m with
      | false => simpa using ih
      | true => obtain ⟨h1, h2⟩ := hn m (by omega) (by omega) hLm; simp [lkE_append, h1, lkE_delEs, h2, ih]
theorem mem_delE {y : Nat × Ent} {i : Nat} : ∀ {d : List (Nat × Ent)}, y ∈ delE d i → y ∈ d
  | [], h => by simp [delE] at h
  | (j, en) :: r, h => by
    simp only [delE] at h
    cases hb : Nat.beq j i with
    | true => rw [hb] at h; exact List.mem_cons_of_mem _ (mem_delE h)
    | false =>
      rw [hb] at h
      rcases List.mem_cons.1 h with h | h
      · rw [h]; exact List.mem_cons_self
      · exact List.mem_cons_of_mem _ (mem_delE h)
theorem mem_delEs {y : Nat × Ent} {d : List (Nat × Ent)} : ∀ {H : List Nat}, y ∈ delEs d H → y ∈ d
  | [], h => h
  | _ :: H, h => mem_delEs (H := H) (mem_delE h)
theorem mem_dL4 {y : Nat × Ent} {L : Nat → Bool} : ∀ {m : Nat}, y ∈ dL4 nw dl d m L → y ∈ d ∨ ∃ i, i < m ∧ L i = true ∧ y ∈ nw i
  | 0, h => .inl h
  | m + 1, h => by
    simp only [dL4] at h
    cases hL : L m with
    | false =>
      rw [hL] at h
      rcases mem_dL4 (m := m) h with h | ⟨i, h1, h2⟩
      · exact .inl h
      · exact .inr ⟨i, by omega, h2⟩
    | true =>
      rw [hL] at h
      rcases List.mem_append.1 h with h | h
      · exact .inr ⟨m, by omega, hL, h⟩
      · rcases mem_dL4 (m := m) (mem_delEs h) with h | ⟨i, h1, h2⟩
        · exact .inl h
        · exact .inr ⟨i, by omega, h2⟩
theorem dL4_beyond {L : Nat → Bool} {m : Nat} : ∀ {n : Nat}, m ≤ n → (∀ i, m ≤ i → i < n → L i = false) → dL4 nw dl d n L = dL4 nw dl d m L
  | 0, h, _ => by have : m = 0 := by omega
                  subst this; rfl
  | n + 1, h, hL => by
    rcases Nat.lt_or_ge n m with h1 | h1
    · have : m = n + 1 := by omega
      subst this; rfl
    · simp only [dL4, hL n h1 (by omega), cond_false]; exact dL4_beyond h1 fun i h2 h3 => hL i h2 (by omega)
theorem dL4_first {L : Nat → Bool} : ∀ {m : Nat}, dL4 nw dl d (m + 1) L = dL4 (fun i => nw (i + 1)) (fun i => dl (i + 1)) (bif L 0 then nw 0 ++ delEs d (dl 0) else d) m (fun i => L (i + 1))
  | 0 => rfl
  | m + 1 => by rw [dL4, dL4_first (m := m)]; rfl
end
section
variable {F : Frm} {ops : Array Oper}
/-- what the i-th operation comes to -/
structure AtI4 (F : Frm) (ops : Array Oper) (dst : Nat → Option Tmp) (its : Nat → Itm4) (σ : AS) (n : Nat) (i : Nat) (o : Oper) : Prop where
  ok : dstOk o.dst F.N = true
  cs : (∃ ex, (its i).rl = rdl (gLs dst (fun i => (its i).s) σ.g n (fun k => decide (k < i))) o ++ ex ∧
    ((GK ops (gLs dst (fun i => (its i).s) σ.g n (fun k => decide (k < i))) o true ∧ (its i).fr = (its i).nw ∧ (its i).dl = [] ∧ JO F o ⟨gLs dst (fun i => (its i).s) σ.g n (fun k => decide (k < i)), dL4 (fun i => (its i).nw) (fun i => (its i).dl) σ.d n (fun k => decide (k < i))⟩ (its i).s (its i).nw) ∨
    (GK ops (gLs dst (fun i => (its i).s) σ.g n (fun k => decide (k < i))) o false ∧ (its i).s = .top ∧ (its i).nw = [] ∧ (its i).dl = []) ∨
    (GK ops (gLs dst (fun i => (its i).s) σ.g n (fun k => decide (k < i))) o true ∧
      ∀ σ2, Loc ops o ⟨gLs dst (fun i => (its i).s) σ.g n (fun k => decide (k < i)), dL4 (fun i => (its i).nw) (fun i => (its i).dl) σ.d n (fun k => decide (k < i))⟩ σ2 → (∀ l ∈ ex, lkE σ2.d l = lkE (dL4 (fun i => (its i).nw) (fun i => (its i).dl) σ.d n (fun k => decide (k < i))) l) → σ2.free (its i).fr = true → JM F o σ2 ⟨gput o.dst (its i).s σ2.g, (its i).nw ++ delEs σ2.d (its i).dl⟩))) ∨
    (GK ops (gLs dst (fun i => (its i).s) σ.g n (fun k => decide (k < i))) o true ∧ (its i).nw = [] ∧ (its i).fr = [] ∧ (its i).dl = [] ∧ ∀ d, JO F o ⟨gLs dst (fun i => (its i).s) σ.g n (fun k => decide (k < i)), d⟩ (its i).s [])
theorem JP4.len {os : List Oper} {σ σ' : AS} {h : List Itm4} (hp : JP4 F ops os σ h σ') : h.length = os.length := by
  induction hp with
  | nil => rfl
  | cons _ _ _ _ ih => simp [ih]
  | left _ _ _ ih => simp [ih]
  | pu _ _ _ _ ih => simp [ih]
  | mv _ _ _ _ ih => simp [ih]
  | mvx _ _ _ _ ih => simp [ih]
theorem JP4.at {os : List Oper} {σ σ' : AS} {h : List Itm4} (hp : JP4 F ops os σ h σ') :
    σ'.g = gLs (fun i => (os[i]?).bind (·.dst)) (fun i => (h.getD i ⟨.top, [], [], [], []⟩).s) σ.g os.length (fun _ => true) ∧ σ'.d = dL4 (fun i => (h.getD i ⟨.top, [], [], [], []⟩).nw) (fun i => (h.getD i ⟨.top, [], [], [], []⟩).dl) σ.d os.length (fun _ => true) ∧
    ∀ i o, os[i]? = some o → AtI4 F ops (fun i => (os[i]?).bind (·.dst)) (fun i => h.getD i ⟨.top, [], [], [], []⟩) σ os.length i o := by
  have step : ∀ {o0 : Oper} {os : List Oper} {σ σ' : AS} {h : List Itm4} {it : Itm4}, 
      (σ'.g = gLs (fun i => (os[i]?).bind (·.dst)) (fun i => (h.getD i ⟨.top, [], [], [], []⟩).s) (gput o0.dst it.s σ.g) os.length (fun _ => true) ∧ σ'.d = dL4 (fun i => (h.getD i ⟨.top, [], [], [], []⟩).nw) (fun i => (h.getD i ⟨.top, [], [], [], []⟩).dl) (it.nw ++ delEs σ.d it.dl) os.length (fun _ => true) ∧
        ∀ i o, os[i]? = some o → AtI4 F ops (fun i => (os[i]?).bind (·.dst)) (fun i => h.getD i ⟨.top, [], [], [], []⟩) ⟨gput o0.dst it.s σ.g, it.nw ++ delEs σ.d it.dl⟩ os.length i o) →
      AtI4 F ops (fun i => ((o0 :: os)[i]?).bind (·.dst)) (fun i => (it :: h).getD i ⟨.top, [], [], [], []⟩) σ (o0 :: os).length 0 o0 →
      (σ'.g = gLs (fun i => ((o0 :: os)[i]?).bind (·.dst)) (fun i => ((it :: h).getD i ⟨.top, [], [], [], []⟩).s) σ.g (o0 :: os).length (fun _ => true) ∧ σ'.d = dL4 (fun i => ((it :: h).getD i ⟨.top, [], [], [], []⟩).nw) (fun i => ((it :: h).getD i ⟨.top, [], [], [], []⟩).dl) σ.d (o0 :: os).length (fun _ => true) ∧
        ∀ i o, (o0 :: os)[i]? = some o → AtI4 F ops (fun i => ((o0 :: os)[i]?).bind (·.dst)) (fun i => (it :: h).getD i ⟨.top, [], [], [], []⟩) σ (o0 :: os).length i o) := by
    rintro o0 os σ σ' h it ⟨h1, h2, h3⟩ h0
    refine ⟨by rw [h1, List.length_cons, gLs_first]; rfl, by rw [h2, List.length_cons, dL4_first]; rfl, fun i o hi => ?_⟩
    cases i with
    | zero => simp at hi; subst hi; exact h0
    | succ i =>
      have h4 := h3 i o (by simpa using hi)
      have e1 : gLs (fun i => ((o0 :: os)[i]?).bind (·.dst)) (fun i => ((it :: h).getD i ⟨.top, [], [], [], []⟩).s) σ.g (o0 :: os).length (fun k => decide (k < i + 1)) =
          gLs (fun i => (os[i]?).bind (·.dst)) (fun i => (h.getD i ⟨.top, [], [], [], []⟩).s) (gput o0.dst it.s σ.g) os.length (fun k => decide (k < i)) := by
        rw [List.length_cons, gLs_first]
        simp
      have e2 : dL4 (fun i => ((it :: h).getD i ⟨.top, [], [], [], []⟩).nw) (fun i => ((it :: h).getD i ⟨.top, [], [], [], []⟩).dl) σ.d (o0 :: os).length (fun k => decide (k < i + 1)) =
          dL4 (fun i => (h.getD i ⟨.top, [], [], [], []⟩).nw) (fun i => (h.getD i ⟨.top, [], [], [], []⟩).dl) (it.nw ++ delEs σ.d it.dl) os.length (fun k => decide (k < i)) := by
        rw [List.length_cons, dL4_first]
        simp
      refine ⟨h4.ok, ?_⟩
      rw [e1, e2]; exact h4.cs
  have z1 : ∀ {o0 : Oper} {os : List Oper} {σ : AS} {h : List Itm4} {it : Itm4}, gLs (fun i => ((o0 :: os)[i]?).bind (·.dst)) (fun i => ((it :: h).getD i ⟨.top, [], [], [], []⟩).s) σ.g (o0 :: os).length (fun k => decide (k < 0)) = σ.g := by
    intro o0 os σ h it
    rw [gLs_beyond (m := 0) (Nat.zero_le _) (fun i _ _ => by simp)]; rfl
  have z2 : ∀ {o0 : Oper} {os : List Oper} {σ : AS} {h : List Itm4} {it : Itm4}, dL4 (fun i => ((it :: h).getD i ⟨.top, [], [], [], []⟩).nw) (fun i => ((it :: h).getD i ⟨.top, [], [], [], []⟩).dl) σ.d (o0 :: os).length (fun k => decide (k < 0)) = σ.d := by
    intro o0 os σ h it
    rw [dL4_beyond (m := 0) (Nat.zero_le _) (fun i _ _ => by simp)]; rfl
  induction hp with
  | nil => exact ⟨rfl, rfl, fun i o h => by simp at h⟩
  | cons g j d _ ih =>
    rename_i o os σ σ' s new h _
    refine step (it := ⟨s, new, new, rdl σ.g o, []⟩) ih ⟨d, ?_⟩
    rw [z1, z2]; exact .inl ⟨[], by simp, .inl ⟨g, rfl, rfl, j⟩⟩
  | left g d _ ih =>
    rename_i o os σ σ' h _
    refine step (it := ⟨.top, [], [], rdl σ.g o, []⟩) ih ⟨d, ?_⟩
    rw [z1, z2]; exact .inl ⟨[], by simp, .inr (.inl ⟨g, rfl, rfl, rfl⟩)⟩
  | pu g hd hj hp ih =>
    rename_i o os σ σ' s h
    refine step (it := ⟨s, [], [], [], []⟩) ih ⟨hd, ?_⟩
    rw [z1, z2]; exact .inr ⟨g, rfl, rfl, rfl, hj⟩
  | mv g hd hm hp ih =>
    rename_i o os σ σ' s nw fr dl h
    refine step (it := ⟨s, nw, fr, rdl σ.g o, dl⟩) ih ⟨hd, ?_⟩
    rw [z1, z2]; exact .inl ⟨[], by simp, .inr (.inr ⟨g, fun σ2 hL _ hf => hm σ2 hL hf⟩)⟩
  | mvx g hd hm hp ih =>
    rename_i o os σ σ' s nw fr dl ex h
    refine step (it := ⟨s, nw, fr, rdl σ.g o ++ ex, dl⟩) ih ⟨hd, ?_⟩
    rw [z1, z2]; exact .inl ⟨ex, rfl, .inr (.inr ⟨g, hm⟩)⟩

theorem W.dr4 {id : Nat} {ops : Array Oper} {cs : List Code} {σ σ1 σ' : AS} {its : List Itm4} {Q : Exit → Act → World → Prop} (n : Nat) (ms : List Nat) (hm : F.P.follows .mixedOrders = true) (hp : JP4 F ops (ops.toList.take n) σ its σ1) (ht : J F ops (ops.toList.drop n) σ1 σ')
    (hn : Nat.ble n ops.size = true) (hbk : backOk ops = true) (hms : msOk ops ms = true) (hok : drawOk2 ops n ms = true) (hcm : com4 its ms = true) (hfe : fre4 σ its ms = true) (k : W F cs σ' Q) : W F (.region id ops true :: cs) σ Q := by
  intro a w hs
  have hn := Nat.le_of_ble_eq_true hn
  obtain ⟨l1, hl1⟩ : ∃ l1, l1 = ops.toList.take n := ⟨_, rfl⟩
  obtain ⟨l2, hl2⟩ : ∃ l2, l2 = ops.toList.drop n := ⟨_, rfl⟩
  rw [← hl1] at hp
  rw [← hl2] at ht
  have hl : ops.toList = l1 ++ l2 := by rw [hl1, hl2]; exact (List.take_append_drop n ops.toList).symm
  have hln : l1.length = n := by rw [hl1, List.length_take, Array.length_toList]; exact Nat.min_eq_left hn
  have hil : its.length = n := by rw [hp.len, hln]
  obtain ⟨s1, d1, hst⟩ := hp.at
  obtain ⟨dst, hdstE⟩ : ∃ dst : Nat → Option Tmp, dst = fun i => (l1[i]?).bind (·.dst) := ⟨_, rfl⟩
  obtain ⟨it, hitE⟩ : ∃ it : Nat → Itm4, it = fun i => its.getD i ⟨.top, [], [], [], []⟩ := ⟨_, rfl⟩
  rw [← hdstE, hln] at hst
  rw [← hitE] at hst
  rw [← hdstE, hln] at s1
  rw [hln] at d1
  have s1 : σ1.g = gLs dst (fun i => (it i).s) σ.g n (fun _ => true) := by rw [s1, hitE]
  have d1 : σ1.d = dL4 (fun i => (it i).nw) (fun i => (it i).dl) σ.d n (fun _ => true) := by rw [d1, hitE]
  have hsz : ops.size = l1.length + l2.length := by rw [← Array.length_toList, hl, List.length_append]
  have hget : ∀ i : Nat, ops[i]? = (l1 ++ l2)[i]? := fun i => by rw [← hl]; exact (Array.getElem?_toList).symm
  have hos : ∀ i, i < n → l1[i]? = ops[i]? := fun i hi => by rw [hget, List.getElem?_append_left (by omega)]
  have hdst : ∀ i o, i < n → ops[i]? = some o → dst i = o.dst := fun i o hi ho => by rw [hdstE]; show (l1[i]?).bind _ = _; rw [hos i hi, ho]; rfl
  have hop : ∀ i, i < n → ∃ o, ops[i]? = some o := fun i hi => ⟨ops[i]'(by omega), Array.getElem?_eq_getElem (by omega)⟩
  have hanc := ms_spec hbk hms
  have hat : ∀ i o, i < n → ops[i]? = some o → AtI4 F ops dst it σ n i o := fun i o hi ho => hst i o (by rw [hos i hi]; exact ho)
  have hitE2 : ∀ q, q < n → its[q]? = some (it q) := fun q hq => by
    rw [hitE]; simp only [List.getD_eq_getElem?_getD]; rw [List.getElem?_eq_getElem (by omega)]; rfl
  -- two that do not wait for each other
  have hcom : ∀ i j, i < n → j < n → i ≠ j → Anc ops j i ∨ Anc ops i j ∨ apt4 (it i) (it j) = true := by
    intro i j hi hj hij
    have h1 := List.all_eq_true.1 (List.all_eq_true.1 hcm i (List.mem_range.2 (by omega))) j (List.mem_range.2 (by omega))
    simp only [Bool.or_eq_true] at h1
    rcases h1 with ((h1 | h1) | h1) | h1
    · exact absurd (Nat.eq_of_beq_eq_true h1) hij
    · exact .inl (hanc _ _ h1)
    · exact .inr (.inl (hanc _ _ h1))
    · refine .inr (.inr ?_)
      rw [hitE2 i hi, hitE2 j hj] at h1
      exact h1
  have hapt : ∀ {a b : Itm4} {l : Nat}, apt4 a b = true → (lkE a.nw l ≠ none ∨ l ∈ a.dl) → l ∉ b.rl ∧ l ∉ b.dl ∧ ∀ y ∈ b.nw, y.1 ≠ l := by
    intro a b l h hx
    have hl : l ∈ a.nw.map (·.1) ++ a.dl := by
      rcases hx with hx | hx
      · obtain ⟨e, he⟩ := Option.ne_none_iff_exists'.1 hx
        exact List.mem_append_left _ (List.mem_map.2 ⟨_, lkE_mem he, rfl⟩)
      · exact List.mem_append_right _ hx
    have := List.all_eq_true.1 h _ hl
    simp only [Bool.and_eq_true, Bool.not_eq_true', List.all_eq_true] at this
    refine ⟨fun hc => ?_, fun hc => ?_, fun y hy e => ?_⟩
    · have h2 := this.1.1; simp at h2; exact h2 hc
    · have h2 := this.1.2; simp at h2; exact h2 hc
    · have h2 := this.2 y hy; rw [e] at h2; simp at h2
  obtain ⟨σL, hσL⟩ : ∃ σL : (Nat → Bool) → AS, σL = fun L => ⟨gLs dst (fun i => (it i).s) σ.g n L, dL4 (fun i => (it i).nw) (fun i => (it i).dl) σ.d n L⟩ := ⟨_, rfl⟩
  have hpure : ∀ i o t, i < n → ops[i]? = some o → o.dst = some t → ∀ j o', j < n → ops[j]? = some o' → (j = i ∨ o'.dst ≠ some t) ∧ (t ∈ looks ops o' → Anc ops j i ∨ Anc ops i j) := by
    intro i o t hi ho hd j o' hj ho'
    have h1 := List.all_eq_true.1 hok i (List.mem_range.2 (by omega))
    simp only [ho, if_pos hi, hd] at h1
    have h2 := List.all_eq_true.1 h1 j (List.mem_range.2 hj)
    simp only [ho', Bool.and_eq_true, Bool.or_eq_true, Bool.not_eq_true'] at h2
    obtain ⟨h3, h4⟩ := h2
    refine ⟨h3.imp (fun h => by simpa using h) (fun h => by simpa using h), fun hc => ?_⟩
    rcases h4 with (h4 | h4) | h4
    · simp at h4; exact absurd hc h4
    · exact .inl (hanc _ _ h4)
    · exact .inr (hanc _ _ h4)
  have htail : ∀ {i : Nat} {o : Oper}, ¬ i < n → ops[i]? = some o → ∀ {j : Nat}, j < i → Anc ops i j := by
    intro i o hi ho j hj
    have hlt : i < ops.size := by
      rcases Nat.lt_or_ge i ops.size with h | h
      · exact h
      · simp [Array.getElem?_eq_none h] at ho
    have h1 := List.all_eq_true.1 hok i (List.mem_range.2 hlt)
    simp only [ho, if_neg hi] at h1
    exact hanc _ _ (List.all_eq_true.1 h1 j (List.mem_range.2 hj))
  have hback : ∀ i o, i < ops.size → ops[i]? = some o → ∀ j ∈ deps o, j < i := fun i o _ ho j hj => back_dep hbk ho hj
  have hwait : ∀ m o, n ≤ m → ops[m]? = some o → ∀ j ∈ deps o, j < ops.size ∧ decide (j < m) = true := by
    intro m o _ ho j hj
    have hlt : m < ops.size := by
      rcases Nat.lt_or_ge m ops.size with h | h
      · exact h
      · simp [Array.getElem?_eq_none h] at ho
    have := hback m o hlt ho j hj
    exact ⟨by omega, by simpa using this⟩
  have hfull : ∀ L a w, St F (σL L) a w → (∀ i, i < n → L i = true) → St F σ1 a w := by
    intro L a w h hall
    rw [hσL] at h
    refine St.congr (fun u => ?_) (fun l => ?_) h
    · rw [s1]; exact gLs_congr fun i hi _ => by rw [hall i hi]
    · rw [d1]; exact dL4_congr fun i hi _ => by rw [hall i hi]
  -- one of them
  have hstep : ∀ L a w j o, Down ops L → St F (σL L) a w → j < n → ops[j]? = some o → L j = false → (∀ i ∈ deps o, L i = true) → ∀ K : Act → World → Prop,
      (∀ a' w', St F (σL fun i => i == j || L i) a' w' → K a' w') → wpOpIn F.fe 0 F.P ops (Exit.then (run F.fe F.P Q cs) Q) j K a w := by
    intro L a w j o hdn h hj ho hLj hdep K hK
    have hA := hat j o hj ho
    have hancL : ∀ i, Anc ops j i → L i = true := by
      intro i hi
      cases hi with
      | one ho' hd => rw [ho] at ho'; cases ho'; exact hdep _ hd
      | up ho' hd hr => rw [ho] at ho'; cases ho'; exact hr.down hdn (hdep _ hd)
    have hno : ∀ i, L i = true → ¬ Anc ops i j := fun i hi hc => by rw [hc.down hdn hi] at hLj; cases hLj
    have hgl : ∀ u ∈ looks ops o, lk (σL L).g u = lk (gLs dst (fun i => (it i).s) σ.g n (fun k => decide (k < j))) u := by
      intro u hu
      rw [hσL]
      refine gLs_congr fun i hi hd => ?_
      obtain ⟨oi, hoi⟩ := hop i hi
      rw [hdst i oi hi hoi] at hd
      rcases (hpure i oi u hi hoi hd j o hj ho).2 hu with h1 | h1
      · have := h1.lt hbk
        rw [hancL i h1]; simpa using this
      · have h2 := h1.lt hbk
        have h3 : L i = false := by
          cases hLi : L i with
          | false => rfl
          | true => exact absurd h1 (hno i hLi)
        rw [h3]; simp; omega
    obtain ⟨σ0, hσg, hloc, ex, hex, hcs⟩ : ∃ σ0 : AS, σ0.g = gLs dst (fun i => (it i).s) σ.g n (fun k => decide (k < j)) ∧ Loc ops o σ0 (σL L) ∧ ∃ ex : List Nat, (∀ l ∈ ex, lkE (σL L).d l = lkE σ0.d l) ∧
        ((GK ops σ0.g o true ∧ (it j).fr = (it j).nw ∧ (it j).dl = [] ∧ JO F o σ0 (it j).s (it j).nw) ∨ (GK ops σ0.g o false ∧ (it j).s = .top ∧ (it j).nw = [] ∧ (it j).dl = []) ∨
          (GK ops σ0.g o true ∧ ∀ σ2, Loc ops o σ0 σ2 → (∀ l ∈ ex, lkE σ2.d l = lkE σ0.d l) → σ2.free (it j).fr = true → JM F o σ2 ⟨gput o.dst (it j).s σ2.g, (it j).nw ++ delEs σ2.d (it j).dl⟩)) := by
      rcases hA.cs with ⟨ex, hrl, hcs⟩ | ⟨hg, hnw, hfr, hdl, hjo⟩
      · have hd : ∀ l ∈ (it j).rl, lkE (σL L).d l = lkE (dL4 (fun i => (it i).nw) (fun i => (it i).dl) σ.d n (fun k => decide (k < j))) l := by
          intro l hl
          rw [hσL]
          refine dL4_congr fun i hi hx => ?_
          by_cases hij : i = j
          · subst hij; rw [hLj]; simp
          · rcases hcom i j hi hj hij with h1 | h1 | h1
            · have := h1.lt hbk
              rw [hancL i h1]; simpa using this
            · have h2 := h1.lt hbk
              have h3 : L i = false := by
                cases hLi : L i with
                | false => rfl
                | true => exact absurd h1 (hno i hLi)
              rw [h3]; simp; omega
            · exact absurd hl (hapt h1 hx).1
        exact ⟨⟨gLs dst (fun i => (it i).s) σ.g n (fun k => decide (k < j)), dL4 (fun i => (it i).nw) (fun i => (it i).dl) σ.d n (fun k => decide (k < j))⟩, rfl, ⟨hgl, fun l hl => hd l (by rw [hrl]; exact List.mem_append_left _ hl)⟩, ex, fun l hl => hd l (by rw [hrl]; exact List.mem_append_right _ hl), hcs⟩
      · exact ⟨⟨gLs dst (fun i => (it i).s) σ.g n (fun k => decide (k < j)), (σL L).d⟩, rfl, ⟨hgl, fun l _ => rfl⟩, [], fun l hl => rfl, .inl ⟨hg, by rw [hfr, hnw], hdl, by rw [hnw]; exact hjo _⟩⟩
    -- one that stands behind j and is done does not touch what j makes
    have hbeh : ∀ l, (lkE (it j).nw l ≠ none ∨ l ∈ (it j).dl) → ∀ i, j < i → i < n → (i == j || L i) = true → lkE (it i).nw l = none ∧ l ∉ (it i).dl := by
      intro l hl i hji hi hLi
      have hij : i ≠ j := by omega
      have hLi' : L i = true := by simpa [hij] using hLi
      rcases hcom j i hj hi (Ne.symm hij) with h1 | h1 | h1
      · exact absurd h1 (hno i hLi')
      · have := h1.lt hbk; omega
      · refine ⟨?_, ?_⟩
        · cases hy : lkE (it i).nw l with
          | none => rfl
          | some e => exact absurd rfl ((hapt (l := l) h1 hl).2.2 _ (lkE_mem hy))
        · exact (hapt (l := l) h1 hl).2.1
    -- what is known then
    have hafter : ∀ a' w', St F ⟨gput o.dst (it j).s (σL L).g, (it j).nw ++ delEs (σL L).d (it j).dl⟩ a' w' → St F (σL fun i => i == j || L i) a' w' := by
      intro a' w' h'
      rw [hσL] at h' ⊢
      refine St.congr (fun u => ?_) (fun l => ?_) h'
      · show lk (gLs _ _ _ _ _) u = lk (gput _ _ (gLs _ _ _ _ _)) u
        rw [lk_gput]
        split
        · rename_i hd
          refine gLs_at (by rw [hdst j o hj ho]; exact hd) (by simp) hj fun i hi hij hc => ?_
          obtain ⟨oi, hoi⟩ := hop i hi
          rw [hdst i oi hi hoi] at hc
          rcases (hpure j o u hj ho hd i oi hi hoi).1 with h1 | h1
          · exact hij h1
          · exact h1 hc
        · rename_i hd
          refine gLs_congr fun i hi hc => ?_
          by_cases hij : i = j
          · subst hij; rw [hdst i o hi ho] at hc; exact absurd hc hd
          · simp [hij]
      · show lkE (dL4 _ _ _ _ _) l = lkE (_ ++ delEs (dL4 _ _ _ _ _) _) l
        rw [lkE_append]
        cases hx : lkE (it j).nw l with
        | some en => exact dL4_at hx (by simp) hj (hbeh l (.inl (by rw [hx]; simp)))
        | none =>
          simp only [Option.none_or]
          rw [lkE_delEs]
          by_cases hg : l ∈ (it j).dl
          · rw [if_pos hg]
            exact dL4_gone hx hg (by simp) hj (hbeh l (.inr hg))
          · rw [if_neg hg]
            refine dL4_congr fun i hi hc => ?_
            by_cases hij : i = j
            · subst hij; rcases hc with hc | hc
              · exact absurd hx hc
              · exact absurd hc hg
            · simp [hij]
    have hfree : AS.free (σL L) (it j).fr = true := by
      refine List.all_eq_true.2 fun x hx => ?_
      have h0 := List.all_eq_true.1 hfe j (List.mem_range.2 (by omega))
      rw [hitE2 j hj] at h0
      have h1 := List.all_eq_true.1 h0 x hx
      simp only [Bool.and_eq_true, List.all_eq_true, Bool.or_eq_true] at h1
      obtain ⟨⟨h1, h2⟩, h3⟩ := h1
      have h4 : ∀ i, i < n → L i = true → (!(it i).s.lab.contains x.1) = true ∧ ∀ y ∈ (it i).nw, (!Nat.beq y.1 x.1) = true ∧ (!y.2.lab.contains x.1) = true := by
        intro i hi hLi
        have h5 := h3 i (List.mem_range.2 (by omega))
        rw [hitE2 i hi] at h5
        rcases h5 with (h5 | h5) | h5
        · rw [Nat.eq_of_beq_eq_true h5, hLj] at hLi; cases hLi
        · exact absurd (hanc _ _ h5) (hno i hLi)
        · simp only [Bool.and_eq_true, List.all_eq_true] at h5
          exact h5
      rw [hσL]
      simp only [Bool.and_eq_true, List.all_eq_true]
      refine ⟨fun y hy => ?_, fun y hy => ?_⟩
      · rcases mem_gLs hy with h5 | ⟨i, hi, hLi, e⟩
        · exact h1 y h5
        · rw [e]; exact (h4 i hi hLi).1
      · rcases mem_dL4 hy with h5 | ⟨i, hi, hLi, hy⟩
        · exact h2 y h5
        · exact (h4 i hi hLi).2 y hy
    have hgw : ∀ b, GK ops σ0.g o b → Region.wanted o (yielded ops a.tmps) = b := by
      intro b hg
      obtain ⟨⟨ρ, hc, hsl⟩, _, _⟩ := h
      exact wanted_of (gk_loc hg hloc) fun t s _ ht => hsl t s ht
    unfold wpOpIn
    rw [ho]
    rcases hcs with ⟨hg, hfr, hdl, hjo⟩ | ⟨hg, htop, hnw, hdl⟩ | ⟨hg, hjm⟩
    · simp only [hgw true hg, if_true]
      obtain ⟨⟨ρ, hc, hsl⟩, hz, hde⟩ := h
      refine (JO.loc hjo hloc ρ _ a w (Know.of_st hc hsl _)).wpIn fun v w' hr => hK _ _ (hafter _ _ ?_)
      rw [hfr] at hfree
      have := St.put hc hsl hz hde hfree hA.ok hr
      rw [hdl]
      cases hd : o.dst with
      | none => rw [hd] at this; exact this
      | some t => rw [hd] at this; exact this
    · simp only [hgw false hg, Bool.false_eq_true, if_false]
      refine ⟨fun _ _ => trivial, hK _ _ (hafter _ _ ?_)⟩
      obtain ⟨⟨ρ, hc, hsl⟩, hz, hde⟩ := h
      have := St.put (s := .top) (new := []) (v := undef) (dst := o.dst) hc hsl hz hde rfl hA.ok Res_top
      rw [htop, hnw, hdl]
      cases hd : o.dst with
      | none => rw [hd] at this; exact this
      | some t => rw [hd] at this; exact this
    · simp only [hgw true hg, if_true]
      exact (hjm (σL L) hloc hex hfree a w h).wpIn fun v w' h' => hK _ _ (hafter _ _ h')
  -- whatever order
  have hgetD : ∀ (listed : Array Bool) (L : Nat → Bool), listed.size = ops.size → (∀ i, i < ops.size → listed.getD i false = L i) → ∀ i d, i < ops.size → listed.getD i d = L i := by
    intro listed L hls hL i d hi
    have := hL i hi
    rw [Array.getD_eq_getD_getElem?] at this ⊢
    rw [Array.getElem?_eq_getElem (by omega)] at this ⊢
    simpa using this
  have hready : ∀ (listed : Array Bool) (L : Nat → Bool), listed.size = ops.size → (∀ i, i < ops.size → listed.getD i false = L i) → ∀ i, i ∈ Region.ready .any ops listed ↔
      (i < ops.size ∧ L i = false ∧ ∀ o, ops[i]? = some o → ∀ j ∈ deps o, j < ops.size ∧ L j = true) := by
    intro listed L hls hL i
    unfold Region.ready
    rw [List.mem_filter, List.mem_range]
    constructor
    · rintro ⟨h1, h2⟩
      simp only [Bool.and_eq_true, Bool.not_eq_true'] at h2
      obtain ⟨h2, h3⟩ := h2
      rw [hgetD listed L hls hL i true h1] at h2
      refine ⟨h1, h2, fun o ho j hj => ?_⟩
      rw [ho] at h3
      simp only [Option.map_some, Option.getD_some] at h3
      obtain ⟨e, he, hej⟩ := List.mem_filterMap.1 hj
      have he' : e ∈ o.after := by simpa using he
      have := Array.all_eq_true_iff_forall_mem.1 h3 e he'
      split at hej
      · rename_i hb
        cases hej
        rw [hb] at this
        simp only [Bool.not_true, Bool.false_or] at this
        rcases Nat.lt_or_ge e.on ops.size with hl | hl
        · rw [hgetD listed L hls hL _ _ hl] at this; exact ⟨hl, this⟩
        · rw [Array.getD_eq_getD_getElem?, Array.getElem?_eq_none (by omega)] at this; simp at this
      · cases hej
    · rintro ⟨h1, h2, h3⟩
      refine ⟨h1, ?_⟩
      have ho : ops[i]? = some ops[i] := Array.getElem?_eq_getElem h1
      simp only [Bool.and_eq_true, Bool.not_eq_true', hgetD listed L hls hL i true h1, h2, true_and, ho, Option.map_some, Option.getD_some]
      refine Array.all_eq_true_iff_forall_mem.2 fun e he => ?_
      cases hb : Region.binds .any e with
      | false => rfl
      | true =>
        have := h3 _ ho e.on (List.mem_filterMap.2 ⟨e, by simpa using he, by simp [hb]⟩)
        rw [hgetD listed L hls hL _ _ this.1, this.2]; rfl
  have hset : ∀ (listed : Array Bool) (L : Nat → Bool) (j : Nat), listed.size = ops.size → j < ops.size → (∀ i, i < ops.size → listed.getD i false = L i) → ∀ i, i < ops.size → (listed.setIfInBounds j true).getD i false = (i == j || L i) := by
    intro listed L j hls hj hL i hi
    by_cases hij : i = j
    · subst hij
      simp only [Array.getD_eq_getD_getElem?, Array.getElem?_setIfInBounds]
      simp [hls, hi]
    · rw [getD_set_ne false (Ne.symm hij), hL i hi]; simp [hij]
  have hB : ∀ fuel m (listed : Array Bool) a w, listed.size = ops.size → (∀ i, i < ops.size → listed.getD i false = decide (i < m)) → Down ops (fun i => decide (i < m)) → n ≤ m → m + fuel = ops.size →
      wpListIn F.fe 0 F.P ops (Exit.then (run F.fe F.P Q cs) Q) (ops.toList.drop m) a w → wpAnyIn F.fe 0 F.P .any ops (Exit.then (run F.fe F.P Q cs) Q) fuel listed a w := by
    intro fuel
    induction fuel with
    | zero =>
      intro m listed a w hls hlm _ hnm hmf hw
      refine ⟨List.eq_nil_iff_forall_not_mem.2 fun i hi => ?_, ?_⟩
      · obtain ⟨h1, h2, _⟩ := (hready listed _ hls hlm i).1 hi
        have : i < m := by omega
        simp [this] at h2
      · rw [List.drop_eq_nil_of_le (by rw [Array.length_toList]; omega)] at hw
        exact hw
    | succ fuel ih =>
      intro m listed a w hls hlm hdn hnm hmf hw
      have hmlt : m < ops.size := by omega
      have hom : ops[m]? = some ops[m] := Array.getElem?_eq_getElem hmlt
      have hmr : ∀ i ∈ Region.ready .any ops listed, i = m := by
        intro i hi
        obtain ⟨h1, h2, h3⟩ := (hready listed _ hls hlm i).1 hi
        have him : m ≤ i := by simpa using h2
        rcases Nat.lt_or_ge m i with hlt | hge
        · exfalso
          have ho : ops[i]? = some ops[i] := Array.getElem?_eq_getElem h1
          have hmem := htail (by omega) ho hlt
          cases hmem with
          | one ho' hj => rw [ho] at ho'; cases ho'; have := (h3 _ ho _ hj).2; simp at this
          | up ho' hj hmj =>
            rw [ho] at ho'; cases ho'
            have hjm := (h3 _ ho _ hj).2
            have := hmj.down hdn hjm
            simp at this
        · omega
      have hdrop : ops.toList.drop m = ops[m] :: ops.toList.drop (m + 1) := by
        rw [List.drop_eq_getElem_cons (by rw [Array.length_toList]; exact hmlt)]
        simp
      rw [hdrop] at hw
      refine ⟨fun hr => ?_, fun i hi => ?_⟩
      · exfalso
        -- m itself is ready: what it waits for is ahead of it
        have hnr : m ∉ Region.ready .any ops listed := by rw [hr]; simp
        refine hnr ((hready listed _ hls hlm m).2 ⟨hmlt, by simp, fun o ho j hj => ?_⟩)
        exact hwait m o hnm ho j hj
      · have := hmr i hi
        subst this
        obtain ⟨_, _, h3⟩ := (hready listed _ hls hlm i).1 hi
        have hdn' : Down ops (fun k => decide (k < i + 1)) := by
          intro k o hk ho j hj
          have hk : k < i + 1 := by simpa using hk
          rcases Nat.lt_or_ge k i with h | h
          · have := hdn k o (by simpa using h) ho j hj
            have : j < i := by simpa using this
            simp; omega
          · have : k = i := by omega
            subst this
            have := (h3 o ho j hj).2
            have : j < k := by simpa using this
            simp; omega
        have hnext : ∀ a w, wpListIn F.fe 0 F.P ops (Exit.then (run F.fe F.P Q cs) Q) (ops.toList.drop (i + 1)) a w → wpAnyIn F.fe 0 F.P .any ops (Exit.then (run F.fe F.P Q cs) Q) fuel (listed.setIfInBounds i true) a w := by
          intro a w hw
          refine ih (i + 1) _ a w (by simpa using hls) (fun j hj => ?_) hdn' (by omega) (by omega) hw
          rw [hset listed _ i hls hmlt hlm j hj]
          by_cases hji : j = i
          · subst hji; simp
          · have : (j < i + 1) ↔ j < i := by omega
            simp [hji, this]
        unfold wpOpIn
        rw [hom]
        unfold wpListIn at hw
        split at hw
        · rename_i hwant
          simp only [hwant, if_true]
          exact Oper.wpIn_mono hnext hw
        · rename_i hwant
          simp only [hwant]
          exact ⟨hw.1, hnext _ _ hw.2⟩
  have hA : ∀ fuel (listed : Array Bool) (L : Nat → Bool) a w, listed.size = ops.size → (∀ i, i < ops.size → listed.getD i false = L i) → Down ops L → (∀ i, L i = true → i < n) → ((List.range ops.size).filter fun i => L i).length + fuel = ops.size →
      St F (σL L) a w → wpAnyIn F.fe 0 F.P .any ops (Exit.then (run F.fe F.P Q cs) Q) fuel listed a w := by
    intro fuel
    induction fuel with
    | zero =>
      intro listed L a w hls hL hdn hLn hcnt h
      have hall : ∀ i, i < ops.size → L i = true := by
        have hc : ((List.range ops.size).filter fun i => L i).length = (List.range ops.size).length := by simpa using hcnt
        have := List.length_filter_eq_length_iff.1 hc
        exact fun i hi => this i (List.mem_range.2 hi)
      have hnn : ops.size = n := by
        rcases Nat.lt_or_ge n ops.size with h | h
        · have := hLn n (hall n h); omega
        · omega
      have hl2 : l2 = [] := List.eq_nil_of_length_eq_zero (by omega)
      refine ⟨List.eq_nil_iff_forall_not_mem.2 fun i hi => ?_, ?_⟩
      · obtain ⟨h1, h2, _⟩ := (hready listed _ hls hL i).1 hi
        rw [hall i h1] at h2; cases h2
      · have hst1 := hfull L a w h fun i hi => hall i (by omega)
        have := ht (Exit.then (run F.fe F.P Q cs) Q) [] a w hst1 (fun a' w' h' => wpListIn_nil (k a' w' h'))
        rw [hl2] at this
        exact this
    | succ fuel ih =>
      intro listed L a w hls hL hdn hLn hcnt h
      by_cases hall : ∀ i, i < n → L i = true
      · -- all of the first are done: the others, in the text's order
        have hst1 := hfull L a w h hall
        have hw := ht (Exit.then (run F.fe F.P Q cs) Q) [] a w hst1 (fun a' w' h' => wpListIn_nil (k a' w' h'))
        have hLd : L = fun i => decide (i < n) := by
          funext i
          cases hLi : L i with
          | true => simp [hLn i hLi]
          | false =>
            rcases Nat.lt_or_ge i n with h | h
            · rw [hall i h] at hLi; cases hLi
            · simp; omega
        have hcn : ((List.range ops.size).filter fun i => L i).length = n := by
          rw [hLd]
          have : ops.size = n + (ops.size - n) := by omega
          rw [this, List.range_add, List.filter_append]
          rw [List.filter_eq_self.2 (by intro i hi; simpa using List.mem_range.1 hi), List.filter_eq_nil_iff.2 (by intro i hi; simp at hi ⊢; omega)]
          simp
        refine hB (fuel + 1) n listed a w hls (fun i hi => by rw [hL i hi, hLd]) (by rw [← hLd]; exact hdn) (Nat.le_refl _) (by omega) ?_
        have : ops.toList.drop n = l2 := by rw [hl, ← hln]; simp
        rw [this]; simpa using hw
      · refine ⟨fun hr => ?_, fun i hi => ?_⟩
        · exfalso
          -- the least one that is not done is ready
          have hex : ∃ i, i < n ∧ L i = false := by
            refine Classical.byContradiction fun hno => hall fun i hi => ?_
            cases hLi : L i with
            | true => rfl
            | false => exact absurd ⟨i, hi, hLi⟩ hno
          obtain ⟨i, ⟨hi, hLi⟩, hmin⟩ : ∃ i, (i < n ∧ L i = false) ∧ ∀ j, j < i → L j = true := by
            obtain ⟨i, hi⟩ := hex
            induction i using Nat.strongRecOn with
            | _ i ihi =>
              by_cases hj : ∃ j, j < i ∧ L j = false
              · obtain ⟨j, h1, h2⟩ := hj; exact ihi j h1 ⟨by omega, h2⟩
              · refine ⟨i, hi, fun j hj' => ?_⟩
                cases hLj : L j with
                | true => rfl
                | false => exact absurd ⟨j, hj', hLj⟩ hj
          have hnr : i ∉ Region.ready .any ops listed := by rw [hr]; simp
          refine hnr ((hready listed _ hls hL i).2 ⟨by omega, hLi, fun o ho j hj => ?_⟩)
          have := hback i o (by omega) ho j hj
          exact ⟨by omega, hmin j this⟩
        · obtain ⟨h1, h2, h3⟩ := (hready listed _ hls hL i).1 hi
          have ho : ops[i]? = some ops[i] := Array.getElem?_eq_getElem h1
          have hin : i < n := by
            refine Classical.byContradiction fun hge => hall fun j hj => ?_
            have hmem := htail hge ho (j := j) (by omega)
            cases hmem with
            | one ho' hj => rw [ho] at ho'; cases ho'; exact (h3 _ ho _ hj).2
            | up ho' hj hmj => rw [ho] at ho'; cases ho'; exact hmj.down hdn (h3 _ ho _ hj).2
          refine hstep L a w i _ hdn h hin ho h2 (fun j hj => (h3 _ ho j hj).2) _ fun a' w' h' => ?_
          refine ih _ _ a' w' (by simpa using hls) (hset listed L i hls h1 hL) ?_ ?_ ?_ h'
          · intro q o hq hoq j hj
            by_cases hqi : q = i
            · subst hqi; simp [(h3 o hoq j hj).2]
            · have : L q = true := by simpa [hqi] using hq
              simp [hdn q o this hoq j hj]
          · intro q hq
            by_cases hqi : q = i
            · omega
            · exact hLn q (by simpa [hqi] using hq)
          · have : ((List.range ops.size).filter fun q => q == i || L q).length = ((List.range ops.size).filter fun q => L q).length + 1 := count_add ops.size i L h1 h2
            omega
  refine wpIn_region_any hm ?_
  refine hA ops.size _ (fun _ => false) a _ (by simp) (fun i hi => by rw [Array.getD_eq_getD_getElem?, Array.getElem?_replicate, if_pos hi]; rfl) (fun _ _ h => by cases h) (fun _ h => by cases h) (by rw [List.filter_eq_nil_iff.2 (fun _ _ h => by cases h)]; simp) ?_
  obtain ⟨⟨ρ, hc, hsl⟩, hz, hde⟩ := hs
  have hb : Below w.heap.size w { w with drawn := w.drawn + 1 } := (Below.refl _ _).drew
  obtain ⟨hc', hE⟩ := hc.below hb
  have e0 : σL (fun _ => false) = σ := by
    rw [hσL]
    show (⟨gLs _ _ _ _ _, dL4 _ _ _ _ _⟩ : AS) = σ
    rw [gLs_beyond (m := 0) (Nat.zero_le _) (fun _ _ _ => rfl), dL4_beyond (m := 0) (Nat.zero_le _) (fun _ _ _ => rfl)]; rfl
  rw [e0]
  exact ⟨⟨ρ, hc', fun t s hts => Slot.ok_mono s _ (hsl t s hts) hE (fun _ _ => rfl)⟩, hz, hde⟩
section
variable {os : List Oper} {σ σ' : AS} {its : List Itm4} {s s0 : Slot} {d : Option Tmp} {pb : Option Nat} {ty : TypeId} {p : String} {af : Array Edge} {gd : Option (Nat × Bool)} {x y : Operand}
theorem JP4.store {T U : TypeId} {l : List Slot} {i off n : Nat} (g : GK ops σ.g ⟨none, .store U x y, ty, p, af, gd⟩ true) (hx : evS σ.g x = some (.ptr i off)) (he : lkE σ.d i = some (.box T l pb)) (ho : offAt l off = some s0) (hy : evS σ.g y = some s) (hp : s.plain = true) (hsz : Nat.beq s.sz n = true) (hsz0 : Nat.beq s0.sz n = true)
    (hS : ∀ w, (sizeOf U).run F.P w = .ok n w) (k : JP4 F ops os ⟨σ.g, (i, .box T (setOff l off s) pb) :: σ.d⟩ its σ') :
    JP4 F ops (⟨none, .store U x y, ty, p, af, gd⟩ :: os) σ (⟨.top, [(i, .box T (setOff l off s) pb)], [], rdl σ.g ⟨none, .store U x y, ty, p, af, gd⟩, []⟩ :: its) σ' :=
  .mv g rfl (fun σ2 hL _ => JM.store ((hL.ev (by simp [Op.operands])).trans hx) ((hL.ent (x := x) (by simp [Op.operands]) hx (by simp [Slot.lab])).trans he) ho ((hL.ev (by simp [Op.operands])).trans hy) hp hsz hsz0 hS) k
theorem JP4.storeAll {α : Type} {e : Enc α} {z : α} {T U : TypeId} {l l' : List Slot} {i : Nat} (g : GK ops σ.g ⟨none, .store U x y, ty, p, af, gd⟩ true) (hx : evS σ.g x = some (.ptr i 0)) (he : lkE σ.d i = some (.box T l pb)) (hl : Nat.beq (l.map Slot.sz).sum e.n = true) (hy : evS σ.g y = some (.v e z)) (hl' : Spl l' e z)
    (hS : ∀ w, (sizeOf U).run F.P w = .ok e.n w) (k : JP4 F ops os ⟨σ.g, (i, .box T l' pb) :: σ.d⟩ its σ') :
    JP4 F ops (⟨none, .store U x y, ty, p, af, gd⟩ :: os) σ (⟨.top, [(i, .box T l' pb)], [], rdl σ.g ⟨none, .store U x y, ty, p, af, gd⟩, []⟩ :: its) σ' :=
  .mv g rfl (fun σ2 hL _ => JM.storeAll ((hL.ev (by simp [Op.operands])).trans hx) ((hL.ent (x := x) (by simp [Op.operands]) hx (by simp [Slot.lab])).trans he) hl ((hL.ev (by simp [Op.operands])).trans hy) hl' hS) k
theorem JP4.storeAgg {T U : TypeId} {l l' : List Slot} {i n : Nat} (g : GK ops σ.g ⟨none, .store U x y, ty, p, af, gd⟩ true) (hx : evS σ.g x = some (.ptr i 0)) (he : lkE σ.d i = some (.box T l pb)) (hl : (l.map Slot.sz).sum = n) (hy : evS σ.g y = some (.agg l')) (hl' : (l'.map Slot.sz).sum = n) (hnt : l'.all Slot.plain = true)
    (hS : ∀ w, (sizeOf U).run F.P w = .ok n w) (k : JP4 F ops os ⟨σ.g, (i, .box T l' pb) :: σ.d⟩ its σ') :
    JP4 F ops (⟨none, .store U x y, ty, p, af, gd⟩ :: os) σ (⟨.top, [(i, .box T l' pb)], [], rdl σ.g ⟨none, .store U x y, ty, p, af, gd⟩, []⟩ :: its) σ' :=
  .mv g rfl (fun σ2 hL _ => JM.storeAgg ((hL.ev (by simp [Op.operands])).trans hx) ((hL.ent (x := x) (by simp [Op.operands]) hx (by simp [Slot.lab])).trans he) hl ((hL.ev (by simp [Op.operands])).trans hy) hl' hnt hS) k
/-- a source that another state knows as well -/
theorem Src.loc {α : Type} {e : Enc α} {ys : List α} {o : Oper} {σ2 : AS} (h : Src σ y e ys) (hL : Loc ops o σ σ2) (hm : y ∈ o.op.operands) : Src σ2 y e ys := fun ρ S a w K =>
  h ρ S a w ⟨K.low, fun x hx s hs => K.slot x hx s (by have : x = y := by simpa using hx
                                                       subst this; rw [hL.ev hm]; exact hs), fun x hx s hs i hi en he => K.ent x hx s (by have : x = y := by simpa using hx
                                                                                                                                          subst this; rw [hL.ev hm]; exact hs) i hi en (by have : x = y := by simpa using hx
                                                                                                                                                                                           subst this; rw [hL.ent hm hs hi]; exact he)⟩
theorem JP4.append {α : Type} {e : Enc α} {xs ys zs : List α} {T U : TypeId} {ti : TypeInfo} {z : Value} {i : Nat} (g : GK ops σ.g ⟨d, .call ⟨.builtin .append, #[x, y], #[U, U]⟩, ty, p, af, gd⟩ true) (j : Nat) (ha : app xs ys = some zs) (hx : evS σ.g x = some (.ref i)) (he : lkE σ.d i = some (.arr T e xs)) (hy : Src σ y e ys)
    (hU : ∀ w, (underlying U).run F.P w = .ok (.slice T) w) (hI : ∀ w, (typeInfo T).run F.P w = .ok ti w) (hS : ∀ w, (sizeOf T).run F.P w = .ok e.n w) (hz : ti.zero = some z) (hzs : z.cells.size = e.n) (hby : Nat.ble ti.bytes 4096 = true)
    (_ : σ.free [(j, .arr T e zs)] = true) (hd : dstOk d F.N = true) (k : JP4 F ops os ⟨gput d (.ref j) σ.g, (j, .arr T e zs) :: delE σ.d i⟩ its σ') :
    JP4 F ops (⟨d, .call ⟨.builtin .append, #[x, y], #[U, U]⟩, ty, p, af, gd⟩ :: os) σ (⟨.ref j, [(j, .arr T e zs)], [(j, .arr T e zs)], rdl σ.g ⟨d, .call ⟨.builtin .append, #[x, y], #[U, U]⟩, ty, p, af, gd⟩, [i]⟩ :: its) σ' :=
  .mv (nw := [(j, .arr T e zs)]) (dl := [i]) g hd (fun σ2 hL hf => JM.append j ha ((hL.ev (by simp [Op.operands, Call.operands])).trans hx) ((hL.ent (x := x) (by simp [Op.operands, Call.operands]) hx (by simp [Slot.lab])).trans he) (hy.loc hL (by simp [Op.operands, Call.operands])) hU hI hS hz hzs hby hf hd) k
end
end
end Go.Sw

namespace Go.Sw
open Go Go.RowKit
section
variable {F : Frm} {σ : AS} {pb : Option Nat} {s : Slot} {d : Option Tmp} {ty : TypeId} {p : String} {af : Array Edge} {gd : Option (Nat × Bool)} {x y z : Operand}
/-- a result told otherwise: what of it is ours no more is what nobody writes -/
theorem Res.cv {ρ : Nat → LV} {S : Nat → Prop} {w w' : World} {v : Value} {s s' : Slot} {new new' : List (Nat × Ent)} (hlow : ∀ k, S k → k < w.heap.size) (h : Res ρ S w s new v w')
    (hsub : ∀ F : Frm, Sub F ⟨[(0, s)], new⟩ ⟨[(0, s')], new'⟩) (hcl : closed s' new' = true) : Res ρ S w s' new' v w' := by
  obtain ⟨ρ', h1, h2, h3, h4⟩ := h
  let F' : Frm := ⟨default, 1, S, w, fun _ => False, none, []⟩
  have hc : Core F' new ρ' w' := ⟨hlow, h2.size, fun k hk _ => h2.block k hk, h2.os, h2.tape, h2.output, h4.own, fun i en b hi hb => ⟨.inl (h4.fresh i en b hi hb).1, (h4.fresh i en b hi hb).2⟩, h4.inj,
    fun i en b hi hb hS => by have := hlow b hS; have := (h4.fresh i en b hi hb).1; omega⟩
  let a : Act := ⟨#[v], []⟩
  have h0 : St F' ⟨[(0, s)], new⟩ a w' := ⟨⟨ρ', hc, fun t s1 ht => by
    simp only [lk] at ht
    cases hb : Nat.beq 0 t with
    | true => have := Nat.eq_of_beq_eq_true hb; subst this; simp at ht; subst ht; exact h3
    | false => rw [hb] at ht; cases ht⟩, rfl, rfl⟩
  obtain ⟨⟨ρ2, hc2, hs2⟩, _, _⟩ := hsub F' a w' h0
  have hs2 : s'.ok ρ2 (Un S ρ2 new') w' v := hs2 0 s' rfl
  simp only [closed, Bool.and_eq_true, List.all_eq_true] at hcl
  let ρ3 : Nat → LV := fun i => if (lkE new' i).isSome then ρ2 i else ρ i
  have r3 : ∀ i en, lkE new' i = some en → ρ3 i = ρ2 i := fun i en h => if_pos (by rw [h]; rfl)
  have r3' : ∀ i, (lkE new' i).isSome = true → ρ3 i = ρ2 i := fun i h => if_pos h
  have hU : Un S ρ3 new' = Un S ρ2 new' := by
    funext k; apply propext
    constructor
    · rintro (h | ⟨i, en, h5, h6⟩)
      · exact .inl h
      · exact .inr ⟨i, en, h5, by rw [← r3 i en h5]; exact h6⟩
    · rintro (h | ⟨i, en, h5, h6⟩)
      · exact .inl h
      · exact .inr ⟨i, en, h5, by rw [r3 i en h5]; exact h6⟩
  have hE : Ext (Un S ρ2 new') (Un S ρ3 new') w' w' := ⟨Nat.le_refl _, fun k _ h => ⟨rfl, by rw [hU]; exact h⟩⟩
  refine ⟨ρ3, fun i h => if_neg (by rw [h]; simp), h2, Slot.ok_mono s' v hs2 hE (fun i hi => congrArg LV.v (r3' i (hcl.1 i hi))), ⟨fun i en h => ?_, fun i en b h hb => ?_, fun i j en en' b h h' hb hb' => ?_⟩⟩
  · rw [r3 i en h]
    exact Ent.ok_mono (hc2.own i en h) hE (fun q hq => congrArg LV.v (r3' q (hcl.2 _ (lkE_mem h) q hq))) (fun _ _ => rfl)
  · rw [r3 i en h] at hb
    have := hc2.fresh i en b h hb
    exact ⟨this.1.resolve_right (fun h => h), this.2⟩
  · rw [r3 i en h] at hb; rw [r3 j en' h'] at hb'
    exact hc2.inj i j en en' b h h' hb hb'
theorem JO.cv {o : Oper} {s s' : Slot} {new new' : List (Nat × Ent)} (h : JO F o σ s new) (hsub : ∀ F : Frm, Sub F ⟨[(0, s)], new⟩ ⟨[(0, s')], new'⟩) (hcl : closed s' new' = true) : JO F o σ s' new' := by
  intro ρ S a w K
  exact (h ρ S a w K).mono fun v w' hr => hr.cv K.low hsub hcl
end
end Go.Sw

namespace Go.Sw
open Go Go.RowKit
section
variable {F : Frm} {σ : AS} {pb : Option Nat} {s : Slot} {d : Option Tmp} {ty : TypeId} {p : String} {af : Array Edge} {gd : Option (Nat × Bool)} {x y z : Operand} {α : Type} {e : Enc α} {T U : TypeId} {i : Nat}
/-! ### a slice of ours cut shorter -/
theorem arrOk.sub {xs ys : List α} {lo hi : Int} {S : Nat → Prop} {w : World} {v : Value} {a : Option Addr} {cap : Nat} (hs : Sw.sub xs lo hi = some ys) (h : arrOk T e xs S w v) (hv : v = .slice a xs.length cap) :
    arrOk T e ys S w (.slice (if cap = lo.toNat then a else a.map (·.add (lo.toNat * e.n))) (hi.toNat - lo.toNat) (cap - lo.toNat)) := by
  obtain ⟨h0, h1, h2, rfl⟩ := sub_some hs
  rcases h with ⟨rfl, rfl⟩ | ⟨b, cap', pre, cs, post, rfl, h4, h5, h6, h7, h8⟩
  · simp only [Value.slice.injEq, List.length_nil] at hv
    obtain ⟨rfl, _, rfl⟩ := hv
    have : lo.toNat = 0 := by simp at h2; omega
    have : hi.toNat = 0 := by simp at h2; omega
    refine .inl ⟨by simp, ?_⟩
    simp [*]
  · simp only [Value.slice.injEq, true_and] at hv
    obtain ⟨rfl, rfl⟩ := hv
    have hcl := Enc.okL_len h5
    obtain ⟨l, hl⟩ : ∃ l, l = lo.toNat := ⟨_, rfl⟩
    obtain ⟨m, hm⟩ : ∃ m, m = hi.toNat := ⟨_, rfl⟩
    rw [← hl, ← hm]
    have hlm : l ≤ m := by omega
    have hmx : m ≤ xs.length := by omega
    have e1 : l * e.n ≤ m * e.n := Nat.mul_le_mul_right _ hlm
    have e2 : m * e.n ≤ xs.length * e.n := Nat.mul_le_mul_right _ hmx
    have hlen : ((xs.take m).drop l).length = m - l := by rw [List.length_drop, List.length_take]; omega
    by_cases hc : cap' = l
    · rw [if_pos hc]
      have hm2 : m - l = 0 := by omega
      refine .inr ⟨b, cap' - l, pre, [], cs ++ post, by rw [hlen], by simpa using h4, ?_, by omega, ?_, by omega⟩
      · have : (xs.take m).drop l = [] := List.eq_nil_of_length_eq_zero (by omega)
        rw [this]; rfl
      · rw [hc, Nat.sub_self]; simp
    · rw [if_neg hc]
      refine .inr ⟨b, cap' - l, pre ++ cs.take (l * e.n), (cs.take (m * e.n)).drop (l * e.n), cs.drop (m * e.n) ++ post, ?_, ?_, okL_drop _ (okL_take _ h5), by omega, ?_, by omega⟩
      · rw [hlen]
        simp only [Option.map_some, Addr.add_lit, List.length_append, List.length_take, hcl]
        rw [Nat.min_eq_left (by omega)]
      · rw [h4]
        have : pre ++ (cs ++ post) = pre ++ cs.take (l * e.n) ++ ((cs.take (m * e.n)).drop (l * e.n) ++ (cs.drop (m * e.n) ++ post)) := by
          have k1 : cs = cs.take (l * e.n) ++ ((cs.take (m * e.n)).drop (l * e.n) ++ cs.drop (m * e.n)) := by
            have k2 : cs.take (l * e.n) = (cs.take (m * e.n)).take (l * e.n) := by rw [List.take_take, Nat.min_eq_left e1]
            rw [← List.append_assoc, k2, List.take_append_drop, List.take_append_drop]
          conv => lhs; rw [k1]
          simp only [List.append_assoc]
        rw [this]
      · simp only [List.length_append, List.length_drop, List.length_take, hcl]
        rw [Nat.min_eq_left (by omega)]
        have : (cap' - l) * e.n + l * e.n = cap' * e.n := by rw [← Nat.add_mul]; congr 1; omega
        omega
theorem St.resl {ρ : Nat → LV} {a : Act} {w : World} {xs ys : List α} {lo hi : Int} {j : Nat} {ad : Option Addr} {cap : Nat} (hc : Core F σ.d ρ w) (hs : ∀ t s, lk σ.g t = some s → s.ok ρ (Un F.S0 ρ σ.d) w (a.tmps.getD t undef)) (hz : a.tmps.size = F.N) (hde : a.defers = F.df)
    (hsub : Sw.sub xs lo hi = some ys) (he : lkE σ.d i = some (.arr T e xs)) (hv : (ρ i).v = .slice ad xs.length cap) (hf : σ.free [(j, .arr T e ys)] = true) (hd : dstOk d F.N = true) :
    St F ⟨gput d (.ref j) σ.g, (j, .arr T e ys) :: delE σ.d i⟩ (a.put d (.slice (if cap = lo.toNat then ad else ad.map (·.add (lo.toNat * e.n))) (hi.toNat - lo.toNat) (cap - lo.toNat))) w := by
  have harr : arrOk T e xs (Un F.S0 ρ σ.d) w (ρ i).v := hc.own i _ he
  have h2 := harr.sub hsub hv
  refine St.repl (u := .of _) hc hs hz hde he hf hd (Chg.refl _ _) (.inl ⟨_, _, _, rfl⟩) rfl (fun b hb => ?_) (fun S' ρ' hE => h2.mono hE fun _ _ => rfl)
  have hb' : Has (ρ i) b := by
    left
    rw [hv]
    have h3 := Has_of.1 hb
    cases ad with
    | none => simp [blk] at h3
    | some q =>
      by_cases hq : cap = lo.toNat
      · rw [if_pos hq] at h3; exact h3
      · rw [if_neg hq] at h3
        simp only [Option.map_some, blk, Option.some.injEq] at h3 ⊢
        rw [← h3]
        have hsp : q.spot = none := by
          rcases harr with ⟨_, h⟩ | ⟨b', cap', pre, cs, post, h, _⟩
          · rw [hv] at h; cases h
          · rw [hv] at h; simp only [Value.slice.injEq, Option.some.injEq] at h; rw [h.1]
        obtain ⟨b', o', sp⟩ := q
        simp only at hsp; subst hsp
        rw [Addr.add_lit]
  exact ⟨.inl hb', (hc.fresh i _ b he hb').2⟩
theorem JM.slHi {xs ys : List α} {hi : Int} {k' : IntKind} {E : TypeId} (j : Nat) (hs : Sw.sub xs 0 hi = some ys) (hx : evS σ.g x = some (.ref i)) (he : lkE σ.d i = some (.arr T e xs)) (hz : evS σ.g z = some (.v (Enc.int k') hi))
    (hU : ∀ w, (underlying U).run F.P w = .ok (.slice E) w) (hE : ∀ w, (sizeOf E).run F.P w = .ok e.n w) (hf : σ.free [(j, .arr T e ys)] = true) (hd : dstOk d F.N = true) : JM F ⟨d, .slice U x none (some z) none, ty, p, af, gd⟩ σ ⟨gput d (.ref j) σ.g, (j, .arr T e ys) :: delE σ.d i⟩ := by
  rintro a w ⟨⟨ρ, hc, hsl⟩, hsz, hde⟩
  have K := Know.of_st hc hsl (Op.slice U x none (some z) none).operands
  obtain ⟨ad, cap, h1, h2, h2', h3⟩ := K_arr K (x := x) (by simp [Op.operands]) hx he
  have h5 := (K_int K (x := z) (by simp [Op.operands]) hz).1
  obtain ⟨s0, s1, s2, _⟩ := sub_some hs
  refine OpWp.value (w' := w) ?_ (St.resl hc hsl hsz hde hs he h2' hf hd)
  simp [execOp, Instr.sliceAt, Instr.slice, h1, h5, hU, hE, bounds_h s1 (show hi ≤ (cap : Int) by omega)]
theorem JM.slLo {xs ys : List α} {lo : Int} {k : IntKind} {E : TypeId} (j : Nat) (hs : Sw.sub xs lo (xs.length : Int) = some ys) (hx : evS σ.g x = some (.ref i)) (he : lkE σ.d i = some (.arr T e xs)) (hy : evS σ.g y = some (.v (Enc.int k) lo))
    (hU : ∀ w, (underlying U).run F.P w = .ok (.slice E) w) (hE : ∀ w, (sizeOf E).run F.P w = .ok e.n w) (hf : σ.free [(j, .arr T e ys)] = true) (hd : dstOk d F.N = true) : JM F ⟨d, .slice U x (some y) none none, ty, p, af, gd⟩ σ ⟨gput d (.ref j) σ.g, (j, .arr T e ys) :: delE σ.d i⟩ := by
  rintro a w ⟨⟨ρ, hc, hsl⟩, hsz, hde⟩
  have K := Know.of_st hc hsl (Op.slice U x (some y) none none).operands
  obtain ⟨ad, cap, h1, h2, h2', h3⟩ := K_arr K (x := x) (by simp [Op.operands]) hx he
  have h4 := (K_int K (x := y) (by simp [Op.operands]) hy).1
  obtain ⟨s0, s1, s2, _⟩ := sub_some hs
  refine OpWp.value (w' := w) ?_ (St.resl hc hsl hsz hde hs he h2' hf hd)
  simp [execOp, Instr.sliceAt, Instr.slice, h1, h4, hU, hE, bounds_l s0 s1]
/-! ### what is cleared -/
end
end Go.Sw

namespace Go.Sw
open Go Go.RowKit
/-- a pointer to what nobody writes, or nil -/
def Enc.ptN {α : Type} (e : Enc α) : Enc (Option α) where
  n := 1
  agg := false
  ok x S w cs := match x with
    | none => cs = [.pointer none]
    | some z => ∃ b off ds, cs = [.pointer (some ⟨b, off, none⟩)] ∧ b < w.heap.size ∧ ¬ S b ∧ MemAt w b off ds ∧ e.ok z S w ds
  len {x _ _ _} h := by
    cases x with
    | none => rw [h]; rfl
    | some z => obtain ⟨_, _, _, h, _⟩ := h; rw [h]; rfl
  one _ := rfl
  cell {x _ _ _} h c hc := by
    cases x with
    | none => rw [h] at hc; simp at hc; subst hc; rfl
    | some z => obtain ⟨_, _, _, h, _⟩ := h; rw [h] at hc; simp at hc; subst hc; rfl
  mono {x _ _ _ _ _} h k := by
    cases x with
    | none => exact h
    | some z =>
      obtain ⟨b, off, ds, h1, h2, h3, h4, h5⟩ := h
      exact ⟨b, off, ds, h1, Nat.lt_of_lt_of_le h2 k.size, (k.keep b h2 h3).2, h4.mono h2 h3 k, e.mono h5 k⟩
section
variable {F : Frm} {σ : AS} {pb : Option Nat} {s : Slot} {d : Option Tmp} {ty : TypeId} {p : String} {af : Array Edge} {gd : Option (Nat × Bool)} {x y z : Operand} {α : Type} {e : Enc α}
theorem Z.ptN (e : Enc α) : ∀ S w, (Enc.ptN e).ok none S w [.pointer none] := fun _ _ => rfl
end
end Go.Sw

namespace Go.Sw
open Go Go.RowKit
/-- a piece of a row of cells: elements, or so many cells whatever -/
inductive Seg (α : Type) where
  | rows (xs : List α)
  | any (n : Nat)
def Seg.ok {α : Type} (e : Enc α) (S : Nat → Prop) (w : World) : Seg α → List Value → Prop
  | .rows xs, cs => e.okL xs S w cs
  | .any n, cs => cs.length = n
def Seg.okL {α : Type} (e : Enc α) (S : Nat → Prop) (w : World) : List (Seg α) → List Value → Prop
  | [], cs => cs = []
  | s :: r, cs => ∃ c d, cs = c ++ d ∧ s.ok e S w c ∧ Seg.okL e S w r d
section
variable {α : Type} {e : Enc α} {S S' : Nat → Prop} {w w' : World}
theorem Seg.ok_mono {s : Seg α} {cs} (h : s.ok e S w cs) (k : Ext S S' w w') : s.ok e S' w' cs := by
  cases s with
  | rows xs => exact Enc.okL_mono h k
  | any n => exact h
theorem Seg.okL_mono : ∀ {q : List (Seg α)} {cs}, Seg.okL e S w q cs → Ext S S' w w' → Seg.okL e S' w' q cs
  | [], _, h, _ => h
  | _ :: _, _, ⟨c, d, h1, h2, h3⟩, k => ⟨c, d, h1, Seg.ok_mono h2 k, Seg.okL_mono h3 k⟩
end
/-- a block of ours, piece by piece -/
def DE.seg {α : Type} (T : TypeId) (e : Enc α) (b : Nat) : DE (List (Seg α)) where
  ok q S w u _ := u.v = .pointer (some ⟨b, 0, none⟩) ∧ ∃ cs, w.heap[b]? = some (.cells cs.toArray T (0, 0)) ∧ Seg.okL e S w q cs
  mono := by
    rintro q S S' w w' u l ⟨h1, cs, h2, h3⟩ hE hb
    exact ⟨h1, cs, by rw [hb b (.inl (by rw [h1]; rfl))]; exact h2, Seg.okL_mono h3 hE⟩
section
variable {F : Frm} {σ : AS} {pb : Option Nat} {s : Slot} {d : Option Tmp} {ty : TypeId} {p : String} {af : Array Edge} {gd : Option (Nat × Bool)} {x y z : Operand} {α : Type} {e : Enc α} {T U : TypeId} {i b : Nat}
/-! ### slices into such a row -/
theorem asl_val {ρ : Nat → LV} {S : Nat → Prop} {w : World} {o n c : Nat} {v : Value} (h : (Slot.asl i o 0 n c).ok ρ S w v) : ∃ b, (ρ i).v = .pointer (some ⟨b, 0, none⟩) ∧ v = .slice (some ⟨b, o, none⟩) n c := by
  simp only [Slot.ok] at h
  obtain ⟨⟨b, h1⟩, h2⟩ := h
  exact ⟨b, h1, by rw [h2, h1]; rfl⟩
/-! ### copies -/
end
end Go.Sw

namespace Go.Sw
open Go Go.RowKit
section
variable {F : Frm} {σ : AS} {pb : Option Nat} {s : Slot} {d : Option Tmp} {ty : TypeId} {p : String} {af : Array Edge} {gd : Option (Nat × Bool)} {x y z : Operand} {α : Type} {e : Enc α} {T U : TypeId} {i b : Nat}
theorem K_seg' {xs : Array Operand} {ρ : Nat → LV} {S a w} (K : Know σ xs ρ S a w) (hm : x ∈ xs) {o n c : Nat} {q : List (Seg α)} (hx : evS σ.g x = some (.asl i o 0 n c)) (he : lkE σ.d i = some (.dp (DE.seg T e b) q [])) :
    a.eval x = .slice (some ⟨b, o, none⟩) n c ∧ (∃ cs, w.heap[b]? = some (.cells cs.toArray T (0, 0)) ∧ Seg.okL e S w q cs) ∧ S b ∧ b < w.heap.size := by
  obtain ⟨b1, h1, h2⟩ := asl_val (K.slot x hm _ hx)
  obtain ⟨⟨k1, k2⟩, k3⟩ := K.ent x hm _ hx i (by simp [Slot.lab]) _ he
  rw [k1] at h1; cases h1
  exact ⟨h2, k2, k3 b (.inl (by rw [k1]; rfl))⟩
theorem Src.seg {pp q n c o : Nat} {A B : List α} (h : evS σ.g y = some (.asl i o 0 n c)) (he : lkE σ.d i = some (.dp (DE.seg T e b) [.any pp, .rows A, .rows B, .any q] [])) (ho : o = pp + A.length * e.n) (hn : n = B.length) (hsz : B.length ≤ 140737488355328) : Src σ y e B := by
  subst ho hn
  intro ρ S a w K
  obtain ⟨h1, ⟨cs, h2, pre, _, rfl, hpre, ca, _, rfl, k4, cb, _, rfl, k5, post, _, rfl, hpost, rfl⟩, _⟩ := K_seg' K (x := y) (by simp) h he
  have hpre : pre.length = pp := hpre
  have hal := Enc.okL_len k4
  refine ⟨hsz, _, c, h1, .inr ⟨b, _, cb, rfl, ?_, k5⟩⟩
  have h1 := MemAt.of_heap h2
  rw [← List.append_assoc] at h1
  have := MemAt.sub (a := pre ++ ca) (c := cb) (d := post ++ []) h1
  simpa [hpre, hal] using this
/-- elements put in at a place -/
def ins {α : Type} (xs : List α) (n : Int) (vs : List α) : Option (List α) := if 0 ≤ n ∧ n ≤ xs.length ∧ xs.length + vs.length ≤ 4294967296 then some (xs.take n.toNat ++ (vs ++ xs.drop n.toNat)) else none
end
end Go.Sw

namespace Go.Sw
open Go Go.RowKit
/-! ### where a key is -/
def kp {α : Type} [DecidableEq α] : List α → α → Option Nat
  | [], _ => none
  | a :: l, k => if a = k then some 0 else (kp l k).map (· + 1)
theorem kp_lt {α : Type} [DecidableEq α] {k : α} : ∀ {l : List α} {i : Nat}, kp l k = some i → i < l.length ∧ l[i]? = some k
  | [], i, h => by simp [kp] at h
  | a :: l, i, h => by
    simp only [kp] at h
    split at h
    · rename_i ha; cases h; simp [ha]
    · cases hr : kp l k with
      | none => rw [hr] at h; cases h
      | some j => rw [hr] at h; cases h; obtain ⟨h1, h2⟩ := kp_lt hr; exact ⟨by simp; omega, by simpa using h2⟩
/-- the keys of a map's entries -/
def KsL {α : Type} (e : Enc α) (S : Nat → Prop) (w : World) : List α → List MapEntry → Prop
  | [], [] => True
  | k :: ks, x :: xs => e.val k S w x.key ∧ KsL e S w ks xs
  | _, _ => False
theorem KsL.mono {α : Type} {e : Enc α} {S S' : Nat → Prop} {w w' : World} (k : Ext S S' w w') : ∀ {m : List α} {xs : List MapEntry}, KsL e S w m xs → KsL e S' w' m xs
  | [], [], _ => trivial
  | _ :: _, _ :: _, ⟨h1, h3⟩ => ⟨Enc.val_mono h1 k, KsL.mono k h3⟩
  | [], _ :: _, h => h.elim
  | _ :: _, [], h => h.elim
theorem KsL.len {α : Type} {e : Enc α} {S : Nat → Prop} {w : World} : ∀ {m : List α} {xs : List MapEntry}, KsL e S w m xs → xs.length = m.length
  | [], [], _ => rfl
  | _ :: _, _ :: _, ⟨_, h3⟩ => by simp [h3.len]
  | [], _ :: _, h => h.elim
  | _ :: _, [], h => h.elim
theorem KsL.get {α : Type} {e : Enc α} {S : Nat → Prop} {w : World} : ∀ {m : List α} {xs : List MapEntry}, KsL e S w m xs → ∀ {i : Nat} {k : α} {x : MapEntry}, m[i]? = some k → xs[i]? = some x → e.val k S w x.key
  | [], [], _, i, k, x, h, _ => by simp at h
  | _ :: _, _ :: _, ⟨h1, h3⟩, i, k, x, h, h' => by
    cases i with
    | zero => simp at h h'; subst h; subst h'; exact h1
    | succ i => exact h3.get (by simpa using h) (by simpa using h')
  | [], _ :: _, h, _, _, _, _, _ => h.elim
  | _ :: _, [], h, _, _, _, _, _ => h.elim
theorem KsL.push {α : Type} {e : Enc α} {S : Nat → Prop} {w : World} {k : α} {x : MapEntry} (h1 : e.val k S w x.key) : ∀ {m : List α} {xs : List MapEntry}, KsL e S w m xs → KsL e S w (m ++ [k]) (xs ++ [x])
  | [], [], _ => ⟨h1, trivial⟩
  | _ :: _, _ :: _, ⟨h3, h5⟩ => ⟨h3, KsL.push h1 h5⟩
  | [], _ :: _, h => h.elim
  | _ :: _, [], h => h.elim
theorem KsL.modify {α : Type} {e : Enc α} {S : Nat → Prop} {w : World} {f : MapEntry → MapEntry} : ∀ {m : List α} {xs : List MapEntry} {i : Nat}, KsL e S w m xs → (∀ k x, m[i]? = some k → xs[i]? = some x → e.val k S w (f x).key) → KsL e S w m (xs.modify i f)
  | [], [], i, _, _ => by simp [KsL]
  | _ :: _, _ :: _, i, ⟨h1, h3⟩, h => by
    cases i with
    | zero => exact ⟨h _ _ rfl rfl, h3⟩
    | succ i => exact ⟨h1, h3.modify fun k x hk hx => h k x (by simpa using hk) (by simpa using hx)⟩
  | [], _ :: _, _, h, _ => h.elim
  | _ :: _, [], _, h, _ => h.elim
theorem findAskP {α : Type} [DecidableEq α] {n : Nat} {P : Program} {T : TypeId} {e : Enc α} (hn : n ≤ 10000) (he : EqE n P T e) {S S' : Nat → Prop} {w1 w2 : World} {k : α} {cs : List Value} (hk : e.ok k S' w2 cs) (w : World) :
    ∀ (m : List α) (es : List MapEntry) (i : Nat), KsL e S w1 m es → (Instr.findAsking T (e.pk cs) es i).run P w = .ok ((kp m k).bind fun j => (es[j]?).map fun x => (i + j, x.val)) w
  | [], [], i, _ => by simp [Instr.findAsking, kp]
  | a :: m, x :: xs, i, ⟨⟨ds, h1, h1'⟩, h3⟩ => by
    obtain ⟨r, hr, hiff⟩ := he 10000 hn w S' S w2 w1 k a cs ds hk h1
    rw [← h1'] at hr
    have hr' : (Op.equal T (e.pk cs) x.key).run P w = .ok r w := hr
    cases r with
    | true =>
      have hka := hiff.1 rfl
      simp [Instr.findAsking, hr', kp, hka]
    | false =>
      have hka : ¬ a = k := fun h => by have := hiff.2 h.symm; cases this
      have := findAskP hn he hk w m xs (i + 1) h3
      simp only [Instr.findAsking, Sem.run_bind, hr', Result.andThen_ok, Bool.false_eq_true, if_false, this, kp, if_neg hka]
      cases kp m k with
      | none => rfl
      | some j => simp [Nat.add_assoc, Nat.add_comm 1 j]
  | [], _ :: _, _, h => h.elim
  | _ :: _, [], _, h => h.elim
theorem findKeyP {α : Type} [DecidableEq α] {n l : Nat} {E : TypeId} {P : Program} {T : TypeId} {e : Enc α} (hn : n ≤ 10000) (hT : ∀ w, (underlying T).run P w = .ok (.array l E) w) (he : EqE n P T e) {S S' : Nat → Prop} {w1 w2 : World} {k : α} {cs : List Value} (hk : e.ok k S' w2 cs) (w : World)
    (m : List α) (es : List MapEntry) (h : KsL e S w1 m es) : (Instr.findKey T (e.pk cs) es).run P w = .ok ((kp m k).bind fun j => (es[j]?).map fun x => (j, x.val)) w := by
  match m, es, h with
  | [], [], _ => simp [Instr.findKey, hT, Instr.findNow, kp]
  | q :: m, x :: xs, h =>
    have h1 := findAskP hn he hk w (q :: m) (x :: xs) 0 h
    simp only [Nat.zero_add] at h1
    simp only [Instr.findKey, Sem.run_bind, hT, Result.andThen_ok, Instr.findNow, Instr.sameNow, h1]
/-- keys that are told alike are the same, bit by bit -/
def SameE {α : Type} (e : Enc α) : Prop := ∀ (x : α) (S S' : Nat → Prop) (w w' : World) (v v' : Value), e.val x S w v → e.val x S' w' v' → Instr.sameBits 10000 v v' = true
theorem okL_int {k : IntKind} {S S' : Nat → Prop} {w w' : World} : ∀ {xs : List Int} {cs ds : List Value}, (Enc.int k).okL xs S w cs → (Enc.int k).okL xs S' w' ds → ds = cs ∧ ∀ c ∈ cs, ∃ n, c = .int k n
  | [], _, _, h, h' => by simp only [Enc.okL] at h h'; subst h; subst h'; exact ⟨rfl, by simp⟩
  | x :: xs, _, _, ⟨c, d, h1, h2, h3⟩, ⟨c', d', h1', h2', h3'⟩ => by
    obtain ⟨h4, h5⟩ := okL_int h3 h3'
    have e1 : c = [.int k x] := h2.1
    have e2 : c' = [.int k x] := h2'.1
    subst e1; subst e2; subst h4
    refine ⟨by rw [h1, h1'], ?_⟩
    rw [h1]; intro q hq
    rcases List.mem_append.1 hq with hq | hq
    · exact ⟨x, by simpa using hq⟩
    · exact h5 q hq
theorem SameE.arr {k : IntKind} {m : Nat} : SameE (Enc.arr m (Enc.int k)) := by
  rintro x S S' w w' v v' ⟨cs, h, rfl⟩ ⟨ds, h', rfl⟩
  obtain ⟨rfl, h2⟩ := okL_int h.2 h'.2
  have h3 : ∀ l : List Value, (∀ c ∈ l, ∃ n, c = .int k n) → (l.zip l).all (fun (x, y) => Instr.sameBits 9999 x y) = true := by
    intro l hl
    rw [List.all_eq_true]
    rintro ⟨a, b⟩ hab
    have : a = b := by
      clear hl h2
      induction l with
      | nil => simp at hab
      | cons y l ih =>
        rcases List.mem_cons.1 hab with h | h
        · simp only [Prod.mk.injEq] at h; rw [h.1, h.2]
        · exact ih h
    subst this
    obtain ⟨n, rfl⟩ := hl a (List.of_mem_zip hab).1
    simp [Instr.sameBits]
  have := h3 ds h2
  simp only [Enc.pk, Enc.arr, if_true]
  show Instr.sameBits (9999 + 1) _ _ = true
  simp only [Instr.sameBits, BEq.rfl, Bool.true_and]
  simpa using this

/-! ### maps of slices -/
structure MpsOk {α κ : Type} (fr : Bool) (ke : Enc κ) (T2 : TypeId) (e : Enc α) (m : List (κ × List α)) (o : Option Nat) (S : Nat → Prop) (w : World) (x : Nat → Prop) (b : Nat) (es : List MapEntry) (ck : Nat) : Prop where
  keys : KsL ke S w (m.map (·.1)) es
  rows : Rws T2 e (m.map (·.2)) o S w x (some b) (es.map (·.val))
  born : fr = true → ck = es.length ∧ ∀ (j : Nat) (q : MapEntry), es[j]? = some q → q.born = j
theorem MpsOk.mono {α κ : Type} {fr : Bool} {ke : Enc κ} {T2 : TypeId} {e : Enc α} {m : List (κ × List α)} {o : Option Nat} {S S' : Nat → Prop} {w w' : World} {x x' : Nat → Prop} {b : Nat} {es : List MapEntry} {ck : Nat}
    (h : MpsOk fr ke T2 e m o S w x b es ck) (hE : Ext S S' w w') (hx : ∀ b, x b → x' b) (hb : ∀ b, x b → w'.heap[b]? = w.heap[b]?) : MpsOk fr ke T2 e m o S' w' x' b es ck :=
  ⟨h.keys.mono hE, ⟨h.rows.len, fun j xs q ho h1 h2 => (h.rows.ok j xs q ho h1 h2).mono hE (fun b hb' => hb b (h.rows.own j q b ho h2 hb').1), fun j q k ho h1 h2 => ⟨hx _ (h.rows.own j q k ho h1 h2).1, (h.rows.own j q k ho h1 h2).2⟩, h.rows.inj⟩, h.born⟩
/-- a map of slices, all of them our own; one of them may be told by a label of its own -/
def DE.mps {α κ : Type} (fr : Bool) (ke : Enc κ) (T2 : TypeId) (e : Enc α) : DE (List (κ × List α) × Option Nat) where
  ok q S w u l := ∃ b es ck, u.v = .map (some b) ∧ w.heap[b]? = some (.map es ck) ∧ MpsOk fr ke T2 e q.1 q.2 S w u.x b es.toList ck ∧ ∀ j, q.2 = some j → (es.toList.map (·.val))[j]? = l.head?
  mono := by
    rintro q S S' w w' u l ⟨b, es, ck, h1, h2, h3, h4⟩ hE hb
    exact ⟨b, es, ck, h1, by rw [hb b (.inl (by rw [h1]; rfl))]; exact h2, h3.mono hE (fun _ h => h) (fun b' h => hb b' (.inr h)), h4⟩
/-- what mapEntry comes to: the map with an entry for the key, its place, its slice -/
def ment {κ α : Type} [DecidableEq κ] (m : List (κ × List α)) (k : κ) : Option (List (κ × List α) × Nat × List α) :=
  if m.length ≤ 140737488355328 then some (match kp (m.map (·.1)) k with | none => (m ++ [(k, [])], m.length, []) | some i => (m, i, ((m[i]?).map (·.2)).getD [])) else none
def mset {κ β : Type} (m : List (κ × β)) (i : Nat) (v : β) : List (κ × β) := m.modify i fun p => (p.1, v)
/-- a map that nobody writes -/
def Enc.mpF {κ β : Type} (ke : Enc κ) (f : Enc β) : Enc (List (κ × β)) where
  n := 1
  agg := false
  ok m S w cs := (m = [] ∧ cs = [.map none]) ∨ ∃ b es ck, cs = [.map (some b)] ∧ b < w.heap.size ∧ ¬ S b ∧ w.heap[b]? = some (.map es ck) ∧ MpL ke f S w m es.toList
  len h := by rcases h with ⟨_, h⟩ | ⟨b, es, ck, h, _⟩ <;> rw [h] <;> rfl
  one _ := rfl
  cell h c hc := by rcases h with ⟨_, h⟩ | ⟨b, es, ck, h, _⟩ <;> rw [h] at hc <;> simp at hc <;> subst hc <;> rfl
  mono h k := by
    rcases h with ⟨h, h'⟩ | ⟨b, es, ck, h1, h2, h3, h4, h5⟩
    · exact .inl ⟨h, h'⟩
    · exact .inr ⟨b, es, ck, h1, Nat.lt_of_lt_of_le h2 k.size, (k.keep b h2 h3).2, by rw [(k.keep b h2 h3).1]; exact h4, MpL_mono k h5⟩
theorem Z.mpF {κ β : Type} (ke : Enc κ) (f : Enc β) : ∀ S w, (Enc.mpF ke f).ok [] S w [.map none] := fun _ _ => .inl ⟨rfl, rfl⟩
section
variable {F : Frm} {σ : AS} {d : Option Tmp} {ty : TypeId} {p : String} {af : Array Edge} {gd : Option (Nat × Bool)} {x y z : Operand} {κ α : Type} {ke : Enc κ} {e : Enc α} {T2 : TypeId} {m : List (κ × List α)} {i j : Nat}
theorem Frz.mps {fr : Bool} : Frz (DE.mps fr ke T2 e) (m, none) (Enc.mpF ke (Enc.sl e)) m := by
  rintro S S' w u ⟨b, es, ck, h1, h2, ⟨h3, h4, _⟩, _⟩ hE hb
  have key : ∀ (ml : List (κ × List α)) (el : List MapEntry), KsL ke S w (ml.map (·.1)) el → (∀ (j : Nat) (ys : List α) (v : Value), (ml.map (·.2))[j]? = some ys → (el.map (·.val))[j]? = some v → arrOk T2 e ys S w v ∧ ∀ b, blk v = some b → u.x b) → MpL ke (Enc.sl e) S' w ml el := by
    intro ml
    induction ml with
    | nil => intro el hk _; cases el with
      | nil => trivial
      | cons q el => exact hk.elim
    | cons q ml ih =>
      intro el hk h
      cases el with
      | nil => exact hk.elim
      | cons v el =>
        obtain ⟨k1, k2⟩ := h 0 q.2 v.val rfl rfl
        obtain ⟨hk1, hk2⟩ := hk
        obtain ⟨q1, q2⟩ := q
        obtain ⟨ad, c, hs⟩ := k1.slice
        refine ⟨Enc.val_mono hk1 hE, ⟨[v.val], arr_sl (ρ := fun _ => .of undef) (u := .of v.val) (T := T2) k1 hE fun b hb' => hb b (.inr (k2 b (Has_of.1 hb'))), by simp [Enc.pk, Enc.sl]⟩, ih el hk2 fun j ys' v' hj hv => h (j + 1) ys' v' (by simpa using hj) (by simpa using hv)⟩
  have hk := key m es.toList h3 fun j ys v hx hv => ⟨h4.ok j ys v (by simp) hx hv, fun b hb' => (h4.own j v b (by simp) hv hb').1⟩
  have hlt : b < w.heap.size := by
    rcases Nat.lt_or_ge b w.heap.size with h | h
    · exact h
    · rw [Array.getElem?_eq_none h] at h2; cases h2
  refine ⟨.inr ⟨b, es, ck, by rw [h1], hlt, hb b (.inl (by rw [h1]; rfl)), h2, hk⟩, by rw [h1]; rfl⟩
/-- an entry is found or made; its slice is told by a label of its own -/
theorem JM.mapEntry [DecidableEq κ] {n n' l : Nat} {M KT VT E : TypeId} {k : κ} {r : List (κ × List α) × Nat × List α} (j : Nat) (hm : ment m k = some r) (hx : evS σ.g x = some (.ref i)) (hd : lkE σ.d i = some (.dp (DE.mps true ke T2 e) (m, none) [])) (hy : evS σ.g y = some (.v ke k))
    (hM : ∀ w, (underlying M).run F.P w = .ok (.map KT VT) w) (hT : ∀ w, (underlying KT).run F.P w = .ok (.array l E) w) (he : EqE n F.P KT ke) (hn : Nat.ble n 10000 = true) (hk : KeyE n' F.P KT ke) (hn' : Nat.ble n' 10000 = true) (hsame : SameE ke)
    (hz : ∀ w, (zeroValue VT).run F.P w = .ok (.slice none 0 0) w) (hf : σ.free [(j, .arr T2 e r.2.2)] = true) (hdst : dstOk d F.N = true) :
    JM F ⟨d, .mapEntry M x y, ty, p, af, gd⟩ σ ⟨gput d (.tup [.ref j, .v (Enc.int .i64) (r.2.1 : Int)]) σ.g, (j, .arr T2 e r.2.2) :: (i, .dp (DE.mps true ke T2 e) (r.1, some r.2.1) [j]) :: σ.d⟩ := by
  rintro a w ⟨⟨ρ, hc, hs⟩, hsz, hde⟩
  have K := Know.of_st hc hs (Op.mapEntry M x y).operands
  obtain ⟨h1, ⟨b, es, ck, h3, h4, h5, _⟩, _⟩ := K_ref K (x := x) (by simp [Op.operands]) hx hd
  have h6 := K.slot y (by simp [Op.operands]) _ hy
  simp only [Slot.ok] at h6
  have hv6 := h6
  obtain ⟨cs, h6, h7⟩ := h6
  have h8 := findKeyP (Nat.le_of_ble_eq_true hn) hT he h6 w (m.map (·.1)) es.toList h5.keys
  have hcq := hk 10000 (Nat.le_of_ble_eq_true hn') false w _ w k cs h6
  have hg := MapKept.run_getObj_map (P := F.P) h4
  have hso := fun o => MapKept.run_setObj_map (P := F.P) o h4
  have hfr := AS.free_spec hf (i := j) (en := .arr T2 e r.2.2) (by simp [lkE])
  have hij : j ≠ i := fun e => by subst e; rw [hfr.2.1] at hd; cases hd
  obtain ⟨hck, hborn⟩ := h5.born rfl
  have hlen : es.toList.length = m.length := by simpa using h5.keys.len
  unfold ment at hm
  split at hm
  case isFalse => cases hm
  rename_i hbig
  have hm := Option.some.inj hm
  -- what the entries are then, and what the slice is
  obtain ⟨es', ck', v, hrun, hz2, hkeys, hlen', hvv, hoth, hbo⟩ : ∃ (es' : Array MapEntry) (ck' : Nat) (v : Value), (execOp a.eval ⟨d, .mapEntry M x y, ty, p, af, gd⟩).run F.P w = .ok (.value (.tuple #[v, .int .i64 (r.2.1 : Int)])) { w with heap := w.heap.setIfInBounds b (.map es' ck') } ∧
      (∃ a c, v = .slice a r.2.2.length c) ∧ (∀ S' w', Ext (Un F.S0 ρ σ.d) S' w w' → KsL ke S' w' (r.1.map (·.1)) es'.toList) ∧ es'.toList.length = r.1.length ∧ (es'.toList.map (·.val))[r.2.1]? = some v ∧
      ((v = .slice none 0 0 ∧ r.2.2 = [] ∧ (∀ q, q ≠ r.2.1 → r.1[q]? = m[q]? ∧ (es'.toList.map (·.val))[q]? = (es.toList.map (·.val))[q]?)) ∨ (m[r.2.1]?.map (·.2) = some r.2.2 ∧ r.1 = m ∧ es'.toList.map (·.val) = es.toList.map (·.val))) ∧
      (ck' = es'.toList.length ∧ ∀ (j : Nat) (q : MapEntry), es'.toList[j]? = some q → q.born = j) := by
    cases hkp : kp (m.map (·.1)) k with
    | none =>
      rw [hkp] at hm h8
      simp only [Option.bind_none] at h8
      simp only at hm
      subst hm
      refine ⟨es.push { key := a.eval y, val := .slice none 0 0, born := ck }, ck + 1, .slice none 0 0, ?_, ⟨none, 0, rfl⟩, ?_, ?_, ?_, .inl ⟨rfl, rfl, fun q hq => ?_⟩, ?_, ?_⟩
      · have : ck = m.length := by rw [hck, hlen]
        simp [execOp, h1, h3, h7, Instr.mapEntry, hM, hg, hcq, h8, hso, hz, goInt, this]
      · intro S' w' hE
        rw [Array.toList_push, List.map_append]
        exact (h5.keys.mono hE).push (Enc.val_mono hv6 hE)
      · simp [hlen]
      · simp [← hlen]
      · rw [Array.toList_push, List.map_append]
        have hq' : q ≠ m.length := hq
        rcases Nat.lt_or_ge q m.length with h | h
        · rw [List.getElem?_append_left h, List.getElem?_append_left (by simpa [hlen] using h)]; exact ⟨rfl, rfl⟩
        · rw [List.getElem?_eq_none (by simp; omega), List.getElem?_eq_none (by omega), List.getElem?_eq_none (by simp at hlen ⊢; omega), List.getElem?_eq_none (by simp at hlen ⊢; omega)]; exact ⟨rfl, rfl⟩
      · simp [hck]
      · intro q x hq
        rw [Array.toList_push] at hq
        rcases Nat.lt_or_ge q es.toList.length with h | h
        · rw [List.getElem?_append_left h] at hq; exact hborn q x hq
        · rw [List.getElem?_append_right h] at hq
          have h0 : q - es.toList.length = 0 := by
            rcases Nat.eq_zero_or_pos (q - es.toList.length) with h | h
            · exact h
            · rw [List.getElem?_eq_none (by simp at h ⊢; omega)] at hq; cases hq
          rw [h0] at hq; simp at hq; subst hq
          show ck = q
          omega
    | some q =>
      rw [hkp] at hm h8
      simp only at hm
      subst hm
      obtain ⟨k1, k2⟩ := kp_lt hkp
      have k1' : q < m.length := by simpa using k1
      have k3 : q < es.toList.length := by omega
      have k3' : q < es.size := by simpa using k3
      have k5 : es.toList[q]? = some es[q] := by simp [k3']
      simp only [Option.bind_some, k5, Option.map_some] at h8
      have k6 : es[q]? = some es[q] := Array.getElem?_eq_getElem k3'
      have hkey : ke.val k (Un F.S0 ρ σ.d) w es[q].key := h5.keys.get k2 k5
      have hsb := hsame k _ _ _ _ _ _ hkey hv6
      have hst : (Instr.keyThatStays es[q].key (a.eval y)).run F.P w = .ok (a.eval y) w := by simp [Instr.keyThatStays, hsb]
      have hbq := hborn q _ k5
      have harr := h5.rows.ok q (m[q].2) es[q].val (by simp) (by simp [k1']) (by simp [k3'])
      have hmq : m[q]? = some m[q] := List.getElem?_eq_getElem k1'
      refine ⟨es.modify q fun e => { e with key := a.eval y }, ck, es[q].val, ?_, ?_, ?_, ?_, ?_, .inr ⟨?_, rfl, ?_⟩, ?_, ?_⟩
      · simp [execOp, h1, h3, h7, Instr.mapEntry, hM, hg, hcq, h8, hso, goInt, k6, hbq]
        rw [← h7, hst]
        simp [hso]
      · simp only [hmq, Option.map_some, Option.getD_some]; exact harr.slice
      · intro S' w' hE
        rw [Array.toList_modify]
        exact (h5.keys.mono hE).modify fun k' x hk' hx' => by
          rw [k2] at hk'; cases hk'; exact Enc.val_mono hv6 hE
      · simpa using hlen
      · rw [Array.toList_modify, List.getElem?_map, List.getElem?_modify, k5]; simp
      · simp [hmq]
      · rw [Array.toList_modify]
        apply List.ext_getElem?; intro q'
        simp only [List.getElem?_map, List.getElem?_modify]
        cases es.toList[q']? <;> simp; split <;> rfl
      · simpa using hck
      · intro q' x' hq'
        rw [Array.toList_modify, List.getElem?_modify] at hq'
        cases hx' : es.toList[q']? with
        | none => rw [hx'] at hq'; cases hq'
        | some y' =>
          rw [hx'] at hq'
          have := hborn q' y' hx'
          simp only [Option.map_eq_map, Option.map_some, Option.some.injEq] at hq'
          subst hq'; split <;> exact this
  obtain ⟨av, cv, hsl⟩ := hz2
  have hpos : r.2.1 < r.1.length := by
    rw [← hlen']
    rcases Nat.lt_or_ge r.2.1 es'.toList.length with h | h
    · exact h
    · rw [List.getElem?_eq_none (by simpa using h)] at hvv; cases hvv
  have hi64 : inK .i64 (r.2.1 : Int) := by
    have : r.1.length ≤ m.length + 1 := by
      rcases hoth with ⟨_, _, h⟩ | ⟨_, h, _⟩
      · rcases Nat.lt_or_ge (m.length + 1) r.1.length with h9 | h9
        · have h10 := (h (m.length) )
          have h11 := (h (m.length + 1))
          by_cases h12 : m.length = r.2.1
          · have := (h11 (by omega)).1
            rw [List.getElem?_eq_getElem h9, List.getElem?_eq_none (by omega)] at this; cases this
          · have := (h10 h12).1
            rw [List.getElem?_eq_getElem (by omega), List.getElem?_eq_none (by omega)] at this; cases this
        · exact h9
      · rw [h]; omega
    exact len_in (n := r.2.1) (by omega)
  have hset := MapKept.heap_set (o' := .map es' ck') h4
  have hch : Chg (some b) w { w with heap := w.heap.setIfInBounds b (.map es' ck') } := ⟨by simp, fun k _ hk => hset.2 k (fun e => hk (by rw [e])), rfl, rfl, rfl⟩
  refine OpWp.value hrun ?_
  -- the slice's block is the map's
  have hown : ∀ c, blk v = some c → (ρ i).x c ∧ c ≠ b := by
    intro c hb
    rcases hoth with ⟨rfl, _⟩ | ⟨_, _, h⟩
    · simp [blk] at hb
    · rw [h] at hvv
      obtain ⟨k1, k2⟩ := h5.rows.own _ v c (by simp) hvv hb
      exact ⟨k1, fun e => k2 (by rw [e])⟩
  let ρ' : Nat → LV := fun l => if l = j then .of v else if l = i then ⟨(ρ i).v, fun b => (ρ i).x b ∧ blk v ≠ some b⟩ else ρ l
  have rj : ρ' j = .of v := if_pos rfl
  have ri : ρ' i = ⟨(ρ i).v, fun b => (ρ i).x b ∧ blk v ≠ some b⟩ := by show (if i = j then _ else _) = _; rw [if_neg (Ne.symm hij), if_pos rfl]
  have ro : ∀ l, l ≠ j → l ≠ i → ρ' l = ρ l := fun l h1 h2 => by show (if l = j then _ else _) = _; rw [if_neg h1, if_neg h2]
  have rv : ∀ l, l ≠ j → (ρ' l).v = (ρ l).v := fun l h1 => by
    by_cases h2 : l = i
    · subst h2; rw [ri]
    · rw [ro l h1 h2]
  have hl : ∀ l en, lkE ((j, .arr T2 e r.2.2) :: (i, .dp (DE.mps true ke T2 e) (r.1, some r.2.1) [j]) :: σ.d) l = some en → (l = j ∧ en = .arr T2 e r.2.2) ∨ (l = i ∧ en = .dp (DE.mps true ke T2 e) (r.1, some r.2.1) [j]) ∨ (l ≠ j ∧ l ≠ i ∧ lkE σ.d l = some en) := by
    intro l en h
    rcases lkE_new h with h | ⟨h0, h⟩
    · exact .inl h
    · rcases lkE_new h with h | ⟨h5, h⟩
      · exact .inr (.inl h)
      · exact .inr (.inr ⟨h0, h5, h⟩)
  have hsub : ∀ l en b, lkE ((j, .arr T2 e r.2.2) :: (i, .dp (DE.mps true ke T2 e) (r.1, some r.2.1) [j]) :: σ.d) l = some en → Has (ρ' l) b → ∃ l0 en0, lkE σ.d l0 = some en0 ∧ Has (ρ l0) b := by
    intro l en b h hb
    rcases hl l en h with ⟨rfl, rfl⟩ | ⟨rfl, rfl⟩ | ⟨h5, h6, h7⟩
    · rw [rj, Has_of] at hb; exact ⟨i, _, hd, .inr (hown b hb).1⟩
    · rw [ri, Has_mk] at hb
      exact ⟨l, _, hd, hb.imp id And.left⟩
    · rw [ro l h5 h6] at hb; exact ⟨l, en, h7, hb⟩
  have hib : blk (ρ i).v = some b := by rw [h3]; rfl
  have hji : ∀ b, Has (ρ' j) b → Has (ρ' i) b → False := by
    intro b' hb hb'
    rw [rj, Has_of] at hb; rw [ri, Has_mk] at hb'
    rcases hb' with hb' | hb'
    · rw [hib] at hb'; exact (hown b' hb).2 (Option.some.inj hb').symm
    · exact hb'.2 hb
  have hothers : ∀ l en b, l ≠ i → lkE σ.d l = some en → Has (ρ l) b → ¬ Has (ρ' j) b ∧ ¬ Has (ρ' i) b := by
    intro l en b hli hlk hb
    refine ⟨fun h => ?_, fun h => ?_⟩
    · rw [rj, Has_of] at h; exact hli (hc.inj l i en _ b hlk hd hb (.inr (hown b h).1))
    · rw [ri, Has_mk] at h; exact hli (hc.inj l i en _ b hlk hd hb (h.imp id And.left))
  obtain ⟨q1, q2⟩ := hc.step hch (fun c hb => ⟨i, _, hd, .inl (by rw [hib]; exact hb)⟩) (d' := (j, .arr T2 e r.2.2) :: (i, .dp (DE.mps true ke T2 e) (r.1, some r.2.1) [j]) :: σ.d) (ρ' := ρ') (fun l en b h hb => .inr (hsub l en b h hb)) (by
    intro l l' en en' b h h' hb hb'
    rcases hl l en h with ⟨rfl, rfl⟩ | ⟨rfl, rfl⟩ | ⟨g5, g6, g7⟩ <;> rcases hl l' en' h' with ⟨rfl, rfl⟩ | ⟨rfl, rfl⟩ | ⟨g5', g6', g7'⟩
    · rfl
    · exact (hji b hb hb').elim
    · rw [ro l' g5' g6'] at hb'; exact ((hothers l' en' b g6' g7' hb').1 hb).elim
    · exact (hji b hb' hb).elim
    · rfl
    · rw [ro l' g5' g6'] at hb'; exact ((hothers l' en' b g6' g7' hb').2 hb).elim
    · rw [ro l g5 g6] at hb; exact ((hothers l en b g6 g7 hb).1 hb').elim
    · rw [ro l g5 g6] at hb; exact ((hothers l en b g6 g7 hb).2 hb').elim
    · rw [ro l g5 g6] at hb; rw [ro l' g5' g6'] at hb'; exact hc.inj l l' en en' b g7 g7' hb hb') (by
    intro hE l en h
    have hsame : ∀ c, c ≠ b → (w.heap.setIfInBounds b (.map es' ck'))[c]? = w.heap[c]? := hset.2
    rcases hl l en h with ⟨rfl, rfl⟩ | ⟨rfl, rfl⟩ | ⟨h5', h6', h7'⟩
    · rw [rj]
      show arrOk T2 e r.2.2 _ _ v
      rcases hoth with ⟨h9, h10, _⟩ | ⟨h9, _, h11⟩
      · exact .inl ⟨h10, h9⟩
      · rw [h11] at hvv
        refine (h5.rows.ok r.2.1 r.2.2 v (by simp) (by simpa using h9) hvv).mono hE (fun c hb => hsame c (hown c hb).2)
    · rw [ri]
      refine ⟨b, es', ck', h3, hset.1, ⟨hkeys _ _ hE, ⟨by simp [hlen'], ?_, ?_, ?_⟩, fun _ => hbo⟩, fun q hq => ?_⟩
      · intro q xs vq ho hx' hq
        have ho' : q ≠ r.2.1 := fun e => ho (by rw [e])
        have : (m.map (·.2))[q]? = some xs ∧ (es.toList.map (·.val))[q]? = some vq := by
          rcases hoth with ⟨_, _, h9⟩ | ⟨_, h9, h10⟩
          · obtain ⟨h10, h11⟩ := h9 q ho'
            rw [h11] at hq
            rw [List.getElem?_map, h10, ← List.getElem?_map] at hx'
            exact ⟨hx', hq⟩
          · rw [h9] at hx'; rw [h10] at hq; exact ⟨hx', hq⟩
        exact (h5.rows.ok q xs vq (by simp) this.1 this.2).mono hE (fun c hb => hsame c fun e => by
          have := (h5.rows.own q vq c (by simp) this.2 hb).2; exact this (by rw [e]))
      · intro q vq c ho hq hb
        have ho' : q ≠ r.2.1 := fun e => ho (by rw [e])
        have hq' : (es.toList.map (·.val))[q]? = some vq := by
          rcases hoth with ⟨_, _, h9⟩ | ⟨_, h9, h10⟩
          · rw [← (h9 q ho').2]; exact hq
          · rw [← h10]; exact hq
        obtain ⟨k1, k2⟩ := h5.rows.own q vq c (by simp) hq' hb
        refine ⟨⟨k1, fun hcb => ?_⟩, k2⟩
        rcases hoth with ⟨h9, _⟩ | ⟨_, h9, h10⟩
        · rw [h9] at hcb; simp [blk] at hcb
        · rw [h10] at hvv; exact ho' (h5.rows.inj q r.2.1 vq v c (by simp) (by simp) hq' hvv hb hcb)
      · intro q q' vq vq' c ho ho2 hq hq2 hb hb2
        have ho' : q ≠ r.2.1 := fun e => ho (by rw [e])
        have ho2' : q' ≠ r.2.1 := fun e => ho2 (by rw [e])
        rcases hoth with ⟨_, _, h9⟩ | ⟨_, h9, h10⟩
        · rw [(h9 q ho').2] at hq; rw [(h9 q' ho2').2] at hq2
          exact h5.rows.inj q q' vq vq' c (by simp) (by simp) hq hq2 hb hb2
        · rw [h10] at hq hq2; exact h5.rows.inj q q' vq vq' c (by simp) (by simp) hq hq2 hb hb2
      · have : q = r.2.1 := by simpa using hq.symm
        subst this
        simp only [List.map_cons, List.map_nil, List.head?_cons, rj]; exact hvv
    · rw [ro l h5' h6']
      exact Ent.ok_mono (hc.own l en h7') hE (fun q hq => rv q fun e' => by subst e'; exact hfr.2.2 l en h7' hq) (fun c hb => hsame c fun e => h6' (hc.inj l i en _ c h7' hd hb (.inl (by rw [hib, e])))))
  refine ⟨⟨ρ', q1, fun t s' ht => ?_⟩, by rw [Act.size_put, hsz], by cases d <;> exact hde⟩
  have hold : ∀ t s, lk σ.g t = some s → s.ok ρ' (Un F.S0 ρ' ((j, .arr T2 e r.2.2) :: (i, .dp (DE.mps true ke T2 e) (r.1, some r.2.1) [j]) :: σ.d)) _ (a.tmps.getD t undef) := fun t s ht =>
    Slot.ok_mono s _ (hs t s ht) q2 (fun q hq => rv q fun e' => hfr.1 t s ht (e' ▸ hq))
  cases d with
  | none => exact hold t s' ht
  | some q =>
    simp only [gput] at ht
    have hlt : q < a.tmps.size := by rw [hsz]; exact Nat.le_of_ble_eq_true hdst
    rw [Act.getD_put a q _ t hlt]
    rw [lk_cons] at ht
    split at ht
    · rename_i h5; cases ht; rw [if_pos h5]
      simp only [Slot.ok]
      refine ⟨[v, .int .i64 (r.2.1 : Int)], rfl, v, [.int .i64 (r.2.1 : Int)], rfl, ?_, _, [], rfl, ?_, rfl⟩
      · simp only [Slot.ok]; exact ⟨by rw [rj]; exact .inl ⟨_, _, _, hsl⟩, by rw [rj]; rfl⟩
      · simp only [Slot.ok]; exact val_int.2 ⟨rfl, hi64⟩
    · rename_i h5; rw [if_neg h5]; exact hold t s' ht

end
end Go.Sw

namespace Go.Sw
open Go Go.RowKit
section
variable {F : Frm} {σ σ' : AS} {ops : Array Oper} {os : List Oper} {its : List Itm4} {d : Option Tmp} {ty : TypeId} {p : String} {af : Array Edge} {gd : Option (Nat × Bool)} {x y z : Operand} {κ α : Type} {ke : Enc κ} {e : Enc α} {T2 : TypeId} {m : List (κ × List α)} {i : Nat}
theorem JP4.mapEntry [DecidableEq κ] {n n' l : Nat} {M KT VT E : TypeId} {k : κ} {r : List (κ × List α) × Nat × List α} (g : GK ops σ.g ⟨d, .mapEntry M x y, ty, p, af, gd⟩ true) (j : Nat) (hm : ment m k = some r) (hx : evS σ.g x = some (.ref i)) (hd : lkE σ.d i = some (.dp (DE.mps true ke T2 e) (m, none) [])) (hy : evS σ.g y = some (.v ke k))
    (hM : ∀ w, (underlying M).run F.P w = .ok (.map KT VT) w) (hT : ∀ w, (underlying KT).run F.P w = .ok (.array l E) w) (he : EqE n F.P KT ke) (hn : Nat.ble n 10000 = true) (hk : KeyE n' F.P KT ke) (hn' : Nat.ble n' 10000 = true) (hsame : SameE ke)
    (hz : ∀ w, (zeroValue VT).run F.P w = .ok (.slice none 0 0) w) (_ : σ.free [(j, .arr T2 e r.2.2)] = true) (hdst : dstOk d F.N = true)
    (k : JP4 F ops os ⟨gput d (.tup [.ref j, .v (Enc.int .i64) (r.2.1 : Int)]) σ.g, (j, .arr T2 e r.2.2) :: (i, .dp (DE.mps true ke T2 e) (r.1, some r.2.1) [j]) :: σ.d⟩ its σ') :
    JP4 F ops (⟨d, .mapEntry M x y, ty, p, af, gd⟩ :: os) σ (⟨.tup [.ref j, .v (Enc.int .i64) (r.2.1 : Int)], [(j, .arr T2 e r.2.2), (i, .dp (DE.mps true ke T2 e) (r.1, some r.2.1) [j])], [(j, .arr T2 e r.2.2)], rdl σ.g ⟨d, .mapEntry M x y, ty, p, af, gd⟩, []⟩ :: its) σ' :=
  .mv (nw := [(j, .arr T2 e r.2.2), (i, .dp (DE.mps true ke T2 e) (r.1, some r.2.1) [j])]) (dl := []) g hdst (fun σ2 hL hf => JM.mapEntry j hm ((hL.ev (by simp [Op.operands])).trans hx) ((hL.ent (x := x) (by simp [Op.operands]) hx (by simp [Slot.lab])).trans hd) ((hL.ev (by simp [Op.operands])).trans hy) hM hT he hn hk hn' hsame hz hf hdst) k
end
/-! ### empty structs -/
def Enc.st0 : Enc Unit where
  n := 0
  agg := true
  ok _ _ _ cs := cs = []
  len h := by rw [h]; rfl
  one h := by cases h
  cell h c hc := by rw [h] at hc; simp at hc
  mono h _ := h
/-! ### interface values of a few known types -/
def Enc.ifn : Enc Unit where
  n := 1
  agg := false
  ok _ _ _ cs := cs = [.nilIface]
  len h := by rw [h]; rfl
  one _ := rfl
  cell h c hc := by rw [h] at hc; simp at hc; subst hc; rfl
  mono h _ := h
def Enc.ifc {α β : Type} (T : TypeId) (e : Enc α) (r : Enc β) (hn : r.n = 1) (_ha : r.agg = false) : Enc (α ⊕ β) where
  n := 1
  agg := false
  ok q S w cs := match q with | .inl x => ∃ ds, cs = [.iface T (e.pk ds)] ∧ e.ok x S w ds | .inr y => r.ok y S w cs
  len {q S w cs} h := by
    cases q with
    | inl x => obtain ⟨ds, h, _⟩ := h; rw [h]; rfl
    | inr y => rw [r.len h, hn]
  one _ := rfl
  cell {q S w cs} h := by
    cases q with
    | inl x => obtain ⟨ds, h, _⟩ := h; intro c hc; rw [h] at hc; simp at hc; subst hc; rfl
    | inr y => exact r.cell h
  mono {q S S' w w' cs} h k := by
    cases q with
    | inl x => obtain ⟨ds, h, h'⟩ := h; exact ⟨ds, h, e.mono h' k⟩
    | inr y => exact r.mono h k
/-- a value of a type among them, as one of theirs -/
def IfcIn {α β : Type} (T : TypeId) (e : Enc α) (z : α) (f : Enc β) (q : β) : Prop := ∀ S w v, e.val z S w v → f.val q S w (.iface T v)
theorem IfcIn.here {α β : Type} {T : TypeId} {e : Enc α} {z : α} {r : Enc β} {hn : r.n = 1} {ha : r.agg = false} : IfcIn T e z (Enc.ifc T e r hn ha) (.inl z) := by
  rintro S w v ⟨cs, h, rfl⟩
  exact ⟨_, ⟨cs, rfl, h⟩, rfl⟩
theorem IfcIn.there {α β γ : Type} {T T' : TypeId} {e : Enc α} {e' : Enc γ} {z : α} {r : Enc β} {hn : r.n = 1} {ha : r.agg = false} {q : β} (h : IfcIn T e z r q) : IfcIn T e z (Enc.ifc T' e' r hn ha) (.inr q) := by
  intro S w v hv
  obtain ⟨cs, h1, h2⟩ := h S w v hv
  exact ⟨cs, h1, by rw [h2]; simp [Enc.pk, Enc.ifc, ha]⟩
section
variable {F : Frm} {σ : AS} {d : Option Tmp} {ty : TypeId} {p : String} {af : Array Edge} {gd : Option (Nat × Bool)} {x : Operand}
end
/-- what a call of a method of such a value comes to -/
def IfcCon {β : Type} (P : Program) (name : String) (f : Enc β) (q : β) (ss : List Slot) (res : Slot) (new : List (Nat × Ent)) : Prop :=
  ∀ S w v, f.val q S w v → ∃ T u g s0, v = .iface T u ∧ (∀ w, (method (P.types.size + Made.depth) T u name).run P w = .ok (g, u) w) ∧ (∀ args w, (callFunc g args).run P w = .ok (.enter g args) w) ∧ (∀ ρ, Slot.ok ρ S w s0 u) ∧ Con P g (s0 :: ss) res new
section
variable {P : Program} {name : String} {ss : List Slot} {res : Slot} {new : List (Nat × Ent)}
theorem IfcCon.here {α β : Type} {T : TypeId} {g : FuncId} {e : Enc α} {z : α} {r : Enc β} {hn : r.n = 1} {ha : r.agg = false} (hm : ∀ u w, (method (P.types.size + Made.depth) T u name).run P w = .ok (g, u) w) (hc : ∀ args w, (callFunc g args).run P w = .ok (.enter g args) w)
    (h : Con P g (.v e z :: ss) res new) : IfcCon P name (Enc.ifc T e r hn ha) (.inl z) ss res new := by
  rintro S w v ⟨cs, ⟨ds, rfl, h2⟩, rfl⟩
  exact ⟨T, e.pk ds, g, .v e z, rfl, hm _, hc, fun ρ => by simp only [Slot.ok]; exact ⟨ds, h2, rfl⟩, h⟩
theorem IfcCon.there {β γ : Type} {T' : TypeId} {e' : Enc γ} {r : Enc β} {hn : r.n = 1} {ha : r.agg = false} {q : β} (h : IfcCon P name r q ss res new) : IfcCon P name (Enc.ifc T' e' r hn ha) (.inr q) ss res new := by
  rintro S w v ⟨cs, h1, rfl⟩
  exact h S w _ ⟨cs, h1, by simp [Enc.pk, Enc.ifc, ha]⟩
end
section
variable {F : Frm} {σ : AS} {d : Option Tmp} {ty : TypeId} {p : String} {af : Array Edge} {gd : Option (Nat × Bool)} {x : Operand}
end
end Go.Sw

namespace Go.Sw
open Go Go.RowKit
/-! ### two shapes of a result -/
def ocase {α β : Type} (o : Option α) (n : Option β) (s : α → Option β) : Option β := match o with | none => n | some z => s z
section
variable {F : Frm} {σ : AS} {d : Option Tmp} {ty : TypeId} {p : String} {af : Array Edge} {gd : Option (Nat × Bool)} {x : Operand}
end
/-! ### calls that change what they are handed, where the order is open -/
section
variable {F : Frm} {ops : Array Oper} {os : List Oper} {σ σ2 σ' : AS} {its : List Itm4} {d : Option Tmp} {ty : TypeId} {p : String} {af : Array Edge} {gd : Option (Nat × Bool)} {o : Oper}
theorem Arg.loc {x : Operand} {s : Slot} {l : Bool} (h : Arg σ l x s) (hL : Loc ops o σ σ2) (hm : x ∈ o.op.operands) : Arg σ2 l x s := fun ρ S a w K =>
  h ρ S a w ⟨K.low, fun y hy s hs => K.slot y hy s (by have : y = x := by simpa using hy
                                                       subst this; rw [hL.ev hm]; exact hs), fun y hy s hs i hi en he => K.ent y hy s (by have : y = x := by simpa using hy
                                                                                                                                          subst this; rw [hL.ev hm]; exact hs) i hi en (by have : y = x := by simpa using hy
                                                                                                                                                                                           subst this; rw [hL.ent hm hs hi]; exact he)⟩
theorem ArgsM.loc {r : Nat → Nat} {xs : List Operand} {l : List Slot} (h : ArgsM σ r xs l) (hL : Loc ops o σ σ2) (hm : ∀ x ∈ xs, x ∈ o.op.operands) : ArgsM σ2 r xs l := by
  induction h with
  | nil => exact .nil
  | cons h1 _ ih => exact .cons (h1.loc hL (hm _ List.mem_cons_self)) (ih fun x hx => hm x (List.mem_cons_of_mem _ hx))
theorem DinR.loc {r A : Nat → Nat} {ds : List (Nat × Ent)} (h : DinR σ r A ds) (hd : ∀ l ∈ ds.map (fun x => r x.1), lkE σ2.d l = lkE σ.d l) : DinR σ2 r A ds := by
  induction h with
  | nil => exact .nil
  | box h1 _ ih => exact .box (by rw [hd _ (by simp)]; exact h1) (ih fun l hl => hd l (by simp at hl ⊢; exact .inr hl))
  | arr h1 _ ih => exact .arr (by rw [hd _ (by simp)]; exact h1) (ih fun l hl => hd l (by simp at hl ⊢; exact .inr hl))
  | mp h1 _ ih => exact .mp (by rw [hd _ (by simp)]; exact h1) (ih fun l hl => hd l (by simp at hl ⊢; exact .inr hl))
  | dp h1 _ ih => exact .dp (by rw [hd _ (by simp)]; exact h1) (ih fun l hl => hd l (by simp at hl ⊢; exact .inr hl))
theorem DoutR.loc {r A : Nat → Nat} {ds D : List (Nat × Ent)} {K : List Nat} (h : DoutR σ r A ds D K) (hd : ∀ l ∈ K, lkE σ2.d l = lkE σ.d l) : DoutR σ2 r A ds D K := by
  induction h with
  | nil => exact .nil
  | box h1 _ hm ih => exact .box (by rw [hd _ List.mem_cons_self]; exact h1) (ih fun l hl => hd l (List.mem_cons_of_mem _ hl)) hm
  | boxN _ hm ih => exact .boxN (ih hd) hm
  | arr _ hm ih => exact .arr (ih hd) hm
  | mp _ hm ih => exact .mp (ih hd) hm
  | dp _ hm ih => exact .dp (ih hd) hm
theorem JP4.callM {f : FuncId} {xs : List Operand} {ts : Array TypeId} {ss : List Slot} {res : Slot} {din dout : (Nat → Nat) → List (Nat × Ent)} {D : List (Nat × Ent)} {K H : List Nat} (g : GK ops σ.g ⟨d, .call ⟨.value (.func f), xs.toArray, ts⟩, ty, p, af, gd⟩ true) (r : Nat → Nat) (hr : ∀ i j, r i = r j → i = j)
    (hc : ∀ A, ConM F.P f ss (din A) res (dout A)) (hcall : ∀ args w, (callFunc f args).run F.P w = .ok (.enter f args) w) (ha : ArgsM σ r xs ss) (hin : ∀ A, DinR σ r A (din A)) (hout : ∀ A, DoutR σ r A (dout A) D K)
    (hH : ∀ A, (din A).map (fun x => r x.1) = H) (hDK : D.all (fun x => !memB x.1 H || memB x.1 K) = true) (_ : newB σ H D = true) (hcl : ∀ A, closed res (dout A) = true) (hKH : K.all (fun k => memB k H) = true) (hdst : dstOk d F.N = true)
    (k : JP4 F ops os ⟨gput d (res.map r) σ.g, D ++ delEs σ.d H⟩ its σ') :
    JP4 F ops (⟨d, .call ⟨.value (.func f), xs.toArray, ts⟩, ty, p, af, gd⟩ :: os) σ (⟨res.map r, D, D.filter (fun x => !memB x.1 H), rdl σ.g ⟨d, .call ⟨.value (.func f), xs.toArray, ts⟩, ty, p, af, gd⟩ ++ H, H⟩ :: its) σ' := by
  refine .mvx (nw := D) (fr := D.filter (fun x => !memB x.1 H)) (dl := H) (ex := H) g hdst (fun σ2 hL hex hf => ?_) k
  have hDK' : ∀ x ∈ D, memB x.1 H = true → memB x.1 K = true := fun x hx hm => by
    have := List.all_eq_true.1 hDK x hx
    simpa [hm] using this
  refine JM.callM r hr hc hcall (ha.loc hL fun x hx => by simp [Op.operands, Call.operands, hx]) (fun A => (hin A).loc fun l hl => hex l (by rw [← hH A]; exact hl)) (fun A => (hout A).loc fun l hl => hex l (memB_iff.1 (List.all_eq_true.1 hKH l hl))) hH ?_ ?_ hcl hKH hdst
  · have key : ∀ l, (!memB l H || memB l K || !memB l (D.map (·.1))) = true := by
      intro l
      cases h1 : memB l H with
      | false => simp
      | true =>
        cases h2 : memB l (D.map (·.1)) with
        | false => simp
        | true =>
          obtain ⟨x, hx, rfl⟩ := List.mem_map.1 (memB_iff.1 h2)
          simp [hDK' x hx h1]
    unfold staysB
    simp only [Bool.and_eq_true, List.all_eq_true]
    exact ⟨fun y _ l _ => key l, fun y _ l _ => key l⟩
  · unfold newB
    rw [List.all_eq_true]
    intro x hx
    cases hm : memB x.1 H with
    | true => simp
    | false =>
      have h1 := List.all_eq_true.1 hf x (List.mem_filter.2 ⟨hx, by simp [hm]⟩)
      simp only [Bool.and_eq_true, List.all_eq_true] at h1
      have mb : ∀ l : List Nat, (!l.contains x.1) = true → (!memB x.1 l) = true := by
        intro l hl
        cases h2 : memB x.1 l with
        | false => rfl
        | true => have := memB_iff.1 h2; simp at hl; exact absurd this hl
      simp only [Bool.or_eq_true, Bool.and_eq_true, List.all_eq_true]
      exact .inr ⟨fun y hy => ⟨(h1.2 y hy).1, mb _ (h1.2 y hy).2⟩, fun y hy => mb _ (h1.1 y hy)⟩
end
end Go.Sw

namespace Go.Sw
open Go Go.RowKit
/-- the slice that was told by a label is put back -/
def mshut {κ β : Type} (m : List (κ × β)) (o : Option Nat) (v : β) : List (κ × β) := match o with | some q => mset m q v | none => m
/-- a slice for a key -/
def mputS {κ β : Type} [DecidableEq κ] (m : List (κ × β)) (k : κ) (v : β) : List (κ × β) := match kp (m.map (·.1)) k with | some q => mset m q v | none => m ++ [(k, v)]
/-- a key less -/
def mdel {κ β : Type} [DecidableEq κ] (m : List (κ × β)) (k : κ) : List (κ × β) := match kp (m.map (·.1)) k with | some q => m.eraseIdx q | none => m
section
variable {F : Frm} {σ : AS} {d : Option Tmp} {ty : TypeId} {p : String} {af : Array Edge} {gd : Option (Nat × Bool)} {x y z : Operand} {κ α : Type} {ke : Enc κ} {e : Enc α} {T2 : TypeId} {m : List (κ × List α)} {i j : Nat} {fr : Bool}
theorem EntCv.mps : EntCv (.dp (DE.mps fr ke T2 e) (m, none) []) (.dp (DE.mps false ke T2 e) (m, none) []) :=
  ⟨rfl, fun ρ S w u ⟨b, es, ck, h1, h2, h3, h4⟩ => ⟨b, es, ck, h1, h2, ⟨h3.keys, h3.rows, fun h => by cases h⟩, h4⟩⟩
end
section
variable {F : Frm} {σ σ' : AS} {ops : Array Oper} {os : List Oper} {its : List Itm4} {d : Option Tmp} {ty : TypeId} {p : String} {af : Array Edge} {gd : Option (Nat × Bool)} {x y : Operand} {κ α : Type} {ke : Enc κ} {e : Enc α} {T2 : TypeId} {m : List (κ × List α)} {i : Nat} {fr : Bool}
end
end Go.Sw

namespace Go.Sw
open Go Go.RowKit
/-- a pointer to a block whose number is told -/
def Enc.adr (a : Nat) : Enc Unit where
  n := 1
  agg := false
  ok _ _ _ cs := cs = [.pointer (some ⟨a, 0, none⟩)]
  len h := by rw [h]; rfl
  one _ := rfl
  cell h c hc := by rw [h] at hc; simp at hc; subst hc; rfl
  mono h _ := h
/-- a pointer to what nobody writes -/
def Enc.pt {α : Type} (e : Enc α) : Enc α where
  n := 1
  agg := false
  ok x S w cs := ∃ b off ds, cs = [.pointer (some ⟨b, off, none⟩)] ∧ b < w.heap.size ∧ ¬ S b ∧ MemAt w b off ds ∧ e.ok x S w ds
  len h := by obtain ⟨b, off, ds, h, _⟩ := h; rw [h]; rfl
  one _ := rfl
  cell h c hc := by obtain ⟨b, off, ds, h, _⟩ := h; rw [h] at hc; simp at hc; subst hc; rfl
  mono h k := by
    obtain ⟨b, off, ds, h1, h2, h3, h4, h5⟩ := h
    exact ⟨b, off, ds, h1, Nat.lt_of_lt_of_le h2 k.size, (k.keep b h2 h3).2, h4.mono h2 h3 k, e.mono h5 k⟩
/-- a function as a value: what it is handed first, what it took with it -/
def Enc.fn2 {α β : Type} (g : Nat) (ef : Enc α) (ec : Enc β) : Enc (α × β) where
  n := 1
  agg := false
  ok q S w cs := ∃ fs gs, cs = [.func (.func g) fs.toArray gs.toArray] ∧ ef.ok q.1 S w fs ∧ ec.ok q.2 S w gs
  len h := by obtain ⟨fs, gs, h, _⟩ := h; rw [h]; rfl
  one _ := rfl
  cell h c hc := by obtain ⟨fs, gs, h, _⟩ := h; rw [h] at hc; simp at hc; subst hc; rfl
  mono h k := by obtain ⟨fs, gs, h, h1, h2⟩ := h; exact ⟨fs, gs, h, ef.mono h1 k, ec.mono h2 k⟩
/-- one or the other -/
def Enc.sm {α β : Type} (f : Enc α) (r : Enc β) (h1 : f.n = 1) (_h2 : f.agg = false) (h3 : r.n = 1) (_h4 : r.agg = false) : Enc (α ⊕ β) where
  n := 1
  agg := false
  ok q S w cs := match q with | .inl x => f.ok x S w cs | .inr y => r.ok y S w cs
  len {q S w cs} h := by
    cases q with
    | inl x => rw [f.len h, h1]
    | inr y => rw [r.len h, h3]
  one _ := rfl
  cell {q S w cs} h := by
    cases q with
    | inl x => exact f.cell h
    | inr y => exact r.cell h
  mono {q S S' w w' cs} h k := by
    cases q with
    | inl x => exact f.mono h k
    | inr y => exact r.mono h k
def SmIn {α β : Type} (e : Enc α) (z : α) (f : Enc β) (q : β) : Prop := ∀ S w v, e.val z S w v → f.val q S w v
theorem SmIn.l {α β γ : Type} {e : Enc γ} {z : γ} {f : Enc α} {r : Enc β} {h1 : f.n = 1} {h2 : f.agg = false} {h3 : r.n = 1} {h4 : r.agg = false} {q : α} (h : SmIn e z f q) : SmIn e z (Enc.sm f r h1 h2 h3 h4) (.inl q) := by
  intro S w v hv
  obtain ⟨cs, k1, k2⟩ := h S w v hv
  exact ⟨cs, k1, by rw [k2]; simp [Enc.pk, Enc.sm, h2]⟩
theorem SmIn.r {α β γ : Type} {e : Enc γ} {z : γ} {f : Enc α} {r : Enc β} {h1 : f.n = 1} {h2 : f.agg = false} {h3 : r.n = 1} {h4 : r.agg = false} {q : β} (h : SmIn e z r q) : SmIn e z (Enc.sm f r h1 h2 h3 h4) (.inr q) := by
  intro S w v hv
  obtain ⟨cs, k1, k2⟩ := h S w v hv
  exact ⟨cs, k1, by rw [k2]; simp [Enc.pk, Enc.sm, h4]⟩
section
variable {F : Frm} {σ : AS} {pb : Option Nat} {s : Slot} {d : Option Tmp} {ty : TypeId} {p : String} {af : Array Edge} {gd : Option (Nat × Bool)} {x y z : Operand}
/-- operands, side by side, lie as an encoding says -/
def OpsE {α : Type} (σ : AS) (xs : List Operand) (e : Enc α) (v : α) : Prop := ∀ ρ S a w, Know σ xs.toArray ρ S a w → e.ok v S w (xs.map a.eval)
theorem OpsE.nil : OpsE σ [] Enc.st0 () := fun _ _ _ _ _ => rfl
theorem OpsE.adr {i c : Nat} {T : TypeId} {l : List Slot} (hx : evS σ.g x = some (.ptr i 0)) (he : lkE σ.d i = some (.box T l (some c))) : OpsE σ [x] (Enc.adr c) () := by
  intro ρ S a w K
  have h := K.slot x (by simp) _ hx
  simp only [Slot.ok] at h
  obtain ⟨⟨b, h1⟩, h2⟩ := h
  have h3 := (K.ent x (by simp) _ hx i (by simp [Slot.lab]) _ he).1
  have h4 := h3.2 c rfl
  show [a.eval x] = _
  rw [h2, h4]; rfl
theorem OpsE.pst {α : Type} {e : Enc α} {v : α} (hx : evS σ.g x = some (.pst e v)) : OpsE σ [x] (Enc.pt e) v := by
  intro ρ S a w K
  have h := K.slot x (by simp) _ hx
  simp only [Slot.ok] at h
  obtain ⟨b, off, ds, h1, h2⟩ := h
  exact ⟨b, off, ds, by simp [h1], h2⟩
theorem OpsE.cons {α β : Type} {e : Enc α} {e' : Enc β} {v : α} {v' : β} {xs : List Operand} (h : OpsE σ [x] e v) (k : OpsE σ xs e' v') : OpsE σ (x :: xs) (Enc.pr e e') (v, v') := by
  intro ρ S a w K
  exact ⟨[a.eval x], xs.map a.eval, rfl, h ρ S a w ⟨K.low, fun q hq => K.slot q (by simp at hq ⊢; exact .inl hq), fun q hq => K.ent q (by simp at hq ⊢; exact .inl hq)⟩,
    k ρ S a w ⟨K.low, fun q hq => K.slot q (by simp at hq ⊢; exact .inr hq), fun q hq => K.ent q (by simp at hq ⊢; exact .inr hq)⟩⟩
/-- the place of a box is told -/
theorem W.pin {i : Nat} {T : TypeId} {l : List Slot} {cs : List Code} {Q : Exit → Act → World → Prop} (he : lkE σ.d i = some (.box T l none)) (h : ∀ c, W F cs ⟨σ.g, (i, .box T l (some c)) :: σ.d⟩ Q) : W F cs σ Q := by
  intro a w hs
  obtain ⟨⟨ρ, hc, hsl⟩, hz, hde⟩ := hs
  have hbox := hc.own i _ he
  obtain ⟨⟨b, cs', h1, h2, h3⟩, h4⟩ := hbox
  refine h b a w ⟨⟨ρ, ?_, ?_⟩, hz, hde⟩
  · have hlk : ∀ l' en, lkE ((i, Ent.box T l (some b)) :: σ.d) l' = some en → (l' = i ∧ en = .box T l (some b)) ∨ (l' ≠ i ∧ lkE σ.d l' = some en) := fun l' en h => lkE_new h
    have hU : Un F.S0 ρ ((i, Ent.box T l (some b)) :: σ.d) = Un F.S0 ρ σ.d := by
      funext k
      refine propext ⟨?_, ?_⟩
      · rintro (h | ⟨j, en, hj, hh⟩)
        · exact .inl h
        · rcases hlk j en hj with ⟨rfl, _⟩ | ⟨_, hj⟩
          · exact .inr ⟨j, _, he, hh⟩
          · exact .inr ⟨j, _, hj, hh⟩
      · rintro (h | ⟨j, en, hj, hh⟩)
        · exact .inl h
        · by_cases hji : j = i
          · subst hji; exact .inr ⟨j, .box T l (some b), by rw [lkE_cons, if_pos rfl], hh⟩
          · exact .inr ⟨j, en, by rw [lkE_cons, if_neg (Ne.symm hji)]; exact hj, hh⟩
    refine ⟨hc.low, hc.size, hc.frame, hc.os, hc.tape, hc.output, ?_, ?_, ?_, ?_⟩
    · intro j en hj
      show en.ok ρ (Un F.S0 ρ ((i, Ent.box T l (some b)) :: σ.d)) w (ρ j)
      rw [hU]
      rcases hlk j en hj with ⟨rfl, rfl⟩ | ⟨_, hj⟩
      · exact ⟨⟨b, cs', h1, h2, h3⟩, fun c hc' => by cases hc'; exact h1⟩
      · exact hc.own j en hj
    · intro j en b' hj hb'
      rcases hlk j en hj with ⟨rfl, rfl⟩ | ⟨_, hj⟩
      · exact hc.fresh j _ b' he hb'
      · exact hc.fresh j en b' hj hb'
    · intro j j' en en' b' hj hj' hb hb'
      rcases hlk j en hj with ⟨g1, _⟩ | ⟨_, gj⟩ <;> rcases hlk j' en' hj' with ⟨g2, _⟩ | ⟨_, gj'⟩
      · rw [g1, g2]
      · subst g1; exact hc.inj _ _ _ _ b' he gj' hb hb'
      · subst g2; exact hc.inj _ _ _ _ b' gj he hb hb'
      · exact hc.inj _ _ _ _ b' gj gj' hb hb'
    · intro j en b' hj hb'
      rcases hlk j en hj with ⟨rfl, rfl⟩ | ⟨_, hj⟩
      · exact hc.apart j _ b' he hb'
      · exact hc.apart j en b' hj hb'
  · intro t s ht
    have hU : Ext (Un F.S0 ρ σ.d) (Un F.S0 ρ ((i, Ent.box T l (some b)) :: σ.d)) w w := ⟨Nat.le_refl _, fun k _ hk => ⟨rfl, fun h => hk (by
      rcases h with h | ⟨j, en, hj, hh⟩
      · exact .inl h
      · rcases lkE_new hj with ⟨rfl, _⟩ | ⟨_, hj⟩
        · exact .inr ⟨j, _, he, hh⟩
        · exact .inr ⟨j, _, hj, hh⟩)⟩⟩
    exact Slot.ok_mono s _ (hsl t s ht) hU (fun _ _ => rfl)
end
/-! ### calls of functions that are values -/
/-- what an encoding tells, as slots, if some boxes lie where it is told -/
def CloS {α : Type} (pins : List (Nat × Nat)) (e : Enc α) (v : α) (ss : List Slot) : Prop := ∀ ρ S w cs, (∀ p ∈ pins, (ρ p.1).v = .pointer (some ⟨p.2, 0, none⟩)) → e.ok v S w cs → Slot.okv ρ S w ss cs
theorem CloS.nil {pins : List (Nat × Nat)} : CloS pins Enc.st0 () [] := fun _ _ _ _ _ h => h
theorem CloS.adr {pins : List (Nat × Nat)} {i c : Nat} (h : (i, c) ∈ pins) : CloS pins (Enc.adr c) () [.ptr i 0] := by
  intro ρ S w cs hp h'
  have h' : cs = [.pointer (some ⟨c, 0, none⟩)] := h'
  subst h'
  have := hp _ h
  exact ⟨_, [], rfl, by simp only [Slot.ok]; exact ⟨⟨c, this⟩, by rw [this]; rfl⟩, rfl⟩
theorem CloS.pt {pins : List (Nat × Nat)} {α : Type} {e : Enc α} {v : α} : CloS pins (Enc.pt e) v [.pst e v] := by
  rintro ρ S w cs hp ⟨b, off, ds, rfl, h⟩
  exact ⟨_, [], rfl, by simp only [Slot.ok]; exact ⟨b, off, ds, rfl, h⟩, rfl⟩
theorem CloS.pr {pins : List (Nat × Nat)} {α β : Type} {e : Enc α} {e' : Enc β} {v : α} {v' : β} {s s' : List Slot} (h : CloS pins e v s) (k : CloS pins e' v' s') : CloS pins (Enc.pr e e') (v, v') (s ++ s') := by
  rintro ρ S w cs hp ⟨c, c', rfl, h1, h2⟩
  exact okv_append (h ρ S w c hp h1) (k ρ S w c' hp h2)
/-- what a call of a function that is a value comes to -/
def CloCon {β : Type} (P : Program) (pins : List (Nat × Nat)) (f : Enc β) (q : β) (din : List (Nat × Ent)) (res : Slot) (dout : List (Nat × Ent)) : Prop :=
  ∀ S w v, f.val q S w v → ∃ g fs gs ss, v = .func (.func g) fs.toArray gs.toArray ∧ (∀ args w, (callFunc g args).run P w = .ok (.enter g args) w) ∧ (∀ ρ, (∀ p ∈ pins, (ρ p.1).v = .pointer (some ⟨p.2, 0, none⟩)) → Slot.okv ρ S w ss (fs ++ gs)) ∧ ConM P g ss din res dout
section
variable {P : Program} {pins : List (Nat × Nat)} {din dout : List (Nat × Ent)} {res : Slot}
theorem CloCon.fn2 {α β : Type} {g : Nat} {ef : Enc α} {ec : Enc β} {q : α × β} {s s' : List Slot} (h : CloS pins ef q.1 s) (k : CloS pins ec q.2 s') (hc : ∀ args w, (callFunc g args).run P w = .ok (.enter g args) w) (hm : ConM P g (s ++ s') din res dout) : CloCon P pins (Enc.fn2 g ef ec) q din res dout := by
  rintro S w v ⟨cs, ⟨fs, gs, rfl, h1, h2⟩, rfl⟩
  exact ⟨g, fs, gs, _, rfl, hc, fun ρ hp => okv_append (h ρ S w fs hp h1) (k ρ S w gs hp h2), hm⟩
theorem CloCon.l {α β : Type} {f : Enc α} {r : Enc β} {h1 : f.n = 1} {h2 : f.agg = false} {h3 : r.n = 1} {h4 : r.agg = false} {q : α} (h : CloCon P pins f q din res dout) : CloCon P pins (Enc.sm f r h1 h2 h3 h4) (.inl q) din res dout := by
  rintro S w v ⟨cs, k1, k2⟩
  exact h S w v ⟨cs, k1, by rw [k2]; simp [Enc.pk, Enc.sm, h2]⟩
theorem CloCon.r {α β : Type} {f : Enc α} {r : Enc β} {h1 : f.n = 1} {h2 : f.agg = false} {h3 : r.n = 1} {h4 : r.agg = false} {q : β} (h : CloCon P pins r q din res dout) : CloCon P pins (Enc.sm f r h1 h2 h3 h4) (.inr q) din res dout := by
  rintro S w v ⟨cs, k1, k2⟩
  exact h S w v ⟨cs, k1, by rw [k2]; simp [Enc.pk, Enc.sm, h4]⟩
end
section
variable {F : Frm} {σ : AS} {d : Option Tmp} {ty : TypeId} {p : String} {af : Array Edge} {gd : Option (Nat × Bool)} {x : Operand}
/-- the boxes lie where it is told -/
def PinsOk (σ : AS) (r : Nat → Nat) : List (Nat × Nat) → Prop
  | [] => True
  | q :: l => (∃ T s, lkE σ.d (r q.1) = some (.box T s (some q.2))) ∧ PinsOk σ r l
theorem PinsOk.at {σ : AS} {r : Nat → Nat} : ∀ {pins : List (Nat × Nat)}, PinsOk σ r pins → ∀ q ∈ pins, ∃ T s, lkE σ.d (r q.1) = some (.box T s (some q.2))
  | _ :: _, h, q, hq => by
    rcases List.mem_cons.1 hq with rfl | hq
    · exact h.1
    · exact PinsOk.at h.2 q hq
end
end Go.Sw

namespace Go.Sw
open Go Go.RowKit
/-- a part beyond which there is no room, and that is not empty -/
def subN {α : Type} (zs : List α) (lo hi m : Int) : Option (List α) := if hi = m ∧ lo < hi then sub zs lo hi else none
section
variable {F : Frm} {σ : AS} {d : Option Tmp} {ty : TypeId} {p : String} {af : Array Edge} {gd : Option (Nat × Bool)} {x y z : Operand}
/-- what is handed, lent, though it lies behind a pointer in a box -/
def ArgsK (σ : AS) (xs : List Operand) (ss : List Slot) : Prop :=
  ∀ (F : Frm) (ρ : Nat → LV) (a : Act) (w : World), Core F σ.d ρ w → (∀ t s, lk σ.g t = some s → s.ok ρ (Un F.S0 ρ σ.d) w (a.tmps.getD t undef)) → Slot.okv ρ (fun _ => False) w ss (xs.map a.eval)
theorem ArgsK.nil : ArgsK σ [] [] := fun _ _ _ _ _ _ => by simp [Slot.okv]
theorem ArgsK.cons {s : Slot} {xs : List Operand} {l : List Slot} (h : Arg σ true x s) (k : ArgsK σ xs l) : ArgsK σ (x :: xs) (s :: l) := by
  intro F ρ a w hco hs
  have h0 := h _ _ _ _ (Know.of_st hco hs #[x])
  simp only [if_true] at h0
  simp only [Slot.okv, List.map_cons]
  exact ⟨_, _, rfl, h0, k F ρ a w hco hs⟩
end
end Go.Sw

namespace Go.Sw
open Go Go.RowKit
def ne1 {α : Type} (l : List α) : Option Unit := if l.isEmpty then none else some ()
theorem ne1_some {α : Type} {l : List α} {u : Unit} (h : ne1 l = some u) : l ≠ [] := by
  intro e; subst e; cases h
theorem slN_un {α : Type} {e : Enc α} {v : Bool × List α} : ∀ S w cs, (Enc.slN e).ok v S w cs → (Enc.sl e).ok v.2 S w cs := fun _ _ _ h => h.1
theorem slN_to {α : Type} {e : Enc α} {xs : List α} (h : xs ≠ []) : ∀ S w cs, (Enc.sl e).ok xs S w cs → (Enc.slN e).ok (false, xs) S w cs := by
  rintro S w cs ⟨a, cap, h1, h2, h3⟩
  refine ⟨⟨a, cap, h1, h2, h3⟩, fun a' l c hc => ?_⟩
  rcases h3 with h3 | ⟨b, off, ds, rfl, _⟩
  · exact absurd h3 h
  · rw [h1] at hc
    simp at hc
    rw [← hc.1]; rfl
theorem CvS.unN {α : Type} {e : Enc α} {v : Bool × List α} {σ : AS} {r : Nat → Nat} {ls : List Nat} : CvS σ r ls (.v (Enc.slN e) v) (.v (Enc.sl e) v.2) := .enc slN_un (fun _ => rfl)
section
variable {F : Frm} {σ : AS} {d : Option Tmp} {ty : TypeId} {p : String} {af : Array Edge} {gd : Option (Nat × Bool)} {x y z : Operand} {α : Type} {e : Enc α}
theorem JO.neN {o : Oper} {xs : List α} {new : List (Nat × Ent)} (hne : xs ≠ []) (h : JO F o σ (.v (Enc.sl e) xs) new) : JO F o σ (.v (Enc.slN e) (false, xs)) new := by
  intro ρ S a w K
  refine (h ρ S a w K).mono ?_
  rintro u w' ⟨ρ', h1, h2, h3, h4⟩
  refine ⟨ρ', h1, h2, ?_, h4⟩
  simp only [Slot.ok] at h3 ⊢
  obtain ⟨cs, k1, k2⟩ := h3
  exact ⟨cs, slN_to hne _ _ _ k1, k2⟩
theorem JO.assignNilN (e : Enc α) : JO F ⟨d, .assign (.const (.slice none 0 0)), ty, p, af, gd⟩ σ (.v (Enc.slN e) (true, [])) [] := by
  intro ρ S a w K
  refine OpWp.value (w' := w) (v := .slice none 0 0) (by simp [execOp, Act.eval]) (Res.same ?_)
  simp only [Slot.ok]
  exact ⟨[.slice none 0 0], ⟨⟨none, 0, rfl, by simp, .inl rfl⟩, fun a l c h => by simp at h; rw [← h.1]; rfl⟩, rfl⟩
theorem JO.neNilS {v : Bool × List α} {T T' E : TypeId} (hx : evS σ.g x = some (.v (Enc.slN e) v)) (hT : ∀ w, (underlying T).run F.P w = .ok (.slice E) w) : JO F ⟨d, .binOp .neq T x (.const (.slice none 0 0)) T', ty, p, af, gd⟩ σ (.v Enc.bool (!v.1)) [] := by
  intro ρ S a w K
  have h := K.slot x (by simp [Op.operands]) _ hx
  simp only [Slot.ok] at h
  obtain ⟨b, xs⟩ := v
  obtain ⟨_, ad, l, c, h1, rfl⟩ := val_slN h
  have hq := run_equalIn_slice_nil (P := F.P) w 9999 T E ad l c (under_of hT)
  refine OpWp.value (w' := w) (v := .bool (!ad.isNone)) ?_ (Res.same (bool_ok _ ρ S w))
  exact eqop (r := ad.isNone) (.inr ⟨rfl, rfl⟩) h1 rfl (by intros; simp) (by intros; simp) (by intros; simp) (by intros; simp) (by simp [eqGuard, Act.eval]) hq
/-- a part of a field of a box -/
theorem JO.loadPart {β : Type} {v : α} {e' : Enc β} {z' : β} {T U : TypeId} {l : List Slot} {pb : Option Nat} {i n off o1 : Nat} (hn : n = off + o1) (hx : evS σ.g x = some (.ptr i n)) (he : lkE σ.d i = some (.box T l pb)) (ho : offAt l off = some (.v e v)) (hp : Prj e v o1 e' z')
    (hA : ∀ w, (isAgg U).run F.P w = .ok e'.agg w) (hS : ∀ w, (sizeOf U).run F.P w = .ok e'.n w) : JO F ⟨d, .load U x, ty, p, af, gd⟩ σ (.v e' z') [] := by
  subst hn
  intro ρ S a w K
  obtain ⟨b, cs, h1, h2, h3, h4⟩ := K_ptr K (by simp [Op.operands]) hx he
  obtain ⟨pre, c, post, rfl, rfl, h5, _⟩ := okl_at ho h4
  simp only [Slot.okc] at h5
  obtain ⟨a', c', d', rfl, rfl, k3⟩ := hp _ _ c h5
  have hm : MemAt w b (pre.length + a'.length) c' := by
    have := MemAt.of_heap h3
    rw [show pre ++ (a' ++ (c' ++ d') ++ post) = (pre ++ a') ++ (c' ++ (d' ++ post)) by simp] at this
    have := this.sub
    simpa using this
  refine OpWp.value (w' := w) (v := e'.pk c') ?_ (Res.same (by simp only [Slot.ok]; exact ⟨c', k3, rfl⟩))
  have := load_e (P := F.P) hm k3 hA hS
  simp [execOp, h2, Instr.loadAt, Instr.sureAddr, this]
end
end Go.Sw

namespace Go.Sw
open Go Go.RowKit
section
variable {F : Frm} {ops : Array Oper} {o : Oper} {os : List Oper} {σ σ' σ'' : AS} {s : Slot} {new : List (Nat × Ent)}
theorem J.k (h : JO F o σ s new) (k : J F ops os (σ.put o.dst s new) σ') (g : o.guard = .none := by rfl) (hf : σ.free new = true := by rfl) (hd : dstOk o.dst F.N = true := by rfl) : J F ops (o :: os) σ σ' := J.cons (.none g) h hf hd k
theorem J.mv {d : Option Tmp} {x : Operand} {ty : TypeId} {p : String} {af : Array Edge} (hx : evS σ.g x = some s) (k : J F ops os (σ.put d s []) σ') (hd : dstOk d F.N = true := by rfl) : J F ops (⟨d, .move x, ty, p, af, none⟩ :: os) σ σ' := J.cons (.none rfl) (JO.move hx) rfl hd k
theorem J.m (t : Tmp) {j : Nat} {want x : Bool} (hb : x = want) (h : JO F o σ s new) (k : J F ops os (σ.put o.dst s new) σ') (g : o.guard = .some (j, want) := by rfl) (ht : (ops[j]?).bind (·.dst) = .some t := by rfl) (hx : lk σ.g t = .some (.v Enc.bool x) := by rfl) (hf : σ.free new = true := by rfl) (hd : dstOk o.dst F.N = true := by rfl) : J F ops (o :: os) σ σ' := J.cons (.met t g ht hx hb) h hf hd k
theorem J.u (t : Tmp) {j : Nat} {want x : Bool} (hb : x = !want) (k : J F ops os (σ.put o.dst .top []) σ') (g : o.guard = .some (j, want) := by rfl) (ht : (ops[j]?).bind (·.dst) = .some t := by rfl) (hx : lk σ.g t = .some (.v Enc.bool x) := by rfl) (hd : dstOk o.dst F.N = true := by rfl) : J F ops (o :: os) σ σ' := J.left (.unmet t g ht hx hb) hd k
theorem J.t (h : JM F o σ σ') (k : J F ops os σ' σ'') (g : o.guard = .none := by rfl) : J F ops (o :: os) σ σ'' := J.mut (.none g) h k
end
theorem SubG.c {σ : AS} {r : Nat → Nat} {ls : List Nat} {t : Nat} {s' : Slot} {g : List (Nat × Slot)} (h : lk σ.g t = some (s'.map r)) (k : SubG σ r ls g) : SubG σ r ls ((t, s') :: g) := .cons h .same k
theorem CvL.c {σ : AS} {r : Nat → Nat} {ls : List Nat} {s s' : Slot} {l l' : List Slot} (h : s = s'.map r) (k : CvL σ r ls l l') : CvL σ r ls (s :: l) (s' :: l') := .cons (.of_eq h) k
end Go.Sw
