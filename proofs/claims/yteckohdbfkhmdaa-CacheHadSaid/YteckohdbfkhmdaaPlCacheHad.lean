/- The plain law: the model of the law answers true. Conditions: none. -/
import Derived.Test.YteckohdbfkhmdaaMoCacheHad
namespace Go.Pl
open Go Go.Sw

/-- going over a list, with what is carried, till something is done -/
def foldS {A B D : Type} (g : Nat → A → B → Step B D) (fin : B → D) : Nat → B → List A → D
  | _, acc, [] => fin acc
  | i, acc, x :: xs => match g i x acc with
    | .next acc' => foldS g fin (i + 1) acc' xs
    | .done d => d

def stp {α B D : Type} (st : Nat → B → α) (i : Nat) : Step B D → Step α D
  | .next a => .next (st i a)
  | .done d => .done d
def out {β γ : Type} (k : β → Option γ) : Ex β γ → Option γ
  | .brk y => k y
  | .ret z => some z

theorem loop_list {α A B D : Type} {step : α → Option (Step α D)} {l : List A} (st : Nat → B → α) (g : Nat → A → B → Step B D) (fin : B → D)
    (hs : ∀ pre x rest acc, l = pre ++ x :: rest → step (st pre.length acc) = some (stp st (pre.length + 1) (g pre.length x acc)))
    (he : ∀ acc, step (st l.length acc) = some (.done (fin acc))) :
    ∀ (rest pre : List A) (acc : B) (f : Nat), l = pre ++ rest → rest.length < f → loop step f (st pre.length acc) = some (foldS g fin pre.length acc rest)
  | [], pre, acc, f, hl, hf => by
    obtain ⟨f, rfl⟩ : ∃ f', f = f' + 1 := ⟨f - 1, by simp at hf; omega⟩
    have := he acc
    rw [hl, List.append_nil] at this
    simp [loop, this, foldS]
  | x :: rest, pre, acc, f, hl, hf => by
    obtain ⟨f, rfl⟩ : ∃ f', f = f' + 1 := ⟨f - 1, by simp at hf; omega⟩
    have h1 := hs pre x rest acc hl
    simp only [loop, h1, foldS]
    cases hg : g pre.length x acc with
    | done d => rfl
    | next acc' =>
      have ih := loop_list st g fin hs he rest (pre ++ [x]) acc' f (by rw [hl]; simp) (by simp at hf; omega)
      simpa [stp] using ih

theorem lp_list {α A B β γ : Type} {step : α → Option (Step α (Ex β γ))} {l : List A} {k : β → Option γ} (st : Nat → B → α) (acc0 : B) (g : Nat → A → B → Step B (Ex β γ)) (fin : B → Ex β γ) (hf : l.length < FUEL)
    (hs : ∀ pre x rest acc, l = pre ++ x :: rest → step (st pre.length acc) = some (stp st (pre.length + 1) (g pre.length x acc)))
    (he : ∀ acc, step (st l.length acc) = some (.done (fin acc))) :
    lp step (st 0 acc0) k = out k (foldS g fin 0 acc0 l) := by
  have h := loop_list st g fin hs he l [] acc0 FUEL rfl hf
  unfold lp
  simp only [List.length_nil] at h
  rw [h]
  cases foldS g fin 0 acc0 l <;> rfl

theorem idx_app {α : Type} (pre : List α) (x : α) (rest : List α) : Sw.idx (pre ++ x :: rest) (pre.length : Int) = some x := by
  unfold Sw.idx; simp
theorem inc {n m : Nat} (h : n < m) (hm : m ≤ 4611686018427387904) : ar .add .i64 (n : Int) 1 = ((n + 1 : Nat) : Int) := by
  unfold ar; simp only [IntKind.wrap, IntKind.signed, IntKind.bits]; simp; omega
theorem lss_app {α : Type} (pre : List α) (x : α) (rest : List α) : cm .lss (pre.length : Int) ((pre ++ x :: rest).length : Int) = true := by
  unfold cm; simp; omega
theorem lss_self {n : Nat} : cm .lss (n : Int) (n : Int) = false := by unfold cm; simp
end Go.Pl

namespace Go.Pl
open Go Go.Sw Go.Mo

theorem same_self (l : List Blk) (h : l.length ≤ 1000000) : m_ref_SameBlocks l l = some true := by
  unfold m_ref_SameBlocks
  have : cm .neq (l.length : Int) (l.length : Int) = false := by simp [cm]
  rw [this]
  simp only [cond_false]
  rw [show (0 : Int) = ((0 : Nat) : Int) from rfl, lp_list (l := l) (fun i (_ : Unit) => (i : Int)) () (fun _ _ _ => .next ()) (fun _ => .brk ()) (by unfold FUEL; omega)]
  · have : ∀ (l : List Blk) i, foldS (fun (_ : Nat) (_ : Blk) (_ : Unit) => (Step.next () : Step Unit (Ex Unit Bool))) (fun _ => .brk ()) i () l = .brk () := by
      intro l; induction l with
      | nil => intro i; rfl
      | cons x l ih => intro i; simp only [foldS]; exact ih _
    rw [this]; rfl
  · rintro pre x rest acc rfl
    simp only [lss_app, cond_true, idx_app, Option.bind_some, stp, inc (n := pre.length) (m := 1000000) (by simp at h; omega) (by omega)]
    simp
  · intro _; simp [lss_self]

theorem first_is (l : List Blk) (b : Blk) (h : l.length ≤ 1000000) : m_ref_First l b = some (if b ∈ l then ((l.idxOf b : Nat) : Int) else -1) := by
  unfold m_ref_First
  rw [show (0 : Int) = ((0 : Nat) : Int) from rfl, lp_list (l := l) (fun i (_ : Unit) => (i : Int)) () (fun i z _ => if z = b then .done (.ret (i : Int)) else .next ()) (fun _ => .brk ()) (by unfold FUEL; omega)]
  · have : ∀ (l : List Blk) (i : Nat), foldS (fun (i : Nat) (z : Blk) (_ : Unit) => (if z = b then Step.done (Ex.ret (i : Int)) else .next () : Step Unit (Ex Unit Int))) (fun _ => .brk ()) i () l = if b ∈ l then .ret ((i + l.idxOf b : Nat) : Int) else .brk () := by
      intro l; induction l with
      | nil => intro i; simp [foldS]
      | cons x l ih =>
        intro i
        simp only [foldS]
        by_cases hx : x = b
        · subst hx; simp
        · have hx' : ¬ b = x := fun h => hx h.symm
          rw [if_neg hx]
          simp only [ih, List.mem_cons, hx', false_or, List.idxOf_cons]
          have : (x == b) = false := by simp [hx]
          rw [this]
          simp only [cond_false]
          split <;> simp <;> omega
    rw [this]
    split <;> simp [out]
  · rintro pre x rest acc rfl
    simp only [lss_app, cond_true, idx_app, Option.bind_some, stp, inc (n := pre.length) (m := 1000000) (by simp at h; omega) (by omega)]
    by_cases hx : x = b <;> simp [hx, stp]
  · intro _; simp [lss_self]

theorem hadMay_is (l : List Blk) (h : l.length ≤ 1000000) : m_ref_HadMay l = some (if l.length > 8 then 2 else if l.Nodup then 0 else 3) := by
  unfold m_ref_HadMay
  by_cases h8 : l.length > 8
  · have : cm .gtr (l.length : Int) 8 = true := by simp [cm]; omega
    rw [this]; simp [h8]
  have : cm .gtr (l.length : Int) 8 = false := by simp [cm]; omega
  rw [this, if_neg h8]
  simp only [cond_false]
  rw [show (0 : Int) = ((0 : Nat) : Int) from rfl, lp_list (l := l) (fun i (_ : Unit) => (i : Int)) () (fun i z _ => if z ∈ l.take i then .done (.ret 3) else .next ()) (fun _ => .brk ()) (by unfold FUEL; omega)]
  · have : ∀ (rest pre : List Blk), l = pre ++ rest → pre.Nodup → foldS (fun (i : Nat) (z : Blk) (_ : Unit) => (if z ∈ l.take i then Step.done (Ex.ret 3) else .next () : Step Unit (Ex Unit Int))) (fun _ => .brk ()) pre.length () rest = if l.Nodup then .brk () else .ret 3 := by
      intro rest; induction rest with
      | nil => intro pre hl hn; rw [List.append_nil] at hl; subst hl; simp [foldS, hn]
      | cons x rest ih =>
        intro pre hl hn
        simp only [foldS]
        have ht : l.take pre.length = pre := by rw [hl]; simp
        rw [ht]
        by_cases hx : x ∈ pre
        · rw [if_pos hx]
          have : ¬ l.Nodup := by rw [hl, List.nodup_append]; rintro ⟨_, _, h3⟩; exact h3 x hx x (by simp) rfl
          simp [this]
        · rw [if_neg hx]
          have := ih (pre ++ [x]) (by rw [hl]; simp) (by rw [List.nodup_append]; exact ⟨hn, by simp, fun a ha b hb => by simp at hb; subst hb; rintro rfl; exact hx ha⟩)
          simpa using this
    have := this l [] rfl (by simp)
    simp only [List.length_nil] at this
    rw [this]
    split <;> simp [out]
  · rintro pre x rest acc rfl
    simp only [lss_app, cond_true, idx_app, Option.bind_some, first_is _ _ h, stp, inc (n := pre.length) (m := 1000000) (by simp at h; omega) (by omega)]
    have ht : (pre ++ x :: rest).take pre.length = pre := by simp
    rw [ht]
    have hm : x ∈ pre ++ x :: rest := by simp
    rw [if_pos hm, List.idxOf_append]
    by_cases hx : x ∈ pre
    · have : cm .lss ((List.idxOf x pre : Nat) : Int) (pre.length : Int) = true := by simp [cm, List.idxOf_lt_length_of_mem hx]
      simp [hx, this, stp]
    · have : cm .lss ((List.idxOf x (x :: rest) + pre.length : Nat) : Int) (pre.length : Int) = false := by simp [cm]
      simp only [hx, if_false, this, cond_false, stp]
  · intro _; simp [lss_self]

theorem mget_true (pre : List Blk) (z : Blk) : mget (pre.map fun x => (x, true)) z = if z ∈ pre then some true else none := by
  induction pre with
  | nil => simp [mget]
  | cons x pre ih =>
    simp only [List.map_cons, mget, ih, List.mem_cons]
    by_cases hx : x = z
    · simp [hx]
    · have : ¬ z = x := fun h => hx h.symm
      simp [hx, this]
theorem check_is (l : List Blk) (h : l.length ≤ 1000000) : m_cache_Check l = some (if l.length > 8 then some 2 else if l.Nodup then none else some 3) := by
  unfold m_cache_Check
  by_cases h8 : l.length > 8
  · have : cm .gtr (l.length : Int) 8 = true := by simp [cm]; omega
    rw [this]; simp [h8]
  have : cm .gtr (l.length : Int) 8 = false := by simp [cm]; omega
  rw [this, if_neg h8]
  simp only [cond_false]
  rw [show ((0 : Int), ([] : List (Blk × Bool))) = (((0 : Nat) : Int), (l.take 0).map fun x => (x, true)) from rfl, lp_list (l := l) (fun i (_ : Unit) => ((i : Int), (l.take i).map fun x => (x, true))) () (fun i z _ => if z ∈ l.take i then .done (.ret (some 3)) else .next ()) (fun _ => .brk ()) (by unfold FUEL; omega)]
  · have : ∀ (rest pre : List Blk), l = pre ++ rest → pre.Nodup → foldS (fun (i : Nat) (z : Blk) (_ : Unit) => (if z ∈ l.take i then Step.done (Ex.ret (some 3)) else .next () : Step Unit (Ex Unit (Option Int)))) (fun _ => .brk ()) pre.length () rest = if l.Nodup then .brk () else .ret (some 3) := by
      intro rest; induction rest with
      | nil => intro pre hl hn; rw [List.append_nil] at hl; subst hl; simp [foldS, hn]
      | cons x rest ih =>
        intro pre hl hn
        simp only [foldS]
        have ht : l.take pre.length = pre := by rw [hl]; simp
        rw [ht]
        by_cases hx : x ∈ pre
        · rw [if_pos hx]
          have : ¬ l.Nodup := by rw [hl, List.nodup_append]; rintro ⟨_, _, h3⟩; exact h3 x hx x (by simp) rfl
          simp [this]
        · rw [if_neg hx]
          have := ih (pre ++ [x]) (by rw [hl]; simp) (by rw [List.nodup_append]; exact ⟨hn, by simp, fun a ha b hb => by simp at hb; subst hb; rintro rfl; exact hx ha⟩)
          simpa using this
    have := this l [] rfl (by simp)
    simp only [List.length_nil] at this
    rw [this]
    split <;> simp [out]
  · rintro pre x rest acc rfl
    have ht : (pre ++ x :: rest).take pre.length = pre := by simp
    simp only [lss_app, cond_true, idx_app, Option.bind_some, ht, mget_true, stp, inc (n := pre.length) (m := 1000000) (by simp at h; omega) (by omega)]
    by_cases hx : x ∈ pre
    · simp [hx, stp]
    · have ht' : (pre ++ x :: rest).take (pre.length + 1) = pre ++ [x] := by rw [List.take_append]; simp [List.take_of_length_le]
      simp only [hx, if_false, Option.getD_none, cond_false, mput, mget_true, Option.bind_some, stp, ht']
      simp
  · intro _; simp [lss_self]

def touch (b : Blk) (l : List Blk) : List Blk := b :: (l.filter (fun z => decide (z ≠ b))).take 7
theorem app_small {α : Type} (xs ys : List α) (h : xs.length + ys.length ≤ 1000000) : Sw.app xs ys = some (xs ++ ys) := by unfold Sw.app; rw [if_pos (by omega)]
theorem touched_is (l : List Blk) (b : Blk) (h : l.length ≤ 1000000) : m_ref_Touched l b = some (touch b l) := by
  unfold m_ref_Touched
  rw [show (0 : Int) = ((0 : Nat) : Int) from rfl, lp_list (l := l) (fun i (acc : List Blk) => ((i : Int), acc)) [b]
    (fun i z acc => if acc.length < 8 then (if z ≠ b then (if acc.length + 1 ≤ 4294967296 then .next (acc ++ [z]) else .next acc) else .next acc) else .done (.brk acc)) (fun acc => .brk acc) (by unfold FUEL; omega)]
  · have : ∀ (l : List Blk) (i : Nat) (acc : List Blk), acc.length ≤ 8 → foldS (fun (i : Nat) (z : Blk) (acc : List Blk) => (if acc.length < 8 then (if z ≠ b then (if acc.length + 1 ≤ 4294967296 then .next (acc ++ [z]) else .next acc) else .next acc) else .done (.brk acc) : Step (List Blk) (Ex (List Blk) (List Blk)))) (fun acc => .brk acc) i acc l = .brk (acc ++ (l.filter (fun z => decide (z ≠ b))).take (8 - acc.length)) := by
      intro l; induction l with
      | nil => intro i acc _; simp [foldS]
      | cons x l ih =>
        intro i acc ha
        simp only [foldS]
        by_cases h8 : acc.length < 8
        · rw [if_pos h8]
          by_cases hx : x ≠ b
          · rw [if_pos hx, if_pos (by omega)]
            simp only
            rw [ih _ _ (by simp; omega)]
            have : (x :: l).filter (fun z => decide (z ≠ b)) = x :: l.filter (fun z => decide (z ≠ b)) := by rw [List.filter_cons]; simp [hx]
            rw [this]
            obtain ⟨n, hn⟩ : ∃ n, 8 - acc.length = n + 1 := ⟨7 - acc.length, by omega⟩
            have hn' : 8 - (acc ++ [x]).length = n := by simp; omega
            rw [hn, hn']; simp
          · rw [if_neg hx]
            simp only
            rw [ih _ _ ha]
            have : (x :: l).filter (fun z => decide (z ≠ b)) = l.filter (fun z => decide (z ≠ b)) := by rw [List.filter_cons]; simp at hx; simp [hx]
            rw [this]
        · rw [if_neg h8]
          have : 8 - acc.length = 0 := by omega
          simp [this]
    rw [this _ _ _ (by simp)]
    simp [out, touch]
  · rintro pre x rest acc rfl
    simp only [lss_app, cond_true, idx_app, Option.bind_some, inc (n := pre.length) (m := 1000000) (by simp at h; omega) (by omega)]
    by_cases h8 : acc.length < 8
    · have : cm .lss (acc.length : Int) 8 = true := by simp [cm]; omega
      simp only [this, cond_true, h8, if_true]
      by_cases hx : x = b
      · simp [hx, stp]
      · simp only [hx, decide_false, Bool.not_false, cond_true, app_small acc [x] (by simp; omega), Option.bind_some, ne_eq, not_false_eq_true, if_true]
        rw [if_pos (by omega)]; simp [stp]
    · have : cm .lss (acc.length : Int) 8 = false := by simp [cm]; omega
      simp [this, h8, stp]
  · intro _; simp [lss_self]

theorem touch_is (l : List Blk) (b : Blk) (h : l.length ≤ 1000000) : m_cache_Touch l b = some (if l.length > 8 then ([], some 2) else if l.Nodup then (touch b l, none) else ([], some 3)) := by
  unfold m_cache_Touch
  rw [check_is l h]
  simp only [Option.bind_some]
  by_cases h8 : l.length > 8
  · simp [h8]
  by_cases hn : ¬ l.Nodup
  · simp [h8, hn]
  have hn : l.Nodup := Decidable.not_not.1 hn
  simp only [h8, hn, if_true, if_false, Option.isSome_none, cond_false]
  rw [show (0 : Int) = ((0 : Nat) : Int) from rfl, lp_list (l := l) (fun i (acc : List Blk) => ((i : Int), acc)) [b]
    (fun i z acc => if z ≠ b ∧ acc.length < 8 then .next (acc ++ [z]) else .next acc) (fun acc => .brk acc) (by unfold FUEL; omega)]
  · have : ∀ (l : List Blk) (i : Nat) (acc : List Blk), acc.length ≤ 8 → foldS (fun (i : Nat) (z : Blk) (acc : List Blk) => (if z ≠ b ∧ acc.length < 8 then .next (acc ++ [z]) else .next acc : Step (List Blk) (Ex (List Blk) (List Blk × Option Int)))) (fun acc => .brk acc) i acc l = .brk (acc ++ (l.filter (fun z => decide (z ≠ b))).take (8 - acc.length)) := by
      intro l; induction l with
      | nil => intro i acc _; simp [foldS]
      | cons x l ih =>
        intro i acc ha
        simp only [foldS]
        by_cases hx : x ≠ b
        · have : (x :: l).filter (fun z => decide (z ≠ b)) = x :: l.filter (fun z => decide (z ≠ b)) := by rw [List.filter_cons]; simp [hx]
          rw [this]
          by_cases h8 : acc.length < 8
          · rw [if_pos ⟨hx, h8⟩]
            simp only
            rw [ih _ _ (by simp; omega)]
            obtain ⟨n, hn⟩ : ∃ n, 8 - acc.length = n + 1 := ⟨7 - acc.length, by omega⟩
            have hn' : 8 - (acc ++ [x]).length = n := by simp; omega
            rw [hn, hn']; simp
          · rw [if_neg (fun h => h8 h.2)]
            simp only
            rw [ih _ _ ha]
            have : 8 - acc.length = 0 := by omega
            simp [this]
        · rw [if_neg (fun h => hx h.1)]
          simp only
          rw [ih _ _ ha]
          have : (x :: l).filter (fun z => decide (z ≠ b)) = l.filter (fun z => decide (z ≠ b)) := by rw [List.filter_cons]; simp at hx; simp [hx]
          rw [this]
    rw [this _ _ _ (by simp)]
    simp [out, touch]
  · rintro pre x rest acc rfl
    simp only [lss_app, cond_true, idx_app, Option.bind_some, inc (n := pre.length) (m := 1000000) (by simp at h; omega) (by omega)]
    by_cases hx : x = b
    · simp [hx, stp]
    · by_cases h8 : acc.length < 8
      · have : cm .lss (acc.length : Int) 8 = true := by simp [cm]; omega
        simp only [hx, decide_false, Bool.not_false, cond_true, this, Option.bind_some, app_small acc [x] (by simp; omega), ne_eq, not_false_eq_true, h8, and_self, if_true, stp]
      · have : cm .lss (acc.length : Int) 8 = false := by simp [cm]; omega
        simp [hx, this, h8, stp]
  · intro _; simp [lss_self]

theorem is_self (e : Option Int) (n : Int) (h : (e = none ∧ n = 0) ∨ (e = some n ∧ n ≠ 0)) : m_ref_Is e n = some true := by
  unfold m_ref_Is
  rcases h with ⟨rfl, rfl⟩ | ⟨rfl, h⟩
  · simp [cm]
  · have : (n != 0) = true := by simp [h]
    simp [cm, this]

theorem cacheHad (l : List Blk) (b : Blk) : m_law_CacheHad l b = some true := by
  unfold m_law_CacheHad
  by_cases h100 : l.length > 100
  · have : cm .gtr (l.length : Int) 100 = true := by simp [cm]; omega
    simp [this]
  have : cm .gtr (l.length : Int) 100 = false := by simp [cm]; omega
  have h : l.length ≤ 1000000 := by omega
  have ht : (touch b l).length ≤ 1000000 := by simp [touch]; omega
  simp only [this, cond_false, hadMay_is l h, Option.bind_some, touch_is l b h, check_is l h, touched_is l b h, jp]
  by_cases h8 : l.length > 8
  · simp [h8, cm, is_self, same_self]
  · by_cases hn : l.Nodup
    · simp [h8, hn, cm, is_self, same_self _ ht]
    · simp [h8, hn, cm, is_self, same_self]
end Go.Pl
