/- The plain law: the model of the law answers true. Conditions: none. -/
import Derived.Test.YteckohdbfkhmdacMoTopAtomic
set_option linter.unusedVariables false
set_option linter.unusedSimpArgs false
namespace Go.Pl
open Go Go.Sw

/-- going over a list, with what is carried, till something is done -/
def foldS {A B D : Type} (g : Nat → A → B → Step B D) (fin : B → D) : Nat → B → List A → D
  | _, acc, [] => fin acc
  | i, acc, x :: xs => match g i x acc with
    | .next acc' => foldS g fin (i + 1) acc' xs
    | .done d => d

def stp {α B D : Type} (st : Nat → B → α) (i : Nat) : Step B D → Step α D
  | .next a => .next (st i a)
  | .done d => .done d
def out {β γ : Type} (k : β → Option γ) : Ex β γ → Option γ
  | .brk y => k y
  | .ret z => some z

theorem loop_list {α A B D : Type} {step : α → Option (Step α D)} {l : List A} (st : Nat → B → α) (g : Nat → A → B → Step B D) (fin : B → D)
    (hs : ∀ pre x rest acc, l = pre ++ x :: rest → step (st pre.length acc) = some (stp st (pre.length + 1) (g pre.length x acc)))
    (he : ∀ acc, step (st l.length acc) = some (.done (fin acc))) :
    ∀ (rest pre : List A) (acc : B) (f : Nat), l = pre ++ rest → rest.length < f → loop step f (st pre.length acc) = some (foldS g fin pre.length acc rest)
  | [], pre, acc, f, hl, hf => by
    obtain ⟨f, rfl⟩ : ∃ f', f = f' + 1 := ⟨f - 1, by simp at hf; omega⟩
    have := he acc
    rw [hl, List.append_nil] at this
    simp [loop, this, foldS]
  | x :: rest, pre, acc, f, hl, hf => by
    obtain ⟨f, rfl⟩ : ∃ f', f = f' + 1 := ⟨f - 1, by simp at hf; omega⟩
    have h1 := hs pre x rest acc hl
    simp only [loop, h1, foldS]
    cases hg : g pre.length x acc with
    | done d => rfl
    | next acc' =>
      have ih := loop_list st g fin hs he rest (pre ++ [x]) acc' f (by rw [hl]; simp) (by simp at hf; omega)
      simpa [stp] using ih

theorem lp_list {α A B β γ : Type} {step : α → Option (Step α (Ex β γ))} {l : List A} {k : β → Option γ} (st : Nat → B → α) (acc0 : B) (g : Nat → A → B → Step B (Ex β γ)) (fin : B → Ex β γ) (hf : l.length < FUEL)
    (hs : ∀ pre x rest acc, l = pre ++ x :: rest → step (st pre.length acc) = some (stp st (pre.length + 1) (g pre.length x acc)))
    (he : ∀ acc, step (st l.length acc) = some (.done (fin acc))) :
    lp step (st 0 acc0) k = out k (foldS g fin 0 acc0 l) := by
  have h := loop_list st g fin hs he l [] acc0 FUEL rfl hf
  unfold lp
  simp only [List.length_nil] at h
  rw [h]
  cases foldS g fin 0 acc0 l <;> rfl

theorem idx_app {α : Type} (pre : List α) (x : α) (rest : List α) : Sw.idx (pre ++ x :: rest) (pre.length : Int) = some x := by
  unfold Sw.idx; simp
theorem inc {n m : Nat} (h : n < m) (hm : m ≤ 4611686018427387904) : ar .add .i64 (n : Int) 1 = ((n + 1 : Nat) : Int) := by
  unfold ar; simp only [IntKind.wrap, IntKind.signed, IntKind.bits]; simp; omega
theorem lss_app {α : Type} (pre : List α) (x : α) (rest : List α) : cm .lss (pre.length : Int) ((pre ++ x :: rest).length : Int) = true := by
  unfold cm; simp; omega
theorem lss_self {n : Nat} : cm .lss (n : Int) (n : Int) = false := by unfold cm; simp
end Go.Pl

namespace Go.Pl
open Go Go.Sw

theorem lp_count {α β γ : Type} {step : α → Option (Step α (Ex β γ))} {k : β → Option γ} (st : Nat → α) (n : Nat) (y : β) (hf : n < FUEL) (hs : ∀ i, i < n → step (st i) = some (.next (st (i + 1)))) (he : step (st n) = some (.done (.brk y))) : lp step (st 0) k = k y := by
  have h : ∀ m i, i + m = n → ∀ f, m < f → loop step f (st i) = some (.brk y) := by
    intro m
    induction m with
    | zero =>
      intro i hi f hf
      obtain ⟨f, rfl⟩ : ∃ f', f = f' + 1 := ⟨f - 1, by omega⟩
      simp only [Nat.add_zero] at hi
      subst hi
      simp [loop, he]
    | succ m ih =>
      intro i hi f hf
      obtain ⟨f, rfl⟩ : ∃ f', f = f' + 1 := ⟨f - 1, by omega⟩
      simp only [loop, hs i (by omega)]
      exact ih (i + 1) (by omega) f (by omega)
  unfold lp
  rw [h n 0 (by omega) FUEL hf]

theorem wrap_i64 {n : Int} (h : -9223372036854775808 ≤ n ∧ n ≤ 9223372036854775807) : IntKind.wrap .i64 n = n := wrap_id (k := .i64) (by unfold inK; simp [IntKind.min, IntKind.max, IntKind.signed, IntKind.bits]; omega)
theorem wrap_u8 {n : Int} (h : 0 ≤ n ∧ n ≤ 255) : IntKind.wrap .u8 n = n := wrap_id (k := .u8) (by unfold inK; simp [IntKind.min, IntKind.max, IntKind.signed, IntKind.bits]; omega)
theorem wrap_u32 {n : Int} (h : 0 ≤ n ∧ n ≤ 4294967295) : IntKind.wrap .u32 n = n := wrap_id (k := .u32) (by unfold inK; simp [IntKind.min, IntKind.max, IntKind.signed, IntKind.bits]; omega)
theorem ofInt_nat (w n : Nat) : BitVec.ofInt w (n : Int) = BitVec.ofNat w n := by
  apply BitVec.eq_of_toNat_eq
  simp
theorem xor32 {a b : Nat} (ha : a < 4294967296) (hb : b < 4294967296) : ar .xor .u32 (a : Int) (b : Int) = ((a ^^^ b : Nat) : Int) := by
  have h : a ^^^ b < 2 ^ 32 := Nat.xor_lt_two_pow (by simpa using ha) (by simpa using hb)
  show IntKind.wrap .u32 ((BitVec.ofInt 32 (a : Int) ^^^ BitVec.ofInt 32 (b : Int)).toNat : Int) = _
  simp only [ofInt_nat, BitVec.toNat_xor, BitVec.toNat_ofNat]
  rw [Nat.mod_eq_of_lt (by simpa using ha), Nat.mod_eq_of_lt (by simpa using hb)]
  exact wrap_u32 (by simp at h; omega)
theorem and32 {a : Nat} (ha : a < 4294967296) : ar .and .u32 (a : Int) 1 = ((a % 2 : Nat) : Int) := by
  show IntKind.wrap .u32 ((BitVec.ofInt 32 (a : Int) &&& BitVec.ofInt 32 ((1 : Nat) : Int)).toNat : Int) = _
  simp only [ofInt_nat, BitVec.toNat_and, BitVec.toNat_ofNat]
  rw [Nat.mod_eq_of_lt (a := a) (by simpa using ha), Nat.mod_eq_of_lt (a := 1) (by decide), Nat.and_one_is_mod]
  exact wrap_u32 (by omega)
theorem mul32 {a : Nat} (ha : a < 2) : ar .mul .u32 3988292384 (a : Int) = ((if a = 1 then 3988292384 else 0 : Nat) : Int) := by
  have : a = 0 ∨ a = 1 := by omega
  rcases this with rfl | rfl
  · rfl
  · decide
theorem shr1 {a : Nat} : sh .shr .u32 (a : Int) 1 = ((a / 2 : Nat) : Int) := by
  show Int.fdiv _ _ = _
  have : (2 : Int) ^ min (1 : Int).toNat (IntKind.bits .u32) = 2 := by decide
  rw [this, Int.fdiv_eq_ediv_of_nonneg _ (by omega)]
  omega
theorem not32 {a : Nat} (ha : a < 4294967296) : bnot .u32 (a : Int) = ((4294967295 - a : Nat) : Int) := by
  unfold bnot
  show IntKind.wrap .u32 ((BitVec.allOnes 32 ^^^ BitVec.ofInt 32 (a : Int)).toNat : Int) = _
  simp only [ofInt_nat, BitVec.allOnes_xor, BitVec.toNat_not, BitVec.toNat_ofNat]
  rw [Nat.mod_eq_of_lt (by simpa using ha)]
  exact wrap_u32 (by omega)
theorem tdiv_nat (a b : Nat) : Int.tdiv (a : Int) (b : Int) = ((a / b : Nat) : Int) := rfl
theorem tmod_nat (a b : Nat) : Int.tmod (a : Int) (b : Int) = ((a % b : Nat) : Int) := rfl
theorem quo64 {a b : Nat} (ha : a ≤ 9223372036854775807) : ar .quo .i64 (a : Int) (b : Int) = ((a / b : Nat) : Int) := by
  show IntKind.wrap .i64 _ = _
  rw [tdiv_nat]
  have := Nat.div_le_self a b
  generalize a / b = q at *
  exact wrap_i64 (by omega)
theorem rem64 {a b : Nat} : ar .rem .i64 (a : Int) (b : Int) = ((a % b : Nat) : Int) := rfl
theorem add64 {a b : Nat} (h : a + b ≤ 9223372036854775807) : ar .add .i64 (a : Int) (b : Int) = ((a + b : Nat) : Int) := by
  show IntKind.wrap .i64 _ = _
  rw [← Int.natCast_add]; exact wrap_i64 (by omega)
theorem mul64 {a b : Nat} (h : a * b ≤ 9223372036854775807) : ar .mul .i64 (a : Int) (b : Int) = ((a * b : Nat) : Int) := by
  show IntKind.wrap .i64 _ = _
  rw [← Int.natCast_mul]; exact wrap_i64 (by omega)
theorem nz_ok {n : Int} (h : n ≠ 0) : nz n = some () := by unfold nz; rw [if_neg h]
theorem cm_lss {a b : Nat} : cm .lss (a : Int) (b : Int) = decide (a < b) := by unfold cm; simp
theorem bit_xor (a b i : Nat) : (a ^^^ b) / 2 ^ i % 2 = (a / 2 ^ i + b / 2 ^ i) % 2 := by
  have h := Nat.testBit_xor a b i
  simp only [Nat.testBit_eq_decide_div_mod_eq] at h
  have ha := Nat.mod_two_eq_zero_or_one (a / 2 ^ i)
  have hb := Nat.mod_two_eq_zero_or_one (b / 2 ^ i)
  have hc := Nat.mod_two_eq_zero_or_one ((a ^^^ b) / 2 ^ i)
  rw [Nat.add_mod]
  rcases ha with ha | ha <;> rcases hb with hb | hb <;> rcases hc with hc | hc <;> simp [ha, hb, hc] at h ⊢
theorem xor_half (a b : Nat) : (a ^^^ b) / 2 = a / 2 ^^^ b / 2 := by
  have := Nat.shiftRight_xor_distrib (i := 1) (a := a) (b := b)
  simpa [Nat.shiftRight_eq_div_pow] using this
end Go.Pl

namespace Go.Pl
open Go Go.Sw
/-- bytes -/
def Bytes (l : List Int) : Prop := ∀ x ∈ l, 0 ≤ x ∧ x ≤ 255
def nat (l : List Int) : List Nat := l.map Int.toNat
theorem nat_byte {l : List Int} (h : Bytes l) : ∀ b ∈ nat l, b < 256 := by
  intro b hb
  obtain ⟨x, hx, rfl⟩ := List.mem_map.1 hb
  have := h x hx; omega

/-- as lp_list, with what holds on the way -/
theorem lp_inv {α A B β γ : Type} {step : α → Option (Step α (Ex β γ))} {l : List A} {k : β → Option γ} (st : Nat → B → α) (I : Nat → B → Prop) (acc0 : B) (g : Nat → A → B → B) (fin : B → β) (hf : l.length < FUEL) (h0 : I 0 acc0)
    (hs : ∀ pre x rest acc, l = pre ++ x :: rest → I pre.length acc → step (st pre.length acc) = some (.next (st (pre.length + 1) (g pre.length x acc))) ∧ I (pre.length + 1) (g pre.length x acc))
    (he : ∀ acc, I l.length acc → step (st l.length acc) = some (.done (.brk (fin acc)))) :
    lp step (st 0 acc0) k = k (fin ((l.zipIdx).foldl (fun acc x => g x.2 x.1 acc) acc0)) := by
  have key : ∀ (rest pre : List A) (acc : B) (f : Nat), l = pre ++ rest → I pre.length acc → rest.length < f → loop step f (st pre.length acc) = some (.brk (fin ((rest.zipIdx pre.length).foldl (fun acc x => g x.2 x.1 acc) acc))) := by
    intro rest
    induction rest with
    | nil =>
      intro pre acc f hl hI hf
      obtain ⟨f, rfl⟩ : ∃ f', f = f' + 1 := ⟨f - 1, by simp at hf; omega⟩
      have := he acc (by rw [hl, List.append_nil]; exact hI)
      rw [hl, List.append_nil] at this
      simp [loop, this]
    | cons x rest ih =>
      intro pre acc f hl hI hf
      obtain ⟨f, rfl⟩ : ∃ f', f = f' + 1 := ⟨f - 1, by simp at hf; omega⟩
      obtain ⟨h1, h2⟩ := hs pre x rest acc hl hI
      simp only [loop, h1]
      have := ih (pre ++ [x]) (g pre.length x acc) f (by rw [hl]; simp) (by simpa using h2) (by simp at hf; omega)
      simpa using this
  have h := key l [] acc0 FUEL rfl h0 hf
  unfold lp
  simp only [List.length_nil] at h
  rw [h]
theorem app_small {α : Type} (xs ys : List α) (h : xs.length + ys.length ≤ 4294967296) : Sw.app xs ys = some (xs ++ ys) := by unfold Sw.app; rw [if_pos h]
theorem foldl_zipIdx {A : Type} (w : A → List Int) : ∀ (l : List A) (i : Nat) (acc : List Int), (l.zipIdx i).foldl (fun acc x => acc ++ w x.1) acc = acc ++ l.flatMap w
  | [], _, acc => by simp
  | x :: l, i, acc => by simp [foldl_zipIdx w l]
end Go.Pl

namespace Go.Pl
open Go Go.Sw
/-- it lies somewhere so -/
def Wf {α : Type} (e : Enc α) (x : α) : Prop := ∃ S w cs, e.ok x S w cs
theorem Wf.int {k : IntKind} {n : Int} (h : Wf (Enc.int k) n) : inK k n := by obtain ⟨_, _, _, h⟩ := h; exact h.2
theorem okL_all {α : Type} {e : Enc α} {S w} : ∀ {xs : List α} {cs}, e.okL xs S w cs → ∀ x ∈ xs, Wf e x
  | [], _, _, x, hx => by simp at hx
  | y :: ys, _, ⟨c, d, _, h2, h3⟩, x, hx => by
    rcases List.mem_cons.1 hx with rfl | hx
    · exact ⟨_, _, _, h2⟩
    · exact okL_all h3 x hx
theorem Wf.arr {α : Type} {m : Nat} {e : Enc α} {xs : List α} (h : Wf (Enc.arr m e) xs) : xs.length = m ∧ ∀ x ∈ xs, Wf e x := by
  obtain ⟨_, _, _, h1, h2⟩ := h; exact ⟨h1, okL_all h2⟩
theorem Wf.sl {α : Type} {e : Enc α} {xs : List α} (h : Wf (Enc.sl e) xs) : xs.length ≤ 140737488355328 ∧ ∀ x ∈ xs, Wf e x := by
  obtain ⟨_, _, _, a, cap, _, h2, h3⟩ := h
  refine ⟨h2.2, ?_⟩
  rcases h3 with rfl | ⟨b, off, ds, _, _, _, _, h4⟩
  · intro x hx; simp at hx
  · exact okL_all h4
theorem Wf.pr {α β : Type} {a : Enc α} {b : Enc β} {x : α × β} (h : Wf (Enc.pr a b) x) : Wf a x.1 ∧ Wf b x.2 := by
  obtain ⟨_, _, _, c, d, _, h1, h2⟩ := h; exact ⟨⟨_, _, _, h1⟩, ⟨_, _, _, h2⟩⟩
theorem Wf.one1 {α : Type} {a : Enc α} {x : α} (h : Wf (Enc.one1 a) x) : Wf a x := h
theorem Wf.of_val {α : Type} {e : Enc α} {x : α} {S w v} (h : e.val x S w v) : Wf e x := by obtain ⟨cs, h, _⟩ := h; exact ⟨_, _, _, h⟩
end Go.Pl

namespace Go.Pl
open Go Go.Sw
theorem cl (m n : Int) : cm .lss m n = decide (m < n) := rfl
theorem cg (m n : Int) : cm .gtr m n = decide (m > n) := rfl
theorem cle (m n : Int) : cm .leq m n = decide (m ≤ n) := rfl
theorem cge (m n : Int) : cm .geq m n = decide (m ≥ n) := rfl
theorem ce (m n : Int) : cm .eql m n = decide (m = n) := by show (m == n) = _; by_cases h : m = n <;> simp [h]
theorem cn (m n : Int) : cm .neq m n = decide (m ≠ n) := by show (m != n) = _; by_cases h : m = n <;> simp [h]
theorem addI {m n : Int} (h : -9223372036854775808 ≤ m + n ∧ m + n ≤ 9223372036854775807) : ar .add .i64 m n = m + n := wrap_i64 h
theorem subI {m n : Int} (h : -9223372036854775808 ≤ m - n ∧ m - n ≤ 9223372036854775807) : ar .sub .i64 m n = m - n := wrap_i64 h
theorem nxt {n : Nat} (h : n ≤ 4611686018427387904) : ar .add .i64 (n : Int) 1 = ((n + 1 : Nat) : Int) := by rw [addI (by omega)]; push_cast; rfl
/-- a list gone through, each element looked at: one that is bad ends it -/
theorem lp_any {α A β γ : Type} {step : α → Option (Step α (Ex β γ))} {l : List A} {k : β → Option γ} (st : Nat → α) (bad : A → Bool) (z : γ) (y : β) (hf : l.length < FUEL)
    (hs : ∀ pre x rest, l = pre ++ x :: rest → step (st pre.length) = some (if bad x then .done (.ret z) else .next (st (pre.length + 1)))) (he : step (st l.length) = some (.done (.brk y))) :
    lp step (st 0) k = if l.any bad then some z else k y := by
  have key : ∀ (rest pre : List A) (f : Nat), l = pre ++ rest → rest.length < f → loop step f (st pre.length) = some (if rest.any bad then .ret z else .brk y) := by
    intro rest
    induction rest with
    | nil =>
      intro pre f hl hf
      obtain ⟨f, rfl⟩ : ∃ f', f = f' + 1 := ⟨f - 1, by simp at hf; omega⟩
      rw [List.append_nil] at hl
      rw [← hl]
      simp [loop, he]
    | cons x rest ih =>
      intro pre f hl hf
      obtain ⟨f, rfl⟩ : ∃ f', f = f' + 1 := ⟨f - 1, by simp at hf; omega⟩
      simp only [loop, hs pre x rest hl, List.any_cons]
      by_cases hb : bad x = true
      · simp [hb]
      · have := ih (pre ++ [x]) f (by rw [hl]; simp) (by simp at hf; omega)
        simp only [Bool.not_eq_true] at hb
        simp only [hb, Bool.false_eq_true, if_false, Bool.false_or]
        simpa using this
  have := key l [] FUEL rfl hf
  unfold lp
  simp only [List.length_nil] at this
  rw [this]
  by_cases hb : l.any bad = true
  · simp only [hb, if_true]
  · simp only [Bool.not_eq_true] at hb
    simp only [hb, Bool.false_eq_true, if_false]
theorem lenF {A : Type} {l : List A} {n : Nat} (h : l.length ≤ n) (hn : n ≤ 140737488355328) : l.length < FUEL := by unfold FUEL; omega
/-- the same, with the state told once more -/
theorem lss_len {A : Type} {l pre rest : List A} {x : A} (h : l = pre ++ x :: rest) : cm .lss (pre.length : Int) (l.length : Int) = true := by rw [h]; exact lss_app pre x rest
theorem idx_len {A : Type} {l pre rest : List A} {x : A} (h : l = pre ++ x :: rest) : Sw.idx l (pre.length : Int) = some x := by rw [h]; exact idx_app pre x rest
theorem idx_get {A : Type} {l : List A} {i : Nat} {x : A} (h : l[i]? = some x) : Sw.idx l (i : Int) = some x := by unfold Sw.idx; simp [h]
theorem idx_nat {A : Type} {l : List A} {n : Int} (h0 : 0 ≤ n) (h1 : n < l.length) : ∃ x, Sw.idx l n = some x ∧ l[n.toNat]? = some x := by
  have : n.toNat < l.length := by omega
  exact ⟨l[n.toNat], by unfold Sw.idx; simp [h0, this], by simp [this]⟩
/-- two lists that are the same, element by element -/
theorem same_loop {A : Type} [DecidableEq A] (l : List A) (hl : l.length ≤ 1000000) (k : Unit → Option Bool) :
    lp (β := Unit) (fun (s12 : Int) => bif (cm .lss s12 (l.length : Int)) then (Sw.idx l s12).bind fun z20 => (Sw.idx l s12).bind fun z21 => bif (!decide (z20 = z21)) then some (.done (.ret false)) else some (.next (ar .add .i64 s12 (1 : Int))) else some (.done (.brk ()))) (0 : Int) k = k () := by
  rw [show (0 : Int) = (fun (i : Nat) => (i : Int)) 0 from rfl]
  rw [lp_any (l := l) (fun (i : Nat) => (i : Int)) (fun _ => false) false () (lenF hl (by decide))]
  · simp
  · intro pre x rest h
    simp only [lss_len h, cond_true, idx_len h, Option.bind_some]
    rw [nxt (by rw [h] at hl; simp at hl; omega)]
    simp
  · simp only [lss_self, cond_false]
theorem wf_byte {n : Int} (h : Wf (Enc.int .u8) n) : 0 ≤ n ∧ n ≤ 255 := by
  have := h.int
  unfold inK at this
  simpa [IntKind.min, IntKind.max, IntKind.signed, IntKind.bits] using this
theorem wf_i64 {n : Int} (h : Wf (Enc.int .i64) n) : -9223372036854775808 ≤ n ∧ n ≤ 9223372036854775807 := by
  have := h.int
  unfold inK at this
  simpa [IntKind.min, IntKind.max, IntKind.signed, IntKind.bits] using this
theorem wf_bytes {l : List Int} (h : Wf (Enc.sl (Enc.int .u8)) l) : Bytes l := fun x hx => wf_byte (h.sl.2 x hx)

/-- the first bad one, by its number -/
theorem lp_find {α A β γ : Type} {step : α → Option (Step α (Ex β γ))} {l : List A} {k : β → Option γ} (st : Nat → α) (bad : A → Bool) (z : Nat → γ) (y : β) (hf : l.length < FUEL)
    (hs : ∀ pre x rest, l = pre ++ x :: rest → step (st pre.length) = some (if bad x then .done (.ret (z pre.length)) else .next (st (pre.length + 1)))) (he : step (st l.length) = some (.done (.brk y))) :
    lp step (st 0) k = match l.findIdx? bad with | some j => some (z j) | none => k y := by
  have key : ∀ (rest pre : List A) (f : Nat), l = pre ++ rest → rest.length < f → loop step f (st pre.length) = some (match rest.findIdx? bad with | some j => .ret (z (pre.length + j)) | none => .brk y) := by
    intro rest
    induction rest with
    | nil =>
      intro pre f hl hf
      obtain ⟨f, rfl⟩ : ∃ f', f = f' + 1 := ⟨f - 1, by simp at hf; omega⟩
      rw [List.append_nil] at hl
      rw [← hl]
      simp [loop, he]
    | cons x rest ih =>
      intro pre f hl hf
      obtain ⟨f, rfl⟩ : ∃ f', f = f' + 1 := ⟨f - 1, by simp at hf; omega⟩
      simp only [loop, hs pre x rest hl, List.findIdx?_cons]
      by_cases hb : bad x = true
      · simp [hb]
      · have := ih (pre ++ [x]) f (by rw [hl]; simp) (by simp at hf; omega)
        simp only [Bool.not_eq_true] at hb
        simp only [hb, Bool.false_eq_true, if_false]
        rw [List.length_append, List.length_singleton] at this
        rw [this]
        cases rest.findIdx? bad with
        | none => rfl
        | some j => simp only [Option.map_some]; congr 3; omega
  have := key l [] FUEL rfl hf
  unfold lp
  simp only [List.length_nil, Nat.zero_add] at this
  rw [this]
  cases l.findIdx? bad <;> rfl
theorem any_findIdx {A : Type} (l : List A) (bad : A → Bool) : l.any bad = (l.findIdx? bad).isSome := by
  simp
end Go.Pl

namespace Go.Pl
open Go Go.Sw
/-- going over a list, with what is carried, till something is done -/
def foldG {A B D : Type} (g : B → A → Step B D) (fin : B → D) : B → List A → D
  | acc, [] => fin acc
  | acc, x :: xs => match g acc x with
    | .next acc' => foldG g fin acc' xs
    | .done d => d
theorem lp_walk {α A B β γ : Type} {step : α → Option (Step α (Ex β γ))} {l : List A} {k : β → Option γ} (st : Nat → B → α) (I : List A → B → Prop) (g : B → A → Step B (Ex β γ)) (fin : B → Ex β γ) (acc0 : B) (hf : l.length < FUEL) (h0 : I [] acc0)
    (hs : ∀ pre x rest acc, l = pre ++ x :: rest → I pre acc → step (st pre.length acc) = some (stp st (pre.length + 1) (g acc x)) ∧ ∀ acc', g acc x = .next acc' → I (pre ++ [x]) acc')
    (he : ∀ acc, I l acc → step (st l.length acc) = some (.done (fin acc))) :
    lp step (st 0 acc0) k = out k (foldG g fin acc0 l) := by
  have key : ∀ (rest pre : List A) (acc : B) (f : Nat), l = pre ++ rest → I pre acc → rest.length < f → loop step f (st pre.length acc) = some (foldG g fin acc rest) := by
    intro rest
    induction rest with
    | nil =>
      intro pre acc f hl hI hf
      obtain ⟨f, rfl⟩ : ∃ f', f = f' + 1 := ⟨f - 1, by simp at hf; omega⟩
      rw [List.append_nil] at hl
      subst hl
      simp [loop, he acc hI, foldG]
    | cons x rest ih =>
      intro pre acc f hl hI hf
      obtain ⟨f, rfl⟩ : ∃ f', f = f' + 1 := ⟨f - 1, by simp at hf; omega⟩
      obtain ⟨h1, h2⟩ := hs pre x rest acc hl hI
      simp only [loop, h1, foldG]
      cases hg : g acc x with
      | done d => rfl
      | next acc' =>
        have := ih (pre ++ [x]) acc' f (by rw [hl]; simp) (h2 acc' hg) (by simp at hf; omega)
        simpa [stp] using this
  have h := key l [] acc0 FUEL rfl h0 hf
  unfold lp
  simp only [List.length_nil] at h
  rw [h]
  cases foldG g fin acc0 l <;> rfl
/-- a list gone through to its end -/
theorem lp_go {α A B β γ : Type} {step : α → Option (Step α (Ex β γ))} {l : List A} {k : β → Option γ} (st : Nat → B → α) (I : List A → B → Prop) (fin : B → β) (acc0 : B) (hf : l.length < FUEL) (h0 : I [] acc0)
    (hs : ∀ pre x rest acc, l = pre ++ x :: rest → I pre acc → ∃ acc', step (st pre.length acc) = some (.next (st (pre.length + 1) acc')) ∧ I (pre ++ [x]) acc')
    (he : ∀ acc, I l acc → step (st l.length acc) = some (.done (.brk (fin acc)))) : ∃ acc, I l acc ∧ lp step (st 0 acc0) k = k (fin acc) := by
  have key : ∀ (rest pre : List A) (acc : B) (f : Nat), l = pre ++ rest → I pre acc → rest.length < f → ∃ acc', I l acc' ∧ loop step f (st pre.length acc) = some (.brk (fin acc')) := by
    intro rest
    induction rest with
    | nil =>
      intro pre acc f hl hI hf
      obtain ⟨f, rfl⟩ : ∃ f', f = f' + 1 := ⟨f - 1, by simp at hf; omega⟩
      rw [List.append_nil] at hl
      subst hl
      exact ⟨acc, hI, by simp [loop, he acc hI]⟩
    | cons x rest ih =>
      intro pre acc f hl hI hf
      obtain ⟨f, rfl⟩ : ∃ f', f = f' + 1 := ⟨f - 1, by simp at hf; omega⟩
      obtain ⟨acc', h1, h2⟩ := hs pre x rest acc hl hI
      obtain ⟨a2, h3, h4⟩ := ih (pre ++ [x]) acc' f (by rw [hl]; simp) h2 (by simp at hf; omega)
      exact ⟨a2, h3, by simp only [loop, h1]; simpa using h4⟩
  obtain ⟨acc, h1, h2⟩ := key l [] acc0 FUEL rfl h0 hf
  exact ⟨acc, h1, by unfold lp; simp only [List.length_nil] at h2; rw [h2]⟩
theorem lp_go' {α A B β γ : Type} {step : α → Option (Step α (Ex β γ))} {l : List A} {k : β → Option γ} {r : Option γ} (st : Nat → B → α) (I : List A → B → Prop) (fin : B → β) (acc0 : B) (hf : l.length < FUEL) (h0 : I [] acc0)
    (hs : ∀ pre x rest acc, l = pre ++ x :: rest → I pre acc → ∃ acc', step (st pre.length acc) = some (.next (st (pre.length + 1) acc')) ∧ I (pre ++ [x]) acc')
    (he : ∀ acc, I l acc → step (st l.length acc) = some (.done (.brk (fin acc)))) (hr : ∀ acc, I l acc → k (fin acc) = r) : lp step (st 0 acc0) k = r := by
  obtain ⟨acc, h1, h2⟩ := lp_go (k := k) st I fin acc0 hf h0 hs he
  rw [h2, hr acc h1]
/-- a loop that comes closer each round -/
theorem lp_meas {α β γ : Type} {step : α → Option (Step α (Ex β γ))} {k : β → Option γ} (I : α → Prop) (m : α → Nat) (R : β → Prop) (s0 : α) (hm : m s0 < FUEL) (h0 : I s0)
    (hs : ∀ s, I s → (∃ s', step s = some (.next s') ∧ I s' ∧ m s' < m s) ∨ ∃ y, step s = some (.done (.brk y)) ∧ R y) : ∃ y, R y ∧ lp step s0 k = k y := by
  have key : ∀ (n : Nat) (s : α) (f : Nat), m s ≤ n → n < f → I s → ∃ y, R y ∧ loop step f s = some (.brk y) := by
    intro n
    induction n with
    | zero =>
      intro s f hn hf hI
      obtain ⟨f, rfl⟩ : ∃ f', f = f' + 1 := ⟨f - 1, by omega⟩
      rcases hs s hI with ⟨s', h1, h2, h3⟩ | ⟨y, h1, h2⟩
      · omega
      · exact ⟨y, h2, by simp [loop, h1]⟩
    | succ n ih =>
      intro s f hn hf hI
      obtain ⟨f, rfl⟩ : ∃ f', f = f' + 1 := ⟨f - 1, by omega⟩
      rcases hs s hI with ⟨s', h1, h2, h3⟩ | ⟨y, h1, h2⟩
      · obtain ⟨y, k1, k2⟩ := ih s' f (by omega) (by omega) h2
        exact ⟨y, k1, by simp [loop, h1, k2]⟩
      · exact ⟨y, h2, by simp [loop, h1]⟩
  obtain ⟨y, h1, h2⟩ := key (m s0) s0 FUEL (Nat.le_refl _) hm h0
  exact ⟨y, h1, by unfold lp; rw [h2]⟩
/-- the middle of two numbers -/
theorem mid {i j : Nat} (h : i + j ≤ 4611686018427387904) : IntKind.wrap .i64 (sh .shr .u64 (IntKind.wrap .u64 (ar .add .i64 (i : Int) (j : Int))) (1 : Int)) = (((i + j) / 2 : Nat) : Int) := by
  rw [addI (by omega)]
  have h1 : IntKind.wrap .u64 ((i : Int) + (j : Int)) = (i : Int) + (j : Int) := wrap_id (k := .u64) (by unfold inK; simp [IntKind.min, IntKind.max, IntKind.signed, IntKind.bits]; omega)
  rw [h1]
  have h2 : sh .shr .u64 ((i : Int) + (j : Int)) 1 = (((i + j) / 2 : Nat) : Int) := by
    show Int.fdiv _ _ = _
    have : (2 : Int) ^ min (1 : Int).toNat (IntKind.bits .u64) = 2 := by decide
    rw [this, Int.fdiv_eq_ediv_of_nonneg _ (by omega)]
    omega
  rw [h2]
  exact wrap_i64 (by omega)
theorem bin (c : Bool) {γ : Type} (x y : Option γ) : (bif c then x else y) = if c = true then x else y := by cases c <;> rfl
end Go.Pl

namespace Go.Pl
open Go Go.Sw Go.Mo
def I64 (n : Int) : Prop := -9223372036854775808 ≤ n ∧ n ≤ 9223372036854775807
/-- which of n things a raw number speaks of -/
def pick (c n : Int) : Int := (if c < 0 then -(c + 1) else c).tmod n
theorem pick_is {c n : Int} (hc : I64 c) (hn : 0 < n) : m_ref_Pick c n = some (pick c n) := by
  unfold m_ref_Pick pick
  have hnz : nz n = some () := nz_ok (by omega)
  simp only [jp, hnz, Option.bind_some, cl]
  by_cases h : c < 0
  · simp only [h, decide_true, cond_true, if_true]
    rw [addI (by unfold I64 at hc; omega), wrap_i64 (by unfold I64 at hc; omega)]
    rw [show 0 - (c + 1) = -(c + 1) by omega]; rfl
  · simp only [h, decide_false, cond_false, if_false]; rfl
theorem pick_lt {c n : Int} (hn : 0 < n) : 0 ≤ pick c n ∧ pick c n < n := by
  unfold pick
  have h0 : 0 ≤ (if c < 0 then -(c + 1) else c) := by split <;> omega
  exact ⟨Int.tmod_nonneg _ h0, Int.tmod_lt_of_pos _ hn⟩
def Raws (l : List Int) : Prop := (∀ x ∈ l, I64 x) ∧ l.length ≤ 256
theorem wf_raws {l : List Int} (h : Wf (Enc.sl (Enc.int .i64)) l) (hl : l.length ≤ 256) : Raws l := ⟨fun x hx => wf_i64 (h.sl.2 x hx), hl⟩
theorem raw_is {l : List Int} (h : Raws l) (i : Nat) (hi : i ≤ 1000000) : ∃ v : Nat, m_ref_Raw l (i : Int) = some (v : Int) ∧ v ≤ 1000003 + i * 7919 := by
  unfold m_ref_Raw
  rw [ce]
  by_cases h0 : (l.length : Int) = 0
  · refine ⟨i * 31, ?_, by omega⟩
    simp only [h0, decide_true, cond_true]
    rw [show ar .mul .i64 (i : Int) 31 = ((i * 31 : Nat) : Int) from mul64 (b := 31) (by omega)]
  · have hl : 0 < l.length := by omega
    have hlt : i % l.length < l.length := Nat.mod_lt _ hl
    simp only [h0, decide_false, cond_false, nz_ok h0, Option.bind_some]
    rw [rem64, idx_get (List.getElem?_eq_getElem hlt), Option.bind_some]
    rw [pick_is (h.1 _ (List.getElem_mem hlt)) (by omega), Option.bind_some, quo64 (by omega)]
    have hp := pick_lt (c := l[i % l.length]) (n := 1000003) (by omega)
    have hd : i / l.length ≤ i := Nat.div_le_self _ _
    refine ⟨(pick l[i % l.length] 1000003).toNat + i / l.length * 7919, ?_, ?_⟩
    · rw [show ar .mul .i64 ((i / l.length : Nat) : Int) 7919 = ((i / l.length * 7919 : Nat) : Int) from mul64 (b := 7919) (by omega)]
      rw [addI (by omega)]
      have e : pick l[i % l.length] 1000003 = (((pick l[i % l.length] 1000003).toNat : Nat) : Int) := by omega
      rw [e]
      congr 1
    · have : i / l.length * 7919 ≤ i * 7919 := Nat.mul_le_mul_right _ hd
      omega
theorem wrap_byte (n : Int) : 0 ≤ IntKind.wrap .u8 n ∧ IntKind.wrap .u8 n ≤ 255 := by
  unfold IntKind.wrap
  simp only [IntKind.signed, IntKind.bits]
  simp; omega
def BlkOk (b : Blk) : Prop := b.length = 8 ∧ Bytes b
theorem zblk_ok : BlkOk zblk := ⟨rfl, fun x hx => by unfold zblk at hx; simp at hx; omega⟩
theorem set_ok {b : Blk} (h : BlkOk b) (i : Nat) (n : Int) : BlkOk (List.set b i (IntKind.wrap .u8 n)) := by
  refine ⟨by simpa using h.1, fun x hx => ?_⟩
  rcases List.mem_or_eq_of_mem_set hx with hx | rfl
  · exact h.2 x hx
  · exact wrap_byte n
/-- a loop whose state keeps what holds of it -/
theorem lp_ex {α β γ : Type} {step : α → Option (Step α (Ex β γ))} {k : β → Option γ} {B : Type} (st : Nat → B → α) (fin : B → β) (n : Nat) (I : Nat → B → Prop) (b0 : B) (hf : n < FUEL) (h0 : I 0 b0)
    (hs : ∀ i b, i < n → I i b → ∃ b', step (st i b) = some (.next (st (i + 1) b')) ∧ I (i + 1) b') (he : ∀ b, I n b → step (st n b) = some (.done (.brk (fin b)))) :
    ∃ b, I n b ∧ lp step (st 0 b0) k = k (fin b) := by
  have key : ∀ (m i f : Nat) (b : B), i + m = n → m < f → I i b → ∃ b', I n b' ∧ loop step f (st i b) = some (.brk (fin b')) := by
    intro m
    induction m with
    | zero =>
      intro i f b hi hf hI
      obtain ⟨f, rfl⟩ : ∃ f', f = f' + 1 := ⟨f - 1, by omega⟩
      have : i = n := by omega
      subst this
      exact ⟨b, hI, by simp [loop, he b hI]⟩
    | succ m ih =>
      intro i f b hi hf hI
      obtain ⟨f, rfl⟩ : ∃ f', f = f' + 1 := ⟨f - 1, by omega⟩
      obtain ⟨b', h1, h2⟩ := hs i b (by omega) hI
      obtain ⟨b2, h3, h4⟩ := ih (i + 1) f b' (by omega) (by omega) h2
      exact ⟨b2, h3, by simp [loop, h1, h4]⟩
  obtain ⟨b, h1, h2⟩ := key n 0 FUEL b0 (by omega) hf h0
  exact ⟨b, h1, by unfold lp; rw [h2]⟩
theorem blockFrom_ok {l : List Int} (h : Raws l) (at_ : Nat) (ha : at_ ≤ 100000) : ∃ b, m_ref_BlockFrom l (at_ : Int) = some b ∧ BlkOk b := by
  unfold m_ref_BlockFrom
  obtain ⟨v, hv, hvl⟩ := raw_is h at_ (by omega)
  rw [hv, Option.bind_some, ce]
  by_cases h3 : ar .rem .i64 (v : Int) 3 = 0
  · exact ⟨zblk, by simp [h3], zblk_ok⟩
  · have hz : Sw.idx zblk (0 : Int) = some 0 := by unfold Sw.idx zblk; simp
    simp only [h3, decide_false, cond_false, hz, Option.bind_some, jp]
    have hb0 : BlkOk (List.set zblk (Int.toNat (0 : Int)) (IntKind.wrap .u8 (ar .add .i64 (1 : Int) (ar .rem .i64 (ar .quo .i64 (v : Int) (3 : Int)) (5 : Int))))) := set_ok zblk_ok _ _
    by_cases h4 : ar .rem .i64 (v : Int) 3 = 2
    · rw [ce]
      simp only [h4, decide_true, cond_true]
      obtain ⟨b, h5, h6⟩ := lp_ex (γ := Blk) (step := fun (s32 : Int × Blk) =>
            bif (cm .lss s32.1 (8 : Int)) then
              (m_ref_Raw l (ar .add .i64 (at_ : Int) s32.1)).bind fun v39 =>
                (Sw.idx s32.2 s32.1).bind fun _ =>
                  some (.next ((ar .add .i64 s32.1 (1 : Int)), (List.set s32.2 (Int.toNat s32.1) (IntKind.wrap .u8 (ar .quo .i64 v39 (7 : Int))))))
            else
              some (.done (.brk s32.2))) (k := fun x37 => some x37) (fun (i : Nat) (b : Blk) => (((i + 1 : Nat) : Int), b)) id 7 (fun _ b => BlkOk b) (List.set zblk (Int.toNat (0 : Int)) (IntKind.wrap .u8 (ar .add .i64 (1 : Int) (ar .rem .i64 (ar .quo .i64 (v : Int) (3 : Int)) (5 : Int))))) (by decide) hb0
        (fun i b hi hb => by
          have hlt : ((i + 1 : Nat) : Int) < 8 := by omega
          obtain ⟨v2, hv2, _⟩ := raw_is h (at_ + (i + 1)) (by omega)
          obtain ⟨y, hy, _⟩ := idx_nat (l := b) (n := ((i + 1 : Nat) : Int)) (by omega) (by have := hb.1; omega)
          have hadd : ar .add .i64 ((at_ : Nat) : Int) ((i + 1 : Nat) : Int) = ((at_ + (i + 1) : Nat) : Int) := add64 (by omega)
          have hn : ar .add .i64 ((i + 1 : Nat) : Int) 1 = ((i + 1 + 1 : Nat) : Int) := nxt (by omega)
          refine ⟨_, ?_, set_ok hb (Int.toNat ((i + 1 : Nat) : Int)) (ar .quo .i64 (v2 : Int) 7)⟩
          simp only [cl, hlt, decide_true, cond_true, hadd, hv2, hy, hn, Option.bind_some])
        (fun b hb => by
          have hlt : ¬ ((7 + 1 : Nat) : Int) < 8 := by omega
          simp only [cl, hlt, decide_false, cond_false]; rfl)
      exact ⟨b, h6, h5⟩
    · rw [ce]
      simp only [h4, decide_false, cond_false]
      exact ⟨_, rfl, hb0⟩
end Go.Pl

namespace Go.Pl
open Go Go.Sw Go.Mo
abbrev Disk := List Blk × List (Int × Blk) × Int
def badAt (n : Nat) (p : Int × Blk) : Bool := decide (p.1 < 0) || decide (p.1 ≥ n)
def diskErr (d : Disk) : Int := if d.1.length < 1 ∨ d.1.length > 200 ∨ d.2.1.length > 800 then 2 else if d.2.1.any (badAt d.1.length) then 1 else 0
theorem check1_disk (x : Int × Blk) (d : Disk) : m_disk_Check_1 x d = some (badAt d.1.length x) := by
  unfold m_disk_Check_1 badAt
  simp only [cl, cge]
  by_cases c1 : x.1 < 0 <;> simp [c1]
theorem indexAny_disk (l : List (Int × Blk)) (d : Disk) (hl : l.length ≤ 1000000) : m_slices_ContainsFunc_api_Put_api_Put__disk_Check_1 l d = some (l.any (badAt d.1.length)) := by
  unfold m_slices_ContainsFunc_api_Put_api_Put__disk_Check_1 m_slices_IndexFunc_api_Put_api_Put__disk_Check_1
  have h := lp_find (l := l) (γ := Int) (β := Unit) (step := fun (s11 : Int) => bif (cm .lss s11 (l.length : Int)) then (Sw.idx l s11).bind fun z19 => (m_disk_Check_1 z19 d).bind fun v20 => bif v20 then some (.done (.ret s11)) else some (.next (ar .add .i64 s11 (1 : Int))) else some (.done (.brk ()))) (k := fun _ => some (-1 : Int)) (fun (i : Nat) => (i : Int)) (badAt d.1.length) (fun i => (i : Int)) () (lenF hl (by decide)) ?_ ?_
  · have h' : lp (β := Unit) (fun (s11 : Int) => bif (cm .lss s11 (l.length : Int)) then (Sw.idx l s11).bind fun z19 => (m_disk_Check_1 z19 d).bind fun v20 => bif v20 then some (.done (.ret s11)) else some (.next (ar .add .i64 s11 (1 : Int))) else some (.done (.brk ()))) (0 : Int) (fun _ => some (-1 : Int)) = _ := h
    rw [h', any_findIdx]
    cases hf : l.findIdx? (badAt d.1.length) with
    | none => simp [cge]
    | some j => simp [cge]
  · intro pre x rest h
    simp only [lss_len h, cond_true, idx_len h, Option.bind_some, check1_disk]
    by_cases c : badAt d.1.length x = true
    · simp [c]
    · simp only [Bool.not_eq_true] at c
      simp only [c, cond_false, Bool.false_eq_true, if_false]
      rw [nxt (by rw [h] at hl; simp at hl; omega)]
  · simp only [lss_self, cond_false]
theorem checkDisk_is (d : Disk) : m_disk_Check d = some (if diskErr d = 0 then none else some (diskErr d)) := by
  unfold m_disk_Check diskErr
  simp only [cl, cg]
  by_cases h1 : d.1.length < 1
  · have : (d.1.length : Int) < 1 := by omega
    simp [h1, this]
  by_cases h2 : d.1.length > 200
  · have e1 : ¬ (d.1.length : Int) < 1 := by omega
    have e2 : (d.1.length : Int) > 200 := by omega
    simp [h1, h2, e1, e2]
  by_cases h3 : d.2.1.length > 800
  · have e1 : ¬ (d.1.length : Int) < 1 := by omega
    have e2 : ¬ (d.1.length : Int) > 200 := by omega
    have e3 : (d.2.1.length : Int) > 800 := by omega
    simp [h1, h2, h3, e1, e2, e3]
  have e1 : ¬ (d.1.length : Int) < 1 := by omega
  have e2 : ¬ (d.1.length : Int) > 200 := by omega
  have e3 : ¬ (d.2.1.length : Int) > 800 := by omega
  simp only [e1, e2, e3, h1, h2, h3, decide_false, cond_false, Option.bind_some, or_self, if_false]
  rw [indexAny_disk _ _ (by omega)]
  by_cases c : d.2.1.any (badAt d.1.length) = true <;> simp [c]

/-! ### a crash -/
/-- how many bytes come through -/
def pick9 (bytes : List Int) (i : Nat) : Nat := match bytes[i]? with | none => 0 | some c => ((if c < 0 then -(c + 1) else c) % 9).toNat
theorem pick9_lt (bytes : List Int) (i : Nat) : pick9 bytes i ≤ 8 := by
  unfold pick9
  split
  · omega
  · split <;> omega
/-- what one put comes to, cut -/
def cut1 (n : Nat) (p : Int × Blk) (safe : List Blk) : List Blk := safe.set p.1.toNat (p.2.take n ++ (safe.getD p.1.toNat []).drop n)
def crashL (bytes : List Int) (l : List (Int × Blk)) (safe : List Blk) : List Blk := (l.zipIdx).foldl (fun acc x => cut1 (pick9 bytes x.2) x.1 acc) safe
/-- blocks of eight -/
def All8 (l : List Blk) : Prop := ∀ b ∈ l, b.length = 8
theorem cut1_ok {n : Nat} {p : Int × Blk} {safe : List Blk} (hn : n ≤ 8) (hp : p.2.length = 8) (h : All8 safe) (h0 : 0 ≤ p.1) (h1 : p.1 < safe.length) : All8 (cut1 n p safe) ∧ (cut1 n p safe).length = safe.length := by
  refine ⟨fun b hb => ?_, by simp [cut1]⟩
  rcases List.mem_or_eq_of_mem_set hb with hb | rfl
  · exact h b hb
  · have hlt : p.1.toNat < safe.length := by omega
    have := h _ (List.getElem_mem hlt)
    simp only [List.length_append, List.length_take, List.length_drop, List.getD_eq_getElem?_getD, List.getElem?_eq_getElem hlt, Option.getD_some]
    omega

theorem getD_lt {l : List Blk} {n : Nat} (h : n < l.length) : l.getD n [] = l[n] := by simp [List.getD_eq_getElem?_getD, List.getElem?_eq_getElem h]
theorem cut0 {p : Int × Blk} {safe : List Blk} (h1 : p.1.toNat < safe.length) : cut1 0 p safe = safe := by
  unfold cut1
  rw [getD_lt h1]
  simp
theorem cut_next {p : Int × Blk} {safe : List Blk} {i : Nat} (h1 : p.1.toNat < safe.length) (hi : i < p.2.length) (h8 : p.2.length = safe[p.1.toNat].length) :
    List.set (cut1 i p safe) p.1.toNat (List.set (p.2.take i ++ safe[p.1.toNat].drop i) i p.2[i]) = cut1 (i + 1) p safe := by
  unfold cut1
  rw [getD_lt h1, List.set_set]
  congr 1
  apply List.ext_getElem?
  intro j
  have e1 : (p.2.take i).length = i := by simp; omega
  have e2 : (p.2.take (i + 1)).length = i + 1 := by simp; omega
  rw [List.getElem?_set]
  by_cases hj : i = j
  · subst hj
    have : i < (p.2.take i ++ safe[p.1.toNat].drop i).length := by simp; omega
    rw [if_pos rfl, if_pos this, List.getElem?_append_left (by omega), List.getElem?_take_of_lt (by omega), List.getElem?_eq_getElem hi]
  · rw [if_neg hj]
    by_cases hlt : j < i
    · rw [List.getElem?_append_left (by omega), List.getElem?_append_left (by omega), List.getElem?_take_of_lt hlt, List.getElem?_take_of_lt (by omega)]
    · rw [List.getElem?_append_right (by omega), List.getElem?_append_right (by omega), e1, e2, List.getElem?_drop, List.getElem?_drop]
      congr 1; omega
theorem cut_get {p : Int × Blk} {safe : List Blk} {i : Nat} (h0 : 0 ≤ p.1) (h1 : p.1.toNat < safe.length) : Sw.idx (cut1 i p safe) p.1 = some (p.2.take i ++ safe[p.1.toNat].drop i) := by
  unfold Sw.idx cut1
  rw [if_pos h0, getD_lt h1]
  simp [h1]
theorem refCut {p : Int × Blk} {safe : List Blk} {n : Nat} (hn : n ≤ 8) (hp : p.2.length = 8) (h : All8 safe) (h0 : 0 ≤ p.1) (h1 : p.1 < safe.length) {puts : List (Int × Blk)} {k0 : Int} (hk0 : Sw.idx puts k0 = some p) (k : List Blk → Option (Step (Int × List Blk) (Ex (List Blk) Disk))) :
    lp (β := (List Blk)) (fun (s140 : Int × (List Blk)) =>
            bif (cm .lss s140.1 (n : Int)) then
              (Sw.idx puts k0).bind fun z150 =>
                (Sw.idx puts k0).bind fun z151 =>
                  (Sw.idx z151.2 s140.1).bind fun z152 =>
                    (Sw.idx s140.2 z150.1).bind fun z153 =>
                      (Sw.idx z153 s140.1).bind fun _ =>
                        some (.next ((ar .add .i64 s140.1 (1 : Int)), (List.set s140.2 (Int.toNat z150.1) (List.set z153 (Int.toNat s140.1) z152))))
            else
              some (.done (.brk s140.2))
            ) ((0 : Int), safe) k = k (cut1 n p safe) := by
  have h1' : p.1.toNat < safe.length := by omega
  have h8 : safe[p.1.toNat].length = 8 := h _ (List.getElem_mem h1')
  have hst : (((0 : Int), safe) : Int × List Blk) = (fun (i : Nat) => ((i : Int), cut1 i p safe)) 0 := by simp only [cut0 h1']; rfl
  rw [hst]
  refine lp_count (fun (i : Nat) => ((i : Int), cut1 i p safe)) n (cut1 n p safe) (by unfold FUEL; omega) ?_ ?_
  · intro i hi
    have e : cm .lss (i : Int) (n : Int) = true := by rw [cl]; simp; omega
    have hip : i < p.2.length := by omega
    simp only [e, cond_true, hk0, Option.bind_some, cut_get h0 h1', idx_get (List.getElem?_eq_getElem hip)]
    have : ∃ z, Sw.idx (p.2.take i ++ safe[p.1.toNat].drop i) (i : Int) = some z := by
      have hl : i < (p.2.take i ++ safe[p.1.toNat].drop i).length := by simp; omega
      exact ⟨_, idx_get (List.getElem?_eq_getElem hl)⟩
    obtain ⟨z, hz⟩ := this
    rw [hz, Option.bind_some, nxt (by omega), Int.toNat_natCast, cut_next h1' hip (by omega)]
  · simp only [lss_self, cond_false]
def pk (c : Int) : Nat := ((if c < 0 then -(c + 1) else c) % 9).toNat
theorem pk_le (c : Int) : pk c ≤ 8 := by unfold pk; split <;> omega
theorem rem9 {c : Int} (h : 0 ≤ c) : ar .rem .i64 c 9 = ((c % 9).toNat : Int) := by
  show Int.tmod c 9 = _
  rw [Int.tmod_eq_emod_of_nonneg h]; omega
theorem neg_i64 {c : Int} (h : -9223372036854775808 ≤ c ∧ c ≤ 9223372036854775807) : IntKind.wrap .i64 (0 - (ar .add .i64 c (1 : Int))) = if c = 9223372036854775807 then -9223372036854775808 else -(c + 1) := by
  by_cases e : c = 9223372036854775807
  · subst e; decide
  · rw [addI (by omega), wrap_i64 (by omega), if_neg e]; omega
theorem refPick {c : Int} (h : -9223372036854775808 ≤ c ∧ c ≤ 9223372036854775807) : m_ref_Pick c 9 = some (pk c : Int) := by
  unfold m_ref_Pick jp pk
  simp only [cl, neg_i64 h, nz_ok (show (9 : Int) ≠ 0 by decide), Option.bind_some]
  by_cases c0 : c < 0
  · rw [if_neg (by omega)]
    simp only [c0, decide_true, cond_true, if_true]
    rw [rem9 (by omega)]
  · simp only [c0, decide_false, cond_false, if_false]
    rw [rem9 (by omega)]
theorem diskPick {c : Int} (h : -9223372036854775808 ≤ c ∧ c ≤ 9223372036854775807) : ar .rem .i64 (max c (IntKind.wrap .i64 (0 - (ar .add .i64 c (1 : Int))))) (9 : Int) = (pk c : Int) := by
  rw [neg_i64 h]
  unfold pk
  by_cases c0 : c < 0
  · rw [if_neg (by omega), if_pos c0, Int.max_eq_right (by omega), rem9 (by omega)]
  · rw [if_neg c0, Int.max_eq_left (by split <;> omega), rem9 (by omega)]
theorem pick9_in {bytes : List Int} {i : Nat} (h : (i : Int) < bytes.length) : ∃ c, Sw.idx bytes (i : Int) = some c ∧ pick9 bytes i = pk c ∧ c ∈ bytes := by
  have h' : i < bytes.length := by omega
  exact ⟨bytes[i], idx_get (List.getElem?_eq_getElem h'), by simp [pick9, List.getElem?_eq_getElem h', pk], List.getElem_mem h'⟩
theorem pick9_out {bytes : List Int} {i : Nat} (h : ¬ (i : Int) < bytes.length) : pick9 bytes i = 0 := by
  have h' : bytes.length ≤ i := by omega
  simp [pick9, List.getElem?_eq_none h']
theorem cpy_cut {n : Nat} {p : Int × Blk} {old : Blk} (hn : n ≤ p.2.length) : Sw.cpy n (p.2.take n) old = p.2.take n ++ old.drop n := by
  unfold Sw.cpy
  rw [List.length_take, Nat.min_eq_left hn, Nat.min_self, List.take_take, Nat.min_self]
/-- what is good in a disk -/
structure Good (d : Disk) (bytes : List Int) : Prop where
  a8 : All8 d.1
  p8 : ∀ p ∈ d.2.1, p.2.length = 8
  inn : ∀ p ∈ d.2.1, 0 ≤ p.1 ∧ p.1 < d.1.length
  byt : ∀ c ∈ bytes, -9223372036854775808 ≤ c ∧ c ≤ 9223372036854775807
  few : d.2.1.length ≤ 800
theorem diskCrash_is {d : Disk} {bytes : List Int} (g : diskErr d = 0 → Good d bytes) : m_disk_Crash d bytes = some (if diskErr d = 0 then ((crashL bytes d.2.1 d.1, [], -1), none) else (([], [], 0), some (diskErr d))) := by
  unfold m_disk_Crash
  rw [checkDisk_is, Option.bind_some]
  by_cases e : diskErr d = 0
  · have g := g e
    have few := g.few
    have hs : d.1.length ≤ 200 := by
      unfold diskErr at e
      split at e
      · cases e
      · omega
    simp only [e, if_true, Option.isSome_none, cond_false]
    unfold m_disk_clone m_slices_Clone_api_Block_api_Block m_slices_Clone_api_Put_api_Put
    rw [app_small _ _ (by simp; omega), Option.bind_some, app_small _ _ (by simp; omega), Option.bind_some, Option.bind_some]
    simp only [List.nil_append]
    refine (lp_inv (l := d.2.1) (fun i (acc : List Blk) => ((i : Int), acc)) (fun _ acc => All8 acc ∧ acc.length = d.1.length) d.1 (fun i p acc => cut1 (pick9 bytes i) p acc) id (lenF few (by decide)) ⟨g.a8, rfl⟩ ?_ ?_).trans ?_
    · intro pre p rest acc hl hI
      have hm : p ∈ d.2.1 := by rw [hl]; simp
      have hi := g.inn p hm
      have hp := g.p8 p hm
      have hpl : pre.length ≤ 800 := by have := congrArg List.length hl; simp at this; omega
      have hlt : p.1.toNat < acc.length := by rw [hI.2]; omega
      have hc := cut1_ok (pick9_lt bytes pre.length) hp hI.1 hi.1 (by rw [hI.2]; exact hi.2)
      refine ⟨?_, hc.1, hc.2.trans hI.2⟩
      simp only [lss_len hl, cond_true, jp, idx_len hl, Option.bind_some, cl]
      have fin : ∀ n : Nat, n = pick9 bytes pre.length → ((Sw.idx acc p.1).bind fun z54 =>
                  (Sw.upto 8 (n : Int)).bind fun _ =>
                    (Sw.upto 8 (n : Int)).bind fun _ =>
                      some (.next ((ar .add .i64 (pre.length : Int) (1 : Int)), (List.set acc (Int.toNat p.1) (Sw.cpy (Int.toNat (n : Int)) (List.take (Int.toNat (n : Int)) p.2) z54)))) : Option (Step (Int × List Blk) (Ex (List Blk) (Disk × Option Int)))) = some (.next (((pre.length + 1 : Nat) : Int), cut1 (pick9 bytes pre.length) p acc)) := by
        intro n hn
        have hn8 : n ≤ 8 := by rw [hn]; exact pick9_lt _ _
        have hu : Sw.upto 8 (n : Int) = some () := by unfold Sw.upto; rw [if_pos (by omega)]
        have hx : Sw.idx acc p.1 = some acc[p.1.toNat] := by unfold Sw.idx; rw [if_pos hi.1]; simp [hlt]
        rw [hx, hu, Option.bind_some, Option.bind_some, Option.bind_some, nxt (by omega), Int.toNat_natCast, cpy_cut (by omega), ← hn]
        unfold cut1
        rw [getD_lt hlt]
      by_cases hb : (pre.length : Int) < bytes.length
      · obtain ⟨c, h1, h2, h3⟩ := pick9_in hb
        simp only [hb, decide_true, cond_true, h1, Option.bind_some, diskPick (g.byt c h3)]
        exact fin (pk c) h2.symm
      · simp only [hb, decide_false, cond_false]
        exact fin 0 (pick9_out hb).symm
    · intro acc _
      simp only [lss_self, cond_false]
      rfl
    · rfl
  · simp only [e, if_false, Option.isSome_some, cond_true]
theorem sameBlocks_self (l : List Blk) (hl : l.length ≤ 1000000) : m_ref_SameBlocks l l = some true := by
  unfold m_ref_SameBlocks
  rw [cn]
  simp only [ne_eq, not_true, decide_false, cond_false]
  exact same_loop l hl _
theorem crash_len (bytes : List Int) (l : List (Int × Blk)) (safe : List Blk) : (crashL bytes l safe).length = safe.length := by
  unfold crashL
  generalize l.zipIdx = z
  induction z generalizing safe with
  | nil => rfl
  | cons x z ih => rw [List.foldl_cons, ih]; simp [cut1]
end Go.Pl

namespace Go.Pl
open Go Go.Sw Go.Mo
theorem cl2 (m n : Int) : cm .lss m n = decide (m < n) := Eq.trans (Eq.refl _) (cl m n)
theorem cg2 (m n : Int) : cm .gtr m n = decide (m > n) := Eq.trans (Eq.refl _) (cg m n)
theorem cge2 (m n : Int) : cm .geq m n = decide (m ≥ n) := Eq.trans (Eq.refl _) (cge m n)
theorem jp_k {β γ : Type} (K : β → Option γ) (a : β) : jp K (fun k => k a) = K a := Eq.trans (Eq.refl _) (Eq.refl _)
theorem one_ne : ((1 : Int) = 0) = False := by decide
theorem two_ne : ((2 : Int) = 0) = False := by decide
def decL (n : Int) : Int := if n > 0 then ar .sub .i64 n 1 else n
theorem step_is (s : List Blk) (p : List (Int × Blk)) (n : Int) : m_disk_Disk_step_io s p n = some (if n = 0 then (some 4, s, p, n) else (none, s, p, decL n)) := by
  unfold m_disk_Disk_step_io jp decL
  rw [ce, cg]
  by_cases h : n = 0
  · simp [h]
  · by_cases q : n > 0 <;> simp [h, q]
theorem clone_is (d : Disk) (h1 : d.1.length ≤ 1000) (h2 : d.2.1.length ≤ 1000) : m_disk_clone d = some (d.1, d.2.1, d.2.2) := by
  unfold m_disk_clone m_slices_Clone_api_Block_api_Block m_slices_Clone_api_Put_api_Put
  rw [app_small _ _ (by simp; omega), app_small _ _ (by simp; omega)]; rfl
def lastV (a : Int) (l : List (Int × Blk)) (z : Blk) : Blk := (l.zipIdx).foldl (fun acc x => if x.1.1 = a then x.1.2 else acc) z
theorem lastV_is (a : Int) (z : Blk) (l : List (Int × Blk)) : lastV a l z = l.foldl (fun acc p => if p.1 = a then p.2 else acc) z := by
  unfold lastV
  have : ∀ (l : List (Int × Blk)) (i : Nat) (z : Blk), (l.zipIdx i).foldl (fun acc x => if x.1.1 = a then x.1.2 else acc) z = l.foldl (fun acc p => if p.1 = a then p.2 else acc) z := by
    intro l
    induction l with
    | nil => intro i z; rfl
    | cons p l ih => intro i z; simp only [List.zipIdx_cons, List.foldl_cons]; exact ih _ _
  exact this l 0 z
def firstV (a : Int) : List (Int × (Int × Blk)) → Option Blk
  | [] => none
  | p :: l => if p.2.1 = a then some p.2.2 else firstV a l
theorem rng_first (a : Int) : ∀ its : List (Int × (Int × Blk)), rng (δ := Blk) (fun (z10 : (Int × (Int × Blk))) (_ : Unit) =>
                  bif (cm .eql z10.2.1 a) then
                    some (.done z10.2.2)
                  else
                    some (.next ())
                  ) its () = some (match firstV a its with | some b => .ret b | none => .brk ())
  | [] => rfl
  | p :: l => by
    simp only [rng, firstV, ce]
    by_cases h : p.2.1 = a
    · simp [h]
    · simp only [h, decide_false, cond_false, if_false]
      have := rng_first a l
      simp only [ce] at this
      exact this
theorem first_foldr (a : Int) (z : Blk) : ∀ its : List (Int × (Int × Blk)), (firstV a its).getD z = (its.map Prod.snd).foldr (fun p acc => if p.1 = a then p.2 else acc) z
  | [] => rfl
  | p :: l => by
    simp only [firstV, List.map_cons, List.foldr_cons, ← first_foldr a z l]
    by_cases h : p.2.1 = a <;> simp [h]
theorem backs_snd {α : Type} (l : List α) : (Sw.backs l).map Prod.snd = l.reverse := by
  unfold Sw.backs
  rw [List.map_reverse, List.map_map]
  congr 1
  have : ∀ (l : List α) (i : Nat), (l.zipIdx i).map (Prod.snd ∘ fun x : α × Nat => ((x.2 : Int), x.1)) = l := by
    intro l
    induction l with
    | nil => intro i; rfl
    | cons x l ih => intro i; simp only [List.zipIdx_cons, List.map_cons, ih]; rfl
  exact this l 0
theorem first_back (a : Int) (z : Blk) (l : List (Int × Blk)) : (firstV a (Sw.backs l)).getD z = lastV a l z := by
  rw [first_foldr, backs_snd, lastV_is, List.foldr_reverse]
theorem read_is (d : Disk) (a : Int) (hl : d.2.1.length ≤ 1000) : m_disk_Read d a = some (if diskErr d = 0 then (if a < 0 ∨ a ≥ d.1.length then (zblk, some 1) else if d.2.2 = 0 then (zblk, some 4) else (lastV a d.2.1 (d.1.getD a.toNat []), none)) else (zblk, some (diskErr d))) := by
  unfold m_disk_Read
  rw [checkDisk_is, Option.bind_some]
  by_cases e : diskErr d = 0
  · simp only [e, if_true, Option.isSome_none, cond_false, cl, cge]
    by_cases h1 : a < 0
    · simp [h1]
    by_cases h2 : a ≥ d.1.length
    · simp [h1, h2]
    simp only [h1, h2, decide_false, cond_false, Option.bind_some, or_self, if_false]
    rw [ce d.2.2]
    by_cases h3 : d.2.2 = 0
    · simp [h3]
    have hsm : small d.2.1 = some () := by unfold small; rw [if_pos (by omega)]
    have hlt : a.toNat < d.1.length := by omega
    have hi : Sw.idx d.1 a = some (d.1.getD a.toNat []) := by unfold Sw.idx; rw [if_pos (by omega)]; simp [List.getD_eq_getElem?_getD, List.getElem?_eq_getElem hlt]
    have hb : m_slices_Backward_api_Put_api_Put d.2.1 = some d.2.1 := rfl
    simp only [h3, decide_false, cond_false, if_false, hb, Option.bind_some, hsm, rg, rng_first, hi]
    rw [← first_back]
    cases firstV a (Sw.backs d.2.1) <;> rfl
  · simp [e]
theorem want_is {γ : Type} (d : Disk) (a : Int) (z : Blk) (hl : d.2.1.length ≤ 1000) (k : Blk → Option γ) :
    lp (β := Blk) (fun (s79 : Int × Blk) =>
                                            bif (cm .lss s79.1 (d.2.1.length : Int)) then
                                              (Sw.idx d.2.1 s79.1).bind fun z87 =>
                                                bif (cm .eql z87.1 a) then
                                                  (Sw.idx d.2.1 s79.1).bind fun z89 =>
                                                    some (.next ((ar .add .i64 s79.1 (1 : Int)), z89.2))
                                                else
                                                  some (.next ((ar .add .i64 s79.1 (1 : Int)), s79.2))
                                            else
                                              some (.done (.brk s79.2))
                                            ) ((0 : Int), z) k = k (lastV a d.2.1 z) := by
  refine (lp_inv (l := d.2.1) (fun i (acc : Blk) => ((i : Int), acc)) (fun _ _ => True) z (fun _ p acc => if p.1 = a then p.2 else acc) id (lenF hl (by decide)) trivial ?_ ?_).trans ?_
  · intro pre p rest acc hp _
    have hpl : pre.length ≤ 1000 := by rw [hp] at hl; simp at hl; omega
    refine ⟨?_, trivial⟩
    simp only [lss_len hp, cond_true, idx_len hp, Option.bind_some, ce]
    rw [nxt (by omega)]
    by_cases h : p.1 = a <;> simp [h]
  · intro acc _
    simp only [lss_self, cond_false]
    rfl
  · rfl
/-! ### what is flushed, what is written -/
def flushL (d : Disk) : List Blk := (d.2.1.zipIdx).foldl (fun acc x => acc.set x.1.1.toNat x.1.2) d.1
theorem flushL_len (d : Disk) : (flushL d).length = d.1.length := by
  unfold flushL
  generalize d.2.1.zipIdx = z
  generalize d.1 = s
  induction z generalizing s with
  | nil => rfl
  | cons x z ih => rw [List.foldl_cons, ih]; simp
theorem in_of {d : Disk} (e : diskErr d = 0) : ∀ p ∈ d.2.1, 0 ≤ p.1 ∧ p.1 < d.1.length := by
  unfold diskErr at e
  split at e
  · cases e
  · split at e
    · cases e
    · rename_i hn hb
      intro p hp
      have : badAt d.1.length p = false := by
        simp only [Bool.not_eq_true] at hb
        exact (List.any_eq_false.1 hb p hp) |> fun h => by simpa using h
      unfold badAt at this
      simp at this
      omega
theorem flush_step (d : Disk) (e : diskErr d = 0) {p : Int × Blk} (hp : p ∈ d.2.1) {acc : List Blk} (ha : acc.length = d.1.length) : ∃ z, Sw.idx acc p.1 = some z := by
  have := in_of e p hp
  have hlt : p.1.toNat < acc.length := by omega
  exact ⟨acc[p.1.toNat], by unfold Sw.idx; rw [if_pos this.1, List.getElem?_eq_getElem hlt]⟩
theorem flushL_is {γ : Type} (d : Disk) (e : diskErr d = 0) (hl : d.2.1.length ≤ 1000) (k : List Blk → Option γ) :
    lp (β := (List Blk)) (fun (s139 : Int × (List Blk)) =>
                                                    bif (cm .lss s139.1 (d.2.1.length : Int)) then
                                                      (Sw.idx d.2.1 s139.1).bind fun z147 =>
                                                        (Sw.idx d.2.1 s139.1).bind fun z148 =>
                                                          (Sw.idx s139.2 z147.1).bind fun _ =>
                                                            some (.next ((ar .add .i64 s139.1 (1 : Int)), (List.set s139.2 (Int.toNat z147.1) z148.2)))
                                                    else
                                                      some (.done (.brk s139.2))
                                                    ) ((0 : Int), d.1) k = k (flushL d) := by
  refine (lp_inv (l := d.2.1) (fun i (acc : List Blk) => ((i : Int), acc)) (fun _ acc => acc.length = d.1.length) d.1 (fun _ p acc => acc.set p.1.toNat p.2) id (lenF hl (by decide)) rfl ?_ ?_).trans ?_
  · intro pre p rest acc hp hI
    have hpl : pre.length ≤ 1000 := by rw [hp] at hl; simp at hl; omega
    obtain ⟨z, hz⟩ := flush_step d e (p := p) (by rw [hp]; simp) hI
    refine ⟨?_, by simpa using hI⟩
    simp only [lss_len hp, cond_true, idx_len hp, Option.bind_some, hz]
    rw [nxt (by omega)]
  · intro acc _
    simp only [lss_self, cond_false]
    rfl
  · rfl
theorem flush_is (d : Disk) (h1 : d.1.length ≤ 1000) (h2 : d.2.1.length ≤ 1000) : m_disk_Flush d = some (if diskErr d = 0 then (if d.2.2 = 0 then (([], [], 0), some 4) else ((flushL d, [], decL d.2.2), none)) else (([], [], 0), some (diskErr d))) := by
  unfold m_disk_Flush
  rw [checkDisk_is, Option.bind_some]
  by_cases e : diskErr d = 0
  · simp only [e, if_true, Option.isSome_none, cond_false]
    rw [clone_is d h1 h2, Option.bind_some, step_is, Option.bind_some]
    by_cases h3 : d.2.2 = 0
    · simp [h3]
    simp only [h3, if_false, Option.isSome_none, cond_false]
    refine (lp_inv (l := d.2.1) (fun i (acc : List Blk) => ((i : Int), acc)) (fun _ acc => acc.length = d.1.length) d.1 (fun _ p acc => acc.set p.1.toNat p.2) id (lenF h2 (by decide)) rfl ?_ ?_).trans ?_
    · intro pre p rest acc hp hI
      have hpl : pre.length ≤ 1000 := by rw [hp] at h2; simp at h2; omega
      obtain ⟨z, hz⟩ := flush_step d e (p := p) (by rw [hp]; simp) hI
      refine ⟨?_, by simpa using hI⟩
      simp only [lss_len hp, cond_true, idx_len hp, Option.bind_some, hz]
      rw [nxt (by omega)]
    · intro acc _
      simp only [lss_self, cond_false]
      rfl
    · rfl
  · simp [e]
theorem write_is (d : Disk) (a : Int) (b : Blk) (h1 : d.1.length ≤ 1000) (h2 : d.2.1.length ≤ 1000) : m_disk_Write d a b = some (if diskErr d = 0 then (if a < 0 ∨ a ≥ d.1.length then (([], [], 0), some 1) else if (d.2.1.length : Int) = 800 then (([], [], 0), some 2) else if d.2.2 = 0 then (([], [], 0), some 4) else ((d.1, d.2.1 ++ [(a, b)], decL d.2.2), none)) else (([], [], 0), some (diskErr d))) := by
  unfold m_disk_Write
  rw [checkDisk_is, Option.bind_some]
  by_cases e : diskErr d = 0
  · simp only [e, if_true, Option.isSome_none, cond_false, cl, cge]
    by_cases c1 : a < 0
    · simp [c1]
    by_cases c2 : a ≥ d.1.length
    · simp [c1, c2]
    simp only [c1, c2, decide_false, cond_false, Option.bind_some, or_self, if_false]
    rw [ce]
    by_cases c3 : (d.2.1.length : Int) = 800
    · simp [c3]
    simp only [c3, decide_false, cond_false, if_false]
    rw [clone_is d h1 h2, Option.bind_some, step_is, Option.bind_some]
    by_cases c4 : d.2.2 = 0
    · simp [c4]
    simp only [c4, if_false, Option.isSome_none, cond_false]
    rw [app_small _ _ (by simp; omega), Option.bind_some]
  · simp [e]

end Go.Pl

namespace Go.Pl
open Go Go.Sw Go.Mo
def upd (f : Nat → Blk) (a : Nat) (b : Blk) : Nat → Blk := fun x => if x = a then b else f x
/-- a disk of so many blocks, whose blocks are these, with at most so many puts that wait -/
structure Vw (m : Nat) (d : Disk) (f : Nat → Blk) (k : Nat) : Prop where
  len : d.1.length = m
  big : 1 ≤ m ∧ m ≤ 200
  left : d.2.2 = -1
  few : d.2.1.length ≤ k
  lim : k ≤ 800
  rng : ∀ p ∈ d.2.1, 0 ≤ p.1 ∧ p.1 < (m : Int)
  is : ∀ a, a < m → lastV (a : Int) d.2.1 (d.1.getD a []) = f a
variable {m k : Nat} {d : Disk} {f : Nat → Blk}
theorem Vw.err (h : Vw m d f k) : diskErr d = 0 := by
  unfold diskErr
  have h1 := h.len; have h2 := h.big; have h3 := h.few; have h4 := h.lim
  rw [if_neg (by omega), if_neg]
  intro hb
  obtain ⟨p, hp, hq⟩ := List.any_eq_true.1 hb
  have := h.rng p hp
  unfold badAt at hq
  simp at hq
  omega
theorem Vw.read (h : Vw m d f k) {a : Int} (h0 : 0 ≤ a) (h1 : a < m) : m_disk_Read d a = some (f a.toNat, none) := by
  have h2 := h.few; have h3 := h.lim; have h4 := h.len
  rw [read_is d a (by omega), if_pos h.err, if_neg (by omega), if_neg (by rw [h.left]; decide)]
  have := h.is a.toNat (by omega)
  rw [show ((a.toNat : Nat) : Int) = a by omega] at this
  rw [this]
theorem lastV_snoc (a x : Int) (b z : Blk) (l : List (Int × Blk)) : lastV a (l ++ [(x, b)]) z = if x = a then b else lastV a l z := by
  rw [lastV_is, lastV_is, List.foldl_append]; rfl
theorem Vw.write (h : Vw m d f k) {a : Int} {b : Blk} (h0 : 0 ≤ a) (h1 : a < m) (hk : k < 800) :
    m_disk_Write d a b = some ((d.1, d.2.1 ++ [(a, b)], -1), none) ∧ Vw m (d.1, d.2.1 ++ [(a, b)], -1) (upd f a.toNat b) (k + 1) := by
  have h2 := h.few; have h3 := h.lim; have h4 := h.len; have h5 := h.big
  refine ⟨?_, ⟨h4, h5, rfl, by simp; omega, by omega, ?_, ?_⟩⟩
  · rw [write_is d a b (by omega) (by omega), if_pos h.err, if_neg (by omega), if_neg (by omega), if_neg (by rw [h.left]; decide), h.left]
    rfl
  · intro p hp
    rcases List.mem_append.1 hp with hp | hp
    · exact h.rng p hp
    · simp at hp; subst hp; exact ⟨h0, h1⟩
  · intro x hx
    show lastV (x : Int) (d.2.1 ++ [(a, b)]) (d.1.getD x []) = _
    rw [lastV_snoc]
    unfold upd
    by_cases e : x = a.toNat
    · rw [if_pos e, if_pos (by omega)]
    · rw [if_neg e, if_neg (by omega), h.is x hx]
theorem flushL_plain (d : Disk) : flushL d = d.2.1.foldl (fun acc p => acc.set p.1.toNat p.2) d.1 := by
  unfold flushL
  have h : ∀ (l : List (Int × Blk)) (n : Nat) (s : List Blk), (l.zipIdx n).foldl (fun acc x => acc.set x.1.1.toNat x.1.2) s = l.foldl (fun acc p => acc.set p.1.toNat p.2) s := by
    intro l
    induction l with
    | nil => intro n s; rfl
    | cons p l ih => intro n s; rw [List.zipIdx_cons, List.foldl_cons, List.foldl_cons, ih]
  exact h _ _ _
theorem flush_get (a : Nat) : ∀ (l : List (Int × Blk)) (s : List Blk), (∀ p ∈ l, 0 ≤ p.1 ∧ p.1 < (s.length : Int)) → (l.foldl (fun acc p => acc.set p.1.toNat p.2) s).getD a [] = l.foldl (fun acc p => if p.1 = (a : Int) then p.2 else acc) (s.getD a []) := by
  intro l
  induction l with
  | nil => intro s _; rfl
  | cons p l ih =>
    intro s hs
    have hp := hs p List.mem_cons_self
    rw [List.foldl_cons, List.foldl_cons, ih _ (fun q hq => by rw [List.length_set]; exact hs q (List.mem_cons_of_mem _ hq))]
    congr 1
    by_cases e : p.1 = (a : Int)
    · rw [if_pos e, e]
      have hl : a < s.length := by omega
      simp [List.getD_eq_getElem?_getD, hl]
    · rw [if_neg e]
      have : ¬ p.1.toNat = a := by omega
      simp [List.getD_eq_getElem?_getD, this]
theorem Vw.flush (h : Vw m d f k) : m_disk_Flush d = some ((flushL d, [], -1), none) ∧ Vw m (flushL d, [], -1) f 0 := by
  have h2 := h.few; have h3 := h.lim; have h4 := h.len; have h5 := h.big
  refine ⟨?_, ⟨by show (flushL d).length = m; rw [flushL_len, h4], h5, rfl, Nat.le_refl _, by omega, fun p hp => by simp at hp, ?_⟩⟩
  · rw [flush_is d (by omega) (by omega), if_pos h.err, if_neg (by rw [h.left]; decide), h.left]
    rfl
  · intro a ha
    show lastV (a : Int) [] ((flushL d).getD a []) = f a
    rw [lastV_is]
    show (flushL d).getD a [] = f a
    rw [flushL_plain, flush_get a _ _ (fun p hp => by rw [h4]; exact h.rng p hp), ← lastV_is, h.is a ha]
/-! ### what the store does to it -/
theorem Vw.sWrite (h : Vw m d f k) (n : Int) {a : Int} {b : Blk} (h0 : 0 ≤ a) (h1 : a < m) (hk : k < 800) :
    ∃ d', m_store_Store_write_io n d a b = some (none, n, d') ∧ Vw m d' (upd f a.toNat b) (k + 1) := by
  obtain ⟨e, v⟩ := h.write (b := b) h0 h1 hk
  refine ⟨_, ?_, v⟩
  unfold m_store_Store_write_io
  rw [e]
  rfl
theorem Vw.sFlush (h : Vw m d f k) (n : Int) : ∃ d', m_store_Store_flush_io n d = some (none, n, d') ∧ Vw m d' f 0 := by
  obtain ⟨e, v⟩ := h.flush
  refine ⟨_, ?_, v⟩
  unfold m_store_Store_flush_io
  rw [e]
  rfl
end Go.Pl

namespace Go.Pl
open Go Go.Sw Go.Mo
abbrev Res3 := Option Int × Int × Disk
/-- steps that all come to no error -/
inductive Run {Q : Type} (F : Q → Int → Disk → Option Res3) (n : Int) : List Q → Disk → Disk → Prop
  | nil {d : Disk} : Run F n [] d d
  | cons {q : Q} {l : List Q} {d d1 d2 : Disk} : F q n d = some (none, n, d1) → Run F n l d1 d2 → Run F n (q :: l) d d2
theorem Run.append {Q : Type} {F : Q → Int → Disk → Option Res3} {n : Int} {l l' : List Q} {d d1 d2 : Disk} (h : Run F n l d d1) (k : Run F n l' d1 d2) : Run F n (l ++ l') d d2 := by
  induction h with
  | nil => exact k
  | cons e _ ih => exact .cons e (ih k)
theorem all_run {Q : Type} {F : Q → Int → Disk → Option Res3} {n : Int} {xs : List Q} {d d2 : Disk} (h : Run F n xs d d2) (hl : xs.length ≤ 100000) :
    lp (β := Int × Disk) (fun (s11 : Int × Int × Disk) =>
    bif (cm .lss s11.1 (xs.length : Int)) then
      (Sw.idx xs s11.1).bind fun z19 =>
        (F z19 s11.2.1 s11.2.2).bind fun v20 =>
          bif (Option.isSome v20.1) then
            some (.done (.ret (v20.1, v20.2.1, v20.2.2)))
          else
            some (.next ((ar .add .i64 s11.1 (1 : Int)), v20.2.1, v20.2.2))
    else
      some (.done (.brk (s11.2.1, s11.2.2)))
    ) ((0 : Int), n, d) (fun (x17 : Int × Disk) => some ((none : Option Int), x17.1, x17.2)) = some (none, n, d2) := by
  generalize hst : (fun (s11 : Int × Int × Disk) =>
    bif (cm .lss s11.1 (xs.length : Int)) then
      (Sw.idx xs s11.1).bind fun z19 =>
        (F z19 s11.2.1 s11.2.2).bind fun v20 =>
          bif (Option.isSome v20.1) then
            some (Step.done (Ex.ret (v20.1, v20.2.1, v20.2.2)))
          else
            some (Step.next ((ar .add .i64 s11.1 (1 : Int)), v20.2.1, v20.2.2))
    else
      some (Step.done (Ex.brk (s11.2.1, s11.2.2)))) = step
  have key : ∀ (rest pre : List Q) (d : Disk) (f : Nat), xs = pre ++ rest → Run F n rest d d2 → rest.length < f → loop step f ((pre.length : Int), n, d) = some (.brk (n, d2)) := by
    intro rest
    induction rest with
    | nil =>
      intro pre d f hx hr hf
      obtain ⟨f, rfl⟩ : ∃ f', f = f' + 1 := ⟨f - 1, by simp at hf; omega⟩
      rw [List.append_nil] at hx
      cases hr
      have : step ((pre.length : Int), n, d2) = some (.done (.brk (n, d2))) := by rw [← hst, hx]; simp only [lss_self, cond_false]
      simp [loop, this]
    | cons q rest ih =>
      intro pre d f hx hr hf
      obtain ⟨f, rfl⟩ : ∃ f', f = f' + 1 := ⟨f - 1, by simp at hf; omega⟩
      cases hr with
      | cons e hr =>
        rename_i d1
        have : step ((pre.length : Int), n, d) = some (.next (((pre.length + 1 : Nat) : Int), n, d1)) := by
          rw [← hst]
          simp only [lss_len hx, cond_true, idx_len hx, Option.bind_some, e, Option.isSome_none, cond_false]
          rw [nxt (by rw [hx] at hl; simp at hl; omega)]
        have h2 := ih (pre ++ [q]) d1 f (by rw [hx]; simp) hr (by simp at hf; omega)
        simp only [loop, this]
        simpa using h2
  have := key xs [] d FUEL rfl h (by unfold FUEL; omega)
  unfold lp
  simp only [List.length_nil] at this
  rw [show ((0 : Int), n, d) = (((0 : Nat) : Int), n, d) from rfl, this]
variable {m k : Nat} {d : Disk} {f : Nat → Blk}
def mk8 (b : Int) : Blk := [b] ++ List.replicate 7 (0 : Int)
theorem Vw.sMark (h : Vw m d f k) {n : Nat} (hn : n + 1 < m) (b : Int) (hk : k < 800) :
    ∃ d', m_store_Store_mark_io (n : Int) d b = some (none, (n : Int), d') ∧ Vw m d' (upd f (n + 1) (mk8 b)) 0 := by
  have hb := h.big
  obtain ⟨d1, e1, v1⟩ := h.sWrite (n : Int) (a := ((n + 1 : Nat) : Int)) (b := mk8 b) (by omega) (by omega) hk
  obtain ⟨d2, e2, v2⟩ := v1.sFlush (n : Int)
  rw [show (((n + 1 : Nat) : Int)).toNat = n + 1 from rfl] at v2
  refine ⟨d2, ?_, v2⟩
  have hr : Run m_clo_store_Store_mark (n : Int) ([(.inl ((), ((), b)) : Clo_store_Store_mark), (.inr ((), ()) : Clo_store_Store_mark)] : (List Clo_store_Store_mark)) d d2 := by
    refine .cons (d1 := d1) ?_ (.cons e2 .nil)
    show m_store_Store_mark_1_io b (n : Int) d = _
    unfold m_store_Store_mark_1_io
    rw [nxt (by omega)]
    unfold mk8 at e1
    rw [e1]; rfl
  unfold m_store_Store_mark_io m_store_all_store_Store_mark_io
  rw [all_run hr (by simp)]
  rfl
end Go.Pl

namespace Go.Pl
open Go Go.Sw Go.Mo
theorem wrapB (n : Nat) : IntKind.wrap .u8 (n : Int) = ((n % 256 : Nat) : Int) := by
  show (Int.emod (n : Int) _) = _
  rfl
theorem shrI (n c : Nat) (hc : c ≤ 64) : sh .shr .i64 (n : Int) (c : Int) = ((n / 2 ^ c : Nat) : Int) := by
  show Int.fdiv (n : Int) (2 ^ min ((c : Nat) : Int).toNat 64) = _
  rw [Int.toNat_natCast, Nat.min_eq_left hc, Int.fdiv_eq_ediv_of_nonneg _ (Int.le_of_lt (Int.pow_pos (by decide)))]
  push_cast; rfl
theorem shlI {n c : Nat} (hn : n < 256) (hc : c ≤ 24) : sh .shl .i64 (n : Int) (c : Int) = ((n * 2 ^ c : Nat) : Int) := by
  show IntKind.wrap .i64 ((n : Int) * 2 ^ min ((c : Nat) : Int).toNat 64) = _
  rw [Int.toNat_natCast, Nat.min_eq_left (by omega)]
  have h1 : 2 ^ c ≤ 2 ^ 24 := Nat.pow_le_pow_right (by decide) hc
  have h2 : n * 2 ^ c ≤ 255 * 2 ^ 24 := Nat.mul_le_mul (by omega) h1
  have e : (n : Int) * 2 ^ c = ((n * 2 ^ c : Nat) : Int) := by push_cast; rfl
  rw [e, wrap_i64 (by omega)]
theorem orI {a b : Nat} (ha : a < 4611686018427387904) (hb : b < 4611686018427387904) : ar .or .i64 (a : Int) (b : Int) = ((a ||| b : Nat) : Int) := by
  have h : a ||| b < 2 ^ 62 := Nat.or_lt_two_pow (by simpa using ha) (by simpa using hb)
  show IntKind.wrap .i64 ((BitVec.ofInt 64 (a : Int) ||| BitVec.ofInt 64 (b : Int)).toNat : Int) = _
  simp only [ofInt_nat, BitVec.toNat_or, BitVec.toNat_ofNat]
  rw [Nat.mod_eq_of_lt (a := a) (by omega), Nat.mod_eq_of_lt (a := b) (by omega)]
  exact wrap_i64 (by omega)
theorem orP {x y c : Nat} (hy : y < 2 ^ c) : x * 2 ^ c ||| y = x * 2 ^ c + y := by
  have := Nat.shiftLeft_add_eq_or_of_lt hy x
  rw [Nat.shiftLeft_eq] at this
  exact this.symm
def num4 (v : Nat) : List Int := [((v / 16777216 % 256 : Nat) : Int), ((v / 65536 % 256 : Nat) : Int), ((v / 256 % 256 : Nat) : Int), ((v % 256 : Nat) : Int)]
theorem number_is (v : Nat) : m_store_number (v : Int) = some (num4 v ++ List.replicate 4 (0 : Int)) := by
  unfold m_store_number num4
  have e1 := shrI v 24 (by decide)
  have e2 := shrI v 16 (by decide)
  have e3 := shrI v 8 (by decide)
  rw [show ((24 : Nat) : Int) = 24 from rfl] at e1
  rw [show ((16 : Nat) : Int) = 16 from rfl] at e2
  rw [show ((8 : Nat) : Int) = 8 from rfl] at e3
  rw [e1, e2, e3, wrapB, wrapB, wrapB, wrapB]
theorem value_is {b3 b2 b1 b0 : Nat} (h3 : b3 < 256) (h2 : b2 < 256) (h1 : b1 < 256) (h0 : b0 < 256) (r : List Int) :
    m_store_value ((b3 : Int) :: (b2 : Int) :: (b1 : Int) :: (b0 : Int) :: r) = some ((b3 * 16777216 + b2 * 65536 + b1 * 256 + b0 : Nat) : Int) := by
  have i0 : Sw.idx ((b3 : Int) :: (b2 : Int) :: (b1 : Int) :: (b0 : Int) :: r) (0 : Int) = some (b3 : Int) := rfl
  have i1 : Sw.idx ((b3 : Int) :: (b2 : Int) :: (b1 : Int) :: (b0 : Int) :: r) (1 : Int) = some (b2 : Int) := rfl
  have i2 : Sw.idx ((b3 : Int) :: (b2 : Int) :: (b1 : Int) :: (b0 : Int) :: r) (2 : Int) = some (b1 : Int) := rfl
  have i3 : Sw.idx ((b3 : Int) :: (b2 : Int) :: (b1 : Int) :: (b0 : Int) :: r) (3 : Int) = some (b0 : Int) := rfl
  unfold m_store_value
  simp only [i0, i1, i2, i3, Option.bind_some]
  have e1 := shlI h3 (show 24 ≤ 24 by decide)
  have e2 := shlI h2 (show 16 ≤ 24 by decide)
  have e3 := shlI h1 (show 8 ≤ 24 by decide)
  rw [show ((24 : Nat) : Int) = 24 from rfl] at e1
  rw [show ((16 : Nat) : Int) = 16 from rfl] at e2
  rw [show ((8 : Nat) : Int) = 8 from rfl] at e3
  rw [e1, e2, e3, orI (by omega) (by omega)]
  rw [orP (x := b3) (c := 24) (y := b2 * 2 ^ 16) (by omega), orI (by omega) (by omega)]
  rw [show b3 * 2 ^ 24 + b2 * 2 ^ 16 = (b3 * 256 + b2) * 2 ^ 16 by omega, orP (c := 16) (y := b1 * 2 ^ 8) (by omega), orI (by omega) (by omega)]
  rw [show (b3 * 256 + b2) * 2 ^ 16 + b1 * 2 ^ 8 = ((b3 * 256 + b2) * 256 + b1) * 2 ^ 8 by omega, orP (c := 8) (y := b0) (by omega)]
  try (congr 2; omega)
theorem value_num {v : Nat} (h : v ≤ 2147483647) (r : List Int) : m_store_value (num4 v ++ r) = some (v : Int) := by
  show m_store_value (((v / 16777216 % 256 : Nat) : Int) :: ((v / 65536 % 256 : Nat) : Int) :: ((v / 256 % 256 : Nat) : Int) :: ((v % 256 : Nat) : Int) :: r) = _
  rw [value_is (by omega) (by omega) (by omega) (by omega)]
  congr 2
  omega
end Go.Pl

namespace Go.Pl
open Go Go.Sw Go.Mo
theorem lp_go2 {α A B β γ : Type} {step : α → Option (Step α (Ex β γ))} {l : List A} {k : β → Option γ} (st : Nat → B → α) (I : List A → B → Prop) (fin : B → β) (acc0 : B) (hf : l.length < FUEL) (h0 : I [] acc0)
    (hs : ∀ pre x rest acc, l = pre ++ x :: rest → I pre acc → ∃ acc', step (st pre.length acc) = some (.next (st (pre.length + 1) acc')) ∧ I (pre ++ [x]) acc')
    (he : ∀ acc, I l acc → step (st l.length acc) = some (.done (.brk (fin acc)))) : ∃ acc, lp step (st 0 acc0) k = k (fin acc) ∧ I l acc := by
  obtain ⟨a, h1, h2⟩ := lp_go (k := k) st I fin acc0 hf h0 hs he
  exact ⟨a, h2, h1⟩
abbrev Log := List (Nat × Blk)
def appl (f : Nat → Blk) (l : Log) : Nat → Blk := l.foldl (fun f p => upd f p.1 p.2) f
theorem appl_snoc (f : Nat → Blk) (l : Log) (p : Nat × Blk) : appl f (l ++ [p]) = upd (appl f l) p.1 p.2 := by unfold appl; rw [List.foldl_append]; rfl
theorem appl_out (f : Nat → Blk) {n : Nat} (l : Log) (h : ∀ p ∈ l, p.1 ≤ n) {a : Nat} (ha : n < a) : appl f l a = f a := by
  unfold appl
  induction l generalizing f with
  | nil => rfl
  | cons p l ih =>
    rw [List.foldl_cons, ih _ (fun q hq => h q (List.mem_cons_of_mem _ hq))]
    have := h p List.mem_cons_self
    unfold upd
    rw [if_neg (by omega)]
variable {m k n : Nat} {d : Disk} {f : Nat → Blk}
/-- the log lies there -/
structure Laid (n : Nat) (f : Nat → Blk) (l : Log) : Prop where
  cnt : ∃ r, f (n + 2) = num4 l.length ++ r
  put : ∀ i p, l[i]? = some p → (∃ r, f (n + 3 + 2 * i) = num4 p.1 ++ r) ∧ f (n + 4 + 2 * i) = p.2
theorem Vw.sApply (h : Vw m d f k) {l : Log} (hl : Laid n f l) (hm : m = 3 * n + 5) (hn : l.length ≤ n + 1) (hp : ∀ p ∈ l, p.1 ≤ n) (hk : k + l.length ≤ 800) :
    ∃ d', m_store_Store_apply_io (n : Int) d = some (none, (n : Int), d') ∧ Vw m d' (appl f l) (k + l.length) := by
  have hb := h.big
  unfold m_store_Store_apply_io
  have e1 : ar .add .i64 (n : Int) (2 : Int) = ((n + 2 : Nat) : Int) := by rw [addI (by omega)]; push_cast; rfl
  rw [e1, h.read (by omega) (by omega), Option.bind_some, Int.toNat_natCast]
  obtain ⟨r0, hr0⟩ := hl.cnt
  have ev : m_store_value (f (n + 2)) = some (l.length : Int) := by rw [hr0]; exact value_num (by omega) r0
  refine lp_go2 (l := l) (fun i d => ((none : Option Int), (i : Int), (n : Int), d)) (fun pre d => Vw m d (appl f pre) (k + pre.length)) (fun d => ((none : Option Int), (n : Int), d)) d (lenF (n := 1000) (by omega) (by decide)) h ?_ ?_
  · intro pre p rest d hpre hI
    have hlt : pre.length < l.length := by rw [hpre]; simp
    have hget : l[pre.length]? = some p := by rw [hpre]; simp
    obtain ⟨⟨r, h1⟩, h2⟩ := hl.put _ _ hget
    have hpp : ∀ q ∈ pre, q.1 ≤ n := fun q hq => hp q (by rw [hpre]; exact List.mem_append_left _ hq)
    have hpn : p.1 ≤ n := hp p (by rw [hpre]; simp)
    have ea : ar .add .i64 (ar .add .i64 (n : Int) (3 : Int)) (ar .mul .i64 (2 : Int) (pre.length : Int)) = ((n + 3 + 2 * pre.length : Nat) : Int) := by
      rw [show (2 : Int) = ((2 : Nat) : Int) from rfl, mul64 (by omega), addI (m := (n : Int)) (by omega), addI (by push_cast; omega)]; push_cast; rfl
    have eb : ar .add .i64 (ar .add .i64 (n : Int) (4 : Int)) (ar .mul .i64 (2 : Int) (pre.length : Int)) = ((n + 4 + 2 * pre.length : Nat) : Int) := by
      rw [show (2 : Int) = ((2 : Nat) : Int) from rfl, mul64 (by omega), addI (m := (n : Int)) (by omega), addI (by push_cast; omega)]; push_cast; rfl
    have ra := hI.read (a := ((n + 3 + 2 * pre.length : Nat) : Int)) (by omega) (by omega)
    have rb := hI.read (a := ((n + 4 + 2 * pre.length : Nat) : Int)) (by omega) (by omega)
    rw [Int.toNat_natCast, appl_out f pre hpp (by omega), h1] at ra
    rw [Int.toNat_natCast, appl_out f pre hpp (by omega), h2] at rb
    have vp : m_store_value (num4 p.1 ++ r) = some (p.1 : Int) := value_num (by omega) r
    obtain ⟨d', e3, v3⟩ := hI.sWrite (n : Int) (a := (p.1 : Int)) (b := p.2) (by omega) (by omega) (by omega)
    refine ⟨d', ?_, ?_⟩
    · simp only [Option.isNone_none, cond_true, ev, Option.bind_some, lss_len hpre, ea, eb, ra, rb, jp, vp, e3]
      rw [nxt (by omega)]
    · rw [appl_snoc, List.length_append, List.length_singleton]
      rw [Int.toNat_natCast] at v3
      exact v3
  · intro d hI
    simp only [Option.isNone_none, cond_true, ev, Option.bind_some, lss_self, cond_false]
end Go.Pl

namespace Go.Pl
open Go Go.Sw Go.Mo
variable {m k n : Nat} {d : Disk} {f : Nat → Blk}
theorem commit1_is (x : Int × Blk) (d : Disk) : m_store_Store_Commit_1 x (some ((n : Int), d)) = some (badAt n x) := by
  unfold m_store_Store_Commit_1 badAt
  rw [cl]
  by_cases h : x.1 < 0
  · simp [h]
  · simp [h, cge]
theorem anyCommit_is (l : List (Int × Blk)) (d : Disk) (hl : l.length ≤ 1000000) : m_slices_ContainsFunc_api_Put_api_Put__store_Store_Commit_1 l (some ((n : Int), d)) = some (l.any (badAt n)) := by
  unfold m_slices_ContainsFunc_api_Put_api_Put__store_Store_Commit_1 m_slices_IndexFunc_api_Put_api_Put__store_Store_Commit_1
  rw [show (0 : Int) = (fun (i : Nat) => (i : Int)) 0 from rfl]
  rw [lp_find (l := l) (fun (i : Nat) => (i : Int)) (badAt n) (fun i => (i : Int)) () (lenF hl (by decide))]
  · rw [any_findIdx]
    cases h : l.findIdx? (badAt n) with
    | none => simp [cge]
    | some j => simp [cge]
  · intro pre x rest h
    simp only [lss_len h, cond_true, idx_len h, Option.bind_some, commit1_is]
    rw [nxt (by rw [h] at hl; simp at hl; omega)]
    cases badAt n x <;> rfl
  · simp only [lss_self, cond_false]
abbrev Puts := List (Int × Blk)
def stA (i : Nat) (p : Int × Blk) : Clo_store_Store_Commit := .inr (.inl ((), ((), ((i : Int), p))))
def stB (i : Nat) (p : Int × Blk) : Clo_store_Store_Commit := .inr (.inr (.inl ((), ((), ((i : Int), p)))))
def stepsI : Nat → Puts → List Clo_store_Store_Commit
  | _, [] => []
  | i, p :: l => stA i p :: stB i p :: stepsI (i + 1) l
theorem stepsI_snoc (p : Int × Blk) : ∀ (l : Puts) (i : Nat), stepsI i (l ++ [p]) = stepsI i l ++ [stA (i + l.length) p, stB (i + l.length) p] := by
  intro l
  induction l with
  | nil => intro i; rfl
  | cons q l ih => intro i; simp only [List.cons_append, stepsI, ih, List.length_cons]; rw [show i + 1 + l.length = i + (l.length + 1) by omega]
theorem stepsI_len : ∀ (l : Puts) (i : Nat), (stepsI i l).length = 2 * l.length := by
  intro l
  induction l with
  | nil => intro i; rfl
  | cons q l ih => intro i; simp only [stepsI, List.length_cons, ih]; omega
theorem run_log (hm : m = 3 * n + 5) (hn : n ≤ 32) : ∀ (rest : Puts) (i : Nat) (d : Disk) (g : Nat → Blk) (k : Nat), Vw m d g k → (∀ p ∈ rest, 0 ≤ p.1 ∧ p.1 ≤ n) → i + rest.length ≤ n + 1 → k + 2 * rest.length ≤ 800 →
    ∃ d' g', Run m_clo_store_Store_Commit (n : Int) (stepsI i rest) d d' ∧ Vw m d' g' (k + 2 * rest.length) ∧ (∀ x, x < n + 3 + 2 * i → g' x = g x) ∧
      ∀ j p, rest[j]? = some p → (∃ r, g' (n + 3 + 2 * (i + j)) = num4 p.1.toNat ++ r) ∧ g' (n + 4 + 2 * (i + j)) = p.2 := by
  intro rest
  induction rest with
  | nil => intro i d g k h _ _ _; exact ⟨d, g, .nil, h, fun _ _ => rfl, fun j p hj => by simp at hj⟩
  | cons p rest ih =>
    intro i d g k h hp hi hk
    have hp0 := hp p List.mem_cons_self
    simp only [List.length_cons] at hi hk
    obtain ⟨d1, e1, v1⟩ := h.sWrite (n : Int) (a := ((n + 3 + 2 * i : Nat) : Int)) (b := num4 p.1.toNat ++ List.replicate 4 (0 : Int)) (by omega) (by omega) (by omega)
    obtain ⟨d2, e2, v2⟩ := v1.sWrite (n : Int) (a := ((n + 4 + 2 * i : Nat) : Int)) (b := p.2) (by omega) (by omega) (by omega)
    rw [Int.toNat_natCast] at v1 v2
    rw [Int.toNat_natCast] at v2
    obtain ⟨d', g', hr, hv, hlow, hput⟩ := ih (i + 1) d2 _ _ v2 (fun q hq => hp q (List.mem_cons_of_mem _ hq)) (by omega) (by omega)
    have ea : ar .add .i64 (ar .add .i64 (n : Int) (3 : Int)) (ar .mul .i64 (2 : Int) (i : Int)) = ((n + 3 + 2 * i : Nat) : Int) := by
      rw [show (2 : Int) = ((2 : Nat) : Int) from rfl, mul64 (by omega), addI (m := (n : Int)) (by omega), addI (by push_cast; omega)]; push_cast; rfl
    have eb : ar .add .i64 (ar .add .i64 (n : Int) (4 : Int)) (ar .mul .i64 (2 : Int) (i : Int)) = ((n + 4 + 2 * i : Nat) : Int) := by
      rw [show (2 : Int) = ((2 : Nat) : Int) from rfl, mul64 (by omega), addI (m := (n : Int)) (by omega), addI (by push_cast; omega)]; push_cast; rfl
    refine ⟨d', g', .cons (d1 := d1) ?_ (.cons (d1 := d2) ?_ hr), by rw [show k + 2 * (p :: rest).length = k + 1 + 1 + 2 * rest.length by simp; omega]; exact hv, ?_, ?_⟩
    · show m_store_Store_Commit_3_io (i : Int) p (n : Int) d = _
      unfold m_store_Store_Commit_3_io
      have hz : p.1 = ((p.1.toNat : Nat) : Int) := by omega
      have hnum := number_is p.1.toNat
      rw [← hz] at hnum
      rw [hnum, Option.bind_some, ea, e1]; rfl
    · show m_store_Store_Commit_4_io (i : Int) p (n : Int) d1 = _
      unfold m_store_Store_Commit_4_io
      rw [eb, e2]; rfl
    · intro x hx
      rw [hlow x (by omega)]
      unfold upd
      rw [if_neg (by omega), if_neg (by omega)]
    · intro j q hj
      cases j with
      | zero =>
        simp at hj; subst hj
        rw [show i + 0 = i from rfl, hlow _ (by omega), hlow _ (by omega)]
        unfold upd
        rw [if_neg (by omega), if_pos rfl, if_pos rfl]
        exact ⟨⟨_, rfl⟩, rfl⟩
      | succ j =>
        simp at hj
        have := hput j q hj
        rw [show i + (j + 1) = i + 1 + j by omega]
        exact this
end Go.Pl

namespace Go.Pl
open Go Go.Sw Go.Mo
variable {m k n : Nat} {d : Disk} {f : Nat → Blk}
theorem appl_at {f g : Nat → Blk} {x : Nat} (l : Log) (h : f x = g x) : appl f l x = appl g l x := by
  unfold appl
  induction l generalizing f g with
  | nil => exact h
  | cons p l ih =>
    rw [List.foldl_cons, List.foldl_cons]
    apply ih
    unfold upd
    rw [h]
def logOf (l : Puts) : Log := l.map (fun p => (p.1.toNat, p.2))
theorem num4_len (v : Nat) : (num4 v).length = 4 := rfl
/-- what lies in the log's count -/
theorem commit_is (h : Vw m d f 0) (hm : m = 3 * n + 5) (hn0 : 1 ≤ n) (hn : n ≤ 32) (puts : Puts) {a b : Nat} (hl : puts.length ≤ n) (hp : ∀ p ∈ puts, 0 ≤ p.1 ∧ p.1 < n) (ha : a ≤ 2147483647) (hb : b ≤ 2147483647) :
    ∃ d' f', m_store_Store_Commit_io (n : Int) d puts (a : Int) (b : Int) = some (none, (n : Int), d') ∧ Vw m d' f' 0 ∧ (∀ x, x ≤ n → f' x = appl f (logOf (puts ++ [((n : Int), num4 a ++ num4 b)])) x) ∧ f' (n + 1) = mk8 0 := by
  have hany : puts.any (badAt n) = false := by
    rw [List.any_eq_false]
    intro p hq
    have := hp p hq
    unfold badAt
    simp; omega
  generalize hv : puts ++ [((n : Int), num4 a ++ num4 b)] = v27
  have hvl : v27.length = puts.length + 1 := by rw [← hv]; simp
  have hvp : ∀ p ∈ v27, 0 ≤ p.1 ∧ p.1 ≤ n := by
    intro p hq
    rw [← hv] at hq
    rcases List.mem_append.1 hq with hq | hq
    · have := hp p hq; omega
    · simp at hq; subst hq; exact ⟨by simp, by simp⟩
  -- the steps
  have e2 : ar .add .i64 (n : Int) (2 : Int) = ((n + 2 : Nat) : Int) := by rw [addI (by omega)]; push_cast; rfl
  obtain ⟨d1, s1, v1⟩ := h.sWrite (n : Int) (a := ((n + 2 : Nat) : Int)) (b := num4 v27.length ++ List.replicate 4 (0 : Int)) (by omega) (by omega) (by omega)
  rw [Int.toNat_natCast] at v1
  obtain ⟨d2, g2, r2, w2, low2, put2⟩ := run_log hm hn v27 0 d1 _ _ v1 hvp (by omega) (by omega)
  obtain ⟨d3, s3, v3⟩ := w2.sFlush (n : Int)
  obtain ⟨d4, s4, v4⟩ := v3.sMark (n := n) (by omega) 1 (by omega)
  have hlen : (logOf v27).length = v27.length := by unfold logOf; simp
  have laid : Laid n (upd g2 (n + 1) (mk8 1)) (logOf v27) := by
    constructor
    · refine ⟨List.replicate 4 (0 : Int), ?_⟩
      unfold upd
      rw [if_neg (by omega), low2 _ (by omega)]
      unfold upd
      rw [if_pos rfl, hlen]
    · intro i p hi
      unfold logOf at hi
      rw [List.getElem?_map] at hi
      cases hq : v27[i]? with
      | none => rw [hq] at hi; cases hi
      | some q =>
        rw [hq] at hi
        obtain rfl := Option.some.inj hi
        have := put2 i q hq
        rw [Nat.zero_add] at this
        unfold upd
        rw [if_neg (by omega), if_neg (by omega)]
        exact this
  have hlp : ∀ p ∈ logOf v27, p.1 ≤ n := by
    intro p hq
    unfold logOf at hq
    obtain ⟨q, hq1, rfl⟩ := List.mem_map.1 hq
    have := hvp q hq1
    show q.1.toNat ≤ n
    omega
  obtain ⟨d5, s5, v5⟩ := v4.sApply laid hm (by rw [hlen]; omega) hlp (by rw [hlen]; omega)
  obtain ⟨d6, s6, v6⟩ := v5.sFlush (n : Int)
  obtain ⟨d7, s7, v7⟩ := v6.sMark (n := n) (by omega) 0 (by omega)
  refine ⟨d7, _, ?_, v7, ?_, by unfold upd; rw [if_pos rfl]⟩
  · unfold m_store_Store_Commit_io
    rw [cg, cl, cg]
    rw [decide_eq_false (show ¬ ((puts.length : Int) > n) by omega), cond_false]
    rw [decide_eq_false (show ¬ (min (a : Int) (b : Int) < 0) by omega), cond_false]
    rw [decide_eq_false (show ¬ (max (a : Int) (b : Int) > 2147483647) by omega), cond_false]
    rw [anyCommit_is puts d (by omega), hany, Option.bind_some, Option.bind_some, cond_false, number_is, number_is, Option.bind_some, Option.bind_some]
    have hc : m_slices_Clone_api_Put_api_Put puts = some puts := by unfold m_slices_Clone_api_Put_api_Put; rw [app_small _ _ (by simp; omega)]; rfl
    have h23 : Sw.subN (num4 a ++ List.replicate 4 (0 : Int)) (0 : Int) (4 : Int) (4 : Int) = some (num4 a) := by unfold Sw.subN Sw.sub num4; simp
    have h24 : Sw.sub (num4 b ++ List.replicate 4 (0 : Int)) (0 : Int) (4 : Int) = some (num4 b) := by unfold Sw.sub num4; simp
    have h25 : Sw.app (num4 a) (num4 b) = some (num4 a ++ num4 b) := app_small _ _ (by rw [num4_len, num4_len]; decide)
    have h26 : Sw.arrOf 8 (num4 a ++ num4 b) = some (num4 a ++ num4 b) := by unfold Sw.arrOf num4; simp
    have h27 : Sw.app puts [((n : Int), num4 a ++ num4 b)] = some v27 := by rw [app_small _ _ (by simp; omega), hv]
    simp only [hc, h23, h24, h25, h26, h27, Option.bind_some]
    have hrun : Run m_clo_store_Store_Commit (n : Int) (((.inl ((), ((), v27)) : Clo_store_Store_Commit) :: stepsI 0 v27) ++ ([(.inr (.inr (.inr (.inl ((), ())))) : Clo_store_Store_Commit), (.inr (.inr (.inr (.inr (.inl ((), ()))))) : Clo_store_Store_Commit), (.inr (.inr (.inr (.inr (.inr (.inl ((), ())))))) : Clo_store_Store_Commit), (.inr (.inr (.inr (.inr (.inr (.inr (.inl ((), ()))))))) : Clo_store_Store_Commit), (.inr (.inr (.inr (.inr (.inr (.inr (.inr ((), ()))))))) : Clo_store_Store_Commit)] : (List Clo_store_Store_Commit))) d d7 := by
      refine Run.append (d1 := d2) (.cons (d1 := d1) ?_ r2) (.cons s3 (.cons (d1 := d4) ?_ (.cons s5 (.cons s6 (.cons (d1 := d7) ?_ .nil)))))
      · show m_store_Store_Commit_2_io v27 (n : Int) d = _
        unfold m_store_Store_Commit_2_io
        rw [number_is, Option.bind_some, e2, s1]; rfl
      · show m_store_Store_Commit_5_io (n : Int) d3 = _
        unfold m_store_Store_Commit_5_io
        rw [s4]; rfl
      · show m_store_Store_Commit_6_io (n : Int) d6 = _
        unfold m_store_Store_Commit_6_io
        rw [s7]; rfl
    obtain ⟨acc, e, rfl⟩ := lp_go2 (step := fun (s36 : Int × (List Clo_store_Store_Commit)) =>
                          bif (cm .lss s36.1 (v27.length : Int)) then
                            (Sw.idx v27 s36.1).bind fun z43 =>
                              (Sw.app s36.2 ([(.inr (.inl ((), ((), (s36.1, z43)))) : Clo_store_Store_Commit), (.inr (.inr (.inl ((), ((), (s36.1, z43))))) : Clo_store_Store_Commit)] : (List Clo_store_Store_Commit))).bind fun v44 =>
                                some (Step.next ((ar .add .i64 s36.1 (1 : Int)), v44))
                          else
                            some (Step.done (Ex.brk (β := Res3) s36.2))) (k := fun (x41 : (List Clo_store_Store_Commit)) =>
                        (Sw.app x41 ([(.inr (.inr (.inr (.inl ((), ())))) : Clo_store_Store_Commit), (.inr (.inr (.inr (.inr (.inl ((), ()))))) : Clo_store_Store_Commit), (.inr (.inr (.inr (.inr (.inr (.inl ((), ())))))) : Clo_store_Store_Commit), (.inr (.inr (.inr (.inr (.inr (.inr (.inl ((), ()))))))) : Clo_store_Store_Commit), (.inr (.inr (.inr (.inr (.inr (.inr (.inr ((), ()))))))) : Clo_store_Store_Commit)] : (List Clo_store_Store_Commit))).bind fun v45 =>
                          (m_store_all_store_Store_Commit_io v45 (n : Int) d).bind fun v46 =>
                            some (v46.1, v46.2.1, v46.2.2)) (l := v27) (fun i acc => ((i : Int), acc)) (fun pre acc => acc = (.inl ((), ((), v27)) : Clo_store_Store_Commit) :: stepsI 0 pre) (fun acc => acc) [(.inl ((), ((), v27)) : Clo_store_Store_Commit)] (lenF (n := 1000) (by omega) (by decide)) rfl (by
        rintro pre x rest acc hpre rfl
        have hlt : pre.length ≤ 1000 := by rw [hpre] at hvl; simp at hvl; omega
        refine ⟨_, ?_, rfl⟩
        simp only [lss_len hpre, cond_true, idx_len hpre, Option.bind_some]
        rw [app_small _ _ (by simp [stepsI_len]; omega), Option.bind_some, nxt (by omega), stepsI_snoc]
        rw [Nat.zero_add]
        rfl) (by
        rintro acc rfl
        simp only [lss_self, cond_false])
    refine e.trans ?_
    rw [app_small _ _ (by simp [stepsI_len]; omega), Option.bind_some]
    unfold m_store_all_store_Store_Commit_io
    rw [all_run hrun (by simp [stepsI_len]; omega)]
    rfl
  · intro x hx
    unfold upd
    rw [if_neg (by omega)]
    apply appl_at
    rw [if_neg (by omega), low2 x (by omega)]
    unfold upd
    rw [if_neg (by omega)]
end Go.Pl

namespace Go.Pl
open Go Go.Sw Go.Mo
/-- a store has these blocks and numbers -/
def Seen (d : Disk) (blocks : List Blk) (a b : Nat) : Prop :=
  ∃ f, Vw (3 * blocks.length + 5) d f 0 ∧ (∀ x y, blocks[x]? = some y → f x = y) ∧ f blocks.length = num4 a ++ num4 b ∧ f (blocks.length + 1) = mk8 0
variable {d : Disk} {blocks : List Blk} {a b : Nat}
theorem get_out (d : Disk) (n : Int) (x : Int) (h : x < 0 ∨ x ≥ n) : m_store_Store_Get (n, d) x = some (zblk, some 1) := by
  unfold m_store_Store_Get
  rw [cl]
  by_cases c : x < 0
  · rw [decide_eq_true c]; rfl
  · rw [decide_eq_false c, cge, decide_eq_true (show x ≥ n by omega)]; rfl
theorem get_in (h : Seen d blocks a b) {x : Nat} {y : Blk} (hx : blocks[x]? = some y) : m_store_Store_Get ((blocks.length : Int), d) (x : Int) = some (y, none) := by
  obtain ⟨f, v, hb, _, _⟩ := h
  have hlt : x < blocks.length := (List.getElem?_eq_some_iff.1 hx).1
  unfold m_store_Store_Get
  rw [cl, decide_eq_false (show ¬ ((x : Int) < 0) by omega), cge, decide_eq_false (show ¬ ((x : Int) ≥ (blocks.length : Int)) by omega)]
  show (m_disk_Read d (x : Int)).bind _ = _
  rw [v.read (by omega) (by omega), Int.toNat_natCast, hb x y hx]
  rfl
theorem all_is (h : Seen d blocks a b) : m_store_Store_All ((blocks.length : Int), d) = some (blocks, none) := by
  have hbig : 3 * blocks.length + 5 ≤ 200 := by obtain ⟨f, v, _⟩ := h; exact v.big.2
  unfold m_store_Store_All
  obtain ⟨acc, e, rfl⟩ := lp_go2 (step := fun (s11 : Int × (List Blk)) =>
    bif (cm .lss s11.1 (blocks.length : Int)) then
      (m_store_Store_Get ((blocks.length : Int), d) s11.1).bind fun v19 =>
        bif (Option.isSome v19.2) then
          some (Step.done (Ex.ret (([] : (List Blk)), v19.2)))
        else
          (Sw.app s11.2 ([v19.1] : (List Blk))).bind fun v21 =>
            some (Step.next ((ar .add .i64 s11.1 (1 : Int)), v21))
    else
      some (Step.done (Ex.brk s11.2))) (k := fun (x17 : (List Blk)) => some (x17, (none : Option Int))) (l := blocks) (fun i acc => ((i : Int), acc)) (fun pre acc => acc = pre) (fun acc => acc) [] (lenF (n := 1000) (by omega) (by decide)) rfl (by
      rintro pre x rest acc hpre rfl
      have hlt : acc.length ≤ 1000 := by rw [hpre] at hbig; simp at hbig; omega
      refine ⟨_, ?_, rfl⟩
      have hg := get_in h (x := acc.length) (y := x) (by rw [hpre]; simp)
      simp only [lss_len hpre, cond_true, hg, Option.bind_some, Option.isSome_none, cond_false]
      rw [app_small _ _ (by simp; omega), Option.bind_some, nxt (by omega)]) (by
      rintro acc rfl
      simp only [lss_self, cond_false])
  exact e
theorem numbers_is (h : Seen d blocks a b) (ha : a ≤ 2147483647) (hb : b ≤ 2147483647) : m_store_Store_Numbers ((blocks.length : Int), d) = some ((a : Int), (b : Int), none) := by
  obtain ⟨f, v, _, hn, _⟩ := h
  unfold m_store_Store_Numbers
  show (m_disk_Read d (blocks.length : Int)).bind _ = _
  rw [v.read (by omega) (by omega), Int.toNat_natCast, hn]
  have h5 : Sw.subN (num4 a ++ num4 b) (4 : Int) (8 : Int) (8 : Int) = some (num4 b) := by unfold Sw.subN Sw.sub num4; simp
  have h6 : Sw.sub (num4 a ++ num4 b) (0 : Int) (4 : Int) = some (num4 a) := by unfold Sw.sub num4; simp
  have h7 : Sw.app (num4 b) (num4 a) = some (num4 b ++ num4 a) := app_small _ _ (by rw [num4_len, num4_len]; decide)
  have h8 : Sw.arrOf 8 (num4 b ++ num4 a) = some (num4 b ++ num4 a) := by unfold Sw.arrOf num4; simp
  simp only [Option.bind_some, Option.isSome_none, cond_false, value_num ha, value_num hb, h5, h6, h7, h8]
end Go.Pl

namespace Go.Pl
open Go Go.Sw Go.Mo
def ceOf (n : Nat) (puts : Puts) (a b : Int) : Int := if puts.length > n then 2 else if a < 0 ∨ a > 2147483647 ∨ b < 0 ∨ b > 2147483647 then 1 else if puts.any (badAt n) then 1 else 0
def putAll (blocks : List Blk) (puts : Puts) : List Blk := puts.foldl (fun acc p => acc.set p.1.toNat p.2) blocks
theorem putAll_len (puts : Puts) : ∀ blocks : List Blk, (putAll blocks puts).length = blocks.length := by
  induction puts with
  | nil => intro b; rfl
  | cons p l ih => intro b; unfold putAll at *; rw [List.foldl_cons, ih]; simp
theorem putAll_get (puts : Puts) : ∀ (blocks : List Blk) (f : Nat → Blk), (∀ p ∈ puts, 0 ≤ p.1 ∧ p.1 < (blocks.length : Int)) → (∀ x y, blocks[x]? = some y → f x = y) → ∀ x y, (putAll blocks puts)[x]? = some y → appl f (logOf puts) x = y := by
  induction puts with
  | nil => intro b f _ h; exact h
  | cons p l ih =>
    intro b f hp h
    have hp0 := hp p List.mem_cons_self
    unfold putAll logOf appl at *
    rw [List.foldl_cons, List.map_cons, List.foldl_cons]
    refine ih _ _ (fun q hq => by rw [List.length_set]; exact hp q (List.mem_cons_of_mem _ hq)) ?_
    intro x y hx
    unfold upd
    by_cases e : x = p.1.toNat
    · subst e
      rw [List.getElem?_set_self (by omega)] at hx
      rw [if_pos rfl]
      exact Option.some.inj hx
    · rw [List.getElem?_set_ne (by omega)] at hx
      rw [if_neg e]
      exact h x y hx
variable {d : Disk} {blocks : List Blk} {a b : Nat}
theorem commit_bad (d : Disk) (n : Nat) (puts : Puts) (a b : Int) (hl : puts.length ≤ 1000) (h : ceOf n puts a b ≠ 0) : m_store_Store_Commit_io (n : Int) d puts a b = some (some (ceOf n puts a b), (n : Int), d) := by
  unfold m_store_Store_Commit_io
  unfold ceOf at h ⊢
  rw [cg, cl, cg]
  by_cases c1 : puts.length > n
  · rw [decide_eq_true (show (puts.length : Int) > (n : Int) by omega), if_pos c1]; rfl
  rw [if_neg c1] at h ⊢
  rw [decide_eq_false (show ¬ (puts.length : Int) > (n : Int) by omega), cond_false]
  by_cases c2 : a < 0 ∨ a > 2147483647 ∨ b < 0 ∨ b > 2147483647
  · rw [if_pos c2]
    by_cases c3 : min a b < 0
    · rw [decide_eq_true c3]; rfl
    · rw [decide_eq_false c3, decide_eq_true (show max a b > 2147483647 by omega)]; rfl
  · rw [if_neg c2] at h ⊢
    rw [decide_eq_false (show ¬ min a b < 0 by omega), cond_false, decide_eq_false (show ¬ max a b > 2147483647 by omega), cond_false, anyCommit_is puts d (by omega)]
    cases c4 : puts.any (badAt n) with
    | true => rfl
    | false => rw [c4] at h; simp at h
theorem commit_good (h : Seen d blocks a b) (h0 : 1 ≤ blocks.length) (h1 : blocks.length ≤ 32) (puts : Puts) (x y : Int) (hc : ceOf blocks.length puts x y = 0) :
    ∃ (d' : Disk) (x' y' : Nat), x = (x' : Int) ∧ y = (y' : Int) ∧ x' ≤ 2147483647 ∧ y' ≤ 2147483647 ∧ (∀ p ∈ puts, 0 ≤ p.1 ∧ p.1 < (blocks.length : Int)) ∧
      m_store_Store_Commit_io (blocks.length : Int) d puts x y = some (none, (blocks.length : Int), d') ∧ Seen d' (putAll blocks puts) x' y' := by
  unfold ceOf at hc
  split at hc
  · cases hc
  rename_i c1
  split at hc
  · cases hc
  rename_i c2
  split at hc
  · cases hc
  rename_i c3
  have hp : ∀ p ∈ puts, 0 ≤ p.1 ∧ p.1 < (blocks.length : Int) := by
    intro p hp
    have h2 : ¬ badAt blocks.length p = true := fun h3 => c3 (List.any_eq_true.2 ⟨p, hp, h3⟩)
    unfold badAt at h2
    simp at h2
    omega
  obtain ⟨x', rfl⟩ : ∃ x' : Nat, x = (x' : Int) := ⟨x.toNat, by omega⟩
  obtain ⟨y', rfl⟩ : ∃ y' : Nat, y = (y' : Int) := ⟨y.toNat, by omega⟩
  obtain ⟨f, v, hb, hn, hn1⟩ := h
  obtain ⟨d', f', e, v', hx, hm⟩ := commit_is v rfl h0 h1 puts (a := x') (b := y') (by omega) hp (by omega) (by omega)
  refine ⟨d', x', y', rfl, rfl, by omega, by omega, hp, e, f', by rw [putAll_len]; exact v', ?_, ?_, by rw [putAll_len]; exact hm⟩
  · intro i z hi
    have hil : i < blocks.length := by have := (List.getElem?_eq_some_iff.1 hi).1; rwa [putAll_len] at this
    rw [hx i (by omega)]
    unfold logOf
    rw [List.map_append, List.map_cons, List.map_nil, appl_snoc]
    unfold upd
    rw [if_neg (by simp; omega)]
    exact putAll_get puts blocks f hp hb i z hi
  · rw [putAll_len, hx _ (Nat.le_refl _)]
    unfold logOf
    rw [List.map_append, List.map_cons, List.map_nil, appl_snoc]
    unfold upd
    rw [if_pos (by simp)]
end Go.Pl

namespace Go.Pl
open Go Go.Sw Go.Mo
theorem need_bad {n : Int} (h : n < 1 ∨ n > 32) : m_store_Need n = some (0, some 1) := by
  unfold m_store_Need
  rw [cl, cg]
  by_cases c : n < 1
  · rw [decide_eq_true c]; rfl
  · rw [decide_eq_false c, decide_eq_true (show n > 32 by omega)]; rfl
theorem need_ok {n : Nat} (h0 : 1 ≤ n) (h1 : n ≤ 32) : m_store_Need (n : Int) = some (((3 * n + 5 : Nat) : Int), none) := by
  unfold m_store_Need
  rw [cl, cg, decide_eq_false (show ¬ ((n : Int) < 1) by omega), decide_eq_false (show ¬ ((n : Int) > 32) by omega)]
  have e1 : ar .add .i64 (n : Int) (1 : Int) = ((n + 1 : Nat) : Int) := nxt (by omega)
  have e2 : ar .mul .i64 (2 : Int) ((n + 1 : Nat) : Int) = ((2 * (n + 1) : Nat) : Int) := by rw [show (2 : Int) = ((2 : Nat) : Int) from rfl, mul64 (by omega)]
  have e3 : ar .add .i64 ((n + 1 : Nat) : Int) (2 : Int) = ((n + 1 + 2 : Nat) : Int) := by rw [addI (by omega)]; push_cast; rfl
  have e4 : ar .add .i64 ((n + 1 + 2 : Nat) : Int) ((2 * (n + 1) : Nat) : Int) = ((3 * n + 5 : Nat) : Int) := by rw [addI (by omega)]; push_cast; omega
  rw [e1, e2, e3, e4]
  rfl
theorem mk_is {α : Type} (n : Nat) (z : α) (h : n ≤ 1000) : Sw.mk (n : Int) z = some (List.replicate n z) := by
  unfold Sw.mk
  rw [if_pos (by omega)]
  simp
def fresh (n : Nat) : Disk := (List.replicate (3 * n + 5) zblk, [], -1)
theorem format_bad {n : Int} (h : n < 1 ∨ n > 32) : m_store_Format n = some (([], [], 0), some 1) := by
  unfold m_store_Format
  rw [need_bad h]; rfl
theorem format_ok {n : Nat} (h0 : 1 ≤ n) (h1 : n ≤ 32) : m_store_Format (n : Int) = some (fresh n, none) := by
  unfold m_store_Format
  rw [need_ok h0 h1, Option.bind_some]
  show (m_disk_New ((3 * n + 5 : Nat) : Int)).bind _ = _
  unfold m_disk_New
  rw [cl, cg, decide_eq_false (show ¬ (((3 * n + 5 : Nat) : Int) < 1) by omega), decide_eq_false (show ¬ (((3 * n + 5 : Nat) : Int) > 200) by omega), mk_is _ _ (by omega)]
  rfl
theorem open_bad (d : Disk) {n : Int} (h : n < 1 ∨ n > 32) : m_store_Open d n = some (none, some 1) := by
  unfold m_store_Open
  rw [need_bad h]; rfl
theorem open_state (d : Disk) {n : Nat} (h0 : 1 ≤ n) (h1 : n ≤ 32) (h : d.1.length ≠ 3 * n + 5 ∨ d.2.1 ≠ []) : m_store_Open d (n : Int) = some (none, some 5) := by
  unfold m_store_Open
  rw [need_ok h0 h1, Option.bind_some]
  simp only [Option.isSome_none, cond_false]
  rw [checkDisk_is, Option.bind_some]
  have hor : (bif (Option.isSome (if diskErr d = 0 then none else some (diskErr d))) then some true else bif (cm .neq (d.1.length : Int) ((3 * n + 5 : Nat) : Int)) then some true else some (cm .gtr (d.2.1.length : Int) (0 : Int))) = some true := by
    by_cases c : diskErr d = 0
    · rw [if_pos c, cn, cg]
      by_cases c2 : d.1.length = 3 * n + 5
      · have h3 : d.2.1 ≠ [] := h.resolve_left (fun h => h c2)
        have h4 : 0 < d.2.1.length := List.length_pos_iff.2 h3
        rw [decide_eq_true (show (d.2.1.length : Int) > 0 by omega)]
        cases decide ((d.1.length : Int) ≠ ((3 * n + 5 : Nat) : Int)) <;> rfl
      · rw [decide_eq_true (show (d.1.length : Int) ≠ ((3 * n + 5 : Nat) : Int) by omega)]; rfl
    · rw [if_neg c]; rfl
  rw [hor]
  rfl
theorem Vw.none {m : Nat} {d : Disk} {f : Nat → Blk} (h : Vw m d f 0) : d = (d.1, [], -1) := by
  have h1 : d.2.1 = [] := List.eq_nil_of_length_eq_zero (by have := h.few; omega)
  have h2 := h.left
  obtain ⟨x, y, z⟩ := d
  simp only at h1 h2
  subst h1; subst h2; rfl
theorem open_seen {d : Disk} {blocks : List Blk} {a b : Nat} (h : Seen d blocks a b) (h0 : 1 ≤ blocks.length) (h1 : blocks.length ≤ 32) : m_store_Open d (blocks.length : Int) = some (some ((blocks.length : Int), d), none) := by
  obtain ⟨f, v, _, _, hm⟩ := h
  have hd := v.none
  have hl := v.len
  unfold m_store_Open
  rw [need_ok h0 h1, Option.bind_some]
  simp only [Option.isSome_none, cond_false]
  rw [checkDisk_is, Option.bind_some, if_pos v.err, cn, cg]
  have hp : d.2.1.length = 0 := by rw [hd]; rfl
  rw [hl, hp, decide_eq_false (fun h => h rfl)]
  simp only [Option.isSome_none, cond_false]
  rw [show decide (((0 : Nat) : Int) > 0) = false from rfl, Option.bind_some, cond_false]
  have hc : m_slices_Clone_api_Block_api_Block d.1 = some d.1 := by unfold m_slices_Clone_api_Block_api_Block; rw [app_small _ _ (by simp; omega)]; rfl
  rw [hc, Option.bind_some]
  have hd2 : (d.1, ([] : List (Int × Blk)), d.2.2) = d := by rw [v.left]; exact hd.symm
  rw [hd2]
  have hr : m_store_Store_replay_io (blocks.length : Int) d = some (none, (blocks.length : Int), d) := by
    unfold m_store_Store_replay_io
    rw [nxt (by omega), v.read (by omega) (by omega), Int.toNat_natCast, hm]
    rfl
  rw [hr]
  rfl
theorem disk_is {d : Disk} {blocks : List Blk} {a b : Nat} (h : Seen d blocks a b) : m_store_Store_Disk ((blocks.length : Int), d) = some d := by
  obtain ⟨f, v, _⟩ := h
  have hb := v.big; have hl := v.len; have hf := v.few
  unfold m_store_Store_Disk m_slices_Clone_api_Block_api_Block m_slices_Clone_api_Put_api_Put
  rw [app_small _ _ (by simp; omega), app_small _ _ (by simp; omega)]
  rfl
theorem seen_fresh {n : Nat} (h1 : n ≤ 32) : Seen (fresh n) (List.replicate n zblk) 0 0 := by
  refine ⟨fun _ => zblk, ?_, ?_, rfl, rfl⟩
  · rw [List.length_replicate]
    refine ⟨by unfold fresh; simp, by omega, rfl, Nat.le_refl _, by decide, fun p hp => by simp [fresh] at hp, fun a ha => ?_⟩
    unfold fresh
    show lastV (a : Int) [] ((List.replicate (3 * n + 5) zblk).getD a []) = zblk
    rw [lastV_is]
    show (List.replicate (3 * n + 5) zblk).getD a [] = zblk
    simp [List.getD_eq_getElem?_getD, ha]
  · intro x y h
    rw [List.getElem?_replicate] at h
    split at h
    · exact Option.some.inj h
    · cases h
end Go.Pl

namespace Go.Pl
open Go Go.Sw Go.Mo
/-- a disk of so many blocks: what is safe, what is read, how many puts wait -/
structure Dv (m : Nat) (d : Disk) (g f : Nat → Blk) (k : Nat) : Prop where
  len : d.1.length = m
  big : 1 ≤ m ∧ m ≤ 200
  left : -1 ≤ d.2.2 ∧ d.2.2 ≤ 1000
  few : d.2.1.length ≤ k
  lim : k ≤ 800
  rng : ∀ p ∈ d.2.1, 0 ≤ p.1 ∧ p.1 < (m : Int)
  safe : ∀ a, a < m → d.1.getD a [] = g a
  is : ∀ a, a < m → lastV (a : Int) d.2.1 (g a) = f a
  a8 : All8 d.1
  p8 : ∀ p ∈ d.2.1, p.2.length = 8
variable {m k : Nat} {d : Disk} {g f : Nat → Blk}
theorem Dv.err (h : Dv m d g f k) : diskErr d = 0 := by
  unfold diskErr
  have h1 := h.len; have h2 := h.big; have h3 := h.few; have h4 := h.lim
  rw [if_neg (by omega), if_neg]
  intro hb
  obtain ⟨p, hp, hq⟩ := List.any_eq_true.1 hb
  have := h.rng p hp
  unfold badAt at hq
  simp at hq
  omega
theorem Dv.vw (h : Dv m d g f k) (hl : d.2.2 = -1) : Vw m d f k :=
  ⟨h.len, h.big, hl, h.few, h.lim, h.rng, fun a ha => by rw [h.safe a ha]; exact h.is a ha⟩
theorem Dv.more (h : Dv m d g f k) {k' : Nat} (h1 : k ≤ k') (h2 : k' ≤ 800) : Dv m d g f k' :=
  ⟨h.len, h.big, h.left, Nat.le_trans h.few h1, h2, h.rng, h.safe, h.is, h.a8, h.p8⟩
theorem decL_ok {n : Int} (h0 : n ≠ 0) (h : -1 ≤ n ∧ n ≤ 1000) : -1 ≤ decL n ∧ decL n ≤ 1000 := by
  unfold decL
  split
  · have : ar .sub .i64 n 1 = n - 1 := by
      show IntKind.wrap .i64 (n - 1) = _
      exact wrap_i64 (by omega)
    omega
  · omega
theorem Dv.read (h : Dv m d g f k) {a : Int} (h0 : 0 ≤ a) (h1 : a < m) : m_disk_Read d a = some (if d.2.2 = 0 then (zblk, some 4) else (f a.toNat, none)) := by
  have h2 := h.few; have h3 := h.lim; have h4 := h.len
  rw [read_is d a (by omega), if_pos h.err, if_neg (by omega)]
  have := h.is a.toNat (by omega)
  rw [← h.safe a.toNat (by omega), show ((a.toNat : Nat) : Int) = a by omega] at this
  rw [this]
theorem Dv.put (h : Dv m d g f k) {a : Int} {b : Blk} (h0 : 0 ≤ a) (h1 : a < m) (hk : k < 800) (hb : b.length = 8) (hl : d.2.2 ≠ 0) : Dv m (d.1, d.2.1 ++ [(a, b)], decL d.2.2) g (upd f a.toNat b) (k + 1) := by
  have h2 := h.few
  refine ⟨h.len, h.big, decL_ok hl h.left, by simp; omega, by omega, ?_, h.safe, ?_, h.a8, ?_⟩
  · intro p hp
    rcases List.mem_append.1 hp with hp | hp
    · exact h.rng p hp
    · simp at hp; subst hp; exact ⟨h0, h1⟩
  · intro x hx
    show lastV (x : Int) (d.2.1 ++ [(a, b)]) (g x) = _
    rw [lastV_snoc]
    unfold upd
    by_cases e : x = a.toNat
    · rw [if_pos e, if_pos (by omega)]
    · rw [if_neg e, if_neg (by omega), h.is x hx]
  · intro p hp
    rcases List.mem_append.1 hp with hp | hp
    · exact h.p8 p hp
    · simp at hp; subst hp; exact hb
theorem Dv.write (h : Dv m d g f k) {a : Int} {b : Blk} (h0 : 0 ≤ a) (h1 : a < m) (hk : k < 800) (n : Int) :
    m_store_Store_write_io n d a b = some (if d.2.2 = 0 then (some 4, n, d) else (none, n, (d.1, d.2.1 ++ [(a, b)], decL d.2.2))) := by
  have h2 := h.few; have h4 := h.len; have h5 := h.big
  unfold m_store_Store_write_io
  rw [write_is d a b (by omega) (by omega), if_pos h.err, if_neg (by omega), if_neg (by omega)]
  by_cases c : d.2.2 = 0
  · rw [if_pos c, if_pos c]; rfl
  · rw [if_neg c, if_neg c]; rfl
theorem all8_fold : ∀ (l : List (Int × Blk)) (s : List Blk), All8 s → (∀ p ∈ l, p.2.length = 8) → All8 (l.foldl (fun acc p => acc.set p.1.toNat p.2) s) := by
  intro l
  induction l with
  | nil => intro s h _; exact h
  | cons p l ih =>
    intro s h hp
    rw [List.foldl_cons]
    refine ih _ (fun b hb => ?_) (fun q hq => hp q (List.mem_cons_of_mem _ hq))
    rcases List.mem_or_eq_of_mem_set hb with hb | rfl
    · exact h b hb
    · exact hp p List.mem_cons_self
theorem Dv.flushed (h : Dv m d g f k) (hl : d.2.2 ≠ 0) : Dv m (flushL d, [], decL d.2.2) f f 0 := by
  have h4 := h.len
  refine ⟨by show (flushL d).length = m; rw [flushL_len, h4], h.big, decL_ok hl h.left, Nat.le_refl _, by omega, fun p hp => by simp at hp, ?_, fun a _ => rfl, ?_, fun p hp => by simp at hp⟩
  · intro a ha
    show (flushL d).getD a [] = f a
    rw [flushL_plain, flush_get a _ _ (fun p hp => by rw [h4]; exact h.rng p hp), ← lastV_is, h.safe a ha, h.is a ha]
  · show All8 (flushL d)
    rw [flushL_plain]
    exact all8_fold _ _ h.a8 h.p8
theorem Dv.flush (h : Dv m d g f k) (n : Int) : m_store_Store_flush_io n d = some (if d.2.2 = 0 then (some 4, n, d) else (none, n, (flushL d, [], decL d.2.2))) := by
  have h2 := h.few; have h3 := h.lim; have h4 := h.len; have h5 := h.big
  unfold m_store_Store_flush_io
  rw [flush_is d (by omega) (by omega), if_pos h.err]
  by_cases c : d.2.2 = 0
  · rw [if_pos c, if_pos c]; rfl
  · rw [if_neg c, if_neg c]; rfl
/-! ### what a crash leaves -/
theorem cut1_get {n : Nat} {p : Int × Blk} {s : List Blk} {a : Nat} (h : p.1.toNat ≠ a) : (cut1 n p s).getD a [] = s.getD a [] := by
  unfold cut1
  simp [List.getD_eq_getElem?_getD, h]
theorem cutAll {bytes : List Int} : ∀ (l : List ((Int × Blk) × Nat)) (s : List Blk), All8 s → (∀ p ∈ l, p.1.2.length = 8 ∧ 0 ≤ p.1.1 ∧ p.1.1 < (s.length : Int)) →
    All8 (l.foldl (fun acc x => cut1 (pick9 bytes x.2) x.1 acc) s) ∧ (l.foldl (fun acc x => cut1 (pick9 bytes x.2) x.1 acc) s).length = s.length ∧ ∀ a, (∀ p ∈ l, p.1.1.toNat ≠ a) → (l.foldl (fun acc x => cut1 (pick9 bytes x.2) x.1 acc) s).getD a [] = s.getD a [] := by
  intro l
  induction l with
  | nil => intro s h _; exact ⟨h, rfl, fun _ _ => rfl⟩
  | cons p l ih =>
    intro s h hp
    obtain ⟨h1, h2, h3⟩ := hp p List.mem_cons_self
    obtain ⟨c1, c2⟩ := cut1_ok (pick9_lt bytes p.2) h1 h h2 h3
    obtain ⟨i1, i2, i3⟩ := ih (cut1 (pick9 bytes p.2) p.1 s) c1 (fun q hq => by rw [c2]; exact hp q (List.mem_cons_of_mem _ hq))
    refine ⟨i1, i2.trans c2, fun a ha => ?_⟩
    rw [List.foldl_cons, i3 a (fun q hq => ha q (List.mem_cons_of_mem _ hq)), cut1_get (ha p List.mem_cons_self)]
/-- what a crash leaves: nothing waits, and what no put was for is as it was -/
theorem Dv.crash (h : Dv m d g f k) {bytes : List Int} (hb : ∀ x ∈ bytes, I64 x) : ∃ c g', m_disk_Crash d bytes = some (c, none) ∧ c.2.2 = -1 ∧ c.2.1 = [] ∧ c.1 = crashL bytes d.2.1 d.1 ∧ Dv m c g' g' 0 ∧ ∀ a, a < m → (∀ p ∈ d.2.1, p.1.toNat ≠ a) → g' a = g a := by
  have h2 := h.few; have h3 := h.lim; have h4 := h.len; have h5 := h.big
  have hc := cutAll (bytes := bytes) d.2.1.zipIdx d.1 h.a8 (fun p hp => by
    have hm : p.1 ∈ d.2.1 := by
      have := List.mem_zipIdx' hp
      rw [this.2]; exact List.getElem_mem _
    have := h.rng p.1 hm
    exact ⟨h.p8 p.1 hm, this.1, by rw [h4]; exact this.2⟩)
  refine ⟨(crashL bytes d.2.1 d.1, [], -1), fun a => (crashL bytes d.2.1 d.1).getD a [], ?_, rfl, rfl, rfl, ⟨?_, h.big, by simp, Nat.le_refl _, by omega, fun p hp => by simp at hp, fun a _ => rfl, fun a _ => rfl, hc.1, fun p hp => by simp at hp⟩, ?_⟩
  · rw [diskCrash_is (fun _ => ⟨h.a8, h.p8, fun p hp => by rw [h4]; exact h.rng p hp, hb, by omega⟩), if_pos h.err]
  · show (crashL bytes d.2.1 d.1).length = m
    unfold crashL; rw [hc.2.1, h4]
  · intro a ha hn
    show (crashL bytes d.2.1 d.1).getD a [] = g a
    unfold crashL
    rw [hc.2.2 a (fun p hp => by
      have hm : p.1 ∈ d.2.1 := by
        have := List.mem_zipIdx' hp
        rw [this.2]; exact List.getElem_mem _
      exact hn p.1 hm), h.safe a ha]
/-- one put waited: a piece of it came through -/
theorem crash_one {bytes : List Int} {p : Int × Blk} {s : List Blk} (h1 : p.1.toNat < s.length) : ∃ j, j ≤ 8 ∧ (crashL bytes [p] s).getD p.1.toNat [] = p.2.take j ++ (s.getD p.1.toNat []).drop j := by
  refine ⟨pick9 bytes 0, pick9_lt _ _, ?_⟩
  unfold crashL
  show (cut1 (pick9 bytes 0) p s).getD p.1.toNat [] = _
  unfold cut1
  simp [List.getD_eq_getElem?_getD, h1]
end Go.Pl

namespace Go.Pl
open Go Go.Sw Go.Mo
/-- steps, up to the first that fails -/
inductive RunD {Q : Type} (F : Q → Int → Disk → Option Res3) (n : Int) : List Q → Disk → Option Int → Disk → Prop
  | nil {d : Disk} : RunD F n [] d none d
  | stop {q : Q} {l : List Q} {d d1 : Disk} {e : Int} : F q n d = some (some e, n, d1) → RunD F n (q :: l) d (some e) d1
  | cons {q : Q} {l : List Q} {d d1 d2 : Disk} {e : Option Int} : F q n d = some (none, n, d1) → RunD F n l d1 e d2 → RunD F n (q :: l) d e d2
theorem RunD.append {Q : Type} {F : Q → Int → Disk → Option Res3} {n : Int} {l l' : List Q} {d d1 d2 : Disk} {e : Option Int} (h : RunD F n l d none d1) (k : RunD F n l' d1 e d2) : RunD F n (l ++ l') d e d2 := by
  generalize he : (none : Option Int) = e0 at h
  induction h with
  | nil => exact k
  | stop _ => cases he
  | cons e _ ih => exact .cons e (ih k he)
theorem RunD.dead {Q : Type} {F : Q → Int → Disk → Option Res3} {n : Int} {l l' : List Q} {d d1 : Disk} {e : Int} (h : RunD F n l d (some e) d1) : RunD F n (l ++ l') d (some e) d1 := by
  generalize he : some e = e0 at h
  induction h with
  | nil => cases he
  | stop h => exact .stop h
  | cons e _ ih => exact .cons e (ih he)
theorem all_runD {Q : Type} {F : Q → Int → Disk → Option Res3} {n : Int} {xs : List Q} {d d2 : Disk} {e : Option Int} (h : RunD F n xs d e d2) (hl : xs.length ≤ 100000) :
    lp (β := Int × Disk) (fun (s11 : Int × Int × Disk) =>
    bif (cm .lss s11.1 (xs.length : Int)) then
      (Sw.idx xs s11.1).bind fun z19 =>
        (F z19 s11.2.1 s11.2.2).bind fun v20 =>
          bif (Option.isSome v20.1) then
            some (.done (.ret (v20.1, v20.2.1, v20.2.2)))
          else
            some (.next ((ar .add .i64 s11.1 (1 : Int)), v20.2.1, v20.2.2))
    else
      some (.done (.brk (s11.2.1, s11.2.2)))
    ) ((0 : Int), n, d) (fun (x17 : Int × Disk) => some ((none : Option Int), x17.1, x17.2)) = some (e, n, d2) := by
  generalize hst : (fun (s11 : Int × Int × Disk) =>
    bif (cm .lss s11.1 (xs.length : Int)) then
      (Sw.idx xs s11.1).bind fun z19 =>
        (F z19 s11.2.1 s11.2.2).bind fun v20 =>
          bif (Option.isSome v20.1) then
            some (Step.done (Ex.ret (v20.1, v20.2.1, v20.2.2)))
          else
            some (Step.next ((ar .add .i64 s11.1 (1 : Int)), v20.2.1, v20.2.2))
    else
      some (Step.done (Ex.brk (s11.2.1, s11.2.2)))) = step
  have key : ∀ (rest pre : List Q) (d : Disk) (f : Nat), xs = pre ++ rest → RunD F n rest d e d2 → rest.length < f → loop step f ((pre.length : Int), n, d) = some (e.elim (.brk (n, d2)) (fun x => .ret (some x, n, d2))) := by
    intro rest
    induction rest with
    | nil =>
      intro pre d f hx hr hf
      obtain ⟨f, rfl⟩ : ∃ f', f = f' + 1 := ⟨f - 1, by simp at hf; omega⟩
      rw [List.append_nil] at hx
      cases hr
      have : step ((pre.length : Int), n, d2) = some (.done (.brk (n, d2))) := by rw [← hst, hx]; simp only [lss_self, cond_false]
      simp [loop, this]
    | cons q rest ih =>
      intro pre d f hx hr hf
      obtain ⟨f, rfl⟩ : ∃ f', f = f' + 1 := ⟨f - 1, by simp at hf; omega⟩
      cases hr with
      | @stop _ _ _ _ e h =>
        have : step ((pre.length : Int), n, d) = some (.done (.ret (some e, n, d2))) := by
          rw [← hst]
          simp only [lss_len hx, cond_true, idx_len hx, Option.bind_some, h, Option.isSome_some, cond_true]
        simp only [loop, this]
        rfl
      | cons h hr =>
        rename_i d1
        have : step ((pre.length : Int), n, d) = some (.next (((pre.length + 1 : Nat) : Int), n, d1)) := by
          rw [← hst]
          simp only [lss_len hx, cond_true, idx_len hx, Option.bind_some, h, Option.isSome_none, cond_false]
          rw [nxt (by rw [hx] at hl; simp at hl; omega)]
        have h2 := ih (pre ++ [q]) d1 f (by rw [hx]; simp) hr (by simp at hf; omega)
        simp only [loop, this]
        simpa using h2
  have := key xs [] d FUEL rfl h (by unfold FUEL; omega)
  unfold lp
  simp only [List.length_nil] at this
  rw [show ((0 : Int), n, d) = (((0 : Nat) : Int), n, d) from rfl, this]
  cases e <;> rfl
variable {m k n : Nat} {d : Disk} {g f : Nat → Blk}
theorem mk8_len (b : Int) : (mk8 b).length = 8 := rfl
/-- marking: nothing done, or the mark waits, or it is safe -/
theorem Dv.mark (h : Dv m d g g 0) (hn : n + 1 < m) (b : Int) :
    m_store_Store_mark_io (n : Int) d b = some (some 4, (n : Int), d) ∨
    (∃ d', m_store_Store_mark_io (n : Int) d b = some (some 4, (n : Int), d') ∧ d'.2.1 = [(((n + 1 : Nat) : Int), mk8 b)] ∧ Dv m d' g (upd g (n + 1) (mk8 b)) 1) ∨
    (∃ d', m_store_Store_mark_io (n : Int) d b = some (none, (n : Int), d') ∧ d'.2.1 = [] ∧ Dv m d' (upd g (n + 1) (mk8 b)) (upd g (n + 1) (mk8 b)) 0) := by
  have hb := h.big
  have e1 := h.write (a := ((n + 1 : Nat) : Int)) (b := mk8 b) (by omega) (by omega) (by omega) (n : Int)
  have hw : ∀ d1 e, m_store_Store_write_io (n : Int) d ((n + 1 : Nat) : Int) (mk8 b) = some (e, (n : Int), d1) → m_clo_store_Store_mark (.inl ((), ((), b)) : Clo_store_Store_mark) (n : Int) d = some (e, (n : Int), d1) := by
    intro d1 e h1
    show m_store_Store_mark_1_io b (n : Int) d = _
    unfold m_store_Store_mark_1_io
    rw [nxt (by omega)]
    unfold mk8 at h1
    rw [h1]; rfl
  have fin : ∀ e d', RunD m_clo_store_Store_mark (n : Int) ([(.inl ((), ((), b)) : Clo_store_Store_mark), (.inr ((), ()) : Clo_store_Store_mark)] : (List Clo_store_Store_mark)) d e d' → m_store_Store_mark_io (n : Int) d b = some (e, (n : Int), d') := by
    intro e d' hr
    unfold m_store_Store_mark_io m_store_all_store_Store_mark_io
    rw [all_runD hr (by simp)]
    rfl
  by_cases c : d.2.2 = 0
  · rw [if_pos c] at e1
    exact .inl (fin _ _ (.stop (hw _ _ e1)))
  · rw [if_neg c] at e1
    have hp := h.put (a := ((n + 1 : Nat) : Int)) (b := mk8 b) (by omega) (by omega) (by omega) (mk8_len b) c
    have hd : d.2.1 = [] := List.eq_nil_of_length_eq_zero (by have := h.few; omega)
    rw [Int.toNat_natCast] at hp
    have e2 := hp.flush (n : Int)
    refine .inr ?_
    by_cases c2 : decL d.2.2 = 0
    · rw [if_pos c2] at e2
      refine .inl ⟨_, fin _ _ (.cons (hw _ _ e1) (.stop e2)), ?_, hp⟩
      show d.2.1 ++ _ = _
      rw [hd]; rfl
    · rw [if_neg c2] at e2
      exact .inr ⟨_, fin _ _ (.cons (hw _ _ e1) (.cons e2 .nil)), rfl, hp.flushed c2⟩
/-- doing the log: what waits are puts of the log -/
theorem Dv.apply (h : Dv m d g g 0) {l : Log} (hl : Laid n g l) (hm : m = 3 * n + 5) (hn : l.length ≤ n + 1) (hp : ∀ p ∈ l, p.1 ≤ n ∧ p.2.length = 8) :
    ∃ e d' k', m_store_Store_apply_io (n : Int) d = some (e, (n : Int), d') ∧ Dv m d' g (appl g (l.take k')) k' ∧ (∀ p ∈ d'.2.1, ∃ q ∈ l, p.1 = (q.1 : Int)) ∧ (e = some 4 ∨ e = none ∧ k' = l.length) := by
  have hb := h.big
  have hd : d.2.1 = [] := List.eq_nil_of_length_eq_zero (by have := h.few; omega)
  unfold m_store_Store_apply_io
  have e1 : ar .add .i64 (n : Int) (2 : Int) = ((n + 2 : Nat) : Int) := by rw [addI (by omega)]; push_cast; rfl
  rw [e1, h.read (by omega) (by omega), Option.bind_some, Int.toNat_natCast]
  obtain ⟨r0, hr0⟩ := hl.cnt
  have ev : m_store_value (g (n + 2)) = some (l.length : Int) := by rw [hr0]; exact value_num (by omega) r0
  by_cases c0 : d.2.2 = 0
  · rw [if_pos c0]
    refine ⟨some 4, d, 0, ?_, h, fun p hp => by rw [hd] at hp; simp at hp, .inl rfl⟩
    unfold lp
    rw [show FUEL = (FUEL - 1) + 1 by unfold FUEL; rfl]
    simp only [loop, Option.isNone_some, cond_false, Option.bind_some]
  rw [if_neg c0]
  generalize hst : (fun (s34 : (Option Int) × Int × Int × ((List Blk) × (List (Int × Blk)) × Int)) =>
      (bif (Option.isNone s34.1) then
        (m_store_value (g (n + 2), (none : Option Int)).1).bind fun v56 =>
          some (cm .lss s34.2.1 v56)
      else
        some false).bind fun x54 =>
        bif x54 then
          (m_disk_Read s34.2.2.2 (ar .add .i64 (ar .add .i64 s34.2.2.1 (3 : Int)) (ar .mul .i64 (2 : Int) s34.2.1))).bind fun v58 =>
            jp (fun (x62 : (Option Int) × Blk) =>
              bif (Option.isNone x62.1) then
                (m_store_value v58.1).bind fun v65 =>
                  (m_store_Store_write_io s34.2.2.1 s34.2.2.2 v65 x62.2).bind fun v66 =>
                    some (Step.next (v66.1, (ar .add .i64 s34.2.1 (1 : Int)), v66.2.1, v66.2.2))
              else
                some (Step.next (x62.1, (ar .add .i64 s34.2.1 (1 : Int)), s34.2.2.1, s34.2.2.2))
              ) fun k61 =>
            bif (Option.isNone v58.2) then
              (m_disk_Read s34.2.2.2 (ar .add .i64 (ar .add .i64 s34.2.2.1 (4 : Int)) (ar .mul .i64 (2 : Int) s34.2.1))).bind fun v63 =>
                k61 (v63.2, v63.1)
            else
              k61 (v58.2, zblk)
        else
          some (Step.done (Ex.brk (β := Res3) (s34.1, s34.2.2.1, s34.2.2.2)))) = step
  have hdead : ∀ (i : Int) (d : Disk), step (some 4, i, (n : Int), d) = some (.done (.brk (some 4, (n : Int), d))) := by
    intro i d
    rw [← hst]
    rfl
  have key : ∀ (rest pre : Log) (d : Disk) (F : Nat), l = pre ++ rest → Dv m d g (appl g pre) pre.length → (∀ p ∈ d.2.1, ∃ q ∈ l, p.1 = (q.1 : Int)) → rest.length + 1 < F →
      ∃ e d' k', loop step F ((none : Option Int), (pre.length : Int), (n : Int), d) = some (.brk (e, (n : Int), d')) ∧ Dv m d' g (appl g (l.take k')) k' ∧ (∀ p ∈ d'.2.1, ∃ q ∈ l, p.1 = (q.1 : Int)) ∧ (e = some 4 ∨ e = none ∧ k' = l.length) := by
    intro rest
    induction rest with
    | nil =>
      intro pre d F hx hI hq hf
      obtain ⟨F, rfl⟩ : ∃ f', F = f' + 1 := ⟨F - 1, by simp at hf; omega⟩
      rw [List.append_nil] at hx
      subst hx
      refine ⟨none, d, l.length, ?_, by rw [List.take_length]; exact hI, hq, .inr ⟨rfl, rfl⟩⟩
      have : step ((none : Option Int), (l.length : Int), (n : Int), d) = some (.done (.brk (none, (n : Int), d))) := by
        rw [← hst]
        simp only [Option.isNone_none, cond_true, ev, Option.bind_some, lss_self, cond_false]
      simp only [loop, this]
    | cons p rest ih =>
      intro pre d F hx hI hq hf
      simp only [List.length_cons] at hf
      obtain ⟨F, rfl⟩ : ∃ f', F = f' + 2 := ⟨F - 2, by omega⟩
      have hlt : pre.length < l.length := by rw [hx]; simp
      have hget : l[pre.length]? = some p := by rw [hx]; simp
      have hpl : p ∈ l := by rw [hx]; simp
      obtain ⟨⟨r, h1⟩, h2⟩ := hl.put _ _ hget
      have hpp : ∀ q ∈ pre, q.1 ≤ n := fun q hq => (hp q (by rw [hx]; exact List.mem_append_left _ hq)).1
      have hpn := hp p hpl
      have ea : ar .add .i64 (ar .add .i64 (n : Int) (3 : Int)) (ar .mul .i64 (2 : Int) (pre.length : Int)) = ((n + 3 + 2 * pre.length : Nat) : Int) := by
        rw [show (2 : Int) = ((2 : Nat) : Int) from rfl, mul64 (by omega), addI (m := (n : Int)) (by omega), addI (by push_cast; omega)]; push_cast; rfl
      have eb : ar .add .i64 (ar .add .i64 (n : Int) (4 : Int)) (ar .mul .i64 (2 : Int) (pre.length : Int)) = ((n + 4 + 2 * pre.length : Nat) : Int) := by
        rw [show (2 : Int) = ((2 : Nat) : Int) from rfl, mul64 (by omega), addI (m := (n : Int)) (by omega), addI (by push_cast; omega)]; push_cast; rfl
      have ra := hI.read (a := ((n + 3 + 2 * pre.length : Nat) : Int)) (by omega) (by omega)
      have rb := hI.read (a := ((n + 4 + 2 * pre.length : Nat) : Int)) (by omega) (by omega)
      rw [Int.toNat_natCast, appl_out g pre hpp (by omega), h1] at ra
      rw [Int.toNat_natCast, appl_out g pre hpp (by omega), h2] at rb
      have vp : m_store_value (num4 p.1 ++ r) = some (p.1 : Int) := value_num (by omega) r
      have hw := hI.write (a := (p.1 : Int)) (b := p.2) (by omega) (by omega) (by omega) (n : Int)
      by_cases c : d.2.2 = 0
      · rw [if_pos c] at ra
        have hs : step ((none : Option Int), (pre.length : Int), (n : Int), d) = some (.next (some 4, ((pre.length + 1 : Nat) : Int), (n : Int), d)) := by
          rw [← hst]
          simp only [Option.isNone_none, cond_true, ev, Option.bind_some, lss_len hx, ea, ra, jp, Option.isNone_some, cond_false]
          rw [nxt (by omega)]
        refine ⟨some 4, d, pre.length, ?_, by rw [hx, List.take_left]; exact hI, hq, .inl rfl⟩
        rw [loop, hs]
        simp only [loop, hdead]
      · rw [if_neg c] at ra rb hw
        have hs : step ((none : Option Int), (pre.length : Int), (n : Int), d) = some (.next (none, ((pre.length + 1 : Nat) : Int), (n : Int), (d.1, d.2.1 ++ [((p.1 : Int), p.2)], decL d.2.2))) := by
          rw [← hst]
          simp only [Option.isNone_none, cond_true, ev, Option.bind_some, lss_len hx, ea, eb, ra, rb, jp, vp, hw]
          rw [nxt (by omega)]
        have hI2 := hI.put (a := (p.1 : Int)) (b := p.2) (by omega) (by omega) (by omega) hpn.2 c
        rw [Int.toNat_natCast, ← appl_snoc] at hI2
        obtain ⟨e, d', k', x1, x2, x3, x4⟩ := ih (pre ++ [p]) _ (F + 1) (by rw [hx]; simp) (by rw [List.length_append]; exact hI2) (by
          intro q hq'
          rcases List.mem_append.1 hq' with hq' | hq'
          · exact hq q hq'
          · simp at hq'; subst hq'; exact ⟨p, hpl, rfl⟩) (by omega)
        refine ⟨e, d', k', ?_, x2, x3, x4⟩
        rw [loop, hs]
        simpa using x1
  obtain ⟨e, d', k', x1, x2, x3, x4⟩ := key l [] d FUEL rfl (by exact h) (fun p hp => by rw [hd] at hp; simp at hp) (by unfold FUEL; omega)
  refine ⟨e, d', k', ?_, x2, x3, x4⟩
  unfold lp
  simp only [List.length_nil] at x1
  rw [show ((g (n + 2), (none : Option Int)).2, (0 : Int), (n : Int), d) = ((none : Option Int), ((0 : Nat) : Int), (n : Int), d) from rfl, x1]
end Go.Pl

namespace Go.Pl
open Go Go.Sw Go.Mo
variable {m k n : Nat} {d : Disk} {g f o : Nat → Blk}
/-- a marked log is done when the store is opened -/
theorem open_marked (hD : Dv m d f f 0) (hleft : d.2.2 = -1) {l : Log} (hl : Laid n f l) (hk : f (n + 1) = mk8 1) (hm : m = 3 * n + 5) (h0 : 1 ≤ n) (h1 : n ≤ 32) (hn : l.length ≤ n + 1) (hp8 : ∀ p ∈ l, p.1 ≤ n ∧ p.2.length = 8) :
    ∃ d', m_store_Open d (n : Int) = some (some ((n : Int), d'), none) ∧ Vw m d' (upd (appl f l) (n + 1) (mk8 0)) 0 ∧ All8 d'.1 := by
  have hp : ∀ p ∈ l, p.1 ≤ n := fun p h => (hp8 p h).1
  have h := hD.vw hleft
  have hd := h.none
  have hlen := h.len
  obtain ⟨d1, e1, v1⟩ := h.sApply hl hm hn hp (by omega)
  obtain ⟨d2, e2, v2⟩ := v1.sFlush (n : Int)
  obtain ⟨d3, e3, v3⟩ := v2.sMark (n := n) (by omega) 0 (by omega)
  have a8 : All8 d3.1 := by
    obtain ⟨e, dd, k', x1, x2, _, _⟩ := hD.apply hl hm hn hp8
    rw [e1] at x1
    simp only [Option.some.injEq, Prod.mk.injEq, true_and] at x1
    obtain ⟨_, rfl⟩ := x1
    have y1 := x2.flush (n : Int)
    have hne : d1.2.2 ≠ 0 := by rw [v1.left]; decide
    rw [if_neg hne, e2] at y1
    simp only [Option.some.injEq, Prod.mk.injEq, true_and] at y1
    have y2 := x2.flushed hne
    rw [← y1] at y2
    have hz : upd (appl f (l.take k')) 0 (appl f (l.take k') 0) = appl f (l.take k') := by
      funext x; unfold upd; split
      · rename_i hx; rw [hx]
      · rfl
    rcases y2.mark (n := n) (by omega) 0 with w | ⟨w, w1, w2, w3⟩ | ⟨w, w1, w2, w3⟩
    · rw [e3] at w; simp at w
    · rw [e3] at w1; simp at w1
    · rw [e3] at w1
      simp only [Option.some.injEq, Prod.mk.injEq, true_and] at w1
      rw [w1]; exact w3.a8
  refine ⟨d3, ?_, v3, a8⟩
  unfold m_store_Open
  rw [need_ok h0 h1, Option.bind_some]
  simp only [Option.isSome_none, cond_false]
  rw [checkDisk_is, Option.bind_some, if_pos h.err, cn, cg]
  have hp0 : d.2.1.length = 0 := by rw [hd]; rfl
  rw [hlen, hp0, hm, decide_eq_false (fun h => h rfl)]
  simp only [Option.isSome_none, cond_false]
  rw [show decide (((0 : Nat) : Int) > 0) = false from rfl, Option.bind_some, cond_false]
  have hc : m_slices_Clone_api_Block_api_Block d.1 = some d.1 := by unfold m_slices_Clone_api_Block_api_Block; rw [app_small _ _ (by simp; omega)]; rfl
  rw [hc, Option.bind_some]
  have hd2 : (d.1, ([] : List (Int × Blk)), d.2.2) = d := by rw [h.left]; exact hd.symm
  rw [hd2]
  have hr : m_store_Store_replay_io (n : Int) d = some (none, (n : Int), d3) := by
    unfold m_store_Store_replay_io
    rw [nxt (by omega), h.read (by omega) (by omega), Int.toNat_natCast, hk]
    have hall : ∀ xs, Run m_clo_store_Store_replay (n : Int) xs d d3 → xs.length ≤ 100 → m_store_all_store_Store_replay_io xs (n : Int) d = some (none, (n : Int), d3) := by
      intro xs hx hxl
      unfold m_store_all_store_Store_replay_io
      exact all_run hx (by omega)
    have hrun : Run m_clo_store_Store_replay (n : Int) ([(.inl ((), ()) : Clo_store_Store_replay), (.inr (.inl ((), ())) : Clo_store_Store_replay), (.inr (.inr ((), ())) : Clo_store_Store_replay)] : (List Clo_store_Store_replay)) d d3 := by
      refine .cons e1 (.cons e2 (.cons (d1 := d3) ?_ .nil))
      show m_store_Store_replay_1_io (n : Int) d2 = _
      unfold m_store_Store_replay_1_io
      rw [e3]; rfl
    have hi : Sw.idx (mk8 1) (0 : Int) = some (1 : Int) := rfl
    simp only [Option.bind_some, Option.isSome_none, cond_false, hi]
    rw [show cm .eql (1 : Int) (0 : Int) = false from rfl, cond_false, hall _ hrun (by simp)]
    rfl
  rw [hr]
  rfl
/-- a store is opened, and has these blocks and this number twice -/
def Opens (n : Nat) (c : Disk) (blocks : List Blk) (a : Nat) : Prop := blocks.length = n ∧ ∃ d', m_store_Open c (n : Int) = some (some ((n : Int), d'), none) ∧ Seen d' blocks a a ∧ All8 d'.1
/-- blocks and numbers as a store's first blocks tell them -/
structure Told (n : Nat) (f : Nat → Blk) (blocks : List Blk) (a : Nat) : Prop where
  len : blocks.length = n
  blk : ∀ x y, blocks[x]? = some y → f x = y
  num : f n = num4 a ++ num4 a
theorem Told.of {blocks : List Blk} {a : Nat} (h : Told n f blocks a) (hg : ∀ x, x ≤ n → g x = f x) : Told n g blocks a :=
  ⟨h.len, fun x y hx => by rw [hg x (by have := (List.getElem?_eq_some_iff.1 hx).1; have := h.len; omega)]; exact h.blk x y hx, by rw [hg n (Nat.le_refl _)]; exact h.num⟩
theorem opens_plain {c : Disk} {blocks : List Blk} {a : Nat} (h : Dv m c g g 0) (hl : c.2.2 = -1) (hm : m = 3 * n + 5) (h0 : 1 ≤ n) (h1 : n ≤ 32) (ht : Told n g blocks a) (hk : g (n + 1) = mk8 0) : Opens n c blocks a := by
  have hs : Seen c blocks a a := ⟨g, by rw [ht.len, ← hm]; exact h.vw hl, ht.blk, by rw [ht.len]; exact ht.num, by rw [ht.len]; exact hk⟩
  have := open_seen hs (by rw [ht.len]; exact h0) (by rw [ht.len]; exact h1)
  rw [ht.len] at this
  exact ⟨ht.len, c, this, hs, h.a8⟩
/-- puts of a log, whatever lay at their places -/
theorem appl_eq {l : Log} : ∀ {f g : Nat → Blk} {x : Nat}, (f x = g x ∨ ∃ p ∈ l, p.1 = x) → appl f l x = appl g l x := by
  unfold appl
  induction l with
  | nil => intro f g x h; rcases h with h | ⟨p, hp, _⟩; exact h; simp at hp
  | cons p l ih =>
    intro f g x h
    rw [List.foldl_cons, List.foldl_cons]
    apply ih
    by_cases e : p.1 = x
    · left; unfold upd; rw [if_pos e.symm, if_pos e.symm]
    · rcases h with h | ⟨q, hq, hx⟩
      · left; unfold upd; rw [h]
      · rcases List.mem_cons.1 hq with rfl | hq
        · exact absurd hx e
        · exact .inr ⟨q, hq, hx⟩
theorem opens_marked {c : Disk} {l : Log} {blocks : List Blk} {a : Nat} (h : Dv m c g g 0) (hleft : c.2.2 = -1) (hl : Laid n g l) (hk : g (n + 1) = mk8 1) (hm : m = 3 * n + 5) (h0 : 1 ≤ n) (h1 : n ≤ 32) (hn : l.length ≤ n + 1) (hp : ∀ p ∈ l, p.1 ≤ n ∧ p.2.length = 8)
    (ht : Told n (appl o l) blocks a) (ho : ∀ x, x ≤ n → g x = o x ∨ ∃ p ∈ l, p.1 = x) : Opens n c blocks a := by
  obtain ⟨d', e, v, a8⟩ := open_marked h hleft hl hk hm h0 h1 hn hp
  have ht2 : Told n (upd (appl g l) (n + 1) (mk8 0)) blocks a := ht.of (fun x hx => by
    unfold upd
    rw [if_neg (by omega)]
    exact appl_eq (ho x hx))
  refine ⟨ht.len, d', e, ⟨_, by rw [ht.len, ← hm]; exact v, ht2.blk, by rw [ht.len]; exact ht2.num, by rw [ht.len]; unfold upd; rw [if_pos rfl]⟩, a8⟩
/-- whatever a crash leaves of it, it is opened as the one or as the other -/
def Falls (n : Nat) (d : Disk) (one : List Blk) (a : Nat) (two : List Blk) (b : Nat) : Prop :=
  ∀ bytes, (∀ x ∈ bytes, I64 x) → ∃ c, m_disk_Crash d bytes = some (c, none) ∧ (Opens n c one a ∨ Opens n c two b)
structure Set3 (m n : Nat) (o : Nat → Blk) (l : Log) (one : List Blk) (a : Nat) (two : List Blk) (b : Nat) : Prop where
  hm : m = 3 * n + 5
  h0 : 1 ≤ n
  h1 : n ≤ 32
  hn : l.length ≤ n + 1
  hp : ∀ p ∈ l, p.1 ≤ n ∧ p.2.length = 8
  t1 : Told n o one a
  t2 : Told n (appl o l) two b
  mz : o (n + 1) = mk8 0
variable {l : Log} {one two : List Blk} {a b : Nat}
/-- before the mark: what waits are pieces of the log -/
theorem falls_log (s : Set3 m n o l one a two b) (h : Dv m d g f k) (hg : ∀ x, x ≤ n + 1 → g x = o x) (hp : ∀ p ∈ d.2.1, (n : Int) + 2 ≤ p.1) : Falls n d one a two b := by
  intro bytes hb
  obtain ⟨c, g', e, hl, _, _, v, hs⟩ := h.crash hb
  have hm := s.hm
  have hgo : ∀ x, x ≤ n + 1 → g' x = o x := fun x hx => by
    rw [hs x (by omega) (fun p hq => by have := hp p hq; omega), hg x hx]
  exact ⟨c, e, .inl (opens_plain v hl hm s.h0 s.h1 (s.t1.of (fun x hx => hgo x (by omega))) (by rw [hgo _ (Nat.le_refl _), s.mz]))⟩
theorem mk8_cut (x y : Int) (j : Nat) : (mk8 x).take j ++ (mk8 y).drop j = if j = 0 then mk8 y else mk8 x := by
  cases j with
  | zero => rfl
  | succ j =>
    rw [if_neg (by omega)]
    unfold mk8
    show x :: ((List.replicate 7 (0 : Int)).take j ++ (List.replicate 7 (0 : Int)).drop j) = _
    rw [List.take_append_drop]; rfl
/-- the mark waits -/
theorem falls_mark (s : Set3 m n o l one a two b) (h : Dv m d g f k) (hg : ∀ x, x ≤ n + 1 → g x = o x) (hl : Laid n g l) (hp : d.2.1 = [(((n + 1 : Nat) : Int), mk8 1)]) : Falls n d one a two b := by
  intro bytes hb
  obtain ⟨c, g', e, hleft, _, hc, v, hs⟩ := h.crash hb
  have hm := s.hm
  have hlen := h.len
  have hs' : ∀ x, x < m → x ≠ n + 1 → g' x = g x := fun x hx hne => hs x hx (fun p hq => by rw [hp] at hq; simp at hq; subst hq; simp; omega)
  have hcut : ∃ j, g' (n + 1) = if j = 0 then mk8 0 else mk8 1 := by
    obtain ⟨j, _, hj⟩ := crash_one (bytes := bytes) (p := (((n + 1 : Nat) : Int), mk8 1)) (s := d.1) (by simp; omega)
    refine ⟨j, ?_⟩
    rw [← v.safe (n + 1) (by omega), hc, hp]
    simp only [Int.toNat_natCast] at hj
    rw [hj, h.safe (n + 1) (by omega), hg _ (Nat.le_refl _), s.mz, mk8_cut]
  have hgo : ∀ x, x ≤ n → g' x = o x := fun x hx => by rw [hs' x (by omega) (by omega), hg x (by omega)]
  obtain ⟨j, hj⟩ := hcut
  refine ⟨c, e, ?_⟩
  by_cases c0 : j = 0
  · rw [if_pos c0] at hj
    exact .inl (opens_plain v hleft hm s.h0 s.h1 (s.t1.of hgo) hj)
  · rw [if_neg c0] at hj
    have hl' : Laid n g' l := by
      have hn := s.hn
      refine ⟨by rw [hs' _ (by omega) (by omega)]; exact hl.cnt, fun i p hi => ?_⟩
      have : i < l.length := (List.getElem?_eq_some_iff.1 hi).1
      rw [hs' _ (by omega) (by omega), hs' _ (by omega) (by omega)]
      exact hl.put i p hi
    exact .inr (opens_marked v hleft hl' hj hm s.h0 s.h1 s.hn s.hp s.t2 (fun x hx => .inl (hgo x hx)))
/-- the log is marked: what waits are its puts -/
theorem falls_done (s : Set3 m n o l one a two b) (h : Dv m d g f k) (hg : ∀ x, x ≤ n → g x = o x ∨ ∃ p ∈ l, p.1 = x) (hl : Laid n g l) (hk : g (n + 1) = mk8 1) (hp : ∀ p ∈ d.2.1, ∃ q ∈ l, p.1 = (q.1 : Int)) : Falls n d one a two b := by
  intro bytes hb
  obtain ⟨c, g', e, hleft, _, hc, v, hs⟩ := h.crash hb
  have hm := s.hm
  have hs' : ∀ x, x < m → (n < x ∨ ¬ ∃ p ∈ l, p.1 = x) → g' x = g x := fun x hx hne => hs x hx (fun p hq hx2 => by
    obtain ⟨q, hq1, hq2⟩ := hp p hq
    have := (s.hp q hq1).1
    rcases hne with hne | hne
    · omega
    · exact hne ⟨q, hq1, by omega⟩)
  have hl' : Laid n g' l := by
    have hn := s.hn
    refine ⟨by rw [hs' _ (by omega) (.inl (by omega))]; exact hl.cnt, fun i p hi => ?_⟩
    have : i < l.length := (List.getElem?_eq_some_iff.1 hi).1
    rw [hs' _ (by omega) (.inl (by omega)), hs' _ (by omega) (.inl (by omega))]
    exact hl.put i p hi
  refine ⟨c, e, .inr (opens_marked v hleft hl' (by rw [hs' _ (by omega) (.inl (by omega)), hk]) hm s.h0 s.h1 s.hn s.hp s.t2 (fun x hx => ?_))⟩
  by_cases hx2 : ∃ p ∈ l, p.1 = x
  · exact .inr hx2
  · rcases hg x hx with hg | hg
    · exact .inl (by rw [hs' x (by omega) (.inr hx2), hg])
    · exact absurd hg hx2
/-- all is done, and the mark's end waits -/
theorem falls_end (s : Set3 m n o l one a two b) (h : Dv m d g f k) (hg : ∀ x, x ≤ n → g x = appl o l x) (hl : Laid n g l) (hk : g (n + 1) = mk8 1) (hp : d.2.1 = [(((n + 1 : Nat) : Int), mk8 0)]) : Falls n d one a two b := by
  intro bytes hb
  obtain ⟨c, g', e, hleft, _, hc, v, hs⟩ := h.crash hb
  have hm := s.hm
  have hlen := h.len
  have hs' : ∀ x, x < m → x ≠ n + 1 → g' x = g x := fun x hx hne => hs x hx (fun p hq => by rw [hp] at hq; simp at hq; subst hq; simp; omega)
  have hcut : ∃ j, g' (n + 1) = if j = 0 then mk8 1 else mk8 0 := by
    obtain ⟨j, _, hj⟩ := crash_one (bytes := bytes) (p := (((n + 1 : Nat) : Int), mk8 0)) (s := d.1) (by simp; omega)
    refine ⟨j, ?_⟩
    rw [← v.safe (n + 1) (by omega), hc, hp]
    simp only [Int.toNat_natCast] at hj
    rw [hj, h.safe (n + 1) (by omega), hk, mk8_cut]
  have hgo : ∀ x, x ≤ n → g' x = appl o l x := fun x hx => by rw [hs' x (by omega) (by omega), hg x hx]
  obtain ⟨j, hj⟩ := hcut
  refine ⟨c, e, .inr ?_⟩
  by_cases c0 : j = 0
  · rw [if_pos c0] at hj
    have hl' : Laid n g' l := by
      have hn := s.hn
      refine ⟨by rw [hs' _ (by omega) (by omega)]; exact hl.cnt, fun i p hi => ?_⟩
      have : i < l.length := (List.getElem?_eq_some_iff.1 hi).1
      rw [hs' _ (by omega) (by omega), hs' _ (by omega) (by omega)]
      exact hl.put i p hi
    refine opens_marked (o := o) v hleft hl' hj hm s.h0 s.h1 s.hn s.hp s.t2 (fun x hx => ?_)
    by_cases hx2 : ∃ p ∈ l, p.1 = x
    · exact .inr hx2
    · refine .inl ?_
      rw [hgo x hx]
      have : ∀ (l : Log) (f : Nat → Blk), (¬ ∃ p ∈ l, p.1 = x) → appl f l x = f x := by
        intro l
        induction l with
        | nil => intro f _; rfl
        | cons p l ih =>
          intro f hf
          show appl (upd f p.1 p.2) l x = f x
          rw [ih _ (fun ⟨q, hq, hx⟩ => hf ⟨q, List.mem_cons_of_mem _ hq, hx⟩)]
          unfold upd
          rw [if_neg (fun h => hf ⟨p, List.mem_cons_self, h.symm⟩)]
      exact this l o hx2
  · rw [if_neg c0] at hj
    exact opens_plain v hleft hm s.h0 s.h1 (s.t2.of hgo) hj
end Go.Pl

namespace Go.Pl
open Go Go.Sw Go.Mo
variable {m k n : Nat} {d : Disk} {g f o : Nat → Blk}
theorem num8_len (v : Nat) : (num4 v ++ List.replicate 4 (0 : Int)).length = 8 := rfl
/-- the log is written: what waits lies behind the mark -/
theorem run_logD (hm : m = 3 * n + 5) (hn : n ≤ 32) : ∀ (rest : Puts) (i : Nat) (d : Disk) (f : Nat → Blk) (k : Nat), Dv m d o f k → (∀ p ∈ d.2.1, (n : Int) + 2 ≤ p.1) → (∀ p ∈ rest, 0 ≤ p.1 ∧ p.1 ≤ n ∧ p.2.length = 8) → i + rest.length ≤ n + 1 → k + 2 * rest.length ≤ 800 →
    ∃ e d' f' k', RunD m_clo_store_Store_Commit (n : Int) (stepsI i rest) d e d' ∧ Dv m d' o f' k' ∧ (∀ p ∈ d'.2.1, (n : Int) + 2 ≤ p.1) ∧ (e = some 4 ∨ e = none ∧ (∀ x, x < n + 3 + 2 * i → f' x = f x) ∧
      ∀ j p, rest[j]? = some p → (∃ r, f' (n + 3 + 2 * (i + j)) = num4 p.1.toNat ++ r) ∧ f' (n + 4 + 2 * (i + j)) = p.2) := by
  intro rest
  induction rest with
  | nil => intro i d g k h hq _ _ _; exact ⟨none, d, g, k, .nil, h, hq, .inr ⟨rfl, fun _ _ => rfl, fun j p hj => by simp at hj⟩⟩
  | cons p rest ih =>
    intro i d f k h hq hp hi hk
    have hp0 := hp p List.mem_cons_self
    simp only [List.length_cons] at hi hk
    have e1 := h.write (a := ((n + 3 + 2 * i : Nat) : Int)) (b := num4 p.1.toNat ++ List.replicate 4 (0 : Int)) (by omega) (by omega) (by omega) (n : Int)
    have ea : ar .add .i64 (ar .add .i64 (n : Int) (3 : Int)) (ar .mul .i64 (2 : Int) (i : Int)) = ((n + 3 + 2 * i : Nat) : Int) := by
      rw [show (2 : Int) = ((2 : Nat) : Int) from rfl, mul64 (by omega), addI (m := (n : Int)) (by omega), addI (by push_cast; omega)]; push_cast; rfl
    have eb : ar .add .i64 (ar .add .i64 (n : Int) (4 : Int)) (ar .mul .i64 (2 : Int) (i : Int)) = ((n + 4 + 2 * i : Nat) : Int) := by
      rw [show (2 : Int) = ((2 : Nat) : Int) from rfl, mul64 (by omega), addI (m := (n : Int)) (by omega), addI (by push_cast; omega)]; push_cast; rfl
    have hz : p.1 = ((p.1.toNat : Nat) : Int) := by omega
    have hnum := number_is p.1.toNat
    rw [← hz] at hnum
    have w1 : ∀ e d1, m_store_Store_write_io (n : Int) d ((n + 3 + 2 * i : Nat) : Int) (num4 p.1.toNat ++ List.replicate 4 (0 : Int)) = some (e, (n : Int), d1) → m_clo_store_Store_Commit (stA i p) (n : Int) d = some (e, (n : Int), d1) := by
      intro e d1 h1
      show m_store_Store_Commit_3_io (i : Int) p (n : Int) d = _
      unfold m_store_Store_Commit_3_io
      rw [hnum, Option.bind_some, ea, h1]; rfl
    by_cases c : d.2.2 = 0
    · rw [if_pos c] at e1
      exact ⟨some 4, d, f, k, .stop (w1 _ _ e1), h, hq, .inl rfl⟩
    rw [if_neg c] at e1
    have h1 := h.put (a := ((n + 3 + 2 * i : Nat) : Int)) (b := num4 p.1.toNat ++ List.replicate 4 (0 : Int)) (by omega) (by omega) (by omega) (num8_len _) c
    rw [Int.toNat_natCast] at h1
    have hq1 : ∀ q ∈ (d.2.1 ++ [(((n + 3 + 2 * i : Nat) : Int), num4 p.1.toNat ++ List.replicate 4 (0 : Int))]), (n : Int) + 2 ≤ q.1 := by
      intro q hq'
      rcases List.mem_append.1 hq' with hq' | hq'
      · exact hq q hq'
      · simp at hq'; subst hq'; simp; omega
    have e2 := h1.write (a := ((n + 4 + 2 * i : Nat) : Int)) (b := p.2) (by omega) (by omega) (by omega) (n : Int)
    have w2 : ∀ e d1 d2, m_store_Store_write_io (n : Int) d1 ((n + 4 + 2 * i : Nat) : Int) p.2 = some (e, (n : Int), d2) → m_clo_store_Store_Commit (stB i p) (n : Int) d1 = some (e, (n : Int), d2) := by
      intro e d1 d2 h1
      show m_store_Store_Commit_4_io (i : Int) p (n : Int) d1 = _
      unfold m_store_Store_Commit_4_io
      rw [eb, h1]; rfl
    by_cases c2 : decL d.2.2 = 0
    · rw [if_pos c2] at e2
      exact ⟨some 4, _, _, _, .cons (w1 _ _ e1) (.stop (w2 _ _ _ e2)), h1, hq1, .inl rfl⟩
    rw [if_neg c2] at e2
    have h2 := h1.put (a := ((n + 4 + 2 * i : Nat) : Int)) (b := p.2) (by omega) (by omega) (by omega) hp0.2.2 c2
    rw [Int.toNat_natCast] at h2
    obtain ⟨e, d', f', k', hr, hv, hq', hres⟩ := ih (i + 1) _ _ _ h2 (by
      intro q hq'
      rcases List.mem_append.1 hq' with hq' | hq'
      · exact hq1 q hq'
      · simp at hq'; subst hq'; simp; omega) (fun q hq => hp q (List.mem_cons_of_mem _ hq)) (by omega) (by omega)
    refine ⟨e, d', f', k', .cons (w1 _ _ e1) (.cons (w2 _ _ _ e2) hr), hv, hq', ?_⟩
    rcases hres with he | ⟨he, hlow, hput⟩
    · exact .inl he
    refine .inr ⟨he, ?_, ?_⟩
    · intro x hx
      rw [hlow x (by omega)]
      unfold upd
      rw [if_neg (by omega), if_neg (by omega)]
    · intro j q hj
      cases j with
      | zero =>
        simp at hj; subst hj
        rw [show i + 0 = i from rfl, hlow _ (by omega), hlow _ (by omega)]
        unfold upd
        rw [if_neg (by omega), if_pos rfl, if_pos rfl]
        exact ⟨⟨_, rfl⟩, rfl⟩
      | succ j =>
        simp at hj
        have := hput j q hj
        rw [show i + (j + 1) = i + 1 + j by omega]
        exact this
variable {one two : List Blk} {a b : Nat}
/-- a commit: done, or it died, and is there wholly or not at all -/
theorem commit_dies (h : Dv m d o o 0) (puts : Puts) (hl : puts.length ≤ n) (hp : ∀ p ∈ puts, 0 ≤ p.1 ∧ p.1 < n ∧ p.2.length = 8) (hb : b ≤ 2147483647)
    (s : Set3 m n o (logOf (puts ++ [((n : Int), num4 b ++ num4 b)])) one a two b) :
    ∃ e d', m_store_Store_Commit_io (n : Int) d puts (b : Int) (b : Int) = some (e, (n : Int), d') ∧ d'.1.length ≤ 200 ∧ d'.2.1.length ≤ 800 ∧ (e = none ∧ Falls n d' two b two b ∨ e = some 4 ∧ Falls n d' one a two b) := by
  have hm := s.hm; have hn0 := s.h0; have hn := s.h1
  have hany : puts.any (badAt n) = false := by
    rw [List.any_eq_false]
    intro p hq
    have := hp p hq
    unfold badAt
    simp; omega
  generalize hv : puts ++ [((n : Int), num4 b ++ num4 b)] = v27 at s
  have hvl : v27.length = puts.length + 1 := by rw [← hv]; simp
  have hvp : ∀ p ∈ v27, 0 ≤ p.1 ∧ p.1 ≤ n ∧ p.2.length = 8 := by
    intro p hq
    rw [← hv] at hq
    rcases List.mem_append.1 hq with hq | hq
    · have := hp p hq; omega
    · simp at hq; subst hq; exact ⟨by simp, by simp, rfl⟩
  have hlen : (logOf v27).length = v27.length := by unfold logOf; simp
  have hq0 : ∀ p ∈ d.2.1, (n : Int) + 2 ≤ p.1 := fun p hp => by
    have : d.2.1 = [] := List.eq_nil_of_length_eq_zero (by have := h.few; omega)
    rw [this] at hp; simp at hp
  have e2 : ar .add .i64 (n : Int) (2 : Int) = ((n + 2 : Nat) : Int) := by rw [addI (by omega)]; push_cast; rfl
  -- the steps
  have steps : ∃ e d', RunD m_clo_store_Store_Commit (n : Int) (((.inl ((), ((), v27)) : Clo_store_Store_Commit) :: stepsI 0 v27) ++ ([(.inr (.inr (.inr (.inl ((), ())))) : Clo_store_Store_Commit), (.inr (.inr (.inr (.inr (.inl ((), ()))))) : Clo_store_Store_Commit), (.inr (.inr (.inr (.inr (.inr (.inl ((), ())))))) : Clo_store_Store_Commit), (.inr (.inr (.inr (.inr (.inr (.inr (.inl ((), ()))))))) : Clo_store_Store_Commit), (.inr (.inr (.inr (.inr (.inr (.inr (.inr ((), ()))))))) : Clo_store_Store_Commit)] : (List Clo_store_Store_Commit))) d e d' ∧
      d'.1.length ≤ 200 ∧ d'.2.1.length ≤ 800 ∧ (e = none ∧ Falls n d' two b two b ∨ e = some 4 ∧ Falls n d' one a two b) := by
    have sz : ∀ {d : Disk} {g f : Nat → Blk} {k : Nat}, Dv m d g f k → d.1.length ≤ 200 ∧ d.2.1.length ≤ 800 := fun h => ⟨by have := h.len; have := h.big; omega, by have := h.few; have := h.lim; omega⟩
    have w1 := h.write (a := ((n + 2 : Nat) : Int)) (b := num4 v27.length ++ List.replicate 4 (0 : Int)) (by omega) (by omega) (by omega) (n : Int)
    have c1 : ∀ e d1, m_store_Store_write_io (n : Int) d ((n + 2 : Nat) : Int) (num4 v27.length ++ List.replicate 4 (0 : Int)) = some (e, (n : Int), d1) → m_clo_store_Store_Commit (.inl ((), ((), v27)) : Clo_store_Store_Commit) (n : Int) d = some (e, (n : Int), d1) := by
      intro e d1 h1
      show m_store_Store_Commit_2_io v27 (n : Int) d = _
      unfold m_store_Store_Commit_2_io
      rw [number_is, Option.bind_some, e2, h1]; rfl
    by_cases z1 : d.2.2 = 0
    · rw [if_pos z1] at w1
      exact ⟨some 4, d, .stop (c1 _ _ w1), (sz h).1, (sz h).2, .inr ⟨rfl, falls_log s h (fun _ _ => rfl) hq0⟩⟩
    rw [if_neg z1] at w1
    have h1 := h.put (a := ((n + 2 : Nat) : Int)) (b := num4 v27.length ++ List.replicate 4 (0 : Int)) (by omega) (by omega) (by omega) (num8_len _) z1
    rw [Int.toNat_natCast] at h1
    have hq1 : ∀ q ∈ (d.2.1 ++ [(((n + 2 : Nat) : Int), num4 v27.length ++ List.replicate 4 (0 : Int))]), (n : Int) + 2 ≤ q.1 := by
      intro q hq'
      rcases List.mem_append.1 hq' with hq' | hq'
      · exact hq0 q hq'
      · simp at hq'; subst hq'; simp
    obtain ⟨e, d2, f2, k2, r2, h2, hq2, res2⟩ := run_logD hm hn v27 0 _ _ _ h1 hq1 hvp (by omega) (by omega)
    rcases res2 with rfl | ⟨rfl, low2, put2⟩
    · exact ⟨some 4, d2, (RunD.cons (c1 _ _ w1) r2).dead, (sz h2).1, (sz h2).2, .inr ⟨rfl, falls_log s h2 (fun _ _ => rfl) hq2⟩⟩
    have base := RunD.cons (c1 _ _ w1) r2
    -- the log is safe
    have w3 := h2.flush (n : Int)
    by_cases z3 : d2.2.2 = 0
    · rw [if_pos z3] at w3
      exact ⟨some 4, d2, base.append (.stop w3), (sz h2).1, (sz h2).2, .inr ⟨rfl, falls_log s h2 (fun _ _ => rfl) hq2⟩⟩
    rw [if_neg z3] at w3
    have h3 := h2.flushed z3
    have old3 : ∀ x, x ≤ n + 1 → f2 x = o x := fun x hx => by
      rw [low2 x (by omega)]; unfold upd; rw [if_neg (by omega)]
    have laid3 : Laid n f2 (logOf v27) := by
      constructor
      · refine ⟨List.replicate 4 (0 : Int), ?_⟩
        rw [low2 _ (by omega)]
        unfold upd
        rw [if_pos rfl, hlen]
      · intro i p hi
        unfold logOf at hi
        rw [List.getElem?_map] at hi
        cases hq : v27[i]? with
        | none => rw [hq] at hi; cases hi
        | some q =>
          rw [hq] at hi
          obtain rfl := Option.some.inj hi
          have := put2 i q hq
          rw [Nat.zero_add] at this
          exact this
    -- the mark
    have c4 : ∀ d0 e d1, m_store_Store_mark_io (n : Int) d0 (1 : Int) = some (e, (n : Int), d1) → m_clo_store_Store_Commit (.inr (.inr (.inr (.inr (.inl ((), ()))))) : Clo_store_Store_Commit) (n : Int) d0 = some (e, (n : Int), d1) := by
      intro d0 e d1 h1
      show m_store_Store_Commit_5_io (n : Int) d0 = _
      unfold m_store_Store_Commit_5_io
      rw [h1]; rfl
    have c7 : ∀ d0 e d1, m_store_Store_mark_io (n : Int) d0 (0 : Int) = some (e, (n : Int), d1) → m_clo_store_Store_Commit (.inr (.inr (.inr (.inr (.inr (.inr (.inr ((), ()))))))) : Clo_store_Store_Commit) (n : Int) d0 = some (e, (n : Int), d1) := by
      intro d0 e d1 h1
      show m_store_Store_Commit_6_io (n : Int) d0 = _
      unfold m_store_Store_Commit_6_io
      rw [h1]; rfl
    rcases h3.mark (n := n) (by omega) 1 with w4 | ⟨d4, w4, hd4, h4⟩ | ⟨d4, w4, hd4, h4⟩
    · exact ⟨some 4, _, base.append (.cons w3 (.stop (c4 _ _ _ w4))), (sz h3).1, (sz h3).2, .inr ⟨rfl, falls_log s h3 old3 (fun p hp => by simp at hp)⟩⟩
    · exact ⟨some 4, d4, base.append (.cons w3 (.stop (c4 _ _ _ w4))), (sz h4).1, (sz h4).2, .inr ⟨rfl, falls_mark s h4 old3 laid3 hd4⟩⟩
    have laid4 : Laid n (upd f2 (n + 1) (mk8 1)) (logOf v27) := by
      refine ⟨by unfold upd; rw [if_neg (by omega)]; exact laid3.cnt, fun i p hi => ?_⟩
      unfold upd
      rw [if_neg (by omega), if_neg (by omega)]
      exact laid3.put i p hi
    have mk4 : upd f2 (n + 1) (mk8 1) (n + 1) = mk8 1 := by unfold upd; rw [if_pos rfl]
    have old4 : ∀ x, x ≤ n → upd f2 (n + 1) (mk8 1) x = o x := fun x hx => by unfold upd; rw [if_neg (by omega), old3 x (by omega)]
    have hlp8 : ∀ p ∈ logOf v27, p.1 ≤ n ∧ p.2.length = 8 := s.hp
    -- the log is done
    obtain ⟨e, d5, k5, w5, h5, hq5, res5⟩ := h4.apply laid4 hm (by rw [hlen]; omega) hlp8
    rcases res5 with rfl | ⟨rfl, rfl⟩
    · exact ⟨some 4, d5, base.append (.cons w3 (.cons (c4 _ _ _ w4) (.stop w5))), (sz h5).1, (sz h5).2, .inr ⟨rfl, falls_done s h5 (fun x hx => .inl (old4 x hx)) laid4 mk4 hq5⟩⟩
    rw [List.take_length] at h5
    have w6 := h5.flush (n : Int)
    by_cases z6 : d5.2.2 = 0
    · rw [if_pos z6] at w6
      exact ⟨some 4, d5, base.append (.cons w3 (.cons (c4 _ _ _ w4) (.cons w5 (.stop w6)))), (sz h5).1, (sz h5).2, .inr ⟨rfl, falls_done s h5 (fun x hx => .inl (old4 x hx)) laid4 mk4 hq5⟩⟩
    rw [if_neg z6] at w6
    have h6 := h5.flushed z6
    have hple : ∀ p ∈ logOf v27, p.1 ≤ n := fun p hp => (hlp8 p hp).1
    have done6 : ∀ x, x ≤ n → appl (upd f2 (n + 1) (mk8 1)) (logOf v27) x = appl o (logOf v27) x := fun x hx => appl_eq (.inl (old4 x hx))
    have mk6 : appl (upd f2 (n + 1) (mk8 1)) (logOf v27) (n + 1) = mk8 1 := by rw [appl_out _ _ hple (by omega), mk4]
    have laid6 : Laid n (appl (upd f2 (n + 1) (mk8 1)) (logOf v27)) (logOf v27) := by
      refine ⟨by rw [appl_out _ _ hple (by omega)]; exact laid4.cnt, fun i p hi => ?_⟩
      rw [appl_out _ _ hple (by omega), appl_out _ _ hple (by omega)]
      exact laid4.put i p hi
    have in6 : ∀ x, x ≤ n → appl (upd f2 (n + 1) (mk8 1)) (logOf v27) x = o x ∨ ∃ p ∈ logOf v27, p.1 = x := by
      intro x hx
      by_cases hx2 : ∃ p ∈ logOf v27, p.1 = x
      · exact .inr hx2
      · refine .inl ?_
        rw [done6 x hx]
        have : ∀ (l : Log) (f : Nat → Blk), (¬ ∃ p ∈ l, p.1 = x) → appl f l x = f x := by
          intro l
          induction l with
          | nil => intro f _; rfl
          | cons p l ih =>
            intro f hf
            show appl (upd f p.1 p.2) l x = f x
            rw [ih _ (fun ⟨q, hq, hx⟩ => hf ⟨q, List.mem_cons_of_mem _ hq, hx⟩)]
            unfold upd
            rw [if_neg (fun h => hf ⟨p, List.mem_cons_self, h.symm⟩)]
        exact this _ o hx2
    rcases h6.mark (n := n) (by omega) 0 with w7 | ⟨d7, w7, hd7, h7⟩ | ⟨d7, w7, hd7, h7⟩
    · exact ⟨some 4, _, base.append (.cons w3 (.cons (c4 _ _ _ w4) (.cons w5 (.cons w6 (.stop (c7 _ _ _ w7)))))), (sz h6).1, (sz h6).2, .inr ⟨rfl, falls_done s h6 in6 laid6 mk6 (fun p hp => by simp at hp)⟩⟩
    · exact ⟨some 4, d7, base.append (.cons w3 (.cons (c4 _ _ _ w4) (.cons w5 (.cons w6 (.stop (c7 _ _ _ w7)))))), (sz h7).1, (sz h7).2, .inr ⟨rfl, falls_end s h7 done6 laid6 mk6 hd7⟩⟩
    refine ⟨none, d7, base.append (.cons w3 (.cons (c4 _ _ _ w4) (.cons w5 (.cons w6 (.cons (c7 _ _ _ w7) .nil))))), (sz h7).1, (sz h7).2, .inl ⟨rfl, ?_⟩⟩
    intro bytes hby
    obtain ⟨c, g', e, hleft, _, _, v, hs⟩ := h7.crash hby
    have hs' : ∀ x, x < m → g' x = upd (appl (upd f2 (n + 1) (mk8 1)) (logOf v27)) (n + 1) (mk8 0) x := fun x hx => hs x hx (fun p hp => by rw [hd7] at hp; simp at hp)
    refine ⟨c, e, .inl (opens_plain v hleft hm s.h0 s.h1 (s.t2.of (fun x hx => ?_)) ?_)⟩
    · rw [hs' x (by omega)]; unfold upd; rw [if_neg (by omega)]; exact done6 x hx
    · rw [hs' _ (by omega)]; unfold upd; rw [if_pos rfl]
  obtain ⟨e, d7, hrun, z1, z2, z3⟩ := steps
  refine ⟨e, d7, ?_, z1, z2, z3⟩
  unfold m_store_Store_Commit_io
  rw [cg, cl, cg]
  rw [decide_eq_false (show ¬ ((puts.length : Int) > n) by omega), cond_false]
  rw [decide_eq_false (show ¬ (min (b : Int) (b : Int) < 0) by omega), cond_false]
  rw [decide_eq_false (show ¬ (max (b : Int) (b : Int) > 2147483647) by omega), cond_false]
  rw [anyCommit_is puts d (by omega), hany, Option.bind_some, Option.bind_some, cond_false, number_is, Option.bind_some, Option.bind_some]
  have hc : m_slices_Clone_api_Put_api_Put puts = some puts := by unfold m_slices_Clone_api_Put_api_Put; rw [app_small _ _ (by simp; omega)]; rfl
  have h23 : Sw.subN (num4 b ++ List.replicate 4 (0 : Int)) (0 : Int) (4 : Int) (4 : Int) = some (num4 b) := by unfold Sw.subN Sw.sub num4; simp
  have h24 : Sw.sub (num4 b ++ List.replicate 4 (0 : Int)) (0 : Int) (4 : Int) = some (num4 b) := by unfold Sw.sub num4; simp
  have h25 : Sw.app (num4 b) (num4 b) = some (num4 b ++ num4 b) := app_small _ _ (by rw [num4_len]; decide)
  have h26 : Sw.arrOf 8 (num4 b ++ num4 b) = some (num4 b ++ num4 b) := by unfold Sw.arrOf num4; simp
  have h27 : Sw.app puts [((n : Int), num4 b ++ num4 b)] = some v27 := by rw [app_small _ _ (by simp; omega), hv]
  simp only [hc, h23, h24, h25, h26, h27, Option.bind_some]
  obtain ⟨acc, e, rfl⟩ := lp_go2 (step := fun (s36 : Int × (List Clo_store_Store_Commit)) =>
                          bif (cm .lss s36.1 (v27.length : Int)) then
                            (Sw.idx v27 s36.1).bind fun z43 =>
                              (Sw.app s36.2 ([(.inr (.inl ((), ((), (s36.1, z43)))) : Clo_store_Store_Commit), (.inr (.inr (.inl ((), ((), (s36.1, z43))))) : Clo_store_Store_Commit)] : (List Clo_store_Store_Commit))).bind fun v44 =>
                                some (Step.next ((ar .add .i64 s36.1 (1 : Int)), v44))
                          else
                            some (Step.done (Ex.brk (β := Res3) s36.2))) (k := fun (x41 : (List Clo_store_Store_Commit)) =>
                        (Sw.app x41 ([(.inr (.inr (.inr (.inl ((), ())))) : Clo_store_Store_Commit), (.inr (.inr (.inr (.inr (.inl ((), ()))))) : Clo_store_Store_Commit), (.inr (.inr (.inr (.inr (.inr (.inl ((), ())))))) : Clo_store_Store_Commit), (.inr (.inr (.inr (.inr (.inr (.inr (.inl ((), ()))))))) : Clo_store_Store_Commit), (.inr (.inr (.inr (.inr (.inr (.inr (.inr ((), ()))))))) : Clo_store_Store_Commit)] : (List Clo_store_Store_Commit))).bind fun v45 =>
                          (m_store_all_store_Store_Commit_io v45 (n : Int) d).bind fun v46 =>
                            some (v46.1, v46.2.1, v46.2.2)) (l := v27) (fun i acc => ((i : Int), acc)) (fun pre acc => acc = (.inl ((), ((), v27)) : Clo_store_Store_Commit) :: stepsI 0 pre) (fun acc => acc) [(.inl ((), ((), v27)) : Clo_store_Store_Commit)] (lenF (n := 1000) (by omega) (by decide)) rfl (by
        rintro pre x rest acc hpre rfl
        have hlt : pre.length ≤ 1000 := by rw [hpre] at hvl; simp at hvl; omega
        refine ⟨_, ?_, rfl⟩
        simp only [lss_len hpre, cond_true, idx_len hpre, Option.bind_some]
        rw [app_small _ _ (by simp [stepsI_len]; omega), Option.bind_some, nxt (by omega), stepsI_snoc]
        rw [Nat.zero_add]
        rfl) (by
        rintro acc rfl
        simp only [lss_self, cond_false])
  refine e.trans ?_
  rw [app_small _ _ (by simp [stepsI_len]; omega), Option.bind_some]
  unfold m_store_all_store_Store_Commit_io
  rw [all_runD hrun (by simp [stepsI_len]; omega)]
  rfl
end Go.Pl

namespace Go.Pl
open Go Go.Sw Go.Mo
variable {m k n : Nat} {d : Disk} {g f o : Nat → Blk}
theorem putsFrom8 {raw : List Int} (hw : Raws raw) (a n : Nat) (ha : a ≤ 10000) (hn : n ≤ 1000) : ∃ ps, m_ref_PutsFrom raw (a : Int) (n : Int) = some ps ∧ ps.length ≤ n ∧ ∀ p ∈ ps, 0 ≤ p.1 ∧ p.1 < (n : Int) ∧ p.2.length = 8 := by
  unfold m_ref_PutsFrom
  obtain ⟨ps, h5, h6⟩ := lp_ex (γ := Puts) (step := fun (s13 : Int × (List (Int × Blk))) =>
    bif (cm .lss s13.1 (n : Int)) then
      (m_ref_Raw raw (ar .add .i64 (a : Int) s13.1)).bind fun v22 =>
        bif (cm .eql (ar .rem .i64 v22 (3 : Int)) (0 : Int)) then
          (m_ref_BlockFrom raw (ar .add .i64 (ar .add .i64 (a : Int) (ar .mul .i64 (5 : Int) s13.1)) (1 : Int))).bind fun v24 =>
            (Sw.app s13.2 ([(s13.1, v24)] : (List (Int × Blk)))).bind fun v25 =>
              some (.next ((ar .add .i64 s13.1 (1 : Int)), v25))
        else
          some (.next ((ar .add .i64 s13.1 (1 : Int)), s13.2))
    else
      some (.done (.brk s13.2))) (k := fun x20 => some x20) (fun (i : Nat) (b : Puts) => ((i : Int), b)) id n (fun i b => b.length ≤ i ∧ ∀ p ∈ b, 0 ≤ p.1 ∧ p.1 < (n : Int) ∧ p.2.length = 8) [] (by unfold FUEL; omega) ⟨Nat.le_refl _, fun p hp => by simp at hp⟩
    (fun i ps hi hb => by
      have hlt : (i : Int) < (n : Int) := by omega
      have hadd : ar .add .i64 (a : Int) (i : Int) = ((a + i : Nat) : Int) := add64 (by omega)
      obtain ⟨v, hv, _⟩ := raw_is hw (a + i) (by omega)
      simp only [cl, hlt, decide_true, cond_true, hadd, hv, Option.bind_some, ce]
      by_cases h3 : ar .rem .i64 (v : Int) 3 = 0
      · have hmul : ar .mul .i64 (5 : Int) (i : Int) = ((5 * i : Nat) : Int) := mul64 (a := 5) (by omega)
        have hadd2 : ar .add .i64 (a : Int) ((5 * i : Nat) : Int) = ((a + 5 * i : Nat) : Int) := add64 (by omega)
        have hadd3 : ar .add .i64 ((a + 5 * i : Nat) : Int) 1 = ((a + 5 * i + 1 : Nat) : Int) := nxt (by omega)
        obtain ⟨b, hb1, hb2⟩ := blockFrom_ok hw (a + 5 * i + 1) (by omega)
        refine ⟨ps ++ [((i : Int), b)], ?_, by simp; omega, fun p hp => ?_⟩
        · simp only [h3, decide_true, cond_true, hmul, hadd2, hadd3, hb1, Option.bind_some]
          rw [app_small _ _ (by simp; omega), Option.bind_some, nxt (by omega)]
        · rcases List.mem_append.1 hp with hp | hp
          · exact hb.2 p hp
          · simp at hp; subst hp; exact ⟨by simp, hlt, hb2.1⟩
      · refine ⟨ps, ?_, by omega, hb.2⟩
        simp only [h3, decide_false, cond_false]
        rw [nxt (by omega)])
    (fun b hb => by
      have hlt : ¬ (n : Int) < (n : Int) := by omega
      simp only [cl, hlt, decide_false, cond_false]; rfl)
  exact ⟨ps, h6, h5.1, h5.2⟩
theorem sameBlocks_tot (l l' : List Blk) (h : l.length = l'.length) (hl : l.length ≤ 1000000) : ∃ r, m_ref_SameBlocks l l' = some r := by
  unfold m_ref_SameBlocks
  rw [cn, h, decide_eq_false (fun h => h rfl), cond_false, show (0 : Int) = (fun (i : Nat) => (i : Int)) 0 from rfl]
  have hzl : (l.zip l').length = l'.length := by simp [h]
  rw [lp_any (l := l.zip l') (fun (i : Nat) => (i : Int)) (fun x => !decide (x.1 = x.2)) false () (lenF (n := 1000000) (by omega) (by decide))]
  · generalize (l.zip l').any (fun x => !decide (x.1 = x.2)) = b
    cases b
    · exact ⟨true, rfl⟩
    · exact ⟨false, rfl⟩
  · intro pre x rest hx
    have hlt : pre.length < l'.length := by rw [← hzl, hx]; simp
    have hz : (l.zip l')[pre.length]? = some x := by rw [hx]; simp
    have hz2 := List.getElem?_zip_eq_some.1 hz
    rw [cl, decide_eq_true (show (pre.length : Int) < (l'.length : Int) by omega), cond_true, idx_get hz2.1, Option.bind_some, idx_get hz2.2, Option.bind_some, nxt (by omega)]
    cases decide (x.1 = x.2) <;> rfl
  · simp only [hzl]
    rw [cl, decide_eq_false (show ¬ (l'.length : Int) < (l'.length : Int) by omega), cond_false]
theorem as_self {blocks : List Blk} {a : Nat} (h : Seen d blocks a a) (ha : a ≤ 2147483647) : m_top_as ((blocks.length : Int), d) blocks (a : Int) = some true := by
  have hbig : 3 * blocks.length + 5 ≤ 200 := by obtain ⟨f, v, _⟩ := h; exact v.big.2
  unfold m_top_as
  rw [all_is h, numbers_is h ha ha]
  simp only [Option.bind_some, Option.isNone_none, cond_true, sameBlocks_self blocks (by omega)]
  rw [ce, decide_eq_true rfl]; rfl
theorem as_other {blocks other : List Blk} {a b : Nat} (h : Seen d blocks a a) (ha : a ≤ 2147483647) (hne : a ≠ b) (hl : other.length = blocks.length) : m_top_as ((blocks.length : Int), d) other (b : Int) = some false := by
  have hbig : 3 * blocks.length + 5 ≤ 200 := by obtain ⟨f, v, _⟩ := h; exact v.big.2
  unfold m_top_as
  obtain ⟨r, hr⟩ := sameBlocks_tot blocks other hl.symm (by omega)
  rw [all_is h, numbers_is h ha ha]
  simp only [Option.bind_some, Option.isNone_none, cond_true, hr]
  rw [ce, decide_eq_false (show ¬ (a : Int) = (b : Int) by omega)]
  cases r <;> rfl
/-- a disk whose log is not marked, opened with so many steps left -/
theorem open_left {c : Disk} (h : Dv m c o o 0) (hm : m = 3 * n + 5) (h0 : 1 ≤ n) (h1 : n ≤ 32) (hk : o (n + 1) = mk8 0) : m_store_Open c (n : Int) = some (if c.2.2 = 0 then (none, some 4) else (some ((n : Int), c), none)) := by
  have hd : c.2.1 = [] := List.eq_nil_of_length_eq_zero (by have := h.few; omega)
  have hl := h.len
  unfold m_store_Open
  rw [need_ok h0 h1, Option.bind_some]
  simp only [Option.isSome_none, cond_false]
  rw [checkDisk_is, Option.bind_some, if_pos h.err, cn, cg, hl, hd, hm, decide_eq_false (fun h => h rfl)]
  simp only [Option.isSome_none, cond_false, List.length_nil]
  rw [show decide (((0 : Nat) : Int) > 0) = false from rfl, Option.bind_some, cond_false]
  have hc : m_slices_Clone_api_Block_api_Block c.1 = some c.1 := by unfold m_slices_Clone_api_Block_api_Block; rw [app_small _ _ (by simp; omega)]; rfl
  rw [hc, Option.bind_some]
  have hd2 : (c.1, ([] : List (Int × Blk)), c.2.2) = c := by rw [← hd]
  rw [hd2]
  have hr : m_store_Store_replay_io (n : Int) c = some (if c.2.2 = 0 then (some 4, (n : Int), c) else (none, (n : Int), c)) := by
    unfold m_store_Store_replay_io
    rw [nxt (by omega), h.read (by omega) (by omega), Int.toNat_natCast, hk]
    by_cases z : c.2.2 = 0
    · rw [if_pos z, if_pos z]; rfl
    · rw [if_neg z, if_neg z]; rfl
  rw [hr]
  by_cases z : c.2.2 = 0
  · rw [if_pos z, if_pos z]; rfl
  · rw [if_neg z, if_neg z]; rfl
abbrev ASt := Int × Int × (List Blk) × (List (Int × Blk)) × Int × (List Blk)
/-- the rest of a round, with a store that lives -/
def rnd (a0 : List Int) (nn v6 : Int) (s : ASt) (z : Int × Disk) : Option (Step ASt (Ex Unit Bool)) :=
  (m_ref_PutsFrom a0 (ar .add .i64 v6 s.2.1) nn).bind fun v727 =>
    (m_ref_OwnBlocks s.2.2.2.2.2).bind fun v728 =>
      lp (β := (List Blk)) (fun (s739 : Int × (List Blk)) =>
        bif (cm .lss s739.1 (v727.length : Int)) then
          (Sw.idx v727 s739.1).bind fun z747 =>
            (Sw.idx v727 s739.1).bind fun z748 =>
              (Sw.idx s739.2 z747.1).bind fun _ =>
                some (.next ((ar .add .i64 s739.1 (1 : Int)), (List.set s739.2 (Int.toNat z747.1) z748.2)))
        else
          some (.done (.brk s739.2))
        ) ((0 : Int), v728) fun (x745 : (List Blk)) =>
      (m_store_Store_Commit_io z.1 z.2 v727 (ar .add .i64 s.2.1 (1 : Int)) (ar .add .i64 s.2.1 (1 : Int))).bind fun v750 =>
        (bif (Option.isSome v750.1) then
          some (!(v750.1 == (some (4 : Int))))
        else
          some false).bind fun x752 =>
          bif x752 then
            some (.done (.ret false))
          else
            (m_store_Store_Disk v750.2).bind fun v755 =>
              (m_ref_Pick (ar .add .i64 v6 s.2.1) (ar .add .i64 (a0.length : Int) (1 : Int))).bind fun v756 =>
                (Sw.sub a0 v756 (a0.length : Int)).bind fun v757 =>
                  (m_disk_Crash v755 v757).bind fun v759 =>
                    bif (Option.isSome v759.2) then
                      some (.done (.ret false))
                    else
                      (m_store_Open v759.1 nn).bind fun v761 =>
                        ocase v761.1 (
                          (bif (Option.isSome v761.2) then
                            some ()
                          else
                            some ()).bind fun _ =>
                            some (.done (.ret false))
                          ) fun z762 =>
                          (bif (Option.isSome v761.2) then
                            some true
                          else
                            some false).bind fun x768 =>
                            bif x768 then
                              some (.done (.ret false))
                            else
                              (m_top_as z762 x745 (ar .add .i64 s.2.1 (1 : Int))).bind fun v771 =>
                                jp (fun (x780 : Int × (List Blk)) =>
                                  (m_store_Store_Disk z762).bind fun v787 =>
                                    some (.next (x780.1, (ar .add .i64 s.2.1 (1 : Int)), v787.1, v787.2.1, v787.2.2, x780.2))
                                  ) fun k779 =>
                                bif v771 then
                                  k779 ((ar .add .i64 s.2.1 (1 : Int)), x745)
                                else
                                  (bif (Option.isNone v750.1) then
                                    some true
                                  else
                                    (m_top_as z762 s.2.2.2.2.2 s.1).bind fun v785 =>
                                      some (!v785)).bind fun x783 =>
                                    bif x783 then
                                      some (.done (.ret false))
                                    else
                                      k779 (s.1, s.2.2.2.2.2)
/-- what holds at the head of a round -/
structure AtI (n : Nat) (num : Nat) (d : Disk) (blocks : List Blk) : Prop where
  len : blocks.length = n
  seen : Seen d blocks num num
  a8 : All8 d.1
theorem Seen.dv {d : Disk} {blocks : List Blk} {a b : Nat} (h : Seen d blocks a b) (a8 : All8 d.1) (hab : a = b) : ∃ o, Dv (3 * blocks.length + 5) d o o 0 ∧ Told blocks.length o blocks a ∧ o (blocks.length + 1) = mk8 0 := by
  obtain ⟨f, v, h1, h2, h3⟩ := h
  have hd := v.none
  refine ⟨f, ⟨v.len, v.big, by rw [v.left]; decide, v.few, v.lim, v.rng, fun a ha => ?_, fun a ha => ?_, a8, fun p hp => ?_⟩, ⟨rfl, h1, by rw [h2, hab]⟩, h3⟩
  · have := v.is a ha
    rw [hd] at this
    exact this
  · rw [hd]; rfl
  · rw [hd] at hp; simp at hp
theorem disk_clone {n : Int} {d : Disk} (h1 : d.1.length ≤ 200) (h2 : d.2.1.length ≤ 800) : m_store_Store_Disk (n, d) = some d := by
  unfold m_store_Store_Disk m_slices_Clone_api_Block_api_Block m_slices_Clone_api_Put_api_Put
  rw [app_small _ _ (by simp; omega), app_small _ _ (by simp; omega)]
  rfl
end Go.Pl

namespace Go.Pl
open Go Go.Sw Go.Mo
variable {n : Nat}
theorem put_loop2 {γ : Type} (l : Puts) (hl : l.length ≤ 1000) (blocks : List Blk) (hp : ∀ p ∈ l, 0 ≤ p.1 ∧ p.1 < (blocks.length : Int)) (K : List Blk → Option γ) :
    lp (β := (List Blk)) (fun (s2133 : Int × (List Blk)) =>
                                                                bif (cm .lss s2133.1 (l.length : Int)) then
                                                                  (Sw.idx l s2133.1).bind fun z2141 =>
                                                                    (Sw.idx l s2133.1).bind fun z2142 =>
                                                                      (Sw.idx s2133.2 z2141.1).bind fun _ =>
                                                                        some (.next ((ar .add .i64 s2133.1 (1 : Int)), (List.set s2133.2 (Int.toNat z2141.1) z2142.2)))
                                                                else
                                                                  some (.done (.brk s2133.2))
                                                                ) ((0 : Int), blocks) K = K (putAll blocks l) := by
  refine (lp_inv (l := l) (fun i (acc : List Blk) => ((i : Int), acc)) (fun _ acc => acc.length = blocks.length) blocks (fun _ p acc => acc.set p.1.toNat p.2) id (lenF hl (by decide)) rfl ?_ ?_).trans ?_
  · intro pre p rest acc hpre hI
    have hpl : pre.length ≤ 1000 := by rw [hpre] at hl; simp at hl; omega
    have hq := hp p (by rw [hpre]; simp)
    obtain ⟨z, hz, _⟩ := idx_nat (l := acc) (n := p.1) hq.1 (by rw [hI]; exact hq.2)
    refine ⟨?_, by simpa using hI⟩
    simp only [lss_len hpre, cond_true, idx_len hpre, Option.bind_some, hz]
    rw [nxt (by omega)]
  · intro acc _
    simp only [lss_self, cond_false]
    rfl
  · show K _ = K _
    congr 1
    unfold putAll
    have h : ∀ (l : Puts) (i : Nat) (s : List Blk), (l.zipIdx i).foldl (fun acc x => acc.set x.1.1.toNat x.1.2) s = l.foldl (fun acc p => acc.set p.1.toNat p.2) s := by
      intro l
      induction l with
      | nil => intro i s; rfl
      | cons p l ih => intro i s; rw [List.zipIdx_cons, List.foldl_cons, List.foldl_cons, ih]
    exact h _ _ _
theorem told_put {o : Nat → Blk} {blocks : List Blk} {a b : Nat} (h : Told n o blocks a) (puts : Puts) (hp : ∀ p ∈ puts, 0 ≤ p.1 ∧ p.1 < (n : Int)) :
    Told n (appl o (logOf (puts ++ [((n : Int), num4 b ++ num4 b)]))) (putAll blocks puts) b := by
  refine ⟨by rw [putAll_len]; exact h.len, ?_, ?_⟩
  · intro i z hi
    have hil : i < blocks.length := by have := (List.getElem?_eq_some_iff.1 hi).1; rwa [putAll_len] at this
    have hln := h.len
    unfold logOf
    rw [List.map_append, List.map_cons, List.map_nil, appl_snoc]
    unfold upd
    rw [if_neg (by simp; omega)]
    exact putAll_get puts blocks o (by rw [hln]; exact hp) h.blk i z hi
  · unfold logOf
    rw [List.map_append, List.map_cons, List.map_nil, appl_snoc]
    unfold upd
    rw [if_pos (by simp)]
theorem logOf_ok {puts : Puts} {b : Nat} (hl : puts.length ≤ n) (hp : ∀ p ∈ puts, 0 ≤ p.1 ∧ p.1 < (n : Int) ∧ p.2.length = 8) :
    (logOf (puts ++ [((n : Int), num4 b ++ num4 b)])).length ≤ n + 1 ∧ ∀ p ∈ logOf (puts ++ [((n : Int), num4 b ++ num4 b)]), p.1 ≤ n ∧ p.2.length = 8 := by
  refine ⟨by unfold logOf; simp; omega, ?_⟩
  intro p hq
  unfold logOf at hq
  obtain ⟨q, hq1, rfl⟩ := List.mem_map.1 hq
  rcases List.mem_append.1 hq1 with h | h
  · have := hp q h; exact ⟨by simp; omega, this.2.2⟩
  · simp at h; subst h; exact ⟨by simp, rfl⟩
theorem rnd_ok {a0 : List Int} (hw : Raws a0) {a i num : Nat} {d z : Disk} {blocks : List Blk} {o : Nat → Blk} (ha : a < 100) (hi : i ≤ 30) (hnum : num ≤ i) (h0 : 1 ≤ n) (h1 : n ≤ 32)
    (hz : Dv (3 * n + 5) z o o 0) (ht : Told n o blocks num) (hk : o (n + 1) = mk8 0) :
    ∃ (num' : Nat) (d' : Disk) (blocks' : List Blk), rnd a0 (n : Int) (a : Int) ((num : Int), (i : Int), d.1, d.2.1, d.2.2, blocks) ((n : Int), z) = some (.next ((num' : Int), ((i + 1 : Nat) : Int), d'.1, d'.2.1, d'.2.2, blocks')) ∧ num' ≤ i + 1 ∧ AtI n num' d' blocks' := by
  have hlen := ht.len
  obtain ⟨puts, hp1, hp2, hp3⟩ := putsFrom8 hw (a + i) n (by omega) (by omega)
  have hadd : ar .add .i64 (a : Int) (i : Int) = ((a + i : Nat) : Int) := add64 (by omega)
  have hplace : ∀ p ∈ puts, 0 ≤ p.1 ∧ p.1 < (n : Int) := fun p hp => ⟨(hp3 p hp).1, (hp3 p hp).2.1⟩
  obtain ⟨l1, l2⟩ := logOf_ok (b := i + 1) hp2 hp3
  have t2 := told_put (b := i + 1) ht puts hplace
  obtain ⟨e, dd, hc, hs1, hs2, hres⟩ := commit_dies hz puts hp2 (fun p hp => ⟨(hp3 p hp).1, (hp3 p hp).2.1, (hp3 p hp).2.2⟩) (by omega) (one := blocks) (a := num) (two := putAll blocks puts) (b := i + 1) ⟨rfl, h0, h1, l1, l2, ht, t2, hk⟩
  have hown : m_ref_OwnBlocks blocks = some blocks := by unfold m_ref_OwnBlocks; rw [app_small _ _ (by simp; omega)]; rfl
  have hlw := hw.2
  have hpk := pick_is (c := ((a + i : Nat) : Int)) (n := (a0.length : Int) + 1) (by unfold I64; omega) (by omega)
  have hpl := pick_lt (c := ((a + i : Nat) : Int)) (n := (a0.length : Int) + 1) (by omega)
  have hsub : ∃ bytes, Sw.sub a0 (pick ((a + i : Nat) : Int) ((a0.length : Int) + 1)) (a0.length : Int) = some bytes ∧ ∀ x ∈ bytes, I64 x := by
    unfold Sw.sub
    rw [if_pos ⟨hpl.1, by omega, Int.le_refl _⟩]
    exact ⟨_, rfl, fun x hx => hw.1 x (List.mem_of_mem_take (List.mem_of_mem_drop hx))⟩
  obtain ⟨bytes, hb1, hb2⟩ := hsub
  have e1 : ar .add .i64 (i : Int) (1 : Int) = ((i + 1 : Nat) : Int) := nxt (by omega)
  have e2 : ar .add .i64 (a0.length : Int) (1 : Int) = (a0.length : Int) + 1 := addI (by omega)
  unfold rnd
  simp only [hadd, hp1, hown, Option.bind_some]
  rw [put_loop2 puts (by omega) blocks (by rw [hlen]; exact hplace)]
  simp only [e1, hc, Option.bind_some]
  have hnot : (bif (Option.isSome e) then some (!(e == (some (4 : Int)))) else some false) = some false := by
    rcases hres with ⟨rfl, _⟩ | ⟨rfl, _⟩ <;> rfl
  have hdisk : m_store_Store_Disk ((n : Int), dd) = some dd := disk_clone hs1 hs2
  simp only [hnot, Option.bind_some, cond_false, hdisk, e2, hpk, hb1]
  have hopen : ∃ c, m_disk_Crash dd bytes = some (c, none) ∧ (Opens n c (putAll blocks puts) (i + 1) ∨ e = some 4 ∧ Opens n c blocks num) := by
    rcases hres with ⟨rfl, hf⟩ | ⟨rfl, hf⟩
    · obtain ⟨c, h1, h2⟩ := hf bytes hb2
      exact ⟨c, h1, .inl (h2.elim id id)⟩
    · obtain ⟨c, h1, h2⟩ := hf bytes hb2
      exact ⟨c, h1, h2.elim (fun h => .inr ⟨rfl, h⟩) .inl⟩
  obtain ⟨c, hcr, ho⟩ := hopen
  simp only [hcr, Option.bind_some, Option.isSome_none, cond_false]
  have small : ∀ {d : Disk} {bs : List Blk} {x : Nat}, Seen d bs x x → m_store_Store_Disk ((n : Int), d) = some d := by
    intro d bs x h
    obtain ⟨f, v, _⟩ := h
    exact disk_clone (by have := v.len; have := v.big; omega) (by have := v.few; omega)
  rcases ho with ⟨hl2, d2, hop, hseen, h8⟩ | ⟨rfl, hl2, d2, hop, hseen, h8⟩
  · have has := as_self hseen (by omega)
    rw [hl2] at has
    refine ⟨i + 1, d2, putAll blocks puts, ?_, Nat.le_refl _, hl2, hseen, h8⟩
    simp only [hop, Option.bind_some, ocase, Option.isSome_none, cond_false, has, jp, cond_true, small hseen]
  · have has := as_other (b := i + 1) (other := putAll blocks puts) hseen (by omega) (by omega) (putAll_len _ _)
    have has2 := as_self hseen (by omega)
    rw [hl2] at has has2
    refine ⟨num, d2, blocks, ?_, by omega, hl2, hseen, h8⟩
    simp only [hop, Option.bind_some, ocase, Option.isSome_none, cond_false, has, has2, jp, Option.isNone_some, small hseen, Bool.not_true]
theorem seen_left {d : Disk} {blocks : List Blk} {num : Nat} (h : AtI n num d blocks) {v : Int} (hv : 0 ≤ v ∧ v < 120) : ∃ o, Dv (3 * n + 5) (d.1, d.2.1, v) o o 0 ∧ Told n o blocks num ∧ o (n + 1) = mk8 0 := by
  obtain ⟨o, h1, h2, h3⟩ := h.seen.dv h.a8 rfl
  rw [h.len] at h1 h2 h3
  exact ⟨o, ⟨h1.len, h1.big, ⟨by show -1 ≤ v; omega, by show v ≤ 1000; omega⟩, h1.few, h1.lim, h1.rng, h1.safe, h1.is, h1.a8, h1.p8⟩, h2, h3⟩
theorem lp_exr {α β γ : Type} {step : α → Option (Step α (Ex β γ))} {k : β → Option γ} {r : Option γ} {B : Type} (st : Nat → B → α) (fin : B → β) (n : Nat) (I : Nat → B → Prop) (b0 : B) (hf : n < FUEL) (h0 : I 0 b0)
    (hs : ∀ i b, i < n → I i b → ∃ b', step (st i b) = some (.next (st (i + 1) b')) ∧ I (i + 1) b') (he : ∀ b, I n b → step (st n b) = some (.done (.brk (fin b)))) (hk : ∀ b, I n b → k (fin b) = r) : lp step (st 0 b0) k = r := by
  obtain ⟨b, h1, h2⟩ := lp_ex (k := k) st fin n I b0 hf h0 hs he
  rw [h2, hk b h1]
theorem law_TopAtomic (a0 : List Int) (a1 a2 : Int) (a3 : List Int) (w0 : Wf (Enc.sl (Enc.int .i64)) a0) (w1 : Wf (Enc.int .i64) a1) (w2 : Wf (Enc.int .i64) a2) (w3 : Wf (Enc.sl (Enc.int .i64)) a3) : m_top_TopAtomic a0 a1 a2 a3 = some true := by
  unfold m_top_TopAtomic
  rw [cg, cg]
  by_cases g1 : a0.length > 128
  · rw [decide_eq_true (show (a0.length : Int) > 128 by omega)]; rfl
  rw [decide_eq_false (show ¬ (a0.length : Int) > 128 by omega)]
  by_cases g2 : a3.length > 30
  · rw [decide_eq_true (show (a3.length : Int) > 30 by omega)]; rfl
  rw [decide_eq_false (show ¬ (a3.length : Int) > 30 by omega), cond_false, Option.bind_some, cond_false]
  have hw := wf_raws w0 (by omega)
  rw [pick_is (wf_i64 w1) (by decide), Option.bind_some, pick_is (wf_i64 w2) (by decide), Option.bind_some]
  have p1 := pick_lt (c := a1) (n := 32) (by decide)
  have p2 := pick_lt (c := a2) (n := 100) (by decide)
  generalize pick a1 32 = v5 at p1 ⊢
  obtain ⟨a, ha⟩ : ∃ a : Nat, pick a2 100 = (a : Int) := ⟨(pick a2 100).toNat, by omega⟩
  rw [ha] at p2 ⊢
  obtain ⟨n, hn⟩ : ∃ n : Nat, 1 + v5 = (n : Int) := ⟨(1 + v5).toNat, by omega⟩
  have hv : ar .add .i64 (1 : Int) v5 = (n : Int) := by rw [addI (by omega)]; exact hn
  have h0 : 1 ≤ n := by omega
  have h1 : n ≤ 32 := by omega
  rw [hv, format_ok h0 h1, Option.bind_some]
  simp only [Option.isSome_none, cond_false]
  rw [mk_is _ _ (by omega), Option.bind_some]
  refine lp_exr (γ := Bool) (fun (i : Nat) (b : Nat × Disk × List Blk) => (((b.1 : Int), (i : Int), b.2.1.1, b.2.1.2.1, b.2.1.2.2, b.2.2) : ASt)) (fun _ => ()) a3.length (fun i b => b.1 ≤ i ∧ AtI n b.1 b.2.1 b.2.2) (0, fresh n, List.replicate n zblk) (by unfold FUEL; omega)
    ⟨Nat.le_refl _, by simp, seen_fresh h1, fun x hx => by unfold fresh at hx; simp at hx; subst hx; rfl⟩ ?_ ?_ (fun _ _ => rfl)
  · rintro i ⟨num, d, blocks⟩ hi ⟨hnum, hI⟩
    simp only at hnum hI ⊢
    have hget : a3[i]? = some a3[i] := List.getElem?_eq_getElem hi
    rw [cl, decide_eq_true (show (i : Int) < (a3.length : Int) by omega), cond_true, idx_get hget, Option.bind_some]
    rw [pick_is (wf_i64 (w3.sl.2 _ (List.getElem_mem hi))) (by decide), Option.bind_some]
    have hp := pick_lt (c := a3[i]) (n := 120) (by decide)
    generalize pick a3[i] 120 = v at hp ⊢
    obtain ⟨o, hD, ht, hk⟩ := seen_left hI hp
    have hop := open_left hD rfl h0 h1 hk
    rw [hop, Option.bind_some]
    have b1 : ((some (4 : Int)) == (some (4 : Int))) = true := by decide
    have b2 : ((none : Option Int) == (some (4 : Int))) = false := by decide
    by_cases hv0 : v = 0
    · obtain ⟨c, g', hcr, hcl, hcp, hc1, hv', hs⟩ := hD.crash (bytes := a0) hw.1
      have hd : d.2.1 = [] := List.eq_nil_of_length_eq_zero (by have := hD.few; simpa using this)
      have hg' : ∀ x, x < 3 * n + 5 → g' x = o x := fun x hx => hs x hx (fun p hp => by simp [hd] at hp)
      have hk' : g' (n + 1) = mk8 0 := by rw [hg' _ (by omega), hk]
      have hop2 := open_left hv' rfl h0 h1 hk'
      rw [hcl, if_neg (by decide)] at hop2
      obtain ⟨num', d', blocks', hr, hn', hI'⟩ := rnd_ok (d := d) hw (a := a) (by omega) (show i ≤ 30 by omega) hnum h0 h1 hv' (ht.of (fun x hx => hg' x (by omega))) hk'
      refine ⟨(num', d', blocks'), ?_, hn', hI'⟩
      simp only [hv0] at hcr ⊢
      simp only [if_true, ocase, b1, cond_true, hcr, Option.bind_some, Option.isSome_none, cond_false, hop2]
      exact hr
    · obtain ⟨num', d', blocks', hr, hn', hI'⟩ := rnd_ok (d := d) hw (a := a) (by omega) (show i ≤ 30 by omega) hnum h0 h1 hD ht hk
      refine ⟨(num', d', blocks'), ?_, hn', hI'⟩
      simp only [if_neg hv0, ocase, b2, Option.bind_some, Option.isSome_none, cond_false]
      exact hr
  · rintro ⟨num, d, blocks⟩ _
    simp only
    rw [cl, decide_eq_false (show ¬ (a3.length : Int) < (a3.length : Int) by omega), cond_false]
end Go.Pl
