/- The plain law: the model of the law answers true. Conditions: none. -/
import Derived.Test.YteckohdbfkhmdacMoTopEpoch
set_option linter.unusedVariables false
set_option linter.unusedSimpArgs false
namespace Go.Pl
open Go Go.Sw

/-- going over a list, with what is carried, till something is done -/
def foldS {A B D : Type} (g : Nat → A → B → Step B D) (fin : B → D) : Nat → B → List A → D
  | _, acc, [] => fin acc
  | i, acc, x :: xs => match g i x acc with
    | .next acc' => foldS g fin (i + 1) acc' xs
    | .done d => d

def stp {α B D : Type} (st : Nat → B → α) (i : Nat) : Step B D → Step α D
  | .next a => .next (st i a)
  | .done d => .done d
def out {β γ : Type} (k : β → Option γ) : Ex β γ → Option γ
  | .brk y => k y
  | .ret z => some z

theorem loop_list {α A B D : Type} {step : α → Option (Step α D)} {l : List A} (st : Nat → B → α) (g : Nat → A → B → Step B D) (fin : B → D)
    (hs : ∀ pre x rest acc, l = pre ++ x :: rest → step (st pre.length acc) = some (stp st (pre.length + 1) (g pre.length x acc)))
    (he : ∀ acc, step (st l.length acc) = some (.done (fin acc))) :
    ∀ (rest pre : List A) (acc : B) (f : Nat), l = pre ++ rest → rest.length < f → loop step f (st pre.length acc) = some (foldS g fin pre.length acc rest)
  | [], pre, acc, f, hl, hf => by
    obtain ⟨f, rfl⟩ : ∃ f', f = f' + 1 := ⟨f - 1, by simp at hf; omega⟩
    have := he acc
    rw [hl, List.append_nil] at this
    simp [loop, this, foldS]
  | x :: rest, pre, acc, f, hl, hf => by
    obtain ⟨f, rfl⟩ : ∃ f', f = f' + 1 := ⟨f - 1, by simp at hf; omega⟩
    have h1 := hs pre x rest acc hl
    simp only [loop, h1, foldS]
    cases hg : g pre.length x acc with
    | done d => rfl
    | next acc' =>
      have ih := loop_list st g fin hs he rest (pre ++ [x]) acc' f (by rw [hl]; simp) (by simp at hf; omega)
      simpa [stp] using ih

theorem lp_list {α A B β γ : Type} {step : α → Option (Step α (Ex β γ))} {l : List A} {k : β → Option γ} (st : Nat → B → α) (acc0 : B) (g : Nat → A → B → Step B (Ex β γ)) (fin : B → Ex β γ) (hf : l.length < FUEL)
    (hs : ∀ pre x rest acc, l = pre ++ x :: rest → step (st pre.length acc) = some (stp st (pre.length + 1) (g pre.length x acc)))
    (he : ∀ acc, step (st l.length acc) = some (.done (fin acc))) :
    lp step (st 0 acc0) k = out k (foldS g fin 0 acc0 l) := by
  have h := loop_list st g fin hs he l [] acc0 FUEL rfl hf
  unfold lp
  simp only [List.length_nil] at h
  rw [h]
  cases foldS g fin 0 acc0 l <;> rfl

theorem idx_app {α : Type} (pre : List α) (x : α) (rest : List α) : Sw.idx (pre ++ x :: rest) (pre.length : Int) = some x := by
  unfold Sw.idx; simp
theorem inc {n m : Nat} (h : n < m) (hm : m ≤ 4611686018427387904) : ar .add .i64 (n : Int) 1 = ((n + 1 : Nat) : Int) := by
  unfold ar; simp only [IntKind.wrap, IntKind.signed, IntKind.bits]; simp; omega
theorem lss_app {α : Type} (pre : List α) (x : α) (rest : List α) : cm .lss (pre.length : Int) ((pre ++ x :: rest).length : Int) = true := by
  unfold cm; simp; omega
theorem lss_self {n : Nat} : cm .lss (n : Int) (n : Int) = false := by unfold cm; simp
end Go.Pl

namespace Go.Pl
open Go Go.Sw

theorem lp_count {α β γ : Type} {step : α → Option (Step α (Ex β γ))} {k : β → Option γ} (st : Nat → α) (n : Nat) (y : β) (hf : n < FUEL) (hs : ∀ i, i < n → step (st i) = some (.next (st (i + 1)))) (he : step (st n) = some (.done (.brk y))) : lp step (st 0) k = k y := by
  have h : ∀ m i, i + m = n → ∀ f, m < f → loop step f (st i) = some (.brk y) := by
    intro m
    induction m with
    | zero =>
      intro i hi f hf
      obtain ⟨f, rfl⟩ : ∃ f', f = f' + 1 := ⟨f - 1, by omega⟩
      simp only [Nat.add_zero] at hi
      subst hi
      simp [loop, he]
    | succ m ih =>
      intro i hi f hf
      obtain ⟨f, rfl⟩ : ∃ f', f = f' + 1 := ⟨f - 1, by omega⟩
      simp only [loop, hs i (by omega)]
      exact ih (i + 1) (by omega) f (by omega)
  unfold lp
  rw [h n 0 (by omega) FUEL hf]

theorem wrap_i64 {n : Int} (h : -9223372036854775808 ≤ n ∧ n ≤ 9223372036854775807) : IntKind.wrap .i64 n = n := wrap_id (k := .i64) (by unfold inK; simp [IntKind.min, IntKind.max, IntKind.signed, IntKind.bits]; omega)
theorem wrap_u8 {n : Int} (h : 0 ≤ n ∧ n ≤ 255) : IntKind.wrap .u8 n = n := wrap_id (k := .u8) (by unfold inK; simp [IntKind.min, IntKind.max, IntKind.signed, IntKind.bits]; omega)
theorem wrap_u32 {n : Int} (h : 0 ≤ n ∧ n ≤ 4294967295) : IntKind.wrap .u32 n = n := wrap_id (k := .u32) (by unfold inK; simp [IntKind.min, IntKind.max, IntKind.signed, IntKind.bits]; omega)
theorem ofInt_nat (w n : Nat) : BitVec.ofInt w (n : Int) = BitVec.ofNat w n := by
  apply BitVec.eq_of_toNat_eq
  simp
theorem xor32 {a b : Nat} (ha : a < 4294967296) (hb : b < 4294967296) : ar .xor .u32 (a : Int) (b : Int) = ((a ^^^ b : Nat) : Int) := by
  have h : a ^^^ b < 2 ^ 32 := Nat.xor_lt_two_pow (by simpa using ha) (by simpa using hb)
  show IntKind.wrap .u32 ((BitVec.ofInt 32 (a : Int) ^^^ BitVec.ofInt 32 (b : Int)).toNat : Int) = _
  simp only [ofInt_nat, BitVec.toNat_xor, BitVec.toNat_ofNat]
  rw [Nat.mod_eq_of_lt (by simpa using ha), Nat.mod_eq_of_lt (by simpa using hb)]
  exact wrap_u32 (by simp at h; omega)
theorem and32 {a : Nat} (ha : a < 4294967296) : ar .and .u32 (a : Int) 1 = ((a % 2 : Nat) : Int) := by
  show IntKind.wrap .u32 ((BitVec.ofInt 32 (a : Int) &&& BitVec.ofInt 32 ((1 : Nat) : Int)).toNat : Int) = _
  simp only [ofInt_nat, BitVec.toNat_and, BitVec.toNat_ofNat]
  rw [Nat.mod_eq_of_lt (a := a) (by simpa using ha), Nat.mod_eq_of_lt (a := 1) (by decide), Nat.and_one_is_mod]
  exact wrap_u32 (by omega)
theorem mul32 {a : Nat} (ha : a < 2) : ar .mul .u32 3988292384 (a : Int) = ((if a = 1 then 3988292384 else 0 : Nat) : Int) := by
  have : a = 0 ∨ a = 1 := by omega
  rcases this with rfl | rfl
  · rfl
  · decide
theorem shr1 {a : Nat} : sh .shr .u32 (a : Int) 1 = ((a / 2 : Nat) : Int) := by
  show Int.fdiv _ _ = _
  have : (2 : Int) ^ min (1 : Int).toNat (IntKind.bits .u32) = 2 := by decide
  rw [this, Int.fdiv_eq_ediv_of_nonneg _ (by omega)]
  omega
theorem not32 {a : Nat} (ha : a < 4294967296) : bnot .u32 (a : Int) = ((4294967295 - a : Nat) : Int) := by
  unfold bnot
  show IntKind.wrap .u32 ((BitVec.allOnes 32 ^^^ BitVec.ofInt 32 (a : Int)).toNat : Int) = _
  simp only [ofInt_nat, BitVec.allOnes_xor, BitVec.toNat_not, BitVec.toNat_ofNat]
  rw [Nat.mod_eq_of_lt (by simpa using ha)]
  exact wrap_u32 (by omega)
theorem tdiv_nat (a b : Nat) : Int.tdiv (a : Int) (b : Int) = ((a / b : Nat) : Int) := rfl
theorem tmod_nat (a b : Nat) : Int.tmod (a : Int) (b : Int) = ((a % b : Nat) : Int) := rfl
theorem quo64 {a b : Nat} (ha : a ≤ 9223372036854775807) : ar .quo .i64 (a : Int) (b : Int) = ((a / b : Nat) : Int) := by
  show IntKind.wrap .i64 _ = _
  rw [tdiv_nat]
  have := Nat.div_le_self a b
  generalize a / b = q at *
  exact wrap_i64 (by omega)
theorem rem64 {a b : Nat} : ar .rem .i64 (a : Int) (b : Int) = ((a % b : Nat) : Int) := rfl
theorem add64 {a b : Nat} (h : a + b ≤ 9223372036854775807) : ar .add .i64 (a : Int) (b : Int) = ((a + b : Nat) : Int) := by
  show IntKind.wrap .i64 _ = _
  rw [← Int.natCast_add]; exact wrap_i64 (by omega)
theorem mul64 {a b : Nat} (h : a * b ≤ 9223372036854775807) : ar .mul .i64 (a : Int) (b : Int) = ((a * b : Nat) : Int) := by
  show IntKind.wrap .i64 _ = _
  rw [← Int.natCast_mul]; exact wrap_i64 (by omega)
theorem nz_ok {n : Int} (h : n ≠ 0) : nz n = some () := by unfold nz; rw [if_neg h]
theorem cm_lss {a b : Nat} : cm .lss (a : Int) (b : Int) = decide (a < b) := by unfold cm; simp
theorem bit_xor (a b i : Nat) : (a ^^^ b) / 2 ^ i % 2 = (a / 2 ^ i + b / 2 ^ i) % 2 := by
  have h := Nat.testBit_xor a b i
  simp only [Nat.testBit_eq_decide_div_mod_eq] at h
  have ha := Nat.mod_two_eq_zero_or_one (a / 2 ^ i)
  have hb := Nat.mod_two_eq_zero_or_one (b / 2 ^ i)
  have hc := Nat.mod_two_eq_zero_or_one ((a ^^^ b) / 2 ^ i)
  rw [Nat.add_mod]
  rcases ha with ha | ha <;> rcases hb with hb | hb <;> rcases hc with hc | hc <;> simp [ha, hb, hc] at h ⊢
theorem xor_half (a b : Nat) : (a ^^^ b) / 2 = a / 2 ^^^ b / 2 := by
  have := Nat.shiftRight_xor_distrib (i := 1) (a := a) (b := b)
  simpa [Nat.shiftRight_eq_div_pow] using this
end Go.Pl

namespace Go.Pl
open Go Go.Sw
/-- bytes -/
def Bytes (l : List Int) : Prop := ∀ x ∈ l, 0 ≤ x ∧ x ≤ 255
def nat (l : List Int) : List Nat := l.map Int.toNat
theorem nat_byte {l : List Int} (h : Bytes l) : ∀ b ∈ nat l, b < 256 := by
  intro b hb
  obtain ⟨x, hx, rfl⟩ := List.mem_map.1 hb
  have := h x hx; omega

/-- as lp_list, with what holds on the way -/
theorem lp_inv {α A B β γ : Type} {step : α → Option (Step α (Ex β γ))} {l : List A} {k : β → Option γ} (st : Nat → B → α) (I : Nat → B → Prop) (acc0 : B) (g : Nat → A → B → B) (fin : B → β) (hf : l.length < FUEL) (h0 : I 0 acc0)
    (hs : ∀ pre x rest acc, l = pre ++ x :: rest → I pre.length acc → step (st pre.length acc) = some (.next (st (pre.length + 1) (g pre.length x acc))) ∧ I (pre.length + 1) (g pre.length x acc))
    (he : ∀ acc, I l.length acc → step (st l.length acc) = some (.done (.brk (fin acc)))) :
    lp step (st 0 acc0) k = k (fin ((l.zipIdx).foldl (fun acc x => g x.2 x.1 acc) acc0)) := by
  have key : ∀ (rest pre : List A) (acc : B) (f : Nat), l = pre ++ rest → I pre.length acc → rest.length < f → loop step f (st pre.length acc) = some (.brk (fin ((rest.zipIdx pre.length).foldl (fun acc x => g x.2 x.1 acc) acc))) := by
    intro rest
    induction rest with
    | nil =>
      intro pre acc f hl hI hf
      obtain ⟨f, rfl⟩ : ∃ f', f = f' + 1 := ⟨f - 1, by simp at hf; omega⟩
      have := he acc (by rw [hl, List.append_nil]; exact hI)
      rw [hl, List.append_nil] at this
      simp [loop, this]
    | cons x rest ih =>
      intro pre acc f hl hI hf
      obtain ⟨f, rfl⟩ : ∃ f', f = f' + 1 := ⟨f - 1, by simp at hf; omega⟩
      obtain ⟨h1, h2⟩ := hs pre x rest acc hl hI
      simp only [loop, h1]
      have := ih (pre ++ [x]) (g pre.length x acc) f (by rw [hl]; simp) (by simpa using h2) (by simp at hf; omega)
      simpa using this
  have h := key l [] acc0 FUEL rfl h0 hf
  unfold lp
  simp only [List.length_nil] at h
  rw [h]
theorem app_small {α : Type} (xs ys : List α) (h : xs.length + ys.length ≤ 4294967296) : Sw.app xs ys = some (xs ++ ys) := by unfold Sw.app; rw [if_pos h]
theorem foldl_zipIdx {A : Type} (w : A → List Int) : ∀ (l : List A) (i : Nat) (acc : List Int), (l.zipIdx i).foldl (fun acc x => acc ++ w x.1) acc = acc ++ l.flatMap w
  | [], _, acc => by simp
  | x :: l, i, acc => by simp [foldl_zipIdx w l]
end Go.Pl

namespace Go.Pl
open Go Go.Sw
/-- it lies somewhere so -/
def Wf {α : Type} (e : Enc α) (x : α) : Prop := ∃ S w cs, e.ok x S w cs
theorem Wf.int {k : IntKind} {n : Int} (h : Wf (Enc.int k) n) : inK k n := by obtain ⟨_, _, _, h⟩ := h; exact h.2
theorem okL_all {α : Type} {e : Enc α} {S w} : ∀ {xs : List α} {cs}, e.okL xs S w cs → ∀ x ∈ xs, Wf e x
  | [], _, _, x, hx => by simp at hx
  | y :: ys, _, ⟨c, d, _, h2, h3⟩, x, hx => by
    rcases List.mem_cons.1 hx with rfl | hx
    · exact ⟨_, _, _, h2⟩
    · exact okL_all h3 x hx
theorem Wf.arr {α : Type} {m : Nat} {e : Enc α} {xs : List α} (h : Wf (Enc.arr m e) xs) : xs.length = m ∧ ∀ x ∈ xs, Wf e x := by
  obtain ⟨_, _, _, h1, h2⟩ := h; exact ⟨h1, okL_all h2⟩
theorem Wf.sl {α : Type} {e : Enc α} {xs : List α} (h : Wf (Enc.sl e) xs) : xs.length ≤ 140737488355328 ∧ ∀ x ∈ xs, Wf e x := by
  obtain ⟨_, _, _, a, cap, _, h2, h3⟩ := h
  refine ⟨h2.2, ?_⟩
  rcases h3 with rfl | ⟨b, off, ds, _, _, _, _, h4⟩
  · intro x hx; simp at hx
  · exact okL_all h4
theorem Wf.pr {α β : Type} {a : Enc α} {b : Enc β} {x : α × β} (h : Wf (Enc.pr a b) x) : Wf a x.1 ∧ Wf b x.2 := by
  obtain ⟨_, _, _, c, d, _, h1, h2⟩ := h; exact ⟨⟨_, _, _, h1⟩, ⟨_, _, _, h2⟩⟩
theorem Wf.one1 {α : Type} {a : Enc α} {x : α} (h : Wf (Enc.one1 a) x) : Wf a x := h
theorem Wf.of_val {α : Type} {e : Enc α} {x : α} {S w v} (h : e.val x S w v) : Wf e x := by obtain ⟨cs, h, _⟩ := h; exact ⟨_, _, _, h⟩
end Go.Pl

namespace Go.Pl
open Go Go.Sw
theorem cl (m n : Int) : cm .lss m n = decide (m < n) := rfl
theorem cg (m n : Int) : cm .gtr m n = decide (m > n) := rfl
theorem cle (m n : Int) : cm .leq m n = decide (m ≤ n) := rfl
theorem cge (m n : Int) : cm .geq m n = decide (m ≥ n) := rfl
theorem ce (m n : Int) : cm .eql m n = decide (m = n) := by show (m == n) = _; by_cases h : m = n <;> simp [h]
theorem cn (m n : Int) : cm .neq m n = decide (m ≠ n) := by show (m != n) = _; by_cases h : m = n <;> simp [h]
theorem addI {m n : Int} (h : -9223372036854775808 ≤ m + n ∧ m + n ≤ 9223372036854775807) : ar .add .i64 m n = m + n := wrap_i64 h
theorem subI {m n : Int} (h : -9223372036854775808 ≤ m - n ∧ m - n ≤ 9223372036854775807) : ar .sub .i64 m n = m - n := wrap_i64 h
theorem nxt {n : Nat} (h : n ≤ 4611686018427387904) : ar .add .i64 (n : Int) 1 = ((n + 1 : Nat) : Int) := by rw [addI (by omega)]; push_cast; rfl
/-- a list gone through, each element looked at: one that is bad ends it -/
theorem lp_any {α A β γ : Type} {step : α → Option (Step α (Ex β γ))} {l : List A} {k : β → Option γ} (st : Nat → α) (bad : A → Bool) (z : γ) (y : β) (hf : l.length < FUEL)
    (hs : ∀ pre x rest, l = pre ++ x :: rest → step (st pre.length) = some (if bad x then .done (.ret z) else .next (st (pre.length + 1)))) (he : step (st l.length) = some (.done (.brk y))) :
    lp step (st 0) k = if l.any bad then some z else k y := by
  have key : ∀ (rest pre : List A) (f : Nat), l = pre ++ rest → rest.length < f → loop step f (st pre.length) = some (if rest.any bad then .ret z else .brk y) := by
    intro rest
    induction rest with
    | nil =>
      intro pre f hl hf
      obtain ⟨f, rfl⟩ : ∃ f', f = f' + 1 := ⟨f - 1, by simp at hf; omega⟩
      rw [List.append_nil] at hl
      rw [← hl]
      simp [loop, he]
    | cons x rest ih =>
      intro pre f hl hf
      obtain ⟨f, rfl⟩ : ∃ f', f = f' + 1 := ⟨f - 1, by simp at hf; omega⟩
      simp only [loop, hs pre x rest hl, List.any_cons]
      by_cases hb : bad x = true
      · simp [hb]
      · have := ih (pre ++ [x]) f (by rw [hl]; simp) (by simp at hf; omega)
        simp only [Bool.not_eq_true] at hb
        simp only [hb, Bool.false_eq_true, if_false, Bool.false_or]
        simpa using this
  have := key l [] FUEL rfl hf
  unfold lp
  simp only [List.length_nil] at this
  rw [this]
  by_cases hb : l.any bad = true
  · simp only [hb, if_true]
  · simp only [Bool.not_eq_true] at hb
    simp only [hb, Bool.false_eq_true, if_false]
theorem lenF {A : Type} {l : List A} {n : Nat} (h : l.length ≤ n) (hn : n ≤ 140737488355328) : l.length < FUEL := by unfold FUEL; omega
/-- the same, with the state told once more -/
theorem lss_len {A : Type} {l pre rest : List A} {x : A} (h : l = pre ++ x :: rest) : cm .lss (pre.length : Int) (l.length : Int) = true := by rw [h]; exact lss_app pre x rest
theorem idx_len {A : Type} {l pre rest : List A} {x : A} (h : l = pre ++ x :: rest) : Sw.idx l (pre.length : Int) = some x := by rw [h]; exact idx_app pre x rest
theorem idx_get {A : Type} {l : List A} {i : Nat} {x : A} (h : l[i]? = some x) : Sw.idx l (i : Int) = some x := by unfold Sw.idx; simp [h]
theorem idx_nat {A : Type} {l : List A} {n : Int} (h0 : 0 ≤ n) (h1 : n < l.length) : ∃ x, Sw.idx l n = some x ∧ l[n.toNat]? = some x := by
  have : n.toNat < l.length := by omega
  exact ⟨l[n.toNat], by unfold Sw.idx; simp [h0, this], by simp [this]⟩
/-- two lists that are the same, element by element -/
theorem same_loop {A : Type} [DecidableEq A] (l : List A) (hl : l.length ≤ 1000000) (k : Unit → Option Bool) :
    lp (β := Unit) (fun (s12 : Int) => bif (cm .lss s12 (l.length : Int)) then (Sw.idx l s12).bind fun z20 => (Sw.idx l s12).bind fun z21 => bif (!decide (z20 = z21)) then some (.done (.ret false)) else some (.next (ar .add .i64 s12 (1 : Int))) else some (.done (.brk ()))) (0 : Int) k = k () := by
  rw [show (0 : Int) = (fun (i : Nat) => (i : Int)) 0 from rfl]
  rw [lp_any (l := l) (fun (i : Nat) => (i : Int)) (fun _ => false) false () (lenF hl (by decide))]
  · simp
  · intro pre x rest h
    simp only [lss_len h, cond_true, idx_len h, Option.bind_some]
    rw [nxt (by rw [h] at hl; simp at hl; omega)]
    simp
  · simp only [lss_self, cond_false]
theorem wf_byte {n : Int} (h : Wf (Enc.int .u8) n) : 0 ≤ n ∧ n ≤ 255 := by
  have := h.int
  unfold inK at this
  simpa [IntKind.min, IntKind.max, IntKind.signed, IntKind.bits] using this
theorem wf_i64 {n : Int} (h : Wf (Enc.int .i64) n) : -9223372036854775808 ≤ n ∧ n ≤ 9223372036854775807 := by
  have := h.int
  unfold inK at this
  simpa [IntKind.min, IntKind.max, IntKind.signed, IntKind.bits] using this
theorem wf_bytes {l : List Int} (h : Wf (Enc.sl (Enc.int .u8)) l) : Bytes l := fun x hx => wf_byte (h.sl.2 x hx)

/-- the first bad one, by its number -/
theorem lp_find {α A β γ : Type} {step : α → Option (Step α (Ex β γ))} {l : List A} {k : β → Option γ} (st : Nat → α) (bad : A → Bool) (z : Nat → γ) (y : β) (hf : l.length < FUEL)
    (hs : ∀ pre x rest, l = pre ++ x :: rest → step (st pre.length) = some (if bad x then .done (.ret (z pre.length)) else .next (st (pre.length + 1)))) (he : step (st l.length) = some (.done (.brk y))) :
    lp step (st 0) k = match l.findIdx? bad with | some j => some (z j) | none => k y := by
  have key : ∀ (rest pre : List A) (f : Nat), l = pre ++ rest → rest.length < f → loop step f (st pre.length) = some (match rest.findIdx? bad with | some j => .ret (z (pre.length + j)) | none => .brk y) := by
    intro rest
    induction rest with
    | nil =>
      intro pre f hl hf
      obtain ⟨f, rfl⟩ : ∃ f', f = f' + 1 := ⟨f - 1, by simp at hf; omega⟩
      rw [List.append_nil] at hl
      rw [← hl]
      simp [loop, he]
    | cons x rest ih =>
      intro pre f hl hf
      obtain ⟨f, rfl⟩ : ∃ f', f = f' + 1 := ⟨f - 1, by simp at hf; omega⟩
      simp only [loop, hs pre x rest hl, List.findIdx?_cons]
      by_cases hb : bad x = true
      · simp [hb]
      · have := ih (pre ++ [x]) f (by rw [hl]; simp) (by simp at hf; omega)
        simp only [Bool.not_eq_true] at hb
        simp only [hb, Bool.false_eq_true, if_false]
        rw [List.length_append, List.length_singleton] at this
        rw [this]
        cases rest.findIdx? bad with
        | none => rfl
        | some j => simp only [Option.map_some]; congr 3; omega
  have := key l [] FUEL rfl hf
  unfold lp
  simp only [List.length_nil, Nat.zero_add] at this
  rw [this]
  cases l.findIdx? bad <;> rfl
theorem any_findIdx {A : Type} (l : List A) (bad : A → Bool) : l.any bad = (l.findIdx? bad).isSome := by
  simp
end Go.Pl

namespace Go.Pl
open Go Go.Sw
/-- going over a list, with what is carried, till something is done -/
def foldG {A B D : Type} (g : B → A → Step B D) (fin : B → D) : B → List A → D
  | acc, [] => fin acc
  | acc, x :: xs => match g acc x with
    | .next acc' => foldG g fin acc' xs
    | .done d => d
theorem lp_walk {α A B β γ : Type} {step : α → Option (Step α (Ex β γ))} {l : List A} {k : β → Option γ} (st : Nat → B → α) (I : List A → B → Prop) (g : B → A → Step B (Ex β γ)) (fin : B → Ex β γ) (acc0 : B) (hf : l.length < FUEL) (h0 : I [] acc0)
    (hs : ∀ pre x rest acc, l = pre ++ x :: rest → I pre acc → step (st pre.length acc) = some (stp st (pre.length + 1) (g acc x)) ∧ ∀ acc', g acc x = .next acc' → I (pre ++ [x]) acc')
    (he : ∀ acc, I l acc → step (st l.length acc) = some (.done (fin acc))) :
    lp step (st 0 acc0) k = out k (foldG g fin acc0 l) := by
  have key : ∀ (rest pre : List A) (acc : B) (f : Nat), l = pre ++ rest → I pre acc → rest.length < f → loop step f (st pre.length acc) = some (foldG g fin acc rest) := by
    intro rest
    induction rest with
    | nil =>
      intro pre acc f hl hI hf
      obtain ⟨f, rfl⟩ : ∃ f', f = f' + 1 := ⟨f - 1, by simp at hf; omega⟩
      rw [List.append_nil] at hl
      subst hl
      simp [loop, he acc hI, foldG]
    | cons x rest ih =>
      intro pre acc f hl hI hf
      obtain ⟨f, rfl⟩ : ∃ f', f = f' + 1 := ⟨f - 1, by simp at hf; omega⟩
      obtain ⟨h1, h2⟩ := hs pre x rest acc hl hI
      simp only [loop, h1, foldG]
      cases hg : g acc x with
      | done d => rfl
      | next acc' =>
        have := ih (pre ++ [x]) acc' f (by rw [hl]; simp) (h2 acc' hg) (by simp at hf; omega)
        simpa [stp] using this
  have h := key l [] acc0 FUEL rfl h0 hf
  unfold lp
  simp only [List.length_nil] at h
  rw [h]
  cases foldG g fin acc0 l <;> rfl
/-- a list gone through to its end -/
theorem lp_go {α A B β γ : Type} {step : α → Option (Step α (Ex β γ))} {l : List A} {k : β → Option γ} (st : Nat → B → α) (I : List A → B → Prop) (fin : B → β) (acc0 : B) (hf : l.length < FUEL) (h0 : I [] acc0)
    (hs : ∀ pre x rest acc, l = pre ++ x :: rest → I pre acc → ∃ acc', step (st pre.length acc) = some (.next (st (pre.length + 1) acc')) ∧ I (pre ++ [x]) acc')
    (he : ∀ acc, I l acc → step (st l.length acc) = some (.done (.brk (fin acc)))) : ∃ acc, I l acc ∧ lp step (st 0 acc0) k = k (fin acc) := by
  have key : ∀ (rest pre : List A) (acc : B) (f : Nat), l = pre ++ rest → I pre acc → rest.length < f → ∃ acc', I l acc' ∧ loop step f (st pre.length acc) = some (.brk (fin acc')) := by
    intro rest
    induction rest with
    | nil =>
      intro pre acc f hl hI hf
      obtain ⟨f, rfl⟩ : ∃ f', f = f' + 1 := ⟨f - 1, by simp at hf; omega⟩
      rw [List.append_nil] at hl
      subst hl
      exact ⟨acc, hI, by simp [loop, he acc hI]⟩
    | cons x rest ih =>
      intro pre acc f hl hI hf
      obtain ⟨f, rfl⟩ : ∃ f', f = f' + 1 := ⟨f - 1, by simp at hf; omega⟩
      obtain ⟨acc', h1, h2⟩ := hs pre x rest acc hl hI
      obtain ⟨a2, h3, h4⟩ := ih (pre ++ [x]) acc' f (by rw [hl]; simp) h2 (by simp at hf; omega)
      exact ⟨a2, h3, by simp only [loop, h1]; simpa using h4⟩
  obtain ⟨acc, h1, h2⟩ := key l [] acc0 FUEL rfl h0 hf
  exact ⟨acc, h1, by unfold lp; simp only [List.length_nil] at h2; rw [h2]⟩
theorem lp_go' {α A B β γ : Type} {step : α → Option (Step α (Ex β γ))} {l : List A} {k : β → Option γ} {r : Option γ} (st : Nat → B → α) (I : List A → B → Prop) (fin : B → β) (acc0 : B) (hf : l.length < FUEL) (h0 : I [] acc0)
    (hs : ∀ pre x rest acc, l = pre ++ x :: rest → I pre acc → ∃ acc', step (st pre.length acc) = some (.next (st (pre.length + 1) acc')) ∧ I (pre ++ [x]) acc')
    (he : ∀ acc, I l acc → step (st l.length acc) = some (.done (.brk (fin acc)))) (hr : ∀ acc, I l acc → k (fin acc) = r) : lp step (st 0 acc0) k = r := by
  obtain ⟨acc, h1, h2⟩ := lp_go (k := k) st I fin acc0 hf h0 hs he
  rw [h2, hr acc h1]
/-- a loop that comes closer each round -/
theorem lp_meas {α β γ : Type} {step : α → Option (Step α (Ex β γ))} {k : β → Option γ} (I : α → Prop) (m : α → Nat) (R : β → Prop) (s0 : α) (hm : m s0 < FUEL) (h0 : I s0)
    (hs : ∀ s, I s → (∃ s', step s = some (.next s') ∧ I s' ∧ m s' < m s) ∨ ∃ y, step s = some (.done (.brk y)) ∧ R y) : ∃ y, R y ∧ lp step s0 k = k y := by
  have key : ∀ (n : Nat) (s : α) (f : Nat), m s ≤ n → n < f → I s → ∃ y, R y ∧ loop step f s = some (.brk y) := by
    intro n
    induction n with
    | zero =>
      intro s f hn hf hI
      obtain ⟨f, rfl⟩ : ∃ f', f = f' + 1 := ⟨f - 1, by omega⟩
      rcases hs s hI with ⟨s', h1, h2, h3⟩ | ⟨y, h1, h2⟩
      · omega
      · exact ⟨y, h2, by simp [loop, h1]⟩
    | succ n ih =>
      intro s f hn hf hI
      obtain ⟨f, rfl⟩ : ∃ f', f = f' + 1 := ⟨f - 1, by omega⟩
      rcases hs s hI with ⟨s', h1, h2, h3⟩ | ⟨y, h1, h2⟩
      · obtain ⟨y, k1, k2⟩ := ih s' f (by omega) (by omega) h2
        exact ⟨y, k1, by simp [loop, h1, k2]⟩
      · exact ⟨y, h2, by simp [loop, h1]⟩
  obtain ⟨y, h1, h2⟩ := key (m s0) s0 FUEL (Nat.le_refl _) hm h0
  exact ⟨y, h1, by unfold lp; rw [h2]⟩
/-- the middle of two numbers -/
theorem mid {i j : Nat} (h : i + j ≤ 4611686018427387904) : IntKind.wrap .i64 (sh .shr .u64 (IntKind.wrap .u64 (ar .add .i64 (i : Int) (j : Int))) (1 : Int)) = (((i + j) / 2 : Nat) : Int) := by
  rw [addI (by omega)]
  have h1 : IntKind.wrap .u64 ((i : Int) + (j : Int)) = (i : Int) + (j : Int) := wrap_id (k := .u64) (by unfold inK; simp [IntKind.min, IntKind.max, IntKind.signed, IntKind.bits]; omega)
  rw [h1]
  have h2 : sh .shr .u64 ((i : Int) + (j : Int)) 1 = (((i + j) / 2 : Nat) : Int) := by
    show Int.fdiv _ _ = _
    have : (2 : Int) ^ min (1 : Int).toNat (IntKind.bits .u64) = 2 := by decide
    rw [this, Int.fdiv_eq_ediv_of_nonneg _ (by omega)]
    omega
  rw [h2]
  exact wrap_i64 (by omega)
theorem bin (c : Bool) {γ : Type} (x y : Option γ) : (bif c then x else y) = if c = true then x else y := by cases c <;> rfl
end Go.Pl

namespace Go.Pl
open Go Go.Sw Go.Mo
abbrev Put := Int × Blk
abbrev Ep := Int × List Put
abbrev Bd := Int × List Put × List Ep × Bool
/-- places of n blocks, each above the one ahead -/
def risB (n : Int) : Int → List Put → Bool
  | _, [] => true
  | last, x :: l => if x.1 ≤ last ∨ x.1 ≥ n then false else risB n x.1 l
def risG (n : Int) (last : Int) (x : Put) : Step Int (Ex Unit Bool) := if x.1 ≤ last ∨ x.1 ≥ n then .done (.ret false) else .next x.1
theorem risG_is (n : Int) : ∀ (l : List Put) (last : Int), foldG (risG n) (fun _ => .brk ()) last l = bif risB n last l then .brk () else .ret false
  | [], _ => rfl
  | x :: l, last => by
    simp only [foldG, risG, risB]
    by_cases h : x.1 ≤ last ∨ x.1 ≥ n
    · simp only [if_pos h, cond_false]
    · simp only [if_neg h]
      exact risG_is n l x.1
theorem rising_is (l : List Put) (n : Int) (hl : l.length ≤ 1000000) : m_epoch_rising l n = some (risB n (-1) l) := by
  unfold m_epoch_rising
  rw [show ((-1 : Int), (0 : Int)) = (fun (i : Nat) (a : Int) => (a, (i : Int))) 0 (-1) from rfl]
  rw [lp_walk (l := l) (fun (i : Nat) (a : Int) => (a, (i : Int))) (fun _ _ => True) (risG n) (fun _ => .brk ()) (-1) (lenF hl (by decide)) trivial]
  · rw [risG_is]
    cases risB n (-1) l <;> rfl
  · intro pre x rest acc h _
    refine ⟨?_, fun _ _ => trivial⟩
    simp only [lss_len h, cond_true, idx_len h, Option.bind_some, cle, cge, bin, nxt (show pre.length ≤ 4611686018427387904 by rw [h] at hl; simp at hl; omega), risG]
    by_cases h1 : x.1 ≤ acc
    · simp [h1, stp]
    · by_cases h2 : x.1 ≥ n
      · simp [h1, h2, stp]
      · simp [h1, h2, stp]
  · intro acc _
    simp only [lss_self, cond_false]
/-- the last place so far -/
def lastOf (l : List Put) : Int := (l.getLast?.map (·.1)).getD (-1)
/-- the number of a builder that may not be, or 0 -/
def seB (n base : Int) : Int → List Ep → Bool
  | _, [] => true
  | i, e :: l => if risB n (-1) e.2 = true ∧ e.1 = base + i then seB n base (i + 1) l else false
def bmay (b : Bd) (n : Int) : Int :=
  if n < 1 ∨ n > 32 ∨ b.1 < 0 ∨ b.1 > 2147483647 then 1 else if b.2.2.1.length > 4 then 2
  else if risB n (-1) b.2.1 = true ∧ ¬ (b.2.2.2 = true ∧ b.2.2.1.length > 0) ∧ (b.2.2.1.length : Int) ≤ b.1 ∧ seB n (b.1 - b.2.2.1.length + 1) 0 b.2.2.1 = true then 0 else 3
/-- the sizes of what is looked at -/
structure Sm (b : Bd) : Prop where
  op : b.2.1.length ≤ 1000000
  se : b.2.2.1.length ≤ 1000000
  ep : ∀ e ∈ b.2.2.1, e.2.length ≤ 1000000
def seG (n base : Int) (i : Int) (e : Ep) : Step Int (Ex Unit Int) := if risB n (-1) e.2 = true ∧ e.1 = base + i then .next (i + 1) else .done (.ret 3)
theorem seG_is (n base : Int) : ∀ (l : List Ep) (i : Int), foldG (seG n base) (fun _ => .brk ()) i l = bif seB n base i l then .brk () else .ret 3
  | [], _ => rfl
  | e :: l, i => by
    simp only [foldG, seG, seB]
    by_cases h : risB n (-1) e.2 = true ∧ e.1 = base + i
    · simp only [if_pos h]
      exact seG_is n base l (i + 1)
    · simp only [if_neg h, cond_false]
theorem mem_split {A : Type} {l pre rest : List A} {x : A} (h : l = pre ++ x :: rest) : x ∈ l := by rw [h]; simp
end Go.Pl

namespace Go.Pl
open Go Go.Sw Go.Mo
def opt (n : Int) : Option Int := if n = 0 then none else some n
def chB (n base : Int) : Int → List Ep → Bool
  | _, [] => true
  | i, e :: l => if risB n (-1) e.2 = true ∧ e.1 = base + i ∧ 1 ≤ e.1 then chB n base (i + 1) l else false
def chG (n base : Int) (i : Int) (e : Ep) : Step Int (Ex Unit (Option Int)) := if risB n (-1) e.2 = true ∧ e.1 = base + i ∧ 1 ≤ e.1 then .next (i + 1) else .done (.ret (some 3))
theorem chG_is (n base : Int) : ∀ (l : List Ep) (i : Int), foldG (chG n base) (fun _ => .brk ()) i l = bif chB n base i l then .brk () else .ret (some 3)
  | [], _ => rfl
  | e :: l, i => by
    simp only [foldG, chG, chB]
    by_cases h : risB n (-1) e.2 = true ∧ e.1 = base + i ∧ 1 ≤ e.1
    · simp only [if_pos h]
      exact chG_is n base l (i + 1)
    · simp only [if_neg h, cond_false]
theorem chB_se (n base : Int) (h : 1 ≤ base) : ∀ (l : List Ep) (i : Int), 0 ≤ i → chB n base i l = seB n base i l
  | [], _, _ => rfl
  | e :: l, i, hi => by
    simp only [chB, seB]
    by_cases h1 : risB n (-1) e.2 = true ∧ e.1 = base + i
    · rw [if_pos h1, if_pos ⟨h1.1, h1.2, by omega⟩]
      exact chB_se n base h l (i + 1) (by omega)
    · rw [if_neg h1, if_neg fun h2 => h1 ⟨h2.1, h2.2.1⟩]
theorem check_is (b : Bd) (n : Int) (hb : Sm b) : m_epoch_Check b n = some (opt (bmay b n)) := by
  have hse := hb.se
  have hloop : ∀ h1 : 0 ≤ b.1 ∧ b.1 ≤ 2147483647, lp (β := Unit) (fun (s40 : Int) =>
              bif (cm .lss s40 (b.2.2.1.length : Int)) then
                (Sw.idx b.2.2.1 s40).bind fun z54 =>
                  ((m_epoch_rising z54.2 n).bind fun v59 =>
                    bif (!v59) then
                      some true
                    else
                      bif (cm .neq z54.1 (ar .add .i64 (ar .add .i64 (ar .sub .i64 b.1 (b.2.2.1.length : Int)) (1 : Int)) s40)) then
                        some true
                      else
                        some (cm .lss z54.1 (1 : Int))).bind fun x58 =>
                    bif x58 then
                      some (.done (.ret (some (3 : Int))))
                    else
                      some (.next (ar .add .i64 s40 (1 : Int)))
              else
                some (.done (.brk ()))
              ) (0 : Int) (fun (_ : Unit) =>
            some (none : Option Int)) = some (bif chB n (b.1 - b.2.2.1.length + 1) 0 b.2.2.1 then none else some 3) := by
    intro h1
    show lp _ ((fun (i : Nat) (_ : Int) => (i : Int)) 0 0) _ = _
    rw [lp_walk (l := b.2.2.1) (fun (i : Nat) (_ : Int) => (i : Int)) (fun pre a => a = (pre.length : Int)) (chG n (b.1 - b.2.2.1.length + 1)) (fun _ => .brk ()) 0 (lenF hse (by decide)) rfl]
    · rw [chG_is]
      cases chB n (b.1 - b.2.2.1.length + 1) 0 b.2.2.1 <;> rfl
    · intro pre x rest acc h hI
      subst hI
      have hp : pre.length ≤ 1000000 := by rw [h] at hse; simp at hse; omega
      refine ⟨?_, fun acc' hg => ?_⟩
      · simp only [lss_len h, cond_true, idx_len h, Option.bind_some, rising_is x.2 n (hb.ep x (mem_split h)), bin, nxt (show pre.length ≤ 4611686018427387904 by omega), chG, cn, cl]
        rw [subI (by omega), addI (m := b.1 - (b.2.2.1.length : Int)) (by omega), addI (by omega)]
        cases hr : risB n (-1) x.2 with
        | false => simp [stp]
        | true =>
          by_cases h2 : x.1 = b.1 - (b.2.2.1.length : Int) + 1 + (pre.length : Int)
          · by_cases h3 : x.1 < 1
            · have h4 : ¬ (1 ≤ x.1) := by omega
              simp [← h2, h3, h4, stp]
            · have h4 : 1 ≤ x.1 := by omega
              simp [← h2, h3, h4, stp]
          · simp [h2, stp]
      · simp only [chG] at hg
        split at hg
        · cases hg; simp
        · cases hg
    · intro acc _
      simp only [lss_self, cond_false]
  unfold m_epoch_Check
  simp only [rising_is b.2.1 n hb.op, Option.bind_some]
  simp only [cl, cg, bin, bmay, decide_eq_true_eq, opt]
  by_cases c1 : n < 1
  · simp [c1]
  by_cases c2 : n > 32
  · simp [c1, c2]
  by_cases c3 : b.1 < 0
  · simp [c1, c2, c3]
  by_cases c4 : b.1 > 2147483647
  · simp [c1, c2, c3, c4]
  have hl := hloop ⟨by omega, by omega⟩
  simp only [cl, bin, decide_eq_true_eq] at hl
  by_cases c5 : (b.2.2.1.length : Int) > 4
  · have c5' : b.2.2.1.length > 4 := by omega
    simp [c1, c2, c3, c4, c5, c5']
  have c5' : ¬ (b.2.2.1.length > 4) := by omega
  simp only [c1, c2, c3, c4, c5, c5', if_false, Option.bind_some, decide_false, Bool.false_eq_true, or_self]
  cases hr : risB n (-1) b.2.1 with
  | false => simp
  | true =>
    simp only [Bool.not_true, Bool.false_eq_true, if_false]
    have hch : (b.2.2.1.length : Int) ≤ b.1 → chB n (b.1 - b.2.2.1.length + 1) 0 b.2.2.1 = seB n (b.1 - b.2.2.1.length + 1) 0 b.2.2.1 := fun h => chB_se n _ (by omega) _ 0 (by omega)
    have hch2 : ¬ ((b.2.2.1.length : Int) ≤ b.1) → chB n (b.1 - b.2.2.1.length + 1) 0 b.2.2.1 = false := fun h => by
      cases hb2 : b.2.2.1 with
      | nil => rw [hb2] at h; simp at h; omega
      | cons e l =>
        simp only [chB]
        rw [if_neg]
        rintro ⟨_, h2, h3⟩
        rw [hb2] at h; omega
    by_cases c7 : b.2.2.2 = true ∧ b.2.2.1.length > 0
    · have c7' : (b.2.2.1.length : Int) > 0 := by omega
      simp [c7.1, c7.2, c7']
    · have hx : (if b.2.2.2 = true then some (decide ((b.2.2.1.length : Int) > 0)) else some false : Option Bool) = some false := by
        cases hbh : b.2.2.2 with
        | false => simp
        | true => simp [hbh] at c7; simp [c7]
      simp only [hx, Option.bind_some, Bool.false_eq_true, if_false, hl]
      by_cases c6 : (b.2.2.1.length : Int) ≤ b.1
      · rw [hch c6]
        cases seB n (b.1 - b.2.2.1.length + 1) 0 b.2.2.1 <;> simp [c6, c7]
      · rw [hch2 c6]; simp [c6]
/-! ### a builder in memory of its own -/
theorem clone_is (b : Bd) (hb : Sm b) : m_epoch_clone b = some b := by
  have hop := hb.op
  have hse := hb.se
  unfold m_epoch_clone m_slices_Clone_epoch_Epoch_epoch_Epoch
  have h1 : ∀ l : List Put, l.length ≤ 1000000 → m_slices_Clone_api_Put_api_Put l = some l := fun l h => by
    unfold m_slices_Clone_api_Put_api_Put; rw [app_small [] l (by simp; omega)]; rfl
  rw [h1 _ hop, app_small [] b.2.2.1 (by simp; omega)]
  simp only [Option.bind_some, List.nil_append]
  show lp _ ((fun (i : Nat) (_ : Unit) => ((i : Int), b.2.2.1)) 0 ()) _ = _
  rw [lp_walk (l := b.2.2.1) (fun (i : Nat) (_ : Unit) => ((i : Int), b.2.2.1)) (fun _ _ => True) (fun _ _ => .next ()) (fun _ => .brk b.2.2.1) () (lenF hse (by decide)) trivial]
  · have : ∀ l : List Ep, foldG (D := Ex (List Ep) Bd) (fun (_ : Unit) (_ : Ep) => Step.next ()) (fun _ => .brk b.2.2.1) () l = .brk b.2.2.1 := by
      intro l; induction l with
      | nil => rfl
      | cons x l ih => exact ih
    rw [this]; rfl
  · intro pre x rest acc h _
    have hp : pre.length ≤ 1000000 := by rw [h] at hse; simp at hse; omega
    refine ⟨?_, fun _ _ => trivial⟩
    simp only [lss_len h, cond_true, idx_len h, Option.bind_some, h1 _ (hb.ep x (mem_split h)), nxt (show pre.length ≤ 4611686018427387904 by omega), stp, Int.toNat_natCast]
    rw [h]
    simp
  · intro acc _
    simp only [lss_self, cond_false]
/-! ### a put, where it belongs -/
/-- rising puts: in two at a place -/
theorem ris_split (n a : Int) : ∀ (l : List Put) (last : Int), risB n last l = true → ∃ L1 L2, l = L1 ++ L2 ∧ (∀ x ∈ L1, x.1 < a) ∧ (∀ x ∈ L2, a ≤ x.1) ∧ (L2.filter fun x => x.1 ≠ a) = (match L2 with | [] => [] | y :: r => if y.1 = a then r else L2)
  | [], _, _ => ⟨[], [], rfl, by simp, by simp, rfl⟩
  | x :: l, last, h => by
    simp only [risB] at h
    split at h
    · cases h
    · by_cases hx : x.1 < a
      · obtain ⟨L1, L2, rfl, h1, h2, h3⟩ := ris_split n a l x.1 h
        exact ⟨x :: L1, L2, rfl, fun y hy => by rcases List.mem_cons.1 hy with rfl | hy; exact hx; exact h1 y hy, h2, h3⟩
      · have hab : ∀ (l : List Put) (last : Int), risB n last l = true → ∀ y ∈ l, last < y.1 := by
          intro l
          induction l with
          | nil => intro _ _ y hy; simp at hy
          | cons z l ih =>
            intro last h y hy
            simp only [risB] at h
            split at h
            · cases h
            · rename_i hn
              rcases List.mem_cons.1 hy with rfl | hy
              · omega
              · have := ih z.1 h y hy; omega
        have h5 := hab l x.1 h
        refine ⟨[], x :: l, rfl, by simp, fun y hy => by rcases List.mem_cons.1 hy with rfl | hy; omega; have := h5 y hy; omega, ?_⟩
        have hf : (l.filter fun y => decide (y.1 ≠ a)) = l := List.filter_eq_self.2 fun y hy => by have := h5 y hy; simp; omega
        simp only [List.filter_cons, hf]
        by_cases h6 : x.1 = a
        · simp [h6]
        · simp [h6]
theorem ris_bounds (n : Int) : ∀ (l : List Put) (last : Int), risB n last l = true → ∀ x ∈ l, last < x.1 ∧ x.1 < n
  | [], _, _, x, hx => by simp at hx
  | y :: l, last, h, x, hx => by
    simp only [risB] at h
    split at h
    · cases h
    · rename_i hn
      rcases List.mem_cons.1 hx with rfl | hx
      · omega
      · have := ris_bounds n l y.1 h x hx; omega
/-- where the place is found -/
theorem bsearch_is (L1 L2 : List Put) (a : Int) (h1 : ∀ x ∈ L1, x.1 < a) (h2 : ∀ x ∈ L2, a ≤ x.1) (hl : (L1 ++ L2).length ≤ 1000000) (hr : ∀ x ∈ L1 ++ L2, -1000000000 ≤ x.1 ∧ x.1 ≤ 1000000000) (hab : -1000000000 ≤ a ∧ a ≤ 1000000000) :
    m_slices_BinarySearchFunc_api_Put_api_Put_int__epoch_Add_1 (L1 ++ L2) a = some ((L1.length : Int), match L2 with | [] => false | y :: _ => decide (y.1 = a)) := by
  obtain ⟨l, hll⟩ : ∃ l, l = L1 ++ L2 := ⟨_, rfl⟩
  rw [← hll] at hl hr ⊢
  unfold m_slices_BinarySearchFunc_api_Put_api_Put_int__epoch_Add_1 m_epoch_Add_1
  have hlen : l.length = L1.length + L2.length := by rw [hll, List.length_append]
  have hcmp : ∀ x ∈ l, ar .sub .i64 x.1 a = x.1 - a := fun x hx => subI (by have := hr x hx; omega)
  obtain ⟨y, rfl, hlp⟩ := lp_meas (k := fun (x17 : Int) =>
  (bif (cm .lss x17 (l.length : Int)) then
    (Sw.idx l x17).bind fun z27 =>
      (some (ar .sub .i64 z27.1 a)).bind fun v28 =>
        some (cm .eql v28 (0 : Int))
  else
    some false).bind fun x25 =>
    some (x17, x25)) (step := fun (s11 : Int × Int) =>
    bif (cm .lss s11.1 s11.2) then
      (Sw.idx l (IntKind.wrap .i64 (sh .shr .u64 (IntKind.wrap .u64 (ar .add .i64 s11.1 s11.2)) (1 : Int)))).bind fun z19 =>
        (some (ar .sub .i64 z19.1 a)).bind fun v20 =>
          bif (cm .lss v20 (0 : Int)) then
            some (.next ((ar .add .i64 (IntKind.wrap .i64 (sh .shr .u64 (IntKind.wrap .u64 (ar .add .i64 s11.1 s11.2)) (1 : Int))) (1 : Int)), s11.2))
          else
            some (.next (s11.1, (IntKind.wrap .i64 (sh .shr .u64 (IntKind.wrap .u64 (ar .add .i64 s11.1 s11.2)) (1 : Int)))))
    else
      some (.done (.brk s11.1))) (fun s => ∃ i j : Nat, s = ((i : Int), (j : Int)) ∧ i ≤ L1.length ∧ L1.length ≤ j ∧ j ≤ l.length) (fun s => (s.2 - s.1).toNat) (fun y => y = (L1.length : Int)) ((0 : Int), (l.length : Int)) (by unfold FUEL; simp; omega) ⟨0, l.length, rfl, by omega, by omega, by omega⟩ (by
      rintro s ⟨i, j, rfl, hi, hj, hjl⟩
      simp only [cl, bin, decide_eq_true_eq]
      by_cases hij : i < j
      · left
        have hij' : (i : Int) < (j : Int) := by omega
        rw [if_pos hij', mid (by omega)]
        obtain ⟨h, hh⟩ : ∃ h, h = (i + j) / 2 := ⟨_, rfl⟩
        rw [← hh]
        have hhj : h < j := by omega
        have hih : i ≤ h := by omega
        obtain ⟨x, hx1, hx2⟩ := idx_nat (l := l) (n := (h : Int)) (by omega) (by omega)
        simp only [Int.toNat_natCast] at hx2
        have hxm : x ∈ l := List.mem_of_getElem? hx2
        simp only [hx1, Option.bind_some, hcmp x hxm]
        rw [hll] at hx2
        by_cases hx : x.1 - a < 0
        · rw [if_pos hx]
          have hk : h < L1.length := by
            rcases Nat.lt_or_ge h L1.length with hk | hk
            · exact hk
            · rw [List.getElem?_append_right hk] at hx2
              have := h2 x (List.mem_of_getElem? hx2); omega
          refine ⟨_, rfl, ⟨h + 1, j, ?_, by omega, hj, hjl⟩, ?_⟩
          · rw [nxt (by omega)]
          · simp only [nxt (show h ≤ 4611686018427387904 by omega)]; omega
        · rw [if_neg hx]
          have hk : L1.length ≤ h := by
            rcases Nat.lt_or_ge h L1.length with hk | hk
            · rw [List.getElem?_append_left hk] at hx2
              have := h1 x (List.mem_of_getElem? hx2); omega
            · exact hk
          exact ⟨_, rfl, ⟨i, h, rfl, hi, hk, by omega⟩, by simp only; omega⟩
      · right
        have hij' : ¬ ((i : Int) < (j : Int)) := by omega
        rw [if_neg hij']
        exact ⟨_, rfl, by omega⟩)
  rw [hlp]
  simp only [cl, ce, bin, decide_eq_true_eq]
  cases L2 with
  | nil =>
    have : ¬ ((L1.length : Int) < (l.length : Int)) := by simp at hlen; omega
    rw [if_neg this]; rfl
  | cons y L2 =>
    have hlt : (L1.length : Int) < (l.length : Int) := by simp at hlen; omega
    rw [if_pos hlt, idx_len hll]
    have hy := hcmp y (by rw [hll]; simp)
    simp only [Option.bind_some, hy]
    congr 3
    by_cases h : y.1 = a
    · simp [h]
    · have : ¬ (y.1 - a = 0) := by omega
      simp [h, this]
/-- an element put where it belongs -/
def putF (l : List Put) (p : Put) : List Put := (l.takeWhile fun x => x.1 < p.1) ++ p :: (l.dropWhile fun x => x.1 < p.1).filter fun x => x.1 ≠ p.1
theorem split_putF {L1 L2 : List Put} {p : Put} (h1 : ∀ x ∈ L1, x.1 < p.1) (h2 : ∀ x ∈ L2, p.1 ≤ x.1) : putF (L1 ++ L2) p = L1 ++ p :: L2.filter fun x => x.1 ≠ p.1 := by
  unfold putF
  have e1 : ∀ L1 : List Put, (∀ x ∈ L1, x.1 < p.1) → (L1 ++ L2).takeWhile (fun x => decide (x.1 < p.1)) = L1 ∧ (L1 ++ L2).dropWhile (fun x => decide (x.1 < p.1)) = L2 := by
    intro L1
    induction L1 with
    | nil =>
      intro _
      cases L2 with
      | nil => simp
      | cons y L2 =>
        have := h2 y (by simp)
        have h3 : ¬ (y.1 < p.1) := by omega
        simp [h3]
    | cons x L1 ih =>
      intro h
      have hx := h x (by simp)
      obtain ⟨k1, k2⟩ := ih fun y hy => h y (by simp [hy])
      simp [hx, k1, k2]
  obtain ⟨k1, k2⟩ := e1 L1 h1
  rw [k1, k2]
end Go.Pl

namespace Go.Pl
open Go Go.Sw Go.Mo
def zeroB : Bd := (0, [], [], false)
theorem bmay_ok {b : Bd} {n : Int} (h : bmay b n = 0) : 1 ≤ n ∧ n ≤ 32 ∧ 0 ≤ b.1 ∧ b.1 ≤ 2147483647 ∧ b.2.2.1.length ≤ 4 ∧ risB n (-1) b.2.1 = true ∧ ¬ (b.2.2.2 = true ∧ b.2.2.1.length > 0) ∧ (b.2.2.1.length : Int) ≤ b.1 ∧ seB n (b.1 - b.2.2.1.length + 1) 0 b.2.2.1 = true := by
  unfold bmay at h
  split at h
  · cases h
  · rename_i h1
    split at h
    · cases h
    · rename_i h2
      split at h
      · rename_i h3
        exact ⟨by omega, by omega, by omega, by omega, by omega, h3.1, h3.2.1, h3.2.2.1, h3.2.2.2⟩
      · cases h
theorem seB_all {n base : Int} : ∀ {l : List Ep} {i : Int}, seB n base i l = true → ∀ e ∈ l, risB n (-1) e.2 = true
  | [], _, _, e, he => by simp at he
  | x :: l, i, h, e, he => by
    simp only [seB] at h
    split at h
    · rename_i h1
      rcases List.mem_cons.1 he with rfl | he
      · exact h1.1
      · exact seB_all h e he
    · cases h
theorem add_is (b : Bd) (n : Int) (p : Put) (hb : Sm b) : m_epoch_Add b n p = some (if bmay b n ≠ 0 then (zeroB, some (bmay b n)) else if p.1 < 0 ∨ p.1 ≥ n then (zeroB, some 1) else ((b.1, putF b.2.1 p, b.2.2.1, b.2.2.2), none)) := by
  unfold m_epoch_Add
  simp only [check_is b n hb, clone_is b hb, Option.bind_some]
  by_cases h0 : bmay b n = 0
  · obtain ⟨k1, k2, k3, k4, k5, k6, k7, k8, k9⟩ := bmay_ok h0
    simp only [opt, h0, if_true, Option.isSome_none, cond_false, ne_eq, not_true_eq_false, if_false]
    by_cases h1 : p.1 < 0
    · simp [cl, h1, zeroB]
    by_cases h2 : p.1 ≥ n
    · simp [cl, cge, h1, h2, zeroB]
    obtain ⟨L1, L2, hL, h3, h4, h5⟩ := ris_split n p.1 b.2.1 _ k6
    have hbd := ris_bounds n b.2.1 _ k6
    have hop := hb.op
    rw [hL] at hbd hop
    have hbs := bsearch_is L1 L2 p.1 h3 h4 hop (fun x hx => by have := hbd x hx; omega) (by omega)
    rw [if_neg (by omega)]
    rw [hL, hbs, split_putF h3 h4, h5]
    simp only [cl, cge, h1, h2, decide_false, cond_false, Option.bind_some, jp]
    cases L2 with
    | nil =>
      simp only [cond_false, m_slices_Insert_api_Put_api_Put, Sw.ins, List.append_nil]
      rw [if_pos ⟨by omega, by omega, by simp at hop ⊢; omega⟩]
      simp
    | cons y L2 =>
      by_cases hy : y.1 = p.1
      · have hset : (L1 ++ y :: L2).set L1.length p = L1 ++ p :: L2 := by simp
        simp only [hy, decide_true, cond_true, idx_app, Option.bind_some, Int.toNat_natCast, if_true, hset]
      · simp only [hy, decide_false, cond_false, m_slices_Insert_api_Put_api_Put, Sw.ins, if_false]
        rw [if_pos ⟨by omega, by simp; omega, by simp at hop ⊢; omega⟩]
        simp
  · simp [opt, h0, zeroB]
theorem seal_is (b : Bd) (n : Int) (hb : Sm b) : m_epoch_Seal b n = some (if bmay b n ≠ 0 then (zeroB, some (bmay b n)) else if b.1 = 2147483647 then (zeroB, some 2) else
    if b.2.2.2 = true then ((b.1 + 1, [], b.2.2.1, b.2.2.2), none) else if b.2.2.1.length = 4 then ((b.1 + 1, [], [], true), none) else ((b.1 + 1, [], b.2.2.1 ++ [(b.1 + 1, b.2.1)], b.2.2.2), none)) := by
  unfold m_epoch_Seal
  simp only [check_is b n hb, clone_is b hb, Option.bind_some]
  by_cases h0 : bmay b n = 0
  · obtain ⟨k1, k2, k3, k4, k5, k6, k7, k8, k9⟩ := bmay_ok h0
    simp only [opt, h0, if_true, Option.isSome_none, cond_false, ne_eq, not_true_eq_false, if_false, ce]
    by_cases h1 : b.1 = 2147483647
    · simp [h1, zeroB]
    simp only [h1, decide_false, cond_false, if_false]
    rw [addI (by omega)]
    cases hbh : b.2.2.2 with
    | true => simp
    | false =>
      by_cases h2 : b.2.2.1.length = 4
      · simp [h2]
      · have h3 : ¬ ((b.2.2.1.length : Int) = 4) := by omega
        simp only [h3, decide_false, cond_false, h2, if_false, Bool.false_eq_true]
        rw [app_small _ _ (by simp; omega)]; rfl
  · simp [opt, h0, zeroB]
/-! ### what is dropped -/
def setA (A : List (Option Put)) (p : Put) : List (Option Put) := A.set p.1.toNat (some p)
/-- each place holds a put of that place -/
def Rel (A : List (Option Put)) : Prop := ∀ (k : Nat) (p : Put), A[k]? = some (some p) → p.1 = (k : Int)
theorem Rel.set {A : List (Option Put)} {p : Put} (h : Rel A) (hp : 0 ≤ p.1) : Rel (setA A p) := by
  intro k q hq
  unfold setA at hq
  by_cases hk : p.1.toNat = k
  · subst hk
    by_cases hlt : p.1.toNat < A.length
    · rw [List.getElem?_set_self hlt] at hq; cases hq; omega
    · rw [List.getElem?_eq_none (by rw [List.length_set]; omega)] at hq; cases hq
  · rw [List.getElem?_set_ne hk] at hq; exact h k q hq
/-- what the epochs behind a number come to, place by place -/
def sinceA (A : List (Option Put)) (num : Int) (l : List Ep) : List (Option Put) := l.foldl (fun A e => if num < e.1 then e.2.foldl setA A else A) A
theorem setA_len (l : List Put) : ∀ (A : List (Option Put)), (l.foldl setA A).length = A.length := by
  induction l with
  | nil => intro A; rfl
  | cons x l ih => intro A; rw [List.foldl_cons, ih]; simp [setA]
theorem sinceA_len (num : Int) (l : List Ep) : ∀ (A : List (Option Put)), (sinceA A num l).length = A.length := by
  induction l with
  | nil => intro A; rfl
  | cons x l ih =>
    intro A
    unfold sinceA at ih ⊢
    rw [List.foldl_cons, ih]
    split
    · exact setA_len _ _
    · rfl
theorem since_is (b : Bd) (n num : Int) (hb : Sm b) : m_epoch_Since b n num = some (if bmay b n ≠ 0 then ((0, []), false, some (bmay b n)) else if num < 0 ∨ num > b.1 then ((0, []), false, some 1) else
    if b.1 - num > b.2.2.1.length then ((0, []), false, none) else ((b.1, (sinceA (List.replicate 32 none) num b.2.2.1).filterMap id), true, none)) := by
  unfold m_epoch_Since
  simp only [check_is b n hb, Option.bind_some]
  by_cases h0 : bmay b n = 0
  · obtain ⟨k1, k2, k3, k4, k5, k6, k7, k8, k9⟩ := bmay_ok h0
    simp only [opt, h0, if_true, Option.isSome_none, cond_false, ne_eq, not_true_eq_false, if_false]
    by_cases h1 : num < 0
    · simp [cl, h1]
    by_cases h2 : num > b.1
    · simp [cl, cg, h1, h2]
    rw [if_neg (by omega)]
    simp only [cl, cg, h1, h2, decide_false, cond_false, Option.bind_some]
    rw [subI (by omega)]
    by_cases h3 : b.1 - num > b.2.2.1.length
    · simp [h3]
    simp only [h3, decide_false, cond_false, if_false]
    have hse := hb.se
    show lp _ ((fun (i : Nat) (a : List (Option Put)) => ((i : Int), a)) 0 (List.replicate 32 none)) _ = _
    refine lp_go' (l := b.2.2.1) (fun (i : Nat) (a : List (Option Put)) => ((i : Int), a)) (fun pre a => a = sinceA (List.replicate 32 none) num pre) (fun a => a) (List.replicate 32 none) (lenF hse (by decide)) rfl ?_ ?_ ?_
    · intro pre e rest acc h hI
      have hp : pre.length ≤ 1000000 := by rw [h] at hse; simp at hse; omega
      have hel := hb.ep e (mem_split h)
      have her := seB_all k9 e (mem_split h)
      have hebd := ris_bounds n e.2 _ her
      have hacc : acc.length = 32 := by rw [hI, sinceA_len]; simp
      refine ⟨if num < e.1 then e.2.foldl setA acc else acc, ?_, by rw [hI]; simp [sinceA]⟩
      have hlt : (pre.length : Int) < (b.2.2.1.length : Int) := by rw [h]; simp; omega
      simp only [hlt, decide_true, cond_true, idx_len h, Option.bind_some]
      show lp _ ((fun (i : Nat) (a : List (Option Put)) => ((i : Int), a)) 0 acc) _ = _
      refine lp_go' (l := e.2) (fun (i : Nat) (a : List (Option Put)) => ((i : Int), a)) (fun pre a => a = if num < e.1 then pre.foldl setA acc else acc) (fun a => a) acc (lenF hel (by decide)) (by simp) ?_ ?_ ?_
      · intro pre2 x rest2 a2 h4 hI2
        have hp2 : pre2.length ≤ 1000000 := by rw [h4] at hel; simp at hel; omega
        have hlt2 : (pre2.length : Int) < (e.2.length : Int) := by rw [h4]; simp; omega
        have hxb := hebd x (mem_split h4)
        refine ⟨if num < e.1 then setA a2 x else a2, ?_, by
          rw [hI2]
          by_cases hn : num < e.1
          · simp [hn]
          · simp [hn]⟩
        simp only [hlt2, decide_true, cond_true, idx_len h4, Option.bind_some]
        rw [nxt (by omega)]
        by_cases hn : num < e.1
        · have hn' : e.1 > num := hn
          have ha2 : a2.length = 32 := by rw [hI2, if_pos hn, setA_len]; exact hacc
          obtain ⟨y, hy, _⟩ := idx_nat (l := a2) (n := x.1) (by omega) (by omega)
          simp only [hn', decide_true, cond_true, hy, Option.bind_some, if_true, hn, setA]
        · have hn' : ¬ (e.1 > num) := hn
          simp only [hn', decide_false, cond_false, hn, if_false]
      · intro a2 _
        simp
      · intro a2 hI2
        rw [nxt (by omega), hI2]
    · intro acc _
      simp
    · intro acc hI
      have hacc : acc.length = 32 := by rw [hI, sinceA_len]; simp
      rw [← hI]
      show lp _ ((fun (i : Nat) (a : List Put) => ((i : Int), a)) 0 []) _ = _
      refine lp_go' (l := acc) (fun (i : Nat) (a : List Put) => ((i : Int), a)) (fun pre a => a = pre.filterMap id) (fun a => a) [] (by unfold FUEL; omega) rfl ?_ ?_ ?_
      · intro pre x rest a h hI2
        have hp : pre.length < 32 := by rw [← hacc, h]; simp
        have hlt : (pre.length : Int) < 32 := by omega
        have hal := List.length_filterMap_le id pre
        simp only [hlt, decide_true, cond_true, idx_len h, Option.bind_some]
        cases x with
        | none =>
          refine ⟨a, ?_, by rw [hI2]; simp⟩
          simp only [Option.isSome_none, cond_false]
          rw [nxt (by omega)]
        | some x =>
          refine ⟨a ++ [x], ?_, by rw [hI2]; simp⟩
          simp only [Option.isSome_some, cond_true, Option.bind_some]
          rw [app_small _ _ (by rw [hI2]; simp; omega), Option.bind_some, nxt (by omega)]
      · intro a _
        rw [hacc]; rfl
      · intro a hI2
        rw [hI2]
  · simp [opt, h0]
end Go.Pl

namespace Go.Pl
open Go Go.Sw Go.Mo
def I64 (n : Int) : Prop := -9223372036854775808 ≤ n ∧ n ≤ 9223372036854775807
/-- which of n things a raw number speaks of -/
def pick (c n : Int) : Int := (if c < 0 then -(c + 1) else c).tmod n
theorem pick_is {c n : Int} (hc : I64 c) (hn : 0 < n) : m_ref_Pick c n = some (pick c n) := by
  unfold m_ref_Pick pick
  have hnz : nz n = some () := nz_ok (by omega)
  simp only [jp, hnz, Option.bind_some, cl]
  by_cases h : c < 0
  · simp only [h, decide_true, cond_true, if_true]
    rw [addI (by unfold I64 at hc; omega), wrap_i64 (by unfold I64 at hc; omega)]
    rw [show 0 - (c + 1) = -(c + 1) by omega]; rfl
  · simp only [h, decide_false, cond_false, if_false]; rfl
theorem pick_lt {c n : Int} (hn : 0 < n) : 0 ≤ pick c n ∧ pick c n < n := by
  unfold pick
  have h0 : 0 ≤ (if c < 0 then -(c + 1) else c) := by split <;> omega
  exact ⟨Int.tmod_nonneg _ h0, Int.tmod_lt_of_pos _ hn⟩
def Raws (l : List Int) : Prop := (∀ x ∈ l, I64 x) ∧ l.length ≤ 256
theorem wf_raws {l : List Int} (h : Wf (Enc.sl (Enc.int .i64)) l) (hl : l.length ≤ 256) : Raws l := ⟨fun x hx => wf_i64 (h.sl.2 x hx), hl⟩
theorem raw_is {l : List Int} (h : Raws l) (i : Nat) (hi : i ≤ 1000000) : ∃ v : Nat, m_ref_Raw l (i : Int) = some (v : Int) ∧ v ≤ 1000003 + i * 7919 := by
  unfold m_ref_Raw
  rw [ce]
  by_cases h0 : (l.length : Int) = 0
  · refine ⟨i * 31, ?_, by omega⟩
    simp only [h0, decide_true, cond_true]
    rw [show ar .mul .i64 (i : Int) 31 = ((i * 31 : Nat) : Int) from mul64 (b := 31) (by omega)]
  · have hl : 0 < l.length := by omega
    have hlt : i % l.length < l.length := Nat.mod_lt _ hl
    simp only [h0, decide_false, cond_false, nz_ok h0, Option.bind_some]
    rw [rem64, idx_get (List.getElem?_eq_getElem hlt), Option.bind_some]
    rw [pick_is (h.1 _ (List.getElem_mem hlt)) (by omega), Option.bind_some, quo64 (by omega)]
    have hp := pick_lt (c := l[i % l.length]) (n := 1000003) (by omega)
    have hd : i / l.length ≤ i := Nat.div_le_self _ _
    refine ⟨(pick l[i % l.length] 1000003).toNat + i / l.length * 7919, ?_, ?_⟩
    · rw [show ar .mul .i64 ((i / l.length : Nat) : Int) 7919 = ((i / l.length * 7919 : Nat) : Int) from mul64 (b := 7919) (by omega)]
      rw [addI (by omega)]
      have e : pick l[i % l.length] 1000003 = (((pick l[i % l.length] 1000003).toNat : Nat) : Int) := by omega
      rw [e]
      congr 1
    · have : i / l.length * 7919 ≤ i * 7919 := Nat.mul_le_mul_right _ hd
      omega
theorem wrap_byte (n : Int) : 0 ≤ IntKind.wrap .u8 n ∧ IntKind.wrap .u8 n ≤ 255 := by
  unfold IntKind.wrap
  simp only [IntKind.signed, IntKind.bits]
  simp; omega
def BlkOk (b : Blk) : Prop := b.length = 8 ∧ Bytes b
theorem zblk_ok : BlkOk zblk := ⟨rfl, fun x hx => by unfold zblk at hx; simp at hx; omega⟩
theorem set_ok {b : Blk} (h : BlkOk b) (i : Nat) (n : Int) : BlkOk (List.set b i (IntKind.wrap .u8 n)) := by
  refine ⟨by simpa using h.1, fun x hx => ?_⟩
  rcases List.mem_or_eq_of_mem_set hx with hx | rfl
  · exact h.2 x hx
  · exact wrap_byte n
/-- a loop whose state keeps what holds of it -/
theorem lp_ex {α β γ : Type} {step : α → Option (Step α (Ex β γ))} {k : β → Option γ} {B : Type} (st : Nat → B → α) (fin : B → β) (n : Nat) (I : Nat → B → Prop) (b0 : B) (hf : n < FUEL) (h0 : I 0 b0)
    (hs : ∀ i b, i < n → I i b → ∃ b', step (st i b) = some (.next (st (i + 1) b')) ∧ I (i + 1) b') (he : ∀ b, I n b → step (st n b) = some (.done (.brk (fin b)))) :
    ∃ b, I n b ∧ lp step (st 0 b0) k = k (fin b) := by
  have key : ∀ (m i f : Nat) (b : B), i + m = n → m < f → I i b → ∃ b', I n b' ∧ loop step f (st i b) = some (.brk (fin b')) := by
    intro m
    induction m with
    | zero =>
      intro i f b hi hf hI
      obtain ⟨f, rfl⟩ : ∃ f', f = f' + 1 := ⟨f - 1, by omega⟩
      have : i = n := by omega
      subst this
      exact ⟨b, hI, by simp [loop, he b hI]⟩
    | succ m ih =>
      intro i f b hi hf hI
      obtain ⟨f, rfl⟩ : ∃ f', f = f' + 1 := ⟨f - 1, by omega⟩
      obtain ⟨b', h1, h2⟩ := hs i b (by omega) hI
      obtain ⟨b2, h3, h4⟩ := ih (i + 1) f b' (by omega) (by omega) h2
      exact ⟨b2, h3, by simp [loop, h1, h4]⟩
  obtain ⟨b, h1, h2⟩ := key n 0 FUEL b0 (by omega) hf h0
  exact ⟨b, h1, by unfold lp; rw [h2]⟩
theorem blockFrom_ok {l : List Int} (h : Raws l) (at_ : Nat) (ha : at_ ≤ 100000) : ∃ b, m_ref_BlockFrom l (at_ : Int) = some b ∧ BlkOk b := by
  unfold m_ref_BlockFrom
  obtain ⟨v, hv, hvl⟩ := raw_is h at_ (by omega)
  rw [hv, Option.bind_some, ce]
  by_cases h3 : ar .rem .i64 (v : Int) 3 = 0
  · exact ⟨zblk, by simp [h3], zblk_ok⟩
  · have hz : Sw.idx zblk (0 : Int) = some 0 := by unfold Sw.idx zblk; simp
    simp only [h3, decide_false, cond_false, hz, Option.bind_some, jp]
    have hb0 : BlkOk (List.set zblk (Int.toNat (0 : Int)) (IntKind.wrap .u8 (ar .add .i64 (1 : Int) (ar .rem .i64 (ar .quo .i64 (v : Int) (3 : Int)) (5 : Int))))) := set_ok zblk_ok _ _
    by_cases h4 : ar .rem .i64 (v : Int) 3 = 2
    · rw [ce]
      simp only [h4, decide_true, cond_true]
      obtain ⟨b, h5, h6⟩ := lp_ex (γ := Blk) (step := fun (s32 : Int × Blk) =>
            bif (cm .lss s32.1 (8 : Int)) then
              (m_ref_Raw l (ar .add .i64 (at_ : Int) s32.1)).bind fun v39 =>
                (Sw.idx s32.2 s32.1).bind fun _ =>
                  some (.next ((ar .add .i64 s32.1 (1 : Int)), (List.set s32.2 (Int.toNat s32.1) (IntKind.wrap .u8 (ar .quo .i64 v39 (7 : Int))))))
            else
              some (.done (.brk s32.2))) (k := fun x37 => some x37) (fun (i : Nat) (b : Blk) => (((i + 1 : Nat) : Int), b)) id 7 (fun _ b => BlkOk b) (List.set zblk (Int.toNat (0 : Int)) (IntKind.wrap .u8 (ar .add .i64 (1 : Int) (ar .rem .i64 (ar .quo .i64 (v : Int) (3 : Int)) (5 : Int))))) (by decide) hb0
        (fun i b hi hb => by
          have hlt : ((i + 1 : Nat) : Int) < 8 := by omega
          obtain ⟨v2, hv2, _⟩ := raw_is h (at_ + (i + 1)) (by omega)
          obtain ⟨y, hy, _⟩ := idx_nat (l := b) (n := ((i + 1 : Nat) : Int)) (by omega) (by have := hb.1; omega)
          have hadd : ar .add .i64 ((at_ : Nat) : Int) ((i + 1 : Nat) : Int) = ((at_ + (i + 1) : Nat) : Int) := add64 (by omega)
          have hn : ar .add .i64 ((i + 1 : Nat) : Int) 1 = ((i + 1 + 1 : Nat) : Int) := nxt (by omega)
          refine ⟨_, ?_, set_ok hb (Int.toNat ((i + 1 : Nat) : Int)) (ar .quo .i64 (v2 : Int) 7)⟩
          simp only [cl, hlt, decide_true, cond_true, hadd, hv2, hy, hn, Option.bind_some])
        (fun b hb => by
          have hlt : ¬ ((7 + 1 : Nat) : Int) < 8 := by omega
          simp only [cl, hlt, decide_false, cond_false]; rfl)
      exact ⟨b, h6, h5⟩
    · rw [ce]
      simp only [h4, decide_false, cond_false]
      exact ⟨_, rfl, hb0⟩
theorem own_is (bs : List Blk) (h : bs.length ≤ 1000000) : m_ref_OwnBlocks bs = some bs := by
  unfold m_ref_OwnBlocks
  rw [app_small _ _ (by simp; omega)]
  rfl
end Go.Pl

namespace Go.Pl
open Go Go.Sw Go.Mo
theorem ris_putF {n : Int} {p : Put} (hp : 0 ≤ p.1 ∧ p.1 < n) {l : List Put} (h : risB n (-1) l = true) : risB n (-1) (putF l p) = true := by
  obtain ⟨L1, L2, rfl, h1, h2, h3⟩ := ris_split n p.1 l _ h
  rw [split_putF h1 h2]
  have h4 : ∀ (L1 : List Put) (last : Int) (R : List Put), risB n last (L1 ++ L2) = true → (∀ x ∈ L1, x.1 < p.1) → last < p.1 → (∀ last', last' < p.1 → risB n last' L2 = true → risB n last' R = true) → risB n last (L1 ++ R) = true := by
    intro L1
    induction L1 with
    | nil => intro last R hh _ hl hR; exact hR last hl hh
    | cons x L1 ih =>
      intro last R hh hx hl hR
      simp only [List.cons_append, risB] at hh ⊢
      split at hh
      · cases hh
      · rename_i hn
        rw [if_neg hn]
        exact ih x.1 R hh (fun y hy => hx y (by simp [hy])) (hx x (by simp)) hR
  refine h4 L1 (-1) _ h h1 (by omega) fun last' hl' hL2 => ?_
  simp only [risB]
  rw [if_neg (by omega), h3]
  cases L2 with
  | nil => rfl
  | cons y L2 =>
    simp only [risB] at hL2
    split at hL2
    · cases hL2
    · rename_i hn
      by_cases hy : y.1 = p.1
      · simp only [hy, if_true]; rw [← hy]; exact hL2
      · simp only [hy, if_false, risB]
        have := h2 y (by simp)
        rw [if_neg (by omega)]; exact hL2
theorem seB_append {n base : Int} {e : Ep} : ∀ {l : List Ep} {i : Int}, seB n base i l = true → risB n (-1) e.2 = true → e.1 = base + i + l.length → seB n base i (l ++ [e]) = true
  | [], i, _, h1, h2 => by simp only [List.nil_append, seB]; rw [if_pos ⟨h1, by simpa using h2⟩]
  | x :: l, i, h, h1, h2 => by
    simp only [List.cons_append, seB] at h ⊢
    split at h
    · rename_i hx
      rw [if_pos hx]
      exact seB_append h h1 (by rw [h2]; simp only [List.length_cons]; omega)
    · cases h
theorem seB_filter {n base num : Int} : ∀ {l : List Ep} {i : Int}, seB n base i l = true → seB n (base + (l.length - (l.filter fun e => decide (num < e.1)).length : Int)) i (l.filter fun e => decide (num < e.1)) = true
  | [], _, _ => by simp [seB]
  | x :: l, i, h => by
    have hh := h
    simp only [seB] at h
    split at h
    · rename_i hx
      by_cases hn : num < x.1
      · -- all stay
        have hall : ∀ {l : List Ep} {j : Int}, seB n base j l = true → num < base + j → ∀ e ∈ l, num < e.1 := by
          intro l
          induction l with
          | nil => intro j _ _ e he; simp at he
          | cons y l ih =>
            intro j hj hlt e he
            simp only [seB] at hj
            split at hj
            · rename_i hy
              rcases List.mem_cons.1 he with rfl | he
              · omega
              · exact ih hj (by omega) e he
            · cases hj
        have hf : (x :: l).filter (fun e => decide (num < e.1)) = x :: l := List.filter_eq_self.2 fun e he => by
          rcases List.mem_cons.1 he with rfl | he
          · simpa using hn
          · have := hall h (by omega) e he; simpa using this
        rw [hf]
        simpa using hh
      · have hf : (x :: l).filter (fun e => decide (num < e.1)) = l.filter (fun e => decide (num < e.1)) := by simp [hn]
        rw [hf]
        have ih := seB_filter (num := num) h
        have hsh : ∀ {l : List Ep} {b j : Int}, seB n b (j + 1) l = true → seB n (b + 1) j l = true := by
          intro l
          induction l with
          | nil => intro _ _ _; rfl
          | cons y l ih =>
            intro b j hj
            simp only [seB] at hj ⊢
            split at hj
            · rename_i hy
              rw [if_pos ⟨hy.1, by omega⟩]
              exact ih hj
            · cases hj
        have := hsh ih
        have e : base + ((l.length : Int) - ((l.filter fun e => decide (num < e.1)).length : Int)) + 1 = base + (((x :: l).length : Int) - ((l.filter fun e => decide (num < e.1)).length : Int)) := by
          simp only [List.length_cons]; omega
        rw [e] at this; exact this
    · cases h
theorem bmay_mk {b : Bd} {n : Int} (h1 : 1 ≤ n ∧ n ≤ 32) (h2 : 0 ≤ b.1 ∧ b.1 ≤ 2147483647) (h3 : b.2.2.1.length ≤ 4) (h4 : risB n (-1) b.2.1 = true) (h5 : ¬ (b.2.2.2 = true ∧ b.2.2.1.length > 0)) (h6 : (b.2.2.1.length : Int) ≤ b.1) (h7 : seB n (b.1 - b.2.2.1.length + 1) 0 b.2.2.1 = true) : bmay b n = 0 := by
  unfold bmay
  rw [if_neg (by omega), if_neg (by omega), if_pos ⟨h4, h5, h6, h7⟩]
theorem sm_of {b : Bd} {n : Int} (h : bmay b n = 0) : Sm b := by
  obtain ⟨k1, k2, k3, k4, k5, k6, k7, k8, k9⟩ := bmay_ok h
  have hlen : ∀ (l : List Put) (last : Int), -1 ≤ last → risB n last l = true → (l.length : Int) ≤ n - last - 1 ∨ l = [] := by
    intro l
    induction l with
    | nil => intro _ _ _; exact .inr rfl
    | cons x l ih =>
      intro last hl h
      simp only [risB] at h
      split at h
      · cases h
      · rename_i hn
        left
        rcases ih x.1 (by omega) h with h5 | h5
        · simp only [List.length_cons]; omega
        · subst h5; simp only [List.length_cons, List.length_nil]; omega
  have hl2 : ∀ l : List Put, risB n (-1) l = true → l.length ≤ 1000000 := fun l h => by
    rcases hlen l (-1) (by omega) h with h5 | h5
    · omega
    · subst h5; simp
  exact ⟨hl2 _ k6, by omega, fun e he => hl2 _ (seB_all k9 e he)⟩
theorem add_may {b : Bd} {n : Int} {p : Put} (h : bmay b n = 0) (hp : 0 ≤ p.1 ∧ p.1 < n) : bmay (b.1, putF b.2.1 p, b.2.2.1, b.2.2.2) n = 0 := by
  obtain ⟨k1, k2, k3, k4, k5, k6, k7, k8, k9⟩ := bmay_ok h
  exact bmay_mk ⟨k1, k2⟩ ⟨k3, k4⟩ k5 (ris_putF hp k6) k7 k8 k9
theorem drop_may {b : Bd} {n num : Int} (h : bmay b n = 0) (_hn : 0 ≤ num ∧ num ≤ b.1) : bmay (b.1, b.2.1, b.2.2.1.filter (fun e => decide (num < e.1)), if num = b.1 then false else b.2.2.2) n = 0 := by
  obtain ⟨k1, k2, k3, k4, k5, k6, k7, k8, k9⟩ := bmay_ok h
  have hfl := List.length_filter_le (fun e : Ep => decide (num < e.1)) b.2.2.1
  refine bmay_mk ⟨k1, k2⟩ ⟨k3, k4⟩ (Nat.le_trans hfl k5) k6 ?_ (by simp only; omega) ?_
  · rintro ⟨h1, h2⟩
    simp only at h1 h2
    split at h1
    · cases h1
    · exact k7 ⟨h1, by omega⟩
  · have := seB_filter (num := num) k9
    have e : b.1 - (b.2.2.1.length : Int) + 1 + ((b.2.2.1.length : Int) - ((b.2.2.1.filter fun e => decide (num < e.1)).length : Int)) = b.1 - ((b.2.2.1.filter fun e => decide (num < e.1)).length : Int) + 1 := by omega
    rw [e] at this; exact this
def sealV (b : Bd) : Bd := if b.2.2.2 = true then (b.1 + 1, [], b.2.2.1, b.2.2.2) else if b.2.2.1.length = 4 then (b.1 + 1, [], [], true) else (b.1 + 1, [], b.2.2.1 ++ [(b.1 + 1, b.2.1)], b.2.2.2)
theorem seal_may {b : Bd} {n : Int} (h : bmay b n = 0) (hn : b.1 < 2147483647) : bmay (sealV b) n = 0 := by
  obtain ⟨k1, k2, k3, k4, k5, k6, k7, k8, k9⟩ := bmay_ok h
  unfold sealV
  cases hbh : b.2.2.2 with
  | true =>
    have hs : b.2.2.1 = [] := List.eq_nil_of_length_eq_zero (by simp [hbh] at k7; simp [k7])
    simp only [if_true, hs]
    exact bmay_mk ⟨k1, k2⟩ (by simp only; omega) (by simp) rfl (by simp) (by simp; omega) rfl
  | false =>
    by_cases h4 : b.2.2.1.length = 4
    · simp only [Bool.false_eq_true, if_false, h4, if_true]
      exact bmay_mk ⟨k1, k2⟩ (by simp only; omega) (by simp) rfl (by simp) (by simp; omega) rfl
    · simp only [Bool.false_eq_true, if_false, h4]
      refine bmay_mk ⟨k1, k2⟩ (by simp only; omega) (by simp; omega) rfl (by simp) (by simp; omega) ?_
      have e : b.1 + 1 - ((b.2.2.1 ++ [(b.1 + 1, b.2.1)]).length : Int) + 1 = b.1 - (b.2.2.1.length : Int) + 1 := by simp; omega
      simp only
      rw [e]
      exact seB_append k9 k6 (by simp only; omega)
theorem seal_ok {b : Bd} {n : Int} (h : bmay b n = 0) (hn : b.1 < 2147483647) : m_epoch_Seal b n = some (sealV b, none) := by
  rw [seal_is b n (sm_of h), if_neg (by omega), if_neg (by omega)]
  unfold sealV
  split
  · rfl
  · split <;> rfl
theorem add_ok {b : Bd} {n : Int} {p : Put} (h : bmay b n = 0) (hp : 0 ≤ p.1 ∧ p.1 < n) : m_epoch_Add b n p = some ((b.1, putF b.2.1 p, b.2.2.1, b.2.2.2), none) := by
  rw [add_is b n p (sm_of h), if_neg (by omega), if_neg (by omega)]
theorem rem_lt {a m : Int} (ha : 0 ≤ a) (hm : 0 < m) : 0 ≤ ar .rem .i64 a m ∧ ar .rem .i64 a m < m := ⟨Int.tmod_nonneg _ ha, Int.tmod_lt_of_pos _ hm⟩
end Go.Pl

namespace Go.Pl
open Go Go.Sw Go.Mo
/-- puts written one after the other -/
def apl (bs : List Blk) (ps : List Put) : List Blk := ps.foldl (fun bs p => bs.set p.1.toNat p.2) bs
/-- the last put at a place -/
def getP (l : List Put) (i : Nat) : Option Put := l.reverse.find? fun q => q.1 == (i : Int)
theorem bd_eta (b : Bd) : (b.1, b.2.1, b.2.2.1, b.2.2.2) = b := rfl

theorem getP_cons (p : Put) (l : List Put) (i : Nat) : getP (p :: l) i = (getP l i).or (if p.1 = (i : Int) then some p else none) := by
  unfold getP
  rw [List.reverse_cons, List.find?_append]
  congr 1
  by_cases h : p.1 = (i : Int)
  · simp [h]
  · simp [h]
theorem getP_snoc (p : Put) (l : List Put) (i : Nat) : getP (l ++ [p]) i = if p.1 = (i : Int) then some p else getP l i := by
  unfold getP
  rw [List.reverse_append]
  by_cases h : p.1 = (i : Int)
  · simp [h]
  · simp [h]
theorem apl_len (ps : List Put) : ∀ bs : List Blk, (apl bs ps).length = bs.length := by
  induction ps with
  | nil => intro _; rfl
  | cons p ps ih => intro bs; show (apl (bs.set p.1.toNat p.2) ps).length = _; rw [ih, List.length_set]
theorem apl_get : ∀ (l : List Put) (bs : List Blk) (i : Nat), (∀ p ∈ l, 0 ≤ p.1) → (apl bs l)[i]? = match getP l i with | some p => if i < bs.length then some p.2 else none | none => bs[i]?
  | [], bs, i, _ => rfl
  | p :: l, bs, i, h => by
    have hp := h p (by simp)
    show (apl (bs.set p.1.toNat p.2) l)[i]? = _
    rw [apl_get l _ i fun q hq => h q (by simp [hq]), getP_cons]
    cases hg : getP l i with
    | some q => simp [hg]
    | none =>
      simp only [Option.none_or]
      by_cases hi : p.1 = (i : Int)
      · have : p.1.toNat = i := by omega
        rw [if_pos hi, this, List.getElem?_set]
        simp
      · have : p.1.toNat ≠ i := by omega
        rw [if_neg hi, List.getElem?_set_ne this]
theorem apl_congr {bs : List Blk} {l l' : List Put} (h : ∀ p ∈ l, 0 ≤ p.1) (h' : ∀ p ∈ l', 0 ≤ p.1) (hg : ∀ i, getP l i = getP l' i) : apl bs l = apl bs l' := by
  apply List.ext_getElem?
  intro i
  rw [apl_get l bs i h, apl_get l' bs i h', hg i]
theorem getP_putF {n : Int} {l : List Put} {p : Put} (h : risB n (-1) l = true) (i : Nat) : getP (putF l p) i = getP (l ++ [p]) i := by
  obtain ⟨L1, L2, rfl, h1, h2, _⟩ := ris_split n p.1 l _ h
  rw [split_putF h1 h2, getP_snoc]
  unfold getP
  simp only [List.reverse_append, List.reverse_cons, List.find?_append]
  have hr : ((L2.filter fun x => decide (x.1 ≠ p.1)).reverse.find? fun q => q.1 == (i : Int)) = if p.1 = (i : Int) then none else L2.reverse.find? fun q => q.1 == (i : Int) := by
    rw [← List.filter_reverse, List.find?_filter]
    split
    · rename_i hi
      rw [List.find?_eq_none]
      intro x _
      simp; omega
    · rename_i hi
      congr 1
      funext x
      by_cases hx : x.1 = (i : Int)
      · have : x.1 ≠ p.1 := by omega
        simp [hx]; omega
      · simp [hx]
  rw [hr]
  by_cases hi : p.1 = (i : Int)
  · simp [hi]
  · simp [hi]
/-! ### places -/
def atA (A : List (Option Put)) (i : Nat) : Option Put := (A[i]?).join
theorem getP_rel {A : List (Option Put)} (h : Rel A) (i : Nat) : getP (A.filterMap id) i = atA A i := by
  unfold getP atA
  have hfind : ∀ q, (A.filterMap id).reverse.find? (fun q => q.1 == (i : Int)) = some q → (A[i]?).join = some q := by
    intro q hq
    have h1 := List.find?_some hq
    have h2 := List.mem_of_find?_eq_some hq
    rw [List.mem_reverse, List.mem_filterMap] at h2
    obtain ⟨o, ho, hoq⟩ := h2
    simp only [id_eq] at hoq; subst hoq
    obtain ⟨j, hj, hjo⟩ := List.getElem_of_mem ho
    have hjq : A[j]? = some (some q) := by rw [List.getElem?_eq_getElem hj, hjo]
    have h3 := h j q hjq
    have : j = i := by simp at h1; omega
    subst this
    rw [hjq]; rfl
  cases hq : (A.filterMap id).reverse.find? (fun q => q.1 == (i : Int)) with
  | some q => rw [hfind q hq]
  | none =>
    rw [List.find?_eq_none] at hq
    cases hA : A[i]? with
    | none => rfl
    | some o =>
      cases o with
      | none => rfl
      | some q =>
        have h3 := h i q hA
        exfalso
        refine hq q ?_ (by simp [h3])
        rw [List.mem_reverse, List.mem_filterMap]
        exact ⟨some q, List.mem_of_getElem? hA, rfl⟩
theorem mem_rel {A : List (Option Put)} {p : Put} (h : p ∈ A.filterMap id) : ∃ j : Nat, A[j]? = some (some p) := by
  obtain ⟨o, ho, hoq⟩ := List.mem_filterMap.1 h
  simp only [id_eq] at hoq; subst hoq
  obtain ⟨j, hj, hjo⟩ := List.getElem_of_mem ho
  exact ⟨j, by rw [List.getElem?_eq_getElem hj, hjo]⟩
theorem rel_nonneg {A : List (Option Put)} (h : Rel A) {p : Put} (hp : p ∈ A.filterMap id) : 0 ≤ p.1 ∧ p.1 < (A.length : Int) := by
  obtain ⟨j, hj⟩ := mem_rel hp
  have := h j p hj
  have hl := (List.getElem?_eq_some_iff.1 hj).1
  omega
theorem atA_set {A : List (Option Put)} {p : Put} (h0 : 0 ≤ p.1) (hl : p.1 < (A.length : Int)) (i : Nat) : atA (setA A p) i = if p.1 = (i : Int) then some p else atA A i := by
  unfold atA setA
  by_cases hi : p.1 = (i : Int)
  · have : p.1.toNat = i := by omega
    rw [if_pos hi, this, List.getElem?_set]
    have : i < A.length := by omega
    simp [this]
  · have : p.1.toNat ≠ i := by omega
    rw [if_neg hi, List.getElem?_set_ne this]
theorem apl_setA {bs : List Blk} : ∀ (ps : List Put) {A : List (Option Put)}, Rel A → (∀ p ∈ ps, 0 ≤ p.1 ∧ p.1 < (A.length : Int)) → apl bs ((ps.foldl setA A).filterMap id) = apl (apl bs (A.filterMap id)) ps ∧ Rel (ps.foldl setA A)
  | [], _, h, _ => ⟨rfl, h⟩
  | p :: ps, A, h, hps => by
    have hp := hps p (by simp)
    have h1 := h.set hp.1
    obtain ⟨k1, k2⟩ := apl_setA (bs := bs) ps h1 fun q hq => by rw [show (setA A p).length = A.length from List.length_set]; exact hps q (by simp [hq])
    refine ⟨?_, k2⟩
    show apl bs ((ps.foldl setA (setA A p)).filterMap id) = apl ((apl bs (A.filterMap id)).set p.1.toNat p.2) ps
    rw [k1]
    congr 1
    have : (apl bs (A.filterMap id)).set p.1.toNat p.2 = apl bs (A.filterMap id ++ [p]) := by unfold apl; rw [List.foldl_append]; rfl
    rw [this]
    refine apl_congr (fun q hq => (rel_nonneg h1 hq).1) (fun q hq => ?_) fun i => ?_
    · rcases List.mem_append.1 hq with hq | hq
      · exact (rel_nonneg h hq).1
      · simp at hq; subst hq; exact hp.1
    · rw [getP_rel h1, atA_set hp.1 hp.2, getP_snoc, getP_rel h]
/-- what the epochs made of the blocks at their barriers -/
def Chain (snaps : List (List Blk)) (l : List Ep) : Prop := ∀ e ∈ l, 1 ≤ e.1 ∧ apl (snaps.getD (e.1 - 1).toNat []) e.2 = snaps.getD e.1.toNat []
theorem chain_since {n base k : Int} {snaps : List (List Blk)} (hn : n ≤ 32) (hk : base - 1 ≤ k) (hb : 1 ≤ base) : ∀ (l : List Ep), seB n base 0 l = true → Chain snaps l →
    apl (snaps.getD k.toNat []) ((sinceA (List.replicate 32 none) k l).filterMap id) = snaps.getD (max k (base + l.length - 1)).toNat [] ∧ Rel (sinceA (List.replicate 32 none) k l) := by
  have hsplit : ∀ (l : List Ep) (i : Int) (e : Ep), seB n base i (l ++ [e]) = true → seB n base i l = true ∧ risB n (-1) e.2 = true ∧ e.1 = base + i + l.length := by
    intro l
    induction l with
    | nil =>
      intro i e h
      simp only [List.nil_append, seB] at h
      split at h
      · rename_i h1; exact ⟨rfl, h1.1, by simpa using h1.2⟩
      · cases h
    | cons x l ih =>
      intro i e h
      simp only [List.cons_append, seB] at h ⊢
      split at h
      · rename_i h1
        obtain ⟨k1, k2, k3⟩ := ih (i + 1) e h
        rw [if_pos h1]
        exact ⟨k1, k2, by rw [k3]; simp only [List.length_cons]; omega⟩
      · cases h
  have key : ∀ (m : Nat) (l : List Ep), l.length = m → seB n base 0 l = true → Chain snaps l →
    apl (snaps.getD k.toNat []) ((sinceA (List.replicate 32 none) k l).filterMap id) = snaps.getD (max k (base + l.length - 1)).toNat [] ∧ Rel (sinceA (List.replicate 32 none) k l) := by
    intro m
    induction m with
    | zero =>
      intro l hl _ _
      have := List.eq_nil_of_length_eq_zero hl
      subst this
      refine ⟨?_, fun j p hj => ?_⟩
      · have : (sinceA (List.replicate 32 (none : Option Put)) k []).filterMap id = [] := by simp [sinceA, List.filterMap_replicate]
        rw [this]
        have : max k (base + (([] : List Ep).length : Int) - 1) = k := by simp only [List.length_nil]; omega
        rw [this]; rfl
      · simp only [sinceA, List.foldl_nil, List.getElem?_replicate] at hj
        split at hj <;> cases hj
    | succ m ih =>
      intro l hl hse hch
      rcases List.eq_nil_or_concat l with rfl | ⟨q, e, rfl⟩
      · simp at hl
      rw [List.concat_eq_append] at hl hse hch ⊢
      obtain ⟨h1, h2, h3⟩ := hsplit q 0 e hse
      obtain ⟨k1, k2⟩ := ih q (by simp at hl; exact hl) h1 fun e' he' => hch e' (by simp [he'])
      obtain ⟨c1, c2⟩ := hch e (by simp)
      have hl2 : ((q ++ [e]).length : Int) = q.length + 1 := by simp
      have hs : sinceA (List.replicate 32 none) k (q ++ [e]) = if k < e.1 then e.2.foldl setA (sinceA (List.replicate 32 none) k q) else sinceA (List.replicate 32 none) k q := by simp [sinceA]
      rw [hs, hl2]
      by_cases hke : k < e.1
      · rw [if_pos hke]
        have hbd := ris_bounds n e.2 _ h2
        have hlen : (sinceA (List.replicate 32 (none : Option Put)) k q).length = 32 := by rw [sinceA_len]; simp
        obtain ⟨a1, a2⟩ := apl_setA (bs := snaps.getD k.toNat []) e.2 k2 fun p hp => by have := hbd p hp; omega
        refine ⟨?_, a2⟩
        rw [a1, k1]
        have e1 : max k (base + (q.length : Int) - 1) = e.1 - 1 := by omega
        have e2 : max k (base + ((q.length : Int) + 1) - 1) = e.1 := by omega
        rw [e1, e2, c2]
      · rw [if_neg hke]
        refine ⟨?_, k2⟩
        rw [k1]
        congr 2
        omega
  intro l h1 h2
  exact key l.length l rfl h1 h2
theorem sameBlocks_self (l : List Blk) (hl : l.length ≤ 1000000) : m_ref_SameBlocks l l = some true := by
  unfold m_ref_SameBlocks
  simp only [cn, ne_eq, not_true_eq_false, decide_false, cond_false]
  exact same_loop l hl _
/-- what holds on the way -/
structure EpI (m : Nat) (i : Nat) (b : Bd) (now : List Blk) (snaps : List (List Blk)) : Prop where
  may : bmay b (m : Int) = 0
  num : (snaps.length : Int) = b.1 + 1
  le : b.1 ≤ i
  nowl : now.length = m
  len : ∀ s ∈ snaps, s.length = m
  open_ : apl (snaps.getD b.1.toNat []) b.2.1 = now
  chain : Chain snaps b.2.2.1
  all : b.2.2.2 = false → (b.2.2.1.length : Int) = b.1
theorem EpI.add {m i : Nat} {b : Bd} {now : List Blk} {snaps : List (List Blk)} (h : EpI m i b now snaps) {p : Put} (hp : 0 ≤ p.1 ∧ p.1 < m) : EpI m (i + 1) (b.1, putF b.2.1 p, b.2.2.1, b.2.2.2) (now.set p.1.toNat p.2) snaps := by
  obtain ⟨k1, k2, k3, k4, k5, k6, k7, k8, k9⟩ := bmay_ok h.may
  have hbd := ris_bounds m b.2.1 _ k6
  have hbd2 := ris_bounds m (putF b.2.1 p) _ (ris_putF hp k6)
  refine ⟨add_may h.may hp, h.num, by have := h.le; simp only; omega, by rw [List.length_set]; exact h.nowl, h.len, ?_, h.chain, h.all⟩
  have e1 : apl (snaps.getD b.1.toNat []) (putF b.2.1 p) = apl (snaps.getD b.1.toNat []) (b.2.1 ++ [p]) :=
    apl_congr (fun q hq => by have := hbd2 q hq; omega) (fun q hq => by
      rcases List.mem_append.1 hq with hq | hq
      · have := hbd q hq; omega
      · simp at hq; subst hq; exact hp.1) fun i => getP_putF k6 i
  show apl (snaps.getD b.1.toNat []) (putF b.2.1 p) = _
  rw [e1]
  have e2 := h.open_
  unfold apl at e2 ⊢
  rw [List.foldl_append, e2]; rfl
theorem getD_app {A : Type} {l : List A} {x d : A} {i : Nat} (h : i < l.length) : (l ++ [x]).getD i d = l.getD i d := by
  rw [List.getD_eq_getElem?_getD, List.getD_eq_getElem?_getD, List.getElem?_append_left h]
theorem getD_last {A : Type} {l : List A} {x d : A} {i : Nat} (h : i = l.length) : (l ++ [x]).getD i d = x := by
  subst h; rw [List.getD_eq_getElem?_getD]; simp
theorem EpI.shut {m i : Nat} {b : Bd} {now : List Blk} {snaps : List (List Blk)} (h : EpI m i b now snaps) (hi : i ≤ 1000) : EpI m (i + 1) (sealV b) now (snaps ++ [now]) := by
  obtain ⟨k1, k2, k3, k4, k5, k6, k7, k8, k9⟩ := bmay_ok h.may
  have hle := h.le
  have hnum := h.num
  have hsv : (sealV b).1 = b.1 + 1 := by unfold sealV; split; rfl; split <;> rfl
  have hop : (sealV b).2.1 = [] := by unfold sealV; split; rfl; split <;> rfl
  have hnums : ∀ e ∈ b.2.2.1, e.1 ≤ b.1 := by
    have hgen : ∀ (l : List Ep) (j : Int), seB (m : Int) (b.1 - b.2.2.1.length + 1) j l = true → ∀ e ∈ l, e.1 ≤ b.1 - b.2.2.1.length + j + l.length := by
      intro l
      induction l with
      | nil => intro _ _ e he; simp at he
      | cons x l ih =>
        intro j hj e he
        simp only [seB] at hj
        split at hj
        · rename_i hx
          rcases List.mem_cons.1 he with rfl | he
          · simp only [List.length_cons]; omega
          · have := ih (j + 1) hj e he; simp only [List.length_cons]; omega
        · cases hj
    intro e he
    have := hgen _ 0 k9 e he; omega
  have hold : Chain (snaps ++ [now]) b.2.2.1 := fun e he => by
    obtain ⟨c1, c2⟩ := h.chain e he
    have := hnums e he
    exact ⟨c1, by rw [getD_app (by omega), getD_app (by omega)]; exact c2⟩
  refine ⟨seal_may h.may (by omega), by rw [hsv]; simp; omega, by rw [hsv]; omega, h.nowl, fun s hs => ?_, ?_, ?_, ?_⟩
  · rcases List.mem_append.1 hs with hs | hs
    · exact h.len s hs
    · simp at hs; subst hs; exact h.nowl
  · rw [hop, hsv, getD_last (by omega)]; rfl
  · unfold sealV
    split
    · exact hold
    · split
      · intro e he; simp at he
      · intro e he
        rcases List.mem_append.1 he with he | he
        · exact hold e he
        · simp only [List.mem_singleton] at he
          subst he
          refine ⟨by simp only; omega, ?_⟩
          simp only
          rw [show b.1 + 1 - 1 = b.1 by omega, getD_app (by omega), getD_last (by omega)]
          exact h.open_
  · intro hb
    unfold sealV at hb ⊢
    split at hb
    · rename_i h1; rw [h1] at hb; cases hb
    · rename_i h1
      split at hb
      · cases hb
      · rename_i h2
        rw [if_neg h1, if_neg h2]
        have := h.all (by simpa using h1)
        simp; omega
theorem mk_is (m : Nat) (h : m ≤ 1000) : Sw.mk (m : Int) zblk = some (List.replicate m zblk) := by
  unfold Sw.mk; rw [if_pos (by omega)]; simp
/-- as lp_ex, told of what comes behind -/
theorem lp_ex' {α β γ : Type} {step : α → Option (Step α (Ex β γ))} {k : β → Option γ} {B : Type} {r : Option γ} (st : Nat → B → α) (fin : B → β) (n : Nat) (I : Nat → B → Prop) (b0 : B) (hf : n < FUEL) (h0 : I 0 b0)
    (hs : ∀ i b, i < n → I i b → ∃ b', step (st i b) = some (.next (st (i + 1) b')) ∧ I (i + 1) b') (he : ∀ b, I n b → step (st n b) = some (.done (.brk (fin b)))) (hr : ∀ b, I n b → k (fin b) = r) : lp step (st 0 b0) k = r := by
  obtain ⟨b, h1, h2⟩ := lp_ex (k := k) st fin n I b0 hf h0 hs he
  rw [h2, hr b h1]
theorem sinceA_mem {n k : Int} {l : List Ep} (h : ∀ e ∈ l, risB n (-1) e.2 = true) {j : Nat} {p : Put} (hp : (sinceA (List.replicate 32 none) k l)[j]? = some (some p)) : 0 ≤ p.1 ∧ p.1 < n := by
  have hset : ∀ (q : List Put) (A : List (Option Put)), (∀ x ∈ q, 0 ≤ x.1 ∧ x.1 < n) → (∀ (j : Nat) (p : Put), A[j]? = some (some p) → 0 ≤ p.1 ∧ p.1 < n) → ∀ (j : Nat) (p : Put), (q.foldl setA A)[j]? = some (some p) → 0 ≤ p.1 ∧ p.1 < n := by
    intro q
    induction q with
    | nil => intro A _ h; exact h
    | cons x q ih =>
      intro A hx hA
      refine ih _ (fun y hy => hx y (by simp [hy])) fun j p hj => ?_
      unfold setA at hj
      rw [List.getElem?_set] at hj
      split at hj
      · split at hj
        · cases hj; exact hx _ (by simp)
        · cases hj
      · exact hA j p hj
  have hgen : ∀ (l : List Ep) (A : List (Option Put)), (∀ e ∈ l, risB n (-1) e.2 = true) → (∀ (j : Nat) (p : Put), A[j]? = some (some p) → 0 ≤ p.1 ∧ p.1 < n) → ∀ (j : Nat) (p : Put), (sinceA A k l)[j]? = some (some p) → 0 ≤ p.1 ∧ p.1 < n := by
    intro l
    induction l with
    | nil => intro A _ hA; exact hA
    | cons e l ih =>
      intro A he hA
      refine ih _ (fun e' he' => he e' (by simp [he'])) fun j p hj => ?_
      simp only at hj
      split at hj
      · exact hset e.2 A (fun x hx => by have := ris_bounds n e.2 _ (he e (by simp)) x hx; omega) hA j p hj
      · exact hA j p hj
  exact hgen l _ h (fun j p hj => by rw [List.getElem?_replicate] at hj; split at hj <;> cases hj) j p hp
theorem law_TopEpoch (a0 : List Int) (a1 a2 a3 a4 : Int) (w0 : Wf (Enc.sl (Enc.int .i64)) a0) (w1 : Wf (Enc.int .i64) a1) (w2 : Wf (Enc.int .i64) a2) (w3 : Wf (Enc.int .i64) a3) (w4 : Wf (Enc.int .i64) a4) : m_top_TopEpoch a0 a1 a2 a3 a4 = some true := by
  unfold m_top_TopEpoch
  by_cases hl : (a0.length : Int) > 128
  · simp [cg, hl]
  have hr : Raws a0 := wf_raws w0 (by omega)
  simp only [cg, hl, decide_false, cond_false]
  have i1 : I64 a1 := wf_i64 w1
  have i2 : I64 a2 := wf_i64 w2
  have i3 : I64 a3 := wf_i64 w3
  have i4 : I64 a4 := wf_i64 w4
  obtain ⟨p0, p1⟩ := pick_lt (c := a1) (n := 32) (by omega)
  obtain ⟨q0, q1⟩ := pick_lt (c := a2) (n := 100) (by omega)
  obtain ⟨r0, r1⟩ := pick_lt (c := a3) (n := 30) (by omega)
  obtain ⟨m, hm⟩ : ∃ m : Nat, (m : Int) = 1 + pick a1 32 := ⟨(1 + pick a1 32).toNat, by omega⟩
  have hadd1 : ar .add .i64 (1 : Int) (pick a1 32) = (m : Int) := by rw [addI (by omega), hm]
  obtain ⟨at_, hat⟩ : ∃ at_ : Nat, pick a2 100 = (at_ : Int) := ⟨(pick a2 100).toNat, by omega⟩
  obtain ⟨N, hN⟩ : ∃ N : Nat, pick a3 30 = (N : Int) := ⟨(pick a3 30).toNat, by omega⟩
  rw [pick_is i1 (by omega), Option.bind_some, pick_is i2 (by omega), Option.bind_some]
  simp only [hadd1, hat, mk_is m (by omega), Option.bind_some, own_is _ (show (List.replicate m zblk).length ≤ 1000000 by simp; omega), pick_is i3 (show (0 : Int) < 30 by omega), hN]
  have hnz : nz (m : Int) = some () := nz_ok (by omega)
  show lp _ ((fun (i : Nat) (s : Bd × List Blk × List (List Blk)) => ((i : Int), s.1.1, s.1.2.1, s.1.2.2.1, s.1.2.2.2, s.2.1, s.2.2)) 0 ((0, [], [], false), List.replicate m zblk, [List.replicate m zblk])) _ = _
  refine lp_ex' (fun (i : Nat) (s : Bd × List Blk × List (List Blk)) => ((i : Int), s.1.1, s.1.2.1, s.1.2.2.1, s.1.2.2.2, s.2.1, s.2.2)) (fun (s : Bd × List Blk × List (List Blk)) => (s.1.1, s.1.2.1, s.1.2.2.1, s.1.2.2.2, s.2.2)) N (fun i s => EpI m i s.1 s.2.1 s.2.2) ((0, [], [], false), List.replicate m zblk, [List.replicate m zblk]) (by unfold FUEL; omega)
    ⟨bmay_mk ⟨by omega, by omega⟩ (by simp) (by simp) rfl (by simp) (by simp) rfl, by simp, by simp, by simp, by simp, rfl, fun e he => by simp at he, fun _ => rfl⟩ ?_ ?_ ?_
  · rintro i ⟨b, now, snaps⟩ hi hI
    simp only at hI ⊢
    have hnow := hI.nowl
    have hle := hI.le
    have hnum := hI.num
    have hlt : cm .lss (i : Int) (N : Int) = true := by rw [cl]; simpa using hi
    obtain ⟨v, hv, hvl⟩ := raw_is hr (at_ + i) (by omega)
    obtain ⟨bl, hbl, _⟩ := blockFrom_ok hr (at_ + i) (by omega)
    have hadd : ar .add .i64 (at_ : Int) (i : Int) = ((at_ + i : Nat) : Int) := add64 (by omega)
    have hq : ar .quo .i64 (v : Int) 3 = ((v / 3 : Nat) : Int) := quo64 (b := 3) (by omega)
    have hn1 : ar .add .i64 (i : Int) 1 = ((i + 1 : Nat) : Int) := nxt (by omega)
    simp only [hlt, cond_true, hadd, hv, Option.bind_some, jp, hq, hnz, hbl, hn1, hadd1]
    by_cases h3 : cm .lss (ar .rem .i64 (v : Int) 3) 2 = true
    · have hp := rem_lt (a := ((v / 3 : Nat) : Int)) (m := (m : Int)) (by omega) (by omega)
      obtain ⟨x, hx, _⟩ := idx_nat (l := now) (n := ar .rem .i64 ((v / 3 : Nat) : Int) (m : Int)) hp.1 (by omega)
      have hI2 := hI.add (p := (ar .rem .i64 ((v / 3 : Nat) : Int) (m : Int), bl)) hp
      have hd : ¬ (b.1 ≠ (snaps.length : Int) - 1) := by omega
      refine ⟨((b.1, putF b.2.1 (ar .rem .i64 ((v / 3 : Nat) : Int) (m : Int), bl), b.2.2.1, b.2.2.2), now.set (ar .rem .i64 ((v / 3 : Nat) : Int) (m : Int)).toNat bl, snaps), ?_, hI2⟩
      rw [h3, cond_true, hx, Option.bind_some, add_ok hI.may hp, Option.bind_some]
      simp only [Option.isSome_none, cond_false]
      rw [subI (by omega), cn]
      simp [hd]
    · have h3' : cm .lss (ar .rem .i64 (v : Int) 3) 2 = false := by simpa using h3
      have hI2 := hI.shut (by omega)
      have hsv : (sealV b).1 = b.1 + 1 := by unfold sealV; split; rfl; split <;> rfl
      refine ⟨(sealV b, now, snaps ++ [now]), ?_, hI2⟩
      rw [h3', cond_false, seal_ok hI.may (by omega), Option.bind_some, own_is now (by omega), Option.bind_some, app_small _ _ (by simp; omega), Option.bind_some]
      simp only [Option.isSome_none, cond_false]
      rw [subI (by simp; omega), cn, hsv]
      have hd : ¬ (b.1 + 1 ≠ ((snaps ++ [now]).length : Int) - 1) := by simp; omega
      simp only [hd, decide_false, Option.bind_some, cond_false]
  · rintro ⟨b, now, snaps⟩ hI
    simp only [lss_self, cond_false]
  · rintro ⟨b, now, snaps⟩ hI
    simp only at hI ⊢
    obtain ⟨k1, k2, k3, k4, k5, k6, k7, k8, k9⟩ := bmay_ok hI.may
    have hnum := hI.num
    have hle := hI.le
    obtain ⟨t0, t1⟩ := pick_lt (c := a4) (n := (snaps.length : Int)) (by omega)
    rw [pick_is i4 (by omega), Option.bind_some]
    obtain ⟨k, hk⟩ : ∃ k : Nat, pick a4 (snaps.length : Int) = (k : Int) := ⟨(pick a4 (snaps.length : Int)).toNat, by omega⟩
    rw [hk]
    rw [hk] at t0 t1
    rw [bd_eta, since_is b m k (sm_of hI.may), Option.bind_some, if_neg (by have := hI.may; omega), if_neg (by omega)]
    by_cases hkn : b.1 - (k : Int) > (b.2.2.1.length : Int)
    · simp only [hkn, if_true, Option.isSome_none, cond_false, Bool.not_false, cond_true]
      cases hbh : b.2.2.2 with
      | true => rw [subI (by omega)]; cases cm .leq (b.1 - (k : Int)) 4 <;> rfl
      | false => have := hI.all hbh; omega
    · simp only [hkn, if_false, Option.isSome_none, cond_false, Bool.not_true, Option.bind_some]
      have hks : k < snaps.length := by omega
      rw [idx_get (List.getElem?_eq_getElem hks), Option.bind_some]
      have hsl : (snaps[k]).length = m := hI.len _ (List.getElem_mem hks)
      rw [own_is _ (by omega), Option.bind_some]
      obtain ⟨c1, c2⟩ := chain_since (k := (k : Int)) (snaps := snaps) (n := (m : Int)) (base := b.1 - (b.2.2.1.length : Int) + 1) (by omega) (by omega) (by omega) b.2.2.1 k9 hI.chain
      have hmax : max (k : Int) (b.1 - (b.2.2.1.length : Int) + 1 + (b.2.2.1.length : Int) - 1) = b.1 := by omega
      have hgk : snaps.getD (k : Int).toNat [] = snaps[k] := by rw [Int.toNat_natCast, List.getD_eq_getElem?_getD, List.getElem?_eq_getElem hks]; rfl
      rw [hmax, hgk] at c1
      obtain ⟨P, hP⟩ : ∃ P, P = (sinceA (List.replicate 32 none) (k : Int) b.2.2.1).filterMap id := ⟨_, rfl⟩
      rw [← hP] at c1 ⊢
      have hPb : ∀ p ∈ P, 0 ≤ p.1 ∧ p.1 < (m : Int) := fun p hp => by
        rw [hP] at hp
        obtain ⟨j, hj⟩ := mem_rel hp
        exact sinceA_mem (fun e he => seB_all k9 e he) hj
      have hPl : P.length ≤ 32 := by
        have := List.length_filterMap_le id (sinceA (List.replicate 32 (none : Option Put)) (k : Int) b.2.2.1)
        rw [← hP, sinceA_len] at this; simpa using this
      show lp _ ((fun (i : Nat) (a : List Blk) => ((i : Int), a)) 0 snaps[k]) _ = _
      refine lp_go' (l := P) (fun (i : Nat) (a : List Blk) => ((i : Int), a)) (fun pre a => a = apl snaps[k] pre) (fun a => a) snaps[k] (by unfold FUEL; omega) rfl ?_ ?_ ?_
      · intro pre x rest a h hIa
        have hp : pre.length ≤ 32 := by rw [h] at hPl; simp at hPl; omega
        have hx := hPb x (by rw [h]; simp)
        have hal : a.length = m := by rw [hIa, apl_len, hsl]
        have hx0 : ¬ (x.1 < 0) := by omega
        have hx1 : ¬ (x.1 ≥ (m : Int)) := by omega
        obtain ⟨y, hy, _⟩ := idx_nat (l := a) (n := x.1) (by omega) (by omega)
        refine ⟨a.set x.1.toNat x.2, ?_, by rw [hIa]; unfold apl; rw [List.foldl_append]; rfl⟩
        simp only [lss_len h, cond_true, idx_len h, Option.bind_some, cl, cge, hx0, hx1, decide_false, cond_false, hy, nxt (show pre.length ≤ 4611686018427387904 by omega)]
      · intro a _
        simp only [lss_self, cond_false]
      · intro a hIa
        have hal : a.length = m := by rw [hIa, apl_len, hsl]
        have hbt : b.1.toNat < snaps.length := by omega
        have hgl : Sw.idx snaps (ar .sub .i64 (snaps.length : Int) 1) = some (snaps.getD b.1.toNat []) := by
          rw [subI (by omega)]
          have : (snaps.length : Int) - 1 = (b.1.toNat : Int) := by omega
          rw [this, idx_get (List.getElem?_eq_getElem hbt), List.getD_eq_getElem?_getD, List.getElem?_eq_getElem hbt]; rfl
        rw [hgl, Option.bind_some, hIa, c1, sameBlocks_self _ (by rw [← c1, ← hIa]; omega)]
        rfl
end Go.Pl
