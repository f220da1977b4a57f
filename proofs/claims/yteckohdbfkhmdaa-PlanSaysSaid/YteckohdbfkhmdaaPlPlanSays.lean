/- The plain law: the model of the law answers true. Conditions: none. -/
import Derived.Test.YteckohdbfkhmdaaMoPlanSays
set_option linter.unusedVariables false
set_option linter.unusedSimpArgs false
namespace Go.Pl
open Go Go.Sw

/-- going over a list, with what is carried, till something is done -/
def foldS {A B D : Type} (g : Nat → A → B → Step B D) (fin : B → D) : Nat → B → List A → D
  | _, acc, [] => fin acc
  | i, acc, x :: xs => match g i x acc with
    | .next acc' => foldS g fin (i + 1) acc' xs
    | .done d => d

def stp {α B D : Type} (st : Nat → B → α) (i : Nat) : Step B D → Step α D
  | .next a => .next (st i a)
  | .done d => .done d
def out {β γ : Type} (k : β → Option γ) : Ex β γ → Option γ
  | .brk y => k y
  | .ret z => some z

theorem loop_list {α A B D : Type} {step : α → Option (Step α D)} {l : List A} (st : Nat → B → α) (g : Nat → A → B → Step B D) (fin : B → D)
    (hs : ∀ pre x rest acc, l = pre ++ x :: rest → step (st pre.length acc) = some (stp st (pre.length + 1) (g pre.length x acc)))
    (he : ∀ acc, step (st l.length acc) = some (.done (fin acc))) :
    ∀ (rest pre : List A) (acc : B) (f : Nat), l = pre ++ rest → rest.length < f → loop step f (st pre.length acc) = some (foldS g fin pre.length acc rest)
  | [], pre, acc, f, hl, hf => by
    obtain ⟨f, rfl⟩ : ∃ f', f = f' + 1 := ⟨f - 1, by simp at hf; omega⟩
    have := he acc
    rw [hl, List.append_nil] at this
    simp [loop, this, foldS]
  | x :: rest, pre, acc, f, hl, hf => by
    obtain ⟨f, rfl⟩ : ∃ f', f = f' + 1 := ⟨f - 1, by simp at hf; omega⟩
    have h1 := hs pre x rest acc hl
    simp only [loop, h1, foldS]
    cases hg : g pre.length x acc with
    | done d => rfl
    | next acc' =>
      have ih := loop_list st g fin hs he rest (pre ++ [x]) acc' f (by rw [hl]; simp) (by simp at hf; omega)
      simpa [stp] using ih

theorem lp_list {α A B β γ : Type} {step : α → Option (Step α (Ex β γ))} {l : List A} {k : β → Option γ} (st : Nat → B → α) (acc0 : B) (g : Nat → A → B → Step B (Ex β γ)) (fin : B → Ex β γ) (hf : l.length < FUEL)
    (hs : ∀ pre x rest acc, l = pre ++ x :: rest → step (st pre.length acc) = some (stp st (pre.length + 1) (g pre.length x acc)))
    (he : ∀ acc, step (st l.length acc) = some (.done (fin acc))) :
    lp step (st 0 acc0) k = out k (foldS g fin 0 acc0 l) := by
  have h := loop_list st g fin hs he l [] acc0 FUEL rfl hf
  unfold lp
  simp only [List.length_nil] at h
  rw [h]
  cases foldS g fin 0 acc0 l <;> rfl

theorem idx_app {α : Type} (pre : List α) (x : α) (rest : List α) : Sw.idx (pre ++ x :: rest) (pre.length : Int) = some x := by
  unfold Sw.idx; simp
theorem inc {n m : Nat} (h : n < m) (hm : m ≤ 4611686018427387904) : ar .add .i64 (n : Int) 1 = ((n + 1 : Nat) : Int) := by
  unfold ar; simp only [IntKind.wrap, IntKind.signed, IntKind.bits]; simp; omega
theorem lss_app {α : Type} (pre : List α) (x : α) (rest : List α) : cm .lss (pre.length : Int) ((pre ++ x :: rest).length : Int) = true := by
  unfold cm; simp; omega
theorem lss_self {n : Nat} : cm .lss (n : Int) (n : Int) = false := by unfold cm; simp
end Go.Pl

namespace Go.Pl
open Go Go.Sw

theorem lp_count {α β γ : Type} {step : α → Option (Step α (Ex β γ))} {k : β → Option γ} (st : Nat → α) (n : Nat) (y : β) (hf : n < FUEL) (hs : ∀ i, i < n → step (st i) = some (.next (st (i + 1)))) (he : step (st n) = some (.done (.brk y))) : lp step (st 0) k = k y := by
  have h : ∀ m i, i + m = n → ∀ f, m < f → loop step f (st i) = some (.brk y) := by
    intro m
    induction m with
    | zero =>
      intro i hi f hf
      obtain ⟨f, rfl⟩ : ∃ f', f = f' + 1 := ⟨f - 1, by omega⟩
      simp only [Nat.add_zero] at hi
      subst hi
      simp [loop, he]
    | succ m ih =>
      intro i hi f hf
      obtain ⟨f, rfl⟩ : ∃ f', f = f' + 1 := ⟨f - 1, by omega⟩
      simp only [loop, hs i (by omega)]
      exact ih (i + 1) (by omega) f (by omega)
  unfold lp
  rw [h n 0 (by omega) FUEL hf]

theorem wrap_i64 {n : Int} (h : -9223372036854775808 ≤ n ∧ n ≤ 9223372036854775807) : IntKind.wrap .i64 n = n := wrap_id (k := .i64) (by unfold inK; simp [IntKind.min, IntKind.max, IntKind.signed, IntKind.bits]; omega)
theorem wrap_u8 {n : Int} (h : 0 ≤ n ∧ n ≤ 255) : IntKind.wrap .u8 n = n := wrap_id (k := .u8) (by unfold inK; simp [IntKind.min, IntKind.max, IntKind.signed, IntKind.bits]; omega)
theorem wrap_u32 {n : Int} (h : 0 ≤ n ∧ n ≤ 4294967295) : IntKind.wrap .u32 n = n := wrap_id (k := .u32) (by unfold inK; simp [IntKind.min, IntKind.max, IntKind.signed, IntKind.bits]; omega)
theorem ofInt_nat (w n : Nat) : BitVec.ofInt w (n : Int) = BitVec.ofNat w n := by
  apply BitVec.eq_of_toNat_eq
  simp
theorem xor32 {a b : Nat} (ha : a < 4294967296) (hb : b < 4294967296) : ar .xor .u32 (a : Int) (b : Int) = ((a ^^^ b : Nat) : Int) := by
  have h : a ^^^ b < 2 ^ 32 := Nat.xor_lt_two_pow (by simpa using ha) (by simpa using hb)
  show IntKind.wrap .u32 ((BitVec.ofInt 32 (a : Int) ^^^ BitVec.ofInt 32 (b : Int)).toNat : Int) = _
  simp only [ofInt_nat, BitVec.toNat_xor, BitVec.toNat_ofNat]
  rw [Nat.mod_eq_of_lt (by simpa using ha), Nat.mod_eq_of_lt (by simpa using hb)]
  exact wrap_u32 (by simp at h; omega)
theorem and32 {a : Nat} (ha : a < 4294967296) : ar .and .u32 (a : Int) 1 = ((a % 2 : Nat) : Int) := by
  show IntKind.wrap .u32 ((BitVec.ofInt 32 (a : Int) &&& BitVec.ofInt 32 ((1 : Nat) : Int)).toNat : Int) = _
  simp only [ofInt_nat, BitVec.toNat_and, BitVec.toNat_ofNat]
  rw [Nat.mod_eq_of_lt (a := a) (by simpa using ha), Nat.mod_eq_of_lt (a := 1) (by decide), Nat.and_one_is_mod]
  exact wrap_u32 (by omega)
theorem mul32 {a : Nat} (ha : a < 2) : ar .mul .u32 3988292384 (a : Int) = ((if a = 1 then 3988292384 else 0 : Nat) : Int) := by
  have : a = 0 ∨ a = 1 := by omega
  rcases this with rfl | rfl
  · rfl
  · decide
theorem shr1 {a : Nat} : sh .shr .u32 (a : Int) 1 = ((a / 2 : Nat) : Int) := by
  show Int.fdiv _ _ = _
  have : (2 : Int) ^ min (1 : Int).toNat (IntKind.bits .u32) = 2 := by decide
  rw [this, Int.fdiv_eq_ediv_of_nonneg _ (by omega)]
  omega
theorem not32 {a : Nat} (ha : a < 4294967296) : bnot .u32 (a : Int) = ((4294967295 - a : Nat) : Int) := by
  unfold bnot
  show IntKind.wrap .u32 ((BitVec.allOnes 32 ^^^ BitVec.ofInt 32 (a : Int)).toNat : Int) = _
  simp only [ofInt_nat, BitVec.allOnes_xor, BitVec.toNat_not, BitVec.toNat_ofNat]
  rw [Nat.mod_eq_of_lt (by simpa using ha)]
  exact wrap_u32 (by omega)
theorem tdiv_nat (a b : Nat) : Int.tdiv (a : Int) (b : Int) = ((a / b : Nat) : Int) := rfl
theorem tmod_nat (a b : Nat) : Int.tmod (a : Int) (b : Int) = ((a % b : Nat) : Int) := rfl
theorem quo64 {a b : Nat} (ha : a ≤ 9223372036854775807) : ar .quo .i64 (a : Int) (b : Int) = ((a / b : Nat) : Int) := by
  show IntKind.wrap .i64 _ = _
  rw [tdiv_nat]
  have := Nat.div_le_self a b
  generalize a / b = q at *
  exact wrap_i64 (by omega)
theorem rem64 {a b : Nat} : ar .rem .i64 (a : Int) (b : Int) = ((a % b : Nat) : Int) := rfl
theorem add64 {a b : Nat} (h : a + b ≤ 9223372036854775807) : ar .add .i64 (a : Int) (b : Int) = ((a + b : Nat) : Int) := by
  show IntKind.wrap .i64 _ = _
  rw [← Int.natCast_add]; exact wrap_i64 (by omega)
theorem mul64 {a b : Nat} (h : a * b ≤ 9223372036854775807) : ar .mul .i64 (a : Int) (b : Int) = ((a * b : Nat) : Int) := by
  show IntKind.wrap .i64 _ = _
  rw [← Int.natCast_mul]; exact wrap_i64 (by omega)
theorem nz_ok {n : Int} (h : n ≠ 0) : nz n = some () := by unfold nz; rw [if_neg h]
theorem cm_lss {a b : Nat} : cm .lss (a : Int) (b : Int) = decide (a < b) := by unfold cm; simp
theorem bit_xor (a b i : Nat) : (a ^^^ b) / 2 ^ i % 2 = (a / 2 ^ i + b / 2 ^ i) % 2 := by
  have h := Nat.testBit_xor a b i
  simp only [Nat.testBit_eq_decide_div_mod_eq] at h
  have ha := Nat.mod_two_eq_zero_or_one (a / 2 ^ i)
  have hb := Nat.mod_two_eq_zero_or_one (b / 2 ^ i)
  have hc := Nat.mod_two_eq_zero_or_one ((a ^^^ b) / 2 ^ i)
  rw [Nat.add_mod]
  rcases ha with ha | ha <;> rcases hb with hb | hb <;> rcases hc with hc | hc <;> simp [ha, hb, hc] at h ⊢
theorem xor_half (a b : Nat) : (a ^^^ b) / 2 = a / 2 ^^^ b / 2 := by
  have := Nat.shiftRight_xor_distrib (i := 1) (a := a) (b := b)
  simpa [Nat.shiftRight_eq_div_pow] using this
end Go.Pl

namespace Go.Pl
open Go Go.Sw
/-- bytes -/
def Bytes (l : List Int) : Prop := ∀ x ∈ l, 0 ≤ x ∧ x ≤ 255
def nat (l : List Int) : List Nat := l.map Int.toNat
theorem nat_byte {l : List Int} (h : Bytes l) : ∀ b ∈ nat l, b < 256 := by
  intro b hb
  obtain ⟨x, hx, rfl⟩ := List.mem_map.1 hb
  have := h x hx; omega

/-- as lp_list, with what holds on the way -/
theorem lp_inv {α A B β γ : Type} {step : α → Option (Step α (Ex β γ))} {l : List A} {k : β → Option γ} (st : Nat → B → α) (I : Nat → B → Prop) (acc0 : B) (g : Nat → A → B → B) (fin : B → β) (hf : l.length < FUEL) (h0 : I 0 acc0)
    (hs : ∀ pre x rest acc, l = pre ++ x :: rest → I pre.length acc → step (st pre.length acc) = some (.next (st (pre.length + 1) (g pre.length x acc))) ∧ I (pre.length + 1) (g pre.length x acc))
    (he : ∀ acc, I l.length acc → step (st l.length acc) = some (.done (.brk (fin acc)))) :
    lp step (st 0 acc0) k = k (fin ((l.zipIdx).foldl (fun acc x => g x.2 x.1 acc) acc0)) := by
  have key : ∀ (rest pre : List A) (acc : B) (f : Nat), l = pre ++ rest → I pre.length acc → rest.length < f → loop step f (st pre.length acc) = some (.brk (fin ((rest.zipIdx pre.length).foldl (fun acc x => g x.2 x.1 acc) acc))) := by
    intro rest
    induction rest with
    | nil =>
      intro pre acc f hl hI hf
      obtain ⟨f, rfl⟩ : ∃ f', f = f' + 1 := ⟨f - 1, by simp at hf; omega⟩
      have := he acc (by rw [hl, List.append_nil]; exact hI)
      rw [hl, List.append_nil] at this
      simp [loop, this]
    | cons x rest ih =>
      intro pre acc f hl hI hf
      obtain ⟨f, rfl⟩ : ∃ f', f = f' + 1 := ⟨f - 1, by simp at hf; omega⟩
      obtain ⟨h1, h2⟩ := hs pre x rest acc hl hI
      simp only [loop, h1]
      have := ih (pre ++ [x]) (g pre.length x acc) f (by rw [hl]; simp) (by simpa using h2) (by simp at hf; omega)
      simpa using this
  have h := key l [] acc0 FUEL rfl h0 hf
  unfold lp
  simp only [List.length_nil] at h
  rw [h]
theorem app_small {α : Type} (xs ys : List α) (h : xs.length + ys.length ≤ 4294967296) : Sw.app xs ys = some (xs ++ ys) := by unfold Sw.app; rw [if_pos h]
theorem foldl_zipIdx {A : Type} (w : A → List Int) : ∀ (l : List A) (i : Nat) (acc : List Int), (l.zipIdx i).foldl (fun acc x => acc ++ w x.1) acc = acc ++ l.flatMap w
  | [], _, acc => by simp
  | x :: l, i, acc => by simp [foldl_zipIdx w l]
end Go.Pl

namespace Go.Pl
open Go Go.Sw
/-- it lies somewhere so -/
def Wf {α : Type} (e : Enc α) (x : α) : Prop := ∃ S w cs, e.ok x S w cs
theorem Wf.int {k : IntKind} {n : Int} (h : Wf (Enc.int k) n) : inK k n := by obtain ⟨_, _, _, h⟩ := h; exact h.2
theorem okL_all {α : Type} {e : Enc α} {S w} : ∀ {xs : List α} {cs}, e.okL xs S w cs → ∀ x ∈ xs, Wf e x
  | [], _, _, x, hx => by simp at hx
  | y :: ys, _, ⟨c, d, _, h2, h3⟩, x, hx => by
    rcases List.mem_cons.1 hx with rfl | hx
    · exact ⟨_, _, _, h2⟩
    · exact okL_all h3 x hx
theorem Wf.arr {α : Type} {m : Nat} {e : Enc α} {xs : List α} (h : Wf (Enc.arr m e) xs) : xs.length = m ∧ ∀ x ∈ xs, Wf e x := by
  obtain ⟨_, _, _, h1, h2⟩ := h; exact ⟨h1, okL_all h2⟩
theorem Wf.sl {α : Type} {e : Enc α} {xs : List α} (h : Wf (Enc.sl e) xs) : xs.length ≤ 140737488355328 ∧ ∀ x ∈ xs, Wf e x := by
  obtain ⟨_, _, _, a, cap, _, h2, h3⟩ := h
  refine ⟨h2.2, ?_⟩
  rcases h3 with rfl | ⟨b, off, ds, _, _, _, _, h4⟩
  · intro x hx; simp at hx
  · exact okL_all h4
theorem Wf.pr {α β : Type} {a : Enc α} {b : Enc β} {x : α × β} (h : Wf (Enc.pr a b) x) : Wf a x.1 ∧ Wf b x.2 := by
  obtain ⟨_, _, _, c, d, _, h1, h2⟩ := h; exact ⟨⟨_, _, _, h1⟩, ⟨_, _, _, h2⟩⟩
theorem Wf.one1 {α : Type} {a : Enc α} {x : α} (h : Wf (Enc.one1 a) x) : Wf a x := h
theorem Wf.of_val {α : Type} {e : Enc α} {x : α} {S w v} (h : e.val x S w v) : Wf e x := by obtain ⟨cs, h, _⟩ := h; exact ⟨_, _, _, h⟩
end Go.Pl

namespace Go.Pl
open Go Go.Sw
theorem cl (m n : Int) : cm .lss m n = decide (m < n) := rfl
theorem cg (m n : Int) : cm .gtr m n = decide (m > n) := rfl
theorem cle (m n : Int) : cm .leq m n = decide (m ≤ n) := rfl
theorem cge (m n : Int) : cm .geq m n = decide (m ≥ n) := rfl
theorem ce (m n : Int) : cm .eql m n = decide (m = n) := by show (m == n) = _; by_cases h : m = n <;> simp [h]
theorem cn (m n : Int) : cm .neq m n = decide (m ≠ n) := by show (m != n) = _; by_cases h : m = n <;> simp [h]
theorem addI {m n : Int} (h : -9223372036854775808 ≤ m + n ∧ m + n ≤ 9223372036854775807) : ar .add .i64 m n = m + n := wrap_i64 h
theorem subI {m n : Int} (h : -9223372036854775808 ≤ m - n ∧ m - n ≤ 9223372036854775807) : ar .sub .i64 m n = m - n := wrap_i64 h
theorem nxt {n : Nat} (h : n ≤ 4611686018427387904) : ar .add .i64 (n : Int) 1 = ((n + 1 : Nat) : Int) := by rw [addI (by omega)]; push_cast; rfl
/-- a list gone through, each element looked at: one that is bad ends it -/
theorem lp_any {α A β γ : Type} {step : α → Option (Step α (Ex β γ))} {l : List A} {k : β → Option γ} (st : Nat → α) (bad : A → Bool) (z : γ) (y : β) (hf : l.length < FUEL)
    (hs : ∀ pre x rest, l = pre ++ x :: rest → step (st pre.length) = some (if bad x then .done (.ret z) else .next (st (pre.length + 1)))) (he : step (st l.length) = some (.done (.brk y))) :
    lp step (st 0) k = if l.any bad then some z else k y := by
  have key : ∀ (rest pre : List A) (f : Nat), l = pre ++ rest → rest.length < f → loop step f (st pre.length) = some (if rest.any bad then .ret z else .brk y) := by
    intro rest
    induction rest with
    | nil =>
      intro pre f hl hf
      obtain ⟨f, rfl⟩ : ∃ f', f = f' + 1 := ⟨f - 1, by simp at hf; omega⟩
      rw [List.append_nil] at hl
      rw [← hl]
      simp [loop, he]
    | cons x rest ih =>
      intro pre f hl hf
      obtain ⟨f, rfl⟩ : ∃ f', f = f' + 1 := ⟨f - 1, by simp at hf; omega⟩
      simp only [loop, hs pre x rest hl, List.any_cons]
      by_cases hb : bad x = true
      · simp [hb]
      · have := ih (pre ++ [x]) f (by rw [hl]; simp) (by simp at hf; omega)
        simp only [Bool.not_eq_true] at hb
        simp only [hb, Bool.false_eq_true, if_false, Bool.false_or]
        simpa using this
  have := key l [] FUEL rfl hf
  unfold lp
  simp only [List.length_nil] at this
  rw [this]
  by_cases hb : l.any bad = true
  · simp only [hb, if_true]
  · simp only [Bool.not_eq_true] at hb
    simp only [hb, Bool.false_eq_true, if_false]
theorem lenF {A : Type} {l : List A} {n : Nat} (h : l.length ≤ n) (hn : n ≤ 140737488355328) : l.length < FUEL := by unfold FUEL; omega
/-- the same, with the state told once more -/
theorem lss_len {A : Type} {l pre rest : List A} {x : A} (h : l = pre ++ x :: rest) : cm .lss (pre.length : Int) (l.length : Int) = true := by rw [h]; exact lss_app pre x rest
theorem idx_len {A : Type} {l pre rest : List A} {x : A} (h : l = pre ++ x :: rest) : Sw.idx l (pre.length : Int) = some x := by rw [h]; exact idx_app pre x rest
theorem idx_get {A : Type} {l : List A} {i : Nat} {x : A} (h : l[i]? = some x) : Sw.idx l (i : Int) = some x := by unfold Sw.idx; simp [h]
theorem idx_nat {A : Type} {l : List A} {n : Int} (h0 : 0 ≤ n) (h1 : n < l.length) : ∃ x, Sw.idx l n = some x ∧ l[n.toNat]? = some x := by
  have : n.toNat < l.length := by omega
  exact ⟨l[n.toNat], by unfold Sw.idx; simp [h0, this], by simp [this]⟩
/-- two lists that are the same, element by element -/
theorem same_loop {A : Type} [DecidableEq A] (l : List A) (hl : l.length ≤ 1000000) (k : Unit → Option Bool) :
    lp (β := Unit) (fun (s12 : Int) => bif (cm .lss s12 (l.length : Int)) then (Sw.idx l s12).bind fun z20 => (Sw.idx l s12).bind fun z21 => bif (!decide (z20 = z21)) then some (.done (.ret false)) else some (.next (ar .add .i64 s12 (1 : Int))) else some (.done (.brk ()))) (0 : Int) k = k () := by
  rw [show (0 : Int) = (fun (i : Nat) => (i : Int)) 0 from rfl]
  rw [lp_any (l := l) (fun (i : Nat) => (i : Int)) (fun _ => false) false () (lenF hl (by decide))]
  · simp
  · intro pre x rest h
    simp only [lss_len h, cond_true, idx_len h, Option.bind_some]
    rw [nxt (by rw [h] at hl; simp at hl; omega)]
    simp
  · simp only [lss_self, cond_false]
theorem wf_byte {n : Int} (h : Wf (Enc.int .u8) n) : 0 ≤ n ∧ n ≤ 255 := by
  have := h.int
  unfold inK at this
  simpa [IntKind.min, IntKind.max, IntKind.signed, IntKind.bits] using this
theorem wf_i64 {n : Int} (h : Wf (Enc.int .i64) n) : -9223372036854775808 ≤ n ∧ n ≤ 9223372036854775807 := by
  have := h.int
  unfold inK at this
  simpa [IntKind.min, IntKind.max, IntKind.signed, IntKind.bits] using this
theorem wf_bytes {l : List Int} (h : Wf (Enc.sl (Enc.int .u8)) l) : Bytes l := fun x hx => wf_byte (h.sl.2 x hx)

/-- the first bad one, by its number -/
theorem lp_find {α A β γ : Type} {step : α → Option (Step α (Ex β γ))} {l : List A} {k : β → Option γ} (st : Nat → α) (bad : A → Bool) (z : Nat → γ) (y : β) (hf : l.length < FUEL)
    (hs : ∀ pre x rest, l = pre ++ x :: rest → step (st pre.length) = some (if bad x then .done (.ret (z pre.length)) else .next (st (pre.length + 1)))) (he : step (st l.length) = some (.done (.brk y))) :
    lp step (st 0) k = match l.findIdx? bad with | some j => some (z j) | none => k y := by
  have key : ∀ (rest pre : List A) (f : Nat), l = pre ++ rest → rest.length < f → loop step f (st pre.length) = some (match rest.findIdx? bad with | some j => .ret (z (pre.length + j)) | none => .brk y) := by
    intro rest
    induction rest with
    | nil =>
      intro pre f hl hf
      obtain ⟨f, rfl⟩ : ∃ f', f = f' + 1 := ⟨f - 1, by simp at hf; omega⟩
      rw [List.append_nil] at hl
      rw [← hl]
      simp [loop, he]
    | cons x rest ih =>
      intro pre f hl hf
      obtain ⟨f, rfl⟩ : ∃ f', f = f' + 1 := ⟨f - 1, by simp at hf; omega⟩
      simp only [loop, hs pre x rest hl, List.findIdx?_cons]
      by_cases hb : bad x = true
      · simp [hb]
      · have := ih (pre ++ [x]) f (by rw [hl]; simp) (by simp at hf; omega)
        simp only [Bool.not_eq_true] at hb
        simp only [hb, Bool.false_eq_true, if_false]
        rw [List.length_append, List.length_singleton] at this
        rw [this]
        cases rest.findIdx? bad with
        | none => rfl
        | some j => simp only [Option.map_some]; congr 3; omega
  have := key l [] FUEL rfl hf
  unfold lp
  simp only [List.length_nil, Nat.zero_add] at this
  rw [this]
  cases l.findIdx? bad <;> rfl
theorem any_findIdx {A : Type} (l : List A) (bad : A → Bool) : l.any bad = (l.findIdx? bad).isSome := by
  simp
end Go.Pl

namespace Go.Pl
open Go Go.Sw
/-- going over a list, with what is carried, till something is done -/
def foldG {A B D : Type} (g : B → A → Step B D) (fin : B → D) : B → List A → D
  | acc, [] => fin acc
  | acc, x :: xs => match g acc x with
    | .next acc' => foldG g fin acc' xs
    | .done d => d
theorem lp_walk {α A B β γ : Type} {step : α → Option (Step α (Ex β γ))} {l : List A} {k : β → Option γ} (st : Nat → B → α) (I : List A → B → Prop) (g : B → A → Step B (Ex β γ)) (fin : B → Ex β γ) (acc0 : B) (hf : l.length < FUEL) (h0 : I [] acc0)
    (hs : ∀ pre x rest acc, l = pre ++ x :: rest → I pre acc → step (st pre.length acc) = some (stp st (pre.length + 1) (g acc x)) ∧ ∀ acc', g acc x = .next acc' → I (pre ++ [x]) acc')
    (he : ∀ acc, I l acc → step (st l.length acc) = some (.done (fin acc))) :
    lp step (st 0 acc0) k = out k (foldG g fin acc0 l) := by
  have key : ∀ (rest pre : List A) (acc : B) (f : Nat), l = pre ++ rest → I pre acc → rest.length < f → loop step f (st pre.length acc) = some (foldG g fin acc rest) := by
    intro rest
    induction rest with
    | nil =>
      intro pre acc f hl hI hf
      obtain ⟨f, rfl⟩ : ∃ f', f = f' + 1 := ⟨f - 1, by simp at hf; omega⟩
      rw [List.append_nil] at hl
      subst hl
      simp [loop, he acc hI, foldG]
    | cons x rest ih =>
      intro pre acc f hl hI hf
      obtain ⟨f, rfl⟩ : ∃ f', f = f' + 1 := ⟨f - 1, by simp at hf; omega⟩
      obtain ⟨h1, h2⟩ := hs pre x rest acc hl hI
      simp only [loop, h1, foldG]
      cases hg : g acc x with
      | done d => rfl
      | next acc' =>
        have := ih (pre ++ [x]) acc' f (by rw [hl]; simp) (h2 acc' hg) (by simp at hf; omega)
        simpa [stp] using this
  have h := key l [] acc0 FUEL rfl h0 hf
  unfold lp
  simp only [List.length_nil] at h
  rw [h]
  cases foldG g fin acc0 l <;> rfl
/-- a list gone through to its end -/
theorem lp_go {α A B β γ : Type} {step : α → Option (Step α (Ex β γ))} {l : List A} {k : β → Option γ} (st : Nat → B → α) (I : List A → B → Prop) (fin : B → β) (acc0 : B) (hf : l.length < FUEL) (h0 : I [] acc0)
    (hs : ∀ pre x rest acc, l = pre ++ x :: rest → I pre acc → ∃ acc', step (st pre.length acc) = some (.next (st (pre.length + 1) acc')) ∧ I (pre ++ [x]) acc')
    (he : ∀ acc, I l acc → step (st l.length acc) = some (.done (.brk (fin acc)))) : ∃ acc, I l acc ∧ lp step (st 0 acc0) k = k (fin acc) := by
  have key : ∀ (rest pre : List A) (acc : B) (f : Nat), l = pre ++ rest → I pre acc → rest.length < f → ∃ acc', I l acc' ∧ loop step f (st pre.length acc) = some (.brk (fin acc')) := by
    intro rest
    induction rest with
    | nil =>
      intro pre acc f hl hI hf
      obtain ⟨f, rfl⟩ : ∃ f', f = f' + 1 := ⟨f - 1, by simp at hf; omega⟩
      rw [List.append_nil] at hl
      subst hl
      exact ⟨acc, hI, by simp [loop, he acc hI]⟩
    | cons x rest ih =>
      intro pre acc f hl hI hf
      obtain ⟨f, rfl⟩ : ∃ f', f = f' + 1 := ⟨f - 1, by simp at hf; omega⟩
      obtain ⟨acc', h1, h2⟩ := hs pre x rest acc hl hI
      obtain ⟨a2, h3, h4⟩ := ih (pre ++ [x]) acc' f (by rw [hl]; simp) h2 (by simp at hf; omega)
      exact ⟨a2, h3, by simp only [loop, h1]; simpa using h4⟩
  obtain ⟨acc, h1, h2⟩ := key l [] acc0 FUEL rfl h0 hf
  exact ⟨acc, h1, by unfold lp; simp only [List.length_nil] at h2; rw [h2]⟩
theorem lp_go' {α A B β γ : Type} {step : α → Option (Step α (Ex β γ))} {l : List A} {k : β → Option γ} {r : Option γ} (st : Nat → B → α) (I : List A → B → Prop) (fin : B → β) (acc0 : B) (hf : l.length < FUEL) (h0 : I [] acc0)
    (hs : ∀ pre x rest acc, l = pre ++ x :: rest → I pre acc → ∃ acc', step (st pre.length acc) = some (.next (st (pre.length + 1) acc')) ∧ I (pre ++ [x]) acc')
    (he : ∀ acc, I l acc → step (st l.length acc) = some (.done (.brk (fin acc)))) (hr : ∀ acc, I l acc → k (fin acc) = r) : lp step (st 0 acc0) k = r := by
  obtain ⟨acc, h1, h2⟩ := lp_go (k := k) st I fin acc0 hf h0 hs he
  rw [h2, hr acc h1]
/-- a loop that comes closer each round -/
theorem lp_meas {α β γ : Type} {step : α → Option (Step α (Ex β γ))} {k : β → Option γ} (I : α → Prop) (m : α → Nat) (R : β → Prop) (s0 : α) (hm : m s0 < FUEL) (h0 : I s0)
    (hs : ∀ s, I s → (∃ s', step s = some (.next s') ∧ I s' ∧ m s' < m s) ∨ ∃ y, step s = some (.done (.brk y)) ∧ R y) : ∃ y, R y ∧ lp step s0 k = k y := by
  have key : ∀ (n : Nat) (s : α) (f : Nat), m s ≤ n → n < f → I s → ∃ y, R y ∧ loop step f s = some (.brk y) := by
    intro n
    induction n with
    | zero =>
      intro s f hn hf hI
      obtain ⟨f, rfl⟩ : ∃ f', f = f' + 1 := ⟨f - 1, by omega⟩
      rcases hs s hI with ⟨s', h1, h2, h3⟩ | ⟨y, h1, h2⟩
      · omega
      · exact ⟨y, h2, by simp [loop, h1]⟩
    | succ n ih =>
      intro s f hn hf hI
      obtain ⟨f, rfl⟩ : ∃ f', f = f' + 1 := ⟨f - 1, by omega⟩
      rcases hs s hI with ⟨s', h1, h2, h3⟩ | ⟨y, h1, h2⟩
      · obtain ⟨y, k1, k2⟩ := ih s' f (by omega) (by omega) h2
        exact ⟨y, k1, by simp [loop, h1, k2]⟩
      · exact ⟨y, h2, by simp [loop, h1]⟩
  obtain ⟨y, h1, h2⟩ := key (m s0) s0 FUEL (Nat.le_refl _) hm h0
  exact ⟨y, h1, by unfold lp; rw [h2]⟩
/-- the middle of two numbers -/
theorem mid {i j : Nat} (h : i + j ≤ 4611686018427387904) : IntKind.wrap .i64 (sh .shr .u64 (IntKind.wrap .u64 (ar .add .i64 (i : Int) (j : Int))) (1 : Int)) = (((i + j) / 2 : Nat) : Int) := by
  rw [addI (by omega)]
  have h1 : IntKind.wrap .u64 ((i : Int) + (j : Int)) = (i : Int) + (j : Int) := wrap_id (k := .u64) (by unfold inK; simp [IntKind.min, IntKind.max, IntKind.signed, IntKind.bits]; omega)
  rw [h1]
  have h2 : sh .shr .u64 ((i : Int) + (j : Int)) 1 = (((i + j) / 2 : Nat) : Int) := by
    show Int.fdiv _ _ = _
    have : (2 : Int) ^ min (1 : Int).toNat (IntKind.bits .u64) = 2 := by decide
    rw [this, Int.fdiv_eq_ediv_of_nonneg _ (by omega)]
    omega
  rw [h2]
  exact wrap_i64 (by omega)
theorem bin (c : Bool) {γ : Type} (x y : Option γ) : (bif c then x else y) = if c = true then x else y := by cases c <;> rfl
end Go.Pl

namespace Go.Pl
open Go Go.Sw Go.Mo

theorem first_is (l : List Blk) (b : Blk) (h : l.length ≤ 1000000) : m_ref_First l b = some (if b ∈ l then ((l.idxOf b : Nat) : Int) else -1) := by
  unfold m_ref_First
  rw [show (0 : Int) = ((0 : Nat) : Int) from rfl, lp_list (l := l) (fun i (_ : Unit) => (i : Int)) () (fun i z _ => if z = b then .done (.ret (i : Int)) else .next ()) (fun _ => .brk ()) (by unfold FUEL; omega)]
  · have : ∀ (l : List Blk) (i : Nat), foldS (fun (i : Nat) (z : Blk) (_ : Unit) => (if z = b then Step.done (Ex.ret (i : Int)) else .next () : Step Unit (Ex Unit Int))) (fun _ => .brk ()) i () l = if b ∈ l then .ret ((i + l.idxOf b : Nat) : Int) else .brk () := by
      intro l; induction l with
      | nil => intro i; simp [foldS]
      | cons x l ih =>
        intro i
        simp only [foldS]
        by_cases hx : x = b
        · subst hx; simp
        · have hx' : ¬ b = x := fun h => hx h.symm
          rw [if_neg hx]
          simp only [ih, List.mem_cons, hx', false_or, List.idxOf_cons]
          have : (x == b) = false := by simp [hx]
          rw [this]
          simp only [cond_false]
          split <;> simp <;> omega
    rw [this]
    split <;> simp [out]
  · rintro pre x rest acc rfl
    simp only [lss_app, cond_true, idx_app, Option.bind_some, stp, inc (n := pre.length) (m := 1000000) (by simp at h; omega) (by omega)]
    by_cases hx : x = b <;> simp [hx, stp]
  · intro _; simp [lss_self]

theorem hadMay_is (l : List Blk) (h : l.length ≤ 1000000) : m_ref_HadMay l = some (if l.length > 8 then 2 else if l.Nodup then 0 else 3) := by
  unfold m_ref_HadMay
  by_cases h8 : l.length > 8
  · have : cm .gtr (l.length : Int) 8 = true := by simp [cm]; omega
    rw [this]; simp [h8]
  have : cm .gtr (l.length : Int) 8 = false := by simp [cm]; omega
  rw [this, if_neg h8]
  simp only [cond_false]
  rw [show (0 : Int) = ((0 : Nat) : Int) from rfl, lp_list (l := l) (fun i (_ : Unit) => (i : Int)) () (fun i z _ => if z ∈ l.take i then .done (.ret 3) else .next ()) (fun _ => .brk ()) (by unfold FUEL; omega)]
  · have : ∀ (rest pre : List Blk), l = pre ++ rest → pre.Nodup → foldS (fun (i : Nat) (z : Blk) (_ : Unit) => (if z ∈ l.take i then Step.done (Ex.ret 3) else .next () : Step Unit (Ex Unit Int))) (fun _ => .brk ()) pre.length () rest = if l.Nodup then .brk () else .ret 3 := by
      intro rest; induction rest with
      | nil => intro pre hl hn; rw [List.append_nil] at hl; subst hl; simp [foldS, hn]
      | cons x rest ih =>
        intro pre hl hn
        simp only [foldS]
        have ht : l.take pre.length = pre := by rw [hl]; simp
        rw [ht]
        by_cases hx : x ∈ pre
        · rw [if_pos hx]
          have : ¬ l.Nodup := by rw [hl, List.nodup_append]; rintro ⟨_, _, h3⟩; exact h3 x hx x (by simp) rfl
          simp [this]
        · rw [if_neg hx]
          have := ih (pre ++ [x]) (by rw [hl]; simp) (by rw [List.nodup_append]; exact ⟨hn, by simp, fun a ha b hb => by simp at hb; subst hb; rintro rfl; exact hx ha⟩)
          simpa using this
    have := this l [] rfl (by simp)
    simp only [List.length_nil] at this
    rw [this]
    split <;> simp [out]
  · rintro pre x rest acc rfl
    simp only [lss_app, cond_true, idx_app, Option.bind_some, first_is _ _ h, stp, inc (n := pre.length) (m := 1000000) (by simp at h; omega) (by omega)]
    have ht : (pre ++ x :: rest).take pre.length = pre := by simp
    rw [ht]
    have hm : x ∈ pre ++ x :: rest := by simp
    rw [if_pos hm, List.idxOf_append]
    by_cases hx : x ∈ pre
    · have : cm .lss ((List.idxOf x pre : Nat) : Int) (pre.length : Int) = true := by simp [cm, List.idxOf_lt_length_of_mem hx]
      simp [hx, this, stp]
    · have : cm .lss ((List.idxOf x (x :: rest) + pre.length : Nat) : Int) (pre.length : Int) = false := by simp [cm]
      simp only [hx, if_false, this, cond_false, stp]
  · intro _; simp [lss_self]

theorem mget_true (pre : List Blk) (z : Blk) : mget (pre.map fun x => (x, true)) z = if z ∈ pre then some true else none := by
  induction pre with
  | nil => simp [mget]
  | cons x pre ih =>
    simp only [List.map_cons, mget, ih, List.mem_cons]
    by_cases hx : x = z
    · simp [hx]
    · have : ¬ z = x := fun h => hx h.symm
      simp [hx, this]
theorem check_is (l : List Blk) (h : l.length ≤ 1000000) : m_cache_Check l = some (if l.length > 8 then some 2 else if l.Nodup then none else some 3) := by
  unfold m_cache_Check
  by_cases h8 : l.length > 8
  · have : cm .gtr (l.length : Int) 8 = true := by simp [cm]; omega
    rw [this]; simp [h8]
  have : cm .gtr (l.length : Int) 8 = false := by simp [cm]; omega
  rw [this, if_neg h8]
  simp only [cond_false]
  rw [show ((0 : Int), ([] : List (Blk × Bool))) = (((0 : Nat) : Int), (l.take 0).map fun x => (x, true)) from rfl, lp_list (l := l) (fun i (_ : Unit) => ((i : Int), (l.take i).map fun x => (x, true))) () (fun i z _ => if z ∈ l.take i then .done (.ret (some 3)) else .next ()) (fun _ => .brk ()) (by unfold FUEL; omega)]
  · have : ∀ (rest pre : List Blk), l = pre ++ rest → pre.Nodup → foldS (fun (i : Nat) (z : Blk) (_ : Unit) => (if z ∈ l.take i then Step.done (Ex.ret (some 3)) else .next () : Step Unit (Ex Unit (Option Int)))) (fun _ => .brk ()) pre.length () rest = if l.Nodup then .brk () else .ret (some 3) := by
      intro rest; induction rest with
      | nil => intro pre hl hn; rw [List.append_nil] at hl; subst hl; simp [foldS, hn]
      | cons x rest ih =>
        intro pre hl hn
        simp only [foldS]
        have ht : l.take pre.length = pre := by rw [hl]; simp
        rw [ht]
        by_cases hx : x ∈ pre
        · rw [if_pos hx]
          have : ¬ l.Nodup := by rw [hl, List.nodup_append]; rintro ⟨_, _, h3⟩; exact h3 x hx x (by simp) rfl
          simp [this]
        · rw [if_neg hx]
          have := ih (pre ++ [x]) (by rw [hl]; simp) (by rw [List.nodup_append]; exact ⟨hn, by simp, fun a ha b hb => by simp at hb; subst hb; rintro rfl; exact hx ha⟩)
          simpa using this
    have := this l [] rfl (by simp)
    simp only [List.length_nil] at this
    rw [this]
    split <;> simp [out]
  · rintro pre x rest acc rfl
    have ht : (pre ++ x :: rest).take pre.length = pre := by simp
    simp only [lss_app, cond_true, idx_app, Option.bind_some, ht, mget_true, stp, inc (n := pre.length) (m := 1000000) (by simp at h; omega) (by omega)]
    by_cases hx : x ∈ pre
    · simp [hx, stp]
    · have ht' : (pre ++ x :: rest).take (pre.length + 1) = pre ++ [x] := by rw [List.take_append]; simp [List.take_of_length_le]
      simp only [hx, if_false, Option.getD_none, cond_false, mput, mget_true, Option.bind_some, stp, ht']
      simp
  · intro _; simp [lss_self]

def touch (b : Blk) (l : List Blk) : List Blk := b :: (l.filter (fun z => decide (z ≠ b))).take 7
theorem is_self (e : Option Int) (n : Int) (h : (e = none ∧ n = 0) ∨ (e = some n ∧ n ≠ 0)) : m_ref_Is e n = some true := by
  unfold m_ref_Is
  rcases h with ⟨rfl, rfl⟩ | ⟨rfl, h⟩
  · simp [cm]
  · have : (n != 0) = true := by simp [h]
    simp [cm, this]

end Go.Pl

namespace Go.Pl
open Go Go.Sw Go.Mo
abbrev Chg := Int × Int × Int × Blk
def hadErr (h : List Blk) : Int := if h.length > 8 then 2 else if h.Nodup then 0 else 3
def planErr (e h : List Blk) : Int := if e.length < 1 ∨ e.length > 32 then 1 else hadErr h
theorem hadMay' (l : List Blk) (h : l.length ≤ 1000000) : m_ref_HadMay l = some (hadErr l) := hadMay_is l h
theorem planMay_is (e h : List Blk) (hh : h.length ≤ 1000000) : m_ref_PlanMay e h = some (planErr e h) := by
  unfold m_ref_PlanMay planErr
  simp only [cl, cg, hadMay' h hh]
  by_cases h1 : e.length < 1
  · have : (e.length : Int) < 1 := by omega
    simp [h1, this]
  by_cases h2 : e.length > 32
  · have e1 : ¬ (e.length : Int) < 1 := by omega
    have e2 : (e.length : Int) > 32 := by omega
    simp [h1, h2, e1, e2]
  have e1 : ¬ (e.length : Int) < 1 := by omega
  have e2 : ¬ (e.length : Int) > 32 := by omega
  simp [h1, h2, e1, e2]
def opt (n : Int) : Option Int := if n = 0 then none else some n
theorem cacheCheck_opt (l : List Blk) (h : l.length ≤ 1000000) : m_cache_Check l = some (opt (hadErr l)) := by
  rw [check_is l h]
  unfold hadErr opt
  by_cases h1 : l.length > 8
  · simp [h1]
  by_cases h2 : l.Nodup <;> simp [h1, h2]
theorem checked_is (e h : List Blk) (hh : h.length ≤ 1000000) : m_plan_checked e h = some (opt (planErr e h)) := by
  unfold m_plan_checked planErr
  simp only [cl, cg, cacheCheck_opt h hh]
  by_cases h1 : e.length < 1
  · have : (e.length : Int) < 1 := by omega
    simp [h1, this, opt]
  by_cases h2 : e.length > 32
  · have e1 : ¬ (e.length : Int) < 1 := by omega
    have e2 : (e.length : Int) > 32 := by omega
    simp [h1, h2, e1, e2, opt]
  have e1 : ¬ (e.length : Int) < 1 := by omega
  have e2 : ¬ (e.length : Int) > 32 := by omega
  simp [h1, h2, e1, e2]
theorem is_opt (n : Int) : m_ref_Is (opt n) n = some true := by
  unfold m_ref_Is opt
  rw [cn, ce]
  by_cases h : n = 0 <;> simp [h]
/-! ### whether the changes go in order -/
def badC (n prev : Int) (x : Chg) : Bool := decide (x.1 ≤ prev) || decide (x.1 ≥ n) || decide (x.2.1 < 0) || decide (x.2.1 > 3)
def goes (n : Int) : Int → List Chg → Bool
  | _, [] => true
  | prev, x :: l => !badC n prev x && goes n x.1 l
theorem badC_is (n prev : Int) (x : Chg) {γ : Type} (k : Bool → Option γ) : ((bif (cm .leq x.1 prev) then
                  some true
                else
                  bif (cm .geq x.1 n) then
                    some true
                  else
                    bif (cm .lss x.2.1 (0 : Int)) then
                      some true
                    else
                      some (cm .gtr x.2.1 (3 : Int))).bind k) = k (badC n prev x) := by
  simp only [cle, cge, cl, cg]
  unfold badC
  by_cases h1 : x.1 ≤ prev
  · simp [h1]
  by_cases h2 : x.1 ≥ n
  · simp [h1, h2]
  by_cases h3 : x.2.1 < 0
  · simp [h1, h2, h3]
  simp [h1, h2, h3]
theorem goes_kind {n : Int} : ∀ {l : List Chg} {prev : Int}, goes n prev l = true → ∀ x ∈ l, 0 ≤ x.2.1 ∧ x.2.1 ≤ 3
  | [], _, _, x, hx => by simp at hx
  | y :: l, prev, h, x, hx => by
    simp only [goes, Bool.and_eq_true, Bool.not_eq_true'] at h
    rcases List.mem_cons.1 hx with rfl | hx
    · have := h.1
      unfold badC at this
      simp at this
      omega
    · exact goes_kind h.2 x hx
/-- what the law's first loop comes to -/
def okErr (w n : Int) (l : List Chg) : Int := if w = 0 then (if goes n (-1) l then 0 else 1) else w
theorem scan_is {γ : Type} (l : List Chg) (n w : Int) (hl : l.length ≤ 1000000) (k : Int → Option γ) :
    lp (β := Int) (fun (s40 : Int × Int × Int) =>
          (bif (cm .lss s40.2.2 (l.length : Int)) then
            some (cm .eql s40.1 (0 : Int))
          else
            some false).bind fun x59 =>
            bif x59 then
              (Sw.idx l s40.2.2).bind fun z62 =>
                (bif (cm .leq z62.1 s40.2.1) then
                  some true
                else
                  bif (cm .geq z62.1 n) then
                    some true
                  else
                    bif (cm .lss z62.2.1 (0 : Int)) then
                      some true
                    else
                      some (cm .gtr z62.2.1 (3 : Int))).bind fun x66 =>
                  jp (fun (x72 : Int) =>
                    some (.next (x72, z62.1, (ar .add .i64 s40.2.2 (1 : Int))))
                    ) fun k71 =>
                  bif x66 then
                    k71 (1 : Int)
                  else
                    k71 s40.1
            else
              some (.done (.brk s40.1))
          ) (w, (-1 : Int), (0 : Int)) k = k (okErr w n l) := by
  refine (lp_list (l := l) (fun i (acc : Int × Int) => (acc.1, acc.2, (i : Int))) (w, (-1 : Int)) (fun _ x acc => if acc.1 = 0 then .next (if badC n acc.2 x then 1 else acc.1, x.1) else .done (.brk acc.1)) (fun acc => .brk acc.1) (lenF hl (by decide)) ?_ ?_).trans ?_
  · intro pre x rest acc h
    simp only [lss_len h, cond_true, ce, Option.bind_some]
    by_cases h0 : acc.1 = 0
    · simp only [h0, decide_true, cond_true, idx_len h, Option.bind_some, badC_is, jp, if_true, stp]
      rw [nxt (by rw [h] at hl; simp at hl; omega)]
      by_cases hb : badC n acc.2 x = true
      · simp [hb]
      · simp only [Bool.not_eq_true] at hb
        simp [hb]
    · simp [h0, stp]
  · intro acc
    simp only [lss_self, cond_false, Option.bind_some]
  · have : ∀ (l : List Chg) (i : Nat) (w prev : Int), foldS (fun (_ : Nat) (x : Chg) (acc : Int × Int) => (if acc.1 = 0 then .next (if badC n acc.2 x then 1 else acc.1, x.1) else .done (.brk acc.1) : Step (Int × Int) (Ex Int γ))) (fun acc => .brk acc.1) i (w, prev) l = .brk (if w = 0 then (if goes n prev l then 0 else 1) else w) := by
      intro l
      induction l with
      | nil => intro i w prev; simp only [foldS, goes, if_true]; split <;> simp_all
      | cons x l ih =>
        intro i w prev
        simp only [foldS]
        by_cases h0 : w = 0
        · rw [if_pos h0]
          simp only
          rw [ih]
          by_cases hb : badC n prev x = true
          · simp [hb, h0, goes]
          · simp only [Bool.not_eq_true] at hb
            simp [hb, h0, goes]
        · simp [h0]
    rw [this]
    rfl
theorem scan2_is {γ : Type} (l : List Chg) (n : Int) (z : γ) (hl : l.length ≤ 1000000) (k : Unit → Option γ) :
    lp (β := Unit) (fun (s25 : Int × Int) =>
        bif (cm .lss s25.2 (l.length : Int)) then
          (Sw.idx l s25.2).bind fun z39 =>
            (bif (cm .leq z39.1 s25.1) then
              some true
            else
              bif (cm .geq z39.1 n) then
                some true
              else
                bif (cm .lss z39.2.1 (0 : Int)) then
                  some true
                else
                  some (cm .gtr z39.2.1 (3 : Int))).bind fun x43 =>
              bif x43 then
                some (.done (.ret z))
              else
                some (.next (z39.1, (ar .add .i64 s25.2 (1 : Int))))
        else
          some (.done (.brk ()))
        ) ((-1 : Int), (0 : Int)) k = if goes n (-1) l then k () else some z := by
  refine (lp_list (l := l) (fun i (acc : Int) => (acc, (i : Int))) (-1 : Int) (fun _ x acc => if badC n acc x then .done (.ret z) else .next x.1) (fun _ => .brk ()) (lenF hl (by decide)) ?_ ?_).trans ?_
  · intro pre x rest acc h
    simp only [lss_len h, cond_true, idx_len h, Option.bind_some, badC_is]
    by_cases hb : badC n acc x = true
    · simp [hb, stp]
    · simp only [Bool.not_eq_true] at hb
      rw [nxt (by rw [h] at hl; simp at hl; omega)]
      simp [hb, stp]
  · intro acc
    simp only [lss_self, cond_false]
  · have : ∀ (l : List Chg) (i : Nat) (prev : Int), foldS (fun (_ : Nat) (x : Chg) (acc : Int) => (if badC n acc x then .done (.ret z) else .next x.1 : Step Int (Ex Unit γ))) (fun _ => .brk ()) i prev l = if goes n prev l then .brk () else .ret z := by
      intro l
      induction l with
      | nil => intro i prev; simp [foldS, goes]
      | cons x l ih =>
        intro i prev
        simp only [foldS]
        by_cases hb : badC n prev x = true
        · simp [hb, goes]
        · simp only [Bool.not_eq_true] at hb
          simp [hb, goes, ih]
    rw [this]
    by_cases g : goes n (-1) l = true <;> simp [g, out]
/-! ### what is put, what is asked -/
def saidV (x : Chg) (e h : List Blk) : Blk × Bool :=
  if x.2.1 = 0 then (zblk, true) else if x.2.1 = 3 then (x.2.2.2, true) else
    let l := if x.2.1 = 2 then h else e
    if x.2.2.1 < 0 ∨ x.2.2.1 ≥ l.length then (zblk, false) else (l.getD x.2.2.1.toNat [], true)
theorem pick_is (l : List Blk) (n : Int) : ((bif (cm .lss n (0 : Int)) then
          some true
        else
          some (cm .geq n (l.length : Int))).bind fun x5 =>
          bif x5 then
            some (zblk, false)
          else
            (Sw.idx l n).bind fun z8 =>
              some (z8, true)) = some (if n < 0 ∨ n ≥ l.length then (zblk, false) else (l.getD n.toNat [], true)) := by
  rw [cl, cge]
  by_cases h1 : n < 0
  · simp [h1]
  by_cases h2 : n ≥ l.length
  · simp [h1, h2]
  have hlt : n.toNat < l.length := by omega
  have : Sw.idx l n = some (l.getD n.toNat []) := by unfold Sw.idx; rw [if_pos (by omega)]; simp [List.getD_eq_getElem?_getD, List.getElem?_eq_getElem hlt]
  simp only [h1, h2, decide_false, cond_false, Option.bind_some, this, or_self, if_false]
def put1 (e h : List Blk) (x : Chg) (acc : List (Int × Blk) × List Int) : List (Int × Blk) × List Int :=
  if (saidV x e h).2 then (acc.1 ++ [(x.1, (saidV x e h).1)], acc.2) else (acc.1, acc.2 ++ [x.1])
def puts (e h : List Blk) (l : List Chg) : List (Int × Blk) × List Int := (l.zipIdx).foldl (fun acc x => put1 e h x.1 acc) ([], [])
theorem put1_len (e h : List Blk) (x : Chg) (acc : List (Int × Blk) × List Int) : (put1 e h x acc).1.length + (put1 e h x acc).2.length = acc.1.length + acc.2.length + 1 := by
  unfold put1; split <;> simp <;> omega
theorem puts_len (e h : List Blk) (l : List Chg) : (puts e h l).1.length + (puts e h l).2.length = l.length := by
  unfold puts
  have : ∀ (z : List (Chg × Nat)) acc, (z.foldl (fun acc x => put1 e h x.1 acc) acc).1.length + (z.foldl (fun acc x => put1 e h x.1 acc) acc).2.length = acc.1.length + acc.2.length + z.length := by
    intro z
    induction z with
    | nil => intro acc; simp
    | cons x z ih => intro acc; rw [List.foldl_cons, ih, put1_len]; simp; omega
  rw [this]; simp
theorem put_step {γ : Type} (e h : List Blk) (x : Chg) (acc : List (Int × Blk) × List Int) (ha : acc.1.length + acc.2.length ≤ 1000000) (k : List (Int × Blk) × List Int → Option γ) (v : Blk × Bool) (hv : v = saidV x e h) :
    (bif v.2 then (Sw.app acc.1 ([(x.1, v.1)] : (List (Int × Blk)))).bind fun v119 => k (v119, acc.2) else (Sw.app acc.2 ([x.1] : (List Int))).bind fun v121 => k (acc.1, v121)) = k (put1 e h x acc) := by
  subst hv
  unfold put1
  rw [app_small _ _ (by simp; omega), app_small _ _ (by simp; omega)]
  by_cases c : (saidV x e h).2 = true
  · simp [c]
  · simp only [Bool.not_eq_true] at c
    simp [c]
def had1 (x : Chg) (acc : List Blk) : List Blk := if x.2.1 = 3 then touch x.2.2.2 acc else acc
def hadL (h : List Blk) (l : List Chg) : List Blk := (l.zipIdx).foldl (fun acc x => had1 x.1 acc) h
theorem touch_ok {b : Blk} {l : List Blk} (h : l.Nodup) : (touch b l).length ≤ 8 ∧ (touch b l).Nodup := by
  unfold touch
  refine ⟨by simp; omega, List.nodup_cons.2 ⟨fun hm => ?_, ?_⟩⟩
  · have := List.mem_of_mem_take hm
    simp at this
  · exact (h.sublist (List.filter_sublist)).sublist (List.take_sublist _ _)
theorem had1_ok {x : Chg} {l : List Blk} (h : l.length ≤ 8 ∧ l.Nodup) : (had1 x l).length ≤ 8 ∧ (had1 x l).Nodup := by
  unfold had1; split
  · exact touch_ok h.2
  · exact h
theorem hadL_len (h : List Blk) (l : List Chg) (hh : h.length ≤ 8 ∧ h.Nodup) : (hadL h l).length ≤ 8 := by
  unfold hadL
  have : ∀ (z : List (Chg × Nat)) (h : List Blk), h.length ≤ 8 ∧ h.Nodup → (z.foldl (fun acc x => had1 x.1 acc) h).length ≤ 8 := by
    intro z
    induction z with
    | nil => intro h hh; exact hh.1
    | cons x z ih => intro h hh; rw [List.foldl_cons]; exact ih _ (had1_ok hh)
  exact this _ _ hh
end Go.Pl

namespace Go.Pl
open Go Go.Sw Go.Mo
/-! ### an index of blocks -/
theorem kp_none {α : Type} [DecidableEq α] {k : α} : ∀ {l : List α}, kp l k = none → k ∉ l
  | [], _ => by simp
  | a :: l, h => by
    simp only [kp] at h
    split at h
    · cases h
    · rename_i ha
      cases hr : kp l k with
      | none => have := kp_none hr; simp only [List.mem_cons, not_or]; exact ⟨fun e => ha e.symm, this⟩
      | some j => rw [hr] at h; cases h
theorem mget_none {α β : Type} [DecidableEq α] {k : α} : ∀ {m : List (α × β)}, k ∉ m.map (·.1) → mget m k = none
  | [], _ => rfl
  | (a, b) :: m, h => by
    simp only [List.map_cons, List.mem_cons, not_or] at h
    simp only [mget, if_neg (fun e => h.1 (Eq.symm e))]
    exact mget_none h.2
theorem mget_append {α β : Type} [DecidableEq α] {k : α} {v : β} {b : α} : ∀ {m : List (α × β)}, k ∉ m.map (·.1) → mget (m ++ [(k, v)]) b = if b = k then some v else mget m b
  | [], _ => by simp only [List.nil_append, mget]; by_cases h : k = b <;> simp [h]; intro e; exact (h e.symm).elim
  | (a, c) :: m, h => by
    simp only [List.map_cons, List.mem_cons, not_or] at h
    simp only [List.cons_append, mget, mget_append h.2]
    by_cases ha : a = b
    · subst ha; rw [if_pos rfl, if_pos rfl, if_neg (fun e => h.1 e.symm)]
    · simp [ha]
theorem mget_mset {α β : Type} [DecidableEq α] {k : α} {v : β} {b : α} : ∀ {m : List (α × β)} {q : Nat}, kp (m.map (·.1)) k = some q → mget (mset m q v) b = if b = k then some v else mget m b
  | [], q, h => by simp [kp] at h
  | (a, c) :: m, q, h => by
    simp only [List.map_cons, kp] at h
    split at h
    · rename_i ha
      cases h; subst ha
      simp only [mset, List.modify_zero_cons, mget]
      by_cases hb : a = b
      · simp [hb]
      · have : ¬ b = a := fun e => hb e.symm
        simp [hb, this]
    · rename_i ha
      cases hr : kp (m.map (·.1)) k with
      | none => rw [hr] at h; cases h
      | some j =>
        rw [hr] at h; cases h
        have := mget_mset (v := v) (b := b) hr
        simp only [mset] at this
        simp only [mset, List.modify_succ_cons, mget, this]
        by_cases hb : a = b
        · subst hb; simp [ha]
        · simp [hb]
theorem ment_is {κ α : Type} [DecidableEq κ] (m : List (κ × List α)) (k : κ) (hm : m.length ≤ 140737488355328) :
    ∃ r, ment m k = some r ∧ r.2.2 = (mget m k).getD [] ∧ (∀ v b, mget (mset r.1 r.2.1 v) b = if b = k then some v else mget m b) ∧ ∀ v, (mset r.1 r.2.1 v).length ≤ m.length + 1 := by
  unfold ment
  rw [if_pos hm]
  cases hk : kp (m.map (·.1)) k with
  | none =>
    have h1 := kp_none hk
    refine ⟨_, rfl, by rw [mget_none h1]; rfl, fun v b => ?_, fun v => ?_⟩
    · have : mset (m ++ [(k, [])]) m.length v = m ++ [(k, v)] := by
        apply List.ext_getElem?; intro i
        simp only [mset, List.getElem?_modify]
        rcases Nat.lt_trichotomy i m.length with h | h | h
        · rw [List.getElem?_append_left h, List.getElem?_append_left h]; have : ¬ m.length = i := by omega
          simp [this]
        · subst h; simp
        · rw [List.getElem?_eq_none (by simp; omega), List.getElem?_eq_none (by simp; omega)]; rfl
      simp only [this]
      exact mget_append h1
    · simp [mset]
  | some q =>
    refine ⟨_, rfl, ?_, fun v b => mget_mset hk, fun v => by simp [mset]⟩
    rw [mget_kp, hk]; rfl
/-- an index that tells the first places -/
structure IdxOk (l : List Blk) (M : List (Blk × List Int)) : Prop where
  none : ∀ b, b ∉ l → mget M b = Option.none
  some : ∀ b, b ∈ l → ∃ t, mget M b = Option.some (((l.idxOf b : Nat) : Int) :: t) ∧ t.length ≤ l.length
  len : M.length ≤ l.length
theorem clone_is (l : List Blk) (h : l.length ≤ 1000000) : m_slices_Clone_api_Block_api_Block l = some l := by
  unfold m_slices_Clone_api_Block_api_Block
  rw [app_small _ _ (by simp; omega)]; rfl
theorem IdxOk.add {l : List Blk} {M M' : List (Blk × List Int)} {x : Blk} (h : IdxOk l M) (hg : ∀ b, mget M' b = if b = x then Option.some ((mget M x).getD [] ++ [(l.length : Int)]) else mget M b) (hlen : M'.length ≤ M.length + 1) : IdxOk (l ++ [x]) M' := by
  refine ⟨fun b hb => ?_, fun b hb => ?_, by have := h.len; simp; omega⟩
  · simp only [List.mem_append, List.mem_singleton, not_or] at hb
    rw [hg, if_neg hb.2, h.none b hb.1]
  · rw [hg]
    by_cases hbx : b = x
    · subst hbx
      rw [if_pos rfl, List.idxOf_append]
      by_cases hm : b ∈ l
      · obtain ⟨t, h1, h2⟩ := h.some b hm
        rw [h1, if_pos hm]
        exact ⟨t ++ [(l.length : Int)], by simp, by simp; omega⟩
      · rw [h.none b hm, if_neg hm]
        exact ⟨[], by simp, by simp⟩
    · have hm : b ∈ l := by
        rcases List.mem_append.1 hb with h | h
        · exact h
        · exact (hbx (by simpa using h)).elim
      rw [if_neg hbx, List.idxOf_append, if_pos hm]
      obtain ⟨t, h1, h2⟩ := h.some b hm
      exact ⟨t, h1, by simp; omega⟩
theorem cacheNew_is (l : List Blk) (h1 : 1 ≤ l.length) (h2 : l.length ≤ 32) : ∃ M, IdxOk l M ∧ m_cache_New l = some (some (l, M), none) := by
  unfold m_cache_New
  have c1 : cm .lss (l.length : Int) 1 = false := by rw [cl]; simp; omega
  have c2 : cm .gtr (l.length : Int) 32 = false := by rw [cg]; simp; omega
  simp only [c1, cond_false, c2, Option.bind_some, clone_is l (by omega)]
  have e0 : ((0 : Int), ([] : List (Blk × List Int))) = (fun (i : Nat) (acc : List (Blk × List Int)) => ((i : Int), acc)) 0 [] := rfl
  rw [e0]
  obtain ⟨M, h3, h4⟩ := lp_go (l := l) (k := fun x28 => some (some (l, x28), (none : Option Int))) (step := fun (s20 : Int × (List (Blk × (List Int)))) =>
          bif (cm .lss s20.1 (l.length : Int)) then
            (Sw.idx l s20.1).bind fun z30 =>
              (ment s20.2 z30).bind fun v33 =>
                (Sw.app v33.2.2 ([s20.1] : (List Int))).bind fun v34 =>
                  some (.next ((ar .add .i64 s20.1 (1 : Int)), mset v33.1 v33.2.1 v34))
          else
            some (.done (.brk s20.2))) (fun (i : Nat) (acc : List (Blk × List Int)) => ((i : Int), acc)) (fun pre acc => IdxOk pre acc) (fun acc => acc) [] (by unfold FUEL; omega) ⟨fun b _ => rfl, fun b hb => by simp at hb, Nat.le_refl _⟩ (by
      intro pre x rest acc hl hI
      have hpl : pre.length < 32 := by rw [hl] at h2; simp at h2; omega
      obtain ⟨r, k1, k2, k3, k4⟩ := ment_is acc x (by have := hI.len; omega)
      have hz : r.2.2.length + 1 ≤ 4294967296 := by
        rw [k2]
        by_cases hm : x ∈ pre
        · obtain ⟨t, h5, h6⟩ := hI.some x hm; rw [h5]; simp; omega
        · rw [hI.none x hm]; simp
      refine ⟨mset r.1 r.2.1 (r.2.2 ++ [(pre.length : Int)]), ?_, hI.add (fun b => ?_) (k4 _)⟩
      · simp only [lss_len hl, cond_true, idx_len hl, Option.bind_some, k1, app_small _ [(pre.length : Int)] (by simpa using hz)]
        rw [nxt (by omega)]
      · rw [k3, k2]) (by
      intro acc hI
      simp only [lss_self, cond_false])
  exact ⟨M, h3, h4⟩
theorem cacheNew_bad (l : List Blk) (h : l.length < 1 ∨ l.length > 32) : m_cache_New l = some (none, some 1) := by
  unfold m_cache_New
  by_cases h1 : l.length < 1
  · have c1 : cm .lss (l.length : Int) 1 = true := by rw [cl]; simp; omega
    simp [c1]
  · have c1 : cm .lss (l.length : Int) 1 = false := by rw [cl]; simp; omega
    have c2 : cm .gtr (l.length : Int) 32 = true := by rw [cg]; simp; omega
    simp [c1, c2]
theorem indexFind_is {l l' : List Blk} {M : List (Blk × List Int)} (h : IdxOk l M) (b : Blk) : m_cache_Index_Find (some (l', M)) b = some (if b ∈ l then (((l.idxOf b : Nat) : Int), true) else (0, false)) := by
  unfold m_cache_Index_Find
  simp only [Option.bind_some]
  by_cases hb : b ∈ l
  · obtain ⟨t, h1, _⟩ := h.some b hb
    rw [h1, if_pos hb]
    have : cm .eql (((some (((l.idxOf b : Nat) : Int) :: t)).getD []).length : Int) 0 = false := by rw [ce]; simp; omega
    rw [this]
    simp [Sw.idx]
  · rw [h.none b hb, if_neg hb]
    simp [ce]
theorem index_is (l : List Blk) (b : Blk) (h : l.length ≤ 1000000) : m_slices_Index_api_Block_api_Block l b = some (if b ∈ l then ((l.idxOf b : Nat) : Int) else -1) := by
  rw [← first_is l b h]
  unfold m_slices_Index_api_Block_api_Block m_ref_First
  have : ∀ z : Blk, decide (b = z) = decide (z = b) := fun z => by by_cases h : b = z <;> simp [h]; intro e; exact (h e.symm).elim
  simp only [this]
theorem cacheFind_is (l : List Blk) (b : Blk) (h : l.length ≤ 1000000) : m_cache_Find l b = some (if b ∈ l then (((l.idxOf b : Nat) : Int), true) else (0, false)) := by
  unfold m_cache_Find
  rw [index_is l b h, Option.bind_some]
  by_cases hb : b ∈ l
  · simp only [hb, if_true, cge]; congr 2 <;> simp
  · simp [hb, cge]; decide
/-! ### one packet -/
abbrev Pt := Int × Blk
def pkt (p : Pt) (peer had : List Blk) : Chg :=
  if p.2 = zblk then (p.1, 0, 0, zblk) else if p.2 ∈ peer then (p.1, 1, ((peer.idxOf p.2 : Nat) : Int), zblk) else if p.2 ∈ had then (p.1, 2, ((had.idxOf p.2 : Nat) : Int), zblk) else (p.1, 3, 0, p.2)
def same (p : Pt) (peer : List Blk) : Bool := decide (peer[p.1.toNat]? = some p.2)
def pkts (puts : List Pt) (peer had : List Blk) : List Chg := (puts.filter fun p => !same p peer).map fun p => pkt p peer had
theorem packetOf_is (p : Pt) (peer had : List Blk) (h0 : 0 ≤ p.1) (h1 : p.1 < peer.length) (hp : peer.length ≤ 1000000) (hh : had.length ≤ 1000000) :
    ∃ q, m_ref_PacketOf p peer had = some (q, !same p peer) ∧ (same p peer = false → q = pkt p peer had) := by
  unfold m_ref_PacketOf
  obtain ⟨x, hx, hx'⟩ := idx_nat (l := peer) h0 h1
  rw [hx, Option.bind_some]
  unfold same
  rw [hx']
  by_cases he : x = p.2
  · exact ⟨((0 : Int), (0 : Int), (0 : Int), zblk), by simp [he], by simp [he]⟩
  have he' : ¬ some x = some p.2 := by simpa using he
  simp only [he, he', decide_false, cond_false, Bool.not_false, first_is _ _ hp, first_is _ _ hh, Option.bind_some]
  unfold pkt
  by_cases hz : p.2 = zblk
  · exact ⟨_, by simp [hz]; rfl, by simp [hz]⟩
  by_cases h2 : p.2 ∈ peer
  · have : cm .geq ((peer.idxOf p.2 : Nat) : Int) 0 = true := by rw [cge]; simp
    exact ⟨_, by simp [hz, h2, this]; rfl, by simp [hz, h2]⟩
  by_cases h3 : p.2 ∈ had
  · have : cm .geq ((had.idxOf p.2 : Nat) : Int) 0 = true := by rw [cge]; simp
    have c : cm .geq (-1) 0 = false := by rw [cge]; simp
    exact ⟨_, by simp [hz, h2, h3, this, c]; rfl, by simp [hz, h2, h3]⟩
  · have c : cm .geq (-1) 0 = false := by rw [cge]; simp
    exact ⟨_, by simp [hz, h2, h3, c]; rfl, by simp [hz, h2, h3]⟩
theorem ways_is {γ : Type} {peer peer' had : List Blk} {M : List (Blk × List Int)} (h : IdxOk peer M) (hh : had.length ≤ 1000000) (p : Pt) (acc : List Chg) (ha : acc.length ≤ 1000000) (k : List Chg → Option γ) :
    lp (β := (List (Int × Int × Int × Blk))) (fun (s262 : Int) =>
                      bif (cm .lss s262 (([(.inl () : PWay), (.inr (.inl (some (peer', M))) : PWay), (.inr (.inr (.inl had)) : PWay), (.inr (.inr (.inr (.inl ()))) : PWay)] : (List PWay)).length : Int)) then
                        (Sw.idx ([(.inl () : PWay), (.inr (.inl (some (peer', M))) : PWay), (.inr (.inr (.inl had)) : PWay), (.inr (.inr (.inr (.inl ()))) : PWay)] : (List PWay)) s262).bind fun z271 =>
                          (m_inv_PWay z271 p).bind fun v272 =>
                            bif v272.2 then
                              (Sw.app acc ([v272.1] : (List (Int × Int × Int × Blk)))).bind fun v274 =>
                                some (.done (.brk v274))
                            else
                              some (.next (ar .add .i64 s262 (1 : Int)))
                      else
                        some (.done (.brk acc))
                      ) (0 : Int) k = k (acc ++ [pkt p peer had]) := by
  obtain ⟨ws, hws⟩ : ∃ ws, ws = ([(.inl () : PWay), (.inr (.inl (some (peer', M))) : PWay), (.inr (.inr (.inl had)) : PWay), (.inr (.inr (.inr (.inl ()))) : PWay)] : (List PWay)) := ⟨_, rfl⟩
  rw [← hws]
  have hv : ∀ w ∈ ws, ∃ v, m_inv_PWay w p = some v := by
    intro w hw
    rw [hws] at hw
    simp only [List.mem_cons, List.not_mem_nil, or_false] at hw
    rcases hw with rfl | rfl | rfl | rfl
    · exact ⟨_, rfl⟩
    · exact ⟨_, by simp only [m_inv_PWay, m_plan_same_tell, indexFind_is h, Option.bind_some]; rfl⟩
    · exact ⟨_, by simp only [m_inv_PWay, m_plan_cached_tell, cacheFind_is had _ hh, Option.bind_some]; rfl⟩
    · exact ⟨_, rfl⟩
  have happ : ∀ q : Chg, Sw.app acc [q] = some (acc ++ [q]) := fun q => app_small acc [q] (by simp; omega)
  rw [show (0 : Int) = (fun (i : Nat) (_ : Unit) => (i : Int)) 0 () from rfl, lp_list (l := ws) (fun (i : Nat) (_ : Unit) => (i : Int)) () (fun _ w _ => match m_inv_PWay w p with | some v => if v.2 = true then .done (.brk (acc ++ [v.1])) else .next () | none => .next ()) (fun _ => .brk acc) (by rw [hws]; unfold FUEL; simp)]
  · have e1 : m_inv_PWay (.inl ()) p = some ((p.1, 0, 0, zblk), decide (p.2 = zblk)) := rfl
    have e2 : m_inv_PWay (.inr (.inl (some (peer', M)))) p = some ((p.1, 1, (if p.2 ∈ peer then (((peer.idxOf p.2 : Nat) : Int), true) else (0, false)).1, zblk), (if p.2 ∈ peer then (((peer.idxOf p.2 : Nat) : Int), true) else (0, false)).2) := by
      simp only [m_inv_PWay, m_plan_same_tell, indexFind_is h, Option.bind_some]
    have e3 : m_inv_PWay (.inr (.inr (.inl had))) p = some ((p.1, 2, (if p.2 ∈ had then (((had.idxOf p.2 : Nat) : Int), true) else (0, false)).1, zblk), (if p.2 ∈ had then (((had.idxOf p.2 : Nat) : Int), true) else (0, false)).2) := by
      simp only [m_inv_PWay, m_plan_cached_tell, cacheFind_is had _ hh, Option.bind_some]
    have e4 : m_inv_PWay (.inr (.inr (.inr (.inl ())))) p = some ((p.1, 3, 0, p.2), true) := rfl
    rw [hws]
    simp only [foldS, e1, e2, e3, e4]
    unfold pkt
    by_cases hz : p.2 = zblk
    · simp [hz, out]
    by_cases h2 : p.2 ∈ peer
    · simp [hz, h2, out]
    by_cases h3 : p.2 ∈ had
    · simp [hz, h2, h3, out]
    · simp [hz, h2, h3, out]
  · intro pre x rest u hl
    obtain ⟨v, hv⟩ := hv x (by rw [hl]; simp)
    have hpl : pre.length ≤ 4 := by
      have : ws.length = 4 := by rw [hws]; rfl
      rw [hl] at this; simp at this; omega
    simp only [lss_len hl, cond_true, idx_len hl, Option.bind_some, hv, happ]
    cases hv2 : v.2 with
    | true => simp [stp]
    | false => simp only [cond_false, Bool.false_eq_true, if_false, stp]; rw [nxt (by omega)]
  · intro u
    simp only [lss_self, cond_false]
end Go.Pl

namespace Go.Pl
open Go Go.Sw Go.Mo
/-- places that rise, below a bound -/
def badP (n prev : Int) (x : Pt) : Bool := decide (x.1 ≤ prev) || decide (x.1 ≥ n)
def rise (n : Int) : Int → List Pt → Bool
  | _, [] => true
  | prev, x :: l => !badP n prev x && rise n x.1 l
theorem rise_mem {n : Int} : ∀ {l : List Pt} {prev : Int}, rise n prev l = true → ∀ x ∈ l, prev < x.1 ∧ x.1 < n
  | [], _, _, x, hx => by simp at hx
  | y :: l, prev, h, x, hx => by
    simp only [rise, Bool.and_eq_true, Bool.not_eq_true'] at h
    have h1 := h.1
    unfold badP at h1
    simp at h1
    rcases List.mem_cons.1 hx with rfl | hx
    · omega
    · have := rise_mem h.2 x hx; omega
theorem rising_is (l : List Pt) (n : Int) (hl : l.length ≤ 1000000) : m_ref_Rising l n = some (rise n (-1) l) := by
  unfold m_ref_Rising
  rw [show (0 : Int) = (fun (i : Nat) (_ : Int) => (i : Int)) 0 (-1) from rfl, lp_walk (l := l) (fun (i : Nat) (_ : Int) => (i : Int)) (fun pre acc => acc = (match pre.getLast? with | some y => y.1 | none => -1) ∧ (pre = [] ∨ -1 ≤ acc)) (fun acc x => if badP n acc x then .done (.ret false) else .next x.1) (fun _ => .brk ()) (-1) (by unfold FUEL; omega) ⟨rfl, .inl rfl⟩]
  · have : ∀ (l : List Pt) (prev : Int), foldG (fun (acc : Int) (x : Pt) => (if badP n acc x then Step.done (Ex.ret false) else .next x.1 : Step Int (Ex Unit Bool))) (fun _ => .brk ()) prev l = if rise n prev l then .brk () else .ret false := by
      intro l
      induction l with
      | nil => intro prev; simp [foldG, rise]
      | cons x l ih =>
        intro prev
        simp only [foldG, rise]
        by_cases hb : badP n prev x = true
        · simp [hb]
        · simp [hb, ih]
    rw [this]
    cases rise n (-1) l <;> simp [out]
  · rintro pre x rest acc rfl ⟨hI, hJ⟩
    have hpl : pre.length ≤ 1000000 := by simp at hl; omega
    refine ⟨?_, fun acc' h => ?_⟩
    · simp only [lss_app, cond_true, idx_app, Option.bind_some]
      simp only [cl, cge, cg, cle]
      rcases List.eq_nil_or_concat pre with rfl | ⟨pre', y, rfl⟩
      · simp only [List.getLast?_nil] at hI
        subst hI
        unfold badP
        by_cases h1 : x.1 < 0
        · have : x.1 ≤ -1 := by omega
          simp [h1, this, stp]
        · have e : ¬ x.1 ≤ -1 := by omega
          by_cases h2 : x.1 ≥ n
          · simp [h1, h2, stp]
          · simp [h1, h2, e, stp, addI]
      · simp only [List.concat_eq_append, List.getLast?_append, List.getLast?_singleton, Option.some_or] at hI
        have hJ : -1 ≤ acc := by
          rcases hJ with h | h
          · simp at h
          · exact h
        subst hI
        have hidx : Sw.idx (pre'.concat y ++ x :: rest) (ar .sub .i64 ((pre'.concat y).length : Int) 1) = some y := by
          simp only [List.concat_eq_append, List.length_append, List.length_singleton]
          simp at hpl
          rw [subI (by push_cast; omega), show ((pre'.length + 1 : Nat) : Int) - 1 = (pre'.length : Int) by omega, List.append_assoc]
          exact idx_app pre' y _
        rw [hidx]
        have hpos : ((pre'.concat y).length : Int) > 0 := by simp <;> omega
        unfold badP
        rw [nxt (by omega)]
        by_cases h1 : x.1 < 0
        · have : x.1 ≤ y.1 := by omega
          simp [h1, this, stp]
        · by_cases h2 : x.1 ≥ n
          · simp [h1, h2, stp]
          · by_cases h3 : x.1 ≤ y.1
            · simp [h1, h2, h3, stp]
            · simp [h1, h2, h3, stp]
    · split at h
      · cases h
      · rename_i hb
        cases h
        refine ⟨by simp, .inr ?_⟩
        unfold badP at hb
        simp at hb
        rcases hJ with rfl | hJ
        · simp at hI; omega
        · omega
  · rintro acc -
    simp only [lss_self, cond_false]
theorem scanP_is {γ : Type} (l : List Pt) (n : Int) (z : γ) (hl : l.length ≤ 1000000) (k : Unit → Option γ) :
    lp (β := Unit) (fun (s17 : Int × Int) =>
        bif (cm .lss s17.2 (l.length : Int)) then
          (Sw.idx l s17.2).bind fun z27 =>
            (bif (cm .leq z27.1 s17.1) then
              some true
            else
              some (cm .geq z27.1 n)).bind fun x29 =>
              bif x29 then
                some (.done (.ret z))
              else
                some (.next (z27.1, (ar .add .i64 s17.2 (1 : Int))))
        else
          some (.done (.brk ()))
        ) ((-1 : Int), (0 : Int)) k = if rise n (-1) l then k () else some z := by
  rw [show ((-1 : Int), (0 : Int)) = (fun (i : Nat) (acc : Int) => (acc, (i : Int))) 0 (-1) from rfl, lp_walk (l := l) (fun (i : Nat) (acc : Int) => (acc, (i : Int))) (fun _ _ => True) (fun acc x => if badP n acc x then .done (.ret z) else .next x.1) (fun _ => .brk ()) (-1) (by unfold FUEL; omega) trivial]
  · have : ∀ (l : List Pt) (prev : Int), foldG (fun (acc : Int) (x : Pt) => (if badP n acc x then Step.done (Ex.ret z) else .next x.1 : Step Int (Ex Unit γ))) (fun _ => .brk ()) prev l = if rise n prev l then .brk () else .ret z := by
      intro l
      induction l with
      | nil => intro prev; simp [foldG, rise]
      | cons x l ih =>
        intro prev
        simp only [foldG, rise]
        by_cases hb : badP n prev x = true
        · simp [hb]
        · simp [hb, ih]
    rw [this]
    cases rise n (-1) l <;> simp [out]
  · rintro pre x rest acc rfl -
    have hpl : pre.length ≤ 1000000 := by simp at hl; omega
    refine ⟨?_, fun _ _ => trivial⟩
    simp only [lss_app, cond_true, idx_app, Option.bind_some]
    simp only [cge, cle]
    rw [nxt (by omega)]
    unfold badP
    by_cases h1 : x.1 ≤ acc
    · simp [h1, stp]
    · by_cases h2 : x.1 ≥ n
      · simp [h1, h2, stp]
      · simp [h1, h2, stp]
  · rintro acc -
    simp only [lss_self, cond_false]
theorem pkts_len (l : List Pt) (peer had : List Blk) : (pkts l peer had).length ≤ l.length := by unfold pkts; rw [List.length_map]; exact List.length_filter_le _ _
theorem pkts_add (pre : List Pt) (x : Pt) (peer had : List Blk) : pkts (pre ++ [x]) peer had = pkts pre peer had ++ (if same x peer then [] else [pkt x peer had]) := by
  unfold pkts
  rw [List.filter_append, List.map_append]
  cases h : same x peer <;> simp [List.filter_cons, h]
theorem opt_zero : opt 0 = none := rfl
theorem opt_ne {n : Int} (h : n ≠ 0) : opt n = some n := by unfold opt; rw [if_neg h]
theorem packets_is (l : List Pt) (peer had : List Blk) (hl : l.length ≤ 1000) (hh : had.length ≤ 1000000) :
    m_plan_Packets l peer had = some (if planErr peer had ≠ 0 then ([], some (planErr peer had)) else if rise (peer.length : Int) (-1) l then (pkts l peer had, none) else ([], some 1)) := by
  unfold m_plan_Packets
  rw [checked_is peer had hh, Option.bind_some]
  by_cases he : planErr peer had ≠ 0
  · rw [opt_ne he, if_pos he]; rfl
  have he : planErr peer had = 0 := by simpa using he
  have hpl : 1 ≤ peer.length ∧ peer.length ≤ 32 := by
    unfold planErr at he
    split at he
    · cases he
    · omega
  rw [he, opt_zero]
  simp only [Option.isSome_none, cond_false]
  rw [scanP_is l _ _ (by omega)]
  cases hr : rise (peer.length : Int) (-1) l with
  | false => simp
  | true =>
    simp only [if_true]
    obtain ⟨M, hM, hN⟩ := cacheNew_is peer hpl.1 hpl.2
    rw [hN, Option.bind_some]
    simp only [Option.isSome_none, cond_false]
    have e0 : ((0 : Int), ([] : List Chg)) = (fun (i : Nat) (acc : List Chg) => ((i : Int), acc)) 0 [] := rfl
    rw [e0]
    refine (lp_go' (l := l) (r := some (pkts l peer had, none)) (fun (i : Nat) (acc : List Chg) => ((i : Int), acc)) (fun pre acc => acc = pkts pre peer had) (fun acc => acc) [] (by unfold FUEL; omega) rfl ?_ ?_ ?_).trans (by simp)
    · rintro pre x rest acc hd rfl
      have hx := rise_mem hr x (by rw [hd]; simp)
      have hpre : pre.length ≤ 1000 := by rw [hd] at hl; simp at hl; omega
      have hle := pkts_len pre peer had
      obtain ⟨y, hy, hy'⟩ := idx_nat (l := peer) (n := x.1) (by omega) hx.2
      have hs : same x peer = decide (y = x.2) := by unfold same; rw [hy']; simp
      refine ⟨pkts pre peer had ++ (if same x peer then [] else [pkt x peer had]), ?_, (pkts_add _ _ _ _).symm⟩
      simp only [lss_len hd, cond_true, idx_len hd, Option.bind_some, jp, hy, ← hs]
      rw [ways_is hM hh x (pkts pre peer had) (by omega)]
      rw [nxt (by omega)]
      cases same x peer <;> simp
    · rintro acc rfl
      simp only [lss_self, cond_false]
    · rintro acc rfl
      rfl
end Go.Pl

namespace Go.Pl
open Go Go.Sw Go.Mo
theorem want_go {γ : Type} (l : List Pt) (peer had : List Blk) (hr : rise (peer.length : Int) (-1) l = true) (hl : l.length ≤ 1000) (hp : peer.length ≤ 1000000) (hh : had.length ≤ 1000000) (k : List Chg → Option γ) :
    lp (β := (List (Int × Int × Int × Blk))) (fun (s34 : Int × (List (Int × Int × Int × Blk))) =>
              (bif (cm .lss s34.1 (l.length : Int)) then
                some true
              else
                some false).bind fun x46 =>
                bif x46 then
                  (Sw.idx l s34.1).bind fun z49 =>
                    (m_ref_PacketOf z49 peer had).bind fun v50 =>
                      bif v50.2 then
                        (Sw.app s34.2 ([v50.1] : (List (Int × Int × Int × Blk)))).bind fun v52 =>
                          some (.next ((ar .add .i64 s34.1 (1 : Int)), v52))
                      else
                        some (.next ((ar .add .i64 s34.1 (1 : Int)), s34.2))
                else
                  some (.done (.brk s34.2))
              ) ((0 : Int), ([] : (List (Int × Int × Int × Blk)))) k = k (pkts l peer had) := by
  have e0 : ((0 : Int), ([] : List Chg)) = (fun (i : Nat) (acc : List Chg) => ((i : Int), acc)) 0 [] := rfl
  rw [e0]
  refine lp_go' (l := l) (fun (i : Nat) (acc : List Chg) => ((i : Int), acc)) (fun pre acc => acc = pkts pre peer had) (fun acc => acc) [] (by unfold FUEL; omega) rfl ?_ ?_ ?_
  · rintro pre x rest acc hd rfl
    have hx := rise_mem hr x (by rw [hd]; simp)
    have hpre : pre.length ≤ 1000 := by rw [hd] at hl; simp at hl; omega
    have hle := pkts_len pre peer had
    obtain ⟨q, hq, hq'⟩ := packetOf_is x peer had (by omega) hx.2 hp hh
    refine ⟨pkts pre peer had ++ (if same x peer then [] else [pkt x peer had]), ?_, (pkts_add _ _ _ _).symm⟩
    simp only [lss_len hd, cond_true, idx_len hd, Option.bind_some, hq]
    rw [nxt (by omega)]
    cases hs : same x peer with
    | true => simp
    | false =>
      have := hq' hs
      subst this
      simp only [Bool.not_false, decide_true, cond_true, app_small (pkts pre peer had) [pkt x peer had] (by simp; omega), Option.bind_some, Bool.false_eq_true, if_false]
  · rintro acc rfl
    simp only [lss_self, cond_false, Option.bind_some]
  · rintro acc rfl
    rfl
theorem want_stop {γ : Type} (l : List Pt) (peer had : List Blk) (k : List Chg → Option γ) :
    lp (β := (List (Int × Int × Int × Blk))) (fun (s34 : Int × (List (Int × Int × Int × Blk))) =>
              (bif (cm .lss s34.1 (l.length : Int)) then
                some false
              else
                some false).bind fun x46 =>
                bif x46 then
                  (Sw.idx l s34.1).bind fun z49 =>
                    (m_ref_PacketOf z49 peer had).bind fun v50 =>
                      bif v50.2 then
                        (Sw.app s34.2 ([v50.1] : (List (Int × Int × Int × Blk)))).bind fun v52 =>
                          some (.next ((ar .add .i64 s34.1 (1 : Int)), v52))
                      else
                        some (.next ((ar .add .i64 s34.1 (1 : Int)), s34.2))
                else
                  some (.done (.brk s34.2))
              ) ((0 : Int), ([] : (List (Int × Int × Int × Blk)))) k = k [] := by
  unfold lp
  rw [show FUEL = (FUEL - 1) + 1 by unfold FUEL; rfl]
  simp only [loop]
  cases cm .lss (0 : Int) (l.length : Int) <;> rfl
theorem law_PlanSays (l : List Pt) (peer had : List Blk) : m_law_PlanSays l peer had = some true := by
  unfold m_law_PlanSays
  simp only [cg]
  by_cases h1 : l.length > 100
  · have : (l.length : Int) > 100 := by omega
    simp [this]
  by_cases h2 : peer.length > 100
  · have : (peer.length : Int) > 100 := by omega
    simp [this]
  by_cases h3 : had.length > 100
  · have : (had.length : Int) > 100 := by omega
    simp [this]
  have d1 : ¬ (l.length : Int) > 100 := by omega
  have d2 : ¬ (peer.length : Int) > 100 := by omega
  have d3 : ¬ (had.length : Int) > 100 := by omega
  simp only [d1, d2, d3, decide_false, cond_false, Option.bind_some]
  rw [planMay_is peer had (by omega), Option.bind_some, rising_is l _ (by omega), packets_is l peer had (by omega) (by omega)]
  simp only [jp, Option.bind_some]
  by_cases he : planErr peer had = 0
  · simp only [he, ce, decide_true, cond_true, ne_eq, not_true, if_false, Option.bind_some]
    cases hr : rise (peer.length : Int) (-1) l with
    | true =>
      simp only [Bool.not_true, cond_false, if_true]
      rw [want_go l peer had hr (by omega) (by omega) (by omega)]
      rw [show (none : Option Int) = opt 0 from rfl, is_opt, Option.bind_some]
      simp only [Bool.not_true, cond_false, cn, ne_eq, not_true, decide_false, Option.bind_some]
      exact same_loop _ (by have := pkts_len l peer had; omega) _
    | false =>
      simp only [Bool.not_false, cond_true, Bool.false_eq_true, if_false]
      rw [show (decide ((1 : Int) = 0)) = false from rfl, want_stop l peer had]
      rw [show (some 1 : Option Int) = opt 1 from rfl, is_opt, Option.bind_some]
      simp only [Bool.not_true, cond_false, cn, ne_eq, not_true, decide_false, Option.bind_some]
      exact same_loop ([] : List Chg) (by simp) _
  · simp only [he, ce, decide_false, cond_false, ne_eq, not_false_eq_true, if_true, Option.bind_some]
    rw [want_stop l peer had]
    rw [← opt_ne he, is_opt, Option.bind_some]
    simp only [Bool.not_true, cond_false, cn, ne_eq, not_true, decide_false, Option.bind_some]
    exact same_loop ([] : List Chg) (by simp) _
end Go.Pl
