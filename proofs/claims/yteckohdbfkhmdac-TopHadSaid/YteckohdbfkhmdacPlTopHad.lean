/- The plain law: the model of the law answers true. Conditions: none. -/
import Derived.Test.YteckohdbfkhmdacMoTopHad
set_option linter.unusedVariables false
set_option linter.unusedSimpArgs false
namespace Go.Pl
open Go Go.Sw

/-- going over a list, with what is carried, till something is done -/
def foldS {A B D : Type} (g : Nat → A → B → Step B D) (fin : B → D) : Nat → B → List A → D
  | _, acc, [] => fin acc
  | i, acc, x :: xs => match g i x acc with
    | .next acc' => foldS g fin (i + 1) acc' xs
    | .done d => d

def stp {α B D : Type} (st : Nat → B → α) (i : Nat) : Step B D → Step α D
  | .next a => .next (st i a)
  | .done d => .done d
def out {β γ : Type} (k : β → Option γ) : Ex β γ → Option γ
  | .brk y => k y
  | .ret z => some z

theorem loop_list {α A B D : Type} {step : α → Option (Step α D)} {l : List A} (st : Nat → B → α) (g : Nat → A → B → Step B D) (fin : B → D)
    (hs : ∀ pre x rest acc, l = pre ++ x :: rest → step (st pre.length acc) = some (stp st (pre.length + 1) (g pre.length x acc)))
    (he : ∀ acc, step (st l.length acc) = some (.done (fin acc))) :
    ∀ (rest pre : List A) (acc : B) (f : Nat), l = pre ++ rest → rest.length < f → loop step f (st pre.length acc) = some (foldS g fin pre.length acc rest)
  | [], pre, acc, f, hl, hf => by
    obtain ⟨f, rfl⟩ : ∃ f', f = f' + 1 := ⟨f - 1, by simp at hf; omega⟩
    have := he acc
    rw [hl, List.append_nil] at this
    simp [loop, this, foldS]
  | x :: rest, pre, acc, f, hl, hf => by
    obtain ⟨f, rfl⟩ : ∃ f', f = f' + 1 := ⟨f - 1, by simp at hf; omega⟩
    have h1 := hs pre x rest acc hl
    simp only [loop, h1, foldS]
    cases hg : g pre.length x acc with
    | done d => rfl
    | next acc' =>
      have ih := loop_list st g fin hs he rest (pre ++ [x]) acc' f (by rw [hl]; simp) (by simp at hf; omega)
      simpa [stp] using ih

theorem lp_list {α A B β γ : Type} {step : α → Option (Step α (Ex β γ))} {l : List A} {k : β → Option γ} (st : Nat → B → α) (acc0 : B) (g : Nat → A → B → Step B (Ex β γ)) (fin : B → Ex β γ) (hf : l.length < FUEL)
    (hs : ∀ pre x rest acc, l = pre ++ x :: rest → step (st pre.length acc) = some (stp st (pre.length + 1) (g pre.length x acc)))
    (he : ∀ acc, step (st l.length acc) = some (.done (fin acc))) :
    lp step (st 0 acc0) k = out k (foldS g fin 0 acc0 l) := by
  have h := loop_list st g fin hs he l [] acc0 FUEL rfl hf
  unfold lp
  simp only [List.length_nil] at h
  rw [h]
  cases foldS g fin 0 acc0 l <;> rfl

theorem idx_app {α : Type} (pre : List α) (x : α) (rest : List α) : Sw.idx (pre ++ x :: rest) (pre.length : Int) = some x := by
  unfold Sw.idx; simp
theorem inc {n m : Nat} (h : n < m) (hm : m ≤ 4611686018427387904) : ar .add .i64 (n : Int) 1 = ((n + 1 : Nat) : Int) := by
  unfold ar; simp only [IntKind.wrap, IntKind.signed, IntKind.bits]; simp; omega
theorem lss_app {α : Type} (pre : List α) (x : α) (rest : List α) : cm .lss (pre.length : Int) ((pre ++ x :: rest).length : Int) = true := by
  unfold cm; simp; omega
theorem lss_self {n : Nat} : cm .lss (n : Int) (n : Int) = false := by unfold cm; simp
end Go.Pl

namespace Go.Pl
open Go Go.Sw

theorem lp_count {α β γ : Type} {step : α → Option (Step α (Ex β γ))} {k : β → Option γ} (st : Nat → α) (n : Nat) (y : β) (hf : n < FUEL) (hs : ∀ i, i < n → step (st i) = some (.next (st (i + 1)))) (he : step (st n) = some (.done (.brk y))) : lp step (st 0) k = k y := by
  have h : ∀ m i, i + m = n → ∀ f, m < f → loop step f (st i) = some (.brk y) := by
    intro m
    induction m with
    | zero =>
      intro i hi f hf
      obtain ⟨f, rfl⟩ : ∃ f', f = f' + 1 := ⟨f - 1, by omega⟩
      simp only [Nat.add_zero] at hi
      subst hi
      simp [loop, he]
    | succ m ih =>
      intro i hi f hf
      obtain ⟨f, rfl⟩ : ∃ f', f = f' + 1 := ⟨f - 1, by omega⟩
      simp only [loop, hs i (by omega)]
      exact ih (i + 1) (by omega) f (by omega)
  unfold lp
  rw [h n 0 (by omega) FUEL hf]

theorem wrap_i64 {n : Int} (h : -9223372036854775808 ≤ n ∧ n ≤ 9223372036854775807) : IntKind.wrap .i64 n = n := wrap_id (k := .i64) (by unfold inK; simp [IntKind.min, IntKind.max, IntKind.signed, IntKind.bits]; omega)
theorem wrap_u8 {n : Int} (h : 0 ≤ n ∧ n ≤ 255) : IntKind.wrap .u8 n = n := wrap_id (k := .u8) (by unfold inK; simp [IntKind.min, IntKind.max, IntKind.signed, IntKind.bits]; omega)
theorem wrap_u32 {n : Int} (h : 0 ≤ n ∧ n ≤ 4294967295) : IntKind.wrap .u32 n = n := wrap_id (k := .u32) (by unfold inK; simp [IntKind.min, IntKind.max, IntKind.signed, IntKind.bits]; omega)
theorem ofInt_nat (w n : Nat) : BitVec.ofInt w (n : Int) = BitVec.ofNat w n := by
  apply BitVec.eq_of_toNat_eq
  simp
theorem xor32 {a b : Nat} (ha : a < 4294967296) (hb : b < 4294967296) : ar .xor .u32 (a : Int) (b : Int) = ((a ^^^ b : Nat) : Int) := by
  have h : a ^^^ b < 2 ^ 32 := Nat.xor_lt_two_pow (by simpa using ha) (by simpa using hb)
  show IntKind.wrap .u32 ((BitVec.ofInt 32 (a : Int) ^^^ BitVec.ofInt 32 (b : Int)).toNat : Int) = _
  simp only [ofInt_nat, BitVec.toNat_xor, BitVec.toNat_ofNat]
  rw [Nat.mod_eq_of_lt (by simpa using ha), Nat.mod_eq_of_lt (by simpa using hb)]
  exact wrap_u32 (by simp at h; omega)
theorem and32 {a : Nat} (ha : a < 4294967296) : ar .and .u32 (a : Int) 1 = ((a % 2 : Nat) : Int) := by
  show IntKind.wrap .u32 ((BitVec.ofInt 32 (a : Int) &&& BitVec.ofInt 32 ((1 : Nat) : Int)).toNat : Int) = _
  simp only [ofInt_nat, BitVec.toNat_and, BitVec.toNat_ofNat]
  rw [Nat.mod_eq_of_lt (a := a) (by simpa using ha), Nat.mod_eq_of_lt (a := 1) (by decide), Nat.and_one_is_mod]
  exact wrap_u32 (by omega)
theorem mul32 {a : Nat} (ha : a < 2) : ar .mul .u32 3988292384 (a : Int) = ((if a = 1 then 3988292384 else 0 : Nat) : Int) := by
  have : a = 0 ∨ a = 1 := by omega
  rcases this with rfl | rfl
  · rfl
  · decide
theorem shr1 {a : Nat} : sh .shr .u32 (a : Int) 1 = ((a / 2 : Nat) : Int) := by
  show Int.fdiv _ _ = _
  have : (2 : Int) ^ min (1 : Int).toNat (IntKind.bits .u32) = 2 := by decide
  rw [this, Int.fdiv_eq_ediv_of_nonneg _ (by omega)]
  omega
theorem not32 {a : Nat} (ha : a < 4294967296) : bnot .u32 (a : Int) = ((4294967295 - a : Nat) : Int) := by
  unfold bnot
  show IntKind.wrap .u32 ((BitVec.allOnes 32 ^^^ BitVec.ofInt 32 (a : Int)).toNat : Int) = _
  simp only [ofInt_nat, BitVec.allOnes_xor, BitVec.toNat_not, BitVec.toNat_ofNat]
  rw [Nat.mod_eq_of_lt (by simpa using ha)]
  exact wrap_u32 (by omega)
theorem tdiv_nat (a b : Nat) : Int.tdiv (a : Int) (b : Int) = ((a / b : Nat) : Int) := rfl
theorem tmod_nat (a b : Nat) : Int.tmod (a : Int) (b : Int) = ((a % b : Nat) : Int) := rfl
theorem quo64 {a b : Nat} (ha : a ≤ 9223372036854775807) : ar .quo .i64 (a : Int) (b : Int) = ((a / b : Nat) : Int) := by
  show IntKind.wrap .i64 _ = _
  rw [tdiv_nat]
  have := Nat.div_le_self a b
  generalize a / b = q at *
  exact wrap_i64 (by omega)
theorem rem64 {a b : Nat} : ar .rem .i64 (a : Int) (b : Int) = ((a % b : Nat) : Int) := rfl
theorem add64 {a b : Nat} (h : a + b ≤ 9223372036854775807) : ar .add .i64 (a : Int) (b : Int) = ((a + b : Nat) : Int) := by
  show IntKind.wrap .i64 _ = _
  rw [← Int.natCast_add]; exact wrap_i64 (by omega)
theorem mul64 {a b : Nat} (h : a * b ≤ 9223372036854775807) : ar .mul .i64 (a : Int) (b : Int) = ((a * b : Nat) : Int) := by
  show IntKind.wrap .i64 _ = _
  rw [← Int.natCast_mul]; exact wrap_i64 (by omega)
theorem nz_ok {n : Int} (h : n ≠ 0) : nz n = some () := by unfold nz; rw [if_neg h]
theorem cm_lss {a b : Nat} : cm .lss (a : Int) (b : Int) = decide (a < b) := by unfold cm; simp
theorem bit_xor (a b i : Nat) : (a ^^^ b) / 2 ^ i % 2 = (a / 2 ^ i + b / 2 ^ i) % 2 := by
  have h := Nat.testBit_xor a b i
  simp only [Nat.testBit_eq_decide_div_mod_eq] at h
  have ha := Nat.mod_two_eq_zero_or_one (a / 2 ^ i)
  have hb := Nat.mod_two_eq_zero_or_one (b / 2 ^ i)
  have hc := Nat.mod_two_eq_zero_or_one ((a ^^^ b) / 2 ^ i)
  rw [Nat.add_mod]
  rcases ha with ha | ha <;> rcases hb with hb | hb <;> rcases hc with hc | hc <;> simp [ha, hb, hc] at h ⊢
theorem xor_half (a b : Nat) : (a ^^^ b) / 2 = a / 2 ^^^ b / 2 := by
  have := Nat.shiftRight_xor_distrib (i := 1) (a := a) (b := b)
  simpa [Nat.shiftRight_eq_div_pow] using this
end Go.Pl

namespace Go.Pl
open Go Go.Sw
/-- bytes -/
def Bytes (l : List Int) : Prop := ∀ x ∈ l, 0 ≤ x ∧ x ≤ 255
def nat (l : List Int) : List Nat := l.map Int.toNat
theorem nat_byte {l : List Int} (h : Bytes l) : ∀ b ∈ nat l, b < 256 := by
  intro b hb
  obtain ⟨x, hx, rfl⟩ := List.mem_map.1 hb
  have := h x hx; omega

/-- as lp_list, with what holds on the way -/
theorem lp_inv {α A B β γ : Type} {step : α → Option (Step α (Ex β γ))} {l : List A} {k : β → Option γ} (st : Nat → B → α) (I : Nat → B → Prop) (acc0 : B) (g : Nat → A → B → B) (fin : B → β) (hf : l.length < FUEL) (h0 : I 0 acc0)
    (hs : ∀ pre x rest acc, l = pre ++ x :: rest → I pre.length acc → step (st pre.length acc) = some (.next (st (pre.length + 1) (g pre.length x acc))) ∧ I (pre.length + 1) (g pre.length x acc))
    (he : ∀ acc, I l.length acc → step (st l.length acc) = some (.done (.brk (fin acc)))) :
    lp step (st 0 acc0) k = k (fin ((l.zipIdx).foldl (fun acc x => g x.2 x.1 acc) acc0)) := by
  have key : ∀ (rest pre : List A) (acc : B) (f : Nat), l = pre ++ rest → I pre.length acc → rest.length < f → loop step f (st pre.length acc) = some (.brk (fin ((rest.zipIdx pre.length).foldl (fun acc x => g x.2 x.1 acc) acc))) := by
    intro rest
    induction rest with
    | nil =>
      intro pre acc f hl hI hf
      obtain ⟨f, rfl⟩ : ∃ f', f = f' + 1 := ⟨f - 1, by simp at hf; omega⟩
      have := he acc (by rw [hl, List.append_nil]; exact hI)
      rw [hl, List.append_nil] at this
      simp [loop, this]
    | cons x rest ih =>
      intro pre acc f hl hI hf
      obtain ⟨f, rfl⟩ : ∃ f', f = f' + 1 := ⟨f - 1, by simp at hf; omega⟩
      obtain ⟨h1, h2⟩ := hs pre x rest acc hl hI
      simp only [loop, h1]
      have := ih (pre ++ [x]) (g pre.length x acc) f (by rw [hl]; simp) (by simpa using h2) (by simp at hf; omega)
      simpa using this
  have h := key l [] acc0 FUEL rfl h0 hf
  unfold lp
  simp only [List.length_nil] at h
  rw [h]
theorem app_small {α : Type} (xs ys : List α) (h : xs.length + ys.length ≤ 4294967296) : Sw.app xs ys = some (xs ++ ys) := by unfold Sw.app; rw [if_pos h]
theorem foldl_zipIdx {A : Type} (w : A → List Int) : ∀ (l : List A) (i : Nat) (acc : List Int), (l.zipIdx i).foldl (fun acc x => acc ++ w x.1) acc = acc ++ l.flatMap w
  | [], _, acc => by simp
  | x :: l, i, acc => by simp [foldl_zipIdx w l]
end Go.Pl

namespace Go.Pl
open Go Go.Sw
/-- it lies somewhere so -/
def Wf {α : Type} (e : Enc α) (x : α) : Prop := ∃ S w cs, e.ok x S w cs
theorem Wf.int {k : IntKind} {n : Int} (h : Wf (Enc.int k) n) : inK k n := by obtain ⟨_, _, _, h⟩ := h; exact h.2
theorem okL_all {α : Type} {e : Enc α} {S w} : ∀ {xs : List α} {cs}, e.okL xs S w cs → ∀ x ∈ xs, Wf e x
  | [], _, _, x, hx => by simp at hx
  | y :: ys, _, ⟨c, d, _, h2, h3⟩, x, hx => by
    rcases List.mem_cons.1 hx with rfl | hx
    · exact ⟨_, _, _, h2⟩
    · exact okL_all h3 x hx
theorem Wf.arr {α : Type} {m : Nat} {e : Enc α} {xs : List α} (h : Wf (Enc.arr m e) xs) : xs.length = m ∧ ∀ x ∈ xs, Wf e x := by
  obtain ⟨_, _, _, h1, h2⟩ := h; exact ⟨h1, okL_all h2⟩
theorem Wf.sl {α : Type} {e : Enc α} {xs : List α} (h : Wf (Enc.sl e) xs) : xs.length ≤ 140737488355328 ∧ ∀ x ∈ xs, Wf e x := by
  obtain ⟨_, _, _, a, cap, _, h2, h3⟩ := h
  refine ⟨h2.2, ?_⟩
  rcases h3 with rfl | ⟨b, off, ds, _, _, _, _, h4⟩
  · intro x hx; simp at hx
  · exact okL_all h4
theorem Wf.pr {α β : Type} {a : Enc α} {b : Enc β} {x : α × β} (h : Wf (Enc.pr a b) x) : Wf a x.1 ∧ Wf b x.2 := by
  obtain ⟨_, _, _, c, d, _, h1, h2⟩ := h; exact ⟨⟨_, _, _, h1⟩, ⟨_, _, _, h2⟩⟩
theorem Wf.one1 {α : Type} {a : Enc α} {x : α} (h : Wf (Enc.one1 a) x) : Wf a x := h
theorem Wf.of_val {α : Type} {e : Enc α} {x : α} {S w v} (h : e.val x S w v) : Wf e x := by obtain ⟨cs, h, _⟩ := h; exact ⟨_, _, _, h⟩
end Go.Pl

namespace Go.Pl
open Go Go.Sw
theorem cl (m n : Int) : cm .lss m n = decide (m < n) := rfl
theorem cg (m n : Int) : cm .gtr m n = decide (m > n) := rfl
theorem cle (m n : Int) : cm .leq m n = decide (m ≤ n) := rfl
theorem cge (m n : Int) : cm .geq m n = decide (m ≥ n) := rfl
theorem ce (m n : Int) : cm .eql m n = decide (m = n) := by show (m == n) = _; by_cases h : m = n <;> simp [h]
theorem cn (m n : Int) : cm .neq m n = decide (m ≠ n) := by show (m != n) = _; by_cases h : m = n <;> simp [h]
theorem addI {m n : Int} (h : -9223372036854775808 ≤ m + n ∧ m + n ≤ 9223372036854775807) : ar .add .i64 m n = m + n := wrap_i64 h
theorem subI {m n : Int} (h : -9223372036854775808 ≤ m - n ∧ m - n ≤ 9223372036854775807) : ar .sub .i64 m n = m - n := wrap_i64 h
theorem nxt {n : Nat} (h : n ≤ 4611686018427387904) : ar .add .i64 (n : Int) 1 = ((n + 1 : Nat) : Int) := by rw [addI (by omega)]; push_cast; rfl
/-- a list gone through, each element looked at: one that is bad ends it -/
theorem lp_any {α A β γ : Type} {step : α → Option (Step α (Ex β γ))} {l : List A} {k : β → Option γ} (st : Nat → α) (bad : A → Bool) (z : γ) (y : β) (hf : l.length < FUEL)
    (hs : ∀ pre x rest, l = pre ++ x :: rest → step (st pre.length) = some (if bad x then .done (.ret z) else .next (st (pre.length + 1)))) (he : step (st l.length) = some (.done (.brk y))) :
    lp step (st 0) k = if l.any bad then some z else k y := by
  have key : ∀ (rest pre : List A) (f : Nat), l = pre ++ rest → rest.length < f → loop step f (st pre.length) = some (if rest.any bad then .ret z else .brk y) := by
    intro rest
    induction rest with
    | nil =>
      intro pre f hl hf
      obtain ⟨f, rfl⟩ : ∃ f', f = f' + 1 := ⟨f - 1, by simp at hf; omega⟩
      rw [List.append_nil] at hl
      rw [← hl]
      simp [loop, he]
    | cons x rest ih =>
      intro pre f hl hf
      obtain ⟨f, rfl⟩ : ∃ f', f = f' + 1 := ⟨f - 1, by simp at hf; omega⟩
      simp only [loop, hs pre x rest hl, List.any_cons]
      by_cases hb : bad x = true
      · simp [hb]
      · have := ih (pre ++ [x]) f (by rw [hl]; simp) (by simp at hf; omega)
        simp only [Bool.not_eq_true] at hb
        simp only [hb, Bool.false_eq_true, if_false, Bool.false_or]
        simpa using this
  have := key l [] FUEL rfl hf
  unfold lp
  simp only [List.length_nil] at this
  rw [this]
  by_cases hb : l.any bad = true
  · simp only [hb, if_true]
  · simp only [Bool.not_eq_true] at hb
    simp only [hb, Bool.false_eq_true, if_false]
theorem lenF {A : Type} {l : List A} {n : Nat} (h : l.length ≤ n) (hn : n ≤ 140737488355328) : l.length < FUEL := by unfold FUEL; omega
/-- the same, with the state told once more -/
theorem lss_len {A : Type} {l pre rest : List A} {x : A} (h : l = pre ++ x :: rest) : cm .lss (pre.length : Int) (l.length : Int) = true := by rw [h]; exact lss_app pre x rest
theorem idx_len {A : Type} {l pre rest : List A} {x : A} (h : l = pre ++ x :: rest) : Sw.idx l (pre.length : Int) = some x := by rw [h]; exact idx_app pre x rest
theorem idx_get {A : Type} {l : List A} {i : Nat} {x : A} (h : l[i]? = some x) : Sw.idx l (i : Int) = some x := by unfold Sw.idx; simp [h]
theorem idx_nat {A : Type} {l : List A} {n : Int} (h0 : 0 ≤ n) (h1 : n < l.length) : ∃ x, Sw.idx l n = some x ∧ l[n.toNat]? = some x := by
  have : n.toNat < l.length := by omega
  exact ⟨l[n.toNat], by unfold Sw.idx; simp [h0, this], by simp [this]⟩
/-- two lists that are the same, element by element -/
theorem same_loop {A : Type} [DecidableEq A] (l : List A) (hl : l.length ≤ 1000000) (k : Unit → Option Bool) :
    lp (β := Unit) (fun (s12 : Int) => bif (cm .lss s12 (l.length : Int)) then (Sw.idx l s12).bind fun z20 => (Sw.idx l s12).bind fun z21 => bif (!decide (z20 = z21)) then some (.done (.ret false)) else some (.next (ar .add .i64 s12 (1 : Int))) else some (.done (.brk ()))) (0 : Int) k = k () := by
  rw [show (0 : Int) = (fun (i : Nat) => (i : Int)) 0 from rfl]
  rw [lp_any (l := l) (fun (i : Nat) => (i : Int)) (fun _ => false) false () (lenF hl (by decide))]
  · simp
  · intro pre x rest h
    simp only [lss_len h, cond_true, idx_len h, Option.bind_some]
    rw [nxt (by rw [h] at hl; simp at hl; omega)]
    simp
  · simp only [lss_self, cond_false]
theorem wf_byte {n : Int} (h : Wf (Enc.int .u8) n) : 0 ≤ n ∧ n ≤ 255 := by
  have := h.int
  unfold inK at this
  simpa [IntKind.min, IntKind.max, IntKind.signed, IntKind.bits] using this
theorem wf_i64 {n : Int} (h : Wf (Enc.int .i64) n) : -9223372036854775808 ≤ n ∧ n ≤ 9223372036854775807 := by
  have := h.int
  unfold inK at this
  simpa [IntKind.min, IntKind.max, IntKind.signed, IntKind.bits] using this
theorem wf_bytes {l : List Int} (h : Wf (Enc.sl (Enc.int .u8)) l) : Bytes l := fun x hx => wf_byte (h.sl.2 x hx)

/-- the first bad one, by its number -/
theorem lp_find {α A β γ : Type} {step : α → Option (Step α (Ex β γ))} {l : List A} {k : β → Option γ} (st : Nat → α) (bad : A → Bool) (z : Nat → γ) (y : β) (hf : l.length < FUEL)
    (hs : ∀ pre x rest, l = pre ++ x :: rest → step (st pre.length) = some (if bad x then .done (.ret (z pre.length)) else .next (st (pre.length + 1)))) (he : step (st l.length) = some (.done (.brk y))) :
    lp step (st 0) k = match l.findIdx? bad with | some j => some (z j) | none => k y := by
  have key : ∀ (rest pre : List A) (f : Nat), l = pre ++ rest → rest.length < f → loop step f (st pre.length) = some (match rest.findIdx? bad with | some j => .ret (z (pre.length + j)) | none => .brk y) := by
    intro rest
    induction rest with
    | nil =>
      intro pre f hl hf
      obtain ⟨f, rfl⟩ : ∃ f', f = f' + 1 := ⟨f - 1, by simp at hf; omega⟩
      rw [List.append_nil] at hl
      rw [← hl]
      simp [loop, he]
    | cons x rest ih =>
      intro pre f hl hf
      obtain ⟨f, rfl⟩ : ∃ f', f = f' + 1 := ⟨f - 1, by simp at hf; omega⟩
      simp only [loop, hs pre x rest hl, List.findIdx?_cons]
      by_cases hb : bad x = true
      · simp [hb]
      · have := ih (pre ++ [x]) f (by rw [hl]; simp) (by simp at hf; omega)
        simp only [Bool.not_eq_true] at hb
        simp only [hb, Bool.false_eq_true, if_false]
        rw [List.length_append, List.length_singleton] at this
        rw [this]
        cases rest.findIdx? bad with
        | none => rfl
        | some j => simp only [Option.map_some]; congr 3; omega
  have := key l [] FUEL rfl hf
  unfold lp
  simp only [List.length_nil, Nat.zero_add] at this
  rw [this]
  cases l.findIdx? bad <;> rfl
theorem any_findIdx {A : Type} (l : List A) (bad : A → Bool) : l.any bad = (l.findIdx? bad).isSome := by
  simp
end Go.Pl

namespace Go.Pl
open Go Go.Sw
/-- going over a list, with what is carried, till something is done -/
def foldG {A B D : Type} (g : B → A → Step B D) (fin : B → D) : B → List A → D
  | acc, [] => fin acc
  | acc, x :: xs => match g acc x with
    | .next acc' => foldG g fin acc' xs
    | .done d => d
theorem lp_walk {α A B β γ : Type} {step : α → Option (Step α (Ex β γ))} {l : List A} {k : β → Option γ} (st : Nat → B → α) (I : List A → B → Prop) (g : B → A → Step B (Ex β γ)) (fin : B → Ex β γ) (acc0 : B) (hf : l.length < FUEL) (h0 : I [] acc0)
    (hs : ∀ pre x rest acc, l = pre ++ x :: rest → I pre acc → step (st pre.length acc) = some (stp st (pre.length + 1) (g acc x)) ∧ ∀ acc', g acc x = .next acc' → I (pre ++ [x]) acc')
    (he : ∀ acc, I l acc → step (st l.length acc) = some (.done (fin acc))) :
    lp step (st 0 acc0) k = out k (foldG g fin acc0 l) := by
  have key : ∀ (rest pre : List A) (acc : B) (f : Nat), l = pre ++ rest → I pre acc → rest.length < f → loop step f (st pre.length acc) = some (foldG g fin acc rest) := by
    intro rest
    induction rest with
    | nil =>
      intro pre acc f hl hI hf
      obtain ⟨f, rfl⟩ : ∃ f', f = f' + 1 := ⟨f - 1, by simp at hf; omega⟩
      rw [List.append_nil] at hl
      subst hl
      simp [loop, he acc hI, foldG]
    | cons x rest ih =>
      intro pre acc f hl hI hf
      obtain ⟨f, rfl⟩ : ∃ f', f = f' + 1 := ⟨f - 1, by simp at hf; omega⟩
      obtain ⟨h1, h2⟩ := hs pre x rest acc hl hI
      simp only [loop, h1, foldG]
      cases hg : g acc x with
      | done d => rfl
      | next acc' =>
        have := ih (pre ++ [x]) acc' f (by rw [hl]; simp) (h2 acc' hg) (by simp at hf; omega)
        simpa [stp] using this
  have h := key l [] acc0 FUEL rfl h0 hf
  unfold lp
  simp only [List.length_nil] at h
  rw [h]
  cases foldG g fin acc0 l <;> rfl
/-- a list gone through to its end -/
theorem lp_go {α A B β γ : Type} {step : α → Option (Step α (Ex β γ))} {l : List A} {k : β → Option γ} (st : Nat → B → α) (I : List A → B → Prop) (fin : B → β) (acc0 : B) (hf : l.length < FUEL) (h0 : I [] acc0)
    (hs : ∀ pre x rest acc, l = pre ++ x :: rest → I pre acc → ∃ acc', step (st pre.length acc) = some (.next (st (pre.length + 1) acc')) ∧ I (pre ++ [x]) acc')
    (he : ∀ acc, I l acc → step (st l.length acc) = some (.done (.brk (fin acc)))) : ∃ acc, I l acc ∧ lp step (st 0 acc0) k = k (fin acc) := by
  have key : ∀ (rest pre : List A) (acc : B) (f : Nat), l = pre ++ rest → I pre acc → rest.length < f → ∃ acc', I l acc' ∧ loop step f (st pre.length acc) = some (.brk (fin acc')) := by
    intro rest
    induction rest with
    | nil =>
      intro pre acc f hl hI hf
      obtain ⟨f, rfl⟩ : ∃ f', f = f' + 1 := ⟨f - 1, by simp at hf; omega⟩
      rw [List.append_nil] at hl
      subst hl
      exact ⟨acc, hI, by simp [loop, he acc hI]⟩
    | cons x rest ih =>
      intro pre acc f hl hI hf
      obtain ⟨f, rfl⟩ : ∃ f', f = f' + 1 := ⟨f - 1, by simp at hf; omega⟩
      obtain ⟨acc', h1, h2⟩ := hs pre x rest acc hl hI
      obtain ⟨a2, h3, h4⟩ := ih (pre ++ [x]) acc' f (by rw [hl]; simp) h2 (by simp at hf; omega)
      exact ⟨a2, h3, by simp only [loop, h1]; simpa using h4⟩
  obtain ⟨acc, h1, h2⟩ := key l [] acc0 FUEL rfl h0 hf
  exact ⟨acc, h1, by unfold lp; simp only [List.length_nil] at h2; rw [h2]⟩
theorem lp_go' {α A B β γ : Type} {step : α → Option (Step α (Ex β γ))} {l : List A} {k : β → Option γ} {r : Option γ} (st : Nat → B → α) (I : List A → B → Prop) (fin : B → β) (acc0 : B) (hf : l.length < FUEL) (h0 : I [] acc0)
    (hs : ∀ pre x rest acc, l = pre ++ x :: rest → I pre acc → ∃ acc', step (st pre.length acc) = some (.next (st (pre.length + 1) acc')) ∧ I (pre ++ [x]) acc')
    (he : ∀ acc, I l acc → step (st l.length acc) = some (.done (.brk (fin acc)))) (hr : ∀ acc, I l acc → k (fin acc) = r) : lp step (st 0 acc0) k = r := by
  obtain ⟨acc, h1, h2⟩ := lp_go (k := k) st I fin acc0 hf h0 hs he
  rw [h2, hr acc h1]
/-- a loop that comes closer each round -/
theorem lp_meas {α β γ : Type} {step : α → Option (Step α (Ex β γ))} {k : β → Option γ} (I : α → Prop) (m : α → Nat) (R : β → Prop) (s0 : α) (hm : m s0 < FUEL) (h0 : I s0)
    (hs : ∀ s, I s → (∃ s', step s = some (.next s') ∧ I s' ∧ m s' < m s) ∨ ∃ y, step s = some (.done (.brk y)) ∧ R y) : ∃ y, R y ∧ lp step s0 k = k y := by
  have key : ∀ (n : Nat) (s : α) (f : Nat), m s ≤ n → n < f → I s → ∃ y, R y ∧ loop step f s = some (.brk y) := by
    intro n
    induction n with
    | zero =>
      intro s f hn hf hI
      obtain ⟨f, rfl⟩ : ∃ f', f = f' + 1 := ⟨f - 1, by omega⟩
      rcases hs s hI with ⟨s', h1, h2, h3⟩ | ⟨y, h1, h2⟩
      · omega
      · exact ⟨y, h2, by simp [loop, h1]⟩
    | succ n ih =>
      intro s f hn hf hI
      obtain ⟨f, rfl⟩ : ∃ f', f = f' + 1 := ⟨f - 1, by omega⟩
      rcases hs s hI with ⟨s', h1, h2, h3⟩ | ⟨y, h1, h2⟩
      · obtain ⟨y, k1, k2⟩ := ih s' f (by omega) (by omega) h2
        exact ⟨y, k1, by simp [loop, h1, k2]⟩
      · exact ⟨y, h2, by simp [loop, h1]⟩
  obtain ⟨y, h1, h2⟩ := key (m s0) s0 FUEL (Nat.le_refl _) hm h0
  exact ⟨y, h1, by unfold lp; rw [h2]⟩
/-- the middle of two numbers -/
theorem mid {i j : Nat} (h : i + j ≤ 4611686018427387904) : IntKind.wrap .i64 (sh .shr .u64 (IntKind.wrap .u64 (ar .add .i64 (i : Int) (j : Int))) (1 : Int)) = (((i + j) / 2 : Nat) : Int) := by
  rw [addI (by omega)]
  have h1 : IntKind.wrap .u64 ((i : Int) + (j : Int)) = (i : Int) + (j : Int) := wrap_id (k := .u64) (by unfold inK; simp [IntKind.min, IntKind.max, IntKind.signed, IntKind.bits]; omega)
  rw [h1]
  have h2 : sh .shr .u64 ((i : Int) + (j : Int)) 1 = (((i + j) / 2 : Nat) : Int) := by
    show Int.fdiv _ _ = _
    have : (2 : Int) ^ min (1 : Int).toNat (IntKind.bits .u64) = 2 := by decide
    rw [this, Int.fdiv_eq_ediv_of_nonneg _ (by omega)]
    omega
  rw [h2]
  exact wrap_i64 (by omega)
theorem bin (c : Bool) {γ : Type} (x y : Option γ) : (bif c then x else y) = if c = true then x else y := by cases c <;> rfl
end Go.Pl

namespace Go.Pl
open Go Go.Sw Go.Mo

theorem same_self (l : List Blk) (h : l.length ≤ 1000000) : m_ref_SameBlocks l l = some true := by
  unfold m_ref_SameBlocks
  have : cm .neq (l.length : Int) (l.length : Int) = false := by simp [cm]
  rw [this]
  simp only [cond_false]
  rw [show (0 : Int) = ((0 : Nat) : Int) from rfl, lp_list (l := l) (fun i (_ : Unit) => (i : Int)) () (fun _ _ _ => .next ()) (fun _ => .brk ()) (by unfold FUEL; omega)]
  · have : ∀ (l : List Blk) i, foldS (fun (_ : Nat) (_ : Blk) (_ : Unit) => (Step.next () : Step Unit (Ex Unit Bool))) (fun _ => .brk ()) i () l = .brk () := by
      intro l; induction l with
      | nil => intro i; rfl
      | cons x l ih => intro i; simp only [foldS]; exact ih _
    rw [this]; rfl
  · rintro pre x rest acc rfl
    simp only [lss_app, cond_true, idx_app, Option.bind_some, stp, inc (n := pre.length) (m := 1000000) (by simp at h; omega) (by omega)]
    simp
  · intro _; simp [lss_self]

theorem first_is (l : List Blk) (b : Blk) (h : l.length ≤ 1000000) : m_ref_First l b = some (if b ∈ l then ((l.idxOf b : Nat) : Int) else -1) := by
  unfold m_ref_First
  rw [show (0 : Int) = ((0 : Nat) : Int) from rfl, lp_list (l := l) (fun i (_ : Unit) => (i : Int)) () (fun i z _ => if z = b then .done (.ret (i : Int)) else .next ()) (fun _ => .brk ()) (by unfold FUEL; omega)]
  · have : ∀ (l : List Blk) (i : Nat), foldS (fun (i : Nat) (z : Blk) (_ : Unit) => (if z = b then Step.done (Ex.ret (i : Int)) else .next () : Step Unit (Ex Unit Int))) (fun _ => .brk ()) i () l = if b ∈ l then .ret ((i + l.idxOf b : Nat) : Int) else .brk () := by
      intro l; induction l with
      | nil => intro i; simp [foldS]
      | cons x l ih =>
        intro i
        simp only [foldS]
        by_cases hx : x = b
        · subst hx; simp
        · have hx' : ¬ b = x := fun h => hx h.symm
          rw [if_neg hx]
          simp only [ih, List.mem_cons, hx', false_or, List.idxOf_cons]
          have : (x == b) = false := by simp [hx]
          rw [this]
          simp only [cond_false]
          split <;> simp <;> omega
    rw [this]
    split <;> simp [out]
  · rintro pre x rest acc rfl
    simp only [lss_app, cond_true, idx_app, Option.bind_some, stp, inc (n := pre.length) (m := 1000000) (by simp at h; omega) (by omega)]
    by_cases hx : x = b <;> simp [hx, stp]
  · intro _; simp [lss_self]

theorem mget_true (pre : List Blk) (z : Blk) : mget (pre.map fun x => (x, true)) z = if z ∈ pre then some true else none := by
  induction pre with
  | nil => simp [mget]
  | cons x pre ih =>
    simp only [List.map_cons, mget, ih, List.mem_cons]
    by_cases hx : x = z
    · simp [hx]
    · have : ¬ z = x := fun h => hx h.symm
      simp [hx, this]
theorem check_is (l : List Blk) (h : l.length ≤ 1000000) : m_cache_Check l = some (if l.length > 8 then some 2 else if l.Nodup then none else some 3) := by
  unfold m_cache_Check
  by_cases h8 : l.length > 8
  · have : cm .gtr (l.length : Int) 8 = true := by simp [cm]; omega
    rw [this]; simp [h8]
  have : cm .gtr (l.length : Int) 8 = false := by simp [cm]; omega
  rw [this, if_neg h8]
  simp only [cond_false]
  rw [show ((0 : Int), ([] : List (Blk × Bool))) = (((0 : Nat) : Int), (l.take 0).map fun x => (x, true)) from rfl, lp_list (l := l) (fun i (_ : Unit) => ((i : Int), (l.take i).map fun x => (x, true))) () (fun i z _ => if z ∈ l.take i then .done (.ret (some 3)) else .next ()) (fun _ => .brk ()) (by unfold FUEL; omega)]
  · have : ∀ (rest pre : List Blk), l = pre ++ rest → pre.Nodup → foldS (fun (i : Nat) (z : Blk) (_ : Unit) => (if z ∈ l.take i then Step.done (Ex.ret (some 3)) else .next () : Step Unit (Ex Unit (Option Int)))) (fun _ => .brk ()) pre.length () rest = if l.Nodup then .brk () else .ret (some 3) := by
      intro rest; induction rest with
      | nil => intro pre hl hn; rw [List.append_nil] at hl; subst hl; simp [foldS, hn]
      | cons x rest ih =>
        intro pre hl hn
        simp only [foldS]
        have ht : l.take pre.length = pre := by rw [hl]; simp
        rw [ht]
        by_cases hx : x ∈ pre
        · rw [if_pos hx]
          have : ¬ l.Nodup := by rw [hl, List.nodup_append]; rintro ⟨_, _, h3⟩; exact h3 x hx x (by simp) rfl
          simp [this]
        · rw [if_neg hx]
          have := ih (pre ++ [x]) (by rw [hl]; simp) (by rw [List.nodup_append]; exact ⟨hn, by simp, fun a ha b hb => by simp at hb; subst hb; rintro rfl; exact hx ha⟩)
          simpa using this
    have := this l [] rfl (by simp)
    simp only [List.length_nil] at this
    rw [this]
    split <;> simp [out]
  · rintro pre x rest acc rfl
    have ht : (pre ++ x :: rest).take pre.length = pre := by simp
    simp only [lss_app, cond_true, idx_app, Option.bind_some, ht, mget_true, stp, inc (n := pre.length) (m := 1000000) (by simp at h; omega) (by omega)]
    by_cases hx : x ∈ pre
    · simp [hx, stp]
    · have ht' : (pre ++ x :: rest).take (pre.length + 1) = pre ++ [x] := by rw [List.take_append]; simp [List.take_of_length_le]
      simp only [hx, if_false, Option.getD_none, cond_false, mput, mget_true, Option.bind_some, stp, ht']
      simp
  · intro _; simp [lss_self]

def touch (b : Blk) (l : List Blk) : List Blk := b :: (l.filter (fun z => decide (z ≠ b))).take 7
theorem touch_is (l : List Blk) (b : Blk) (h : l.length ≤ 1000000) : m_cache_Touch l b = some (if l.length > 8 then ([], some 2) else if l.Nodup then (touch b l, none) else ([], some 3)) := by
  unfold m_cache_Touch
  rw [check_is l h]
  simp only [Option.bind_some]
  by_cases h8 : l.length > 8
  · simp [h8]
  by_cases hn : ¬ l.Nodup
  · simp [h8, hn]
  have hn : l.Nodup := Decidable.not_not.1 hn
  simp only [h8, hn, if_true, if_false, Option.isSome_none, cond_false]
  rw [show (0 : Int) = ((0 : Nat) : Int) from rfl, lp_list (l := l) (fun i (acc : List Blk) => ((i : Int), acc)) [b]
    (fun i z acc => if z ≠ b ∧ acc.length < 8 then .next (acc ++ [z]) else .next acc) (fun acc => .brk acc) (by unfold FUEL; omega)]
  · have : ∀ (l : List Blk) (i : Nat) (acc : List Blk), acc.length ≤ 8 → foldS (fun (i : Nat) (z : Blk) (acc : List Blk) => (if z ≠ b ∧ acc.length < 8 then .next (acc ++ [z]) else .next acc : Step (List Blk) (Ex (List Blk) (List Blk × Option Int)))) (fun acc => .brk acc) i acc l = .brk (acc ++ (l.filter (fun z => decide (z ≠ b))).take (8 - acc.length)) := by
      intro l; induction l with
      | nil => intro i acc _; simp [foldS]
      | cons x l ih =>
        intro i acc ha
        simp only [foldS]
        by_cases hx : x ≠ b
        · have : (x :: l).filter (fun z => decide (z ≠ b)) = x :: l.filter (fun z => decide (z ≠ b)) := by rw [List.filter_cons]; simp [hx]
          rw [this]
          by_cases h8 : acc.length < 8
          · rw [if_pos ⟨hx, h8⟩]
            simp only
            rw [ih _ _ (by simp; omega)]
            obtain ⟨n, hn⟩ : ∃ n, 8 - acc.length = n + 1 := ⟨7 - acc.length, by omega⟩
            have hn' : 8 - (acc ++ [x]).length = n := by simp; omega
            rw [hn, hn']; simp
          · rw [if_neg (fun h => h8 h.2)]
            simp only
            rw [ih _ _ ha]
            have : 8 - acc.length = 0 := by omega
            simp [this]
        · rw [if_neg (fun h => hx h.1)]
          simp only
          rw [ih _ _ ha]
          have : (x :: l).filter (fun z => decide (z ≠ b)) = l.filter (fun z => decide (z ≠ b)) := by rw [List.filter_cons]; simp at hx; simp [hx]
          rw [this]
    rw [this _ _ _ (by simp)]
    simp [out, touch]
  · rintro pre x rest acc rfl
    simp only [lss_app, cond_true, idx_app, Option.bind_some, inc (n := pre.length) (m := 1000000) (by simp at h; omega) (by omega)]
    by_cases hx : x = b
    · simp [hx, stp]
    · by_cases h8 : acc.length < 8
      · have : cm .lss (acc.length : Int) 8 = true := by simp [cm]; omega
        simp only [hx, decide_false, Bool.not_false, cond_true, this, Option.bind_some, app_small acc [x] (by simp; omega), ne_eq, not_false_eq_true, h8, and_self, if_true, stp]
      · have : cm .lss (acc.length : Int) 8 = false := by simp [cm]; omega
        simp [hx, this, h8, stp]
  · intro _; simp [lss_self]

end Go.Pl

namespace Go.Pl
open Go Go.Sw Go.Mo
abbrev Chg := Int × Int × Int × Blk
def hadErr (h : List Blk) : Int := if h.length > 8 then 2 else if h.Nodup then 0 else 3
def planErr (e h : List Blk) : Int := if e.length < 1 ∨ e.length > 32 then 1 else hadErr h
def opt (n : Int) : Option Int := if n = 0 then none else some n
theorem cacheCheck_opt (l : List Blk) (h : l.length ≤ 1000000) : m_cache_Check l = some (opt (hadErr l)) := by
  rw [check_is l h]
  unfold hadErr opt
  by_cases h1 : l.length > 8
  · simp [h1]
  by_cases h2 : l.Nodup <;> simp [h1, h2]
theorem checked_is (e h : List Blk) (hh : h.length ≤ 1000000) : m_plan_checked e h = some (opt (planErr e h)) := by
  unfold m_plan_checked planErr
  simp only [cl, cg, cacheCheck_opt h hh]
  by_cases h1 : e.length < 1
  · have : (e.length : Int) < 1 := by omega
    simp [h1, this, opt]
  by_cases h2 : e.length > 32
  · have e1 : ¬ (e.length : Int) < 1 := by omega
    have e2 : (e.length : Int) > 32 := by omega
    simp [h1, h2, e1, e2, opt]
  have e1 : ¬ (e.length : Int) < 1 := by omega
  have e2 : ¬ (e.length : Int) > 32 := by omega
  simp [h1, h2, e1, e2]
def badC (n prev : Int) (x : Chg) : Bool := decide (x.1 ≤ prev) || decide (x.1 ≥ n) || decide (x.2.1 < 0) || decide (x.2.1 > 3)
def goes (n : Int) : Int → List Chg → Bool
  | _, [] => true
  | prev, x :: l => !badC n prev x && goes n x.1 l
theorem badC_is (n prev : Int) (x : Chg) {γ : Type} (k : Bool → Option γ) : ((bif (cm .leq x.1 prev) then
                  some true
                else
                  bif (cm .geq x.1 n) then
                    some true
                  else
                    bif (cm .lss x.2.1 (0 : Int)) then
                      some true
                    else
                      some (cm .gtr x.2.1 (3 : Int))).bind k) = k (badC n prev x) := by
  simp only [cle, cge, cl, cg]
  unfold badC
  by_cases h1 : x.1 ≤ prev
  · simp [h1]
  by_cases h2 : x.1 ≥ n
  · simp [h1, h2]
  by_cases h3 : x.2.1 < 0
  · simp [h1, h2, h3]
  simp [h1, h2, h3]
theorem goes_kind {n : Int} : ∀ {l : List Chg} {prev : Int}, goes n prev l = true → ∀ x ∈ l, 0 ≤ x.2.1 ∧ x.2.1 ≤ 3
  | [], _, _, x, hx => by simp at hx
  | y :: l, prev, h, x, hx => by
    simp only [goes, Bool.and_eq_true, Bool.not_eq_true'] at h
    rcases List.mem_cons.1 hx with rfl | hx
    · have := h.1
      unfold badC at this
      simp at this
      omega
    · exact goes_kind h.2 x hx
/-- what the law's first loop comes to -/
def okErr (w n : Int) (l : List Chg) : Int := if w = 0 then (if goes n (-1) l then 0 else 1) else w
theorem scan_is {γ : Type} (l : List Chg) (n w : Int) (hl : l.length ≤ 1000000) (k : Int → Option γ) :
    lp (β := Int) (fun (s40 : Int × Int × Int) =>
          (bif (cm .lss s40.2.2 (l.length : Int)) then
            some (cm .eql s40.1 (0 : Int))
          else
            some false).bind fun x59 =>
            bif x59 then
              (Sw.idx l s40.2.2).bind fun z62 =>
                (bif (cm .leq z62.1 s40.2.1) then
                  some true
                else
                  bif (cm .geq z62.1 n) then
                    some true
                  else
                    bif (cm .lss z62.2.1 (0 : Int)) then
                      some true
                    else
                      some (cm .gtr z62.2.1 (3 : Int))).bind fun x66 =>
                  jp (fun (x72 : Int) =>
                    some (.next (x72, z62.1, (ar .add .i64 s40.2.2 (1 : Int))))
                    ) fun k71 =>
                  bif x66 then
                    k71 (1 : Int)
                  else
                    k71 s40.1
            else
              some (.done (.brk s40.1))
          ) (w, (-1 : Int), (0 : Int)) k = k (okErr w n l) := by
  refine (lp_list (l := l) (fun i (acc : Int × Int) => (acc.1, acc.2, (i : Int))) (w, (-1 : Int)) (fun _ x acc => if acc.1 = 0 then .next (if badC n acc.2 x then 1 else acc.1, x.1) else .done (.brk acc.1)) (fun acc => .brk acc.1) (lenF hl (by decide)) ?_ ?_).trans ?_
  · intro pre x rest acc h
    simp only [lss_len h, cond_true, ce, Option.bind_some]
    by_cases h0 : acc.1 = 0
    · simp only [h0, decide_true, cond_true, idx_len h, Option.bind_some, badC_is, jp, if_true, stp]
      rw [nxt (by rw [h] at hl; simp at hl; omega)]
      by_cases hb : badC n acc.2 x = true
      · simp [hb]
      · simp only [Bool.not_eq_true] at hb
        simp [hb]
    · simp [h0, stp]
  · intro acc
    simp only [lss_self, cond_false, Option.bind_some]
  · have : ∀ (l : List Chg) (i : Nat) (w prev : Int), foldS (fun (_ : Nat) (x : Chg) (acc : Int × Int) => (if acc.1 = 0 then .next (if badC n acc.2 x then 1 else acc.1, x.1) else .done (.brk acc.1) : Step (Int × Int) (Ex Int γ))) (fun acc => .brk acc.1) i (w, prev) l = .brk (if w = 0 then (if goes n prev l then 0 else 1) else w) := by
      intro l
      induction l with
      | nil => intro i w prev; simp only [foldS, goes, if_true]; split <;> simp_all
      | cons x l ih =>
        intro i w prev
        simp only [foldS]
        by_cases h0 : w = 0
        · rw [if_pos h0]
          simp only
          rw [ih]
          by_cases hb : badC n prev x = true
          · simp [hb, h0, goes]
          · simp only [Bool.not_eq_true] at hb
            simp [hb, h0, goes]
        · simp [h0]
    rw [this]
    rfl
theorem scan2_is {γ : Type} (l : List Chg) (n : Int) (z : γ) (hl : l.length ≤ 1000000) (k : Unit → Option γ) :
    lp (β := Unit) (fun (s25 : Int × Int) =>
        bif (cm .lss s25.2 (l.length : Int)) then
          (Sw.idx l s25.2).bind fun z39 =>
            (bif (cm .leq z39.1 s25.1) then
              some true
            else
              bif (cm .geq z39.1 n) then
                some true
              else
                bif (cm .lss z39.2.1 (0 : Int)) then
                  some true
                else
                  some (cm .gtr z39.2.1 (3 : Int))).bind fun x43 =>
              bif x43 then
                some (.done (.ret z))
              else
                some (.next (z39.1, (ar .add .i64 s25.2 (1 : Int))))
        else
          some (.done (.brk ()))
        ) ((-1 : Int), (0 : Int)) k = if goes n (-1) l then k () else some z := by
  refine (lp_list (l := l) (fun i (acc : Int) => (acc, (i : Int))) (-1 : Int) (fun _ x acc => if badC n acc x then .done (.ret z) else .next x.1) (fun _ => .brk ()) (lenF hl (by decide)) ?_ ?_).trans ?_
  · intro pre x rest acc h
    simp only [lss_len h, cond_true, idx_len h, Option.bind_some, badC_is]
    by_cases hb : badC n acc x = true
    · simp [hb, stp]
    · simp only [Bool.not_eq_true] at hb
      rw [nxt (by rw [h] at hl; simp at hl; omega)]
      simp [hb, stp]
  · intro acc
    simp only [lss_self, cond_false]
  · have : ∀ (l : List Chg) (i : Nat) (prev : Int), foldS (fun (_ : Nat) (x : Chg) (acc : Int) => (if badC n acc x then .done (.ret z) else .next x.1 : Step Int (Ex Unit γ))) (fun _ => .brk ()) i prev l = if goes n prev l then .brk () else .ret z := by
      intro l
      induction l with
      | nil => intro i prev; simp [foldS, goes]
      | cons x l ih =>
        intro i prev
        simp only [foldS]
        by_cases hb : badC n prev x = true
        · simp [hb, goes]
        · simp only [Bool.not_eq_true] at hb
          simp [hb, goes, ih]
    rw [this]
    by_cases g : goes n (-1) l = true <;> simp [g, out]
/-! ### what is put, what is asked -/
def saidV (x : Chg) (e h : List Blk) : Blk × Bool :=
  if x.2.1 = 0 then (zblk, true) else if x.2.1 = 3 then (x.2.2.2, true) else
    let l := if x.2.1 = 2 then h else e
    if x.2.2.1 < 0 ∨ x.2.2.1 ≥ l.length then (zblk, false) else (l.getD x.2.2.1.toNat [], true)
theorem pickB_is (l : List Blk) (n : Int) : ((bif (cm .lss n (0 : Int)) then
          some true
        else
          some (cm .geq n (l.length : Int))).bind fun x5 =>
          bif x5 then
            some (zblk, false)
          else
            (Sw.idx l n).bind fun z8 =>
              some (z8, true)) = some (if n < 0 ∨ n ≥ l.length then (zblk, false) else (l.getD n.toNat [], true)) := by
  rw [cl, cge]
  by_cases h1 : n < 0
  · simp [h1]
  by_cases h2 : n ≥ l.length
  · simp [h1, h2]
  have hlt : n.toNat < l.length := by omega
  have : Sw.idx l n = some (l.getD n.toNat []) := by unfold Sw.idx; rw [if_pos (by omega)]; simp [List.getD_eq_getElem?_getD, List.getElem?_eq_getElem hlt]
  simp only [h1, h2, decide_false, cond_false, Option.bind_some, this, or_self, if_false]
theorem one_is (l : List Blk) (n : Int) : m_plan_one l n = some (if n < 0 ∨ n ≥ l.length then (zblk, false) else (l.getD n.toNat [], true)) := pickB_is l n
def put1 (e h : List Blk) (x : Chg) (acc : List (Int × Blk) × List Int) : List (Int × Blk) × List Int :=
  if (saidV x e h).2 then (acc.1 ++ [(x.1, (saidV x e h).1)], acc.2) else (acc.1, acc.2 ++ [x.1])
def puts (e h : List Blk) (l : List Chg) : List (Int × Blk) × List Int := (l.zipIdx).foldl (fun acc x => put1 e h x.1 acc) ([], [])
theorem put1_len (e h : List Blk) (x : Chg) (acc : List (Int × Blk) × List Int) : (put1 e h x acc).1.length + (put1 e h x acc).2.length = acc.1.length + acc.2.length + 1 := by
  unfold put1; split <;> simp <;> omega
theorem puts_len (e h : List Blk) (l : List Chg) : (puts e h l).1.length + (puts e h l).2.length = l.length := by
  unfold puts
  have : ∀ (z : List (Chg × Nat)) acc, (z.foldl (fun acc x => put1 e h x.1 acc) acc).1.length + (z.foldl (fun acc x => put1 e h x.1 acc) acc).2.length = acc.1.length + acc.2.length + z.length := by
    intro z
    induction z with
    | nil => intro acc; simp
    | cons x z ih => intro acc; rw [List.foldl_cons, ih, put1_len]; simp; omega
  rw [this]; simp
theorem put_step {γ : Type} (e h : List Blk) (x : Chg) (acc : List (Int × Blk) × List Int) (ha : acc.1.length + acc.2.length ≤ 1000000) (k : List (Int × Blk) × List Int → Option γ) (v : Blk × Bool) (hv : v = saidV x e h) :
    (bif v.2 then (Sw.app acc.1 ([(x.1, v.1)] : (List (Int × Blk)))).bind fun v119 => k (v119, acc.2) else (Sw.app acc.2 ([x.1] : (List Int))).bind fun v121 => k (acc.1, v121)) = k (put1 e h x acc) := by
  subst hv
  unfold put1
  rw [app_small _ _ (by simp; omega), app_small _ _ (by simp; omega)]
  by_cases c : (saidV x e h).2 = true
  · simp [c]
  · simp only [Bool.not_eq_true] at c
    simp [c]
theorem collect2_is (l : List Chg) (e h : List Blk) (hl : l.length ≤ 1000) (hk : ∀ x ∈ l, 0 ≤ x.2.1 ∧ x.2.1 ≤ 3) {γ : Type} (k : List (Int × Blk) × List Int → Option γ) :
    lp (β := (List (Int × Blk)) × (List Int)) (fun (s88 : Int × (List (Int × Blk)) × (List Int)) =>
        bif (cm .lss s88.1 (l.length : Int)) then
          (Sw.idx l s88.1).bind fun z111 =>
            bif (cm .eql z111.2.1 (1 : Int)) then
              (m_plan_one e z111.2.2.1).bind fun v113 =>
                bif v113.2 then
                  (Sw.app s88.2.1 ([(z111.1, v113.1)] : (List (Int × Blk)))).bind fun v115 =>
                    some (.next ((ar .add .i64 s88.1 (1 : Int)), v115, s88.2.2))
                else
                  (Sw.app s88.2.2 ([z111.1] : (List Int))).bind fun v116 =>
                    some (.next ((ar .add .i64 s88.1 (1 : Int)), s88.2.1, v116))
            else
              bif (cm .eql z111.2.1 (2 : Int)) then
                (m_plan_one h z111.2.2.1).bind fun v118 =>
                  bif v118.2 then
                    (Sw.app s88.2.1 ([(z111.1, v118.1)] : (List (Int × Blk)))).bind fun v120 =>
                      some (.next ((ar .add .i64 s88.1 (1 : Int)), v120, s88.2.2))
                  else
                    (Sw.app s88.2.2 ([z111.1] : (List Int))).bind fun v121 =>
                      some (.next ((ar .add .i64 s88.1 (1 : Int)), s88.2.1, v121))
              else
                bif (cm .eql z111.2.1 (3 : Int)) then
                  bif true then
                    (Sw.app s88.2.1 ([(z111.1, z111.2.2.2)] : (List (Int × Blk)))).bind fun v124 =>
                      some (.next ((ar .add .i64 s88.1 (1 : Int)), v124, s88.2.2))
                  else
                    (Sw.app s88.2.2 ([z111.1] : (List Int))).bind fun v125 =>
                      some (.next ((ar .add .i64 s88.1 (1 : Int)), s88.2.1, v125))
                else
                  bif true then
                    (Sw.app s88.2.1 ([(z111.1, zblk)] : (List (Int × Blk)))).bind fun v127 =>
                      some (.next ((ar .add .i64 s88.1 (1 : Int)), v127, s88.2.2))
                  else
                    (Sw.app s88.2.2 ([z111.1] : (List Int))).bind fun v128 =>
                      some (.next ((ar .add .i64 s88.1 (1 : Int)), s88.2.1, v128))
        else
          some (.done (.brk (s88.2.1, s88.2.2)))
        ) ((0 : Int), ([] : (List (Int × Blk))), ([] : (List Int))) k = k (puts e h l) := by
  refine (lp_inv (l := l) (fun i (acc : List (Int × Blk) × List Int) => ((i : Int), acc.1, acc.2)) (fun i acc => acc.1.length + acc.2.length = i) ([], []) (fun _ x acc => put1 e h x acc) id (lenF (n := 1000) hl (by decide)) rfl ?_ ?_).trans ?_
  · intro pre x rest acc hp hI
    have hpl : pre.length ≤ 1000 := by rw [hp] at hl; simp at hl; omega
    have hx := hk x (by rw [hp]; simp)
    refine ⟨?_, by rw [put1_len, hI]⟩
    simp only [lss_len hp, cond_true, ce, Option.bind_some, idx_len hp, one_is]
    rw [nxt (by omega)]
    have go := fun v hv => put_step e h x acc (by omega) (fun a => (some (.next (((pre.length + 1 : Nat) : Int), a.1, a.2)) : Option (Step (Int × (List (Int × Blk)) × (List Int)) (Ex ((List (Int × Blk)) × (List Int)) γ)))) v hv
    by_cases h1 : x.2.1 = 1
    · have := go (if x.2.2.1 < 0 ∨ x.2.2.1 ≥ e.length then (zblk, false) else (e.getD x.2.2.1.toNat [], true)) (by unfold saidV; simp [h1])
      simp only [h1, decide_true, cond_true]
      exact this
    by_cases h2 : x.2.1 = 2
    · have := go (if x.2.2.1 < 0 ∨ x.2.2.1 ≥ h.length then (zblk, false) else (h.getD x.2.2.1.toNat [], true)) (by unfold saidV; simp [h2])
      simp only [h1, h2, decide_true, decide_false, cond_true, cond_false]
      exact this
    by_cases h3 : x.2.1 = 3
    · have := go (x.2.2.2, true) (by unfold saidV; simp [h3])
      simp only [h1, h2, h3, decide_true, decide_false, cond_true, cond_false]
      exact this
    · have h0 : x.2.1 = 0 := by omega
      have := go (zblk, true) (by unfold saidV; simp [h0])
      simp only [h1, h2, h3, decide_false, cond_false]
      exact this
  · intro acc _
    simp only [lss_self, cond_false]
    rfl
  · rfl
theorem apply_is (l : List Chg) (e h : List Blk) (hl : l.length ≤ 1000) (hh : h.length ≤ 1000000) : m_plan_Apply l e h = some (if okErr (planErr e h) e.length l = 0 then ((puts e h l).1, (puts e h l).2, none) else ([], [], some (okErr (planErr e h) e.length l))) := by
  unfold m_plan_Apply
  rw [checked_is e h hh, Option.bind_some]
  unfold okErr
  by_cases hw : planErr e h = 0
  · simp only [hw, opt, if_true, Option.isSome_none, cond_false]
    rw [scan2_is l _ _ (by omega)]
    by_cases g : goes e.length (-1) l = true
    · simp only [g, if_true]
      rw [collect2_is l e h hl (goes_kind g)]
    · simp [g]
  · simp [hw, opt]
/-! ### what was had -/
def had1 (x : Chg) (acc : List Blk) : List Blk := if x.2.1 = 3 then touch x.2.2.2 acc else acc
def hadL (h : List Blk) (l : List Chg) : List Blk := (l.zipIdx).foldl (fun acc x => had1 x.1 acc) h
theorem touch_ok {b : Blk} {l : List Blk} (h : l.Nodup) : (touch b l).length ≤ 8 ∧ (touch b l).Nodup := by
  unfold touch
  refine ⟨by simp; omega, List.nodup_cons.2 ⟨fun hm => ?_, ?_⟩⟩
  · have := List.mem_of_mem_take hm
    simp at this
  · exact (h.sublist (List.filter_sublist)).sublist (List.take_sublist _ _)
theorem had1_ok {x : Chg} {l : List Blk} (h : l.length ≤ 8 ∧ l.Nodup) : (had1 x l).length ≤ 8 ∧ (had1 x l).Nodup := by
  unfold had1; split
  · exact touch_ok h.2
  · exact h
theorem had_is (l : List Chg) (h : List Blk) (hl : l.length ≤ 1000) (hh : h.length ≤ 1000000) : m_plan_Had h l = some (if hadErr h = 0 then (hadL h l, none) else ([], some (hadErr h))) := by
  unfold m_plan_Had
  rw [cacheCheck_opt h hh, Option.bind_some]
  by_cases hw : hadErr h = 0
  · have ok : h.length ≤ 8 ∧ h.Nodup := by
      unfold hadErr at hw
      split at hw
      · cases hw
      · split at hw
        · rename_i h1 h2; exact ⟨by omega, h2⟩
        · cases hw
    simp only [hw, opt, if_true, Option.isSome_none, cond_false]
    unfold m_slices_Clone_api_Block_api_Block
    rw [app_small _ _ (by simp; omega), Option.bind_some, List.nil_append]
    refine (lp_inv (l := l) (fun i (acc : List Blk) => (acc, (i : Int))) (fun _ acc => acc.length ≤ 8 ∧ acc.Nodup) h (fun _ x acc => had1 x acc) id (lenF (n := 1000) hl (by decide)) ok ?_ ?_).trans ?_
    · intro pre x rest acc hp hI
      have hpl : pre.length ≤ 1000 := by rw [hp] at hl; simp at hl; omega
      refine ⟨?_, had1_ok hI⟩
      have ht := touch_is acc x.2.2.2 (by omega)
      rw [if_neg (by omega), if_pos hI.2] at ht
      simp only [lss_len hp, cond_true, ce, Option.bind_some, idx_len hp, ht]
      rw [nxt (by omega)]
      unfold had1
      by_cases h3 : x.2.1 = 3 <;> simp [h3]
    · intro acc _
      simp only [lss_self, cond_false]
      rfl
    · rfl
  · simp [hw, opt]
theorem hadL_len (h : List Blk) (l : List Chg) (hh : h.length ≤ 8 ∧ h.Nodup) : (hadL h l).length ≤ 8 := by
  unfold hadL
  have : ∀ (z : List (Chg × Nat)) (h : List Blk), h.length ≤ 8 ∧ h.Nodup → (z.foldl (fun acc x => had1 x.1 acc) h).length ≤ 8 := by
    intro z
    induction z with
    | nil => intro h hh; exact hh.1
    | cons x z ih => intro h hh; rw [List.foldl_cons]; exact ih _ (had1_ok hh)
  exact this _ _ hh
end Go.Pl

namespace Go.Pl
open Go Go.Sw Go.Mo
def I64 (n : Int) : Prop := -9223372036854775808 ≤ n ∧ n ≤ 9223372036854775807
/-- which of n things a raw number speaks of -/
def pick (c n : Int) : Int := (if c < 0 then -(c + 1) else c).tmod n
theorem pick_is {c n : Int} (hc : I64 c) (hn : 0 < n) : m_ref_Pick c n = some (pick c n) := by
  unfold m_ref_Pick pick
  have hnz : nz n = some () := nz_ok (by omega)
  simp only [jp, hnz, Option.bind_some, cl]
  by_cases h : c < 0
  · simp only [h, decide_true, cond_true, if_true]
    rw [addI (by unfold I64 at hc; omega), wrap_i64 (by unfold I64 at hc; omega)]
    rw [show 0 - (c + 1) = -(c + 1) by omega]; rfl
  · simp only [h, decide_false, cond_false, if_false]; rfl
theorem pick_lt {c n : Int} (hn : 0 < n) : 0 ≤ pick c n ∧ pick c n < n := by
  unfold pick
  have h0 : 0 ≤ (if c < 0 then -(c + 1) else c) := by split <;> omega
  exact ⟨Int.tmod_nonneg _ h0, Int.tmod_lt_of_pos _ hn⟩
def Raws (l : List Int) : Prop := (∀ x ∈ l, I64 x) ∧ l.length ≤ 256
theorem wf_raws {l : List Int} (h : Wf (Enc.sl (Enc.int .i64)) l) (hl : l.length ≤ 256) : Raws l := ⟨fun x hx => wf_i64 (h.sl.2 x hx), hl⟩
theorem raw_is {l : List Int} (h : Raws l) (i : Nat) (hi : i ≤ 1000000) : ∃ v : Nat, m_ref_Raw l (i : Int) = some (v : Int) ∧ v ≤ 1000003 + i * 7919 := by
  unfold m_ref_Raw
  rw [ce]
  by_cases h0 : (l.length : Int) = 0
  · refine ⟨i * 31, ?_, by omega⟩
    simp only [h0, decide_true, cond_true]
    rw [show ar .mul .i64 (i : Int) 31 = ((i * 31 : Nat) : Int) from mul64 (b := 31) (by omega)]
  · have hl : 0 < l.length := by omega
    have hlt : i % l.length < l.length := Nat.mod_lt _ hl
    simp only [h0, decide_false, cond_false, nz_ok h0, Option.bind_some]
    rw [rem64, idx_get (List.getElem?_eq_getElem hlt), Option.bind_some]
    rw [pick_is (h.1 _ (List.getElem_mem hlt)) (by omega), Option.bind_some, quo64 (by omega)]
    have hp := pick_lt (c := l[i % l.length]) (n := 1000003) (by omega)
    have hd : i / l.length ≤ i := Nat.div_le_self _ _
    refine ⟨(pick l[i % l.length] 1000003).toNat + i / l.length * 7919, ?_, ?_⟩
    · rw [show ar .mul .i64 ((i / l.length : Nat) : Int) 7919 = ((i / l.length * 7919 : Nat) : Int) from mul64 (b := 7919) (by omega)]
      rw [addI (by omega)]
      have e : pick l[i % l.length] 1000003 = (((pick l[i % l.length] 1000003).toNat : Nat) : Int) := by omega
      rw [e]
      congr 1
    · have : i / l.length * 7919 ≤ i * 7919 := Nat.mul_le_mul_right _ hd
      omega
theorem wrap_byte (n : Int) : 0 ≤ IntKind.wrap .u8 n ∧ IntKind.wrap .u8 n ≤ 255 := by
  unfold IntKind.wrap
  simp only [IntKind.signed, IntKind.bits]
  simp; omega
def BlkOk (b : Blk) : Prop := b.length = 8 ∧ Bytes b
theorem zblk_ok : BlkOk zblk := ⟨rfl, fun x hx => by unfold zblk at hx; simp at hx; omega⟩
theorem set_ok {b : Blk} (h : BlkOk b) (i : Nat) (n : Int) : BlkOk (List.set b i (IntKind.wrap .u8 n)) := by
  refine ⟨by simpa using h.1, fun x hx => ?_⟩
  rcases List.mem_or_eq_of_mem_set hx with hx | rfl
  · exact h.2 x hx
  · exact wrap_byte n
/-- a loop whose state keeps what holds of it -/
theorem lp_ex {α β γ : Type} {step : α → Option (Step α (Ex β γ))} {k : β → Option γ} {B : Type} (st : Nat → B → α) (fin : B → β) (n : Nat) (I : Nat → B → Prop) (b0 : B) (hf : n < FUEL) (h0 : I 0 b0)
    (hs : ∀ i b, i < n → I i b → ∃ b', step (st i b) = some (.next (st (i + 1) b')) ∧ I (i + 1) b') (he : ∀ b, I n b → step (st n b) = some (.done (.brk (fin b)))) :
    ∃ b, I n b ∧ lp step (st 0 b0) k = k (fin b) := by
  have key : ∀ (m i f : Nat) (b : B), i + m = n → m < f → I i b → ∃ b', I n b' ∧ loop step f (st i b) = some (.brk (fin b')) := by
    intro m
    induction m with
    | zero =>
      intro i f b hi hf hI
      obtain ⟨f, rfl⟩ : ∃ f', f = f' + 1 := ⟨f - 1, by omega⟩
      have : i = n := by omega
      subst this
      exact ⟨b, hI, by simp [loop, he b hI]⟩
    | succ m ih =>
      intro i f b hi hf hI
      obtain ⟨f, rfl⟩ : ∃ f', f = f' + 1 := ⟨f - 1, by omega⟩
      obtain ⟨b', h1, h2⟩ := hs i b (by omega) hI
      obtain ⟨b2, h3, h4⟩ := ih (i + 1) f b' (by omega) (by omega) h2
      exact ⟨b2, h3, by simp [loop, h1, h4]⟩
  obtain ⟨b, h1, h2⟩ := key n 0 FUEL b0 (by omega) hf h0
  exact ⟨b, h1, by unfold lp; rw [h2]⟩
theorem blockFrom_ok {l : List Int} (h : Raws l) (at_ : Nat) (ha : at_ ≤ 100000) : ∃ b, m_ref_BlockFrom l (at_ : Int) = some b ∧ BlkOk b := by
  unfold m_ref_BlockFrom
  obtain ⟨v, hv, hvl⟩ := raw_is h at_ (by omega)
  rw [hv, Option.bind_some, ce]
  by_cases h3 : ar .rem .i64 (v : Int) 3 = 0
  · exact ⟨zblk, by simp [h3], zblk_ok⟩
  · have hz : Sw.idx zblk (0 : Int) = some 0 := by unfold Sw.idx zblk; simp
    simp only [h3, decide_false, cond_false, hz, Option.bind_some, jp]
    have hb0 : BlkOk (List.set zblk (Int.toNat (0 : Int)) (IntKind.wrap .u8 (ar .add .i64 (1 : Int) (ar .rem .i64 (ar .quo .i64 (v : Int) (3 : Int)) (5 : Int))))) := set_ok zblk_ok _ _
    by_cases h4 : ar .rem .i64 (v : Int) 3 = 2
    · rw [ce]
      simp only [h4, decide_true, cond_true]
      obtain ⟨b, h5, h6⟩ := lp_ex (γ := Blk) (step := fun (s32 : Int × Blk) =>
            bif (cm .lss s32.1 (8 : Int)) then
              (m_ref_Raw l (ar .add .i64 (at_ : Int) s32.1)).bind fun v39 =>
                (Sw.idx s32.2 s32.1).bind fun _ =>
                  some (.next ((ar .add .i64 s32.1 (1 : Int)), (List.set s32.2 (Int.toNat s32.1) (IntKind.wrap .u8 (ar .quo .i64 v39 (7 : Int))))))
            else
              some (.done (.brk s32.2))) (k := fun x37 => some x37) (fun (i : Nat) (b : Blk) => (((i + 1 : Nat) : Int), b)) id 7 (fun _ b => BlkOk b) (List.set zblk (Int.toNat (0 : Int)) (IntKind.wrap .u8 (ar .add .i64 (1 : Int) (ar .rem .i64 (ar .quo .i64 (v : Int) (3 : Int)) (5 : Int))))) (by decide) hb0
        (fun i b hi hb => by
          have hlt : ((i + 1 : Nat) : Int) < 8 := by omega
          obtain ⟨v2, hv2, _⟩ := raw_is h (at_ + (i + 1)) (by omega)
          obtain ⟨y, hy, _⟩ := idx_nat (l := b) (n := ((i + 1 : Nat) : Int)) (by omega) (by have := hb.1; omega)
          have hadd : ar .add .i64 ((at_ : Nat) : Int) ((i + 1 : Nat) : Int) = ((at_ + (i + 1) : Nat) : Int) := add64 (by omega)
          have hn : ar .add .i64 ((i + 1 : Nat) : Int) 1 = ((i + 1 + 1 : Nat) : Int) := nxt (by omega)
          refine ⟨_, ?_, set_ok hb (Int.toNat ((i + 1 : Nat) : Int)) (ar .quo .i64 (v2 : Int) 7)⟩
          simp only [cl, hlt, decide_true, cond_true, hadd, hv2, hy, hn, Option.bind_some])
        (fun b hb => by
          have hlt : ¬ ((7 + 1 : Nat) : Int) < 8 := by omega
          simp only [cl, hlt, decide_false, cond_false]; rfl)
      exact ⟨b, h6, h5⟩
    · rw [ce]
      simp only [h4, decide_false, cond_false]
      exact ⟨_, rfl, hb0⟩
end Go.Pl

namespace Go.Pl
open Go Go.Sw Go.Mo
/-! ### an index of blocks -/
theorem kp_none {α : Type} [DecidableEq α] {k : α} : ∀ {l : List α}, kp l k = none → k ∉ l
  | [], _ => by simp
  | a :: l, h => by
    simp only [kp] at h
    split at h
    · cases h
    · rename_i ha
      cases hr : kp l k with
      | none => have := kp_none hr; simp only [List.mem_cons, not_or]; exact ⟨fun e => ha e.symm, this⟩
      | some j => rw [hr] at h; cases h
theorem mget_none {α β : Type} [DecidableEq α] {k : α} : ∀ {m : List (α × β)}, k ∉ m.map (·.1) → mget m k = none
  | [], _ => rfl
  | (a, b) :: m, h => by
    simp only [List.map_cons, List.mem_cons, not_or] at h
    simp only [mget, if_neg (fun e => h.1 (Eq.symm e))]
    exact mget_none h.2
theorem mget_append {α β : Type} [DecidableEq α] {k : α} {v : β} {b : α} : ∀ {m : List (α × β)}, k ∉ m.map (·.1) → mget (m ++ [(k, v)]) b = if b = k then some v else mget m b
  | [], _ => by simp only [List.nil_append, mget]; by_cases h : k = b <;> simp [h]; intro e; exact (h e.symm).elim
  | (a, c) :: m, h => by
    simp only [List.map_cons, List.mem_cons, not_or] at h
    simp only [List.cons_append, mget, mget_append h.2]
    by_cases ha : a = b
    · subst ha; rw [if_pos rfl, if_pos rfl, if_neg (fun e => h.1 e.symm)]
    · simp [ha]
theorem mget_mset {α β : Type} [DecidableEq α] {k : α} {v : β} {b : α} : ∀ {m : List (α × β)} {q : Nat}, kp (m.map (·.1)) k = some q → mget (mset m q v) b = if b = k then some v else mget m b
  | [], q, h => by simp [kp] at h
  | (a, c) :: m, q, h => by
    simp only [List.map_cons, kp] at h
    split at h
    · rename_i ha
      cases h; subst ha
      simp only [mset, List.modify_zero_cons, mget]
      by_cases hb : a = b
      · simp [hb]
      · have : ¬ b = a := fun e => hb e.symm
        simp [hb, this]
    · rename_i ha
      cases hr : kp (m.map (·.1)) k with
      | none => rw [hr] at h; cases h
      | some j =>
        rw [hr] at h; cases h
        have := mget_mset (v := v) (b := b) hr
        simp only [mset] at this
        simp only [mset, List.modify_succ_cons, mget, this]
        by_cases hb : a = b
        · subst hb; simp [ha]
        · simp [hb]
theorem ment_is {κ α : Type} [DecidableEq κ] (m : List (κ × List α)) (k : κ) (hm : m.length ≤ 140737488355328) :
    ∃ r, ment m k = some r ∧ r.2.2 = (mget m k).getD [] ∧ (∀ v b, mget (mset r.1 r.2.1 v) b = if b = k then some v else mget m b) ∧ ∀ v, (mset r.1 r.2.1 v).length ≤ m.length + 1 := by
  unfold ment
  rw [if_pos hm]
  cases hk : kp (m.map (·.1)) k with
  | none =>
    have h1 := kp_none hk
    refine ⟨_, rfl, by rw [mget_none h1]; rfl, fun v b => ?_, fun v => ?_⟩
    · have : mset (m ++ [(k, [])]) m.length v = m ++ [(k, v)] := by
        apply List.ext_getElem?; intro i
        simp only [mset, List.getElem?_modify]
        rcases Nat.lt_trichotomy i m.length with h | h | h
        · rw [List.getElem?_append_left h, List.getElem?_append_left h]; have : ¬ m.length = i := by omega
          simp [this]
        · subst h; simp
        · rw [List.getElem?_eq_none (by simp; omega), List.getElem?_eq_none (by simp; omega)]; rfl
      simp only [this]
      exact mget_append h1
    · simp [mset]
  | some q =>
    refine ⟨_, rfl, ?_, fun v b => mget_mset hk, fun v => by simp [mset]⟩
    rw [mget_kp, hk]; rfl
/-- an index that tells the first places -/
structure IdxOk (l : List Blk) (M : List (Blk × List Int)) : Prop where
  none : ∀ b, b ∉ l → mget M b = Option.none
  some : ∀ b, b ∈ l → ∃ t, mget M b = Option.some (((l.idxOf b : Nat) : Int) :: t) ∧ t.length ≤ l.length
  len : M.length ≤ l.length
theorem clone_is (l : List Blk) (h : l.length ≤ 1000000) : m_slices_Clone_api_Block_api_Block l = some l := by
  unfold m_slices_Clone_api_Block_api_Block
  rw [app_small _ _ (by simp; omega)]; rfl
theorem IdxOk.add {l : List Blk} {M M' : List (Blk × List Int)} {x : Blk} (h : IdxOk l M) (hg : ∀ b, mget M' b = if b = x then Option.some ((mget M x).getD [] ++ [(l.length : Int)]) else mget M b) (hlen : M'.length ≤ M.length + 1) : IdxOk (l ++ [x]) M' := by
  refine ⟨fun b hb => ?_, fun b hb => ?_, by have := h.len; simp; omega⟩
  · simp only [List.mem_append, List.mem_singleton, not_or] at hb
    rw [hg, if_neg hb.2, h.none b hb.1]
  · rw [hg]
    by_cases hbx : b = x
    · subst hbx
      rw [if_pos rfl, List.idxOf_append]
      by_cases hm : b ∈ l
      · obtain ⟨t, h1, h2⟩ := h.some b hm
        rw [h1, if_pos hm]
        exact ⟨t ++ [(l.length : Int)], by simp, by simp; omega⟩
      · rw [h.none b hm, if_neg hm]
        exact ⟨[], by simp, by simp⟩
    · have hm : b ∈ l := by
        rcases List.mem_append.1 hb with h | h
        · exact h
        · exact (hbx (by simpa using h)).elim
      rw [if_neg hbx, List.idxOf_append, if_pos hm]
      obtain ⟨t, h1, h2⟩ := h.some b hm
      exact ⟨t, h1, by simp; omega⟩
theorem cacheNew_is (l : List Blk) (h1 : 1 ≤ l.length) (h2 : l.length ≤ 32) : ∃ M, IdxOk l M ∧ m_cache_New l = some (some (l, M), none) := by
  unfold m_cache_New
  have c1 : cm .lss (l.length : Int) 1 = false := by rw [cl]; simp; omega
  have c2 : cm .gtr (l.length : Int) 32 = false := by rw [cg]; simp; omega
  simp only [c1, cond_false, c2, Option.bind_some, clone_is l (by omega)]
  have e0 : ((0 : Int), ([] : List (Blk × List Int))) = (fun (i : Nat) (acc : List (Blk × List Int)) => ((i : Int), acc)) 0 [] := rfl
  rw [e0]
  obtain ⟨M, h3, h4⟩ := lp_go (l := l) (k := fun x28 => some (some (l, x28), (none : Option Int))) (step := fun (s20 : Int × (List (Blk × (List Int)))) =>
          bif (cm .lss s20.1 (l.length : Int)) then
            (Sw.idx l s20.1).bind fun z30 =>
              (ment s20.2 z30).bind fun v33 =>
                (Sw.app v33.2.2 ([s20.1] : (List Int))).bind fun v34 =>
                  some (.next ((ar .add .i64 s20.1 (1 : Int)), mset v33.1 v33.2.1 v34))
          else
            some (.done (.brk s20.2))) (fun (i : Nat) (acc : List (Blk × List Int)) => ((i : Int), acc)) (fun pre acc => IdxOk pre acc) (fun acc => acc) [] (by unfold FUEL; omega) ⟨fun b _ => rfl, fun b hb => by simp at hb, Nat.le_refl _⟩ (by
      intro pre x rest acc hl hI
      have hpl : pre.length < 32 := by rw [hl] at h2; simp at h2; omega
      obtain ⟨r, k1, k2, k3, k4⟩ := ment_is acc x (by have := hI.len; omega)
      have hz : r.2.2.length + 1 ≤ 4294967296 := by
        rw [k2]
        by_cases hm : x ∈ pre
        · obtain ⟨t, h5, h6⟩ := hI.some x hm; rw [h5]; simp; omega
        · rw [hI.none x hm]; simp
      refine ⟨mset r.1 r.2.1 (r.2.2 ++ [(pre.length : Int)]), ?_, hI.add (fun b => ?_) (k4 _)⟩
      · simp only [lss_len hl, cond_true, idx_len hl, Option.bind_some, k1, app_small _ [(pre.length : Int)] (by simpa using hz)]
        rw [nxt (by omega)]
      · rw [k3, k2]) (by
      intro acc hI
      simp only [lss_self, cond_false])
  exact ⟨M, h3, h4⟩
theorem cacheNew_bad (l : List Blk) (h : l.length < 1 ∨ l.length > 32) : m_cache_New l = some (none, some 1) := by
  unfold m_cache_New
  by_cases h1 : l.length < 1
  · have c1 : cm .lss (l.length : Int) 1 = true := by rw [cl]; simp; omega
    simp [c1]
  · have c1 : cm .lss (l.length : Int) 1 = false := by rw [cl]; simp; omega
    have c2 : cm .gtr (l.length : Int) 32 = true := by rw [cg]; simp; omega
    simp [c1, c2]
theorem indexFind_is {l l' : List Blk} {M : List (Blk × List Int)} (h : IdxOk l M) (b : Blk) : m_cache_Index_Find (some (l', M)) b = some (if b ∈ l then (((l.idxOf b : Nat) : Int), true) else (0, false)) := by
  unfold m_cache_Index_Find
  simp only [Option.bind_some]
  by_cases hb : b ∈ l
  · obtain ⟨t, h1, _⟩ := h.some b hb
    rw [h1, if_pos hb]
    have : cm .eql (((some (((l.idxOf b : Nat) : Int) :: t)).getD []).length : Int) 0 = false := by rw [ce]; simp; omega
    rw [this]
    simp [Sw.idx]
  · rw [h.none b hb, if_neg hb]
    simp [ce]
theorem index_is (l : List Blk) (b : Blk) (h : l.length ≤ 1000000) : m_slices_Index_api_Block_api_Block l b = some (if b ∈ l then ((l.idxOf b : Nat) : Int) else -1) := by
  rw [← first_is l b h]
  unfold m_slices_Index_api_Block_api_Block m_ref_First
  have : ∀ z : Blk, decide (b = z) = decide (z = b) := fun z => by by_cases h : b = z <;> simp [h]; intro e; exact (h e.symm).elim
  simp only [this]
theorem cacheFind_is (l : List Blk) (b : Blk) (h : l.length ≤ 1000000) : m_cache_Find l b = some (if b ∈ l then (((l.idxOf b : Nat) : Int), true) else (0, false)) := by
  unfold m_cache_Find
  rw [index_is l b h, Option.bind_some]
  by_cases hb : b ∈ l
  · simp only [hb, if_true, cge]; congr 2 <;> simp
  · simp [hb, cge]; decide
/-! ### one packet -/
abbrev Pt := Int × Blk
def pkt (p : Pt) (peer had : List Blk) : Chg :=
  if p.2 = zblk then (p.1, 0, 0, zblk) else if p.2 ∈ peer then (p.1, 1, ((peer.idxOf p.2 : Nat) : Int), zblk) else if p.2 ∈ had then (p.1, 2, ((had.idxOf p.2 : Nat) : Int), zblk) else (p.1, 3, 0, p.2)
def same (p : Pt) (peer : List Blk) : Bool := decide (peer[p.1.toNat]? = some p.2)
def pkts (puts : List Pt) (peer had : List Blk) : List Chg := (puts.filter fun p => !same p peer).map fun p => pkt p peer had
theorem ways_is {γ : Type} {peer peer' had : List Blk} {M : List (Blk × List Int)} (h : IdxOk peer M) (hh : had.length ≤ 1000000) (p : Pt) (acc : List Chg) (ha : acc.length ≤ 1000000) (k : List Chg → Option γ) :
    lp (β := (List (Int × Int × Int × Blk))) (fun (s262 : Int) =>
                      bif (cm .lss s262 (([(.inl () : PWay), (.inr (.inl (some (peer', M))) : PWay), (.inr (.inr (.inl had)) : PWay), (.inr (.inr (.inr (.inl ()))) : PWay)] : (List PWay)).length : Int)) then
                        (Sw.idx ([(.inl () : PWay), (.inr (.inl (some (peer', M))) : PWay), (.inr (.inr (.inl had)) : PWay), (.inr (.inr (.inr (.inl ()))) : PWay)] : (List PWay)) s262).bind fun z271 =>
                          (m_inv_PWay z271 p).bind fun v272 =>
                            bif v272.2 then
                              (Sw.app acc ([v272.1] : (List (Int × Int × Int × Blk)))).bind fun v274 =>
                                some (.done (.brk v274))
                            else
                              some (.next (ar .add .i64 s262 (1 : Int)))
                      else
                        some (.done (.brk acc))
                      ) (0 : Int) k = k (acc ++ [pkt p peer had]) := by
  obtain ⟨ws, hws⟩ : ∃ ws, ws = ([(.inl () : PWay), (.inr (.inl (some (peer', M))) : PWay), (.inr (.inr (.inl had)) : PWay), (.inr (.inr (.inr (.inl ()))) : PWay)] : (List PWay)) := ⟨_, rfl⟩
  rw [← hws]
  have hv : ∀ w ∈ ws, ∃ v, m_inv_PWay w p = some v := by
    intro w hw
    rw [hws] at hw
    simp only [List.mem_cons, List.not_mem_nil, or_false] at hw
    rcases hw with rfl | rfl | rfl | rfl
    · exact ⟨_, rfl⟩
    · exact ⟨_, by simp only [m_inv_PWay, m_plan_same_tell, indexFind_is h, Option.bind_some]; rfl⟩
    · exact ⟨_, by simp only [m_inv_PWay, m_plan_cached_tell, cacheFind_is had _ hh, Option.bind_some]; rfl⟩
    · exact ⟨_, rfl⟩
  have happ : ∀ q : Chg, Sw.app acc [q] = some (acc ++ [q]) := fun q => app_small acc [q] (by simp; omega)
  rw [show (0 : Int) = (fun (i : Nat) (_ : Unit) => (i : Int)) 0 () from rfl, lp_list (l := ws) (fun (i : Nat) (_ : Unit) => (i : Int)) () (fun _ w _ => match m_inv_PWay w p with | some v => if v.2 = true then .done (.brk (acc ++ [v.1])) else .next () | none => .next ()) (fun _ => .brk acc) (by rw [hws]; unfold FUEL; simp)]
  · have e1 : m_inv_PWay (.inl ()) p = some ((p.1, 0, 0, zblk), decide (p.2 = zblk)) := rfl
    have e2 : m_inv_PWay (.inr (.inl (some (peer', M)))) p = some ((p.1, 1, (if p.2 ∈ peer then (((peer.idxOf p.2 : Nat) : Int), true) else (0, false)).1, zblk), (if p.2 ∈ peer then (((peer.idxOf p.2 : Nat) : Int), true) else (0, false)).2) := by
      simp only [m_inv_PWay, m_plan_same_tell, indexFind_is h, Option.bind_some]
    have e3 : m_inv_PWay (.inr (.inr (.inl had))) p = some ((p.1, 2, (if p.2 ∈ had then (((had.idxOf p.2 : Nat) : Int), true) else (0, false)).1, zblk), (if p.2 ∈ had then (((had.idxOf p.2 : Nat) : Int), true) else (0, false)).2) := by
      simp only [m_inv_PWay, m_plan_cached_tell, cacheFind_is had _ hh, Option.bind_some]
    have e4 : m_inv_PWay (.inr (.inr (.inr (.inl ())))) p = some ((p.1, 3, 0, p.2), true) := rfl
    rw [hws]
    simp only [foldS, e1, e2, e3, e4]
    unfold pkt
    by_cases hz : p.2 = zblk
    · simp [hz, out]
    by_cases h2 : p.2 ∈ peer
    · simp [hz, h2, out]
    by_cases h3 : p.2 ∈ had
    · simp [hz, h2, h3, out]
    · simp [hz, h2, h3, out]
  · intro pre x rest u hl
    obtain ⟨v, hv⟩ := hv x (by rw [hl]; simp)
    have hpl : pre.length ≤ 4 := by
      have : ws.length = 4 := by rw [hws]; rfl
      rw [hl] at this; simp at this; omega
    simp only [lss_len hl, cond_true, idx_len hl, Option.bind_some, hv, happ]
    cases hv2 : v.2 with
    | true => simp [stp]
    | false => simp only [cond_false, Bool.false_eq_true, if_false, stp]; rw [nxt (by omega)]
  · intro u
    simp only [lss_self, cond_false]
end Go.Pl

namespace Go.Pl
open Go Go.Sw Go.Mo
/-- places that rise, below a bound -/
def badP (n prev : Int) (x : Pt) : Bool := decide (x.1 ≤ prev) || decide (x.1 ≥ n)
def rise (n : Int) : Int → List Pt → Bool
  | _, [] => true
  | prev, x :: l => !badP n prev x && rise n x.1 l
theorem rise_mem {n : Int} : ∀ {l : List Pt} {prev : Int}, rise n prev l = true → ∀ x ∈ l, prev < x.1 ∧ x.1 < n
  | [], _, _, x, hx => by simp at hx
  | y :: l, prev, h, x, hx => by
    simp only [rise, Bool.and_eq_true, Bool.not_eq_true'] at h
    have h1 := h.1
    unfold badP at h1
    simp at h1
    rcases List.mem_cons.1 hx with rfl | hx
    · omega
    · have := rise_mem h.2 x hx; omega
theorem scanP_is {γ : Type} (l : List Pt) (n : Int) (z : γ) (hl : l.length ≤ 1000000) (k : Unit → Option γ) :
    lp (β := Unit) (fun (s17 : Int × Int) =>
        bif (cm .lss s17.2 (l.length : Int)) then
          (Sw.idx l s17.2).bind fun z27 =>
            (bif (cm .leq z27.1 s17.1) then
              some true
            else
              some (cm .geq z27.1 n)).bind fun x29 =>
              bif x29 then
                some (.done (.ret z))
              else
                some (.next (z27.1, (ar .add .i64 s17.2 (1 : Int))))
        else
          some (.done (.brk ()))
        ) ((-1 : Int), (0 : Int)) k = if rise n (-1) l then k () else some z := by
  rw [show ((-1 : Int), (0 : Int)) = (fun (i : Nat) (acc : Int) => (acc, (i : Int))) 0 (-1) from rfl, lp_walk (l := l) (fun (i : Nat) (acc : Int) => (acc, (i : Int))) (fun _ _ => True) (fun acc x => if badP n acc x then .done (.ret z) else .next x.1) (fun _ => .brk ()) (-1) (by unfold FUEL; omega) trivial]
  · have : ∀ (l : List Pt) (prev : Int), foldG (fun (acc : Int) (x : Pt) => (if badP n acc x then Step.done (Ex.ret z) else .next x.1 : Step Int (Ex Unit γ))) (fun _ => .brk ()) prev l = if rise n prev l then .brk () else .ret z := by
      intro l
      induction l with
      | nil => intro prev; simp [foldG, rise]
      | cons x l ih =>
        intro prev
        simp only [foldG, rise]
        by_cases hb : badP n prev x = true
        · simp [hb]
        · simp [hb, ih]
    rw [this]
    cases rise n (-1) l <;> simp [out]
  · rintro pre x rest acc rfl -
    have hpl : pre.length ≤ 1000000 := by simp at hl; omega
    refine ⟨?_, fun _ _ => trivial⟩
    simp only [lss_app, cond_true, idx_app, Option.bind_some]
    simp only [cge, cle]
    rw [nxt (by omega)]
    unfold badP
    by_cases h1 : x.1 ≤ acc
    · simp [h1, stp]
    · by_cases h2 : x.1 ≥ n
      · simp [h1, h2, stp]
      · simp [h1, h2, stp]
  · rintro acc -
    simp only [lss_self, cond_false]
theorem pkts_len (l : List Pt) (peer had : List Blk) : (pkts l peer had).length ≤ l.length := by unfold pkts; rw [List.length_map]; exact List.length_filter_le _ _
theorem pkts_add (pre : List Pt) (x : Pt) (peer had : List Blk) : pkts (pre ++ [x]) peer had = pkts pre peer had ++ (if same x peer then [] else [pkt x peer had]) := by
  unfold pkts
  rw [List.filter_append, List.map_append]
  cases h : same x peer <;> simp [List.filter_cons, h]
theorem opt_zero : opt 0 = none := rfl
theorem opt_ne {n : Int} (h : n ≠ 0) : opt n = some n := by unfold opt; rw [if_neg h]
theorem packets_is (l : List Pt) (peer had : List Blk) (hl : l.length ≤ 1000) (hh : had.length ≤ 1000000) :
    m_plan_Packets l peer had = some (if planErr peer had ≠ 0 then ([], some (planErr peer had)) else if rise (peer.length : Int) (-1) l then (pkts l peer had, none) else ([], some 1)) := by
  unfold m_plan_Packets
  rw [checked_is peer had hh, Option.bind_some]
  by_cases he : planErr peer had ≠ 0
  · rw [opt_ne he, if_pos he]; rfl
  have he : planErr peer had = 0 := by simpa using he
  have hpl : 1 ≤ peer.length ∧ peer.length ≤ 32 := by
    unfold planErr at he
    split at he
    · cases he
    · omega
  rw [he, opt_zero]
  simp only [Option.isSome_none, cond_false]
  rw [scanP_is l _ _ (by omega)]
  cases hr : rise (peer.length : Int) (-1) l with
  | false => simp
  | true =>
    simp only [if_true]
    obtain ⟨M, hM, hN⟩ := cacheNew_is peer hpl.1 hpl.2
    rw [hN, Option.bind_some]
    simp only [Option.isSome_none, cond_false]
    have e0 : ((0 : Int), ([] : List Chg)) = (fun (i : Nat) (acc : List Chg) => ((i : Int), acc)) 0 [] := rfl
    rw [e0]
    refine (lp_go' (l := l) (r := some (pkts l peer had, none)) (fun (i : Nat) (acc : List Chg) => ((i : Int), acc)) (fun pre acc => acc = pkts pre peer had) (fun acc => acc) [] (by unfold FUEL; omega) rfl ?_ ?_ ?_).trans (by simp)
    · rintro pre x rest acc hd rfl
      have hx := rise_mem hr x (by rw [hd]; simp)
      have hpre : pre.length ≤ 1000 := by rw [hd] at hl; simp at hl; omega
      have hle := pkts_len pre peer had
      obtain ⟨y, hy, hy'⟩ := idx_nat (l := peer) (n := x.1) (by omega) hx.2
      have hs : same x peer = decide (y = x.2) := by unfold same; rw [hy']; simp
      refine ⟨pkts pre peer had ++ (if same x peer then [] else [pkt x peer had]), ?_, (pkts_add _ _ _ _).symm⟩
      simp only [lss_len hd, cond_true, idx_len hd, Option.bind_some, jp, hy, ← hs]
      rw [ways_is hM hh x (pkts pre peer had) (by omega)]
      rw [nxt (by omega)]
      cases same x peer <;> simp
    · rintro acc rfl
      simp only [lss_self, cond_false]
    · rintro acc rfl
      rfl
end Go.Pl

namespace Go.Pl
open Go Go.Sw Go.Mo
/-! ### packets, applied -/
theorem pkt_fst (p : Pt) (peer had : List Blk) : (pkt p peer had).1 = p.1 := by unfold pkt; split; rfl; split; rfl; split <;> rfl
theorem pkt_kind (p : Pt) (peer had : List Blk) : 0 ≤ (pkt p peer had).2.1 ∧ (pkt p peer had).2.1 ≤ 3 := by unfold pkt; split; simp; split; simp; split <;> simp
theorem pkts_goes {n : Int} {peer had : List Blk} : ∀ {l : List Pt} {prev prev' : Int}, rise n prev l = true → prev' ≤ prev → goes n prev' (pkts l peer had) = true
  | [], _, _, _, _ => rfl
  | x :: l, prev, prev', h, hp => by
    simp only [rise, Bool.and_eq_true, Bool.not_eq_true'] at h
    have h1 := h.1
    unfold badP at h1
    simp at h1
    cases hs : same x peer with
    | true =>
      have e : pkts (x :: l) peer had = pkts l peer had := by unfold pkts; simp [hs]
      rw [e]; exact pkts_goes h.2 (by omega)
    | false =>
      have e : pkts (x :: l) peer had = pkt x peer had :: pkts l peer had := by unfold pkts; simp [hs]
      have hk := pkt_kind x peer had
      have hb : badC n prev' (pkt x peer had) = false := by
        unfold badC
        rw [pkt_fst]
        simp; omega
      rw [e]
      simp only [goes, hb, Bool.not_false, Bool.true_and]
      rw [pkt_fst]
      exact pkts_goes h.2 (Int.le_refl _)
theorem said_pkt (p : Pt) (peer had : List Blk) : saidV (pkt p peer had) peer had = (p.2, true) := by
  have key : ∀ (l : List Blk), p.2 ∈ l → ¬ (((l.idxOf p.2 : Nat) : Int) < 0 ∨ ((l.idxOf p.2 : Nat) : Int) ≥ l.length) ∧ l.getD (((l.idxOf p.2 : Nat) : Int).toNat) [] = p.2 := by
    intro l h
    have hlt := List.idxOf_lt_length_of_mem h
    refine ⟨by omega, ?_⟩
    simp [List.getD_eq_getElem?_getD, List.getElem?_eq_getElem hlt]
  unfold pkt
  by_cases hz : p.2 = zblk
  · simp [hz, saidV]
  by_cases h2 : p.2 ∈ peer
  · obtain ⟨k1, k2⟩ := key peer h2
    simp only [hz, h2, if_false, if_true, saidV]
    rw [if_neg (by decide), if_neg (by decide)]
    simp only [show ¬ (1 : Int) = 2 by decide, if_false, k1, k2]
  by_cases h3 : p.2 ∈ had
  · obtain ⟨k1, k2⟩ := key had h3
    simp only [hz, h2, h3, if_false, if_true, saidV]
    rw [if_neg (by decide), if_neg (by decide)]
    simp only [if_true, k1, k2, if_false]
  · simp [hz, h2, h3, saidV]
def news (l : List Pt) (peer : List Blk) : List Pt := l.filter fun p => !same p peer
theorem puts_pkts (l : List Pt) (peer had : List Blk) : puts peer had (pkts l peer had) = (news l peer, []) := by
  unfold puts
  have key : ∀ (l : List Pt) (i : Nat) (acc : List (Int × Blk) × List Int), (((l.map fun p => pkt p peer had).zipIdx i).foldl (fun acc x => put1 peer had x.1 acc) acc) = (acc.1 ++ l, acc.2) := by
    intro l
    induction l with
    | nil => intro i acc; simp
    | cons x l ih =>
      intro i acc
      rw [List.map_cons, List.zipIdx_cons, List.foldl_cons, ih]
      unfold put1
      rw [said_pkt, pkt_fst]
      simp
  unfold pkts
  rw [key]
  simp [news]
theorem apply_pkts (l : List Pt) (peer had : List Blk) (hl : l.length ≤ 1000) (hh : had.length ≤ 1000000) (he : planErr peer had = 0) (hr : rise (peer.length : Int) (-1) l = true) :
    m_plan_Apply (pkts l peer had) peer had = some (news l peer, [], none) := by
  rw [apply_is _ _ _ (by have := pkts_len l peer had; omega) hh]
  have : okErr (planErr peer had) peer.length (pkts l peer had) = 0 := by
    unfold okErr; rw [he, pkts_goes hr (Int.le_refl _)]; rfl
  rw [if_pos this, puts_pkts]
theorem news_len (l : List Pt) (peer had : List Blk) : (news l peer).length = (pkts l peer had).length := by unfold news pkts; simp
/-! ### blocks that are put -/
def setF (acc : List Blk) (l : List Pt) : List Blk := l.foldl (fun acc p => acc.set p.1.toNat p.2) acc
theorem setF_len (l : List Pt) : ∀ acc : List Blk, (setF acc l).length = acc.length := by
  induction l with
  | nil => intro acc; rfl
  | cons x l ih => intro acc; show (setF (acc.set _ _) l).length = _; rw [ih]; simp
theorem setF_snoc (acc : List Blk) (l : List Pt) (x : Pt) : setF acc (l ++ [x]) = (setF acc l).set x.1.toNat x.2 := by unfold setF; rw [List.foldl_append]; rfl
theorem setF_news {n : Int} {peer : List Blk} : ∀ {l : List Pt} {prev : Int} {acc : List Blk}, -1 ≤ prev → rise n prev l = true → (∀ i : Nat, prev < (i : Int) → acc[i]? = peer[i]?) → setF acc (news l peer) = setF acc l
  | [], _, _, _, _, _ => rfl
  | x :: l, prev, acc, h0, h, ha => by
    simp only [rise, Bool.and_eq_true, Bool.not_eq_true'] at h
    have h1 := h.1
    unfold badP at h1
    simp at h1
    have hx : x.1 = ((x.1.toNat : Nat) : Int) := by omega
    cases hs : same x peer with
    | true =>
      have e : news (x :: l) peer = news l peer := by unfold news; simp [hs]
      have e2 : acc.set x.1.toNat x.2 = acc := by
        have h2 : peer[x.1.toNat]? = some x.2 := by unfold same at hs; simpa using hs
        rw [← ha x.1.toNat (by omega)] at h2
        apply List.ext_getElem?; intro i
        rw [List.getElem?_set]
        split
        · rename_i hi; subst hi; split
          · exact h2.symm
          · rename_i hlt; rw [List.getElem?_eq_none (by omega)]
        · rfl
      rw [e, setF_news (by omega) h.2 (fun i hi => ha i (by omega))]
      show _ = setF (acc.set _ _) l
      rw [e2]
    | false =>
      have e : news (x :: l) peer = x :: news l peer := by unfold news; simp [hs]
      rw [e]
      show setF (acc.set _ _) (news l peer) = setF (acc.set _ _) l
      refine setF_news (by omega) h.2 (fun i hi => ?_)
      rw [List.getElem?_set_ne (by omega)]
      exact ha i (by omega)
theorem putLoop_is {γ : Type} (l : List Pt) (o : List Blk) (hl : l.length ≤ 1000) (hr : ∀ x ∈ l, 0 ≤ x.1 ∧ x.1 < (o.length : Int)) (k : List Blk → Option γ) :
    lp (β := (List Blk)) (fun (s112 : Int × (List Blk)) =>
                              bif (cm .lss s112.1 (l.length : Int)) then
                                (Sw.idx l s112.1).bind fun z120 =>
                                  (Sw.idx l s112.1).bind fun z121 =>
                                    (Sw.idx s112.2 z120.1).bind fun _ =>
                                      some (.next ((ar .add .i64 s112.1 (1 : Int)), (List.set s112.2 (Int.toNat z120.1) z121.2)))
                              else
                                some (.done (.brk s112.2))
                              ) ((0 : Int), o) k = k (setF o l) := by
  rw [show ((0 : Int), o) = (fun (i : Nat) (acc : List Blk) => ((i : Int), acc)) 0 o from rfl]
  refine lp_go' (l := l) (fun (i : Nat) (acc : List Blk) => ((i : Int), acc)) (fun pre acc => acc = setF o pre) (fun acc => acc) o (by unfold FUEL; omega) rfl ?_ ?_ ?_
  · rintro pre x rest acc hd rfl
    have hx := hr x (by rw [hd]; simp)
    have hpre : pre.length ≤ 1000 := by rw [hd] at hl; simp at hl; omega
    obtain ⟨y, hy, _⟩ := idx_nat (l := setF o pre) (n := x.1) hx.1 (by rw [setF_len]; exact hx.2)
    refine ⟨(setF o pre).set x.1.toNat x.2, ?_, (setF_snoc _ _ _).symm⟩
    simp only [lss_len hd, cond_true, idx_len hd, Option.bind_some, hy]
    rw [nxt (by omega)]
  · rintro acc rfl
    simp only [lss_self, cond_false]
  · rintro acc rfl
    rfl
theorem saidLoop_is {γ : Type} (l : List Pt) (o : List Blk) (n : Int) (z : γ) (hn : n = o.length) (hl : l.length ≤ 1000) (hr : ∀ x ∈ l, 0 ≤ x.1 ∧ x.1 < (o.length : Int)) (k : List Blk → Option γ) :
    lp (β := (List Blk)) (fun (s74 : Int × (List Blk)) =>
                            bif (cm .lss s74.1 (l.length : Int)) then
                              ((Sw.idx l s74.1).bind fun z94 =>
                                bif (cm .lss z94.1 (0 : Int)) then
                                  some true
                                else
                                  (Sw.idx l s74.1).bind fun z96 =>
                                    some (cm .geq z96.1 n)).bind fun x93 =>
                                bif x93 then
                                  some (.done (.ret z))
                                else
                                  (Sw.idx l s74.1).bind fun z98 =>
                                    (Sw.idx l s74.1).bind fun z99 =>
                                      (Sw.idx s74.2 z98.1).bind fun _ =>
                                        some (.next ((ar .add .i64 s74.1 (1 : Int)), (List.set s74.2 (Int.toNat z98.1) z99.2)))
                            else
                              some (.done (.brk s74.2))
                            ) ((0 : Int), o) k = k (setF o l) := by
  subst hn
  rw [show ((0 : Int), o) = (fun (i : Nat) (acc : List Blk) => ((i : Int), acc)) 0 o from rfl]
  refine lp_go' (l := l) (fun (i : Nat) (acc : List Blk) => ((i : Int), acc)) (fun pre acc => acc = setF o pre) (fun acc => acc) o (by unfold FUEL; omega) rfl ?_ ?_ ?_
  · rintro pre x rest acc hd rfl
    have hx := hr x (by rw [hd]; simp)
    have hpre : pre.length ≤ 1000 := by rw [hd] at hl; simp at hl; omega
    obtain ⟨y, hy, _⟩ := idx_nat (l := setF o pre) (n := x.1) hx.1 (by rw [setF_len]; exact hx.2)
    refine ⟨(setF o pre).set x.1.toNat x.2, ?_, (setF_snoc _ _ _).symm⟩
    have c1 : cm .lss x.1 0 = false := by rw [cl]; simp; omega
    have c2 : cm .geq x.1 (o.length : Int) = false := by rw [cge]; simp; omega
    simp only [lss_len hd, cond_true, idx_len hd, Option.bind_some, hy, c1, c2, cond_false]
    rw [nxt (by omega)]
  · rintro acc rfl
    simp only [lss_self, cond_false]
  · rintro acc rfl
    rfl
/-! ### puts of raw numbers -/
theorem rise_snoc {n n' : Int} {m : Int} {b : Blk} : ∀ {l : List Pt} {prev : Int}, rise n prev l = true → prev < m → n ≤ m → m < n' → rise n' prev (l ++ [(m, b)]) = true
  | [], prev, _, h1, _, h3 => by simp only [List.nil_append, rise, badP]; simp; omega
  | x :: l, prev, h, h1, h2, h3 => by
    simp only [rise, Bool.and_eq_true, Bool.not_eq_true'] at h
    have h4 := h.1
    unfold badP at h4
    simp at h4
    simp only [List.cons_append, rise, rise_snoc h.2 (by omega) h2 h3, Bool.and_true]
    unfold badP; simp; omega
theorem rise_mono {n n' : Int} (hn : n ≤ n') : ∀ {l : List Pt} {prev : Int}, rise n prev l = true → rise n' prev l = true
  | [], _, _ => rfl
  | x :: l, prev, h => by
    simp only [rise, Bool.and_eq_true, Bool.not_eq_true'] at h
    have h4 := h.1
    unfold badP at h4
    simp at h4
    simp only [rise, rise_mono hn h.2, Bool.and_true]
    unfold badP; simp; omega
theorem putsFrom_ok {raw : List Int} (hw : Raws raw) (a n : Nat) (ha : a ≤ 10000) (hn : n ≤ 1000) : ∃ ps, m_ref_PutsFrom raw (a : Int) (n : Int) = some ps ∧ rise (n : Int) (-1) ps = true ∧ ps.length ≤ n := by
  unfold m_ref_PutsFrom
  obtain ⟨ps, h5, h6⟩ := lp_ex (γ := List Pt) (step := fun (s13 : Int × (List (Int × Blk))) =>
    bif (cm .lss s13.1 (n : Int)) then
      (m_ref_Raw raw (ar .add .i64 (a : Int) s13.1)).bind fun v22 =>
        bif (cm .eql (ar .rem .i64 v22 (3 : Int)) (0 : Int)) then
          (m_ref_BlockFrom raw (ar .add .i64 (ar .add .i64 (a : Int) (ar .mul .i64 (5 : Int) s13.1)) (1 : Int))).bind fun v24 =>
            (Sw.app s13.2 ([(s13.1, v24)] : (List (Int × Blk)))).bind fun v25 =>
              some (.next ((ar .add .i64 s13.1 (1 : Int)), v25))
        else
          some (.next ((ar .add .i64 s13.1 (1 : Int)), s13.2))
    else
      some (.done (.brk s13.2))) (k := fun x20 => some x20) (fun (i : Nat) (b : List Pt) => ((i : Int), b)) id n (fun i b => rise (i : Int) (-1) b = true ∧ b.length ≤ i) [] (by unfold FUEL; omega) ⟨rfl, Nat.le_refl _⟩
    (fun i ps hi hb => by
      have hlt : (i : Int) < (n : Int) := by omega
      have hadd : ar .add .i64 (a : Int) (i : Int) = ((a + i : Nat) : Int) := add64 (by omega)
      obtain ⟨v, hv, _⟩ := raw_is hw (a + i) (by omega)
      simp only [cl, hlt, decide_true, cond_true, hadd, hv, Option.bind_some, ce]
      by_cases h3 : ar .rem .i64 (v : Int) 3 = 0
      · have hmul : ar .mul .i64 (5 : Int) (i : Int) = ((5 * i : Nat) : Int) := mul64 (a := 5) (by omega)
        have hadd2 : ar .add .i64 (a : Int) ((5 * i : Nat) : Int) = ((a + 5 * i : Nat) : Int) := add64 (by omega)
        have hadd3 : ar .add .i64 ((a + 5 * i : Nat) : Int) 1 = ((a + 5 * i + 1 : Nat) : Int) := nxt (by omega)
        obtain ⟨b, hb1, _⟩ := blockFrom_ok hw (a + 5 * i + 1) (by omega)
        refine ⟨ps ++ [((i : Int), b)], ?_, rise_snoc hb.1 (by omega) (Int.le_refl _) (by omega), by simp; omega⟩
        simp only [h3, decide_true, cond_true, hmul, hadd2, hadd3, hb1, Option.bind_some]
        rw [app_small _ _ (by simp; omega), Option.bind_some, nxt (by omega)]
      · refine ⟨ps, ?_, rise_mono (by omega) hb.1, by omega⟩
        simp only [h3, decide_false, cond_false]
        rw [nxt (by omega)])
    (fun b hb => by
      have hlt : ¬ (n : Int) < (n : Int) := by omega
      simp only [cl, hlt, decide_false, cond_false]; rfl)
  exact ⟨ps, h6, h5.1, h5.2⟩
theorem blocksFrom_len {l : List Int} (h : Raws l) (at_ n : Nat) (ha : at_ ≤ 1000) (hn : n ≤ 1000) : ∃ bs, m_ref_BlocksFrom l (at_ : Int) (n : Int) = some bs ∧ bs.length = n := by
  unfold m_ref_BlocksFrom
  obtain ⟨bs, h5, h6⟩ := lp_ex (γ := List Blk) (step := fun (s9 : Int × (List Blk)) =>
    bif (cm .lss s9.1 (n : Int)) then
      (m_ref_BlockFrom l (ar .add .i64 (at_ : Int) (ar .mul .i64 (9 : Int) s9.1))).bind fun v16 =>
        (Sw.app s9.2 ([v16] : (List Blk))).bind fun v17 =>
          some (.next ((ar .add .i64 s9.1 (1 : Int)), v17))
    else
      some (.done (.brk s9.2))) (k := fun x14 => some x14) (fun (i : Nat) (b : List Blk) => ((i : Int), b)) id n (fun i b => b.length = i) [] (by unfold FUEL; omega) rfl
    (fun i bs hi hb => by
      have hlt : (i : Int) < (n : Int) := by omega
      have hmul : ar .mul .i64 (9 : Int) (i : Int) = ((9 * i : Nat) : Int) := mul64 (a := 9) (by omega)
      have hadd : ar .add .i64 ((at_ : Nat) : Int) ((9 * i : Nat) : Int) = ((at_ + 9 * i : Nat) : Int) := add64 (by omega)
      obtain ⟨b, hb1, hb2⟩ := blockFrom_ok h (at_ + 9 * i) (by omega)
      refine ⟨bs ++ [b], ?_, by simp [hb]⟩
      simp only [cl, hlt, decide_true, cond_true, hmul, hadd, hb1, Option.bind_some]
      rw [app_small _ _ (by simp; omega), Option.bind_some, nxt (by omega)])
    (fun b hb => by
      have hlt : ¬ (n : Int) < (n : Int) := by omega
      simp only [cl, hlt, decide_false, cond_false]; rfl)
  exact ⟨bs, h6, h5⟩
theorem ownB_is (bs : List Blk) (h : bs.length ≤ 1000000) : m_ref_OwnBlocks bs = some bs := by
  unfold m_ref_OwnBlocks
  rw [app_small _ _ (by simp; omega)]
  rfl
end Go.Pl

namespace Go.Pl
open Go Go.Sw Go.Mo
theorem planErr_zero {peer had : List Blk} (h1 : 1 ≤ peer.length) (h2 : peer.length ≤ 32) (h3 : had.length ≤ 8) (h4 : had.Nodup) : planErr peer had = 0 := by
  unfold planErr hadErr
  rw [if_neg (by omega), if_neg (by omega), if_pos h4]
theorem lately_ok {γ : Type} {raw : List Int} (hw : Raws raw) (a m : Nat) (a3 : Int) (h3 : I64 a3) (ha : a ≤ 1000) (hm : pick a3 9 = (m : Int)) (k : List Blk → Option γ) :
    ∃ h : List Blk, h.length ≤ 8 ∧ h.Nodup ∧ lp (β := (List Blk)) (fun (s20 : Int × (List Blk)) =>
              (m_ref_Pick a3 (9 : Int)).bind fun v29 =>
                bif (cm .lss s20.1 v29) then
                  (m_ref_BlockFrom raw (ar .add .i64 (a : Int) s20.1)).bind fun v31 =>
                    (m_ref_First s20.2 v31).bind fun v32 =>
                      bif (cm .lss v32 (0 : Int)) then
                        (Sw.app s20.2 ([v31] : (List Blk))).bind fun v34 =>
                          some (.next ((ar .add .i64 s20.1 (1 : Int)), v34))
                      else
                        some (.next ((ar .add .i64 s20.1 (1 : Int)), s20.2))
                else
                  some (.done (.brk s20.2))
              ) ((0 : Int), ([] : (List Blk))) k = k h := by
  have hp := pick_lt (c := a3) (n := 9) (by omega)
  have hm8 : m ≤ 8 := by omega
  obtain ⟨h, h5, h6⟩ := lp_ex (γ := γ) (step := fun (s20 : Int × (List Blk)) =>
              (m_ref_Pick a3 (9 : Int)).bind fun v29 =>
                bif (cm .lss s20.1 v29) then
                  (m_ref_BlockFrom raw (ar .add .i64 (a : Int) s20.1)).bind fun v31 =>
                    (m_ref_First s20.2 v31).bind fun v32 =>
                      bif (cm .lss v32 (0 : Int)) then
                        (Sw.app s20.2 ([v31] : (List Blk))).bind fun v34 =>
                          some (.next ((ar .add .i64 s20.1 (1 : Int)), v34))
                      else
                        some (.next ((ar .add .i64 s20.1 (1 : Int)), s20.2))
                else
                  some (.done (.brk s20.2))) (k := k) (fun (i : Nat) (b : List Blk) => ((i : Int), b)) id m (fun i b => b.length ≤ i ∧ b.Nodup) [] (by unfold FUEL; omega) ⟨Nat.le_refl _, by simp⟩
    (fun i bs hi hb => by
      have hlt : (i : Int) < (m : Int) := by omega
      have hadd : ar .add .i64 (a : Int) (i : Int) = ((a + i : Nat) : Int) := add64 (by omega)
      obtain ⟨b, hb1, _⟩ := blockFrom_ok hw (a + i) (by omega)
      simp only [pick_is h3 (show (0 : Int) < 9 by omega), hm, cl, hlt, decide_true, cond_true, hadd, hb1, first_is bs b (by omega), Option.bind_some]
      by_cases hin : b ∈ bs
      · refine ⟨bs, ?_, by omega, hb.2⟩
        have : ¬ ((bs.idxOf b : Nat) : Int) < 0 := by omega
        simp only [hin, if_true, this, decide_false, cond_false]
        rw [nxt (by omega)]
      · refine ⟨bs ++ [b], ?_, by simp; omega, ?_⟩
        · simp only [hin, if_false, show (-1 : Int) < 0 by omega, decide_true, cond_true]
          rw [app_small _ _ (by simp; omega), Option.bind_some, nxt (by omega)]
        · rw [List.nodup_append]; exact ⟨hb.2, by simp, fun x hx y hy => by simp at hy; subst hy; rintro rfl; exact hin hx⟩)
    (fun b hb => by
      have hlt : ¬ (m : Int) < (m : Int) := by omega
      simp only [pick_is h3 (show (0 : Int) < 9 by omega), hm, cl, hlt, decide_false, cond_false, Option.bind_some]; rfl)
  exact ⟨h, by omega, h5.2, h6⟩
theorem lits_is {γ : Type} (l : List Pt) (peer had : List Blk) (z : γ) (hl : l.length ≤ 1000) (hp : peer.length ≤ 1000000) (hh : had.length ≤ 1000000) (k : Unit → Option γ) :
    lp (β := Unit) (fun (s167 : Int) =>
                              bif (cm .lss s167 ((pkts l peer had).length : Int)) then
                                ((Sw.idx (pkts l peer had) s167).bind fun z202 =>
                                  bif (cm .eql z202.2.1 (3 : Int)) then
                                    (Sw.idx (pkts l peer had) s167).bind fun z204 =>
                                      bif (decide (z204.2.2.2 = zblk)) then
                                        some true
                                      else
                                        (Sw.idx (pkts l peer had) s167).bind fun z206 =>
                                          (m_ref_First peer z206.2.2.2).bind fun v207 =>
                                            bif (cm .geq v207 (0 : Int)) then
                                              some true
                                            else
                                              (Sw.idx (pkts l peer had) s167).bind fun z209 =>
                                                (m_ref_First had z209.2.2.2).bind fun v210 =>
                                                  some (cm .geq v210 (0 : Int))
                                  else
                                    some false).bind fun x201 =>
                                  bif x201 then
                                    some (.done (.ret z))
                                  else
                                    some (.next (ar .add .i64 s167 (1 : Int)))
                              else
                                some (.done (.brk ()))
                              ) (0 : Int) k = k () := by
  have hlen := pkts_len l peer had
  have hmem : ∀ q ∈ pkts l peer had, q.2.1 = 3 → q.2.2.2 ≠ zblk ∧ q.2.2.2 ∉ peer ∧ q.2.2.2 ∉ had := by
    intro q hq h3
    unfold pkts at hq
    obtain ⟨p, _, rfl⟩ := List.mem_map.1 hq
    unfold pkt at h3 ⊢
    by_cases hz : p.2 = zblk
    · simp [hz] at h3
    by_cases h4 : p.2 ∈ peer
    · simp [hz, h4] at h3
    by_cases h5 : p.2 ∈ had
    · simp [hz, h4, h5] at h3
    · simp [hz, h4, h5]
  generalize pkts l peer had = ps at hlen hmem
  rw [show (0 : Int) = (fun (i : Nat) => (i : Int)) 0 from rfl]
  rw [lp_any (l := ps) (fun (i : Nat) => (i : Int)) (fun _ => false) z () (by unfold FUEL; omega)]
  · simp
  · intro pre x rest hd
    have hpre : pre.length ≤ 1000 := by rw [hd] at hlen; simp at hlen; omega
    have hx := hmem x (by rw [hd]; simp)
    simp only [lss_len hd, cond_true, idx_len hd, Option.bind_some, ce]
    by_cases h3 : x.2.1 = 3
    · obtain ⟨k1, k2, k3⟩ := hx h3
      simp only [h3, decide_true, cond_true, k1, decide_false, cond_false, first_is _ _ hp, first_is _ _ hh, k2, k3, if_false, Option.bind_some]
      rw [nxt (by omega)]; simp [cge]
    · simp only [h3, decide_false, cond_false, Option.bind_some]
      rw [nxt (by omega)]; simp
  · simp only [lss_self, cond_false]
theorem news_ok {n : Int} {l : List Pt} {peer : List Blk} (hr : rise n (-1) l = true) : ∀ x ∈ news l peer, 0 ≤ x.1 ∧ x.1 < n := by
  intro x hx
  have := rise_mem hr x (List.mem_filter.1 hx).1
  omega
theorem law_TopPlan (a0 : List Int) (a1 a2 a3 : Int) (w0 : Wf (Enc.sl (Enc.int .i64)) a0) (w1 : Wf (Enc.int .i64) a1) (w2 : Wf (Enc.int .i64) a2) (w3 : Wf (Enc.int .i64) a3) : m_top_TopPlan a0 a1 a2 a3 = some true := by
  unfold m_top_TopPlan
  rw [cg]
  by_cases hlong : (a0.length : Int) > 128
  · simp [hlong]
  have hw := wf_raws w0 (by omega)
  have i1 : I64 a1 := wf_i64 w1
  have i2 : I64 a2 := wf_i64 w2
  have i3 : I64 a3 := wf_i64 w3
  have p1 := pick_lt (c := a1) (n := 32) (by omega)
  have p2 := pick_lt (c := a2) (n := 100) (by omega)
  have p3 := pick_lt (c := a3) (n := 9) (by omega)
  obtain ⟨b1, hb1⟩ : ∃ k : Nat, pick a1 32 = (k : Int) := ⟨(pick a1 32).toNat, by omega⟩
  obtain ⟨b2, hb2⟩ : ∃ k : Nat, pick a2 100 = (k : Int) := ⟨(pick a2 100).toNat, by omega⟩
  obtain ⟨b3, hb3⟩ : ∃ k : Nat, pick a3 9 = (k : Int) := ⟨(pick a3 9).toNat, by omega⟩
  have hn : ar .add .i64 (1 : Int) (b1 : Int) = ((b1 + 1 : Nat) : Int) := by rw [addI (by omega)]; omega
  have ha : ar .add .i64 (b2 : Int) (3 : Int) = ((b2 + 3 : Nat) : Int) := by rw [addI (by omega)]; omega
  obtain ⟨peer, hpe, hpl⟩ := blocksFrom_len hw b2 (b1 + 1) (by omega) (by omega)
  obtain ⟨ps, hps, hr, hpsl⟩ := putsFrom_ok hw (b2 + 3) (b1 + 1) (by omega) (by omega)
  simp only [hlong, decide_false, cond_false, pick_is i1 (show (0 : Int) < 32 by omega), hb1, pick_is i2 (show (0 : Int) < 100 by omega), hb2, Option.bind_some, hn, hpe, ha, hps]
  obtain ⟨had, h1, h2, h3⟩ := lately_ok (γ := Bool) hw b2 b3 a3 i3 (by omega) hb3 _
  rw [h3]
  have he : planErr peer had = 0 := planErr_zero (by omega) (by omega) h1 h2
  have hr' : rise (peer.length : Int) (-1) ps = true := by rw [hpl]; exact hr
  have hlen := pkts_len ps peer had
  have hnl := news_len ps peer had
  have hpk : m_plan_Packets ps peer had = some (pkts ps peer had, none) := by
    rw [packets_is ps peer had (by omega) (by omega), he, hr']; rfl
  have hgt : ¬ ((pkts ps peer had).length : Int) > (ps.length : Int) := by omega
  rw [hpk, Option.bind_some]
  simp only [Option.isSome_none, cond_false, cg, hgt, decide_false, Option.bind_some]
  rw [apply_pkts ps peer had (by omega) (by omega) he hr', Option.bind_some]
  have hne : ¬ ((news ps peer).length : Int) ≠ ((pkts ps peer had).length : Int) := by rw [hnl]; simp
  have hz : ¬ (([] : List Int).length : Int) > 0 := by simp
  simp only [Option.isSome_none, cond_false, hz, decide_false, cn, hne, Option.bind_some, ownB_is peer (by omega)]
  rw [saidLoop_is (news ps peer) peer _ _ (by rw [hpl]) (by omega) (by rw [hpl]; exact news_ok hr)]
  rw [putLoop_is ps peer (by omega) (by intro x hx; have := rise_mem hr' x hx; omega)]
  rw [lits_is ps peer had _ (by omega) (by omega) (by omega)]
  rw [setF_news (Int.le_refl _) hr' (fun _ _ => rfl), same_self _ (by rw [setF_len]; omega)]
  rfl
end Go.Pl

namespace Go.Pl
open Go Go.Sw Go.Mo
theorem lp_ex' {α β γ : Type} {step : α → Option (Step α (Ex β γ))} {k : β → Option γ} {r : Option γ} {B : Type} (st : Nat → B → α) (fin : B → β) (n : Nat) (I : Nat → B → Prop) (b0 : B) (hf : n < FUEL) (h0 : I 0 b0)
    (hs : ∀ i b, i < n → I i b → ∃ b', step (st i b) = some (.next (st (i + 1) b')) ∧ I (i + 1) b') (he : ∀ b, I n b → step (st n b) = some (.done (.brk (fin b)))) (hr : ∀ b, I n b → k (fin b) = r) : lp step (st 0 b0) k = r := by
  obtain ⟨b, h1, h2⟩ := lp_ex (k := k) st fin n I b0 hf h0 hs he
  rw [h2, hr b h1]
theorem had_ok {h : List Blk} (h1 : h.length ≤ 8) (h2 : h.Nodup) (l : List Chg) : (hadL h l).length ≤ 8 ∧ (hadL h l).Nodup := by
  unfold hadL
  have : ∀ (z : List (Chg × Nat)) (h : List Blk), h.length ≤ 8 ∧ h.Nodup → (z.foldl (fun acc x => had1 x.1 acc) h).length ≤ 8 ∧ (z.foldl (fun acc x => had1 x.1 acc) h).Nodup := by
    intro z
    induction z with
    | nil => intro h hh; exact hh
    | cons x z ih => intro h hh; rw [List.foldl_cons]; exact ih _ (had1_ok hh)
  exact this _ _ ⟨h1, h2⟩
theorem law_TopHad (a0 : List Int) (a1 a2 a3 : Int) (w0 : Wf (Enc.sl (Enc.int .i64)) a0) (w1 : Wf (Enc.int .i64) a1) (w2 : Wf (Enc.int .i64) a2) (w3 : Wf (Enc.int .i64) a3) : m_top_TopHad a0 a1 a2 a3 = some true := by
  unfold m_top_TopHad
  rw [cg]
  by_cases hlong : (a0.length : Int) > 128
  · simp [hlong]
  have hw := wf_raws w0 (by omega)
  have i1 : I64 a1 := wf_i64 w1
  have i2 : I64 a2 := wf_i64 w2
  have i3 : I64 a3 := wf_i64 w3
  have p1 := pick_lt (c := a1) (n := 32) (by omega)
  have p2 := pick_lt (c := a2) (n := 100) (by omega)
  have p3 := pick_lt (c := a3) (n := 9) (by omega)
  obtain ⟨b1, hb1⟩ : ∃ k : Nat, pick a1 32 = (k : Int) := ⟨(pick a1 32).toNat, by omega⟩
  obtain ⟨b2, hb2⟩ : ∃ k : Nat, pick a2 100 = (k : Int) := ⟨(pick a2 100).toNat, by omega⟩
  obtain ⟨b3, hb3⟩ : ∃ k : Nat, pick a3 9 = (k : Int) := ⟨(pick a3 9).toNat, by omega⟩
  have hn : ar .add .i64 (1 : Int) (b1 : Int) = ((b1 + 1 : Nat) : Int) := by rw [addI (by omega)]; omega
  have hmk : Sw.mk ((b1 + 1 : Nat) : Int) zblk = some (List.replicate (b1 + 1) zblk) := by
    unfold Sw.mk; rw [if_pos (by omega)]; simp
  simp only [hlong, decide_false, cond_false, pick_is i1 (show (0 : Int) < 32 by omega), hb1, pick_is i2 (show (0 : Int) < 100 by omega), hb2, pick_is i3 (show (0 : Int) < 9 by omega), hb3, Option.bind_some, hn, hmk]
  rw [show (([] : List Blk), ([] : List Blk), (0 : Int), List.replicate (b1 + 1) zblk, List.replicate (b1 + 1) zblk) = (fun (i : Nat) (q : List Blk × List Blk) => (q.1, q.1, (i : Int), q.2, q.2)) 0 ([], List.replicate (b1 + 1) zblk) from rfl]
  refine lp_ex' (B := List Blk × List Blk) (fun (i : Nat) (q : List Blk × List Blk) => (q.1, q.1, (i : Int), q.2, q.2)) (fun _ => ()) b3 (fun _ q => q.1.length ≤ 8 ∧ q.1.Nodup ∧ q.2.length = b1 + 1) ([], List.replicate (b1 + 1) zblk) (by unfold FUEL; omega) ⟨by simp, by simp, by simp⟩ ?_ ?_ (fun _ _ => rfl)
  · rintro i ⟨h, o⟩ hi ⟨h1, h2, h3⟩
    simp only at h1 h2 h3
    have hlt : (i : Int) < (b3 : Int) := by omega
    have hmul : ar .mul .i64 (13 : Int) (i : Int) = ((13 * i : Nat) : Int) := mul64 (a := 13) (by omega)
    have hadd : ar .add .i64 (b2 : Int) ((13 * i : Nat) : Int) = ((b2 + 13 * i : Nat) : Int) := add64 (by omega)
    obtain ⟨ps, hps, hr, hpsl⟩ := putsFrom_ok hw (b2 + 13 * i) (b1 + 1) (by omega) (by omega)
    have he : planErr o h = 0 := planErr_zero (by omega) (by omega) h1 h2
    have hr' : rise (o.length : Int) (-1) ps = true := by rw [h3]; exact hr
    have hlen := pkts_len ps o h
    have hnl := news_len ps o h
    have hpk : m_plan_Packets ps o h = some (pkts ps o h, none) := by
      rw [packets_is ps o h (by omega) (by omega), he, hr']; rfl
    have hhad : hadErr h = 0 := by unfold hadErr; rw [if_neg (by omega), if_pos h2]
    have hhd : m_plan_Had h (pkts ps o h) = some (hadL h (pkts ps o h), none) := by rw [had_is _ _ (by omega) (by omega), if_pos hhad]
    obtain ⟨k1, k2⟩ := had_ok h1 h2 (pkts ps o h)
    refine ⟨(hadL h (pkts ps o h), setF o ps), ?_, k1, k2, by rw [setF_len]; exact h3⟩
    have hz : ¬ (([] : List Int).length : Int) > 0 := by simp
    simp only [cl, hlt, decide_true, cond_true, hmul, hadd, hps, hpk, Option.bind_some, Option.isSome_none, cond_false]
    simp only [← cl]
    rw [putLoop_is ps o (by omega) (by intro x hx; have := rise_mem hr' x hx; omega)]
    rw [apply_pkts ps o h (by omega) (by omega) he hr', Option.bind_some]
    simp only [Option.isSome_none, cond_false, cg, hz, decide_false, Option.bind_some]
    rw [saidLoop_is (news ps o) o _ _ (by rw [h3]) (by omega) (by rw [h3]; exact news_ok hr)]
    rw [setF_news (Int.le_refl _) hr' (fun _ _ => rfl)]
    simp only [hhd, Option.bind_some, Option.isSome_none, cond_false, same_self _ (show (hadL h (pkts ps o h)).length ≤ 1000000 by omega), same_self _ (show (setF o ps).length ≤ 1000000 by rw [setF_len]; omega), Bool.not_true]
    rw [nxt (by omega)]
  · rintro ⟨h, o⟩ _
    have hlt : ¬ (b3 : Int) < (b3 : Int) := by omega
    simp only [lss_self, cond_false]
end Go.Pl
