/- The plain law: the model of the law answers true. Conditions: none. -/
import Derived.Test.YteckohdbfkhmdabMoCacheSays
set_option linter.unusedVariables false
set_option linter.unusedSimpArgs false
namespace Go.Pl
open Go Go.Sw

/-- going over a list, with what is carried, till something is done -/
def foldS {A B D : Type} (g : Nat → A → B → Step B D) (fin : B → D) : Nat → B → List A → D
  | _, acc, [] => fin acc
  | i, acc, x :: xs => match g i x acc with
    | .next acc' => foldS g fin (i + 1) acc' xs
    | .done d => d

def stp {α B D : Type} (st : Nat → B → α) (i : Nat) : Step B D → Step α D
  | .next a => .next (st i a)
  | .done d => .done d
def out {β γ : Type} (k : β → Option γ) : Ex β γ → Option γ
  | .brk y => k y
  | .ret z => some z

theorem loop_list {α A B D : Type} {step : α → Option (Step α D)} {l : List A} (st : Nat → B → α) (g : Nat → A → B → Step B D) (fin : B → D)
    (hs : ∀ pre x rest acc, l = pre ++ x :: rest → step (st pre.length acc) = some (stp st (pre.length + 1) (g pre.length x acc)))
    (he : ∀ acc, step (st l.length acc) = some (.done (fin acc))) :
    ∀ (rest pre : List A) (acc : B) (f : Nat), l = pre ++ rest → rest.length < f → loop step f (st pre.length acc) = some (foldS g fin pre.length acc rest)
  | [], pre, acc, f, hl, hf => by
    obtain ⟨f, rfl⟩ : ∃ f', f = f' + 1 := ⟨f - 1, by simp at hf; omega⟩
    have := he acc
    rw [hl, List.append_nil] at this
    simp [loop, this, foldS]
  | x :: rest, pre, acc, f, hl, hf => by
    obtain ⟨f, rfl⟩ : ∃ f', f = f' + 1 := ⟨f - 1, by simp at hf; omega⟩
    have h1 := hs pre x rest acc hl
    simp only [loop, h1, foldS]
    cases hg : g pre.length x acc with
    | done d => rfl
    | next acc' =>
      have ih := loop_list st g fin hs he rest (pre ++ [x]) acc' f (by rw [hl]; simp) (by simp at hf; omega)
      simpa [stp] using ih

theorem lp_list {α A B β γ : Type} {step : α → Option (Step α (Ex β γ))} {l : List A} {k : β → Option γ} (st : Nat → B → α) (acc0 : B) (g : Nat → A → B → Step B (Ex β γ)) (fin : B → Ex β γ) (hf : l.length < FUEL)
    (hs : ∀ pre x rest acc, l = pre ++ x :: rest → step (st pre.length acc) = some (stp st (pre.length + 1) (g pre.length x acc)))
    (he : ∀ acc, step (st l.length acc) = some (.done (fin acc))) :
    lp step (st 0 acc0) k = out k (foldS g fin 0 acc0 l) := by
  have h := loop_list st g fin hs he l [] acc0 FUEL rfl hf
  unfold lp
  simp only [List.length_nil] at h
  rw [h]
  cases foldS g fin 0 acc0 l <;> rfl

theorem idx_app {α : Type} (pre : List α) (x : α) (rest : List α) : Sw.idx (pre ++ x :: rest) (pre.length : Int) = some x := by
  unfold Sw.idx; simp
theorem inc {n m : Nat} (h : n < m) (hm : m ≤ 4611686018427387904) : ar .add .i64 (n : Int) 1 = ((n + 1 : Nat) : Int) := by
  unfold ar; simp only [IntKind.wrap, IntKind.signed, IntKind.bits]; simp; omega
theorem lss_app {α : Type} (pre : List α) (x : α) (rest : List α) : cm .lss (pre.length : Int) ((pre ++ x :: rest).length : Int) = true := by
  unfold cm; simp; omega
theorem lss_self {n : Nat} : cm .lss (n : Int) (n : Int) = false := by unfold cm; simp
end Go.Pl

namespace Go.Pl
open Go Go.Sw

theorem lp_count {α β γ : Type} {step : α → Option (Step α (Ex β γ))} {k : β → Option γ} (st : Nat → α) (n : Nat) (y : β) (hf : n < FUEL) (hs : ∀ i, i < n → step (st i) = some (.next (st (i + 1)))) (he : step (st n) = some (.done (.brk y))) : lp step (st 0) k = k y := by
  have h : ∀ m i, i + m = n → ∀ f, m < f → loop step f (st i) = some (.brk y) := by
    intro m
    induction m with
    | zero =>
      intro i hi f hf
      obtain ⟨f, rfl⟩ : ∃ f', f = f' + 1 := ⟨f - 1, by omega⟩
      simp only [Nat.add_zero] at hi
      subst hi
      simp [loop, he]
    | succ m ih =>
      intro i hi f hf
      obtain ⟨f, rfl⟩ : ∃ f', f = f' + 1 := ⟨f - 1, by omega⟩
      simp only [loop, hs i (by omega)]
      exact ih (i + 1) (by omega) f (by omega)
  unfold lp
  rw [h n 0 (by omega) FUEL hf]

theorem wrap_i64 {n : Int} (h : -9223372036854775808 ≤ n ∧ n ≤ 9223372036854775807) : IntKind.wrap .i64 n = n := wrap_id (k := .i64) (by unfold inK; simp [IntKind.min, IntKind.max, IntKind.signed, IntKind.bits]; omega)
theorem wrap_u8 {n : Int} (h : 0 ≤ n ∧ n ≤ 255) : IntKind.wrap .u8 n = n := wrap_id (k := .u8) (by unfold inK; simp [IntKind.min, IntKind.max, IntKind.signed, IntKind.bits]; omega)
theorem wrap_u32 {n : Int} (h : 0 ≤ n ∧ n ≤ 4294967295) : IntKind.wrap .u32 n = n := wrap_id (k := .u32) (by unfold inK; simp [IntKind.min, IntKind.max, IntKind.signed, IntKind.bits]; omega)
theorem ofInt_nat (w n : Nat) : BitVec.ofInt w (n : Int) = BitVec.ofNat w n := by
  apply BitVec.eq_of_toNat_eq
  simp
theorem xor32 {a b : Nat} (ha : a < 4294967296) (hb : b < 4294967296) : ar .xor .u32 (a : Int) (b : Int) = ((a ^^^ b : Nat) : Int) := by
  have h : a ^^^ b < 2 ^ 32 := Nat.xor_lt_two_pow (by simpa using ha) (by simpa using hb)
  show IntKind.wrap .u32 ((BitVec.ofInt 32 (a : Int) ^^^ BitVec.ofInt 32 (b : Int)).toNat : Int) = _
  simp only [ofInt_nat, BitVec.toNat_xor, BitVec.toNat_ofNat]
  rw [Nat.mod_eq_of_lt (by simpa using ha), Nat.mod_eq_of_lt (by simpa using hb)]
  exact wrap_u32 (by simp at h; omega)
theorem and32 {a : Nat} (ha : a < 4294967296) : ar .and .u32 (a : Int) 1 = ((a % 2 : Nat) : Int) := by
  show IntKind.wrap .u32 ((BitVec.ofInt 32 (a : Int) &&& BitVec.ofInt 32 ((1 : Nat) : Int)).toNat : Int) = _
  simp only [ofInt_nat, BitVec.toNat_and, BitVec.toNat_ofNat]
  rw [Nat.mod_eq_of_lt (a := a) (by simpa using ha), Nat.mod_eq_of_lt (a := 1) (by decide), Nat.and_one_is_mod]
  exact wrap_u32 (by omega)
theorem mul32 {a : Nat} (ha : a < 2) : ar .mul .u32 3988292384 (a : Int) = ((if a = 1 then 3988292384 else 0 : Nat) : Int) := by
  have : a = 0 ∨ a = 1 := by omega
  rcases this with rfl | rfl
  · rfl
  · decide
theorem shr1 {a : Nat} : sh .shr .u32 (a : Int) 1 = ((a / 2 : Nat) : Int) := by
  show Int.fdiv _ _ = _
  have : (2 : Int) ^ min (1 : Int).toNat (IntKind.bits .u32) = 2 := by decide
  rw [this, Int.fdiv_eq_ediv_of_nonneg _ (by omega)]
  omega
theorem not32 {a : Nat} (ha : a < 4294967296) : bnot .u32 (a : Int) = ((4294967295 - a : Nat) : Int) := by
  unfold bnot
  show IntKind.wrap .u32 ((BitVec.allOnes 32 ^^^ BitVec.ofInt 32 (a : Int)).toNat : Int) = _
  simp only [ofInt_nat, BitVec.allOnes_xor, BitVec.toNat_not, BitVec.toNat_ofNat]
  rw [Nat.mod_eq_of_lt (by simpa using ha)]
  exact wrap_u32 (by omega)
theorem tdiv_nat (a b : Nat) : Int.tdiv (a : Int) (b : Int) = ((a / b : Nat) : Int) := rfl
theorem tmod_nat (a b : Nat) : Int.tmod (a : Int) (b : Int) = ((a % b : Nat) : Int) := rfl
theorem quo64 {a b : Nat} (ha : a ≤ 9223372036854775807) : ar .quo .i64 (a : Int) (b : Int) = ((a / b : Nat) : Int) := by
  show IntKind.wrap .i64 _ = _
  rw [tdiv_nat]
  have := Nat.div_le_self a b
  generalize a / b = q at *
  exact wrap_i64 (by omega)
theorem rem64 {a b : Nat} : ar .rem .i64 (a : Int) (b : Int) = ((a % b : Nat) : Int) := rfl
theorem add64 {a b : Nat} (h : a + b ≤ 9223372036854775807) : ar .add .i64 (a : Int) (b : Int) = ((a + b : Nat) : Int) := by
  show IntKind.wrap .i64 _ = _
  rw [← Int.natCast_add]; exact wrap_i64 (by omega)
theorem mul64 {a b : Nat} (h : a * b ≤ 9223372036854775807) : ar .mul .i64 (a : Int) (b : Int) = ((a * b : Nat) : Int) := by
  show IntKind.wrap .i64 _ = _
  rw [← Int.natCast_mul]; exact wrap_i64 (by omega)
theorem nz_ok {n : Int} (h : n ≠ 0) : nz n = some () := by unfold nz; rw [if_neg h]
theorem cm_lss {a b : Nat} : cm .lss (a : Int) (b : Int) = decide (a < b) := by unfold cm; simp
theorem bit_xor (a b i : Nat) : (a ^^^ b) / 2 ^ i % 2 = (a / 2 ^ i + b / 2 ^ i) % 2 := by
  have h := Nat.testBit_xor a b i
  simp only [Nat.testBit_eq_decide_div_mod_eq] at h
  have ha := Nat.mod_two_eq_zero_or_one (a / 2 ^ i)
  have hb := Nat.mod_two_eq_zero_or_one (b / 2 ^ i)
  have hc := Nat.mod_two_eq_zero_or_one ((a ^^^ b) / 2 ^ i)
  rw [Nat.add_mod]
  rcases ha with ha | ha <;> rcases hb with hb | hb <;> rcases hc with hc | hc <;> simp [ha, hb, hc] at h ⊢
theorem xor_half (a b : Nat) : (a ^^^ b) / 2 = a / 2 ^^^ b / 2 := by
  have := Nat.shiftRight_xor_distrib (i := 1) (a := a) (b := b)
  simpa [Nat.shiftRight_eq_div_pow] using this
end Go.Pl

namespace Go.Pl
open Go Go.Sw
/-- bytes -/
def Bytes (l : List Int) : Prop := ∀ x ∈ l, 0 ≤ x ∧ x ≤ 255
def nat (l : List Int) : List Nat := l.map Int.toNat
theorem nat_byte {l : List Int} (h : Bytes l) : ∀ b ∈ nat l, b < 256 := by
  intro b hb
  obtain ⟨x, hx, rfl⟩ := List.mem_map.1 hb
  have := h x hx; omega

/-- as lp_list, with what holds on the way -/
theorem lp_inv {α A B β γ : Type} {step : α → Option (Step α (Ex β γ))} {l : List A} {k : β → Option γ} (st : Nat → B → α) (I : Nat → B → Prop) (acc0 : B) (g : Nat → A → B → B) (fin : B → β) (hf : l.length < FUEL) (h0 : I 0 acc0)
    (hs : ∀ pre x rest acc, l = pre ++ x :: rest → I pre.length acc → step (st pre.length acc) = some (.next (st (pre.length + 1) (g pre.length x acc))) ∧ I (pre.length + 1) (g pre.length x acc))
    (he : ∀ acc, I l.length acc → step (st l.length acc) = some (.done (.brk (fin acc)))) :
    lp step (st 0 acc0) k = k (fin ((l.zipIdx).foldl (fun acc x => g x.2 x.1 acc) acc0)) := by
  have key : ∀ (rest pre : List A) (acc : B) (f : Nat), l = pre ++ rest → I pre.length acc → rest.length < f → loop step f (st pre.length acc) = some (.brk (fin ((rest.zipIdx pre.length).foldl (fun acc x => g x.2 x.1 acc) acc))) := by
    intro rest
    induction rest with
    | nil =>
      intro pre acc f hl hI hf
      obtain ⟨f, rfl⟩ : ∃ f', f = f' + 1 := ⟨f - 1, by simp at hf; omega⟩
      have := he acc (by rw [hl, List.append_nil]; exact hI)
      rw [hl, List.append_nil] at this
      simp [loop, this]
    | cons x rest ih =>
      intro pre acc f hl hI hf
      obtain ⟨f, rfl⟩ : ∃ f', f = f' + 1 := ⟨f - 1, by simp at hf; omega⟩
      obtain ⟨h1, h2⟩ := hs pre x rest acc hl hI
      simp only [loop, h1]
      have := ih (pre ++ [x]) (g pre.length x acc) f (by rw [hl]; simp) (by simpa using h2) (by simp at hf; omega)
      simpa using this
  have h := key l [] acc0 FUEL rfl h0 hf
  unfold lp
  simp only [List.length_nil] at h
  rw [h]
theorem app_small {α : Type} (xs ys : List α) (h : xs.length + ys.length ≤ 4294967296) : Sw.app xs ys = some (xs ++ ys) := by unfold Sw.app; rw [if_pos h]
theorem foldl_zipIdx {A : Type} (w : A → List Int) : ∀ (l : List A) (i : Nat) (acc : List Int), (l.zipIdx i).foldl (fun acc x => acc ++ w x.1) acc = acc ++ l.flatMap w
  | [], _, acc => by simp
  | x :: l, i, acc => by simp [foldl_zipIdx w l]
end Go.Pl

namespace Go.Pl
open Go Go.Sw
/-- it lies somewhere so -/
def Wf {α : Type} (e : Enc α) (x : α) : Prop := ∃ S w cs, e.ok x S w cs
theorem Wf.int {k : IntKind} {n : Int} (h : Wf (Enc.int k) n) : inK k n := by obtain ⟨_, _, _, h⟩ := h; exact h.2
theorem okL_all {α : Type} {e : Enc α} {S w} : ∀ {xs : List α} {cs}, e.okL xs S w cs → ∀ x ∈ xs, Wf e x
  | [], _, _, x, hx => by simp at hx
  | y :: ys, _, ⟨c, d, _, h2, h3⟩, x, hx => by
    rcases List.mem_cons.1 hx with rfl | hx
    · exact ⟨_, _, _, h2⟩
    · exact okL_all h3 x hx
theorem Wf.arr {α : Type} {m : Nat} {e : Enc α} {xs : List α} (h : Wf (Enc.arr m e) xs) : xs.length = m ∧ ∀ x ∈ xs, Wf e x := by
  obtain ⟨_, _, _, h1, h2⟩ := h; exact ⟨h1, okL_all h2⟩
theorem Wf.sl {α : Type} {e : Enc α} {xs : List α} (h : Wf (Enc.sl e) xs) : xs.length ≤ 140737488355328 ∧ ∀ x ∈ xs, Wf e x := by
  obtain ⟨_, _, _, a, cap, _, h2, h3⟩ := h
  refine ⟨h2.2, ?_⟩
  rcases h3 with rfl | ⟨b, off, ds, _, _, _, _, h4⟩
  · intro x hx; simp at hx
  · exact okL_all h4
theorem Wf.pr {α β : Type} {a : Enc α} {b : Enc β} {x : α × β} (h : Wf (Enc.pr a b) x) : Wf a x.1 ∧ Wf b x.2 := by
  obtain ⟨_, _, _, c, d, _, h1, h2⟩ := h; exact ⟨⟨_, _, _, h1⟩, ⟨_, _, _, h2⟩⟩
theorem Wf.one1 {α : Type} {a : Enc α} {x : α} (h : Wf (Enc.one1 a) x) : Wf a x := h
theorem Wf.of_val {α : Type} {e : Enc α} {x : α} {S w v} (h : e.val x S w v) : Wf e x := by obtain ⟨cs, h, _⟩ := h; exact ⟨_, _, _, h⟩
end Go.Pl

namespace Go.Pl
open Go Go.Sw
theorem cl (m n : Int) : cm .lss m n = decide (m < n) := rfl
theorem cg (m n : Int) : cm .gtr m n = decide (m > n) := rfl
theorem cle (m n : Int) : cm .leq m n = decide (m ≤ n) := rfl
theorem cge (m n : Int) : cm .geq m n = decide (m ≥ n) := rfl
theorem ce (m n : Int) : cm .eql m n = decide (m = n) := by show (m == n) = _; by_cases h : m = n <;> simp [h]
theorem cn (m n : Int) : cm .neq m n = decide (m ≠ n) := by show (m != n) = _; by_cases h : m = n <;> simp [h]
theorem addI {m n : Int} (h : -9223372036854775808 ≤ m + n ∧ m + n ≤ 9223372036854775807) : ar .add .i64 m n = m + n := wrap_i64 h
theorem subI {m n : Int} (h : -9223372036854775808 ≤ m - n ∧ m - n ≤ 9223372036854775807) : ar .sub .i64 m n = m - n := wrap_i64 h
theorem nxt {n : Nat} (h : n ≤ 4611686018427387904) : ar .add .i64 (n : Int) 1 = ((n + 1 : Nat) : Int) := by rw [addI (by omega)]; push_cast; rfl
/-- a list gone through, each element looked at: one that is bad ends it -/
theorem lp_any {α A β γ : Type} {step : α → Option (Step α (Ex β γ))} {l : List A} {k : β → Option γ} (st : Nat → α) (bad : A → Bool) (z : γ) (y : β) (hf : l.length < FUEL)
    (hs : ∀ pre x rest, l = pre ++ x :: rest → step (st pre.length) = some (if bad x then .done (.ret z) else .next (st (pre.length + 1)))) (he : step (st l.length) = some (.done (.brk y))) :
    lp step (st 0) k = if l.any bad then some z else k y := by
  have key : ∀ (rest pre : List A) (f : Nat), l = pre ++ rest → rest.length < f → loop step f (st pre.length) = some (if rest.any bad then .ret z else .brk y) := by
    intro rest
    induction rest with
    | nil =>
      intro pre f hl hf
      obtain ⟨f, rfl⟩ : ∃ f', f = f' + 1 := ⟨f - 1, by simp at hf; omega⟩
      rw [List.append_nil] at hl
      rw [← hl]
      simp [loop, he]
    | cons x rest ih =>
      intro pre f hl hf
      obtain ⟨f, rfl⟩ : ∃ f', f = f' + 1 := ⟨f - 1, by simp at hf; omega⟩
      simp only [loop, hs pre x rest hl, List.any_cons]
      by_cases hb : bad x = true
      · simp [hb]
      · have := ih (pre ++ [x]) f (by rw [hl]; simp) (by simp at hf; omega)
        simp only [Bool.not_eq_true] at hb
        simp only [hb, Bool.false_eq_true, if_false, Bool.false_or]
        simpa using this
  have := key l [] FUEL rfl hf
  unfold lp
  simp only [List.length_nil] at this
  rw [this]
  by_cases hb : l.any bad = true
  · simp only [hb, if_true]
  · simp only [Bool.not_eq_true] at hb
    simp only [hb, Bool.false_eq_true, if_false]
theorem lenF {A : Type} {l : List A} {n : Nat} (h : l.length ≤ n) (hn : n ≤ 140737488355328) : l.length < FUEL := by unfold FUEL; omega
/-- the same, with the state told once more -/
theorem lss_len {A : Type} {l pre rest : List A} {x : A} (h : l = pre ++ x :: rest) : cm .lss (pre.length : Int) (l.length : Int) = true := by rw [h]; exact lss_app pre x rest
theorem idx_len {A : Type} {l pre rest : List A} {x : A} (h : l = pre ++ x :: rest) : Sw.idx l (pre.length : Int) = some x := by rw [h]; exact idx_app pre x rest
theorem idx_get {A : Type} {l : List A} {i : Nat} {x : A} (h : l[i]? = some x) : Sw.idx l (i : Int) = some x := by unfold Sw.idx; simp [h]
theorem idx_nat {A : Type} {l : List A} {n : Int} (h0 : 0 ≤ n) (h1 : n < l.length) : ∃ x, Sw.idx l n = some x ∧ l[n.toNat]? = some x := by
  have : n.toNat < l.length := by omega
  exact ⟨l[n.toNat], by unfold Sw.idx; simp [h0, this], by simp [this]⟩
/-- two lists that are the same, element by element -/
theorem same_loop {A : Type} [DecidableEq A] (l : List A) (hl : l.length ≤ 1000000) (k : Unit → Option Bool) :
    lp (β := Unit) (fun (s12 : Int) => bif (cm .lss s12 (l.length : Int)) then (Sw.idx l s12).bind fun z20 => (Sw.idx l s12).bind fun z21 => bif (!decide (z20 = z21)) then some (.done (.ret false)) else some (.next (ar .add .i64 s12 (1 : Int))) else some (.done (.brk ()))) (0 : Int) k = k () := by
  rw [show (0 : Int) = (fun (i : Nat) => (i : Int)) 0 from rfl]
  rw [lp_any (l := l) (fun (i : Nat) => (i : Int)) (fun _ => false) false () (lenF hl (by decide))]
  · simp
  · intro pre x rest h
    simp only [lss_len h, cond_true, idx_len h, Option.bind_some]
    rw [nxt (by rw [h] at hl; simp at hl; omega)]
    simp
  · simp only [lss_self, cond_false]
theorem wf_byte {n : Int} (h : Wf (Enc.int .u8) n) : 0 ≤ n ∧ n ≤ 255 := by
  have := h.int
  unfold inK at this
  simpa [IntKind.min, IntKind.max, IntKind.signed, IntKind.bits] using this
theorem wf_i64 {n : Int} (h : Wf (Enc.int .i64) n) : -9223372036854775808 ≤ n ∧ n ≤ 9223372036854775807 := by
  have := h.int
  unfold inK at this
  simpa [IntKind.min, IntKind.max, IntKind.signed, IntKind.bits] using this
theorem wf_bytes {l : List Int} (h : Wf (Enc.sl (Enc.int .u8)) l) : Bytes l := fun x hx => wf_byte (h.sl.2 x hx)

/-- the first bad one, by its number -/
theorem lp_find {α A β γ : Type} {step : α → Option (Step α (Ex β γ))} {l : List A} {k : β → Option γ} (st : Nat → α) (bad : A → Bool) (z : Nat → γ) (y : β) (hf : l.length < FUEL)
    (hs : ∀ pre x rest, l = pre ++ x :: rest → step (st pre.length) = some (if bad x then .done (.ret (z pre.length)) else .next (st (pre.length + 1)))) (he : step (st l.length) = some (.done (.brk y))) :
    lp step (st 0) k = match l.findIdx? bad with | some j => some (z j) | none => k y := by
  have key : ∀ (rest pre : List A) (f : Nat), l = pre ++ rest → rest.length < f → loop step f (st pre.length) = some (match rest.findIdx? bad with | some j => .ret (z (pre.length + j)) | none => .brk y) := by
    intro rest
    induction rest with
    | nil =>
      intro pre f hl hf
      obtain ⟨f, rfl⟩ : ∃ f', f = f' + 1 := ⟨f - 1, by simp at hf; omega⟩
      rw [List.append_nil] at hl
      rw [← hl]
      simp [loop, he]
    | cons x rest ih =>
      intro pre f hl hf
      obtain ⟨f, rfl⟩ : ∃ f', f = f' + 1 := ⟨f - 1, by simp at hf; omega⟩
      simp only [loop, hs pre x rest hl, List.findIdx?_cons]
      by_cases hb : bad x = true
      · simp [hb]
      · have := ih (pre ++ [x]) f (by rw [hl]; simp) (by simp at hf; omega)
        simp only [Bool.not_eq_true] at hb
        simp only [hb, Bool.false_eq_true, if_false]
        rw [List.length_append, List.length_singleton] at this
        rw [this]
        cases rest.findIdx? bad with
        | none => rfl
        | some j => simp only [Option.map_some]; congr 3; omega
  have := key l [] FUEL rfl hf
  unfold lp
  simp only [List.length_nil, Nat.zero_add] at this
  rw [this]
  cases l.findIdx? bad <;> rfl
theorem any_findIdx {A : Type} (l : List A) (bad : A → Bool) : l.any bad = (l.findIdx? bad).isSome := by
  simp
end Go.Pl

namespace Go.Pl
open Go Go.Sw
/-- going over a list, with what is carried, till something is done -/
def foldG {A B D : Type} (g : B → A → Step B D) (fin : B → D) : B → List A → D
  | acc, [] => fin acc
  | acc, x :: xs => match g acc x with
    | .next acc' => foldG g fin acc' xs
    | .done d => d
theorem lp_walk {α A B β γ : Type} {step : α → Option (Step α (Ex β γ))} {l : List A} {k : β → Option γ} (st : Nat → B → α) (I : List A → B → Prop) (g : B → A → Step B (Ex β γ)) (fin : B → Ex β γ) (acc0 : B) (hf : l.length < FUEL) (h0 : I [] acc0)
    (hs : ∀ pre x rest acc, l = pre ++ x :: rest → I pre acc → step (st pre.length acc) = some (stp st (pre.length + 1) (g acc x)) ∧ ∀ acc', g acc x = .next acc' → I (pre ++ [x]) acc')
    (he : ∀ acc, I l acc → step (st l.length acc) = some (.done (fin acc))) :
    lp step (st 0 acc0) k = out k (foldG g fin acc0 l) := by
  have key : ∀ (rest pre : List A) (acc : B) (f : Nat), l = pre ++ rest → I pre acc → rest.length < f → loop step f (st pre.length acc) = some (foldG g fin acc rest) := by
    intro rest
    induction rest with
    | nil =>
      intro pre acc f hl hI hf
      obtain ⟨f, rfl⟩ : ∃ f', f = f' + 1 := ⟨f - 1, by simp at hf; omega⟩
      rw [List.append_nil] at hl
      subst hl
      simp [loop, he acc hI, foldG]
    | cons x rest ih =>
      intro pre acc f hl hI hf
      obtain ⟨f, rfl⟩ : ∃ f', f = f' + 1 := ⟨f - 1, by simp at hf; omega⟩
      obtain ⟨h1, h2⟩ := hs pre x rest acc hl hI
      simp only [loop, h1, foldG]
      cases hg : g acc x with
      | done d => rfl
      | next acc' =>
        have := ih (pre ++ [x]) acc' f (by rw [hl]; simp) (h2 acc' hg) (by simp at hf; omega)
        simpa [stp] using this
  have h := key l [] acc0 FUEL rfl h0 hf
  unfold lp
  simp only [List.length_nil] at h
  rw [h]
  cases foldG g fin acc0 l <;> rfl
/-- a list gone through to its end -/
theorem lp_go {α A B β γ : Type} {step : α → Option (Step α (Ex β γ))} {l : List A} {k : β → Option γ} (st : Nat → B → α) (I : List A → B → Prop) (fin : B → β) (acc0 : B) (hf : l.length < FUEL) (h0 : I [] acc0)
    (hs : ∀ pre x rest acc, l = pre ++ x :: rest → I pre acc → ∃ acc', step (st pre.length acc) = some (.next (st (pre.length + 1) acc')) ∧ I (pre ++ [x]) acc')
    (he : ∀ acc, I l acc → step (st l.length acc) = some (.done (.brk (fin acc)))) : ∃ acc, I l acc ∧ lp step (st 0 acc0) k = k (fin acc) := by
  have key : ∀ (rest pre : List A) (acc : B) (f : Nat), l = pre ++ rest → I pre acc → rest.length < f → ∃ acc', I l acc' ∧ loop step f (st pre.length acc) = some (.brk (fin acc')) := by
    intro rest
    induction rest with
    | nil =>
      intro pre acc f hl hI hf
      obtain ⟨f, rfl⟩ : ∃ f', f = f' + 1 := ⟨f - 1, by simp at hf; omega⟩
      rw [List.append_nil] at hl
      subst hl
      exact ⟨acc, hI, by simp [loop, he acc hI]⟩
    | cons x rest ih =>
      intro pre acc f hl hI hf
      obtain ⟨f, rfl⟩ : ∃ f', f = f' + 1 := ⟨f - 1, by simp at hf; omega⟩
      obtain ⟨acc', h1, h2⟩ := hs pre x rest acc hl hI
      obtain ⟨a2, h3, h4⟩ := ih (pre ++ [x]) acc' f (by rw [hl]; simp) h2 (by simp at hf; omega)
      exact ⟨a2, h3, by simp only [loop, h1]; simpa using h4⟩
  obtain ⟨acc, h1, h2⟩ := key l [] acc0 FUEL rfl h0 hf
  exact ⟨acc, h1, by unfold lp; simp only [List.length_nil] at h2; rw [h2]⟩
theorem lp_go' {α A B β γ : Type} {step : α → Option (Step α (Ex β γ))} {l : List A} {k : β → Option γ} {r : Option γ} (st : Nat → B → α) (I : List A → B → Prop) (fin : B → β) (acc0 : B) (hf : l.length < FUEL) (h0 : I [] acc0)
    (hs : ∀ pre x rest acc, l = pre ++ x :: rest → I pre acc → ∃ acc', step (st pre.length acc) = some (.next (st (pre.length + 1) acc')) ∧ I (pre ++ [x]) acc')
    (he : ∀ acc, I l acc → step (st l.length acc) = some (.done (.brk (fin acc)))) (hr : ∀ acc, I l acc → k (fin acc) = r) : lp step (st 0 acc0) k = r := by
  obtain ⟨acc, h1, h2⟩ := lp_go (k := k) st I fin acc0 hf h0 hs he
  rw [h2, hr acc h1]
/-- a loop that comes closer each round -/
theorem lp_meas {α β γ : Type} {step : α → Option (Step α (Ex β γ))} {k : β → Option γ} (I : α → Prop) (m : α → Nat) (R : β → Prop) (s0 : α) (hm : m s0 < FUEL) (h0 : I s0)
    (hs : ∀ s, I s → (∃ s', step s = some (.next s') ∧ I s' ∧ m s' < m s) ∨ ∃ y, step s = some (.done (.brk y)) ∧ R y) : ∃ y, R y ∧ lp step s0 k = k y := by
  have key : ∀ (n : Nat) (s : α) (f : Nat), m s ≤ n → n < f → I s → ∃ y, R y ∧ loop step f s = some (.brk y) := by
    intro n
    induction n with
    | zero =>
      intro s f hn hf hI
      obtain ⟨f, rfl⟩ : ∃ f', f = f' + 1 := ⟨f - 1, by omega⟩
      rcases hs s hI with ⟨s', h1, h2, h3⟩ | ⟨y, h1, h2⟩
      · omega
      · exact ⟨y, h2, by simp [loop, h1]⟩
    | succ n ih =>
      intro s f hn hf hI
      obtain ⟨f, rfl⟩ : ∃ f', f = f' + 1 := ⟨f - 1, by omega⟩
      rcases hs s hI with ⟨s', h1, h2, h3⟩ | ⟨y, h1, h2⟩
      · obtain ⟨y, k1, k2⟩ := ih s' f (by omega) (by omega) h2
        exact ⟨y, k1, by simp [loop, h1, k2]⟩
      · exact ⟨y, h2, by simp [loop, h1]⟩
  obtain ⟨y, h1, h2⟩ := key (m s0) s0 FUEL (Nat.le_refl _) hm h0
  exact ⟨y, h1, by unfold lp; rw [h2]⟩
/-- the middle of two numbers -/
theorem mid {i j : Nat} (h : i + j ≤ 4611686018427387904) : IntKind.wrap .i64 (sh .shr .u64 (IntKind.wrap .u64 (ar .add .i64 (i : Int) (j : Int))) (1 : Int)) = (((i + j) / 2 : Nat) : Int) := by
  rw [addI (by omega)]
  have h1 : IntKind.wrap .u64 ((i : Int) + (j : Int)) = (i : Int) + (j : Int) := wrap_id (k := .u64) (by unfold inK; simp [IntKind.min, IntKind.max, IntKind.signed, IntKind.bits]; omega)
  rw [h1]
  have h2 : sh .shr .u64 ((i : Int) + (j : Int)) 1 = (((i + j) / 2 : Nat) : Int) := by
    show Int.fdiv _ _ = _
    have : (2 : Int) ^ min (1 : Int).toNat (IntKind.bits .u64) = 2 := by decide
    rw [this, Int.fdiv_eq_ediv_of_nonneg _ (by omega)]
    omega
  rw [h2]
  exact wrap_i64 (by omega)
theorem bin (c : Bool) {γ : Type} (x y : Option γ) : (bif c then x else y) = if c = true then x else y := by cases c <;> rfl
end Go.Pl

namespace Go.Pl
open Go Go.Sw Go.Mo

theorem first_is (l : List Blk) (b : Blk) (h : l.length ≤ 1000000) : m_ref_First l b = some (if b ∈ l then ((l.idxOf b : Nat) : Int) else -1) := by
  unfold m_ref_First
  rw [show (0 : Int) = ((0 : Nat) : Int) from rfl, lp_list (l := l) (fun i (_ : Unit) => (i : Int)) () (fun i z _ => if z = b then .done (.ret (i : Int)) else .next ()) (fun _ => .brk ()) (by unfold FUEL; omega)]
  · have : ∀ (l : List Blk) (i : Nat), foldS (fun (i : Nat) (z : Blk) (_ : Unit) => (if z = b then Step.done (Ex.ret (i : Int)) else .next () : Step Unit (Ex Unit Int))) (fun _ => .brk ()) i () l = if b ∈ l then .ret ((i + l.idxOf b : Nat) : Int) else .brk () := by
      intro l; induction l with
      | nil => intro i; simp [foldS]
      | cons x l ih =>
        intro i
        simp only [foldS]
        by_cases hx : x = b
        · subst hx; simp
        · have hx' : ¬ b = x := fun h => hx h.symm
          rw [if_neg hx]
          simp only [ih, List.mem_cons, hx', false_or, List.idxOf_cons]
          have : (x == b) = false := by simp [hx]
          rw [this]
          simp only [cond_false]
          split <;> simp <;> omega
    rw [this]
    split <;> simp [out]
  · rintro pre x rest acc rfl
    simp only [lss_app, cond_true, idx_app, Option.bind_some, stp, inc (n := pre.length) (m := 1000000) (by simp at h; omega) (by omega)]
    by_cases hx : x = b <;> simp [hx, stp]
  · intro _; simp [lss_self]

theorem mget_true (pre : List Blk) (z : Blk) : mget (pre.map fun x => (x, true)) z = if z ∈ pre then some true else none := by
  induction pre with
  | nil => simp [mget]
  | cons x pre ih =>
    simp only [List.map_cons, mget, ih, List.mem_cons]
    by_cases hx : x = z
    · simp [hx]
    · have : ¬ z = x := fun h => hx h.symm
      simp [hx, this]
def touch (b : Blk) (l : List Blk) : List Blk := b :: (l.filter (fun z => decide (z ≠ b))).take 7
end Go.Pl

namespace Go.Pl
open Go Go.Sw Go.Mo
abbrev Chg := Int × Int × Int × Blk
def hadErr (h : List Blk) : Int := if h.length > 8 then 2 else if h.Nodup then 0 else 3
def planErr (e h : List Blk) : Int := if e.length < 1 ∨ e.length > 32 then 1 else hadErr h
def opt (n : Int) : Option Int := if n = 0 then none else some n
def badC (n prev : Int) (x : Chg) : Bool := decide (x.1 ≤ prev) || decide (x.1 ≥ n) || decide (x.2.1 < 0) || decide (x.2.1 > 3)
def goes (n : Int) : Int → List Chg → Bool
  | _, [] => true
  | prev, x :: l => !badC n prev x && goes n x.1 l
theorem badC_is (n prev : Int) (x : Chg) {γ : Type} (k : Bool → Option γ) : ((bif (cm .leq x.1 prev) then
                  some true
                else
                  bif (cm .geq x.1 n) then
                    some true
                  else
                    bif (cm .lss x.2.1 (0 : Int)) then
                      some true
                    else
                      some (cm .gtr x.2.1 (3 : Int))).bind k) = k (badC n prev x) := by
  simp only [cle, cge, cl, cg]
  unfold badC
  by_cases h1 : x.1 ≤ prev
  · simp [h1]
  by_cases h2 : x.1 ≥ n
  · simp [h1, h2]
  by_cases h3 : x.2.1 < 0
  · simp [h1, h2, h3]
  simp [h1, h2, h3]
theorem goes_kind {n : Int} : ∀ {l : List Chg} {prev : Int}, goes n prev l = true → ∀ x ∈ l, 0 ≤ x.2.1 ∧ x.2.1 ≤ 3
  | [], _, _, x, hx => by simp at hx
  | y :: l, prev, h, x, hx => by
    simp only [goes, Bool.and_eq_true, Bool.not_eq_true'] at h
    rcases List.mem_cons.1 hx with rfl | hx
    · have := h.1
      unfold badC at this
      simp at this
      omega
    · exact goes_kind h.2 x hx
/-- what the law's first loop comes to -/
def okErr (w n : Int) (l : List Chg) : Int := if w = 0 then (if goes n (-1) l then 0 else 1) else w
theorem scan_is {γ : Type} (l : List Chg) (n w : Int) (hl : l.length ≤ 1000000) (k : Int → Option γ) :
    lp (β := Int) (fun (s40 : Int × Int × Int) =>
          (bif (cm .lss s40.2.2 (l.length : Int)) then
            some (cm .eql s40.1 (0 : Int))
          else
            some false).bind fun x59 =>
            bif x59 then
              (Sw.idx l s40.2.2).bind fun z62 =>
                (bif (cm .leq z62.1 s40.2.1) then
                  some true
                else
                  bif (cm .geq z62.1 n) then
                    some true
                  else
                    bif (cm .lss z62.2.1 (0 : Int)) then
                      some true
                    else
                      some (cm .gtr z62.2.1 (3 : Int))).bind fun x66 =>
                  jp (fun (x72 : Int) =>
                    some (.next (x72, z62.1, (ar .add .i64 s40.2.2 (1 : Int))))
                    ) fun k71 =>
                  bif x66 then
                    k71 (1 : Int)
                  else
                    k71 s40.1
            else
              some (.done (.brk s40.1))
          ) (w, (-1 : Int), (0 : Int)) k = k (okErr w n l) := by
  refine (lp_list (l := l) (fun i (acc : Int × Int) => (acc.1, acc.2, (i : Int))) (w, (-1 : Int)) (fun _ x acc => if acc.1 = 0 then .next (if badC n acc.2 x then 1 else acc.1, x.1) else .done (.brk acc.1)) (fun acc => .brk acc.1) (lenF hl (by decide)) ?_ ?_).trans ?_
  · intro pre x rest acc h
    simp only [lss_len h, cond_true, ce, Option.bind_some]
    by_cases h0 : acc.1 = 0
    · simp only [h0, decide_true, cond_true, idx_len h, Option.bind_some, badC_is, jp, if_true, stp]
      rw [nxt (by rw [h] at hl; simp at hl; omega)]
      by_cases hb : badC n acc.2 x = true
      · simp [hb]
      · simp only [Bool.not_eq_true] at hb
        simp [hb]
    · simp [h0, stp]
  · intro acc
    simp only [lss_self, cond_false, Option.bind_some]
  · have : ∀ (l : List Chg) (i : Nat) (w prev : Int), foldS (fun (_ : Nat) (x : Chg) (acc : Int × Int) => (if acc.1 = 0 then .next (if badC n acc.2 x then 1 else acc.1, x.1) else .done (.brk acc.1) : Step (Int × Int) (Ex Int γ))) (fun acc => .brk acc.1) i (w, prev) l = .brk (if w = 0 then (if goes n prev l then 0 else 1) else w) := by
      intro l
      induction l with
      | nil => intro i w prev; simp only [foldS, goes, if_true]; split <;> simp_all
      | cons x l ih =>
        intro i w prev
        simp only [foldS]
        by_cases h0 : w = 0
        · rw [if_pos h0]
          simp only
          rw [ih]
          by_cases hb : badC n prev x = true
          · simp [hb, h0, goes]
          · simp only [Bool.not_eq_true] at hb
            simp [hb, h0, goes]
        · simp [h0]
    rw [this]
    rfl
theorem scan2_is {γ : Type} (l : List Chg) (n : Int) (z : γ) (hl : l.length ≤ 1000000) (k : Unit → Option γ) :
    lp (β := Unit) (fun (s25 : Int × Int) =>
        bif (cm .lss s25.2 (l.length : Int)) then
          (Sw.idx l s25.2).bind fun z39 =>
            (bif (cm .leq z39.1 s25.1) then
              some true
            else
              bif (cm .geq z39.1 n) then
                some true
              else
                bif (cm .lss z39.2.1 (0 : Int)) then
                  some true
                else
                  some (cm .gtr z39.2.1 (3 : Int))).bind fun x43 =>
              bif x43 then
                some (.done (.ret z))
              else
                some (.next (z39.1, (ar .add .i64 s25.2 (1 : Int))))
        else
          some (.done (.brk ()))
        ) ((-1 : Int), (0 : Int)) k = if goes n (-1) l then k () else some z := by
  refine (lp_list (l := l) (fun i (acc : Int) => (acc, (i : Int))) (-1 : Int) (fun _ x acc => if badC n acc x then .done (.ret z) else .next x.1) (fun _ => .brk ()) (lenF hl (by decide)) ?_ ?_).trans ?_
  · intro pre x rest acc h
    simp only [lss_len h, cond_true, idx_len h, Option.bind_some, badC_is]
    by_cases hb : badC n acc x = true
    · simp [hb, stp]
    · simp only [Bool.not_eq_true] at hb
      rw [nxt (by rw [h] at hl; simp at hl; omega)]
      simp [hb, stp]
  · intro acc
    simp only [lss_self, cond_false]
  · have : ∀ (l : List Chg) (i : Nat) (prev : Int), foldS (fun (_ : Nat) (x : Chg) (acc : Int) => (if badC n acc x then .done (.ret z) else .next x.1 : Step Int (Ex Unit γ))) (fun _ => .brk ()) i prev l = if goes n prev l then .brk () else .ret z := by
      intro l
      induction l with
      | nil => intro i prev; simp [foldS, goes]
      | cons x l ih =>
        intro i prev
        simp only [foldS]
        by_cases hb : badC n prev x = true
        · simp [hb, goes]
        · simp only [Bool.not_eq_true] at hb
          simp [hb, goes, ih]
    rw [this]
    by_cases g : goes n (-1) l = true <;> simp [g, out]
/-! ### what is put, what is asked -/
def saidV (x : Chg) (e h : List Blk) : Blk × Bool :=
  if x.2.1 = 0 then (zblk, true) else if x.2.1 = 3 then (x.2.2.2, true) else
    let l := if x.2.1 = 2 then h else e
    if x.2.2.1 < 0 ∨ x.2.2.1 ≥ l.length then (zblk, false) else (l.getD x.2.2.1.toNat [], true)
theorem pickB_is (l : List Blk) (n : Int) : ((bif (cm .lss n (0 : Int)) then
          some true
        else
          some (cm .geq n (l.length : Int))).bind fun x5 =>
          bif x5 then
            some (zblk, false)
          else
            (Sw.idx l n).bind fun z8 =>
              some (z8, true)) = some (if n < 0 ∨ n ≥ l.length then (zblk, false) else (l.getD n.toNat [], true)) := by
  rw [cl, cge]
  by_cases h1 : n < 0
  · simp [h1]
  by_cases h2 : n ≥ l.length
  · simp [h1, h2]
  have hlt : n.toNat < l.length := by omega
  have : Sw.idx l n = some (l.getD n.toNat []) := by unfold Sw.idx; rw [if_pos (by omega)]; simp [List.getD_eq_getElem?_getD, List.getElem?_eq_getElem hlt]
  simp only [h1, h2, decide_false, cond_false, Option.bind_some, this, or_self, if_false]
def put1 (e h : List Blk) (x : Chg) (acc : List (Int × Blk) × List Int) : List (Int × Blk) × List Int :=
  if (saidV x e h).2 then (acc.1 ++ [(x.1, (saidV x e h).1)], acc.2) else (acc.1, acc.2 ++ [x.1])
def puts (e h : List Blk) (l : List Chg) : List (Int × Blk) × List Int := (l.zipIdx).foldl (fun acc x => put1 e h x.1 acc) ([], [])
theorem put1_len (e h : List Blk) (x : Chg) (acc : List (Int × Blk) × List Int) : (put1 e h x acc).1.length + (put1 e h x acc).2.length = acc.1.length + acc.2.length + 1 := by
  unfold put1; split <;> simp <;> omega
theorem puts_len (e h : List Blk) (l : List Chg) : (puts e h l).1.length + (puts e h l).2.length = l.length := by
  unfold puts
  have : ∀ (z : List (Chg × Nat)) acc, (z.foldl (fun acc x => put1 e h x.1 acc) acc).1.length + (z.foldl (fun acc x => put1 e h x.1 acc) acc).2.length = acc.1.length + acc.2.length + z.length := by
    intro z
    induction z with
    | nil => intro acc; simp
    | cons x z ih => intro acc; rw [List.foldl_cons, ih, put1_len]; simp; omega
  rw [this]; simp
theorem put_step {γ : Type} (e h : List Blk) (x : Chg) (acc : List (Int × Blk) × List Int) (ha : acc.1.length + acc.2.length ≤ 1000000) (k : List (Int × Blk) × List Int → Option γ) (v : Blk × Bool) (hv : v = saidV x e h) :
    (bif v.2 then (Sw.app acc.1 ([(x.1, v.1)] : (List (Int × Blk)))).bind fun v119 => k (v119, acc.2) else (Sw.app acc.2 ([x.1] : (List Int))).bind fun v121 => k (acc.1, v121)) = k (put1 e h x acc) := by
  subst hv
  unfold put1
  rw [app_small _ _ (by simp; omega), app_small _ _ (by simp; omega)]
  by_cases c : (saidV x e h).2 = true
  · simp [c]
  · simp only [Bool.not_eq_true] at c
    simp [c]
def had1 (x : Chg) (acc : List Blk) : List Blk := if x.2.1 = 3 then touch x.2.2.2 acc else acc
def hadL (h : List Blk) (l : List Chg) : List Blk := (l.zipIdx).foldl (fun acc x => had1 x.1 acc) h
theorem touch_ok {b : Blk} {l : List Blk} (h : l.Nodup) : (touch b l).length ≤ 8 ∧ (touch b l).Nodup := by
  unfold touch
  refine ⟨by simp; omega, List.nodup_cons.2 ⟨fun hm => ?_, ?_⟩⟩
  · have := List.mem_of_mem_take hm
    simp at this
  · exact (h.sublist (List.filter_sublist)).sublist (List.take_sublist _ _)
theorem had1_ok {x : Chg} {l : List Blk} (h : l.length ≤ 8 ∧ l.Nodup) : (had1 x l).length ≤ 8 ∧ (had1 x l).Nodup := by
  unfold had1; split
  · exact touch_ok h.2
  · exact h
theorem hadL_len (h : List Blk) (l : List Chg) (hh : h.length ≤ 8 ∧ h.Nodup) : (hadL h l).length ≤ 8 := by
  unfold hadL
  have : ∀ (z : List (Chg × Nat)) (h : List Blk), h.length ≤ 8 ∧ h.Nodup → (z.foldl (fun acc x => had1 x.1 acc) h).length ≤ 8 := by
    intro z
    induction z with
    | nil => intro h hh; exact hh.1
    | cons x z ih => intro h hh; rw [List.foldl_cons]; exact ih _ (had1_ok hh)
  exact this _ _ hh
end Go.Pl

namespace Go.Pl
open Go Go.Sw Go.Mo
/-! ### an index of blocks -/
theorem kp_none {α : Type} [DecidableEq α] {k : α} : ∀ {l : List α}, kp l k = none → k ∉ l
  | [], _ => by simp
  | a :: l, h => by
    simp only [kp] at h
    split at h
    · cases h
    · rename_i ha
      cases hr : kp l k with
      | none => have := kp_none hr; simp only [List.mem_cons, not_or]; exact ⟨fun e => ha e.symm, this⟩
      | some j => rw [hr] at h; cases h
theorem mget_none {α β : Type} [DecidableEq α] {k : α} : ∀ {m : List (α × β)}, k ∉ m.map (·.1) → mget m k = none
  | [], _ => rfl
  | (a, b) :: m, h => by
    simp only [List.map_cons, List.mem_cons, not_or] at h
    simp only [mget, if_neg (fun e => h.1 (Eq.symm e))]
    exact mget_none h.2
theorem mget_append {α β : Type} [DecidableEq α] {k : α} {v : β} {b : α} : ∀ {m : List (α × β)}, k ∉ m.map (·.1) → mget (m ++ [(k, v)]) b = if b = k then some v else mget m b
  | [], _ => by simp only [List.nil_append, mget]; by_cases h : k = b <;> simp [h]; intro e; exact (h e.symm).elim
  | (a, c) :: m, h => by
    simp only [List.map_cons, List.mem_cons, not_or] at h
    simp only [List.cons_append, mget, mget_append h.2]
    by_cases ha : a = b
    · subst ha; rw [if_pos rfl, if_pos rfl, if_neg (fun e => h.1 e.symm)]
    · simp [ha]
theorem mget_mset {α β : Type} [DecidableEq α] {k : α} {v : β} {b : α} : ∀ {m : List (α × β)} {q : Nat}, kp (m.map (·.1)) k = some q → mget (mset m q v) b = if b = k then some v else mget m b
  | [], q, h => by simp [kp] at h
  | (a, c) :: m, q, h => by
    simp only [List.map_cons, kp] at h
    split at h
    · rename_i ha
      cases h; subst ha
      simp only [mset, List.modify_zero_cons, mget]
      by_cases hb : a = b
      · simp [hb]
      · have : ¬ b = a := fun e => hb e.symm
        simp [hb, this]
    · rename_i ha
      cases hr : kp (m.map (·.1)) k with
      | none => rw [hr] at h; cases h
      | some j =>
        rw [hr] at h; cases h
        have := mget_mset (v := v) (b := b) hr
        simp only [mset] at this
        simp only [mset, List.modify_succ_cons, mget, this]
        by_cases hb : a = b
        · subst hb; simp [ha]
        · simp [hb]
theorem ment_is {κ α : Type} [DecidableEq κ] (m : List (κ × List α)) (k : κ) (hm : m.length ≤ 140737488355328) :
    ∃ r, ment m k = some r ∧ r.2.2 = (mget m k).getD [] ∧ (∀ v b, mget (mset r.1 r.2.1 v) b = if b = k then some v else mget m b) ∧ ∀ v, (mset r.1 r.2.1 v).length ≤ m.length + 1 := by
  unfold ment
  rw [if_pos hm]
  cases hk : kp (m.map (·.1)) k with
  | none =>
    have h1 := kp_none hk
    refine ⟨_, rfl, by rw [mget_none h1]; rfl, fun v b => ?_, fun v => ?_⟩
    · have : mset (m ++ [(k, [])]) m.length v = m ++ [(k, v)] := by
        apply List.ext_getElem?; intro i
        simp only [mset, List.getElem?_modify]
        rcases Nat.lt_trichotomy i m.length with h | h | h
        · rw [List.getElem?_append_left h, List.getElem?_append_left h]; have : ¬ m.length = i := by omega
          simp [this]
        · subst h; simp
        · rw [List.getElem?_eq_none (by simp; omega), List.getElem?_eq_none (by simp; omega)]; rfl
      simp only [this]
      exact mget_append h1
    · simp [mset]
  | some q =>
    refine ⟨_, rfl, ?_, fun v b => mget_mset hk, fun v => by simp [mset]⟩
    rw [mget_kp, hk]; rfl
/-- an index that tells the first places -/
structure IdxOk (l : List Blk) (M : List (Blk × List Int)) : Prop where
  none : ∀ b, b ∉ l → mget M b = Option.none
  some : ∀ b, b ∈ l → ∃ t, mget M b = Option.some (((l.idxOf b : Nat) : Int) :: t) ∧ t.length ≤ l.length
  len : M.length ≤ l.length
theorem clone_is (l : List Blk) (h : l.length ≤ 1000000) : m_slices_Clone_api_Block_api_Block l = some l := by
  unfold m_slices_Clone_api_Block_api_Block
  rw [app_small _ _ (by simp; omega)]; rfl
theorem IdxOk.add {l : List Blk} {M M' : List (Blk × List Int)} {x : Blk} (h : IdxOk l M) (hg : ∀ b, mget M' b = if b = x then Option.some ((mget M x).getD [] ++ [(l.length : Int)]) else mget M b) (hlen : M'.length ≤ M.length + 1) : IdxOk (l ++ [x]) M' := by
  refine ⟨fun b hb => ?_, fun b hb => ?_, by have := h.len; simp; omega⟩
  · simp only [List.mem_append, List.mem_singleton, not_or] at hb
    rw [hg, if_neg hb.2, h.none b hb.1]
  · rw [hg]
    by_cases hbx : b = x
    · subst hbx
      rw [if_pos rfl, List.idxOf_append]
      by_cases hm : b ∈ l
      · obtain ⟨t, h1, h2⟩ := h.some b hm
        rw [h1, if_pos hm]
        exact ⟨t ++ [(l.length : Int)], by simp, by simp; omega⟩
      · rw [h.none b hm, if_neg hm]
        exact ⟨[], by simp, by simp⟩
    · have hm : b ∈ l := by
        rcases List.mem_append.1 hb with h | h
        · exact h
        · exact (hbx (by simpa using h)).elim
      rw [if_neg hbx, List.idxOf_append, if_pos hm]
      obtain ⟨t, h1, h2⟩ := h.some b hm
      exact ⟨t, h1, by simp; omega⟩
theorem cacheNew_is (l : List Blk) (h1 : 1 ≤ l.length) (h2 : l.length ≤ 32) : ∃ M, IdxOk l M ∧ m_cache_New l = some (some (l, M), none) := by
  unfold m_cache_New
  have c1 : cm .lss (l.length : Int) 1 = false := by rw [cl]; simp; omega
  have c2 : cm .gtr (l.length : Int) 32 = false := by rw [cg]; simp; omega
  simp only [c1, cond_false, c2, Option.bind_some, clone_is l (by omega)]
  have e0 : ((0 : Int), ([] : List (Blk × List Int))) = (fun (i : Nat) (acc : List (Blk × List Int)) => ((i : Int), acc)) 0 [] := rfl
  rw [e0]
  obtain ⟨M, h3, h4⟩ := lp_go (l := l) (k := fun x28 => some (some (l, x28), (none : Option Int))) (step := fun (s20 : Int × (List (Blk × (List Int)))) =>
          bif (cm .lss s20.1 (l.length : Int)) then
            (Sw.idx l s20.1).bind fun z30 =>
              (ment s20.2 z30).bind fun v33 =>
                (Sw.app v33.2.2 ([s20.1] : (List Int))).bind fun v34 =>
                  some (.next ((ar .add .i64 s20.1 (1 : Int)), mset v33.1 v33.2.1 v34))
          else
            some (.done (.brk s20.2))) (fun (i : Nat) (acc : List (Blk × List Int)) => ((i : Int), acc)) (fun pre acc => IdxOk pre acc) (fun acc => acc) [] (by unfold FUEL; omega) ⟨fun b _ => rfl, fun b hb => by simp at hb, Nat.le_refl _⟩ (by
      intro pre x rest acc hl hI
      have hpl : pre.length < 32 := by rw [hl] at h2; simp at h2; omega
      obtain ⟨r, k1, k2, k3, k4⟩ := ment_is acc x (by have := hI.len; omega)
      have hz : r.2.2.length + 1 ≤ 4294967296 := by
        rw [k2]
        by_cases hm : x ∈ pre
        · obtain ⟨t, h5, h6⟩ := hI.some x hm; rw [h5]; simp; omega
        · rw [hI.none x hm]; simp
      refine ⟨mset r.1 r.2.1 (r.2.2 ++ [(pre.length : Int)]), ?_, hI.add (fun b => ?_) (k4 _)⟩
      · simp only [lss_len hl, cond_true, idx_len hl, Option.bind_some, k1, app_small _ [(pre.length : Int)] (by simpa using hz)]
        rw [nxt (by omega)]
      · rw [k3, k2]) (by
      intro acc hI
      simp only [lss_self, cond_false])
  exact ⟨M, h3, h4⟩
theorem cacheNew_bad (l : List Blk) (h : l.length < 1 ∨ l.length > 32) : m_cache_New l = some (none, some 1) := by
  unfold m_cache_New
  by_cases h1 : l.length < 1
  · have c1 : cm .lss (l.length : Int) 1 = true := by rw [cl]; simp; omega
    simp [c1]
  · have c1 : cm .lss (l.length : Int) 1 = false := by rw [cl]; simp; omega
    have c2 : cm .gtr (l.length : Int) 32 = true := by rw [cg]; simp; omega
    simp [c1, c2]
theorem index_is (l : List Blk) (b : Blk) (h : l.length ≤ 1000000) : m_slices_Index_api_Block_api_Block l b = some (if b ∈ l then ((l.idxOf b : Nat) : Int) else -1) := by
  rw [← first_is l b h]
  unfold m_slices_Index_api_Block_api_Block m_ref_First
  have : ∀ z : Blk, decide (b = z) = decide (z = b) := fun z => by by_cases h : b = z <;> simp [h]; intro e; exact (h e.symm).elim
  simp only [this]
theorem cacheFind_is (l : List Blk) (b : Blk) (h : l.length ≤ 1000000) : m_cache_Find l b = some (if b ∈ l then (((l.idxOf b : Nat) : Int), true) else (0, false)) := by
  unfold m_cache_Find
  rw [index_is l b h, Option.bind_some]
  by_cases hb : b ∈ l
  · simp only [hb, if_true, cge]; congr 2 <;> simp
  · simp [hb, cge]; decide
/-! ### one packet -/
abbrev Pt := Int × Blk
def pkt (p : Pt) (peer had : List Blk) : Chg :=
  if p.2 = zblk then (p.1, 0, 0, zblk) else if p.2 ∈ peer then (p.1, 1, ((peer.idxOf p.2 : Nat) : Int), zblk) else if p.2 ∈ had then (p.1, 2, ((had.idxOf p.2 : Nat) : Int), zblk) else (p.1, 3, 0, p.2)
def same (p : Pt) (peer : List Blk) : Bool := decide (peer[p.1.toNat]? = some p.2)
def pkts (puts : List Pt) (peer had : List Blk) : List Chg := (puts.filter fun p => !same p peer).map fun p => pkt p peer had
end Go.Pl

namespace Go.Pl
open Go Go.Sw Go.Mo
/-! ### maps as lists -/
theorem mget_mputS {α β : Type} [DecidableEq α] (m : List (α × β)) (k : α) (v : β) (b : α) : mget (mputS m k v) b = if b = k then some v else mget m b := by
  unfold mputS
  cases hk : kp (m.map (·.1)) k with
  | none => exact mget_append (kp_none hk)
  | some q => exact mget_mset hk
theorem keys_mputS {α β : Type} [DecidableEq α] {m : List (α × β)} {k : α} {v : β} (h : (m.map (·.1)).Nodup) : ((mputS m k v).map (·.1)).Nodup := by
  unfold mputS
  cases hk : kp (m.map (·.1)) k with
  | none =>
    have := kp_none hk
    simp only [List.map_append, List.map_cons, List.map_nil]
    rw [List.nodup_append]
    exact ⟨h, by simp, fun a ha b hb => by simp at hb; subst hb; rintro rfl; exact this ha⟩
  | some q => simp only [mset_fst]; exact h
theorem mdel_cons {α β : Type} [DecidableEq α] {a k : α} {c : β} {m : List (α × β)} : mdel ((a, c) :: m) k = if a = k then m else (a, c) :: mdel m k := by
  have e : kp (((a, c) :: m).map (·.1)) k = if a = k then some 0 else (kp (m.map (·.1)) k).map (· + 1) := rfl
  unfold mdel
  rw [e]
  by_cases ha : a = k
  · simp [ha]
  · simp only [ha, if_false]
    cases kp (m.map (·.1)) k <;> simp
theorem mget_mdel {α β : Type} [DecidableEq α] {k b : α} : ∀ {m : List (α × β)}, (m.map (·.1)).Nodup → mget (mdel m k) b = if b = k then none else mget m b
  | [], _ => by simp [mdel, kp, mget]
  | (a, c) :: m, h => by
    simp only [List.map_cons, List.nodup_cons] at h
    rw [mdel_cons]
    by_cases ha : a = k
    · subst ha
      rw [if_pos rfl]
      by_cases hb : b = a
      · subst hb; rw [if_pos rfl]; exact mget_none h.1
      · rw [if_neg hb]; simp only [mget]; rw [if_neg (fun e => hb e.symm)]
    · rw [if_neg ha]
      simp only [mget, mget_mdel h.2]
      by_cases hb : a = b
      · subst hb; simp [ha]
      · simp [hb]
theorem keys_mdel {α β : Type} [DecidableEq α] {m : List (α × β)} {k : α} (h : (m.map (·.1)).Nodup) : ((mdel m k).map (·.1)).Nodup := by
  unfold mdel
  cases hk : kp (m.map (·.1)) k with
  | none => exact h
  | some q => exact h.sublist ((List.eraseIdx_sublist m q).map _)
/-! ### where a block is -/
def cz (l : List Nat) : List Int := l.map fun (i : Nat) => ((i : Nat) : Int)
theorem cz_app (a b : List Nat) : cz (a ++ b) = cz a ++ cz b := by simp [cz]
def plc (l : List Blk) (b : Blk) : List Nat := (List.range l.length).filter fun i => decide (l[i]? = some b)
theorem plc_snoc (l : List Blk) (x b : Blk) : plc (l ++ [x]) b = plc l b ++ (if b = x then [l.length] else []) := by
  unfold plc
  rw [List.length_append, List.length_singleton, List.range_succ, List.filter_append]
  congr 1
  · apply List.filter_congr
    intro i hi
    have := List.mem_range.1 hi
    rw [List.getElem?_append_left this]
  · by_cases h : b = x
    · subst h; simp
    · have : ¬ x = b := fun e => h e.symm
      simp [h, this]
theorem range_split {k n : Nat} (h : k < n) : List.range n = List.range k ++ k :: List.range' (k + 1) (n - k - 1) := by
  rw [List.range_eq_range', List.range_eq_range', ← List.range'_succ]
  have := List.range'_append (s := 0) (m := k) (n := n - k - 1 + 1) (step := 1)
  simp only [Nat.zero_add, Nat.one_mul] at this
  rw [this]; congr 1; omega
def plA (l : List Blk) (k : Nat) (b : Blk) : List Nat := (List.range k).filter fun i => decide (l[i]? = some b)
def plB (l : List Blk) (k : Nat) (b : Blk) : List Nat := (List.range' (k + 1) (l.length - k - 1)).filter fun i => decide (l[i]? = some b)
theorem plA_lt {l : List Blk} {k : Nat} {b : Blk} : ∀ i ∈ plA l k b, i < k := fun i hi => List.mem_range.1 (List.mem_filter.1 hi).1
theorem plB_gt {l : List Blk} {k : Nat} {b : Blk} : ∀ i ∈ plB l k b, k < i ∧ i < l.length := fun i hi => by
  have h := (List.mem_filter.1 hi).1
  rw [List.mem_range'] at h
  obtain ⟨j, hj, rfl⟩ := h
  omega
theorem plc_split {l : List Blk} {k : Nat} (h : k < l.length) (b : Blk) : plc l b = plA l k b ++ ((if l[k]? = some b then [k] else []) ++ plB l k b) := by
  unfold plc plA plB
  rw [range_split h, List.filter_append, List.filter_cons]
  by_cases hb : l[k]? = some b
  · simp [hb]
  · simp [hb]
theorem plA_set {l : List Blk} {k : Nat} {x b : Blk} : plA (l.set k x) k b = plA l k b := by
  unfold plA
  apply List.filter_congr
  intro i hi
  have := List.mem_range.1 hi
  rw [List.getElem?_set_ne (by omega)]
theorem plB_set {l : List Blk} {k : Nat} {x b : Blk} : plB (l.set k x) k b = plB l k b := by
  unfold plB
  rw [List.length_set]
  apply List.filter_congr
  intro i hi
  rw [List.mem_range'] at hi
  obtain ⟨j, hj, rfl⟩ := hi
  rw [List.getElem?_set_ne (by omega)]
theorem plc_set {l : List Blk} {k : Nat} (h : k < l.length) (x b : Blk) : plc (l.set k x) b = plA l k b ++ ((if b = x then [k] else []) ++ plB l k b) := by
  rw [plc_split (by simpa using h), plA_set, plB_set, List.getElem?_set_self h]
  by_cases hb : b = x
  · simp [hb]
  · have : ¬ x = b := fun e => hb e.symm
    simp [hb, this]
theorem plc_len (l : List Blk) (b : Blk) : (plc l b).length ≤ l.length := by
  unfold plc
  have := List.length_filter_le (fun i => decide (l[i]? = some b)) (List.range l.length)
  simpa using this
theorem plc_none {l : List Blk} {b : Blk} (h : b ∉ l) : plc l b = [] := by
  unfold plc
  rw [List.filter_eq_nil_iff]
  intro i _
  simp only [decide_eq_true_eq]
  exact fun e => h (List.mem_of_getElem? e)
theorem plc_some {l : List Blk} {b : Blk} (h : b ∈ l) : ∃ t, plc l b = l.idxOf b :: t := by
  have hlt := List.idxOf_lt_length_of_mem h
  have hg : l[l.idxOf b]? = some b := by rw [List.getElem?_eq_getElem hlt]; simp
  rw [plc_split hlt, if_pos hg]
  have : plA l (l.idxOf b) b = [] := by
    unfold plA
    rw [List.filter_eq_nil_iff]
    intro i hi
    have hi := List.mem_range.1 hi
    simp only [decide_eq_true_eq]
    intro e
    have h1 : i < l.length := by omega
    have h2 : l[i] = b := by rw [List.getElem?_eq_getElem h1] at e; exact Option.some.inj e
    have := List.not_of_lt_findIdx (p := (· == b)) (xs := l) (i := i) hi
    simp [h2] at this
  rw [this]
  exact ⟨_, rfl⟩
/-- the index of these blocks -/
structure Pok (l : List Blk) (M : List (Blk × List Int)) : Prop where
  nd : (M.map (·.1)).Nodup
  at' : ∀ b, mget M b = if plc l b = [] then none else some (cz (plc l b))
theorem Pok.get {l : List Blk} {M : List (Blk × List Int)} (h : Pok l M) (b : Blk) : (mget M b).getD [] = cz (plc l b) := by
  rw [h.at' b]
  by_cases hb : plc l b = []
  · simp [hb, cz]
  · simp [hb]
theorem ment_keys {M : List (Blk × List Int)} {x : Blk} {r : List (Blk × List Int) × Nat × List Int} (h : ment M x = some r) (hn : (M.map (·.1)).Nodup) (v : List Int) : ((mset r.1 r.2.1 v).map (·.1)).Nodup := by
  rw [mset_fst]
  unfold ment at h
  split at h
  · have h := Option.some.inj h
    cases hk : kp (M.map (·.1)) x with
    | none =>
      rw [hk] at h; subst h
      have := kp_none hk
      simp only [List.map_append, List.map_cons, List.map_nil]
      rw [List.nodup_append]
      exact ⟨hn, by simp, fun a ha b hb => by simp at hb; subst hb; rintro rfl; exact this ha⟩
    | some q => rw [hk] at h; subst h; exact hn
  · cases h
theorem cacheNewP_is (l : List Blk) (h1 : 1 ≤ l.length) (h2 : l.length ≤ 32) : ∃ M, Pok l M ∧ m_cache_New l = some (some (l, M), none) := by
  unfold m_cache_New
  have c1 : cm .lss (l.length : Int) 1 = false := by rw [cl]; simp; omega
  have c2 : cm .gtr (l.length : Int) 32 = false := by rw [cg]; simp; omega
  simp only [c1, cond_false, c2, Option.bind_some, clone_is l (by omega)]
  have e0 : ((0 : Int), ([] : List (Blk × List Int))) = (fun (i : Nat) (acc : List (Blk × List Int)) => ((i : Int), acc)) 0 [] := rfl
  rw [e0]
  obtain ⟨M, h3, h4⟩ := lp_go (l := l) (k := fun x28 => some (some (l, x28), (none : Option Int))) (step := fun (s20 : Int × (List (Blk × (List Int)))) =>
          bif (cm .lss s20.1 (l.length : Int)) then
            (Sw.idx l s20.1).bind fun z30 =>
              (ment s20.2 z30).bind fun v33 =>
                (Sw.app v33.2.2 ([s20.1] : (List Int))).bind fun v34 =>
                  some (.next ((ar .add .i64 s20.1 (1 : Int)), mset v33.1 v33.2.1 v34))
          else
            some (.done (.brk s20.2))) (fun (i : Nat) (acc : List (Blk × List Int)) => ((i : Int), acc)) (fun pre acc => Pok pre acc ∧ acc.length ≤ pre.length) (fun acc => acc) [] (by unfold FUEL; omega) ⟨⟨by simp, fun b => rfl⟩, Nat.le_refl _⟩ (by
      rintro pre x rest acc hl ⟨hI, hJ⟩
      have hpl : pre.length < 32 := by rw [hl] at h2; simp at h2; omega
      obtain ⟨r, k1, k2, k3, k4⟩ := ment_is acc x (by omega)
      have hget := hI.get x
      have hz : r.2.2.length + 1 ≤ 4294967296 := by
        rw [k2, hget]
        have := plc_len pre x
        simp [cz]; omega
      refine ⟨mset r.1 r.2.1 (r.2.2 ++ [(pre.length : Int)]), ?_, ⟨ment_keys k1 hI.nd _, fun b => ?_⟩, by have := k4 (r.2.2 ++ [(pre.length : Int)]); simp; omega⟩
      · simp only [lss_len hl, cond_true, idx_len hl, Option.bind_some, k1, app_small _ [(pre.length : Int)] (by simpa using hz)]
        rw [nxt (by omega)]
      · rw [k3, k2, hget, plc_snoc]
        by_cases hb : b = x
        · subst hb; simp [cz]
        · simp [hb, hI.at' b]) (by
      intro acc hI
      simp only [lss_self, cond_false])
  exact ⟨M, h3.1, h4⟩
theorem findP_is {l bl : List Blk} {M : List (Blk × List Int)} (h : Pok l M) (b : Blk) : m_cache_Index_Find_io bl M b = some (if b ∈ l then (((l.idxOf b : Nat) : Int), true, bl, M) else (0, false, bl, M)) := by
  unfold m_cache_Index_Find_io
  rw [mshut_get, h.get b]
  by_cases hb : b ∈ l
  · obtain ⟨t, h1⟩ := plc_some hb
    rw [h1, if_pos hb]
    have : cm .eql ((cz (l.idxOf b :: t)).length : Int) 0 = false := by rw [ce]; simp [cz]; omega
    rw [this]
    simp [Sw.idx, cz]
  · rw [plc_none hb, if_neg hb]
    simp [ce, cz]
end Go.Pl

namespace Go.Pl
open Go Go.Sw Go.Mo
theorem idxFunc_is (l : List Int) (x : Int) (hl : l.length ≤ 1000000) : m_slices_IndexFunc_int_int__cache_Index_Put_1 l x = some (match l.findIdx? (fun e => decide (e = x)) with | some j => (j : Int) | none => -1) := by
  unfold m_slices_IndexFunc_int_int__cache_Index_Put_1
  show lp _ ((fun (i : Nat) => (i : Int)) 0) _ = _
  rw [lp_find (l := l) (fun (i : Nat) => (i : Int)) (fun e => decide (e = x)) (fun j => (j : Int)) () (lenF hl (by decide))]
  · cases l.findIdx? (fun e => decide (e = x)) <;> rfl
  · intro pre y rest h
    have hp : pre.length ≤ 1000000 := by rw [h] at hl; simp at hl; omega
    simp only [lss_len h, cond_true, idx_len h, Option.bind_some, nxt (show pre.length ≤ 4611686018427387904 by omega), m_cache_Index_Put_1, ce, bin]
    by_cases h1 : y = x <;> simp [h1]
  · simp only [lss_self, cond_false]
/-- the one place is taken away -/
theorem del_is (P R : List Int) (x : Int) (hP : ∀ e ∈ P, e ≠ x) (hR : ∀ e ∈ R, e ≠ x) (hl : P.length + R.length + 1 ≤ 1000000) : m_slices_DeleteFunc_int_int__cache_Index_Put_1_io (P ++ x :: R) x = some (P ++ R) := by
  unfold m_slices_DeleteFunc_int_int__cache_Index_Put_1_io
  have hf : (P ++ x :: R).findIdx? (fun e => decide (e = x)) = some P.length := by
    rw [List.findIdx?_eq_some_iff_getElem]
    refine ⟨by simp, by simp, fun j hj => ?_⟩
    rw [List.getElem_append_left hj]
    simpa using hP _ (List.getElem_mem hj)
  rw [idxFunc_is _ _ (by simp; omega), hf]
  simp only [Option.bind_some]
  have hne : ¬ ((P.length : Int) = -1) := by omega
  simp only [ce, hne, decide_false, cond_false]
  rw [nxt (by omega)]
  show lp _ ((fun (t : Nat) (a : Int × List Int) => (a.1, ((P.length + 1 + t : Nat) : Int), a.2)) 0 ((P.length : Int), P ++ x :: R)) _ = _
  refine lp_go' (l := R) (fun (t : Nat) (a : Int × List Int) => (a.1, ((P.length + 1 + t : Nat) : Int), a.2))
    (fun pre a => ∃ y : Int, a.1 = ((P ++ pre).length : Int) ∧ a.2 = P ++ pre ++ y :: R.drop pre.length)
    (fun a => (a.1, a.2)) ((P.length : Int), P ++ x :: R) (by unfold FUEL; omega) ⟨x, by simp, by simp⟩ ?_ ?_ ?_
  · rintro pre z rest ⟨i, xs⟩ h ⟨y, hi, hxs⟩
    simp only at hi hxs
    subst hi hxs
    have hRl : R.length = pre.length + 1 + rest.length := by rw [h]; simp; omega
    have hdr : R.drop pre.length = z :: rest := by rw [h]; simp
    have hdr1 : R.drop (pre ++ [z]).length = rest := by rw [h]; simp
    have hz : z ≠ x := hR z (by rw [h]; simp)
    have hlt : ((P.length + 1 + pre.length : Nat) : Int) < ((P ++ pre ++ y :: R.drop pre.length).length : Int) := by
      simp only [List.length_append, List.length_cons, List.length_drop]; omega
    have hget : Sw.idx (P ++ pre ++ y :: R.drop pre.length) ((P.length + 1 + pre.length : Nat) : Int) = some z := by
      rw [hdr]
      apply idx_get
      rw [List.getElem?_append_right (by rw [List.length_append]; omega)]
      have : P.length + 1 + pre.length - (P ++ pre).length = 1 := by rw [List.length_append]; omega
      rw [this]; rfl
    have hget2 : Sw.idx (P ++ pre ++ y :: R.drop pre.length) ((P ++ pre).length : Int) = some y := idx_app (P ++ pre) y _
    simp only [cl, hlt, decide_true, cond_true, hget, Option.bind_some, m_cache_Index_Put_1, ce, hz, decide_false, Bool.not_false, hget2]
    rw [nxt (by simp; omega), nxt (by omega)]
    refine ⟨(((P ++ (pre ++ [z])).length : Int), P ++ pre ++ z :: R.drop pre.length), ?_, z, rfl, ?_⟩
    · have e1 : (((P ++ pre).length + 1 : Nat) : Int) = ((P ++ (pre ++ [z])).length : Int) := by simp only [List.length_append, List.length_cons, List.length_nil]; omega
      have e2 : (((P.length + 1 + pre.length) + 1 : Nat) : Int) = ((P.length + 1 + (pre.length + 1) : Nat) : Int) := by omega
      have e3 : List.set (P ++ pre ++ y :: R.drop pre.length) (Int.toNat ((P ++ pre).length : Int)) z = P ++ pre ++ z :: R.drop pre.length := by
        rw [Int.toNat_natCast, List.set_append_right _ _ (Nat.le_refl _), Nat.sub_self]; rfl
      simp only [cond_true, e1, e2, e3]
    · simp only; rw [hdr, hdr1]; simp
  · rintro ⟨i, xs⟩ ⟨y, hi, hxs⟩
    simp only at hi hxs
    subst hi hxs
    have hlt : ¬ ((P.length + 1 + R.length : Nat) : Int) < ((P ++ R ++ y :: R.drop R.length).length : Int) := by
      simp only [List.length_append, List.length_cons, List.length_drop]; omega
    simp only [cl, hlt, decide_false, cond_false]
  · rintro ⟨i, xs⟩ ⟨y, hi, hxs⟩
    simp only at hi hxs
    subst hi hxs
    have hsub : ∀ zs : List Int, (P ++ R).length ≤ zs.length → zs.length ≤ 2000000 → Sw.sub zs ((P ++ R).length : Int) (zs.length : Int) = some (zs.drop (P ++ R).length) ∧ Sw.sub zs 0 ((P ++ R).length : Int) = some (zs.take (P ++ R).length) := by
      intro zs h1 h2
      unfold Sw.sub
      constructor
      · rw [if_pos (by omega), Int.toNat_natCast, Int.toNat_natCast, List.take_length]
      · rw [if_pos (by omega), Int.toNat_natCast]; rfl
    have hlen : (P ++ R ++ y :: R.drop R.length).length = (P ++ R).length + 1 := by simp; omega
    simp only
    rw [(hsub _ (by omega) (by simp; omega)).1, Option.bind_some, Int.toNat_natCast]
    have htk : List.take (P ++ R).length (P ++ R ++ y :: R.drop R.length) = P ++ R := List.take_left
    rw [htk, hlen]
    have e1 : (P ++ R).length + 1 - (P ++ R).length = 1 := by omega
    rw [e1, (hsub (P ++ R ++ List.replicate 1 0) (by simp) (by simp; omega)).2, Option.bind_some, List.take_left]
theorem less_is (a b : Int) : m_cmp_Less_int a b = some (decide (a < b)) := by
  unfold m_cmp_Less_int m_cmp_isNaN_int
  simp [cn, cl]
/-- where the place is found -/
theorem bsearchI_is (L1 L2 : List Int) (a : Int) (h1 : ∀ x ∈ L1, x < a) (h2 : ∀ x ∈ L2, a ≤ x) (hl : (L1 ++ L2).length ≤ 1000000) : ∃ f, m_slices_BinarySearch_int_int (L1 ++ L2) a = some ((L1.length : Int), f) := by
  obtain ⟨l, hll⟩ : ∃ l, l = L1 ++ L2 := ⟨_, rfl⟩
  rw [← hll] at hl ⊢
  unfold m_slices_BinarySearch_int_int
  have hlen : l.length = L1.length + L2.length := by rw [hll, List.length_append]
  obtain ⟨y, rfl, hlp⟩ := lp_meas (k := fun (x17 : Int) =>
  (bif (cm .lss x17 (l.length : Int)) then
    (Sw.idx l x17).bind fun z31 =>
      bif (cm .eql z31 a) then
        some true
      else
        (Sw.idx l x17).bind fun z33 =>
          (m_slices_isNaN_int z33).bind fun v34 =>
            bif v34 then
              (m_slices_isNaN_int a).bind fun v36 =>
                some v36
            else
              some false
  else
    some false).bind fun x29 =>
    some (x17, x29)) (step := fun (s11 : Int × Int) =>
    bif (cm .lss s11.1 s11.2) then
      (Sw.idx l (IntKind.wrap .i64 (sh .shr .u64 (IntKind.wrap .u64 (ar .add .i64 s11.1 s11.2)) (1 : Int)))).bind fun z19 =>
        (m_cmp_Less_int z19 a).bind fun v20 =>
          bif v20 then
            some (.next ((ar .add .i64 (IntKind.wrap .i64 (sh .shr .u64 (IntKind.wrap .u64 (ar .add .i64 s11.1 s11.2)) (1 : Int))) (1 : Int)), s11.2))
          else
            some (.next (s11.1, (IntKind.wrap .i64 (sh .shr .u64 (IntKind.wrap .u64 (ar .add .i64 s11.1 s11.2)) (1 : Int)))))
    else
      some (.done (.brk s11.1))) (fun s => ∃ i j : Nat, s = ((i : Int), (j : Int)) ∧ i ≤ L1.length ∧ L1.length ≤ j ∧ j ≤ l.length) (fun s => (s.2 - s.1).toNat) (fun y => y = (L1.length : Int)) ((0 : Int), (l.length : Int)) (by unfold FUEL; simp; omega) ⟨0, l.length, rfl, by omega, by omega, by omega⟩ (by
      rintro s ⟨i, j, rfl, hi, hj, hjl⟩
      simp only [cl, bin, decide_eq_true_eq]
      by_cases hij : i < j
      · left
        have hij' : (i : Int) < (j : Int) := by omega
        rw [if_pos hij', mid (by omega)]
        obtain ⟨h, hh⟩ : ∃ h, h = (i + j) / 2 := ⟨_, rfl⟩
        rw [← hh]
        have hhj : h < j := by omega
        have hih : i ≤ h := by omega
        obtain ⟨x, hx1, hx2⟩ := idx_nat (l := l) (n := (h : Int)) (by omega) (by omega)
        simp only [Int.toNat_natCast] at hx2
        simp only [hx1, Option.bind_some, less_is, decide_eq_true_eq]
        rw [hll] at hx2
        by_cases hx : x < a
        · rw [if_pos hx]
          have hk : h < L1.length := by
            rcases Nat.lt_or_ge h L1.length with hk | hk
            · exact hk
            · rw [List.getElem?_append_right hk] at hx2
              have := h2 x (List.mem_of_getElem? hx2); omega
          refine ⟨_, rfl, ⟨h + 1, j, ?_, by omega, hj, hjl⟩, ?_⟩
          · rw [nxt (by omega)]
          · simp only [nxt (show h ≤ 4611686018427387904 by omega)]; omega
        · rw [if_neg hx]
          have hk : L1.length ≤ h := by
            rcases Nat.lt_or_ge h L1.length with hk | hk
            · rw [List.getElem?_append_left hk] at hx2
              have := h1 x (List.mem_of_getElem? hx2); omega
            · exact hk
          exact ⟨_, rfl, ⟨i, h, rfl, hi, hk, by omega⟩, by simp only; omega⟩
      · right
        have hij' : ¬ ((i : Int) < (j : Int)) := by omega
        rw [if_neg hij']
        exact ⟨_, rfl, by omega⟩)
  rw [hlp]
  by_cases hb : (L1.length : Int) < (l.length : Int)
  · obtain ⟨x, hx1, _⟩ := idx_nat (l := l) (n := (L1.length : Int)) (by omega) hb
    simp only [cl, hb, decide_true, cond_true, hx1, Option.bind_some, m_slices_isNaN_int, cn, ce]
    by_cases hxa : x = a
    · exact ⟨true, by simp [hxa]⟩
    · exact ⟨false, by simp [hxa]⟩
  · exact ⟨false, by simp [cl, hb]⟩
end Go.Pl

namespace Go.Pl
open Go Go.Sw Go.Mo
theorem cz_len (l : List Nat) : (cz l).length = l.length := by simp [cz]
theorem putP_is {l : List Blk} {M : List (Blk × List Int)} (h : Pok l M) (k : Nat) (hk : k < l.length) (hl : l.length ≤ 1000) (b : Blk) : ∃ M', Pok (l.set k b) M' ∧ m_cache_Index_Put_io l M (k : Int) b = some (none, l.set k b, M') := by
  obtain ⟨old, hold, hold'⟩ := idx_nat (l := l) (n := (k : Int)) (by omega) (by omega)
  simp only [Int.toNat_natCast] at hold'
  have c1 : cm .lss (k : Int) 0 = false := by rw [cl]; simp
  have c2 : cm .geq (k : Int) (l.length : Int) = false := by rw [cge]; simp; omega
  have hA : ∀ b', ∀ i ∈ cz (plA l k b'), i < (k : Int) := by
    intro b' i hi
    obtain ⟨q, hq, rfl⟩ := List.mem_map.1 hi
    have := plA_lt q hq; omega
  have hB : ∀ b', ∀ i ∈ cz (plB l k b'), (k : Int) < i := by
    intro b' i hi
    obtain ⟨q, hq, rfl⟩ := List.mem_map.1 hi
    have := (plB_gt q hq).1; omega
  have hAB : ∀ b', (cz (plA l k b')).length + (cz (plB l k b')).length ≤ l.length := by
    intro b'
    have := plc_len l b'
    rw [plc_split hk] at this
    simp only [cz_len]; simp at this; omega
  have hsp : plc l old = plA l k old ++ k :: plB l k old := by rw [plc_split hk, if_pos hold']; rfl
  have hoth : ∀ b', b' ≠ old → plc l b' = plA l k b' ++ plB l k b' := by
    intro b' hb'
    rw [plc_split hk, if_neg (by rw [hold']; simpa using fun e => hb' e.symm)]; rfl
  have hz1 : (mget M old).getD [] = cz (plA l k old) ++ (k : Int) :: cz (plB l k old) := by rw [h.get, hsp, cz_app]; rfl
  have hdel := del_is (cz (plA l k old)) (cz (plB l k old)) (k : Int) (fun e he => by have := hA old e he; omega) (fun e he => by have := hB old e he; omega) (by have := hAB old; omega)
  unfold m_cache_Index_Put_io
  simp only [c1, c2, cond_false, Option.bind_some, hold, hz1, hdel, mshut_get]
  -- the map without the place
  obtain ⟨ys, hys⟩ : ∃ ys, ys = cz (plA l k old) ++ cz (plB l k old) := ⟨_, rfl⟩
  rw [← hys]
  have key : ∀ M2 : List (Blk × List Int), (M2.map (·.1)).Nodup → (∀ b', mget M2 b' = if plA l k b' ++ plB l k b' = [] then none else some (cz (plA l k b' ++ plB l k b'))) → ∃ M', Pok (l.set k b) M' ∧
      ((m_slices_BinarySearch_int_int ((mget M2 b).getD []) (k : Int)).bind fun v12 =>
              (m_slices_Insert_int_int ((mget M2 b).getD []) v12.1 ([(k : Int)] : (List Int))).bind fun v14 =>
                  some ((none : Option Int), (List.set l (Int.toNat (k : Int)) b), mputS M2 b v14)) = some (none, l.set k b, M') := by
    intro M2 hn hg
    have hget : (mget M2 b).getD [] = cz (plA l k b) ++ cz (plB l k b) := by
      rw [hg b]
      by_cases he : plA l k b ++ plB l k b = []
      · rw [if_pos he, ← cz_app, he]; rfl
      · rw [if_neg he, ← cz_app]; rfl
    obtain ⟨f, hf⟩ := bsearchI_is (cz (plA l k b)) (cz (plB l k b)) (k : Int) (fun x hx => hA b x hx) (fun x hx => by have := hB b x hx; omega) (by rw [List.length_append]; have := hAB b; omega)
    have hins : m_slices_Insert_int_int (cz (plA l k b) ++ cz (plB l k b)) ((cz (plA l k b)).length : Int) [(k : Int)] = some (cz (plA l k b) ++ ((k : Int) :: cz (plB l k b))) := by
      unfold m_slices_Insert_int_int Sw.ins
      rw [if_pos (by have := hAB b; simp only [List.length_append, List.length_singleton]; omega), Int.toNat_natCast, List.take_left, List.drop_left]; rfl
    refine ⟨mputS M2 b (cz (plA l k b) ++ ((k : Int) :: cz (plB l k b))), ⟨keys_mputS hn, fun b' => ?_⟩, ?_⟩
    · rw [mget_mputS, plc_set hk]
      by_cases hb' : b' = b
      · subst hb'
        rw [if_pos rfl, if_pos rfl, if_neg (by simp), cz_app]; rfl
      · rw [if_neg hb', if_neg hb', hg b']; rfl
    · rw [hget, hf, Option.bind_some, hins, Option.bind_some, Int.toNat_natCast]
  by_cases hy : ys = []
  · have e1 : cm .eql (((mget (mputS M old ys) old).getD []).length : Int) 0 = true := by rw [ce, mget_mputS, if_pos rfl, hy]; rfl
    simp only [e1, cond_true, jp]
    refine key _ (keys_mdel (keys_mputS h.nd)) fun b' => ?_
    rw [mget_mdel (keys_mputS h.nd), mget_mputS]
    by_cases hb' : b' = old
    · subst hb'
      rw [if_pos rfl, if_pos]
      rw [hys, ← cz_app] at hy
      simpa [cz] using hy
    · rw [if_neg hb', if_neg hb', h.at' b', hoth b' hb']
  · have e1 : cm .eql (((mget (mputS M old ys) old).getD []).length : Int) 0 = false := by
      rw [ce, mget_mputS, if_pos rfl]
      have : ys.length ≠ 0 := fun e => hy (List.eq_nil_of_length_eq_zero e)
      simp; exact hy
    simp only [e1, cond_false, jp]
    refine key _ (keys_mputS h.nd) fun b' => ?_
    rw [mget_mputS]
    by_cases hb' : b' = old
    · subst hb'
      rw [if_pos rfl, if_neg, hys, cz_app]
      rw [hys, ← cz_app] at hy
      simpa [cz] using hy
    · rw [if_neg hb', h.at' b', hoth b' hb']
theorem put_bad (l : List Blk) (M : List (Blk × List Int)) (a : Int) (b : Blk) (h : a < 0 ∨ a ≥ l.length) : m_cache_Index_Put_io l M a b = some (some 1, l, M) := by
  unfold m_cache_Index_Put_io
  by_cases h1 : a < 0
  · simp [cl, h1]
  · have h2 : a ≥ l.length := by omega
    simp [cl, cge, h1, h2]
/-- all are asked for -/
theorem asks_is {δ : Type} (l : List Blk) (M : List (Blk × List Int)) (a2 : Blk) (z : δ) (h : Pok l M) (hl : l.length ≤ 1000) (k : List Blk × List (Blk × List Int) → Option δ) :
    lp (β := (List Blk) × (List (Blk × (List Int)))) (fun (s775 : Int × (List Blk) × (List (Blk × (List Int)))) =>
                                  bif (cm .leq s775.1 (l.length : Int)) then
                                    jp (fun (x802 : Blk) =>
                                      (m_cache_Index_Find_io s775.2.1 s775.2.2 x802).bind fun v804 =>
                                        (m_ref_First l x802).bind fun v805 =>
                                          (bif (!(v804.2.1 == (cm .geq v805 (0 : Int)))) then
                                            some true
                                          else
                                            bif v804.2.1 then
                                              bif (cm .neq v804.1 v805) then
                                                some true
                                              else
                                                bif (!v804.2.1) then
                                                  some (cm .neq v804.1 (0 : Int))
                                                else
                                                  some false
                                            else
                                              bif (!v804.2.1) then
                                                some (cm .neq v804.1 (0 : Int))
                                              else
                                                some false).bind fun x811 =>
                                            bif x811 then
                                              some (.done (.ret z))
                                            else
                                              some (.next ((ar .add .i64 s775.1 (1 : Int)), v804.2.2.1, v804.2.2.2))
                                      ) fun k801 =>
                                    bif (cm .lss s775.1 (l.length : Int)) then
                                      (Sw.idx l s775.1).bind fun z803 =>
                                        k801 z803
                                    else
                                      k801 a2
                                  else
                                    some (.done (.brk (s775.2.1, s775.2.2)))
                                  ) ((0 : Int), l, M) k = k (l, M) := by
  have hask : ∀ x : Blk, ∃ v v5, m_cache_Index_Find_io l M x = some v ∧ v.2.2 = (l, M) ∧ m_ref_First l x = some v5 ∧ v.2.1 = cm .geq v5 0 ∧ (v.2.1 = true → v.1 = v5) ∧ (v.2.1 = false → v.1 = 0) := by
    intro x
    rw [findP_is h, first_is l x (by omega)]
    by_cases hx : x ∈ l
    · refine ⟨(((l.idxOf x : Nat) : Int), true, l, M), ((l.idxOf x : Nat) : Int), by rw [if_pos hx], rfl, by rw [if_pos hx], ?_, fun _ => rfl, fun e => by cases e⟩
      rw [cge]; simp
    · refine ⟨((0 : Int), false, l, M), (-1 : Int), by rw [if_neg hx], rfl, by rw [if_neg hx], ?_, (fun e => by cases e), fun _ => rfl⟩
      rw [cge]; simp
  refine (lp_go' (l := List.range (l.length + 1)) (r := k (l, M)) (fun (i : Nat) (_ : Unit) => ((i : Int), l, M)) (fun _ _ => True) (fun _ => (l, M)) () (by unfold FUEL; simp; omega) trivial ?_ ?_ (fun _ _ => rfl))
  · rintro pre x rest acc hd -
    have hpl : pre.length ≤ l.length := by
      have := congrArg List.length hd
      simp at this; omega
    refine ⟨(), ?_, trivial⟩
    have h1 : (pre.length : Int) ≤ (l.length : Int) := by omega
    have hone : ∀ x : Blk, ((m_cache_Index_Find_io l M x).bind fun v804 =>
                                        (m_ref_First l x).bind fun v805 =>
                                          (bif (!(v804.2.1 == (cm .geq v805 (0 : Int)))) then
                                            some true
                                          else
                                            bif v804.2.1 then
                                              bif (cm .neq v804.1 v805) then
                                                some true
                                              else
                                                bif (!v804.2.1) then
                                                  some (cm .neq v804.1 (0 : Int))
                                                else
                                                  some false
                                            else
                                              bif (!v804.2.1) then
                                                some (cm .neq v804.1 (0 : Int))
                                              else
                                                some false).bind fun x811 =>
                                            bif x811 then
                                              some (Step.done (Ex.ret z) : Step (Int × List Blk × List (Blk × List Int)) (Ex (List Blk × List (Blk × List Int)) δ))
                                            else
                                              some (.next ((ar .add .i64 (pre.length : Int) (1 : Int)), v804.2.2.1, v804.2.2.2))) = some (.next (((pre.length + 1 : Nat) : Int), l, M)) := by
      intro x
      obtain ⟨v, v5, k1, k2, k3, k4, k5, k6⟩ := hask x
      rw [k1, Option.bind_some, k3, Option.bind_some, ← k4, k2]
      rw [nxt (by omega)]
      cases hv : v.2.1 with
      | true => rw [k5 hv]; simp [cn]
      | false => rw [k6 hv]; simp [cn]
    simp only [cle, h1, decide_true, cond_true, jp, hone]
    by_cases h2 : (pre.length : Int) < (l.length : Int)
    · obtain ⟨y, hy, _⟩ := idx_nat (l := l) (n := (pre.length : Int)) (by omega) h2
      simp only [cl, h2, decide_true, cond_true, hy, Option.bind_some]
    · simp only [cl, h2, decide_false, cond_false]
  · rintro acc -
    have h1 : ¬ (((List.range (l.length + 1)).length : Nat) : Int) ≤ (l.length : Int) := by simp; omega
    simp only [cle, h1, decide_false, cond_false]
end Go.Pl

namespace Go.Pl
open Go Go.Sw Go.Mo
theorem jp_at {β γ : Type} (f : β → Option γ) (g : (β → Option γ) → Option γ) : jp f g = g f := rfl
theorem lp_of_ret {α β γ : Type} {step : α → Option (Step α (Ex β γ))} {k : β → Option γ} {s : α} {z : γ} (h : loop step FUEL s = some (.ret z)) : lp step s k = some z := by unfold lp; rw [h]
theorem law_CacheSays (l : List Blk) (puts : List (Int × Blk)) (b : Blk) : m_law_CacheSays l puts b = some true := by
  unfold m_law_CacheSays
  by_cases h1 : l.length > 100
  · have : (l.length : Int) > 100 := by omega
    simp [cg, this]
  by_cases h2 : puts.length > 200
  · have : (puts.length : Int) > 200 := by omega
    simp [cg, this]
  have d1 : ¬ (l.length : Int) > 100 := by omega
  have d2 : ¬ (puts.length : Int) > 200 := by omega
  simp only [cg, d1, d2, decide_false, cond_false, Option.bind_some]
  rw [cacheFind_is l b (by omega), Option.bind_some, first_is l b (by omega), Option.bind_some]
  have c0 : (bif !((if b ∈ l then (((l.idxOf b : Nat) : Int), true) else (0, false)).2 == cm .geq (if b ∈ l then ((l.idxOf b : Nat) : Int) else -1) 0) then some true else
      bif (if b ∈ l then (((l.idxOf b : Nat) : Int), true) else (0, false)).2 then
        bif cm .neq (if b ∈ l then (((l.idxOf b : Nat) : Int), true) else (0, false)).1 (if b ∈ l then ((l.idxOf b : Nat) : Int) else -1) then some true else
          bif !(if b ∈ l then (((l.idxOf b : Nat) : Int), true) else (0, false)).2 then some (cm .neq (if b ∈ l then (((l.idxOf b : Nat) : Int), true) else (0, false)).1 0) else some false
      else bif !(if b ∈ l then (((l.idxOf b : Nat) : Int), true) else (0, false)).2 then some (cm .neq (if b ∈ l then (((l.idxOf b : Nat) : Int), true) else (0, false)).1 0) else some false) = some false := by
    by_cases hb : b ∈ l
    · simp [hb, cge, cn]
    · simp [hb, cge, cn]
  rw [c0, Option.bind_some]
  simp only [cond_false]
  by_cases hbad : l.length < 1 ∨ l.length > 32
  · rw [cacheNew_bad l hbad, Option.bind_some]
    by_cases h3 : l.length < 1
    · have : (l.length : Int) < 1 := by omega
      simp [ocase, cl, this]
    · have e1 : ¬ (l.length : Int) < 1 := by omega
      have e2 : (l.length : Int) > 32 := by omega
      simp [ocase, cl, e1, e2]
  have e1 : ¬ (l.length : Int) < 1 := by omega
  have e2 : ¬ (l.length : Int) > 32 := by omega
  obtain ⟨M, hM, hN⟩ := cacheNewP_is l (by omega) (by omega)
  rw [hN, Option.bind_some]
  simp only [ocase, cl, e1, e2, decide_false, cond_false, Option.bind_some, Option.isSome_none]
  have hown : m_ref_OwnBlocks l = some l := by
    unfold m_ref_OwnBlocks
    rw [app_small _ _ (by simp; omega)]; rfl
  rw [hown, Option.bind_some]
  show lp _ ((fun (i : Nat) (a : List Blk × List (Blk × List Int)) => ((i : Int), a.1, a.1, a.2)) 0 (l, M)) _ = _
  have key : ∀ (n i f : Nat) (l' : List Blk) (M' : List (Blk × List Int)), i + n = puts.length → n + 1 < f → Pok l' M' → l'.length = l.length →
      loop (fun (s436 : Int × (List Blk) × (List Blk) × (List (Blk × (List Int)))) =>
                              bif (cm .leq s436.1 (puts.length : Int)) then
                                jp (fun (x732 : (List Blk) × (List Blk) × (List (Blk × (List Int)))) =>
                                  some (.next ((ar .add .i64 s436.1 (1 : Int)), x732.1, x732.2.1, x732.2.2))
                                  ) fun k731 =>
                                lp (β := (List Blk) × (List (Blk × (List Int)))) (fun (s775 : Int × (List Blk) × (List (Blk × (List Int)))) =>
                                  bif (cm .leq s775.1 (s436.2.1.length : Int)) then
                                    jp (fun (x802 : Blk) =>
                                      (m_cache_Index_Find_io s775.2.1 s775.2.2 x802).bind fun v804 =>
                                        (m_ref_First s436.2.1 x802).bind fun v805 =>
                                          (bif (!(v804.2.1 == (cm .geq v805 (0 : Int)))) then
                                            some true
                                          else
                                            bif v804.2.1 then
                                              bif (cm .neq v804.1 v805) then
                                                some true
                                              else
                                                bif (!v804.2.1) then
                                                  some (cm .neq v804.1 (0 : Int))
                                                else
                                                  some false
                                            else
                                              bif (!v804.2.1) then
                                                some (cm .neq v804.1 (0 : Int))
                                              else
                                                some false).bind fun x811 =>
                                            bif x811 then
                                              some (.done (.ret (.done (.ret false))))
                                            else
                                              some (.next ((ar .add .i64 s775.1 (1 : Int)), v804.2.2.1, v804.2.2.2))
                                      ) fun k801 =>
                                    bif (cm .lss s775.1 (s436.2.1.length : Int)) then
                                      (Sw.idx s436.2.1 s775.1).bind fun z803 =>
                                        k801 z803
                                    else
                                      k801 b
                                  else
                                    some (.done (.brk (s775.2.1, s775.2.2)))
                                  ) ((0 : Int), s436.2.2.1, s436.2.2.2) fun (x797 : (List Blk) × (List (Blk × (List Int)))) =>
                                bif (cm .eql s436.1 (puts.length : Int)) then
                                  some (.done (.ret true))
                                else
                                  (Sw.idx puts s436.1).bind fun z819 =>
                                    (m_cache_Index_Put_io x797.1 x797.2 z819.1 z819.2).bind fun v820 =>
                                      (bif (cm .lss z819.1 (0 : Int)) then
                                        some true
                                      else
                                        some (cm .geq z819.1 (s436.2.1.length : Int))).bind fun x822 =>
                                        bif x822 then
                                          bif (!(v820.1 == (some (1 : Int)))) then
                                            some (.done (.ret false))
                                          else
                                            k731 (s436.2.1, v820.2.1, v820.2.2)
                                        else
                                          bif (Option.isSome v820.1) then
                                            some (.done (.ret false))
                                          else
                                            (Sw.idx s436.2.1 z819.1).bind fun _ =>
                                              k731 ((List.set s436.2.1 (Int.toNat z819.1) z819.2), v820.2.1, v820.2.2)
                              else
                                some (.done (.brk ()))
                              ) f ((i : Int), l', l', M') = some (Ex.ret true : Ex Unit Bool) := by
    intro n
    induction n with
    | zero =>
      intro i f l' M' hi hf hP hl'
      obtain ⟨f, rfl⟩ : ∃ f', f = f' + 1 := ⟨f - 1, by omega⟩
      have hle : (i : Int) ≤ (puts.length : Int) := by omega
      have heq : (i : Int) = (puts.length : Int) := by omega
      have c3 : cm .leq (i : Int) (puts.length : Int) = true := by rw [cle]; simpa using hle
      have c4 : cm .eql (i : Int) (puts.length : Int) = true := by rw [ce]; simpa using heq
      simp only [loop, c3, cond_true]
      rw [jp_at, asks_is l' M' b _ hP (by omega)]
      simp only [c4, cond_true]
    | succ n ih =>
      intro i f l' M' hi hf hP hl'
      obtain ⟨f, rfl⟩ : ∃ f', f = f' + 1 := ⟨f - 1, by omega⟩
      have c3 : cm .leq (i : Int) (puts.length : Int) = true := by rw [cle]; simp; omega
      have c4 : cm .eql (i : Int) (puts.length : Int) = false := by rw [ce]; simp; omega
      obtain ⟨p, hp, _⟩ := idx_nat (l := puts) (n := (i : Int)) (by omega) (by omega)
      simp only [loop, c3, cond_true]
      rw [jp_at, asks_is l' M' b _ hP (by omega)]
      simp only [c4, cond_false, hp, Option.bind_some]
      by_cases hr : p.1 < 0 ∨ p.1 ≥ (l'.length : Int)
      · rw [put_bad l' M' p.1 p.2 hr, Option.bind_some]
        have c5 : (bif cm .lss p.1 0 then some true else some (cm .geq p.1 (l'.length : Int))) = some true := by
          rw [cl, cge]
          by_cases h5 : p.1 < 0
          · simp [h5]
          · have : p.1 ≥ (l'.length : Int) := by omega
            simp [h5, this]
        rw [c5, Option.bind_some]
        simp only [cond_true, BEq.rfl, Bool.not_true, cond_false]
        rw [nxt (by omega)]
        exact ih (i + 1) f l' M' (by omega) (by omega) hP hl'
      · obtain ⟨k, hk⟩ : ∃ k : Nat, p.1 = (k : Int) := ⟨p.1.toNat, by omega⟩
        have hkl : k < l'.length := by omega
        obtain ⟨M2, h6, h7⟩ := putP_is hP k hkl (by omega) p.2
        obtain ⟨y, hy, _⟩ := idx_nat (l := l') (n := (k : Int)) (by omega) (by omega)
        have c5 : (bif cm .lss (k : Int) 0 then some true else some (cm .geq (k : Int) (l'.length : Int))) = some false := by
          rw [cl, cge]
          have h8 : ¬ (k : Int) < 0 := by omega
          have h9 : ¬ (k : Int) ≥ (l'.length : Int) := by omega
          simp only [h8, h9, decide_false, cond_false]
        rw [hk, h7, Option.bind_some, c5, Option.bind_some]
        simp only [cond_false, Option.isSome_none, hy, Option.bind_some, Int.toNat_natCast]
        rw [nxt (by omega)]
        exact ih (i + 1) f (l'.set k p.2) M2 (by omega) (by omega) h6 (by simpa using hl')
  exact lp_of_ret (key puts.length 0 FUEL l M (by omega) (by unfold FUEL; omega) hM rfl)
end Go.Pl
