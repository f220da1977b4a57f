/- The plain law: the model of the law answers true. Conditions: none. -/
import Derived.Test.YteckohdbfkhmdabMoStoreSays
set_option linter.unusedVariables false
set_option linter.unusedSimpArgs false
namespace Go.Pl
open Go Go.Sw

/-- going over a list, with what is carried, till something is done -/
def foldS {A B D : Type} (g : Nat → A → B → Step B D) (fin : B → D) : Nat → B → List A → D
  | _, acc, [] => fin acc
  | i, acc, x :: xs => match g i x acc with
    | .next acc' => foldS g fin (i + 1) acc' xs
    | .done d => d

def stp {α B D : Type} (st : Nat → B → α) (i : Nat) : Step B D → Step α D
  | .next a => .next (st i a)
  | .done d => .done d
def out {β γ : Type} (k : β → Option γ) : Ex β γ → Option γ
  | .brk y => k y
  | .ret z => some z

theorem loop_list {α A B D : Type} {step : α → Option (Step α D)} {l : List A} (st : Nat → B → α) (g : Nat → A → B → Step B D) (fin : B → D)
    (hs : ∀ pre x rest acc, l = pre ++ x :: rest → step (st pre.length acc) = some (stp st (pre.length + 1) (g pre.length x acc)))
    (he : ∀ acc, step (st l.length acc) = some (.done (fin acc))) :
    ∀ (rest pre : List A) (acc : B) (f : Nat), l = pre ++ rest → rest.length < f → loop step f (st pre.length acc) = some (foldS g fin pre.length acc rest)
  | [], pre, acc, f, hl, hf => by
    obtain ⟨f, rfl⟩ : ∃ f', f = f' + 1 := ⟨f - 1, by simp at hf; omega⟩
    have := he acc
    rw [hl, List.append_nil] at this
    simp [loop, this, foldS]
  | x :: rest, pre, acc, f, hl, hf => by
    obtain ⟨f, rfl⟩ : ∃ f', f = f' + 1 := ⟨f - 1, by simp at hf; omega⟩
    have h1 := hs pre x rest acc hl
    simp only [loop, h1, foldS]
    cases hg : g pre.length x acc with
    | done d => rfl
    | next acc' =>
      have ih := loop_list st g fin hs he rest (pre ++ [x]) acc' f (by rw [hl]; simp) (by simp at hf; omega)
      simpa [stp] using ih

theorem lp_list {α A B β γ : Type} {step : α → Option (Step α (Ex β γ))} {l : List A} {k : β → Option γ} (st : Nat → B → α) (acc0 : B) (g : Nat → A → B → Step B (Ex β γ)) (fin : B → Ex β γ) (hf : l.length < FUEL)
    (hs : ∀ pre x rest acc, l = pre ++ x :: rest → step (st pre.length acc) = some (stp st (pre.length + 1) (g pre.length x acc)))
    (he : ∀ acc, step (st l.length acc) = some (.done (fin acc))) :
    lp step (st 0 acc0) k = out k (foldS g fin 0 acc0 l) := by
  have h := loop_list st g fin hs he l [] acc0 FUEL rfl hf
  unfold lp
  simp only [List.length_nil] at h
  rw [h]
  cases foldS g fin 0 acc0 l <;> rfl

theorem idx_app {α : Type} (pre : List α) (x : α) (rest : List α) : Sw.idx (pre ++ x :: rest) (pre.length : Int) = some x := by
  unfold Sw.idx; simp
theorem inc {n m : Nat} (h : n < m) (hm : m ≤ 4611686018427387904) : ar .add .i64 (n : Int) 1 = ((n + 1 : Nat) : Int) := by
  unfold ar; simp only [IntKind.wrap, IntKind.signed, IntKind.bits]; simp; omega
theorem lss_app {α : Type} (pre : List α) (x : α) (rest : List α) : cm .lss (pre.length : Int) ((pre ++ x :: rest).length : Int) = true := by
  unfold cm; simp; omega
theorem lss_self {n : Nat} : cm .lss (n : Int) (n : Int) = false := by unfold cm; simp
end Go.Pl

namespace Go.Pl
open Go Go.Sw

theorem lp_count {α β γ : Type} {step : α → Option (Step α (Ex β γ))} {k : β → Option γ} (st : Nat → α) (n : Nat) (y : β) (hf : n < FUEL) (hs : ∀ i, i < n → step (st i) = some (.next (st (i + 1)))) (he : step (st n) = some (.done (.brk y))) : lp step (st 0) k = k y := by
  have h : ∀ m i, i + m = n → ∀ f, m < f → loop step f (st i) = some (.brk y) := by
    intro m
    induction m with
    | zero =>
      intro i hi f hf
      obtain ⟨f, rfl⟩ : ∃ f', f = f' + 1 := ⟨f - 1, by omega⟩
      simp only [Nat.add_zero] at hi
      subst hi
      simp [loop, he]
    | succ m ih =>
      intro i hi f hf
      obtain ⟨f, rfl⟩ : ∃ f', f = f' + 1 := ⟨f - 1, by omega⟩
      simp only [loop, hs i (by omega)]
      exact ih (i + 1) (by omega) f (by omega)
  unfold lp
  rw [h n 0 (by omega) FUEL hf]

theorem wrap_i64 {n : Int} (h : -9223372036854775808 ≤ n ∧ n ≤ 9223372036854775807) : IntKind.wrap .i64 n = n := wrap_id (k := .i64) (by unfold inK; simp [IntKind.min, IntKind.max, IntKind.signed, IntKind.bits]; omega)
theorem wrap_u8 {n : Int} (h : 0 ≤ n ∧ n ≤ 255) : IntKind.wrap .u8 n = n := wrap_id (k := .u8) (by unfold inK; simp [IntKind.min, IntKind.max, IntKind.signed, IntKind.bits]; omega)
theorem wrap_u32 {n : Int} (h : 0 ≤ n ∧ n ≤ 4294967295) : IntKind.wrap .u32 n = n := wrap_id (k := .u32) (by unfold inK; simp [IntKind.min, IntKind.max, IntKind.signed, IntKind.bits]; omega)
theorem ofInt_nat (w n : Nat) : BitVec.ofInt w (n : Int) = BitVec.ofNat w n := by
  apply BitVec.eq_of_toNat_eq
  simp
theorem xor32 {a b : Nat} (ha : a < 4294967296) (hb : b < 4294967296) : ar .xor .u32 (a : Int) (b : Int) = ((a ^^^ b : Nat) : Int) := by
  have h : a ^^^ b < 2 ^ 32 := Nat.xor_lt_two_pow (by simpa using ha) (by simpa using hb)
  show IntKind.wrap .u32 ((BitVec.ofInt 32 (a : Int) ^^^ BitVec.ofInt 32 (b : Int)).toNat : Int) = _
  simp only [ofInt_nat, BitVec.toNat_xor, BitVec.toNat_ofNat]
  rw [Nat.mod_eq_of_lt (by simpa using ha), Nat.mod_eq_of_lt (by simpa using hb)]
  exact wrap_u32 (by simp at h; omega)
theorem and32 {a : Nat} (ha : a < 4294967296) : ar .and .u32 (a : Int) 1 = ((a % 2 : Nat) : Int) := by
  show IntKind.wrap .u32 ((BitVec.ofInt 32 (a : Int) &&& BitVec.ofInt 32 ((1 : Nat) : Int)).toNat : Int) = _
  simp only [ofInt_nat, BitVec.toNat_and, BitVec.toNat_ofNat]
  rw [Nat.mod_eq_of_lt (a := a) (by simpa using ha), Nat.mod_eq_of_lt (a := 1) (by decide), Nat.and_one_is_mod]
  exact wrap_u32 (by omega)
theorem mul32 {a : Nat} (ha : a < 2) : ar .mul .u32 3988292384 (a : Int) = ((if a = 1 then 3988292384 else 0 : Nat) : Int) := by
  have : a = 0 ∨ a = 1 := by omega
  rcases this with rfl | rfl
  · rfl
  · decide
theorem shr1 {a : Nat} : sh .shr .u32 (a : Int) 1 = ((a / 2 : Nat) : Int) := by
  show Int.fdiv _ _ = _
  have : (2 : Int) ^ min (1 : Int).toNat (IntKind.bits .u32) = 2 := by decide
  rw [this, Int.fdiv_eq_ediv_of_nonneg _ (by omega)]
  omega
theorem not32 {a : Nat} (ha : a < 4294967296) : bnot .u32 (a : Int) = ((4294967295 - a : Nat) : Int) := by
  unfold bnot
  show IntKind.wrap .u32 ((BitVec.allOnes 32 ^^^ BitVec.ofInt 32 (a : Int)).toNat : Int) = _
  simp only [ofInt_nat, BitVec.allOnes_xor, BitVec.toNat_not, BitVec.toNat_ofNat]
  rw [Nat.mod_eq_of_lt (by simpa using ha)]
  exact wrap_u32 (by omega)
theorem tdiv_nat (a b : Nat) : Int.tdiv (a : Int) (b : Int) = ((a / b : Nat) : Int) := rfl
theorem tmod_nat (a b : Nat) : Int.tmod (a : Int) (b : Int) = ((a % b : Nat) : Int) := rfl
theorem quo64 {a b : Nat} (ha : a ≤ 9223372036854775807) : ar .quo .i64 (a : Int) (b : Int) = ((a / b : Nat) : Int) := by
  show IntKind.wrap .i64 _ = _
  rw [tdiv_nat]
  have := Nat.div_le_self a b
  generalize a / b = q at *
  exact wrap_i64 (by omega)
theorem rem64 {a b : Nat} : ar .rem .i64 (a : Int) (b : Int) = ((a % b : Nat) : Int) := rfl
theorem add64 {a b : Nat} (h : a + b ≤ 9223372036854775807) : ar .add .i64 (a : Int) (b : Int) = ((a + b : Nat) : Int) := by
  show IntKind.wrap .i64 _ = _
  rw [← Int.natCast_add]; exact wrap_i64 (by omega)
theorem mul64 {a b : Nat} (h : a * b ≤ 9223372036854775807) : ar .mul .i64 (a : Int) (b : Int) = ((a * b : Nat) : Int) := by
  show IntKind.wrap .i64 _ = _
  rw [← Int.natCast_mul]; exact wrap_i64 (by omega)
theorem nz_ok {n : Int} (h : n ≠ 0) : nz n = some () := by unfold nz; rw [if_neg h]
theorem cm_lss {a b : Nat} : cm .lss (a : Int) (b : Int) = decide (a < b) := by unfold cm; simp
theorem bit_xor (a b i : Nat) : (a ^^^ b) / 2 ^ i % 2 = (a / 2 ^ i + b / 2 ^ i) % 2 := by
  have h := Nat.testBit_xor a b i
  simp only [Nat.testBit_eq_decide_div_mod_eq] at h
  have ha := Nat.mod_two_eq_zero_or_one (a / 2 ^ i)
  have hb := Nat.mod_two_eq_zero_or_one (b / 2 ^ i)
  have hc := Nat.mod_two_eq_zero_or_one ((a ^^^ b) / 2 ^ i)
  rw [Nat.add_mod]
  rcases ha with ha | ha <;> rcases hb with hb | hb <;> rcases hc with hc | hc <;> simp [ha, hb, hc] at h ⊢
theorem xor_half (a b : Nat) : (a ^^^ b) / 2 = a / 2 ^^^ b / 2 := by
  have := Nat.shiftRight_xor_distrib (i := 1) (a := a) (b := b)
  simpa [Nat.shiftRight_eq_div_pow] using this
end Go.Pl

namespace Go.Pl
open Go Go.Sw
/-- bytes -/
def Bytes (l : List Int) : Prop := ∀ x ∈ l, 0 ≤ x ∧ x ≤ 255
def nat (l : List Int) : List Nat := l.map Int.toNat
theorem nat_byte {l : List Int} (h : Bytes l) : ∀ b ∈ nat l, b < 256 := by
  intro b hb
  obtain ⟨x, hx, rfl⟩ := List.mem_map.1 hb
  have := h x hx; omega

/-- as lp_list, with what holds on the way -/
theorem lp_inv {α A B β γ : Type} {step : α → Option (Step α (Ex β γ))} {l : List A} {k : β → Option γ} (st : Nat → B → α) (I : Nat → B → Prop) (acc0 : B) (g : Nat → A → B → B) (fin : B → β) (hf : l.length < FUEL) (h0 : I 0 acc0)
    (hs : ∀ pre x rest acc, l = pre ++ x :: rest → I pre.length acc → step (st pre.length acc) = some (.next (st (pre.length + 1) (g pre.length x acc))) ∧ I (pre.length + 1) (g pre.length x acc))
    (he : ∀ acc, I l.length acc → step (st l.length acc) = some (.done (.brk (fin acc)))) :
    lp step (st 0 acc0) k = k (fin ((l.zipIdx).foldl (fun acc x => g x.2 x.1 acc) acc0)) := by
  have key : ∀ (rest pre : List A) (acc : B) (f : Nat), l = pre ++ rest → I pre.length acc → rest.length < f → loop step f (st pre.length acc) = some (.brk (fin ((rest.zipIdx pre.length).foldl (fun acc x => g x.2 x.1 acc) acc))) := by
    intro rest
    induction rest with
    | nil =>
      intro pre acc f hl hI hf
      obtain ⟨f, rfl⟩ : ∃ f', f = f' + 1 := ⟨f - 1, by simp at hf; omega⟩
      have := he acc (by rw [hl, List.append_nil]; exact hI)
      rw [hl, List.append_nil] at this
      simp [loop, this]
    | cons x rest ih =>
      intro pre acc f hl hI hf
      obtain ⟨f, rfl⟩ : ∃ f', f = f' + 1 := ⟨f - 1, by simp at hf; omega⟩
      obtain ⟨h1, h2⟩ := hs pre x rest acc hl hI
      simp only [loop, h1]
      have := ih (pre ++ [x]) (g pre.length x acc) f (by rw [hl]; simp) (by simpa using h2) (by simp at hf; omega)
      simpa using this
  have h := key l [] acc0 FUEL rfl h0 hf
  unfold lp
  simp only [List.length_nil] at h
  rw [h]
theorem app_small {α : Type} (xs ys : List α) (h : xs.length + ys.length ≤ 4294967296) : Sw.app xs ys = some (xs ++ ys) := by unfold Sw.app; rw [if_pos h]
theorem foldl_zipIdx {A : Type} (w : A → List Int) : ∀ (l : List A) (i : Nat) (acc : List Int), (l.zipIdx i).foldl (fun acc x => acc ++ w x.1) acc = acc ++ l.flatMap w
  | [], _, acc => by simp
  | x :: l, i, acc => by simp [foldl_zipIdx w l]
end Go.Pl

namespace Go.Pl
open Go Go.Sw
/-- it lies somewhere so -/
def Wf {α : Type} (e : Enc α) (x : α) : Prop := ∃ S w cs, e.ok x S w cs
theorem Wf.int {k : IntKind} {n : Int} (h : Wf (Enc.int k) n) : inK k n := by obtain ⟨_, _, _, h⟩ := h; exact h.2
theorem okL_all {α : Type} {e : Enc α} {S w} : ∀ {xs : List α} {cs}, e.okL xs S w cs → ∀ x ∈ xs, Wf e x
  | [], _, _, x, hx => by simp at hx
  | y :: ys, _, ⟨c, d, _, h2, h3⟩, x, hx => by
    rcases List.mem_cons.1 hx with rfl | hx
    · exact ⟨_, _, _, h2⟩
    · exact okL_all h3 x hx
theorem Wf.arr {α : Type} {m : Nat} {e : Enc α} {xs : List α} (h : Wf (Enc.arr m e) xs) : xs.length = m ∧ ∀ x ∈ xs, Wf e x := by
  obtain ⟨_, _, _, h1, h2⟩ := h; exact ⟨h1, okL_all h2⟩
theorem Wf.sl {α : Type} {e : Enc α} {xs : List α} (h : Wf (Enc.sl e) xs) : xs.length ≤ 140737488355328 ∧ ∀ x ∈ xs, Wf e x := by
  obtain ⟨_, _, _, a, cap, _, h2, h3⟩ := h
  refine ⟨h2.2, ?_⟩
  rcases h3 with rfl | ⟨b, off, ds, _, _, _, _, h4⟩
  · intro x hx; simp at hx
  · exact okL_all h4
theorem Wf.pr {α β : Type} {a : Enc α} {b : Enc β} {x : α × β} (h : Wf (Enc.pr a b) x) : Wf a x.1 ∧ Wf b x.2 := by
  obtain ⟨_, _, _, c, d, _, h1, h2⟩ := h; exact ⟨⟨_, _, _, h1⟩, ⟨_, _, _, h2⟩⟩
theorem Wf.one1 {α : Type} {a : Enc α} {x : α} (h : Wf (Enc.one1 a) x) : Wf a x := h
theorem Wf.of_val {α : Type} {e : Enc α} {x : α} {S w v} (h : e.val x S w v) : Wf e x := by obtain ⟨cs, h, _⟩ := h; exact ⟨_, _, _, h⟩
end Go.Pl

namespace Go.Pl
open Go Go.Sw
theorem cl (m n : Int) : cm .lss m n = decide (m < n) := rfl
theorem cg (m n : Int) : cm .gtr m n = decide (m > n) := rfl
theorem cle (m n : Int) : cm .leq m n = decide (m ≤ n) := rfl
theorem cge (m n : Int) : cm .geq m n = decide (m ≥ n) := rfl
theorem ce (m n : Int) : cm .eql m n = decide (m = n) := by show (m == n) = _; by_cases h : m = n <;> simp [h]
theorem cn (m n : Int) : cm .neq m n = decide (m ≠ n) := by show (m != n) = _; by_cases h : m = n <;> simp [h]
theorem addI {m n : Int} (h : -9223372036854775808 ≤ m + n ∧ m + n ≤ 9223372036854775807) : ar .add .i64 m n = m + n := wrap_i64 h
theorem subI {m n : Int} (h : -9223372036854775808 ≤ m - n ∧ m - n ≤ 9223372036854775807) : ar .sub .i64 m n = m - n := wrap_i64 h
theorem nxt {n : Nat} (h : n ≤ 4611686018427387904) : ar .add .i64 (n : Int) 1 = ((n + 1 : Nat) : Int) := by rw [addI (by omega)]; push_cast; rfl
/-- a list gone through, each element looked at: one that is bad ends it -/
theorem lp_any {α A β γ : Type} {step : α → Option (Step α (Ex β γ))} {l : List A} {k : β → Option γ} (st : Nat → α) (bad : A → Bool) (z : γ) (y : β) (hf : l.length < FUEL)
    (hs : ∀ pre x rest, l = pre ++ x :: rest → step (st pre.length) = some (if bad x then .done (.ret z) else .next (st (pre.length + 1)))) (he : step (st l.length) = some (.done (.brk y))) :
    lp step (st 0) k = if l.any bad then some z else k y := by
  have key : ∀ (rest pre : List A) (f : Nat), l = pre ++ rest → rest.length < f → loop step f (st pre.length) = some (if rest.any bad then .ret z else .brk y) := by
    intro rest
    induction rest with
    | nil =>
      intro pre f hl hf
      obtain ⟨f, rfl⟩ : ∃ f', f = f' + 1 := ⟨f - 1, by simp at hf; omega⟩
      rw [List.append_nil] at hl
      rw [← hl]
      simp [loop, he]
    | cons x rest ih =>
      intro pre f hl hf
      obtain ⟨f, rfl⟩ : ∃ f', f = f' + 1 := ⟨f - 1, by simp at hf; omega⟩
      simp only [loop, hs pre x rest hl, List.any_cons]
      by_cases hb : bad x = true
      · simp [hb]
      · have := ih (pre ++ [x]) f (by rw [hl]; simp) (by simp at hf; omega)
        simp only [Bool.not_eq_true] at hb
        simp only [hb, Bool.false_eq_true, if_false, Bool.false_or]
        simpa using this
  have := key l [] FUEL rfl hf
  unfold lp
  simp only [List.length_nil] at this
  rw [this]
  by_cases hb : l.any bad = true
  · simp only [hb, if_true]
  · simp only [Bool.not_eq_true] at hb
    simp only [hb, Bool.false_eq_true, if_false]
theorem lenF {A : Type} {l : List A} {n : Nat} (h : l.length ≤ n) (hn : n ≤ 140737488355328) : l.length < FUEL := by unfold FUEL; omega
/-- the same, with the state told once more -/
theorem lss_len {A : Type} {l pre rest : List A} {x : A} (h : l = pre ++ x :: rest) : cm .lss (pre.length : Int) (l.length : Int) = true := by rw [h]; exact lss_app pre x rest
theorem idx_len {A : Type} {l pre rest : List A} {x : A} (h : l = pre ++ x :: rest) : Sw.idx l (pre.length : Int) = some x := by rw [h]; exact idx_app pre x rest
theorem idx_get {A : Type} {l : List A} {i : Nat} {x : A} (h : l[i]? = some x) : Sw.idx l (i : Int) = some x := by unfold Sw.idx; simp [h]
theorem idx_nat {A : Type} {l : List A} {n : Int} (h0 : 0 ≤ n) (h1 : n < l.length) : ∃ x, Sw.idx l n = some x ∧ l[n.toNat]? = some x := by
  have : n.toNat < l.length := by omega
  exact ⟨l[n.toNat], by unfold Sw.idx; simp [h0, this], by simp [this]⟩
/-- two lists that are the same, element by element -/
theorem same_loop {A : Type} [DecidableEq A] (l : List A) (hl : l.length ≤ 1000000) (k : Unit → Option Bool) :
    lp (β := Unit) (fun (s12 : Int) => bif (cm .lss s12 (l.length : Int)) then (Sw.idx l s12).bind fun z20 => (Sw.idx l s12).bind fun z21 => bif (!decide (z20 = z21)) then some (.done (.ret false)) else some (.next (ar .add .i64 s12 (1 : Int))) else some (.done (.brk ()))) (0 : Int) k = k () := by
  rw [show (0 : Int) = (fun (i : Nat) => (i : Int)) 0 from rfl]
  rw [lp_any (l := l) (fun (i : Nat) => (i : Int)) (fun _ => false) false () (lenF hl (by decide))]
  · simp
  · intro pre x rest h
    simp only [lss_len h, cond_true, idx_len h, Option.bind_some]
    rw [nxt (by rw [h] at hl; simp at hl; omega)]
    simp
  · simp only [lss_self, cond_false]
theorem wf_byte {n : Int} (h : Wf (Enc.int .u8) n) : 0 ≤ n ∧ n ≤ 255 := by
  have := h.int
  unfold inK at this
  simpa [IntKind.min, IntKind.max, IntKind.signed, IntKind.bits] using this
theorem wf_i64 {n : Int} (h : Wf (Enc.int .i64) n) : -9223372036854775808 ≤ n ∧ n ≤ 9223372036854775807 := by
  have := h.int
  unfold inK at this
  simpa [IntKind.min, IntKind.max, IntKind.signed, IntKind.bits] using this
theorem wf_bytes {l : List Int} (h : Wf (Enc.sl (Enc.int .u8)) l) : Bytes l := fun x hx => wf_byte (h.sl.2 x hx)

/-- the first bad one, by its number -/
theorem lp_find {α A β γ : Type} {step : α → Option (Step α (Ex β γ))} {l : List A} {k : β → Option γ} (st : Nat → α) (bad : A → Bool) (z : Nat → γ) (y : β) (hf : l.length < FUEL)
    (hs : ∀ pre x rest, l = pre ++ x :: rest → step (st pre.length) = some (if bad x then .done (.ret (z pre.length)) else .next (st (pre.length + 1)))) (he : step (st l.length) = some (.done (.brk y))) :
    lp step (st 0) k = match l.findIdx? bad with | some j => some (z j) | none => k y := by
  have key : ∀ (rest pre : List A) (f : Nat), l = pre ++ rest → rest.length < f → loop step f (st pre.length) = some (match rest.findIdx? bad with | some j => .ret (z (pre.length + j)) | none => .brk y) := by
    intro rest
    induction rest with
    | nil =>
      intro pre f hl hf
      obtain ⟨f, rfl⟩ : ∃ f', f = f' + 1 := ⟨f - 1, by simp at hf; omega⟩
      rw [List.append_nil] at hl
      rw [← hl]
      simp [loop, he]
    | cons x rest ih =>
      intro pre f hl hf
      obtain ⟨f, rfl⟩ : ∃ f', f = f' + 1 := ⟨f - 1, by simp at hf; omega⟩
      simp only [loop, hs pre x rest hl, List.findIdx?_cons]
      by_cases hb : bad x = true
      · simp [hb]
      · have := ih (pre ++ [x]) f (by rw [hl]; simp) (by simp at hf; omega)
        simp only [Bool.not_eq_true] at hb
        simp only [hb, Bool.false_eq_true, if_false]
        rw [List.length_append, List.length_singleton] at this
        rw [this]
        cases rest.findIdx? bad with
        | none => rfl
        | some j => simp only [Option.map_some]; congr 3; omega
  have := key l [] FUEL rfl hf
  unfold lp
  simp only [List.length_nil, Nat.zero_add] at this
  rw [this]
  cases l.findIdx? bad <;> rfl
theorem any_findIdx {A : Type} (l : List A) (bad : A → Bool) : l.any bad = (l.findIdx? bad).isSome := by
  simp
end Go.Pl

namespace Go.Pl
open Go Go.Sw
/-- going over a list, with what is carried, till something is done -/
def foldG {A B D : Type} (g : B → A → Step B D) (fin : B → D) : B → List A → D
  | acc, [] => fin acc
  | acc, x :: xs => match g acc x with
    | .next acc' => foldG g fin acc' xs
    | .done d => d
theorem lp_walk {α A B β γ : Type} {step : α → Option (Step α (Ex β γ))} {l : List A} {k : β → Option γ} (st : Nat → B → α) (I : List A → B → Prop) (g : B → A → Step B (Ex β γ)) (fin : B → Ex β γ) (acc0 : B) (hf : l.length < FUEL) (h0 : I [] acc0)
    (hs : ∀ pre x rest acc, l = pre ++ x :: rest → I pre acc → step (st pre.length acc) = some (stp st (pre.length + 1) (g acc x)) ∧ ∀ acc', g acc x = .next acc' → I (pre ++ [x]) acc')
    (he : ∀ acc, I l acc → step (st l.length acc) = some (.done (fin acc))) :
    lp step (st 0 acc0) k = out k (foldG g fin acc0 l) := by
  have key : ∀ (rest pre : List A) (acc : B) (f : Nat), l = pre ++ rest → I pre acc → rest.length < f → loop step f (st pre.length acc) = some (foldG g fin acc rest) := by
    intro rest
    induction rest with
    | nil =>
      intro pre acc f hl hI hf
      obtain ⟨f, rfl⟩ : ∃ f', f = f' + 1 := ⟨f - 1, by simp at hf; omega⟩
      rw [List.append_nil] at hl
      subst hl
      simp [loop, he acc hI, foldG]
    | cons x rest ih =>
      intro pre acc f hl hI hf
      obtain ⟨f, rfl⟩ : ∃ f', f = f' + 1 := ⟨f - 1, by simp at hf; omega⟩
      obtain ⟨h1, h2⟩ := hs pre x rest acc hl hI
      simp only [loop, h1, foldG]
      cases hg : g acc x with
      | done d => rfl
      | next acc' =>
        have := ih (pre ++ [x]) acc' f (by rw [hl]; simp) (h2 acc' hg) (by simp at hf; omega)
        simpa [stp] using this
  have h := key l [] acc0 FUEL rfl h0 hf
  unfold lp
  simp only [List.length_nil] at h
  rw [h]
  cases foldG g fin acc0 l <;> rfl
/-- a list gone through to its end -/
theorem lp_go {α A B β γ : Type} {step : α → Option (Step α (Ex β γ))} {l : List A} {k : β → Option γ} (st : Nat → B → α) (I : List A → B → Prop) (fin : B → β) (acc0 : B) (hf : l.length < FUEL) (h0 : I [] acc0)
    (hs : ∀ pre x rest acc, l = pre ++ x :: rest → I pre acc → ∃ acc', step (st pre.length acc) = some (.next (st (pre.length + 1) acc')) ∧ I (pre ++ [x]) acc')
    (he : ∀ acc, I l acc → step (st l.length acc) = some (.done (.brk (fin acc)))) : ∃ acc, I l acc ∧ lp step (st 0 acc0) k = k (fin acc) := by
  have key : ∀ (rest pre : List A) (acc : B) (f : Nat), l = pre ++ rest → I pre acc → rest.length < f → ∃ acc', I l acc' ∧ loop step f (st pre.length acc) = some (.brk (fin acc')) := by
    intro rest
    induction rest with
    | nil =>
      intro pre acc f hl hI hf
      obtain ⟨f, rfl⟩ : ∃ f', f = f' + 1 := ⟨f - 1, by simp at hf; omega⟩
      rw [List.append_nil] at hl
      subst hl
      exact ⟨acc, hI, by simp [loop, he acc hI]⟩
    | cons x rest ih =>
      intro pre acc f hl hI hf
      obtain ⟨f, rfl⟩ : ∃ f', f = f' + 1 := ⟨f - 1, by simp at hf; omega⟩
      obtain ⟨acc', h1, h2⟩ := hs pre x rest acc hl hI
      obtain ⟨a2, h3, h4⟩ := ih (pre ++ [x]) acc' f (by rw [hl]; simp) h2 (by simp at hf; omega)
      exact ⟨a2, h3, by simp only [loop, h1]; simpa using h4⟩
  obtain ⟨acc, h1, h2⟩ := key l [] acc0 FUEL rfl h0 hf
  exact ⟨acc, h1, by unfold lp; simp only [List.length_nil] at h2; rw [h2]⟩
theorem lp_go' {α A B β γ : Type} {step : α → Option (Step α (Ex β γ))} {l : List A} {k : β → Option γ} {r : Option γ} (st : Nat → B → α) (I : List A → B → Prop) (fin : B → β) (acc0 : B) (hf : l.length < FUEL) (h0 : I [] acc0)
    (hs : ∀ pre x rest acc, l = pre ++ x :: rest → I pre acc → ∃ acc', step (st pre.length acc) = some (.next (st (pre.length + 1) acc')) ∧ I (pre ++ [x]) acc')
    (he : ∀ acc, I l acc → step (st l.length acc) = some (.done (.brk (fin acc)))) (hr : ∀ acc, I l acc → k (fin acc) = r) : lp step (st 0 acc0) k = r := by
  obtain ⟨acc, h1, h2⟩ := lp_go (k := k) st I fin acc0 hf h0 hs he
  rw [h2, hr acc h1]
/-- a loop that comes closer each round -/
theorem lp_meas {α β γ : Type} {step : α → Option (Step α (Ex β γ))} {k : β → Option γ} (I : α → Prop) (m : α → Nat) (R : β → Prop) (s0 : α) (hm : m s0 < FUEL) (h0 : I s0)
    (hs : ∀ s, I s → (∃ s', step s = some (.next s') ∧ I s' ∧ m s' < m s) ∨ ∃ y, step s = some (.done (.brk y)) ∧ R y) : ∃ y, R y ∧ lp step s0 k = k y := by
  have key : ∀ (n : Nat) (s : α) (f : Nat), m s ≤ n → n < f → I s → ∃ y, R y ∧ loop step f s = some (.brk y) := by
    intro n
    induction n with
    | zero =>
      intro s f hn hf hI
      obtain ⟨f, rfl⟩ : ∃ f', f = f' + 1 := ⟨f - 1, by omega⟩
      rcases hs s hI with ⟨s', h1, h2, h3⟩ | ⟨y, h1, h2⟩
      · omega
      · exact ⟨y, h2, by simp [loop, h1]⟩
    | succ n ih =>
      intro s f hn hf hI
      obtain ⟨f, rfl⟩ : ∃ f', f = f' + 1 := ⟨f - 1, by omega⟩
      rcases hs s hI with ⟨s', h1, h2, h3⟩ | ⟨y, h1, h2⟩
      · obtain ⟨y, k1, k2⟩ := ih s' f (by omega) (by omega) h2
        exact ⟨y, k1, by simp [loop, h1, k2]⟩
      · exact ⟨y, h2, by simp [loop, h1]⟩
  obtain ⟨y, h1, h2⟩ := key (m s0) s0 FUEL (Nat.le_refl _) hm h0
  exact ⟨y, h1, by unfold lp; rw [h2]⟩
/-- the middle of two numbers -/
theorem mid {i j : Nat} (h : i + j ≤ 4611686018427387904) : IntKind.wrap .i64 (sh .shr .u64 (IntKind.wrap .u64 (ar .add .i64 (i : Int) (j : Int))) (1 : Int)) = (((i + j) / 2 : Nat) : Int) := by
  rw [addI (by omega)]
  have h1 : IntKind.wrap .u64 ((i : Int) + (j : Int)) = (i : Int) + (j : Int) := wrap_id (k := .u64) (by unfold inK; simp [IntKind.min, IntKind.max, IntKind.signed, IntKind.bits]; omega)
  rw [h1]
  have h2 : sh .shr .u64 ((i : Int) + (j : Int)) 1 = (((i + j) / 2 : Nat) : Int) := by
    show Int.fdiv _ _ = _
    have : (2 : Int) ^ min (1 : Int).toNat (IntKind.bits .u64) = 2 := by decide
    rw [this, Int.fdiv_eq_ediv_of_nonneg _ (by omega)]
    omega
  rw [h2]
  exact wrap_i64 (by omega)
theorem bin (c : Bool) {γ : Type} (x y : Option γ) : (bif c then x else y) = if c = true then x else y := by cases c <;> rfl
end Go.Pl

namespace Go.Pl
open Go Go.Sw Go.Mo
abbrev Disk := List Blk × List (Int × Blk) × Int
def badAt (n : Nat) (p : Int × Blk) : Bool := decide (p.1 < 0) || decide (p.1 ≥ n)
def diskErr (d : Disk) : Int := if d.1.length < 1 ∨ d.1.length > 200 ∨ d.2.1.length > 800 then 2 else if d.2.1.any (badAt d.1.length) then 1 else 0
theorem check1_disk (x : Int × Blk) (d : Disk) : m_disk_Check_1 x d = some (badAt d.1.length x) := by
  unfold m_disk_Check_1 badAt
  simp only [cl, cge]
  by_cases c1 : x.1 < 0 <;> simp [c1]
theorem indexAny_disk (l : List (Int × Blk)) (d : Disk) (hl : l.length ≤ 1000000) : m_slices_ContainsFunc_api_Put_api_Put__disk_Check_1 l d = some (l.any (badAt d.1.length)) := by
  unfold m_slices_ContainsFunc_api_Put_api_Put__disk_Check_1 m_slices_IndexFunc_api_Put_api_Put__disk_Check_1
  have h := lp_find (l := l) (γ := Int) (β := Unit) (step := fun (s11 : Int) => bif (cm .lss s11 (l.length : Int)) then (Sw.idx l s11).bind fun z19 => (m_disk_Check_1 z19 d).bind fun v20 => bif v20 then some (.done (.ret s11)) else some (.next (ar .add .i64 s11 (1 : Int))) else some (.done (.brk ()))) (k := fun _ => some (-1 : Int)) (fun (i : Nat) => (i : Int)) (badAt d.1.length) (fun i => (i : Int)) () (lenF hl (by decide)) ?_ ?_
  · have h' : lp (β := Unit) (fun (s11 : Int) => bif (cm .lss s11 (l.length : Int)) then (Sw.idx l s11).bind fun z19 => (m_disk_Check_1 z19 d).bind fun v20 => bif v20 then some (.done (.ret s11)) else some (.next (ar .add .i64 s11 (1 : Int))) else some (.done (.brk ()))) (0 : Int) (fun _ => some (-1 : Int)) = _ := h
    rw [h', any_findIdx]
    cases hf : l.findIdx? (badAt d.1.length) with
    | none => simp [cge]
    | some j => simp [cge]
  · intro pre x rest h
    simp only [lss_len h, cond_true, idx_len h, Option.bind_some, check1_disk]
    by_cases c : badAt d.1.length x = true
    · simp [c]
    · simp only [Bool.not_eq_true] at c
      simp only [c, cond_false, Bool.false_eq_true, if_false]
      rw [nxt (by rw [h] at hl; simp at hl; omega)]
  · simp only [lss_self, cond_false]
theorem checkDisk_is (d : Disk) : m_disk_Check d = some (if diskErr d = 0 then none else some (diskErr d)) := by
  unfold m_disk_Check diskErr
  simp only [cl, cg]
  by_cases h1 : d.1.length < 1
  · have : (d.1.length : Int) < 1 := by omega
    simp [h1, this]
  by_cases h2 : d.1.length > 200
  · have e1 : ¬ (d.1.length : Int) < 1 := by omega
    have e2 : (d.1.length : Int) > 200 := by omega
    simp [h1, h2, e1, e2]
  by_cases h3 : d.2.1.length > 800
  · have e1 : ¬ (d.1.length : Int) < 1 := by omega
    have e2 : ¬ (d.1.length : Int) > 200 := by omega
    have e3 : (d.2.1.length : Int) > 800 := by omega
    simp [h1, h2, h3, e1, e2, e3]
  have e1 : ¬ (d.1.length : Int) < 1 := by omega
  have e2 : ¬ (d.1.length : Int) > 200 := by omega
  have e3 : ¬ (d.2.1.length : Int) > 800 := by omega
  simp only [e1, e2, e3, h1, h2, h3, decide_false, cond_false, Option.bind_some, or_self, if_false]
  rw [indexAny_disk _ _ (by omega)]
  by_cases c : d.2.1.any (badAt d.1.length) = true <;> simp [c]

theorem is_err (c : Int) (hc : c = 0 → False) : m_ref_Is (some c) c = some true := by
  unfold m_ref_Is
  have : cm .neq c 0 = true := by rw [cn]; simpa using hc
  simp [this]
theorem is_none0 : m_ref_Is none 0 = some true := by decide
theorem sameBlocks_self (l : List Blk) (hl : l.length ≤ 1000000) : m_ref_SameBlocks l l = some true := by
  unfold m_ref_SameBlocks
  rw [cn]
  simp only [ne_eq, not_true, decide_false, cond_false]
  exact same_loop l hl _
theorem samePuts_self (l : List (Int × Blk)) (hl : l.length ≤ 1000000) : m_ref_SamePuts l l = some true := by
  unfold m_ref_SamePuts
  rw [cn]
  simp only [ne_eq, not_true, decide_false, cond_false]
  exact same_loop l hl _
theorem sameDisk_self (d : Disk) (h1 : d.1.length ≤ 1000000) (h2 : d.2.1.length ≤ 1000000) : m_ref_SameDisk d d = some true := by
  unfold m_ref_SameDisk
  rw [ce, sameBlocks_self _ h1, samePuts_self _ h2]
  simp
end Go.Pl

namespace Go.Pl
open Go Go.Sw Go.Mo
theorem cl2 (m n : Int) : cm .lss m n = decide (m < n) := Eq.trans (Eq.refl _) (cl m n)
theorem cg2 (m n : Int) : cm .gtr m n = decide (m > n) := Eq.trans (Eq.refl _) (cg m n)
theorem cge2 (m n : Int) : cm .geq m n = decide (m ≥ n) := Eq.trans (Eq.refl _) (cge m n)
theorem jp_k {β γ : Type} (K : β → Option γ) (a : β) : jp K (fun k => k a) = K a := Eq.trans (Eq.refl _) (Eq.refl _)
theorem isE (n : Int) : m_ref_Is (if n = 0 then none else some n) n = some true := by
  by_cases h : n = 0
  · rw [if_pos h, h]; exact is_none0
  · rw [if_neg h]; exact is_err n h
theorem isN0 : m_ref_Is none 0 = some true := by decide
theorem isN1 : m_ref_Is (some 1) 1 = some true := by decide
theorem isN2 : m_ref_Is (some 2) 2 = some true := by decide
theorem isN4 : m_ref_Is (some 4) 4 = some true := by decide
theorem isN (n : Int) (h : n ≠ 0) : m_ref_Is (some n) n = some true := is_err n h
theorem one_ne : ((1 : Int) = 0) = False := by decide
theorem two_ne : ((2 : Int) = 0) = False := by decide
def decL (n : Int) : Int := if n > 0 then ar .sub .i64 n 1 else n
theorem step_is (s : List Blk) (p : List (Int × Blk)) (n : Int) : m_disk_Disk_step_io s p n = some (if n = 0 then (some 4, s, p, n) else (none, s, p, decL n)) := by
  unfold m_disk_Disk_step_io jp decL
  rw [ce, cg]
  by_cases h : n = 0
  · simp [h]
  · by_cases q : n > 0 <;> simp [h, q]
theorem clone_is (d : Disk) (h1 : d.1.length ≤ 1000) (h2 : d.2.1.length ≤ 1000) : m_disk_clone d = some (d.1, d.2.1, d.2.2) := by
  unfold m_disk_clone m_slices_Clone_api_Block_api_Block m_slices_Clone_api_Put_api_Put
  rw [app_small _ _ (by simp; omega), app_small _ _ (by simp; omega)]; rfl
def lastV (a : Int) (l : List (Int × Blk)) (z : Blk) : Blk := (l.zipIdx).foldl (fun acc x => if x.1.1 = a then x.1.2 else acc) z
theorem lastV_is (a : Int) (z : Blk) (l : List (Int × Blk)) : lastV a l z = l.foldl (fun acc p => if p.1 = a then p.2 else acc) z := by
  unfold lastV
  have : ∀ (l : List (Int × Blk)) (i : Nat) (z : Blk), (l.zipIdx i).foldl (fun acc x => if x.1.1 = a then x.1.2 else acc) z = l.foldl (fun acc p => if p.1 = a then p.2 else acc) z := by
    intro l
    induction l with
    | nil => intro i z; rfl
    | cons p l ih => intro i z; simp only [List.zipIdx_cons, List.foldl_cons]; exact ih _ _
  exact this l 0 z
def firstV (a : Int) : List (Int × (Int × Blk)) → Option Blk
  | [] => none
  | p :: l => if p.2.1 = a then some p.2.2 else firstV a l
theorem rng_first (a : Int) : ∀ its : List (Int × (Int × Blk)), rng (δ := Blk) (fun (z10 : (Int × (Int × Blk))) (_ : Unit) =>
                  bif (cm .eql z10.2.1 a) then
                    some (.done z10.2.2)
                  else
                    some (.next ())
                  ) its () = some (match firstV a its with | some b => .ret b | none => .brk ())
  | [] => rfl
  | p :: l => by
    simp only [rng, firstV, ce]
    by_cases h : p.2.1 = a
    · simp [h]
    · simp only [h, decide_false, cond_false, if_false]
      have := rng_first a l
      simp only [ce] at this
      exact this
theorem first_foldr (a : Int) (z : Blk) : ∀ its : List (Int × (Int × Blk)), (firstV a its).getD z = (its.map Prod.snd).foldr (fun p acc => if p.1 = a then p.2 else acc) z
  | [] => rfl
  | p :: l => by
    simp only [firstV, List.map_cons, List.foldr_cons, ← first_foldr a z l]
    by_cases h : p.2.1 = a <;> simp [h]
theorem backs_snd {α : Type} (l : List α) : (Sw.backs l).map Prod.snd = l.reverse := by
  unfold Sw.backs
  rw [List.map_reverse, List.map_map]
  congr 1
  have : ∀ (l : List α) (i : Nat), (l.zipIdx i).map (Prod.snd ∘ fun x : α × Nat => ((x.2 : Int), x.1)) = l := by
    intro l
    induction l with
    | nil => intro i; rfl
    | cons x l ih => intro i; simp only [List.zipIdx_cons, List.map_cons, ih]; rfl
  exact this l 0
theorem first_back (a : Int) (z : Blk) (l : List (Int × Blk)) : (firstV a (Sw.backs l)).getD z = lastV a l z := by
  rw [first_foldr, backs_snd, lastV_is, List.foldr_reverse]
theorem read_is (d : Disk) (a : Int) (hl : d.2.1.length ≤ 1000) : m_disk_Read d a = some (if diskErr d = 0 then (if a < 0 ∨ a ≥ d.1.length then (zblk, some 1) else if d.2.2 = 0 then (zblk, some 4) else (lastV a d.2.1 (d.1.getD a.toNat []), none)) else (zblk, some (diskErr d))) := by
  unfold m_disk_Read
  rw [checkDisk_is, Option.bind_some]
  by_cases e : diskErr d = 0
  · simp only [e, if_true, Option.isSome_none, cond_false, cl, cge]
    by_cases h1 : a < 0
    · simp [h1]
    by_cases h2 : a ≥ d.1.length
    · simp [h1, h2]
    simp only [h1, h2, decide_false, cond_false, Option.bind_some, or_self, if_false]
    rw [ce d.2.2]
    by_cases h3 : d.2.2 = 0
    · simp [h3]
    have hsm : small d.2.1 = some () := by unfold small; rw [if_pos (by omega)]
    have hlt : a.toNat < d.1.length := by omega
    have hi : Sw.idx d.1 a = some (d.1.getD a.toNat []) := by unfold Sw.idx; rw [if_pos (by omega)]; simp [List.getD_eq_getElem?_getD, List.getElem?_eq_getElem hlt]
    have hb : m_slices_Backward_api_Put_api_Put d.2.1 = some d.2.1 := rfl
    simp only [h3, decide_false, cond_false, if_false, hb, Option.bind_some, hsm, rg, rng_first, hi]
    rw [← first_back]
    cases firstV a (Sw.backs d.2.1) <;> rfl
  · simp [e]
theorem want_is {γ : Type} (d : Disk) (a : Int) (z : Blk) (hl : d.2.1.length ≤ 1000) (k : Blk → Option γ) :
    lp (β := Blk) (fun (s79 : Int × Blk) =>
                                            bif (cm .lss s79.1 (d.2.1.length : Int)) then
                                              (Sw.idx d.2.1 s79.1).bind fun z87 =>
                                                bif (cm .eql z87.1 a) then
                                                  (Sw.idx d.2.1 s79.1).bind fun z89 =>
                                                    some (.next ((ar .add .i64 s79.1 (1 : Int)), z89.2))
                                                else
                                                  some (.next ((ar .add .i64 s79.1 (1 : Int)), s79.2))
                                            else
                                              some (.done (.brk s79.2))
                                            ) ((0 : Int), z) k = k (lastV a d.2.1 z) := by
  refine (lp_inv (l := d.2.1) (fun i (acc : Blk) => ((i : Int), acc)) (fun _ _ => True) z (fun _ p acc => if p.1 = a then p.2 else acc) id (lenF hl (by decide)) trivial ?_ ?_).trans ?_
  · intro pre p rest acc hp _
    have hpl : pre.length ≤ 1000 := by rw [hp] at hl; simp at hl; omega
    refine ⟨?_, trivial⟩
    simp only [lss_len hp, cond_true, idx_len hp, Option.bind_some, ce]
    rw [nxt (by omega)]
    by_cases h : p.1 = a <;> simp [h]
  · intro acc _
    simp only [lss_self, cond_false]
    rfl
  · rfl
/-! ### what is flushed, what is written -/
def flushL (d : Disk) : List Blk := (d.2.1.zipIdx).foldl (fun acc x => acc.set x.1.1.toNat x.1.2) d.1
theorem flushL_len (d : Disk) : (flushL d).length = d.1.length := by
  unfold flushL
  generalize d.2.1.zipIdx = z
  generalize d.1 = s
  induction z generalizing s with
  | nil => rfl
  | cons x z ih => rw [List.foldl_cons, ih]; simp
theorem in_of {d : Disk} (e : diskErr d = 0) : ∀ p ∈ d.2.1, 0 ≤ p.1 ∧ p.1 < d.1.length := by
  unfold diskErr at e
  split at e
  · cases e
  · split at e
    · cases e
    · rename_i hn hb
      intro p hp
      have : badAt d.1.length p = false := by
        simp only [Bool.not_eq_true] at hb
        exact (List.any_eq_false.1 hb p hp) |> fun h => by simpa using h
      unfold badAt at this
      simp at this
      omega
theorem flush_step (d : Disk) (e : diskErr d = 0) {p : Int × Blk} (hp : p ∈ d.2.1) {acc : List Blk} (ha : acc.length = d.1.length) : ∃ z, Sw.idx acc p.1 = some z := by
  have := in_of e p hp
  have hlt : p.1.toNat < acc.length := by omega
  exact ⟨acc[p.1.toNat], by unfold Sw.idx; rw [if_pos this.1, List.getElem?_eq_getElem hlt]⟩
theorem flushL_is {γ : Type} (d : Disk) (e : diskErr d = 0) (hl : d.2.1.length ≤ 1000) (k : List Blk → Option γ) :
    lp (β := (List Blk)) (fun (s139 : Int × (List Blk)) =>
                                                    bif (cm .lss s139.1 (d.2.1.length : Int)) then
                                                      (Sw.idx d.2.1 s139.1).bind fun z147 =>
                                                        (Sw.idx d.2.1 s139.1).bind fun z148 =>
                                                          (Sw.idx s139.2 z147.1).bind fun _ =>
                                                            some (.next ((ar .add .i64 s139.1 (1 : Int)), (List.set s139.2 (Int.toNat z147.1) z148.2)))
                                                    else
                                                      some (.done (.brk s139.2))
                                                    ) ((0 : Int), d.1) k = k (flushL d) := by
  refine (lp_inv (l := d.2.1) (fun i (acc : List Blk) => ((i : Int), acc)) (fun _ acc => acc.length = d.1.length) d.1 (fun _ p acc => acc.set p.1.toNat p.2) id (lenF hl (by decide)) rfl ?_ ?_).trans ?_
  · intro pre p rest acc hp hI
    have hpl : pre.length ≤ 1000 := by rw [hp] at hl; simp at hl; omega
    obtain ⟨z, hz⟩ := flush_step d e (p := p) (by rw [hp]; simp) hI
    refine ⟨?_, by simpa using hI⟩
    simp only [lss_len hp, cond_true, idx_len hp, Option.bind_some, hz]
    rw [nxt (by omega)]
  · intro acc _
    simp only [lss_self, cond_false]
    rfl
  · rfl
theorem flush_is (d : Disk) (h1 : d.1.length ≤ 1000) (h2 : d.2.1.length ≤ 1000) : m_disk_Flush d = some (if diskErr d = 0 then (if d.2.2 = 0 then (([], [], 0), some 4) else ((flushL d, [], decL d.2.2), none)) else (([], [], 0), some (diskErr d))) := by
  unfold m_disk_Flush
  rw [checkDisk_is, Option.bind_some]
  by_cases e : diskErr d = 0
  · simp only [e, if_true, Option.isSome_none, cond_false]
    rw [clone_is d h1 h2, Option.bind_some, step_is, Option.bind_some]
    by_cases h3 : d.2.2 = 0
    · simp [h3]
    simp only [h3, if_false, Option.isSome_none, cond_false]
    refine (lp_inv (l := d.2.1) (fun i (acc : List Blk) => ((i : Int), acc)) (fun _ acc => acc.length = d.1.length) d.1 (fun _ p acc => acc.set p.1.toNat p.2) id (lenF h2 (by decide)) rfl ?_ ?_).trans ?_
    · intro pre p rest acc hp hI
      have hpl : pre.length ≤ 1000 := by rw [hp] at h2; simp at h2; omega
      obtain ⟨z, hz⟩ := flush_step d e (p := p) (by rw [hp]; simp) hI
      refine ⟨?_, by simpa using hI⟩
      simp only [lss_len hp, cond_true, idx_len hp, Option.bind_some, hz]
      rw [nxt (by omega)]
    · intro acc _
      simp only [lss_self, cond_false]
      rfl
    · rfl
  · simp [e]
theorem write_is (d : Disk) (a : Int) (b : Blk) (h1 : d.1.length ≤ 1000) (h2 : d.2.1.length ≤ 1000) : m_disk_Write d a b = some (if diskErr d = 0 then (if a < 0 ∨ a ≥ d.1.length then (([], [], 0), some 1) else if (d.2.1.length : Int) = 800 then (([], [], 0), some 2) else if d.2.2 = 0 then (([], [], 0), some 4) else ((d.1, d.2.1 ++ [(a, b)], decL d.2.2), none)) else (([], [], 0), some (diskErr d))) := by
  unfold m_disk_Write
  rw [checkDisk_is, Option.bind_some]
  by_cases e : diskErr d = 0
  · simp only [e, if_true, Option.isSome_none, cond_false, cl, cge]
    by_cases c1 : a < 0
    · simp [c1]
    by_cases c2 : a ≥ d.1.length
    · simp [c1, c2]
    simp only [c1, c2, decide_false, cond_false, Option.bind_some, or_self, if_false]
    rw [ce]
    by_cases c3 : (d.2.1.length : Int) = 800
    · simp [c3]
    simp only [c3, decide_false, cond_false, if_false]
    rw [clone_is d h1 h2, Option.bind_some, step_is, Option.bind_some]
    by_cases c4 : d.2.2 = 0
    · simp [c4]
    simp only [c4, if_false, Option.isSome_none, cond_false]
    rw [app_small _ _ (by simp; omega), Option.bind_some]
  · simp [e]

end Go.Pl

namespace Go.Pl
open Go Go.Sw Go.Mo
def upd (f : Nat → Blk) (a : Nat) (b : Blk) : Nat → Blk := fun x => if x = a then b else f x
/-- a disk of so many blocks, whose blocks are these, with at most so many puts that wait -/
structure Vw (m : Nat) (d : Disk) (f : Nat → Blk) (k : Nat) : Prop where
  len : d.1.length = m
  big : 1 ≤ m ∧ m ≤ 200
  left : d.2.2 = -1
  few : d.2.1.length ≤ k
  lim : k ≤ 800
  rng : ∀ p ∈ d.2.1, 0 ≤ p.1 ∧ p.1 < (m : Int)
  is : ∀ a, a < m → lastV (a : Int) d.2.1 (d.1.getD a []) = f a
variable {m k : Nat} {d : Disk} {f : Nat → Blk}
theorem Vw.err (h : Vw m d f k) : diskErr d = 0 := by
  unfold diskErr
  have h1 := h.len; have h2 := h.big; have h3 := h.few; have h4 := h.lim
  rw [if_neg (by omega), if_neg]
  intro hb
  obtain ⟨p, hp, hq⟩ := List.any_eq_true.1 hb
  have := h.rng p hp
  unfold badAt at hq
  simp at hq
  omega
theorem Vw.read (h : Vw m d f k) {a : Int} (h0 : 0 ≤ a) (h1 : a < m) : m_disk_Read d a = some (f a.toNat, none) := by
  have h2 := h.few; have h3 := h.lim; have h4 := h.len
  rw [read_is d a (by omega), if_pos h.err, if_neg (by omega), if_neg (by rw [h.left]; decide)]
  have := h.is a.toNat (by omega)
  rw [show ((a.toNat : Nat) : Int) = a by omega] at this
  rw [this]
theorem lastV_snoc (a x : Int) (b z : Blk) (l : List (Int × Blk)) : lastV a (l ++ [(x, b)]) z = if x = a then b else lastV a l z := by
  rw [lastV_is, lastV_is, List.foldl_append]; rfl
theorem Vw.write (h : Vw m d f k) {a : Int} {b : Blk} (h0 : 0 ≤ a) (h1 : a < m) (hk : k < 800) :
    m_disk_Write d a b = some ((d.1, d.2.1 ++ [(a, b)], -1), none) ∧ Vw m (d.1, d.2.1 ++ [(a, b)], -1) (upd f a.toNat b) (k + 1) := by
  have h2 := h.few; have h3 := h.lim; have h4 := h.len; have h5 := h.big
  refine ⟨?_, ⟨h4, h5, rfl, by simp; omega, by omega, ?_, ?_⟩⟩
  · rw [write_is d a b (by omega) (by omega), if_pos h.err, if_neg (by omega), if_neg (by omega), if_neg (by rw [h.left]; decide), h.left]
    rfl
  · intro p hp
    rcases List.mem_append.1 hp with hp | hp
    · exact h.rng p hp
    · simp at hp; subst hp; exact ⟨h0, h1⟩
  · intro x hx
    show lastV (x : Int) (d.2.1 ++ [(a, b)]) (d.1.getD x []) = _
    rw [lastV_snoc]
    unfold upd
    by_cases e : x = a.toNat
    · rw [if_pos e, if_pos (by omega)]
    · rw [if_neg e, if_neg (by omega), h.is x hx]
theorem flushL_plain (d : Disk) : flushL d = d.2.1.foldl (fun acc p => acc.set p.1.toNat p.2) d.1 := by
  unfold flushL
  have h : ∀ (l : List (Int × Blk)) (n : Nat) (s : List Blk), (l.zipIdx n).foldl (fun acc x => acc.set x.1.1.toNat x.1.2) s = l.foldl (fun acc p => acc.set p.1.toNat p.2) s := by
    intro l
    induction l with
    | nil => intro n s; rfl
    | cons p l ih => intro n s; rw [List.zipIdx_cons, List.foldl_cons, List.foldl_cons, ih]
  exact h _ _ _
theorem flush_get (a : Nat) : ∀ (l : List (Int × Blk)) (s : List Blk), (∀ p ∈ l, 0 ≤ p.1 ∧ p.1 < (s.length : Int)) → (l.foldl (fun acc p => acc.set p.1.toNat p.2) s).getD a [] = l.foldl (fun acc p => if p.1 = (a : Int) then p.2 else acc) (s.getD a []) := by
  intro l
  induction l with
  | nil => intro s _; rfl
  | cons p l ih =>
    intro s hs
    have hp := hs p List.mem_cons_self
    rw [List.foldl_cons, List.foldl_cons, ih _ (fun q hq => by rw [List.length_set]; exact hs q (List.mem_cons_of_mem _ hq))]
    congr 1
    by_cases e : p.1 = (a : Int)
    · rw [if_pos e, e]
      have hl : a < s.length := by omega
      simp [List.getD_eq_getElem?_getD, hl]
    · rw [if_neg e]
      have : ¬ p.1.toNat = a := by omega
      simp [List.getD_eq_getElem?_getD, this]
theorem Vw.flush (h : Vw m d f k) : m_disk_Flush d = some ((flushL d, [], -1), none) ∧ Vw m (flushL d, [], -1) f 0 := by
  have h2 := h.few; have h3 := h.lim; have h4 := h.len; have h5 := h.big
  refine ⟨?_, ⟨by show (flushL d).length = m; rw [flushL_len, h4], h5, rfl, Nat.le_refl _, by omega, fun p hp => by simp at hp, ?_⟩⟩
  · rw [flush_is d (by omega) (by omega), if_pos h.err, if_neg (by rw [h.left]; decide), h.left]
    rfl
  · intro a ha
    show lastV (a : Int) [] ((flushL d).getD a []) = f a
    rw [lastV_is]
    show (flushL d).getD a [] = f a
    rw [flushL_plain, flush_get a _ _ (fun p hp => by rw [h4]; exact h.rng p hp), ← lastV_is, h.is a ha]
/-! ### what the store does to it -/
theorem Vw.sWrite (h : Vw m d f k) (n : Int) {a : Int} {b : Blk} (h0 : 0 ≤ a) (h1 : a < m) (hk : k < 800) :
    ∃ d', m_store_Store_write_io n d a b = some (none, n, d') ∧ Vw m d' (upd f a.toNat b) (k + 1) := by
  obtain ⟨e, v⟩ := h.write (b := b) h0 h1 hk
  refine ⟨_, ?_, v⟩
  unfold m_store_Store_write_io
  rw [e]
  rfl
theorem Vw.sFlush (h : Vw m d f k) (n : Int) : ∃ d', m_store_Store_flush_io n d = some (none, n, d') ∧ Vw m d' f 0 := by
  obtain ⟨e, v⟩ := h.flush
  refine ⟨_, ?_, v⟩
  unfold m_store_Store_flush_io
  rw [e]
  rfl
end Go.Pl

namespace Go.Pl
open Go Go.Sw Go.Mo
abbrev Res3 := Option Int × Int × Disk
/-- steps that all come to no error -/
inductive Run {Q : Type} (F : Q → Int → Disk → Option Res3) (n : Int) : List Q → Disk → Disk → Prop
  | nil {d : Disk} : Run F n [] d d
  | cons {q : Q} {l : List Q} {d d1 d2 : Disk} : F q n d = some (none, n, d1) → Run F n l d1 d2 → Run F n (q :: l) d d2
theorem Run.append {Q : Type} {F : Q → Int → Disk → Option Res3} {n : Int} {l l' : List Q} {d d1 d2 : Disk} (h : Run F n l d d1) (k : Run F n l' d1 d2) : Run F n (l ++ l') d d2 := by
  induction h with
  | nil => exact k
  | cons e _ ih => exact .cons e (ih k)
theorem all_run {Q : Type} {F : Q → Int → Disk → Option Res3} {n : Int} {xs : List Q} {d d2 : Disk} (h : Run F n xs d d2) (hl : xs.length ≤ 100000) :
    lp (β := Int × Disk) (fun (s11 : Int × Int × Disk) =>
    bif (cm .lss s11.1 (xs.length : Int)) then
      (Sw.idx xs s11.1).bind fun z19 =>
        (F z19 s11.2.1 s11.2.2).bind fun v20 =>
          bif (Option.isSome v20.1) then
            some (.done (.ret (v20.1, v20.2.1, v20.2.2)))
          else
            some (.next ((ar .add .i64 s11.1 (1 : Int)), v20.2.1, v20.2.2))
    else
      some (.done (.brk (s11.2.1, s11.2.2)))
    ) ((0 : Int), n, d) (fun (x17 : Int × Disk) => some ((none : Option Int), x17.1, x17.2)) = some (none, n, d2) := by
  generalize hst : (fun (s11 : Int × Int × Disk) =>
    bif (cm .lss s11.1 (xs.length : Int)) then
      (Sw.idx xs s11.1).bind fun z19 =>
        (F z19 s11.2.1 s11.2.2).bind fun v20 =>
          bif (Option.isSome v20.1) then
            some (Step.done (Ex.ret (v20.1, v20.2.1, v20.2.2)))
          else
            some (Step.next ((ar .add .i64 s11.1 (1 : Int)), v20.2.1, v20.2.2))
    else
      some (Step.done (Ex.brk (s11.2.1, s11.2.2)))) = step
  have key : ∀ (rest pre : List Q) (d : Disk) (f : Nat), xs = pre ++ rest → Run F n rest d d2 → rest.length < f → loop step f ((pre.length : Int), n, d) = some (.brk (n, d2)) := by
    intro rest
    induction rest with
    | nil =>
      intro pre d f hx hr hf
      obtain ⟨f, rfl⟩ : ∃ f', f = f' + 1 := ⟨f - 1, by simp at hf; omega⟩
      rw [List.append_nil] at hx
      cases hr
      have : step ((pre.length : Int), n, d2) = some (.done (.brk (n, d2))) := by rw [← hst, hx]; simp only [lss_self, cond_false]
      simp [loop, this]
    | cons q rest ih =>
      intro pre d f hx hr hf
      obtain ⟨f, rfl⟩ : ∃ f', f = f' + 1 := ⟨f - 1, by simp at hf; omega⟩
      cases hr with
      | cons e hr =>
        rename_i d1
        have : step ((pre.length : Int), n, d) = some (.next (((pre.length + 1 : Nat) : Int), n, d1)) := by
          rw [← hst]
          simp only [lss_len hx, cond_true, idx_len hx, Option.bind_some, e, Option.isSome_none, cond_false]
          rw [nxt (by rw [hx] at hl; simp at hl; omega)]
        have h2 := ih (pre ++ [q]) d1 f (by rw [hx]; simp) hr (by simp at hf; omega)
        simp only [loop, this]
        simpa using h2
  have := key xs [] d FUEL rfl h (by unfold FUEL; omega)
  unfold lp
  simp only [List.length_nil] at this
  rw [show ((0 : Int), n, d) = (((0 : Nat) : Int), n, d) from rfl, this]
variable {m k : Nat} {d : Disk} {f : Nat → Blk}
def mk8 (b : Int) : Blk := [b] ++ List.replicate 7 (0 : Int)
theorem Vw.sMark (h : Vw m d f k) {n : Nat} (hn : n + 1 < m) (b : Int) (hk : k < 800) :
    ∃ d', m_store_Store_mark_io (n : Int) d b = some (none, (n : Int), d') ∧ Vw m d' (upd f (n + 1) (mk8 b)) 0 := by
  have hb := h.big
  obtain ⟨d1, e1, v1⟩ := h.sWrite (n : Int) (a := ((n + 1 : Nat) : Int)) (b := mk8 b) (by omega) (by omega) hk
  obtain ⟨d2, e2, v2⟩ := v1.sFlush (n : Int)
  rw [show (((n + 1 : Nat) : Int)).toNat = n + 1 from rfl] at v2
  refine ⟨d2, ?_, v2⟩
  have hr : Run m_clo_store_Store_mark (n : Int) ([(.inl ((), ((), b)) : Clo_store_Store_mark), (.inr ((), ()) : Clo_store_Store_mark)] : (List Clo_store_Store_mark)) d d2 := by
    refine .cons (d1 := d1) ?_ (.cons e2 .nil)
    show m_store_Store_mark_1_io b (n : Int) d = _
    unfold m_store_Store_mark_1_io
    rw [nxt (by omega)]
    unfold mk8 at e1
    rw [e1]; rfl
  unfold m_store_Store_mark_io m_store_all_store_Store_mark_io
  rw [all_run hr (by simp)]
  rfl
end Go.Pl

namespace Go.Pl
open Go Go.Sw Go.Mo
theorem wrapB (n : Nat) : IntKind.wrap .u8 (n : Int) = ((n % 256 : Nat) : Int) := by
  show (Int.emod (n : Int) _) = _
  rfl
theorem shrI (n c : Nat) (hc : c ≤ 64) : sh .shr .i64 (n : Int) (c : Int) = ((n / 2 ^ c : Nat) : Int) := by
  show Int.fdiv (n : Int) (2 ^ min ((c : Nat) : Int).toNat 64) = _
  rw [Int.toNat_natCast, Nat.min_eq_left hc, Int.fdiv_eq_ediv_of_nonneg _ (Int.le_of_lt (Int.pow_pos (by decide)))]
  push_cast; rfl
theorem shlI {n c : Nat} (hn : n < 256) (hc : c ≤ 24) : sh .shl .i64 (n : Int) (c : Int) = ((n * 2 ^ c : Nat) : Int) := by
  show IntKind.wrap .i64 ((n : Int) * 2 ^ min ((c : Nat) : Int).toNat 64) = _
  rw [Int.toNat_natCast, Nat.min_eq_left (by omega)]
  have h1 : 2 ^ c ≤ 2 ^ 24 := Nat.pow_le_pow_right (by decide) hc
  have h2 : n * 2 ^ c ≤ 255 * 2 ^ 24 := Nat.mul_le_mul (by omega) h1
  have e : (n : Int) * 2 ^ c = ((n * 2 ^ c : Nat) : Int) := by push_cast; rfl
  rw [e, wrap_i64 (by omega)]
theorem orI {a b : Nat} (ha : a < 4611686018427387904) (hb : b < 4611686018427387904) : ar .or .i64 (a : Int) (b : Int) = ((a ||| b : Nat) : Int) := by
  have h : a ||| b < 2 ^ 62 := Nat.or_lt_two_pow (by simpa using ha) (by simpa using hb)
  show IntKind.wrap .i64 ((BitVec.ofInt 64 (a : Int) ||| BitVec.ofInt 64 (b : Int)).toNat : Int) = _
  simp only [ofInt_nat, BitVec.toNat_or, BitVec.toNat_ofNat]
  rw [Nat.mod_eq_of_lt (a := a) (by omega), Nat.mod_eq_of_lt (a := b) (by omega)]
  exact wrap_i64 (by omega)
theorem orP {x y c : Nat} (hy : y < 2 ^ c) : x * 2 ^ c ||| y = x * 2 ^ c + y := by
  have := Nat.shiftLeft_add_eq_or_of_lt hy x
  rw [Nat.shiftLeft_eq] at this
  exact this.symm
def num4 (v : Nat) : List Int := [((v / 16777216 % 256 : Nat) : Int), ((v / 65536 % 256 : Nat) : Int), ((v / 256 % 256 : Nat) : Int), ((v % 256 : Nat) : Int)]
theorem number_is (v : Nat) : m_store_number (v : Int) = some (num4 v ++ List.replicate 4 (0 : Int)) := by
  unfold m_store_number num4
  have e1 := shrI v 24 (by decide)
  have e2 := shrI v 16 (by decide)
  have e3 := shrI v 8 (by decide)
  rw [show ((24 : Nat) : Int) = 24 from rfl] at e1
  rw [show ((16 : Nat) : Int) = 16 from rfl] at e2
  rw [show ((8 : Nat) : Int) = 8 from rfl] at e3
  rw [e1, e2, e3, wrapB, wrapB, wrapB, wrapB]
theorem value_is {b3 b2 b1 b0 : Nat} (h3 : b3 < 256) (h2 : b2 < 256) (h1 : b1 < 256) (h0 : b0 < 256) (r : List Int) :
    m_store_value ((b3 : Int) :: (b2 : Int) :: (b1 : Int) :: (b0 : Int) :: r) = some ((b3 * 16777216 + b2 * 65536 + b1 * 256 + b0 : Nat) : Int) := by
  have i0 : Sw.idx ((b3 : Int) :: (b2 : Int) :: (b1 : Int) :: (b0 : Int) :: r) (0 : Int) = some (b3 : Int) := rfl
  have i1 : Sw.idx ((b3 : Int) :: (b2 : Int) :: (b1 : Int) :: (b0 : Int) :: r) (1 : Int) = some (b2 : Int) := rfl
  have i2 : Sw.idx ((b3 : Int) :: (b2 : Int) :: (b1 : Int) :: (b0 : Int) :: r) (2 : Int) = some (b1 : Int) := rfl
  have i3 : Sw.idx ((b3 : Int) :: (b2 : Int) :: (b1 : Int) :: (b0 : Int) :: r) (3 : Int) = some (b0 : Int) := rfl
  unfold m_store_value
  simp only [i0, i1, i2, i3, Option.bind_some]
  have e1 := shlI h3 (show 24 ≤ 24 by decide)
  have e2 := shlI h2 (show 16 ≤ 24 by decide)
  have e3 := shlI h1 (show 8 ≤ 24 by decide)
  rw [show ((24 : Nat) : Int) = 24 from rfl] at e1
  rw [show ((16 : Nat) : Int) = 16 from rfl] at e2
  rw [show ((8 : Nat) : Int) = 8 from rfl] at e3
  rw [e1, e2, e3, orI (by omega) (by omega)]
  rw [orP (x := b3) (c := 24) (y := b2 * 2 ^ 16) (by omega), orI (by omega) (by omega)]
  rw [show b3 * 2 ^ 24 + b2 * 2 ^ 16 = (b3 * 256 + b2) * 2 ^ 16 by omega, orP (c := 16) (y := b1 * 2 ^ 8) (by omega), orI (by omega) (by omega)]
  rw [show (b3 * 256 + b2) * 2 ^ 16 + b1 * 2 ^ 8 = ((b3 * 256 + b2) * 256 + b1) * 2 ^ 8 by omega, orP (c := 8) (y := b0) (by omega)]
  try (congr 2; omega)
theorem value_num {v : Nat} (h : v ≤ 2147483647) (r : List Int) : m_store_value (num4 v ++ r) = some (v : Int) := by
  show m_store_value (((v / 16777216 % 256 : Nat) : Int) :: ((v / 65536 % 256 : Nat) : Int) :: ((v / 256 % 256 : Nat) : Int) :: ((v % 256 : Nat) : Int) :: r) = _
  rw [value_is (by omega) (by omega) (by omega) (by omega)]
  congr 2
  omega
end Go.Pl

namespace Go.Pl
open Go Go.Sw Go.Mo
theorem lp_go2 {α A B β γ : Type} {step : α → Option (Step α (Ex β γ))} {l : List A} {k : β → Option γ} (st : Nat → B → α) (I : List A → B → Prop) (fin : B → β) (acc0 : B) (hf : l.length < FUEL) (h0 : I [] acc0)
    (hs : ∀ pre x rest acc, l = pre ++ x :: rest → I pre acc → ∃ acc', step (st pre.length acc) = some (.next (st (pre.length + 1) acc')) ∧ I (pre ++ [x]) acc')
    (he : ∀ acc, I l acc → step (st l.length acc) = some (.done (.brk (fin acc)))) : ∃ acc, lp step (st 0 acc0) k = k (fin acc) ∧ I l acc := by
  obtain ⟨a, h1, h2⟩ := lp_go (k := k) st I fin acc0 hf h0 hs he
  exact ⟨a, h2, h1⟩
abbrev Log := List (Nat × Blk)
def appl (f : Nat → Blk) (l : Log) : Nat → Blk := l.foldl (fun f p => upd f p.1 p.2) f
theorem appl_snoc (f : Nat → Blk) (l : Log) (p : Nat × Blk) : appl f (l ++ [p]) = upd (appl f l) p.1 p.2 := by unfold appl; rw [List.foldl_append]; rfl
theorem appl_out (f : Nat → Blk) {n : Nat} (l : Log) (h : ∀ p ∈ l, p.1 ≤ n) {a : Nat} (ha : n < a) : appl f l a = f a := by
  unfold appl
  induction l generalizing f with
  | nil => rfl
  | cons p l ih =>
    rw [List.foldl_cons, ih _ (fun q hq => h q (List.mem_cons_of_mem _ hq))]
    have := h p List.mem_cons_self
    unfold upd
    rw [if_neg (by omega)]
variable {m k n : Nat} {d : Disk} {f : Nat → Blk}
/-- the log lies there -/
structure Laid (n : Nat) (f : Nat → Blk) (l : Log) : Prop where
  cnt : ∃ r, f (n + 2) = num4 l.length ++ r
  put : ∀ i p, l[i]? = some p → (∃ r, f (n + 3 + 2 * i) = num4 p.1 ++ r) ∧ f (n + 4 + 2 * i) = p.2
theorem Vw.sApply (h : Vw m d f k) {l : Log} (hl : Laid n f l) (hm : m = 3 * n + 5) (hn : l.length ≤ n + 1) (hp : ∀ p ∈ l, p.1 ≤ n) (hk : k + l.length ≤ 800) :
    ∃ d', m_store_Store_apply_io (n : Int) d = some (none, (n : Int), d') ∧ Vw m d' (appl f l) (k + l.length) := by
  have hb := h.big
  unfold m_store_Store_apply_io
  have e1 : ar .add .i64 (n : Int) (2 : Int) = ((n + 2 : Nat) : Int) := by rw [addI (by omega)]; push_cast; rfl
  rw [e1, h.read (by omega) (by omega), Option.bind_some, Int.toNat_natCast]
  obtain ⟨r0, hr0⟩ := hl.cnt
  have ev : m_store_value (f (n + 2)) = some (l.length : Int) := by rw [hr0]; exact value_num (by omega) r0
  refine lp_go2 (l := l) (fun i d => ((none : Option Int), (i : Int), (n : Int), d)) (fun pre d => Vw m d (appl f pre) (k + pre.length)) (fun d => ((none : Option Int), (n : Int), d)) d (lenF (n := 1000) (by omega) (by decide)) h ?_ ?_
  · intro pre p rest d hpre hI
    have hlt : pre.length < l.length := by rw [hpre]; simp
    have hget : l[pre.length]? = some p := by rw [hpre]; simp
    obtain ⟨⟨r, h1⟩, h2⟩ := hl.put _ _ hget
    have hpp : ∀ q ∈ pre, q.1 ≤ n := fun q hq => hp q (by rw [hpre]; exact List.mem_append_left _ hq)
    have hpn : p.1 ≤ n := hp p (by rw [hpre]; simp)
    have ea : ar .add .i64 (ar .add .i64 (n : Int) (3 : Int)) (ar .mul .i64 (2 : Int) (pre.length : Int)) = ((n + 3 + 2 * pre.length : Nat) : Int) := by
      rw [show (2 : Int) = ((2 : Nat) : Int) from rfl, mul64 (by omega), addI (m := (n : Int)) (by omega), addI (by push_cast; omega)]; push_cast; rfl
    have eb : ar .add .i64 (ar .add .i64 (n : Int) (4 : Int)) (ar .mul .i64 (2 : Int) (pre.length : Int)) = ((n + 4 + 2 * pre.length : Nat) : Int) := by
      rw [show (2 : Int) = ((2 : Nat) : Int) from rfl, mul64 (by omega), addI (m := (n : Int)) (by omega), addI (by push_cast; omega)]; push_cast; rfl
    have ra := hI.read (a := ((n + 3 + 2 * pre.length : Nat) : Int)) (by omega) (by omega)
    have rb := hI.read (a := ((n + 4 + 2 * pre.length : Nat) : Int)) (by omega) (by omega)
    rw [Int.toNat_natCast, appl_out f pre hpp (by omega), h1] at ra
    rw [Int.toNat_natCast, appl_out f pre hpp (by omega), h2] at rb
    have vp : m_store_value (num4 p.1 ++ r) = some (p.1 : Int) := value_num (by omega) r
    obtain ⟨d', e3, v3⟩ := hI.sWrite (n : Int) (a := (p.1 : Int)) (b := p.2) (by omega) (by omega) (by omega)
    refine ⟨d', ?_, ?_⟩
    · simp only [Option.isNone_none, cond_true, ev, Option.bind_some, lss_len hpre, ea, eb, ra, rb, jp, vp, e3]
      rw [nxt (by omega)]
    · rw [appl_snoc, List.length_append, List.length_singleton]
      rw [Int.toNat_natCast] at v3
      exact v3
  · intro d hI
    simp only [Option.isNone_none, cond_true, ev, Option.bind_some, lss_self, cond_false]
end Go.Pl

namespace Go.Pl
open Go Go.Sw Go.Mo
variable {m k n : Nat} {d : Disk} {f : Nat → Blk}
theorem commit1_is (x : Int × Blk) (d : Disk) : m_store_Store_Commit_1 x (some ((n : Int), d)) = some (badAt n x) := by
  unfold m_store_Store_Commit_1 badAt
  rw [cl]
  by_cases h : x.1 < 0
  · simp [h]
  · simp [h, cge]
theorem anyCommit_is (l : List (Int × Blk)) (d : Disk) (hl : l.length ≤ 1000000) : m_slices_ContainsFunc_api_Put_api_Put__store_Store_Commit_1 l (some ((n : Int), d)) = some (l.any (badAt n)) := by
  unfold m_slices_ContainsFunc_api_Put_api_Put__store_Store_Commit_1 m_slices_IndexFunc_api_Put_api_Put__store_Store_Commit_1
  rw [show (0 : Int) = (fun (i : Nat) => (i : Int)) 0 from rfl]
  rw [lp_find (l := l) (fun (i : Nat) => (i : Int)) (badAt n) (fun i => (i : Int)) () (lenF hl (by decide))]
  · rw [any_findIdx]
    cases h : l.findIdx? (badAt n) with
    | none => simp [cge]
    | some j => simp [cge]
  · intro pre x rest h
    simp only [lss_len h, cond_true, idx_len h, Option.bind_some, commit1_is]
    rw [nxt (by rw [h] at hl; simp at hl; omega)]
    cases badAt n x <;> rfl
  · simp only [lss_self, cond_false]
abbrev Puts := List (Int × Blk)
def stA (i : Nat) (p : Int × Blk) : Clo_store_Store_Commit := .inr (.inl ((), ((), ((i : Int), p))))
def stB (i : Nat) (p : Int × Blk) : Clo_store_Store_Commit := .inr (.inr (.inl ((), ((), ((i : Int), p)))))
def stepsI : Nat → Puts → List Clo_store_Store_Commit
  | _, [] => []
  | i, p :: l => stA i p :: stB i p :: stepsI (i + 1) l
theorem stepsI_snoc (p : Int × Blk) : ∀ (l : Puts) (i : Nat), stepsI i (l ++ [p]) = stepsI i l ++ [stA (i + l.length) p, stB (i + l.length) p] := by
  intro l
  induction l with
  | nil => intro i; rfl
  | cons q l ih => intro i; simp only [List.cons_append, stepsI, ih, List.length_cons]; rw [show i + 1 + l.length = i + (l.length + 1) by omega]
theorem stepsI_len : ∀ (l : Puts) (i : Nat), (stepsI i l).length = 2 * l.length := by
  intro l
  induction l with
  | nil => intro i; rfl
  | cons q l ih => intro i; simp only [stepsI, List.length_cons, ih]; omega
theorem run_log (hm : m = 3 * n + 5) (hn : n ≤ 32) : ∀ (rest : Puts) (i : Nat) (d : Disk) (g : Nat → Blk) (k : Nat), Vw m d g k → (∀ p ∈ rest, 0 ≤ p.1 ∧ p.1 ≤ n) → i + rest.length ≤ n + 1 → k + 2 * rest.length ≤ 800 →
    ∃ d' g', Run m_clo_store_Store_Commit (n : Int) (stepsI i rest) d d' ∧ Vw m d' g' (k + 2 * rest.length) ∧ (∀ x, x < n + 3 + 2 * i → g' x = g x) ∧
      ∀ j p, rest[j]? = some p → (∃ r, g' (n + 3 + 2 * (i + j)) = num4 p.1.toNat ++ r) ∧ g' (n + 4 + 2 * (i + j)) = p.2 := by
  intro rest
  induction rest with
  | nil => intro i d g k h _ _ _; exact ⟨d, g, .nil, h, fun _ _ => rfl, fun j p hj => by simp at hj⟩
  | cons p rest ih =>
    intro i d g k h hp hi hk
    have hp0 := hp p List.mem_cons_self
    simp only [List.length_cons] at hi hk
    obtain ⟨d1, e1, v1⟩ := h.sWrite (n : Int) (a := ((n + 3 + 2 * i : Nat) : Int)) (b := num4 p.1.toNat ++ List.replicate 4 (0 : Int)) (by omega) (by omega) (by omega)
    obtain ⟨d2, e2, v2⟩ := v1.sWrite (n : Int) (a := ((n + 4 + 2 * i : Nat) : Int)) (b := p.2) (by omega) (by omega) (by omega)
    rw [Int.toNat_natCast] at v1 v2
    rw [Int.toNat_natCast] at v2
    obtain ⟨d', g', hr, hv, hlow, hput⟩ := ih (i + 1) d2 _ _ v2 (fun q hq => hp q (List.mem_cons_of_mem _ hq)) (by omega) (by omega)
    have ea : ar .add .i64 (ar .add .i64 (n : Int) (3 : Int)) (ar .mul .i64 (2 : Int) (i : Int)) = ((n + 3 + 2 * i : Nat) : Int) := by
      rw [show (2 : Int) = ((2 : Nat) : Int) from rfl, mul64 (by omega), addI (m := (n : Int)) (by omega), addI (by push_cast; omega)]; push_cast; rfl
    have eb : ar .add .i64 (ar .add .i64 (n : Int) (4 : Int)) (ar .mul .i64 (2 : Int) (i : Int)) = ((n + 4 + 2 * i : Nat) : Int) := by
      rw [show (2 : Int) = ((2 : Nat) : Int) from rfl, mul64 (by omega), addI (m := (n : Int)) (by omega), addI (by push_cast; omega)]; push_cast; rfl
    refine ⟨d', g', .cons (d1 := d1) ?_ (.cons (d1 := d2) ?_ hr), by rw [show k + 2 * (p :: rest).length = k + 1 + 1 + 2 * rest.length by simp; omega]; exact hv, ?_, ?_⟩
    · show m_store_Store_Commit_3_io (i : Int) p (n : Int) d = _
      unfold m_store_Store_Commit_3_io
      have hz : p.1 = ((p.1.toNat : Nat) : Int) := by omega
      have hnum := number_is p.1.toNat
      rw [← hz] at hnum
      rw [hnum, Option.bind_some, ea, e1]; rfl
    · show m_store_Store_Commit_4_io (i : Int) p (n : Int) d1 = _
      unfold m_store_Store_Commit_4_io
      rw [eb, e2]; rfl
    · intro x hx
      rw [hlow x (by omega)]
      unfold upd
      rw [if_neg (by omega), if_neg (by omega)]
    · intro j q hj
      cases j with
      | zero =>
        simp at hj; subst hj
        rw [show i + 0 = i from rfl, hlow _ (by omega), hlow _ (by omega)]
        unfold upd
        rw [if_neg (by omega), if_pos rfl, if_pos rfl]
        exact ⟨⟨_, rfl⟩, rfl⟩
      | succ j =>
        simp at hj
        have := hput j q hj
        rw [show i + (j + 1) = i + 1 + j by omega]
        exact this
end Go.Pl

namespace Go.Pl
open Go Go.Sw Go.Mo
variable {m k n : Nat} {d : Disk} {f : Nat → Blk}
theorem appl_at {f g : Nat → Blk} {x : Nat} (l : Log) (h : f x = g x) : appl f l x = appl g l x := by
  unfold appl
  induction l generalizing f g with
  | nil => exact h
  | cons p l ih =>
    rw [List.foldl_cons, List.foldl_cons]
    apply ih
    unfold upd
    rw [h]
def logOf (l : Puts) : Log := l.map (fun p => (p.1.toNat, p.2))
theorem num4_len (v : Nat) : (num4 v).length = 4 := rfl
/-- what lies in the log's count -/
theorem commit_is (h : Vw m d f 0) (hm : m = 3 * n + 5) (hn0 : 1 ≤ n) (hn : n ≤ 32) (puts : Puts) {a b : Nat} (hl : puts.length ≤ n) (hp : ∀ p ∈ puts, 0 ≤ p.1 ∧ p.1 < n) (ha : a ≤ 2147483647) (hb : b ≤ 2147483647) :
    ∃ d' f', m_store_Store_Commit_io (n : Int) d puts (a : Int) (b : Int) = some (none, (n : Int), d') ∧ Vw m d' f' 0 ∧ (∀ x, x ≤ n → f' x = appl f (logOf (puts ++ [((n : Int), num4 a ++ num4 b)])) x) ∧ f' (n + 1) = mk8 0 := by
  have hany : puts.any (badAt n) = false := by
    rw [List.any_eq_false]
    intro p hq
    have := hp p hq
    unfold badAt
    simp; omega
  generalize hv : puts ++ [((n : Int), num4 a ++ num4 b)] = v27
  have hvl : v27.length = puts.length + 1 := by rw [← hv]; simp
  have hvp : ∀ p ∈ v27, 0 ≤ p.1 ∧ p.1 ≤ n := by
    intro p hq
    rw [← hv] at hq
    rcases List.mem_append.1 hq with hq | hq
    · have := hp p hq; omega
    · simp at hq; subst hq; exact ⟨by simp, by simp⟩
  -- the steps
  have e2 : ar .add .i64 (n : Int) (2 : Int) = ((n + 2 : Nat) : Int) := by rw [addI (by omega)]; push_cast; rfl
  obtain ⟨d1, s1, v1⟩ := h.sWrite (n : Int) (a := ((n + 2 : Nat) : Int)) (b := num4 v27.length ++ List.replicate 4 (0 : Int)) (by omega) (by omega) (by omega)
  rw [Int.toNat_natCast] at v1
  obtain ⟨d2, g2, r2, w2, low2, put2⟩ := run_log hm hn v27 0 d1 _ _ v1 hvp (by omega) (by omega)
  obtain ⟨d3, s3, v3⟩ := w2.sFlush (n : Int)
  obtain ⟨d4, s4, v4⟩ := v3.sMark (n := n) (by omega) 1 (by omega)
  have hlen : (logOf v27).length = v27.length := by unfold logOf; simp
  have laid : Laid n (upd g2 (n + 1) (mk8 1)) (logOf v27) := by
    constructor
    · refine ⟨List.replicate 4 (0 : Int), ?_⟩
      unfold upd
      rw [if_neg (by omega), low2 _ (by omega)]
      unfold upd
      rw [if_pos rfl, hlen]
    · intro i p hi
      unfold logOf at hi
      rw [List.getElem?_map] at hi
      cases hq : v27[i]? with
      | none => rw [hq] at hi; cases hi
      | some q =>
        rw [hq] at hi
        obtain rfl := Option.some.inj hi
        have := put2 i q hq
        rw [Nat.zero_add] at this
        unfold upd
        rw [if_neg (by omega), if_neg (by omega)]
        exact this
  have hlp : ∀ p ∈ logOf v27, p.1 ≤ n := by
    intro p hq
    unfold logOf at hq
    obtain ⟨q, hq1, rfl⟩ := List.mem_map.1 hq
    have := hvp q hq1
    show q.1.toNat ≤ n
    omega
  obtain ⟨d5, s5, v5⟩ := v4.sApply laid hm (by rw [hlen]; omega) hlp (by rw [hlen]; omega)
  obtain ⟨d6, s6, v6⟩ := v5.sFlush (n : Int)
  obtain ⟨d7, s7, v7⟩ := v6.sMark (n := n) (by omega) 0 (by omega)
  refine ⟨d7, _, ?_, v7, ?_, by unfold upd; rw [if_pos rfl]⟩
  · unfold m_store_Store_Commit_io
    rw [cg, cl, cg]
    rw [decide_eq_false (show ¬ ((puts.length : Int) > n) by omega), cond_false]
    rw [decide_eq_false (show ¬ (min (a : Int) (b : Int) < 0) by omega), cond_false]
    rw [decide_eq_false (show ¬ (max (a : Int) (b : Int) > 2147483647) by omega), cond_false]
    rw [anyCommit_is puts d (by omega), hany, Option.bind_some, Option.bind_some, cond_false, number_is, number_is, Option.bind_some, Option.bind_some]
    have hc : m_slices_Clone_api_Put_api_Put puts = some puts := by unfold m_slices_Clone_api_Put_api_Put; rw [app_small _ _ (by simp; omega)]; rfl
    have h23 : Sw.subN (num4 a ++ List.replicate 4 (0 : Int)) (0 : Int) (4 : Int) (4 : Int) = some (num4 a) := by unfold Sw.subN Sw.sub num4; simp
    have h24 : Sw.sub (num4 b ++ List.replicate 4 (0 : Int)) (0 : Int) (4 : Int) = some (num4 b) := by unfold Sw.sub num4; simp
    have h25 : Sw.app (num4 a) (num4 b) = some (num4 a ++ num4 b) := app_small _ _ (by rw [num4_len, num4_len]; decide)
    have h26 : Sw.arrOf 8 (num4 a ++ num4 b) = some (num4 a ++ num4 b) := by unfold Sw.arrOf num4; simp
    have h27 : Sw.app puts [((n : Int), num4 a ++ num4 b)] = some v27 := by rw [app_small _ _ (by simp; omega), hv]
    simp only [hc, h23, h24, h25, h26, h27, Option.bind_some]
    have hrun : Run m_clo_store_Store_Commit (n : Int) (((.inl ((), ((), v27)) : Clo_store_Store_Commit) :: stepsI 0 v27) ++ ([(.inr (.inr (.inr (.inl ((), ())))) : Clo_store_Store_Commit), (.inr (.inr (.inr (.inr (.inl ((), ()))))) : Clo_store_Store_Commit), (.inr (.inr (.inr (.inr (.inr (.inl ((), ())))))) : Clo_store_Store_Commit), (.inr (.inr (.inr (.inr (.inr (.inr (.inl ((), ()))))))) : Clo_store_Store_Commit), (.inr (.inr (.inr (.inr (.inr (.inr (.inr ((), ()))))))) : Clo_store_Store_Commit)] : (List Clo_store_Store_Commit))) d d7 := by
      refine Run.append (d1 := d2) (.cons (d1 := d1) ?_ r2) (.cons s3 (.cons (d1 := d4) ?_ (.cons s5 (.cons s6 (.cons (d1 := d7) ?_ .nil)))))
      · show m_store_Store_Commit_2_io v27 (n : Int) d = _
        unfold m_store_Store_Commit_2_io
        rw [number_is, Option.bind_some, e2, s1]; rfl
      · show m_store_Store_Commit_5_io (n : Int) d3 = _
        unfold m_store_Store_Commit_5_io
        rw [s4]; rfl
      · show m_store_Store_Commit_6_io (n : Int) d6 = _
        unfold m_store_Store_Commit_6_io
        rw [s7]; rfl
    obtain ⟨acc, e, rfl⟩ := lp_go2 (step := fun (s36 : Int × (List Clo_store_Store_Commit)) =>
                          bif (cm .lss s36.1 (v27.length : Int)) then
                            (Sw.idx v27 s36.1).bind fun z43 =>
                              (Sw.app s36.2 ([(.inr (.inl ((), ((), (s36.1, z43)))) : Clo_store_Store_Commit), (.inr (.inr (.inl ((), ((), (s36.1, z43))))) : Clo_store_Store_Commit)] : (List Clo_store_Store_Commit))).bind fun v44 =>
                                some (Step.next ((ar .add .i64 s36.1 (1 : Int)), v44))
                          else
                            some (Step.done (Ex.brk (β := Res3) s36.2))) (k := fun (x41 : (List Clo_store_Store_Commit)) =>
                        (Sw.app x41 ([(.inr (.inr (.inr (.inl ((), ())))) : Clo_store_Store_Commit), (.inr (.inr (.inr (.inr (.inl ((), ()))))) : Clo_store_Store_Commit), (.inr (.inr (.inr (.inr (.inr (.inl ((), ())))))) : Clo_store_Store_Commit), (.inr (.inr (.inr (.inr (.inr (.inr (.inl ((), ()))))))) : Clo_store_Store_Commit), (.inr (.inr (.inr (.inr (.inr (.inr (.inr ((), ()))))))) : Clo_store_Store_Commit)] : (List Clo_store_Store_Commit))).bind fun v45 =>
                          (m_store_all_store_Store_Commit_io v45 (n : Int) d).bind fun v46 =>
                            some (v46.1, v46.2.1, v46.2.2)) (l := v27) (fun i acc => ((i : Int), acc)) (fun pre acc => acc = (.inl ((), ((), v27)) : Clo_store_Store_Commit) :: stepsI 0 pre) (fun acc => acc) [(.inl ((), ((), v27)) : Clo_store_Store_Commit)] (lenF (n := 1000) (by omega) (by decide)) rfl (by
        rintro pre x rest acc hpre rfl
        have hlt : pre.length ≤ 1000 := by rw [hpre] at hvl; simp at hvl; omega
        refine ⟨_, ?_, rfl⟩
        simp only [lss_len hpre, cond_true, idx_len hpre, Option.bind_some]
        rw [app_small _ _ (by simp [stepsI_len]; omega), Option.bind_some, nxt (by omega), stepsI_snoc]
        rw [Nat.zero_add]
        rfl) (by
        rintro acc rfl
        simp only [lss_self, cond_false])
    refine e.trans ?_
    rw [app_small _ _ (by simp [stepsI_len]; omega), Option.bind_some]
    unfold m_store_all_store_Store_Commit_io
    rw [all_run hrun (by simp [stepsI_len]; omega)]
    rfl
  · intro x hx
    unfold upd
    rw [if_neg (by omega)]
    apply appl_at
    rw [if_neg (by omega), low2 x (by omega)]
    unfold upd
    rw [if_neg (by omega)]
end Go.Pl

namespace Go.Pl
open Go Go.Sw Go.Mo
/-- a store has these blocks and numbers -/
def Seen (d : Disk) (blocks : List Blk) (a b : Nat) : Prop :=
  ∃ f, Vw (3 * blocks.length + 5) d f 0 ∧ (∀ x y, blocks[x]? = some y → f x = y) ∧ f blocks.length = num4 a ++ num4 b ∧ f (blocks.length + 1) = mk8 0
variable {d : Disk} {blocks : List Blk} {a b : Nat}
theorem get_out (d : Disk) (n : Int) (x : Int) (h : x < 0 ∨ x ≥ n) : m_store_Store_Get (n, d) x = some (zblk, some 1) := by
  unfold m_store_Store_Get
  rw [cl]
  by_cases c : x < 0
  · rw [decide_eq_true c]; rfl
  · rw [decide_eq_false c, cge, decide_eq_true (show x ≥ n by omega)]; rfl
theorem get_in (h : Seen d blocks a b) {x : Nat} {y : Blk} (hx : blocks[x]? = some y) : m_store_Store_Get ((blocks.length : Int), d) (x : Int) = some (y, none) := by
  obtain ⟨f, v, hb, _, _⟩ := h
  have hlt : x < blocks.length := (List.getElem?_eq_some_iff.1 hx).1
  unfold m_store_Store_Get
  rw [cl, decide_eq_false (show ¬ ((x : Int) < 0) by omega), cge, decide_eq_false (show ¬ ((x : Int) ≥ (blocks.length : Int)) by omega)]
  show (m_disk_Read d (x : Int)).bind _ = _
  rw [v.read (by omega) (by omega), Int.toNat_natCast, hb x y hx]
  rfl
theorem all_is (h : Seen d blocks a b) : m_store_Store_All ((blocks.length : Int), d) = some (blocks, none) := by
  have hbig : 3 * blocks.length + 5 ≤ 200 := by obtain ⟨f, v, _⟩ := h; exact v.big.2
  unfold m_store_Store_All
  obtain ⟨acc, e, rfl⟩ := lp_go2 (step := fun (s11 : Int × (List Blk)) =>
    bif (cm .lss s11.1 (blocks.length : Int)) then
      (m_store_Store_Get ((blocks.length : Int), d) s11.1).bind fun v19 =>
        bif (Option.isSome v19.2) then
          some (Step.done (Ex.ret (([] : (List Blk)), v19.2)))
        else
          (Sw.app s11.2 ([v19.1] : (List Blk))).bind fun v21 =>
            some (Step.next ((ar .add .i64 s11.1 (1 : Int)), v21))
    else
      some (Step.done (Ex.brk s11.2))) (k := fun (x17 : (List Blk)) => some (x17, (none : Option Int))) (l := blocks) (fun i acc => ((i : Int), acc)) (fun pre acc => acc = pre) (fun acc => acc) [] (lenF (n := 1000) (by omega) (by decide)) rfl (by
      rintro pre x rest acc hpre rfl
      have hlt : acc.length ≤ 1000 := by rw [hpre] at hbig; simp at hbig; omega
      refine ⟨_, ?_, rfl⟩
      have hg := get_in h (x := acc.length) (y := x) (by rw [hpre]; simp)
      simp only [lss_len hpre, cond_true, hg, Option.bind_some, Option.isSome_none, cond_false]
      rw [app_small _ _ (by simp; omega), Option.bind_some, nxt (by omega)]) (by
      rintro acc rfl
      simp only [lss_self, cond_false])
  exact e
theorem numbers_is (h : Seen d blocks a b) (ha : a ≤ 2147483647) (hb : b ≤ 2147483647) : m_store_Store_Numbers ((blocks.length : Int), d) = some ((a : Int), (b : Int), none) := by
  obtain ⟨f, v, _, hn, _⟩ := h
  unfold m_store_Store_Numbers
  show (m_disk_Read d (blocks.length : Int)).bind _ = _
  rw [v.read (by omega) (by omega), Int.toNat_natCast, hn]
  have h5 : Sw.subN (num4 a ++ num4 b) (4 : Int) (8 : Int) (8 : Int) = some (num4 b) := by unfold Sw.subN Sw.sub num4; simp
  have h6 : Sw.sub (num4 a ++ num4 b) (0 : Int) (4 : Int) = some (num4 a) := by unfold Sw.sub num4; simp
  have h7 : Sw.app (num4 b) (num4 a) = some (num4 b ++ num4 a) := app_small _ _ (by rw [num4_len, num4_len]; decide)
  have h8 : Sw.arrOf 8 (num4 b ++ num4 a) = some (num4 b ++ num4 a) := by unfold Sw.arrOf num4; simp
  simp only [Option.bind_some, Option.isSome_none, cond_false, value_num ha, value_num hb, h5, h6, h7, h8]
theorem sees_is (h : Seen d blocks a b) (ha : a ≤ 2147483647) (hb : b ≤ 2147483647) : m_law_sees ((blocks.length : Int), d) blocks (a : Int) (b : Int) = some true := by
  have hbig : 3 * blocks.length + 5 ≤ 200 := by obtain ⟨f, v, _⟩ := h; exact v.big.2
  unfold m_law_sees
  rw [all_is h, numbers_is h ha hb]
  simp only [Option.bind_some, Option.isSome_none, cond_false, sameBlocks_self blocks (by omega), Bool.not_true]
  rw [cn, cn]
  simp only [ne_eq, not_true_eq_false, decide_false, cond_false, Option.bind_some]
  rw [show (-1 : Int) = (fun (i : Nat) => (i : Int) - 1) 0 from rfl]
  rw [lp_any (l := List.range (blocks.length + 2)) (fun (i : Nat) => (i : Int) - 1) (fun _ => false) false () (lenF (n := 1000) (by simp; omega) (by decide))]
  · simp
  · intro pre x rest hpre
    have hlt : pre.length < blocks.length + 2 := by
      have := congrArg List.length hpre
      simp at this; omega
    have hnx : ar .add .i64 ((pre.length : Int) - 1) (1 : Int) = ((pre.length + 1 : Nat) : Int) - 1 := by rw [addI (by omega)]; push_cast; omega
    rw [cle, decide_eq_true (show (pre.length : Int) - 1 ≤ (blocks.length : Int) by omega), cond_true]
    by_cases c : pre.length = 0 ∨ pre.length = blocks.length + 1
    · rw [get_out d _ _ (by omega), Option.bind_some]
      have hor : (bif cm .lss ((pre.length : Int) - 1) (0 : Int) then some true else some (cm .geq ((pre.length : Int) - 1) (blocks.length : Int))) = some true := by
        rw [cl, cge]
        by_cases c2 : (pre.length : Int) - 1 < 0
        · rw [decide_eq_true c2]; rfl
        · rw [decide_eq_false c2, decide_eq_true (show (pre.length : Int) - 1 ≥ (blocks.length : Int) by omega)]; rfl
      rw [hor, Option.bind_some, cond_true, hnx]
      simp
    · obtain ⟨j, hj⟩ : ∃ j, pre.length = j + 1 := ⟨pre.length - 1, by omega⟩
      have hjl : j < blocks.length := by omega
      have e1 : (pre.length : Int) - 1 = (j : Int) := by omega
      have hg : blocks[j]? = some blocks[j] := List.getElem?_eq_getElem hjl
      rw [hnx, e1, get_in h hg, Option.bind_some, cl, cge, decide_eq_false (show ¬ ((j : Int) < 0) by omega), cond_false, decide_eq_false (show ¬ ((j : Int) ≥ (blocks.length : Int)) by omega), Option.bind_some, cond_false]
      simp only [Option.isSome_none, cond_false, idx_get hg, Option.bind_some]
      simp
  · rw [List.length_range, cle, decide_eq_false (show ¬ (((blocks.length + 2 : Nat) : Int) - 1 ≤ (blocks.length : Int)) by omega), cond_false]
end Go.Pl

namespace Go.Pl
open Go Go.Sw Go.Mo
def ceOf (n : Nat) (puts : Puts) (a b : Int) : Int := if puts.length > n then 2 else if a < 0 ∨ a > 2147483647 ∨ b < 0 ∨ b > 2147483647 then 1 else if puts.any (badAt n) then 1 else 0
def putAll (blocks : List Blk) (puts : Puts) : List Blk := puts.foldl (fun acc p => acc.set p.1.toNat p.2) blocks
theorem putAll_len (puts : Puts) : ∀ blocks : List Blk, (putAll blocks puts).length = blocks.length := by
  induction puts with
  | nil => intro b; rfl
  | cons p l ih => intro b; unfold putAll at *; rw [List.foldl_cons, ih]; simp
theorem putAll_get (puts : Puts) : ∀ (blocks : List Blk) (f : Nat → Blk), (∀ p ∈ puts, 0 ≤ p.1 ∧ p.1 < (blocks.length : Int)) → (∀ x y, blocks[x]? = some y → f x = y) → ∀ x y, (putAll blocks puts)[x]? = some y → appl f (logOf puts) x = y := by
  induction puts with
  | nil => intro b f _ h; exact h
  | cons p l ih =>
    intro b f hp h
    have hp0 := hp p List.mem_cons_self
    unfold putAll logOf appl at *
    rw [List.foldl_cons, List.map_cons, List.foldl_cons]
    refine ih _ _ (fun q hq => by rw [List.length_set]; exact hp q (List.mem_cons_of_mem _ hq)) ?_
    intro x y hx
    unfold upd
    by_cases e : x = p.1.toNat
    · subst e
      rw [List.getElem?_set_self (by omega)] at hx
      rw [if_pos rfl]
      exact Option.some.inj hx
    · rw [List.getElem?_set_ne (by omega)] at hx
      rw [if_neg e]
      exact h x y hx
variable {d : Disk} {blocks : List Blk} {a b : Nat}
theorem commit_bad (d : Disk) (n : Nat) (puts : Puts) (a b : Int) (hl : puts.length ≤ 1000) (h : ceOf n puts a b ≠ 0) : m_store_Store_Commit_io (n : Int) d puts a b = some (some (ceOf n puts a b), (n : Int), d) := by
  unfold m_store_Store_Commit_io
  unfold ceOf at h ⊢
  rw [cg, cl, cg]
  by_cases c1 : puts.length > n
  · rw [decide_eq_true (show (puts.length : Int) > (n : Int) by omega), if_pos c1]; rfl
  rw [if_neg c1] at h ⊢
  rw [decide_eq_false (show ¬ (puts.length : Int) > (n : Int) by omega), cond_false]
  by_cases c2 : a < 0 ∨ a > 2147483647 ∨ b < 0 ∨ b > 2147483647
  · rw [if_pos c2]
    by_cases c3 : min a b < 0
    · rw [decide_eq_true c3]; rfl
    · rw [decide_eq_false c3, decide_eq_true (show max a b > 2147483647 by omega)]; rfl
  · rw [if_neg c2] at h ⊢
    rw [decide_eq_false (show ¬ min a b < 0 by omega), cond_false, decide_eq_false (show ¬ max a b > 2147483647 by omega), cond_false, anyCommit_is puts d (by omega)]
    cases c4 : puts.any (badAt n) with
    | true => rfl
    | false => rw [c4] at h; simp at h
theorem commit_good (h : Seen d blocks a b) (h0 : 1 ≤ blocks.length) (h1 : blocks.length ≤ 32) (puts : Puts) (x y : Int) (hc : ceOf blocks.length puts x y = 0) :
    ∃ (d' : Disk) (x' y' : Nat), x = (x' : Int) ∧ y = (y' : Int) ∧ x' ≤ 2147483647 ∧ y' ≤ 2147483647 ∧ (∀ p ∈ puts, 0 ≤ p.1 ∧ p.1 < (blocks.length : Int)) ∧
      m_store_Store_Commit_io (blocks.length : Int) d puts x y = some (none, (blocks.length : Int), d') ∧ Seen d' (putAll blocks puts) x' y' := by
  unfold ceOf at hc
  split at hc
  · cases hc
  rename_i c1
  split at hc
  · cases hc
  rename_i c2
  split at hc
  · cases hc
  rename_i c3
  have hp : ∀ p ∈ puts, 0 ≤ p.1 ∧ p.1 < (blocks.length : Int) := by
    intro p hp
    have h2 : ¬ badAt blocks.length p = true := fun h3 => c3 (List.any_eq_true.2 ⟨p, hp, h3⟩)
    unfold badAt at h2
    simp at h2
    omega
  obtain ⟨x', rfl⟩ : ∃ x' : Nat, x = (x' : Int) := ⟨x.toNat, by omega⟩
  obtain ⟨y', rfl⟩ : ∃ y' : Nat, y = (y' : Int) := ⟨y.toNat, by omega⟩
  obtain ⟨f, v, hb, hn, hn1⟩ := h
  obtain ⟨d', f', e, v', hx, hm⟩ := commit_is v rfl h0 h1 puts (a := x') (b := y') (by omega) hp (by omega) (by omega)
  refine ⟨d', x', y', rfl, rfl, by omega, by omega, hp, e, f', by rw [putAll_len]; exact v', ?_, ?_, by rw [putAll_len]; exact hm⟩
  · intro i z hi
    have hil : i < blocks.length := by have := (List.getElem?_eq_some_iff.1 hi).1; rwa [putAll_len] at this
    rw [hx i (by omega)]
    unfold logOf
    rw [List.map_append, List.map_cons, List.map_nil, appl_snoc]
    unfold upd
    rw [if_neg (by simp; omega)]
    exact putAll_get puts blocks f hp hb i z hi
  · rw [putAll_len, hx _ (Nat.le_refl _)]
    unfold logOf
    rw [List.map_append, List.map_cons, List.map_nil, appl_snoc]
    unfold upd
    rw [if_pos (by simp)]
end Go.Pl

namespace Go.Pl
open Go Go.Sw Go.Mo
theorem need_bad {n : Int} (h : n < 1 ∨ n > 32) : m_store_Need n = some (0, some 1) := by
  unfold m_store_Need
  rw [cl, cg]
  by_cases c : n < 1
  · rw [decide_eq_true c]; rfl
  · rw [decide_eq_false c, decide_eq_true (show n > 32 by omega)]; rfl
theorem need_ok {n : Nat} (h0 : 1 ≤ n) (h1 : n ≤ 32) : m_store_Need (n : Int) = some (((3 * n + 5 : Nat) : Int), none) := by
  unfold m_store_Need
  rw [cl, cg, decide_eq_false (show ¬ ((n : Int) < 1) by omega), decide_eq_false (show ¬ ((n : Int) > 32) by omega)]
  have e1 : ar .add .i64 (n : Int) (1 : Int) = ((n + 1 : Nat) : Int) := nxt (by omega)
  have e2 : ar .mul .i64 (2 : Int) ((n + 1 : Nat) : Int) = ((2 * (n + 1) : Nat) : Int) := by rw [show (2 : Int) = ((2 : Nat) : Int) from rfl, mul64 (by omega)]
  have e3 : ar .add .i64 ((n + 1 : Nat) : Int) (2 : Int) = ((n + 1 + 2 : Nat) : Int) := by rw [addI (by omega)]; push_cast; rfl
  have e4 : ar .add .i64 ((n + 1 + 2 : Nat) : Int) ((2 * (n + 1) : Nat) : Int) = ((3 * n + 5 : Nat) : Int) := by rw [addI (by omega)]; push_cast; omega
  rw [e1, e2, e3, e4]
  rfl
theorem mk_is {α : Type} (n : Nat) (z : α) (h : n ≤ 1000) : Sw.mk (n : Int) z = some (List.replicate n z) := by
  unfold Sw.mk
  rw [if_pos (by omega)]
  simp
def fresh (n : Nat) : Disk := (List.replicate (3 * n + 5) zblk, [], -1)
theorem format_bad {n : Int} (h : n < 1 ∨ n > 32) : m_store_Format n = some (([], [], 0), some 1) := by
  unfold m_store_Format
  rw [need_bad h]; rfl
theorem format_ok {n : Nat} (h0 : 1 ≤ n) (h1 : n ≤ 32) : m_store_Format (n : Int) = some (fresh n, none) := by
  unfold m_store_Format
  rw [need_ok h0 h1, Option.bind_some]
  show (m_disk_New ((3 * n + 5 : Nat) : Int)).bind _ = _
  unfold m_disk_New
  rw [cl, cg, decide_eq_false (show ¬ (((3 * n + 5 : Nat) : Int) < 1) by omega), decide_eq_false (show ¬ (((3 * n + 5 : Nat) : Int) > 200) by omega), mk_is _ _ (by omega)]
  rfl
theorem open_bad (d : Disk) {n : Int} (h : n < 1 ∨ n > 32) : m_store_Open d n = some (none, some 1) := by
  unfold m_store_Open
  rw [need_bad h]; rfl
theorem open_state (d : Disk) {n : Nat} (h0 : 1 ≤ n) (h1 : n ≤ 32) (h : d.1.length ≠ 3 * n + 5 ∨ d.2.1 ≠ []) : m_store_Open d (n : Int) = some (none, some 5) := by
  unfold m_store_Open
  rw [need_ok h0 h1, Option.bind_some]
  simp only [Option.isSome_none, cond_false]
  rw [checkDisk_is, Option.bind_some]
  have hor : (bif (Option.isSome (if diskErr d = 0 then none else some (diskErr d))) then some true else bif (cm .neq (d.1.length : Int) ((3 * n + 5 : Nat) : Int)) then some true else some (cm .gtr (d.2.1.length : Int) (0 : Int))) = some true := by
    by_cases c : diskErr d = 0
    · rw [if_pos c, cn, cg]
      by_cases c2 : d.1.length = 3 * n + 5
      · have h3 : d.2.1 ≠ [] := h.resolve_left (fun h => h c2)
        have h4 : 0 < d.2.1.length := List.length_pos_iff.2 h3
        rw [decide_eq_true (show (d.2.1.length : Int) > 0 by omega)]
        cases decide ((d.1.length : Int) ≠ ((3 * n + 5 : Nat) : Int)) <;> rfl
      · rw [decide_eq_true (show (d.1.length : Int) ≠ ((3 * n + 5 : Nat) : Int) by omega)]; rfl
    · rw [if_neg c]; rfl
  rw [hor]
  rfl
theorem Vw.none {m : Nat} {d : Disk} {f : Nat → Blk} (h : Vw m d f 0) : d = (d.1, [], -1) := by
  have h1 : d.2.1 = [] := List.eq_nil_of_length_eq_zero (by have := h.few; omega)
  have h2 := h.left
  obtain ⟨x, y, z⟩ := d
  simp only at h1 h2
  subst h1; subst h2; rfl
theorem open_seen {d : Disk} {blocks : List Blk} {a b : Nat} (h : Seen d blocks a b) (h0 : 1 ≤ blocks.length) (h1 : blocks.length ≤ 32) : m_store_Open d (blocks.length : Int) = some (some ((blocks.length : Int), d), none) := by
  obtain ⟨f, v, _, _, hm⟩ := h
  have hd := v.none
  have hl := v.len
  unfold m_store_Open
  rw [need_ok h0 h1, Option.bind_some]
  simp only [Option.isSome_none, cond_false]
  rw [checkDisk_is, Option.bind_some, if_pos v.err, cn, cg]
  have hp : d.2.1.length = 0 := by rw [hd]; rfl
  rw [hl, hp, decide_eq_false (fun h => h rfl)]
  simp only [Option.isSome_none, cond_false]
  rw [show decide (((0 : Nat) : Int) > 0) = false from rfl, Option.bind_some, cond_false]
  have hc : m_slices_Clone_api_Block_api_Block d.1 = some d.1 := by unfold m_slices_Clone_api_Block_api_Block; rw [app_small _ _ (by simp; omega)]; rfl
  rw [hc, Option.bind_some]
  have hd2 : (d.1, ([] : List (Int × Blk)), d.2.2) = d := by rw [v.left]; exact hd.symm
  rw [hd2]
  have hr : m_store_Store_replay_io (blocks.length : Int) d = some (none, (blocks.length : Int), d) := by
    unfold m_store_Store_replay_io
    rw [nxt (by omega), v.read (by omega) (by omega), Int.toNat_natCast, hm]
    rfl
  rw [hr]
  rfl
theorem disk_is {d : Disk} {blocks : List Blk} {a b : Nat} (h : Seen d blocks a b) : m_store_Store_Disk ((blocks.length : Int), d) = some d := by
  obtain ⟨f, v, _⟩ := h
  have hb := v.big; have hl := v.len; have hf := v.few
  unfold m_store_Store_Disk m_slices_Clone_api_Block_api_Block m_slices_Clone_api_Put_api_Put
  rw [app_small _ _ (by simp; omega), app_small _ _ (by simp; omega)]
  rfl
theorem seen_fresh {n : Nat} (h1 : n ≤ 32) : Seen (fresh n) (List.replicate n zblk) 0 0 := by
  refine ⟨fun _ => zblk, ?_, ?_, rfl, rfl⟩
  · rw [List.length_replicate]
    refine ⟨by unfold fresh; simp, by omega, rfl, Nat.le_refl _, by decide, fun p hp => by simp [fresh] at hp, fun a ha => ?_⟩
    unfold fresh
    show lastV (a : Int) [] ((List.replicate (3 * n + 5) zblk).getD a []) = zblk
    rw [lastV_is]
    show (List.replicate (3 * n + 5) zblk).getD a [] = zblk
    simp [List.getD_eq_getElem?_getD, ha]
  · intro x y h
    rw [List.getElem?_replicate] at h
    split at h
    · exact Option.some.inj h
    · cases h
end Go.Pl

namespace Go.Pl
open Go Go.Sw Go.Mo
theorem jp_if {β γ : Type} (K : β → Option γ) (c : Bool) (x y : β) : jp K (fun k => bif c then k x else k y) = K (bif c then x else y) := by cases c <;> rfl
theorem err_loop {γ : Type} (n : Nat) (l : Puts) (hl : l.length ≤ 1000) (e0 : Int) (K : Int → Option γ) :
    lp (β := Int) (fun (s2069 : Int × Int) =>
                                                        (bif (cm .lss s2069.2 (l.length : Int)) then
                                                          some (cm .eql s2069.1 (0 : Int))
                                                        else
                                                          some false).bind fun x2085 =>
                                                          bif x2085 then
                                                            ((Sw.idx l s2069.2).bind fun z2092 =>
                                                              bif (cm .lss z2092.1 (0 : Int)) then
                                                                some true
                                                              else
                                                                (Sw.idx l s2069.2).bind fun z2094 =>
                                                                  some (cm .geq z2094.1 (n : Int))).bind fun x2091 =>
                                                              bif x2091 then
                                                                some (.next ((1 : Int), (ar .add .i64 s2069.2 (1 : Int))))
                                                              else
                                                                some (.next (s2069.1, (ar .add .i64 s2069.2 (1 : Int))))
                                                          else
                                                            some (.done (.brk s2069.1))
                                                        ) (e0, (0 : Int)) K = K (if e0 = 0 then (if l.any (badAt n) then 1 else 0) else e0) := by
  generalize hst : (fun (s2069 : Int × Int) =>
                                                        (bif (cm .lss s2069.2 (l.length : Int)) then
                                                          some (cm .eql s2069.1 (0 : Int))
                                                        else
                                                          some false).bind fun x2085 =>
                                                          bif x2085 then
                                                            ((Sw.idx l s2069.2).bind fun z2092 =>
                                                              bif (cm .lss z2092.1 (0 : Int)) then
                                                                some true
                                                              else
                                                                (Sw.idx l s2069.2).bind fun z2094 =>
                                                                  some (cm .geq z2094.1 (n : Int))).bind fun x2091 =>
                                                              bif x2091 then
                                                                some (Step.next ((1 : Int), (ar .add .i64 s2069.2 (1 : Int))))
                                                              else
                                                                some (Step.next (s2069.1, (ar .add .i64 s2069.2 (1 : Int))))
                                                          else
                                                            some (Step.done (Ex.brk (β := γ) s2069.1))) = step
  have hstop : ∀ (e i : Int), e ≠ 0 → step (e, i) = some (.done (.brk e)) := by
    intro e i he
    rw [← hst]
    simp only [ce, he, decide_false]
    cases cm .lss i (l.length : Int) <;> rfl
  have hend : step ((0 : Int), (l.length : Int)) = some (.done (.brk 0)) := by rw [← hst]; simp only [lss_self, cond_false, Option.bind_some]
  have key : ∀ (rest pre : Puts) (f : Nat), l = pre ++ rest → rest.length + 1 < f → loop step f ((0 : Int), (pre.length : Int)) = some (.brk (if rest.any (badAt n) then 1 else 0)) := by
    intro rest
    induction rest with
    | nil =>
      intro pre f hx hf
      obtain ⟨f, rfl⟩ : ∃ f', f = f' + 1 := ⟨f - 1, by simp at hf; omega⟩
      rw [List.append_nil] at hx
      rw [← hx]
      simp [loop, hend]
    | cons p rest ih =>
      intro pre f hx hf
      simp only [List.length_cons] at hf
      obtain ⟨f, rfl⟩ : ∃ f', f = f' + 2 := ⟨f - 2, by omega⟩
      have hs : step ((0 : Int), (pre.length : Int)) = some (.next ((if badAt n p then 1 else 0 : Int), ((pre.length + 1 : Nat) : Int))) := by
        rw [← hst]
        simp only [lss_len hx, cond_true, idx_len hx, Option.bind_some]
        rw [nxt (by rw [hx] at hl; simp at hl; omega)]
        have e0 : cm .eql (0 : Int) (0 : Int) = true := rfl
        rw [e0, cond_true]
        unfold badAt
        rw [cl, cge]
        by_cases c : p.1 < 0
        · simp [c]
        · by_cases c2 : p.1 ≥ (n : Int)
          · simp [c, c2]
          · simp [c, c2]
      cases hb : badAt n p with
      | true =>
        rw [hb] at hs
        simp only [if_true] at hs
        simp only [loop, hs, hstop 1 _ (by decide), List.any_cons, hb, Bool.true_or, if_true]
      | false =>
        rw [hb] at hs
        simp only [Bool.false_eq_true, if_false] at hs
        have := ih (pre ++ [p]) (f + 1) (by rw [hx]; simp) (by omega)
        rw [loop, hs]
        simp only [List.any_cons, hb, Bool.false_or]
        simpa using this
  unfold lp
  by_cases he : e0 = 0
  · subst he
    have := key l [] FUEL rfl (by unfold FUEL; omega)
    simp only [List.length_nil] at this
    rw [show ((0 : Int), (0 : Int)) = ((0 : Int), ((0 : Nat) : Int)) from rfl, this, if_pos rfl]
  · rw [if_neg he]
    have : loop step FUEL (e0, (0 : Int)) = some (.brk e0) := by
      rw [show FUEL = (FUEL - 1) + 1 by unfold FUEL; rfl]
      simp only [loop, hstop e0 0 he]
    rw [this]
theorem put_loop {γ : Type} (l : Puts) (hl : l.length ≤ 1000) (blocks : List Blk) (hp : ∀ p ∈ l, 0 ≤ p.1 ∧ p.1 < (blocks.length : Int)) (K : List Blk → Option γ) :
    lp (β := (List Blk)) (fun (s2133 : Int × (List Blk)) =>
                                                                bif (cm .lss s2133.1 (l.length : Int)) then
                                                                  (Sw.idx l s2133.1).bind fun z2141 =>
                                                                    (Sw.idx l s2133.1).bind fun z2142 =>
                                                                      (Sw.idx s2133.2 z2141.1).bind fun _ =>
                                                                        some (.next ((ar .add .i64 s2133.1 (1 : Int)), (List.set s2133.2 (Int.toNat z2141.1) z2142.2)))
                                                                else
                                                                  some (.done (.brk s2133.2))
                                                                ) ((0 : Int), blocks) K = K (putAll blocks l) := by
  refine (lp_inv (l := l) (fun i (acc : List Blk) => ((i : Int), acc)) (fun _ acc => acc.length = blocks.length) blocks (fun _ p acc => acc.set p.1.toNat p.2) id (lenF hl (by decide)) rfl ?_ ?_).trans ?_
  · intro pre p rest acc hpre hI
    have hpl : pre.length ≤ 1000 := by rw [hpre] at hl; simp at hl; omega
    have hq := hp p (by rw [hpre]; simp)
    obtain ⟨z, hz, _⟩ := idx_nat (l := acc) (n := p.1) hq.1 (by rw [hI]; exact hq.2)
    refine ⟨?_, by simpa using hI⟩
    simp only [lss_len hpre, cond_true, idx_len hpre, Option.bind_some, hz]
    rw [nxt (by omega)]
  · intro acc _
    simp only [lss_self, cond_false]
    rfl
  · show K _ = K _
    congr 1
    unfold putAll
    have h : ∀ (l : Puts) (i : Nat) (s : List Blk), (l.zipIdx i).foldl (fun acc x => acc.set x.1.1.toNat x.1.2) s = l.foldl (fun acc p => acc.set p.1.toNat p.2) s := by
      intro l
      induction l with
      | nil => intro i s; rfl
      | cons p l ih => intro i s; rw [List.zipIdx_cons, List.foldl_cons, List.foldl_cons, ih]
    exact h _ _ _
end Go.Pl

namespace Go.Pl
open Go Go.Sw Go.Mo
abbrev SSt := Int × Int × Nat × Nat × Disk × List Blk
theorem ce_is (n : Nat) (puts : Puts) (a b : Int) :
    (if (bif (bif (cm .eql (bif cm .gtr (puts.length : Int) (n : Int) then (2 : Int) else 0) (0 : Int)) then (decide (a < 0) || (decide (a > 2147483647) || (decide (b < 0) || decide (b > 2147483647)))) else false) then (1 : Int) else (bif cm .gtr (puts.length : Int) (n : Int) then (2 : Int) else 0)) = 0 then (if puts.any (badAt n) then (1 : Int) else 0) else (bif (bif (cm .eql (bif cm .gtr (puts.length : Int) (n : Int) then (2 : Int) else 0) (0 : Int)) then (decide (a < 0) || (decide (a > 2147483647) || (decide (b < 0) || decide (b > 2147483647)))) else false) then (1 : Int) else (bif cm .gtr (puts.length : Int) (n : Int) then (2 : Int) else 0))) = ceOf n puts a b := by
  unfold ceOf
  rw [cg, ce]
  by_cases c1 : puts.length > n
  · rw [if_pos c1, decide_eq_true (show (puts.length : Int) > (n : Int) by omega)]; rfl
  · rw [if_neg c1, decide_eq_false (show ¬ (puts.length : Int) > (n : Int) by omega)]
    by_cases c2 : a < 0 ∨ a > 2147483647 ∨ b < 0 ∨ b > 2147483647
    · rw [if_pos c2]
      have : (decide (a < 0) || (decide (a > 2147483647) || (decide (b < 0) || decide (b > 2147483647)))) = true := by simpa using c2
      rw [this]; rfl
    · rw [if_neg c2]
      have : (decide (a < 0) || (decide (a > 2147483647) || (decide (b < 0) || decide (b > 2147483647)))) = false := by simpa using c2
      rw [this]; rfl
theorem or4 (a b : Int) (c : Bool) : (bif c then
                                                    bif (cm .lss a (0 : Int)) then
                                                      some true
                                                    else
                                                      bif (cm .gtr a (2147483647 : Int)) then
                                                        some true
                                                      else
                                                        bif (cm .lss b (0 : Int)) then
                                                          some true
                                                        else
                                                          some (cm .gtr b (2147483647 : Int))
                                                  else
                                                    some false) = some (bif c then (decide (a < 0) || (decide (a > 2147483647) || (decide (b < 0) || decide (b > 2147483647)))) else false) := by
  rw [cl, cg, cl, cg]
  cases c <;> cases decide (a < 0) <;> cases decide (a > 2147483647) <;> cases decide (b < 0) <;> rfl
theorem law_StoreSays (n : Int) (one two : Puts) (a b : Int) : m_law_StoreSays n one two a b = some true := by
  unfold m_law_StoreSays
  rw [cg, cg]
  by_cases h1 : one.length > 40
  · rw [decide_eq_true (show (one.length : Int) > 40 by omega)]; rfl
  rw [decide_eq_false (show ¬ (one.length : Int) > 40 by omega)]
  by_cases h2 : two.length > 40
  · rw [decide_eq_true (show (two.length : Int) > 40 by omega)]; rfl
  rw [decide_eq_false (show ¬ (two.length : Int) > 40 by omega), cond_false, Option.bind_some, cond_false]
  by_cases hn : n < 1 ∨ n > 32
  · rw [need_bad hn, format_bad hn, Option.bind_some, Option.bind_some]
    have hor : (bif (cm .lss n (1 : Int)) then some true else some (cm .gtr n (32 : Int))) = some true := by
      rw [cl, cg]
      by_cases c : n < 1
      · rw [decide_eq_true c]; rfl
      · rw [decide_eq_false c, decide_eq_true (show n > 32 by omega)]; rfl
    rw [hor, Option.bind_some, cond_true, show (1 : Int) = ((1 : Nat) : Int) from rfl, mk_is 1 _ (by decide), Option.bind_some, open_bad _ hn, Option.bind_some]
    have hs := sameDisk_self (([] : List Blk), ([] : List (Int × Blk)), (0 : Int)) (by simp) (by simp)
    simp only [ocase, hs]
    decide
  obtain ⟨n, rfl⟩ : ∃ n' : Nat, n = (n' : Int) := ⟨n.toNat, by omega⟩
  have h0 : 1 ≤ n := by omega
  have h3 : n ≤ 32 := by omega
  rw [need_ok h0 h3, format_ok h0 h3, Option.bind_some, Option.bind_some, cl, cg, decide_eq_false (show ¬ ((n : Int) < 1) by omega), decide_eq_false (show ¬ ((n : Int) > 32) by omega), cond_false, Option.bind_some, cond_false]
  have hf1 : (fresh n).1.length = 3 * n + 5 := by unfold fresh; simp
  have hf2 : (fresh n).2.1 = [] := rfl
  have hf3 : (fresh n).2.2 = -1 := rfl
  have hxx : (bif (Option.isSome (none : Option Int)) then
                some true
              else
                bif (Option.isSome (none : Option Int)) then
                  some true
                else
                  bif (cm .lss ((3 * n + 5 : Nat) : Int) (1 : Int)) then
                    some true
                  else
                    bif (cm .gtr ((3 * n + 5 : Nat) : Int) (200 : Int)) then
                      some true
                    else
                      bif (cm .neq ((fresh n).1.length : Int) ((3 * n + 5 : Nat) : Int)) then
                        some true
                      else
                        bif (cm .gtr ((fresh n).2.1.length : Int) (0 : Int)) then
                          some true
                        else
                          some (cm .neq (fresh n).2.2 (-1 : Int))) = some false := by
    rw [hf1, hf2, hf3, cl, cg, cn, decide_eq_false (show ¬ (((3 * n + 5 : Nat) : Int) < 1) by omega), decide_eq_false (show ¬ (((3 * n + 5 : Nat) : Int) > 200) by omega), decide_eq_false (fun h => h rfl)]
    rfl
  rw [hxx, Option.bind_some, cond_false]
  clear hxx
  show (Sw.mk (ar .add .i64 ((3 * n + 5 : Nat) : Int) (1 : Int)) zblk).bind _ = _
  rw [nxt (by omega), mk_is _ _ (by omega), Option.bind_some, open_state _ h0 h3 (.inl (by simp)), Option.bind_some]
  simp only [ocase]
  rw [open_state ((fresh n).1, [((0 : Int), zblk)], (-1 : Int)) h0 h3 (.inr (by simp)), Option.bind_some]
  simp only
  have hs0 := seen_fresh (n := n) h3
  have ho := open_seen hs0 (by simpa using h0) (by simpa using h3)
  rw [List.length_replicate] at ho
  rw [ho, Option.bind_some]
  have hb5 : (!((some (5 : Int)) == (some (5 : Int)))) = false := by decide
  simp only [hb5, cond_false, Option.isSome_none, Option.bind_some]
  rw [mk_is _ _ (by omega), Option.bind_some]
  have hse := sees_is hs0 (by decide) (by decide)
  rw [List.length_replicate] at hse
  have hse' : m_law_sees ((n : Int), fresh n) (List.replicate n zblk) (0 : Int) (0 : Int) = some true := hse
  rw [hse', Option.bind_some]
  simp only [Bool.not_true, cond_false]
  refine lp_go' (l := [one, two]) (fun i (q : SSt) => (q.1, q.2.1, (q.2.2.1 : Int), (q.2.2.2.1 : Int), (i : Int), (n : Int), q.2.2.2.2.1, q.2.2.2.2.2)) (fun _ q => q.2.2.2.2.2.length = n ∧ q.2.2.1 ≤ 2147483647 ∧ q.2.2.2.1 ≤ 2147483647 ∧ Seen q.2.2.2.2.1 q.2.2.2.2.2 q.2.2.1 q.2.2.2.1) (fun q => ((q.2.2.1 : Int), (q.2.2.2.1 : Int), (n : Int), q.2.2.2.2.1, q.2.2.2.2.2)) (a, b, 0, 0, fresh n, List.replicate n zblk) (by unfold FUEL; simp) ⟨by simp, by simp, by simp, hs0⟩ ?_ ?_ ?_
  · rintro pre puts rest ⟨a, b, x, y, d, blocks⟩ hpre ⟨hl, hx, hy, hs⟩
    simp only at hl hx hy hs ⊢
    have hpl : pre.length < 2 := by have := congrArg List.length hpre; simp at this; omega
    have hput : puts.length ≤ 40 ∧ (bif cm .eql (pre.length : Int) (1 : Int) then two else one) = puts := by
      match pre, hpre with
      | [], hpre => simp only [List.nil_append, List.cons.injEq] at hpre; exact ⟨by rw [← hpre.1]; omega, hpre.1⟩
      | [_], hpre => simp only [List.cons_append, List.nil_append, List.cons.injEq] at hpre; exact ⟨by rw [← hpre.2.1]; omega, hpre.2.1⟩
      | _ :: _ :: _, _ => exfalso; simp only [List.length_cons] at hpl; omega
    obtain ⟨hp40, hsel⟩ := hput
    rw [cl, decide_eq_true (show (pre.length : Int) < 2 by omega), cond_true, jp_if, hsel, jp_if, or4, Option.bind_some, jp_if, err_loop n puts (by omega), ce_is]
    by_cases hc : ceOf n puts a b = 0
    · subst hl
      obtain ⟨d', x', y', rfl, rfl, hx', hy', hpr, e, hs'⟩ := commit_good hs h0 h3 puts a b hc
      rw [hc, e, Option.bind_some]
      simp only [is_none0, Option.bind_some, Bool.not_true, cond_false]
      have e00 : cm .eql (0 : Int) (0 : Int) = true := rfl
      simp only [e00, cond_true]
      refine ⟨((y' : Int), (x' : Int), x', y', d', putAll blocks puts), ?_, by rw [putAll_len], hx', hy', hs'⟩
      simp only [jp]
      rw [put_loop puts (by omega) blocks hpr]
      have hse2 := sees_is hs' hx' hy'
      rw [putAll_len] at hse2
      rw [hse2, Option.bind_some, nxt (by omega)]
      rfl
    · rw [commit_bad d n puts a b (by omega) hc, Option.bind_some]
      simp only [is_err _ (fun h => hc h), Option.bind_some, Bool.not_true, cond_false]
      have e00 : cm .eql (ceOf n puts a b) (0 : Int) = false := by rw [ce, decide_eq_false hc]
      simp only [e00, cond_false]
      refine ⟨(b, a, x, y, d, blocks), ?_, hl, hx, hy, hs⟩
      simp only [jp]
      have hse2 := sees_is hs hx hy
      rw [hl] at hse2
      rw [hse2, Option.bind_some, nxt (by omega)]
      rfl
  · rintro ⟨a, b, x, y, d, blocks⟩ _
    rfl
  · rintro ⟨a, b, x, y, d, blocks⟩ ⟨hl, hx, hy, hs⟩
    simp only at hl hx hy hs ⊢
    subst hl
    rw [disk_is hs, Option.bind_some, open_seen hs h0 h3, Option.bind_some]
    simp only [Option.isNone_none, cond_true]
    rw [sees_is hs hx hy]
    rfl
end Go.Pl
