/- The plain law: the model of the law answers true. Conditions: none. -/
import Derived.Test.YteckohdbfkhmdabMoEpochSays
set_option linter.unusedVariables false
set_option linter.unusedSimpArgs false
namespace Go.Pl
open Go Go.Sw

/-- going over a list, with what is carried, till something is done -/
def foldS {A B D : Type} (g : Nat → A → B → Step B D) (fin : B → D) : Nat → B → List A → D
  | _, acc, [] => fin acc
  | i, acc, x :: xs => match g i x acc with
    | .next acc' => foldS g fin (i + 1) acc' xs
    | .done d => d

def stp {α B D : Type} (st : Nat → B → α) (i : Nat) : Step B D → Step α D
  | .next a => .next (st i a)
  | .done d => .done d
def out {β γ : Type} (k : β → Option γ) : Ex β γ → Option γ
  | .brk y => k y
  | .ret z => some z

theorem loop_list {α A B D : Type} {step : α → Option (Step α D)} {l : List A} (st : Nat → B → α) (g : Nat → A → B → Step B D) (fin : B → D)
    (hs : ∀ pre x rest acc, l = pre ++ x :: rest → step (st pre.length acc) = some (stp st (pre.length + 1) (g pre.length x acc)))
    (he : ∀ acc, step (st l.length acc) = some (.done (fin acc))) :
    ∀ (rest pre : List A) (acc : B) (f : Nat), l = pre ++ rest → rest.length < f → loop step f (st pre.length acc) = some (foldS g fin pre.length acc rest)
  | [], pre, acc, f, hl, hf => by
    obtain ⟨f, rfl⟩ : ∃ f', f = f' + 1 := ⟨f - 1, by simp at hf; omega⟩
    have := he acc
    rw [hl, List.append_nil] at this
    simp [loop, this, foldS]
  | x :: rest, pre, acc, f, hl, hf => by
    obtain ⟨f, rfl⟩ : ∃ f', f = f' + 1 := ⟨f - 1, by simp at hf; omega⟩
    have h1 := hs pre x rest acc hl
    simp only [loop, h1, foldS]
    cases hg : g pre.length x acc with
    | done d => rfl
    | next acc' =>
      have ih := loop_list st g fin hs he rest (pre ++ [x]) acc' f (by rw [hl]; simp) (by simp at hf; omega)
      simpa [stp] using ih

theorem lp_list {α A B β γ : Type} {step : α → Option (Step α (Ex β γ))} {l : List A} {k : β → Option γ} (st : Nat → B → α) (acc0 : B) (g : Nat → A → B → Step B (Ex β γ)) (fin : B → Ex β γ) (hf : l.length < FUEL)
    (hs : ∀ pre x rest acc, l = pre ++ x :: rest → step (st pre.length acc) = some (stp st (pre.length + 1) (g pre.length x acc)))
    (he : ∀ acc, step (st l.length acc) = some (.done (fin acc))) :
    lp step (st 0 acc0) k = out k (foldS g fin 0 acc0 l) := by
  have h := loop_list st g fin hs he l [] acc0 FUEL rfl hf
  unfold lp
  simp only [List.length_nil] at h
  rw [h]
  cases foldS g fin 0 acc0 l <;> rfl

theorem idx_app {α : Type} (pre : List α) (x : α) (rest : List α) : Sw.idx (pre ++ x :: rest) (pre.length : Int) = some x := by
  unfold Sw.idx; simp
theorem inc {n m : Nat} (h : n < m) (hm : m ≤ 4611686018427387904) : ar .add .i64 (n : Int) 1 = ((n + 1 : Nat) : Int) := by
  unfold ar; simp only [IntKind.wrap, IntKind.signed, IntKind.bits]; simp; omega
theorem lss_app {α : Type} (pre : List α) (x : α) (rest : List α) : cm .lss (pre.length : Int) ((pre ++ x :: rest).length : Int) = true := by
  unfold cm; simp; omega
theorem lss_self {n : Nat} : cm .lss (n : Int) (n : Int) = false := by unfold cm; simp
end Go.Pl

namespace Go.Pl
open Go Go.Sw

theorem lp_count {α β γ : Type} {step : α → Option (Step α (Ex β γ))} {k : β → Option γ} (st : Nat → α) (n : Nat) (y : β) (hf : n < FUEL) (hs : ∀ i, i < n → step (st i) = some (.next (st (i + 1)))) (he : step (st n) = some (.done (.brk y))) : lp step (st 0) k = k y := by
  have h : ∀ m i, i + m = n → ∀ f, m < f → loop step f (st i) = some (.brk y) := by
    intro m
    induction m with
    | zero =>
      intro i hi f hf
      obtain ⟨f, rfl⟩ : ∃ f', f = f' + 1 := ⟨f - 1, by omega⟩
      simp only [Nat.add_zero] at hi
      subst hi
      simp [loop, he]
    | succ m ih =>
      intro i hi f hf
      obtain ⟨f, rfl⟩ : ∃ f', f = f' + 1 := ⟨f - 1, by omega⟩
      simp only [loop, hs i (by omega)]
      exact ih (i + 1) (by omega) f (by omega)
  unfold lp
  rw [h n 0 (by omega) FUEL hf]

theorem wrap_i64 {n : Int} (h : -9223372036854775808 ≤ n ∧ n ≤ 9223372036854775807) : IntKind.wrap .i64 n = n := wrap_id (k := .i64) (by unfold inK; simp [IntKind.min, IntKind.max, IntKind.signed, IntKind.bits]; omega)
theorem wrap_u8 {n : Int} (h : 0 ≤ n ∧ n ≤ 255) : IntKind.wrap .u8 n = n := wrap_id (k := .u8) (by unfold inK; simp [IntKind.min, IntKind.max, IntKind.signed, IntKind.bits]; omega)
theorem wrap_u32 {n : Int} (h : 0 ≤ n ∧ n ≤ 4294967295) : IntKind.wrap .u32 n = n := wrap_id (k := .u32) (by unfold inK; simp [IntKind.min, IntKind.max, IntKind.signed, IntKind.bits]; omega)
theorem ofInt_nat (w n : Nat) : BitVec.ofInt w (n : Int) = BitVec.ofNat w n := by
  apply BitVec.eq_of_toNat_eq
  simp
theorem xor32 {a b : Nat} (ha : a < 4294967296) (hb : b < 4294967296) : ar .xor .u32 (a : Int) (b : Int) = ((a ^^^ b : Nat) : Int) := by
  have h : a ^^^ b < 2 ^ 32 := Nat.xor_lt_two_pow (by simpa using ha) (by simpa using hb)
  show IntKind.wrap .u32 ((BitVec.ofInt 32 (a : Int) ^^^ BitVec.ofInt 32 (b : Int)).toNat : Int) = _
  simp only [ofInt_nat, BitVec.toNat_xor, BitVec.toNat_ofNat]
  rw [Nat.mod_eq_of_lt (by simpa using ha), Nat.mod_eq_of_lt (by simpa using hb)]
  exact wrap_u32 (by simp at h; omega)
theorem and32 {a : Nat} (ha : a < 4294967296) : ar .and .u32 (a : Int) 1 = ((a % 2 : Nat) : Int) := by
  show IntKind.wrap .u32 ((BitVec.ofInt 32 (a : Int) &&& BitVec.ofInt 32 ((1 : Nat) : Int)).toNat : Int) = _
  simp only [ofInt_nat, BitVec.toNat_and, BitVec.toNat_ofNat]
  rw [Nat.mod_eq_of_lt (a := a) (by simpa using ha), Nat.mod_eq_of_lt (a := 1) (by decide), Nat.and_one_is_mod]
  exact wrap_u32 (by omega)
theorem mul32 {a : Nat} (ha : a < 2) : ar .mul .u32 3988292384 (a : Int) = ((if a = 1 then 3988292384 else 0 : Nat) : Int) := by
  have : a = 0 ∨ a = 1 := by omega
  rcases this with rfl | rfl
  · rfl
  · decide
theorem shr1 {a : Nat} : sh .shr .u32 (a : Int) 1 = ((a / 2 : Nat) : Int) := by
  show Int.fdiv _ _ = _
  have : (2 : Int) ^ min (1 : Int).toNat (IntKind.bits .u32) = 2 := by decide
  rw [this, Int.fdiv_eq_ediv_of_nonneg _ (by omega)]
  omega
theorem not32 {a : Nat} (ha : a < 4294967296) : bnot .u32 (a : Int) = ((4294967295 - a : Nat) : Int) := by
  unfold bnot
  show IntKind.wrap .u32 ((BitVec.allOnes 32 ^^^ BitVec.ofInt 32 (a : Int)).toNat : Int) = _
  simp only [ofInt_nat, BitVec.allOnes_xor, BitVec.toNat_not, BitVec.toNat_ofNat]
  rw [Nat.mod_eq_of_lt (by simpa using ha)]
  exact wrap_u32 (by omega)
theorem tdiv_nat (a b : Nat) : Int.tdiv (a : Int) (b : Int) = ((a / b : Nat) : Int) := rfl
theorem tmod_nat (a b : Nat) : Int.tmod (a : Int) (b : Int) = ((a % b : Nat) : Int) := rfl
theorem quo64 {a b : Nat} (ha : a ≤ 9223372036854775807) : ar .quo .i64 (a : Int) (b : Int) = ((a / b : Nat) : Int) := by
  show IntKind.wrap .i64 _ = _
  rw [tdiv_nat]
  have := Nat.div_le_self a b
  generalize a / b = q at *
  exact wrap_i64 (by omega)
theorem rem64 {a b : Nat} : ar .rem .i64 (a : Int) (b : Int) = ((a % b : Nat) : Int) := rfl
theorem add64 {a b : Nat} (h : a + b ≤ 9223372036854775807) : ar .add .i64 (a : Int) (b : Int) = ((a + b : Nat) : Int) := by
  show IntKind.wrap .i64 _ = _
  rw [← Int.natCast_add]; exact wrap_i64 (by omega)
theorem mul64 {a b : Nat} (h : a * b ≤ 9223372036854775807) : ar .mul .i64 (a : Int) (b : Int) = ((a * b : Nat) : Int) := by
  show IntKind.wrap .i64 _ = _
  rw [← Int.natCast_mul]; exact wrap_i64 (by omega)
theorem nz_ok {n : Int} (h : n ≠ 0) : nz n = some () := by unfold nz; rw [if_neg h]
theorem cm_lss {a b : Nat} : cm .lss (a : Int) (b : Int) = decide (a < b) := by unfold cm; simp
theorem bit_xor (a b i : Nat) : (a ^^^ b) / 2 ^ i % 2 = (a / 2 ^ i + b / 2 ^ i) % 2 := by
  have h := Nat.testBit_xor a b i
  simp only [Nat.testBit_eq_decide_div_mod_eq] at h
  have ha := Nat.mod_two_eq_zero_or_one (a / 2 ^ i)
  have hb := Nat.mod_two_eq_zero_or_one (b / 2 ^ i)
  have hc := Nat.mod_two_eq_zero_or_one ((a ^^^ b) / 2 ^ i)
  rw [Nat.add_mod]
  rcases ha with ha | ha <;> rcases hb with hb | hb <;> rcases hc with hc | hc <;> simp [ha, hb, hc] at h ⊢
theorem xor_half (a b : Nat) : (a ^^^ b) / 2 = a / 2 ^^^ b / 2 := by
  have := Nat.shiftRight_xor_distrib (i := 1) (a := a) (b := b)
  simpa [Nat.shiftRight_eq_div_pow] using this
end Go.Pl

namespace Go.Pl
open Go Go.Sw
/-- bytes -/
def Bytes (l : List Int) : Prop := ∀ x ∈ l, 0 ≤ x ∧ x ≤ 255
def nat (l : List Int) : List Nat := l.map Int.toNat
theorem nat_byte {l : List Int} (h : Bytes l) : ∀ b ∈ nat l, b < 256 := by
  intro b hb
  obtain ⟨x, hx, rfl⟩ := List.mem_map.1 hb
  have := h x hx; omega

/-- as lp_list, with what holds on the way -/
theorem lp_inv {α A B β γ : Type} {step : α → Option (Step α (Ex β γ))} {l : List A} {k : β → Option γ} (st : Nat → B → α) (I : Nat → B → Prop) (acc0 : B) (g : Nat → A → B → B) (fin : B → β) (hf : l.length < FUEL) (h0 : I 0 acc0)
    (hs : ∀ pre x rest acc, l = pre ++ x :: rest → I pre.length acc → step (st pre.length acc) = some (.next (st (pre.length + 1) (g pre.length x acc))) ∧ I (pre.length + 1) (g pre.length x acc))
    (he : ∀ acc, I l.length acc → step (st l.length acc) = some (.done (.brk (fin acc)))) :
    lp step (st 0 acc0) k = k (fin ((l.zipIdx).foldl (fun acc x => g x.2 x.1 acc) acc0)) := by
  have key : ∀ (rest pre : List A) (acc : B) (f : Nat), l = pre ++ rest → I pre.length acc → rest.length < f → loop step f (st pre.length acc) = some (.brk (fin ((rest.zipIdx pre.length).foldl (fun acc x => g x.2 x.1 acc) acc))) := by
    intro rest
    induction rest with
    | nil =>
      intro pre acc f hl hI hf
      obtain ⟨f, rfl⟩ : ∃ f', f = f' + 1 := ⟨f - 1, by simp at hf; omega⟩
      have := he acc (by rw [hl, List.append_nil]; exact hI)
      rw [hl, List.append_nil] at this
      simp [loop, this]
    | cons x rest ih =>
      intro pre acc f hl hI hf
      obtain ⟨f, rfl⟩ : ∃ f', f = f' + 1 := ⟨f - 1, by simp at hf; omega⟩
      obtain ⟨h1, h2⟩ := hs pre x rest acc hl hI
      simp only [loop, h1]
      have := ih (pre ++ [x]) (g pre.length x acc) f (by rw [hl]; simp) (by simpa using h2) (by simp at hf; omega)
      simpa using this
  have h := key l [] acc0 FUEL rfl h0 hf
  unfold lp
  simp only [List.length_nil] at h
  rw [h]
theorem app_small {α : Type} (xs ys : List α) (h : xs.length + ys.length ≤ 4294967296) : Sw.app xs ys = some (xs ++ ys) := by unfold Sw.app; rw [if_pos h]
theorem foldl_zipIdx {A : Type} (w : A → List Int) : ∀ (l : List A) (i : Nat) (acc : List Int), (l.zipIdx i).foldl (fun acc x => acc ++ w x.1) acc = acc ++ l.flatMap w
  | [], _, acc => by simp
  | x :: l, i, acc => by simp [foldl_zipIdx w l]
end Go.Pl

namespace Go.Pl
open Go Go.Sw
/-- it lies somewhere so -/
def Wf {α : Type} (e : Enc α) (x : α) : Prop := ∃ S w cs, e.ok x S w cs
theorem Wf.int {k : IntKind} {n : Int} (h : Wf (Enc.int k) n) : inK k n := by obtain ⟨_, _, _, h⟩ := h; exact h.2
theorem okL_all {α : Type} {e : Enc α} {S w} : ∀ {xs : List α} {cs}, e.okL xs S w cs → ∀ x ∈ xs, Wf e x
  | [], _, _, x, hx => by simp at hx
  | y :: ys, _, ⟨c, d, _, h2, h3⟩, x, hx => by
    rcases List.mem_cons.1 hx with rfl | hx
    · exact ⟨_, _, _, h2⟩
    · exact okL_all h3 x hx
theorem Wf.arr {α : Type} {m : Nat} {e : Enc α} {xs : List α} (h : Wf (Enc.arr m e) xs) : xs.length = m ∧ ∀ x ∈ xs, Wf e x := by
  obtain ⟨_, _, _, h1, h2⟩ := h; exact ⟨h1, okL_all h2⟩
theorem Wf.sl {α : Type} {e : Enc α} {xs : List α} (h : Wf (Enc.sl e) xs) : xs.length ≤ 140737488355328 ∧ ∀ x ∈ xs, Wf e x := by
  obtain ⟨_, _, _, a, cap, _, h2, h3⟩ := h
  refine ⟨h2.2, ?_⟩
  rcases h3 with rfl | ⟨b, off, ds, _, _, _, _, h4⟩
  · intro x hx; simp at hx
  · exact okL_all h4
theorem Wf.pr {α β : Type} {a : Enc α} {b : Enc β} {x : α × β} (h : Wf (Enc.pr a b) x) : Wf a x.1 ∧ Wf b x.2 := by
  obtain ⟨_, _, _, c, d, _, h1, h2⟩ := h; exact ⟨⟨_, _, _, h1⟩, ⟨_, _, _, h2⟩⟩
theorem Wf.one1 {α : Type} {a : Enc α} {x : α} (h : Wf (Enc.one1 a) x) : Wf a x := h
theorem Wf.of_val {α : Type} {e : Enc α} {x : α} {S w v} (h : e.val x S w v) : Wf e x := by obtain ⟨cs, h, _⟩ := h; exact ⟨_, _, _, h⟩
end Go.Pl

namespace Go.Pl
open Go Go.Sw
theorem cl (m n : Int) : cm .lss m n = decide (m < n) := rfl
theorem cg (m n : Int) : cm .gtr m n = decide (m > n) := rfl
theorem cle (m n : Int) : cm .leq m n = decide (m ≤ n) := rfl
theorem cge (m n : Int) : cm .geq m n = decide (m ≥ n) := rfl
theorem ce (m n : Int) : cm .eql m n = decide (m = n) := by show (m == n) = _; by_cases h : m = n <;> simp [h]
theorem cn (m n : Int) : cm .neq m n = decide (m ≠ n) := by show (m != n) = _; by_cases h : m = n <;> simp [h]
theorem addI {m n : Int} (h : -9223372036854775808 ≤ m + n ∧ m + n ≤ 9223372036854775807) : ar .add .i64 m n = m + n := wrap_i64 h
theorem subI {m n : Int} (h : -9223372036854775808 ≤ m - n ∧ m - n ≤ 9223372036854775807) : ar .sub .i64 m n = m - n := wrap_i64 h
theorem nxt {n : Nat} (h : n ≤ 4611686018427387904) : ar .add .i64 (n : Int) 1 = ((n + 1 : Nat) : Int) := by rw [addI (by omega)]; push_cast; rfl
/-- a list gone through, each element looked at: one that is bad ends it -/
theorem lp_any {α A β γ : Type} {step : α → Option (Step α (Ex β γ))} {l : List A} {k : β → Option γ} (st : Nat → α) (bad : A → Bool) (z : γ) (y : β) (hf : l.length < FUEL)
    (hs : ∀ pre x rest, l = pre ++ x :: rest → step (st pre.length) = some (if bad x then .done (.ret z) else .next (st (pre.length + 1)))) (he : step (st l.length) = some (.done (.brk y))) :
    lp step (st 0) k = if l.any bad then some z else k y := by
  have key : ∀ (rest pre : List A) (f : Nat), l = pre ++ rest → rest.length < f → loop step f (st pre.length) = some (if rest.any bad then .ret z else .brk y) := by
    intro rest
    induction rest with
    | nil =>
      intro pre f hl hf
      obtain ⟨f, rfl⟩ : ∃ f', f = f' + 1 := ⟨f - 1, by simp at hf; omega⟩
      rw [List.append_nil] at hl
      rw [← hl]
      simp [loop, he]
    | cons x rest ih =>
      intro pre f hl hf
      obtain ⟨f, rfl⟩ : ∃ f', f = f' + 1 := ⟨f - 1, by simp at hf; omega⟩
      simp only [loop, hs pre x rest hl, List.any_cons]
      by_cases hb : bad x = true
      · simp [hb]
      · have := ih (pre ++ [x]) f (by rw [hl]; simp) (by simp at hf; omega)
        simp only [Bool.not_eq_true] at hb
        simp only [hb, Bool.false_eq_true, if_false, Bool.false_or]
        simpa using this
  have := key l [] FUEL rfl hf
  unfold lp
  simp only [List.length_nil] at this
  rw [this]
  by_cases hb : l.any bad = true
  · simp only [hb, if_true]
  · simp only [Bool.not_eq_true] at hb
    simp only [hb, Bool.false_eq_true, if_false]
theorem lenF {A : Type} {l : List A} {n : Nat} (h : l.length ≤ n) (hn : n ≤ 140737488355328) : l.length < FUEL := by unfold FUEL; omega
/-- the same, with the state told once more -/
theorem lss_len {A : Type} {l pre rest : List A} {x : A} (h : l = pre ++ x :: rest) : cm .lss (pre.length : Int) (l.length : Int) = true := by rw [h]; exact lss_app pre x rest
theorem idx_len {A : Type} {l pre rest : List A} {x : A} (h : l = pre ++ x :: rest) : Sw.idx l (pre.length : Int) = some x := by rw [h]; exact idx_app pre x rest
theorem idx_get {A : Type} {l : List A} {i : Nat} {x : A} (h : l[i]? = some x) : Sw.idx l (i : Int) = some x := by unfold Sw.idx; simp [h]
theorem idx_nat {A : Type} {l : List A} {n : Int} (h0 : 0 ≤ n) (h1 : n < l.length) : ∃ x, Sw.idx l n = some x ∧ l[n.toNat]? = some x := by
  have : n.toNat < l.length := by omega
  exact ⟨l[n.toNat], by unfold Sw.idx; simp [h0, this], by simp [this]⟩
/-- two lists that are the same, element by element -/
theorem same_loop {A : Type} [DecidableEq A] (l : List A) (hl : l.length ≤ 1000000) (k : Unit → Option Bool) :
    lp (β := Unit) (fun (s12 : Int) => bif (cm .lss s12 (l.length : Int)) then (Sw.idx l s12).bind fun z20 => (Sw.idx l s12).bind fun z21 => bif (!decide (z20 = z21)) then some (.done (.ret false)) else some (.next (ar .add .i64 s12 (1 : Int))) else some (.done (.brk ()))) (0 : Int) k = k () := by
  rw [show (0 : Int) = (fun (i : Nat) => (i : Int)) 0 from rfl]
  rw [lp_any (l := l) (fun (i : Nat) => (i : Int)) (fun _ => false) false () (lenF hl (by decide))]
  · simp
  · intro pre x rest h
    simp only [lss_len h, cond_true, idx_len h, Option.bind_some]
    rw [nxt (by rw [h] at hl; simp at hl; omega)]
    simp
  · simp only [lss_self, cond_false]
theorem wf_byte {n : Int} (h : Wf (Enc.int .u8) n) : 0 ≤ n ∧ n ≤ 255 := by
  have := h.int
  unfold inK at this
  simpa [IntKind.min, IntKind.max, IntKind.signed, IntKind.bits] using this
theorem wf_i64 {n : Int} (h : Wf (Enc.int .i64) n) : -9223372036854775808 ≤ n ∧ n ≤ 9223372036854775807 := by
  have := h.int
  unfold inK at this
  simpa [IntKind.min, IntKind.max, IntKind.signed, IntKind.bits] using this
theorem wf_bytes {l : List Int} (h : Wf (Enc.sl (Enc.int .u8)) l) : Bytes l := fun x hx => wf_byte (h.sl.2 x hx)

/-- the first bad one, by its number -/
theorem lp_find {α A β γ : Type} {step : α → Option (Step α (Ex β γ))} {l : List A} {k : β → Option γ} (st : Nat → α) (bad : A → Bool) (z : Nat → γ) (y : β) (hf : l.length < FUEL)
    (hs : ∀ pre x rest, l = pre ++ x :: rest → step (st pre.length) = some (if bad x then .done (.ret (z pre.length)) else .next (st (pre.length + 1)))) (he : step (st l.length) = some (.done (.brk y))) :
    lp step (st 0) k = match l.findIdx? bad with | some j => some (z j) | none => k y := by
  have key : ∀ (rest pre : List A) (f : Nat), l = pre ++ rest → rest.length < f → loop step f (st pre.length) = some (match rest.findIdx? bad with | some j => .ret (z (pre.length + j)) | none => .brk y) := by
    intro rest
    induction rest with
    | nil =>
      intro pre f hl hf
      obtain ⟨f, rfl⟩ : ∃ f', f = f' + 1 := ⟨f - 1, by simp at hf; omega⟩
      rw [List.append_nil] at hl
      rw [← hl]
      simp [loop, he]
    | cons x rest ih =>
      intro pre f hl hf
      obtain ⟨f, rfl⟩ : ∃ f', f = f' + 1 := ⟨f - 1, by simp at hf; omega⟩
      simp only [loop, hs pre x rest hl, List.findIdx?_cons]
      by_cases hb : bad x = true
      · simp [hb]
      · have := ih (pre ++ [x]) f (by rw [hl]; simp) (by simp at hf; omega)
        simp only [Bool.not_eq_true] at hb
        simp only [hb, Bool.false_eq_true, if_false]
        rw [List.length_append, List.length_singleton] at this
        rw [this]
        cases rest.findIdx? bad with
        | none => rfl
        | some j => simp only [Option.map_some]; congr 3; omega
  have := key l [] FUEL rfl hf
  unfold lp
  simp only [List.length_nil, Nat.zero_add] at this
  rw [this]
  cases l.findIdx? bad <;> rfl
theorem any_findIdx {A : Type} (l : List A) (bad : A → Bool) : l.any bad = (l.findIdx? bad).isSome := by
  simp
end Go.Pl

namespace Go.Pl
open Go Go.Sw
/-- going over a list, with what is carried, till something is done -/
def foldG {A B D : Type} (g : B → A → Step B D) (fin : B → D) : B → List A → D
  | acc, [] => fin acc
  | acc, x :: xs => match g acc x with
    | .next acc' => foldG g fin acc' xs
    | .done d => d
theorem lp_walk {α A B β γ : Type} {step : α → Option (Step α (Ex β γ))} {l : List A} {k : β → Option γ} (st : Nat → B → α) (I : List A → B → Prop) (g : B → A → Step B (Ex β γ)) (fin : B → Ex β γ) (acc0 : B) (hf : l.length < FUEL) (h0 : I [] acc0)
    (hs : ∀ pre x rest acc, l = pre ++ x :: rest → I pre acc → step (st pre.length acc) = some (stp st (pre.length + 1) (g acc x)) ∧ ∀ acc', g acc x = .next acc' → I (pre ++ [x]) acc')
    (he : ∀ acc, I l acc → step (st l.length acc) = some (.done (fin acc))) :
    lp step (st 0 acc0) k = out k (foldG g fin acc0 l) := by
  have key : ∀ (rest pre : List A) (acc : B) (f : Nat), l = pre ++ rest → I pre acc → rest.length < f → loop step f (st pre.length acc) = some (foldG g fin acc rest) := by
    intro rest
    induction rest with
    | nil =>
      intro pre acc f hl hI hf
      obtain ⟨f, rfl⟩ : ∃ f', f = f' + 1 := ⟨f - 1, by simp at hf; omega⟩
      rw [List.append_nil] at hl
      subst hl
      simp [loop, he acc hI, foldG]
    | cons x rest ih =>
      intro pre acc f hl hI hf
      obtain ⟨f, rfl⟩ : ∃ f', f = f' + 1 := ⟨f - 1, by simp at hf; omega⟩
      obtain ⟨h1, h2⟩ := hs pre x rest acc hl hI
      simp only [loop, h1, foldG]
      cases hg : g acc x with
      | done d => rfl
      | next acc' =>
        have := ih (pre ++ [x]) acc' f (by rw [hl]; simp) (h2 acc' hg) (by simp at hf; omega)
        simpa [stp] using this
  have h := key l [] acc0 FUEL rfl h0 hf
  unfold lp
  simp only [List.length_nil] at h
  rw [h]
  cases foldG g fin acc0 l <;> rfl
/-- a list gone through to its end -/
theorem lp_go {α A B β γ : Type} {step : α → Option (Step α (Ex β γ))} {l : List A} {k : β → Option γ} (st : Nat → B → α) (I : List A → B → Prop) (fin : B → β) (acc0 : B) (hf : l.length < FUEL) (h0 : I [] acc0)
    (hs : ∀ pre x rest acc, l = pre ++ x :: rest → I pre acc → ∃ acc', step (st pre.length acc) = some (.next (st (pre.length + 1) acc')) ∧ I (pre ++ [x]) acc')
    (he : ∀ acc, I l acc → step (st l.length acc) = some (.done (.brk (fin acc)))) : ∃ acc, I l acc ∧ lp step (st 0 acc0) k = k (fin acc) := by
  have key : ∀ (rest pre : List A) (acc : B) (f : Nat), l = pre ++ rest → I pre acc → rest.length < f → ∃ acc', I l acc' ∧ loop step f (st pre.length acc) = some (.brk (fin acc')) := by
    intro rest
    induction rest with
    | nil =>
      intro pre acc f hl hI hf
      obtain ⟨f, rfl⟩ : ∃ f', f = f' + 1 := ⟨f - 1, by simp at hf; omega⟩
      rw [List.append_nil] at hl
      subst hl
      exact ⟨acc, hI, by simp [loop, he acc hI]⟩
    | cons x rest ih =>
      intro pre acc f hl hI hf
      obtain ⟨f, rfl⟩ : ∃ f', f = f' + 1 := ⟨f - 1, by simp at hf; omega⟩
      obtain ⟨acc', h1, h2⟩ := hs pre x rest acc hl hI
      obtain ⟨a2, h3, h4⟩ := ih (pre ++ [x]) acc' f (by rw [hl]; simp) h2 (by simp at hf; omega)
      exact ⟨a2, h3, by simp only [loop, h1]; simpa using h4⟩
  obtain ⟨acc, h1, h2⟩ := key l [] acc0 FUEL rfl h0 hf
  exact ⟨acc, h1, by unfold lp; simp only [List.length_nil] at h2; rw [h2]⟩
theorem lp_go' {α A B β γ : Type} {step : α → Option (Step α (Ex β γ))} {l : List A} {k : β → Option γ} {r : Option γ} (st : Nat → B → α) (I : List A → B → Prop) (fin : B → β) (acc0 : B) (hf : l.length < FUEL) (h0 : I [] acc0)
    (hs : ∀ pre x rest acc, l = pre ++ x :: rest → I pre acc → ∃ acc', step (st pre.length acc) = some (.next (st (pre.length + 1) acc')) ∧ I (pre ++ [x]) acc')
    (he : ∀ acc, I l acc → step (st l.length acc) = some (.done (.brk (fin acc)))) (hr : ∀ acc, I l acc → k (fin acc) = r) : lp step (st 0 acc0) k = r := by
  obtain ⟨acc, h1, h2⟩ := lp_go (k := k) st I fin acc0 hf h0 hs he
  rw [h2, hr acc h1]
/-- a loop that comes closer each round -/
theorem lp_meas {α β γ : Type} {step : α → Option (Step α (Ex β γ))} {k : β → Option γ} (I : α → Prop) (m : α → Nat) (R : β → Prop) (s0 : α) (hm : m s0 < FUEL) (h0 : I s0)
    (hs : ∀ s, I s → (∃ s', step s = some (.next s') ∧ I s' ∧ m s' < m s) ∨ ∃ y, step s = some (.done (.brk y)) ∧ R y) : ∃ y, R y ∧ lp step s0 k = k y := by
  have key : ∀ (n : Nat) (s : α) (f : Nat), m s ≤ n → n < f → I s → ∃ y, R y ∧ loop step f s = some (.brk y) := by
    intro n
    induction n with
    | zero =>
      intro s f hn hf hI
      obtain ⟨f, rfl⟩ : ∃ f', f = f' + 1 := ⟨f - 1, by omega⟩
      rcases hs s hI with ⟨s', h1, h2, h3⟩ | ⟨y, h1, h2⟩
      · omega
      · exact ⟨y, h2, by simp [loop, h1]⟩
    | succ n ih =>
      intro s f hn hf hI
      obtain ⟨f, rfl⟩ : ∃ f', f = f' + 1 := ⟨f - 1, by omega⟩
      rcases hs s hI with ⟨s', h1, h2, h3⟩ | ⟨y, h1, h2⟩
      · obtain ⟨y, k1, k2⟩ := ih s' f (by omega) (by omega) h2
        exact ⟨y, k1, by simp [loop, h1, k2]⟩
      · exact ⟨y, h2, by simp [loop, h1]⟩
  obtain ⟨y, h1, h2⟩ := key (m s0) s0 FUEL (Nat.le_refl _) hm h0
  exact ⟨y, h1, by unfold lp; rw [h2]⟩
/-- the middle of two numbers -/
theorem mid {i j : Nat} (h : i + j ≤ 4611686018427387904) : IntKind.wrap .i64 (sh .shr .u64 (IntKind.wrap .u64 (ar .add .i64 (i : Int) (j : Int))) (1 : Int)) = (((i + j) / 2 : Nat) : Int) := by
  rw [addI (by omega)]
  have h1 : IntKind.wrap .u64 ((i : Int) + (j : Int)) = (i : Int) + (j : Int) := wrap_id (k := .u64) (by unfold inK; simp [IntKind.min, IntKind.max, IntKind.signed, IntKind.bits]; omega)
  rw [h1]
  have h2 : sh .shr .u64 ((i : Int) + (j : Int)) 1 = (((i + j) / 2 : Nat) : Int) := by
    show Int.fdiv _ _ = _
    have : (2 : Int) ^ min (1 : Int).toNat (IntKind.bits .u64) = 2 := by decide
    rw [this, Int.fdiv_eq_ediv_of_nonneg _ (by omega)]
    omega
  rw [h2]
  exact wrap_i64 (by omega)
theorem bin (c : Bool) {γ : Type} (x y : Option γ) : (bif c then x else y) = if c = true then x else y := by cases c <;> rfl
end Go.Pl

namespace Go.Pl
open Go Go.Sw Go.Mo
abbrev Put := Int × Blk
abbrev Ep := Int × List Put
abbrev Bd := Int × List Put × List Ep × Bool
/-- places of n blocks, each above the one ahead -/
def risB (n : Int) : Int → List Put → Bool
  | _, [] => true
  | last, x :: l => if x.1 ≤ last ∨ x.1 ≥ n then false else risB n x.1 l
def risG (n : Int) (last : Int) (x : Put) : Step Int (Ex Unit Bool) := if x.1 ≤ last ∨ x.1 ≥ n then .done (.ret false) else .next x.1
theorem risG_is (n : Int) : ∀ (l : List Put) (last : Int), foldG (risG n) (fun _ => .brk ()) last l = bif risB n last l then .brk () else .ret false
  | [], _ => rfl
  | x :: l, last => by
    simp only [foldG, risG, risB]
    by_cases h : x.1 ≤ last ∨ x.1 ≥ n
    · simp only [if_pos h, cond_false]
    · simp only [if_neg h]
      exact risG_is n l x.1
theorem rising_is (l : List Put) (n : Int) (hl : l.length ≤ 1000000) : m_epoch_rising l n = some (risB n (-1) l) := by
  unfold m_epoch_rising
  rw [show ((-1 : Int), (0 : Int)) = (fun (i : Nat) (a : Int) => (a, (i : Int))) 0 (-1) from rfl]
  rw [lp_walk (l := l) (fun (i : Nat) (a : Int) => (a, (i : Int))) (fun _ _ => True) (risG n) (fun _ => .brk ()) (-1) (lenF hl (by decide)) trivial]
  · rw [risG_is]
    cases risB n (-1) l <;> rfl
  · intro pre x rest acc h _
    refine ⟨?_, fun _ _ => trivial⟩
    simp only [lss_len h, cond_true, idx_len h, Option.bind_some, cle, cge, bin, nxt (show pre.length ≤ 4611686018427387904 by rw [h] at hl; simp at hl; omega), risG]
    by_cases h1 : x.1 ≤ acc
    · simp [h1, stp]
    · by_cases h2 : x.1 ≥ n
      · simp [h1, h2, stp]
      · simp [h1, h2, stp]
  · intro acc _
    simp only [lss_self, cond_false]
/-- the last place so far -/
def lastOf (l : List Put) : Int := (l.getLast?.map (·.1)).getD (-1)
theorem refRising_is (l : List Put) (n : Int) (hl : l.length ≤ 1000000) : m_ref_Rising l n = some (risB n (-1) l) := by
  unfold m_ref_Rising
  show lp _ ((fun (i : Nat) (_ : Int) => (i : Int)) 0 (-1)) _ = _
  rw [lp_walk (l := l) (fun (i : Nat) (_ : Int) => (i : Int)) (fun pre a => (pre = [] → a = -1) ∧ (pre ≠ [] → 0 ≤ a) ∧ ∀ q y, pre = q ++ [y] → a = y.1) (risG n) (fun _ => .brk ()) (-1) (lenF hl (by decide)) ⟨fun _ => rfl, fun h => absurd rfl h, fun q y h => by simp at h⟩]
  · rw [risG_is]
    cases risB n (-1) l <;> rfl
  · intro pre x rest acc h hI
    have hp : pre.length ≤ 1000000 := by rw [h] at hl; simp at hl; omega
    refine ⟨?_, fun acc' hg => ?_⟩
    · simp only [lss_len h, cond_true, idx_len h, Option.bind_some, cle, cge, cl, cg, bin, nxt (show pre.length ≤ 4611686018427387904 by omega), risG]
      rcases List.eq_nil_or_concat pre with rfl | ⟨q, y, rfl⟩
      · have := hI.1 rfl
        subst this
        by_cases h1 : x.1 < 0
        · have h2 : x.1 ≤ -1 := by omega
          simp [h1, h2, stp]
        · have h2 : ¬ (x.1 ≤ -1) := by omega
          by_cases h3 : x.1 ≥ n
          · simp [h1, h2, h3, stp]
          · simp [h1, h2, h3, stp]
      · have ha := hI.2.2 q y (by simp)
        have h0 := hI.2.1 (by simp)
        subst ha
        have hpos : (0 : Int) < ((q.concat y).length : Int) := by simp
        have hy : Sw.idx l (ar .sub .i64 ((q.concat y).length : Int) 1) = some y := by
          rw [subI (by omega)]
          have : ((q.concat y).length : Int) - 1 = (q.length : Int) := by simp
          rw [this]
          exact idx_len (rest := x :: rest) (by rw [h]; simp)
        by_cases h1 : x.1 < 0
        · have h2 : x.1 ≤ y.1 := by omega
          simp [h1, h2, stp]
        · by_cases h3 : x.1 ≥ n
          · simp [h1, h3, stp]
          · simp only [h1, h3, hpos, decide_false, decide_true, if_true, if_false, hy, Option.bind_some, Bool.false_eq_true, ge_iff_le, gt_iff_lt]
            by_cases h4 : x.1 ≤ y.1
            · simp [h4, stp]
            · have h5 : ¬ (n ≤ x.1) := by omega
              simp [h4, h5, stp]
    · simp only [risG] at hg
      split at hg
      · cases hg
      · rename_i hn
        cases hg
        refine ⟨fun h => by simp at h, fun _ => ?_, fun q y h => ?_⟩
        · rcases List.eq_nil_or_concat pre with rfl | ⟨q, y, rfl⟩
          · have := hI.1 rfl; omega
          · have := hI.2.1 (by simp); omega
        · have := List.append_inj_right' h rfl
          simp at this; rw [this]
  · intro acc _
    simp only [lss_self, cond_false]
/-- the number of a builder that may not be, or 0 -/
def seB (n base : Int) : Int → List Ep → Bool
  | _, [] => true
  | i, e :: l => if risB n (-1) e.2 = true ∧ e.1 = base + i then seB n base (i + 1) l else false
def bmay (b : Bd) (n : Int) : Int :=
  if n < 1 ∨ n > 32 ∨ b.1 < 0 ∨ b.1 > 2147483647 then 1 else if b.2.2.1.length > 4 then 2
  else if risB n (-1) b.2.1 = true ∧ ¬ (b.2.2.2 = true ∧ b.2.2.1.length > 0) ∧ (b.2.2.1.length : Int) ≤ b.1 ∧ seB n (b.1 - b.2.2.1.length + 1) 0 b.2.2.1 = true then 0 else 3
/-- the sizes of what is looked at -/
structure Sm (b : Bd) : Prop where
  op : b.2.1.length ≤ 1000000
  se : b.2.2.1.length ≤ 1000000
  ep : ∀ e ∈ b.2.2.1, e.2.length ≤ 1000000
def seG (n base : Int) (i : Int) (e : Ep) : Step Int (Ex Unit Int) := if risB n (-1) e.2 = true ∧ e.1 = base + i then .next (i + 1) else .done (.ret 3)
theorem seG_is (n base : Int) : ∀ (l : List Ep) (i : Int), foldG (seG n base) (fun _ => .brk ()) i l = bif seB n base i l then .brk () else .ret 3
  | [], _ => rfl
  | e :: l, i => by
    simp only [foldG, seG, seB]
    by_cases h : risB n (-1) e.2 = true ∧ e.1 = base + i
    · simp only [if_pos h]
      exact seG_is n base l (i + 1)
    · simp only [if_neg h, cond_false]
theorem mem_split {A : Type} {l pre rest : List A} {x : A} (h : l = pre ++ x :: rest) : x ∈ l := by rw [h]; simp
theorem builderMay_is (b : Bd) (n : Int) (hb : Sm b) : m_ref_BuilderMay b n = some (bmay b n) := by
  have hse := hb.se
  have hloop : ∀ h1 : 0 ≤ b.1 ∧ b.1 ≤ 2147483647, lp (β := Unit) (fun (s44 : Int) =>
              bif (cm .lss s44 (b.2.2.1.length : Int)) then
                ((Sw.idx b.2.2.1 s44).bind fun z64 =>
                  (m_ref_Rising z64.2 n).bind fun v65 =>
                    bif (!v65) then
                      some true
                    else
                      (Sw.idx b.2.2.1 s44).bind fun z67 =>
                        some (cm .neq z67.1 (ar .sub .i64 b.1 (ar .sub .i64 (ar .sub .i64 (b.2.2.1.length : Int) (1 : Int)) s44)))).bind fun x63 =>
                  bif x63 then
                    some (.done (.ret (3 : Int)))
                  else
                    some (.next (ar .add .i64 s44 (1 : Int)))
              else
                some (.done (.brk ()))
              ) (0 : Int) (fun (_ : Unit) =>
            some (0 : Int)) = some (bif seB n (b.1 - b.2.2.1.length + 1) 0 b.2.2.1 then 0 else 3) := by
    intro h1
    show lp _ ((fun (i : Nat) (_ : Int) => (i : Int)) 0 0) _ = _
    rw [lp_walk (l := b.2.2.1) (fun (i : Nat) (_ : Int) => (i : Int)) (fun pre a => a = (pre.length : Int)) (seG n (b.1 - b.2.2.1.length + 1)) (fun _ => .brk ()) 0 (lenF hse (by decide)) rfl]
    · rw [seG_is]
      cases seB n (b.1 - b.2.2.1.length + 1) 0 b.2.2.1 <;> rfl
    · intro pre x rest acc h hI
      subst hI
      have hp : pre.length ≤ 1000000 := by rw [h] at hse; simp at hse; omega
      refine ⟨?_, fun acc' hg => ?_⟩
      · simp only [lss_len h, cond_true, idx_len h, Option.bind_some, refRising_is x.2 n (hb.ep x (mem_split h)), bin, nxt (show pre.length ≤ 4611686018427387904 by omega), seG, cn]
        rw [subI (m := (b.2.2.1.length : Int)) (by omega), subI (m := (b.2.2.1.length : Int) - 1) (by omega), subI (by omega)]
        cases hr : risB n (-1) x.2 with
        | false => simp [hr, stp]
        | true =>
          by_cases h2 : x.1 = b.1 - (b.2.2.1.length : Int) + 1 + (pre.length : Int)
          · have h3 : x.1 = b.1 - ((b.2.2.1.length : Int) - 1 - (pre.length : Int)) := by omega
            simp [hr, ← h2, ← h3, stp]
          · have h3 : ¬ (x.1 = b.1 - ((b.2.2.1.length : Int) - 1 - (pre.length : Int))) := by omega
            simp [hr, h2, h3, stp]
      · simp only [seG] at hg
        split at hg
        · cases hg; simp
        · cases hg
    · intro acc _
      simp only [lss_self, cond_false]
  unfold m_ref_BuilderMay
  simp only [refRising_is b.2.1 n hb.op, Option.bind_some]
  simp only [cl, cg, bin, bmay, decide_eq_true_eq]
  by_cases c1 : n < 1
  · simp [c1]
  by_cases c2 : n > 32
  · simp [c1, c2]
  by_cases c3 : b.1 < 0
  · simp [c1, c2, c3]
  by_cases c4 : b.1 > 2147483647
  · simp [c1, c2, c3, c4]
  have hl := hloop ⟨by omega, by omega⟩
  simp only [cl, bin, decide_eq_true_eq] at hl
  by_cases c5 : (b.2.2.1.length : Int) > 4
  · have c5' : b.2.2.1.length > 4 := by omega
    simp [c1, c2, c3, c4, c5, c5']
  have c5' : ¬ (b.2.2.1.length > 4) := by omega
  simp only [c1, c2, c3, c4, c5, c5', if_false, Option.bind_some, decide_false, Bool.false_eq_true, or_self]
  cases hr : risB n (-1) b.2.1 with
  | false => simp
  | true =>
    simp only [Bool.not_true, Bool.false_eq_true, if_false]
    by_cases c6 : (b.2.2.1.length : Int) > b.1
    · have c6' : ¬ ((b.2.2.1.length : Int) ≤ b.1) := by omega
      cases hbh : b.2.2.2 <;> simp [c6, c6']
    · have c6' : (b.2.2.1.length : Int) ≤ b.1 := by omega
      cases hbh : b.2.2.2 with
      | false =>
        simp only [Bool.false_eq_true, if_false, c6, decide_false, Option.bind_some, hl]
        cases seB n (b.1 - b.2.2.1.length + 1) 0 b.2.2.1 <;> simp [c6']
      | true =>
        by_cases c7 : (b.2.2.1.length : Int) > 0
        · have c7' : b.2.2.1.length > 0 := by omega
          simp [c7, c7']
        · have c7' : ¬ (b.2.2.1.length > 0) := by omega
          simp only [if_true, c7, c7', decide_false, Bool.false_eq_true, if_false, c6, Option.bind_some, hl]
          cases seB n (b.1 - b.2.2.1.length + 1) 0 b.2.2.1 <;> simp [c6']
end Go.Pl

namespace Go.Pl
open Go Go.Sw Go.Mo
def opt (n : Int) : Option Int := if n = 0 then none else some n
theorem is_opt (n : Int) : m_ref_Is (opt n) n = some true := by
  unfold m_ref_Is opt
  by_cases h : n = 0
  · subst h; simp [ce]
  · simp [h, cn]
def chB (n base : Int) : Int → List Ep → Bool
  | _, [] => true
  | i, e :: l => if risB n (-1) e.2 = true ∧ e.1 = base + i ∧ 1 ≤ e.1 then chB n base (i + 1) l else false
def chG (n base : Int) (i : Int) (e : Ep) : Step Int (Ex Unit (Option Int)) := if risB n (-1) e.2 = true ∧ e.1 = base + i ∧ 1 ≤ e.1 then .next (i + 1) else .done (.ret (some 3))
theorem chG_is (n base : Int) : ∀ (l : List Ep) (i : Int), foldG (chG n base) (fun _ => .brk ()) i l = bif chB n base i l then .brk () else .ret (some 3)
  | [], _ => rfl
  | e :: l, i => by
    simp only [foldG, chG, chB]
    by_cases h : risB n (-1) e.2 = true ∧ e.1 = base + i ∧ 1 ≤ e.1
    · simp only [if_pos h]
      exact chG_is n base l (i + 1)
    · simp only [if_neg h, cond_false]
theorem chB_se (n base : Int) (h : 1 ≤ base) : ∀ (l : List Ep) (i : Int), 0 ≤ i → chB n base i l = seB n base i l
  | [], _, _ => rfl
  | e :: l, i, hi => by
    simp only [chB, seB]
    by_cases h1 : risB n (-1) e.2 = true ∧ e.1 = base + i
    · rw [if_pos h1, if_pos ⟨h1.1, h1.2, by omega⟩]
      exact chB_se n base h l (i + 1) (by omega)
    · rw [if_neg h1, if_neg fun h2 => h1 ⟨h2.1, h2.2.1⟩]
theorem check_is (b : Bd) (n : Int) (hb : Sm b) : m_epoch_Check b n = some (opt (bmay b n)) := by
  have hse := hb.se
  have hloop : ∀ h1 : 0 ≤ b.1 ∧ b.1 ≤ 2147483647, lp (β := Unit) (fun (s40 : Int) =>
              bif (cm .lss s40 (b.2.2.1.length : Int)) then
                (Sw.idx b.2.2.1 s40).bind fun z54 =>
                  ((m_epoch_rising z54.2 n).bind fun v59 =>
                    bif (!v59) then
                      some true
                    else
                      bif (cm .neq z54.1 (ar .add .i64 (ar .add .i64 (ar .sub .i64 b.1 (b.2.2.1.length : Int)) (1 : Int)) s40)) then
                        some true
                      else
                        some (cm .lss z54.1 (1 : Int))).bind fun x58 =>
                    bif x58 then
                      some (.done (.ret (some (3 : Int))))
                    else
                      some (.next (ar .add .i64 s40 (1 : Int)))
              else
                some (.done (.brk ()))
              ) (0 : Int) (fun (_ : Unit) =>
            some (none : Option Int)) = some (bif chB n (b.1 - b.2.2.1.length + 1) 0 b.2.2.1 then none else some 3) := by
    intro h1
    show lp _ ((fun (i : Nat) (_ : Int) => (i : Int)) 0 0) _ = _
    rw [lp_walk (l := b.2.2.1) (fun (i : Nat) (_ : Int) => (i : Int)) (fun pre a => a = (pre.length : Int)) (chG n (b.1 - b.2.2.1.length + 1)) (fun _ => .brk ()) 0 (lenF hse (by decide)) rfl]
    · rw [chG_is]
      cases chB n (b.1 - b.2.2.1.length + 1) 0 b.2.2.1 <;> rfl
    · intro pre x rest acc h hI
      subst hI
      have hp : pre.length ≤ 1000000 := by rw [h] at hse; simp at hse; omega
      refine ⟨?_, fun acc' hg => ?_⟩
      · simp only [lss_len h, cond_true, idx_len h, Option.bind_some, rising_is x.2 n (hb.ep x (mem_split h)), bin, nxt (show pre.length ≤ 4611686018427387904 by omega), chG, cn, cl]
        rw [subI (by omega), addI (m := b.1 - (b.2.2.1.length : Int)) (by omega), addI (by omega)]
        cases hr : risB n (-1) x.2 with
        | false => simp [stp]
        | true =>
          by_cases h2 : x.1 = b.1 - (b.2.2.1.length : Int) + 1 + (pre.length : Int)
          · by_cases h3 : x.1 < 1
            · have h4 : ¬ (1 ≤ x.1) := by omega
              simp [← h2, h3, h4, stp]
            · have h4 : 1 ≤ x.1 := by omega
              simp [← h2, h3, h4, stp]
          · simp [h2, stp]
      · simp only [chG] at hg
        split at hg
        · cases hg; simp
        · cases hg
    · intro acc _
      simp only [lss_self, cond_false]
  unfold m_epoch_Check
  simp only [rising_is b.2.1 n hb.op, Option.bind_some]
  simp only [cl, cg, bin, bmay, decide_eq_true_eq, opt]
  by_cases c1 : n < 1
  · simp [c1]
  by_cases c2 : n > 32
  · simp [c1, c2]
  by_cases c3 : b.1 < 0
  · simp [c1, c2, c3]
  by_cases c4 : b.1 > 2147483647
  · simp [c1, c2, c3, c4]
  have hl := hloop ⟨by omega, by omega⟩
  simp only [cl, bin, decide_eq_true_eq] at hl
  by_cases c5 : (b.2.2.1.length : Int) > 4
  · have c5' : b.2.2.1.length > 4 := by omega
    simp [c1, c2, c3, c4, c5, c5']
  have c5' : ¬ (b.2.2.1.length > 4) := by omega
  simp only [c1, c2, c3, c4, c5, c5', if_false, Option.bind_some, decide_false, Bool.false_eq_true, or_self]
  cases hr : risB n (-1) b.2.1 with
  | false => simp
  | true =>
    simp only [Bool.not_true, Bool.false_eq_true, if_false]
    have hch : (b.2.2.1.length : Int) ≤ b.1 → chB n (b.1 - b.2.2.1.length + 1) 0 b.2.2.1 = seB n (b.1 - b.2.2.1.length + 1) 0 b.2.2.1 := fun h => chB_se n _ (by omega) _ 0 (by omega)
    have hch2 : ¬ ((b.2.2.1.length : Int) ≤ b.1) → chB n (b.1 - b.2.2.1.length + 1) 0 b.2.2.1 = false := fun h => by
      cases hb2 : b.2.2.1 with
      | nil => rw [hb2] at h; simp at h; omega
      | cons e l =>
        simp only [chB]
        rw [if_neg]
        rintro ⟨_, h2, h3⟩
        rw [hb2] at h; omega
    by_cases c7 : b.2.2.2 = true ∧ b.2.2.1.length > 0
    · have c7' : (b.2.2.1.length : Int) > 0 := by omega
      simp [c7.1, c7.2, c7']
    · have hx : (if b.2.2.2 = true then some (decide ((b.2.2.1.length : Int) > 0)) else some false : Option Bool) = some false := by
        cases hbh : b.2.2.2 with
        | false => simp
        | true => simp [hbh] at c7; simp [c7]
      simp only [hx, Option.bind_some, Bool.false_eq_true, if_false, hl]
      by_cases c6 : (b.2.2.1.length : Int) ≤ b.1
      · rw [hch c6]
        cases seB n (b.1 - b.2.2.1.length + 1) 0 b.2.2.1 <;> simp [c6, c7]
      · rw [hch2 c6]; simp [c6]
/-! ### a builder in memory of its own -/
theorem clone_is (b : Bd) (hb : Sm b) : m_epoch_clone b = some b := by
  have hop := hb.op
  have hse := hb.se
  unfold m_epoch_clone m_slices_Clone_epoch_Epoch_epoch_Epoch
  have h1 : ∀ l : List Put, l.length ≤ 1000000 → m_slices_Clone_api_Put_api_Put l = some l := fun l h => by
    unfold m_slices_Clone_api_Put_api_Put; rw [app_small [] l (by simp; omega)]; rfl
  rw [h1 _ hop, app_small [] b.2.2.1 (by simp; omega)]
  simp only [Option.bind_some, List.nil_append]
  show lp _ ((fun (i : Nat) (_ : Unit) => ((i : Int), b.2.2.1)) 0 ()) _ = _
  rw [lp_walk (l := b.2.2.1) (fun (i : Nat) (_ : Unit) => ((i : Int), b.2.2.1)) (fun _ _ => True) (fun _ _ => .next ()) (fun _ => .brk b.2.2.1) () (lenF hse (by decide)) trivial]
  · have : ∀ l : List Ep, foldG (D := Ex (List Ep) Bd) (fun (_ : Unit) (_ : Ep) => Step.next ()) (fun _ => .brk b.2.2.1) () l = .brk b.2.2.1 := by
      intro l; induction l with
      | nil => rfl
      | cons x l ih => exact ih
    rw [this]; rfl
  · intro pre x rest acc h _
    have hp : pre.length ≤ 1000000 := by rw [h] at hse; simp at hse; omega
    refine ⟨?_, fun _ _ => trivial⟩
    simp only [lss_len h, cond_true, idx_len h, Option.bind_some, h1 _ (hb.ep x (mem_split h)), nxt (show pre.length ≤ 4611686018427387904 by omega), stp, Int.toNat_natCast]
    rw [h]
    simp
  · intro acc _
    simp only [lss_self, cond_false]
/-! ### a put, where it belongs -/
theorem refPut_is (L1 L2 : List Put) (p : Put) (h1 : ∀ x ∈ L1, x.1 < p.1) (h2 : ∀ x ∈ L2, p.1 ≤ x.1) (hl : (L1 ++ L2).length ≤ 1000000) : m_ref_Put (L1 ++ L2) p = some (L1 ++ p :: L2.filter fun x => x.1 ≠ p.1) := by
  unfold m_ref_Put
  obtain ⟨l, hll⟩ : ∃ l, l = L1 ++ L2 := ⟨_, rfl⟩
  rw [← hll] at hl ⊢
  have ha : ∀ q : List Put, q.length ≤ 1000010 → ∀ r : Put, Sw.app q [r] = some (q ++ [r]) := fun q hq r => app_small q [r] (by simp; omega)
  show lp _ ((fun (i : Nat) (a : Bool × List Put) => (a.1, (i : Int), a.2)) 0 (false, [])) _ = _
  refine lp_go' (l := l) (st := fun (i : Nat) (a : Bool × List Put) => (a.1, (i : Int), a.2)) (I := fun pre a => (∃ R, L1 = pre ++ R ∧ a = (false, pre)) ∨ ∃ Q R, pre = L1 ++ Q ∧ Q ≠ [] ∧ L2 = Q ++ R ∧ a = (true, L1 ++ p :: Q.filter fun x => x.1 ≠ p.1))
    (fin := fun a => a) (acc0 := (false, [])) (hf := lenF hl (by decide)) (h0 := .inl ⟨L1, rfl, rfl⟩) ?_ ?_ ?_
  · intro pre x rest acc h hI
    have hp : pre.length ≤ 1000000 := by rw [h] at hl; simp at hl; omega
    simp only [lss_len h, cond_true, idx_len h, Option.bind_some, nxt (show pre.length ≤ 4611686018427387904 by omega), jp, cge, cn, bin]
    rcases hI with ⟨R, hR, rfl⟩ | ⟨Q, R, rfl, hQ, hR, rfl⟩
    · rw [hll, hR, List.append_assoc, List.append_cancel_left_eq] at h
      cases R with
      | nil =>
        simp only [List.nil_append] at h
        have h3 := h2 x (by rw [h]; simp)
        refine ⟨(true, pre ++ p :: [x].filter fun x => x.1 ≠ p.1), ?_, .inr ⟨[x], rest, by rw [hR]; simp, by simp, h, by rw [hR]; simp⟩⟩
        by_cases h4 : x.1 = p.1
        · simp [h4, ha pre (by omega)]
        · simp [h3, h4, ha pre (by omega), ha (pre ++ [p]) (by simp; omega)]
      | cons r R =>
        simp only [List.cons_append, List.cons.injEq] at h
        obtain ⟨rfl, h⟩ := h
        have h3 := h1 r (by rw [hR]; simp)
        refine ⟨(false, pre ++ [r]), ?_, .inl ⟨R, by rw [hR]; simp, rfl⟩⟩
        have h4 : ¬ (p.1 ≤ r.1) := by omega
        have h5 : ¬ (r.1 = p.1) := by omega
        simp [h4, h5, ha pre (by omega)]
    · rw [hll, hR, List.append_assoc, List.append_cancel_left_eq, List.append_cancel_left_eq] at h
      subst h
      refine ⟨(true, L1 ++ p :: (Q ++ [x]).filter fun x => x.1 ≠ p.1), ?_, .inr ⟨Q ++ [x], rest, by simp, by simp, by rw [hR]; simp, rfl⟩⟩
      have hlen : (L1 ++ p :: Q.filter fun x => x.1 ≠ p.1).length ≤ 1000010 := by
        have := List.length_filter_le (fun x : Put => decide (x.1 ≠ p.1)) Q
        simp only [List.length_append, List.length_cons] at hp ⊢; omega
      by_cases h4 : x.1 = p.1
      · simp [h4]
      · have hx := ha _ hlen x
        simp only [ne_eq, decide_not] at hx
        simp [h4, hx]
  · intro acc _
    simp only [lss_self, cond_false]
  · rintro ⟨d, o⟩ (⟨R, hR, h⟩ | ⟨Q, R, hp, hQ, hR, h⟩)
    · cases h
      rw [hll, List.append_assoc] at hR
      have h3 := List.self_eq_append_right.1 hR
      simp only [List.append_eq_nil_iff] at h3
      obtain ⟨rfl, rfl⟩ := h3
      simp [jp, ha l (by omega)]
      simpa using hll
    · cases h
      rw [hll, List.append_cancel_left_eq] at hp
      subst hp
      simp [jp]
/-- rising puts: in two at a place -/
theorem ris_split (n a : Int) : ∀ (l : List Put) (last : Int), risB n last l = true → ∃ L1 L2, l = L1 ++ L2 ∧ (∀ x ∈ L1, x.1 < a) ∧ (∀ x ∈ L2, a ≤ x.1) ∧ (L2.filter fun x => x.1 ≠ a) = (match L2 with | [] => [] | y :: r => if y.1 = a then r else L2)
  | [], _, _ => ⟨[], [], rfl, by simp, by simp, rfl⟩
  | x :: l, last, h => by
    simp only [risB] at h
    split at h
    · cases h
    · by_cases hx : x.1 < a
      · obtain ⟨L1, L2, rfl, h1, h2, h3⟩ := ris_split n a l x.1 h
        exact ⟨x :: L1, L2, rfl, fun y hy => by rcases List.mem_cons.1 hy with rfl | hy; exact hx; exact h1 y hy, h2, h3⟩
      · have hab : ∀ (l : List Put) (last : Int), risB n last l = true → ∀ y ∈ l, last < y.1 := by
          intro l
          induction l with
          | nil => intro _ _ y hy; simp at hy
          | cons z l ih =>
            intro last h y hy
            simp only [risB] at h
            split at h
            · cases h
            · rename_i hn
              rcases List.mem_cons.1 hy with rfl | hy
              · omega
              · have := ih z.1 h y hy; omega
        have h5 := hab l x.1 h
        refine ⟨[], x :: l, rfl, by simp, fun y hy => by rcases List.mem_cons.1 hy with rfl | hy; omega; have := h5 y hy; omega, ?_⟩
        have hf : (l.filter fun y => decide (y.1 ≠ a)) = l := List.filter_eq_self.2 fun y hy => by have := h5 y hy; simp; omega
        simp only [List.filter_cons, hf]
        by_cases h6 : x.1 = a
        · simp [h6]
        · simp [h6]
theorem ris_bounds (n : Int) : ∀ (l : List Put) (last : Int), risB n last l = true → ∀ x ∈ l, last < x.1 ∧ x.1 < n
  | [], _, _, x, hx => by simp at hx
  | y :: l, last, h, x, hx => by
    simp only [risB] at h
    split at h
    · cases h
    · rename_i hn
      rcases List.mem_cons.1 hx with rfl | hx
      · omega
      · have := ris_bounds n l y.1 h x hx; omega
/-- where the place is found -/
theorem bsearch_is (L1 L2 : List Put) (a : Int) (h1 : ∀ x ∈ L1, x.1 < a) (h2 : ∀ x ∈ L2, a ≤ x.1) (hl : (L1 ++ L2).length ≤ 1000000) (hr : ∀ x ∈ L1 ++ L2, -1000000000 ≤ x.1 ∧ x.1 ≤ 1000000000) (hab : -1000000000 ≤ a ∧ a ≤ 1000000000) :
    m_slices_BinarySearchFunc_api_Put_api_Put_int__epoch_Add_1 (L1 ++ L2) a = some ((L1.length : Int), match L2 with | [] => false | y :: _ => decide (y.1 = a)) := by
  obtain ⟨l, hll⟩ : ∃ l, l = L1 ++ L2 := ⟨_, rfl⟩
  rw [← hll] at hl hr ⊢
  unfold m_slices_BinarySearchFunc_api_Put_api_Put_int__epoch_Add_1 m_epoch_Add_1
  have hlen : l.length = L1.length + L2.length := by rw [hll, List.length_append]
  have hcmp : ∀ x ∈ l, ar .sub .i64 x.1 a = x.1 - a := fun x hx => subI (by have := hr x hx; omega)
  obtain ⟨y, rfl, hlp⟩ := lp_meas (k := fun (x17 : Int) =>
  (bif (cm .lss x17 (l.length : Int)) then
    (Sw.idx l x17).bind fun z27 =>
      (some (ar .sub .i64 z27.1 a)).bind fun v28 =>
        some (cm .eql v28 (0 : Int))
  else
    some false).bind fun x25 =>
    some (x17, x25)) (step := fun (s11 : Int × Int) =>
    bif (cm .lss s11.1 s11.2) then
      (Sw.idx l (IntKind.wrap .i64 (sh .shr .u64 (IntKind.wrap .u64 (ar .add .i64 s11.1 s11.2)) (1 : Int)))).bind fun z19 =>
        (some (ar .sub .i64 z19.1 a)).bind fun v20 =>
          bif (cm .lss v20 (0 : Int)) then
            some (.next ((ar .add .i64 (IntKind.wrap .i64 (sh .shr .u64 (IntKind.wrap .u64 (ar .add .i64 s11.1 s11.2)) (1 : Int))) (1 : Int)), s11.2))
          else
            some (.next (s11.1, (IntKind.wrap .i64 (sh .shr .u64 (IntKind.wrap .u64 (ar .add .i64 s11.1 s11.2)) (1 : Int)))))
    else
      some (.done (.brk s11.1))) (fun s => ∃ i j : Nat, s = ((i : Int), (j : Int)) ∧ i ≤ L1.length ∧ L1.length ≤ j ∧ j ≤ l.length) (fun s => (s.2 - s.1).toNat) (fun y => y = (L1.length : Int)) ((0 : Int), (l.length : Int)) (by unfold FUEL; simp; omega) ⟨0, l.length, rfl, by omega, by omega, by omega⟩ (by
      rintro s ⟨i, j, rfl, hi, hj, hjl⟩
      simp only [cl, bin, decide_eq_true_eq]
      by_cases hij : i < j
      · left
        have hij' : (i : Int) < (j : Int) := by omega
        rw [if_pos hij', mid (by omega)]
        obtain ⟨h, hh⟩ : ∃ h, h = (i + j) / 2 := ⟨_, rfl⟩
        rw [← hh]
        have hhj : h < j := by omega
        have hih : i ≤ h := by omega
        obtain ⟨x, hx1, hx2⟩ := idx_nat (l := l) (n := (h : Int)) (by omega) (by omega)
        simp only [Int.toNat_natCast] at hx2
        have hxm : x ∈ l := List.mem_of_getElem? hx2
        simp only [hx1, Option.bind_some, hcmp x hxm]
        rw [hll] at hx2
        by_cases hx : x.1 - a < 0
        · rw [if_pos hx]
          have hk : h < L1.length := by
            rcases Nat.lt_or_ge h L1.length with hk | hk
            · exact hk
            · rw [List.getElem?_append_right hk] at hx2
              have := h2 x (List.mem_of_getElem? hx2); omega
          refine ⟨_, rfl, ⟨h + 1, j, ?_, by omega, hj, hjl⟩, ?_⟩
          · rw [nxt (by omega)]
          · simp only [nxt (show h ≤ 4611686018427387904 by omega)]; omega
        · rw [if_neg hx]
          have hk : L1.length ≤ h := by
            rcases Nat.lt_or_ge h L1.length with hk | hk
            · rw [List.getElem?_append_left hk] at hx2
              have := h1 x (List.mem_of_getElem? hx2); omega
            · exact hk
          exact ⟨_, rfl, ⟨i, h, rfl, hi, hk, by omega⟩, by simp only; omega⟩
      · right
        have hij' : ¬ ((i : Int) < (j : Int)) := by omega
        rw [if_neg hij']
        exact ⟨_, rfl, by omega⟩)
  rw [hlp]
  simp only [cl, ce, bin, decide_eq_true_eq]
  cases L2 with
  | nil =>
    have : ¬ ((L1.length : Int) < (l.length : Int)) := by simp at hlen; omega
    rw [if_neg this]; rfl
  | cons y L2 =>
    have hlt : (L1.length : Int) < (l.length : Int) := by simp at hlen; omega
    rw [if_pos hlt, idx_len hll]
    have hy := hcmp y (by rw [hll]; simp)
    simp only [Option.bind_some, hy]
    congr 3
    by_cases h : y.1 = a
    · simp [h]
    · have : ¬ (y.1 - a = 0) := by omega
      simp [h, this]
/-- an element put where it belongs -/
def putF (l : List Put) (p : Put) : List Put := (l.takeWhile fun x => x.1 < p.1) ++ p :: (l.dropWhile fun x => x.1 < p.1).filter fun x => x.1 ≠ p.1
theorem split_putF {L1 L2 : List Put} {p : Put} (h1 : ∀ x ∈ L1, x.1 < p.1) (h2 : ∀ x ∈ L2, p.1 ≤ x.1) : putF (L1 ++ L2) p = L1 ++ p :: L2.filter fun x => x.1 ≠ p.1 := by
  unfold putF
  have e1 : ∀ L1 : List Put, (∀ x ∈ L1, x.1 < p.1) → (L1 ++ L2).takeWhile (fun x => decide (x.1 < p.1)) = L1 ∧ (L1 ++ L2).dropWhile (fun x => decide (x.1 < p.1)) = L2 := by
    intro L1
    induction L1 with
    | nil =>
      intro _
      cases L2 with
      | nil => simp
      | cons y L2 =>
        have := h2 y (by simp)
        have h3 : ¬ (y.1 < p.1) := by omega
        simp [h3]
    | cons x L1 ih =>
      intro h
      have hx := h x (by simp)
      obtain ⟨k1, k2⟩ := ih fun y hy => h y (by simp [hy])
      simp [hx, k1, k2]
  obtain ⟨k1, k2⟩ := e1 L1 h1
  rw [k1, k2]
end Go.Pl

namespace Go.Pl
open Go Go.Sw Go.Mo
def zeroB : Bd := (0, [], [], false)
theorem bmay_ok {b : Bd} {n : Int} (h : bmay b n = 0) : 1 ≤ n ∧ n ≤ 32 ∧ 0 ≤ b.1 ∧ b.1 ≤ 2147483647 ∧ b.2.2.1.length ≤ 4 ∧ risB n (-1) b.2.1 = true ∧ ¬ (b.2.2.2 = true ∧ b.2.2.1.length > 0) ∧ (b.2.2.1.length : Int) ≤ b.1 ∧ seB n (b.1 - b.2.2.1.length + 1) 0 b.2.2.1 = true := by
  unfold bmay at h
  split at h
  · cases h
  · rename_i h1
    split at h
    · cases h
    · rename_i h2
      split at h
      · rename_i h3
        exact ⟨by omega, by omega, by omega, by omega, by omega, h3.1, h3.2.1, h3.2.2.1, h3.2.2.2⟩
      · cases h
theorem seB_all {n base : Int} : ∀ {l : List Ep} {i : Int}, seB n base i l = true → ∀ e ∈ l, risB n (-1) e.2 = true
  | [], _, _, e, he => by simp at he
  | x :: l, i, h, e, he => by
    simp only [seB] at h
    split at h
    · rename_i h1
      rcases List.mem_cons.1 he with rfl | he
      · exact h1.1
      · exact seB_all h e he
    · cases h
theorem refPut_ris {n : Int} {l : List Put} {p : Put} (h : risB n (-1) l = true) (hl : l.length ≤ 1000000) : m_ref_Put l p = some (putF l p) := by
  obtain ⟨L1, L2, rfl, h1, h2, _⟩ := ris_split n p.1 l _ h
  rw [refPut_is L1 L2 p h1 h2 hl, split_putF h1 h2]
theorem add_is (b : Bd) (n : Int) (p : Put) (hb : Sm b) : m_epoch_Add b n p = some (if bmay b n ≠ 0 then (zeroB, some (bmay b n)) else if p.1 < 0 ∨ p.1 ≥ n then (zeroB, some 1) else ((b.1, putF b.2.1 p, b.2.2.1, b.2.2.2), none)) := by
  unfold m_epoch_Add
  simp only [check_is b n hb, clone_is b hb, Option.bind_some]
  by_cases h0 : bmay b n = 0
  · obtain ⟨k1, k2, k3, k4, k5, k6, k7, k8, k9⟩ := bmay_ok h0
    simp only [opt, h0, if_true, Option.isSome_none, cond_false, ne_eq, not_true_eq_false, if_false]
    by_cases h1 : p.1 < 0
    · simp [cl, h1, zeroB]
    by_cases h2 : p.1 ≥ n
    · simp [cl, cge, h1, h2, zeroB]
    obtain ⟨L1, L2, hL, h3, h4, h5⟩ := ris_split n p.1 b.2.1 _ k6
    have hbd := ris_bounds n b.2.1 _ k6
    have hop := hb.op
    rw [hL] at hbd hop
    have hbs := bsearch_is L1 L2 p.1 h3 h4 hop (fun x hx => by have := hbd x hx; omega) (by omega)
    rw [if_neg (by omega)]
    rw [hL, hbs, split_putF h3 h4, h5]
    simp only [cl, cge, h1, h2, decide_false, cond_false, Option.bind_some, jp]
    cases L2 with
    | nil =>
      simp only [cond_false, m_slices_Insert_api_Put_api_Put, Sw.ins, List.append_nil]
      rw [if_pos ⟨by omega, by omega, by simp at hop ⊢; omega⟩]
      simp
    | cons y L2 =>
      by_cases hy : y.1 = p.1
      · have hset : (L1 ++ y :: L2).set L1.length p = L1 ++ p :: L2 := by simp
        simp only [hy, decide_true, cond_true, idx_app, Option.bind_some, Int.toNat_natCast, if_true, hset]
      · simp only [hy, decide_false, cond_false, m_slices_Insert_api_Put_api_Put, Sw.ins, if_false]
        rw [if_pos ⟨by omega, by simp; omega, by simp at hop ⊢; omega⟩]
        simp
  · simp [opt, h0, zeroB]
theorem seal_is (b : Bd) (n : Int) (hb : Sm b) : m_epoch_Seal b n = some (if bmay b n ≠ 0 then (zeroB, some (bmay b n)) else if b.1 = 2147483647 then (zeroB, some 2) else
    if b.2.2.2 = true then ((b.1 + 1, [], b.2.2.1, b.2.2.2), none) else if b.2.2.1.length = 4 then ((b.1 + 1, [], [], true), none) else ((b.1 + 1, [], b.2.2.1 ++ [(b.1 + 1, b.2.1)], b.2.2.2), none)) := by
  unfold m_epoch_Seal
  simp only [check_is b n hb, clone_is b hb, Option.bind_some]
  by_cases h0 : bmay b n = 0
  · obtain ⟨k1, k2, k3, k4, k5, k6, k7, k8, k9⟩ := bmay_ok h0
    simp only [opt, h0, if_true, Option.isSome_none, cond_false, ne_eq, not_true_eq_false, if_false, ce]
    by_cases h1 : b.1 = 2147483647
    · simp [h1, zeroB]
    simp only [h1, decide_false, cond_false, if_false]
    rw [addI (by omega)]
    cases hbh : b.2.2.2 with
    | true => simp
    | false =>
      by_cases h2 : b.2.2.1.length = 4
      · simp [h2]
      · have h3 : ¬ ((b.2.2.1.length : Int) = 4) := by omega
        simp only [h3, decide_false, cond_false, h2, if_false, Bool.false_eq_true]
        rw [app_small _ _ (by simp; omega)]; rfl
  · simp [opt, h0, zeroB]
/-! ### what is dropped -/
theorem delete_is (l : List Ep) (num : Int) (hl : l.length ≤ 1000000) : m_slices_DeleteFunc_epoch_Epoch_epoch_Epoch__epoch_Drop_1_io l num = some (l.filter fun e => decide (num < e.1)) := by
  have hidx : m_slices_IndexFunc_epoch_Epoch_epoch_Epoch__epoch_Drop_1 l num = some (match l.findIdx? (fun e => decide (e.1 ≤ num)) with | some j => (j : Int) | none => -1) := by
    unfold m_slices_IndexFunc_epoch_Epoch_epoch_Epoch__epoch_Drop_1
    show lp _ ((fun (i : Nat) => (i : Int)) 0) _ = _
    rw [lp_find (l := l) (fun (i : Nat) => (i : Int)) (fun e => decide (e.1 ≤ num)) (fun j => (j : Int)) () (lenF hl (by decide))]
    · cases l.findIdx? (fun e => decide (e.1 ≤ num)) <;> rfl
    · intro pre x rest h
      have hp : pre.length ≤ 1000000 := by rw [h] at hl; simp at hl; omega
      simp only [lss_len h, cond_true, idx_len h, Option.bind_some, nxt (show pre.length ≤ 4611686018427387904 by omega), m_epoch_Drop_1, cle, bin]
      by_cases h1 : x.1 ≤ num <;> simp [h1]
    · simp only [lss_self, cond_false]
  unfold m_slices_DeleteFunc_epoch_Epoch_epoch_Epoch__epoch_Drop_1_io
  rw [hidx]
  simp only [Option.bind_some]
  cases hf : l.findIdx? (fun e => decide (e.1 ≤ num)) with
  | none =>
    have h1 := List.findIdx?_eq_none_iff.1 hf
    have : l.filter (fun e => decide (num < e.1)) = l := List.filter_eq_self.2 fun e he => by have := h1 e he; simp at this ⊢; omega
    simp [ce, this]
  | some j =>
    obtain ⟨hj, h1, h2⟩ := List.findIdx?_eq_some_iff_getElem.1 hf
    obtain ⟨P, x0, R, rfl, hPl⟩ : ∃ P x0 R, l = P ++ x0 :: R ∧ P.length = j := ⟨l.take j, l[j], l.drop (j + 1), by rw [List.getElem_cons_drop, List.take_append_drop], by rw [List.length_take]; omega⟩
    subst hPl
    have hx0 : x0.1 ≤ num := by simpa using h1
    have hP : ∀ e ∈ P, num < e.1 := by
      intro e he
      obtain ⟨q, hq, rfl⟩ := List.getElem_of_mem he
      have := h2 q hq
      rw [List.getElem_append_left hq] at this
      simp at this; omega
    have hPf : P.filter (fun e => decide (num < e.1)) = P := List.filter_eq_self.2 fun e he => by simpa using hP e he
    have hne : ¬ ((P.length : Int) = -1) := by omega
    simp only [ce, hne, decide_false, cond_false]
    have hpl : P.length ≤ 1000000 := by simp at hl; omega
    rw [nxt (by omega)]
    show lp _ ((fun (t : Nat) (a : Int × List Ep) => (a.1, ((P.length + 1 + t : Nat) : Int), a.2)) 0 ((P.length : Int), P ++ x0 :: R)) _ = _
    refine lp_go' (l := R) (fun (t : Nat) (a : Int × List Ep) => (a.1, ((P.length + 1 + t : Nat) : Int), a.2))
      (fun pre a => ∃ K J : List Ep, K = P ++ pre.filter (fun e => decide (num < e.1)) ∧ a.1 = (K.length : Int) ∧ a.2 = K ++ J ++ R.drop pre.length ∧ K.length + J.length = P.length + 1 + pre.length)
      (fun a => (a.1, a.2)) ((P.length : Int), P ++ x0 :: R) (by unfold FUEL; simp at hl; omega) ⟨P, [x0], by simp, rfl, by simp, by simp⟩ ?_ ?_ ?_
    · rintro pre x rest ⟨i, xs⟩ h ⟨K, J, hK, hi, hxs, hlen⟩
      simp only at hi hxs
      subst hi hxs
      have hRl : R.length = pre.length + 1 + rest.length := by rw [h]; simp; omega
      have hlt : ((P.length + 1 + pre.length : Nat) : Int) < ((K ++ J ++ R.drop pre.length).length : Int) := by
        simp only [List.length_append, List.length_drop]; omega
      have hdr : R.drop pre.length = x :: rest := by rw [h]; simp
      have hget : Sw.idx (K ++ J ++ R.drop pre.length) ((P.length + 1 + pre.length : Nat) : Int) = some x := by
        rw [hdr]
        apply idx_get
        rw [List.getElem?_append_right (by rw [List.length_append]; omega), List.length_append, hlen]; simp
      have hdr1 : R.drop (pre ++ [x]).length = rest := by rw [h]; simp
      simp only [cl, hlt, decide_true, cond_true, hget, Option.bind_some, m_epoch_Drop_1, cle, bin]
      rw [nxt (show P.length + 1 + pre.length ≤ 4611686018427387904 by simp at hl; omega)]
      by_cases hx : x.1 ≤ num
      · refine ⟨((K.length : Int), K ++ J ++ R.drop pre.length), by simp [hx]; omega, K, J ++ [x], ?_, rfl, ?_, ?_⟩
        · rw [hK, List.filter_append]
          have : ¬ (num < x.1) := by omega
          simp [this]
        · simp only; rw [hdr, hdr1]; simp
        · simp; omega
      · have hKJ : J ≠ [] := by
          rintro rfl
          have := List.length_filter_le (fun e : Ep => decide (num < e.1)) pre
          rw [hK] at hlen; simp at hlen; omega
        cases J with
        | nil => exact absurd rfl hKJ
        | cons y J =>
          have hget2 : Sw.idx (K ++ y :: J ++ R.drop pre.length) (K.length : Int) = some y := by
            rw [List.append_assoc]; exact idx_app K y (J ++ R.drop pre.length)
          rw [nxt (show K.length ≤ 4611686018427387904 by
            have : K.length ≤ P.length + 1 + pre.length := by omega
            simp at hl; omega)]
          refine ⟨(((K.length + 1 : Nat) : Int), K ++ x :: J ++ R.drop pre.length), ?_, K ++ [x], J ++ [x], ?_, by simp, ?_, ?_⟩
          · simp only [hx, decide_false, Bool.not_false, if_true, hget2, Option.bind_some]
            simp; omega
          · rw [hK, List.filter_append]
            have : num < x.1 := by omega
            simp [this]
          · simp only; rw [hdr, hdr1]; simp
          · simp at hlen ⊢; omega
    · rintro ⟨i, xs⟩ ⟨K, J, hK, hi, hxs, hlen⟩
      simp only at hi hxs
      subst hi hxs
      have hlt : ¬ (((P.length + 1 + R.length : Nat) : Int) < ((K ++ J ++ R.drop R.length).length : Int)) := by
        simp only [List.length_append, List.length_drop]; omega
      simp only [cl, hlt, decide_false, cond_false]
    · rintro ⟨i, xs⟩ ⟨K, J, hK, hi, hxs, hlen⟩
      simp only at hi hxs
      subst hi hxs
      have hd : R.drop R.length = [] := List.drop_length
      simp only [hd, List.append_nil]
      have e1 : Sw.sub (K ++ J) (K.length : Int) ((K ++ J).length : Int) = some J := by
        rw [Sw.sub, if_pos (by simp only [List.length_append]; omega), Int.toNat_natCast, Int.toNat_natCast, List.take_length, List.drop_left]
      simp only [e1, Option.bind_some, Int.toNat_natCast]
      have e2 : List.take K.length (K ++ J) = K := by simp
      rw [e2, Sw.sub, if_pos (by simp only [List.length_append]; omega)]
      simp only [Option.bind_some, Int.toNat_natCast, Int.toNat_zero, List.drop_zero, List.take_left, Option.some.injEq]
      rw [hK, List.filter_append, hPf, List.filter_cons]
      have : ¬ (num < x0.1) := by omega
      simp [this]
theorem drop_is (b : Bd) (n num : Int) (hb : Sm b) : m_epoch_Drop b n num = some (if bmay b n ≠ 0 then (zeroB, some (bmay b n)) else if num < 0 ∨ num > b.1 then (zeroB, some 1) else
    ((b.1, b.2.1, b.2.2.1.filter (fun e => decide (num < e.1)), if num = b.1 then false else b.2.2.2), none)) := by
  unfold m_epoch_Drop
  simp only [check_is b n hb, clone_is b hb, Option.bind_some, delete_is b.2.2.1 num hb.se]
  by_cases h0 : bmay b n = 0
  · simp only [opt, h0, if_true, Option.isSome_none, cond_false, ne_eq, not_true_eq_false, if_false, ce, cl, cg, jp]
    by_cases h1 : num < 0
    · simp [h1, zeroB]
    by_cases h2 : num > b.1
    · simp [h1, h2, zeroB]
    rw [if_neg (by omega)]
    by_cases h3 : num = b.1
    · subst h3; simp [h1]
    · simp [h1, h2, h3]
  · simp [opt, h0, zeroB]
/-! ### what was since -/
def setA (A : List (Option Put)) (p : Put) : List (Option Put) := A.set p.1.toNat (some p)
/-- each place holds a put of that place -/
def Rel (A : List (Option Put)) : Prop := ∀ (k : Nat) (p : Put), A[k]? = some (some p) → p.1 = (k : Int)
theorem Rel.set {A : List (Option Put)} {p : Put} (h : Rel A) (hp : 0 ≤ p.1) : Rel (setA A p) := by
  intro k q hq
  unfold setA at hq
  by_cases hk : p.1.toNat = k
  · subst hk
    by_cases hlt : p.1.toNat < A.length
    · rw [List.getElem?_set_self hlt] at hq; cases hq; omega
    · rw [List.getElem?_eq_none (by rw [List.length_set]; omega)] at hq; cases hq
  · rw [List.getElem?_set_ne hk] at hq; exact h k q hq
theorem rel_put {A : List (Option Put)} {p : Put} (h : Rel A) (hp : 0 ≤ p.1) (hlt : p.1.toNat < A.length) (hl : A.length ≤ 1000000) : m_ref_Put (A.filterMap id) p = some ((setA A p).filterMap id) := by
  obtain ⟨k, hk⟩ : ∃ k, k = p.1.toNat := ⟨_, rfl⟩
  rw [← hk] at hlt
  have hA : A = A.take k ++ A[k] :: A.drop (k + 1) := by rw [List.getElem_cons_drop, List.take_append_drop]
  have h1 : ∀ x ∈ (A.take k).filterMap id, x.1 < p.1 := by
    intro x hx
    obtain ⟨o, ho, hox⟩ := List.mem_filterMap.1 hx
    simp only [id_eq] at hox; subst hox
    obtain ⟨j, hj, hjo⟩ := List.getElem_of_mem ho
    rw [List.length_take] at hj
    have := h j x (by rw [List.getElem_take] at hjo; rw [← hjo]; simp)
    omega
  have h2 : ∀ x ∈ (A.drop (k + 1)).filterMap id, p.1 < x.1 := by
    intro x hx
    obtain ⟨o, ho, hox⟩ := List.mem_filterMap.1 hx
    simp only [id_eq] at hox; subst hox
    obtain ⟨j, hj, hjo⟩ := List.getElem_of_mem ho
    rw [List.length_drop] at hj
    have := h (k + 1 + j) x (by rw [List.getElem_drop] at hjo; rw [← hjo]; simp)
    omega
  have h3 : ∀ x, A[k] = some x → x.1 = p.1 := by
    intro x hx
    have := h k x (by rw [List.getElem?_eq_getElem hlt, hx]); omega
  have hf : ((A.drop (k + 1)).filterMap id).filter (fun x => decide (x.1 ≠ p.1)) = (A.drop (k + 1)).filterMap id := List.filter_eq_self.2 fun x hx => by have := h2 x hx; simp; omega
  have hset : setA A p = A.take k ++ some p :: A.drop (k + 1) := by
    unfold setA; rw [← hk, List.set_eq_take_append_cons_drop, if_pos hlt]
  rw [hset]
  have hll := List.length_filterMap_le id A
  conv at hll => lhs; rw [hA]
  conv => lhs; rw [hA]
  rw [List.filterMap_append, List.filterMap_append, List.filterMap_cons, List.filterMap_cons] at *
  simp only [id_eq] at hll ⊢
  cases hAk : A[k] with
  | none =>
    rw [hAk] at hll
    rw [refPut_is _ _ p h1 (fun x hx => by have := h2 x hx; omega) (Nat.le_trans hll hl), hf]
  | some x =>
    rw [hAk] at hll
    have hx := h3 x hAk
    rw [refPut_is _ _ p h1 (fun y hy => by
      rcases List.mem_cons.1 hy with rfl | hy
      · omega
      · have := h2 y hy; omega) (Nat.le_trans hll hl)]
    simp only [List.filter_cons, hx, ne_eq, not_true_eq_false, decide_false, Bool.false_eq_true, if_false]
    simp only [ne_eq] at hf
    rw [hf]
/-- what the epochs behind a number come to, place by place -/
def sinceA (A : List (Option Put)) (num : Int) (l : List Ep) : List (Option Put) := l.foldl (fun A e => if num < e.1 then e.2.foldl setA A else A) A
theorem setA_len (l : List Put) : ∀ (A : List (Option Put)), (l.foldl setA A).length = A.length := by
  induction l with
  | nil => intro A; rfl
  | cons x l ih => intro A; rw [List.foldl_cons, ih]; simp [setA]
theorem sinceA_len (num : Int) (l : List Ep) : ∀ (A : List (Option Put)), (sinceA A num l).length = A.length := by
  induction l with
  | nil => intro A; rfl
  | cons x l ih =>
    intro A
    unfold sinceA at ih ⊢
    rw [List.foldl_cons, ih]
    split
    · exact setA_len _ _
    · rfl
theorem since_is (b : Bd) (n num : Int) (hb : Sm b) : m_epoch_Since b n num = some (if bmay b n ≠ 0 then ((0, []), false, some (bmay b n)) else if num < 0 ∨ num > b.1 then ((0, []), false, some 1) else
    if b.1 - num > b.2.2.1.length then ((0, []), false, none) else ((b.1, (sinceA (List.replicate 32 none) num b.2.2.1).filterMap id), true, none)) := by
  unfold m_epoch_Since
  simp only [check_is b n hb, Option.bind_some]
  by_cases h0 : bmay b n = 0
  · obtain ⟨k1, k2, k3, k4, k5, k6, k7, k8, k9⟩ := bmay_ok h0
    simp only [opt, h0, if_true, Option.isSome_none, cond_false, ne_eq, not_true_eq_false, if_false]
    by_cases h1 : num < 0
    · simp [cl, h1]
    by_cases h2 : num > b.1
    · simp [cl, cg, h1, h2]
    rw [if_neg (by omega)]
    simp only [cl, cg, h1, h2, decide_false, cond_false, Option.bind_some]
    rw [subI (by omega)]
    by_cases h3 : b.1 - num > b.2.2.1.length
    · simp [h3]
    simp only [h3, decide_false, cond_false, if_false]
    have hse := hb.se
    show lp _ ((fun (i : Nat) (a : List (Option Put)) => ((i : Int), a)) 0 (List.replicate 32 none)) _ = _
    refine lp_go' (l := b.2.2.1) (fun (i : Nat) (a : List (Option Put)) => ((i : Int), a)) (fun pre a => a = sinceA (List.replicate 32 none) num pre) (fun a => a) (List.replicate 32 none) (lenF hse (by decide)) rfl ?_ ?_ ?_
    · intro pre e rest acc h hI
      have hp : pre.length ≤ 1000000 := by rw [h] at hse; simp at hse; omega
      have hel := hb.ep e (mem_split h)
      have her := seB_all k9 e (mem_split h)
      have hebd := ris_bounds n e.2 _ her
      have hacc : acc.length = 32 := by rw [hI, sinceA_len]; simp
      refine ⟨if num < e.1 then e.2.foldl setA acc else acc, ?_, by rw [hI]; simp [sinceA]⟩
      have hlt : (pre.length : Int) < (b.2.2.1.length : Int) := by rw [h]; simp; omega
      simp only [hlt, decide_true, cond_true, idx_len h, Option.bind_some]
      show lp _ ((fun (i : Nat) (a : List (Option Put)) => ((i : Int), a)) 0 acc) _ = _
      refine lp_go' (l := e.2) (fun (i : Nat) (a : List (Option Put)) => ((i : Int), a)) (fun pre a => a = if num < e.1 then pre.foldl setA acc else acc) (fun a => a) acc (lenF hel (by decide)) (by simp) ?_ ?_ ?_
      · intro pre2 x rest2 a2 h4 hI2
        have hp2 : pre2.length ≤ 1000000 := by rw [h4] at hel; simp at hel; omega
        have hlt2 : (pre2.length : Int) < (e.2.length : Int) := by rw [h4]; simp; omega
        have hxb := hebd x (mem_split h4)
        refine ⟨if num < e.1 then setA a2 x else a2, ?_, by
          rw [hI2]
          by_cases hn : num < e.1
          · simp [hn]
          · simp [hn]⟩
        simp only [hlt2, decide_true, cond_true, idx_len h4, Option.bind_some]
        rw [nxt (by omega)]
        by_cases hn : num < e.1
        · have hn' : e.1 > num := hn
          have ha2 : a2.length = 32 := by rw [hI2, if_pos hn, setA_len]; exact hacc
          obtain ⟨y, hy, _⟩ := idx_nat (l := a2) (n := x.1) (by omega) (by omega)
          simp only [hn', decide_true, cond_true, hy, Option.bind_some, if_true, hn, setA]
        · have hn' : ¬ (e.1 > num) := hn
          simp only [hn', decide_false, cond_false, hn, if_false]
      · intro a2 _
        simp
      · intro a2 hI2
        rw [nxt (by omega), hI2]
    · intro acc _
      simp
    · intro acc hI
      have hacc : acc.length = 32 := by rw [hI, sinceA_len]; simp
      rw [← hI]
      show lp _ ((fun (i : Nat) (a : List Put) => ((i : Int), a)) 0 []) _ = _
      refine lp_go' (l := acc) (fun (i : Nat) (a : List Put) => ((i : Int), a)) (fun pre a => a = pre.filterMap id) (fun a => a) [] (by unfold FUEL; omega) rfl ?_ ?_ ?_
      · intro pre x rest a h hI2
        have hp : pre.length < 32 := by rw [← hacc, h]; simp
        have hlt : (pre.length : Int) < 32 := by omega
        have hal := List.length_filterMap_le id pre
        simp only [hlt, decide_true, cond_true, idx_len h, Option.bind_some]
        cases x with
        | none =>
          refine ⟨a, ?_, by rw [hI2]; simp⟩
          simp only [Option.isSome_none, cond_false]
          rw [nxt (by omega)]
        | some x =>
          refine ⟨a ++ [x], ?_, by rw [hI2]; simp⟩
          simp only [Option.isSome_some, cond_true, Option.bind_some]
          rw [app_small _ _ (by rw [hI2]; simp; omega), Option.bind_some, nxt (by omega)]
      · intro a _
        rw [hacc]; rfl
      · intro a hI2
        rw [hI2]
  · simp [opt, h0]
end Go.Pl

namespace Go.Pl
open Go Go.Sw Go.Mo
theorem samePuts_self (l : List Put) (hl : l.length ≤ 1000000) : m_ref_SamePuts l l = some true := by
  unfold m_ref_SamePuts
  simp only [cn, ne_eq, not_true_eq_false, decide_false, cond_false]
  exact same_loop l hl _
theorem sameEpochs_self (l : List Ep) (hl : l.length ≤ 1000000) (he : ∀ e ∈ l, e.2.length ≤ 1000000) : m_ref_SameEpochs l l = some true := by
  unfold m_ref_SameEpochs
  simp only [cn, ne_eq, not_true_eq_false, decide_false, cond_false]
  show lp _ ((fun (i : Nat) (_ : Unit) => (i : Int)) 0 ()) _ = _
  refine lp_go' (l := l) (fun (i : Nat) (_ : Unit) => (i : Int)) (fun _ _ => True) (fun _ => ()) () (lenF hl (by decide)) trivial ?_ ?_ ?_
  · intro pre x rest acc h _
    have hp : pre.length ≤ 1000000 := by rw [h] at hl; simp at hl; omega
    refine ⟨(), ?_, trivial⟩
    simp only [lss_len h, cond_true, idx_len h, Option.bind_some, samePuts_self x.2 (he x (mem_split h)), Bool.not_true, cond_false]
    rw [nxt (by omega)]
    simp
  · intro acc _
    simp only [lss_self, cond_false]
  · intro _ _; rfl
theorem sameBuilder_self (b : Bd) (hb : Sm b) : m_ref_SameBuilder b b = some true := by
  unfold m_ref_SameBuilder
  rw [samePuts_self b.2.1 hb.op, sameEpochs_self b.2.2.1 hb.se hb.ep]
  simp [ce]
theorem zeroB_sm : Sm zeroB := ⟨by simp [zeroB], by simp [zeroB], by simp [zeroB]⟩
theorem sameZero : m_ref_SameBuilder ((0 : Int), ([] : (List (Int × Blk))), ([] : (List (Int × (List (Int × Blk))))), false) ((0 : Int), ([] : (List (Int × Blk))), ([] : (List (Int × (List (Int × Blk))))), false) = some true := sameBuilder_self zeroB zeroB_sm
/-- a builder of which nothing is said -/
def hug (b : Bd) : Bool := (b.2.2.1.any fun e => decide (e.2.length > 100)) || decide (b.2.2.1.length > 20) || decide (b.2.1.length > 100)
theorem huge_is (b : Bd) (hl : b.2.2.1.length ≤ 140737488355328) : m_law_hugeBuilder b = some (hug b) := by
  unfold m_law_hugeBuilder
  show lp _ ((fun (i : Nat) => (i : Int)) 0) _ = _
  rw [lp_any (l := b.2.2.1) (fun (i : Nat) => (i : Int)) (fun e => decide (e.2.length > 100)) true () (lenF hl (by decide))]
  · unfold hug
    by_cases h : (b.2.2.1.any fun e => decide (e.2.length > 100)) = true
    · rw [if_pos h, h]; rfl
    · rw [if_neg h]
      have h' : (b.2.2.1.any fun e => decide (e.2.length > 100)) = false := by simpa using h
      rw [h', Bool.false_or]
      simp only [cg, bin]
      by_cases h1 : b.2.2.1.length > 20
      · have h2 : (b.2.2.1.length : Int) > 20 := by omega
        simp [h1, h2]
      · have h2 : ¬ ((b.2.2.1.length : Int) > 20) := by omega
        by_cases h3 : b.2.1.length > 100
        · have h4 : (b.2.1.length : Int) > 100 := by omega
          simp [h1, h2, h3, h4]
        · have h4 : ¬ ((b.2.1.length : Int) > 100) := by omega
          simp [h1, h2, h3, h4]
  · intro pre x rest h
    simp only [lss_len h, cond_true, idx_len h, Option.bind_some, cg, bin, nxt (show pre.length ≤ 4611686018427387904 by rw [h] at hl; simp at hl; omega)]
    by_cases h1 : x.2.length > 100
    · have h2 : (x.2.length : Int) > 100 := by omega
      simp [h1, h2]
    · have h2 : ¬ ((x.2.length : Int) > 100) := by omega
      simp [h1, h2]
  · simp only [lss_self, cond_false]
theorem hug_sm {b : Bd} (h : hug b = false) : b.2.1.length ≤ 100 ∧ b.2.2.1.length ≤ 20 ∧ ∀ e ∈ b.2.2.1, e.2.length ≤ 100 := by
  simp only [hug, Bool.or_eq_false_iff, decide_eq_false_iff_not, List.any_eq_false, decide_eq_true_eq] at h
  exact ⟨by omega, by omega, fun e he => by have := h.1.1 e he; omega⟩
theorem putF_len (l : List Put) (p : Put) : (putF l p).length ≤ l.length + 1 := by
  unfold putF
  have h1 := List.length_filter_le (fun x : Put => decide (x.1 ≠ p.1)) (l.dropWhile fun x => decide (x.1 < p.1))
  have h2 : (l.takeWhile fun x => decide (x.1 < p.1)).length + (l.dropWhile fun x => decide (x.1 < p.1)).length = l.length := by
    rw [← List.length_append, List.takeWhile_append_dropWhile]
  simp only [List.length_append, List.length_cons]
  omega
theorem sinceA_rel {n : Int} (num : Int) : ∀ (l : List Ep) (A : List (Option Put)), Rel A → (∀ e ∈ l, ∀ x ∈ e.2, 0 ≤ x.1) → Rel (sinceA A num l) := by
  intro l
  induction l with
  | nil => intro A h _; exact h
  | cons e l ih =>
    intro A h hl
    have hstep : ∀ (q : List Put) (A : List (Option Put)), Rel A → (∀ x ∈ q, 0 ≤ x.1) → Rel (q.foldl setA A) := by
      intro q
      induction q with
      | nil => intro A h _; exact h
      | cons x q ihq => intro A h hq; exact ihq _ (h.set (hq x (by simp))) fun y hy => hq y (by simp [hy])
    refine ih _ ?_ fun e' he' => hl e' (by simp [he'])
    show Rel (if num < e.1 then e.2.foldl setA A else A)
    split
    · exact hstep e.2 A h (hl e (by simp))
    · exact h
/-- what the law gathers of the epochs behind a number -/
theorem gather_is {n : Int} (b : Bd) (num : Int) (hb : Sm b) (hs : b.2.2.1.length ≤ 20) (hn : 0 ≤ n ∧ n ≤ 32) (hr : ∀ e ∈ b.2.2.1, risB n (-1) e.2 = true) {γ : Type} (k : (List (Int × Blk)) × (List (Int × (List (Int × Blk)))) → Option γ) {r : Option γ}
    (hk : k ((sinceA (List.replicate 32 none) num b.2.2.1).filterMap id, b.2.2.1.filter fun e => decide (num < e.1)) = r) :
    lp (β := (List (Int × Blk)) × (List (Int × (List (Int × Blk))))) (fun (s230 : (List (Int × Blk)) × Int × (List (Int × (List (Int × Blk))))) =>
                                                    bif (cm .lss s230.2.1 (b.2.2.1.length : Int)) then
                                                      jp (fun (x325 : (List (Int × Blk)) × (List (Int × (List (Int × Blk))))) =>
                                                        some (.next (x325.1, (ar .add .i64 s230.2.1 (1 : Int)), x325.2))
                                                        ) fun k324 =>
                                                      (Sw.idx b.2.2.1 s230.2.1).bind fun z326 =>
                                                        bif (cm .leq z326.1 num) then
                                                          k324 (s230.1, s230.2.2)
                                                        else
                                                          (Sw.idx b.2.2.1 s230.2.1).bind fun z328 =>
                                                            (Sw.app s230.2.2 ([z328] : (List (Int × (List (Int × Blk)))))).bind fun v329 =>
                                                              lp (β := (List (Int × Blk))) (fun (s342 : (List (Int × Blk)) × Int) =>
                                                                (Sw.idx b.2.2.1 s230.2.1).bind fun z350 =>
                                                                  bif (cm .lss s342.2 (z350.2.length : Int)) then
                                                                    (Sw.idx b.2.2.1 s230.2.1).bind fun z352 =>
                                                                      (Sw.idx z352.2 s342.2).bind fun z353 =>
                                                                        (m_ref_Put s342.1 z353).bind fun v354 =>
                                                                          some (.next (v354, (ar .add .i64 s342.2 (1 : Int))))
                                                                  else
                                                                    some (.done (.brk s342.1))
                                                                ) (s230.1, (0 : Int)) fun (x349 : (List (Int × Blk))) =>
                                                              k324 (x349, v329)
                                                    else
                                                      some (.done (.brk (s230.1, s230.2.2)))
                                                    ) (([] : (List (Int × Blk))), (0 : Int), ([] : (List (Int × (List (Int × Blk)))))) k = r := by
  have hse := hb.se
  have hnil : (List.replicate 32 (none : Option Put)).filterMap id = [] := by simp [List.filterMap_replicate]
  show lp _ ((fun (i : Nat) (a : List Put × List Ep) => (a.1, (i : Int), a.2)) 0 ([], [])) _ = _
  refine lp_go' (l := b.2.2.1) (fun (i : Nat) (a : List Put × List Ep) => (a.1, (i : Int), a.2)) (fun pre a => a = ((sinceA (List.replicate 32 none) num pre).filterMap id, pre.filter fun e => decide (num < e.1))) (fun a => a) ([], []) (lenF hse (by decide)) (by simp [sinceA, hnil]) ?_ ?_ ?_
  · rintro pre e rest ⟨ps, es⟩ h hI
    cases hI
    have hp : pre.length ≤ 20 := by rw [h] at hs; simp at hs; omega
    have hel := hb.ep e (mem_split h)
    have hrel : Rel (sinceA (List.replicate 32 none) num pre) := sinceA_rel (n := n) num pre _ (fun k p hk => by
      rw [List.getElem?_replicate] at hk; split at hk <;> cases hk) fun e' he' x hx => by
        have := ris_bounds n e'.2 _ (hr e' (by rw [h]; simp [he'])) x hx; omega
    have hlen : (sinceA (List.replicate 32 none) num pre).length = 32 := by rw [sinceA_len]; simp
    have hxb := ris_bounds n e.2 _ (hr e (mem_split h))
    refine ⟨((sinceA (List.replicate 32 none) num (pre ++ [e])).filterMap id, (pre ++ [e]).filter fun e => decide (num < e.1)), ?_, rfl⟩
    have hsp : sinceA (List.replicate 32 none) num (pre ++ [e]) = if num < e.1 then e.2.foldl setA (sinceA (List.replicate 32 none) num pre) else sinceA (List.replicate 32 none) num pre := by simp [sinceA]
    simp only [lss_len h, cond_true, idx_len h, Option.bind_some, jp, cle, bin, hsp, nxt (show pre.length ≤ 4611686018427387904 by omega)]
    by_cases hn : e.1 ≤ num
    · have hn' : ¬ (num < e.1) := by omega
      simp [hn, hn']
    · have hn' : num < e.1 := by omega
      have hfl := List.length_filter_le (fun e : Ep => decide (num < e.1)) pre
      simp only [hn, decide_false, Bool.false_eq_true, if_false, hn', if_true]
      rw [app_small _ _ (by simp; omega), Option.bind_some]
      generalize hA : sinceA (List.replicate 32 none) num pre = A at *
      show lp _ ((fun (i : Nat) (a : List Put) => (a, (i : Int))) 0 (A.filterMap id)) _ = _
      refine lp_go' (l := e.2) (fun (i : Nat) (a : List Put) => (a, (i : Int))) (fun pre2 a => a = (pre2.foldl setA A).filterMap id ∧ Rel (pre2.foldl setA A)) (fun a => a) (A.filterMap id) (lenF hel (by decide)) ⟨rfl, hrel⟩ ?_ ?_ ?_
      · rintro pre2 x rest2 a h4 ⟨rfl, hr2⟩
        have hp2 : pre2.length ≤ 1000000 := by rw [h4] at hel; simp at hel; omega
        have hx := hxb x (mem_split h4)
        have hl2 : (pre2.foldl setA A).length = 32 := by rw [setA_len]; exact hlen
        refine ⟨((pre2 ++ [x]).foldl setA A).filterMap id, ?_, rfl, by rw [List.foldl_append]; exact hr2.set (by omega)⟩
        show (if cm .lss (pre2.length : Int) (e.2.length : Int) = true then _ else _) = _
        rw [if_pos (lss_len h4), idx_len h4, Option.bind_some, rel_put hr2 (by omega) (by omega) (by omega), Option.bind_some, nxt (by omega), List.foldl_append]
        rfl
      · intro a _
        simp [cl]
      · rintro a ⟨rfl, _⟩
        simp [hn']
  · intro acc _
    simp only [lss_self, cond_false]
  · rintro acc rfl
    exact hk
/-- the same, as an equation -/
theorem gather_eq {n : Int} (b : Bd) (num : Int) (hb : Sm b) (hs : b.2.2.1.length ≤ 20) (hn : 0 ≤ n ∧ n ≤ 32) (hr : ∀ e ∈ b.2.2.1, risB n (-1) e.2 = true) {γ : Type} (k : (List (Int × Blk)) × (List (Int × (List (Int × Blk)))) → Option γ) :
    lp (β := (List (Int × Blk)) × (List (Int × (List (Int × Blk))))) (fun (s230 : (List (Int × Blk)) × Int × (List (Int × (List (Int × Blk))))) =>
                                                    bif (cm .lss s230.2.1 (b.2.2.1.length : Int)) then
                                                      jp (fun (x325 : (List (Int × Blk)) × (List (Int × (List (Int × Blk))))) =>
                                                        some (.next (x325.1, (ar .add .i64 s230.2.1 (1 : Int)), x325.2))
                                                        ) fun k324 =>
                                                      (Sw.idx b.2.2.1 s230.2.1).bind fun z326 =>
                                                        bif (cm .leq z326.1 num) then
                                                          k324 (s230.1, s230.2.2)
                                                        else
                                                          (Sw.idx b.2.2.1 s230.2.1).bind fun z328 =>
                                                            (Sw.app s230.2.2 ([z328] : (List (Int × (List (Int × Blk)))))).bind fun v329 =>
                                                              lp (β := (List (Int × Blk))) (fun (s342 : (List (Int × Blk)) × Int) =>
                                                                (Sw.idx b.2.2.1 s230.2.1).bind fun z350 =>
                                                                  bif (cm .lss s342.2 (z350.2.length : Int)) then
                                                                    (Sw.idx b.2.2.1 s230.2.1).bind fun z352 =>
                                                                      (Sw.idx z352.2 s342.2).bind fun z353 =>
                                                                        (m_ref_Put s342.1 z353).bind fun v354 =>
                                                                          some (.next (v354, (ar .add .i64 s342.2 (1 : Int))))
                                                                  else
                                                                    some (.done (.brk s342.1))
                                                                ) (s230.1, (0 : Int)) fun (x349 : (List (Int × Blk))) =>
                                                              k324 (x349, v329)
                                                    else
                                                      some (.done (.brk (s230.1, s230.2.2)))
                                                    ) (([] : (List (Int × Blk))), (0 : Int), ([] : (List (Int × (List (Int × Blk)))))) k = k ((sinceA (List.replicate 32 none) num b.2.2.1).filterMap id, b.2.2.1.filter fun e => decide (num < e.1)) :=
  gather_is (n := n) b num hb hs hn hr k rfl
theorem is0 : m_ref_Is none 0 = some true := is_opt 0
theorem is1 : m_ref_Is (some 1) 1 = some true := is_opt 1
theorem is2 : m_ref_Is (some 2) 2 = some true := is_opt 2
theorem sameZ : m_ref_SameBuilder zeroB ((0 : Int), ([] : (List (Int × Blk))), ([] : (List (Int × (List (Int × Blk))))), false) = some true := sameZero
theorem bd_eta (b : Bd) : (b.1, b.2.1, b.2.2.1, b.2.2.2) = b := rfl
/-- what the epochs come to, as the law asks -/
theorem epochSays_is (b : Bd) (n : Int) (p : Put) (num : Int) (hlen : b.2.2.1.length ≤ 140737488355328) : m_law_EpochSays b n p num = some true := by
  unfold m_law_EpochSays
  rw [huge_is b hlen, Option.bind_some]
  cases hh : hug b with
  | true => rfl
  | false =>
    obtain ⟨s1, s2, s3⟩ := hug_sm hh
    have hb : Sm b := ⟨by omega, by omega, fun e he => by have := s3 e he; omega⟩
    simp only [cond_false, builderMay_is b n hb, check_is b n hb, Option.bind_some, is_opt, Bool.not_true]
    rw [add_is b n p hb, seal_is b n hb, drop_is b n num hb, since_is b n num hb]
    simp only [Option.bind_some]
    by_cases h0 : bmay b n = 0
    · obtain ⟨k1, k2, k3, k4, k5, k6, k7, k8, k9⟩ := bmay_ok h0
      simp only [gather_eq (n := n) b num hb s2 ⟨by omega, k2⟩ (seB_all k9)]
      simp only [h0, ne_eq, not_true_eq_false, if_false, cn, decide_false, cond_false, refPut_ris k6 hb.op, Option.bind_some, jp]
      have hpl := putF_len b.2.1 p
      have w0 : ∀ (q : Int) (x : Bool), m_ref_SameBuilder (q, putF b.2.1 p, b.2.2.1, x) (q, putF b.2.1 p, b.2.2.1, x) = some true := fun q x => sameBuilder_self _ ⟨by simp only; omega, hb.se, hb.ep⟩
      have w1 : ∀ l q, Sm (q, [], l, b.2.2.2) → m_ref_SameBuilder (q, [], l, b.2.2.2) (q, [], l, b.2.2.2) = some true := fun l q h => sameBuilder_self _ h
      have hso1 : ∀ q, Sm (q, [], b.2.2.1, b.2.2.2) := fun q => ⟨by simp, hb.se, hb.ep⟩
      have hfl := List.length_filter_le (fun e : Ep => decide (num < e.1)) b.2.2.1
      have w2 : ∀ x, m_ref_SameBuilder (b.1, b.2.1, b.2.2.1.filter (fun e => decide (num < e.1)), x) (b.1, b.2.1, b.2.2.1.filter (fun e => decide (num < e.1)), x) = some true := fun x =>
        sameBuilder_self _ ⟨hb.op, Nat.le_trans hfl (by omega), fun e he => hb.ep e (List.mem_filter.1 he).1⟩
      have w3 : m_ref_SamePuts ((sinceA (List.replicate 32 none) num b.2.2.1).filterMap id) ((sinceA (List.replicate 32 none) num b.2.2.1).filterMap id) = some true := samePuts_self _ (by
        have h1 := List.length_filterMap_le id (sinceA (List.replicate 32 none) num b.2.2.1)
        rw [sinceA_len] at h1; simp only [List.length_replicate] at h1; omega)
      have hc1 : (bif (cm .lss p.1 (0 : Int)) then some true else some (cm .geq p.1 n) : Option Bool) = some (decide (p.1 < 0 ∨ p.1 ≥ n)) := by
        simp only [cl, cge, bin]; by_cases h : p.1 < 0 <;> simp [h]
      have hc5 : (bif (cm .lss num (0 : Int)) then some true else some (cm .gtr num b.1) : Option Bool) = some (decide (num < 0 ∨ num > b.1)) := by
        simp only [cl, cg, bin]; by_cases h : num < 0 <;> simp [h]
      have hc4 : (bif (!b.2.2.2) then some (cm .eql (b.2.2.1.length : Int) (4 : Int)) else some false : Option Bool) = some (!b.2.2.2 && decide (b.2.2.1.length = 4)) := by
        simp only [ce]
        cases b.2.2.2
        · by_cases h : b.2.2.1.length = 4
          · simp [h]
          · have : ¬ ((b.2.2.1.length : Int) = 4) := by omega
            simp [h, this]
        · rfl
      have hap : ∀ z : Ep, Sw.app b.2.2.1 [z] = some (b.2.2.1 ++ [z]) := fun z => app_small _ _ (by simp; omega)
      have hap0 : Sw.app ([] : List Ep) b.2.2.1 = some b.2.2.1 := by rw [app_small [] _ (by simp; omega)]; rfl
      have had : b.1 ≠ 2147483647 → ar .add .i64 b.1 1 = b.1 + 1 := fun h => addI (by omega)
      have w4 : ∀ q, m_ref_SameBuilder (q, [], [], true) (q, [], [], true) = some true := fun q => sameBuilder_self _ ⟨by simp, by simp, by simp⟩
      have w5 : ∀ (q r : Int) (x : Bool), m_ref_SameBuilder (q, [], b.2.2.1 ++ [(r, b.2.1)], x) (q, [], b.2.2.1 ++ [(r, b.2.1)], x) = some true := fun q r x => sameBuilder_self _ ⟨by simp, by simp; omega, fun e he => by
        simp only [List.mem_append, List.mem_singleton] at he
        rcases he with he | rfl
        · exact hb.ep e he
        · exact hb.op⟩
      have w6 : b.2.2.2 = true → ∀ q, m_ref_SameBuilder (q, [], b.2.2.1, true) (q, [], [], true) = some true := fun h q => by
        have : b.2.2.1 = [] := List.eq_nil_of_length_eq_zero (by simp [h] at k7; simp [k7])
        rw [this]; exact w4 q
      simp only [hc1, hc5, hc4, Option.bind_some]
      -- what is behind the sealing
      have fin : ∀ (X : Option Bool), X = some true → X = some true := fun _ h => h
      by_cases h5 : num < 0 ∨ num > b.1
      · simp only [h5, decide_true, cond_true, if_true, beq_self_eq_true, sameZ, Option.bind_some, Bool.not_false, ce, List.length_nil, Int.natCast_zero]
        by_cases h2 : b.1 = 2147483647 <;> by_cases h1 : p.1 < 0 ∨ p.1 ≥ n <;> cases hbh : b.2.2.2 <;> by_cases h4 : b.2.2.1.length = 4 <;> simp [h1, h2, hbh, h4, sameZ, is0, is1, is2, w0, w4, w5, w6, hap0, hap, had]
      · have h5a : ¬ (num < 0) := fun h => h5 (.inl h)
        have h5b : ¬ (num > b.1) := fun h => h5 (.inr h)
        have hx : (bif b.2.2.2 then some (cm .lss num b.1) else some false : Option Bool) = some (if num = b.1 then false else b.2.2.2) := by
          simp only [cl]
          cases b.2.2.2 with
          | false => simp
          | true =>
            by_cases h : num = b.1
            · simp [h]
            · have : num < b.1 := by omega
              simp [h, this]
        have hsub : ar .sub .i64 b.1 num = b.1 - num := subI (by omega)
        simp only [h5, decide_false, cond_false, if_false, hx, hsub, Option.bind_some, Option.isSome_none, w2, Bool.not_true, cg]
        by_cases h6 : b.1 - num > (b.2.2.1.length : Int)
        · simp only [h6, decide_true, cond_true, if_true, Option.isSome_none, cond_false, Bool.not_false, ce, List.length_nil, Int.natCast_zero, Option.bind_some]
          by_cases h2 : b.1 = 2147483647 <;> by_cases h1 : p.1 < 0 ∨ p.1 ≥ n <;> cases hbh : b.2.2.2 <;> by_cases h4 : b.2.2.1.length = 4 <;> simp [h1, h2, hbh, h4, sameZ, is0, is1, is2, w0, w4, w5, w6, hap0, hap, had]
        · simp only [h6, decide_false, if_false, Option.isSome_none, cond_false, cond_true, ce, Option.bind_some, w3]
          by_cases h2 : b.1 = 2147483647 <;> by_cases h1 : p.1 < 0 ∨ p.1 ≥ n <;> cases hbh : b.2.2.2 <;> by_cases h4 : b.2.2.1.length = 4 <;> simp [h1, h2, hbh, h4, sameZ, is0, is1, is2, w0, w4, w5, w6, hap0, hap, had]
    · simp only [h0, ne_eq, not_false_eq_true, if_true, cn, decide_true, cond_true]
      have hso : m_ref_Is (some (bmay b n)) (bmay b n) = some true := by
        have := is_opt (bmay b n)
        rwa [opt, if_neg h0] at this
      have hz : m_ref_SameBuilder zeroB ((0 : Int), ([] : (List (Int × Blk))), ([] : (List (Int × (List (Int × Blk))))), false) = some true := sameZero
      simp [hso, hz, ce]
abbrev ePut : Enc Put := Enc.pr (Enc.int .i64) eBlk
abbrev eBd : Enc Bd := Enc.pr (Enc.int .i64) (Enc.pr (Enc.sl ePut) (Enc.pr (Enc.sl (Enc.pr (Enc.int .i64) (Enc.sl ePut))) Enc.bool))
theorem law_EpochSays (a0 : Bd) (a1 : Int) (a2 : Put) (a3 : Int) (w0 : Wf eBd a0) (_w1 : Wf (Enc.int .i64) a1) (_w2 : Wf ePut a2) (_w3 : Wf (Enc.int .i64) a3) : m_law_EpochSays a0 a1 a2 a3 = some true :=
  epochSays_is a0 a1 a2 a3 w0.pr.2.pr.2.pr.1.sl.1
end Go.Pl
