/- The plain law: the model of the law answers true. Conditions: none. -/
import Derived.Test.YteckohdbfkhmdaaMoDiskSays
namespace Go.Pl
open Go Go.Sw

/-- going over a list, with what is carried, till something is done -/
def foldS {A B D : Type} (g : Nat → A → B → Step B D) (fin : B → D) : Nat → B → List A → D
  | _, acc, [] => fin acc
  | i, acc, x :: xs => match g i x acc with
    | .next acc' => foldS g fin (i + 1) acc' xs
    | .done d => d

def stp {α B D : Type} (st : Nat → B → α) (i : Nat) : Step B D → Step α D
  | .next a => .next (st i a)
  | .done d => .done d
def out {β γ : Type} (k : β → Option γ) : Ex β γ → Option γ
  | .brk y => k y
  | .ret z => some z

theorem loop_list {α A B D : Type} {step : α → Option (Step α D)} {l : List A} (st : Nat → B → α) (g : Nat → A → B → Step B D) (fin : B → D)
    (hs : ∀ pre x rest acc, l = pre ++ x :: rest → step (st pre.length acc) = some (stp st (pre.length + 1) (g pre.length x acc)))
    (he : ∀ acc, step (st l.length acc) = some (.done (fin acc))) :
    ∀ (rest pre : List A) (acc : B) (f : Nat), l = pre ++ rest → rest.length < f → loop step f (st pre.length acc) = some (foldS g fin pre.length acc rest)
  | [], pre, acc, f, hl, hf => by
    obtain ⟨f, rfl⟩ : ∃ f', f = f' + 1 := ⟨f - 1, by simp at hf; omega⟩
    have := he acc
    rw [hl, List.append_nil] at this
    simp [loop, this, foldS]
  | x :: rest, pre, acc, f, hl, hf => by
    obtain ⟨f, rfl⟩ : ∃ f', f = f' + 1 := ⟨f - 1, by simp at hf; omega⟩
    have h1 := hs pre x rest acc hl
    simp only [loop, h1, foldS]
    cases hg : g pre.length x acc with
    | done d => rfl
    | next acc' =>
      have ih := loop_list st g fin hs he rest (pre ++ [x]) acc' f (by rw [hl]; simp) (by simp at hf; omega)
      simpa [stp] using ih

theorem lp_list {α A B β γ : Type} {step : α → Option (Step α (Ex β γ))} {l : List A} {k : β → Option γ} (st : Nat → B → α) (acc0 : B) (g : Nat → A → B → Step B (Ex β γ)) (fin : B → Ex β γ) (hf : l.length < FUEL)
    (hs : ∀ pre x rest acc, l = pre ++ x :: rest → step (st pre.length acc) = some (stp st (pre.length + 1) (g pre.length x acc)))
    (he : ∀ acc, step (st l.length acc) = some (.done (fin acc))) :
    lp step (st 0 acc0) k = out k (foldS g fin 0 acc0 l) := by
  have h := loop_list st g fin hs he l [] acc0 FUEL rfl hf
  unfold lp
  simp only [List.length_nil] at h
  rw [h]
  cases foldS g fin 0 acc0 l <;> rfl

theorem idx_app {α : Type} (pre : List α) (x : α) (rest : List α) : Sw.idx (pre ++ x :: rest) (pre.length : Int) = some x := by
  unfold Sw.idx; simp
theorem inc {n m : Nat} (h : n < m) (hm : m ≤ 4611686018427387904) : ar .add .i64 (n : Int) 1 = ((n + 1 : Nat) : Int) := by
  unfold ar; simp only [IntKind.wrap, IntKind.signed, IntKind.bits]; simp; omega
theorem lss_app {α : Type} (pre : List α) (x : α) (rest : List α) : cm .lss (pre.length : Int) ((pre ++ x :: rest).length : Int) = true := by
  unfold cm; simp; omega
theorem lss_self {n : Nat} : cm .lss (n : Int) (n : Int) = false := by unfold cm; simp
end Go.Pl

namespace Go.Pl
open Go Go.Sw

theorem lp_count {α β γ : Type} {step : α → Option (Step α (Ex β γ))} {k : β → Option γ} (st : Nat → α) (n : Nat) (y : β) (hf : n < FUEL) (hs : ∀ i, i < n → step (st i) = some (.next (st (i + 1)))) (he : step (st n) = some (.done (.brk y))) : lp step (st 0) k = k y := by
  have h : ∀ m i, i + m = n → ∀ f, m < f → loop step f (st i) = some (.brk y) := by
    intro m
    induction m with
    | zero =>
      intro i hi f hf
      obtain ⟨f, rfl⟩ : ∃ f', f = f' + 1 := ⟨f - 1, by omega⟩
      simp only [Nat.add_zero] at hi
      subst hi
      simp [loop, he]
    | succ m ih =>
      intro i hi f hf
      obtain ⟨f, rfl⟩ : ∃ f', f = f' + 1 := ⟨f - 1, by omega⟩
      simp only [loop, hs i (by omega)]
      exact ih (i + 1) (by omega) f (by omega)
  unfold lp
  rw [h n 0 (by omega) FUEL hf]

theorem wrap_i64 {n : Int} (h : -9223372036854775808 ≤ n ∧ n ≤ 9223372036854775807) : IntKind.wrap .i64 n = n := wrap_id (k := .i64) (by unfold inK; simp [IntKind.min, IntKind.max, IntKind.signed, IntKind.bits]; omega)
theorem wrap_u8 {n : Int} (h : 0 ≤ n ∧ n ≤ 255) : IntKind.wrap .u8 n = n := wrap_id (k := .u8) (by unfold inK; simp [IntKind.min, IntKind.max, IntKind.signed, IntKind.bits]; omega)
theorem wrap_u32 {n : Int} (h : 0 ≤ n ∧ n ≤ 4294967295) : IntKind.wrap .u32 n = n := wrap_id (k := .u32) (by unfold inK; simp [IntKind.min, IntKind.max, IntKind.signed, IntKind.bits]; omega)
theorem ofInt_nat (w n : Nat) : BitVec.ofInt w (n : Int) = BitVec.ofNat w n := by
  apply BitVec.eq_of_toNat_eq
  simp
theorem xor32 {a b : Nat} (ha : a < 4294967296) (hb : b < 4294967296) : ar .xor .u32 (a : Int) (b : Int) = ((a ^^^ b : Nat) : Int) := by
  have h : a ^^^ b < 2 ^ 32 := Nat.xor_lt_two_pow (by simpa using ha) (by simpa using hb)
  show IntKind.wrap .u32 ((BitVec.ofInt 32 (a : Int) ^^^ BitVec.ofInt 32 (b : Int)).toNat : Int) = _
  simp only [ofInt_nat, BitVec.toNat_xor, BitVec.toNat_ofNat]
  rw [Nat.mod_eq_of_lt (by simpa using ha), Nat.mod_eq_of_lt (by simpa using hb)]
  exact wrap_u32 (by simp at h; omega)
theorem and32 {a : Nat} (ha : a < 4294967296) : ar .and .u32 (a : Int) 1 = ((a % 2 : Nat) : Int) := by
  show IntKind.wrap .u32 ((BitVec.ofInt 32 (a : Int) &&& BitVec.ofInt 32 ((1 : Nat) : Int)).toNat : Int) = _
  simp only [ofInt_nat, BitVec.toNat_and, BitVec.toNat_ofNat]
  rw [Nat.mod_eq_of_lt (a := a) (by simpa using ha), Nat.mod_eq_of_lt (a := 1) (by decide), Nat.and_one_is_mod]
  exact wrap_u32 (by omega)
theorem mul32 {a : Nat} (ha : a < 2) : ar .mul .u32 3988292384 (a : Int) = ((if a = 1 then 3988292384 else 0 : Nat) : Int) := by
  have : a = 0 ∨ a = 1 := by omega
  rcases this with rfl | rfl
  · rfl
  · decide
theorem shr1 {a : Nat} : sh .shr .u32 (a : Int) 1 = ((a / 2 : Nat) : Int) := by
  show Int.fdiv _ _ = _
  have : (2 : Int) ^ min (1 : Int).toNat (IntKind.bits .u32) = 2 := by decide
  rw [this, Int.fdiv_eq_ediv_of_nonneg _ (by omega)]
  omega
theorem not32 {a : Nat} (ha : a < 4294967296) : bnot .u32 (a : Int) = ((4294967295 - a : Nat) : Int) := by
  unfold bnot
  show IntKind.wrap .u32 ((BitVec.allOnes 32 ^^^ BitVec.ofInt 32 (a : Int)).toNat : Int) = _
  simp only [ofInt_nat, BitVec.allOnes_xor, BitVec.toNat_not, BitVec.toNat_ofNat]
  rw [Nat.mod_eq_of_lt (by simpa using ha)]
  exact wrap_u32 (by omega)
theorem tdiv_nat (a b : Nat) : Int.tdiv (a : Int) (b : Int) = ((a / b : Nat) : Int) := rfl
theorem tmod_nat (a b : Nat) : Int.tmod (a : Int) (b : Int) = ((a % b : Nat) : Int) := rfl
theorem quo64 {a b : Nat} (ha : a ≤ 9223372036854775807) : ar .quo .i64 (a : Int) (b : Int) = ((a / b : Nat) : Int) := by
  show IntKind.wrap .i64 _ = _
  rw [tdiv_nat]
  have := Nat.div_le_self a b
  generalize a / b = q at *
  exact wrap_i64 (by omega)
theorem rem64 {a b : Nat} : ar .rem .i64 (a : Int) (b : Int) = ((a % b : Nat) : Int) := rfl
theorem add64 {a b : Nat} (h : a + b ≤ 9223372036854775807) : ar .add .i64 (a : Int) (b : Int) = ((a + b : Nat) : Int) := by
  show IntKind.wrap .i64 _ = _
  rw [← Int.natCast_add]; exact wrap_i64 (by omega)
theorem mul64 {a b : Nat} (h : a * b ≤ 9223372036854775807) : ar .mul .i64 (a : Int) (b : Int) = ((a * b : Nat) : Int) := by
  show IntKind.wrap .i64 _ = _
  rw [← Int.natCast_mul]; exact wrap_i64 (by omega)
theorem nz_ok {n : Int} (h : n ≠ 0) : nz n = some () := by unfold nz; rw [if_neg h]
theorem cm_lss {a b : Nat} : cm .lss (a : Int) (b : Int) = decide (a < b) := by unfold cm; simp
theorem bit_xor (a b i : Nat) : (a ^^^ b) / 2 ^ i % 2 = (a / 2 ^ i + b / 2 ^ i) % 2 := by
  have h := Nat.testBit_xor a b i
  simp only [Nat.testBit_eq_decide_div_mod_eq] at h
  have ha := Nat.mod_two_eq_zero_or_one (a / 2 ^ i)
  have hb := Nat.mod_two_eq_zero_or_one (b / 2 ^ i)
  have hc := Nat.mod_two_eq_zero_or_one ((a ^^^ b) / 2 ^ i)
  rw [Nat.add_mod]
  rcases ha with ha | ha <;> rcases hb with hb | hb <;> rcases hc with hc | hc <;> simp [ha, hb, hc] at h ⊢
theorem xor_half (a b : Nat) : (a ^^^ b) / 2 = a / 2 ^^^ b / 2 := by
  have := Nat.shiftRight_xor_distrib (i := 1) (a := a) (b := b)
  simpa [Nat.shiftRight_eq_div_pow] using this
end Go.Pl

namespace Go.Pl
open Go Go.Sw
/-- bytes -/
def Bytes (l : List Int) : Prop := ∀ x ∈ l, 0 ≤ x ∧ x ≤ 255
def nat (l : List Int) : List Nat := l.map Int.toNat
theorem nat_byte {l : List Int} (h : Bytes l) : ∀ b ∈ nat l, b < 256 := by
  intro b hb
  obtain ⟨x, hx, rfl⟩ := List.mem_map.1 hb
  have := h x hx; omega

/-- as lp_list, with what holds on the way -/
theorem lp_inv {α A B β γ : Type} {step : α → Option (Step α (Ex β γ))} {l : List A} {k : β → Option γ} (st : Nat → B → α) (I : Nat → B → Prop) (acc0 : B) (g : Nat → A → B → B) (fin : B → β) (hf : l.length < FUEL) (h0 : I 0 acc0)
    (hs : ∀ pre x rest acc, l = pre ++ x :: rest → I pre.length acc → step (st pre.length acc) = some (.next (st (pre.length + 1) (g pre.length x acc))) ∧ I (pre.length + 1) (g pre.length x acc))
    (he : ∀ acc, I l.length acc → step (st l.length acc) = some (.done (.brk (fin acc)))) :
    lp step (st 0 acc0) k = k (fin ((l.zipIdx).foldl (fun acc x => g x.2 x.1 acc) acc0)) := by
  have key : ∀ (rest pre : List A) (acc : B) (f : Nat), l = pre ++ rest → I pre.length acc → rest.length < f → loop step f (st pre.length acc) = some (.brk (fin ((rest.zipIdx pre.length).foldl (fun acc x => g x.2 x.1 acc) acc))) := by
    intro rest
    induction rest with
    | nil =>
      intro pre acc f hl hI hf
      obtain ⟨f, rfl⟩ : ∃ f', f = f' + 1 := ⟨f - 1, by simp at hf; omega⟩
      have := he acc (by rw [hl, List.append_nil]; exact hI)
      rw [hl, List.append_nil] at this
      simp [loop, this]
    | cons x rest ih =>
      intro pre acc f hl hI hf
      obtain ⟨f, rfl⟩ : ∃ f', f = f' + 1 := ⟨f - 1, by simp at hf; omega⟩
      obtain ⟨h1, h2⟩ := hs pre x rest acc hl hI
      simp only [loop, h1]
      have := ih (pre ++ [x]) (g pre.length x acc) f (by rw [hl]; simp) (by simpa using h2) (by simp at hf; omega)
      simpa using this
  have h := key l [] acc0 FUEL rfl h0 hf
  unfold lp
  simp only [List.length_nil] at h
  rw [h]
theorem app_small {α : Type} (xs ys : List α) (h : xs.length + ys.length ≤ 4294967296) : Sw.app xs ys = some (xs ++ ys) := by unfold Sw.app; rw [if_pos h]
theorem foldl_zipIdx {A : Type} (w : A → List Int) : ∀ (l : List A) (i : Nat) (acc : List Int), (l.zipIdx i).foldl (fun acc x => acc ++ w x.1) acc = acc ++ l.flatMap w
  | [], _, acc => by simp
  | x :: l, i, acc => by simp [foldl_zipIdx w l]
end Go.Pl

namespace Go.Pl
open Go Go.Sw
/-- it lies somewhere so -/
def Wf {α : Type} (e : Enc α) (x : α) : Prop := ∃ S w cs, e.ok x S w cs
theorem Wf.int {k : IntKind} {n : Int} (h : Wf (Enc.int k) n) : inK k n := by obtain ⟨_, _, _, h⟩ := h; exact h.2
theorem okL_all {α : Type} {e : Enc α} {S w} : ∀ {xs : List α} {cs}, e.okL xs S w cs → ∀ x ∈ xs, Wf e x
  | [], _, _, x, hx => by simp at hx
  | y :: ys, _, ⟨c, d, _, h2, h3⟩, x, hx => by
    rcases List.mem_cons.1 hx with rfl | hx
    · exact ⟨_, _, _, h2⟩
    · exact okL_all h3 x hx
theorem Wf.arr {α : Type} {m : Nat} {e : Enc α} {xs : List α} (h : Wf (Enc.arr m e) xs) : xs.length = m ∧ ∀ x ∈ xs, Wf e x := by
  obtain ⟨_, _, _, h1, h2⟩ := h; exact ⟨h1, okL_all h2⟩
theorem Wf.sl {α : Type} {e : Enc α} {xs : List α} (h : Wf (Enc.sl e) xs) : xs.length ≤ 9223372036854775807 ∧ ∀ x ∈ xs, Wf e x := by
  obtain ⟨_, _, _, a, cap, _, h2, h3⟩ := h
  refine ⟨h2.2, ?_⟩
  rcases h3 with rfl | ⟨b, off, ds, _, _, _, _, h4⟩
  · intro x hx; simp at hx
  · exact okL_all h4
theorem Wf.pr {α β : Type} {a : Enc α} {b : Enc β} {x : α × β} (h : Wf (Enc.pr a b) x) : Wf a x.1 ∧ Wf b x.2 := by
  obtain ⟨_, _, _, c, d, _, h1, h2⟩ := h; exact ⟨⟨_, _, _, h1⟩, ⟨_, _, _, h2⟩⟩
theorem Wf.one1 {α : Type} {a : Enc α} {x : α} (h : Wf (Enc.one1 a) x) : Wf a x := h
theorem Wf.of_val {α : Type} {e : Enc α} {x : α} {S w v} (h : e.val x S w v) : Wf e x := by obtain ⟨cs, h, _⟩ := h; exact ⟨_, _, _, h⟩
end Go.Pl

namespace Go.Pl
open Go Go.Sw
theorem cl (m n : Int) : cm .lss m n = decide (m < n) := rfl
theorem cg (m n : Int) : cm .gtr m n = decide (m > n) := rfl
theorem cle (m n : Int) : cm .leq m n = decide (m ≤ n) := rfl
theorem cge (m n : Int) : cm .geq m n = decide (m ≥ n) := rfl
theorem ce (m n : Int) : cm .eql m n = decide (m = n) := by show (m == n) = _; by_cases h : m = n <;> simp [h]
theorem cn (m n : Int) : cm .neq m n = decide (m ≠ n) := by show (m != n) = _; by_cases h : m = n <;> simp [h]
theorem addI {m n : Int} (h : -9223372036854775808 ≤ m + n ∧ m + n ≤ 9223372036854775807) : ar .add .i64 m n = m + n := wrap_i64 h
theorem subI {m n : Int} (h : -9223372036854775808 ≤ m - n ∧ m - n ≤ 9223372036854775807) : ar .sub .i64 m n = m - n := wrap_i64 h
theorem nxt {n : Nat} (h : n ≤ 4611686018427387904) : ar .add .i64 (n : Int) 1 = ((n + 1 : Nat) : Int) := by rw [addI (by omega)]; push_cast; rfl
/-- a list gone through, each element looked at: one that is bad ends it -/
theorem lp_any {α A β γ : Type} {step : α → Option (Step α (Ex β γ))} {l : List A} {k : β → Option γ} (st : Nat → α) (bad : A → Bool) (z : γ) (y : β) (hf : l.length < FUEL)
    (hs : ∀ pre x rest, l = pre ++ x :: rest → step (st pre.length) = some (if bad x then .done (.ret z) else .next (st (pre.length + 1)))) (he : step (st l.length) = some (.done (.brk y))) :
    lp step (st 0) k = if l.any bad then some z else k y := by
  have key : ∀ (rest pre : List A) (f : Nat), l = pre ++ rest → rest.length < f → loop step f (st pre.length) = some (if rest.any bad then .ret z else .brk y) := by
    intro rest
    induction rest with
    | nil =>
      intro pre f hl hf
      obtain ⟨f, rfl⟩ : ∃ f', f = f' + 1 := ⟨f - 1, by simp at hf; omega⟩
      rw [List.append_nil] at hl
      rw [← hl]
      simp [loop, he]
    | cons x rest ih =>
      intro pre f hl hf
      obtain ⟨f, rfl⟩ : ∃ f', f = f' + 1 := ⟨f - 1, by simp at hf; omega⟩
      simp only [loop, hs pre x rest hl, List.any_cons]
      by_cases hb : bad x = true
      · simp [hb]
      · have := ih (pre ++ [x]) f (by rw [hl]; simp) (by simp at hf; omega)
        simp only [Bool.not_eq_true] at hb
        simp only [hb, Bool.false_eq_true, if_false, Bool.false_or]
        simpa using this
  have := key l [] FUEL rfl hf
  unfold lp
  simp only [List.length_nil] at this
  rw [this]
  by_cases hb : l.any bad = true
  · simp only [hb, if_true]
  · simp only [Bool.not_eq_true] at hb
    simp only [hb, Bool.false_eq_true, if_false]
theorem lenF {A : Type} {l : List A} {n : Nat} (h : l.length ≤ n) (hn : n ≤ 1000000000) : l.length < FUEL := by unfold FUEL; omega
/-- the same, with the state told once more -/
theorem lss_len {A : Type} {l pre rest : List A} {x : A} (h : l = pre ++ x :: rest) : cm .lss (pre.length : Int) (l.length : Int) = true := by rw [h]; exact lss_app pre x rest
theorem idx_len {A : Type} {l pre rest : List A} {x : A} (h : l = pre ++ x :: rest) : Sw.idx l (pre.length : Int) = some x := by rw [h]; exact idx_app pre x rest
theorem idx_get {A : Type} {l : List A} {i : Nat} {x : A} (h : l[i]? = some x) : Sw.idx l (i : Int) = some x := by unfold Sw.idx; simp [h]
theorem idx_nat {A : Type} {l : List A} {n : Int} (h0 : 0 ≤ n) (h1 : n < l.length) : ∃ x, Sw.idx l n = some x ∧ l[n.toNat]? = some x := by
  have : n.toNat < l.length := by omega
  exact ⟨l[n.toNat], by unfold Sw.idx; simp [h0, this], by simp [this]⟩
/-- two lists that are the same, element by element -/
theorem same_loop {A : Type} [DecidableEq A] (l : List A) (hl : l.length ≤ 1000000) (k : Unit → Option Bool) :
    lp (β := Unit) (fun (s12 : Int) => bif (cm .lss s12 (l.length : Int)) then (Sw.idx l s12).bind fun z20 => (Sw.idx l s12).bind fun z21 => bif (!decide (z20 = z21)) then some (.done (.ret false)) else some (.next (ar .add .i64 s12 (1 : Int))) else some (.done (.brk ()))) (0 : Int) k = k () := by
  rw [show (0 : Int) = (fun (i : Nat) => (i : Int)) 0 from rfl]
  rw [lp_any (l := l) (fun (i : Nat) => (i : Int)) (fun _ => false) false () (lenF hl (by decide))]
  · simp
  · intro pre x rest h
    simp only [lss_len h, cond_true, idx_len h, Option.bind_some]
    rw [nxt (by rw [h] at hl; simp at hl; omega)]
    simp
  · simp only [lss_self, cond_false]
theorem wf_byte {n : Int} (h : Wf (Enc.int .u8) n) : 0 ≤ n ∧ n ≤ 255 := by
  have := h.int
  unfold inK at this
  simpa [IntKind.min, IntKind.max, IntKind.signed, IntKind.bits] using this
theorem wf_i64 {n : Int} (h : Wf (Enc.int .i64) n) : -9223372036854775808 ≤ n ∧ n ≤ 9223372036854775807 := by
  have := h.int
  unfold inK at this
  simpa [IntKind.min, IntKind.max, IntKind.signed, IntKind.bits] using this
theorem wf_bytes {l : List Int} (h : Wf (Enc.sl (Enc.int .u8)) l) : Bytes l := fun x hx => wf_byte (h.sl.2 x hx)

/-- the first bad one, by its number -/
theorem lp_find {α A β γ : Type} {step : α → Option (Step α (Ex β γ))} {l : List A} {k : β → Option γ} (st : Nat → α) (bad : A → Bool) (z : Nat → γ) (y : β) (hf : l.length < FUEL)
    (hs : ∀ pre x rest, l = pre ++ x :: rest → step (st pre.length) = some (if bad x then .done (.ret (z pre.length)) else .next (st (pre.length + 1)))) (he : step (st l.length) = some (.done (.brk y))) :
    lp step (st 0) k = match l.findIdx? bad with | some j => some (z j) | none => k y := by
  have key : ∀ (rest pre : List A) (f : Nat), l = pre ++ rest → rest.length < f → loop step f (st pre.length) = some (match rest.findIdx? bad with | some j => .ret (z (pre.length + j)) | none => .brk y) := by
    intro rest
    induction rest with
    | nil =>
      intro pre f hl hf
      obtain ⟨f, rfl⟩ : ∃ f', f = f' + 1 := ⟨f - 1, by simp at hf; omega⟩
      rw [List.append_nil] at hl
      rw [← hl]
      simp [loop, he]
    | cons x rest ih =>
      intro pre f hl hf
      obtain ⟨f, rfl⟩ : ∃ f', f = f' + 1 := ⟨f - 1, by simp at hf; omega⟩
      simp only [loop, hs pre x rest hl, List.findIdx?_cons]
      by_cases hb : bad x = true
      · simp [hb]
      · have := ih (pre ++ [x]) f (by rw [hl]; simp) (by simp at hf; omega)
        simp only [Bool.not_eq_true] at hb
        simp only [hb, Bool.false_eq_true, if_false]
        rw [List.length_append, List.length_singleton] at this
        rw [this]
        cases rest.findIdx? bad with
        | none => rfl
        | some j => simp only [Option.map_some]; congr 3; omega
  have := key l [] FUEL rfl hf
  unfold lp
  simp only [List.length_nil, Nat.zero_add] at this
  rw [this]
  cases l.findIdx? bad <;> rfl
theorem any_findIdx {A : Type} (l : List A) (bad : A → Bool) : l.any bad = (l.findIdx? bad).isSome := by
  simp
end Go.Pl

namespace Go.Pl
open Go Go.Sw Go.Mo
abbrev Disk := List Blk × List (Int × Blk) × Int
def badAt (n : Nat) (p : Int × Blk) : Bool := decide (p.1 < 0) || decide (p.1 ≥ n)
def diskErr (d : Disk) : Int := if d.1.length < 1 ∨ d.1.length > 200 ∨ d.2.1.length > 800 then 2 else if d.2.1.any (badAt d.1.length) then 1 else 0
theorem diskMay_is (d : Disk) : m_ref_DiskMay d = some (diskErr d) := by
  unfold m_ref_DiskMay diskErr
  simp only [cl, cg, cge]
  by_cases h1 : d.1.length < 1
  · have : (d.1.length : Int) < 1 := by omega
    simp [h1, this]
  by_cases h2 : d.1.length > 200
  · have e1 : ¬ (d.1.length : Int) < 1 := by omega
    have e2 : (d.1.length : Int) > 200 := by omega
    simp [h1, h2, e1, e2]
  by_cases h3 : d.2.1.length > 800
  · have e1 : ¬ (d.1.length : Int) < 1 := by omega
    have e2 : ¬ (d.1.length : Int) > 200 := by omega
    have e3 : (d.2.1.length : Int) > 800 := by omega
    simp [h1, h2, h3, e1, e2, e3]
  have e1 : ¬ (d.1.length : Int) < 1 := by omega
  have e2 : ¬ (d.1.length : Int) > 200 := by omega
  have e3 : ¬ (d.2.1.length : Int) > 800 := by omega
  simp only [e1, e2, e3, h1, h2, h3, decide_false, cond_false, Option.bind_some, or_self, if_false]
  refine (lp_any (l := d.2.1) (fun (i : Nat) => (i : Int)) (badAt d.1.length) (1 : Int) () (lenF (n := 800) (by omega) (by decide)) ?_ ?_).trans ?_
  · intro pre x rest h
    have hlt : ((pre.length : Nat) : Int) < (d.2.1.length : Int) := by rw [h]; simp; omega
    have hpl : pre.length ≤ 800 := by have := congrArg List.length h; simp at this; omega
    simp only [hlt, decide_true, cond_true, idx_len h, Option.bind_some, badAt]
    by_cases c1 : x.1 < 0
    · simp [c1]
    · by_cases c2 : x.1 ≥ (d.1.length : Int)
      · simp [c1, c2]
      · simp only [c1, c2, decide_false, cond_false, Option.bind_some, Bool.or_self, Bool.false_eq_true, if_false]
        rw [nxt (by omega)]
  · have : ¬ ((d.2.1.length : Nat) : Int) < (d.2.1.length : Int) := by omega
    simp only [this, decide_false, cond_false]
  · by_cases c : d.2.1.any (badAt d.1.length) = true <;> simp [c]
theorem check1_disk (x : Int × Blk) (d : Disk) : m_disk_Check_1 x d = some (badAt d.1.length x) := by
  unfold m_disk_Check_1 badAt
  simp only [cl, cge]
  by_cases c1 : x.1 < 0 <;> simp [c1]
theorem indexAny_disk (l : List (Int × Blk)) (d : Disk) (hl : l.length ≤ 1000000) : m_slices_ContainsFunc_api_Put_api_Put__disk_Check_1 l d = some (l.any (badAt d.1.length)) := by
  unfold m_slices_ContainsFunc_api_Put_api_Put__disk_Check_1 m_slices_IndexFunc_api_Put_api_Put__disk_Check_1
  have h := lp_find (l := l) (γ := Int) (β := Unit) (step := fun (s11 : Int) => bif (cm .lss s11 (l.length : Int)) then (Sw.idx l s11).bind fun z19 => (m_disk_Check_1 z19 d).bind fun v20 => bif v20 then some (.done (.ret s11)) else some (.next (ar .add .i64 s11 (1 : Int))) else some (.done (.brk ()))) (k := fun _ => some (-1 : Int)) (fun (i : Nat) => (i : Int)) (badAt d.1.length) (fun i => (i : Int)) () (lenF hl (by decide)) ?_ ?_
  · have h' : lp (β := Unit) (fun (s11 : Int) => bif (cm .lss s11 (l.length : Int)) then (Sw.idx l s11).bind fun z19 => (m_disk_Check_1 z19 d).bind fun v20 => bif v20 then some (.done (.ret s11)) else some (.next (ar .add .i64 s11 (1 : Int))) else some (.done (.brk ()))) (0 : Int) (fun _ => some (-1 : Int)) = _ := h
    rw [h', any_findIdx]
    cases hf : l.findIdx? (badAt d.1.length) with
    | none => simp [cge]
    | some j => simp [cge]
  · intro pre x rest h
    simp only [lss_len h, cond_true, idx_len h, Option.bind_some, check1_disk]
    by_cases c : badAt d.1.length x = true
    · simp [c]
    · simp only [Bool.not_eq_true] at c
      simp only [c, cond_false, Bool.false_eq_true, if_false]
      rw [nxt (by rw [h] at hl; simp at hl; omega)]
  · simp only [lss_self, cond_false]
theorem checkDisk_is (d : Disk) : m_disk_Check d = some (if diskErr d = 0 then none else some (diskErr d)) := by
  unfold m_disk_Check diskErr
  simp only [cl, cg]
  by_cases h1 : d.1.length < 1
  · have : (d.1.length : Int) < 1 := by omega
    simp [h1, this]
  by_cases h2 : d.1.length > 200
  · have e1 : ¬ (d.1.length : Int) < 1 := by omega
    have e2 : (d.1.length : Int) > 200 := by omega
    simp [h1, h2, e1, e2]
  by_cases h3 : d.2.1.length > 800
  · have e1 : ¬ (d.1.length : Int) < 1 := by omega
    have e2 : ¬ (d.1.length : Int) > 200 := by omega
    have e3 : (d.2.1.length : Int) > 800 := by omega
    simp [h1, h2, h3, e1, e2, e3]
  have e1 : ¬ (d.1.length : Int) < 1 := by omega
  have e2 : ¬ (d.1.length : Int) > 200 := by omega
  have e3 : ¬ (d.2.1.length : Int) > 800 := by omega
  simp only [e1, e2, e3, h1, h2, h3, decide_false, cond_false, Option.bind_some, or_self, if_false]
  rw [indexAny_disk _ _ (by omega)]
  by_cases c : d.2.1.any (badAt d.1.length) = true <;> simp [c]

theorem is_err (c : Int) (hc : c = 0 → False) : m_ref_Is (some c) c = some true := by
  unfold m_ref_Is
  have : cm .neq c 0 = true := by rw [cn]; simpa using hc
  simp [this]
theorem is_none0 : m_ref_Is none 0 = some true := by decide
theorem sameBlocks_self (l : List Blk) (hl : l.length ≤ 1000000) : m_ref_SameBlocks l l = some true := by
  unfold m_ref_SameBlocks
  rw [cn]
  simp only [ne_eq, not_true, decide_false, cond_false]
  exact same_loop l hl _
theorem samePuts_self (l : List (Int × Blk)) (hl : l.length ≤ 1000000) : m_ref_SamePuts l l = some true := by
  unfold m_ref_SamePuts
  rw [cn]
  simp only [ne_eq, not_true, decide_false, cond_false]
  exact same_loop l hl _
theorem sameDisk_self (d : Disk) (h1 : d.1.length ≤ 1000000) (h2 : d.2.1.length ≤ 1000000) : m_ref_SameDisk d d = some true := by
  unfold m_ref_SameDisk
  rw [ce, sameBlocks_self _ h1, samePuts_self _ h2]
  simp
end Go.Pl

namespace Go.Pl
open Go Go.Sw Go.Mo
theorem cl2 (m n : Int) : cm .lss m n = decide (m < n) := Eq.trans (Eq.refl _) (cl m n)
theorem cg2 (m n : Int) : cm .gtr m n = decide (m > n) := Eq.trans (Eq.refl _) (cg m n)
theorem cge2 (m n : Int) : cm .geq m n = decide (m ≥ n) := Eq.trans (Eq.refl _) (cge m n)
theorem jp_k {β γ : Type} (K : β → Option γ) (a : β) : jp K (fun k => k a) = K a := Eq.trans (Eq.refl _) (Eq.refl _)
theorem isE (n : Int) : m_ref_Is (if n = 0 then none else some n) n = some true := by
  by_cases h : n = 0
  · rw [if_pos h, h]; exact is_none0
  · rw [if_neg h]; exact is_err n h
theorem isN0 : m_ref_Is none 0 = some true := by decide
theorem isN1 : m_ref_Is (some 1) 1 = some true := by decide
theorem isN2 : m_ref_Is (some 2) 2 = some true := by decide
theorem isN4 : m_ref_Is (some 4) 4 = some true := by decide
theorem isN (n : Int) (h : n ≠ 0) : m_ref_Is (some n) n = some true := is_err n h
theorem one_ne : ((1 : Int) = 0) = False := by decide
theorem two_ne : ((2 : Int) = 0) = False := by decide
def decL (n : Int) : Int := if n > 0 then ar .sub .i64 n 1 else n
theorem step_is (s : List Blk) (p : List (Int × Blk)) (n : Int) : m_disk_Disk_step_io s p n = some (if n = 0 then (some 4, s, p, n) else (none, s, p, decL n)) := by
  unfold m_disk_Disk_step_io jp decL
  rw [ce, cg]
  by_cases h : n = 0
  · simp [h]
  · by_cases q : n > 0 <;> simp [h, q]
theorem clone_is (d : Disk) (h1 : d.1.length ≤ 1000) (h2 : d.2.1.length ≤ 1000) : m_disk_clone d = some (d.1, d.2.1, d.2.2) := by
  unfold m_disk_clone m_slices_Clone_api_Block_api_Block m_slices_Clone_api_Put_api_Put
  rw [app_small _ _ (by simp; omega), app_small _ _ (by simp; omega)]; rfl
theorem ownDisk_is (d : Disk) (h1 : d.1.length ≤ 1000) (h2 : d.2.1.length ≤ 1000) : m_ref_OwnDisk d = some (d.1, d.2.1, d.2.2) := by
  unfold m_ref_OwnDisk m_ref_OwnBlocks
  rw [app_small _ _ (by simp; omega), app_small _ _ (by simp; omega)]; rfl
theorem ownDisk_e (d : Disk) (hz : d.2.1 = []) (h1 : d.1.length ≤ 1000) : m_ref_OwnDisk_e d = some (d.1, d.2.1, d.2.2) := by
  unfold m_ref_OwnDisk_e m_ref_OwnBlocks
  rw [app_small _ _ (by simp; omega), hz]; rfl
/-! ### what is read -/
def lastV (a : Int) (l : List (Int × Blk)) (z : Blk) : Blk := (l.zipIdx).foldl (fun acc x => if x.1.1 = a then x.1.2 else acc) z
theorem lastV_is (a : Int) (z : Blk) (l : List (Int × Blk)) : lastV a l z = l.foldl (fun acc p => if p.1 = a then p.2 else acc) z := by
  unfold lastV
  have : ∀ (l : List (Int × Blk)) (i : Nat) (z : Blk), (l.zipIdx i).foldl (fun acc x => if x.1.1 = a then x.1.2 else acc) z = l.foldl (fun acc p => if p.1 = a then p.2 else acc) z := by
    intro l
    induction l with
    | nil => intro i z; rfl
    | cons p l ih => intro i z; simp only [List.zipIdx_cons, List.foldl_cons]; exact ih _ _
  exact this l 0 z
def firstV (a : Int) : List (Int × (Int × Blk)) → Option Blk
  | [] => none
  | p :: l => if p.2.1 = a then some p.2.2 else firstV a l
theorem rng_first (a : Int) : ∀ its : List (Int × (Int × Blk)), rng (δ := Blk) (fun (z10 : (Int × (Int × Blk))) (_ : Unit) =>
                  bif (cm .eql z10.2.1 a) then
                    some (.done z10.2.2)
                  else
                    some (.next ())
                  ) its () = some (match firstV a its with | some b => .ret b | none => .brk ())
  | [] => rfl
  | p :: l => by
    simp only [rng, firstV, ce]
    by_cases h : p.2.1 = a
    · simp [h]
    · simp only [h, decide_false, cond_false, if_false]
      have := rng_first a l
      simp only [ce] at this
      exact this
theorem first_foldr (a : Int) (z : Blk) : ∀ its : List (Int × (Int × Blk)), (firstV a its).getD z = (its.map Prod.snd).foldr (fun p acc => if p.1 = a then p.2 else acc) z
  | [] => rfl
  | p :: l => by
    simp only [firstV, List.map_cons, List.foldr_cons, ← first_foldr a z l]
    by_cases h : p.2.1 = a <;> simp [h]
theorem backs_snd {α : Type} (l : List α) : (Sw.backs l).map Prod.snd = l.reverse := by
  unfold Sw.backs
  rw [List.map_reverse, List.map_map]
  congr 1
  have : ∀ (l : List α) (i : Nat), (l.zipIdx i).map (Prod.snd ∘ fun x : α × Nat => ((x.2 : Int), x.1)) = l := by
    intro l
    induction l with
    | nil => intro i; rfl
    | cons x l ih => intro i; simp only [List.zipIdx_cons, List.map_cons, ih]; rfl
  exact this l 0
theorem first_back (a : Int) (z : Blk) (l : List (Int × Blk)) : (firstV a (Sw.backs l)).getD z = lastV a l z := by
  rw [first_foldr, backs_snd, lastV_is, List.foldr_reverse]
theorem read_is (d : Disk) (a : Int) (hl : d.2.1.length ≤ 1000) : m_disk_Read d a = some (if diskErr d = 0 then (if a < 0 ∨ a ≥ d.1.length then (zblk, some 1) else if d.2.2 = 0 then (zblk, some 4) else (lastV a d.2.1 (d.1.getD a.toNat []), none)) else (zblk, some (diskErr d))) := by
  unfold m_disk_Read
  rw [checkDisk_is, Option.bind_some]
  by_cases e : diskErr d = 0
  · simp only [e, if_true, Option.isSome_none, cond_false, cl, cge]
    by_cases h1 : a < 0
    · simp [h1]
    by_cases h2 : a ≥ d.1.length
    · simp [h1, h2]
    simp only [h1, h2, decide_false, cond_false, Option.bind_some, or_self, if_false]
    rw [ce d.2.2]
    by_cases h3 : d.2.2 = 0
    · simp [h3]
    have hsm : small d.2.1 = some () := by unfold small; rw [if_pos (by omega)]
    have hlt : a.toNat < d.1.length := by omega
    have hi : Sw.idx d.1 a = some (d.1.getD a.toNat []) := by unfold Sw.idx; rw [if_pos (by omega)]; simp [List.getD_eq_getElem?_getD, List.getElem?_eq_getElem hlt]
    have hb : m_slices_Backward_api_Put_api_Put d.2.1 = some d.2.1 := rfl
    simp only [h3, decide_false, cond_false, if_false, hb, Option.bind_some, hsm, rg, rng_first, hi]
    rw [← first_back]
    cases firstV a (Sw.backs d.2.1) <;> rfl
  · simp [e]
theorem want_is {γ : Type} (d : Disk) (a : Int) (z : Blk) (hl : d.2.1.length ≤ 1000) (k : Blk → Option γ) :
    lp (β := Blk) (fun (s79 : Int × Blk) =>
                                            bif (cm .lss s79.1 (d.2.1.length : Int)) then
                                              (Sw.idx d.2.1 s79.1).bind fun z87 =>
                                                bif (cm .eql z87.1 a) then
                                                  (Sw.idx d.2.1 s79.1).bind fun z89 =>
                                                    some (.next ((ar .add .i64 s79.1 (1 : Int)), z89.2))
                                                else
                                                  some (.next ((ar .add .i64 s79.1 (1 : Int)), s79.2))
                                            else
                                              some (.done (.brk s79.2))
                                            ) ((0 : Int), z) k = k (lastV a d.2.1 z) := by
  refine (lp_inv (l := d.2.1) (fun i (acc : Blk) => ((i : Int), acc)) (fun _ _ => True) z (fun _ p acc => if p.1 = a then p.2 else acc) id (lenF hl (by decide)) trivial ?_ ?_).trans ?_
  · intro pre p rest acc hp _
    have hpl : pre.length ≤ 1000 := by rw [hp] at hl; simp at hl; omega
    refine ⟨?_, trivial⟩
    simp only [lss_len hp, cond_true, idx_len hp, Option.bind_some, ce]
    rw [nxt (by omega)]
    by_cases h : p.1 = a <;> simp [h]
  · intro acc _
    simp only [lss_self, cond_false]
    rfl
  · rfl
/-! ### what is flushed, what is written -/
def flushL (d : Disk) : List Blk := (d.2.1.zipIdx).foldl (fun acc x => acc.set x.1.1.toNat x.1.2) d.1
theorem flushL_len (d : Disk) : (flushL d).length = d.1.length := by
  unfold flushL
  generalize d.2.1.zipIdx = z
  generalize d.1 = s
  induction z generalizing s with
  | nil => rfl
  | cons x z ih => rw [List.foldl_cons, ih]; simp
theorem in_of {d : Disk} (e : diskErr d = 0) : ∀ p ∈ d.2.1, 0 ≤ p.1 ∧ p.1 < d.1.length := by
  unfold diskErr at e
  split at e
  · cases e
  · split at e
    · cases e
    · rename_i hn hb
      intro p hp
      have : badAt d.1.length p = false := by
        simp only [Bool.not_eq_true] at hb
        exact (List.any_eq_false.1 hb p hp) |> fun h => by simpa using h
      unfold badAt at this
      simp at this
      omega
theorem flush_step (d : Disk) (e : diskErr d = 0) {p : Int × Blk} (hp : p ∈ d.2.1) {acc : List Blk} (ha : acc.length = d.1.length) : ∃ z, Sw.idx acc p.1 = some z := by
  have := in_of e p hp
  have hlt : p.1.toNat < acc.length := by omega
  exact ⟨acc[p.1.toNat], by unfold Sw.idx; rw [if_pos this.1, List.getElem?_eq_getElem hlt]⟩
theorem flushL_is {γ : Type} (d : Disk) (e : diskErr d = 0) (hl : d.2.1.length ≤ 1000) (k : List Blk → Option γ) :
    lp (β := (List Blk)) (fun (s139 : Int × (List Blk)) =>
                                                    bif (cm .lss s139.1 (d.2.1.length : Int)) then
                                                      (Sw.idx d.2.1 s139.1).bind fun z147 =>
                                                        (Sw.idx d.2.1 s139.1).bind fun z148 =>
                                                          (Sw.idx s139.2 z147.1).bind fun _ =>
                                                            some (.next ((ar .add .i64 s139.1 (1 : Int)), (List.set s139.2 (Int.toNat z147.1) z148.2)))
                                                    else
                                                      some (.done (.brk s139.2))
                                                    ) ((0 : Int), d.1) k = k (flushL d) := by
  refine (lp_inv (l := d.2.1) (fun i (acc : List Blk) => ((i : Int), acc)) (fun _ acc => acc.length = d.1.length) d.1 (fun _ p acc => acc.set p.1.toNat p.2) id (lenF hl (by decide)) rfl ?_ ?_).trans ?_
  · intro pre p rest acc hp hI
    have hpl : pre.length ≤ 1000 := by rw [hp] at hl; simp at hl; omega
    obtain ⟨z, hz⟩ := flush_step d e (p := p) (by rw [hp]; simp) hI
    refine ⟨?_, by simpa using hI⟩
    simp only [lss_len hp, cond_true, idx_len hp, Option.bind_some, hz]
    rw [nxt (by omega)]
  · intro acc _
    simp only [lss_self, cond_false]
    rfl
  · rfl
theorem flush_is (d : Disk) (h1 : d.1.length ≤ 1000) (h2 : d.2.1.length ≤ 1000) : m_disk_Flush d = some (if diskErr d = 0 then (if d.2.2 = 0 then (([], [], 0), some 4) else ((flushL d, [], decL d.2.2), none)) else (([], [], 0), some (diskErr d))) := by
  unfold m_disk_Flush
  rw [checkDisk_is, Option.bind_some]
  by_cases e : diskErr d = 0
  · simp only [e, if_true, Option.isSome_none, cond_false]
    rw [clone_is d h1 h2, Option.bind_some, step_is, Option.bind_some]
    by_cases h3 : d.2.2 = 0
    · simp [h3]
    simp only [h3, if_false, Option.isSome_none, cond_false]
    refine (lp_inv (l := d.2.1) (fun i (acc : List Blk) => ((i : Int), acc)) (fun _ acc => acc.length = d.1.length) d.1 (fun _ p acc => acc.set p.1.toNat p.2) id (lenF h2 (by decide)) rfl ?_ ?_).trans ?_
    · intro pre p rest acc hp hI
      have hpl : pre.length ≤ 1000 := by rw [hp] at h2; simp at h2; omega
      obtain ⟨z, hz⟩ := flush_step d e (p := p) (by rw [hp]; simp) hI
      refine ⟨?_, by simpa using hI⟩
      simp only [lss_len hp, cond_true, idx_len hp, Option.bind_some, hz]
      rw [nxt (by omega)]
    · intro acc _
      simp only [lss_self, cond_false]
      rfl
    · rfl
  · simp [e]
theorem write_is (d : Disk) (a : Int) (b : Blk) (h1 : d.1.length ≤ 1000) (h2 : d.2.1.length ≤ 1000) : m_disk_Write d a b = some (if diskErr d = 0 then (if a < 0 ∨ a ≥ d.1.length then (([], [], 0), some 1) else if (d.2.1.length : Int) = 800 then (([], [], 0), some 2) else if d.2.2 = 0 then (([], [], 0), some 4) else ((d.1, d.2.1 ++ [(a, b)], decL d.2.2), none)) else (([], [], 0), some (diskErr d))) := by
  unfold m_disk_Write
  rw [checkDisk_is, Option.bind_some]
  by_cases e : diskErr d = 0
  · simp only [e, if_true, Option.isSome_none, cond_false, cl, cge]
    by_cases c1 : a < 0
    · simp [c1]
    by_cases c2 : a ≥ d.1.length
    · simp [c1, c2]
    simp only [c1, c2, decide_false, cond_false, Option.bind_some, or_self, if_false]
    rw [ce]
    by_cases c3 : (d.2.1.length : Int) = 800
    · simp [c3]
    simp only [c3, decide_false, cond_false, if_false]
    rw [clone_is d h1 h2, Option.bind_some, step_is, Option.bind_some]
    by_cases c4 : d.2.2 = 0
    · simp [c4]
    simp only [c4, if_false, Option.isSome_none, cond_false]
    rw [app_small _ _ (by simp; omega), Option.bind_some]
  · simp [e]

theorem law_DiskSays (d : Disk) (at' : Int) (b : Blk) : m_law_DiskSays d at' b = some true := by
  unfold m_law_DiskSays
  simp only [cl2, cg2, cge2, ce]
  by_cases c1 : (d.1.length : Int) > 300
  · simp [c1]
  by_cases c2 : (d.2.1.length : Int) > 900
  · simp [c1, c2]
  have hl1 : d.1.length ≤ 1000 := by omega
  have hl2 : d.2.1.length ≤ 1000 := by omega
  simp only [c1, c2, decide_false, cond_false, Option.bind_some]
  rw [diskMay_is, Option.bind_some, checkDisk_is, Option.bind_some, isE]
  simp only [Option.bind_some, Bool.not_true, cond_false]
  have own := ownDisk_is d hl1 hl2
  have rd := read_is d at' hl2
  have wr := write_is d at' b hl1 hl2
  have fl := flush_is d hl1 hl2
  have zz : m_ref_SameDisk (([] : List Blk), ([] : List (Int × Blk)), (0 : Int)) (([] : List Blk), ([] : List (Int × Blk)), (0 : Int)) = some true := sameDisk_self _ (by simp) (by simp)
  by_cases e : diskErr d = 0
  · by_cases th : at' ≥ 0 ∧ at' < d.1.length
    · obtain ⟨t1, t2⟩ := th
      have n1 : ¬ at' < 0 := by omega
      have n2 : ¬ at' ≥ d.1.length := by omega
      have hi : Sw.idx d.1 at' = some (d.1.getD at'.toNat []) := by
        have hlt : at'.toNat < d.1.length := by omega
        unfold Sw.idx; rw [if_pos (by omega)]; simp [List.getD_eq_getElem?_getD, List.getElem?_eq_getElem hlt]
      have wl := want_is (γ := Bool) d at' (d.1.getD at'.toNat []) hl2
      simp only [cl2, ce] at wl
      have fo := flushL_is (γ := Bool) d e hl2
      simp only [cl2] at fo
      have sf : m_ref_SameDisk (flushL d, ([] : List (Int × Blk)), decL d.2.2) (flushL d, ([] : List (Int × Blk)), decL d.2.2) = some true := sameDisk_self _ (by rw [flushL_len]; omega) (by simp)
      have sw : m_ref_SameDisk (d.1, d.2.1 ++ [(at', b)], decL d.2.2) (d.1, d.2.1 ++ [(at', b)], decL d.2.2) = some true := sameDisk_self _ (by simp; omega) (by simp; omega)
      by_cases l0 : d.2.2 = 0
      · by_cases p8 : (d.2.1.length : Int) = 800
        · simp [jp_k, e, t1, t2, n1, n2, l0, p8] at rd wr fl ⊢
          simp [jp_k, rd, wr, fl, isN, zz]
        · simp [jp_k, e, t1, t2, n1, n2, l0, p8] at rd wr fl ⊢
          simp [jp_k, rd, wr, fl, isN, zz]
      · have dl : ((bif decide (d.2.2 > 0) then ar .sub .i64 d.2.2 1 else d.2.2) : Int) = decL d.2.2 := by unfold decL; by_cases q : d.2.2 > 0 <;> simp [q]
        by_cases p8 : (d.2.1.length : Int) = 800
        · rw [if_pos e, if_neg (by omega), if_neg l0] at rd
          rw [if_pos e, if_neg (by omega), if_pos p8] at wr
          rw [if_pos e, if_neg l0] at fl
          have hp8 : decide ((d.2.1.length : Int) = 800) = true := decide_eq_true p8
          simp only [jp_k, e, t1, t2, l0, hp8, decide_true, decide_false, cond_true, cond_false, Bool.not_true, Option.bind_some, rd, wr, fl, hi, wl, own, isN0, isN2, two_ne, zz]
          by_cases q : d.2.2 > 0
          · have : decL d.2.2 = ar .sub .i64 d.2.2 1 := by unfold decL; rw [if_pos q]
            simp [jp_k, q, isN0, isN2, zz, fo, ← this, sf]
          · have : decL d.2.2 = d.2.2 := by unfold decL; rw [if_neg q]
            rw [this] at sf
            simp [jp_k, q, isN0, isN2, zz, fo, this, sf]
        · rw [if_pos e, if_neg (by omega), if_neg l0] at rd
          rw [if_pos e, if_neg (by omega), if_neg p8, if_neg l0] at wr
          rw [if_pos e, if_neg l0] at fl
          have ap : Sw.app d.2.1 [(at', b)] = some (d.2.1 ++ [(at', b)]) := app_small _ _ (by simp; omega)
          simp only [jp_k, e, t1, t2, l0, p8, decide_true, decide_false, cond_true, cond_false, Bool.not_true, Option.bind_some, rd, wr, fl, hi, wl, own, ap, isN0]
          by_cases q : d.2.2 > 0
          · have : decL d.2.2 = ar .sub .i64 d.2.2 1 := by unfold decL; rw [if_pos q]
            simp [jp_k, q, isN0, fo, ← this, sf, sw]
          · have : decL d.2.2 = d.2.2 := by unfold decL; rw [if_neg q]
            rw [this] at sf sw
            simp [jp_k, q, isN0, fo, this, sf, sw]
    · have th2 : at' < 0 ∨ at' ≥ d.1.length := by omega
      have thb : (bif decide (at' ≥ 0) then some (decide (at' < (d.1.length : Int))) else some false) = some false := by
        by_cases q : at' ≥ 0
        · have : ¬ at' < (d.1.length : Int) := by omega
          simp [jp_k, q, this]
        · simp [q]
      have fo := flushL_is (γ := Bool) d e hl2
      simp only [cl2] at fo
      have sf : m_ref_SameDisk (flushL d, ([] : List (Int × Blk)), decL d.2.2) (flushL d, ([] : List (Int × Blk)), decL d.2.2) = some true := sameDisk_self _ (by rw [flushL_len]; omega) (by simp)
      rw [if_pos e, if_pos th2] at rd
      rw [if_pos e, if_pos th2] at wr
      simp only [jp_k, thb, e, decide_true, cond_true, Option.bind_some, Bool.not_false, one_ne, decide_false, cond_false, rd, wr, isN1]
      by_cases l0 : d.2.2 = 0
      · rw [if_pos e, if_pos l0] at fl
        simp [jp_k, l0, fl, isN1, isN4, zz]
      · rw [if_pos e, if_neg l0] at fl
        by_cases q : d.2.2 > 0
        · have : decL d.2.2 = ar .sub .i64 d.2.2 1 := by unfold decL; rw [if_pos q]
          simp [jp_k, l0, q, fl, isN0, isN1, zz, own, fo, ← this, sf]
        · have : decL d.2.2 = d.2.2 := by unfold decL; rw [if_neg q]
          rw [this] at sf
          simp [jp_k, l0, q, fl, isN0, isN1, zz, own, fo, this, sf]
  · have is' := is_err _ e
    rw [if_neg e] at rd wr fl
    have thb : ∃ v, (bif decide (at' ≥ 0) then some (decide (at' < (d.1.length : Int))) else some false) = some v := by
      cases decide (at' ≥ 0) <;> exact ⟨_, rfl⟩
    obtain ⟨v, hv⟩ := thb
    by_cases q : d.2.2 > 0 <;> simp [jp_k, hv, e, rd, wr, fl, is', zz, q]

theorem law_DiskSays_e (d : Disk) (at' : Int) (b : Blk) (hz : d.2.1 = []) : m_law_DiskSays_e d at' b = some true := by
  unfold m_law_DiskSays_e
  simp only [cl2, cg2, cge2, ce]
  by_cases c1 : (d.1.length : Int) > 300
  · simp [c1]
  by_cases c2 : (d.2.1.length : Int) > 900
  · simp [c1, c2]
  have hl1 : d.1.length ≤ 1000 := by omega
  have hl2 : d.2.1.length ≤ 1000 := by omega
  simp only [c1, c2, decide_false, cond_false, Option.bind_some]
  rw [diskMay_is, Option.bind_some, checkDisk_is, Option.bind_some, isE]
  simp only [Option.bind_some, Bool.not_true, cond_false]
  have own := ownDisk_e d hz hl1
  have rd := read_is d at' hl2
  have wr := write_is d at' b hl1 hl2
  have fl := flush_is d hl1 hl2
  have zz : m_ref_SameDisk (([] : List Blk), ([] : List (Int × Blk)), (0 : Int)) (([] : List Blk), ([] : List (Int × Blk)), (0 : Int)) = some true := sameDisk_self _ (by simp) (by simp)
  by_cases e : diskErr d = 0
  · by_cases th : at' ≥ 0 ∧ at' < d.1.length
    · obtain ⟨t1, t2⟩ := th
      have n1 : ¬ at' < 0 := by omega
      have n2 : ¬ at' ≥ d.1.length := by omega
      have hi : Sw.idx d.1 at' = some (d.1.getD at'.toNat []) := by
        have hlt : at'.toNat < d.1.length := by omega
        unfold Sw.idx; rw [if_pos (by omega)]; simp [List.getD_eq_getElem?_getD, List.getElem?_eq_getElem hlt]
      have wl := want_is (γ := Bool) d at' (d.1.getD at'.toNat []) hl2
      simp only [cl2, ce] at wl
      have fo := flushL_is (γ := Bool) d e hl2
      simp only [cl2] at fo
      have sf : m_ref_SameDisk (flushL d, ([] : List (Int × Blk)), decL d.2.2) (flushL d, ([] : List (Int × Blk)), decL d.2.2) = some true := sameDisk_self _ (by rw [flushL_len]; omega) (by simp)
      have sw : m_ref_SameDisk (d.1, d.2.1 ++ [(at', b)], decL d.2.2) (d.1, d.2.1 ++ [(at', b)], decL d.2.2) = some true := sameDisk_self _ (by simp; omega) (by simp; omega)
      by_cases l0 : d.2.2 = 0
      · by_cases p8 : (d.2.1.length : Int) = 800
        · simp [jp_k, e, t1, t2, n1, n2, l0, p8] at rd wr fl ⊢
          simp [jp_k, rd, wr, fl, isN, zz]
        · simp [jp_k, e, t1, t2, n1, n2, l0, p8] at rd wr fl ⊢
          simp [jp_k, rd, wr, fl, isN, zz]
      · have dl : ((bif decide (d.2.2 > 0) then ar .sub .i64 d.2.2 1 else d.2.2) : Int) = decL d.2.2 := by unfold decL; by_cases q : d.2.2 > 0 <;> simp [q]
        by_cases p8 : (d.2.1.length : Int) = 800
        · rw [if_pos e, if_neg (by omega), if_neg l0] at rd
          rw [if_pos e, if_neg (by omega), if_pos p8] at wr
          rw [if_pos e, if_neg l0] at fl
          have hp8 : decide ((d.2.1.length : Int) = 800) = true := decide_eq_true p8
          simp only [jp_k, e, t1, t2, l0, hp8, decide_true, decide_false, cond_true, cond_false, Bool.not_true, Option.bind_some, rd, wr, fl, hi, wl, own, isN0, isN2, two_ne, zz]
          by_cases q : d.2.2 > 0
          · have : decL d.2.2 = ar .sub .i64 d.2.2 1 := by unfold decL; rw [if_pos q]
            simp [jp_k, q, isN0, isN2, zz, fo, ← this, sf]
          · have : decL d.2.2 = d.2.2 := by unfold decL; rw [if_neg q]
            rw [this] at sf
            simp [jp_k, q, isN0, isN2, zz, fo, this, sf]
        · rw [if_pos e, if_neg (by omega), if_neg l0] at rd
          rw [if_pos e, if_neg (by omega), if_neg p8, if_neg l0] at wr
          rw [if_pos e, if_neg l0] at fl
          have ap : Sw.app [] [(at', b)] = some (d.2.1 ++ [(at', b)]) := by rw [hz]; rfl
          simp only [jp_k, e, t1, t2, l0, p8, decide_true, decide_false, cond_true, cond_false, Bool.not_true, Option.bind_some, rd, wr, fl, hi, wl, own, ap, isN0]
          by_cases q : d.2.2 > 0
          · have : decL d.2.2 = ar .sub .i64 d.2.2 1 := by unfold decL; rw [if_pos q]
            simp [jp_k, q, isN0, fo, ← this, sf, sw]
          · have : decL d.2.2 = d.2.2 := by unfold decL; rw [if_neg q]
            rw [this] at sf sw
            simp [jp_k, q, isN0, fo, this, sf, sw]
    · have th2 : at' < 0 ∨ at' ≥ d.1.length := by omega
      have thb : (bif decide (at' ≥ 0) then some (decide (at' < (d.1.length : Int))) else some false) = some false := by
        by_cases q : at' ≥ 0
        · have : ¬ at' < (d.1.length : Int) := by omega
          simp [jp_k, q, this]
        · simp [q]
      have fo := flushL_is (γ := Bool) d e hl2
      simp only [cl2] at fo
      have sf : m_ref_SameDisk (flushL d, ([] : List (Int × Blk)), decL d.2.2) (flushL d, ([] : List (Int × Blk)), decL d.2.2) = some true := sameDisk_self _ (by rw [flushL_len]; omega) (by simp)
      rw [if_pos e, if_pos th2] at rd
      rw [if_pos e, if_pos th2] at wr
      simp only [jp_k, thb, e, decide_true, cond_true, Option.bind_some, Bool.not_false, one_ne, decide_false, cond_false, rd, wr, isN1]
      by_cases l0 : d.2.2 = 0
      · rw [if_pos e, if_pos l0] at fl
        simp [jp_k, l0, fl, isN1, isN4, zz]
      · rw [if_pos e, if_neg l0] at fl
        by_cases q : d.2.2 > 0
        · have : decL d.2.2 = ar .sub .i64 d.2.2 1 := by unfold decL; rw [if_pos q]
          simp [jp_k, l0, q, fl, isN0, isN1, zz, own, fo, ← this, sf]
        · have : decL d.2.2 = d.2.2 := by unfold decL; rw [if_neg q]
          rw [this] at sf
          simp [jp_k, l0, q, fl, isN0, isN1, zz, own, fo, this, sf]
  · have is' := is_err _ e
    rw [if_neg e] at rd wr fl
    have thb : ∃ v, (bif decide (at' ≥ 0) then some (decide (at' < (d.1.length : Int))) else some false) = some v := by
      cases decide (at' ≥ 0) <;> exact ⟨_, rfl⟩
    obtain ⟨v, hv⟩ := thb
    by_cases q : d.2.2 > 0 <;> simp [jp_k, hv, e, rd, wr, fl, is', zz, q]
end Go.Pl
