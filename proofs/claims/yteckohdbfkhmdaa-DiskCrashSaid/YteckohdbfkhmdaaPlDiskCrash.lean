/- The plain law: the model of the law answers true. Conditions: none. -/
import Derived.Test.YteckohdbfkhmdaaMoDiskCrash
namespace Go.Pl
open Go Go.Sw

/-- going over a list, with what is carried, till something is done -/
def foldS {A B D : Type} (g : Nat → A → B → Step B D) (fin : B → D) : Nat → B → List A → D
  | _, acc, [] => fin acc
  | i, acc, x :: xs => match g i x acc with
    | .next acc' => foldS g fin (i + 1) acc' xs
    | .done d => d

def stp {α B D : Type} (st : Nat → B → α) (i : Nat) : Step B D → Step α D
  | .next a => .next (st i a)
  | .done d => .done d
def out {β γ : Type} (k : β → Option γ) : Ex β γ → Option γ
  | .brk y => k y
  | .ret z => some z

theorem loop_list {α A B D : Type} {step : α → Option (Step α D)} {l : List A} (st : Nat → B → α) (g : Nat → A → B → Step B D) (fin : B → D)
    (hs : ∀ pre x rest acc, l = pre ++ x :: rest → step (st pre.length acc) = some (stp st (pre.length + 1) (g pre.length x acc)))
    (he : ∀ acc, step (st l.length acc) = some (.done (fin acc))) :
    ∀ (rest pre : List A) (acc : B) (f : Nat), l = pre ++ rest → rest.length < f → loop step f (st pre.length acc) = some (foldS g fin pre.length acc rest)
  | [], pre, acc, f, hl, hf => by
    obtain ⟨f, rfl⟩ : ∃ f', f = f' + 1 := ⟨f - 1, by simp at hf; omega⟩
    have := he acc
    rw [hl, List.append_nil] at this
    simp [loop, this, foldS]
  | x :: rest, pre, acc, f, hl, hf => by
    obtain ⟨f, rfl⟩ : ∃ f', f = f' + 1 := ⟨f - 1, by simp at hf; omega⟩
    have h1 := hs pre x rest acc hl
    simp only [loop, h1, foldS]
    cases hg : g pre.length x acc with
    | done d => rfl
    | next acc' =>
      have ih := loop_list st g fin hs he rest (pre ++ [x]) acc' f (by rw [hl]; simp) (by simp at hf; omega)
      simpa [stp] using ih

theorem lp_list {α A B β γ : Type} {step : α → Option (Step α (Ex β γ))} {l : List A} {k : β → Option γ} (st : Nat → B → α) (acc0 : B) (g : Nat → A → B → Step B (Ex β γ)) (fin : B → Ex β γ) (hf : l.length < FUEL)
    (hs : ∀ pre x rest acc, l = pre ++ x :: rest → step (st pre.length acc) = some (stp st (pre.length + 1) (g pre.length x acc)))
    (he : ∀ acc, step (st l.length acc) = some (.done (fin acc))) :
    lp step (st 0 acc0) k = out k (foldS g fin 0 acc0 l) := by
  have h := loop_list st g fin hs he l [] acc0 FUEL rfl hf
  unfold lp
  simp only [List.length_nil] at h
  rw [h]
  cases foldS g fin 0 acc0 l <;> rfl

theorem idx_app {α : Type} (pre : List α) (x : α) (rest : List α) : Sw.idx (pre ++ x :: rest) (pre.length : Int) = some x := by
  unfold Sw.idx; simp
theorem inc {n m : Nat} (h : n < m) (hm : m ≤ 4611686018427387904) : ar .add .i64 (n : Int) 1 = ((n + 1 : Nat) : Int) := by
  unfold ar; simp only [IntKind.wrap, IntKind.signed, IntKind.bits]; simp; omega
theorem lss_app {α : Type} (pre : List α) (x : α) (rest : List α) : cm .lss (pre.length : Int) ((pre ++ x :: rest).length : Int) = true := by
  unfold cm; simp; omega
theorem lss_self {n : Nat} : cm .lss (n : Int) (n : Int) = false := by unfold cm; simp
end Go.Pl

namespace Go.Pl
open Go Go.Sw

theorem lp_count {α β γ : Type} {step : α → Option (Step α (Ex β γ))} {k : β → Option γ} (st : Nat → α) (n : Nat) (y : β) (hf : n < FUEL) (hs : ∀ i, i < n → step (st i) = some (.next (st (i + 1)))) (he : step (st n) = some (.done (.brk y))) : lp step (st 0) k = k y := by
  have h : ∀ m i, i + m = n → ∀ f, m < f → loop step f (st i) = some (.brk y) := by
    intro m
    induction m with
    | zero =>
      intro i hi f hf
      obtain ⟨f, rfl⟩ : ∃ f', f = f' + 1 := ⟨f - 1, by omega⟩
      simp only [Nat.add_zero] at hi
      subst hi
      simp [loop, he]
    | succ m ih =>
      intro i hi f hf
      obtain ⟨f, rfl⟩ : ∃ f', f = f' + 1 := ⟨f - 1, by omega⟩
      simp only [loop, hs i (by omega)]
      exact ih (i + 1) (by omega) f (by omega)
  unfold lp
  rw [h n 0 (by omega) FUEL hf]

theorem wrap_i64 {n : Int} (h : -9223372036854775808 ≤ n ∧ n ≤ 9223372036854775807) : IntKind.wrap .i64 n = n := wrap_id (k := .i64) (by unfold inK; simp [IntKind.min, IntKind.max, IntKind.signed, IntKind.bits]; omega)
theorem wrap_u8 {n : Int} (h : 0 ≤ n ∧ n ≤ 255) : IntKind.wrap .u8 n = n := wrap_id (k := .u8) (by unfold inK; simp [IntKind.min, IntKind.max, IntKind.signed, IntKind.bits]; omega)
theorem wrap_u32 {n : Int} (h : 0 ≤ n ∧ n ≤ 4294967295) : IntKind.wrap .u32 n = n := wrap_id (k := .u32) (by unfold inK; simp [IntKind.min, IntKind.max, IntKind.signed, IntKind.bits]; omega)
theorem ofInt_nat (w n : Nat) : BitVec.ofInt w (n : Int) = BitVec.ofNat w n := by
  apply BitVec.eq_of_toNat_eq
  simp
theorem xor32 {a b : Nat} (ha : a < 4294967296) (hb : b < 4294967296) : ar .xor .u32 (a : Int) (b : Int) = ((a ^^^ b : Nat) : Int) := by
  have h : a ^^^ b < 2 ^ 32 := Nat.xor_lt_two_pow (by simpa using ha) (by simpa using hb)
  show IntKind.wrap .u32 ((BitVec.ofInt 32 (a : Int) ^^^ BitVec.ofInt 32 (b : Int)).toNat : Int) = _
  simp only [ofInt_nat, BitVec.toNat_xor, BitVec.toNat_ofNat]
  rw [Nat.mod_eq_of_lt (by simpa using ha), Nat.mod_eq_of_lt (by simpa using hb)]
  exact wrap_u32 (by simp at h; omega)
theorem and32 {a : Nat} (ha : a < 4294967296) : ar .and .u32 (a : Int) 1 = ((a % 2 : Nat) : Int) := by
  show IntKind.wrap .u32 ((BitVec.ofInt 32 (a : Int) &&& BitVec.ofInt 32 ((1 : Nat) : Int)).toNat : Int) = _
  simp only [ofInt_nat, BitVec.toNat_and, BitVec.toNat_ofNat]
  rw [Nat.mod_eq_of_lt (a := a) (by simpa using ha), Nat.mod_eq_of_lt (a := 1) (by decide), Nat.and_one_is_mod]
  exact wrap_u32 (by omega)
theorem mul32 {a : Nat} (ha : a < 2) : ar .mul .u32 3988292384 (a : Int) = ((if a = 1 then 3988292384 else 0 : Nat) : Int) := by
  have : a = 0 ∨ a = 1 := by omega
  rcases this with rfl | rfl
  · rfl
  · decide
theorem shr1 {a : Nat} : sh .shr .u32 (a : Int) 1 = ((a / 2 : Nat) : Int) := by
  show Int.fdiv _ _ = _
  have : (2 : Int) ^ min (1 : Int).toNat (IntKind.bits .u32) = 2 := by decide
  rw [this, Int.fdiv_eq_ediv_of_nonneg _ (by omega)]
  omega
theorem not32 {a : Nat} (ha : a < 4294967296) : bnot .u32 (a : Int) = ((4294967295 - a : Nat) : Int) := by
  unfold bnot
  show IntKind.wrap .u32 ((BitVec.allOnes 32 ^^^ BitVec.ofInt 32 (a : Int)).toNat : Int) = _
  simp only [ofInt_nat, BitVec.allOnes_xor, BitVec.toNat_not, BitVec.toNat_ofNat]
  rw [Nat.mod_eq_of_lt (by simpa using ha)]
  exact wrap_u32 (by omega)
theorem tdiv_nat (a b : Nat) : Int.tdiv (a : Int) (b : Int) = ((a / b : Nat) : Int) := rfl
theorem tmod_nat (a b : Nat) : Int.tmod (a : Int) (b : Int) = ((a % b : Nat) : Int) := rfl
theorem quo64 {a b : Nat} (ha : a ≤ 9223372036854775807) : ar .quo .i64 (a : Int) (b : Int) = ((a / b : Nat) : Int) := by
  show IntKind.wrap .i64 _ = _
  rw [tdiv_nat]
  have := Nat.div_le_self a b
  generalize a / b = q at *
  exact wrap_i64 (by omega)
theorem rem64 {a b : Nat} : ar .rem .i64 (a : Int) (b : Int) = ((a % b : Nat) : Int) := rfl
theorem add64 {a b : Nat} (h : a + b ≤ 9223372036854775807) : ar .add .i64 (a : Int) (b : Int) = ((a + b : Nat) : Int) := by
  show IntKind.wrap .i64 _ = _
  rw [← Int.natCast_add]; exact wrap_i64 (by omega)
theorem mul64 {a b : Nat} (h : a * b ≤ 9223372036854775807) : ar .mul .i64 (a : Int) (b : Int) = ((a * b : Nat) : Int) := by
  show IntKind.wrap .i64 _ = _
  rw [← Int.natCast_mul]; exact wrap_i64 (by omega)
theorem nz_ok {n : Int} (h : n ≠ 0) : nz n = some () := by unfold nz; rw [if_neg h]
theorem cm_lss {a b : Nat} : cm .lss (a : Int) (b : Int) = decide (a < b) := by unfold cm; simp
theorem bit_xor (a b i : Nat) : (a ^^^ b) / 2 ^ i % 2 = (a / 2 ^ i + b / 2 ^ i) % 2 := by
  have h := Nat.testBit_xor a b i
  simp only [Nat.testBit_eq_decide_div_mod_eq] at h
  have ha := Nat.mod_two_eq_zero_or_one (a / 2 ^ i)
  have hb := Nat.mod_two_eq_zero_or_one (b / 2 ^ i)
  have hc := Nat.mod_two_eq_zero_or_one ((a ^^^ b) / 2 ^ i)
  rw [Nat.add_mod]
  rcases ha with ha | ha <;> rcases hb with hb | hb <;> rcases hc with hc | hc <;> simp [ha, hb, hc] at h ⊢
theorem xor_half (a b : Nat) : (a ^^^ b) / 2 = a / 2 ^^^ b / 2 := by
  have := Nat.shiftRight_xor_distrib (i := 1) (a := a) (b := b)
  simpa [Nat.shiftRight_eq_div_pow] using this
end Go.Pl

namespace Go.Pl
open Go Go.Sw
/-- bytes -/
def Bytes (l : List Int) : Prop := ∀ x ∈ l, 0 ≤ x ∧ x ≤ 255
def nat (l : List Int) : List Nat := l.map Int.toNat
theorem nat_byte {l : List Int} (h : Bytes l) : ∀ b ∈ nat l, b < 256 := by
  intro b hb
  obtain ⟨x, hx, rfl⟩ := List.mem_map.1 hb
  have := h x hx; omega

/-- as lp_list, with what holds on the way -/
theorem lp_inv {α A B β γ : Type} {step : α → Option (Step α (Ex β γ))} {l : List A} {k : β → Option γ} (st : Nat → B → α) (I : Nat → B → Prop) (acc0 : B) (g : Nat → A → B → B) (fin : B → β) (hf : l.length < FUEL) (h0 : I 0 acc0)
    (hs : ∀ pre x rest acc, l = pre ++ x :: rest → I pre.length acc → step (st pre.length acc) = some (.next (st (pre.length + 1) (g pre.length x acc))) ∧ I (pre.length + 1) (g pre.length x acc))
    (he : ∀ acc, I l.length acc → step (st l.length acc) = some (.done (.brk (fin acc)))) :
    lp step (st 0 acc0) k = k (fin ((l.zipIdx).foldl (fun acc x => g x.2 x.1 acc) acc0)) := by
  have key : ∀ (rest pre : List A) (acc : B) (f : Nat), l = pre ++ rest → I pre.length acc → rest.length < f → loop step f (st pre.length acc) = some (.brk (fin ((rest.zipIdx pre.length).foldl (fun acc x => g x.2 x.1 acc) acc))) := by
    intro rest
    induction rest with
    | nil =>
      intro pre acc f hl hI hf
      obtain ⟨f, rfl⟩ : ∃ f', f = f' + 1 := ⟨f - 1, by simp at hf; omega⟩
      have := he acc (by rw [hl, List.append_nil]; exact hI)
      rw [hl, List.append_nil] at this
      simp [loop, this]
    | cons x rest ih =>
      intro pre acc f hl hI hf
      obtain ⟨f, rfl⟩ : ∃ f', f = f' + 1 := ⟨f - 1, by simp at hf; omega⟩
      obtain ⟨h1, h2⟩ := hs pre x rest acc hl hI
      simp only [loop, h1]
      have := ih (pre ++ [x]) (g pre.length x acc) f (by rw [hl]; simp) (by simpa using h2) (by simp at hf; omega)
      simpa using this
  have h := key l [] acc0 FUEL rfl h0 hf
  unfold lp
  simp only [List.length_nil] at h
  rw [h]
theorem app_small {α : Type} (xs ys : List α) (h : xs.length + ys.length ≤ 4294967296) : Sw.app xs ys = some (xs ++ ys) := by unfold Sw.app; rw [if_pos h]
theorem foldl_zipIdx {A : Type} (w : A → List Int) : ∀ (l : List A) (i : Nat) (acc : List Int), (l.zipIdx i).foldl (fun acc x => acc ++ w x.1) acc = acc ++ l.flatMap w
  | [], _, acc => by simp
  | x :: l, i, acc => by simp [foldl_zipIdx w l]
end Go.Pl

namespace Go.Pl
open Go Go.Sw
/-- it lies somewhere so -/
def Wf {α : Type} (e : Enc α) (x : α) : Prop := ∃ S w cs, e.ok x S w cs
theorem Wf.int {k : IntKind} {n : Int} (h : Wf (Enc.int k) n) : inK k n := by obtain ⟨_, _, _, h⟩ := h; exact h.2
theorem okL_all {α : Type} {e : Enc α} {S w} : ∀ {xs : List α} {cs}, e.okL xs S w cs → ∀ x ∈ xs, Wf e x
  | [], _, _, x, hx => by simp at hx
  | y :: ys, _, ⟨c, d, _, h2, h3⟩, x, hx => by
    rcases List.mem_cons.1 hx with rfl | hx
    · exact ⟨_, _, _, h2⟩
    · exact okL_all h3 x hx
theorem Wf.arr {α : Type} {m : Nat} {e : Enc α} {xs : List α} (h : Wf (Enc.arr m e) xs) : xs.length = m ∧ ∀ x ∈ xs, Wf e x := by
  obtain ⟨_, _, _, h1, h2⟩ := h; exact ⟨h1, okL_all h2⟩
theorem Wf.sl {α : Type} {e : Enc α} {xs : List α} (h : Wf (Enc.sl e) xs) : xs.length ≤ 9223372036854775807 ∧ ∀ x ∈ xs, Wf e x := by
  obtain ⟨_, _, _, a, cap, _, h2, h3⟩ := h
  refine ⟨h2.2, ?_⟩
  rcases h3 with rfl | ⟨b, off, ds, _, _, _, _, h4⟩
  · intro x hx; simp at hx
  · exact okL_all h4
theorem Wf.pr {α β : Type} {a : Enc α} {b : Enc β} {x : α × β} (h : Wf (Enc.pr a b) x) : Wf a x.1 ∧ Wf b x.2 := by
  obtain ⟨_, _, _, c, d, _, h1, h2⟩ := h; exact ⟨⟨_, _, _, h1⟩, ⟨_, _, _, h2⟩⟩
theorem Wf.one1 {α : Type} {a : Enc α} {x : α} (h : Wf (Enc.one1 a) x) : Wf a x := h
theorem Wf.of_val {α : Type} {e : Enc α} {x : α} {S w v} (h : e.val x S w v) : Wf e x := by obtain ⟨cs, h, _⟩ := h; exact ⟨_, _, _, h⟩
end Go.Pl

namespace Go.Pl
open Go Go.Sw
theorem cl (m n : Int) : cm .lss m n = decide (m < n) := rfl
theorem cg (m n : Int) : cm .gtr m n = decide (m > n) := rfl
theorem cle (m n : Int) : cm .leq m n = decide (m ≤ n) := rfl
theorem cge (m n : Int) : cm .geq m n = decide (m ≥ n) := rfl
theorem ce (m n : Int) : cm .eql m n = decide (m = n) := by show (m == n) = _; by_cases h : m = n <;> simp [h]
theorem cn (m n : Int) : cm .neq m n = decide (m ≠ n) := by show (m != n) = _; by_cases h : m = n <;> simp [h]
theorem addI {m n : Int} (h : -9223372036854775808 ≤ m + n ∧ m + n ≤ 9223372036854775807) : ar .add .i64 m n = m + n := wrap_i64 h
theorem subI {m n : Int} (h : -9223372036854775808 ≤ m - n ∧ m - n ≤ 9223372036854775807) : ar .sub .i64 m n = m - n := wrap_i64 h
theorem nxt {n : Nat} (h : n ≤ 4611686018427387904) : ar .add .i64 (n : Int) 1 = ((n + 1 : Nat) : Int) := by rw [addI (by omega)]; push_cast; rfl
/-- a list gone through, each element looked at: one that is bad ends it -/
theorem lp_any {α A β γ : Type} {step : α → Option (Step α (Ex β γ))} {l : List A} {k : β → Option γ} (st : Nat → α) (bad : A → Bool) (z : γ) (y : β) (hf : l.length < FUEL)
    (hs : ∀ pre x rest, l = pre ++ x :: rest → step (st pre.length) = some (if bad x then .done (.ret z) else .next (st (pre.length + 1)))) (he : step (st l.length) = some (.done (.brk y))) :
    lp step (st 0) k = if l.any bad then some z else k y := by
  have key : ∀ (rest pre : List A) (f : Nat), l = pre ++ rest → rest.length < f → loop step f (st pre.length) = some (if rest.any bad then .ret z else .brk y) := by
    intro rest
    induction rest with
    | nil =>
      intro pre f hl hf
      obtain ⟨f, rfl⟩ : ∃ f', f = f' + 1 := ⟨f - 1, by simp at hf; omega⟩
      rw [List.append_nil] at hl
      rw [← hl]
      simp [loop, he]
    | cons x rest ih =>
      intro pre f hl hf
      obtain ⟨f, rfl⟩ : ∃ f', f = f' + 1 := ⟨f - 1, by simp at hf; omega⟩
      simp only [loop, hs pre x rest hl, List.any_cons]
      by_cases hb : bad x = true
      · simp [hb]
      · have := ih (pre ++ [x]) f (by rw [hl]; simp) (by simp at hf; omega)
        simp only [Bool.not_eq_true] at hb
        simp only [hb, Bool.false_eq_true, if_false, Bool.false_or]
        simpa using this
  have := key l [] FUEL rfl hf
  unfold lp
  simp only [List.length_nil] at this
  rw [this]
  by_cases hb : l.any bad = true
  · simp only [hb, if_true]
  · simp only [Bool.not_eq_true] at hb
    simp only [hb, Bool.false_eq_true, if_false]
theorem lenF {A : Type} {l : List A} {n : Nat} (h : l.length ≤ n) (hn : n ≤ 1000000000) : l.length < FUEL := by unfold FUEL; omega
/-- the same, with the state told once more -/
theorem lss_len {A : Type} {l pre rest : List A} {x : A} (h : l = pre ++ x :: rest) : cm .lss (pre.length : Int) (l.length : Int) = true := by rw [h]; exact lss_app pre x rest
theorem idx_len {A : Type} {l pre rest : List A} {x : A} (h : l = pre ++ x :: rest) : Sw.idx l (pre.length : Int) = some x := by rw [h]; exact idx_app pre x rest
theorem idx_get {A : Type} {l : List A} {i : Nat} {x : A} (h : l[i]? = some x) : Sw.idx l (i : Int) = some x := by unfold Sw.idx; simp [h]
theorem idx_nat {A : Type} {l : List A} {n : Int} (h0 : 0 ≤ n) (h1 : n < l.length) : ∃ x, Sw.idx l n = some x ∧ l[n.toNat]? = some x := by
  have : n.toNat < l.length := by omega
  exact ⟨l[n.toNat], by unfold Sw.idx; simp [h0, this], by simp [this]⟩
/-- two lists that are the same, element by element -/
theorem same_loop {A : Type} [DecidableEq A] (l : List A) (hl : l.length ≤ 1000000) (k : Unit → Option Bool) :
    lp (β := Unit) (fun (s12 : Int) => bif (cm .lss s12 (l.length : Int)) then (Sw.idx l s12).bind fun z20 => (Sw.idx l s12).bind fun z21 => bif (!decide (z20 = z21)) then some (.done (.ret false)) else some (.next (ar .add .i64 s12 (1 : Int))) else some (.done (.brk ()))) (0 : Int) k = k () := by
  rw [show (0 : Int) = (fun (i : Nat) => (i : Int)) 0 from rfl]
  rw [lp_any (l := l) (fun (i : Nat) => (i : Int)) (fun _ => false) false () (lenF hl (by decide))]
  · simp
  · intro pre x rest h
    simp only [lss_len h, cond_true, idx_len h, Option.bind_some]
    rw [nxt (by rw [h] at hl; simp at hl; omega)]
    simp
  · simp only [lss_self, cond_false]
theorem wf_byte {n : Int} (h : Wf (Enc.int .u8) n) : 0 ≤ n ∧ n ≤ 255 := by
  have := h.int
  unfold inK at this
  simpa [IntKind.min, IntKind.max, IntKind.signed, IntKind.bits] using this
theorem wf_i64 {n : Int} (h : Wf (Enc.int .i64) n) : -9223372036854775808 ≤ n ∧ n ≤ 9223372036854775807 := by
  have := h.int
  unfold inK at this
  simpa [IntKind.min, IntKind.max, IntKind.signed, IntKind.bits] using this
theorem wf_bytes {l : List Int} (h : Wf (Enc.sl (Enc.int .u8)) l) : Bytes l := fun x hx => wf_byte (h.sl.2 x hx)

/-- the first bad one, by its number -/
theorem lp_find {α A β γ : Type} {step : α → Option (Step α (Ex β γ))} {l : List A} {k : β → Option γ} (st : Nat → α) (bad : A → Bool) (z : Nat → γ) (y : β) (hf : l.length < FUEL)
    (hs : ∀ pre x rest, l = pre ++ x :: rest → step (st pre.length) = some (if bad x then .done (.ret (z pre.length)) else .next (st (pre.length + 1)))) (he : step (st l.length) = some (.done (.brk y))) :
    lp step (st 0) k = match l.findIdx? bad with | some j => some (z j) | none => k y := by
  have key : ∀ (rest pre : List A) (f : Nat), l = pre ++ rest → rest.length < f → loop step f (st pre.length) = some (match rest.findIdx? bad with | some j => .ret (z (pre.length + j)) | none => .brk y) := by
    intro rest
    induction rest with
    | nil =>
      intro pre f hl hf
      obtain ⟨f, rfl⟩ : ∃ f', f = f' + 1 := ⟨f - 1, by simp at hf; omega⟩
      rw [List.append_nil] at hl
      rw [← hl]
      simp [loop, he]
    | cons x rest ih =>
      intro pre f hl hf
      obtain ⟨f, rfl⟩ : ∃ f', f = f' + 1 := ⟨f - 1, by simp at hf; omega⟩
      simp only [loop, hs pre x rest hl, List.findIdx?_cons]
      by_cases hb : bad x = true
      · simp [hb]
      · have := ih (pre ++ [x]) f (by rw [hl]; simp) (by simp at hf; omega)
        simp only [Bool.not_eq_true] at hb
        simp only [hb, Bool.false_eq_true, if_false]
        rw [List.length_append, List.length_singleton] at this
        rw [this]
        cases rest.findIdx? bad with
        | none => rfl
        | some j => simp only [Option.map_some]; congr 3; omega
  have := key l [] FUEL rfl hf
  unfold lp
  simp only [List.length_nil, Nat.zero_add] at this
  rw [this]
  cases l.findIdx? bad <;> rfl
theorem any_findIdx {A : Type} (l : List A) (bad : A → Bool) : l.any bad = (l.findIdx? bad).isSome := by
  simp
end Go.Pl

namespace Go.Pl
open Go Go.Sw Go.Mo
abbrev Disk := List Blk × List (Int × Blk) × Int
def badAt (n : Nat) (p : Int × Blk) : Bool := decide (p.1 < 0) || decide (p.1 ≥ n)
def diskErr (d : Disk) : Int := if d.1.length < 1 ∨ d.1.length > 200 ∨ d.2.1.length > 800 then 2 else if d.2.1.any (badAt d.1.length) then 1 else 0
theorem diskMay_is (d : Disk) : m_ref_DiskMay d = some (diskErr d) := by
  unfold m_ref_DiskMay diskErr
  simp only [cl, cg, cge]
  by_cases h1 : d.1.length < 1
  · have : (d.1.length : Int) < 1 := by omega
    simp [h1, this]
  by_cases h2 : d.1.length > 200
  · have e1 : ¬ (d.1.length : Int) < 1 := by omega
    have e2 : (d.1.length : Int) > 200 := by omega
    simp [h1, h2, e1, e2]
  by_cases h3 : d.2.1.length > 800
  · have e1 : ¬ (d.1.length : Int) < 1 := by omega
    have e2 : ¬ (d.1.length : Int) > 200 := by omega
    have e3 : (d.2.1.length : Int) > 800 := by omega
    simp [h1, h2, h3, e1, e2, e3]
  have e1 : ¬ (d.1.length : Int) < 1 := by omega
  have e2 : ¬ (d.1.length : Int) > 200 := by omega
  have e3 : ¬ (d.2.1.length : Int) > 800 := by omega
  simp only [e1, e2, e3, h1, h2, h3, decide_false, cond_false, Option.bind_some, or_self, if_false]
  refine (lp_any (l := d.2.1) (fun (i : Nat) => (i : Int)) (badAt d.1.length) (1 : Int) () (lenF (n := 800) (by omega) (by decide)) ?_ ?_).trans ?_
  · intro pre x rest h
    have hlt : ((pre.length : Nat) : Int) < (d.2.1.length : Int) := by rw [h]; simp; omega
    have hpl : pre.length ≤ 800 := by have := congrArg List.length h; simp at this; omega
    simp only [hlt, decide_true, cond_true, idx_len h, Option.bind_some, badAt]
    by_cases c1 : x.1 < 0
    · simp [c1]
    · by_cases c2 : x.1 ≥ (d.1.length : Int)
      · simp [c1, c2]
      · simp only [c1, c2, decide_false, cond_false, Option.bind_some, Bool.or_self, Bool.false_eq_true, if_false]
        rw [nxt (by omega)]
  · have : ¬ ((d.2.1.length : Nat) : Int) < (d.2.1.length : Int) := by omega
    simp only [this, decide_false, cond_false]
  · by_cases c : d.2.1.any (badAt d.1.length) = true <;> simp [c]
theorem check1_disk (x : Int × Blk) (d : Disk) : m_disk_Check_1 x d = some (badAt d.1.length x) := by
  unfold m_disk_Check_1 badAt
  simp only [cl, cge]
  by_cases c1 : x.1 < 0 <;> simp [c1]
theorem indexAny_disk (l : List (Int × Blk)) (d : Disk) (hl : l.length ≤ 1000000) : m_slices_ContainsFunc_api_Put_api_Put__disk_Check_1 l d = some (l.any (badAt d.1.length)) := by
  unfold m_slices_ContainsFunc_api_Put_api_Put__disk_Check_1 m_slices_IndexFunc_api_Put_api_Put__disk_Check_1
  have h := lp_find (l := l) (γ := Int) (β := Unit) (step := fun (s11 : Int) => bif (cm .lss s11 (l.length : Int)) then (Sw.idx l s11).bind fun z19 => (m_disk_Check_1 z19 d).bind fun v20 => bif v20 then some (.done (.ret s11)) else some (.next (ar .add .i64 s11 (1 : Int))) else some (.done (.brk ()))) (k := fun _ => some (-1 : Int)) (fun (i : Nat) => (i : Int)) (badAt d.1.length) (fun i => (i : Int)) () (lenF hl (by decide)) ?_ ?_
  · have h' : lp (β := Unit) (fun (s11 : Int) => bif (cm .lss s11 (l.length : Int)) then (Sw.idx l s11).bind fun z19 => (m_disk_Check_1 z19 d).bind fun v20 => bif v20 then some (.done (.ret s11)) else some (.next (ar .add .i64 s11 (1 : Int))) else some (.done (.brk ()))) (0 : Int) (fun _ => some (-1 : Int)) = _ := h
    rw [h', any_findIdx]
    cases hf : l.findIdx? (badAt d.1.length) with
    | none => simp [cge]
    | some j => simp [cge]
  · intro pre x rest h
    simp only [lss_len h, cond_true, idx_len h, Option.bind_some, check1_disk]
    by_cases c : badAt d.1.length x = true
    · simp [c]
    · simp only [Bool.not_eq_true] at c
      simp only [c, cond_false, Bool.false_eq_true, if_false]
      rw [nxt (by rw [h] at hl; simp at hl; omega)]
  · simp only [lss_self, cond_false]
theorem checkDisk_is (d : Disk) : m_disk_Check d = some (if diskErr d = 0 then none else some (diskErr d)) := by
  unfold m_disk_Check diskErr
  simp only [cl, cg]
  by_cases h1 : d.1.length < 1
  · have : (d.1.length : Int) < 1 := by omega
    simp [h1, this]
  by_cases h2 : d.1.length > 200
  · have e1 : ¬ (d.1.length : Int) < 1 := by omega
    have e2 : (d.1.length : Int) > 200 := by omega
    simp [h1, h2, e1, e2]
  by_cases h3 : d.2.1.length > 800
  · have e1 : ¬ (d.1.length : Int) < 1 := by omega
    have e2 : ¬ (d.1.length : Int) > 200 := by omega
    have e3 : (d.2.1.length : Int) > 800 := by omega
    simp [h1, h2, h3, e1, e2, e3]
  have e1 : ¬ (d.1.length : Int) < 1 := by omega
  have e2 : ¬ (d.1.length : Int) > 200 := by omega
  have e3 : ¬ (d.2.1.length : Int) > 800 := by omega
  simp only [e1, e2, e3, h1, h2, h3, decide_false, cond_false, Option.bind_some, or_self, if_false]
  rw [indexAny_disk _ _ (by omega)]
  by_cases c : d.2.1.any (badAt d.1.length) = true <;> simp [c]

/-! ### a crash -/
/-- how many bytes come through -/
def pick9 (bytes : List Int) (i : Nat) : Nat := match bytes[i]? with | none => 0 | some c => ((if c < 0 then -(c + 1) else c) % 9).toNat
theorem pick9_lt (bytes : List Int) (i : Nat) : pick9 bytes i ≤ 8 := by
  unfold pick9
  split
  · omega
  · split <;> omega
/-- what one put comes to, cut -/
def cut1 (n : Nat) (p : Int × Blk) (safe : List Blk) : List Blk := safe.set p.1.toNat (p.2.take n ++ (safe.getD p.1.toNat []).drop n)
def crashL (bytes : List Int) (l : List (Int × Blk)) (safe : List Blk) : List Blk := (l.zipIdx).foldl (fun acc x => cut1 (pick9 bytes x.2) x.1 acc) safe
/-- blocks of eight -/
def All8 (l : List Blk) : Prop := ∀ b ∈ l, b.length = 8
theorem cut1_ok {n : Nat} {p : Int × Blk} {safe : List Blk} (hn : n ≤ 8) (hp : p.2.length = 8) (h : All8 safe) (h0 : 0 ≤ p.1) (h1 : p.1 < safe.length) : All8 (cut1 n p safe) ∧ (cut1 n p safe).length = safe.length := by
  refine ⟨fun b hb => ?_, by simp [cut1]⟩
  rcases List.mem_or_eq_of_mem_set hb with hb | rfl
  · exact h b hb
  · have hlt : p.1.toNat < safe.length := by omega
    have := h _ (List.getElem_mem hlt)
    simp only [List.length_append, List.length_take, List.length_drop, List.getD_eq_getElem?_getD, List.getElem?_eq_getElem hlt, Option.getD_some]
    omega

theorem getD_lt {l : List Blk} {n : Nat} (h : n < l.length) : l.getD n [] = l[n] := by simp [List.getD_eq_getElem?_getD, List.getElem?_eq_getElem h]
theorem cut0 {p : Int × Blk} {safe : List Blk} (h1 : p.1.toNat < safe.length) : cut1 0 p safe = safe := by
  unfold cut1
  rw [getD_lt h1]
  simp
theorem cut_next {p : Int × Blk} {safe : List Blk} {i : Nat} (h1 : p.1.toNat < safe.length) (hi : i < p.2.length) (h8 : p.2.length = safe[p.1.toNat].length) :
    List.set (cut1 i p safe) p.1.toNat (List.set (p.2.take i ++ safe[p.1.toNat].drop i) i p.2[i]) = cut1 (i + 1) p safe := by
  unfold cut1
  rw [getD_lt h1, List.set_set]
  congr 1
  apply List.ext_getElem?
  intro j
  have e1 : (p.2.take i).length = i := by simp; omega
  have e2 : (p.2.take (i + 1)).length = i + 1 := by simp; omega
  rw [List.getElem?_set]
  by_cases hj : i = j
  · subst hj
    have : i < (p.2.take i ++ safe[p.1.toNat].drop i).length := by simp; omega
    rw [if_pos rfl, if_pos this, List.getElem?_append_left (by omega), List.getElem?_take_of_lt (by omega), List.getElem?_eq_getElem hi]
  · rw [if_neg hj]
    by_cases hlt : j < i
    · rw [List.getElem?_append_left (by omega), List.getElem?_append_left (by omega), List.getElem?_take_of_lt hlt, List.getElem?_take_of_lt (by omega)]
    · rw [List.getElem?_append_right (by omega), List.getElem?_append_right (by omega), e1, e2, List.getElem?_drop, List.getElem?_drop]
      congr 1; omega
theorem cut_get {p : Int × Blk} {safe : List Blk} {i : Nat} (h0 : 0 ≤ p.1) (h1 : p.1.toNat < safe.length) : Sw.idx (cut1 i p safe) p.1 = some (p.2.take i ++ safe[p.1.toNat].drop i) := by
  unfold Sw.idx cut1
  rw [if_pos h0, getD_lt h1]
  simp [h1]
theorem refCut {p : Int × Blk} {safe : List Blk} {n : Nat} (hn : n ≤ 8) (hp : p.2.length = 8) (h : All8 safe) (h0 : 0 ≤ p.1) (h1 : p.1 < safe.length) {puts : List (Int × Blk)} {k0 : Int} (hk0 : Sw.idx puts k0 = some p) (k : List Blk → Option (Step (Int × List Blk) (Ex (List Blk) Disk))) :
    lp (β := (List Blk)) (fun (s140 : Int × (List Blk)) =>
            bif (cm .lss s140.1 (n : Int)) then
              (Sw.idx puts k0).bind fun z150 =>
                (Sw.idx puts k0).bind fun z151 =>
                  (Sw.idx z151.2 s140.1).bind fun z152 =>
                    (Sw.idx s140.2 z150.1).bind fun z153 =>
                      (Sw.idx z153 s140.1).bind fun _ =>
                        some (.next ((ar .add .i64 s140.1 (1 : Int)), (List.set s140.2 (Int.toNat z150.1) (List.set z153 (Int.toNat s140.1) z152))))
            else
              some (.done (.brk s140.2))
            ) ((0 : Int), safe) k = k (cut1 n p safe) := by
  have h1' : p.1.toNat < safe.length := by omega
  have h8 : safe[p.1.toNat].length = 8 := h _ (List.getElem_mem h1')
  have hst : (((0 : Int), safe) : Int × List Blk) = (fun (i : Nat) => ((i : Int), cut1 i p safe)) 0 := by simp only [cut0 h1']; rfl
  rw [hst]
  refine lp_count (fun (i : Nat) => ((i : Int), cut1 i p safe)) n (cut1 n p safe) (by unfold FUEL; omega) ?_ ?_
  · intro i hi
    have e : cm .lss (i : Int) (n : Int) = true := by rw [cl]; simp; omega
    have hip : i < p.2.length := by omega
    simp only [e, cond_true, hk0, Option.bind_some, cut_get h0 h1', idx_get (List.getElem?_eq_getElem hip)]
    have : ∃ z, Sw.idx (p.2.take i ++ safe[p.1.toNat].drop i) (i : Int) = some z := by
      have hl : i < (p.2.take i ++ safe[p.1.toNat].drop i).length := by simp; omega
      exact ⟨_, idx_get (List.getElem?_eq_getElem hl)⟩
    obtain ⟨z, hz⟩ := this
    rw [hz, Option.bind_some, nxt (by omega), Int.toNat_natCast, cut_next h1' hip (by omega)]
  · simp only [lss_self, cond_false]
def pk (c : Int) : Nat := ((if c < 0 then -(c + 1) else c) % 9).toNat
theorem pk_le (c : Int) : pk c ≤ 8 := by unfold pk; split <;> omega
theorem rem9 {c : Int} (h : 0 ≤ c) : ar .rem .i64 c 9 = ((c % 9).toNat : Int) := by
  show Int.tmod c 9 = _
  rw [Int.tmod_eq_emod_of_nonneg h]; omega
theorem neg_i64 {c : Int} (h : -9223372036854775808 ≤ c ∧ c ≤ 9223372036854775807) : IntKind.wrap .i64 (0 - (ar .add .i64 c (1 : Int))) = if c = 9223372036854775807 then -9223372036854775808 else -(c + 1) := by
  by_cases e : c = 9223372036854775807
  · subst e; decide
  · rw [addI (by omega), wrap_i64 (by omega), if_neg e]; omega
theorem refPick {c : Int} (h : -9223372036854775808 ≤ c ∧ c ≤ 9223372036854775807) : m_ref_Pick c 9 = some (pk c : Int) := by
  unfold m_ref_Pick jp pk
  simp only [cl, neg_i64 h, nz_ok (show (9 : Int) ≠ 0 by decide), Option.bind_some]
  by_cases c0 : c < 0
  · rw [if_neg (by omega)]
    simp only [c0, decide_true, cond_true, if_true]
    rw [rem9 (by omega)]
  · simp only [c0, decide_false, cond_false, if_false]
    rw [rem9 (by omega)]
theorem diskPick {c : Int} (h : -9223372036854775808 ≤ c ∧ c ≤ 9223372036854775807) : ar .rem .i64 (max c (IntKind.wrap .i64 (0 - (ar .add .i64 c (1 : Int))))) (9 : Int) = (pk c : Int) := by
  rw [neg_i64 h]
  unfold pk
  by_cases c0 : c < 0
  · rw [if_neg (by omega), if_pos c0, Int.max_eq_right (by omega), rem9 (by omega)]
  · rw [if_neg c0, Int.max_eq_left (by split <;> omega), rem9 (by omega)]
theorem pick9_in {bytes : List Int} {i : Nat} (h : (i : Int) < bytes.length) : ∃ c, Sw.idx bytes (i : Int) = some c ∧ pick9 bytes i = pk c ∧ c ∈ bytes := by
  have h' : i < bytes.length := by omega
  exact ⟨bytes[i], idx_get (List.getElem?_eq_getElem h'), by simp [pick9, List.getElem?_eq_getElem h', pk], List.getElem_mem h'⟩
theorem pick9_out {bytes : List Int} {i : Nat} (h : ¬ (i : Int) < bytes.length) : pick9 bytes i = 0 := by
  have h' : bytes.length ≤ i := by omega
  simp [pick9, List.getElem?_eq_none h']
theorem cpy_cut {n : Nat} {p : Int × Blk} {old : Blk} (hn : n ≤ p.2.length) : Sw.cpy n (p.2.take n) old = p.2.take n ++ old.drop n := by
  unfold Sw.cpy
  rw [List.length_take, Nat.min_eq_left hn, Nat.min_self, List.take_take, Nat.min_self]
/-- what is good in a disk -/
structure Good (d : Disk) (bytes : List Int) : Prop where
  a8 : All8 d.1
  p8 : ∀ p ∈ d.2.1, p.2.length = 8
  inn : ∀ p ∈ d.2.1, 0 ≤ p.1 ∧ p.1 < d.1.length
  byt : ∀ c ∈ bytes, -9223372036854775808 ≤ c ∧ c ≤ 9223372036854775807
  few : d.2.1.length ≤ 800
theorem refCrashed_is {d : Disk} {bytes : List Int} (g : Good d bytes) (hs : d.1.length ≤ 1000) : m_ref_Crashed d bytes = some (crashL bytes d.2.1 d.1, [], -1) := by
  unfold m_ref_Crashed m_ref_OwnDisk m_ref_OwnBlocks crashL
  rw [app_small _ _ (by simp; omega), Option.bind_some, Option.bind_some, app_small _ _ (by have := g.few; simp; omega), Option.bind_some, Option.bind_some]
  have few := g.few
  refine (lp_inv (l := d.2.1) (fun i (acc : List Blk) => ((i : Int), acc)) (fun _ acc => All8 acc ∧ acc.length = d.1.length) d.1 (fun i p acc => cut1 (pick9 bytes i) p acc) id (lenF few (by decide)) ⟨g.a8, rfl⟩ ?_ ?_).trans ?_
  · intro pre p rest acc hl hI
    have hm : p ∈ d.2.1 := by rw [hl]; simp
    have hi := g.inn p hm
    have hp := g.p8 p hm
    have hpl : pre.length ≤ 800 := by have := congrArg List.length hl; simp at this; omega
    have hc := cut1_ok (pick9_lt bytes pre.length) hp hI.1 hi.1 (by rw [hI.2]; exact hi.2)
    refine ⟨?_, hc.1, hc.2.trans hI.2⟩
    simp only [lss_len hl, cond_true, jp, cl]
    have fin : ∀ n : Nat, n = pick9 bytes pre.length → lp (β := (List Blk)) (fun (s140 : Int × (List Blk)) =>
            bif (decide (s140.1 < (n : Int))) then
              (Sw.idx d.2.1 (pre.length : Int)).bind fun z150 =>
                (Sw.idx d.2.1 (pre.length : Int)).bind fun z151 =>
                  (Sw.idx z151.2 s140.1).bind fun z152 =>
                    (Sw.idx s140.2 z150.1).bind fun z153 =>
                      (Sw.idx z153 s140.1).bind fun _ =>
                        some (.next ((ar .add .i64 s140.1 (1 : Int)), (List.set s140.2 (Int.toNat z150.1) (List.set z153 (Int.toNat s140.1) z152))))
            else
              some (.done (.brk s140.2))
            ) ((0 : Int), acc) (fun x148 => some (.next ((ar .add .i64 (pre.length : Int) (1 : Int)), x148))) = (some (.next (((pre.length + 1 : Nat) : Int), cut1 (pick9 bytes pre.length) p acc)) : Option (Step (Int × List Blk) (Ex (List Blk) Disk))) := by
      intro n hn
      have := refCut (n := n) (by rw [hn]; exact pick9_lt _ _) hp hI.1 hi.1 (by rw [hI.2]; exact hi.2) (idx_len hl) (fun x148 => some (.next ((ar .add .i64 (pre.length : Int) (1 : Int)), x148)))
      simp only [cl] at this
      rw [this, nxt (by omega), hn]
    by_cases hb : (pre.length : Int) < bytes.length
    · obtain ⟨c, h1, h2, h3⟩ := pick9_in hb
      simp only [hb, decide_true, cond_true, h1, Option.bind_some, refPick (g.byt c h3)]
      exact fin (pk c) h2.symm
    · simp only [hb, decide_false, cond_false]
      exact fin 0 (pick9_out hb).symm
  · intro acc _
    simp only [lss_self, cond_false]
    rfl
  · rfl
theorem diskCrash_is {d : Disk} {bytes : List Int} (g : diskErr d = 0 → Good d bytes) : m_disk_Crash d bytes = some (if diskErr d = 0 then ((crashL bytes d.2.1 d.1, [], -1), none) else (([], [], 0), some (diskErr d))) := by
  unfold m_disk_Crash
  rw [checkDisk_is, Option.bind_some]
  by_cases e : diskErr d = 0
  · have g := g e
    have few := g.few
    have hs : d.1.length ≤ 200 := by
      unfold diskErr at e
      split at e
      · cases e
      · omega
    simp only [e, if_true, Option.isSome_none, cond_false]
    unfold m_disk_clone m_slices_Clone_api_Block_api_Block m_slices_Clone_api_Put_api_Put
    rw [app_small _ _ (by simp; omega), Option.bind_some, app_small _ _ (by simp; omega), Option.bind_some, Option.bind_some]
    simp only [List.nil_append]
    refine (lp_inv (l := d.2.1) (fun i (acc : List Blk) => ((i : Int), acc)) (fun _ acc => All8 acc ∧ acc.length = d.1.length) d.1 (fun i p acc => cut1 (pick9 bytes i) p acc) id (lenF few (by decide)) ⟨g.a8, rfl⟩ ?_ ?_).trans ?_
    · intro pre p rest acc hl hI
      have hm : p ∈ d.2.1 := by rw [hl]; simp
      have hi := g.inn p hm
      have hp := g.p8 p hm
      have hpl : pre.length ≤ 800 := by have := congrArg List.length hl; simp at this; omega
      have hlt : p.1.toNat < acc.length := by rw [hI.2]; omega
      have hc := cut1_ok (pick9_lt bytes pre.length) hp hI.1 hi.1 (by rw [hI.2]; exact hi.2)
      refine ⟨?_, hc.1, hc.2.trans hI.2⟩
      simp only [lss_len hl, cond_true, jp, idx_len hl, Option.bind_some, cl]
      have fin : ∀ n : Nat, n = pick9 bytes pre.length → ((Sw.idx acc p.1).bind fun z54 =>
                  (Sw.upto 8 (n : Int)).bind fun _ =>
                    (Sw.upto 8 (n : Int)).bind fun _ =>
                      some (.next ((ar .add .i64 (pre.length : Int) (1 : Int)), (List.set acc (Int.toNat p.1) (Sw.cpy (Int.toNat (n : Int)) (List.take (Int.toNat (n : Int)) p.2) z54)))) : Option (Step (Int × List Blk) (Ex (List Blk) (Disk × Option Int)))) = some (.next (((pre.length + 1 : Nat) : Int), cut1 (pick9 bytes pre.length) p acc)) := by
        intro n hn
        have hn8 : n ≤ 8 := by rw [hn]; exact pick9_lt _ _
        have hu : Sw.upto 8 (n : Int) = some () := by unfold Sw.upto; rw [if_pos (by omega)]
        have hx : Sw.idx acc p.1 = some acc[p.1.toNat] := by unfold Sw.idx; rw [if_pos hi.1]; simp [hlt]
        rw [hx, hu, Option.bind_some, Option.bind_some, Option.bind_some, nxt (by omega), Int.toNat_natCast, cpy_cut (by omega), ← hn]
        unfold cut1
        rw [getD_lt hlt]
      by_cases hb : (pre.length : Int) < bytes.length
      · obtain ⟨c, h1, h2, h3⟩ := pick9_in hb
        simp only [hb, decide_true, cond_true, h1, Option.bind_some, diskPick (g.byt c h3)]
        exact fin (pk c) h2.symm
      · simp only [hb, decide_false, cond_false]
        exact fin 0 (pick9_out hb).symm
    · intro acc _
      simp only [lss_self, cond_false]
      rfl
    · rfl
  · simp only [e, if_false, Option.isSome_some, cond_true]
theorem is_err (c : Int) (hc : c = 0 → False) : m_ref_Is (some c) c = some true := by
  unfold m_ref_Is
  have : cm .neq c 0 = true := by rw [cn]; simpa using hc
  simp [this]
theorem is_none0 : m_ref_Is none 0 = some true := by decide
theorem sameBlocks_self (l : List Blk) (hl : l.length ≤ 1000000) : m_ref_SameBlocks l l = some true := by
  unfold m_ref_SameBlocks
  rw [cn]
  simp only [ne_eq, not_true, decide_false, cond_false]
  exact same_loop l hl _
theorem samePuts_self (l : List (Int × Blk)) (hl : l.length ≤ 1000000) : m_ref_SamePuts l l = some true := by
  unfold m_ref_SamePuts
  rw [cn]
  simp only [ne_eq, not_true, decide_false, cond_false]
  exact same_loop l hl _
theorem sameDisk_self (d : Disk) (h1 : d.1.length ≤ 1000000) (h2 : d.2.1.length ≤ 1000000) : m_ref_SameDisk d d = some true := by
  unfold m_ref_SameDisk
  rw [ce, sameBlocks_self _ h1, samePuts_self _ h2]
  simp
theorem crash_len (bytes : List Int) (l : List (Int × Blk)) (safe : List Blk) : (crashL bytes l safe).length = safe.length := by
  unfold crashL
  generalize l.zipIdx = z
  induction z generalizing safe with
  | nil => rfl
  | cons x z ih => rw [List.foldl_cons, ih]; simp [cut1]
theorem law_DiskCrash (d : Disk) (bytes : List Int) (n : Int) (h1 : Wf (Enc.pr (Enc.sl eBlk) (Enc.pr (Enc.sl (Enc.pr (Enc.int .i64) eBlk)) (Enc.int .i64))) d) (h2 : Wf (Enc.sl (Enc.int .i64)) bytes) (h3 : Wf (Enc.int .i64) n) : m_law_DiskCrash d bytes n = some true := by
  unfold m_law_DiskCrash jp
  simp only [cg]
  by_cases c1 : (d.1.length : Int) > 300
  · simp [c1]
  by_cases c2 : (d.2.1.length : Int) > 900
  · simp [c1, c2]
  by_cases c3 : (bytes.length : Int) > 2000
  · simp [c1, c2, c3]
  simp only [c1, c2, c3, decide_false, cond_false, Option.bind_some]
  have w1 := h1.pr.1.sl.2
  have w2 := h1.pr.2.pr.1.sl.2
  have g : diskErr d = 0 → Good d bytes := by
    intro e
    unfold diskErr at e
    split at e
    · cases e
    · split at e
      · cases e
      · rename_i hn hb
        refine ⟨fun b hb => (w1 b hb).arr.1, fun p hp => (w2 p hp).pr.2.arr.1, fun p hp => ?_, fun c hc => wf_i64 (h2.sl.2 c hc), by omega⟩
        have : badAt d.1.length p = false := by
          simp only [Bool.not_eq_true] at hb
          exact (List.any_eq_false.1 hb p hp) |> fun h => by simpa using h
        unfold badAt at this
        simp at this
        omega
  rw [diskMay_is, Option.bind_some, diskCrash_is g, ce]
  have tail : ((m_disk_New n).bind fun v22 =>
                  (bif (cm .lss n (1 : Int)) then
                    some true
                  else
                    some (decide (n > (200 : Int)))).bind fun x24 =>
                    bif x24 then
                      (bif (v22.2 == (some (1 : Int))) then
                        (m_ref_SameDisk v22.1 (([] : (List Blk)), ([] : (List (Int × Blk))), (0 : Int))).bind fun v31 =>
                          some v31
                      else
                        some false).bind fun x29 =>
                        some x29
                    else
                      (bif (Option.isNone v22.2) then
                        (Sw.mk n zblk).bind fun v37 =>
                          (m_ref_SameDisk v22.1 (v37, ([] : (List (Int × Blk))), (-1 : Int))).bind fun v38 =>
                            some v38
                      else
                        some false).bind fun x35 =>
                        some x35) = some true := by
    unfold m_disk_New
    simp only [cl, cg]
    have hs0 : m_ref_SameDisk (([] : (List Blk)), ([] : (List (Int × Blk))), (0 : Int)) (([] : (List Blk)), ([] : (List (Int × Blk))), (0 : Int)) = some true := sameDisk_self _ (by simp) (by simp)
    by_cases e1 : n < 1
    · simp [e1, hs0]
    by_cases e2 : n > 200
    · simp [e1, e2, hs0]
    have hmk : Sw.mk n zblk = some (List.replicate n.toNat zblk) := by unfold Sw.mk; rw [if_pos (by omega)]
    have hs1 : m_ref_SameDisk (List.replicate n.toNat zblk, ([] : (List (Int × Blk))), (-1 : Int)) (List.replicate n.toNat zblk, ([] : (List (Int × Blk))), (-1 : Int)) = some true := sameDisk_self _ (by simp; omega) (by simp)
    simp only [e1, e2, decide_false, cond_false, Option.bind_some, hmk, Option.isNone_none, cond_true, hs1]
  by_cases e : diskErr d = 0
  · have hd : d.1.length ≤ 1000 := by omega
    simp only [e, decide_true, cond_true, if_true, refCrashed_is (g e) hd, Option.bind_some, is_none0, Bool.not_true, cond_false]
    rw [sameDisk_self _ (by rw [crash_len]; omega) (by simp)]
    simp only [Option.bind_some, Bool.not_true, cond_false]
    exact tail
  · simp only [e, decide_false, cond_false, if_false, Option.bind_some, is_err _ e, Bool.not_true]
    rw [sameDisk_self _ (by simp) (by simp)]
    simp only [Option.bind_some, Bool.not_true, cond_false]
    exact tail
end Go.Pl
