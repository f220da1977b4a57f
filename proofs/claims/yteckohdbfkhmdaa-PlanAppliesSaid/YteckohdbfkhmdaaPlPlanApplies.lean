/- The plain law: the model of the law answers true. Conditions: none. -/
import Derived.Test.YteckohdbfkhmdaaMoPlanApplies
namespace Go.Pl
open Go Go.Sw

/-- going over a list, with what is carried, till something is done -/
def foldS {A B D : Type} (g : Nat → A → B → Step B D) (fin : B → D) : Nat → B → List A → D
  | _, acc, [] => fin acc
  | i, acc, x :: xs => match g i x acc with
    | .next acc' => foldS g fin (i + 1) acc' xs
    | .done d => d

def stp {α B D : Type} (st : Nat → B → α) (i : Nat) : Step B D → Step α D
  | .next a => .next (st i a)
  | .done d => .done d
def out {β γ : Type} (k : β → Option γ) : Ex β γ → Option γ
  | .brk y => k y
  | .ret z => some z

theorem loop_list {α A B D : Type} {step : α → Option (Step α D)} {l : List A} (st : Nat → B → α) (g : Nat → A → B → Step B D) (fin : B → D)
    (hs : ∀ pre x rest acc, l = pre ++ x :: rest → step (st pre.length acc) = some (stp st (pre.length + 1) (g pre.length x acc)))
    (he : ∀ acc, step (st l.length acc) = some (.done (fin acc))) :
    ∀ (rest pre : List A) (acc : B) (f : Nat), l = pre ++ rest → rest.length < f → loop step f (st pre.length acc) = some (foldS g fin pre.length acc rest)
  | [], pre, acc, f, hl, hf => by
    obtain ⟨f, rfl⟩ : ∃ f', f = f' + 1 := ⟨f - 1, by simp at hf; omega⟩
    have := he acc
    rw [hl, List.append_nil] at this
    simp [loop, this, foldS]
  | x :: rest, pre, acc, f, hl, hf => by
    obtain ⟨f, rfl⟩ : ∃ f', f = f' + 1 := ⟨f - 1, by simp at hf; omega⟩
    have h1 := hs pre x rest acc hl
    simp only [loop, h1, foldS]
    cases hg : g pre.length x acc with
    | done d => rfl
    | next acc' =>
      have ih := loop_list st g fin hs he rest (pre ++ [x]) acc' f (by rw [hl]; simp) (by simp at hf; omega)
      simpa [stp] using ih

theorem lp_list {α A B β γ : Type} {step : α → Option (Step α (Ex β γ))} {l : List A} {k : β → Option γ} (st : Nat → B → α) (acc0 : B) (g : Nat → A → B → Step B (Ex β γ)) (fin : B → Ex β γ) (hf : l.length < FUEL)
    (hs : ∀ pre x rest acc, l = pre ++ x :: rest → step (st pre.length acc) = some (stp st (pre.length + 1) (g pre.length x acc)))
    (he : ∀ acc, step (st l.length acc) = some (.done (fin acc))) :
    lp step (st 0 acc0) k = out k (foldS g fin 0 acc0 l) := by
  have h := loop_list st g fin hs he l [] acc0 FUEL rfl hf
  unfold lp
  simp only [List.length_nil] at h
  rw [h]
  cases foldS g fin 0 acc0 l <;> rfl

theorem idx_app {α : Type} (pre : List α) (x : α) (rest : List α) : Sw.idx (pre ++ x :: rest) (pre.length : Int) = some x := by
  unfold Sw.idx; simp
theorem inc {n m : Nat} (h : n < m) (hm : m ≤ 4611686018427387904) : ar .add .i64 (n : Int) 1 = ((n + 1 : Nat) : Int) := by
  unfold ar; simp only [IntKind.wrap, IntKind.signed, IntKind.bits]; simp; omega
theorem lss_app {α : Type} (pre : List α) (x : α) (rest : List α) : cm .lss (pre.length : Int) ((pre ++ x :: rest).length : Int) = true := by
  unfold cm; simp; omega
theorem lss_self {n : Nat} : cm .lss (n : Int) (n : Int) = false := by unfold cm; simp
end Go.Pl

namespace Go.Pl
open Go Go.Sw

theorem lp_count {α β γ : Type} {step : α → Option (Step α (Ex β γ))} {k : β → Option γ} (st : Nat → α) (n : Nat) (y : β) (hf : n < FUEL) (hs : ∀ i, i < n → step (st i) = some (.next (st (i + 1)))) (he : step (st n) = some (.done (.brk y))) : lp step (st 0) k = k y := by
  have h : ∀ m i, i + m = n → ∀ f, m < f → loop step f (st i) = some (.brk y) := by
    intro m
    induction m with
    | zero =>
      intro i hi f hf
      obtain ⟨f, rfl⟩ : ∃ f', f = f' + 1 := ⟨f - 1, by omega⟩
      simp only [Nat.add_zero] at hi
      subst hi
      simp [loop, he]
    | succ m ih =>
      intro i hi f hf
      obtain ⟨f, rfl⟩ : ∃ f', f = f' + 1 := ⟨f - 1, by omega⟩
      simp only [loop, hs i (by omega)]
      exact ih (i + 1) (by omega) f (by omega)
  unfold lp
  rw [h n 0 (by omega) FUEL hf]

theorem wrap_i64 {n : Int} (h : -9223372036854775808 ≤ n ∧ n ≤ 9223372036854775807) : IntKind.wrap .i64 n = n := wrap_id (k := .i64) (by unfold inK; simp [IntKind.min, IntKind.max, IntKind.signed, IntKind.bits]; omega)
theorem wrap_u8 {n : Int} (h : 0 ≤ n ∧ n ≤ 255) : IntKind.wrap .u8 n = n := wrap_id (k := .u8) (by unfold inK; simp [IntKind.min, IntKind.max, IntKind.signed, IntKind.bits]; omega)
theorem wrap_u32 {n : Int} (h : 0 ≤ n ∧ n ≤ 4294967295) : IntKind.wrap .u32 n = n := wrap_id (k := .u32) (by unfold inK; simp [IntKind.min, IntKind.max, IntKind.signed, IntKind.bits]; omega)
theorem ofInt_nat (w n : Nat) : BitVec.ofInt w (n : Int) = BitVec.ofNat w n := by
  apply BitVec.eq_of_toNat_eq
  simp
theorem xor32 {a b : Nat} (ha : a < 4294967296) (hb : b < 4294967296) : ar .xor .u32 (a : Int) (b : Int) = ((a ^^^ b : Nat) : Int) := by
  have h : a ^^^ b < 2 ^ 32 := Nat.xor_lt_two_pow (by simpa using ha) (by simpa using hb)
  show IntKind.wrap .u32 ((BitVec.ofInt 32 (a : Int) ^^^ BitVec.ofInt 32 (b : Int)).toNat : Int) = _
  simp only [ofInt_nat, BitVec.toNat_xor, BitVec.toNat_ofNat]
  rw [Nat.mod_eq_of_lt (by simpa using ha), Nat.mod_eq_of_lt (by simpa using hb)]
  exact wrap_u32 (by simp at h; omega)
theorem and32 {a : Nat} (ha : a < 4294967296) : ar .and .u32 (a : Int) 1 = ((a % 2 : Nat) : Int) := by
  show IntKind.wrap .u32 ((BitVec.ofInt 32 (a : Int) &&& BitVec.ofInt 32 ((1 : Nat) : Int)).toNat : Int) = _
  simp only [ofInt_nat, BitVec.toNat_and, BitVec.toNat_ofNat]
  rw [Nat.mod_eq_of_lt (a := a) (by simpa using ha), Nat.mod_eq_of_lt (a := 1) (by decide), Nat.and_one_is_mod]
  exact wrap_u32 (by omega)
theorem mul32 {a : Nat} (ha : a < 2) : ar .mul .u32 3988292384 (a : Int) = ((if a = 1 then 3988292384 else 0 : Nat) : Int) := by
  have : a = 0 ∨ a = 1 := by omega
  rcases this with rfl | rfl
  · rfl
  · decide
theorem shr1 {a : Nat} : sh .shr .u32 (a : Int) 1 = ((a / 2 : Nat) : Int) := by
  show Int.fdiv _ _ = _
  have : (2 : Int) ^ min (1 : Int).toNat (IntKind.bits .u32) = 2 := by decide
  rw [this, Int.fdiv_eq_ediv_of_nonneg _ (by omega)]
  omega
theorem not32 {a : Nat} (ha : a < 4294967296) : bnot .u32 (a : Int) = ((4294967295 - a : Nat) : Int) := by
  unfold bnot
  show IntKind.wrap .u32 ((BitVec.allOnes 32 ^^^ BitVec.ofInt 32 (a : Int)).toNat : Int) = _
  simp only [ofInt_nat, BitVec.allOnes_xor, BitVec.toNat_not, BitVec.toNat_ofNat]
  rw [Nat.mod_eq_of_lt (by simpa using ha)]
  exact wrap_u32 (by omega)
theorem tdiv_nat (a b : Nat) : Int.tdiv (a : Int) (b : Int) = ((a / b : Nat) : Int) := rfl
theorem tmod_nat (a b : Nat) : Int.tmod (a : Int) (b : Int) = ((a % b : Nat) : Int) := rfl
theorem quo64 {a b : Nat} (ha : a ≤ 9223372036854775807) : ar .quo .i64 (a : Int) (b : Int) = ((a / b : Nat) : Int) := by
  show IntKind.wrap .i64 _ = _
  rw [tdiv_nat]
  have := Nat.div_le_self a b
  generalize a / b = q at *
  exact wrap_i64 (by omega)
theorem rem64 {a b : Nat} : ar .rem .i64 (a : Int) (b : Int) = ((a % b : Nat) : Int) := rfl
theorem add64 {a b : Nat} (h : a + b ≤ 9223372036854775807) : ar .add .i64 (a : Int) (b : Int) = ((a + b : Nat) : Int) := by
  show IntKind.wrap .i64 _ = _
  rw [← Int.natCast_add]; exact wrap_i64 (by omega)
theorem mul64 {a b : Nat} (h : a * b ≤ 9223372036854775807) : ar .mul .i64 (a : Int) (b : Int) = ((a * b : Nat) : Int) := by
  show IntKind.wrap .i64 _ = _
  rw [← Int.natCast_mul]; exact wrap_i64 (by omega)
theorem nz_ok {n : Int} (h : n ≠ 0) : nz n = some () := by unfold nz; rw [if_neg h]
theorem cm_lss {a b : Nat} : cm .lss (a : Int) (b : Int) = decide (a < b) := by unfold cm; simp
theorem bit_xor (a b i : Nat) : (a ^^^ b) / 2 ^ i % 2 = (a / 2 ^ i + b / 2 ^ i) % 2 := by
  have h := Nat.testBit_xor a b i
  simp only [Nat.testBit_eq_decide_div_mod_eq] at h
  have ha := Nat.mod_two_eq_zero_or_one (a / 2 ^ i)
  have hb := Nat.mod_two_eq_zero_or_one (b / 2 ^ i)
  have hc := Nat.mod_two_eq_zero_or_one ((a ^^^ b) / 2 ^ i)
  rw [Nat.add_mod]
  rcases ha with ha | ha <;> rcases hb with hb | hb <;> rcases hc with hc | hc <;> simp [ha, hb, hc] at h ⊢
theorem xor_half (a b : Nat) : (a ^^^ b) / 2 = a / 2 ^^^ b / 2 := by
  have := Nat.shiftRight_xor_distrib (i := 1) (a := a) (b := b)
  simpa [Nat.shiftRight_eq_div_pow] using this
end Go.Pl

namespace Go.Pl
open Go Go.Sw
/-- bytes -/
def Bytes (l : List Int) : Prop := ∀ x ∈ l, 0 ≤ x ∧ x ≤ 255
def nat (l : List Int) : List Nat := l.map Int.toNat
theorem nat_byte {l : List Int} (h : Bytes l) : ∀ b ∈ nat l, b < 256 := by
  intro b hb
  obtain ⟨x, hx, rfl⟩ := List.mem_map.1 hb
  have := h x hx; omega

/-- as lp_list, with what holds on the way -/
theorem lp_inv {α A B β γ : Type} {step : α → Option (Step α (Ex β γ))} {l : List A} {k : β → Option γ} (st : Nat → B → α) (I : Nat → B → Prop) (acc0 : B) (g : Nat → A → B → B) (fin : B → β) (hf : l.length < FUEL) (h0 : I 0 acc0)
    (hs : ∀ pre x rest acc, l = pre ++ x :: rest → I pre.length acc → step (st pre.length acc) = some (.next (st (pre.length + 1) (g pre.length x acc))) ∧ I (pre.length + 1) (g pre.length x acc))
    (he : ∀ acc, I l.length acc → step (st l.length acc) = some (.done (.brk (fin acc)))) :
    lp step (st 0 acc0) k = k (fin ((l.zipIdx).foldl (fun acc x => g x.2 x.1 acc) acc0)) := by
  have key : ∀ (rest pre : List A) (acc : B) (f : Nat), l = pre ++ rest → I pre.length acc → rest.length < f → loop step f (st pre.length acc) = some (.brk (fin ((rest.zipIdx pre.length).foldl (fun acc x => g x.2 x.1 acc) acc))) := by
    intro rest
    induction rest with
    | nil =>
      intro pre acc f hl hI hf
      obtain ⟨f, rfl⟩ : ∃ f', f = f' + 1 := ⟨f - 1, by simp at hf; omega⟩
      have := he acc (by rw [hl, List.append_nil]; exact hI)
      rw [hl, List.append_nil] at this
      simp [loop, this]
    | cons x rest ih =>
      intro pre acc f hl hI hf
      obtain ⟨f, rfl⟩ : ∃ f', f = f' + 1 := ⟨f - 1, by simp at hf; omega⟩
      obtain ⟨h1, h2⟩ := hs pre x rest acc hl hI
      simp only [loop, h1]
      have := ih (pre ++ [x]) (g pre.length x acc) f (by rw [hl]; simp) (by simpa using h2) (by simp at hf; omega)
      simpa using this
  have h := key l [] acc0 FUEL rfl h0 hf
  unfold lp
  simp only [List.length_nil] at h
  rw [h]
theorem app_small {α : Type} (xs ys : List α) (h : xs.length + ys.length ≤ 4294967296) : Sw.app xs ys = some (xs ++ ys) := by unfold Sw.app; rw [if_pos h]
theorem foldl_zipIdx {A : Type} (w : A → List Int) : ∀ (l : List A) (i : Nat) (acc : List Int), (l.zipIdx i).foldl (fun acc x => acc ++ w x.1) acc = acc ++ l.flatMap w
  | [], _, acc => by simp
  | x :: l, i, acc => by simp [foldl_zipIdx w l]
end Go.Pl

namespace Go.Pl
open Go Go.Sw
/-- it lies somewhere so -/
def Wf {α : Type} (e : Enc α) (x : α) : Prop := ∃ S w cs, e.ok x S w cs
theorem Wf.int {k : IntKind} {n : Int} (h : Wf (Enc.int k) n) : inK k n := by obtain ⟨_, _, _, h⟩ := h; exact h.2
theorem okL_all {α : Type} {e : Enc α} {S w} : ∀ {xs : List α} {cs}, e.okL xs S w cs → ∀ x ∈ xs, Wf e x
  | [], _, _, x, hx => by simp at hx
  | y :: ys, _, ⟨c, d, _, h2, h3⟩, x, hx => by
    rcases List.mem_cons.1 hx with rfl | hx
    · exact ⟨_, _, _, h2⟩
    · exact okL_all h3 x hx
theorem Wf.arr {α : Type} {m : Nat} {e : Enc α} {xs : List α} (h : Wf (Enc.arr m e) xs) : xs.length = m ∧ ∀ x ∈ xs, Wf e x := by
  obtain ⟨_, _, _, h1, h2⟩ := h; exact ⟨h1, okL_all h2⟩
theorem Wf.sl {α : Type} {e : Enc α} {xs : List α} (h : Wf (Enc.sl e) xs) : xs.length ≤ 9223372036854775807 ∧ ∀ x ∈ xs, Wf e x := by
  obtain ⟨_, _, _, a, cap, _, h2, h3⟩ := h
  refine ⟨h2.2, ?_⟩
  rcases h3 with rfl | ⟨b, off, ds, _, _, _, _, h4⟩
  · intro x hx; simp at hx
  · exact okL_all h4
theorem Wf.pr {α β : Type} {a : Enc α} {b : Enc β} {x : α × β} (h : Wf (Enc.pr a b) x) : Wf a x.1 ∧ Wf b x.2 := by
  obtain ⟨_, _, _, c, d, _, h1, h2⟩ := h; exact ⟨⟨_, _, _, h1⟩, ⟨_, _, _, h2⟩⟩
theorem Wf.one1 {α : Type} {a : Enc α} {x : α} (h : Wf (Enc.one1 a) x) : Wf a x := h
theorem Wf.of_val {α : Type} {e : Enc α} {x : α} {S w v} (h : e.val x S w v) : Wf e x := by obtain ⟨cs, h, _⟩ := h; exact ⟨_, _, _, h⟩
end Go.Pl

namespace Go.Pl
open Go Go.Sw
theorem cl (m n : Int) : cm .lss m n = decide (m < n) := rfl
theorem cg (m n : Int) : cm .gtr m n = decide (m > n) := rfl
theorem cle (m n : Int) : cm .leq m n = decide (m ≤ n) := rfl
theorem cge (m n : Int) : cm .geq m n = decide (m ≥ n) := rfl
theorem ce (m n : Int) : cm .eql m n = decide (m = n) := by show (m == n) = _; by_cases h : m = n <;> simp [h]
theorem cn (m n : Int) : cm .neq m n = decide (m ≠ n) := by show (m != n) = _; by_cases h : m = n <;> simp [h]
theorem addI {m n : Int} (h : -9223372036854775808 ≤ m + n ∧ m + n ≤ 9223372036854775807) : ar .add .i64 m n = m + n := wrap_i64 h
theorem subI {m n : Int} (h : -9223372036854775808 ≤ m - n ∧ m - n ≤ 9223372036854775807) : ar .sub .i64 m n = m - n := wrap_i64 h
theorem nxt {n : Nat} (h : n ≤ 4611686018427387904) : ar .add .i64 (n : Int) 1 = ((n + 1 : Nat) : Int) := by rw [addI (by omega)]; push_cast; rfl
/-- a list gone through, each element looked at: one that is bad ends it -/
theorem lp_any {α A β γ : Type} {step : α → Option (Step α (Ex β γ))} {l : List A} {k : β → Option γ} (st : Nat → α) (bad : A → Bool) (z : γ) (y : β) (hf : l.length < FUEL)
    (hs : ∀ pre x rest, l = pre ++ x :: rest → step (st pre.length) = some (if bad x then .done (.ret z) else .next (st (pre.length + 1)))) (he : step (st l.length) = some (.done (.brk y))) :
    lp step (st 0) k = if l.any bad then some z else k y := by
  have key : ∀ (rest pre : List A) (f : Nat), l = pre ++ rest → rest.length < f → loop step f (st pre.length) = some (if rest.any bad then .ret z else .brk y) := by
    intro rest
    induction rest with
    | nil =>
      intro pre f hl hf
      obtain ⟨f, rfl⟩ : ∃ f', f = f' + 1 := ⟨f - 1, by simp at hf; omega⟩
      rw [List.append_nil] at hl
      rw [← hl]
      simp [loop, he]
    | cons x rest ih =>
      intro pre f hl hf
      obtain ⟨f, rfl⟩ : ∃ f', f = f' + 1 := ⟨f - 1, by simp at hf; omega⟩
      simp only [loop, hs pre x rest hl, List.any_cons]
      by_cases hb : bad x = true
      · simp [hb]
      · have := ih (pre ++ [x]) f (by rw [hl]; simp) (by simp at hf; omega)
        simp only [Bool.not_eq_true] at hb
        simp only [hb, Bool.false_eq_true, if_false, Bool.false_or]
        simpa using this
  have := key l [] FUEL rfl hf
  unfold lp
  simp only [List.length_nil] at this
  rw [this]
  by_cases hb : l.any bad = true
  · simp only [hb, if_true]
  · simp only [Bool.not_eq_true] at hb
    simp only [hb, Bool.false_eq_true, if_false]
theorem lenF {A : Type} {l : List A} {n : Nat} (h : l.length ≤ n) (hn : n ≤ 1000000000) : l.length < FUEL := by unfold FUEL; omega
/-- the same, with the state told once more -/
theorem lss_len {A : Type} {l pre rest : List A} {x : A} (h : l = pre ++ x :: rest) : cm .lss (pre.length : Int) (l.length : Int) = true := by rw [h]; exact lss_app pre x rest
theorem idx_len {A : Type} {l pre rest : List A} {x : A} (h : l = pre ++ x :: rest) : Sw.idx l (pre.length : Int) = some x := by rw [h]; exact idx_app pre x rest
theorem idx_get {A : Type} {l : List A} {i : Nat} {x : A} (h : l[i]? = some x) : Sw.idx l (i : Int) = some x := by unfold Sw.idx; simp [h]
theorem idx_nat {A : Type} {l : List A} {n : Int} (h0 : 0 ≤ n) (h1 : n < l.length) : ∃ x, Sw.idx l n = some x ∧ l[n.toNat]? = some x := by
  have : n.toNat < l.length := by omega
  exact ⟨l[n.toNat], by unfold Sw.idx; simp [h0, this], by simp [this]⟩
/-- two lists that are the same, element by element -/
theorem same_loop {A : Type} [DecidableEq A] (l : List A) (hl : l.length ≤ 1000000) (k : Unit → Option Bool) :
    lp (β := Unit) (fun (s12 : Int) => bif (cm .lss s12 (l.length : Int)) then (Sw.idx l s12).bind fun z20 => (Sw.idx l s12).bind fun z21 => bif (!decide (z20 = z21)) then some (.done (.ret false)) else some (.next (ar .add .i64 s12 (1 : Int))) else some (.done (.brk ()))) (0 : Int) k = k () := by
  rw [show (0 : Int) = (fun (i : Nat) => (i : Int)) 0 from rfl]
  rw [lp_any (l := l) (fun (i : Nat) => (i : Int)) (fun _ => false) false () (lenF hl (by decide))]
  · simp
  · intro pre x rest h
    simp only [lss_len h, cond_true, idx_len h, Option.bind_some]
    rw [nxt (by rw [h] at hl; simp at hl; omega)]
    simp
  · simp only [lss_self, cond_false]
theorem wf_byte {n : Int} (h : Wf (Enc.int .u8) n) : 0 ≤ n ∧ n ≤ 255 := by
  have := h.int
  unfold inK at this
  simpa [IntKind.min, IntKind.max, IntKind.signed, IntKind.bits] using this
theorem wf_i64 {n : Int} (h : Wf (Enc.int .i64) n) : -9223372036854775808 ≤ n ∧ n ≤ 9223372036854775807 := by
  have := h.int
  unfold inK at this
  simpa [IntKind.min, IntKind.max, IntKind.signed, IntKind.bits] using this
theorem wf_bytes {l : List Int} (h : Wf (Enc.sl (Enc.int .u8)) l) : Bytes l := fun x hx => wf_byte (h.sl.2 x hx)

/-- the first bad one, by its number -/
theorem lp_find {α A β γ : Type} {step : α → Option (Step α (Ex β γ))} {l : List A} {k : β → Option γ} (st : Nat → α) (bad : A → Bool) (z : Nat → γ) (y : β) (hf : l.length < FUEL)
    (hs : ∀ pre x rest, l = pre ++ x :: rest → step (st pre.length) = some (if bad x then .done (.ret (z pre.length)) else .next (st (pre.length + 1)))) (he : step (st l.length) = some (.done (.brk y))) :
    lp step (st 0) k = match l.findIdx? bad with | some j => some (z j) | none => k y := by
  have key : ∀ (rest pre : List A) (f : Nat), l = pre ++ rest → rest.length < f → loop step f (st pre.length) = some (match rest.findIdx? bad with | some j => .ret (z (pre.length + j)) | none => .brk y) := by
    intro rest
    induction rest with
    | nil =>
      intro pre f hl hf
      obtain ⟨f, rfl⟩ : ∃ f', f = f' + 1 := ⟨f - 1, by simp at hf; omega⟩
      rw [List.append_nil] at hl
      rw [← hl]
      simp [loop, he]
    | cons x rest ih =>
      intro pre f hl hf
      obtain ⟨f, rfl⟩ : ∃ f', f = f' + 1 := ⟨f - 1, by simp at hf; omega⟩
      simp only [loop, hs pre x rest hl, List.findIdx?_cons]
      by_cases hb : bad x = true
      · simp [hb]
      · have := ih (pre ++ [x]) f (by rw [hl]; simp) (by simp at hf; omega)
        simp only [Bool.not_eq_true] at hb
        simp only [hb, Bool.false_eq_true, if_false]
        rw [List.length_append, List.length_singleton] at this
        rw [this]
        cases rest.findIdx? bad with
        | none => rfl
        | some j => simp only [Option.map_some]; congr 3; omega
  have := key l [] FUEL rfl hf
  unfold lp
  simp only [List.length_nil, Nat.zero_add] at this
  rw [this]
  cases l.findIdx? bad <;> rfl
theorem any_findIdx {A : Type} (l : List A) (bad : A → Bool) : l.any bad = (l.findIdx? bad).isSome := by
  simp
end Go.Pl

namespace Go.Pl
open Go Go.Sw Go.Mo

theorem same_self (l : List Blk) (h : l.length ≤ 1000000) : m_ref_SameBlocks l l = some true := by
  unfold m_ref_SameBlocks
  have : cm .neq (l.length : Int) (l.length : Int) = false := by simp [cm]
  rw [this]
  simp only [cond_false]
  rw [show (0 : Int) = ((0 : Nat) : Int) from rfl, lp_list (l := l) (fun i (_ : Unit) => (i : Int)) () (fun _ _ _ => .next ()) (fun _ => .brk ()) (by unfold FUEL; omega)]
  · have : ∀ (l : List Blk) i, foldS (fun (_ : Nat) (_ : Blk) (_ : Unit) => (Step.next () : Step Unit (Ex Unit Bool))) (fun _ => .brk ()) i () l = .brk () := by
      intro l; induction l with
      | nil => intro i; rfl
      | cons x l ih => intro i; simp only [foldS]; exact ih _
    rw [this]; rfl
  · rintro pre x rest acc rfl
    simp only [lss_app, cond_true, idx_app, Option.bind_some, stp, inc (n := pre.length) (m := 1000000) (by simp at h; omega) (by omega)]
    simp
  · intro _; simp [lss_self]

theorem first_is (l : List Blk) (b : Blk) (h : l.length ≤ 1000000) : m_ref_First l b = some (if b ∈ l then ((l.idxOf b : Nat) : Int) else -1) := by
  unfold m_ref_First
  rw [show (0 : Int) = ((0 : Nat) : Int) from rfl, lp_list (l := l) (fun i (_ : Unit) => (i : Int)) () (fun i z _ => if z = b then .done (.ret (i : Int)) else .next ()) (fun _ => .brk ()) (by unfold FUEL; omega)]
  · have : ∀ (l : List Blk) (i : Nat), foldS (fun (i : Nat) (z : Blk) (_ : Unit) => (if z = b then Step.done (Ex.ret (i : Int)) else .next () : Step Unit (Ex Unit Int))) (fun _ => .brk ()) i () l = if b ∈ l then .ret ((i + l.idxOf b : Nat) : Int) else .brk () := by
      intro l; induction l with
      | nil => intro i; simp [foldS]
      | cons x l ih =>
        intro i
        simp only [foldS]
        by_cases hx : x = b
        · subst hx; simp
        · have hx' : ¬ b = x := fun h => hx h.symm
          rw [if_neg hx]
          simp only [ih, List.mem_cons, hx', false_or, List.idxOf_cons]
          have : (x == b) = false := by simp [hx]
          rw [this]
          simp only [cond_false]
          split <;> simp <;> omega
    rw [this]
    split <;> simp [out]
  · rintro pre x rest acc rfl
    simp only [lss_app, cond_true, idx_app, Option.bind_some, stp, inc (n := pre.length) (m := 1000000) (by simp at h; omega) (by omega)]
    by_cases hx : x = b <;> simp [hx, stp]
  · intro _; simp [lss_self]

theorem hadMay_is (l : List Blk) (h : l.length ≤ 1000000) : m_ref_HadMay l = some (if l.length > 8 then 2 else if l.Nodup then 0 else 3) := by
  unfold m_ref_HadMay
  by_cases h8 : l.length > 8
  · have : cm .gtr (l.length : Int) 8 = true := by simp [cm]; omega
    rw [this]; simp [h8]
  have : cm .gtr (l.length : Int) 8 = false := by simp [cm]; omega
  rw [this, if_neg h8]
  simp only [cond_false]
  rw [show (0 : Int) = ((0 : Nat) : Int) from rfl, lp_list (l := l) (fun i (_ : Unit) => (i : Int)) () (fun i z _ => if z ∈ l.take i then .done (.ret 3) else .next ()) (fun _ => .brk ()) (by unfold FUEL; omega)]
  · have : ∀ (rest pre : List Blk), l = pre ++ rest → pre.Nodup → foldS (fun (i : Nat) (z : Blk) (_ : Unit) => (if z ∈ l.take i then Step.done (Ex.ret 3) else .next () : Step Unit (Ex Unit Int))) (fun _ => .brk ()) pre.length () rest = if l.Nodup then .brk () else .ret 3 := by
      intro rest; induction rest with
      | nil => intro pre hl hn; rw [List.append_nil] at hl; subst hl; simp [foldS, hn]
      | cons x rest ih =>
        intro pre hl hn
        simp only [foldS]
        have ht : l.take pre.length = pre := by rw [hl]; simp
        rw [ht]
        by_cases hx : x ∈ pre
        · rw [if_pos hx]
          have : ¬ l.Nodup := by rw [hl, List.nodup_append]; rintro ⟨_, _, h3⟩; exact h3 x hx x (by simp) rfl
          simp [this]
        · rw [if_neg hx]
          have := ih (pre ++ [x]) (by rw [hl]; simp) (by rw [List.nodup_append]; exact ⟨hn, by simp, fun a ha b hb => by simp at hb; subst hb; rintro rfl; exact hx ha⟩)
          simpa using this
    have := this l [] rfl (by simp)
    simp only [List.length_nil] at this
    rw [this]
    split <;> simp [out]
  · rintro pre x rest acc rfl
    simp only [lss_app, cond_true, idx_app, Option.bind_some, first_is _ _ h, stp, inc (n := pre.length) (m := 1000000) (by simp at h; omega) (by omega)]
    have ht : (pre ++ x :: rest).take pre.length = pre := by simp
    rw [ht]
    have hm : x ∈ pre ++ x :: rest := by simp
    rw [if_pos hm, List.idxOf_append]
    by_cases hx : x ∈ pre
    · have : cm .lss ((List.idxOf x pre : Nat) : Int) (pre.length : Int) = true := by simp [cm, List.idxOf_lt_length_of_mem hx]
      simp [hx, this, stp]
    · have : cm .lss ((List.idxOf x (x :: rest) + pre.length : Nat) : Int) (pre.length : Int) = false := by simp [cm]
      simp only [hx, if_false, this, cond_false, stp]
  · intro _; simp [lss_self]

theorem mget_true (pre : List Blk) (z : Blk) : mget (pre.map fun x => (x, true)) z = if z ∈ pre then some true else none := by
  induction pre with
  | nil => simp [mget]
  | cons x pre ih =>
    simp only [List.map_cons, mget, ih, List.mem_cons]
    by_cases hx : x = z
    · simp [hx]
    · have : ¬ z = x := fun h => hx h.symm
      simp [hx, this]
theorem check_is (l : List Blk) (h : l.length ≤ 1000000) : m_cache_Check l = some (if l.length > 8 then some 2 else if l.Nodup then none else some 3) := by
  unfold m_cache_Check
  by_cases h8 : l.length > 8
  · have : cm .gtr (l.length : Int) 8 = true := by simp [cm]; omega
    rw [this]; simp [h8]
  have : cm .gtr (l.length : Int) 8 = false := by simp [cm]; omega
  rw [this, if_neg h8]
  simp only [cond_false]
  rw [show ((0 : Int), ([] : List (Blk × Bool))) = (((0 : Nat) : Int), (l.take 0).map fun x => (x, true)) from rfl, lp_list (l := l) (fun i (_ : Unit) => ((i : Int), (l.take i).map fun x => (x, true))) () (fun i z _ => if z ∈ l.take i then .done (.ret (some 3)) else .next ()) (fun _ => .brk ()) (by unfold FUEL; omega)]
  · have : ∀ (rest pre : List Blk), l = pre ++ rest → pre.Nodup → foldS (fun (i : Nat) (z : Blk) (_ : Unit) => (if z ∈ l.take i then Step.done (Ex.ret (some 3)) else .next () : Step Unit (Ex Unit (Option Int)))) (fun _ => .brk ()) pre.length () rest = if l.Nodup then .brk () else .ret (some 3) := by
      intro rest; induction rest with
      | nil => intro pre hl hn; rw [List.append_nil] at hl; subst hl; simp [foldS, hn]
      | cons x rest ih =>
        intro pre hl hn
        simp only [foldS]
        have ht : l.take pre.length = pre := by rw [hl]; simp
        rw [ht]
        by_cases hx : x ∈ pre
        · rw [if_pos hx]
          have : ¬ l.Nodup := by rw [hl, List.nodup_append]; rintro ⟨_, _, h3⟩; exact h3 x hx x (by simp) rfl
          simp [this]
        · rw [if_neg hx]
          have := ih (pre ++ [x]) (by rw [hl]; simp) (by rw [List.nodup_append]; exact ⟨hn, by simp, fun a ha b hb => by simp at hb; subst hb; rintro rfl; exact hx ha⟩)
          simpa using this
    have := this l [] rfl (by simp)
    simp only [List.length_nil] at this
    rw [this]
    split <;> simp [out]
  · rintro pre x rest acc rfl
    have ht : (pre ++ x :: rest).take pre.length = pre := by simp
    simp only [lss_app, cond_true, idx_app, Option.bind_some, ht, mget_true, stp, inc (n := pre.length) (m := 1000000) (by simp at h; omega) (by omega)]
    by_cases hx : x ∈ pre
    · simp [hx, stp]
    · have ht' : (pre ++ x :: rest).take (pre.length + 1) = pre ++ [x] := by rw [List.take_append]; simp [List.take_of_length_le]
      simp only [hx, if_false, Option.getD_none, cond_false, mput, mget_true, Option.bind_some, stp, ht']
      simp
  · intro _; simp [lss_self]

def touch (b : Blk) (l : List Blk) : List Blk := b :: (l.filter (fun z => decide (z ≠ b))).take 7
theorem touched_is (l : List Blk) (b : Blk) (h : l.length ≤ 1000000) : m_ref_Touched l b = some (touch b l) := by
  unfold m_ref_Touched
  rw [show (0 : Int) = ((0 : Nat) : Int) from rfl, lp_list (l := l) (fun i (acc : List Blk) => ((i : Int), acc)) [b]
    (fun i z acc => if acc.length < 8 then (if z ≠ b then (if acc.length + 1 ≤ 4294967296 then .next (acc ++ [z]) else .next acc) else .next acc) else .done (.brk acc)) (fun acc => .brk acc) (by unfold FUEL; omega)]
  · have : ∀ (l : List Blk) (i : Nat) (acc : List Blk), acc.length ≤ 8 → foldS (fun (i : Nat) (z : Blk) (acc : List Blk) => (if acc.length < 8 then (if z ≠ b then (if acc.length + 1 ≤ 4294967296 then .next (acc ++ [z]) else .next acc) else .next acc) else .done (.brk acc) : Step (List Blk) (Ex (List Blk) (List Blk)))) (fun acc => .brk acc) i acc l = .brk (acc ++ (l.filter (fun z => decide (z ≠ b))).take (8 - acc.length)) := by
      intro l; induction l with
      | nil => intro i acc _; simp [foldS]
      | cons x l ih =>
        intro i acc ha
        simp only [foldS]
        by_cases h8 : acc.length < 8
        · rw [if_pos h8]
          by_cases hx : x ≠ b
          · rw [if_pos hx, if_pos (by omega)]
            simp only
            rw [ih _ _ (by simp; omega)]
            have : (x :: l).filter (fun z => decide (z ≠ b)) = x :: l.filter (fun z => decide (z ≠ b)) := by rw [List.filter_cons]; simp [hx]
            rw [this]
            obtain ⟨n, hn⟩ : ∃ n, 8 - acc.length = n + 1 := ⟨7 - acc.length, by omega⟩
            have hn' : 8 - (acc ++ [x]).length = n := by simp; omega
            rw [hn, hn']; simp
          · rw [if_neg hx]
            simp only
            rw [ih _ _ ha]
            have : (x :: l).filter (fun z => decide (z ≠ b)) = l.filter (fun z => decide (z ≠ b)) := by rw [List.filter_cons]; simp at hx; simp [hx]
            rw [this]
        · rw [if_neg h8]
          have : 8 - acc.length = 0 := by omega
          simp [this]
    rw [this _ _ _ (by simp)]
    simp [out, touch]
  · rintro pre x rest acc rfl
    simp only [lss_app, cond_true, idx_app, Option.bind_some, inc (n := pre.length) (m := 1000000) (by simp at h; omega) (by omega)]
    by_cases h8 : acc.length < 8
    · have : cm .lss (acc.length : Int) 8 = true := by simp [cm]; omega
      simp only [this, cond_true, h8, if_true]
      by_cases hx : x = b
      · simp [hx, stp]
      · simp only [hx, decide_false, Bool.not_false, cond_true, app_small acc [x] (by simp; omega), Option.bind_some, ne_eq, not_false_eq_true, if_true]
        rw [if_pos (by omega)]; simp [stp]
    · have : cm .lss (acc.length : Int) 8 = false := by simp [cm]; omega
      simp [this, h8, stp]
  · intro _; simp [lss_self]

theorem touch_is (l : List Blk) (b : Blk) (h : l.length ≤ 1000000) : m_cache_Touch l b = some (if l.length > 8 then ([], some 2) else if l.Nodup then (touch b l, none) else ([], some 3)) := by
  unfold m_cache_Touch
  rw [check_is l h]
  simp only [Option.bind_some]
  by_cases h8 : l.length > 8
  · simp [h8]
  by_cases hn : ¬ l.Nodup
  · simp [h8, hn]
  have hn : l.Nodup := Decidable.not_not.1 hn
  simp only [h8, hn, if_true, if_false, Option.isSome_none, cond_false]
  rw [show (0 : Int) = ((0 : Nat) : Int) from rfl, lp_list (l := l) (fun i (acc : List Blk) => ((i : Int), acc)) [b]
    (fun i z acc => if z ≠ b ∧ acc.length < 8 then .next (acc ++ [z]) else .next acc) (fun acc => .brk acc) (by unfold FUEL; omega)]
  · have : ∀ (l : List Blk) (i : Nat) (acc : List Blk), acc.length ≤ 8 → foldS (fun (i : Nat) (z : Blk) (acc : List Blk) => (if z ≠ b ∧ acc.length < 8 then .next (acc ++ [z]) else .next acc : Step (List Blk) (Ex (List Blk) (List Blk × Option Int)))) (fun acc => .brk acc) i acc l = .brk (acc ++ (l.filter (fun z => decide (z ≠ b))).take (8 - acc.length)) := by
      intro l; induction l with
      | nil => intro i acc _; simp [foldS]
      | cons x l ih =>
        intro i acc ha
        simp only [foldS]
        by_cases hx : x ≠ b
        · have : (x :: l).filter (fun z => decide (z ≠ b)) = x :: l.filter (fun z => decide (z ≠ b)) := by rw [List.filter_cons]; simp [hx]
          rw [this]
          by_cases h8 : acc.length < 8
          · rw [if_pos ⟨hx, h8⟩]
            simp only
            rw [ih _ _ (by simp; omega)]
            obtain ⟨n, hn⟩ : ∃ n, 8 - acc.length = n + 1 := ⟨7 - acc.length, by omega⟩
            have hn' : 8 - (acc ++ [x]).length = n := by simp; omega
            rw [hn, hn']; simp
          · rw [if_neg (fun h => h8 h.2)]
            simp only
            rw [ih _ _ ha]
            have : 8 - acc.length = 0 := by omega
            simp [this]
        · rw [if_neg (fun h => hx h.1)]
          simp only
          rw [ih _ _ ha]
          have : (x :: l).filter (fun z => decide (z ≠ b)) = l.filter (fun z => decide (z ≠ b)) := by rw [List.filter_cons]; simp at hx; simp [hx]
          rw [this]
    rw [this _ _ _ (by simp)]
    simp [out, touch]
  · rintro pre x rest acc rfl
    simp only [lss_app, cond_true, idx_app, Option.bind_some, inc (n := pre.length) (m := 1000000) (by simp at h; omega) (by omega)]
    by_cases hx : x = b
    · simp [hx, stp]
    · by_cases h8 : acc.length < 8
      · have : cm .lss (acc.length : Int) 8 = true := by simp [cm]; omega
        simp only [hx, decide_false, Bool.not_false, cond_true, this, Option.bind_some, app_small acc [x] (by simp; omega), ne_eq, not_false_eq_true, h8, and_self, if_true, stp]
      · have : cm .lss (acc.length : Int) 8 = false := by simp [cm]; omega
        simp [hx, this, h8, stp]
  · intro _; simp [lss_self]

theorem is_self (e : Option Int) (n : Int) (h : (e = none ∧ n = 0) ∨ (e = some n ∧ n ≠ 0)) : m_ref_Is e n = some true := by
  unfold m_ref_Is
  rcases h with ⟨rfl, rfl⟩ | ⟨rfl, h⟩
  · simp [cm]
  · have : (n != 0) = true := by simp [h]
    simp [cm, this]

end Go.Pl

namespace Go.Pl
open Go Go.Sw Go.Mo
abbrev Chg := Int × Int × Int × Blk
def hadErr (h : List Blk) : Int := if h.length > 8 then 2 else if h.Nodup then 0 else 3
def planErr (e h : List Blk) : Int := if e.length < 1 ∨ e.length > 32 then 1 else hadErr h
theorem hadMay' (l : List Blk) (h : l.length ≤ 1000000) : m_ref_HadMay l = some (hadErr l) := hadMay_is l h
theorem planMay_is (e h : List Blk) (hh : h.length ≤ 1000000) : m_ref_PlanMay e h = some (planErr e h) := by
  unfold m_ref_PlanMay planErr
  simp only [cl, cg, hadMay' h hh]
  by_cases h1 : e.length < 1
  · have : (e.length : Int) < 1 := by omega
    simp [h1, this]
  by_cases h2 : e.length > 32
  · have e1 : ¬ (e.length : Int) < 1 := by omega
    have e2 : (e.length : Int) > 32 := by omega
    simp [h1, h2, e1, e2]
  have e1 : ¬ (e.length : Int) < 1 := by omega
  have e2 : ¬ (e.length : Int) > 32 := by omega
  simp [h1, h2, e1, e2]
def opt (n : Int) : Option Int := if n = 0 then none else some n
theorem cacheCheck_opt (l : List Blk) (h : l.length ≤ 1000000) : m_cache_Check l = some (opt (hadErr l)) := by
  rw [check_is l h]
  unfold hadErr opt
  by_cases h1 : l.length > 8
  · simp [h1]
  by_cases h2 : l.Nodup <;> simp [h1, h2]
theorem checked_is (e h : List Blk) (hh : h.length ≤ 1000000) : m_plan_checked e h = some (opt (planErr e h)) := by
  unfold m_plan_checked planErr
  simp only [cl, cg, cacheCheck_opt h hh]
  by_cases h1 : e.length < 1
  · have : (e.length : Int) < 1 := by omega
    simp [h1, this, opt]
  by_cases h2 : e.length > 32
  · have e1 : ¬ (e.length : Int) < 1 := by omega
    have e2 : (e.length : Int) > 32 := by omega
    simp [h1, h2, e1, e2, opt]
  have e1 : ¬ (e.length : Int) < 1 := by omega
  have e2 : ¬ (e.length : Int) > 32 := by omega
  simp [h1, h2, e1, e2]
theorem is_opt (n : Int) : m_ref_Is (opt n) n = some true := by
  unfold m_ref_Is opt
  rw [cn, ce]
  by_cases h : n = 0 <;> simp [h]
/-! ### whether the changes go in order -/
def badC (n prev : Int) (x : Chg) : Bool := decide (x.1 ≤ prev) || decide (x.1 ≥ n) || decide (x.2.1 < 0) || decide (x.2.1 > 3)
def goes (n : Int) : Int → List Chg → Bool
  | _, [] => true
  | prev, x :: l => !badC n prev x && goes n x.1 l
theorem badC_is (n prev : Int) (x : Chg) {γ : Type} (k : Bool → Option γ) : ((bif (cm .leq x.1 prev) then
                  some true
                else
                  bif (cm .geq x.1 n) then
                    some true
                  else
                    bif (cm .lss x.2.1 (0 : Int)) then
                      some true
                    else
                      some (cm .gtr x.2.1 (3 : Int))).bind k) = k (badC n prev x) := by
  simp only [cle, cge, cl, cg]
  unfold badC
  by_cases h1 : x.1 ≤ prev
  · simp [h1]
  by_cases h2 : x.1 ≥ n
  · simp [h1, h2]
  by_cases h3 : x.2.1 < 0
  · simp [h1, h2, h3]
  simp [h1, h2, h3]
theorem goes_kind {n : Int} : ∀ {l : List Chg} {prev : Int}, goes n prev l = true → ∀ x ∈ l, 0 ≤ x.2.1 ∧ x.2.1 ≤ 3
  | [], _, _, x, hx => by simp at hx
  | y :: l, prev, h, x, hx => by
    simp only [goes, Bool.and_eq_true, Bool.not_eq_true'] at h
    rcases List.mem_cons.1 hx with rfl | hx
    · have := h.1
      unfold badC at this
      simp at this
      omega
    · exact goes_kind h.2 x hx
/-- what the law's first loop comes to -/
def okErr (w n : Int) (l : List Chg) : Int := if w = 0 then (if goes n (-1) l then 0 else 1) else w
theorem scan_is {γ : Type} (l : List Chg) (n w : Int) (hl : l.length ≤ 1000000) (k : Int → Option γ) :
    lp (β := Int) (fun (s40 : Int × Int × Int) =>
          (bif (cm .lss s40.2.2 (l.length : Int)) then
            some (cm .eql s40.1 (0 : Int))
          else
            some false).bind fun x59 =>
            bif x59 then
              (Sw.idx l s40.2.2).bind fun z62 =>
                (bif (cm .leq z62.1 s40.2.1) then
                  some true
                else
                  bif (cm .geq z62.1 n) then
                    some true
                  else
                    bif (cm .lss z62.2.1 (0 : Int)) then
                      some true
                    else
                      some (cm .gtr z62.2.1 (3 : Int))).bind fun x66 =>
                  jp (fun (x72 : Int) =>
                    some (.next (x72, z62.1, (ar .add .i64 s40.2.2 (1 : Int))))
                    ) fun k71 =>
                  bif x66 then
                    k71 (1 : Int)
                  else
                    k71 s40.1
            else
              some (.done (.brk s40.1))
          ) (w, (-1 : Int), (0 : Int)) k = k (okErr w n l) := by
  refine (lp_list (l := l) (fun i (acc : Int × Int) => (acc.1, acc.2, (i : Int))) (w, (-1 : Int)) (fun _ x acc => if acc.1 = 0 then .next (if badC n acc.2 x then 1 else acc.1, x.1) else .done (.brk acc.1)) (fun acc => .brk acc.1) (lenF hl (by decide)) ?_ ?_).trans ?_
  · intro pre x rest acc h
    simp only [lss_len h, cond_true, ce, Option.bind_some]
    by_cases h0 : acc.1 = 0
    · simp only [h0, decide_true, cond_true, idx_len h, Option.bind_some, badC_is, jp, if_true, stp]
      rw [nxt (by rw [h] at hl; simp at hl; omega)]
      by_cases hb : badC n acc.2 x = true
      · simp [hb]
      · simp only [Bool.not_eq_true] at hb
        simp [hb]
    · simp [h0, stp]
  · intro acc
    simp only [lss_self, cond_false, Option.bind_some]
  · have : ∀ (l : List Chg) (i : Nat) (w prev : Int), foldS (fun (_ : Nat) (x : Chg) (acc : Int × Int) => (if acc.1 = 0 then .next (if badC n acc.2 x then 1 else acc.1, x.1) else .done (.brk acc.1) : Step (Int × Int) (Ex Int γ))) (fun acc => .brk acc.1) i (w, prev) l = .brk (if w = 0 then (if goes n prev l then 0 else 1) else w) := by
      intro l
      induction l with
      | nil => intro i w prev; simp only [foldS, goes, if_true]; split <;> simp_all
      | cons x l ih =>
        intro i w prev
        simp only [foldS]
        by_cases h0 : w = 0
        · rw [if_pos h0]
          simp only
          rw [ih]
          by_cases hb : badC n prev x = true
          · simp [hb, h0, goes]
          · simp only [Bool.not_eq_true] at hb
            simp [hb, h0, goes]
        · simp [h0]
    rw [this]
    rfl
theorem scan2_is {γ : Type} (l : List Chg) (n : Int) (z : γ) (hl : l.length ≤ 1000000) (k : Unit → Option γ) :
    lp (β := Unit) (fun (s25 : Int × Int) =>
        bif (cm .lss s25.2 (l.length : Int)) then
          (Sw.idx l s25.2).bind fun z39 =>
            (bif (cm .leq z39.1 s25.1) then
              some true
            else
              bif (cm .geq z39.1 n) then
                some true
              else
                bif (cm .lss z39.2.1 (0 : Int)) then
                  some true
                else
                  some (cm .gtr z39.2.1 (3 : Int))).bind fun x43 =>
              bif x43 then
                some (.done (.ret z))
              else
                some (.next (z39.1, (ar .add .i64 s25.2 (1 : Int))))
        else
          some (.done (.brk ()))
        ) ((-1 : Int), (0 : Int)) k = if goes n (-1) l then k () else some z := by
  refine (lp_list (l := l) (fun i (acc : Int) => (acc, (i : Int))) (-1 : Int) (fun _ x acc => if badC n acc x then .done (.ret z) else .next x.1) (fun _ => .brk ()) (lenF hl (by decide)) ?_ ?_).trans ?_
  · intro pre x rest acc h
    simp only [lss_len h, cond_true, idx_len h, Option.bind_some, badC_is]
    by_cases hb : badC n acc x = true
    · simp [hb, stp]
    · simp only [Bool.not_eq_true] at hb
      rw [nxt (by rw [h] at hl; simp at hl; omega)]
      simp [hb, stp]
  · intro acc
    simp only [lss_self, cond_false]
  · have : ∀ (l : List Chg) (i : Nat) (prev : Int), foldS (fun (_ : Nat) (x : Chg) (acc : Int) => (if badC n acc x then .done (.ret z) else .next x.1 : Step Int (Ex Unit γ))) (fun _ => .brk ()) i prev l = if goes n prev l then .brk () else .ret z := by
      intro l
      induction l with
      | nil => intro i prev; simp [foldS, goes]
      | cons x l ih =>
        intro i prev
        simp only [foldS]
        by_cases hb : badC n prev x = true
        · simp [hb, goes]
        · simp only [Bool.not_eq_true] at hb
          simp [hb, goes, ih]
    rw [this]
    by_cases g : goes n (-1) l = true <;> simp [g, out]
/-! ### what is put, what is asked -/
def saidV (x : Chg) (e h : List Blk) : Blk × Bool :=
  if x.2.1 = 0 then (zblk, true) else if x.2.1 = 3 then (x.2.2.2, true) else
    let l := if x.2.1 = 2 then h else e
    if x.2.2.1 < 0 ∨ x.2.2.1 ≥ l.length then (zblk, false) else (l.getD x.2.2.1.toNat [], true)
theorem pick_is (l : List Blk) (n : Int) : ((bif (cm .lss n (0 : Int)) then
          some true
        else
          some (cm .geq n (l.length : Int))).bind fun x5 =>
          bif x5 then
            some (zblk, false)
          else
            (Sw.idx l n).bind fun z8 =>
              some (z8, true)) = some (if n < 0 ∨ n ≥ l.length then (zblk, false) else (l.getD n.toNat [], true)) := by
  rw [cl, cge]
  by_cases h1 : n < 0
  · simp [h1]
  by_cases h2 : n ≥ l.length
  · simp [h1, h2]
  have hlt : n.toNat < l.length := by omega
  have : Sw.idx l n = some (l.getD n.toNat []) := by unfold Sw.idx; rw [if_pos (by omega)]; simp [List.getD_eq_getElem?_getD, List.getElem?_eq_getElem hlt]
  simp only [h1, h2, decide_false, cond_false, Option.bind_some, this, or_self, if_false]
theorem said_is (x : Chg) (e h : List Blk) : m_ref_Said x e h = some (saidV x e h) := by
  unfold m_ref_Said saidV
  rw [pick_is h, pick_is e]
  simp only [ce]
  by_cases h0 : x.2.1 = 0
  · simp [h0]
  by_cases h3 : x.2.1 = 3
  · simp [h3]
  by_cases h2 : x.2.1 = 2
  · simp [h2]
  simp [h0, h3, h2]
theorem one_is (l : List Blk) (n : Int) : m_plan_one l n = some (if n < 0 ∨ n ≥ l.length then (zblk, false) else (l.getD n.toNat [], true)) := pick_is l n
def put1 (e h : List Blk) (x : Chg) (acc : List (Int × Blk) × List Int) : List (Int × Blk) × List Int :=
  if (saidV x e h).2 then (acc.1 ++ [(x.1, (saidV x e h).1)], acc.2) else (acc.1, acc.2 ++ [x.1])
def puts (e h : List Blk) (l : List Chg) : List (Int × Blk) × List Int := (l.zipIdx).foldl (fun acc x => put1 e h x.1 acc) ([], [])
theorem put1_len (e h : List Blk) (x : Chg) (acc : List (Int × Blk) × List Int) : (put1 e h x acc).1.length + (put1 e h x acc).2.length = acc.1.length + acc.2.length + 1 := by
  unfold put1; split <;> simp <;> omega
theorem puts_len (e h : List Blk) (l : List Chg) : (puts e h l).1.length + (puts e h l).2.length = l.length := by
  unfold puts
  have : ∀ (z : List (Chg × Nat)) acc, (z.foldl (fun acc x => put1 e h x.1 acc) acc).1.length + (z.foldl (fun acc x => put1 e h x.1 acc) acc).2.length = acc.1.length + acc.2.length + z.length := by
    intro z
    induction z with
    | nil => intro acc; simp
    | cons x z ih => intro acc; rw [List.foldl_cons, ih, put1_len]; simp; omega
  rw [this]; simp
theorem put_step {γ : Type} (e h : List Blk) (x : Chg) (acc : List (Int × Blk) × List Int) (ha : acc.1.length + acc.2.length ≤ 1000000) (k : List (Int × Blk) × List Int → Option γ) (v : Blk × Bool) (hv : v = saidV x e h) :
    (bif v.2 then (Sw.app acc.1 ([(x.1, v.1)] : (List (Int × Blk)))).bind fun v119 => k (v119, acc.2) else (Sw.app acc.2 ([x.1] : (List Int))).bind fun v121 => k (acc.1, v121)) = k (put1 e h x acc) := by
  subst hv
  unfold put1
  rw [app_small _ _ (by simp; omega), app_small _ _ (by simp; omega)]
  by_cases c : (saidV x e h).2 = true
  · simp [c]
  · simp only [Bool.not_eq_true] at c
    simp [c]
theorem collect_is {γ : Type} (l : List Chg) (e h : List Blk) (w : Int) (hl : l.length ≤ 1000) (k : List (Int × Blk) × List Int → Option γ) :
    lp (β := (List (Int × Blk)) × (List Int)) (fun (s97 : Int × (List (Int × Blk)) × (List Int)) =>
          (bif (cm .lss s97.1 (l.length : Int)) then
            some (cm .eql w (0 : Int))
          else
            some false).bind fun x112 =>
            bif x112 then
              (Sw.idx l s97.1).bind fun z115 =>
                (m_ref_Said z115 e h).bind fun v116 =>
                  bif v116.2 then
                    (Sw.idx l s97.1).bind fun z118 =>
                      (Sw.app s97.2.1 ([(z118.1, v116.1)] : (List (Int × Blk)))).bind fun v119 =>
                        some (.next ((ar .add .i64 s97.1 (1 : Int)), v119, s97.2.2))
                  else
                    (Sw.idx l s97.1).bind fun z120 =>
                      (Sw.app s97.2.2 ([z120.1] : (List Int))).bind fun v121 =>
                        some (.next ((ar .add .i64 s97.1 (1 : Int)), s97.2.1, v121))
            else
              some (.done (.brk (s97.2.1, s97.2.2)))
          ) ((0 : Int), ([] : (List (Int × Blk))), ([] : (List Int))) k = k (if w = 0 then puts e h l else ([], [])) := by
  by_cases hw : w = 0
  · refine (lp_inv (l := l) (fun i (acc : List (Int × Blk) × List Int) => ((i : Int), acc.1, acc.2)) (fun i acc => acc.1.length + acc.2.length = i) ([], []) (fun _ x acc => put1 e h x acc) id (lenF (n := 1000) hl (by decide)) rfl ?_ ?_).trans ?_
    · intro pre x rest acc hp hI
      have hpl : pre.length ≤ 1000 := by rw [hp] at hl; simp at hl; omega
      refine ⟨?_, by rw [put1_len, hI]⟩
      simp only [lss_len hp, cond_true, hw, ce, decide_true, Option.bind_some, idx_len hp, said_is]
      rw [nxt (by omega)]
      exact put_step e h x acc (by omega) (fun a => some (Step.next (((pre.length + 1 : Nat) : Int), a.1, a.2))) _ rfl
    · intro acc _
      simp only [lss_self, cond_false, Option.bind_some]
      rfl
    · rw [if_pos hw]; rfl
  · rw [if_neg hw]
    have : ∃ f, FUEL = f + 1 := ⟨FUEL - 1, by unfold FUEL; rfl⟩
    obtain ⟨f, hf⟩ := this
    unfold lp
    rw [hf]
    have hc : ∀ b : Bool, (bif b then some (decide (w = 0)) else some false) = some false := by intro b; cases b <;> simp [hw]
    simp only [loop, ce, hc, Option.bind_some, cond_false]
theorem collect2_is (l : List Chg) (e h : List Blk) (hl : l.length ≤ 1000) (hk : ∀ x ∈ l, 0 ≤ x.2.1 ∧ x.2.1 ≤ 3) {γ : Type} (k : List (Int × Blk) × List Int → Option γ) :
    lp (β := (List (Int × Blk)) × (List Int)) (fun (s88 : Int × (List (Int × Blk)) × (List Int)) =>
        bif (cm .lss s88.1 (l.length : Int)) then
          (Sw.idx l s88.1).bind fun z111 =>
            bif (cm .eql z111.2.1 (1 : Int)) then
              (m_plan_one e z111.2.2.1).bind fun v113 =>
                bif v113.2 then
                  (Sw.app s88.2.1 ([(z111.1, v113.1)] : (List (Int × Blk)))).bind fun v115 =>
                    some (.next ((ar .add .i64 s88.1 (1 : Int)), v115, s88.2.2))
                else
                  (Sw.app s88.2.2 ([z111.1] : (List Int))).bind fun v116 =>
                    some (.next ((ar .add .i64 s88.1 (1 : Int)), s88.2.1, v116))
            else
              bif (cm .eql z111.2.1 (2 : Int)) then
                (m_plan_one h z111.2.2.1).bind fun v118 =>
                  bif v118.2 then
                    (Sw.app s88.2.1 ([(z111.1, v118.1)] : (List (Int × Blk)))).bind fun v120 =>
                      some (.next ((ar .add .i64 s88.1 (1 : Int)), v120, s88.2.2))
                  else
                    (Sw.app s88.2.2 ([z111.1] : (List Int))).bind fun v121 =>
                      some (.next ((ar .add .i64 s88.1 (1 : Int)), s88.2.1, v121))
              else
                bif (cm .eql z111.2.1 (3 : Int)) then
                  bif true then
                    (Sw.app s88.2.1 ([(z111.1, z111.2.2.2)] : (List (Int × Blk)))).bind fun v124 =>
                      some (.next ((ar .add .i64 s88.1 (1 : Int)), v124, s88.2.2))
                  else
                    (Sw.app s88.2.2 ([z111.1] : (List Int))).bind fun v125 =>
                      some (.next ((ar .add .i64 s88.1 (1 : Int)), s88.2.1, v125))
                else
                  bif true then
                    (Sw.app s88.2.1 ([(z111.1, zblk)] : (List (Int × Blk)))).bind fun v127 =>
                      some (.next ((ar .add .i64 s88.1 (1 : Int)), v127, s88.2.2))
                  else
                    (Sw.app s88.2.2 ([z111.1] : (List Int))).bind fun v128 =>
                      some (.next ((ar .add .i64 s88.1 (1 : Int)), s88.2.1, v128))
        else
          some (.done (.brk (s88.2.1, s88.2.2)))
        ) ((0 : Int), ([] : (List (Int × Blk))), ([] : (List Int))) k = k (puts e h l) := by
  refine (lp_inv (l := l) (fun i (acc : List (Int × Blk) × List Int) => ((i : Int), acc.1, acc.2)) (fun i acc => acc.1.length + acc.2.length = i) ([], []) (fun _ x acc => put1 e h x acc) id (lenF (n := 1000) hl (by decide)) rfl ?_ ?_).trans ?_
  · intro pre x rest acc hp hI
    have hpl : pre.length ≤ 1000 := by rw [hp] at hl; simp at hl; omega
    have hx := hk x (by rw [hp]; simp)
    refine ⟨?_, by rw [put1_len, hI]⟩
    simp only [lss_len hp, cond_true, ce, Option.bind_some, idx_len hp, one_is]
    rw [nxt (by omega)]
    have go := fun v hv => put_step e h x acc (by omega) (fun a => (some (.next (((pre.length + 1 : Nat) : Int), a.1, a.2)) : Option (Step (Int × (List (Int × Blk)) × (List Int)) (Ex ((List (Int × Blk)) × (List Int)) γ)))) v hv
    by_cases h1 : x.2.1 = 1
    · have := go (if x.2.2.1 < 0 ∨ x.2.2.1 ≥ e.length then (zblk, false) else (e.getD x.2.2.1.toNat [], true)) (by unfold saidV; simp [h1])
      simp only [h1, decide_true, cond_true]
      exact this
    by_cases h2 : x.2.1 = 2
    · have := go (if x.2.2.1 < 0 ∨ x.2.2.1 ≥ h.length then (zblk, false) else (h.getD x.2.2.1.toNat [], true)) (by unfold saidV; simp [h2])
      simp only [h1, h2, decide_true, decide_false, cond_true, cond_false]
      exact this
    by_cases h3 : x.2.1 = 3
    · have := go (x.2.2.2, true) (by unfold saidV; simp [h3])
      simp only [h1, h2, h3, decide_true, decide_false, cond_true, cond_false]
      exact this
    · have h0 : x.2.1 = 0 := by omega
      have := go (zblk, true) (by unfold saidV; simp [h0])
      simp only [h1, h2, h3, decide_false, cond_false]
      exact this
  · intro acc _
    simp only [lss_self, cond_false]
    rfl
  · rfl
theorem apply_is (l : List Chg) (e h : List Blk) (hl : l.length ≤ 1000) (hh : h.length ≤ 1000000) : m_plan_Apply l e h = some (if okErr (planErr e h) e.length l = 0 then ((puts e h l).1, (puts e h l).2, none) else ([], [], some (okErr (planErr e h) e.length l))) := by
  unfold m_plan_Apply
  rw [checked_is e h hh, Option.bind_some]
  unfold okErr
  by_cases hw : planErr e h = 0
  · simp only [hw, opt, if_true, Option.isSome_none, cond_false]
    rw [scan2_is l _ _ (by omega)]
    by_cases g : goes e.length (-1) l = true
    · simp only [g, if_true]
      rw [collect2_is l e h hl (goes_kind g)]
    · simp [g]
  · simp [hw, opt]
/-! ### what was had -/
def had1 (x : Chg) (acc : List Blk) : List Blk := if x.2.1 = 3 then touch x.2.2.2 acc else acc
def hadL (h : List Blk) (l : List Chg) : List Blk := (l.zipIdx).foldl (fun acc x => had1 x.1 acc) h
theorem touch_ok {b : Blk} {l : List Blk} (h : l.Nodup) : (touch b l).length ≤ 8 ∧ (touch b l).Nodup := by
  unfold touch
  refine ⟨by simp; omega, List.nodup_cons.2 ⟨fun hm => ?_, ?_⟩⟩
  · have := List.mem_of_mem_take hm
    simp at this
  · exact (h.sublist (List.filter_sublist)).sublist (List.take_sublist _ _)
theorem had1_ok {x : Chg} {l : List Blk} (h : l.length ≤ 8 ∧ l.Nodup) : (had1 x l).length ≤ 8 ∧ (had1 x l).Nodup := by
  unfold had1; split
  · exact touch_ok h.2
  · exact h
theorem hadLoop_is {γ : Type} (l : List Chg) (h : List Blk) (hl : l.length ≤ 1000) (hh : h.length ≤ 8 ∧ h.Nodup) (k : List Blk → Option γ) :
    lp (β := (List Blk)) (fun (s180 : (List Blk) × Int) =>
                      bif (cm .lss s180.2 (l.length : Int)) then
                        (Sw.idx l s180.2).bind fun z189 =>
                          bif (cm .eql z189.2.1 (3 : Int)) then
                            (Sw.idx l s180.2).bind fun z191 =>
                              (m_ref_Touched s180.1 z191.2.2.2).bind fun v192 =>
                                some (.next (v192, (ar .add .i64 s180.2 (1 : Int))))
                          else
                            some (.next (s180.1, (ar .add .i64 s180.2 (1 : Int))))
                      else
                        some (.done (.brk s180.1))
                      ) (h, (0 : Int)) k = k (hadL h l) := by
  refine (lp_inv (l := l) (fun i (acc : List Blk) => (acc, (i : Int))) (fun _ acc => acc.length ≤ 8 ∧ acc.Nodup) h (fun _ x acc => had1 x acc) id (lenF (n := 1000) hl (by decide)) hh ?_ ?_).trans ?_
  · intro pre x rest acc hp hI
    have hpl : pre.length ≤ 1000 := by rw [hp] at hl; simp at hl; omega
    refine ⟨?_, had1_ok hI⟩
    simp only [lss_len hp, cond_true, ce, Option.bind_some, idx_len hp, touched_is acc x.2.2.2 (by omega)]
    rw [nxt (by omega)]
    unfold had1
    by_cases h3 : x.2.1 = 3 <;> simp [h3]
  · intro acc _
    simp only [lss_self, cond_false]
    rfl
  · rfl
theorem had_is (l : List Chg) (h : List Blk) (hl : l.length ≤ 1000) (hh : h.length ≤ 1000000) : m_plan_Had h l = some (if hadErr h = 0 then (hadL h l, none) else ([], some (hadErr h))) := by
  unfold m_plan_Had
  rw [cacheCheck_opt h hh, Option.bind_some]
  by_cases hw : hadErr h = 0
  · have ok : h.length ≤ 8 ∧ h.Nodup := by
      unfold hadErr at hw
      split at hw
      · cases hw
      · split at hw
        · rename_i h1 h2; exact ⟨by omega, h2⟩
        · cases hw
    simp only [hw, opt, if_true, Option.isSome_none, cond_false]
    unfold m_slices_Clone_api_Block_api_Block
    rw [app_small _ _ (by simp; omega), Option.bind_some, List.nil_append]
    refine (lp_inv (l := l) (fun i (acc : List Blk) => (acc, (i : Int))) (fun _ acc => acc.length ≤ 8 ∧ acc.Nodup) h (fun _ x acc => had1 x acc) id (lenF (n := 1000) hl (by decide)) ok ?_ ?_).trans ?_
    · intro pre x rest acc hp hI
      have hpl : pre.length ≤ 1000 := by rw [hp] at hl; simp at hl; omega
      refine ⟨?_, had1_ok hI⟩
      have ht := touch_is acc x.2.2.2 (by omega)
      rw [if_neg (by omega), if_pos hI.2] at ht
      simp only [lss_len hp, cond_true, ce, Option.bind_some, idx_len hp, ht]
      rw [nxt (by omega)]
      unfold had1
      by_cases h3 : x.2.1 = 3 <;> simp [h3]
    · intro acc _
      simp only [lss_self, cond_false]
      rfl
    · rfl
  · simp [hw, opt]
theorem hadL_len (h : List Blk) (l : List Chg) (hh : h.length ≤ 8 ∧ h.Nodup) : (hadL h l).length ≤ 8 := by
  unfold hadL
  have : ∀ (z : List (Chg × Nat)) (h : List Blk), h.length ≤ 8 ∧ h.Nodup → (z.foldl (fun acc x => had1 x.1 acc) h).length ≤ 8 := by
    intro z
    induction z with
    | nil => intro h hh; exact hh.1
    | cons x z ih => intro h hh; rw [List.foldl_cons]; exact ih _ (had1_ok hh)
  exact this _ _ hh
theorem samePutsP_self (l : List (Int × Blk)) (hl : l.length ≤ 1000000) : m_ref_SamePuts l l = some true := by
  unfold m_ref_SamePuts
  rw [cn]
  simp only [ne_eq, not_true, decide_false, cond_false]
  exact same_loop l hl _
theorem sameInts_self (l : List Int) (hl : l.length ≤ 1000000) : m_ref_SameInts l l = some true := by
  unfold m_ref_SameInts
  simp only [cn]
  simp only [ne_eq, not_true, decide_false, cond_false]
  have := same_loop l hl (fun _ => some true)
  simpa only [decide_not] using this
theorem law_PlanApplies (l : List Chg) (e h : List Blk) : m_law_PlanApplies l e h = some true := by
  unfold m_law_PlanApplies jp
  simp only [cg]
  by_cases c1 : (l.length : Int) > 100
  · simp [c1]
  by_cases c2 : (e.length : Int) > 100
  · simp [c1, c2]
  by_cases c3 : (h.length : Int) > 100
  · simp [c1, c2, c3]
  simp only [c1, c2, c3, decide_false, cond_false, Option.bind_some]
  rw [planMay_is e h (by omega), Option.bind_some]
  have s := scan_is (γ := Bool) l e.length (planErr e h) (by omega)
  simp only [cg, jp] at s
  rw [s, collect_is l e h _ (by omega), apply_is l e h (by omega) (by omega), Option.bind_some]
  have hp := puts_len e h l
  have tail : ((m_ref_HadMay h).bind fun v135 =>
                  (fun k164 => bif (cm .eql v135 (0 : Int)) then
                  (m_ref_OwnBlocks h).bind fun v166 =>
                    lp (β := (List Blk)) (fun (s180 : (List Blk) × Int) =>
                      bif (cm .lss s180.2 (l.length : Int)) then
                        (Sw.idx l s180.2).bind fun z189 =>
                          bif (cm .eql z189.2.1 (3 : Int)) then
                            (Sw.idx l s180.2).bind fun z191 =>
                              (m_ref_Touched s180.1 z191.2.2.2).bind fun v192 =>
                                some (.next (v192, (ar .add .i64 s180.2 (1 : Int))))
                          else
                            some (.next (s180.1, (ar .add .i64 s180.2 (1 : Int))))
                      else
                        some (.done (.brk s180.1))
                      ) (v166, (0 : Int)) fun (x187 : (List Blk)) =>
                    k164 x187
                else
                  k164 ([] : (List Blk))) (fun (x165 : (List Blk)) =>
                  (m_plan_Had h l).bind fun v193 =>
                    ((m_ref_Is v193.2 v135).bind fun v198 =>
                      bif v198 then
                        (m_ref_SameBlocks v193.1 x165).bind fun v200 =>
                          some v200
                      else
                        some false).bind fun x197 =>
                      some x197)) = some true := by
    rw [hadMay' h (by omega), Option.bind_some, had_is l h (by omega) (by omega)]
    simp only [ce]
    by_cases hw : hadErr h = 0
    · have ok : h.length ≤ 8 ∧ h.Nodup := by
        unfold hadErr at hw
        split at hw
        · cases hw
        · split at hw
          · rename_i h1 h2; exact ⟨by omega, h2⟩
          · cases hw
      have ho : m_ref_OwnBlocks h = some h := by unfold m_ref_OwnBlocks; rw [app_small _ _ (by simp; omega)]; rfl
      simp only [hw, decide_true, cond_true, if_true, ho, Option.bind_some]
      have hl2 := hadLoop_is (γ := Bool) l h (by omega) ok
      simp only [ce] at hl2
      have hi : m_ref_Is none 0 = some true := is_opt 0
      rw [hl2, hi, same_self _ (by have := hadL_len h l ok; omega)]
      rfl
    · have hi : m_ref_Is (some (hadErr h)) (hadErr h) = some true := by have := is_opt (hadErr h); simpa [opt, hw] using this
      simp only [hw, decide_false, cond_false, if_false, Option.bind_some, hi, same_self [] (by simp), cond_true]
  by_cases ho : okErr (planErr e h) e.length l = 0
  · have hi : m_ref_Is none 0 = some true := is_opt 0
    simp only [ho, if_true, hi, Option.bind_some, Bool.not_true, cond_false]
    rw [samePutsP_self _ (by omega), sameInts_self _ (by omega)]
    simp only [Option.bind_some, Bool.not_true, cond_false]
    exact tail
  · have hi := is_opt (okErr (planErr e h) e.length l)
    unfold opt at hi
    rw [if_neg ho] at hi
    simp only [ho, if_false, hi, Option.bind_some, Bool.not_true, cond_false]
    rw [samePutsP_self _ (by simp), sameInts_self _ (by simp)]
    simp only [Option.bind_some, Bool.not_true, cond_false]
    exact tail
end Go.Pl
