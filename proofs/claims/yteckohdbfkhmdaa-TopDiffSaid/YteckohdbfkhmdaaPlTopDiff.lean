/- The plain law: the model of the law answers true. Conditions: none. -/
import Derived.Test.YteckohdbfkhmdaaMoTopDiff
set_option linter.unusedVariables false
set_option linter.unusedSimpArgs false
namespace Go.Pl
open Go Go.Sw

/-- going over a list, with what is carried, till something is done -/
def foldS {A B D : Type} (g : Nat → A → B → Step B D) (fin : B → D) : Nat → B → List A → D
  | _, acc, [] => fin acc
  | i, acc, x :: xs => match g i x acc with
    | .next acc' => foldS g fin (i + 1) acc' xs
    | .done d => d

def stp {α B D : Type} (st : Nat → B → α) (i : Nat) : Step B D → Step α D
  | .next a => .next (st i a)
  | .done d => .done d
def out {β γ : Type} (k : β → Option γ) : Ex β γ → Option γ
  | .brk y => k y
  | .ret z => some z

theorem loop_list {α A B D : Type} {step : α → Option (Step α D)} {l : List A} (st : Nat → B → α) (g : Nat → A → B → Step B D) (fin : B → D)
    (hs : ∀ pre x rest acc, l = pre ++ x :: rest → step (st pre.length acc) = some (stp st (pre.length + 1) (g pre.length x acc)))
    (he : ∀ acc, step (st l.length acc) = some (.done (fin acc))) :
    ∀ (rest pre : List A) (acc : B) (f : Nat), l = pre ++ rest → rest.length < f → loop step f (st pre.length acc) = some (foldS g fin pre.length acc rest)
  | [], pre, acc, f, hl, hf => by
    obtain ⟨f, rfl⟩ : ∃ f', f = f' + 1 := ⟨f - 1, by simp at hf; omega⟩
    have := he acc
    rw [hl, List.append_nil] at this
    simp [loop, this, foldS]
  | x :: rest, pre, acc, f, hl, hf => by
    obtain ⟨f, rfl⟩ : ∃ f', f = f' + 1 := ⟨f - 1, by simp at hf; omega⟩
    have h1 := hs pre x rest acc hl
    simp only [loop, h1, foldS]
    cases hg : g pre.length x acc with
    | done d => rfl
    | next acc' =>
      have ih := loop_list st g fin hs he rest (pre ++ [x]) acc' f (by rw [hl]; simp) (by simp at hf; omega)
      simpa [stp] using ih

theorem lp_list {α A B β γ : Type} {step : α → Option (Step α (Ex β γ))} {l : List A} {k : β → Option γ} (st : Nat → B → α) (acc0 : B) (g : Nat → A → B → Step B (Ex β γ)) (fin : B → Ex β γ) (hf : l.length < FUEL)
    (hs : ∀ pre x rest acc, l = pre ++ x :: rest → step (st pre.length acc) = some (stp st (pre.length + 1) (g pre.length x acc)))
    (he : ∀ acc, step (st l.length acc) = some (.done (fin acc))) :
    lp step (st 0 acc0) k = out k (foldS g fin 0 acc0 l) := by
  have h := loop_list st g fin hs he l [] acc0 FUEL rfl hf
  unfold lp
  simp only [List.length_nil] at h
  rw [h]
  cases foldS g fin 0 acc0 l <;> rfl

theorem idx_app {α : Type} (pre : List α) (x : α) (rest : List α) : Sw.idx (pre ++ x :: rest) (pre.length : Int) = some x := by
  unfold Sw.idx; simp
theorem inc {n m : Nat} (h : n < m) (hm : m ≤ 4611686018427387904) : ar .add .i64 (n : Int) 1 = ((n + 1 : Nat) : Int) := by
  unfold ar; simp only [IntKind.wrap, IntKind.signed, IntKind.bits]; simp; omega
theorem lss_app {α : Type} (pre : List α) (x : α) (rest : List α) : cm .lss (pre.length : Int) ((pre ++ x :: rest).length : Int) = true := by
  unfold cm; simp; omega
theorem lss_self {n : Nat} : cm .lss (n : Int) (n : Int) = false := by unfold cm; simp
end Go.Pl

namespace Go.Pl
open Go Go.Sw

theorem lp_count {α β γ : Type} {step : α → Option (Step α (Ex β γ))} {k : β → Option γ} (st : Nat → α) (n : Nat) (y : β) (hf : n < FUEL) (hs : ∀ i, i < n → step (st i) = some (.next (st (i + 1)))) (he : step (st n) = some (.done (.brk y))) : lp step (st 0) k = k y := by
  have h : ∀ m i, i + m = n → ∀ f, m < f → loop step f (st i) = some (.brk y) := by
    intro m
    induction m with
    | zero =>
      intro i hi f hf
      obtain ⟨f, rfl⟩ : ∃ f', f = f' + 1 := ⟨f - 1, by omega⟩
      simp only [Nat.add_zero] at hi
      subst hi
      simp [loop, he]
    | succ m ih =>
      intro i hi f hf
      obtain ⟨f, rfl⟩ : ∃ f', f = f' + 1 := ⟨f - 1, by omega⟩
      simp only [loop, hs i (by omega)]
      exact ih (i + 1) (by omega) f (by omega)
  unfold lp
  rw [h n 0 (by omega) FUEL hf]

theorem wrap_i64 {n : Int} (h : -9223372036854775808 ≤ n ∧ n ≤ 9223372036854775807) : IntKind.wrap .i64 n = n := wrap_id (k := .i64) (by unfold inK; simp [IntKind.min, IntKind.max, IntKind.signed, IntKind.bits]; omega)
theorem wrap_u8 {n : Int} (h : 0 ≤ n ∧ n ≤ 255) : IntKind.wrap .u8 n = n := wrap_id (k := .u8) (by unfold inK; simp [IntKind.min, IntKind.max, IntKind.signed, IntKind.bits]; omega)
theorem wrap_u32 {n : Int} (h : 0 ≤ n ∧ n ≤ 4294967295) : IntKind.wrap .u32 n = n := wrap_id (k := .u32) (by unfold inK; simp [IntKind.min, IntKind.max, IntKind.signed, IntKind.bits]; omega)
theorem ofInt_nat (w n : Nat) : BitVec.ofInt w (n : Int) = BitVec.ofNat w n := by
  apply BitVec.eq_of_toNat_eq
  simp
theorem xor32 {a b : Nat} (ha : a < 4294967296) (hb : b < 4294967296) : ar .xor .u32 (a : Int) (b : Int) = ((a ^^^ b : Nat) : Int) := by
  have h : a ^^^ b < 2 ^ 32 := Nat.xor_lt_two_pow (by simpa using ha) (by simpa using hb)
  show IntKind.wrap .u32 ((BitVec.ofInt 32 (a : Int) ^^^ BitVec.ofInt 32 (b : Int)).toNat : Int) = _
  simp only [ofInt_nat, BitVec.toNat_xor, BitVec.toNat_ofNat]
  rw [Nat.mod_eq_of_lt (by simpa using ha), Nat.mod_eq_of_lt (by simpa using hb)]
  exact wrap_u32 (by simp at h; omega)
theorem and32 {a : Nat} (ha : a < 4294967296) : ar .and .u32 (a : Int) 1 = ((a % 2 : Nat) : Int) := by
  show IntKind.wrap .u32 ((BitVec.ofInt 32 (a : Int) &&& BitVec.ofInt 32 ((1 : Nat) : Int)).toNat : Int) = _
  simp only [ofInt_nat, BitVec.toNat_and, BitVec.toNat_ofNat]
  rw [Nat.mod_eq_of_lt (a := a) (by simpa using ha), Nat.mod_eq_of_lt (a := 1) (by decide), Nat.and_one_is_mod]
  exact wrap_u32 (by omega)
theorem mul32 {a : Nat} (ha : a < 2) : ar .mul .u32 3988292384 (a : Int) = ((if a = 1 then 3988292384 else 0 : Nat) : Int) := by
  have : a = 0 ∨ a = 1 := by omega
  rcases this with rfl | rfl
  · rfl
  · decide
theorem shr1 {a : Nat} : sh .shr .u32 (a : Int) 1 = ((a / 2 : Nat) : Int) := by
  show Int.fdiv _ _ = _
  have : (2 : Int) ^ min (1 : Int).toNat (IntKind.bits .u32) = 2 := by decide
  rw [this, Int.fdiv_eq_ediv_of_nonneg _ (by omega)]
  omega
theorem not32 {a : Nat} (ha : a < 4294967296) : bnot .u32 (a : Int) = ((4294967295 - a : Nat) : Int) := by
  unfold bnot
  show IntKind.wrap .u32 ((BitVec.allOnes 32 ^^^ BitVec.ofInt 32 (a : Int)).toNat : Int) = _
  simp only [ofInt_nat, BitVec.allOnes_xor, BitVec.toNat_not, BitVec.toNat_ofNat]
  rw [Nat.mod_eq_of_lt (by simpa using ha)]
  exact wrap_u32 (by omega)
theorem tdiv_nat (a b : Nat) : Int.tdiv (a : Int) (b : Int) = ((a / b : Nat) : Int) := rfl
theorem tmod_nat (a b : Nat) : Int.tmod (a : Int) (b : Int) = ((a % b : Nat) : Int) := rfl
theorem quo64 {a b : Nat} (ha : a ≤ 9223372036854775807) : ar .quo .i64 (a : Int) (b : Int) = ((a / b : Nat) : Int) := by
  show IntKind.wrap .i64 _ = _
  rw [tdiv_nat]
  have := Nat.div_le_self a b
  generalize a / b = q at *
  exact wrap_i64 (by omega)
theorem rem64 {a b : Nat} : ar .rem .i64 (a : Int) (b : Int) = ((a % b : Nat) : Int) := rfl
theorem add64 {a b : Nat} (h : a + b ≤ 9223372036854775807) : ar .add .i64 (a : Int) (b : Int) = ((a + b : Nat) : Int) := by
  show IntKind.wrap .i64 _ = _
  rw [← Int.natCast_add]; exact wrap_i64 (by omega)
theorem mul64 {a b : Nat} (h : a * b ≤ 9223372036854775807) : ar .mul .i64 (a : Int) (b : Int) = ((a * b : Nat) : Int) := by
  show IntKind.wrap .i64 _ = _
  rw [← Int.natCast_mul]; exact wrap_i64 (by omega)
theorem nz_ok {n : Int} (h : n ≠ 0) : nz n = some () := by unfold nz; rw [if_neg h]
theorem cm_lss {a b : Nat} : cm .lss (a : Int) (b : Int) = decide (a < b) := by unfold cm; simp
theorem bit_xor (a b i : Nat) : (a ^^^ b) / 2 ^ i % 2 = (a / 2 ^ i + b / 2 ^ i) % 2 := by
  have h := Nat.testBit_xor a b i
  simp only [Nat.testBit_eq_decide_div_mod_eq] at h
  have ha := Nat.mod_two_eq_zero_or_one (a / 2 ^ i)
  have hb := Nat.mod_two_eq_zero_or_one (b / 2 ^ i)
  have hc := Nat.mod_two_eq_zero_or_one ((a ^^^ b) / 2 ^ i)
  rw [Nat.add_mod]
  rcases ha with ha | ha <;> rcases hb with hb | hb <;> rcases hc with hc | hc <;> simp [ha, hb, hc] at h ⊢
theorem xor_half (a b : Nat) : (a ^^^ b) / 2 = a / 2 ^^^ b / 2 := by
  have := Nat.shiftRight_xor_distrib (i := 1) (a := a) (b := b)
  simpa [Nat.shiftRight_eq_div_pow] using this
end Go.Pl

namespace Go.Pl
open Go Go.Sw
/-- bytes -/
def Bytes (l : List Int) : Prop := ∀ x ∈ l, 0 ≤ x ∧ x ≤ 255
def nat (l : List Int) : List Nat := l.map Int.toNat
theorem nat_byte {l : List Int} (h : Bytes l) : ∀ b ∈ nat l, b < 256 := by
  intro b hb
  obtain ⟨x, hx, rfl⟩ := List.mem_map.1 hb
  have := h x hx; omega

/-- as lp_list, with what holds on the way -/
theorem lp_inv {α A B β γ : Type} {step : α → Option (Step α (Ex β γ))} {l : List A} {k : β → Option γ} (st : Nat → B → α) (I : Nat → B → Prop) (acc0 : B) (g : Nat → A → B → B) (fin : B → β) (hf : l.length < FUEL) (h0 : I 0 acc0)
    (hs : ∀ pre x rest acc, l = pre ++ x :: rest → I pre.length acc → step (st pre.length acc) = some (.next (st (pre.length + 1) (g pre.length x acc))) ∧ I (pre.length + 1) (g pre.length x acc))
    (he : ∀ acc, I l.length acc → step (st l.length acc) = some (.done (.brk (fin acc)))) :
    lp step (st 0 acc0) k = k (fin ((l.zipIdx).foldl (fun acc x => g x.2 x.1 acc) acc0)) := by
  have key : ∀ (rest pre : List A) (acc : B) (f : Nat), l = pre ++ rest → I pre.length acc → rest.length < f → loop step f (st pre.length acc) = some (.brk (fin ((rest.zipIdx pre.length).foldl (fun acc x => g x.2 x.1 acc) acc))) := by
    intro rest
    induction rest with
    | nil =>
      intro pre acc f hl hI hf
      obtain ⟨f, rfl⟩ : ∃ f', f = f' + 1 := ⟨f - 1, by simp at hf; omega⟩
      have := he acc (by rw [hl, List.append_nil]; exact hI)
      rw [hl, List.append_nil] at this
      simp [loop, this]
    | cons x rest ih =>
      intro pre acc f hl hI hf
      obtain ⟨f, rfl⟩ : ∃ f', f = f' + 1 := ⟨f - 1, by simp at hf; omega⟩
      obtain ⟨h1, h2⟩ := hs pre x rest acc hl hI
      simp only [loop, h1]
      have := ih (pre ++ [x]) (g pre.length x acc) f (by rw [hl]; simp) (by simpa using h2) (by simp at hf; omega)
      simpa using this
  have h := key l [] acc0 FUEL rfl h0 hf
  unfold lp
  simp only [List.length_nil] at h
  rw [h]
theorem app_small {α : Type} (xs ys : List α) (h : xs.length + ys.length ≤ 4294967296) : Sw.app xs ys = some (xs ++ ys) := by unfold Sw.app; rw [if_pos h]
theorem foldl_zipIdx {A : Type} (w : A → List Int) : ∀ (l : List A) (i : Nat) (acc : List Int), (l.zipIdx i).foldl (fun acc x => acc ++ w x.1) acc = acc ++ l.flatMap w
  | [], _, acc => by simp
  | x :: l, i, acc => by simp [foldl_zipIdx w l]
end Go.Pl

namespace Go.Pl
open Go Go.Sw
/-- it lies somewhere so -/
def Wf {α : Type} (e : Enc α) (x : α) : Prop := ∃ S w cs, e.ok x S w cs
theorem Wf.int {k : IntKind} {n : Int} (h : Wf (Enc.int k) n) : inK k n := by obtain ⟨_, _, _, h⟩ := h; exact h.2
theorem okL_all {α : Type} {e : Enc α} {S w} : ∀ {xs : List α} {cs}, e.okL xs S w cs → ∀ x ∈ xs, Wf e x
  | [], _, _, x, hx => by simp at hx
  | y :: ys, _, ⟨c, d, _, h2, h3⟩, x, hx => by
    rcases List.mem_cons.1 hx with rfl | hx
    · exact ⟨_, _, _, h2⟩
    · exact okL_all h3 x hx
theorem Wf.arr {α : Type} {m : Nat} {e : Enc α} {xs : List α} (h : Wf (Enc.arr m e) xs) : xs.length = m ∧ ∀ x ∈ xs, Wf e x := by
  obtain ⟨_, _, _, h1, h2⟩ := h; exact ⟨h1, okL_all h2⟩
theorem Wf.sl {α : Type} {e : Enc α} {xs : List α} (h : Wf (Enc.sl e) xs) : xs.length ≤ 140737488355328 ∧ ∀ x ∈ xs, Wf e x := by
  obtain ⟨_, _, _, a, cap, _, h2, h3⟩ := h
  refine ⟨h2.2, ?_⟩
  rcases h3 with rfl | ⟨b, off, ds, _, _, _, _, h4⟩
  · intro x hx; simp at hx
  · exact okL_all h4
theorem Wf.pr {α β : Type} {a : Enc α} {b : Enc β} {x : α × β} (h : Wf (Enc.pr a b) x) : Wf a x.1 ∧ Wf b x.2 := by
  obtain ⟨_, _, _, c, d, _, h1, h2⟩ := h; exact ⟨⟨_, _, _, h1⟩, ⟨_, _, _, h2⟩⟩
theorem Wf.one1 {α : Type} {a : Enc α} {x : α} (h : Wf (Enc.one1 a) x) : Wf a x := h
theorem Wf.of_val {α : Type} {e : Enc α} {x : α} {S w v} (h : e.val x S w v) : Wf e x := by obtain ⟨cs, h, _⟩ := h; exact ⟨_, _, _, h⟩
end Go.Pl

namespace Go.Pl
open Go Go.Sw Go.Mo

def M64 : Nat := 18446744073709551616
theorem wrap_u64 (n : Nat) : IntKind.wrap .u64 (n : Int) = ((n % M64 : Nat) : Int) := by
  simp [IntKind.wrap, IntKind.signed, IntKind.bits, M64]
theorem xor64 {a b : Nat} (ha : a < M64) (hb : b < M64) : ar .xor .u64 (a : Int) (b : Int) = ((a ^^^ b : Nat) : Int) := by
  have h : a ^^^ b < 2 ^ 64 := Nat.xor_lt_two_pow (by simpa [M64] using ha) (by simpa [M64] using hb)
  show IntKind.wrap .u64 ((BitVec.ofInt 64 (a : Int) ^^^ BitVec.ofInt 64 (b : Int)).toNat : Int) = _
  simp only [ofInt_nat, BitVec.toNat_xor, BitVec.toNat_ofNat]
  rw [Nat.mod_eq_of_lt (by simpa [M64] using ha), Nat.mod_eq_of_lt (by simpa [M64] using hb), wrap_u64, Nat.mod_eq_of_lt (by simpa [M64] using h)]
theorem mulu {a b : Nat} : ar .mul .u64 (a : Int) (b : Int) = ((a * b % M64 : Nat) : Int) := by
  show IntKind.wrap .u64 ((a : Int) * (b : Int)) = _
  rw [show (a : Int) * (b : Int) = ((a * b : Nat) : Int) from by push_cast; rfl, wrap_u64]
theorem addu {a b : Nat} (h : a + b < M64) : ar .add .u64 (a : Int) (b : Int) = ((a + b : Nat) : Int) := by
  show IntKind.wrap .u64 ((a : Int) + (b : Int)) = _
  rw [show (a : Int) + (b : Int) = ((a + b : Nat) : Int) from by push_cast; rfl, wrap_u64, Nat.mod_eq_of_lt h]
theorem subu {a b : Nat} (h : b ≤ a) (ha : a < M64) : ar .sub .u64 (a : Int) (b : Int) = ((a - b : Nat) : Int) := by
  show IntKind.wrap .u64 ((a : Int) - (b : Int)) = _
  rw [show (a : Int) - (b : Int) = ((a - b : Nat) : Int) from by omega, wrap_u64, Nat.mod_eq_of_lt (by omega)]
theorem quou {a b : Nat} (ha : a < M64) : ar .quo .u64 (a : Int) (b : Int) = ((a / b : Nat) : Int) := by
  show IntKind.wrap .u64 (Int.tdiv (a : Int) (b : Int)) = _
  rw [tdiv_nat, wrap_u64, Nat.mod_eq_of_lt (Nat.lt_of_le_of_lt (Nat.div_le_self a b) ha)]
theorem remu {a b : Nat} : ar .rem .u64 (a : Int) (b : Int) = ((a % b : Nat) : Int) := by
  show Int.tmod (a : Int) (b : Int) = _
  rw [tmod_nat]

def prime : Nat := 1099511628211
def dg1 (h b : Nat) : Nat := (h ^^^ b) * prime % M64
theorem dg1_lt (h b : Nat) : dg1 h b < M64 := Nat.mod_lt _ (by decide)
def digN (l : List Int) : Nat := (nat l).foldl dg1 14695981039346656037
theorem foldl_dg (l : List Nat) (h : Nat) (hh : h < M64) : l.foldl dg1 h < M64 := by
  induction l generalizing h with
  | nil => exact hh
  | cons x l ih => exact ih _ (dg1_lt _ _)
theorem digN_lt (l : List Int) : digN l < M64 := foldl_dg _ _ (by decide)
theorem zip_foldl {A B : Type} (f : B → A → B) : ∀ (l : List A) (i : Nat) (b : B), (l.zipIdx i).foldl (fun acc x => f acc x.1) b = l.foldl f b
  | [], _, _ => rfl
  | x :: l, i, b => by simp only [List.zipIdx_cons, List.foldl_cons]; exact zip_foldl f l (i + 1) _
theorem digest_is (l : List Int) (h : Bytes l) (hl : l.length ≤ 1000000) : m_tree_Digest l = some (digN l : Int) := by
  unfold m_tree_Digest
  rw [show ((14695981039346656037 : Int), (0 : Int)) = (fun (i : Nat) (r : Nat) => ((r : Int), (i : Int))) 0 14695981039346656037 from rfl]
  rw [lp_inv (l := l) (fun (i : Nat) (r : Nat) => ((r : Int), (i : Int))) (fun _ r => r < M64) 14695981039346656037 (fun _ x r => dg1 r x.toNat) (fun r => (r : Int)) (by unfold FUEL; omega) (by decide)]
  · rw [zip_foldl (fun r (x : Int) => dg1 r x.toNat)]
    simp only [digN, nat, List.foldl_map]
  · rintro pre x rest r rfl hr
    have hx := h x (by simp)
    obtain ⟨b, rfl⟩ : ∃ b : Nat, x = (b : Int) := ⟨x.toNat, by omega⟩
    have hb : b < M64 := by unfold M64; omega
    refine ⟨?_, dg1_lt _ _⟩
    simp only [lss_app, cond_true, idx_app, Option.bind_some, xor64 hr hb]
    rw [show (1099511628211 : Int) = ((prime : Nat) : Int) from rfl, mulu, inc (n := pre.length) (m := 1000000) (by simp at hl; omega) (by omega)]
    rfl
  · intro acc _
    simp only [lss_self, cond_false]
theorem xor_low (r b : Nat) (hb : b < 256) : r ^^^ b = r - r % 256 + (r % 256 ^^^ b) := by
  have h1 : (r ^^^ b) / 256 = r / 256 := by
    have := Nat.xor_div_two_pow (a := r) (b := b) (n := 8)
    rw [show (2 : Nat) ^ 8 = 256 from rfl] at this
    rw [this, Nat.div_eq_of_lt hb, Nat.xor_zero]
  have h2 : (r ^^^ b) % 256 = r % 256 ^^^ b := by
    have := Nat.xor_mod_two_pow (a := r) (b := b) (n := 8)
    rw [show (2 : Nat) ^ 8 = 256 from rfl] at this
    rw [this, Nat.mod_eq_of_lt hb]
  omega
theorem digestOf_is (l : List Int) (h : Bytes l) (hl : l.length ≤ 1000000) : m_ref_DigestOf l = some (digN l : Int) := by
  unfold m_ref_DigestOf
  rw [show ((14695981039346656037 : Int), (0 : Int)) = (fun (i : Nat) (r : Nat) => ((r : Int), (i : Int))) 0 14695981039346656037 from rfl]
  rw [lp_inv (l := l) (fun (i : Nat) (r : Nat) => ((r : Int), (i : Int))) (fun _ r => r < M64) 14695981039346656037 (fun _ x r => dg1 r x.toNat) (fun r => (r : Int)) (by unfold FUEL; omega) (by decide)]
  · rw [zip_foldl (fun r (x : Int) => dg1 r x.toNat)]
    simp only [digN, nat, List.foldl_map]
  · rintro pre x rest r rfl hr
    have hx := h x (by simp)
    obtain ⟨b, rfl⟩ : ∃ b : Nat, x = (b : Int) := ⟨x.toNat, by omega⟩
    have hb : b < 256 := by omega
    refine ⟨?_, dg1_lt _ _⟩
    have hlow : r % 256 < 256 := Nat.mod_lt _ (by decide)
    simp only [lss_app, cond_true]
    have hX : r % 256 ^^^ b < 2 ^ 8 := Nat.xor_lt_two_pow (by omega) (by omega)
    rw [show ((0 : Int), (1 : Int)) = (fun i : Nat => ((((r % 256 ^^^ b) % 2 ^ i : Nat) : Int), ((2 ^ i : Nat) : Int))) 0 from by simp [Nat.mod_one]]
    rw [lp_count (fun i : Nat => ((((r % 256 ^^^ b) % 2 ^ i : Nat) : Int), ((2 ^ i : Nat) : Int))) 8 ((r % 256 ^^^ b : Nat) : Int) (by unfold FUEL; omega)]
    · rw [show (256 : Int) = ((256 : Nat) : Int) from rfl, remu, subu (Nat.mod_le _ _) hr, addu (by have := xor_low r b hb; have : r ^^^ b < 2 ^ 64 := Nat.xor_lt_two_pow (by simpa [M64] using hr) (by omega); unfold M64; omega), ← xor_low r b hb]
      rw [show (1099511628211 : Int) = ((prime : Nat) : Int) from rfl, mulu, inc (n := pre.length) (m := 1000000) (by simp at hl; omega) (by omega)]
      rfl
    · intro i hi
      have hpow : 2 ^ i < 256 := by
        have := Nat.pow_lt_pow_right (a := 2) (by decide) hi
        simpa using this
      have hpos : 0 < 2 ^ i := Nat.two_pow_pos i
      have hl2 : cm .lss ((2 ^ i : Nat) : Int) 256 = true := by
        have := cm_lss (a := 2 ^ i) (b := 256)
        rw [show ((256 : Nat) : Int) = 256 from rfl] at this
        rw [this]; simp only [hpow, decide_true]
      have hnz : nz ((2 ^ i : Nat) : Int) = some () := nz_ok (by omega)
      have hmod : (r % 256 ^^^ b) % 2 ^ i < 2 ^ i := Nat.mod_lt _ hpos
      simp only [hl2, cond_true, hnz, Option.bind_some, idx_app]
      have hM : M64 = 18446744073709551616 := rfl
      rw [show (256 : Int) = ((256 : Nat) : Int) from rfl, remu, quou (by omega), quou (by omega), show (2 : Int) = ((2 : Nat) : Int) from rfl, remu, remu, addu (by omega), mulu, Nat.mod_eq_of_lt (a := 2 ^ i * 2) (by omega)]
      have hs : (r % 256 ^^^ b) % 2 ^ (i + 1) = (r % 256 ^^^ b) % 2 ^ i + 2 ^ i * ((r % 256 ^^^ b) / 2 ^ i % 2) := Nat.mod_pow_succ
      rw [bit_xor, Nat.add_mod] at hs
      have hp2 : 2 ^ (i + 1) = 2 ^ i * 2 := Nat.pow_succ 2 i
      have ha := Nat.mod_two_eq_zero_or_one (r % 256 / 2 ^ i)
      have hb' := Nat.mod_two_eq_zero_or_one (b / 2 ^ i)
      have e00 : cm .neq ((0 : Nat) : Int) ((0 : Nat) : Int) = false := by decide
      have e01 : cm .neq ((0 : Nat) : Int) ((1 : Nat) : Int) = true := by decide
      have e10 : cm .neq ((1 : Nat) : Int) ((0 : Nat) : Int) = true := by decide
      have e11 : cm .neq ((1 : Nat) : Int) ((1 : Nat) : Int) = false := by decide
      generalize (r % 256 ^^^ b) % 2 ^ i = X at *
      generalize (r % 256 ^^^ b) % 2 ^ (i + 1) = Y at *
      rcases ha with ha | ha <;> rcases hb' with hb' | hb' <;> rw [ha, hb'] at hs ⊢
      · rw [e00]; simp only [cond_false]
        obtain rfl : Y = X := by simpa using hs
        rw [hp2]
      · rw [e01]; simp only [cond_true]
        obtain rfl : Y = X + 2 ^ i := by simpa using hs
        rw [hp2]
      · rw [e10]; simp only [cond_true]
        obtain rfl : Y = X + 2 ^ i := by simpa using hs
        rw [hp2]
      · rw [e11]; simp only [cond_false]
        obtain rfl : Y = X := by simpa using hs
        rw [hp2]
    · have : cm .lss ((2 ^ 8 : Nat) : Int) 256 = false := by decide
      simp only [this, cond_false]
      rw [Nat.mod_eq_of_lt hX]
  · intro acc _
    simp only [lss_self, cond_false]

/-! ### levels -/
/-- bytes of a digest -/
def by8 (h : Int) : List Int := (List.range 8).map fun j => ((h.toNat / 2 ^ (56 - 8 * j) % 256 : Nat) : Int)
theorem by8_bytes (h : Int) : Bytes (by8 h) := by
  intro x hx
  simp only [by8, List.mem_map] at hx
  obtain ⟨j, _, rfl⟩ := hx
  have := Nat.mod_lt (h.toNat / 2 ^ (56 - 8 * j)) (show 0 < 256 by decide)
  omega
theorem by8_len (h : Int) : (by8 h).length = 8 := by simp [by8]
def nodeB (l : List Int) : List Int := 1 :: l.flatMap by8
theorem flat_bytes {A : Type} (f : A → List Int) (l : List A) (h : ∀ x ∈ l, Bytes (f x)) : Bytes (l.flatMap f) := by
  intro y hy
  obtain ⟨x, hx, hy⟩ := List.mem_flatMap.1 hy
  exact h x hx y hy
theorem nodeB_bytes (l : List Int) : Bytes (nodeB l) := by
  intro y hy
  rcases List.mem_cons.1 hy with rfl | hy
  · decide
  · exact flat_bytes by8 l (fun x _ => by8_bytes x) y hy
theorem flat_len {A : Type} (f : A → List Int) (m : Nat) (l : List A) (h : ∀ x ∈ l, (f x).length = m) : (l.flatMap f).length = l.length * m := by
  induction l with
  | nil => simp
  | cons x l ih =>
    rw [List.flatMap_cons, List.length_append, h x (by simp), ih (fun y hy => h y (by simp [hy])), List.length_cons, Nat.add_mul, Nat.one_mul, Nat.add_comm]
theorem nodeB_len (l : List Int) : (nodeB l).length = 1 + l.length * 8 := by
  rw [nodeB, List.length_cons, flat_len by8 8 l (fun x _ => by8_len x)]; omega
def node (l : List Int) : Int := (digN (nodeB l) : Int)
/-- numbers of 64 bits -/
def U64 (l : List Int) : Prop := ∀ x ∈ l, 0 ≤ x ∧ x < 18446744073709551616
theorem node_u (l : List Int) : 0 ≤ node l ∧ node l < 18446744073709551616 := by
  have := digN_lt (nodeB l)
  unfold node
  unfold M64 at this
  omega
theorem shru (n k : Nat) (hk : k ≤ 64) : sh .shr .u64 (n : Int) (k : Int) = ((n / 2 ^ k : Nat) : Int) := by
  show Int.fdiv _ _ = _
  have : min (k : Int).toNat (IntKind.bits .u64) = k := by simp [IntKind.bits]; omega
  rw [this]
  rw [Int.fdiv_eq_ediv_of_nonneg _ (by exact Int.le_of_lt (Int.pow_pos (by decide)))]
  norm_cast
theorem node_is (l : List Int) (hu : U64 l) (hl : l.length ≤ 1000) : m_tree_node l = some (node l) := by
  unfold m_tree_node
  rw [show ((0 : Int), ([(1 : Int)] : List Int)) = (fun (i : Nat) (r : List Int) => ((i : Int), r)) 0 [1] from rfl]
  rw [lp_inv (l := l) (fun (i : Nat) (r : List Int) => ((i : Int), r)) (fun i r => r.length ≤ 1 + 8 * i) [1] (fun _ x r => r ++ by8 x) (fun r => r) (by unfold FUEL; omega) (by simp)]
  · rw [foldl_zipIdx by8 l 0 [1]]
    have : [1] ++ l.flatMap by8 = nodeB l := rfl
    rw [this, digest_is _ (nodeB_bytes l) (by rw [nodeB_len]; omega)]
    rfl
  · rintro pre x rest r rfl hr
    have hx := hu x (by simp)
    obtain ⟨b, rfl⟩ : ∃ b : Nat, x = (b : Int) := ⟨x.toNat, by omega⟩
    have hpl : pre.length ≤ 1000 := by simp at hl; omega
    refine ⟨?_, by simp [by8_len]; omega⟩
    simp only [lss_app, cond_true, idx_app, Option.bind_some]
    rw [show ((56 : Int), r) = (fun i : Nat => ((56 : Int) - 8 * i, r ++ (by8 b).take i)) 0 from by simp]
    rw [lp_count (fun i : Nat => ((56 : Int) - 8 * i, r ++ (by8 b).take i)) 8 (r ++ by8 b) (by unfold FUEL; omega)]
    · rw [inc (n := pre.length) (m := 1000000) (by omega) (by omega)]
    · intro i hi
      have e1 : ((56 : Int) - 8 * (i : Int)) = ((56 - 8 * i : Nat) : Int) := by omega
      have e2 : cm .geq ((56 : Int) - 8 * (i : Int)) 0 = true := by unfold cm; simp; omega
      have e3 : nn ((56 : Int) - 8 * (i : Int)) = some () := by unfold nn; rw [if_pos (by omega)]
      have e4 : ar .sub .i64 ((56 : Int) - 8 * (i : Int)) 8 = (56 : Int) - 8 * ((i + 1 : Nat) : Int) := by
        show IntKind.wrap .i64 _ = _
        rw [wrap_i64 (by omega)]; push_cast; omega
      have e5 : IntKind.wrap .u8 (sh .shr .u64 (b : Int) ((56 : Int) - 8 * (i : Int))) = ((b / 2 ^ (56 - 8 * i) % 256 : Nat) : Int) := by
        rw [e1, shru _ _ (by omega)]
        simp [IntKind.wrap, IntKind.signed, IntKind.bits]
      have e6 : (by8 b).take (i + 1) = (by8 b).take i ++ [((b / 2 ^ (56 - 8 * i) % 256 : Nat) : Int)] := by
        rw [List.take_add_one]
        congr 1
        simp only [by8]
        rw [List.getElem?_map, List.getElem?_range hi]
        simp
      simp only [e2, cond_true, e3, Option.bind_some, e5]
      rw [app_small _ _ (by simp [by8_len]; omega), Option.bind_some, e4, e6, List.append_assoc]
    · have : cm .geq ((56 : Int) - 8 * ((8 : Nat) : Int)) 0 = false := by decide
      simp only [this, cond_false]
      rw [List.take_of_length_le (by rw [by8_len]; omega)]
  · intro acc _
    simp only [lss_self, cond_false]
/-- the level above -/
def lev (l : List Int) : List Int := (Sw.chunks 4 l).map node
theorem chunks_mem {α : Type} {n : Nat} {xs c : List α} (h : c ∈ Sw.chunks n xs) : ∃ k, c = (xs.drop (k * n)).take n := by
  simp only [Sw.chunks, List.mem_map] at h
  obtain ⟨k, _, rfl⟩ := h
  exact ⟨k, rfl⟩
theorem U64.sub {l c : List Int} (h : U64 l) (hs : ∀ x ∈ c, x ∈ l) : U64 c := fun x hx => h x (hs x hx)
theorem chunk_u {l c : List Int} (h : U64 l) (hc : c ∈ Sw.chunks 4 l) : U64 c ∧ c.length ≤ 4 := by
  obtain ⟨k, rfl⟩ := chunks_mem hc
  exact ⟨h.sub fun x hx => List.mem_of_mem_drop (List.mem_of_mem_take hx), by simp; omega⟩
theorem rng_map {ι α : Type} {f : ι → Option α} {g : ι → α} : ∀ (its : List ι) (acc : List α), (∀ i ∈ its, f i = some (g i)) → acc.length + its.length ≤ 1000000 →
    rng (δ := Empty) (fun i acc => (f i).bind fun v => (Sw.app acc [v]).bind fun a => some (.next a)) its acc = some (.brk (acc ++ its.map g))
  | [], acc, _, _ => by simp [rng]
  | i :: is, acc, h, hl => by
    simp only [rng, h i (by simp), Option.bind_some]
    rw [app_small _ _ (by simp at hl ⊢; omega)]
    simp only [Option.bind_some]
    rw [rng_map is _ (fun j hj => h j (by simp [hj])) (by simp at hl ⊢; omega)]
    simp
theorem chunks_length {α : Type} (n : Nat) (xs : List α) : (Sw.chunks n xs).length = (xs.length + n - 1) / n := by simp [Sw.chunks]
theorem above_is (l : List Int) (hu : U64 l) (hl : l.length ≤ 1000) : m_tree_above l = some (lev l) := by
  unfold m_tree_above m_slices_Chunk_uint64_uint64
  have h1 : cm .lss (4 : Int) 1 = false := by decide
  have h2 : small l = some () := by unfold small; rw [if_pos (by omega)]
  have h3 : chkn 4 = some () := by decide
  simp only [jp, h1, cond_false, Option.bind_some, h2, h3, rg]
  rw [show Int.toNat 4 = 4 from rfl]
  rw [rng_map (f := m_tree_node) (g := node) _ _ (fun c hc => node_is c (chunk_u hu hc).1 (by have := (chunk_u hu hc).2; omega)) (by rw [chunks_length]; simp; omega)]
  simp [lev]

theorem chunk_at {α : Type} {n : Nat} (hn : 1 ≤ n) {l : List α} {pre rest : List (List α)} {c : List α} (h : Sw.chunks n l = pre ++ c :: rest) : pre.length * n < l.length ∧ c = (l.drop (pre.length * n)).take n := by
  have h1 : pre.length < (Sw.chunks n l).length := by rw [h]; simp
  have h2 := (Sw.chunks_len hn l).1 h1
  refine ⟨h2, ?_⟩
  have h3 := Sw.chunks_get hn h2
  rw [h] at h3
  simp at h3
  exact h3
theorem add_i64 {a b : Nat} (h : a + b ≤ 4611686018427387904) : ar .add .i64 (a : Int) (b : Int) = ((a + b : Nat) : Int) := add64 (by omega)
theorem cmNat {a b : Nat} : cm .lss (a : Int) (b : Int) = decide (a < b) := cm_lss
theorem idx_drop {α : Type} {l : List α} {i : Nat} {pre : List α} {x : α} {rest : List α} (h : l.drop i = pre ++ x :: rest) : Sw.idx l ((i + pre.length : Nat) : Int) = some x := by
  unfold Sw.idx
  rw [if_pos (by omega), Int.toNat_natCast]
  have : (l.drop i)[pre.length]? = some x := by rw [h]; simp
  rwa [List.getElem?_drop] at this
theorem by8d (b : Nat) (j : Nat) (hj : j < 8) : (by8 b).take (j + 1) = (by8 b).take j ++ [((b / 2 ^ (56 - 8 * j) % 256 : Nat) : Int)] := by
  rw [List.take_add_one]
  congr 1
  simp only [by8]
  rw [List.getElem?_map, List.getElem?_range hj]
  simp
theorem refAbove_is (l : List Int) (hu : U64 l) (hl : l.length ≤ 1000) : m_ref_above l = some (lev l) := by
  unfold m_ref_above
  have hcl : (Sw.chunks 4 l).length ≤ 1000 := by rw [chunks_length]; omega
  rw [show ((0 : Int), ([] : List Int)) = (fun (i : Nat) (r : List Int) => (((i * 4 : Nat) : Int), r)) 0 [] from rfl]
  rw [lp_inv (l := Sw.chunks 4 l) (fun (i : Nat) (r : List Int) => (((i * 4 : Nat) : Int), r)) (fun i r => r.length = i) [] (fun _ c r => r ++ [node c]) (fun r => r) (by unfold FUEL; omega) rfl]
  · have : ∀ (cs : List (List Int)) (i : Nat) (acc : List Int), (cs.zipIdx i).foldl (fun acc x => acc ++ [node x.1]) acc = acc ++ cs.map node := by
      intro cs
      induction cs with
      | nil => intro i acc; simp
      | cons c cs ih => intro i acc; simp only [List.zipIdx_cons, List.foldl_cons, ih]; simp
    rw [this]; simp [lev]
  · intro pre c rest r hch hr
    obtain ⟨hlt, hc⟩ := chunk_at (by decide) hch
    have hpl : pre.length ≤ 1000 := by rw [hch] at hcl; simp at hcl; omega
    have hcu : U64 c ∧ c.length ≤ 4 := chunk_u hu (by rw [hch]; simp)
    refine ⟨?_, by simp [hr]⟩
    have hlen : l.length ≤ 1000 := hl
    simp only [cmNat, hlt, decide_true, cond_true]
    rw [show ((((pre.length * 4 : Nat) : Int)), ([(1 : Int)] : List Int)) = (fun (j : Nat) (r : List Int) => (((pre.length * 4 + j : Nat) : Int), r)) 0 [1] from rfl]
    rw [show (4 : Int) = ((4 : Nat) : Int) from rfl, add_i64 (by omega)]
    have hcdef : c.length = min 4 (l.length - pre.length * 4) := by rw [hc]; simp
    rw [lp_inv (l := c) (fun (j : Nat) (r : List Int) => (((pre.length * 4 + j : Nat) : Int), r)) (fun j r => r.length ≤ 1 + 8 * j) [1] (fun _ x r => r ++ by8 x) (fun r => r) (by unfold FUEL; omega) (by simp)]
    · rw [foldl_zipIdx by8 c 0 [1]]
      have e : [1] ++ c.flatMap by8 = nodeB c := rfl
      rw [e, digestOf_is _ (nodeB_bytes c) (by rw [nodeB_len]; omega), Option.bind_some, app_small _ _ (by simp [hr]; omega), Option.bind_some]
      rw [show (pre.length + 1) * 4 = pre.length * 4 + 4 from by omega]
      rfl
    · intro p2 x r2 acc hp2 hacc
      have hx := hcu.1 x (by rw [hp2]; simp)
      obtain ⟨b, rfl⟩ : ∃ b : Nat, x = (b : Int) := ⟨x.toNat, by omega⟩
      have hpl2 : p2.length < c.length := by rw [hp2]; simp
      refine ⟨?_, by simp [by8_len]; omega⟩
      have hidx : Sw.idx l ((pre.length * 4 + p2.length : Nat) : Int) = some (b : Int) := by
        have h4 : l.drop (pre.length * 4) = p2 ++ (b : Int) :: (r2 ++ (l.drop (pre.length * 4)).drop 4) := by
          have := List.take_append_drop 4 (l.drop (pre.length * 4))
          rw [← hc, hp2] at this
          exact this.symm.trans (by simp)
        exact idx_drop h4
      have c1 : decide (pre.length * 4 + p2.length < pre.length * 4 + 4) = true := by simp; omega
      have c2 : decide (pre.length * 4 + p2.length < l.length) = true := by simp; omega
      simp only [cmNat, c1, c2, cond_true, Option.bind_some]
      rw [show ((72057594037927936 : Int), acc) = (fun i : Nat => (((2 ^ 56 / 256 ^ i : Nat) : Int), acc ++ (by8 b).take i)) 0 from by simp only [Nat.pow_zero, Nat.div_one, List.take_zero, List.append_nil]; rfl]
      rw [lp_count (fun i : Nat => (((2 ^ 56 / 256 ^ i : Nat) : Int), acc ++ (by8 b).take i)) 8 (acc ++ by8 b) (by unfold FUEL; omega)]
      · rw [show (1 : Int) = ((1 : Nat) : Int) from rfl, add_i64 (by omega)]; rfl
      · intro i hi
        have hbM : b < M64 := by unfold M64; omega
        have hpow : 2 ^ 56 / 256 ^ i = 2 ^ (56 - 8 * i) := by
          rw [show (256 : Nat) = 2 ^ 8 from rfl, ← Nat.pow_mul, Nat.pow_div (by omega) (by decide)]
        have hpos : 0 < 2 ^ (56 - 8 * i) := Nat.two_pow_pos _
        have hle : 2 ^ (56 - 8 * i) ≤ 2 ^ 56 := Nat.pow_le_pow_right (by decide) (by omega)
        have e2 : cm .gtr ((2 ^ 56 / 256 ^ i : Nat) : Int) 0 = true := by rw [hpow]; unfold cm; simp only [decide_eq_true_eq]; exact_mod_cast hpos
        have e3 : nz ((2 ^ 56 / 256 ^ i : Nat) : Int) = some () := nz_ok (by rw [hpow]; omega)
        have e5 : IntKind.wrap .u8 (ar .rem .u64 (ar .quo .u64 (b : Int) ((2 ^ 56 / 256 ^ i : Nat) : Int)) 256) = ((b / 2 ^ (56 - 8 * i) % 256 : Nat) : Int) := by
          rw [quou hbM, show (256 : Int) = ((256 : Nat) : Int) from rfl, remu, hpow]
          simp [IntKind.wrap, IntKind.signed, IntKind.bits]
        have e4 : ar .quo .u64 ((2 ^ 56 / 256 ^ i : Nat) : Int) 256 = ((2 ^ 56 / 256 ^ (i + 1) : Nat) : Int) := by
          rw [show (256 : Int) = ((256 : Nat) : Int) from rfl, quou (by rw [hpow]; unfold M64; omega), Nat.div_div_eq_div_mul, show (256 : Nat) ^ (i + 1) = 256 ^ i * 256 from rfl]
        simp only [e2, cond_true, hidx, e3, Option.bind_some, e5]
        rw [app_small _ _ (by rw [List.length_append, List.length_take, by8_len, List.length_singleton]; omega), Option.bind_some, e4, by8d b i hi, List.append_assoc]
      · have : cm .gtr ((2 ^ 56 / 256 ^ 8 : Nat) : Int) 0 = false := by decide
        simp only [this, cond_false]
        rw [List.take_of_length_le (by rw [by8_len]; omega)]
    · intro acc _
      have : (decide (pre.length * 4 + c.length < pre.length * 4 + 4) = false) ∨ (decide (pre.length * 4 + c.length < l.length) = false) := by
        rcases Nat.lt_or_ge c.length 4 with h | h
        · right; simp; omega
        · left; simp; omega
      simp only [cmNat]
      rcases this with h | h
      · simp only [h, cond_false, Option.bind_some]
      · cases hd : decide (pre.length * 4 + c.length < pre.length * 4 + 4) <;> simp only [h, cond_false, cond_true, Option.bind_some]
  · intro acc _
    have : ¬ (Sw.chunks 4 l).length * 4 < l.length := by
      rw [chunks_length]; omega
    simp only [cmNat, this, decide_false, cond_false]

theorem lev_len (l : List Int) : (lev l).length = (l.length + 3) / 4 := by simp [lev, chunks_length]
theorem lev_u (l : List Int) : U64 (lev l) := by
  intro x hx
  simp only [lev, List.mem_map] at hx
  obtain ⟨c, _, rfl⟩ := hx
  exact node_u c
/-- the levels over one -/
def ups : Nat → List Int → List (List Int)
  | 0, _ => []
  | f + 1, l => if l.length ≤ 1 then [] else lev l :: ups f (lev l)
theorem cm_gtr {a b : Nat} : cm .gtr (a : Int) (b : Int) = decide (b < a) := by unfold cm; simp
theorem up_loop {ab : List Int → Option (List Int)} (hab : ∀ l, U64 l → l.length ≤ 1000 → ab l = some (lev l)) :
    ∀ (n f : Nat) (l : List Int) (acc : List (List Int)), U64 l → l.length ≤ n → n ≤ 1000 → n < f → acc.length + n ≤ 2000 →
      loop (fun (s : List Int × List (List Int)) => bif (cm .gtr (s.1.length : Int) (1 : Int)) then (ab s.1).bind fun v => (Sw.app s.2 [v]).bind fun a => some (.next (v, a)) else (some (.done (.brk s.2)) : Option (Step (List Int × List (List Int)) (Ex (List (List Int)) (List (List Int) × Option Int))))) f (l, acc) = some (.brk (acc ++ ups n l)) ∧
      loop (fun (s : List Int × List (List Int)) => bif (cm .gtr (s.1.length : Int) (1 : Int)) then (ab s.1).bind fun v => (Sw.app s.2 [v]).bind fun a => some (.next (v, a)) else (some (.done (.brk s.2)) : Option (Step (List Int × List (List Int)) (Ex (List (List Int)) (List (List Int)))))) f (l, acc) = some (.brk (acc ++ ups n l)) := by
  intro n
  induction n with
  | zero =>
    intro f l acc _ hl _ hf _
    obtain ⟨f, rfl⟩ : ∃ f', f = f' + 1 := ⟨f - 1, by omega⟩
    have : cm .gtr (l.length : Int) 1 = false := by rw [show (1 : Int) = ((1 : Nat) : Int) from rfl, cm_gtr]; simp; omega
    simp [loop, this, ups]
  | succ n ih =>
    intro f l acc hu hl hn hf ha
    obtain ⟨f, rfl⟩ : ∃ f', f = f' + 1 := ⟨f - 1, by omega⟩
    by_cases h1 : l.length ≤ 1
    · have : cm .gtr (l.length : Int) 1 = false := by rw [show (1 : Int) = ((1 : Nat) : Int) from rfl, cm_gtr]; simp; omega
      simp [loop, this, ups, h1]
    · have : cm .gtr (l.length : Int) 1 = true := by rw [show (1 : Int) = ((1 : Nat) : Int) from rfl, cm_gtr]; simp; omega
      have h2 := lev_len l
      obtain ⟨k1, k2⟩ := ih f (lev l) (acc ++ [lev l]) (lev_u l) (by omega) (by omega) (by omega) (by simp; omega)
      simp only [loop, this, cond_true, hab l hu (by omega), Option.bind_some, app_small acc [lev l] (by simp; omega), ups, if_neg h1]
      rw [k1, k2]
      simp
def leaf (b : Blk) : Int := (digN (0 :: b) : Int)
def leaves (bs : List Blk) : List Int := bs.map leaf
theorem leaves_u (bs : List Blk) : U64 (leaves bs) := by
  intro x hx
  simp only [leaves, List.mem_map] at hx
  obtain ⟨b, _, rfl⟩ := hx
  have := digN_lt (0 :: b)
  unfold leaf
  unfold M64 at this
  omega
def tree (bs : List Blk) : List (List Int) := leaves bs :: ups bs.length (leaves bs)
/-- blocks of eight bytes -/
def Blks (bs : List Blk) : Prop := ∀ b ∈ bs, b.length = 8 ∧ Bytes b
theorem leaf_is {b : Blk} (h : b.length = 8 ∧ Bytes b) : m_tree_leaf b = some (leaf b) := by
  unfold m_tree_leaf
  rw [app_small _ _ (by simp; omega), Option.bind_some, digest_is _ (by intro x hx; simp at hx; rcases hx with rfl | hx; decide; exact h.2 x hx) (by simp; omega)]
  rfl
theorem foldl_map {A B : Type} (f : A → B) : ∀ (l : List A) (i : Nat) (acc : List B), (l.zipIdx i).foldl (fun acc x => acc ++ [f x.1]) acc = acc ++ l.map f
  | [], _, _ => by simp
  | x :: l, i, acc => by simp only [List.zipIdx_cons, List.foldl_cons]; rw [foldl_map f l]; simp
theorem of_is (bs : List Blk) (hb : Blks bs) (hl : bs.length ≤ 1000) : m_tree_Of bs = some (if bs.length < 1 ∨ bs.length > 32 then ([], some 1) else (tree bs, none)) := by
  unfold m_tree_Of
  rw [show (1 : Int) = ((1 : Nat) : Int) from rfl, show (32 : Int) = ((32 : Nat) : Int) from rfl, cmNat, cm_gtr]
  by_cases h1 : bs.length < 1
  · simp [h1]
  · by_cases h2 : bs.length > 32
    · have : (32 < bs.length) := h2
      simp [h1, this]
    · have h2' : ¬ 32 < bs.length := h2
      simp only [h1, h2', decide_false, cond_false, Option.bind_some]
      rw [show ((0 : Int), ([] : List Int)) = (fun (i : Nat) (r : List Int) => ((i : Int), r)) 0 [] from rfl]
      rw [lp_inv (l := bs) (fun (i : Nat) (r : List Int) => ((i : Int), r)) (fun i r => r.length = i) [] (fun _ x r => r ++ [leaf x]) (fun r => r) (by unfold FUEL; omega) rfl]
      · rw [foldl_map leaf bs 0 []]
        have hup := (up_loop (ab := m_tree_above) above_is bs.length FUEL (leaves bs) [leaves bs] (leaves_u bs) (by simp [leaves]) (by omega) (by unfold FUEL; omega) (by simp; omega)).1
        rw [show [] ++ bs.map leaf = leaves bs from rfl]
        have hc1 : ((1 : Nat) : Int) = 1 := rfl
        simp only [hc1]
        unfold lp
        rw [hup]
        simp [tree]
      · rintro pre x rest r rfl hr
        refine ⟨?_, by simp [hr]⟩
        simp only [lss_app, cond_true, idx_app, Option.bind_some]
        rw [leaf_is (hb x (by simp)), Option.bind_some, app_small _ _ (by simp at hl ⊢; omega), Option.bind_some, show ((1 : Nat) : Int) = 1 from rfl, inc (n := pre.length) (m := 1000000) (by simp at hl; omega) (by omega)]
      · intro acc _
        simp only [lss_self, cond_false]
theorem refLeaf {A : Type} (b : Blk) (h : b.length = 8) (k : List Int → Option A) :
    lp (β := List Int) (fun (s89 : Int × List Int) => bif (cm .lss s89.1 (8 : Int)) then (Sw.idx b s89.1).bind fun z98 => (Sw.app s89.2 [z98]).bind fun v99 => some (.next ((ar .add .i64 s89.1 (1 : Int)), v99)) else some (.done (.brk s89.2))) ((0 : Int), ([(0 : Int)] : List Int)) k = k (0 :: b) := by
  rw [show ((0 : Int), ([(0 : Int)] : List Int)) = (fun (i : Nat) (r : List Int) => ((i : Int), r)) 0 [0] from rfl]
  rw [lp_inv (l := b) (fun (i : Nat) (r : List Int) => ((i : Int), r)) (fun i r => r.length = i + 1) [0] (fun _ x r => r ++ [x]) (fun r => r) (by unfold FUEL; omega) rfl]
  · rw [foldl_map (fun x => x) b 0 [0]]; simp
  · rintro pre x rest r rfl hr
    refine ⟨?_, by simp [hr]⟩
    have : cm .lss (pre.length : Int) 8 = true := by
      rw [show (8 : Int) = ((8 : Nat) : Int) from rfl, cmNat]; simp at h ⊢; omega
    simp only [this, cond_true, idx_app, Option.bind_some]
    rw [app_small _ _ (by simp at h ⊢; omega), Option.bind_some, inc (n := pre.length) (m := 1000000) (by simp at h; omega) (by omega)]
  · intro acc _
    have : cm .lss (b.length : Int) 8 = false := by
      rw [show (8 : Int) = ((8 : Nat) : Int) from rfl, cmNat, h]; decide
    simp only [this, cond_false]
theorem treeOf_is (bs : List Blk) (hb : Blks bs) (hl : bs.length ≤ 1000) : m_ref_TreeOf bs = some (tree bs) := by
  unfold m_ref_TreeOf
  rw [show ((0 : Int), ([] : List Int)) = (fun (i : Nat) (r : List Int) => ((i : Int), r)) 0 [] from rfl]
  rw [lp_inv (l := bs) (fun (i : Nat) (r : List Int) => ((i : Int), r)) (fun i r => r.length = i) [] (fun _ x r => r ++ [leaf x]) (fun r => r) (by unfold FUEL; omega) rfl]
  · rw [foldl_map leaf bs 0 []]
    have hup := (up_loop (ab := m_ref_above) refAbove_is bs.length FUEL (leaves bs) [leaves bs] (leaves_u bs) (by simp [leaves]) (by omega) (by unfold FUEL; omega) (by simp; omega)).2
    rw [show [] ++ bs.map leaf = leaves bs from rfl]
    unfold lp
    rw [hup]
    simp [tree]
  · rintro pre x rest r rfl hr
    refine ⟨?_, by simp [hr]⟩
    have hx := hb x (by simp)
    simp only [lss_app, cond_true, idx_app, Option.bind_some]
    rw [refLeaf x hx.1, digestOf_is _ (by intro y hy; simp at hy; rcases hy with rfl | hy; decide; exact hx.2 y hy) (by simp; omega), Option.bind_some, app_small _ _ (by simp at hl ⊢; omega), Option.bind_some, inc (n := pre.length) (m := 1000000) (by simp at hl; omega) (by omega)]
    rfl
  · intro acc _
    simp only [lss_self, cond_false]

/-! ### trees that are the same, trees that may be -/
theorem sameLevel_self (l : List Int) (hl : l.length ≤ 1000000) : m_ref_SameLevel l l = some true := by
  unfold m_ref_SameLevel
  have : cm .neq (l.length : Int) (l.length : Int) = false := by unfold cm; simp
  simp only [this, cond_false]
  rw [show (0 : Int) = (fun (i : Nat) (_ : Unit) => (i : Int)) 0 () from rfl]
  rw [lp_inv (l := l) (fun (i : Nat) (_ : Unit) => (i : Int)) (fun _ _ => True) () (fun _ _ _ => ()) (fun _ => ()) (by unfold FUEL; omega) trivial]
  · rintro pre x rest r rfl hr
    refine ⟨?_, trivial⟩
    have : cm .neq x x = false := by unfold cm; simp
    simp only [lss_app, cond_true, idx_app, Option.bind_some, this, cond_false]
    rw [inc (n := pre.length) (m := 1000000) (by simp at hl; omega) (by omega)]
  · intro acc _
    simp only [lss_self, cond_false]
theorem equal_self (l : List Int) (hl : l.length ≤ 1000000) : m_slices_Equal_uint64_uint64 l l = some true := by
  unfold m_slices_Equal_uint64_uint64
  have : cm .neq (l.length : Int) (l.length : Int) = false := by unfold cm; simp
  simp only [this, cond_false]
  rw [show (0 : Int) = (fun (i : Nat) (_ : Unit) => (i : Int)) 0 () from rfl]
  rw [lp_inv (l := l) (fun (i : Nat) (_ : Unit) => (i : Int)) (fun _ _ => True) () (fun _ _ _ => ()) (fun _ => ()) (by unfold FUEL; omega) trivial]
  · rintro pre x rest r rfl hr
    refine ⟨?_, trivial⟩
    have : cm .neq x x = false := by unfold cm; simp
    simp only [lss_app, cond_true, idx_app, Option.bind_some, this, cond_false]
    rw [inc (n := pre.length) (m := 1000000) (by simp at hl; omega) (by omega)]
  · intro acc _
    simp only [lss_self, cond_false]
theorem sameTree_self (t : List (List Int)) (ht : t.length ≤ 1000000) (hl : ∀ l ∈ t, l.length ≤ 1000000) : m_ref_SameTree t t = some true := by
  unfold m_ref_SameTree
  have : cm .neq (t.length : Int) (t.length : Int) = false := by unfold cm; simp
  simp only [this, cond_false]
  rw [show (0 : Int) = (fun (i : Nat) (_ : Unit) => (i : Int)) 0 () from rfl]
  rw [lp_inv (l := t) (fun (i : Nat) (_ : Unit) => (i : Int)) (fun _ _ => True) () (fun _ _ _ => ()) (fun _ => ()) (by unfold FUEL; omega) trivial]
  · rintro pre x rest r rfl hr
    refine ⟨?_, trivial⟩
    simp only [lss_app, cond_true, idx_app, Option.bind_some, sameLevel_self x (hl x (by simp)), Bool.not_true, cond_false]
    rw [inc (n := pre.length) (m := 1000000) (by simp at ht; omega) (by omega)]
  · intro acc _
    simp only [lss_self, cond_false]
/-- level over level, up to one -/
def Goes : List (List Int) → Prop
  | [] => False
  | [l] => l.length = 1
  | l :: m :: t => 1 < l.length ∧ m = lev l ∧ Goes (m :: t)
theorem ups_goes : ∀ (n : Nat) (l : List Int), 1 ≤ l.length → l.length ≤ n → Goes (l :: ups n l)
  | 0, l, h1, h2 => by omega
  | n + 1, l, h1, h2 => by
    simp only [ups]
    by_cases h : l.length ≤ 1
    · simp [h, Goes]; omega
    · rw [if_neg h]
      have := lev_len l
      exact ⟨by omega, rfl, ups_goes n (lev l) (by omega) (by omega)⟩
theorem ups_len : ∀ (n : Nat) (l : List Int), (ups n l).length ≤ n
  | 0, l => by simp [ups]
  | n + 1, l => by
    simp only [ups]
    split
    · simp
    · have := ups_len n (lev l); simp; omega
theorem Goes.at : ∀ {t : List (List Int)}, Goes t → ∀ (pre rest : List (List Int)) (l : List Int), t = pre ++ l :: rest → (rest = [] ∧ l.length = 1) ∨ (∃ m r, rest = m :: r ∧ 1 < l.length ∧ m = lev l)
  | [], h, _, _, _, _ => h.elim
  | [l0], h, pre, rest, l, e => by
    cases pre with
    | nil => simp at e; obtain ⟨rfl, rfl⟩ := e; exact .inl ⟨rfl, h⟩
    | cons p pre => simp at e
  | l0 :: m0 :: t, h, pre, rest, l, e => by
    cases pre with
    | nil => simp at e; obtain ⟨rfl, rfl⟩ := e; exact .inr ⟨m0, t, rfl, h.1, h.2.1⟩
    | cons p pre => simp at e; exact Goes.at h.2.2 pre rest l e.2
theorem Goes.ne {t : List (List Int)} (h : Goes t) : t ≠ [] := by rintro rfl; exact h
theorem check_goes (t : List (List Int)) (hg : Goes t) (hu : ∀ l ∈ t, U64 l ∧ l.length ≤ 32) (h0 : ∀ l, t[0]? = some l → 1 ≤ l.length) (ht : t.length ≤ 1000) : m_tree_Check t = some none := by
  unfold m_tree_Check
  obtain ⟨l0, t', rfl⟩ : ∃ l t', t = l :: t' := by cases t with | nil => exact hg.elim | cons l t' => exact ⟨l, t', rfl⟩
  have e1 : cm .eql (((l0 :: t').length : Nat) : Int) 0 = false := by
    show (((l0 :: t').length : Int) == 0) = false
    rw [beq_eq_false_iff_ne]; simp only [List.length_cons]; omega
  have e2 : Sw.idx (l0 :: t') (0 : Int) = some l0 := by simp [Sw.idx]
  have hl0 := h0 l0 rfl
  have hl32 := (hu l0 (by simp)).2
  have e3 : cm .lss (l0.length : Int) 1 = false := by rw [show (1 : Int) = ((1 : Nat) : Int) from rfl, cmNat]; simp only [decide_eq_false_iff_not]; omega
  have e4 : cm .gtr (l0.length : Int) 32 = false := by rw [show (32 : Int) = ((32 : Nat) : Int) from rfl, cm_gtr]; simp; omega
  simp only [e1, cond_false, e2, Option.bind_some, e3, e4]
  rw [show (0 : Int) = (fun (i : Nat) (_ : Unit) => (i : Int)) 0 () from rfl]
  rw [lp_inv (l := l0 :: t') (fun (i : Nat) (_ : Unit) => (i : Int)) (fun _ _ => True) () (fun _ _ _ => ()) (fun _ => ()) (by unfold FUEL; omega) trivial]
  · intro pre x rest r hx hr
    refine ⟨?_, trivial⟩
    have hlen : (l0 :: t').length = pre.length + rest.length + 1 := by rw [hx]; simp; omega
    have hlt : cm .lss (pre.length : Int) ((l0 :: t').length : Int) = true := by rw [cmNat]; simp only [decide_eq_true_eq]; omega
    have hxi : Sw.idx (l0 :: t') (pre.length : Int) = some x := by rw [hx]; exact idx_app pre x rest
    have hxm : x ∈ l0 :: t' := by rw [hx]; simp
    have hsub : ar .sub .i64 ((l0 :: t').length : Int) 1 = ((pre.length + rest.length : Nat) : Int) := by
      show IntKind.wrap .i64 _ = _
      rw [wrap_i64 (by omega)]; omega
    have hinc : ar .add .i64 (pre.length : Int) 1 = ((pre.length + 1 : Nat) : Int) := inc (m := 1000000) (by omega) (by omega)
    simp only [hlt, cond_true, hxi, Option.bind_some, hsub, hinc]
    rcases hg.at pre rest x hx with ⟨hr, h1⟩ | ⟨m, r', hr, h1, hm⟩
    · have a1 : cm .eql (pre.length : Int) ((pre.length + rest.length : Nat) : Int) = true := by unfold cm; simp [hr]
      have a2 : cm .eql (x.length : Int) 1 = true := by unfold cm; simp [h1]
      simp only [a1, a2, BEq.rfl, Bool.not_true, cond_false, Option.bind_some]
    · have a1 : cm .eql (pre.length : Int) ((pre.length + rest.length : Nat) : Int) = false := by unfold cm; simp [hr]; omega
      have a2 : cm .eql (x.length : Int) 1 = false := by unfold cm; simp; omega
      have hmi : Sw.idx (l0 :: t') ((pre.length + 1 : Nat) : Int) = some m := by
        have := idx_app (pre ++ [x]) m r'
        rw [hx, hr]
        simpa using this
      have hul := hu x hxm
      simp only [a1, a2, BEq.rfl, Bool.not_true, cond_false, Bool.not_false, cond_true, above_is x hul.1 (by omega), Option.bind_some, hmi, hm]
      rw [equal_self _ (by rw [lev_len]; omega)]
      rfl
  · intro acc _
    have : cm .lss ((l0 :: t').length : Int) ((l0 :: t').length : Int) = false := lss_self
    simp only [this, cond_false]
theorem ups_u : ∀ (n : Nat) (l : List Int) (m : Nat), l.length ≤ m → ∀ x ∈ ups n l, U64 x ∧ x.length ≤ m
  | 0, l, m, h, x, hx => by simp [ups] at hx
  | n + 1, l, m, h, x, hx => by
    simp only [ups] at hx
    split at hx
    · simp at hx
    · have hl := lev_len l
      rcases List.mem_cons.1 hx with rfl | hx
      · exact ⟨lev_u l, by omega⟩
      · exact ups_u n (lev l) m (by omega) x hx

theorem tree_all (bs : List Blk) (h : bs.length ≤ 32) : ∀ l ∈ tree bs, U64 l ∧ l.length ≤ 32 := by
  intro l hl
  rcases List.mem_cons.1 hl with rfl | hl
  · exact ⟨leaves_u bs, by simp [leaves]; omega⟩
  · exact ups_u bs.length (leaves bs) 32 (by simp [leaves]; omega) l hl
theorem tree_len (bs : List Blk) : (tree bs).length ≤ bs.length + 1 := by
  have := ups_len bs.length (leaves bs)
  simp [tree]; omega
theorem tree_goes (bs : List Blk) (h : 1 ≤ bs.length) : Goes (tree bs) := ups_goes _ _ (by simp [leaves]; omega) (by simp [leaves])
end Go.Pl

namespace Go.Pl
open Go Go.Sw
theorem cl (m n : Int) : cm .lss m n = decide (m < n) := rfl
theorem cg (m n : Int) : cm .gtr m n = decide (m > n) := rfl
theorem cle (m n : Int) : cm .leq m n = decide (m ≤ n) := rfl
theorem cge (m n : Int) : cm .geq m n = decide (m ≥ n) := rfl
theorem ce (m n : Int) : cm .eql m n = decide (m = n) := by show (m == n) = _; by_cases h : m = n <;> simp [h]
theorem cn (m n : Int) : cm .neq m n = decide (m ≠ n) := by show (m != n) = _; by_cases h : m = n <;> simp [h]
theorem addI {m n : Int} (h : -9223372036854775808 ≤ m + n ∧ m + n ≤ 9223372036854775807) : ar .add .i64 m n = m + n := wrap_i64 h
theorem subI {m n : Int} (h : -9223372036854775808 ≤ m - n ∧ m - n ≤ 9223372036854775807) : ar .sub .i64 m n = m - n := wrap_i64 h
theorem nxt {n : Nat} (h : n ≤ 4611686018427387904) : ar .add .i64 (n : Int) 1 = ((n + 1 : Nat) : Int) := by rw [addI (by omega)]; push_cast; rfl
/-- a list gone through, each element looked at: one that is bad ends it -/
theorem lp_any {α A β γ : Type} {step : α → Option (Step α (Ex β γ))} {l : List A} {k : β → Option γ} (st : Nat → α) (bad : A → Bool) (z : γ) (y : β) (hf : l.length < FUEL)
    (hs : ∀ pre x rest, l = pre ++ x :: rest → step (st pre.length) = some (if bad x then .done (.ret z) else .next (st (pre.length + 1)))) (he : step (st l.length) = some (.done (.brk y))) :
    lp step (st 0) k = if l.any bad then some z else k y := by
  have key : ∀ (rest pre : List A) (f : Nat), l = pre ++ rest → rest.length < f → loop step f (st pre.length) = some (if rest.any bad then .ret z else .brk y) := by
    intro rest
    induction rest with
    | nil =>
      intro pre f hl hf
      obtain ⟨f, rfl⟩ : ∃ f', f = f' + 1 := ⟨f - 1, by simp at hf; omega⟩
      rw [List.append_nil] at hl
      rw [← hl]
      simp [loop, he]
    | cons x rest ih =>
      intro pre f hl hf
      obtain ⟨f, rfl⟩ : ∃ f', f = f' + 1 := ⟨f - 1, by simp at hf; omega⟩
      simp only [loop, hs pre x rest hl, List.any_cons]
      by_cases hb : bad x = true
      · simp [hb]
      · have := ih (pre ++ [x]) f (by rw [hl]; simp) (by simp at hf; omega)
        simp only [Bool.not_eq_true] at hb
        simp only [hb, Bool.false_eq_true, if_false, Bool.false_or]
        simpa using this
  have := key l [] FUEL rfl hf
  unfold lp
  simp only [List.length_nil] at this
  rw [this]
  by_cases hb : l.any bad = true
  · simp only [hb, if_true]
  · simp only [Bool.not_eq_true] at hb
    simp only [hb, Bool.false_eq_true, if_false]
theorem lenF {A : Type} {l : List A} {n : Nat} (h : l.length ≤ n) (hn : n ≤ 140737488355328) : l.length < FUEL := by unfold FUEL; omega
/-- the same, with the state told once more -/
theorem lss_len {A : Type} {l pre rest : List A} {x : A} (h : l = pre ++ x :: rest) : cm .lss (pre.length : Int) (l.length : Int) = true := by rw [h]; exact lss_app pre x rest
theorem idx_len {A : Type} {l pre rest : List A} {x : A} (h : l = pre ++ x :: rest) : Sw.idx l (pre.length : Int) = some x := by rw [h]; exact idx_app pre x rest
theorem idx_get {A : Type} {l : List A} {i : Nat} {x : A} (h : l[i]? = some x) : Sw.idx l (i : Int) = some x := by unfold Sw.idx; simp [h]
theorem idx_nat {A : Type} {l : List A} {n : Int} (h0 : 0 ≤ n) (h1 : n < l.length) : ∃ x, Sw.idx l n = some x ∧ l[n.toNat]? = some x := by
  have : n.toNat < l.length := by omega
  exact ⟨l[n.toNat], by unfold Sw.idx; simp [h0, this], by simp [this]⟩
/-- two lists that are the same, element by element -/
theorem same_loop {A : Type} [DecidableEq A] (l : List A) (hl : l.length ≤ 1000000) (k : Unit → Option Bool) :
    lp (β := Unit) (fun (s12 : Int) => bif (cm .lss s12 (l.length : Int)) then (Sw.idx l s12).bind fun z20 => (Sw.idx l s12).bind fun z21 => bif (!decide (z20 = z21)) then some (.done (.ret false)) else some (.next (ar .add .i64 s12 (1 : Int))) else some (.done (.brk ()))) (0 : Int) k = k () := by
  rw [show (0 : Int) = (fun (i : Nat) => (i : Int)) 0 from rfl]
  rw [lp_any (l := l) (fun (i : Nat) => (i : Int)) (fun _ => false) false () (lenF hl (by decide))]
  · simp
  · intro pre x rest h
    simp only [lss_len h, cond_true, idx_len h, Option.bind_some]
    rw [nxt (by rw [h] at hl; simp at hl; omega)]
    simp
  · simp only [lss_self, cond_false]
theorem wf_byte {n : Int} (h : Wf (Enc.int .u8) n) : 0 ≤ n ∧ n ≤ 255 := by
  have := h.int
  unfold inK at this
  simpa [IntKind.min, IntKind.max, IntKind.signed, IntKind.bits] using this
theorem wf_i64 {n : Int} (h : Wf (Enc.int .i64) n) : -9223372036854775808 ≤ n ∧ n ≤ 9223372036854775807 := by
  have := h.int
  unfold inK at this
  simpa [IntKind.min, IntKind.max, IntKind.signed, IntKind.bits] using this
theorem wf_bytes {l : List Int} (h : Wf (Enc.sl (Enc.int .u8)) l) : Bytes l := fun x hx => wf_byte (h.sl.2 x hx)

/-- the first bad one, by its number -/
theorem lp_find {α A β γ : Type} {step : α → Option (Step α (Ex β γ))} {l : List A} {k : β → Option γ} (st : Nat → α) (bad : A → Bool) (z : Nat → γ) (y : β) (hf : l.length < FUEL)
    (hs : ∀ pre x rest, l = pre ++ x :: rest → step (st pre.length) = some (if bad x then .done (.ret (z pre.length)) else .next (st (pre.length + 1)))) (he : step (st l.length) = some (.done (.brk y))) :
    lp step (st 0) k = match l.findIdx? bad with | some j => some (z j) | none => k y := by
  have key : ∀ (rest pre : List A) (f : Nat), l = pre ++ rest → rest.length < f → loop step f (st pre.length) = some (match rest.findIdx? bad with | some j => .ret (z (pre.length + j)) | none => .brk y) := by
    intro rest
    induction rest with
    | nil =>
      intro pre f hl hf
      obtain ⟨f, rfl⟩ : ∃ f', f = f' + 1 := ⟨f - 1, by simp at hf; omega⟩
      rw [List.append_nil] at hl
      rw [← hl]
      simp [loop, he]
    | cons x rest ih =>
      intro pre f hl hf
      obtain ⟨f, rfl⟩ : ∃ f', f = f' + 1 := ⟨f - 1, by simp at hf; omega⟩
      simp only [loop, hs pre x rest hl, List.findIdx?_cons]
      by_cases hb : bad x = true
      · simp [hb]
      · have := ih (pre ++ [x]) f (by rw [hl]; simp) (by simp at hf; omega)
        simp only [Bool.not_eq_true] at hb
        simp only [hb, Bool.false_eq_true, if_false]
        rw [List.length_append, List.length_singleton] at this
        rw [this]
        cases rest.findIdx? bad with
        | none => rfl
        | some j => simp only [Option.map_some]; congr 3; omega
  have := key l [] FUEL rfl hf
  unfold lp
  simp only [List.length_nil, Nat.zero_add] at this
  rw [this]
  cases l.findIdx? bad <;> rfl
theorem any_findIdx {A : Type} (l : List A) (bad : A → Bool) : l.any bad = (l.findIdx? bad).isSome := by
  simp
end Go.Pl

namespace Go.Pl
open Go Go.Sw Go.Mo
/-- lists that stand behind each element, with it -/
def sufs {A : Type} : List A → List (List A)
  | [] => []
  | x :: r => (x :: r) :: sufs r
theorem sufs_len {A : Type} : ∀ (t : List A), (sufs t).length = t.length
  | [] => rfl
  | x :: r => by simp [sufs, sufs_len r]
theorem sufs_at {A : Type} : ∀ {t : List A} {pre : List (List A)} {x : List A} {rest : List (List A)}, sufs t = pre ++ x :: rest → pre.length < t.length ∧ x = t.drop pre.length
  | [], pre, x, rest, h => by simp [sufs] at h
  | y :: r, [], x, rest, h => by
    simp only [sufs, List.nil_append, List.cons.injEq] at h
    exact ⟨by simp, h.1.symm⟩
  | y :: r, p :: pre, x, rest, h => by
    simp only [sufs, List.cons_append, List.cons.injEq] at h
    obtain ⟨h1, h2⟩ := sufs_at h.2
    exact ⟨by simpa using h1, by simpa using h2⟩
theorem huge_is (t : List (List Int)) (ht : t.length ≤ 140737488355328) : m_law_hugeTree t = some (t.any (fun l => decide (200 < l.length)) || decide (50 < t.length)) := by
  unfold m_law_hugeTree
  rw [show (0 : Int) = (fun (i : Nat) => (i : Int)) 0 from rfl]
  rw [lp_any (l := t) (fun (i : Nat) => (i : Int)) (fun l => decide (200 < l.length)) true () (lenF ht (by decide))]
  · by_cases h : t.any (fun l => decide (200 < l.length)) = true
    · simp [h]
    · rw [if_neg h]
      simp only [Bool.not_eq_true] at h
      rw [h, cg]; simp only [Bool.false_or]; congr 1; congr 1; exact propext (by omega)
  · intro pre x rest h
    simp only [lss_len h, cond_true, idx_len h, Option.bind_some, cg]
    by_cases hb : 200 < x.length
    · have e : (x.length : Int) > 200 := by omega
      simp only [e, hb, decide_true, cond_true, if_true]
    · have e : ¬ (x.length : Int) > 200 := by omega
      rw [nxt (by rw [h] at ht; simp at ht; omega)]
      simp only [e, hb, decide_false, cond_false]
      simp
  · simp only [lss_self, cond_false]
theorem same_lp (a b : List Int) (hl : a.length ≤ 1000000) (hab : a.length = b.length) (k : Unit → Option Bool) :
    lp (β := Unit) (fun (s12 : Int) => bif (cm .lss s12 (a.length : Int)) then (Sw.idx a s12).bind fun z20 => (Sw.idx b s12).bind fun z21 => bif (cm .neq z20 z21) then some (.done (.ret false)) else some (.next (ar .add .i64 s12 (1 : Int))) else some (.done (.brk ()))) (0 : Int) k = if a = b then k () else some false := by
  rw [show (0 : Int) = (fun (i : Nat) => (i : Int)) 0 from rfl]
  have hz : (a.zip b).length = a.length := by simp [hab]
  rw [lp_any (l := a.zip b) (fun (i : Nat) => (i : Int)) (fun x => decide (x.1 ≠ x.2)) false () (lenF (by rw [hz]; exact hl) (by decide))]
  · have : (a.zip b).any (fun x => decide (x.1 ≠ x.2)) = true ↔ a ≠ b := by
      clear hl hz
      induction a generalizing b with
      | nil => cases b with
        | nil => simp
        | cons y b => simp at hab
      | cons x a ih => cases b with
        | nil => simp at hab
        | cons y b =>
          have := ih b (by simpa using hab)
          simp only [List.zip_cons_cons, List.any_cons, Bool.or_eq_true, this, decide_eq_true_eq, ne_eq, List.cons.injEq, not_and]
          by_cases hxy : x = y <;> simp [hxy]
    by_cases hab' : a = b
    · rw [if_neg (fun h => this.1 h hab'), if_pos hab']
    · rw [if_pos (this.2 hab'), if_neg hab']
  · intro pre x rest h
    have h1 : pre.length < a.length := by rw [← hz, h]; simp
    have hx : (a.zip b)[pre.length]? = some x := by rw [h]; simp
    rw [List.getElem?_zip_eq_some] at hx
    rw [idx_get hx.1, idx_get hx.2, cl]
    simp only [Option.bind_some, cn]
    rw [nxt (by omega)]
    simp only [Int.ofNat_lt, h1, decide_true, cond_true]
    by_cases hb : x.1 = x.2 <;> simp [hb]
  · rw [hz]; simp only [lss_self, cond_false]
theorem sameLevel_is (a b : List Int) (hl : a.length ≤ 1000000) : m_ref_SameLevel a b = some (decide (a = b)) := by
  unfold m_ref_SameLevel
  rw [cn]
  by_cases h : a.length = b.length
  · rw [same_lp a b hl h]; by_cases hab : a = b <;> simp [hab, h]
  · have : a ≠ b := fun e => h (by rw [e])
    have e : (a.length : Int) ≠ b.length := by omega
    simp [this, e]
theorem equal_is (a b : List Int) (hl : a.length ≤ 1000000) : m_slices_Equal_uint64_uint64 a b = some (decide (a = b)) := by
  unfold m_slices_Equal_uint64_uint64
  rw [cn]
  by_cases h : a.length = b.length
  · rw [same_lp a b hl h]; by_cases hab : a = b <;> simp [hab, h]
  · have : a ≠ b := fun e => h (by rw [e])
    have e : (a.length : Int) ≠ b.length := by omega
    simp [this, e]
/-- level over level, up to one -/
def chk : List (List Int) → Bool
  | [] => true
  | [l] => l.length == 1
  | l :: m :: t => (l.length != 1 && lev l == m) && chk (m :: t)
def chkT (t : List (List Int)) : Bool := match t with | [] => false | l :: _ => decide (1 ≤ l.length) && decide (l.length ≤ 32) && chk t
/-- what is wrong at a level -/
def badL : List (List Int) → Bool
  | [] => false
  | [l] => l.length != 1
  | l :: m :: _ => l.length == 1 || lev l != m
theorem chk_bad : ∀ (t : List (List Int)), (sufs t).any badL = !chk t
  | [] => rfl
  | [l] => by simp only [sufs, List.any_cons, List.any_nil, badL, chk, bne, Bool.or_false]
  | l :: m :: t => by
    have := chk_bad (m :: t)
    rw [sufs, List.any_cons, this]
    simp only [badL, chk, bne]
    cases (l.length == 1) <;> cases (lev l == m) <;> cases chk (m :: t) <;> rfl
/-- numbers of 64 bits, not too many -/
def Lvls (t : List (List Int)) : Prop := (∀ l ∈ t, U64 l ∧ l.length ≤ 200) ∧ t.length ≤ 50
theorem Lvls.u {t : List (List Int)} (h : Lvls t) {i : Nat} {l : List Int} (hl : t[i]? = some l) : U64 l ∧ l.length ≤ 200 := h.1 l (List.mem_of_getElem? hl)
theorem ends_is {γ : Type} (t : List (List Int)) (k : Bool → Option γ) :
    ((bif (cm .eql (t.length : Int) (0 : Int)) then some true else (Sw.idx t (0 : Int)).bind fun z7 => bif (cm .lss (z7.length : Int) (1 : Int)) then some true else (Sw.idx t (0 : Int)).bind fun z9 => some (cm .gtr (z9.length : Int) (32 : Int))).bind k) =
      k (match t with | [] => true | l :: _ => !(decide (1 ≤ l.length) && decide (l.length ≤ 32))) := by
  cases t with
  | nil => simp [ce]
  | cons l r =>
    have h0 : Sw.idx (l :: r) (0 : Int) = some l := by unfold Sw.idx; simp
    rw [ce, h0]
    have h1 : ¬ (((l :: r).length : Int) = 0) := by simp; omega
    simp only [h1, decide_false, cond_false, Option.bind_some, cl, cg]
    by_cases h2 : l.length < 1
    · have : (l.length : Int) < 1 := by omega
      simp only [this, decide_true, cond_true, Option.bind_some]
      congr 1
      have : ¬ 1 ≤ l.length := by omega
      simp [this]
    · have : ¬ (l.length : Int) < 1 := by omega
      simp only [this, decide_false, cond_false, Option.bind_some]
      congr 1
      have h3 : 1 ≤ l.length := by omega
      simp only [h3, decide_true, Bool.true_and]
      by_cases h4 : l.length ≤ 32
      · have : ¬ (l.length : Int) > 32 := by omega
        simp [h4, this]
      · have : (l.length : Int) > 32 := by omega
        simp [h4, this]
theorem check_is (t : List (List Int)) (ht : Lvls t) : m_tree_Check t = some (if chkT t then none else some 3) := by
  unfold m_tree_Check
  rw [ends_is]
  cases t with
  | nil => simp [chkT]
  | cons l r =>
    simp only
    cases hd : (decide (1 ≤ l.length) && decide (l.length ≤ 32)) with
    | false => simp [chkT, hd]
    | true =>
      simp only [Bool.not_true, cond_false]
      rw [show (0 : Int) = (fun (i : Nat) => (i : Int)) 0 from rfl]
      rw [lp_any (l := sufs (l :: r)) (fun (i : Nat) => (i : Int)) badL (some 3) () (lenF (by rw [sufs_len]; exact ht.2) (by decide))]
      · rw [chk_bad]
        have : chkT (l :: r) = chk (l :: r) := by unfold chkT; simp only [hd, Bool.true_and]
        rw [this]
        cases chk (l :: r) <;> rfl
      · intro pre x rest h
        obtain ⟨h1, h2⟩ := sufs_at h
        have hlen := ht.2
        obtain ⟨y, ys, hx⟩ : ∃ y ys, x = y :: ys := by
          cases x with
          | nil => have := congrArg List.length h2; simp at this; simp at h1; omega
          | cons y ys => exact ⟨y, ys, rfl⟩
        have hget : (l :: r)[pre.length]? = some y := by
          have : ((l :: r).drop pre.length)[0]? = some y := by rw [← h2, hx]; rfl
          simpa using this
        obtain ⟨hyu, hyl⟩ := ht.u hget
        rw [cl, idx_get hget]
        simp only [Int.ofNat_lt, h1, decide_true, cond_true, Option.bind_some]
        rw [subI (by omega), ce, ce, nxt (by omega)]
        subst hx
        cases ys with
        | nil =>
          have hlast : pre.length + 1 = (l :: r).length := by have := congrArg List.length h2; rw [List.length_drop] at this; simp at this ⊢; omega
          have e1 : ((pre.length : Nat) : Int) = ((l :: r).length : Int) - 1 := by omega
          simp only [e1, decide_true]
          by_cases hy : y.length = 1
          · have e2 : (y.length : Int) = 1 := by omega
            simp [badL, hy]
          · have e2 : ¬ (y.length : Int) = 1 := by omega
            simp [badL, hy, e2]
        | cons m ms =>
          have hlast : ¬ ((pre.length : Nat) : Int) = ((l :: r).length : Int) - 1 := by have := congrArg List.length h2; rw [List.length_drop] at this; simp at this ⊢; omega
          have hget2 : (l :: r)[pre.length + 1]? = some m := by
            have : ((l :: r).drop pre.length)[1]? = some m := by rw [← h2]; rfl
            rw [List.getElem?_drop] at this; exact this
          simp only [hlast, decide_false]
          rw [above_is y hyu (by omega), idx_get hget2]
          simp only [Option.bind_some]
          rw [equal_is _ _ (by rw [lev_len]; omega)]
          by_cases hy : y.length = 1
          · have e2 : (y.length : Int) = 1 := by omega
            simp [badL, hy]
          · have e2 : ¬ (y.length : Int) = 1 := by omega
            by_cases hm : lev y = m
            · simp [badL, hy, e2, hm]
            · simp [badL, hy, e2, hm]
      · rw [sufs_len, cl]; simp
theorem may_is (t : List (List Int)) (ht : Lvls t) : m_ref_TreeMay t = some (if chkT t then 0 else 3) := by
  unfold m_ref_TreeMay
  rw [ends_is]
  cases t with
  | nil => simp [chkT]
  | cons l r =>
    simp only
    cases hd : (decide (1 ≤ l.length) && decide (l.length ≤ 32)) with
    | false => simp [chkT, hd]
    | true =>
      have h0 : Sw.idx (l :: r) (0 : Int) = some l := by unfold Sw.idx; simp
      simp only [Bool.not_true, cond_false, h0, Option.bind_some]
      have hch : chkT (l :: r) = chk (l :: r) := by unfold chkT; simp only [hd, Bool.true_and]
      rw [hch]
      obtain ⟨T, hT⟩ : ∃ T, T = l :: r := ⟨_, rfl⟩
      have hne : l ≠ [] := by rintro rfl; simp at hd
      rw [← hT] at ht ⊢
      have hlen := ht.2
      unfold lp
      have key : ∀ (rest : List (List Int)) (x : List Int) (i f : Nat), T.drop i = x :: rest → x ≠ [] → rest.length < f → ∃ o, loop (fun (s34 : (List Int) × Int) =>
          bif (cm .gtr (s34.1.length : Int) (1 : Int)) then
            (m_ref_above s34.1).bind fun v48 =>
              (bif (cm .geq (ar .add .i64 s34.2 (1 : Int)) (T.length : Int)) then
                some true
              else
                (Sw.idx T (ar .add .i64 s34.2 (1 : Int))).bind fun z54 =>
                  (m_ref_SameLevel v48 z54).bind fun v55 =>
                    some (!v55)).bind fun x52 =>
                bif x52 then
                  some (.done (.ret (3 : Int)))
                else
                  some (.next (v48, (ar .add .i64 s34.2 (1 : Int))))
          else
            some (.done (.brk s34.2))) f (x, (i : Int)) = some o ∧
          (match o with | Ex.brk y => (bif (cm .neq y (ar .sub .i64 (T.length : Int) (1 : Int))) then some (3 : Int) else some (0 : Int)) | Ex.ret z => some z) = some (if chk (x :: rest) then (0 : Int) else 3) := by
        intro rest
        induction rest with
        | nil =>
          intro x i f hd hx hf
          obtain ⟨f, rfl⟩ : ∃ f', f = f' + 1 := ⟨f - 1, by simp at hf; omega⟩
          have hi : i + 1 = T.length := by have := congrArg List.length hd; rw [List.length_drop] at this; simp at this; omega
          have hget : T[i]? = some x := by
            have : (T.drop i)[0]? = some x := by rw [hd]; rfl
            simpa using this
          obtain ⟨hxu, hxl⟩ := ht.u hget
          have hx1 : 1 ≤ x.length := by cases x with | nil => exact absurd rfl hx | cons _ _ => simp
          by_cases h1 : x.length = 1
          · refine ⟨.brk (i : Int), by simp [loop, cg, h1], ?_⟩
            simp only [cn]
            rw [subI (by omega)]
            have : (i : Int) = (T.length : Int) - 1 := by omega
            simp [this, chk, h1]
          · refine ⟨.ret 3, ?_, ?_⟩
            · have e1 : (x.length : Int) > 1 := by omega
              simp only [loop, cg, e1, decide_true, cond_true, refAbove_is x hxu (by omega), Option.bind_some, nxt (show i ≤ 4611686018427387904 by omega), cge]
              have e2 : ((i + 1 : Nat) : Int) ≥ (T.length : Int) := by omega
              simp only [e2, decide_true, cond_true, Option.bind_some]
            · simp [chk, h1]
        | cons m rest ih =>
          intro x i f hd hx hf
          obtain ⟨f, rfl⟩ : ∃ f', f = f' + 1 := ⟨f - 1, by simp at hf; omega⟩
          have hi : i + 1 < T.length := by have := congrArg List.length hd; rw [List.length_drop] at this; simp at this; omega
          have hget : T[i]? = some x := by
            have : (T.drop i)[0]? = some x := by rw [hd]; rfl
            simpa using this
          have hget2 : T[i + 1]? = some m := by
            have : (T.drop i)[1]? = some m := by rw [hd]; rfl
            rwa [List.getElem?_drop] at this
          have hdr : T.drop (i + 1) = m :: rest := by
            have : (T.drop i).drop 1 = m :: rest := by rw [hd]; rfl
            rwa [List.drop_drop] at this
          obtain ⟨hxu, hxl⟩ := ht.u hget
          have hx1 : 1 ≤ x.length := by cases x with | nil => exact absurd rfl hx | cons _ _ => simp
          by_cases h1 : x.length = 1
          · refine ⟨.brk (i : Int), by simp [loop, cg, h1], ?_⟩
            simp only [cn]
            rw [subI (by omega)]
            have : ¬ (i : Int) = (T.length : Int) - 1 := by omega
            simp [this, chk, h1]
          · have e1 : (x.length : Int) > 1 := by omega
            have e2 : ¬ ((i + 1 : Nat) : Int) ≥ (T.length : Int) := by omega
            have step : ∀ (f : Nat), loop (fun (s34 : (List Int) × Int) =>
              bif (cm .gtr (s34.1.length : Int) (1 : Int)) then
                (m_ref_above s34.1).bind fun v48 =>
                  (bif (cm .geq (ar .add .i64 s34.2 (1 : Int)) (T.length : Int)) then
                    some true
                  else
                    (Sw.idx T (ar .add .i64 s34.2 (1 : Int))).bind fun z54 =>
                      (m_ref_SameLevel v48 z54).bind fun v55 =>
                        some (!v55)).bind fun x52 =>
                    bif x52 then
                      some (.done (.ret (3 : Int)))
                    else
                      some (.next (v48, (ar .add .i64 s34.2 (1 : Int))))
              else
                (some (.done (.brk s34.2)) : Option (Step ((List Int) × Int) (Ex Int Int)))) (f + 1) (x, (i : Int)) = if lev x = m then loop (fun (s34 : (List Int) × Int) =>
              bif (cm .gtr (s34.1.length : Int) (1 : Int)) then
                (m_ref_above s34.1).bind fun v48 =>
                  (bif (cm .geq (ar .add .i64 s34.2 (1 : Int)) (T.length : Int)) then
                    some true
                  else
                    (Sw.idx T (ar .add .i64 s34.2 (1 : Int))).bind fun z54 =>
                      (m_ref_SameLevel v48 z54).bind fun v55 =>
                        some (!v55)).bind fun x52 =>
                    bif x52 then
                      some (.done (.ret (3 : Int)))
                    else
                      some (.next (v48, (ar .add .i64 s34.2 (1 : Int))))
              else
                some (.done (.brk s34.2))) f (lev x, ((i + 1 : Nat) : Int)) else some (.ret 3) := by
              intro f
              rw [loop]
              simp only [cg, e1, decide_true, cond_true, refAbove_is x hxu (by omega), Option.bind_some, nxt (show i ≤ 4611686018427387904 by omega), cge, e2, decide_false, cond_false, idx_get hget2, sameLevel_is _ _ (show (lev x).length ≤ 1000000 by rw [lev_len]; omega)]
              by_cases hm : lev x = m <;> simp [hm]
            rw [step]
            by_cases hm : lev x = m
            · rw [if_pos hm, hm]
              have hmne : m ≠ [] := by
                rintro rfl
                have := congrArg List.length hm
                rw [lev_len] at this; simp at this; omega
              obtain ⟨o, k1, k2⟩ := ih m (i + 1) f hdr hmne (by simp at hf; omega)
              refine ⟨o, k1, k2.trans ?_⟩
              simp [chk, h1, hm]
            · rw [if_neg hm]
              exact ⟨_, rfl, by simp [chk, hm]⟩
      obtain ⟨o, k1, k2⟩ := key r l 0 FUEL (by rw [hT]; rfl) hne (by rw [hT] at hlen; simp at hlen; unfold FUEL; omega)
      rw [show ((0 : Nat) : Int) = 0 from rfl] at k1
      rw [k1, hT]
      rw [hT] at k2
      cases o <;> exact k2
end Go.Pl

namespace Go.Pl
open Go Go.Sw Go.Mo
/-- a digest put into a level, and what comes of it above -/
def puts : List (List Int) → Nat → Int → List (List Int)
  | [], _, _ => []
  | l :: r, at_, h => l.set at_ h :: puts r (at_ / 4) (node (((l.set at_ h).drop (at_ / 4 * 4)).take 4))
theorem puts_len : ∀ (t : List (List Int)) (a : Nat) (h : Int), (puts t a h).length = t.length
  | [], _, _ => rfl
  | _ :: r, a, h => by simp [puts, puts_len r]
theorem copy_lp {γ : Type} (t : List (List Int)) (ht : t.length ≤ 1000) (hl : ∀ l ∈ t, l.length ≤ 1000) (k : List (List Int) → Option γ) :
    lp (β := List (List Int)) (fun (s19 : Int × (List (List Int))) =>
            bif (cm .lss s19.1 (t.length : Int)) then
              (Sw.idx t s19.1).bind fun z27 =>
                (m_slices_Clone_uint64_uint64 z27).bind fun v28 =>
                  (Sw.app s19.2 [v28]).bind fun v29 =>
                    some (.next ((ar .add .i64 s19.1 (1 : Int)), v29))
            else
              some (.done (.brk s19.2))) ((0 : Int), ([] : (List (List Int)))) k = k t := by
  rw [show ((0 : Int), ([] : List (List Int))) = (fun (i : Nat) (acc : List (List Int)) => ((i : Int), acc)) 0 [] from rfl]
  rw [lp_inv (l := t) (fun (i : Nat) (acc : List (List Int)) => ((i : Int), acc)) (fun i acc => acc.length = i) [] (fun _ x acc => acc ++ [x]) id (lenF ht (by decide)) rfl]
  · congr 1
    have : ∀ (l : List (List Int)) (i : Nat) (acc : List (List Int)), (l.zipIdx i).foldl (fun acc x => acc ++ [x.1]) acc = acc ++ l := by
      intro l
      induction l with
      | nil => intro i acc; simp
      | cons x l ih => intro i acc; simp [List.zipIdx_cons, ih]
    simpa using this t 0 []
  · intro pre x rest acc h hi
    have hx : x.length ≤ 1000 := hl x (by rw [h]; simp)
    have hpl : pre.length < t.length := by rw [h]; simp
    simp only [lss_len h, cond_true, idx_len h, Option.bind_some]
    unfold m_slices_Clone_uint64_uint64
    rw [app_small [] x (by simp; omega), Option.bind_some, app_small acc _ (by simp; omega), Option.bind_some, nxt (by omega)]
    exact ⟨by simp, by simp; omega⟩
  · intro acc _
    simp only [lss_self, cond_false]; rfl
/-- every level above is as long as its own asks -/
theorem chk_next {l m : List Int} {r : List (List Int)} (h : chk (l :: m :: r) = true) : l.length ≠ 1 ∧ m = lev l ∧ chk (m :: r) = true := by
  simp only [chk, Bool.and_eq_true, bne_iff_ne, ne_eq, beq_iff_eq] at h
  exact ⟨h.1.1, h.1.2.symm, h.2⟩
theorem quo4 (a : Nat) (h : a ≤ 1000000) : ar .quo .i64 (a : Int) (4 : Int) = ((a / 4 : Nat) : Int) := quo64 (b := 4) (by omega)
theorem mul4 (a : Nat) (h : a ≤ 1000000) : ar .mul .i64 (a : Int) (4 : Int) = ((a * 4 : Nat) : Int) := mul64 (b := 4) (by omega)
theorem add4 (a : Nat) (h : a ≤ 10000000) : ar .add .i64 (a : Int) (4 : Int) = ((a + 4 : Nat) : Int) := add64 (b := 4) (by omega)
theorem put_loop (f : Nat) : ∀ (rest pre : List (List Int)) (a : Nat) (h : Int), chk rest = true → Lvls (pre ++ rest) → (0 ≤ h ∧ h < 18446744073709551616) → (∀ l r, rest = l :: r → a < l.length) → rest.length < f →
    loop (fun (s43 : Int × Int × Int × (List (List Int))) =>
              bif (cm .lss s43.2.2.1 ((pre ++ rest).length : Int)) then
                (Sw.idx s43.2.2.2 s43.2.2.1).bind fun z52 =>
                  (Sw.idx z52 s43.1).bind fun _ =>
                    (Sw.sub (List.set z52 (Int.toNat s43.1) s43.2.1) (ar .mul .i64 (ar .quo .i64 s43.1 (4 : Int)) (4 : Int)) (min ((List.set z52 (Int.toNat s43.1) s43.2.1).length : Int) (ar .add .i64 (ar .mul .i64 (ar .quo .i64 s43.1 (4 : Int)) (4 : Int)) (4 : Int)))).bind fun v54 =>
                      (m_tree_node v54).bind fun v55 =>
                        some (.next ((ar .quo .i64 s43.1 (4 : Int)), v55, (ar .add .i64 s43.2.2.1 (1 : Int)), List.set s43.2.2.2 (Int.toNat s43.2.2.1) (List.set z52 (Int.toNat s43.1) s43.2.1)))
              else
                (some (.done (.brk s43.2.2.2)) : Option (Step (Int × Int × Int × (List (List Int))) (Ex (List (List Int)) ((List (List Int)) × (Option Int)))))) f ((a : Int), h, (pre.length : Int), pre ++ rest) = some (.brk (pre ++ puts rest a h)) := by
  induction f with
  | zero => intro rest pre a h _ _ _ _ hf; omega
  | succ f ih =>
    intro rest pre a h hc hL hh ha hf
    cases rest with
    | nil => simp [loop, lss_self, puts]
    | cons l r =>
      have hal := ha l r rfl
      have hget : (pre ++ l :: r)[pre.length]? = some l := by simp
      obtain ⟨hlu, hll⟩ := hL.u hget
      have hsl : (l.set a h).length = l.length := by simp
      have hu : U64 (l.set a h) := by
        intro x hx
        rcases List.mem_or_eq_of_mem_set hx with hx | rfl
        · exact hlu x hx
        · exact hh
      have hsub : Sw.sub (l.set a h) (((a / 4 * 4 : Nat) : Int)) (min ((l.set a h).length : Int) ((a / 4 * 4 + 4 : Nat) : Int)) = some (((l.set a h).drop (a / 4 * 4)).take 4) := by
        unfold Sw.sub
        rw [hsl]
        rw [if_pos (by omega)]
        congr 1
        rw [show ((min (l.length : Int) ((a / 4 * 4 + 4 : Nat) : Int)).toNat) = min l.length (a / 4 * 4 + 4) by omega, Int.toNat_natCast, List.drop_take, List.take_eq_take_iff, List.length_drop, hsl]
        omega
      have hpl : pre.length < 50 := by have := hL.2; simp at this; omega
      rw [loop]
      have e0 : Sw.idx (pre ++ l :: r) ((pre.length : Nat) : Int) = some l := idx_get hget
      have e1 : Sw.idx l ((a : Nat) : Int) = some l[a] := idx_get (by simp [hal])
      have e2 : (pre ++ l :: r).set pre.length (l.set a h) = (pre ++ [l.set a h]) ++ r := by simp
      simp only [lss_app pre l r, cond_true, e0, Option.bind_some, e1, Int.toNat_natCast, quo4 a (by omega), mul4 (a / 4) (by omega), add4 (a / 4 * 4) (by omega), hsub]
      rw [node_is _ (hu.sub fun x hx => List.mem_of_mem_drop (List.mem_of_mem_take hx)) (by simp; omega)]
      simp only [Option.bind_some, nxt (show pre.length ≤ 4611686018427387904 by omega), e2]
      have hlen : ((pre ++ l :: r).length : Int) = (((pre ++ [l.set a h]) ++ r).length : Int) := by simp
      rw [hlen]
      have := ih r (pre ++ [l.set a h]) (a / 4) (node (((l.set a h).drop (a / 4 * 4)).take 4)) ?_ ?_ (node_u _) ?_ (by simp at hf; omega)
      · rw [show ((pre.length + 1 : Nat) : Int) = ((pre ++ [l.set a h]).length : Int) by simp]
        rw [this]
        simp [puts]
      · cases r with
        | nil => rfl
        | cons m r => exact (chk_next hc).2.2
      · refine ⟨fun x hx => ?_, by simpa using hL.2⟩
        rcases List.mem_append.1 hx with hx | hx
        · rcases List.mem_append.1 hx with hx | hx
          · exact hL.1 x (List.mem_append_left _ hx)
          · have : x = l.set a h := by simpa using hx
            subst this; exact ⟨hu, by rw [hsl]; exact hll⟩
        · exact hL.1 x (List.mem_append_right _ (List.mem_cons_of_mem _ hx))
      · rintro m r' rfl
        obtain ⟨_, rfl, _⟩ := chk_next hc
        rw [lev_len]; omega
theorem leaf_u (b : Blk) : 0 ≤ leaf b ∧ leaf b < 18446744073709551616 := by
  unfold leaf
  have := digN_lt (0 :: b)
  unfold M64 at this
  omega
theorem put_is (t : List (List Int)) (a : Int) (b : Blk) (ht : Lvls t) (hb : b.length = 8 ∧ Bytes b) : m_tree_Put t a b =
    some (if chkT t then (match t with | [] => (([] : List (List Int)), (none : Option Int)) | l :: _ => if 0 ≤ a ∧ a < l.length then (puts t a.toNat (leaf b), none) else ([], some 1)) else ([], some 3)) := by
  unfold m_tree_Put
  rw [check_is t ht, Option.bind_some]
  cases hc : chkT t with
  | false => simp
  | true =>
    simp only [if_true, Option.isSome_none, cond_false]
    cases t with
    | nil => simp [chkT] at hc
    | cons l r =>
      have h0 : Sw.idx (l :: r) (0 : Int) = some l := by unfold Sw.idx; simp
      simp only [cl, h0, Option.bind_some, cge]
      by_cases h1 : a < 0
      · have : ¬ (0 ≤ a ∧ a < (l.length : Int)) := by omega
        simp [h1, this]
      · by_cases h2 : a ≥ (l.length : Int)
        · have : ¬ (0 ≤ a ∧ a < (l.length : Int)) := by omega
          simp [h1, h2, this]
        · have h3 : 0 ≤ a ∧ a < (l.length : Int) := by omega
          simp only [h1, h2, decide_false, cond_false, Option.bind_some, h3, and_self, if_true]
          have hck : chk (l :: r) = true := by unfold chkT at hc; simp only [Bool.and_eq_true] at hc; exact hc.2
          have cp := copy_lp (γ := (List (List Int)) × Option Int) (l :: r) (by have := ht.2; omega) (fun x hx => by have := (ht.1 x hx).2; omega)
          simp only [cl] at cp
          rw [cp]
          rw [leaf_is hb, Option.bind_some]
          have := put_loop FUEL (l :: r) [] a.toNat (leaf b) hck (by simpa using ht) (leaf_u b) (by rintro l' r' h; cases h; omega) (by have := ht.2; unfold FUEL; omega)
          simp only [List.nil_append, List.length_nil, cl] at this
          unfold lp
          rw [show ((a.toNat : Nat) : Int) = a by omega] at this
          rw [show ((0 : Nat) : Int) = 0 from rfl] at this
          rw [this]
theorem lev_set (l : List Int) (a : Nat) (h : Int) (ha : a < l.length) : lev (l.set a h) = (lev l).set (a / 4) (node (((l.set a h).drop (a / 4 * 4)).take 4)) := by
  have hlen : (lev (l.set a h)).length = ((lev l).set (a / 4) (node (((l.set a h).drop (a / 4 * 4)).take 4))).length := by simp [lev_len]
  refine List.ext_getElem hlen fun k h1 h2 => ?_
  have hk : k < (l.length + 3) / 4 := by rw [lev_len] at h1; simpa using h1
  have e1 : (lev (l.set a h))[k] = node (((l.set a h).drop (k * 4)).take 4) := by
    simp [lev, Sw.chunks]
  rw [e1, List.getElem_set]
  split
  · rename_i hka; subst hka; rfl
  · rename_i hka
    have e2 : (lev l)[k]'(by rw [lev_len]; exact hk) = node ((l.drop (k * 4)).take 4) := by simp [lev, Sw.chunks]
    rw [e2]
    congr 1
    rw [List.drop_set]
    split
    · rename_i hlt; rfl
    · rename_i hge
      rw [List.take_set_of_le (by omega)]
theorem puts_chk : ∀ (t : List (List Int)) (a : Nat) (h : Int), chk t = true → (∀ l r, t = l :: r → a < l.length) → chk (puts t a h) = true
  | [], _, _, _, _ => rfl
  | [l], a, h, hc, _ => by simpa [puts, chk] using hc
  | l :: m :: r, a, h, hc, ha => by
    obtain ⟨h1, rfl, h3⟩ := chk_next hc
    have hal := ha l _ rfl
    have ih := puts_chk (lev l :: r) (a / 4) (node (((l.set a h).drop (a / 4 * 4)).take 4)) h3 (by rintro l' r' e; cases e; rw [lev_len]; omega)
    simp only [puts] at ih ⊢
    simp only [chk, Bool.and_eq_true, bne_iff_ne, ne_eq, beq_iff_eq, List.length_set]
    exact ⟨⟨h1, lev_set l a h hal⟩, ih⟩
theorem puts_lvls : ∀ (t : List (List Int)) (a : Nat) (h : Int), (∀ l ∈ t, U64 l ∧ l.length ≤ 200) → (0 ≤ h ∧ h < 18446744073709551616) → ∀ l ∈ puts t a h, U64 l ∧ l.length ≤ 200
  | [], _, _, _, _, l, hl => by simp [puts] at hl
  | x :: r, a, h, ht, hh, l, hl => by
    rcases List.mem_cons.1 hl with rfl | hl
    · refine ⟨fun y hy => ?_, by simpa using (ht x (by simp)).2⟩
      rcases List.mem_or_eq_of_mem_set hy with hy | rfl
      · exact (ht x (by simp)).1 y hy
      · exact hh
    · exact puts_lvls r _ _ (fun l hl => ht l (by simp [hl])) (node_u _) l hl
theorem puts_chkT (t : List (List Int)) (a : Nat) (h : Int) (hc : chkT t = true) (ha : ∀ l r, t = l :: r → a < l.length) : chkT (puts t a h) = true := by
  cases t with
  | nil => simp [chkT] at hc
  | cons l r =>
    simp only [chkT, Bool.and_eq_true] at hc
    have := puts_chk (l :: r) a h hc.2 ha
    simp only [puts] at this ⊢
    simp only [chkT, Bool.and_eq_true, List.length_set]
    exact ⟨hc.1, this⟩
theorem is_is (o : Option Int) (n : Int) : m_ref_Is o n = some (match o with | none => decide (n = 0) | some m => decide (n ≠ 0) && decide (m = n)) := by
  unfold m_ref_Is
  cases o with
  | none => simp [ce]
  | some m =>
    simp only [Option.isNone_some, cond_false, cn]
    by_cases h : n = 0
    · simp [h]
    · by_cases h2 : m = n
      · simp [h, h2]
      · simp [h, h2]
def treeW (t : List (List Int)) : Prop := ∀ l ∈ t, U64 l
theorem wf_tree {t : List (List Int)} (h : Wf (Enc.one1 (Enc.sl (Enc.sl (Enc.int .u64)))) t) : treeW t ∧ t.length ≤ 140737488355328 := by
  have h := h.one1.sl
  refine ⟨fun l hl x hx => ?_, h.1⟩
  have := ((h.2 l hl).sl.2 x hx).int
  unfold inK at this
  simp [IntKind.min, IntKind.max, IntKind.signed, IntKind.bits] at this
  omega
theorem wf_blk {b : Blk} (h : Wf eBlk b) : b.length = 8 ∧ Bytes b := ⟨h.arr.1, fun x hx => wf_byte (h.arr.2 x hx)⟩
theorem huge_lvls {t : List (List Int)} (ht : treeW t) (h : (t.any (fun l => decide (200 < l.length)) || decide (50 < t.length)) = false) : Lvls t := by
  simp only [Bool.or_eq_false_iff, List.any_eq_false, decide_eq_true_eq, decide_eq_false_iff_not] at h
  exact ⟨fun l hl => ⟨ht l hl, by have := h.1 l hl; omega⟩, by omega⟩
end Go.Pl

namespace Go.Pl
open Go Go.Sw Go.Mo
theorem puts_true (t : List (List Int)) (a : Int) (b : Blk) (h1 : treeW t) (h2 : t.length ≤ 140737488355328) (h3 : b.length = 8 ∧ Bytes b) : m_law_TreePuts t a b = some true := by
  unfold m_law_TreePuts
  rw [huge_is t h2, Option.bind_some]
  cases hh : (t.any (fun l => decide (200 < l.length)) || decide (50 < t.length)) with
  | true => simp
  | false =>
    have hL := huge_lvls h1 hh
    simp only [cond_false]
    rw [may_is t hL, check_is t hL, Option.bind_some, Option.bind_some, put_is t a b hL h3]
    cases hc : chkT t with
    | false =>
      simp only [Bool.false_eq_true, if_false, is_is, Option.bind_some]
      simp [jp, ce, cn]
    | true =>
      cases t with
      | nil => simp [chkT] at hc
      | cons l r =>
        have h0 : Sw.idx (l :: r) (0 : Int) = some l := by unfold Sw.idx; simp
        simp only [if_true, is_is, Option.bind_some, h0, cl, cge, ce, cn]
        by_cases ha : 0 ≤ a ∧ a < (l.length : Int)
        · have e1 : ¬ a < 0 := by omega
          have e2 : ¬ a ≥ (l.length : Int) := by omega
          simp only [e1, e2, ha, and_self, if_true, decide_false, cond_false, decide_true, cond_true, Bool.not_true, Option.bind_some, jp]
          obtain ⟨hlu, hll⟩ := hL.1 l (by simp)
          rw [app_small [] l (by simp; omega), Option.bind_some, treeOf_is [b] (by intro x hx; simp at hx; subst hx; exact h3) (by simp)]
          have e3 : Sw.idx (tree [b]) (0 : Int) = some [leaf b] := by unfold Sw.idx tree; simp [leaves]
          have e4 : Sw.idx [leaf b] (0 : Int) = some (leaf b) := by unfold Sw.idx; simp
          obtain ⟨y, e5, _⟩ := idx_nat (l := l) ha.1 ha.2
          have e6 : Sw.idx (puts (l :: r) a.toNat (leaf b)) (0 : Int) = some (l.set a.toNat (leaf b)) := by unfold Sw.idx; simp [puts]
          have hLp : Lvls (puts (l :: r) a.toNat (leaf b)) := ⟨puts_lvls _ _ _ hL.1 (leaf_u b), by rw [puts_len]; exact hL.2⟩
          have hcp := puts_chkT (l :: r) a.toNat (leaf b) hc (by rintro l' r' e; cases e; omega)
          simp only [List.nil_append, Option.bind_some, e3, e4, e5, e6, Option.isNone_none, cond_true, puts_len]
          rw [sameLevel_is _ _ (by simp; omega), may_is _ hLp, hcp]
          simp
        · have e1 : (if a < 0 then true else decide (a ≥ (l.length : Int))) = true := by
            by_cases h : a < 0
            · simp [h]
            · have : a ≥ (l.length : Int) := by omega
              simp [h, this]
          by_cases h : a < 0
          · simp [h, ha, jp]
          · have : a ≥ (l.length : Int) := by omega
            simp [h, this, ha, jp]
theorem law_TreePuts (t : List (List Int)) (a : Int) (b : Blk) (h1 : Wf (Enc.one1 (Enc.sl (Enc.sl (Enc.int .u64)))) t) (_ : Wf (Enc.int .i64) a) (h3 : Wf eBlk b) : m_law_TreePuts t a b = some true :=
  puts_true t a b (wf_tree h1).1 (wf_tree h1).2 (wf_blk h3)
end Go.Pl

namespace Go.Pl
open Go Go.Sw Go.Mo
def I64 (n : Int) : Prop := -9223372036854775808 ≤ n ∧ n ≤ 9223372036854775807
/-- which of n things a raw number speaks of -/
def pick (c n : Int) : Int := (if c < 0 then -(c + 1) else c).tmod n
theorem pick_is {c n : Int} (hc : I64 c) (hn : 0 < n) : m_ref_Pick c n = some (pick c n) := by
  unfold m_ref_Pick pick
  have hnz : nz n = some () := nz_ok (by omega)
  simp only [jp, hnz, Option.bind_some, cl]
  by_cases h : c < 0
  · simp only [h, decide_true, cond_true, if_true]
    rw [addI (by unfold I64 at hc; omega), wrap_i64 (by unfold I64 at hc; omega)]
    rw [show 0 - (c + 1) = -(c + 1) by omega]; rfl
  · simp only [h, decide_false, cond_false, if_false]; rfl
theorem pick_lt {c n : Int} (hn : 0 < n) : 0 ≤ pick c n ∧ pick c n < n := by
  unfold pick
  have h0 : 0 ≤ (if c < 0 then -(c + 1) else c) := by split <;> omega
  exact ⟨Int.tmod_nonneg _ h0, Int.tmod_lt_of_pos _ hn⟩
def Raws (l : List Int) : Prop := (∀ x ∈ l, I64 x) ∧ l.length ≤ 256
theorem wf_raws {l : List Int} (h : Wf (Enc.sl (Enc.int .i64)) l) (hl : l.length ≤ 256) : Raws l := ⟨fun x hx => wf_i64 (h.sl.2 x hx), hl⟩
theorem raw_is {l : List Int} (h : Raws l) (i : Nat) (hi : i ≤ 1000000) : ∃ v : Nat, m_ref_Raw l (i : Int) = some (v : Int) ∧ v ≤ 1000003 + i * 7919 := by
  unfold m_ref_Raw
  rw [ce]
  by_cases h0 : (l.length : Int) = 0
  · refine ⟨i * 31, ?_, by omega⟩
    simp only [h0, decide_true, cond_true]
    rw [show ar .mul .i64 (i : Int) 31 = ((i * 31 : Nat) : Int) from mul64 (b := 31) (by omega)]
  · have hl : 0 < l.length := by omega
    have hlt : i % l.length < l.length := Nat.mod_lt _ hl
    simp only [h0, decide_false, cond_false, nz_ok h0, Option.bind_some]
    rw [rem64, idx_get (List.getElem?_eq_getElem hlt), Option.bind_some]
    rw [pick_is (h.1 _ (List.getElem_mem hlt)) (by omega), Option.bind_some, quo64 (by omega)]
    have hp := pick_lt (c := l[i % l.length]) (n := 1000003) (by omega)
    have hd : i / l.length ≤ i := Nat.div_le_self _ _
    refine ⟨(pick l[i % l.length] 1000003).toNat + i / l.length * 7919, ?_, ?_⟩
    · rw [show ar .mul .i64 ((i / l.length : Nat) : Int) 7919 = ((i / l.length * 7919 : Nat) : Int) from mul64 (b := 7919) (by omega)]
      rw [addI (by omega)]
      have e : pick l[i % l.length] 1000003 = (((pick l[i % l.length] 1000003).toNat : Nat) : Int) := by omega
      rw [e]
      congr 1
    · have : i / l.length * 7919 ≤ i * 7919 := Nat.mul_le_mul_right _ hd
      omega
theorem wrap_byte (n : Int) : 0 ≤ IntKind.wrap .u8 n ∧ IntKind.wrap .u8 n ≤ 255 := by
  unfold IntKind.wrap
  simp only [IntKind.signed, IntKind.bits]
  simp; omega
def BlkOk (b : Blk) : Prop := b.length = 8 ∧ Bytes b
theorem zblk_ok : BlkOk zblk := ⟨rfl, fun x hx => by unfold zblk at hx; simp at hx; omega⟩
theorem set_ok {b : Blk} (h : BlkOk b) (i : Nat) (n : Int) : BlkOk (List.set b i (IntKind.wrap .u8 n)) := by
  refine ⟨by simpa using h.1, fun x hx => ?_⟩
  rcases List.mem_or_eq_of_mem_set hx with hx | rfl
  · exact h.2 x hx
  · exact wrap_byte n
/-- a loop whose state keeps what holds of it -/
theorem lp_ex {α β γ : Type} {step : α → Option (Step α (Ex β γ))} {k : β → Option γ} {B : Type} (st : Nat → B → α) (fin : B → β) (n : Nat) (I : Nat → B → Prop) (b0 : B) (hf : n < FUEL) (h0 : I 0 b0)
    (hs : ∀ i b, i < n → I i b → ∃ b', step (st i b) = some (.next (st (i + 1) b')) ∧ I (i + 1) b') (he : ∀ b, I n b → step (st n b) = some (.done (.brk (fin b)))) :
    ∃ b, I n b ∧ lp step (st 0 b0) k = k (fin b) := by
  have key : ∀ (m i f : Nat) (b : B), i + m = n → m < f → I i b → ∃ b', I n b' ∧ loop step f (st i b) = some (.brk (fin b')) := by
    intro m
    induction m with
    | zero =>
      intro i f b hi hf hI
      obtain ⟨f, rfl⟩ : ∃ f', f = f' + 1 := ⟨f - 1, by omega⟩
      have : i = n := by omega
      subst this
      exact ⟨b, hI, by simp [loop, he b hI]⟩
    | succ m ih =>
      intro i f b hi hf hI
      obtain ⟨f, rfl⟩ : ∃ f', f = f' + 1 := ⟨f - 1, by omega⟩
      obtain ⟨b', h1, h2⟩ := hs i b (by omega) hI
      obtain ⟨b2, h3, h4⟩ := ih (i + 1) f b' (by omega) (by omega) h2
      exact ⟨b2, h3, by simp [loop, h1, h4]⟩
  obtain ⟨b, h1, h2⟩ := key n 0 FUEL b0 (by omega) hf h0
  exact ⟨b, h1, by unfold lp; rw [h2]⟩
theorem blockFrom_ok {l : List Int} (h : Raws l) (at_ : Nat) (ha : at_ ≤ 100000) : ∃ b, m_ref_BlockFrom l (at_ : Int) = some b ∧ BlkOk b := by
  unfold m_ref_BlockFrom
  obtain ⟨v, hv, hvl⟩ := raw_is h at_ (by omega)
  rw [hv, Option.bind_some, ce]
  by_cases h3 : ar .rem .i64 (v : Int) 3 = 0
  · exact ⟨zblk, by simp [h3], zblk_ok⟩
  · have hz : Sw.idx zblk (0 : Int) = some 0 := by unfold Sw.idx zblk; simp
    simp only [h3, decide_false, cond_false, hz, Option.bind_some, jp]
    have hb0 : BlkOk (List.set zblk (Int.toNat (0 : Int)) (IntKind.wrap .u8 (ar .add .i64 (1 : Int) (ar .rem .i64 (ar .quo .i64 (v : Int) (3 : Int)) (5 : Int))))) := set_ok zblk_ok _ _
    by_cases h4 : ar .rem .i64 (v : Int) 3 = 2
    · rw [ce]
      simp only [h4, decide_true, cond_true]
      obtain ⟨b, h5, h6⟩ := lp_ex (γ := Blk) (step := fun (s32 : Int × Blk) =>
            bif (cm .lss s32.1 (8 : Int)) then
              (m_ref_Raw l (ar .add .i64 (at_ : Int) s32.1)).bind fun v39 =>
                (Sw.idx s32.2 s32.1).bind fun _ =>
                  some (.next ((ar .add .i64 s32.1 (1 : Int)), (List.set s32.2 (Int.toNat s32.1) (IntKind.wrap .u8 (ar .quo .i64 v39 (7 : Int))))))
            else
              some (.done (.brk s32.2))) (k := fun x37 => some x37) (fun (i : Nat) (b : Blk) => (((i + 1 : Nat) : Int), b)) id 7 (fun _ b => BlkOk b) (List.set zblk (Int.toNat (0 : Int)) (IntKind.wrap .u8 (ar .add .i64 (1 : Int) (ar .rem .i64 (ar .quo .i64 (v : Int) (3 : Int)) (5 : Int))))) (by decide) hb0
        (fun i b hi hb => by
          have hlt : ((i + 1 : Nat) : Int) < 8 := by omega
          obtain ⟨v2, hv2, _⟩ := raw_is h (at_ + (i + 1)) (by omega)
          obtain ⟨y, hy, _⟩ := idx_nat (l := b) (n := ((i + 1 : Nat) : Int)) (by omega) (by have := hb.1; omega)
          have hadd : ar .add .i64 ((at_ : Nat) : Int) ((i + 1 : Nat) : Int) = ((at_ + (i + 1) : Nat) : Int) := add64 (by omega)
          have hn : ar .add .i64 ((i + 1 : Nat) : Int) 1 = ((i + 1 + 1 : Nat) : Int) := nxt (by omega)
          refine ⟨_, ?_, set_ok hb (Int.toNat ((i + 1 : Nat) : Int)) (ar .quo .i64 (v2 : Int) 7)⟩
          simp only [cl, hlt, decide_true, cond_true, hadd, hv2, hy, hn, Option.bind_some])
        (fun b hb => by
          have hlt : ¬ ((7 + 1 : Nat) : Int) < 8 := by omega
          simp only [cl, hlt, decide_false, cond_false]; rfl)
      exact ⟨b, h6, h5⟩
    · rw [ce]
      simp only [h4, decide_false, cond_false]
      exact ⟨_, rfl, hb0⟩
theorem blocksFrom_ok {l : List Int} (h : Raws l) (at_ n : Nat) (ha : at_ ≤ 1000) (hn : n ≤ 1000) : ∃ bs, m_ref_BlocksFrom l (at_ : Int) (n : Int) = some bs ∧ bs.length = n ∧ Blks bs := by
  unfold m_ref_BlocksFrom
  obtain ⟨bs, h5, h6⟩ := lp_ex (γ := List Blk) (step := fun (s9 : Int × (List Blk)) =>
    bif (cm .lss s9.1 (n : Int)) then
      (m_ref_BlockFrom l (ar .add .i64 (at_ : Int) (ar .mul .i64 (9 : Int) s9.1))).bind fun v16 =>
        (Sw.app s9.2 ([v16] : (List Blk))).bind fun v17 =>
          some (.next ((ar .add .i64 s9.1 (1 : Int)), v17))
    else
      some (.done (.brk s9.2))) (k := fun x14 => some x14) (fun (i : Nat) (b : List Blk) => ((i : Int), b)) id n (fun i b => b.length = i ∧ Blks b) [] (by unfold FUEL; omega) ⟨rfl, fun b hb => by simp at hb⟩
    (fun i bs hi hb => by
      have hlt : (i : Int) < (n : Int) := by omega
      have hmul : ar .mul .i64 (9 : Int) (i : Int) = ((9 * i : Nat) : Int) := mul64 (a := 9) (by omega)
      have hadd : ar .add .i64 ((at_ : Nat) : Int) ((9 * i : Nat) : Int) = ((at_ + 9 * i : Nat) : Int) := add64 (by omega)
      obtain ⟨b, hb1, hb2⟩ := blockFrom_ok h (at_ + 9 * i) (by omega)
      refine ⟨bs ++ [b], ?_, by simp [hb.1], fun x hx => ?_⟩
      · simp only [cl, hlt, decide_true, cond_true, hmul, hadd, hb1, Option.bind_some]
        rw [app_small _ _ (by simp; omega), Option.bind_some, nxt (by omega)]
      · rcases List.mem_append.1 hx with hx | hx
        · exact hb.2 x hx
        · simp at hx; subst hx; exact hb2)
    (fun b hb => by
      have hlt : ¬ (n : Int) < (n : Int) := by omega
      simp only [cl, hlt, decide_false, cond_false]; rfl)
  exact ⟨bs, h6, h5.1, h5.2⟩
theorem own_is (bs : List Blk) (h : bs.length ≤ 1000000) : m_ref_OwnBlocks bs = some bs := by
  unfold m_ref_OwnBlocks
  rw [app_small _ _ (by simp; omega)]
  rfl
end Go.Pl

namespace Go.Pl
open Go Go.Sw Go.Mo
theorem chk_depth : ∀ (k : Nat) (l : List Int) (r : List (List Int)), chk (l :: r) = true → l.length ≤ 4 ^ k → r.length ≤ k
  | k, l, [], _, _ => by simp
  | 0, l, m :: r, h, hl => by
    obtain ⟨h1, rfl, h3⟩ := chk_next h
    have h4 : l.length = 0 := by simp at hl; omega
    exfalso
    have hlev : (lev l).length = 0 := by rw [lev_len, h4]
    cases r with
    | nil => simp [chk, hlev] at h3
    | cons m' r' =>
      -- levels of noughts never end
      have key : ∀ (r : List (List Int)) (l : List Int), l.length = 0 → chk (l :: r) = false := by
        intro r
        induction r with
        | nil => intro l hl; simp [chk, hl]
        | cons m r ih =>
          intro l hl
          cases hc : chk (l :: m :: r) with
          | false => rfl
          | true =>
            obtain ⟨_, rfl, h3⟩ := chk_next hc
            rw [ih (lev l) (by rw [lev_len, hl])] at h3; cases h3
      rw [key _ _ hlev] at h3; cases h3
  | k + 1, l, m :: r, h, hl => by
    obtain ⟨h1, rfl, h3⟩ := chk_next h
    have := chk_depth k (lev l) r h3 (by rw [lev_len]; rw [Nat.pow_succ] at hl; omega)
    simp; omega
theorem chkT_depth {t : List (List Int)} (h : chkT t = true) : t.length ≤ 4 ∧ 1 ≤ t.length := by
  cases t with
  | nil => simp [chkT] at h
  | cons l r =>
    simp only [chkT, Bool.and_eq_true, decide_eq_true_eq] at h
    have := chk_depth 3 l r h.2 (by omega)
    simp; omega
theorem chk_lens : ∀ (r s : List (List Int)) (l m : List Int), chk (l :: r) = true → chk (m :: s) = true → l.length = m.length → (l :: r).map List.length = (m :: s).map List.length
  | [], [], l, m, _, _, h => by simp [h]
  | [], y :: s, l, m, h1, h2, h => by
    have := (chk_next h2).1
    simp [chk] at h1; omega
  | x :: r, [], l, m, h1, h2, h => by
    have := (chk_next h1).1
    simp [chk] at h2; omega
  | x :: r, y :: s, l, m, h1, h2, h => by
    obtain ⟨_, rfl, k1⟩ := chk_next h1
    obtain ⟨_, rfl, k2⟩ := chk_next h2
    have := chk_lens r s (lev l) (lev m) k1 k2 (by rw [lev_len, lev_len, h])
    rw [List.map_cons, this, h, List.map_cons (l := lev m :: s)]
/-- the level, and its digest at a place -/
def lv (t : List (List Int)) (L : Nat) : List Int := t.getD L []
def vl (t : List (List Int)) (L at_ : Nat) : Int := (lv t L).getD at_ 0
theorem lv_get {t : List (List Int)} {L : Nat} (h : L < t.length) : t[L]? = some (lv t L) := by
  unfold lv; rw [List.getD_eq_getElem?_getD, List.getElem?_eq_getElem h]; rfl
theorem idx_lv {t : List (List Int)} {L : Nat} (h : L < t.length) : Sw.idx t (L : Int) = some (lv t L) := idx_get (lv_get h)
theorem idx_vl {t : List (List Int)} {L a : Nat} (h : a < (lv t L).length) : Sw.idx (lv t L) (a : Int) = some (vl t L a) := by
  refine idx_get ?_
  unfold vl; rw [List.getD_eq_getElem?_getD, List.getElem?_eq_getElem h]; rfl
theorem chk_drop : ∀ (t : List (List Int)) (L : Nat), chk t = true → L + 1 < t.length → lv t (L + 1) = lev (lv t L)
  | [], _, _, h => by simp at h
  | [l], _, _, h => by simp at h
  | l :: m :: r, 0, h, _ => by obtain ⟨_, rfl, _⟩ := chk_next h; rfl
  | l :: m :: r, L + 1, h, hL => by
    have := chk_drop (m :: r) L (chk_next h).2.2 (by simpa using hL)
    simpa [lv] using this
/-- two trees of one size -/
structure Two (a b : List (List Int)) : Prop where
  ca : chkT a = true
  cb : chkT b = true
  len : (lv a 0).length = (lv b 0).length
theorem chkT_chk {t : List (List Int)} (h : chkT t = true) : chk t = true := by
  cases t with
  | nil => rfl
  | cons l r => simp only [chkT, Bool.and_eq_true] at h; exact h.2
theorem Two.lens {a b : List (List Int)} (h : Two a b) : a.map List.length = b.map List.length := by
  have ha := chkT_chk h.ca; have hb := chkT_chk h.cb; have hl := h.len
  have h1 := h.ca; have h2 := h.cb
  cases a with
  | nil => simp [chkT] at h1
  | cons l r => cases b with
    | nil => simp [chkT] at h2
    | cons m s => exact chk_lens r s l m ha hb hl
theorem Two.length {a b : List (List Int)} (h : Two a b) : a.length = b.length := by have := congrArg List.length h.lens; simpa using this
theorem Two.lv {a b : List (List Int)} (h : Two a b) (L : Nat) : (lv a L).length = (lv b L).length := by
  have h1 : ∀ (t : List (List Int)), (Pl.lv t L).length = (t.map List.length).getD L 0 := by
    intro t; unfold Pl.lv; rw [List.getD_eq_getElem?_getD, List.getD_eq_getElem?_getD, List.getElem?_map]; cases t[L]? <;> rfl
  rw [h1, h1, h.lens]
theorem Two.kid {a b : List (List Int)} (h : Two a b) {L at_ : Nat} (hL : L + 1 < a.length) (hat : at_ < (Pl.lv a (L + 1)).length) : at_ * 4 < (Pl.lv a L).length := by
  rw [chk_drop a L (chkT_chk h.ca) hL, lev_len] at hat; omega
/-- the nodes below one, of n -/
def kids (n at_ : Nat) : List Nat := (List.range (min n (at_ * 4 + 4) - at_ * 4)).map (at_ * 4 + ·)
theorem kids_lt {n at_ k : Nat} (h : k ∈ kids n at_) : k < n := by
  unfold kids at h
  obtain ⟨i, hi, rfl⟩ := List.mem_map.1 h
  have := List.mem_range.1 hi; omega
theorem kids_len (n at_ : Nat) : (kids n at_).length ≤ 4 := by unfold kids; simp; omega
/-- what is found below a node, and how many pairs are held against each other -/
def dwn (a b : List (List Int)) : Nat → Nat → List Int × Nat
  | 0, at_ => if vl a 0 at_ = vl b 0 at_ then ([], 1) else ([(at_ : Int)], 1)
  | L + 1, at_ => if vl a (L + 1) at_ = vl b (L + 1) at_ then ([], 1) else
    ((((kids (lv a L).length at_).map (dwn a b L)).map (·.1)).flatten, 1 + (((kids (lv a L).length at_).map (dwn a b L)).map (·.2)).sum)
theorem sum_le {l : List Nat} {B : Nat} (h : ∀ x ∈ l, x ≤ B) : l.sum ≤ l.length * B := by
  induction l with
  | nil => simp
  | cons x l ih =>
    have h1 := h x (by simp)
    have h2 := ih fun y hy => h y (by simp [hy])
    rw [List.sum_cons, List.length_cons, Nat.succ_mul]; omega
theorem flat_len_le {A : Type} {l : List (List A)} {B : Nat} (h : ∀ x ∈ l, x.length ≤ B) : l.flatten.length ≤ l.length * B := by
  induction l with
  | nil => simp
  | cons x l ih =>
    have h1 := h x (by simp)
    have h2 := ih fun y hy => h y (by simp [hy])
    rw [List.flatten_cons, List.length_append, List.length_cons, Nat.succ_mul]; omega
theorem dwn_le (a b : List (List Int)) : ∀ (L at_ : Nat), (dwn a b L at_).2 ≤ 5 ^ L ∧ (dwn a b L at_).1.length ≤ 5 ^ L
  | 0, at_ => by unfold dwn; split <;> simp
  | L + 1, at_ => by
    unfold dwn
    have hp : 1 ≤ 5 ^ L := Nat.one_le_pow _ _ (by omega)
    split
    · rw [Nat.pow_succ]; simp; omega
    · have h1 := sum_le (l := ((kids (lv a L).length at_).map (dwn a b L)).map (·.2)) (B := 5 ^ L) (by
        intro x hx
        simp only [List.map_map, List.mem_map, Function.comp] at hx
        obtain ⟨k, _, rfl⟩ := hx
        exact (dwn_le a b L k).1)
      have h2 := flat_len_le (l := ((kids (lv a L).length at_).map (dwn a b L)).map (·.1)) (B := 5 ^ L) (by
        intro x hx
        simp only [List.map_map, List.mem_map, Function.comp] at hx
        obtain ⟨k, _, rfl⟩ := hx
        exact (dwn_le a b L k).2)
      simp only [List.length_map] at h1 h2
      have h3 := kids_len (lv a L).length at_
      have h4 : (kids (lv a L).length at_).length * 5 ^ L ≤ 4 * 5 ^ L := Nat.mul_le_mul_right _ h3
      rw [Nat.pow_succ]
      constructor
      · simp only; omega
      · simp only; omega
theorem fold_acc {A : Type} (f : A → List Int × Nat) : ∀ (l : List A) (i : Nat) (acc : Nat × List Int),
    (l.zipIdx i).foldl (fun acc x => (acc.1 + (f x.1).2, acc.2 ++ (f x.1).1)) acc = (acc.1 + ((l.map f).map (·.2)).sum, acc.2 ++ ((l.map f).map (·.1)).flatten)
  | [], i, acc => by simp
  | x :: l, i, acc => by
    rw [List.zipIdx_cons, List.foldl_cons, fold_acc f l]
    simp [Nat.add_assoc]
theorem Two.small {a b : List (List Int)} (h : Two a b) : ∀ L, L < a.length → (Pl.lv a L).length ≤ 32
  | 0, _ => by
    have h1 := h.ca
    cases a with
    | nil => simp [chkT] at h1
    | cons l r => simp only [chkT, Bool.and_eq_true, decide_eq_true_eq] at h1; exact h1.1.2
  | L + 1, hL => by
    rw [chk_drop a L (chkT_chk h.ca) hL, lev_len]
    have := h.small L (by omega); omega
theorem diff_is (a b : List (List Int)) (h : Two a b) : ∀ (L at_ n0 asked : Nat) (places : List Int), L < a.length → L < n0 → at_ < (lv a L).length → asked + 2 * 5 ^ L ≤ 1000000 → places.length + 2 * 5 ^ L ≤ 1000000 →
    m_tree_Diff_1_io n0 (L : Int) (at_ : Int) (asked : Int) a b places = some (((asked + (dwn a b L at_).2 : Nat) : Int), a, b, places ++ (dwn a b L at_).1)
  | L, at_, 0, _, _, _, h0, _, _, _ => by omega
  | L, at_, n0 + 1, asked, places, hL, hn, hat, hask, hpl => by
    have hd := chkT_depth h.ca
    have hLb : L < b.length := by rw [← h.length]; exact hL
    have hatb : at_ < (lv b L).length := by rw [← h.lv]; exact hat
    have hlen := h.small L hL
    simp only [m_tree_Diff_1_io]
    rw [idx_lv hL, Option.bind_some, idx_vl hat, Option.bind_some, idx_lv hLb, Option.bind_some, idx_vl hatb, Option.bind_some, ce, ce, nxt (show asked ≤ 4611686018427387904 by omega)]
    by_cases he : vl a L at_ = vl b L at_
    · have : dwn a b L at_ = ([], 1) := by cases L <;> simp [dwn, he]
      simp [he, this]
    · cases L with
      | zero =>
        have : dwn a b 0 at_ = ([(at_ : Int)], 1) := by simp [dwn, he]
        simp only [he, decide_false, cond_false, this]
        rw [app_small _ _ (by simp; omega)]
        simp
      | succ L =>
        have hL' : L < a.length := by omega
        have hk := h.kid hL hat
        have hn0 : ¬ ((L + 1 : Nat) : Int) = 0 := by omega
        obtain ⟨p, hpE⟩ : ∃ p, p = 5 ^ L := ⟨_, rfl⟩
        have hp : 1 ≤ p := by rw [hpE]; exact Nat.one_le_pow _ _ (by omega)
        rw [Nat.pow_succ, ← hpE] at hask hpl
        have hat2 : at_ ≤ 1000 := by omega
        simp only [he, hn0, decide_false, cond_false]
        rw [mul4 at_ (by omega)]
        rw [show ar .sub .i64 ((L + 1 : Nat) : Int) 1 = (L : Int) by rw [subI (by omega)]; omega]
        rw [show (((at_ * 4 : Nat) : Int), ((asked + 1 : Nat) : Int), a, b, places) = (fun (i : Nat) (acc : Nat × List Int) => (((at_ * 4 + i : Nat) : Int), ((acc.1 : Nat) : Int), a, b, acc.2)) 0 (asked + 1, places) from rfl]
        have hkl := kids_len (lv a L).length at_
        have hm : ∀ (i : Nat), i < (kids (lv a L).length at_).length → at_ * 4 + i < min (lv a L).length (at_ * 4 + 4) := by
          intro i hi; unfold kids at hi; simp at hi; omega
        have hlenL := h.small L hL'
        rw [lp_inv (l := kids (lv a L).length at_) (fun (i : Nat) (acc : Nat × List Int) => (((at_ * 4 + i : Nat) : Int), ((acc.1 : Nat) : Int), a, b, acc.2)) (fun i acc => acc.1 ≤ asked + 1 + i * p ∧ acc.2.length ≤ places.length + i * p) (asked + 1, places)
          (fun _ x acc => (acc.1 + (dwn a b L x).2, acc.2 ++ (dwn a b L x).1)) (fun acc => (((acc.1 : Nat) : Int), a, b, acc.2)) (by unfold FUEL; omega) ⟨by simp, by simp⟩]
        · rw [fold_acc (dwn a b L)]
          simp only [dwn, he, if_false]
          congr 3; push_cast; omega
        · intro pre x rest acc hl hI
          have hi : pre.length < (kids (lv a L).length at_).length := by rw [hl]; simp
          have hx : x = at_ * 4 + pre.length := by
            have : (kids (lv a L).length at_)[pre.length]? = some x := by rw [hl]; simp
            unfold kids at this
            rw [List.getElem?_map] at this
            rw [List.getElem?_range (by unfold kids at hi; simpa using hi)] at this
            simpa using this.symm
          have hmi := hm _ hi
          have hdl := dwn_le a b L x
          rw [← hpE] at hdl
          have hip : pre.length * p ≤ 3 * p := Nat.mul_le_mul_right _ (by omega)
          simp only
          rw [idx_lv hL', Option.bind_some, add4 (at_ * 4) (by omega), cl]
          have hlt : ((at_ * 4 + pre.length : Nat) : Int) < min ((lv a L).length : Int) ((at_ * 4 + 4 : Nat) : Int) := by omega
          simp only [hlt, decide_true, cond_true]
          rw [diff_is a b h L (at_ * 4 + pre.length) n0 acc.1 acc.2 hL' (by omega) (by omega) (by rw [← hpE]; omega) (by rw [← hpE]; omega), Option.bind_some, nxt (by omega)]
          refine ⟨by rw [hx]; rfl, ?_, ?_⟩
          · rw [Nat.add_mul]; omega
          · rw [List.length_append, Nat.add_mul]; omega
        · intro acc hI
          simp only
          rw [idx_lv hL', Option.bind_some, add4 (at_ * 4) (by omega), cl]
          have hkl2 : (kids (lv a L).length at_).length = min (lv a L).length (at_ * 4 + 4) - at_ * 4 := by unfold kids; simp
          have hlt : ¬ ((at_ * 4 + (kids (lv a L).length at_).length : Nat) : Int) < min ((lv a L).length : Int) ((at_ * 4 + 4 : Nat) : Int) := by rw [hkl2]; omega
          simp only [hlt, decide_false, cond_false]
end Go.Pl

namespace Go.Pl
open Go Go.Sw Go.Mo
def root (t : List (List Int)) : List Int := lv t 0
theorem idx_root {t : List (List Int)} (h : chkT t = true) : Sw.idx t (0 : Int) = some (root t) ∧ 1 ≤ (root t).length := by
  have h1 := chkT_depth h
  refine ⟨idx_lv (t := t) (L := 0) (by omega), ?_⟩
  cases t with
  | nil => simp [chkT] at h
  | cons l r => simp only [chkT, Bool.and_eq_true, decide_eq_true_eq] at h; exact h.1.1
/-- the top level is one digest -/
theorem chk_top : ∀ (t : List (List Int)), t ≠ [] → chk t = true → (lv t (t.length - 1)).length = 1
  | [], h, _ => absurd rfl h
  | [l], _, h => by simpa [lv, chk] using h
  | l :: m :: r, _, h => by
    have := chk_top (m :: r) (by simp) (chk_next h).2.2
    simpa [lv] using this
theorem lvls_of {t : List (List Int)} (ht : Lvls t) : True := trivial
theorem tdiff_is (a b : List (List Int)) (ha : Lvls a) (hb : Lvls b) : m_tree_Diff a b = some (if chkT a && chkT b then (if (root a).length = (root b).length then ((dwn a b (a.length - 1) 0).1, (((dwn a b (a.length - 1) 0).2 : Nat) : Int), none) else ([], 0, some 6)) else ([], 0, some 3)) := by
  unfold m_tree_Diff
  rw [show (0 : Int) = (fun (i : Nat) => (i : Int)) 0 from rfl]
  rw [lp_any (l := [a, b]) (fun (i : Nat) => (i : Int)) (fun t => !chkT t) (([] : List Int), (0 : Int), some 3) () (lenF (n := 2) (by simp) (by decide))]
  · by_cases hc : chkT a = true ∧ chkT b = true
    · obtain ⟨ca, cb⟩ := hc
      have e1 : ([a, b].any fun t => !chkT t) = false := by simp [ca, cb]
      simp only [e1, Bool.false_eq_true, if_false, ca, cb, Bool.and_self, if_true]
      obtain ⟨i1, i2⟩ := idx_root ca
      obtain ⟨i3, i4⟩ := idx_root cb
      rw [show (((0 : Nat) : Int)) = 0 from rfl, i1, i3, Option.bind_some, Option.bind_some, cn]
      by_cases hl : (root a).length = (root b).length
      · have hd := chkT_depth ca
        have htwo : Two a b := ⟨ca, cb, hl⟩
        have htop := chk_top a (by intro h; rw [h] at hd; simp at hd) (chkT_chk ca)
        have := diff_is a b htwo (a.length - 1) 0 FUEL 0 [] (by omega) (by unfold FUEL; omega) (by rw [htop]; omega) (by
          have : 5 ^ (a.length - 1) ≤ 5 ^ 3 := Nat.pow_le_pow_right (by omega) (by omega)
          omega) (by
          have : 5 ^ (a.length - 1) ≤ 5 ^ 3 := Nat.pow_le_pow_right (by omega) (by omega)
          simp; omega)
        rw [show ar .sub .i64 (a.length : Int) 1 = ((a.length - 1 : Nat) : Int) by rw [subI (by omega)]; omega]
        rw [show (((0 : Nat) : Int)) = 0 from rfl] at this
        simp [hl, this]
      · have : (((root a).length : Nat) : Int) ≠ ((root b).length : Nat) := by omega
        simp [hl, this]
    · have e1 : ([a, b].any fun t => !chkT t) = true := by
        cases ca : chkT a <;> cases cb : chkT b <;> simp_all
      have e2 : (chkT a && chkT b) = false := by cases ca : chkT a <;> cases cb : chkT b <;> simp_all
      simp [e1, e2]
  · intro pre x rest h
    have hx : Lvls x := by
      have : x ∈ [a, b] := by rw [h]; simp
      simp at this
      rcases this with rfl | rfl <;> assumption
    have hpl : pre.length < 2 := by have := congrArg List.length h; simp at this; omega
    simp only [lss_len h, cond_true, idx_len h, Option.bind_some, check_is x hx]
    rw [nxt (by omega)]
    cases chkT x <;> simp
  · simp only [lss_self, cond_false]
/-- the same level by level -/
def bfs (a b : List (List Int)) : Nat → List Nat → List Int × Nat
  | 0, now => ((now.filter fun x => decide (vl a 0 x ≠ vl b 0 x)).map (fun (x : Nat) => (x : Int)), now.length)
  | L + 1, now => ((bfs a b L (now.flatMap fun x => if vl a (L + 1) x = vl b (L + 1) x then [] else kids (lv a L).length x)).1,
      now.length + (bfs a b L (now.flatMap fun x => if vl a (L + 1) x = vl b (L + 1) x then [] else kids (lv a L).length x)).2)
theorem bfs_is (a b : List (List Int)) : ∀ (L : Nat) (now : List Nat), bfs a b L now = (((now.map (dwn a b L)).map (·.1)).flatten, ((now.map (dwn a b L)).map (·.2)).sum)
  | 0, now => by
    induction now with
    | nil => rfl
    | cons x now ih =>
      simp only [bfs, Prod.mk.injEq] at ih ⊢
      simp only [List.map_cons, List.flatten_cons, List.sum_cons, List.length_cons]
      rw [← ih.1, ← ih.2]
      by_cases h : vl a 0 x = vl b 0 x
      · simp [dwn, h]; omega
      · simp [dwn, h]; omega
  | L + 1, now => by
    simp only [bfs]
    rw [bfs_is a b L]
    induction now with
    | nil => rfl
    | cons x now ih =>
      simp only [Prod.mk.injEq] at ih ⊢
      simp only [List.flatMap_cons, List.map_append, List.flatten_append, List.sum_append, List.map_cons, List.flatten_cons, List.sum_cons, List.length_cons]
      rw [ih.1]
      have ih2 := ih.2
      by_cases h : vl a (L + 1) x = vl b (L + 1) x
      · have e : dwn a b (L + 1) x = ([], 1) := by simp [dwn, h]
        simp only [e, h, if_true, List.map_nil, List.flatten_nil, List.sum_nil, List.nil_append, true_and]
        omega
      · have e : dwn a b (L + 1) x = ((((kids (lv a L).length x).map (dwn a b L)).map (·.1)).flatten, 1 + (((kids (lv a L).length x).map (dwn a b L)).map (·.2)).sum) := by simp [dwn, h]
        simp only [e, h, if_false, true_and]
        omega
theorem kids4 (n x : Nat) (hx : x * 4 < n) : ((List.range 4).filter fun i => decide (x * 4 + i < n)).map (x * 4 + ·) = kids n x := by
  unfold kids
  congr 1
  have h4 : n - x * 4 = 1 ∨ n - x * 4 = 2 ∨ n - x * 4 = 3 ∨ 4 ≤ n - x * 4 := by omega
  have e : ∀ i, decide (x * 4 + i < n) = decide (i < n - x * 4) := fun i => by congr 1; exact propext (by omega)
  simp only [e]
  rcases h4 with h | h | h | h
  · have : min n (x * 4 + 4) - x * 4 = 1 := by omega
    rw [this, h]; rfl
  · have : min n (x * 4 + 4) - x * 4 = 2 := by omega
    rw [this, h]; rfl
  · have : min n (x * 4 + 4) - x * 4 = 3 := by omega
    rw [this, h]; rfl
  · have : min n (x * 4 + 4) - x * 4 = 4 := by omega
    rw [this]
    have e2 : ∀ i, i < 4 → i < n - x * 4 := fun i hi => by omega
    simp [List.range_succ, List.filter, e2]
/-- the nodes below one, put behind others -/
theorem kids_lp {γ : Type} (a : List (List Int)) (now : List Int) (L i x : Nat) (nx : List Int) (hL : L < a.length) (hLl : L ≤ 1000) (hn : Sw.idx now (i : Int) = some (x : Int)) (hk : x * 4 < (lv a L).length) (hl : (lv a L).length ≤ 1000) (hnx : nx.length ≤ 1000000) (k : List Int → Option γ) :
    lp (β := (List Int)) (fun (s1311 : Int × (List Int)) =>
                            bif (cm .lss s1311.1 (4 : Int)) then
                              (Sw.idx now (i : Int)).bind fun z1321 =>
                                (Sw.idx a (ar .sub .i64 ((L + 1 : Nat) : Int) (1 : Int))).bind fun z1322 =>
                                  bif (cm .lss (ar .add .i64 (ar .mul .i64 z1321 (4 : Int)) s1311.1) (z1322.length : Int)) then
                                    (Sw.idx now (i : Int)).bind fun z1324 =>
                                      (Sw.app s1311.2 ([(ar .add .i64 (ar .mul .i64 z1324 (4 : Int)) s1311.1)] : (List Int))).bind fun v1325 =>
                                        some (.next ((ar .add .i64 s1311.1 (1 : Int)), v1325))
                                  else
                                    some (.next ((ar .add .i64 s1311.1 (1 : Int)), s1311.2))
                            else
                              some (.done (.brk s1311.2))) ((0 : Int), nx) k = k (nx ++ (kids (lv a L).length x).map (fun (y : Nat) => (y : Int))) := by
  rw [show ((0 : Int), nx) = (fun (i : Nat) (acc : List Int) => ((i : Int), acc)) 0 nx from rfl]
  rw [lp_inv (l := List.range 4) (fun (i : Nat) (acc : List Int) => ((i : Int), acc)) (fun i acc => acc.length ≤ nx.length + i) nx (fun _ j acc => if x * 4 + j < (lv a L).length then acc ++ [((x * 4 + j : Nat) : Int)] else acc) id (by decide) (by simp)]
  · congr 1
    have key : ∀ (l : List Nat) (q : Nat) (acc : List Int), (l.zipIdx q).foldl (fun acc y => if x * 4 + y.1 < (lv a L).length then acc ++ [((x * 4 + y.1 : Nat) : Int)] else acc) acc = acc ++ ((l.filter fun i => decide (x * 4 + i < (lv a L).length)).map (x * 4 + ·)).map (fun (y : Nat) => (y : Int)) := by
      intro l
      induction l with
      | nil => intro q acc; simp
      | cons y l ih =>
        intro q acc
        rw [List.zipIdx_cons, List.foldl_cons, ih]
        by_cases h : x * 4 + y < (lv a L).length <;> simp [h]
    rw [key, kids4 _ _ hk]; rfl
  · intro pre j rest acc h hI
    have hpl : pre.length < 4 := by have := congrArg List.length h; simp at this; omega
    have hj : j = pre.length := by
      have : (List.range 4)[pre.length]? = some j := by rw [h]; simp
      rw [List.getElem?_range hpl] at this; simpa using this.symm
    subst hj
    have hsub : ar .sub .i64 ((L + 1 : Nat) : Int) 1 = (L : Int) := by rw [subI (by omega)]; omega
    simp only
    have hm4 := mul4 x (by omega)
    have ha4 : ar .add .i64 ((x * 4 : Nat) : Int) ((pre.length : Nat) : Int) = ((x * 4 + pre.length : Nat) : Int) := add64 (by omega)
    have h4 : ((pre.length : Nat) : Int) < 4 := by omega
    simp only [cl, hn, Option.bind_some, hsub, idx_lv hL, hm4, ha4, h4, decide_true, cond_true, Int.ofNat_lt]
    rw [nxt (by omega)]
    by_cases hc : x * 4 + pre.length < (lv a L).length
    · simp only [hc, decide_true, cond_true, if_true]
      rw [app_small _ _ (by simp at hI ⊢; omega), Option.bind_some]
      exact ⟨rfl, by simp at hI ⊢; omega⟩
    · simp only [hc, decide_false, cond_false, if_false, true_and]
      omega
  · intro acc _
    simp only [List.length_range]
    rfl
end Go.Pl

namespace Go.Pl
open Go Go.Sw Go.Mo
theorem lp_brk {α β γ : Type} {step : α → Option (Step α (Ex β γ))} {x : α} {y : β} {k : β → Option γ} (h : loop step FUEL x = some (.brk y)) : lp step x k = k y := by unfold lp; rw [h]
theorem lp_ret {α β γ : Type} {step : α → Option (Step α (Ex β γ))} {x : α} {z : γ} {k : β → Option γ} (h : loop step FUEL x = some (.ret z)) : lp step x k = some z := by unfold lp; rw [h]
def ints (l : List Nat) : List Int := l.map fun (x : Nat) => (x : Int)
theorem ints_len (l : List Nat) : (ints l).length = l.length := by simp [ints]
theorem ints_append (l m : List Nat) : ints (l ++ m) = ints l ++ ints m := by simp [ints]
def nxl (a b : List (List Int)) (L : Nat) (now : List Nat) : List Nat := now.flatMap fun x => if vl a (L + 1) x = vl b (L + 1) x then [] else kids (lv a L).length x
theorem nxl_len (a b : List (List Int)) (L : Nat) (now : List Nat) : (nxl a b L now).length ≤ 4 * now.length := by
  unfold nxl
  induction now with
  | nil => simp
  | cons x now ih =>
    rw [List.flatMap_cons, List.length_append, List.length_cons]
    have : (if vl a (L + 1) x = vl b (L + 1) x then [] else kids (lv a L).length x).length ≤ 4 := by
      split
      · simp
      · exact kids_len _ _
    omega
theorem nxl_lt {a b : List (List Int)} {L : Nat} {now : List Nat} {k : Nat} (h : k ∈ nxl a b L now) : k < (lv a L).length := by
  unfold nxl at h
  obtain ⟨x, _, h⟩ := List.mem_flatMap.1 h
  split at h
  · simp at h
  · exact kids_lt h
/-- one level -/
def lvlOut (a b : List (List Int)) (L : Nat) (now : List Nat) (asked : Nat) (places : List Int) : Int × List Int × List Int :=
  (((asked + now.length : Nat) : Int), places ++ (match L with | 0 => ints (now.filter fun x => decide (vl a 0 x ≠ vl b 0 x)) | _ + 1 => []), (match L with | 0 => [] | L + 1 => ints (nxl a b L now)))
theorem level_lp {γ : Type} (a b : List (List Int)) (h : Two a b) (L : Nat) (now : List Nat) (asked : Nat) (places : List Int) (hL : L < a.length) (hnow : ∀ x ∈ now, x < (lv a L).length) (hnl : now.length ≤ 1000) (hask : asked ≤ 100000) (hpl : places.length ≤ 100000) (k : Int × List Int × List Int → Option γ) :
    lp (β := Int × (List Int) × (List Int)) (fun (s1161 : Int × Int × (List Int) × (List Int)) =>
        bif (cm .lss s1161.2.1 ((ints now).length : Int)) then
          jp (fun (x1286 : (List Int) × (List Int)) =>
            some (.next ((ar .add .i64 s1161.1 (1 : Int)), (ar .add .i64 s1161.2.1 (1 : Int)), x1286.1, x1286.2))
            ) fun k1285 =>
          (Sw.idx a (L : Int)).bind fun z1287 =>
            (Sw.idx (ints now) s1161.2.1).bind fun z1288 =>
              (Sw.idx z1287 z1288).bind fun z1289 =>
                (Sw.idx b (L : Int)).bind fun z1290 =>
                  (Sw.idx (ints now) s1161.2.1).bind fun z1291 =>
                    (Sw.idx z1290 z1291).bind fun z1292 =>
                      bif (cm .eql z1289 z1292) then
                        k1285 (s1161.2.2.1, s1161.2.2.2)
                      else
                        bif (cm .eql (L : Int) (0 : Int)) then
                          (Sw.idx (ints now) s1161.2.1).bind fun z1295 =>
                            (Sw.app s1161.2.2.1 ([z1295] : (List Int))).bind fun v1296 =>
                              k1285 (v1296, s1161.2.2.2)
                        else
                          lp (β := (List Int)) (fun (s1311 : Int × (List Int)) =>
                            bif (cm .lss s1311.1 (4 : Int)) then
                              (Sw.idx (ints now) s1161.2.1).bind fun z1321 =>
                                (Sw.idx a (ar .sub .i64 (L : Int) (1 : Int))).bind fun z1322 =>
                                  bif (cm .lss (ar .add .i64 (ar .mul .i64 z1321 (4 : Int)) s1311.1) (z1322.length : Int)) then
                                    (Sw.idx (ints now) s1161.2.1).bind fun z1324 =>
                                      (Sw.app s1311.2 ([(ar .add .i64 (ar .mul .i64 z1324 (4 : Int)) s1311.1)] : (List Int))).bind fun v1325 =>
                                        some (.next ((ar .add .i64 s1311.1 (1 : Int)), v1325))
                                  else
                                    some (.next ((ar .add .i64 s1311.1 (1 : Int)), s1311.2))
                            else
                              some (.done (.brk s1311.2))
                            ) ((0 : Int), s1161.2.2.2) fun (x1319 : (List Int)) =>
                          k1285 (s1161.2.2.1, x1319)
        else
          some (.done (.brk (s1161.1, s1161.2.2.1, s1161.2.2.2)))) ((asked : Int), (0 : Int), places, ([] : (List Int))) k = k (lvlOut a b L now asked places) := by
  have hlen := h.small L hL
  have hLb : L < b.length := by rw [← h.length]; exact hL
  have hd := chkT_depth h.ca
  rw [show ((asked : Int), (0 : Int), places, ([] : List Int)) = (fun (i : Nat) (acc : List Int × List Int) => (((asked + i : Nat) : Int), (i : Int), acc.1, acc.2)) 0 (places, []) from rfl]
  rw [lp_inv (l := now) (fun (i : Nat) (acc : List Int × List Int) => (((asked + i : Nat) : Int), (i : Int), acc.1, acc.2)) (fun i acc => acc.1.length ≤ places.length + i ∧ acc.2.length ≤ 4 * i) (places, [])
    (fun _ x acc => if vl a L x = vl b L x then acc else match L with | 0 => (acc.1 ++ [(x : Int)], acc.2) | L + 1 => (acc.1, acc.2 ++ ints (kids (lv a L).length x)))
    (fun acc => (((asked + now.length : Nat) : Int), acc.1, acc.2)) (by unfold FUEL; omega) ⟨by simp, by simp⟩]
  · congr 1
    unfold lvlOut
    have key : ∀ (l : List Nat) (q : Nat) (acc : List Int × List Int), (l.zipIdx q).foldl (fun acc x => if vl a L x.1 = vl b L x.1 then acc else match L with | 0 => (acc.1 ++ [(x.1 : Int)], acc.2) | L + 1 => (acc.1, acc.2 ++ ints (kids (lv a L).length x.1))) acc =
        (acc.1 ++ (match L with | 0 => ints (l.filter fun x => decide (vl a 0 x ≠ vl b 0 x)) | _ + 1 => []), acc.2 ++ (match L with | 0 => [] | L + 1 => ints (nxl a b L l))) := by
      intro l
      induction l with
      | nil => intro q acc; cases L <;> simp [nxl, ints]
      | cons x l ih =>
        intro q acc
        rw [List.zipIdx_cons, List.foldl_cons, ih]
        cases L with
        | zero =>
          by_cases he : vl a 0 x = vl b 0 x
          · simp [he]
          · simp [he, ints]
        | succ L =>
          by_cases he : vl a (L + 1) x = vl b (L + 1) x
          · simp [he, nxl]
          · simp [he, nxl, ints]
    rw [key]
    cases L <;> simp
  · intro pre x rest acc hl hI
    have hx := hnow x (by rw [hl]; simp)
    have hxb : x < (lv b L).length := by rw [← h.lv]; exact hx
    have hpl : pre.length < now.length := by rw [hl]; simp
    have hix : Sw.idx (ints now) ((pre.length : Nat) : Int) = some (x : Int) := idx_get (by unfold ints; rw [List.getElem?_map, hl]; simp)
    have hlt : ((pre.length : Nat) : Int) < (((ints now).length : Nat) : Int) := by rw [ints_len]; omega
    have hn1 : ar .add .i64 ((asked + pre.length : Nat) : Int) 1 = ((asked + (pre.length + 1) : Nat) : Int) := nxt (by omega)
    have hn2 : ar .add .i64 ((pre.length : Nat) : Int) 1 = ((pre.length + 1 : Nat) : Int) := nxt (by omega)
    simp only [cl, hlt, decide_true, cond_true, jp, idx_lv hL, idx_lv hLb, Option.bind_some, hix, idx_vl hx, idx_vl hxb, ce, hn1, hn2]
    by_cases he : vl a L x = vl b L x
    · simp only [he, decide_true, cond_true, if_true, true_and]
      omega
    · simp only [he, decide_false, cond_false, if_false]
      cases L with
      | zero =>
        have h0 : ((0 : Nat) : Int) = 0 := rfl
        simp only [h0, decide_true, cond_true]
        rw [app_small _ _ (by simp; omega), Option.bind_some]
        exact ⟨rfl, by simp; omega, by show acc.2.length ≤ _; omega⟩
      | succ L =>
        have h0 : ¬ ((L + 1 : Nat) : Int) = 0 := by omega
        have hk := h.kid hL hx
        have hs := h.small L (by omega)
        have hkl := kids_len (lv a L).length x
        have := kids_lp (γ := Step (Int × Int × List Int × List Int) (Ex (Int × List Int × List Int) γ)) a (ints now) L pre.length x acc.2 (by omega) (by omega) hix hk (by omega) (by omega)
          (fun x1319 => some (.next (((asked + (pre.length + 1) : Nat) : Int), ((pre.length + 1 : Nat) : Int), acc.1, x1319)))
        simp only [h0, decide_false, cond_false]
        simp only [cl, hix, Option.bind_some] at this
        rw [this]
        refine ⟨rfl, by show acc.1.length ≤ _; omega, ?_⟩
        show (acc.2 ++ ints _).length ≤ _
        rw [List.length_append, ints_len]; omega
  · intro acc _
    have : ¬ ((now.length : Nat) : Int) < (((ints now).length : Nat) : Int) := by rw [ints_len]; omega
    simp only [cl, this, decide_false, cond_false]
theorem differs_is (a b : List (List Int)) (h : Two a b) : m_ref_Differs a b = some ((dwn a b (a.length - 1) 0).1, (((dwn a b (a.length - 1) 0).2 : Nat) : Int)) := by
  have hd := chkT_depth h.ca
  have htop := chk_top a (by intro h; rw [h] at hd; simp at hd) (chkT_chk h.ca)
  have hb := bfs_is a b (a.length - 1) [0]
  simp only [List.map_cons, List.map_nil, List.flatten_cons, List.flatten_nil, List.sum_cons, List.sum_nil, List.append_nil, Nat.add_zero] at hb
  have hfin : (dwn a b (a.length - 1) 0) = bfs a b (a.length - 1) [0] := by rw [hb]
  rw [hfin]
  unfold m_ref_Differs
  have key : ∀ (L : Nat) (now : List Nat) (asked : Nat) (places : List Int) (f : Nat), L < a.length → (∀ x ∈ now, x < (lv a L).length) → now.length * 4 ^ L ≤ 64 → asked + 65 * (L + 1) ≤ 1000 → places.length ≤ 1000 → L + 1 < f →
      loop (fun (s663 : Int × Int × (List Int) × (List Int)) =>
    bif (cm .geq s663.2.1 (0 : Int)) then
      lp (β := Int × (List Int) × (List Int)) (fun (s1161 : Int × Int × (List Int) × (List Int)) =>
        bif (cm .lss s1161.2.1 (s663.2.2.2.length : Int)) then
          jp (fun (x1286 : (List Int) × (List Int)) =>
            some (.next ((ar .add .i64 s1161.1 (1 : Int)), (ar .add .i64 s1161.2.1 (1 : Int)), x1286.1, x1286.2))
            ) fun k1285 =>
          (Sw.idx a s663.2.1).bind fun z1287 =>
            (Sw.idx s663.2.2.2 s1161.2.1).bind fun z1288 =>
              (Sw.idx z1287 z1288).bind fun z1289 =>
                (Sw.idx b s663.2.1).bind fun z1290 =>
                  (Sw.idx s663.2.2.2 s1161.2.1).bind fun z1291 =>
                    (Sw.idx z1290 z1291).bind fun z1292 =>
                      bif (cm .eql z1289 z1292) then
                        k1285 (s1161.2.2.1, s1161.2.2.2)
                      else
                        bif (cm .eql s663.2.1 (0 : Int)) then
                          (Sw.idx s663.2.2.2 s1161.2.1).bind fun z1295 =>
                            (Sw.app s1161.2.2.1 ([z1295] : (List Int))).bind fun v1296 =>
                              k1285 (v1296, s1161.2.2.2)
                        else
                          lp (β := (List Int)) (fun (s1311 : Int × (List Int)) =>
                            bif (cm .lss s1311.1 (4 : Int)) then
                              (Sw.idx s663.2.2.2 s1161.2.1).bind fun z1321 =>
                                (Sw.idx a (ar .sub .i64 s663.2.1 (1 : Int))).bind fun z1322 =>
                                  bif (cm .lss (ar .add .i64 (ar .mul .i64 z1321 (4 : Int)) s1311.1) (z1322.length : Int)) then
                                    (Sw.idx s663.2.2.2 s1161.2.1).bind fun z1324 =>
                                      (Sw.app s1311.2 ([(ar .add .i64 (ar .mul .i64 z1324 (4 : Int)) s1311.1)] : (List Int))).bind fun v1325 =>
                                        some (.next ((ar .add .i64 s1311.1 (1 : Int)), v1325))
                                  else
                                    some (.next ((ar .add .i64 s1311.1 (1 : Int)), s1311.2))
                            else
                              some (.done (.brk s1311.2))
                            ) ((0 : Int), s1161.2.2.2) fun (x1319 : (List Int)) =>
                          k1285 (s1161.2.2.1, x1319)
        else
          some (.done (.brk (s1161.1, s1161.2.2.1, s1161.2.2.2)))
        ) (s663.1, (0 : Int), s663.2.2.1, ([] : (List Int))) fun (x1244 : Int × (List Int) × (List Int)) =>
      some (.next (x1244.1, (ar .sub .i64 s663.2.1 (1 : Int)), x1244.2.1, x1244.2.2))
    else
      (some (.done (.brk (s663.1, s663.2.2.1))) : Option (Step (Int × Int × (List Int) × (List Int)) (Ex (Int × (List Int)) ((List Int) × Int))))) f ((asked : Int), (L : Int), places, ints now) = some (.brk (((asked + (bfs a b L now).2 : Nat) : Int), places ++ (bfs a b L now).1)) := by
    intro L
    induction L with
    | zero =>
      intro now asked places f hL hnow hnl hask hpl hf
      obtain ⟨f, rfl⟩ : ∃ f', f = f' + 2 := ⟨f - 2, by omega⟩
      have hl := level_lp (γ := Step (Int × Int × (List Int) × (List Int)) (Ex (Int × (List Int)) ((List Int) × Int))) a b h 0 now asked places hL hnow (by simp at hnl; omega) (by omega) (by omega) (fun x1244 => some (.next (x1244.1, (ar .sub .i64 ((0 : Nat) : Int) (1 : Int)), x1244.2.1, x1244.2.2)))
      rw [loop]
      have e1 : cm .geq ((0 : Nat) : Int) 0 = true := rfl
      simp only [e1, cond_true]
      rw [hl]
      have e2 : ar .sub .i64 ((0 : Nat) : Int) 1 = -1 := by rw [subI (by omega)]; rfl
      simp only [e2, lvlOut]
      rw [loop]
      have e3 : cm .geq (-1 : Int) 0 = false := rfl
      simp only [e3, cond_false, bfs]
      rfl
    | succ L ih =>
      intro now asked places f hL hnow hnl hask hpl hf
      obtain ⟨f, rfl⟩ : ∃ f', f = f' + 1 := ⟨f - 1, by omega⟩
      have h4 : 1 ≤ 4 ^ L := Nat.one_le_pow _ _ (by omega)
      have hnl2 : now.length ≤ 64 := by
        have : now.length * 1 ≤ now.length * 4 ^ (L + 1) := Nat.mul_le_mul_left _ (Nat.one_le_pow _ _ (by omega))
        omega
      have hl := level_lp (γ := Step (Int × Int × (List Int) × (List Int)) (Ex (Int × (List Int)) ((List Int) × Int))) a b h (L + 1) now asked places hL hnow (by omega) (by omega) (by omega) (fun x1244 => some (.next (x1244.1, (ar .sub .i64 ((L + 1 : Nat) : Int) (1 : Int)), x1244.2.1, x1244.2.2)))
      rw [loop]
      have e1 : cm .geq ((L + 1 : Nat) : Int) 0 = true := by rw [cge]; simp; omega
      simp only [e1, cond_true]
      rw [hl]
      have e2 : ar .sub .i64 ((L + 1 : Nat) : Int) 1 = (L : Int) := by rw [subI (by omega)]; omega
      simp only [e2, lvlOut, List.append_nil]
      have hnx := nxl_len a b L now
      rw [ih (nxl a b L now) (asked + now.length) places f (by omega) (fun x hx => nxl_lt hx) (by
        have : (nxl a b L now).length * 4 ^ L ≤ 4 * now.length * 4 ^ L := Nat.mul_le_mul_right _ hnx
        rw [Nat.pow_succ] at hnl
        have e : 4 * now.length * 4 ^ L = now.length * (4 ^ L * 4) := by rw [Nat.mul_comm 4, Nat.mul_assoc, Nat.mul_comm 4]
        omega) (by omega) hpl (by omega)]
      simp only [bfs, nxl]
      congr 3
      push_cast; omega
  have hk := key (a.length - 1) [0] 0 [] FUEL (by omega) (by intro x hx; simp at hx; subst hx; rw [htop]; omega) (by
    have : 4 ^ (a.length - 1) ≤ 4 ^ 3 := Nat.pow_le_pow_right (by omega) (by omega)
    simp; omega) (by omega) (by simp) (by unfold FUEL; omega)
  rw [show ar .sub .i64 (a.length : Int) 1 = ((a.length - 1 : Nat) : Int) by rw [subI (by omega)]; omega]
  have e0 : ints [0] = [0] := rfl
  rw [e0, show ((0 : Nat) : Int) = 0 from rfl] at hk
  refine (lp_brk hk).trans ?_
  simp
theorem sameInts_self (l : List Int) (hl : l.length ≤ 1000000) : m_ref_SameInts l l = some true := by
  unfold m_ref_SameInts
  rw [cn, same_lp l l hl rfl]; simp
theorem diffs_true (a b : List (List Int)) (h1 : treeW a ∧ a.length ≤ 140737488355328) (h2 : treeW b ∧ b.length ≤ 140737488355328) : m_law_TreeDiffs a b = some true := by
  unfold m_law_TreeDiffs
  rw [huge_is a h1.2, huge_is b h2.2, Option.bind_some]
  cases ha : (a.any (fun l => decide (200 < l.length)) || decide (50 < a.length)) with
  | true => simp
  | false =>
    simp only [cond_false, Option.bind_some]
    cases hb : (b.any (fun l => decide (200 < l.length)) || decide (50 < b.length)) with
    | true => simp
    | false =>
      have hLa := huge_lvls h1.1 ha
      have hLb := huge_lvls h2.1 hb
      simp only [cond_false]
      rw [may_is a hLa, may_is b hLb, tdiff_is a b hLa hLb]
      simp only [Option.bind_some, jp, ce, cn]
      cases ca : chkT a with
      | false =>
        simp only [Bool.false_eq_true, if_false, Bool.false_and]
        simp [is_is, sameInts_self]
      | true =>
        simp only [if_true, Bool.true_and, decide_true, cond_true]
        cases cb : chkT b with
        | false => simp [is_is, sameInts_self]
        | true =>
          obtain ⟨i1, _⟩ := idx_root ca
          obtain ⟨i2, _⟩ := idx_root cb
          simp only [if_true, decide_true, cond_true, i1, i2, Option.bind_some]
          by_cases hl : (root a).length = (root b).length
          · have hl' : (((root a).length : Nat) : Int) = ((root b).length : Nat) := by omega
            have hd := chkT_depth ca
            have hdw := dwn_le a b (a.length - 1) 0
            have hp : 5 ^ (a.length - 1) ≤ 5 ^ 3 := Nat.pow_le_pow_right (by omega) (by omega)
            simp only [hl, hl', ne_eq, not_true_eq_false, decide_false, cond_false, decide_true, cond_true, if_true]
            rw [differs_is a b ⟨ca, cb, hl⟩]
            simp only [Option.bind_some, is_is, decide_true, cond_true]
            rw [sameInts_self _ (by omega)]
            simp
          · have hl' : ¬ (((root a).length : Nat) : Int) = ((root b).length : Nat) := by omega
            simp [hl, hl', is_is, sameInts_self]
theorem law_TreeDiffs (a b : List (List Int)) (h1 : Wf (Enc.one1 (Enc.sl (Enc.sl (Enc.int .u64)))) a) (h2 : Wf (Enc.one1 (Enc.sl (Enc.sl (Enc.int .u64)))) b) : m_law_TreeDiffs a b = some true :=
  diffs_true a b (wf_tree h1) (wf_tree h2)
end Go.Pl

namespace Go.Pl
open Go Go.Sw Go.Mo
theorem tree_lvls (bs : List Blk) (h : bs.length ≤ 32) : Lvls (tree bs) := ⟨fun l hl => ⟨(tree_all bs h l hl).1, by have := (tree_all bs h l hl).2; omega⟩, by have := tree_len bs; omega⟩
theorem goes_chk : ∀ {t : List (List Int)}, Goes t → chk t = true
  | [], h => h.elim
  | [l], h => by have : l.length = 1 := h; simp [chk, this]
  | l :: m :: t, h => by
    obtain ⟨h1, h2, h3⟩ := h
    have := goes_chk h3
    simp only [chk, Bool.and_eq_true, bne_iff_ne, ne_eq, beq_iff_eq]
    exact ⟨⟨by omega, h2.symm⟩, this⟩
theorem tree_chkT (bs : List Blk) (h1 : 1 ≤ bs.length) (h2 : bs.length ≤ 32) : chkT (tree bs) = true := by
  have := goes_chk (tree_goes bs h1)
  unfold tree at this ⊢
  simp only [chkT, Bool.and_eq_true, decide_eq_true_eq]
  exact ⟨⟨by simpa [leaves] using h1, by simpa [leaves] using h2⟩, this⟩
theorem lp_anyN {α β γ : Type} {step : α → Option (Step α (Ex β γ))} {k : β → Option γ} (n : Nat) (st : Nat → α) (bad : Nat → Bool) (z : γ) (y : β) (hf : n < FUEL)
    (hs : ∀ i, i < n → step (st i) = some (if bad i then .done (.ret z) else .next (st (i + 1)))) (he : step (st n) = some (.done (.brk y))) :
    lp step (st 0) k = if (List.range n).any bad then some z else k y := by
  refine lp_any (l := List.range n) st bad z y (by simpa using hf) ?_ (by simpa using he)
  intro pre x rest h
  have hpl : pre.length < n := by have := congrArg List.length h; simp at this; omega
  have hx : x = pre.length := by
    have : (List.range n)[pre.length]? = some x := by rw [h]; simp
    rw [List.getElem?_range hpl] at this; simpa using this.symm
  subst hx
  exact hs _ hpl
/-- how many nodes lie below one -/
def kn (a : List (List Int)) (L x : Nat) : Nat := min (lv a L).length (x * 4 + 4) - x * 4
def badN (a b : List (List Int)) (A B : List Blk) (lvl x : Nat) : Bool :=
  decide (vl a lvl x = vl b lvl x) && (match lvl with
    | 0 => !decide (A.getD x zblk = B.getD x zblk)
    | L + 1 => (List.range (kn a L x)).any fun i => decide (vl a L (x * 4 + i) ≠ vl b L (x * 4 + i)))
theorem idx_blk {A : List Blk} {x : Nat} (h : x < A.length) : Sw.idx A (x : Int) = some (A.getD x zblk) := by
  refine idx_get ?_
  rw [List.getD_eq_getElem?_getD, List.getElem?_eq_getElem h]; rfl
theorem kid_any (a b : List (List Int)) (h : Two a b) {γ : Type} (lvl x : Nat) (z : γ) (k : Unit → Option γ) (hl : lvl < a.length) (hx : x < (lv a lvl).length) :
    lp (β := Unit) (fun (s2438 : Int) =>
                            (bif (cm .gtr (lvl : Int) (0 : Int)) then
                              bif (cm .lss s2438 (ar .add .i64 (ar .mul .i64 (x : Int) (4 : Int)) (4 : Int))) then
                                (Sw.idx a (ar .sub .i64 (lvl : Int) (1 : Int))).bind fun z2460 =>
                                  some (cm .lss s2438 (z2460.length : Int))
                              else
                                some false
                            else
                              some false).bind fun x2457 =>
                              bif x2457 then
                                (Sw.idx a (ar .sub .i64 (lvl : Int) (1 : Int))).bind fun z2462 =>
                                  (Sw.idx z2462 s2438).bind fun z2463 =>
                                    (Sw.idx b (ar .sub .i64 (lvl : Int) (1 : Int))).bind fun z2464 =>
                                      (Sw.idx z2464 s2438).bind fun z2465 =>
                                        bif (cm .neq z2463 z2465) then
                                          some (.done (.ret z))
                                        else
                                          some (.next (ar .add .i64 s2438 (1 : Int)))
                              else
                                some (.done (.brk ()))
                            ) (ar .mul .i64 (x : Int) (4 : Int)) k =
      match lvl with
      | 0 => k ()
      | L + 1 => if (List.range (kn a L x)).any (fun i => decide (vl a L (x * 4 + i) ≠ vl b L (x * 4 + i))) then some z else k () := by
  have hsm := h.small lvl hl
  have hm4 := mul4 x (by omega)
  rw [hm4]
  cases lvl with
  | zero =>
    simp only
    rw [show ((x * 4 : Nat) : Int) = (fun (i : Nat) => ((x * 4 + i : Nat) : Int)) 0 from rfl]
    rw [lp_anyN 0 (fun (i : Nat) => ((x * 4 + i : Nat) : Int)) (fun _ => false) z () (by decide)]
    · simp
    · intro i hi; omega
    · have h0 : cm .gtr ((0 : Nat) : Int) 0 = false := by decide
      simp only [h0, cond_false, Option.bind_some]
  | succ L =>
    simp only
    have hL : L < a.length := by omega
    have hLb : L < b.length := by rw [← h.length]; omega
    have hsl := h.small L hL
    have hlt4 : a.length ≤ 4 := (chkT_depth h.ca).1
    have hk : x * 4 < (lv a L).length := h.kid hl hx
    have hsub : ar .sub .i64 ((L + 1 : Nat) : Int) 1 = (L : Int) := by rw [subI (by omega)]; omega
    have ha4 := add4 (x * 4) (by omega)
    have hg : cm .gtr ((L + 1 : Nat) : Int) 0 = true := by rw [cg]; simp
    rw [show ((x * 4 : Nat) : Int) = (fun (i : Nat) => ((x * 4 + i : Nat) : Int)) 0 from rfl]
    rw [lp_anyN (kn a L x) (fun (i : Nat) => ((x * 4 + i : Nat) : Int)) (fun i => decide (vl a L (x * 4 + i) ≠ vl b L (x * 4 + i))) z () (by unfold kn FUEL; omega)]
    · intro i hi
      have hi' : x * 4 + i < (lv a L).length ∧ x * 4 + i < x * 4 + 4 := by unfold kn at hi; omega
      have hib : x * 4 + i < (lv b L).length := by rw [← h.lv L]; exact hi'.1
      have e1 : cm .lss ((x * 4 + i : Nat) : Int) ((x * 4 + 4 : Nat) : Int) = true := by rw [cm_lss]; simpa using hi'.2
      have e2 : cm .lss ((x * 4 + i : Nat) : Int) ((lv a L).length : Int) = true := by rw [cm_lss]; simpa using hi'.1
      simp only [Nat.add_zero] at ha4 ⊢
      simp only [ha4, hg, e1, e2, hsub, idx_lv hL, idx_lv hLb, idx_vl hi'.1, idx_vl hib, cond_true, Option.bind_some, cn]
      rw [nxt (by omega)]
      by_cases hc : vl a L (x * 4 + i) = vl b L (x * 4 + i)
      · simp [hc]; omega
      · simp [hc]
    · simp only [Nat.add_zero] at ha4 ⊢
      simp only [ha4, hg, hsub, idx_lv hL, cond_true, Option.bind_some]
      have : ¬ (x * 4 + kn a L x < x * 4 + 4 ∧ x * 4 + kn a L x < (lv a L).length) := by unfold kn; omega
      by_cases hc : x * 4 + kn a L x < x * 4 + 4
      · have h2 : ¬ x * 4 + kn a L x < (lv a L).length := by omega
        simp only [cm_lss, hc, h2, decide_true, decide_false, cond_true, cond_false, Option.bind_some]
      · simp only [cm_lss, hc, decide_false, cond_false, Option.bind_some]
theorem clash_is (a b : List (List Int)) (A B : List Blk) (h : Two a b) (hA : A.length = (lv a 0).length) (hB : B.length = (lv a 0).length) :
    m_top_clash a b A B = some ((List.range a.length).any fun lvl => (List.range (lv a lvl).length).any (badN a b A B lvl)) := by
  have hlt4 : a.length ≤ 4 := (chkT_depth h.ca).1
  unfold m_top_clash
  show lp _ ((fun (i : Nat) => (i : Int)) 0) _ = _
  rw [lp_anyN a.length (fun (i : Nat) => (i : Int)) (fun lvl => (List.range (lv a lvl).length).any (badN a b A B lvl)) true () (by unfold FUEL; omega)]
  · by_cases hc : ((List.range a.length).any fun lvl => (List.range (lv a lvl).length).any (badN a b A B lvl)) = true
    · rw [if_pos hc, hc]
    · rw [if_neg hc]; simp only [Bool.not_eq_true] at hc; rw [hc]
  · intro lvl hl
    have hlb : lvl < b.length := by rw [← h.length]; exact hl
    have hsm := h.small lvl hl
    have e0 : cm .lss (lvl : Int) (a.length : Int) = true := by rw [cm_lss]; simpa using hl
    simp only [e0, cond_true]
    show lp _ ((fun (i : Nat) => (i : Int)) 0) _ = _
    rw [lp_anyN (lv a lvl).length (fun (i : Nat) => (i : Int)) (badN a b A B lvl) (.done (.ret true)) () (by unfold FUEL; omega)]
    · rw [nxt (by omega)]
      split <;> rfl
    · intro x hx
      have hxb : x < (lv b lvl).length := by rw [← h.lv lvl]; exact hx
      have e1 : cm .lss (x : Int) ((lv a lvl).length : Int) = true := by rw [cm_lss]; simpa using hx
      have e2 : cm .lss (x : Int) ((lv b lvl).length : Int) = true := by rw [cm_lss]; simpa using hxb
      have e4 : cm .neq (vl a lvl x) (vl b lvl x) = decide (vl a lvl x ≠ vl b lvl x) := cn _ _
      simp only [idx_lv hl, idx_lv hlb, e1, e2, cond_true, Option.bind_some, jp, idx_vl hx, idx_vl hxb, e4]
      rw [nxt (by omega)]
      by_cases hc : vl a lvl x = vl b lvl x
      · simp only [hc, ne_eq, not_true, decide_false, cond_false]
        have hz := kid_any a b h lvl x (γ := Step Int (Ex Unit (Step Int (Ex Unit Bool)))) (.done (.ret (.done (.ret true)))) (fun _ => some (.next ((x + 1 : Nat) : Int))) hl hx
        cases lvl with
        | zero =>
          have e3 : cm .eql ((0 : Nat) : Int) 0 = true := by decide
          simp only [e3, cond_true, idx_blk (A := A) (by omega : x < A.length), idx_blk (A := B) (by omega : x < B.length), Option.bind_some]
          by_cases hd : A.getD x zblk = B.getD x zblk
          · simp only [hd, decide_true, Bool.not_true, cond_false]
            refine hz.trans ?_
            have hb : badN a b A B 0 x = false := by simp only [badN, hc, hd, decide_true, Bool.true_and, Bool.not_true]
            rw [hb]; rfl
          · simp only [hd, decide_false, Bool.not_false, cond_true]
            have hb : badN a b A B 0 x = true := by simp only [badN, hc, hd, decide_true, decide_false, Bool.true_and, Bool.not_false]
            rw [hb]; rfl
        | succ L =>
          have e3 : cm .eql ((L + 1 : Nat) : Int) 0 = false := by rw [ce]; simp; omega
          simp only [e3, cond_false, Option.bind_some]
          refine hz.trans ?_
          simp only [badN, hc, decide_true, Bool.true_and]
          split <;> rfl
      · simp [badN, hc]
    · have e1 : cm .lss ((lv a lvl).length : Int) ((lv a lvl).length : Int) = false := lss_self
      simp only [idx_lv hl, e1, cond_false, Option.bind_some]
  · have e1 : cm .lss (a.length : Int) (a.length : Int) = false := lss_self
    simp only [e1, cond_false]
/-- what differs at a node differs below it -/
theorem lev_get (l : List Int) (at_ : Nat) (h : at_ < (lev l).length) : (lev l).getD at_ 0 = node ((l.drop (at_ * 4)).take 4) := by
  have h1 : at_ * 4 < l.length := by rw [lev_len] at h; omega
  unfold lev
  rw [List.getD_eq_getElem?_getD, List.getElem?_map, Sw.chunks_get (by omega) h1]; rfl
theorem kid_ne {a b : List (List Int)} (h : Two a b) {L x : Nat} (hL : L + 1 < a.length) (hx : x < (lv a (L + 1)).length) (hne : vl a (L + 1) x ≠ vl b (L + 1) x) :
    ∃ k ∈ kids (lv a L).length x, vl a L k ≠ vl b L k := by
  apply Classical.byContradiction
  intro hn
  have hall : ∀ k ∈ kids (lv a L).length x, vl a L k = vl b L k := fun k hk => Classical.byContradiction fun hc => hn ⟨k, hk, hc⟩
  apply hne
  have ca := chk_drop a L (chkT_chk h.ca) hL
  have cb := chk_drop b L (chkT_chk h.cb) (by rw [← h.length]; exact hL)
  have hxb : x < (lv b (L + 1)).length := by rw [← h.lv]; exact hx
  unfold vl
  rw [ca, cb, lev_get _ _ (by rw [← ca]; exact hx), lev_get _ _ (by rw [← cb]; exact hxb)]
  congr 1
  have hlen := h.lv L
  apply List.ext_getElem?
  intro i
  rw [List.getElem?_take, List.getElem?_take, List.getElem?_drop, List.getElem?_drop]
  by_cases hi : i < 4
  · simp only [hi, if_true]
    by_cases hk : x * 4 + i < (lv a L).length
    · have hm : x * 4 + i ∈ kids (lv a L).length x := by
        unfold kids
        exact List.mem_map.2 ⟨i, List.mem_range.2 (by omega), rfl⟩
      have := hall _ hm
      unfold vl at this
      rw [List.getD_eq_getElem?_getD, List.getD_eq_getElem?_getD, List.getElem?_eq_getElem hk, List.getElem?_eq_getElem (by omega)] at this
      rw [List.getElem?_eq_getElem hk, List.getElem?_eq_getElem (by omega)]
      simpa using this
    · rw [List.getElem?_eq_none (by omega), List.getElem?_eq_none (by omega)]
  · simp only [hi, if_false]
theorem one_at_least {a b : List (List Int)} (h : Two a b) : ∀ (L x : Nat), L < a.length → x < (lv a L).length → vl a L x ≠ vl b L x → 1 ≤ (dwn a b L x).1.length
  | 0, x, _, _, hne => by simp [dwn, hne]
  | L + 1, x, hL, hx, hne => by
    obtain ⟨k, hk, hkn⟩ := kid_ne h hL hx hne
    have := one_at_least h L k (by omega) (kids_lt hk) hkn
    simp only [dwn, hne, if_false]
    obtain ⟨y, hy⟩ : ∃ y, y ∈ (dwn a b L k).1 := by
      cases hd : (dwn a b L k).1 with
      | nil => rw [hd] at this; simp at this
      | cons y _ => exact ⟨y, by simp⟩
    refine List.length_pos_of_mem (a := y) (List.mem_flatten.2 ⟨_, List.mem_map.2 ⟨_, List.mem_map.2 ⟨k, hk, rfl⟩, rfl⟩, hy⟩)
theorem sum_asked (f : Nat → List Int × Nat) (B : Nat) : ∀ (l : List Nat), (∀ k ∈ l, (f k).2 ≤ 1 + B * (f k).1.length) →
    ((l.map f).map (·.2)).sum ≤ l.length + B * ((l.map f).map (·.1)).flatten.length
  | [], _ => by simp
  | k :: l, h => by
    have h1 := h k (by simp)
    have h2 := sum_asked f B l fun y hy => h y (by simp [hy])
    simp only [List.map_cons, List.sum_cons, List.flatten_cons, List.length_append, List.length_cons, Nat.mul_add] at h2 ⊢
    omega
theorem asked_le {a b : List (List Int)} (h : Two a b) : ∀ (L x : Nat), L < a.length → x < (lv a L).length → (dwn a b L x).2 ≤ 1 + 4 * L * (dwn a b L x).1.length
  | 0, x, _, _ => by unfold dwn; split <;> simp
  | L + 1, x, hL, hx => by
    by_cases hne : vl a (L + 1) x = vl b (L + 1) x
    · simp [dwn, hne]
    · have h1 := one_at_least h (L + 1) x hL hx hne
      have h2 := sum_asked (dwn a b L) (4 * L) (kids (lv a L).length x) fun k hk => asked_le h L k (by omega) (kids_lt hk)
      have h3 := kids_len (lv a L).length x
      simp only [dwn, hne, if_false] at h1 ⊢
      rw [show 4 * (L + 1) = 4 * L + 4 by omega, Nat.add_mul]
      omega
/-- the places lie within the node, each after the one before, and their leaves differ -/
theorem places_at {a b : List (List Int)} (h : Two a b) : ∀ (L x : Nat), L < a.length → x < (lv a L).length →
    (dwn a b L x).1.Pairwise (· < ·) ∧ ∀ y ∈ (dwn a b L x).1, ∃ j : Nat, y = (j : Int) ∧ x * 4 ^ L ≤ j ∧ j < (x + 1) * 4 ^ L ∧ j < (lv a 0).length ∧ vl a 0 j ≠ vl b 0 j
  | 0, x, _, hx => by
    by_cases hne : vl a 0 x = vl b 0 x
    · simp [dwn, hne]
    · refine ⟨by simp [dwn, hne], fun y hy => ?_⟩
      simp only [dwn, hne, if_false, List.mem_singleton] at hy
      exact ⟨x, hy, by simp, by simp, hx, hne⟩
  | L + 1, x, hL, hx => by
    by_cases hne : vl a (L + 1) x = vl b (L + 1) x
    · simp [dwn, hne]
    · have ih := fun k (hk : k ∈ kids (lv a L).length x) => places_at h L k (by omega) (kids_lt hk)
      simp only [dwn, hne, if_false]
      refine ⟨?_, fun y hy => ?_⟩
      · rw [List.pairwise_flatten]
        refine ⟨fun l hl => ?_, ?_⟩
        · obtain ⟨p, hp, rfl⟩ := List.mem_map.1 hl
          obtain ⟨k, hk, rfl⟩ := List.mem_map.1 hp
          exact (ih k hk).1
        · rw [List.pairwise_map, List.pairwise_map]
          have hk2 : (kids (lv a L).length x).Pairwise (· < ·) := by
            unfold kids
            rw [List.pairwise_map]
            exact List.pairwise_lt_range.imp fun hlt => by omega
          refine List.Pairwise.imp_of_mem ?_ hk2
          intro k m hk hm hlt y hy z hz
          obtain ⟨j, rfl, _, j2, _, _⟩ := (ih k hk).2 y hy
          obtain ⟨i, rfl, i1, _, _, _⟩ := (ih m hm).2 z hz
          have : (k + 1) * 4 ^ L ≤ m * 4 ^ L := Nat.mul_le_mul_right _ hlt
          omega
      · obtain ⟨l, hl, hyl⟩ := List.mem_flatten.1 hy
        obtain ⟨p, hp, rfl⟩ := List.mem_map.1 hl
        obtain ⟨k, hk, rfl⟩ := List.mem_map.1 hp
        obtain ⟨j, e, j1, j2, j3, j4⟩ := (ih k hk).2 y hyl
        have hk2 : x * 4 ≤ k ∧ k + 1 ≤ (x + 1) * 4 := by
          unfold kids at hk
          obtain ⟨i, hi, rfl⟩ := List.mem_map.1 hk
          have := List.mem_range.1 hi; omega
        have p1 : x * 4 * 4 ^ L ≤ k * 4 ^ L := Nat.mul_le_mul_right _ hk2.1
        have p2 : (k + 1) * 4 ^ L ≤ (x + 1) * 4 * 4 ^ L := Nat.mul_le_mul_right _ hk2.2
        have e4 : ∀ n, n * 4 * 4 ^ L = n * 4 ^ (L + 1) := fun n => by rw [Nat.pow_succ, Nat.mul_assoc, Nat.mul_comm 4]
        rw [e4] at p1 p2
        exact ⟨j, e, by omega, by omega, j3, j4⟩
/-- what differs all the way up is a place -/
theorem lv_div {a b : List (List Int)} (h : Two a b) : ∀ (L i : Nat), L < a.length → i < (lv a 0).length → i / 4 ^ L < (lv a L).length
  | 0, i, _, hi => by simpa using hi
  | L + 1, i, hL, hi => by
    have := lv_div h L i (by omega) hi
    rw [chk_drop a L (chkT_chk h.ca) hL, lev_len, Nat.pow_succ, ← Nat.div_div_eq_div_mul]
    omega
theorem place_of {a b : List (List Int)} (h : Two a b) (i : Nat) (hi : i < (lv a 0).length) : ∀ L, L < a.length → (∀ l, l ≤ L → vl a l (i / 4 ^ l) ≠ vl b l (i / 4 ^ l)) → (i : Int) ∈ (dwn a b L (i / 4 ^ L)).1
  | 0, _, hall => by
    have := hall 0 (by omega)
    simp only [Nat.pow_zero, Nat.div_one] at this ⊢
    simp [dwn, this]
  | L + 1, hL, hall => by
    have ih := place_of h i hi L (by omega) fun l hl => hall l (by omega)
    have hne := hall (L + 1) (by omega)
    simp only [dwn, hne, if_false]
    have hd := lv_div h L i (by omega) hi
    refine List.mem_flatten.2 ⟨_, List.mem_map.2 ⟨_, List.mem_map.2 ⟨i / 4 ^ L, ?_, rfl⟩, rfl⟩, ih⟩
    unfold kids
    have e : i / 4 ^ (L + 1) = i / 4 ^ L / 4 := by rw [Nat.pow_succ, Nat.div_div_eq_div_mul]
    rw [e]
    exact List.mem_map.2 ⟨i / 4 ^ L % 4, List.mem_range.2 (by omega), by omega⟩
theorem clash_true (a b : List (List Int)) (A B : List Blk) (h : Two a b) (hA : A.length = (lv a 0).length) (hB : B.length = (lv a 0).length) (i : Nat) (hi : i < (lv a 0).length)
    (hn : (i : Int) ∉ (dwn a b (a.length - 1) 0).1) (hd : A.getD i zblk ≠ B.getD i zblk) : m_top_clash a b A B = some true := by
  rw [clash_is a b A B h hA hB]
  congr 1
  have ha0 : a ≠ [] := by intro e; have := h.ca; rw [e] at this; simp [chkT] at this
  have ha : 0 < a.length := List.length_pos_iff.2 ha0
  have htop : i / 4 ^ (a.length - 1) = 0 := by
    have h1 := lv_div h (a.length - 1) i (by omega) hi
    rw [chk_top a ha0 (chkT_chk h.ca)] at h1; exact Nat.lt_one_iff.1 h1
  have key : ∀ L, L < a.length → (∀ l, l ≤ L → vl a l (i / 4 ^ l) ≠ vl b l (i / 4 ^ l)) ∨ ∃ l x, l ≤ L ∧ x < (lv a l).length ∧ badN a b A B l x = true := by
    intro L
    induction L with
    | zero =>
      intro _
      by_cases hc : vl a 0 i = vl b 0 i
      · refine Or.inr ⟨0, i, by omega, hi, ?_⟩
        simp only [badN, hc, hd, decide_true, decide_false, Bool.true_and, Bool.not_false]
      · refine Or.inl fun l hl => ?_
        have : l = 0 := by omega
        subst this
        simpa using hc
    | succ L ih =>
      intro hL
      rcases ih (by omega) with h1 | ⟨l, x, h1, h2, h3⟩
      · by_cases hc : vl a (L + 1) (i / 4 ^ (L + 1)) = vl b (L + 1) (i / 4 ^ (L + 1))
        · refine Or.inr ⟨L + 1, i / 4 ^ (L + 1), by omega, lv_div h (L + 1) i hL hi, ?_⟩
          simp only [badN, hc, decide_true, Bool.true_and]
          have hdv := lv_div h L i (by omega) hi
          have e : i / 4 ^ (L + 1) = i / 4 ^ L / 4 := by rw [Nat.pow_succ, Nat.div_div_eq_div_mul]
          refine List.any_eq_true.2 ⟨i / 4 ^ L % 4, List.mem_range.2 ?_, ?_⟩
          · unfold kn; rw [e]; omega
          · have e2 : i / 4 ^ (L + 1) * 4 + i / 4 ^ L % 4 = i / 4 ^ L := by rw [e]; omega
            rw [e2]
            simpa using h1 L (by omega)
        · refine Or.inl fun l hl => ?_
          rcases Nat.lt_or_ge l (L + 1) with hl2 | hl2
          · exact h1 l (by omega)
          · have : l = L + 1 := by omega
            subst this; exact hc
      · exact Or.inr ⟨l, x, by omega, h2, h3⟩
  rcases key (a.length - 1) (by omega) with h1 | ⟨l, x, h1, h2, h3⟩
  · have := place_of h i hi (a.length - 1) (by omega) h1
    rw [htop] at this
    exact absurd this hn
  · exact List.any_eq_true.2 ⟨l, List.mem_range.2 (by omega), List.any_eq_true.2 ⟨x, List.mem_range.2 h2, h3⟩⟩
theorem leaf_at (A : List Blk) (i : Nat) (h : i < A.length) : vl (tree A) 0 i = leaf (A.getD i zblk) := by
  unfold vl lv tree leaves
  rw [List.getD_cons_zero, List.getD_eq_getElem?_getD, List.getElem?_map, List.getD_eq_getElem?_getD, List.getElem?_eq_getElem h]; rfl
theorem tree_two (A B : List Blk) (N : Nat) (h1 : 1 ≤ N) (h2 : N ≤ 32) (hA : A.length = N) (hB : B.length = N) : Two (tree A) (tree B) :=
  ⟨tree_chkT A (by omega) (by omega), tree_chkT B (by omega) (by omega), by simp [lv, tree, leaves, hA, hB]⟩
theorem mem_at {P pre rest : List Int} {y : Int} (h : P = pre ++ y :: rest) : y ∈ P := by rw [h]; simp
theorem walk_true (A B : List Blk) (N : Nat) (h1 : 1 ≤ N) (h2 : N ≤ 32) (hA : A.length = N) (hB : B.length = N) (P : List Int) (hP : P = (dwn (tree A) (tree B) ((tree A).length - 1) 0).1) :
    lp (β := Int) (fun (s137 : Int × Int) =>
                            bif (cm .lss s137.2 (N : Int)) then
                              jp (fun (x202 : Int) =>
                                some (.next (x202, (ar .add .i64 s137.2 (1 : Int))))
                                ) fun k201 =>
                              (bif (cm .lss s137.1 (P.length : Int)) then
                                (Sw.idx P s137.1).bind fun z207 =>
                                  some (cm .eql z207 s137.2)
                              else
                                some false).bind fun x205 =>
                                bif x205 then
                                  (Sw.idx A s137.2).bind fun z209 =>
                                    (Sw.idx B s137.2).bind fun z210 =>
                                      bif (decide (z209 = z210)) then
                                        some (.done (.ret false))
                                      else
                                        k201 (ar .add .i64 s137.1 (1 : Int))
                                else
                                  ((Sw.idx A s137.2).bind fun z217 =>
                                    (Sw.idx B s137.2).bind fun z218 =>
                                      bif (!decide (z217 = z218)) then
                                        (m_top_clash (tree A) (tree B) A B).bind fun v220 =>
                                          some (!v220)
                                      else
                                        some false).bind fun x216 =>
                                    bif x216 then
                                      some (.done (.ret false))
                                    else
                                      k201 s137.1
                            else
                              some (.done (.brk s137.1))) ((0 : Int), (0 : Int)) (fun (x180 : Int) => some (cm .eql x180 (P.length : Int))) = some true := by
  have htw := tree_two A B N h1 h2 hA hB
  have hl0 : (lv (tree A) 0).length = N := by simp [lv, tree, leaves, hA]
  have ht0 : 0 < (tree A).length := by simp [tree]
  have hroot : (lv (tree A) ((tree A).length - 1)).length = 1 := chk_top _ (by simp [tree]) (chkT_chk htw.ca)
  obtain ⟨hsort, hat⟩ := places_at htw ((tree A).length - 1) 0 (by omega) (by omega)
  rw [← hP] at hsort hat
  have hat2 : ∀ y ∈ P, ∃ j : Nat, y = (j : Int) ∧ j < N ∧ A.getD j zblk ≠ B.getD j zblk := by
    intro y hy
    obtain ⟨j, e, _, _, j3, j4⟩ := hat y hy
    rw [hl0] at j3
    refine ⟨j, e, j3, fun hc => j4 ?_⟩
    rw [leaf_at A j (by omega), leaf_at B j (by omega), hc]
  have hPl : P.length ≤ 1000000 := by
    have := (dwn_le (tree A) (tree B) ((tree A).length - 1) 0).2
    rw [← hP] at this
    have h4 := (chkT_depth htw.ca).1
    have : 5 ^ ((tree A).length - 1) ≤ 5 ^ 3 := Nat.pow_le_pow_right (by omega) (by omega)
    omega
  obtain ⟨k, ⟨pre, rest, hk1, hk2, hk3, hk4⟩, hk⟩ := lp_ex (γ := Bool) (step := (fun (s137 : Int × Int) =>
                            bif (cm .lss s137.2 (N : Int)) then
                              jp (fun (x202 : Int) =>
                                some (.next (x202, (ar .add .i64 s137.2 (1 : Int))))
                                ) fun k201 =>
                              (bif (cm .lss s137.1 (P.length : Int)) then
                                (Sw.idx P s137.1).bind fun z207 =>
                                  some (cm .eql z207 s137.2)
                              else
                                some false).bind fun x205 =>
                                bif x205 then
                                  (Sw.idx A s137.2).bind fun z209 =>
                                    (Sw.idx B s137.2).bind fun z210 =>
                                      bif (decide (z209 = z210)) then
                                        some (.done (.ret false))
                                      else
                                        k201 (ar .add .i64 s137.1 (1 : Int))
                                else
                                  ((Sw.idx A s137.2).bind fun z217 =>
                                    (Sw.idx B s137.2).bind fun z218 =>
                                      bif (!decide (z217 = z218)) then
                                        (m_top_clash (tree A) (tree B) A B).bind fun v220 =>
                                          some (!v220)
                                      else
                                        some false).bind fun x216 =>
                                    bif x216 then
                                      some (.done (.ret false))
                                    else
                                      k201 s137.1
                            else
                              some (.done (.brk s137.1)))) (k := fun (x180 : Int) => some (cm .eql x180 (P.length : Int))) (fun (i k : Nat) => ((k : Int), (i : Int))) (fun (k : Nat) => (k : Int)) N
      (fun i k => ∃ pre rest, P = pre ++ rest ∧ k = pre.length ∧ (∀ y ∈ pre, y < (i : Int)) ∧ (∀ y ∈ rest, (i : Int) ≤ y)) 0 (by unfold FUEL; omega)
    ⟨[], P, rfl, rfl, fun y hy => by simp at hy, fun y hy => by obtain ⟨j, rfl, _⟩ := hat2 y hy; omega⟩
    (fun i k hi hI => by
      obtain ⟨pre, rest, hk1, hk2, hk3, hk4⟩ := hI
      have hlt : (i : Int) < (N : Int) := by omega
      have hni : i + 1 ≤ 4611686018427387904 := by omega
      by_cases hc : ∃ r, rest = (i : Int) :: r
      · obtain ⟨r, rfl⟩ := hc
        obtain ⟨j, hj, _, hne⟩ := hat2 (i : Int) (mem_at hk1)
        have : j = i := by omega
        subst this
        have e1 : cm .lss (k : Int) (P.length : Int) = true := by rw [hk2]; exact lss_len hk1
        have e2 : Sw.idx P (k : Int) = some (j : Int) := by rw [hk2]; exact idx_len hk1
        have e3 : cm .eql (j : Int) (j : Int) = true := by rw [ce]; simp
        have hkl : k ≤ 1000000 := by have := congrArg List.length hk1; simp at this; omega
        refine ⟨k + 1, ?_, pre ++ [(j : Int)], r, by rw [hk1]; simp, by simp [hk2], ?_, ?_⟩
        · simp only [cl, hlt, decide_true, cond_true, jp]
          simp only [e2, e3, Option.bind_some]
          have e1' : decide ((k : Int) < (P.length : Int)) = true := e1
          simp only [e1', cond_true, Option.bind_some, idx_blk (A := A) (by omega : j < A.length), idx_blk (A := B) (by omega : j < B.length), hne, decide_false, cond_false]
          rw [nxt (by omega), nxt (by omega)]
        · intro y hy
          rcases List.mem_append.1 hy with hy | hy
          · have := hk3 y hy; omega
          · simp at hy; omega
        · intro y hy
          rw [hk1, List.pairwise_append] at hsort
          have := (List.pairwise_cons.1 hsort.2.1).1 y hy
          omega
      · have hnot : (i : Int) ∉ P := by
          intro hm
          rw [hk1] at hm
          rcases List.mem_append.1 hm with hm | hm
          · have := hk3 _ hm; omega
          · cases rest with
            | nil => simp at hm
            | cons y r =>
              rcases List.mem_cons.1 hm with hm | hm
              · exact hc ⟨r, by rw [hm]⟩
              · rw [hk1, List.pairwise_append] at hsort
                have h5 := (List.pairwise_cons.1 hsort.2.1).1 _ hm
                have h6 := hk4 y (by simp)
                omega
        have hcond : ((bif (cm .lss (k : Int) (P.length : Int)) then
                                (Sw.idx P (k : Int)).bind fun z207 =>
                                  some (cm .eql z207 (i : Int))
                              else
                                some false) : Option Bool) = some false := by
          cases rest with
          | nil =>
            have : cm .lss (k : Int) (P.length : Int) = false := by rw [hk2, hk1, List.append_nil]; exact lss_self
            rw [this]; rfl
          | cons y r =>
            have e1 : cm .lss (k : Int) (P.length : Int) = true := by rw [hk2]; exact lss_len hk1
            have e2 : Sw.idx P (k : Int) = some y := by rw [hk2]; exact idx_len hk1
            have hne : ¬ y = (i : Int) := fun e => hc ⟨r, by rw [e]⟩
            rw [e1, cond_true, e2, Option.bind_some, ce]
            simp [hne]
        have hrest : ∀ y ∈ rest, ((i + 1 : Nat) : Int) ≤ y := by
          intro y hy
          have h5 := hk4 y hy
          have h6 : y ≠ (i : Int) := fun e => hnot (by rw [hk1, ← e]; simp [hy])
          omega
        refine ⟨k, ?_, pre, rest, hk1, hk2, fun y hy => by have := hk3 y hy; omega, hrest⟩
        have e0 : cm .lss (i : Int) (N : Int) = true := by rw [cl]; simp; omega
        simp only [e0, cond_true, jp, hcond, Option.bind_some, cond_false, idx_blk (A := A) (by omega : i < A.length), idx_blk (A := B) (by omega : i < B.length)]
        rw [nxt (by omega)]
        by_cases hd : A.getD i zblk = B.getD i zblk
        · simp only [hd, decide_true, Bool.not_true, cond_false, Option.bind_some]
        · have := clash_true (tree A) (tree B) A B htw (by omega) (by omega) i (by omega) (by rw [← hP]; exact hnot) hd
          simp only [hd, decide_false, Bool.not_false, cond_true, this, Option.bind_some, Bool.not_true, cond_false])
    (fun k _ => by
      have e0 : cm .lss (N : Int) (N : Int) = false := lss_self
      simp only [e0, cond_false])
  refine hk.trans ?_
  have : rest = [] := by
    cases rest with
    | nil => rfl
    | cons y r =>
      have h5 := hk4 y (by simp)
      obtain ⟨j, rfl, hj, _⟩ := hat2 y (mem_at hk1)
      omega
  rw [hk2, hk1, this, List.append_nil, ce]
  simp
theorem ends_true (A B : List Blk) (N : Nat) (h1 : 1 ≤ N) (h2 : N ≤ 32) (hA : A.length = N ∧ Blks A) (hB : B.length = N ∧ Blks B) : (
            (m_tree_Of A).bind fun v35 =>
              (m_tree_Of B).bind fun v37 =>
                (bif (Option.isSome v35.2) then
                  some true
                else
                  bif (Option.isSome v37.2) then
                    some true
                  else
                    bif (cm .eql (v35.1.length : Int) (0 : Int)) then
                      some true
                    else
                      some (cm .neq (v35.1.length : Int) (v37.1.length : Int))).bind fun x41 =>
                  bif x41 then
                    some false
                  else
                    (m_tree_Diff v35.1 v37.1).bind fun v46 =>
                      (bif (Option.isSome v46.2.2) then
                        some true
                      else
                        bif (cm .lss v46.2.1 (1 : Int)) then
                          some true
                        else
                          some (cm .gtr v46.2.1 (ar .add .i64 (ar .mul .i64 (ar .mul .i64 (v46.1.length : Int) (4 : Int)) (v35.1.length : Int)) (1 : Int)))).bind fun x49 =>
                        bif x49 then
                          some false
                        else
                          lp (β := Int) (fun (s137 : Int × Int) =>
                            bif (cm .lss s137.2 (N : Int)) then
                              jp (fun (x202 : Int) =>
                                some (.next (x202, (ar .add .i64 s137.2 (1 : Int))))
                                ) fun k201 =>
                              (bif (cm .lss s137.1 (v46.1.length : Int)) then
                                (Sw.idx v46.1 s137.1).bind fun z207 =>
                                  some (cm .eql z207 s137.2)
                              else
                                some false).bind fun x205 =>
                                bif x205 then
                                  (Sw.idx A s137.2).bind fun z209 =>
                                    (Sw.idx B s137.2).bind fun z210 =>
                                      bif (decide (z209 = z210)) then
                                        some (.done (.ret false))
                                      else
                                        k201 (ar .add .i64 s137.1 (1 : Int))
                                else
                                  ((Sw.idx A s137.2).bind fun z217 =>
                                    (Sw.idx B s137.2).bind fun z218 =>
                                      bif (!decide (z217 = z218)) then
                                        (m_top_clash v35.1 v37.1 A B).bind fun v220 =>
                                          some (!v220)
                                      else
                                        some false).bind fun x216 =>
                                    bif x216 then
                                      some (.done (.ret false))
                                    else
                                      k201 s137.1
                            else
                              some (.done (.brk s137.1))
                            ) ((0 : Int), (0 : Int)) fun (x180 : Int) =>
                          some (cm .eql x180 (v46.1.length : Int)) ) = some true := by
  have htw := tree_two A B N h1 h2 hA.1 hB.1
  have hr : (root (tree A)).length = (root (tree B)).length := htw.len
  have ht0 : 0 < (tree A).length := by simp [tree]
  have hroot : (lv (tree A) ((tree A).length - 1)).length = 1 := chk_top _ (by simp [tree]) (chkT_chk htw.ca)
  have hask := asked_le htw ((tree A).length - 1) 0 (by omega) (by omega)
  have hask1 : 1 ≤ (dwn (tree A) (tree B) ((tree A).length - 1) 0).2 := by
    cases (tree A).length - 1 with
    | zero => unfold dwn; split <;> simp
    | succ L => unfold dwn; split <;> simp
  have hle := (dwn_le (tree A) (tree B) ((tree A).length - 1) 0)
  have h4 := (chkT_depth htw.ca).1
  have hp5 : 5 ^ ((tree A).length - 1) ≤ 5 ^ 3 := Nat.pow_le_pow_right (by omega) (by omega)
  have n1 : ¬ (A.length < 1 ∨ A.length > 32) := by omega
  have n2 : ¬ (B.length < 1 ∨ B.length > 32) := by omega
  rw [of_is A hA.2 (by omega), of_is B hB.2 (by omega)]
  simp only [n1, n2, if_false, Option.bind_some, Option.isSome_none, cond_false]
  rw [tdiff_is _ _ (tree_lvls A (by omega)) (tree_lvls B (by omega)), htw.ca, htw.cb]
  have e1 : cm .eql ((tree A).length : Int) 0 = false := by rw [ce]; exact decide_eq_false (by omega)
  have e2 : cm .neq ((tree A).length : Int) ((tree B).length : Int) = false := by rw [cn, htw.length]; simp
  simp only [e1, e2, cond_false, Option.bind_some, Bool.and_self, if_true, hr, Option.isSome_none]
  have e3 : cm .lss (((dwn (tree A) (tree B) ((tree A).length - 1) 0).2 : Nat) : Int) 1 = false := by rw [cl]; exact decide_eq_false (by omega)
  rw [e3, show ar .mul .i64 (((dwn (tree A) (tree B) ((tree A).length - 1) 0).1.length : Nat) : Int) 4 = (((dwn (tree A) (tree B) ((tree A).length - 1) 0).1.length * 4 : Nat) : Int) from mul64 (b := 4) (by omega)]
  have hm : (dwn (tree A) (tree B) ((tree A).length - 1) 0).1.length * 4 * (tree A).length ≤ 125 * 4 * 4 := Nat.mul_le_mul (Nat.mul_le_mul_right _ (by omega)) h4
  rw [mul64 (by omega), nxt (by omega), cm_gtr]
  have hm2 : 4 * ((tree A).length - 1) * (dwn (tree A) (tree B) ((tree A).length - 1) 0).1.length ≤ (dwn (tree A) (tree B) ((tree A).length - 1) 0).1.length * 4 * (tree A).length := by
    rw [Nat.mul_comm _ 4, Nat.mul_right_comm 4]
    exact Nat.mul_le_mul_left _ (by omega)
  have e4 : decide ((dwn (tree A) (tree B) ((tree A).length - 1) 0).1.length * 4 * (tree A).length + 1 < (dwn (tree A) (tree B) ((tree A).length - 1) 0).2) = false := decide_eq_false (by omega)
  rw [e4]
  simp only [cond_false, Option.bind_some]
  exact walk_true A B N h1 h2 hA.1 hB.1 _ rfl
theorem law_TopDiff (raw : List Int) (n at_ more : Int) (h1 : Wf (Enc.sl (Enc.int .i64)) raw) (h2 : Wf (Enc.int .i64) n) (h3 : Wf (Enc.int .i64) at_) (h4 : Wf (Enc.int .i64) more) : m_top_TopDiff raw n at_ more = some true := by
  unfold m_top_TopDiff
  rw [cg]
  by_cases hlen : (raw.length : Int) > 128
  · simp [hlen]
  · have hraw := wf_raws h1 (by omega)
    simp only [hlen, decide_false, cond_false]
    rw [pick_is (wf_i64 h2) (by omega), pick_is (wf_i64 h3) (by omega)]
    obtain ⟨p0, p1⟩ := pick_lt (c := n) (n := 32) (by omega)
    obtain ⟨q0, q1⟩ := pick_lt (c := at_) (n := 100) (by omega)
    obtain ⟨N, hN⟩ : ∃ N : Nat, ar .add .i64 1 (pick n 32) = (N : Int) ∧ 1 ≤ N ∧ N ≤ 32 := ⟨(1 + pick n 32).toNat, by rw [addI (by omega)]; omega, by omega, by omega⟩
    obtain ⟨Q, hQ⟩ : ∃ Q : Nat, pick at_ 100 = (Q : Int) := ⟨(pick at_ 100).toNat, by omega⟩
    simp only [Option.bind_some, hN.1, hQ]
    obtain ⟨A, hb1, hb2, hb3⟩ := blocksFrom_ok hraw Q N (by omega) (by omega)
    rw [hb1, Option.bind_some, own_is A (by omega), Option.bind_some]
    obtain ⟨r0, r1⟩ := pick_lt (c := more) (n := 8) (by omega)
    rw [pick_is (wf_i64 h4) (by omega)]
    obtain ⟨B, ⟨hm1, hm2⟩, hm3⟩ := lp_ex (γ := Bool) (step := (fun (s20 : Int × (List Blk)) =>
              (some (pick more 8)).bind fun v29 =>
                bif (cm .lss s20.1 v29) then
                  (m_ref_Raw raw (ar .add .i64 s20.1 (3 : Int))).bind fun v31 =>
                    (m_ref_Pick v31 (N : Int)).bind fun v32 =>
                      (m_ref_BlockFrom raw (ar .add .i64 s20.1 (5 : Int))).bind fun v33 =>
                        (Sw.idx s20.2 v32).bind fun _ =>
                          some (.next ((ar .add .i64 s20.1 (1 : Int)), (List.set s20.2 (Int.toNat v32) v33)))
                else
                  some (.done (.brk s20.2)))) (k := fun (B : (List Blk)) =>
            (m_tree_Of A).bind fun v35 =>
              (m_tree_Of B).bind fun v37 =>
                (bif (Option.isSome v35.2) then
                  some true
                else
                  bif (Option.isSome v37.2) then
                    some true
                  else
                    bif (cm .eql (v35.1.length : Int) (0 : Int)) then
                      some true
                    else
                      some (cm .neq (v35.1.length : Int) (v37.1.length : Int))).bind fun x41 =>
                  bif x41 then
                    some false
                  else
                    (m_tree_Diff v35.1 v37.1).bind fun v46 =>
                      (bif (Option.isSome v46.2.2) then
                        some true
                      else
                        bif (cm .lss v46.2.1 (1 : Int)) then
                          some true
                        else
                          some (cm .gtr v46.2.1 (ar .add .i64 (ar .mul .i64 (ar .mul .i64 (v46.1.length : Int) (4 : Int)) (v35.1.length : Int)) (1 : Int)))).bind fun x49 =>
                        bif x49 then
                          some false
                        else
                          lp (β := Int) (fun (s137 : Int × Int) =>
                            bif (cm .lss s137.2 (N : Int)) then
                              jp (fun (x202 : Int) =>
                                some (.next (x202, (ar .add .i64 s137.2 (1 : Int))))
                                ) fun k201 =>
                              (bif (cm .lss s137.1 (v46.1.length : Int)) then
                                (Sw.idx v46.1 s137.1).bind fun z207 =>
                                  some (cm .eql z207 s137.2)
                              else
                                some false).bind fun x205 =>
                                bif x205 then
                                  (Sw.idx A s137.2).bind fun z209 =>
                                    (Sw.idx B s137.2).bind fun z210 =>
                                      bif (decide (z209 = z210)) then
                                        some (.done (.ret false))
                                      else
                                        k201 (ar .add .i64 s137.1 (1 : Int))
                                else
                                  ((Sw.idx A s137.2).bind fun z217 =>
                                    (Sw.idx B s137.2).bind fun z218 =>
                                      bif (!decide (z217 = z218)) then
                                        (m_top_clash v35.1 v37.1 A B).bind fun v220 =>
                                          some (!v220)
                                      else
                                        some false).bind fun x216 =>
                                    bif x216 then
                                      some (.done (.ret false))
                                    else
                                      k201 s137.1
                            else
                              some (.done (.brk s137.1))
                            ) ((0 : Int), (0 : Int)) fun (x180 : Int) =>
                          some (cm .eql x180 (v46.1.length : Int))) (fun (i : Nat) (b : List Blk) => ((i : Int), b)) id (pick more 8).toNat (fun _ b => b.length = N ∧ Blks b) A (by unfold FUEL; omega) ⟨hb2, hb3⟩
      (fun i b hi hb => by
        have hlt : (i : Int) < pick more 8 := by omega
        obtain ⟨v, hv, hvl⟩ := raw_is hraw (i + 3) (by omega)
        have hvI : I64 (v : Int) := by unfold I64; omega
        obtain ⟨s0, s1⟩ := pick_lt (c := (v : Int)) (n := (N : Int)) (by omega)
        obtain ⟨x, hx1, hx2⟩ := blockFrom_ok hraw (i + 5) (by omega)
        obtain ⟨y, hy, _⟩ := idx_nat (l := b) (n := pick (v : Int) (N : Int)) s0 (by rw [hb.1]; exact s1)
        have e1 : ar .add .i64 (i : Int) 3 = ((i + 3 : Nat) : Int) := add64 (b := 3) (by omega)
        have e2 : ar .add .i64 (i : Int) 5 = ((i + 5 : Nat) : Int) := add64 (b := 5) (by omega)
        refine ⟨List.set b (Int.toNat (pick (v : Int) (N : Int))) x, ?_, by simpa using hb.1, fun z hz => ?_⟩
        · simp only [Option.bind_some, cl, hlt, decide_true, cond_true, e1, e2, hv, pick_is hvI (show (0 : Int) < (N : Int) by omega), hx1, hy]
          rw [nxt (by omega)]
        · rcases List.mem_or_eq_of_mem_set hz with hz | rfl
          · exact hb.2 z hz
          · exact hx2)
      (fun b hb => by
        have hlt : ¬ (((pick more 8).toNat : Nat) : Int) < pick more 8 := by omega
        simp only [Option.bind_some, cl, hlt, decide_false, cond_false]; rfl)
    refine hm3.trans ?_
    exact ends_true A B N hN.2.1 hN.2.2 ⟨hb2, hb3⟩ ⟨hm1, hm2⟩
end Go.Pl
