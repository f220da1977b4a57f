/- The plain law: the model of the law answers true. Conditions: none. -/
import Derived.Test.YteckohdbfkhmdaaMoFrameSays
namespace Go.Pl
open Go Go.Sw

/-- going over a list, with what is carried, till something is done -/
def foldS {A B D : Type} (g : Nat → A → B → Step B D) (fin : B → D) : Nat → B → List A → D
  | _, acc, [] => fin acc
  | i, acc, x :: xs => match g i x acc with
    | .next acc' => foldS g fin (i + 1) acc' xs
    | .done d => d

def stp {α B D : Type} (st : Nat → B → α) (i : Nat) : Step B D → Step α D
  | .next a => .next (st i a)
  | .done d => .done d
def out {β γ : Type} (k : β → Option γ) : Ex β γ → Option γ
  | .brk y => k y
  | .ret z => some z

theorem loop_list {α A B D : Type} {step : α → Option (Step α D)} {l : List A} (st : Nat → B → α) (g : Nat → A → B → Step B D) (fin : B → D)
    (hs : ∀ pre x rest acc, l = pre ++ x :: rest → step (st pre.length acc) = some (stp st (pre.length + 1) (g pre.length x acc)))
    (he : ∀ acc, step (st l.length acc) = some (.done (fin acc))) :
    ∀ (rest pre : List A) (acc : B) (f : Nat), l = pre ++ rest → rest.length < f → loop step f (st pre.length acc) = some (foldS g fin pre.length acc rest)
  | [], pre, acc, f, hl, hf => by
    obtain ⟨f, rfl⟩ : ∃ f', f = f' + 1 := ⟨f - 1, by simp at hf; omega⟩
    have := he acc
    rw [hl, List.append_nil] at this
    simp [loop, this, foldS]
  | x :: rest, pre, acc, f, hl, hf => by
    obtain ⟨f, rfl⟩ : ∃ f', f = f' + 1 := ⟨f - 1, by simp at hf; omega⟩
    have h1 := hs pre x rest acc hl
    simp only [loop, h1, foldS]
    cases hg : g pre.length x acc with
    | done d => rfl
    | next acc' =>
      have ih := loop_list st g fin hs he rest (pre ++ [x]) acc' f (by rw [hl]; simp) (by simp at hf; omega)
      simpa [stp] using ih

theorem lp_list {α A B β γ : Type} {step : α → Option (Step α (Ex β γ))} {l : List A} {k : β → Option γ} (st : Nat → B → α) (acc0 : B) (g : Nat → A → B → Step B (Ex β γ)) (fin : B → Ex β γ) (hf : l.length < FUEL)
    (hs : ∀ pre x rest acc, l = pre ++ x :: rest → step (st pre.length acc) = some (stp st (pre.length + 1) (g pre.length x acc)))
    (he : ∀ acc, step (st l.length acc) = some (.done (fin acc))) :
    lp step (st 0 acc0) k = out k (foldS g fin 0 acc0 l) := by
  have h := loop_list st g fin hs he l [] acc0 FUEL rfl hf
  unfold lp
  simp only [List.length_nil] at h
  rw [h]
  cases foldS g fin 0 acc0 l <;> rfl

theorem idx_app {α : Type} (pre : List α) (x : α) (rest : List α) : Sw.idx (pre ++ x :: rest) (pre.length : Int) = some x := by
  unfold Sw.idx; simp
theorem inc {n m : Nat} (h : n < m) (hm : m ≤ 4611686018427387904) : ar .add .i64 (n : Int) 1 = ((n + 1 : Nat) : Int) := by
  unfold ar; simp only [IntKind.wrap, IntKind.signed, IntKind.bits]; simp; omega
theorem lss_app {α : Type} (pre : List α) (x : α) (rest : List α) : cm .lss (pre.length : Int) ((pre ++ x :: rest).length : Int) = true := by
  unfold cm; simp; omega
theorem lss_self {n : Nat} : cm .lss (n : Int) (n : Int) = false := by unfold cm; simp
end Go.Pl

namespace Go.Pl
open Go Go.Sw

theorem lp_count {α β γ : Type} {step : α → Option (Step α (Ex β γ))} {k : β → Option γ} (st : Nat → α) (n : Nat) (y : β) (hf : n < FUEL) (hs : ∀ i, i < n → step (st i) = some (.next (st (i + 1)))) (he : step (st n) = some (.done (.brk y))) : lp step (st 0) k = k y := by
  have h : ∀ m i, i + m = n → ∀ f, m < f → loop step f (st i) = some (.brk y) := by
    intro m
    induction m with
    | zero =>
      intro i hi f hf
      obtain ⟨f, rfl⟩ : ∃ f', f = f' + 1 := ⟨f - 1, by omega⟩
      simp only [Nat.add_zero] at hi
      subst hi
      simp [loop, he]
    | succ m ih =>
      intro i hi f hf
      obtain ⟨f, rfl⟩ : ∃ f', f = f' + 1 := ⟨f - 1, by omega⟩
      simp only [loop, hs i (by omega)]
      exact ih (i + 1) (by omega) f (by omega)
  unfold lp
  rw [h n 0 (by omega) FUEL hf]

theorem wrap_i64 {n : Int} (h : -9223372036854775808 ≤ n ∧ n ≤ 9223372036854775807) : IntKind.wrap .i64 n = n := wrap_id (k := .i64) (by unfold inK; simp [IntKind.min, IntKind.max, IntKind.signed, IntKind.bits]; omega)
theorem wrap_u8 {n : Int} (h : 0 ≤ n ∧ n ≤ 255) : IntKind.wrap .u8 n = n := wrap_id (k := .u8) (by unfold inK; simp [IntKind.min, IntKind.max, IntKind.signed, IntKind.bits]; omega)
theorem wrap_u32 {n : Int} (h : 0 ≤ n ∧ n ≤ 4294967295) : IntKind.wrap .u32 n = n := wrap_id (k := .u32) (by unfold inK; simp [IntKind.min, IntKind.max, IntKind.signed, IntKind.bits]; omega)
theorem ofInt_nat (w n : Nat) : BitVec.ofInt w (n : Int) = BitVec.ofNat w n := by
  apply BitVec.eq_of_toNat_eq
  simp
theorem xor32 {a b : Nat} (ha : a < 4294967296) (hb : b < 4294967296) : ar .xor .u32 (a : Int) (b : Int) = ((a ^^^ b : Nat) : Int) := by
  have h : a ^^^ b < 2 ^ 32 := Nat.xor_lt_two_pow (by simpa using ha) (by simpa using hb)
  show IntKind.wrap .u32 ((BitVec.ofInt 32 (a : Int) ^^^ BitVec.ofInt 32 (b : Int)).toNat : Int) = _
  simp only [ofInt_nat, BitVec.toNat_xor, BitVec.toNat_ofNat]
  rw [Nat.mod_eq_of_lt (by simpa using ha), Nat.mod_eq_of_lt (by simpa using hb)]
  exact wrap_u32 (by simp at h; omega)
theorem and32 {a : Nat} (ha : a < 4294967296) : ar .and .u32 (a : Int) 1 = ((a % 2 : Nat) : Int) := by
  show IntKind.wrap .u32 ((BitVec.ofInt 32 (a : Int) &&& BitVec.ofInt 32 ((1 : Nat) : Int)).toNat : Int) = _
  simp only [ofInt_nat, BitVec.toNat_and, BitVec.toNat_ofNat]
  rw [Nat.mod_eq_of_lt (a := a) (by simpa using ha), Nat.mod_eq_of_lt (a := 1) (by decide), Nat.and_one_is_mod]
  exact wrap_u32 (by omega)
theorem mul32 {a : Nat} (ha : a < 2) : ar .mul .u32 3988292384 (a : Int) = ((if a = 1 then 3988292384 else 0 : Nat) : Int) := by
  have : a = 0 ∨ a = 1 := by omega
  rcases this with rfl | rfl
  · rfl
  · decide
theorem shr1 {a : Nat} : sh .shr .u32 (a : Int) 1 = ((a / 2 : Nat) : Int) := by
  show Int.fdiv _ _ = _
  have : (2 : Int) ^ min (1 : Int).toNat (IntKind.bits .u32) = 2 := by decide
  rw [this, Int.fdiv_eq_ediv_of_nonneg _ (by omega)]
  omega
theorem not32 {a : Nat} (ha : a < 4294967296) : bnot .u32 (a : Int) = ((4294967295 - a : Nat) : Int) := by
  unfold bnot
  show IntKind.wrap .u32 ((BitVec.allOnes 32 ^^^ BitVec.ofInt 32 (a : Int)).toNat : Int) = _
  simp only [ofInt_nat, BitVec.allOnes_xor, BitVec.toNat_not, BitVec.toNat_ofNat]
  rw [Nat.mod_eq_of_lt (by simpa using ha)]
  exact wrap_u32 (by omega)
theorem tdiv_nat (a b : Nat) : Int.tdiv (a : Int) (b : Int) = ((a / b : Nat) : Int) := rfl
theorem tmod_nat (a b : Nat) : Int.tmod (a : Int) (b : Int) = ((a % b : Nat) : Int) := rfl
theorem quo64 {a b : Nat} (ha : a ≤ 9223372036854775807) : ar .quo .i64 (a : Int) (b : Int) = ((a / b : Nat) : Int) := by
  show IntKind.wrap .i64 _ = _
  rw [tdiv_nat]
  have := Nat.div_le_self a b
  generalize a / b = q at *
  exact wrap_i64 (by omega)
theorem rem64 {a b : Nat} : ar .rem .i64 (a : Int) (b : Int) = ((a % b : Nat) : Int) := rfl
theorem add64 {a b : Nat} (h : a + b ≤ 9223372036854775807) : ar .add .i64 (a : Int) (b : Int) = ((a + b : Nat) : Int) := by
  show IntKind.wrap .i64 _ = _
  rw [← Int.natCast_add]; exact wrap_i64 (by omega)
theorem mul64 {a b : Nat} (h : a * b ≤ 9223372036854775807) : ar .mul .i64 (a : Int) (b : Int) = ((a * b : Nat) : Int) := by
  show IntKind.wrap .i64 _ = _
  rw [← Int.natCast_mul]; exact wrap_i64 (by omega)
theorem nz_ok {n : Int} (h : n ≠ 0) : nz n = some () := by unfold nz; rw [if_neg h]
theorem cm_lss {a b : Nat} : cm .lss (a : Int) (b : Int) = decide (a < b) := by unfold cm; simp
theorem bit_xor (a b i : Nat) : (a ^^^ b) / 2 ^ i % 2 = (a / 2 ^ i + b / 2 ^ i) % 2 := by
  have h := Nat.testBit_xor a b i
  simp only [Nat.testBit_eq_decide_div_mod_eq] at h
  have ha := Nat.mod_two_eq_zero_or_one (a / 2 ^ i)
  have hb := Nat.mod_two_eq_zero_or_one (b / 2 ^ i)
  have hc := Nat.mod_two_eq_zero_or_one ((a ^^^ b) / 2 ^ i)
  rw [Nat.add_mod]
  rcases ha with ha | ha <;> rcases hb with hb | hb <;> rcases hc with hc | hc <;> simp [ha, hb, hc] at h ⊢
theorem xor_half (a b : Nat) : (a ^^^ b) / 2 = a / 2 ^^^ b / 2 := by
  have := Nat.shiftRight_xor_distrib (i := 1) (a := a) (b := b)
  simpa [Nat.shiftRight_eq_div_pow] using this
end Go.Pl

namespace Go.Pl
open Go Go.Sw Go.Mo

def poly : Nat := 3988292384
/-- one step of the sum -/
def crc1 (r : Nat) : Nat := if r % 2 = 1 then r / 2 ^^^ poly else r / 2
theorem crc1_lt {r : Nat} (h : r < 4294967296) : crc1 r < 4294967296 := by
  unfold crc1
  split
  · have : r / 2 ^^^ poly < 2 ^ 32 := Nat.xor_lt_two_pow (by omega) (by unfold poly; omega)
    simpa using this
  · omega
def crcN : Nat → Nat → Nat
  | 0, r => r
  | n + 1, r => crc1 (crcN n r)
theorem crcN_lt {n r : Nat} (h : r < 4294967296) : crcN n r < 4294967296 := by
  induction n with
  | zero => exact h
  | succ n ih => exact crc1_lt ih
def crcB (r : Nat) (b : Nat) : Nat := crcN 8 (r ^^^ b)
theorem crcB_lt {r b : Nat} (h : r < 4294967296) (hb : b < 256) : crcB r b < 4294967296 := by
  refine crcN_lt ?_
  have : r ^^^ b < 2 ^ 32 := Nat.xor_lt_two_pow (by omega) (by omega)
  simpa using this
def crcL (l : List Nat) : Nat := l.foldl crcB 4294967295
theorem foldl_lt (l : List Nat) (r : Nat) (h : r < 4294967296) (hb : ∀ b ∈ l, b < 256) : l.foldl crcB r < 4294967296 := by
  induction l generalizing r with
  | nil => exact h
  | cons b l ih => exact ih _ (crcB_lt h (hb b (by simp))) (fun x hx => hb x (by simp [hx]))

/-- bytes -/
def Bytes (l : List Int) : Prop := ∀ x ∈ l, 0 ≤ x ∧ x ≤ 255
def nat (l : List Int) : List Nat := l.map Int.toNat
theorem nat_byte {l : List Int} (h : Bytes l) : ∀ b ∈ nat l, b < 256 := by
  intro b hb
  obtain ⟨x, hx, rfl⟩ := List.mem_map.1 hb
  have := h x hx; omega

theorem foldS_fold {D : Type} (l : List Int) (h : Bytes l) (mk : Nat → Ex Int D) : ∀ (i r : Nat), foldS (fun (_ : Nat) (x : Int) (acc : Nat) => (Step.next (crcB acc x.toNat) : Step Nat (Ex Int D))) mk i r l = mk ((nat l).foldl crcB r) := by
  induction l with
  | nil => intro i r; rfl
  | cons x l ih => intro i r; simp only [foldS, nat, List.map_cons, List.foldl_cons]; exact ih (fun y hy => h y (by simp [hy])) _ _

theorem sum_is (l : List Int) (h : Bytes l) (hl : l.length ≤ 1000000) : m_frame_Sum l = some ((4294967295 - crcL (nat l) : Nat) : Int) := by
  unfold m_frame_Sum
  rw [show ((4294967295 : Int), (0 : Int)) = (((⟨4294967295, by decide⟩ : {r : Nat // r < 4294967296}).1 : Int), ((0 : Nat) : Int)) from rfl]
  rw [lp_list (l := l) (fun i (r : {r : Nat // r < 4294967296}) => ((r.1 : Int), (i : Int))) ⟨4294967295, by decide⟩ (fun _ x r => .next ⟨crcB r.1 x.toNat % 4294967296, Nat.mod_lt _ (by decide)⟩) (fun r => .brk (r.1 : Int)) (by unfold FUEL; omega)]
  · have : ∀ (l : List Int) (i : Nat) (r : {r : Nat // r < 4294967296}), Bytes l → foldS (fun (_ : Nat) (x : Int) (r : {r : Nat // r < 4294967296}) => (Step.next ⟨crcB r.1 x.toNat % 4294967296, Nat.mod_lt _ (by decide)⟩ : Step _ (Ex Int Int))) (fun r => .brk (r.1 : Int)) i r l = .brk (((nat l).foldl crcB r.1 : Nat) : Int) := by
      intro l
      induction l with
      | nil => intro i r _; rfl
      | cons x l ih =>
        intro i r hb
        simp only [foldS, nat, List.map_cons, List.foldl_cons]
        have h1 := ih (i + 1) ⟨crcB r.1 x.toNat % 4294967296, Nat.mod_lt _ (by decide)⟩ (fun y hy => hb y (by simp [hy]))
        rw [h1]
        have := hb x (by simp)
        have e : crcB r.1 x.toNat % 4294967296 = crcB r.1 x.toNat := Nat.mod_eq_of_lt (crcB_lt r.2 (by omega))
        show Ex.brk (((nat l).foldl crcB (crcB r.1 x.toNat % 4294967296) : Nat) : Int) = _
        rw [e]; rfl
    rw [this l 0 _ h]
    have hlt : (nat l).foldl crcB 4294967295 < 4294967296 := foldl_lt _ _ (by decide) (nat_byte h)
    simp only [out, crcL]
    rw [not32 hlt]
  · rintro pre x rest ⟨r, hr⟩ rfl
    have hx := h x (by simp)
    obtain ⟨b, rfl⟩ : ∃ b : Nat, x = (b : Int) := ⟨x.toNat, by omega⟩
    have hb : b < 256 := by omega
    simp only [lss_app, cond_true, idx_app, Option.bind_some]
    have hx0 : r ^^^ b < 4294967296 := by
      have : r ^^^ b < 2 ^ 32 := Nat.xor_lt_two_pow (by omega) (by omega)
      simpa using this
    rw [xor32 hr (by omega), show ((((r ^^^ b : Nat) : Int)), (0 : Int)) = (fun i : Nat => ((crcN i (r ^^^ b) : Int), (i : Int))) 0 from rfl]
    rw [lp_count (fun i : Nat => ((crcN i (r ^^^ b) : Int), (i : Int))) 8 ((crcN 8 (r ^^^ b) : Nat) : Int) (by unfold FUEL; omega)]
    · simp only [stp, inc (n := pre.length) (m := 1000000) (by simp at hl; omega) (by omega), Int.toNat_natCast]
      rw [Nat.mod_eq_of_lt (crcB_lt hr hb)]; rfl
    · intro i hi
      have hlt := crcN_lt (n := i) hx0
      have h8 : cm .lss (i : Int) 8 = true := by simp [cm]; omega
      have hp : (crcN i (r ^^^ b)) / 2 < 4294967296 := by omega
      simp only [h8, cond_true, shr1, and32 hlt, mul32 (Nat.mod_lt _ (by decide : 0 < 2))]
      rw [xor32 hp (by split <;> decide), inc (n := i) (m := 8) hi (by omega)]
      simp only [crcN, crc1, poly]
      split
      · rename_i h1; simp [h1]
      · rename_i h1; simp [h1]
    · simp [cm]
  · rintro ⟨r, hr⟩
    simp [lss_self]

/-! ### the same, bit by bit -/
theorem mixed_is (a : Nat) (h : a < 4294967296) : m_ref_mixed (a : Int) = some ((a ^^^ poly : Nat) : Int) := by
  unfold m_ref_mixed
  have hx : a ^^^ poly < 2 ^ 32 := Nat.xor_lt_two_pow (by omega) (by unfold poly; omega)
  rw [show ((0 : Int), (1 : Int)) = (fun i : Nat => ((((a ^^^ poly) % 2 ^ i : Nat) : Int), ((2 ^ i : Nat) : Int))) 0 from by simp [Nat.mod_one]]
  rw [lp_count (fun i : Nat => ((((a ^^^ poly) % 2 ^ i : Nat) : Int), ((2 ^ i : Nat) : Int))) 32 ((a ^^^ poly : Nat) : Int) (by unfold FUEL; omega)]
  · intro i hi
    have hpow : 2 ^ i < 4294967296 := by
      have := Nat.pow_lt_pow_right (a := 2) (by decide) hi
      simpa using this
    have hpos : 0 < 2 ^ i := Nat.two_pow_pos i
    have hl : cm .lss ((2 ^ i : Nat) : Int) 4294967296 = true := by
      have := cm_lss (a := 2 ^ i) (b := 4294967296)
      rw [show ((4294967296 : Nat) : Int) = 4294967296 from rfl] at this
      rw [this]; simp only [hpow, decide_true]
    have hnz : nz ((2 ^ i : Nat) : Int) = some () := nz_ok (by omega)
    have hmod : (a ^^^ poly) % 2 ^ i < 2 ^ i := Nat.mod_lt _ hpos
    simp only [hl, cond_true, hnz, Option.bind_some]
    rw [quo64 (by omega), show (3988292384 : Int) = ((3988292384 : Nat) : Int) from rfl, quo64 (by omega), show (2 : Int) = ((2 : Nat) : Int) from rfl, rem64, rem64, add64 (by omega), mul64 (by omega)]
    have hs : (a ^^^ poly) % 2 ^ (i + 1) = (a ^^^ poly) % 2 ^ i + 2 ^ i * ((a ^^^ poly) / 2 ^ i % 2) := Nat.mod_pow_succ
    rw [bit_xor, Nat.add_mod] at hs
    have hp2 : 2 ^ (i + 1) = 2 ^ i * 2 := Nat.pow_succ 2 i
    have ha := Nat.mod_two_eq_zero_or_one (a / 2 ^ i)
    have hb := Nat.mod_two_eq_zero_or_one (poly / 2 ^ i)
    have e00 : cm .neq ((0 : Nat) : Int) ((0 : Nat) : Int) = false := by decide
    have e01 : cm .neq ((0 : Nat) : Int) ((1 : Nat) : Int) = true := by decide
    have e10 : cm .neq ((1 : Nat) : Int) ((0 : Nat) : Int) = true := by decide
    have e11 : cm .neq ((1 : Nat) : Int) ((1 : Nat) : Int) = false := by decide
    have hpe : 3988292384 / 2 ^ i % 2 = poly / 2 ^ i % 2 := rfl
    rw [hpe]
    generalize (a ^^^ poly) % 2 ^ i = X at *
    generalize (a ^^^ poly) % 2 ^ (i + 1) = Y at *
    rcases ha with ha | ha <;> rcases hb with hb | hb <;> rw [ha, hb] at hs ⊢
    · rw [e00]; simp only [cond_false]
      obtain rfl : Y = X := by simpa using hs
      rw [hp2]
    · rw [e01]; simp only [cond_true]
      obtain rfl : Y = X + 2 ^ i := by simpa using hs
      rw [hp2]
    · rw [e10]; simp only [cond_true]
      obtain rfl : Y = X + 2 ^ i := by simpa using hs
      rw [hp2]
    · rw [e11]; simp only [cond_false]
      obtain rfl : Y = X := by simpa using hs
      rw [hp2]
  · have : (a ^^^ poly) % 2 ^ 32 = a ^^^ poly := Nat.mod_eq_of_lt hx
    simp only [this]
    simp [cm]

theorem xor_lt32 {a b : Nat} (ha : a < 4294967296) (hb : b < 4294967296) : a ^^^ b < 4294967296 := by
  have : a ^^^ b < 2 ^ 32 := Nat.xor_lt_two_pow (by omega) (by omega)
  simpa using this
theorem xor_mod2 (a b : Nat) : (a ^^^ b) % 2 = (a + b) % 2 := by
  have := bit_xor a b 0
  simpa using this
theorem sumOf_is (l : List Int) (h : Bytes l) (hl : l.length ≤ 1000000) : m_ref_SumOf l = some ((4294967295 - crcL (nat l) : Nat) : Int) := by
  unfold m_ref_SumOf
  rw [show ((4294967295 : Int), (0 : Int)) = (((⟨4294967295, by decide⟩ : {r : Nat // r < 4294967296}).1 : Int), ((0 : Nat) : Int)) from rfl]
  rw [lp_list (l := l) (fun i (r : {r : Nat // r < 4294967296}) => ((r.1 : Int), (i : Int))) ⟨4294967295, by decide⟩ (fun _ x r => .next ⟨crcB r.1 x.toNat % 4294967296, Nat.mod_lt _ (by decide)⟩) (fun r => .brk (r.1 : Int)) (by unfold FUEL; omega)]
  · have : ∀ (l : List Int) (i : Nat) (r : {r : Nat // r < 4294967296}), Bytes l → foldS (fun (_ : Nat) (x : Int) (r : {r : Nat // r < 4294967296}) => (Step.next ⟨crcB r.1 x.toNat % 4294967296, Nat.mod_lt _ (by decide)⟩ : Step _ (Ex Int Int))) (fun r => .brk (r.1 : Int)) i r l = .brk (((nat l).foldl crcB r.1 : Nat) : Int) := by
      intro l
      induction l with
      | nil => intro i r _; rfl
      | cons x l ih =>
        intro i r hb
        simp only [foldS, nat, List.map_cons, List.foldl_cons]
        have h1 := ih (i + 1) ⟨crcB r.1 x.toNat % 4294967296, Nat.mod_lt _ (by decide)⟩ (fun y hy => hb y (by simp [hy]))
        rw [h1]
        have := hb x (by simp)
        have e : crcB r.1 x.toNat % 4294967296 = crcB r.1 x.toNat := Nat.mod_eq_of_lt (crcB_lt r.2 (by omega))
        show Ex.brk (((nat l).foldl crcB (crcB r.1 x.toNat % 4294967296) : Nat) : Int) = _
        rw [e]; rfl
    rw [this l 0 _ h]
    have hlt : (nat l).foldl crcB 4294967295 < 4294967296 := foldl_lt _ _ (by decide) (nat_byte h)
    simp only [out, crcL]
    congr 1
    generalize (nat l).foldl crcB 4294967295 = q at *
    show IntKind.wrap .u32 (IntKind.wrap .i64 _) = _
    rw [wrap_i64 (by omega), wrap_u32 (by omega)]; omega
  · rintro pre x rest ⟨r, hr⟩ rfl
    have hx := h x (by simp)
    obtain ⟨b, rfl⟩ : ∃ b : Nat, x = (b : Int) := ⟨x.toNat, by omega⟩
    have hb : b < 256 := by omega
    have hx0 : r ^^^ b < 4294967296 := xor_lt32 hr (by omega)
    simp only [lss_app, cond_true]
    rw [show ((r : Int), (1 : Int)) = (fun i : Nat => (((crcN i (r ^^^ b) ^^^ b / 2 ^ i : Nat) : Int), ((2 ^ i : Nat) : Int))) 0 from by simp [crcN, Nat.xor_assoc]]
    rw [lp_count (fun i : Nat => (((crcN i (r ^^^ b) ^^^ b / 2 ^ i : Nat) : Int), ((2 ^ i : Nat) : Int))) 8 ((crcN 8 (r ^^^ b) : Nat) : Int) (by unfold FUEL; omega)]
    · simp only [stp, inc (n := pre.length) (m := 1000000) (by simp at hl; omega) (by omega), Int.toNat_natCast]
      rw [Nat.mod_eq_of_lt (crcB_lt hr hb)]; rfl
    · intro i hi
      have hlt := crcN_lt (n := i) hx0
      have hpow : 2 ^ i < 256 := by
        have := Nat.pow_lt_pow_right (a := 2) (by decide) hi
        simpa using this
      have hpos : 0 < 2 ^ i := Nat.two_pow_pos i
      have hl8 : cm .lss ((2 ^ i : Nat) : Int) 256 = true := by
        have := cm_lss (a := 2 ^ i) (b := 256)
        rw [show ((256 : Nat) : Int) = 256 from rfl] at this
        rw [this]; simp only [hpow, decide_true]
      have hnz : nz ((2 ^ i : Nat) : Int) = some () := nz_ok (by omega)
      have hq : b / 2 ^ i < 256 := by have := Nat.div_le_self b (2 ^ i); omega
      have hq2 : b / 2 ^ (i + 1) = b / 2 ^ i / 2 := by rw [Nat.pow_succ, Nat.div_div_eq_div_mul]
      have hp2 : 2 ^ (i + 1) = 2 ^ i * 2 := Nat.pow_succ 2 i
      simp only [hl8, cond_true, idx_app, Option.bind_some, hnz]
      rw [quo64 (a := b) (by omega)]
      simp only [crcN]
      generalize crcN i (r ^^^ b) = C at *
      rw [hq2, hp2]
      generalize b / 2 ^ i = q at *
      have hR : C ^^^ q < 4294967296 := xor_lt32 hlt (by omega)
      rw [show (2 : Int) = ((2 : Nat) : Int) from rfl, show (1 : Int) = ((1 : Nat) : Int) from rfl]
      rw [add64 (by omega), rem64, mul64 (by omega), quo64 (a := C ^^^ q) (by omega)]
      have hpar : ((C ^^^ q) + q) % 2 = C % 2 := by
        have := xor_mod2 C q
        omega
      rw [hpar, mixed_is _ (by omega), xor_half]
      have hc := Nat.mod_two_eq_zero_or_one C
      rcases hc with hc | hc
      · rw [hc]
        have e : cm .eql ((0 : Nat) : Int) ((1 : Nat) : Int) = false := by decide
        simp only [e, cond_false, crc1, hc]
        rfl
      · rw [hc]
        have e : cm .eql ((1 : Nat) : Int) ((1 : Nat) : Int) = true := by decide
        simp only [e, cond_true, crc1, hc, Option.bind_some, if_true]
        rw [Nat.xor_assoc, Nat.xor_comm (q / 2), ← Nat.xor_assoc]
    · have : b / 256 = 0 := by omega
      simp [cm, this]
  · rintro ⟨r, hr⟩
    simp [lss_self]
theorem sum_eq (l : List Int) (h : Bytes l) (hl : l.length ≤ 1000000) : m_frame_Sum l = m_ref_SumOf l := by rw [sum_is l h hl, sumOf_is l h hl]
end Go.Pl

namespace Go.Pl
open Go Go.Sw
/-- it lies somewhere so -/
def Wf {α : Type} (e : Enc α) (x : α) : Prop := ∃ S w cs, e.ok x S w cs
theorem Wf.int {k : IntKind} {n : Int} (h : Wf (Enc.int k) n) : inK k n := by obtain ⟨_, _, _, h⟩ := h; exact h.2
theorem okL_all {α : Type} {e : Enc α} {S w} : ∀ {xs : List α} {cs}, e.okL xs S w cs → ∀ x ∈ xs, Wf e x
  | [], _, _, x, hx => by simp at hx
  | y :: ys, _, ⟨c, d, _, h2, h3⟩, x, hx => by
    rcases List.mem_cons.1 hx with rfl | hx
    · exact ⟨_, _, _, h2⟩
    · exact okL_all h3 x hx
theorem Wf.arr {α : Type} {m : Nat} {e : Enc α} {xs : List α} (h : Wf (Enc.arr m e) xs) : xs.length = m ∧ ∀ x ∈ xs, Wf e x := by
  obtain ⟨_, _, _, h1, h2⟩ := h; exact ⟨h1, okL_all h2⟩
theorem Wf.sl {α : Type} {e : Enc α} {xs : List α} (h : Wf (Enc.sl e) xs) : xs.length ≤ 9223372036854775807 ∧ ∀ x ∈ xs, Wf e x := by
  obtain ⟨_, _, _, a, cap, _, h2, h3⟩ := h
  refine ⟨h2.2, ?_⟩
  rcases h3 with rfl | ⟨b, off, ds, _, _, _, _, h4⟩
  · intro x hx; simp at hx
  · exact okL_all h4
theorem Wf.pr {α β : Type} {a : Enc α} {b : Enc β} {x : α × β} (h : Wf (Enc.pr a b) x) : Wf a x.1 ∧ Wf b x.2 := by
  obtain ⟨_, _, _, c, d, _, h1, h2⟩ := h; exact ⟨⟨_, _, _, h1⟩, ⟨_, _, _, h2⟩⟩
theorem Wf.one1 {α : Type} {a : Enc α} {x : α} (h : Wf (Enc.one1 a) x) : Wf a x := h
theorem Wf.of_val {α : Type} {e : Enc α} {x : α} {S w v} (h : e.val x S w v) : Wf e x := by obtain ⟨cs, h, _⟩ := h; exact ⟨_, _, _, h⟩
end Go.Pl

namespace Go.Pl
open Go Go.Sw Go.Mo

abbrev Frame := Int × List Int × List Blk
def bad (x : Int) : Bool := decide (x < 0) || decide (x > 2147483647)
/-- what is wrong with a frame -/
def frameErr (f : Frame) : Int := if f.1 < 0 ∨ f.1 > 15 then 1 else if f.2.1.length > 12 ∨ f.2.2.length > 32 then 2 else if f.2.1.any bad then 1 else 0

theorem any_fold {D : Type} (r : Nat → D) (l : List Int) : ∀ i, foldS (fun (i : Nat) (x : Int) (_ : Unit) => (if bad x then Step.done (Ex.ret (r i)) else .next () : Step Unit (Ex Unit D))) (fun _ => .brk ()) i () l = match l.findIdx? bad with | some j => .ret (r (i + j)) | none => .brk () := by
  induction l with
  | nil => intro i; simp [foldS]
  | cons x l ih =>
    intro i
    simp only [foldS, List.findIdx?_cons]
    by_cases hx : bad x = true
    · simp [hx]
    · simp only [hx, if_false, ih, Bool.false_eq_true]
      cases l.findIdx? bad with
      | none => rfl
      | some j => simp [Nat.add_assoc, Nat.add_comm 1]
theorem any_find (l : List Int) : l.any bad = (l.findIdx? bad).isSome := by
  rw [List.findIdx?_isSome]

theorem frameMay_is (f : Frame) : m_ref_FrameMay f = some (frameErr f) := by
  obtain ⟨s, ns, bs⟩ := f
  unfold m_ref_FrameMay frameErr
  by_cases h1 : s < 0
  · have : cm .lss s 0 = true := by simp [cm, h1]
    simp [this, h1]
  have e1 : cm .lss s 0 = false := by simp [cm]; omega
  by_cases h2 : s > 15
  · have : cm .gtr s 15 = true := by simp [cm]; omega
    simp [e1, this, h2]
  have e2 : cm .gtr s 15 = false := by simp [cm]; omega
  have h12 : ¬ (s < 0 ∨ s > 15) := by omega
  simp only [e1, e2, cond_false, Option.bind_some, h12, if_false]
  by_cases h3 : ns.length > 12
  · have : cm .gtr (ns.length : Int) 12 = true := by simp [cm]; omega
    simp [this, h3]
  have e3 : cm .gtr (ns.length : Int) 12 = false := by simp [cm]; omega
  by_cases h4 : bs.length > 32
  · have : cm .gtr (bs.length : Int) 32 = true := by simp [cm]; omega
    simp [e3, this, h4]
  have e4 : cm .gtr (bs.length : Int) 32 = false := by simp [cm]; omega
  have h34 : ¬ (ns.length > 12 ∨ bs.length > 32) := by omega
  simp only [e3, e4, cond_false, Option.bind_some, h34, if_false]
  rw [show (0 : Int) = ((0 : Nat) : Int) from rfl, lp_list (l := ns) (fun i (_ : Unit) => (i : Int)) () (fun i x _ => if bad x then .done (.ret 1) else .next ()) (fun _ => .brk ()) (by unfold FUEL; omega)]
  · rw [any_fold (fun _ => (1 : Int)), any_find]
    cases ns.findIdx? bad <;> simp [out]
  · rintro pre x rest acc rfl
    simp only [lss_app, cond_true, idx_app, Option.bind_some, inc (n := pre.length) (m := 1000000) (by simp at h3; omega) (by omega)]
    by_cases hx : x < 0
    · have : cm .lss x 0 = true := by simp [cm, hx]
      have hb : bad x = true := by simp [bad, hx]
      simp [this, hb, stp]
    · have : cm .lss x ((0 : Nat) : Int) = false := by simp [cm]; omega
      simp only [this, cond_false, Option.bind_some]
      by_cases hx2 : x > 2147483647
      · have h5 : cm .gtr x 2147483647 = true := by simp [cm]; omega
        have hb : bad x = true := by simp [bad, hx2]
        simp [h5, hb, stp]
      · have h5 : cm .gtr x 2147483647 = false := by simp [cm]; omega
        have hb : bad x = false := by simp [bad]; omega
        simp [h5, hb, stp]
  · intro _; simp [lss_self]

theorem check1_is (x : Int) : m_frame_Check_1 x = some (bad x) := by
  unfold m_frame_Check_1 bad
  by_cases hx : x < 0
  · have : cm .lss x 0 = true := by simp [cm, hx]
    simp [this, hx]
  · have : cm .lss x 0 = false := by simp [cm]; omega
    simp [this, hx, cm]
theorem contains_is (l : List Int) (h : l.length ≤ 1000000) : m_slices_ContainsFunc_int_int__frame_Check_1 l = some (l.any bad) := by
  unfold m_slices_ContainsFunc_int_int__frame_Check_1 m_slices_IndexFunc_int_int__frame_Check_1
  rw [show (0 : Int) = ((0 : Nat) : Int) from rfl, lp_list (l := l) (fun i (_ : Unit) => (i : Int)) () (fun i x _ => if bad x then .done (.ret (i : Int)) else .next ()) (fun _ => .brk ()) (by unfold FUEL; omega)]
  · rw [any_fold (fun i => (i : Int)), any_find]
    cases l.findIdx? bad <;> simp [out, cm]
  · rintro pre x rest acc rfl
    simp only [lss_app, cond_true, idx_app, Option.bind_some, check1_is, inc (n := pre.length) (m := 1000000) (by simp at h; omega) (by omega)]
    cases bad x <;> simp [stp]
  · intro _; simp [lss_self]
theorem frameCheck_is (f : Frame) : m_frame_Check f = some (if frameErr f = 0 then none else some (frameErr f)) := by
  obtain ⟨s, ns, bs⟩ := f
  unfold m_frame_Check frameErr
  by_cases h1 : s < 0
  · have : cm .lss s 0 = true := by simp [cm, h1]
    simp [this, h1]
  have e1 : cm .lss s 0 = false := by simp [cm]; omega
  by_cases h2 : s > 15
  · have : cm .gtr s 15 = true := by simp [cm]; omega
    simp [e1, this, h2]
  have e2 : cm .gtr s 15 = false := by simp [cm]; omega
  have h12 : ¬ (s < 0 ∨ s > 15) := by omega
  simp only [e1, e2, cond_false, Option.bind_some, h12, if_false]
  by_cases h3 : ns.length > 12
  · have : cm .gtr (ns.length : Int) 12 = true := by simp [cm]; omega
    simp [this, h3]
  have e3 : cm .gtr (ns.length : Int) 12 = false := by simp [cm]; omega
  by_cases h4 : bs.length > 32
  · have : cm .gtr (bs.length : Int) 32 = true := by simp [cm]; omega
    simp [e3, this, h4]
  have e4 : cm .gtr (bs.length : Int) 32 = false := by simp [cm]; omega
  have h34 : ¬ (ns.length > 12 ∨ bs.length > 32) := by omega
  simp only [e3, e4, cond_false, Option.bind_some, h34, if_false, contains_is ns (by omega)]
  cases ns.any bad <;> simp

/-! ### bytes of numbers -/
def vf : Nat → Nat → List Int
  | 0, n => [(n : Int)]
  | k + 1, n => if n < 128 then [(n : Int)] else ((128 + n % 128 : Nat) : Int) :: vf k (n / 128)
theorem vf_bytes : ∀ k n, n < 128 ^ (k + 1) → Bytes (vf k n) ∧ (vf k n).length ≤ k + 1
  | 0, n, h => by
    simp at h
    exact ⟨fun x hx => by simp [vf] at hx; omega, by simp [vf]⟩
  | k + 1, n, h => by
    unfold vf
    split
    · exact ⟨fun x hx => by simp at hx; omega, by simp⟩
    · have h2 : n / 128 < 128 ^ (k + 1) := by rw [Nat.pow_succ] at h; omega
      obtain ⟨h3, h4⟩ := vf_bytes k (n / 128) h2
      refine ⟨fun x hx => ?_, by simp; omega⟩
      rcases List.mem_cons.1 hx with rfl | hx
      · have := Nat.mod_lt n (by decide : 0 < 128); omega
      · exact h3 x hx
/-- the loop that writes a number -/
theorem vint_loop {γ : Type} {step : Int × List Int → Option (Step (Int × List Int) (Ex (Int × List Int) γ))}
    (h1 : ∀ (n : Nat) acc, 128 ≤ n → n < 34359738368 → acc.length ≤ 1000000 → step ((n : Int), acc) = some (.next (((n / 128 : Nat) : Int), acc ++ [((128 + n % 128 : Nat) : Int)])))
    (h2 : ∀ (n : Nat) acc, n < 128 → step ((n : Int), acc) = some (.done (.brk ((n : Int), acc)))) :
    ∀ (k n : Nat) (acc : List Int) (f : Nat), n < 128 ^ (k + 1) → n < 34359738368 → acc.length + k ≤ 1000000 → k < f → ∃ (m : Nat) (acc' : List Int), loop step f ((n : Int), acc) = some (.brk ((m : Int), acc')) ∧ m < 128 ∧ acc' ++ [(m : Int)] = acc ++ vf k n
  | 0, n, acc, f, hn, _, _, hf => by
    obtain ⟨f, rfl⟩ : ∃ f', f = f' + 1 := ⟨f - 1, by omega⟩
    simp at hn
    exact ⟨n, acc, by simp [loop, h2 n acc hn], hn, rfl⟩
  | k + 1, n, acc, f, hn, hn2, ha, hf => by
    obtain ⟨f, rfl⟩ : ∃ f', f = f' + 1 := ⟨f - 1, by omega⟩
    by_cases hlt : n < 128
    · exact ⟨n, acc, by simp [loop, h2 n acc hlt], hlt, by simp [vf, hlt]⟩
    · obtain ⟨m, acc', h3, h4, h5⟩ := vint_loop h1 h2 k (n / 128) (acc ++ [((128 + n % 128 : Nat) : Int)]) f (by rw [Nat.pow_succ] at hn; omega) (by omega) (by simp; omega) (by omega)
      refine ⟨m, acc', ?_, h4, ?_⟩
      · simp only [loop, h1 n acc (by omega) hn2 (by omega)]; exact h3
      · rw [h5]; simp [vf, hlt]

theorem ar_rem {a : Nat} {b : Nat} : ar .rem .i64 (a : Int) (b : Int) = ((a % b : Nat) : Int) := rfl
theorem or8 : ∀ a : Fin 128, ar .or .u8 ((a.1 + 0 : Nat) : Int) 128 = ((128 + a.1 : Nat) : Int) := by decide +kernel
theorem or8' : ∀ a : Fin 256, ar .or .u8 ((a.1 : Nat) : Int) 128 = ((128 + a.1 % 128 : Nat) : Int) := by decide +kernel
theorem wrap8 (n : Nat) : IntKind.wrap .u8 (n : Int) = ((n % 256 : Nat) : Int) := by
  simp [IntKind.wrap, IntKind.signed, IntKind.bits]
theorem shr7 (n : Nat) : sh .shr .i64 (n : Int) 7 = ((n / 128 : Nat) : Int) := by
  show Int.fdiv _ _ = _
  have : (2 : Int) ^ min (7 : Int).toNat (IntKind.bits .i64) = 128 := by decide
  rw [this, Int.fdiv_eq_ediv_of_nonneg _ (by omega)]
  omega
theorem hdr : ∀ s : Fin 16, ∀ n : Fin 13, ar .or .u8 (sh .shl .u8 (IntKind.wrap .u8 (s.1 : Int)) 4) (IntKind.wrap .u8 (n.1 : Int)) = IntKind.wrap .u8 (ar .add .i64 (ar .mul .i64 16 (s.1 : Int)) (n.1 : Int)) := by decide +kernel

/-- the bytes ahead of the sum -/
def pre1 (f : Frame) : List Int := [IntKind.wrap .u8 (ar .add .i64 (ar .mul .i64 16 f.1) (f.2.1.length : Int)), IntKind.wrap .u8 (f.2.2.length : Int)]
def vs (ns : List Int) : List Int := ns.flatMap fun n => vf 4 n.toNat
def body (f : Frame) : List Int := pre1 f ++ vs f.2.1 ++ f.2.2.flatten
def sum4 (v : Nat) : List Int := [((v / 16777216 : Nat) : Int), ((v / 65536 % 256 : Nat) : Int), ((v / 256 % 256 : Nat) : Int), ((v % 256 : Nat) : Int)]
def packed (f : Frame) : List Int := body f ++ sum4 (4294967295 - crcL (nat (body f)))

/-- going over a list, adding bytes -/
theorem foldS_app {A γ : Type} (w : A → List Int) (l : List A) : ∀ (i : Nat) (acc : List Int), foldS (fun (_ : Nat) (x : A) (acc : List Int) => (Step.next (acc ++ w x) : Step (List Int) (Ex (List Int) γ))) (fun acc => .brk acc) i acc l = .brk (acc ++ l.flatMap w) := by
  induction l with
  | nil => intro i acc; simp [foldS]
  | cons x l ih => intro i acc; simp only [foldS, ih]; simp

/-- as lp_list, with what holds on the way -/
theorem lp_inv {α A B β γ : Type} {step : α → Option (Step α (Ex β γ))} {l : List A} {k : β → Option γ} (st : Nat → B → α) (I : Nat → B → Prop) (acc0 : B) (g : Nat → A → B → B) (fin : B → β) (hf : l.length < FUEL) (h0 : I 0 acc0)
    (hs : ∀ pre x rest acc, l = pre ++ x :: rest → I pre.length acc → step (st pre.length acc) = some (.next (st (pre.length + 1) (g pre.length x acc))) ∧ I (pre.length + 1) (g pre.length x acc))
    (he : ∀ acc, I l.length acc → step (st l.length acc) = some (.done (.brk (fin acc)))) :
    lp step (st 0 acc0) k = k (fin ((l.zipIdx).foldl (fun acc x => g x.2 x.1 acc) acc0)) := by
  have key : ∀ (rest pre : List A) (acc : B) (f : Nat), l = pre ++ rest → I pre.length acc → rest.length < f → loop step f (st pre.length acc) = some (.brk (fin ((rest.zipIdx pre.length).foldl (fun acc x => g x.2 x.1 acc) acc))) := by
    intro rest
    induction rest with
    | nil =>
      intro pre acc f hl hI hf
      obtain ⟨f, rfl⟩ : ∃ f', f = f' + 1 := ⟨f - 1, by simp at hf; omega⟩
      have := he acc (by rw [hl, List.append_nil]; exact hI)
      rw [hl, List.append_nil] at this
      simp [loop, this]
    | cons x rest ih =>
      intro pre acc f hl hI hf
      obtain ⟨f, rfl⟩ : ∃ f', f = f' + 1 := ⟨f - 1, by simp at hf; omega⟩
      obtain ⟨h1, h2⟩ := hs pre x rest acc hl hI
      simp only [loop, h1]
      have := ih (pre ++ [x]) (g pre.length x acc) f (by rw [hl]; simp) (by simpa using h2) (by simp at hf; omega)
      simpa using this
  have h := key l [] acc0 FUEL rfl h0 hf
  unfold lp
  simp only [List.length_nil] at h
  rw [h]
theorem foldl_zipIdx {A : Type} (w : A → List Int) : ∀ (l : List A) (i : Nat) (acc : List Int), (l.zipIdx i).foldl (fun acc x => acc ++ w x.1) acc = acc ++ l.flatMap w
  | [], _, acc => by simp
  | x :: l, i, acc => by simp [foldl_zipIdx w l]
end Go.Pl

namespace Go.Pl
open Go Go.Sw Go.Mo
theorem app_small {α : Type} (xs ys : List α) (h : xs.length + ys.length ≤ 4294967296) : Sw.app xs ys = some (xs ++ ys) := by unfold Sw.app; rw [if_pos h]
end Go.Pl

namespace Go.Pl
open Go Go.Sw Go.Mo

theorem lp_vint {γ : Type} {step : Int × List Int → Option (Step (Int × List Int) (Ex (Int × List Int) γ))} {k : Int × List Int → Option γ}
    (h1 : ∀ (n : Nat) acc, 128 ≤ n → n < 34359738368 → acc.length ≤ 1000000 → step ((n : Int), acc) = some (.next (((n / 128 : Nat) : Int), acc ++ [((128 + n % 128 : Nat) : Int)])))
    (h2 : ∀ (n : Nat) acc, n < 128 → step ((n : Int), acc) = some (.done (.brk ((n : Int), acc)))) (n : Nat) (acc : List Int) (hn : n < 34359738368) (ha : acc.length ≤ 900000) :
    ∃ (m : Nat) (acc' : List Int), lp step ((n : Int), acc) k = k ((m : Int), acc') ∧ m < 128 ∧ acc' ++ [(m : Int)] = acc ++ vf 4 n := by
  obtain ⟨m, acc', h3, h4, h5⟩ := vint_loop h1 h2 4 n acc FUEL (by omega) hn (by omega) (by unfold FUEL; omega)
  exact ⟨m, acc', by unfold lp; rw [h3], h4, h5⟩

/-- a frame that may be -/
structure Good (f : Frame) : Prop where
  s0 : 0 ≤ f.1
  s1 : f.1 ≤ 15
  ns : f.2.1.length ≤ 12
  bs : f.2.2.length ≤ 32
  num : ∀ n ∈ f.2.1, 0 ≤ n ∧ n ≤ 2147483647
  blk : ∀ b ∈ f.2.2, b.length = 8 ∧ Bytes b
theorem good_of {f : Frame} (h : frameErr f = 0) (hb : ∀ b ∈ f.2.2, b.length = 8 ∧ Bytes b) : Good f := by
  unfold frameErr at h
  split at h
  · cases h
  · split at h
    · cases h
    · split at h
      · cases h
      · rename_i h1 h2 h3
        refine ⟨by omega, by omega, by omega, by omega, fun n hn => ?_, hb⟩
        have : ¬ bad n = true := fun hc => h3 (List.any_eq_true.2 ⟨n, hn, hc⟩)
        simp [bad] at this; omega

theorem vs_bytes {ns : List Int} (h : ∀ n ∈ ns, 0 ≤ n ∧ n ≤ 2147483647) : Bytes (vs ns) ∧ (vs ns).length ≤ 5 * ns.length := by
  induction ns with
  | nil => exact ⟨fun x hx => by simp [vs] at hx, by simp [vs]⟩
  | cons n ns ih =>
    obtain ⟨h1, h2⟩ := ih (fun x hx => h x (by simp [hx]))
    have hn := h n (by simp)
    obtain ⟨h3, h4⟩ := vf_bytes 4 n.toNat (by omega)
    refine ⟨fun x hx => ?_, ?_⟩
    · simp only [vs, List.flatMap_cons, List.mem_append] at hx
      rcases hx with hx | hx
      · exact h3 x hx
      · exact h1 x hx
    · simp only [vs, List.flatMap_cons, List.length_append, List.length_cons]
      unfold vs at h2; omega
theorem flat_bytes {bs : List Blk} (h : ∀ b ∈ bs, b.length = 8 ∧ Bytes b) : Bytes bs.flatten ∧ bs.flatten.length = 8 * bs.length := by
  induction bs with
  | nil => exact ⟨fun x hx => by simp at hx, rfl⟩
  | cons b bs ih =>
    obtain ⟨h1, h2⟩ := ih (fun x hx => h x (by simp [hx]))
    obtain ⟨h3, h4⟩ := h b (by simp)
    refine ⟨fun x hx => ?_, by simp only [List.flatten_cons, List.length_append, h2, h3, List.length_cons]; omega⟩
    simp only [List.flatten_cons, List.mem_append] at hx
    rcases hx with hx | hx
    · exact h4 x hx
    · exact h1 x hx
theorem body_bytes {f : Frame} (h : Good f) : Bytes (body f) ∧ (body f).length ≤ 1000 := by
  obtain ⟨h1, h2⟩ := vs_bytes h.num
  obtain ⟨h3, h4⟩ := flat_bytes h.blk
  have := h.ns
  have := h.bs
  refine ⟨fun x hx => ?_, by simp only [body, pre1, List.length_append, List.length_cons, List.length_nil]; omega⟩
  simp only [body, List.mem_append] at hx
  rcases hx with (hx | hx) | hx
  · simp only [pre1, List.mem_cons, List.not_mem_nil, or_false] at hx
    rcases hx with rfl | rfl
    · have := wrap_in .u8 (ar .add .i64 (ar .mul .i64 16 f.1) (f.2.1.length : Int))
      unfold inK at this; simpa [IntKind.min, IntKind.max, IntKind.signed, IntKind.bits] using this
    · have := wrap_in .u8 (f.2.2.length : Int)
      unfold inK at this; simpa [IntKind.min, IntKind.max, IntKind.signed, IntKind.bits] using this
  · exact h1 x hx
  · exact h3 x hx

theorem packed_is {f : Frame} (h : Good f) : m_ref_Packed f = some (packed f) := by
  obtain ⟨s, ns, bs⟩ := f
  have hns := h.ns
  have hbs := h.bs
  have hnum := h.num
  have hblk := h.blk
  simp only at hns hbs hnum hblk
  obtain ⟨hvb, hvl⟩ := vs_bytes hnum
  obtain ⟨hfb, hfl⟩ := flat_bytes hblk
  obtain ⟨hbb, hbl⟩ := body_bytes h
  unfold m_ref_Packed
  simp only
  rw [show ((0 : Int), [IntKind.wrap .u8 (ar .add .i64 (ar .mul .i64 16 s) (ns.length : Int)), IntKind.wrap .u8 (bs.length : Int)]) = (((0 : Nat) : Int), pre1 (s, ns, bs)) from rfl]
  rw [lp_inv (l := ns) (fun i (acc : List Int) => ((i : Int), acc)) (fun i acc => acc.length ≤ 2 + 5 * i) (pre1 (s, ns, bs)) (fun _ n acc => acc ++ vf 4 n.toNat) (fun acc => acc) (by unfold FUEL; omega) (by simp [pre1])]
  · rw [foldl_zipIdx (fun n : Int => vf 4 n.toNat)]
    rw [show ((0 : Int), pre1 (s, ns, bs) ++ ns.flatMap (fun n => vf 4 n.toNat)) = (((0 : Nat) : Int), pre1 (s, ns, bs) ++ vs ns) from rfl]
    rw [lp_inv (l := bs) (fun i (acc : List Int) => ((i : Int), acc)) (fun i acc => acc.length ≤ 100 + 8 * i) (pre1 (s, ns, bs) ++ vs ns) (fun _ z acc => acc ++ z) (fun acc => acc) (by unfold FUEL; omega) (by simp [pre1]; omega)]
    · rw [foldl_zipIdx (fun z : Blk => z)]
      have hb0 : pre1 (s, ns, bs) ++ vs ns ++ bs.flatMap (fun z => z) = body (s, ns, bs) := by simp [body, List.flatMap_id']
      rw [hb0, sumOf_is _ hbb (by omega)]
      simp only [Option.bind_some]
      have hlt : crcL (nat (body (s, ns, bs))) < 4294967296 := foldl_lt _ _ (by decide) (nat_byte hbb)
      generalize hv : 4294967295 - crcL (nat (body (s, ns, bs))) = v
      have hv2 : v < 4294967296 := by omega
      rw [show (16777216 : Int) = ((16777216 : Nat) : Int) from rfl, show (65536 : Int) = ((65536 : Nat) : Int) from rfl, show (256 : Int) = ((256 : Nat) : Int) from rfl, quo64 (by omega), quo64 (by omega), quo64 (by omega), rem64, rem64, rem64, wrap8, wrap8, wrap8, wrap8]
      rw [app_small _ _ (by simp; omega)]
      simp only [Option.bind_some, packed, hv, sum4]
      have e1 : v / 16777216 % 256 = v / 16777216 := Nat.mod_eq_of_lt (by omega)
      simp [e1]
    · rintro pre z rest acc rfl hI
      obtain ⟨hz, _⟩ := hblk z (by simp)
      simp only [lss_app, cond_true]
      rw [show ((0 : Int), acc) = (((0 : Nat) : Int), acc) from rfl]
      rw [lp_inv (l := z) (fun i (acc : List Int) => ((i : Int), acc)) (fun i acc => acc.length ≤ 10000 + i) acc (fun _ x acc => acc ++ [x]) (fun acc => acc) (by unfold FUEL; omega) (by simp at hbs; omega)]
      · rw [foldl_zipIdx (fun x : Int => [x])]
        have : z.flatMap (fun x => [x]) = z := by simp
        rw [this, inc (n := pre.length) (m := 1000000) (by simp at hbs; omega) (by omega)]
        exact ⟨rfl, by simp; omega⟩
      · rintro p x r acc hzz hI
        have hlen : p.length < 8 := by rw [← hz, hzz]; simp
        have h8 : cm .lss (p.length : Int) 8 = true := by simp [cm]; omega
        simp only [h8, cond_true, idx_app, Option.bind_some]
        rw [hzz, idx_app]
        simp only [Option.bind_some]
        rw [app_small _ _ (by simp; omega), inc (n := p.length) (m := 8) hlen (by omega)]
        exact ⟨rfl, by simp; omega⟩
      · intro acc _
        rw [hz]; simp [cm]
    · intro acc _; simp [lss_self]
  · rintro pre n rest acc rfl hI
    have hn := hnum n (by simp)
    obtain ⟨m, rfl⟩ : ∃ m : Nat, n = (m : Int) := ⟨n.toNat, by omega⟩
    simp only [lss_app, cond_true, idx_app, Option.bind_some]
    have hal : acc.length ≤ 900000 := by simp at hns; omega
    obtain ⟨q, acc', h3, h4, h5⟩ := lp_vint (γ := Step (Int × List Int) (Ex (List Int) (List Int))) (step := fun (s62 : Int × (List Int)) =>
          bif (cm .geq s62.1 (128 : Int)) then
            (Sw.app s62.2 ([(IntKind.wrap .u8 (ar .add .i64 (128 : Int) (ar .rem .i64 s62.1 (128 : Int))))] : (List Int))).bind fun v68 =>
              some (.next ((ar .quo .i64 s62.1 (128 : Int)), v68))
          else
            some (.done (.brk (s62.1, s62.2))))
      (k := fun (x66 : Int × (List Int)) => (Sw.app x66.2 ([(IntKind.wrap .u8 x66.1)] : (List Int))).bind fun v69 => some (.next ((ar .add .i64 (pre.length : Int) (1 : Int)), v69)))
      (by
        intro n acc h1 h2 h3
        have : cm .geq (n : Int) 128 = true := by simp [cm]; omega
        simp only [this, cond_true]
        rw [show (128 : Int) = ((128 : Nat) : Int) from rfl, rem64, add64 (by omega), wrap8, app_small _ _ (by simp; omega), quo64 (by omega)]
        simp only [Option.bind_some]
        rw [Nat.mod_eq_of_lt (by omega : 128 + n % 128 < 256)])
      (by
        intro n acc h1
        have : cm .geq (n : Int) 128 = false := by simp [cm]; omega
        simp [this]) m acc (by omega) hal
    have hvl4 := (vf_bytes 4 m (by omega)).2
    have hlen : acc'.length + 1 = acc.length + (vf 4 m).length := by
      have := congrArg List.length h5; simpa using this
    rw [h3]
    simp only [wrap8]
    rw [app_small _ _ (by simp at hns; simp; omega), Nat.mod_eq_of_lt (by omega : q < 256), h5, inc (n := pre.length) (m := 1000000) (by simp at hns; omega) (by omega)]
    refine ⟨by simp, by simp; omega⟩
  · intro acc _; simp [lss_self]

theorem pack_is {f : Frame} (h : Good f) (he : frameErr f = 0) : m_frame_Pack f = some (packed f, none) := by
  obtain ⟨s, ns, bs⟩ := f
  have hs0 := h.s0
  have hs1 := h.s1
  have hns := h.ns
  have hbs := h.bs
  have hnum := h.num
  have hblk := h.blk
  simp only at hns hbs hnum hblk hs0 hs1
  obtain ⟨hvb, hvl⟩ := vs_bytes hnum
  obtain ⟨hfb, hfl⟩ := flat_bytes hblk
  obtain ⟨hbb, hbl⟩ := body_bytes h
  unfold m_frame_Pack
  rw [frameCheck_is, if_pos he]
  simp only [Option.bind_some, Option.isSome_none, cond_false]
  have hh : ar .or .u8 (sh .shl .u8 (IntKind.wrap .u8 s) 4) (IntKind.wrap .u8 (ns.length : Int)) = IntKind.wrap .u8 (ar .add .i64 (ar .mul .i64 16 s) (ns.length : Int)) := by
    have := hdr ⟨s.toNat, by omega⟩ ⟨ns.length, by omega⟩
    have e : ((s.toNat : Nat) : Int) = s := by omega
    simpa [e] using this
  rw [hh, show ((0 : Int), [IntKind.wrap .u8 (ar .add .i64 (ar .mul .i64 16 s) (ns.length : Int)), IntKind.wrap .u8 (bs.length : Int)]) = (((0 : Nat) : Int), pre1 (s, ns, bs)) from rfl]
  rw [lp_inv (l := ns) (fun i (acc : List Int) => ((i : Int), acc)) (fun i acc => acc.length ≤ 2 + 5 * i) (pre1 (s, ns, bs)) (fun _ n acc => acc ++ vf 4 n.toNat) (fun acc => acc) (by unfold FUEL; omega) (by simp [pre1])]
  · rw [foldl_zipIdx (fun n : Int => vf 4 n.toNat)]
    rw [show ((0 : Int), pre1 (s, ns, bs) ++ ns.flatMap (fun n => vf 4 n.toNat)) = (((0 : Nat) : Int), pre1 (s, ns, bs) ++ vs ns) from rfl]
    rw [lp_inv (l := bs) (fun i (acc : List Int) => ((i : Int), acc)) (fun i acc => acc.length ≤ 100 + 8 * i) (pre1 (s, ns, bs) ++ vs ns) (fun _ z acc => acc ++ z) (fun acc => acc) (by unfold FUEL; omega) (by simp [pre1]; omega)]
    · rw [foldl_zipIdx (fun z : Blk => z)]
      have hb0 : pre1 (s, ns, bs) ++ vs ns ++ bs.flatMap (fun z => z) = body (s, ns, bs) := by simp [body, List.flatMap_id']
      rw [hb0, sum_is _ hbb (by omega)]
      simp only [Option.bind_some]
      have hlt : crcL (nat (body (s, ns, bs))) < 4294967296 := foldl_lt _ _ (by decide) (nat_byte hbb)
      generalize hv : 4294967295 - crcL (nat (body (s, ns, bs))) = v
      have hv2 : v < 4294967296 := by omega
      have sh24 : sh .shr .u32 (v : Int) 24 = ((v / 16777216 : Nat) : Int) := by
        show Int.fdiv _ _ = _
        have : (2 : Int) ^ min (24 : Int).toNat (IntKind.bits .u32) = 16777216 := by decide
        rw [this, Int.fdiv_eq_ediv_of_nonneg _ (by omega)]; omega
      have sh16 : sh .shr .u32 (v : Int) 16 = ((v / 65536 : Nat) : Int) := by
        show Int.fdiv _ _ = _
        have : (2 : Int) ^ min (16 : Int).toNat (IntKind.bits .u32) = 65536 := by decide
        rw [this, Int.fdiv_eq_ediv_of_nonneg _ (by omega)]; omega
      have sh8 : sh .shr .u32 (v : Int) 8 = ((v / 256 : Nat) : Int) := by
        show Int.fdiv _ _ = _
        have : (2 : Int) ^ min (8 : Int).toNat (IntKind.bits .u32) = 256 := by decide
        rw [this, Int.fdiv_eq_ediv_of_nonneg _ (by omega)]; omega
      rw [sh24, sh16, sh8, wrap8, wrap8, wrap8, wrap8]
      rw [app_small _ _ (by simp; omega)]
      simp only [Option.bind_some, packed, hv, sum4]
      have e1 : v / 16777216 % 256 = v / 16777216 := Nat.mod_eq_of_lt (by omega)
      simp [e1]
    · rintro pre z rest acc rfl hI
      obtain ⟨hz, _⟩ := hblk z (by simp)
      simp only [lss_app, cond_true, idx_app, Option.bind_some]
      have hpl : pre.length ≤ 32 := by simp at hbs; omega
      rw [app_small _ _ (by omega), inc (n := pre.length) (m := 1000000) (by simp at hbs; omega) (by omega)]
      exact ⟨rfl, by simp; omega⟩
    · intro acc _; simp [lss_self]
  · rintro pre n rest acc rfl hI
    have hn := hnum n (by simp)
    obtain ⟨m, rfl⟩ : ∃ m : Nat, n = (m : Int) := ⟨n.toNat, by omega⟩
    simp only [lss_app, cond_true, idx_app, Option.bind_some]
    have hal : acc.length ≤ 900000 := by simp at hns; omega
    obtain ⟨q, acc', h3, h4, h5⟩ := lp_vint (γ := Step (Int × List Int) (Ex (List Int) (List Int × Option Int))) (step := fun (s64 : Int × (List Int)) =>
              bif (cm .gtr s64.1 (127 : Int)) then
                (Sw.app s64.2 ([(ar .or .u8 (IntKind.wrap .u8 s64.1) (128 : Int))] : (List Int))).bind fun v70 =>
                  some (.next ((sh .shr .i64 s64.1 (7 : Int)), v70))
              else
                some (.done (.brk (s64.1, s64.2))))
      (k := fun (x68 : Int × (List Int)) => (Sw.app x68.2 ([(IntKind.wrap .u8 x68.1)] : (List Int))).bind fun v71 => some (.next ((ar .add .i64 (pre.length : Int) (1 : Int)), v71)))
      (by
        intro n acc h1 h2 h3
        have : cm .gtr (n : Int) 127 = true := by simp [cm]; omega
        simp only [this, cond_true]
        rw [wrap8, or8' ⟨n % 256, Nat.mod_lt _ (by decide)⟩, app_small _ _ (by simp; omega), shr7]
        simp only [Option.bind_some]
        rw [Nat.mod_mod_of_dvd _ (by decide : 128 ∣ 256)])
      (by
        intro n acc h1
        have : cm .gtr (n : Int) 127 = false := by simp [cm]; omega
        simp [this]) m acc (by omega) hal
    have hvl4 := (vf_bytes 4 m (by omega)).2
    have hlen : acc'.length + 1 = acc.length + (vf 4 m).length := by
      have := congrArg List.length h5; simpa using this
    rw [h3]
    simp only [wrap8]
    rw [app_small _ _ (by simp at hns; simp; omega), Nat.mod_eq_of_lt (by omega : q < 256), h5, inc (n := pre.length) (m := 1000000) (by simp at hns; omega) (by omega)]
    refine ⟨by simp, by simp; omega⟩
  · intro acc _; simp [lss_self]

theorem sameBytes_self (l : List Int) (h : l.length ≤ 1000000) : m_ref_SameBytes l l = some true := by
  unfold m_ref_SameBytes
  have : cm .neq (l.length : Int) (l.length : Int) = false := by simp [cm]
  rw [this]
  simp only [cond_false]
  rw [show (0 : Int) = ((0 : Nat) : Int) from rfl, lp_list (l := l) (fun i (_ : Unit) => (i : Int)) () (fun _ _ _ => .next ()) (fun _ => .brk ()) (by unfold FUEL; omega)]
  · have : ∀ (l : List Int) i, foldS (fun (_ : Nat) (_ : Int) (_ : Unit) => (Step.next () : Step Unit (Ex Unit Bool))) (fun _ => .brk ()) i () l = .brk () := by
      intro l; induction l with
      | nil => intro i; rfl
      | cons x l ih => intro i; simp only [foldS]; exact ih _
    rw [this]; rfl
  · rintro pre x rest acc rfl
    simp only [lss_app, cond_true, idx_app, Option.bind_some, stp, inc (n := pre.length) (m := 1000000) (by simp at h; omega) (by omega)]
    simp [cm]
  · intro _; simp [lss_self]
theorem isErr (n : Int) : m_ref_Is (if n = 0 then none else some n) n = some true := by
  unfold m_ref_Is
  by_cases h : n = 0
  · simp [h, cm]
  · have : (n != 0) = true := by simp [h]
    simp [h, cm, this]
theorem packed_len {f : Frame} (h : Good f) : (packed f).length ≤ 1000000 := by
  have := (body_bytes h).2
  simp [packed, sum4]; omega

theorem frameSays' (f : Frame) (hb : ∀ b ∈ f.2.2, b.length = 8 ∧ Bytes b) : m_law_FrameSays f = some true := by
  unfold m_law_FrameSays
  rw [frameMay_is]
  simp only [Option.bind_some, jp]
  by_cases he : frameErr f = 0
  · have hg := good_of he hb
    have e0 : cm .eql (frameErr f) 0 = true := by simp [cm, he]
    simp only [e0, cond_true, packed_is hg, Option.bind_some, pack_is hg he, frameCheck_is, isErr, sameBytes_self _ (packed_len hg)]
    have := isErr (frameErr f)
    rw [he] at this ⊢
    simp only [if_true] at this
    rw [this]; simp
  · have e0 : cm .eql (frameErr f) 0 = false := by simp [cm, he]
    have hpk : m_frame_Pack f = some ([], some (frameErr f)) := by
      unfold m_frame_Pack
      rw [frameCheck_is, if_neg he]; simp
    have := isErr (frameErr f)
    rw [if_neg he] at this
    simp [e0, hpk, frameCheck_is, he, this, sameBytes_self]
theorem frameSays (f : Frame) (h : Wf (Enc.pr (Enc.int .i64) (Enc.pr (Enc.sl (Enc.int .i64)) (Enc.sl eBlk))) f) : m_law_FrameSays f = some true :=
  frameSays' f fun b hb => by
    have h1 := (h.pr.2.pr.2.sl.2 b hb).arr
    refine ⟨h1.1, fun x hx => ?_⟩
    have := (h1.2 x hx).int
    unfold inK at this; simpa [IntKind.min, IntKind.max, IntKind.signed, IntKind.bits] using this
end Go.Pl
