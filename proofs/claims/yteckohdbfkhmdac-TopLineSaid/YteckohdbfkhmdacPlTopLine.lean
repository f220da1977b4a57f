/- The plain law: the model of the law answers true. Conditions: none. -/
import Derived.Test.YteckohdbfkhmdacMoTopLine
set_option linter.unusedVariables false
set_option linter.unusedSimpArgs false
namespace Go.Pl
open Go Go.Sw

/-- going over a list, with what is carried, till something is done -/
def foldS {A B D : Type} (g : Nat → A → B → Step B D) (fin : B → D) : Nat → B → List A → D
  | _, acc, [] => fin acc
  | i, acc, x :: xs => match g i x acc with
    | .next acc' => foldS g fin (i + 1) acc' xs
    | .done d => d

def stp {α B D : Type} (st : Nat → B → α) (i : Nat) : Step B D → Step α D
  | .next a => .next (st i a)
  | .done d => .done d
def out {β γ : Type} (k : β → Option γ) : Ex β γ → Option γ
  | .brk y => k y
  | .ret z => some z

theorem loop_list {α A B D : Type} {step : α → Option (Step α D)} {l : List A} (st : Nat → B → α) (g : Nat → A → B → Step B D) (fin : B → D)
    (hs : ∀ pre x rest acc, l = pre ++ x :: rest → step (st pre.length acc) = some (stp st (pre.length + 1) (g pre.length x acc)))
    (he : ∀ acc, step (st l.length acc) = some (.done (fin acc))) :
    ∀ (rest pre : List A) (acc : B) (f : Nat), l = pre ++ rest → rest.length < f → loop step f (st pre.length acc) = some (foldS g fin pre.length acc rest)
  | [], pre, acc, f, hl, hf => by
    obtain ⟨f, rfl⟩ : ∃ f', f = f' + 1 := ⟨f - 1, by simp at hf; omega⟩
    have := he acc
    rw [hl, List.append_nil] at this
    simp [loop, this, foldS]
  | x :: rest, pre, acc, f, hl, hf => by
    obtain ⟨f, rfl⟩ : ∃ f', f = f' + 1 := ⟨f - 1, by simp at hf; omega⟩
    have h1 := hs pre x rest acc hl
    simp only [loop, h1, foldS]
    cases hg : g pre.length x acc with
    | done d => rfl
    | next acc' =>
      have ih := loop_list st g fin hs he rest (pre ++ [x]) acc' f (by rw [hl]; simp) (by simp at hf; omega)
      simpa [stp] using ih

theorem lp_list {α A B β γ : Type} {step : α → Option (Step α (Ex β γ))} {l : List A} {k : β → Option γ} (st : Nat → B → α) (acc0 : B) (g : Nat → A → B → Step B (Ex β γ)) (fin : B → Ex β γ) (hf : l.length < FUEL)
    (hs : ∀ pre x rest acc, l = pre ++ x :: rest → step (st pre.length acc) = some (stp st (pre.length + 1) (g pre.length x acc)))
    (he : ∀ acc, step (st l.length acc) = some (.done (fin acc))) :
    lp step (st 0 acc0) k = out k (foldS g fin 0 acc0 l) := by
  have h := loop_list st g fin hs he l [] acc0 FUEL rfl hf
  unfold lp
  simp only [List.length_nil] at h
  rw [h]
  cases foldS g fin 0 acc0 l <;> rfl

theorem idx_app {α : Type} (pre : List α) (x : α) (rest : List α) : Sw.idx (pre ++ x :: rest) (pre.length : Int) = some x := by
  unfold Sw.idx; simp
theorem inc {n m : Nat} (h : n < m) (hm : m ≤ 4611686018427387904) : ar .add .i64 (n : Int) 1 = ((n + 1 : Nat) : Int) := by
  unfold ar; simp only [IntKind.wrap, IntKind.signed, IntKind.bits]; simp; omega
theorem lss_app {α : Type} (pre : List α) (x : α) (rest : List α) : cm .lss (pre.length : Int) ((pre ++ x :: rest).length : Int) = true := by
  unfold cm; simp; omega
theorem lss_self {n : Nat} : cm .lss (n : Int) (n : Int) = false := by unfold cm; simp
end Go.Pl

namespace Go.Pl
open Go Go.Sw

theorem lp_count {α β γ : Type} {step : α → Option (Step α (Ex β γ))} {k : β → Option γ} (st : Nat → α) (n : Nat) (y : β) (hf : n < FUEL) (hs : ∀ i, i < n → step (st i) = some (.next (st (i + 1)))) (he : step (st n) = some (.done (.brk y))) : lp step (st 0) k = k y := by
  have h : ∀ m i, i + m = n → ∀ f, m < f → loop step f (st i) = some (.brk y) := by
    intro m
    induction m with
    | zero =>
      intro i hi f hf
      obtain ⟨f, rfl⟩ : ∃ f', f = f' + 1 := ⟨f - 1, by omega⟩
      simp only [Nat.add_zero] at hi
      subst hi
      simp [loop, he]
    | succ m ih =>
      intro i hi f hf
      obtain ⟨f, rfl⟩ : ∃ f', f = f' + 1 := ⟨f - 1, by omega⟩
      simp only [loop, hs i (by omega)]
      exact ih (i + 1) (by omega) f (by omega)
  unfold lp
  rw [h n 0 (by omega) FUEL hf]

theorem wrap_i64 {n : Int} (h : -9223372036854775808 ≤ n ∧ n ≤ 9223372036854775807) : IntKind.wrap .i64 n = n := wrap_id (k := .i64) (by unfold inK; simp [IntKind.min, IntKind.max, IntKind.signed, IntKind.bits]; omega)
theorem wrap_u8 {n : Int} (h : 0 ≤ n ∧ n ≤ 255) : IntKind.wrap .u8 n = n := wrap_id (k := .u8) (by unfold inK; simp [IntKind.min, IntKind.max, IntKind.signed, IntKind.bits]; omega)
theorem wrap_u32 {n : Int} (h : 0 ≤ n ∧ n ≤ 4294967295) : IntKind.wrap .u32 n = n := wrap_id (k := .u32) (by unfold inK; simp [IntKind.min, IntKind.max, IntKind.signed, IntKind.bits]; omega)
theorem ofInt_nat (w n : Nat) : BitVec.ofInt w (n : Int) = BitVec.ofNat w n := by
  apply BitVec.eq_of_toNat_eq
  simp
theorem xor32 {a b : Nat} (ha : a < 4294967296) (hb : b < 4294967296) : ar .xor .u32 (a : Int) (b : Int) = ((a ^^^ b : Nat) : Int) := by
  have h : a ^^^ b < 2 ^ 32 := Nat.xor_lt_two_pow (by simpa using ha) (by simpa using hb)
  show IntKind.wrap .u32 ((BitVec.ofInt 32 (a : Int) ^^^ BitVec.ofInt 32 (b : Int)).toNat : Int) = _
  simp only [ofInt_nat, BitVec.toNat_xor, BitVec.toNat_ofNat]
  rw [Nat.mod_eq_of_lt (by simpa using ha), Nat.mod_eq_of_lt (by simpa using hb)]
  exact wrap_u32 (by simp at h; omega)
theorem and32 {a : Nat} (ha : a < 4294967296) : ar .and .u32 (a : Int) 1 = ((a % 2 : Nat) : Int) := by
  show IntKind.wrap .u32 ((BitVec.ofInt 32 (a : Int) &&& BitVec.ofInt 32 ((1 : Nat) : Int)).toNat : Int) = _
  simp only [ofInt_nat, BitVec.toNat_and, BitVec.toNat_ofNat]
  rw [Nat.mod_eq_of_lt (a := a) (by simpa using ha), Nat.mod_eq_of_lt (a := 1) (by decide), Nat.and_one_is_mod]
  exact wrap_u32 (by omega)
theorem mul32 {a : Nat} (ha : a < 2) : ar .mul .u32 3988292384 (a : Int) = ((if a = 1 then 3988292384 else 0 : Nat) : Int) := by
  have : a = 0 ∨ a = 1 := by omega
  rcases this with rfl | rfl
  · rfl
  · decide
theorem shr1 {a : Nat} : sh .shr .u32 (a : Int) 1 = ((a / 2 : Nat) : Int) := by
  show Int.fdiv _ _ = _
  have : (2 : Int) ^ min (1 : Int).toNat (IntKind.bits .u32) = 2 := by decide
  rw [this, Int.fdiv_eq_ediv_of_nonneg _ (by omega)]
  omega
theorem not32 {a : Nat} (ha : a < 4294967296) : bnot .u32 (a : Int) = ((4294967295 - a : Nat) : Int) := by
  unfold bnot
  show IntKind.wrap .u32 ((BitVec.allOnes 32 ^^^ BitVec.ofInt 32 (a : Int)).toNat : Int) = _
  simp only [ofInt_nat, BitVec.allOnes_xor, BitVec.toNat_not, BitVec.toNat_ofNat]
  rw [Nat.mod_eq_of_lt (by simpa using ha)]
  exact wrap_u32 (by omega)
theorem tdiv_nat (a b : Nat) : Int.tdiv (a : Int) (b : Int) = ((a / b : Nat) : Int) := rfl
theorem tmod_nat (a b : Nat) : Int.tmod (a : Int) (b : Int) = ((a % b : Nat) : Int) := rfl
theorem quo64 {a b : Nat} (ha : a ≤ 9223372036854775807) : ar .quo .i64 (a : Int) (b : Int) = ((a / b : Nat) : Int) := by
  show IntKind.wrap .i64 _ = _
  rw [tdiv_nat]
  have := Nat.div_le_self a b
  generalize a / b = q at *
  exact wrap_i64 (by omega)
theorem rem64 {a b : Nat} : ar .rem .i64 (a : Int) (b : Int) = ((a % b : Nat) : Int) := rfl
theorem add64 {a b : Nat} (h : a + b ≤ 9223372036854775807) : ar .add .i64 (a : Int) (b : Int) = ((a + b : Nat) : Int) := by
  show IntKind.wrap .i64 _ = _
  rw [← Int.natCast_add]; exact wrap_i64 (by omega)
theorem mul64 {a b : Nat} (h : a * b ≤ 9223372036854775807) : ar .mul .i64 (a : Int) (b : Int) = ((a * b : Nat) : Int) := by
  show IntKind.wrap .i64 _ = _
  rw [← Int.natCast_mul]; exact wrap_i64 (by omega)
theorem nz_ok {n : Int} (h : n ≠ 0) : nz n = some () := by unfold nz; rw [if_neg h]
theorem cm_lss {a b : Nat} : cm .lss (a : Int) (b : Int) = decide (a < b) := by unfold cm; simp
theorem bit_xor (a b i : Nat) : (a ^^^ b) / 2 ^ i % 2 = (a / 2 ^ i + b / 2 ^ i) % 2 := by
  have h := Nat.testBit_xor a b i
  simp only [Nat.testBit_eq_decide_div_mod_eq] at h
  have ha := Nat.mod_two_eq_zero_or_one (a / 2 ^ i)
  have hb := Nat.mod_two_eq_zero_or_one (b / 2 ^ i)
  have hc := Nat.mod_two_eq_zero_or_one ((a ^^^ b) / 2 ^ i)
  rw [Nat.add_mod]
  rcases ha with ha | ha <;> rcases hb with hb | hb <;> rcases hc with hc | hc <;> simp [ha, hb, hc] at h ⊢
theorem xor_half (a b : Nat) : (a ^^^ b) / 2 = a / 2 ^^^ b / 2 := by
  have := Nat.shiftRight_xor_distrib (i := 1) (a := a) (b := b)
  simpa [Nat.shiftRight_eq_div_pow] using this
end Go.Pl

namespace Go.Pl
open Go Go.Sw Go.Mo

def poly : Nat := 3988292384
/-- one step of the sum -/
def crc1 (r : Nat) : Nat := if r % 2 = 1 then r / 2 ^^^ poly else r / 2
theorem crc1_lt {r : Nat} (h : r < 4294967296) : crc1 r < 4294967296 := by
  unfold crc1
  split
  · have : r / 2 ^^^ poly < 2 ^ 32 := Nat.xor_lt_two_pow (by omega) (by unfold poly; omega)
    simpa using this
  · omega
def crcN : Nat → Nat → Nat
  | 0, r => r
  | n + 1, r => crc1 (crcN n r)
theorem crcN_lt {n r : Nat} (h : r < 4294967296) : crcN n r < 4294967296 := by
  induction n with
  | zero => exact h
  | succ n ih => exact crc1_lt ih
def crcB (r : Nat) (b : Nat) : Nat := crcN 8 (r ^^^ b)
theorem crcB_lt {r b : Nat} (h : r < 4294967296) (hb : b < 256) : crcB r b < 4294967296 := by
  refine crcN_lt ?_
  have : r ^^^ b < 2 ^ 32 := Nat.xor_lt_two_pow (by omega) (by omega)
  simpa using this
def crcL (l : List Nat) : Nat := l.foldl crcB 4294967295
theorem foldl_lt (l : List Nat) (r : Nat) (h : r < 4294967296) (hb : ∀ b ∈ l, b < 256) : l.foldl crcB r < 4294967296 := by
  induction l generalizing r with
  | nil => exact h
  | cons b l ih => exact ih _ (crcB_lt h (hb b (by simp))) (fun x hx => hb x (by simp [hx]))

/-- bytes -/
def Bytes (l : List Int) : Prop := ∀ x ∈ l, 0 ≤ x ∧ x ≤ 255
def nat (l : List Int) : List Nat := l.map Int.toNat
theorem nat_byte {l : List Int} (h : Bytes l) : ∀ b ∈ nat l, b < 256 := by
  intro b hb
  obtain ⟨x, hx, rfl⟩ := List.mem_map.1 hb
  have := h x hx; omega

theorem foldS_fold {D : Type} (l : List Int) (h : Bytes l) (mk : Nat → Ex Int D) : ∀ (i r : Nat), foldS (fun (_ : Nat) (x : Int) (acc : Nat) => (Step.next (crcB acc x.toNat) : Step Nat (Ex Int D))) mk i r l = mk ((nat l).foldl crcB r) := by
  induction l with
  | nil => intro i r; rfl
  | cons x l ih => intro i r; simp only [foldS, nat, List.map_cons, List.foldl_cons]; exact ih (fun y hy => h y (by simp [hy])) _ _

theorem sum_is (l : List Int) (h : Bytes l) (hl : l.length ≤ 1000000) : m_frame_Sum l = some ((4294967295 - crcL (nat l) : Nat) : Int) := by
  unfold m_frame_Sum
  rw [show ((4294967295 : Int), (0 : Int)) = (((⟨4294967295, by decide⟩ : {r : Nat // r < 4294967296}).1 : Int), ((0 : Nat) : Int)) from rfl]
  rw [lp_list (l := l) (fun i (r : {r : Nat // r < 4294967296}) => ((r.1 : Int), (i : Int))) ⟨4294967295, by decide⟩ (fun _ x r => .next ⟨crcB r.1 x.toNat % 4294967296, Nat.mod_lt _ (by decide)⟩) (fun r => .brk (r.1 : Int)) (by unfold FUEL; omega)]
  · have : ∀ (l : List Int) (i : Nat) (r : {r : Nat // r < 4294967296}), Bytes l → foldS (fun (_ : Nat) (x : Int) (r : {r : Nat // r < 4294967296}) => (Step.next ⟨crcB r.1 x.toNat % 4294967296, Nat.mod_lt _ (by decide)⟩ : Step _ (Ex Int Int))) (fun r => .brk (r.1 : Int)) i r l = .brk (((nat l).foldl crcB r.1 : Nat) : Int) := by
      intro l
      induction l with
      | nil => intro i r _; rfl
      | cons x l ih =>
        intro i r hb
        simp only [foldS, nat, List.map_cons, List.foldl_cons]
        have h1 := ih (i + 1) ⟨crcB r.1 x.toNat % 4294967296, Nat.mod_lt _ (by decide)⟩ (fun y hy => hb y (by simp [hy]))
        rw [h1]
        have := hb x (by simp)
        have e : crcB r.1 x.toNat % 4294967296 = crcB r.1 x.toNat := Nat.mod_eq_of_lt (crcB_lt r.2 (by omega))
        show Ex.brk (((nat l).foldl crcB (crcB r.1 x.toNat % 4294967296) : Nat) : Int) = _
        rw [e]; rfl
    rw [this l 0 _ h]
    have hlt : (nat l).foldl crcB 4294967295 < 4294967296 := foldl_lt _ _ (by decide) (nat_byte h)
    simp only [out, crcL]
    rw [not32 hlt]
  · rintro pre x rest ⟨r, hr⟩ rfl
    have hx := h x (by simp)
    obtain ⟨b, rfl⟩ : ∃ b : Nat, x = (b : Int) := ⟨x.toNat, by omega⟩
    have hb : b < 256 := by omega
    simp only [lss_app, cond_true, idx_app, Option.bind_some]
    have hx0 : r ^^^ b < 4294967296 := by
      have : r ^^^ b < 2 ^ 32 := Nat.xor_lt_two_pow (by omega) (by omega)
      simpa using this
    rw [xor32 hr (by omega), show ((((r ^^^ b : Nat) : Int)), (0 : Int)) = (fun i : Nat => ((crcN i (r ^^^ b) : Int), (i : Int))) 0 from rfl]
    rw [lp_count (fun i : Nat => ((crcN i (r ^^^ b) : Int), (i : Int))) 8 ((crcN 8 (r ^^^ b) : Nat) : Int) (by unfold FUEL; omega)]
    · simp only [stp, inc (n := pre.length) (m := 1000000) (by simp at hl; omega) (by omega), Int.toNat_natCast]
      rw [Nat.mod_eq_of_lt (crcB_lt hr hb)]; rfl
    · intro i hi
      have hlt := crcN_lt (n := i) hx0
      have h8 : cm .lss (i : Int) 8 = true := by simp [cm]; omega
      have hp : (crcN i (r ^^^ b)) / 2 < 4294967296 := by omega
      simp only [h8, cond_true, shr1, and32 hlt, mul32 (Nat.mod_lt _ (by decide : 0 < 2))]
      rw [xor32 hp (by split <;> decide), inc (n := i) (m := 8) hi (by omega)]
      simp only [crcN, crc1, poly]
      split
      · rename_i h1; simp [h1]
      · rename_i h1; simp [h1]
    · simp [cm]
  · rintro ⟨r, hr⟩
    simp [lss_self]

/-! ### the same, bit by bit -/
theorem xor_lt32 {a b : Nat} (ha : a < 4294967296) (hb : b < 4294967296) : a ^^^ b < 4294967296 := by
  have : a ^^^ b < 2 ^ 32 := Nat.xor_lt_two_pow (by omega) (by omega)
  simpa using this
theorem xor_mod2 (a b : Nat) : (a ^^^ b) % 2 = (a + b) % 2 := by
  have := bit_xor a b 0
  simpa using this
end Go.Pl

namespace Go.Pl
open Go Go.Sw
/-- it lies somewhere so -/
def Wf {α : Type} (e : Enc α) (x : α) : Prop := ∃ S w cs, e.ok x S w cs
theorem Wf.int {k : IntKind} {n : Int} (h : Wf (Enc.int k) n) : inK k n := by obtain ⟨_, _, _, h⟩ := h; exact h.2
theorem okL_all {α : Type} {e : Enc α} {S w} : ∀ {xs : List α} {cs}, e.okL xs S w cs → ∀ x ∈ xs, Wf e x
  | [], _, _, x, hx => by simp at hx
  | y :: ys, _, ⟨c, d, _, h2, h3⟩, x, hx => by
    rcases List.mem_cons.1 hx with rfl | hx
    · exact ⟨_, _, _, h2⟩
    · exact okL_all h3 x hx
theorem Wf.arr {α : Type} {m : Nat} {e : Enc α} {xs : List α} (h : Wf (Enc.arr m e) xs) : xs.length = m ∧ ∀ x ∈ xs, Wf e x := by
  obtain ⟨_, _, _, h1, h2⟩ := h; exact ⟨h1, okL_all h2⟩
theorem Wf.sl {α : Type} {e : Enc α} {xs : List α} (h : Wf (Enc.sl e) xs) : xs.length ≤ 140737488355328 ∧ ∀ x ∈ xs, Wf e x := by
  obtain ⟨_, _, _, a, cap, _, h2, h3⟩ := h
  refine ⟨h2.2, ?_⟩
  rcases h3 with rfl | ⟨b, off, ds, _, _, _, _, h4⟩
  · intro x hx; simp at hx
  · exact okL_all h4
theorem Wf.pr {α β : Type} {a : Enc α} {b : Enc β} {x : α × β} (h : Wf (Enc.pr a b) x) : Wf a x.1 ∧ Wf b x.2 := by
  obtain ⟨_, _, _, c, d, _, h1, h2⟩ := h; exact ⟨⟨_, _, _, h1⟩, ⟨_, _, _, h2⟩⟩
theorem Wf.one1 {α : Type} {a : Enc α} {x : α} (h : Wf (Enc.one1 a) x) : Wf a x := h
theorem Wf.of_val {α : Type} {e : Enc α} {x : α} {S w v} (h : e.val x S w v) : Wf e x := by obtain ⟨cs, h, _⟩ := h; exact ⟨_, _, _, h⟩
end Go.Pl

namespace Go.Pl
open Go Go.Sw Go.Mo

abbrev Frame := Int × List Int × List Blk
def bad (x : Int) : Bool := decide (x < 0) || decide (x > 2147483647)
/-- what is wrong with a frame -/
def frameErr (f : Frame) : Int := if f.1 < 0 ∨ f.1 > 15 then 1 else if f.2.1.length > 12 ∨ f.2.2.length > 32 then 2 else if f.2.1.any bad then 1 else 0

theorem any_fold {D : Type} (r : Nat → D) (l : List Int) : ∀ i, foldS (fun (i : Nat) (x : Int) (_ : Unit) => (if bad x then Step.done (Ex.ret (r i)) else .next () : Step Unit (Ex Unit D))) (fun _ => .brk ()) i () l = match l.findIdx? bad with | some j => .ret (r (i + j)) | none => .brk () := by
  induction l with
  | nil => intro i; simp [foldS]
  | cons x l ih =>
    intro i
    simp only [foldS, List.findIdx?_cons]
    by_cases hx : bad x = true
    · simp [hx]
    · simp only [hx, if_false, ih, Bool.false_eq_true]
      cases l.findIdx? bad with
      | none => rfl
      | some j => simp [Nat.add_assoc, Nat.add_comm 1]
theorem any_find (l : List Int) : l.any bad = (l.findIdx? bad).isSome := by
  rw [List.findIdx?_isSome]

theorem check1_is (x : Int) : m_frame_Check_1 x = some (bad x) := by
  unfold m_frame_Check_1 bad
  by_cases hx : x < 0
  · have : cm .lss x 0 = true := by simp [cm, hx]
    simp [this, hx]
  · have : cm .lss x 0 = false := by simp [cm]; omega
    simp [this, hx, cm]
theorem contains_is (l : List Int) (h : l.length ≤ 1000000) : m_slices_ContainsFunc_int_int__frame_Check_1 l = some (l.any bad) := by
  unfold m_slices_ContainsFunc_int_int__frame_Check_1 m_slices_IndexFunc_int_int__frame_Check_1
  rw [show (0 : Int) = ((0 : Nat) : Int) from rfl, lp_list (l := l) (fun i (_ : Unit) => (i : Int)) () (fun i x _ => if bad x then .done (.ret (i : Int)) else .next ()) (fun _ => .brk ()) (by unfold FUEL; omega)]
  · rw [any_fold (fun i => (i : Int)), any_find]
    cases l.findIdx? bad <;> simp [out, cm]
  · rintro pre x rest acc rfl
    simp only [lss_app, cond_true, idx_app, Option.bind_some, check1_is, inc (n := pre.length) (m := 1000000) (by simp at h; omega) (by omega)]
    cases bad x <;> simp [stp]
  · intro _; simp [lss_self]
theorem frameCheck_is (f : Frame) : m_frame_Check f = some (if frameErr f = 0 then none else some (frameErr f)) := by
  obtain ⟨s, ns, bs⟩ := f
  unfold m_frame_Check frameErr
  by_cases h1 : s < 0
  · have : cm .lss s 0 = true := by simp [cm, h1]
    simp [this, h1]
  have e1 : cm .lss s 0 = false := by simp [cm]; omega
  by_cases h2 : s > 15
  · have : cm .gtr s 15 = true := by simp [cm]; omega
    simp [e1, this, h2]
  have e2 : cm .gtr s 15 = false := by simp [cm]; omega
  have h12 : ¬ (s < 0 ∨ s > 15) := by omega
  simp only [e1, e2, cond_false, Option.bind_some, h12, if_false]
  by_cases h3 : ns.length > 12
  · have : cm .gtr (ns.length : Int) 12 = true := by simp [cm]; omega
    simp [this, h3]
  have e3 : cm .gtr (ns.length : Int) 12 = false := by simp [cm]; omega
  by_cases h4 : bs.length > 32
  · have : cm .gtr (bs.length : Int) 32 = true := by simp [cm]; omega
    simp [e3, this, h4]
  have e4 : cm .gtr (bs.length : Int) 32 = false := by simp [cm]; omega
  have h34 : ¬ (ns.length > 12 ∨ bs.length > 32) := by omega
  simp only [e3, e4, cond_false, Option.bind_some, h34, if_false, contains_is ns (by omega)]
  cases ns.any bad <;> simp

/-! ### bytes of numbers -/
def vf : Nat → Nat → List Int
  | 0, n => [(n : Int)]
  | k + 1, n => if n < 128 then [(n : Int)] else ((128 + n % 128 : Nat) : Int) :: vf k (n / 128)
theorem vf_bytes : ∀ k n, n < 128 ^ (k + 1) → Bytes (vf k n) ∧ (vf k n).length ≤ k + 1
  | 0, n, h => by
    simp at h
    exact ⟨fun x hx => by simp [vf] at hx; omega, by simp [vf]⟩
  | k + 1, n, h => by
    unfold vf
    split
    · exact ⟨fun x hx => by simp at hx; omega, by simp⟩
    · have h2 : n / 128 < 128 ^ (k + 1) := by rw [Nat.pow_succ] at h; omega
      obtain ⟨h3, h4⟩ := vf_bytes k (n / 128) h2
      refine ⟨fun x hx => ?_, by simp; omega⟩
      rcases List.mem_cons.1 hx with rfl | hx
      · have := Nat.mod_lt n (by decide : 0 < 128); omega
      · exact h3 x hx
/-- the loop that writes a number -/
theorem vint_loop {γ : Type} {step : Int × List Int → Option (Step (Int × List Int) (Ex (Int × List Int) γ))}
    (h1 : ∀ (n : Nat) acc, 128 ≤ n → n < 34359738368 → acc.length ≤ 1000000 → step ((n : Int), acc) = some (.next (((n / 128 : Nat) : Int), acc ++ [((128 + n % 128 : Nat) : Int)])))
    (h2 : ∀ (n : Nat) acc, n < 128 → step ((n : Int), acc) = some (.done (.brk ((n : Int), acc)))) :
    ∀ (k n : Nat) (acc : List Int) (f : Nat), n < 128 ^ (k + 1) → n < 34359738368 → acc.length + k ≤ 1000000 → k < f → ∃ (m : Nat) (acc' : List Int), loop step f ((n : Int), acc) = some (.brk ((m : Int), acc')) ∧ m < 128 ∧ acc' ++ [(m : Int)] = acc ++ vf k n
  | 0, n, acc, f, hn, _, _, hf => by
    obtain ⟨f, rfl⟩ : ∃ f', f = f' + 1 := ⟨f - 1, by omega⟩
    simp at hn
    exact ⟨n, acc, by simp [loop, h2 n acc hn], hn, rfl⟩
  | k + 1, n, acc, f, hn, hn2, ha, hf => by
    obtain ⟨f, rfl⟩ : ∃ f', f = f' + 1 := ⟨f - 1, by omega⟩
    by_cases hlt : n < 128
    · exact ⟨n, acc, by simp [loop, h2 n acc hlt], hlt, by simp [vf, hlt]⟩
    · obtain ⟨m, acc', h3, h4, h5⟩ := vint_loop h1 h2 k (n / 128) (acc ++ [((128 + n % 128 : Nat) : Int)]) f (by rw [Nat.pow_succ] at hn; omega) (by omega) (by simp; omega) (by omega)
      refine ⟨m, acc', ?_, h4, ?_⟩
      · simp only [loop, h1 n acc (by omega) hn2 (by omega)]; exact h3
      · rw [h5]; simp [vf, hlt]

theorem ar_rem {a : Nat} {b : Nat} : ar .rem .i64 (a : Int) (b : Int) = ((a % b : Nat) : Int) := rfl
theorem or8 : ∀ a : Fin 128, ar .or .u8 ((a.1 + 0 : Nat) : Int) 128 = ((128 + a.1 : Nat) : Int) := by decide +kernel
theorem or8' : ∀ a : Fin 256, ar .or .u8 ((a.1 : Nat) : Int) 128 = ((128 + a.1 % 128 : Nat) : Int) := by decide +kernel
theorem wrap8 (n : Nat) : IntKind.wrap .u8 (n : Int) = ((n % 256 : Nat) : Int) := by
  simp [IntKind.wrap, IntKind.signed, IntKind.bits]
theorem shr7 (n : Nat) : sh .shr .i64 (n : Int) 7 = ((n / 128 : Nat) : Int) := by
  show Int.fdiv _ _ = _
  have : (2 : Int) ^ min (7 : Int).toNat (IntKind.bits .i64) = 128 := by decide
  rw [this, Int.fdiv_eq_ediv_of_nonneg _ (by omega)]
  omega
theorem hdr : ∀ s : Fin 16, ∀ n : Fin 13, ar .or .u8 (sh .shl .u8 (IntKind.wrap .u8 (s.1 : Int)) 4) (IntKind.wrap .u8 (n.1 : Int)) = IntKind.wrap .u8 (ar .add .i64 (ar .mul .i64 16 (s.1 : Int)) (n.1 : Int)) := by decide +kernel

/-- the bytes ahead of the sum -/
def pre1 (f : Frame) : List Int := [IntKind.wrap .u8 (ar .add .i64 (ar .mul .i64 16 f.1) (f.2.1.length : Int)), IntKind.wrap .u8 (f.2.2.length : Int)]
def vs (ns : List Int) : List Int := ns.flatMap fun n => vf 4 n.toNat
def body (f : Frame) : List Int := pre1 f ++ vs f.2.1 ++ f.2.2.flatten
def sum4 (v : Nat) : List Int := [((v / 16777216 : Nat) : Int), ((v / 65536 % 256 : Nat) : Int), ((v / 256 % 256 : Nat) : Int), ((v % 256 : Nat) : Int)]
def packed (f : Frame) : List Int := body f ++ sum4 (4294967295 - crcL (nat (body f)))

/-- going over a list, adding bytes -/
theorem foldS_app {A γ : Type} (w : A → List Int) (l : List A) : ∀ (i : Nat) (acc : List Int), foldS (fun (_ : Nat) (x : A) (acc : List Int) => (Step.next (acc ++ w x) : Step (List Int) (Ex (List Int) γ))) (fun acc => .brk acc) i acc l = .brk (acc ++ l.flatMap w) := by
  induction l with
  | nil => intro i acc; simp [foldS]
  | cons x l ih => intro i acc; simp only [foldS, ih]; simp

/-- as lp_list, with what holds on the way -/
theorem lp_inv {α A B β γ : Type} {step : α → Option (Step α (Ex β γ))} {l : List A} {k : β → Option γ} (st : Nat → B → α) (I : Nat → B → Prop) (acc0 : B) (g : Nat → A → B → B) (fin : B → β) (hf : l.length < FUEL) (h0 : I 0 acc0)
    (hs : ∀ pre x rest acc, l = pre ++ x :: rest → I pre.length acc → step (st pre.length acc) = some (.next (st (pre.length + 1) (g pre.length x acc))) ∧ I (pre.length + 1) (g pre.length x acc))
    (he : ∀ acc, I l.length acc → step (st l.length acc) = some (.done (.brk (fin acc)))) :
    lp step (st 0 acc0) k = k (fin ((l.zipIdx).foldl (fun acc x => g x.2 x.1 acc) acc0)) := by
  have key : ∀ (rest pre : List A) (acc : B) (f : Nat), l = pre ++ rest → I pre.length acc → rest.length < f → loop step f (st pre.length acc) = some (.brk (fin ((rest.zipIdx pre.length).foldl (fun acc x => g x.2 x.1 acc) acc))) := by
    intro rest
    induction rest with
    | nil =>
      intro pre acc f hl hI hf
      obtain ⟨f, rfl⟩ : ∃ f', f = f' + 1 := ⟨f - 1, by simp at hf; omega⟩
      have := he acc (by rw [hl, List.append_nil]; exact hI)
      rw [hl, List.append_nil] at this
      simp [loop, this]
    | cons x rest ih =>
      intro pre acc f hl hI hf
      obtain ⟨f, rfl⟩ : ∃ f', f = f' + 1 := ⟨f - 1, by simp at hf; omega⟩
      obtain ⟨h1, h2⟩ := hs pre x rest acc hl hI
      simp only [loop, h1]
      have := ih (pre ++ [x]) (g pre.length x acc) f (by rw [hl]; simp) (by simpa using h2) (by simp at hf; omega)
      simpa using this
  have h := key l [] acc0 FUEL rfl h0 hf
  unfold lp
  simp only [List.length_nil] at h
  rw [h]
theorem foldl_zipIdx {A : Type} (w : A → List Int) : ∀ (l : List A) (i : Nat) (acc : List Int), (l.zipIdx i).foldl (fun acc x => acc ++ w x.1) acc = acc ++ l.flatMap w
  | [], _, acc => by simp
  | x :: l, i, acc => by simp [foldl_zipIdx w l]
end Go.Pl

namespace Go.Pl
open Go Go.Sw Go.Mo
theorem app_small {α : Type} (xs ys : List α) (h : xs.length + ys.length ≤ 4294967296) : Sw.app xs ys = some (xs ++ ys) := by unfold Sw.app; rw [if_pos h]
end Go.Pl

namespace Go.Pl
open Go Go.Sw Go.Mo

theorem lp_vint {γ : Type} {step : Int × List Int → Option (Step (Int × List Int) (Ex (Int × List Int) γ))} {k : Int × List Int → Option γ}
    (h1 : ∀ (n : Nat) acc, 128 ≤ n → n < 34359738368 → acc.length ≤ 1000000 → step ((n : Int), acc) = some (.next (((n / 128 : Nat) : Int), acc ++ [((128 + n % 128 : Nat) : Int)])))
    (h2 : ∀ (n : Nat) acc, n < 128 → step ((n : Int), acc) = some (.done (.brk ((n : Int), acc)))) (n : Nat) (acc : List Int) (hn : n < 34359738368) (ha : acc.length ≤ 900000) :
    ∃ (m : Nat) (acc' : List Int), lp step ((n : Int), acc) k = k ((m : Int), acc') ∧ m < 128 ∧ acc' ++ [(m : Int)] = acc ++ vf 4 n := by
  obtain ⟨m, acc', h3, h4, h5⟩ := vint_loop h1 h2 4 n acc FUEL (by omega) hn (by omega) (by unfold FUEL; omega)
  exact ⟨m, acc', by unfold lp; rw [h3], h4, h5⟩

/-- a frame that may be -/
structure Good (f : Frame) : Prop where
  s0 : 0 ≤ f.1
  s1 : f.1 ≤ 15
  ns : f.2.1.length ≤ 12
  bs : f.2.2.length ≤ 32
  num : ∀ n ∈ f.2.1, 0 ≤ n ∧ n ≤ 2147483647
  blk : ∀ b ∈ f.2.2, b.length = 8 ∧ Bytes b
theorem good_of {f : Frame} (h : frameErr f = 0) (hb : ∀ b ∈ f.2.2, b.length = 8 ∧ Bytes b) : Good f := by
  unfold frameErr at h
  split at h
  · cases h
  · split at h
    · cases h
    · split at h
      · cases h
      · rename_i h1 h2 h3
        refine ⟨by omega, by omega, by omega, by omega, fun n hn => ?_, hb⟩
        have : ¬ bad n = true := fun hc => h3 (List.any_eq_true.2 ⟨n, hn, hc⟩)
        simp [bad] at this; omega

theorem vs_bytes {ns : List Int} (h : ∀ n ∈ ns, 0 ≤ n ∧ n ≤ 2147483647) : Bytes (vs ns) ∧ (vs ns).length ≤ 5 * ns.length := by
  induction ns with
  | nil => exact ⟨fun x hx => by simp [vs] at hx, by simp [vs]⟩
  | cons n ns ih =>
    obtain ⟨h1, h2⟩ := ih (fun x hx => h x (by simp [hx]))
    have hn := h n (by simp)
    obtain ⟨h3, h4⟩ := vf_bytes 4 n.toNat (by omega)
    refine ⟨fun x hx => ?_, ?_⟩
    · simp only [vs, List.flatMap_cons, List.mem_append] at hx
      rcases hx with hx | hx
      · exact h3 x hx
      · exact h1 x hx
    · simp only [vs, List.flatMap_cons, List.length_append, List.length_cons]
      unfold vs at h2; omega
theorem flat_bytes {bs : List Blk} (h : ∀ b ∈ bs, b.length = 8 ∧ Bytes b) : Bytes bs.flatten ∧ bs.flatten.length = 8 * bs.length := by
  induction bs with
  | nil => exact ⟨fun x hx => by simp at hx, rfl⟩
  | cons b bs ih =>
    obtain ⟨h1, h2⟩ := ih (fun x hx => h x (by simp [hx]))
    obtain ⟨h3, h4⟩ := h b (by simp)
    refine ⟨fun x hx => ?_, by simp only [List.flatten_cons, List.length_append, h2, h3, List.length_cons]; omega⟩
    simp only [List.flatten_cons, List.mem_append] at hx
    rcases hx with hx | hx
    · exact h4 x hx
    · exact h1 x hx
theorem body_bytes {f : Frame} (h : Good f) : Bytes (body f) ∧ (body f).length ≤ 1000 := by
  obtain ⟨h1, h2⟩ := vs_bytes h.num
  obtain ⟨h3, h4⟩ := flat_bytes h.blk
  have := h.ns
  have := h.bs
  refine ⟨fun x hx => ?_, by simp only [body, pre1, List.length_append, List.length_cons, List.length_nil]; omega⟩
  simp only [body, List.mem_append] at hx
  rcases hx with (hx | hx) | hx
  · simp only [pre1, List.mem_cons, List.not_mem_nil, or_false] at hx
    rcases hx with rfl | rfl
    · have := wrap_in .u8 (ar .add .i64 (ar .mul .i64 16 f.1) (f.2.1.length : Int))
      unfold inK at this; simpa [IntKind.min, IntKind.max, IntKind.signed, IntKind.bits] using this
    · have := wrap_in .u8 (f.2.2.length : Int)
      unfold inK at this; simpa [IntKind.min, IntKind.max, IntKind.signed, IntKind.bits] using this
  · exact h1 x hx
  · exact h3 x hx

theorem pack_is {f : Frame} (h : Good f) (he : frameErr f = 0) : m_frame_Pack f = some (packed f, none) := by
  obtain ⟨s, ns, bs⟩ := f
  have hs0 := h.s0
  have hs1 := h.s1
  have hns := h.ns
  have hbs := h.bs
  have hnum := h.num
  have hblk := h.blk
  simp only at hns hbs hnum hblk hs0 hs1
  obtain ⟨hvb, hvl⟩ := vs_bytes hnum
  obtain ⟨hfb, hfl⟩ := flat_bytes hblk
  obtain ⟨hbb, hbl⟩ := body_bytes h
  unfold m_frame_Pack
  rw [frameCheck_is, if_pos he]
  simp only [Option.bind_some, Option.isSome_none, cond_false]
  have hh : ar .or .u8 (sh .shl .u8 (IntKind.wrap .u8 s) 4) (IntKind.wrap .u8 (ns.length : Int)) = IntKind.wrap .u8 (ar .add .i64 (ar .mul .i64 16 s) (ns.length : Int)) := by
    have := hdr ⟨s.toNat, by omega⟩ ⟨ns.length, by omega⟩
    have e : ((s.toNat : Nat) : Int) = s := by omega
    simpa [e] using this
  rw [hh, show ((0 : Int), [IntKind.wrap .u8 (ar .add .i64 (ar .mul .i64 16 s) (ns.length : Int)), IntKind.wrap .u8 (bs.length : Int)]) = (((0 : Nat) : Int), pre1 (s, ns, bs)) from rfl]
  rw [lp_inv (l := ns) (fun i (acc : List Int) => ((i : Int), acc)) (fun i acc => acc.length ≤ 2 + 5 * i) (pre1 (s, ns, bs)) (fun _ n acc => acc ++ vf 4 n.toNat) (fun acc => acc) (by unfold FUEL; omega) (by simp [pre1])]
  · rw [foldl_zipIdx (fun n : Int => vf 4 n.toNat)]
    rw [show ((0 : Int), pre1 (s, ns, bs) ++ ns.flatMap (fun n => vf 4 n.toNat)) = (((0 : Nat) : Int), pre1 (s, ns, bs) ++ vs ns) from rfl]
    rw [lp_inv (l := bs) (fun i (acc : List Int) => ((i : Int), acc)) (fun i acc => acc.length ≤ 100 + 8 * i) (pre1 (s, ns, bs) ++ vs ns) (fun _ z acc => acc ++ z) (fun acc => acc) (by unfold FUEL; omega) (by simp [pre1]; omega)]
    · rw [foldl_zipIdx (fun z : Blk => z)]
      have hb0 : pre1 (s, ns, bs) ++ vs ns ++ bs.flatMap (fun z => z) = body (s, ns, bs) := by simp [body, List.flatMap_id']
      rw [hb0, sum_is _ hbb (by omega)]
      simp only [Option.bind_some]
      have hlt : crcL (nat (body (s, ns, bs))) < 4294967296 := foldl_lt _ _ (by decide) (nat_byte hbb)
      generalize hv : 4294967295 - crcL (nat (body (s, ns, bs))) = v
      have hv2 : v < 4294967296 := by omega
      have sh24 : sh .shr .u32 (v : Int) 24 = ((v / 16777216 : Nat) : Int) := by
        show Int.fdiv _ _ = _
        have : (2 : Int) ^ min (24 : Int).toNat (IntKind.bits .u32) = 16777216 := by decide
        rw [this, Int.fdiv_eq_ediv_of_nonneg _ (by omega)]; omega
      have sh16 : sh .shr .u32 (v : Int) 16 = ((v / 65536 : Nat) : Int) := by
        show Int.fdiv _ _ = _
        have : (2 : Int) ^ min (16 : Int).toNat (IntKind.bits .u32) = 65536 := by decide
        rw [this, Int.fdiv_eq_ediv_of_nonneg _ (by omega)]; omega
      have sh8 : sh .shr .u32 (v : Int) 8 = ((v / 256 : Nat) : Int) := by
        show Int.fdiv _ _ = _
        have : (2 : Int) ^ min (8 : Int).toNat (IntKind.bits .u32) = 256 := by decide
        rw [this, Int.fdiv_eq_ediv_of_nonneg _ (by omega)]; omega
      rw [sh24, sh16, sh8, wrap8, wrap8, wrap8, wrap8]
      rw [app_small _ _ (by simp; omega)]
      simp only [Option.bind_some, packed, hv, sum4]
      have e1 : v / 16777216 % 256 = v / 16777216 := Nat.mod_eq_of_lt (by omega)
      simp [e1]
    · rintro pre z rest acc rfl hI
      obtain ⟨hz, _⟩ := hblk z (by simp)
      simp only [lss_app, cond_true, idx_app, Option.bind_some]
      have hpl : pre.length ≤ 32 := by simp at hbs; omega
      rw [app_small _ _ (by omega), inc (n := pre.length) (m := 1000000) (by simp at hbs; omega) (by omega)]
      exact ⟨rfl, by simp; omega⟩
    · intro acc _; simp [lss_self]
  · rintro pre n rest acc rfl hI
    have hn := hnum n (by simp)
    obtain ⟨m, rfl⟩ : ∃ m : Nat, n = (m : Int) := ⟨n.toNat, by omega⟩
    simp only [lss_app, cond_true, idx_app, Option.bind_some]
    have hal : acc.length ≤ 900000 := by simp at hns; omega
    obtain ⟨q, acc', h3, h4, h5⟩ := lp_vint (γ := Step (Int × List Int) (Ex (List Int) (List Int × Option Int))) (step := fun (s64 : Int × (List Int)) =>
              bif (cm .gtr s64.1 (127 : Int)) then
                (Sw.app s64.2 ([(ar .or .u8 (IntKind.wrap .u8 s64.1) (128 : Int))] : (List Int))).bind fun v70 =>
                  some (.next ((sh .shr .i64 s64.1 (7 : Int)), v70))
              else
                some (.done (.brk (s64.1, s64.2))))
      (k := fun (x68 : Int × (List Int)) => (Sw.app x68.2 ([(IntKind.wrap .u8 x68.1)] : (List Int))).bind fun v71 => some (.next ((ar .add .i64 (pre.length : Int) (1 : Int)), v71)))
      (by
        intro n acc h1 h2 h3
        have : cm .gtr (n : Int) 127 = true := by simp [cm]; omega
        simp only [this, cond_true]
        rw [wrap8, or8' ⟨n % 256, Nat.mod_lt _ (by decide)⟩, app_small _ _ (by simp; omega), shr7]
        simp only [Option.bind_some]
        rw [Nat.mod_mod_of_dvd _ (by decide : 128 ∣ 256)])
      (by
        intro n acc h1
        have : cm .gtr (n : Int) 127 = false := by simp [cm]; omega
        simp [this]) m acc (by omega) hal
    have hvl4 := (vf_bytes 4 m (by omega)).2
    have hlen : acc'.length + 1 = acc.length + (vf 4 m).length := by
      have := congrArg List.length h5; simpa using this
    rw [h3]
    simp only [wrap8]
    rw [app_small _ _ (by simp at hns; simp; omega), Nat.mod_eq_of_lt (by omega : q < 256), h5, inc (n := pre.length) (m := 1000000) (by simp at hns; omega) (by omega)]
    refine ⟨by simp, by simp; omega⟩
  · intro acc _; simp [lss_self]

theorem packed_len {f : Frame} (h : Good f) : (packed f).length ≤ 1000000 := by
  have := (body_bytes h).2
  simp [packed, sum4]; omega

end Go.Pl

namespace Go.Pl
open Go Go.Sw Go.Mo
theorem cl (m n : Int) : cm .lss m n = decide (m < n) := rfl
theorem cg (m n : Int) : cm .gtr m n = decide (m > n) := rfl
theorem cle (m n : Int) : cm .leq m n = decide (m ≤ n) := rfl
theorem cge (m n : Int) : cm .geq m n = decide (m ≥ n) := rfl
theorem ce (m n : Int) : cm .eql m n = decide (m = n) := by show (m == n) = _; by_cases h : m = n <;> simp [h]
theorem cn (m n : Int) : cm .neq m n = decide (m ≠ n) := by show (m != n) = _; by_cases h : m = n <;> simp [h]
theorem addI {m n : Int} (h : -9223372036854775808 ≤ m + n ∧ m + n ≤ 9223372036854775807) : ar .add .i64 m n = m + n := wrap_i64 h
theorem subI {m n : Int} (h : -9223372036854775808 ≤ m - n ∧ m - n ≤ 9223372036854775807) : ar .sub .i64 m n = m - n := wrap_i64 h
theorem nxt {n : Nat} (h : n ≤ 4611686018427387904) : ar .add .i64 (n : Int) 1 = ((n + 1 : Nat) : Int) := by rw [addI (by omega)]; push_cast; rfl
theorem Bytes.tail {x : Int} {l : List Int} (h : Bytes (x :: l)) : Bytes l := fun y hy => h y (by simp [hy])
theorem Bytes.head {x : Int} {l : List Int} (h : Bytes (x :: l)) : 0 ≤ x ∧ x ≤ 255 := h x (by simp)
def byteV : List Int → Int × Bool × List Int
  | [] => (0, false, [])
  | b :: r => (b, true, r)
theorem byte_is (l : List Int) (hl : l.length ≤ 1000000) : m_frame_taker_byte_io l = some (byteV l) := by
  unfold m_frame_taker_byte_io
  cases l with
  | nil => rfl
  | cons b r =>
    have : ¬ ((b :: r).length : Int) = 0 := by simp; omega
    rw [ce]
    simp only [this, decide_false, cond_false]
    have h1 : Sw.idx (b :: r) 0 = some b := rfl
    have h2 : Sw.sub (b :: r) 1 ((b :: r).length : Int) = some r := by
      unfold Sw.sub
      rw [if_pos (by simp; omega)]
      simp
    rw [h1, h2]; rfl
def numP : Nat → Nat → Nat → List Int → Int × Bool × List Int
  | 0, _, _, l => (0, false, l)
  | _ + 1, _, _, [] => (0, false, [])
  | k + 1, i, v, b :: l => if b < 128 then (((v + b.toNat % 128 * 128 ^ i : Nat) : Int), decide (v + b.toNat % 128 * 128 ^ i ≤ 2147483647) && (decide (0 < b) || decide (i = 0)), l) else numP k (i + 1) (v + b.toNat % 128 * 128 ^ i) l
theorem and7 : ∀ a : Fin 256, ar .and .u8 ((a.1 : Nat) : Int) 127 = ((a.1 % 128 : Nat) : Int) := by decide +kernel
theorem and7' {b : Int} (h : 0 ≤ b ∧ b ≤ 255) : ar .and .u8 b 127 = ((b.toNat % 128 : Nat) : Int) := by
  have := and7 ⟨b.toNat, by omega⟩
  have e : ((b.toNat : Nat) : Int) = b := by omega
  simpa [e] using this
theorem pow7 (i : Nat) : 128 ^ i = 2 ^ (7 * i) := by rw [Nat.pow_mul]
theorem shl7 {c i : Nat} (hi : i ≤ 4) (hc : c < 128) : sh .shl .i64 (c : Int) ((7 * i : Nat) : Int) = ((c * 128 ^ i : Nat) : Int) := by
  show IntKind.wrap .i64 ((c : Int) * 2 ^ min ((7 * i : Nat) : Int).toNat (IntKind.bits .i64)) = _
  rw [Int.toNat_natCast, show IntKind.bits .i64 = 64 from rfl, Nat.min_eq_left (by omega), pow7]
  have h1 : 2 ^ (7 * i) ≤ 2 ^ 28 := Nat.pow_le_pow_right (by decide) (by omega)
  have h2 : c * 2 ^ (7 * i) ≤ 127 * 2 ^ 28 := Nat.mul_le_mul (by omega) h1
  have e : (c : Int) * 2 ^ (7 * i) = ((c * 2 ^ (7 * i) : Nat) : Int) := by push_cast; rfl
  rw [e, wrap_i64 (by omega)]
theorem or64 {a b : Nat} (ha : a < 4611686018427387904) (hb : b < 4611686018427387904) : ar .or .i64 (a : Int) (b : Int) = ((a ||| b : Nat) : Int) := by
  have h : a ||| b < 2 ^ 62 := Nat.or_lt_two_pow (by simpa using ha) (by simpa using hb)
  show IntKind.wrap .i64 ((BitVec.ofInt 64 (a : Int) ||| BitVec.ofInt 64 (b : Int)).toNat : Int) = _
  simp only [ofInt_nat, BitVec.toNat_or, BitVec.toNat_ofNat]
  rw [Nat.mod_eq_of_lt (a := a) (by omega), Nat.mod_eq_of_lt (a := b) (by omega)]
  exact wrap_i64 (by omega)
theorem orAdd {v c i : Nat} (hi : i ≤ 4) (hc : c < 128) (hv : v < 128 ^ i) : ar .or .i64 (v : Int) ((c * 128 ^ i : Nat) : Int) = ((v + c * 128 ^ i : Nat) : Int) := by
  have h1 : 128 ^ i ≤ 128 ^ 4 := Nat.pow_le_pow_right (by decide) hi
  have h2 : c * 128 ^ i ≤ 127 * 128 ^ 4 := Nat.mul_le_mul (by omega) h1
  rw [or64 (by omega) (by omega)]
  congr 1
  rw [pow7] at *
  have := Nat.shiftLeft_add_eq_or_of_lt hv c
  rw [Nat.shiftLeft_eq] at this
  rw [Nat.or_comm, ← this, Nat.add_comm]
theorem grow {v c i : Nat} (hc : c < 128) (hv : v < 128 ^ i) : v + c * 128 ^ i < 128 ^ (i + 1) := by
  rw [Nat.pow_succ]
  have : c * 128 ^ i ≤ 127 * 128 ^ i := Nat.mul_le_mul_right _ (by omega)
  omega
theorem num_is (l : List Int) (hb : Bytes l) (hl : l.length ≤ 1000000) : m_frame_taker_number_io l = some (numP 5 0 0 l) := by
  unfold m_frame_taker_number_io
  have key : ∀ (k i v : Nat) (l : List Int) (f : Nat), i + k = 5 → v < 128 ^ i → Bytes l → l.length ≤ 1000000 → k < f →
      ∃ e, loop (fun (s22 : Int × Int × (List Int)) =>
    bif (cm .lss s22.2.1 (35 : Int)) then
      (m_frame_taker_byte_io s22.2.2).bind fun v36 =>
        bif (!v36.2.1) then
          some (.done (.ret ((0 : Int), false, v36.2.2)))
        else
          (nn s22.2.1).bind fun _ =>
            bif (cm .lss v36.1 (128 : Int)) then
              (bif (cm .leq (ar .or .i64 s22.1 (sh .shl .i64 (ar .and .u8 v36.1 (127 : Int)) s22.2.1)) (2147483647 : Int)) then
                bif (cm .gtr v36.1 (0 : Int)) then
                  some true
                else
                  some (cm .eql s22.2.1 (0 : Int))
              else
                some false).bind fun x42 =>
                some (.done (.ret ((ar .or .i64 s22.1 (sh .shl .i64 (ar .and .u8 v36.1 (127 : Int)) s22.2.1)), x42, v36.2.2)))
            else
              some (.next ((ar .or .i64 s22.1 (sh .shl .i64 (ar .and .u8 v36.1 (127 : Int)) s22.2.1)), (ar .add .i64 s22.2.1 (7 : Int)), v36.2.2))
    else
      some (.done (.brk s22.2.2))
    ) f ((v : Int), ((7 * i : Nat) : Int), l) = some e ∧ out (fun (x34 : List Int) => some ((0 : Int), false, x34)) e = some (numP k i v l) := by
    intro k
    induction k with
    | zero =>
      intro i v l f hi hv hb hl hf
      obtain ⟨f, rfl⟩ : ∃ f', f = f' + 1 := ⟨f - 1, by omega⟩
      have hi5 : i = 5 := by omega
      subst hi5
      exact ⟨.brk l, rfl, rfl⟩
    | succ k ih =>
      intro i v l f hi hv hb hl hf
      obtain ⟨f, rfl⟩ : ∃ f', f = f' + 1 := ⟨f - 1, by omega⟩
      have h35 : cm .lss ((7 * i : Nat) : Int) 35 = true := by rw [cl]; simp; omega
      have hnn : nn ((7 * i : Nat) : Int) = some () := by unfold nn; rw [if_pos (by omega)]
      simp only [loop, h35, cond_true, byte_is l hl, Option.bind_some]
      cases l with
      | nil => exact ⟨.ret (0, false, []), by simp [byteV], rfl⟩
      | cons b l =>
        have hbb := hb.head
        have hc : b.toNat % 128 < 128 := Nat.mod_lt _ (by decide)
        simp only [byteV, Bool.not_true, cond_false, hnn, Option.bind_some, and7' hbb, shl7 (by omega : i ≤ 4) hc, orAdd (by omega : i ≤ 4) hc hv, cl, cle, cg, ce]
        by_cases h128 : b < 128
        · simp only [h128, decide_true, cond_true]
          refine ⟨.ret (((v + b.toNat % 128 * 128 ^ i : Nat) : Int), decide (v + b.toNat % 128 * 128 ^ i ≤ 2147483647) && (decide (0 < b) || decide (i = 0)), l), ?_, ?_⟩
          · by_cases c1 : v + b.toNat % 128 * 128 ^ i ≤ 2147483647
            · have c1' : ((v + b.toNat % 128 * 128 ^ i : Nat) : Int) ≤ 2147483647 := by omega
              by_cases c2 : b > 0
              · have c2' : 0 < b := c2
                simp only [c1', c1, c2', gt_iff_lt, decide_true, cond_true, Option.bind_some, Bool.true_and, Bool.true_or]
              · have c2' : ¬ 0 < b := c2
                have e7 : (((7 * i : Nat) : Int) = 0) ↔ i = 0 := by omega
                simp only [c1', c1, c2, c2', e7, decide_true, decide_false, cond_true, cond_false, Option.bind_some, Bool.true_and, Bool.false_or]
            · have c1' : ¬ ((v + b.toNat % 128 * 128 ^ i : Nat) : Int) ≤ 2147483647 := by omega
              simp only [c1', c1, decide_false, cond_false, Option.bind_some, Bool.false_and]
          · simp only [out, numP, h128, if_true]
        · simp only [h128, decide_false, cond_false]
          have e7 : ar .add .i64 ((7 * i : Nat) : Int) 7 = ((7 * (i + 1) : Nat) : Int) := by rw [addI (by omega)]; push_cast; omega
          rw [e7]
          obtain ⟨e, h1, h2⟩ := ih (i + 1) (v + b.toNat % 128 * 128 ^ i) l f (by omega) (grow hc hv) hb.tail (by simp at hl; omega) (by omega)
          refine ⟨e, h1, ?_⟩
          rw [h2]
          simp only [numP, h128, if_false]
  obtain ⟨e, h1, h2⟩ := key 5 0 0 l FUEL rfl (by decide) hb hl (by unfold FUEL; omega)
  unfold lp
  have h1' := h1
  simp only [Nat.mul_zero] at h1'
  rw [show ((0 : Int), (0 : Int), l) = (((0 : Nat) : Int), ((0 : Nat) : Int), l) from rfl, h1']
  cases e with
  | brk y => exact h2
  | ret z => exact h2
theorem numP_len : ∀ (k i v : Nat) (l : List Int), (numP k i v l).2.2.length ≤ l.length
  | 0, _, _, l => Nat.le_refl _
  | _ + 1, _, _, [] => Nat.le_refl _
  | k + 1, i, v, b :: l => by
    unfold numP; split
    · simp
    · exact Nat.le_trans (numP_len k _ _ l) (by simp)
theorem numP_ok : ∀ (k i v : Nat) (l r : List Int) (w : Int), i + k = 5 → v < 128 ^ i → Bytes l → numP k i v l = (w, true, r) →
    ∃ q : Nat, w = ((v + q * 128 ^ i : Nat) : Int) ∧ v + q * 128 ^ i ≤ 2147483647 ∧ l = vf (k - 1) q ++ r ∧ (0 < i → 0 < q)
  | 0, _, _, _, _, _, _, _, _, h => by simp [numP] at h
  | _ + 1, _, _, [], _, _, _, _, _, h => by simp [numP] at h
  | k + 1, i, v, b :: l, r, w, hi, hv, hb, h => by
    have hbb := hb.head
    unfold numP at h
    split at h
    · rename_i h128
      have h128' : b.toNat % 128 = b.toNat := Nat.mod_eq_of_lt (by omega)
      simp only [Prod.mk.injEq, Bool.and_eq_true, Bool.or_eq_true, decide_eq_true_eq, h128'] at h
      obtain ⟨rfl, ⟨h1, h2⟩, rfl⟩ := h
      refine ⟨b.toNat, rfl, h1, ?_, fun h0 => by omega⟩
      have e : ((b.toNat : Nat) : Int) = b := by omega
      cases k with
      | zero => simp [vf, e]
      | succ k => simp only [Nat.add_sub_cancel]; unfold vf; rw [if_pos (by omega), e]; rfl
    · rename_i h128
      have hc : b.toNat % 128 < 128 := Nat.mod_lt _ (by decide)
      obtain ⟨q, h1, h2, h3, h4⟩ := numP_ok k (i + 1) (v + b.toNat % 128 * 128 ^ i) l r w (by omega) (grow hc hv) hb.tail h
      have hk : 0 < k := by
        cases k with
        | zero => simp [numP] at h
        | succ k => omega
      obtain ⟨k, rfl⟩ : ∃ k', k = k' + 1 := ⟨k - 1, by omega⟩
      have e : v + b.toNat % 128 * 128 ^ i + q * 128 ^ (i + 1) = v + (b.toNat % 128 + 128 * q) * 128 ^ i := by rw [Nat.pow_succ, Nat.add_mul]; rw [Nat.mul_comm 128 q, Nat.mul_assoc q 128, Nat.mul_comm 128 (128 ^ i)]; omega
      have hq := h4 (by omega)
      refine ⟨b.toNat % 128 + 128 * q, by rw [h1, e], by rw [← e]; exact h2, ?_, fun _ => by omega⟩
      simp only [Nat.add_sub_cancel] at h3 ⊢
      unfold vf
      rw [if_neg (by omega), h3]
      have e1 : (b.toNat % 128 + 128 * q) % 128 = b.toNat % 128 := by omega
      have e2 : (b.toNat % 128 + 128 * q) / 128 = q := by omega
      rw [e1, e2]
      have e3 : ((128 + b.toNat % 128 : Nat) : Int) = b := by omega
      rw [e3]; rfl
theorem numP_vf : ∀ (k i v q : Nat) (r : List Int), i + k = 4 → v + q * 128 ^ i ≤ 2147483647 → (0 < i → 0 < q) → numP (k + 1) i v (vf k q ++ r) = (((v + q * 128 ^ i : Nat) : Int), true, r)
  | 0, i, v, q, r, hi, hv, h0 => by
    have hi4 : i = 4 := by omega
    subst hi4
    have hq : q < 128 := by omega
    have h0 := h0 (by omega)
    have e : q % 128 = q := Nat.mod_eq_of_lt hq
    simp only [vf, List.cons_append, List.nil_append, numP, Int.toNat_natCast, e]
    rw [if_pos (by omega)]
    simp
    omega
  | k + 1, i, v, q, r, hi, hv, h0 => by
    unfold vf
    by_cases hq : q < 128
    · have e : q % 128 = q := Nat.mod_eq_of_lt hq
      simp only [hq, if_true, List.cons_append, List.nil_append, numP, Int.toNat_natCast, e]
      rw [if_pos (by omega)]
      simp
      omega
    · simp only [hq, if_false, List.cons_append, numP, Int.toNat_natCast]
      rw [if_neg (by omega)]
      have e1 : (128 + q % 128) % 128 = q % 128 := by omega
      have e : v + q % 128 * 128 ^ i + q / 128 * 128 ^ (i + 1) = v + q * 128 ^ i := by
        rw [Nat.pow_succ]
        have : q * 128 ^ i = (q % 128 + 128 * (q / 128)) * 128 ^ i := by rw [Nat.mod_add_div]
        rw [this, Nat.add_mul, Nat.mul_comm 128 (q / 128), Nat.mul_assoc, Nat.mul_comm 128 (128 ^ i)]; omega
      rw [e1, numP_vf k (i + 1) (v + q % 128 * 128 ^ i) (q / 128) r (by omega) (by rw [e]; exact hv) (fun _ => by omega), e]
/-- so many numbers -/
def numsP : Nat → List Int → List Int → Option (List Int × List Int)
  | 0, acc, l => some (l, acc)
  | n + 1, acc, l => if (numP 5 0 0 l).2.1 then numsP n (acc ++ [(numP 5 0 0 l).1]) (numP 5 0 0 l).2.2 else none
theorem numP_bytes : ∀ (k i v : Nat) (l : List Int), Bytes l → Bytes (numP k i v l).2.2
  | 0, _, _, l, h => h
  | _ + 1, _, _, [], h => h
  | k + 1, i, v, b :: l, h => by
    unfold numP; split
    · exact h.tail
    · exact numP_bytes k _ _ l h.tail
theorem numsP_ok : ∀ (n : Nat) (acc l r acc' : List Int), Bytes l → numsP n acc l = some (r, acc') → ∃ ns, acc' = acc ++ ns ∧ ns.length = n ∧ (∀ x ∈ ns, 0 ≤ x ∧ x ≤ 2147483647) ∧ l = vs ns ++ r
  | 0, acc, l, r, acc', _, h => by
    simp only [numsP, Option.some.injEq, Prod.mk.injEq] at h
    obtain ⟨rfl, rfl⟩ := h
    exact ⟨[], by simp, rfl, fun x hx => by simp at hx, rfl⟩
  | n + 1, acc, l, r, acc', hb, h => by
    unfold numsP at h
    split at h
    · rename_i hok
      obtain ⟨ns, h1, h2, h3, h4⟩ := numsP_ok n _ _ r acc' (numP_bytes _ _ _ _ hb) h
      obtain ⟨q, g1, g2, g3, _⟩ := numP_ok 5 0 0 l (numP 5 0 0 l).2.2 (numP 5 0 0 l).1 rfl (by decide) hb (by rw [← hok])
      simp only [Nat.pow_zero, Nat.mul_one, Nat.zero_add] at g1 g2
      refine ⟨(q : Int) :: ns, by rw [h1, g1]; simp, by simp [h2], fun x hx => ?_, ?_⟩
      · rcases List.mem_cons.1 hx with rfl | hx
        · omega
        · exact h3 x hx
      · have e : vs ((q : Int) :: ns) = vf 4 q ++ vs ns := by simp [vs]
        rw [g3, h4, e, List.append_assoc]
    · cases h
theorem numsP_vs : ∀ (ns acc r : List Int), (∀ x ∈ ns, 0 ≤ x ∧ x ≤ 2147483647) → numsP ns.length acc (vs ns ++ r) = some (r, acc ++ ns)
  | [], acc, r, _ => by simp [numsP, vs]
  | x :: ns, acc, r, h => by
    have hx := h x (by simp)
    have e : vs (x :: ns) ++ r = vf 4 x.toNat ++ (vs ns ++ r) := by simp [vs]
    have g := numP_vf 4 0 0 x.toNat (vs ns ++ r) rfl (by omega) (fun h => by omega)
    simp only [Nat.pow_zero, Nat.mul_one, Nat.zero_add] at g
    have ex : ((x.toNat : Nat) : Int) = x := by omega
    rw [e, List.length_cons, numsP, g]
    simp only [if_true, ex]
    rw [numsP_vs ns _ r (fun y hy => h y (by simp [hy]))]
    simp
/-! ### pieces of eight -/
theorem chunks_cons {c l : List Int} (hc : c.length = 8) : Sw.chunks 8 (c ++ l) = c :: Sw.chunks 8 l := by
  unfold Sw.chunks
  have e : ((c ++ l).length + 8 - 1) / 8 = (l.length + 8 - 1) / 8 + 1 := by rw [List.length_append, hc]; omega
  rw [e, List.range_succ_eq_map, List.map_cons, List.map_map]
  congr 1
  · rw [Nat.zero_mul, List.drop_zero, List.take_append_of_le_length (by omega), List.take_of_length_le (by omega)]
  · apply List.map_congr_left
    intro k _
    simp only [Function.comp_apply, Nat.succ_eq_add_one]
    rw [show (k + 1) * 8 = c.length + k * 8 by omega, List.drop_append]
    congr 1
    simp
theorem chunks_flat : ∀ (bs : List Blk), (∀ b ∈ bs, b.length = 8) → Sw.chunks 8 bs.flatten = bs
  | [], _ => rfl
  | b :: bs, h => by rw [List.flatten_cons, chunks_cons (h b (by simp)), chunks_flat bs (fun c hc => h c (by simp [hc]))]
theorem flat_chunks : ∀ (m : Nat) (l : List Int), l.length = 8 * m → (Sw.chunks 8 l).flatten = l ∧ (∀ b ∈ Sw.chunks 8 l, b.length = 8) ∧ (Sw.chunks 8 l).length = m
  | 0, l, h => by
    have : l = [] := List.length_eq_zero_iff.1 (by omega)
    subst this
    exact ⟨rfl, fun b hb => by simp [Sw.chunks] at hb, rfl⟩
  | m + 1, l, h => by
    have e : l = l.take 8 ++ l.drop 8 := (List.take_append_drop 8 l).symm
    have h8 : (l.take 8).length = 8 := by simp; omega
    obtain ⟨h1, h2, h3⟩ := flat_chunks m (l.drop 8) (by simp; omega)
    rw [e, chunks_cons h8]
    refine ⟨by rw [List.flatten_cons, h1], fun b hb => ?_, by simp [h3]⟩
    rcases List.mem_cons.1 hb with rfl | hb
    · exact h8
    · exact h2 b hb
theorem flat_mem {l : List Int} {bs : List Blk} (h : bs.flatten = l) (hb : Bytes l) : ∀ b ∈ bs, Bytes b := fun b hm x hx => hb x (by rw [← h]; exact List.mem_flatten.2 ⟨b, hm, hx⟩)
/-! ### a frame's bytes but for the sum -/
def parseB : List Int → Option Frame
  | b0 :: b1 :: r => match numsP (b0.toNat % 16) [] r with
    | some (rest, ns) => if b1 > 32 ∨ ns.length > 12 ∨ (rest.length : Int) ≠ 8 * b1 then none else some (((b0.toNat / 16 : Nat) : Int), ns, Sw.chunks 8 rest)
    | none => none
  | _ => none
theorem wrapN {n : Nat} (h : n < 256) : IntKind.wrap .u8 (n : Int) = n := by rw [wrap8]; omega
theorem pre1_is {f : Frame} (g : Good f) : pre1 f = [((16 * f.1.toNat + f.2.1.length : Nat) : Int), (f.2.2.length : Int)] := by
  have h0 := g.s0
  have h1 := g.s1
  have h2 := g.ns
  have h3 := g.bs
  unfold pre1
  have e : ar .add .i64 (ar .mul .i64 16 f.1) (f.2.1.length : Int) = ((16 * f.1.toNat + f.2.1.length : Nat) : Int) := by
    have : ar .mul .i64 16 f.1 = 16 * f.1 := wrap_i64 (by omega)
    rw [this, addI (by omega)]
    omega
  rw [e, wrapN (by omega), wrapN (by omega)]
theorem parseB_ok {b : List Int} {f : Frame} (hb : Bytes b) (h : parseB b = some f) : Good f ∧ frameErr f = 0 ∧ body f = b := by
  match b, h with
  | b0 :: b1 :: r, h =>
    have hb0 := hb.head
    have hb1 := hb.tail.head
    have hr := hb.tail.tail
    simp only [parseB] at h
    cases hn : numsP (b0.toNat % 16) [] r with
    | none => rw [hn] at h; cases h
    | some p =>
      obtain ⟨rest, ns⟩ := p
      rw [hn] at h
      simp only at h
      split at h
      · cases h
      · rename_i hc
        simp only [Option.some.injEq] at h
        subst h
        obtain ⟨ns', h1, h2, h3, h4⟩ := numsP_ok _ _ _ _ _ hr hn
        simp only [List.nil_append] at h1
        subst h1
        obtain ⟨g1, g2, g3⟩ := flat_chunks b1.toNat rest (by omega)
        have hrb : Bytes rest := fun x hx => hr x (by rw [h4]; simp [hx])
        have good : Good (((b0.toNat / 16 : Nat) : Int), ns, Sw.chunks 8 rest) := ⟨by simp only; omega, by simp only; omega, by simp only; omega, by simp only; omega, h3, fun b hb => ⟨g2 b hb, flat_mem g1 hrb b hb⟩⟩
        refine ⟨good, ?_, ?_⟩
        · unfold frameErr
          rw [if_neg (by simp only; omega), if_neg (by simp only; omega), if_neg]
          intro hbad
          obtain ⟨x, hx, hx2⟩ := List.any_eq_true.1 hbad
          have := h3 x hx
          simp [bad] at hx2; omega
        · unfold body
          rw [pre1_is good]
          simp only [g1, g3, h2, List.cons_append, List.nil_append]
          rw [h4]
          have e1 : ((16 * (((b0.toNat / 16 : Nat) : Int)).toNat + b0.toNat % 16 : Nat) : Int) = b0 := by rw [Int.toNat_natCast]; omega
          have e2 : ((b1.toNat : Nat) : Int) = b1 := by omega
          rw [e1, e2]
theorem parseB_body {f : Frame} (g : Good f) : parseB (body f) = some f := by
  have h0 := g.s0
  have h1 := g.s1
  have h2 := g.ns
  have h3 := g.bs
  unfold body
  rw [pre1_is g]
  simp only [List.cons_append, List.nil_append, parseB, Int.toNat_natCast]
  have e1 : (16 * f.1.toNat + f.2.1.length) % 16 = f.2.1.length := by omega
  have e2 : (16 * f.1.toNat + f.2.1.length) / 16 = f.1.toNat := by omega
  rw [e1, e2, numsP_vs _ _ _ g.num]
  simp only [List.nil_append]
  have hf := (flat_bytes g.blk).2
  rw [if_neg (by omega), chunks_flat _ (fun b hb => (g.blk b hb).1)]
  have e3 : ((f.1.toNat : Nat) : Int) = f.1 := by omega
  rw [e3]
end Go.Pl

namespace Go.Pl
open Go Go.Sw Go.Mo
def frameOf (a : List Int) : Option Frame :=
  if a.length < 6 then none else if a.drop (a.length - 4) = sum4 (4294967295 - crcL (nat (a.take (a.length - 4)))) then parseB (a.take (a.length - 4)) else none
theorem shrN {n c : Nat} (hc : c ≤ 32) : sh .shr .u32 (n : Int) (c : Int) = ((n / 2 ^ c : Nat) : Int) := by
  show Int.fdiv _ _ = _
  rw [Int.toNat_natCast, show IntKind.bits .u32 = 32 from rfl, Nat.min_eq_left hc, Int.fdiv_eq_ediv_of_nonneg _ (Int.le_of_lt (Int.pow_pos (by decide)))]
  push_cast; rfl
theorem sum4_is {S : Nat} (h : S < 4294967296) : [(IntKind.wrap .u8 (sh .shr .u32 (S : Int) (24 : Int))), (IntKind.wrap .u8 (sh .shr .u32 (S : Int) (16 : Int))), (IntKind.wrap .u8 (sh .shr .u32 (S : Int) (8 : Int))), (IntKind.wrap .u8 (S : Int))] = sum4 S := by
  rw [show (24 : Int) = ((24 : Nat) : Int) from rfl, show (16 : Int) = ((16 : Nat) : Int) from rfl, show (8 : Int) = ((8 : Nat) : Int) from rfl, shrN (by decide), shrN (by decide), shrN (by decide), wrap8, wrap8, wrap8, wrap8]
  unfold sum4
  have e : S / 2 ^ 24 % 256 = S / 16777216 := by omega
  rw [e]
theorem and15 : ∀ a : Fin 256, ar .and .u8 ((a.1 : Nat) : Int) 15 = ((a.1 % 16 : Nat) : Int) := by decide +kernel
theorem and15' {b : Int} (h : 0 ≤ b ∧ b ≤ 255) : ar .and .u8 b 15 = ((b.toNat % 16 : Nat) : Int) := by
  have := and15 ⟨b.toNat, by omega⟩
  have e : ((b.toNat : Nat) : Int) = b := by omega
  simpa [e] using this
theorem shr4 : ∀ a : Fin 256, sh .shr .u8 ((a.1 : Nat) : Int) 4 = ((a.1 / 16 : Nat) : Int) := by decide +kernel
theorem shr4' {b : Int} (h : 0 ≤ b ∧ b ≤ 255) : sh .shr .u8 b 4 = ((b.toNat / 16 : Nat) : Int) := by
  have := shr4 ⟨b.toNat, by omega⟩
  have e : ((b.toNat : Nat) : Int) = b := by omega
  simpa [e] using this
theorem nxt8 {n : Nat} (h : n < 200) : ar .add .u8 (n : Int) 1 = ((n + 1 : Nat) : Int) := by
  show IntKind.wrap .u8 ((n : Int) + 1) = _
  have : (n : Int) + 1 = ((n + 1 : Nat) : Int) := by push_cast; rfl
  rw [this, wrapN (by omega)]
theorem nums_loop {z : Frame × Option Int} (N : Nat) (hN : N ≤ 15) : ∀ (n j : Nat) (l acc : List Int) (f : Nat), j + n = N → Bytes l → l.length ≤ 1000000 → acc.length + n ≤ 1000 → n < f →
    loop (β := Ex ((List Int) × (List Int)) (Frame × Option Int)) (fun (s19 : Int × (List Int) × (List Int)) =>
                    bif (cm .lss s19.1 (N : Int)) then
                      (m_frame_taker_number_io s19.2.1).bind fun v27 =>
                        bif (!v27.2.1) then
                          some (.done (.ret z))
                        else
                          (Sw.app s19.2.2 ([v27.1] : (List Int))).bind fun v29 =>
                            some (.next ((ar .add .u8 s19.1 (1 : Int)), v27.2.2, v29))
                    else
                      some (.done (.brk (s19.2.1, s19.2.2)))
                    ) f ((j : Int), l, acc) = some (match numsP n acc l with | some p => .brk p | none => .ret z)
  | 0, j, l, acc, f, hj, hb, hl, ha, hf => by
    obtain ⟨f, rfl⟩ : ∃ f', f = f' + 1 := ⟨f - 1, by omega⟩
    have : cm .lss (j : Int) (N : Int) = false := by rw [cl]; simp; omega
    simp only [loop, this, cond_false, numsP]
  | n + 1, j, l, acc, f, hj, hb, hl, ha, hf => by
    obtain ⟨f, rfl⟩ : ∃ f', f = f' + 1 := ⟨f - 1, by omega⟩
    have : cm .lss (j : Int) (N : Int) = true := by rw [cl]; simp; omega
    simp only [loop, this, cond_true, num_is l hb hl, Option.bind_some, numsP]
    by_cases hk : (numP 5 0 0 l).2.1 = true
    · simp only [hk, Bool.not_true, cond_false, if_true]
      rw [app_small _ _ (by simp; omega), Option.bind_some, nxt8 (by omega)]
      exact nums_loop N hN n (j + 1) _ _ f (by omega) (numP_bytes _ _ _ _ hb) (Nat.le_trans (numP_len _ _ _ _) hl) (by simp; omega) (by omega)
    · simp only [Bool.not_eq_true] at hk
      simp only [hk, Bool.not_false, cond_true, Bool.false_eq_true, if_false]
theorem rng_blk : ∀ (its acc : List Blk), (∀ i ∈ its, i.length = 8) → acc.length + its.length ≤ 1000000 →
    rng (δ := Empty) (fun (z38 : (List Int)) (s45 : (List Blk)) =>
                              (Sw.arrOf 8 z38).bind fun z46 =>
                                (Sw.app s45 ([z46] : (List Blk))).bind fun v47 =>
                                  some (.next v47)
                              ) its acc = some (.brk (acc ++ its))
  | [], acc, _, _ => by simp [rng]
  | i :: is, acc, h, hl => by
    have h8 := h i (by simp)
    have e : Sw.arrOf 8 i = some i := by unfold Sw.arrOf; rw [if_pos (by omega), List.take_of_length_le (by omega)]
    simp only [rng, e, Option.bind_some]
    rw [app_small _ _ (by simp at hl ⊢; omega)]
    simp only [Option.bind_some]
    rw [rng_blk is _ (fun j hj => h j (by simp [hj])) (by simp at hl ⊢; omega)]
    simp
theorem unpack_is (a : List Int) (hb : Bytes a) (hl : a.length ≤ 10000) : m_frame_Unpack a = some (match frameOf a with | some f => (f, none) | none => ((0, [], []), some 3)) := by
  unfold m_frame_Unpack frameOf
  rw [cl]
  by_cases h6 : a.length < 6
  · have : (a.length : Int) < 6 := by omega
    simp [h6, this]
  have h6' : ¬ (a.length : Int) < 6 := by omega
  simp only [h6, h6', decide_false, cond_false, if_false]
  generalize hL : a.length - 4 = L
  have eL : ar .sub .i64 (a.length : Int) 4 = (L : Int) := by rw [subI (by omega)]; omega
  have hs1 : Sw.sub a 0 (L : Int) = some (a.take L) := by unfold Sw.sub; rw [if_pos (by omega)]; simp
  have hlen : (a.take L).length = L := by simp; omega
  have hs2 : Sw.sub a (L : Int) (a.length : Int) = some (a.drop L) := by unfold Sw.sub; rw [if_pos (by omega)]; simp
  have hd4 : (a.drop L).length = 4 := by simp; omega
  have har : Sw.arrOf 4 (a.drop L) = some (a.drop L) := by unfold Sw.arrOf; rw [if_pos (by omega), List.take_of_length_le (by omega)]
  have hbt : Bytes (a.take L) := fun x hx => hb x (List.mem_of_mem_take hx)
  have hsum := sum_is (a.take L) hbt (by omega)
  rw [eL, hs1, Option.bind_some, hsum, Option.bind_some, hlen, hs2, Option.bind_some, har, Option.bind_some, sum4_is (by omega)]
  by_cases hc : a.drop L = sum4 (4294967295 - crcL (nat (a.take L)))
  · simp only [hc, decide_true, Bool.not_true, cond_false, if_true]
    generalize hp : a.take L = p at *
    match p, hlen with
    | [], h => simp at h; omega
    | [_], h => simp at h; omega
    | b0 :: b1 :: r, hlen =>
      have hb0 := hbt.head
      have hb1 := hbt.tail.head
      have hr := hbt.tail.tail
      have hrl : r.length ≤ 10000 := by simp at hlen; omega
      rw [byte_is _ (by simp; omega), Option.bind_some]
      simp only [byteV]
      rw [byte_is _ (by simp; omega), Option.bind_some]
      simp only [byteV, and15' hb0, shr4' hb0, parseB]
      have hloop := nums_loop (z := ((0, [], []), some 3)) (b0.toNat % 16) (by omega) (b0.toNat % 16) 0 r [] FUEL (by omega) hr (by omega) (by simp; omega) (by unfold FUEL; omega)
      unfold lp
      rw [show ((0 : Int), r, ([] : List Int)) = (((0 : Nat) : Int), r, ([] : List Int)) from rfl, hloop]
      cases hn : numsP (b0.toNat % 16) [] r with
      | none => rfl
      | some q =>
        obtain ⟨rest, ns⟩ := q
        obtain ⟨ns', h1, h2, h3, h4⟩ := numsP_ok _ _ _ _ _ hr hn
        simp only [List.nil_append] at h1
        subst h1
        have hrest : rest.length ≤ r.length := by rw [h4]; simp
        have hmul : ar .mul .i64 b1 8 = 8 * b1 := by show IntKind.wrap .i64 _ = _; rw [wrap_i64 (by omega)]; omega
        simp only [cg, cn, hmul]
        by_cases c1 : b1 > 32
        · simp [c1]
        by_cases c2 : ns.length > 12
        · have c2' : (ns.length : Int) > 12 := by omega
          simp [c1, c2, c2']
        by_cases c3 : (rest.length : Int) ≠ 8 * b1
        · have c2' : ¬ (ns.length : Int) > 12 := by omega
          simp [c1, c2, c2', c3]
        have c2' : ¬ (ns.length : Int) > 12 := by omega
        have c3' : (rest.length : Int) = 8 * b1 := Decidable.not_not.1 c3
        obtain ⟨g1, g2, g3⟩ := flat_chunks b1.toNat rest (by omega)
        have hch : m_slices_Chunk_byte_byte rest 8 = some (rest, 8) := rfl
        have hsm : small rest = some () := by unfold small; rw [if_pos (by omega)]
        have hck : chkn 8 = some () := by decide
        simp only [c1, c2, c2', c3', ne_eq, not_true, decide_false, cond_false, Option.bind_some, or_self, if_false, hch, hsm, hck, rg]
        rw [show Int.toNat 8 = 8 from rfl, rng_blk _ _ g2 (by simp; omega)]
        simp
  · simp only [hc, decide_false, Bool.not_false, cond_true, if_false]
theorem frameOf_ok {a : List Int} {f : Frame} (hb : Bytes a) (h : frameOf a = some f) : Good f ∧ frameErr f = 0 ∧ packed f = a := by
  unfold frameOf at h
  split at h
  · cases h
  · split at h
    · rename_i h6 hc
      obtain ⟨h1, h2, h3⟩ := parseB_ok (fun x hx => hb x (List.mem_of_mem_take hx)) h
      refine ⟨h1, h2, ?_⟩
      unfold packed
      rw [h3, ← hc, List.take_append_drop]
    · cases h
theorem frameOf_packed {f : Frame} (g : Good f) : frameOf (packed f) = some f := by
  have hlb : 2 ≤ (body f).length := by unfold body; rw [pre1_is g]; simp
  have hlp : (packed f).length = (body f).length + 4 := by simp [packed, sum4]
  have ht : (packed f).take ((packed f).length - 4) = body f := by rw [hlp, Nat.add_sub_cancel]; unfold packed; simp
  have hd : (packed f).drop ((packed f).length - 4) = sum4 (4294967295 - crcL (nat (body f))) := by rw [hlp, Nat.add_sub_cancel]; unfold packed; simp
  unfold frameOf
  rw [if_neg (by omega), ht, hd, if_pos rfl, parseB_body g]
end Go.Pl

namespace Go.Pl
open Go Go.Sw Go.Mo
theorem mulI {m n : Int} (h : -9223372036854775808 ≤ m * n ∧ m * n ≤ 9223372036854775807) : ar .mul .i64 m n = m * n := wrap_i64 h
theorem idx_at {α : Type} {l : List α} {n : Nat} {x : α} {r : List α} {L : Nat} (h : (l.take L).drop n = x :: r) : Sw.idx l (n : Int) = some x ∧ n < L ∧ (l.take L).drop (n + 1) = r := by
  have h1 : ((l.take L).drop n)[0]? = some x := by rw [h]; rfl
  rw [List.getElem?_drop, Nat.add_zero] at h1
  have hlt : n < L := by
    rcases Nat.lt_or_ge n L with h2 | h2
    · exact h2
    · rw [List.getElem?_take_eq_none h2] at h1; cases h1
  rw [List.getElem?_take_of_lt hlt] at h1
  refine ⟨by unfold Sw.idx; simp [h1], hlt, ?_⟩
  rw [← List.drop_drop, h]; rfl
theorem loop_next {α β : Type} {step : α → Option (Step α β)} {x y : α} {f : Nat} (h : step x = some (.next y)) : loop step (f + 1) x = loop step f y := by simp only [loop, h]
theorem loop_done {α β : Type} {step : α → Option (Step α β)} {x : α} {b : β} {f : Nat} (h : step x = some (.done b)) : loop step (f + 1) x = some b := by simp only [loop, h]
/-- a number, as the reference reads it -/
def numR : Nat → Nat → Nat → List Int → Option (Nat × List Int)
  | 0, _, _, _ => none
  | _ + 1, _, _, [] => none
  | k + 1, i, v, b :: l => if b < 128 then some (v + b.toNat % 128 * 128 ^ i, l) else numR k (i + 1) (v + b.toNat % 128 * 128 ^ i) l
theorem rem128 {b : Int} (h : 0 ≤ b) : ar .rem .i64 b 128 = ((b.toNat % 128 : Nat) : Int) := by
  show Int.tmod b 128 = _
  rw [Int.tmod_eq_emod_of_nonneg h]; omega
theorem numR_loop {D : Type} {zz : D} (a : List Int) (L : Nat) (ha : a.length ≤ 10000) (hL : L + 4 = a.length) (hb : Bytes a) : ∀ (k i v n : Nat) (l : List Int) (f : Nat), i + k = 6 → v < 128 ^ i → (a.take L).drop n = l → n ≤ L → k < f →
    loop (β := Ex (Int × Int) D) (fun (s123 : Int × Int × Int) =>
              (bif (cm .geq s123.1 (ar .sub .i64 (a.length : Int) (4 : Int))) then
                some true
              else
                some (cm .gtr s123.2.2 (1099511627776 : Int))).bind fun x133 =>
                bif x133 then
                  some (.done (.ret zz))
                else
                  (Sw.idx a s123.1).bind fun z136 =>
                    bif (cm .lss z136 (128 : Int)) then
                      some (.done (.brk ((ar .add .i64 s123.1 (1 : Int)), (ar .add .i64 s123.2.1 (ar .mul .i64 (ar .rem .i64 z136 (128 : Int)) s123.2.2)))))
                    else
                      some (.next ((ar .add .i64 s123.1 (1 : Int)), (ar .add .i64 s123.2.1 (ar .mul .i64 (ar .rem .i64 z136 (128 : Int)) s123.2.2)), (ar .mul .i64 s123.2.2 (128 : Int))))
              ) f ((n : Int), (v : Int), ((128 ^ i : Nat) : Int)) = some (match numR k i v l with | none => .ret zz | some p => .brk (((L - p.2.length : Nat) : Int), (p.1 : Int)))
  | 0, i, v, n, l, f, hi, hv, hl, hn, hf => by
    obtain ⟨f, rfl⟩ : ∃ f', f = f' + 1 := ⟨f - 1, by omega⟩
    have hi6 : i = 6 := by omega
    subst hi6
    have h1 : cm .gtr ((128 ^ 6 : Nat) : Int) 1099511627776 = true := by decide
    simp only [loop, h1, numR]
    cases cm .geq (n : Int) (ar .sub .i64 (a.length : Int) (4 : Int)) <;> rfl
  | k + 1, i, v, n, l, f, hi, hv, hl, hn, hf => by
    obtain ⟨f, rfl⟩ : ∃ f', f = f' + 1 := ⟨f - 1, by omega⟩
    have eL : ar .sub .i64 (a.length : Int) 4 = (L : Int) := by rw [subI (by omega)]; omega
    have hp : 128 ^ i ≤ 128 ^ 5 := Nat.pow_le_pow_right (by decide) (by omega)
    have h1 : cm .gtr ((128 ^ i : Nat) : Int) 1099511627776 = false := by rw [cg]; simp only [decide_eq_false_iff_not]; omega
    have hlen : l.length = L - n := by rw [← hl]; simp; omega
    simp only [loop, h1, eL, cge]
    cases l with
    | nil =>
      have : (n : Int) ≥ L := by simp at hlen; omega
      simp only [this, decide_true, cond_true, Option.bind_some, numR]
    | cons b r =>
      obtain ⟨g1, g2, g3⟩ := idx_at hl
      have hbm : b ∈ a := by
        have : b ∈ (a.take L).drop n := by rw [hl]; simp
        exact List.mem_of_mem_take (List.mem_of_mem_drop this)
      have hbb := hb b hbm
      have hc : b.toNat % 128 < 128 := Nat.mod_lt _ (by decide)
      have hcm : b.toNat % 128 * 128 ^ i ≤ 127 * 128 ^ 5 := Nat.mul_le_mul (by omega) hp
      have : ¬ (n : Int) ≥ L := by omega
      have e1 : ar .mul .i64 ((b.toNat % 128 : Nat) : Int) ((128 ^ i : Nat) : Int) = ((b.toNat % 128 * 128 ^ i : Nat) : Int) := mul64 (by omega)
      have e2 : ar .add .i64 (v : Int) ((b.toNat % 128 * 128 ^ i : Nat) : Int) = ((v + b.toNat % 128 * 128 ^ i : Nat) : Int) := add64 (by omega)
      have e3 : ar .mul .i64 ((128 ^ i : Nat) : Int) 128 = ((128 ^ (i + 1) : Nat) : Int) := by
        rw [show (128 : Int) = ((128 : Nat) : Int) from rfl, mul64 (by omega), Nat.pow_succ]
      simp only [this, decide_false, cond_false, Option.bind_some, g1, rem128 hbb.1, e1, e2, e3, cl, nxt (show n ≤ 4611686018427387904 by omega), numR]
      by_cases h128 : b < 128
      · simp only [h128, decide_true, cond_true, if_true]
        have : L - r.length = n + 1 := by simp at hlen; omega
        rw [this]
      · simp only [h128, decide_false, cond_false, if_false]
        have ih := numR_loop (zz := zz) a L ha hL hb k (i + 1) _ (n + 1) r f (by omega) (grow hc hv) g3 (by omega) (by omega)
        simp only [eL, cge, cl] at ih
        exact ih
theorem numR_len : ∀ (k i v : Nat) (l : List Int) (p : Nat × List Int), numR k i v l = some p → p.2.length ≤ l.length ∧ ∃ c, l = c ++ p.2
  | 0, _, _, _, _, h => by simp [numR] at h
  | _ + 1, _, _, [], _, h => by simp [numR] at h
  | k + 1, i, v, b :: l, p, h => by
    unfold numR at h
    split at h
    · cases h; exact ⟨by simp, [b], rfl⟩
    · obtain ⟨h1, c, h2⟩ := numR_len k _ _ l p h
      exact ⟨by simp; omega, b :: c, by rw [h2]; rfl⟩
theorem numR_lt : ∀ (k i v : Nat) (l : List Int) (p : Nat × List Int), v < 128 ^ i → numR k i v l = some p → p.1 < 128 ^ (i + k)
  | 0, _, _, _, _, _, h => by simp [numR] at h
  | _ + 1, _, _, [], _, _, h => by simp [numR] at h
  | k + 1, i, v, b :: l, p, hv, h => by
    have hc : b.toNat % 128 < 128 := Nat.mod_lt _ (by decide)
    unfold numR at h
    split at h
    · cases h
      exact Nat.lt_of_lt_of_le (grow hc hv) (Nat.pow_le_pow_right (by decide) (by omega))
    · have := numR_lt k _ _ l p (grow hc hv) h
      rw [show i + 1 + k = i + (k + 1) by omega] at this
      exact this
theorem numR_vf : ∀ (k m i v q : Nat) (r : List Int), i + k = 4 → q < 128 ^ (k + 1) → numR (m + k + 1) i v (vf k q ++ r) = some (v + q * 128 ^ i, r)
  | 0, m, i, v, q, r, hi, hq => by
    have hq : q < 128 := by simpa using hq
    have e : q % 128 = q := Nat.mod_eq_of_lt hq
    simp only [vf, List.cons_append, List.nil_append, numR, Int.toNat_natCast, e]
    rw [if_pos (by omega)]
  | k + 1, m, i, v, q, r, hi, hq => by
    unfold vf
    by_cases h : q < 128
    · have e : q % 128 = q := Nat.mod_eq_of_lt h
      simp only [h, if_true, List.cons_append, List.nil_append, numR, Int.toNat_natCast, e]
      rw [if_pos (by omega)]
    · simp only [h, if_false, List.cons_append, numR, Int.toNat_natCast]
      rw [if_neg (by omega)]
      have e1 : (128 + q % 128) % 128 = q % 128 := by omega
      have e : v + q % 128 * 128 ^ i + q / 128 * 128 ^ (i + 1) = v + q * 128 ^ i := by
        rw [Nat.pow_succ]
        have : q * 128 ^ i = (q % 128 + 128 * (q / 128)) * 128 ^ i := by rw [Nat.mod_add_div]
        rw [this, Nat.add_mul, Nat.mul_comm 128 (q / 128), Nat.mul_assoc, Nat.mul_comm 128 (128 ^ i)]; omega
      rw [e1, show m + (k + 1) = m + k + 1 by omega, numR_vf k m (i + 1) _ (q / 128) r (by omega) (by rw [Nat.pow_succ] at hq; omega), e]
/-- so many numbers, as the reference reads them -/
def numsR : Nat → List Int → List Int → Option (List Int × List Int)
  | 0, acc, l => some (l, acc)
  | n + 1, acc, l => match numR 6 0 0 l with
    | some p => numsR n (acc ++ [(p.1 : Int)]) p.2
    | none => none
theorem numsR_vs : ∀ (ns acc r : List Int), (∀ x ∈ ns, 0 ≤ x ∧ x ≤ 2147483647) → numsR ns.length acc (vs ns ++ r) = some (r, acc ++ ns)
  | [], acc, r, _ => by simp [numsR, vs]
  | x :: ns, acc, r, h => by
    have hx := h x (by simp)
    have e : vs (x :: ns) ++ r = vf 4 x.toNat ++ (vs ns ++ r) := by simp [vs]
    have g := numR_vf 4 1 0 0 x.toNat (vs ns ++ r) rfl (by omega)
    simp only [Nat.pow_zero, Nat.mul_one, Nat.zero_add] at g
    have ex : ((x.toNat : Nat) : Int) = x := by omega
    rw [e, List.length_cons, numsR, show (6 : Nat) = 1 + 4 + 1 from rfl, g]
    simp only [ex]
    rw [numsR_vs ns _ r (fun y hy => h y (by simp [hy]))]
    simp
theorem numsR_len : ∀ (n : Nat) (acc l : List Int) (p : List Int × List Int), numsR n acc l = some p → p.1.length ≤ l.length ∧ (∃ c, l = c ++ p.1) ∧ p.2.length = acc.length + n
  | 0, acc, l, p, h => by cases h; exact ⟨Nat.le_refl _, ⟨[], rfl⟩, rfl⟩
  | n + 1, acc, l, p, h => by
    unfold numsR at h
    cases hn : numR 6 0 0 l with
    | none => rw [hn] at h; cases h
    | some q =>
      rw [hn] at h
      obtain ⟨h1, c, h2⟩ := numR_len _ _ _ _ _ hn
      obtain ⟨h3, ⟨c', h4⟩, h5⟩ := numsR_len n _ _ p h
      exact ⟨by omega, ⟨c ++ c', by rw [List.append_assoc, ← h4, ← h2]⟩, by rw [h5]; simp; omega⟩
theorem numsR_loop {z : Frame × Bool} (a : List Int) (L N : Nat) (b0 : Int) (h0 : Sw.idx a 0 = some b0) (hN : ar .rem .i64 b0 16 = (N : Int)) (hN2 : N ≤ 15) (ha : a.length ≤ 10000) (hL : L + 4 = a.length) (hb : Bytes a) : ∀ (n j k : Nat) (l acc : List Int) (f : Nat), j + n = N → (a.take L).drop k = l → k ≤ L → acc.length + n ≤ 1000 → n < f →
    loop (β := Ex (Int × (List Int)) (Frame × Bool)) (fun (s71 : Int × Int × (List Int)) =>
        (Sw.idx a (0 : Int)).bind fun z107 =>
          bif (cm .lss s71.2.1 (ar .rem .i64 z107 (16 : Int))) then
            lp (β := Int × Int) (fun (s123 : Int × Int × Int) =>
              (bif (cm .geq s123.1 (ar .sub .i64 (a.length : Int) (4 : Int))) then
                some true
              else
                some (cm .gtr s123.2.2 (1099511627776 : Int))).bind fun x133 =>
                bif x133 then
                  some (.done (.ret (.done (.ret z))))
                else
                  (Sw.idx a s123.1).bind fun z136 =>
                    bif (cm .lss z136 (128 : Int)) then
                      some (.done (.brk ((ar .add .i64 s123.1 (1 : Int)), (ar .add .i64 s123.2.1 (ar .mul .i64 (ar .rem .i64 z136 (128 : Int)) s123.2.2)))))
                    else
                      some (.next ((ar .add .i64 s123.1 (1 : Int)), (ar .add .i64 s123.2.1 (ar .mul .i64 (ar .rem .i64 z136 (128 : Int)) s123.2.2)), (ar .mul .i64 s123.2.2 (128 : Int))))
              ) (s71.1, (0 : Int), (1 : Int)) fun (x131 : Int × Int) =>
            (Sw.app s71.2.2 ([x131.2] : (List Int))).bind fun v138 =>
              some (.next (x131.1, (ar .add .i64 s71.2.1 (1 : Int)), v138))
          else
            some (.done (.brk (s71.1, s71.2.2)))
        ) f ((k : Int), (j : Int), acc) = some (match numsR n acc l with | none => .ret z | some p => .brk (((L - p.1.length : Nat) : Int), p.2))
  | 0, j, k, l, acc, f, hj, hl, hk, hacc, hf => by
    obtain ⟨f, rfl⟩ : ∃ f', f = f' + 1 := ⟨f - 1, by omega⟩
    have : cm .lss (j : Int) (N : Int) = false := by rw [cl]; simp; omega
    have hlen : l.length = L - k := by rw [← hl]; simp; omega
    simp only [loop, h0, Option.bind_some, hN, this, cond_false, numsR]
    have : L - l.length = k := by omega
    rw [this]
  | n + 1, j, k, l, acc, f, hj, hl, hk, hacc, hf => by
    obtain ⟨f, rfl⟩ : ∃ f', f = f' + 1 := ⟨f - 1, by omega⟩
    have : cm .lss (j : Int) (N : Int) = true := by rw [cl]; simp; omega
    have hlp := numR_loop (zz := (Step.done (Ex.ret z) : Step (Int × Int × List Int) (Ex (Int × List Int) (Frame × Bool)))) a L ha hL hb 6 0 0 k l FUEL rfl (by decide) hl hk (by unfold FUEL; omega)
    simp only [Nat.pow_zero] at hlp
    cases hn : numR 6 0 0 l with
    | none =>
      have eR : numsR (n + 1) acc l = none := by simp only [numsR, hn]
      rw [eR]
      refine loop_done ?_
      simp only [h0, Option.bind_some, hN, this, cond_true, lp]
      rw [show ((k : Int), (0 : Int), (1 : Int)) = ((k : Int), ((0 : Nat) : Int), ((1 : Nat) : Int)) from rfl, hlp, hn]
    | some p =>
      obtain ⟨h1, c, h2⟩ := numR_len _ _ _ _ _ hn
      have hlen : l.length = L - k := by rw [← hl]; simp; omega
      have hcl : c.length + p.2.length = l.length := by rw [h2]; simp
      have e : L - p.2.length = k + c.length := by omega
      have eR : numsR (n + 1) acc l = numsR n (acc ++ [(p.1 : Int)]) p.2 := by simp only [numsR, hn]
      rw [eR]
      refine (loop_next (y := (((L - p.2.length : Nat) : Int), ((j + 1 : Nat) : Int), acc ++ [(p.1 : Int)])) ?_).trans (numsR_loop a L N b0 h0 hN hN2 ha hL hb n (j + 1) (L - p.2.length) p.2 (acc ++ [(p.1 : Int)]) f (by omega) (by rw [e, ← List.drop_drop, hl, h2, List.drop_left]) (by omega) (by simp; omega) (by omega))
      simp only [h0, Option.bind_some, hN, this, cond_true, lp]
      rw [show ((k : Int), (0 : Int), (1 : Int)) = ((k : Int), ((0 : Nat) : Int), ((1 : Nat) : Int)) from rfl, hlp, hn]
      simp only
      rw [app_small _ _ (by simp; omega), Option.bind_some, nxt (by omega)]
/-- so many blocks, as the reference reads them -/
def blksR : Nat → List Blk → List Int → Option (List Blk)
  | 0, acc, _ => some acc
  | m + 1, acc, l => if l.length < 8 then none else blksR m (acc ++ [l.take 8]) (l.drop 8)
theorem blksR_flat : ∀ (bs acc : List Blk), (∀ b ∈ bs, b.length = 8) → blksR bs.length acc bs.flatten = some (acc ++ bs)
  | [], acc, _ => by simp [blksR]
  | b :: bs, acc, h => by
    have h8 := h b (by simp)
    rw [List.length_cons, blksR, List.flatten_cons, if_neg (by simp; omega)]
    have e1 : (b ++ bs.flatten).take 8 = b := by rw [List.take_append_of_le_length (by omega), List.take_of_length_le (by omega)]
    have e2 : (b ++ bs.flatten).drop 8 = bs.flatten := by rw [← h8, List.drop_left]
    rw [e1, e2, blksR_flat bs _ (fun c hc => h c (by simp [hc]))]
    simp
theorem blksR_ok : ∀ (m : Nat) (acc : List Blk) (l : List Int) (bs : List Blk), Bytes l → (∀ b ∈ acc, b.length = 8 ∧ Bytes b) → blksR m acc l = some bs → ∀ b ∈ bs, b.length = 8 ∧ Bytes b
  | 0, acc, l, bs, hl, ha, h => by cases h; exact ha
  | m + 1, acc, l, bs, hl, ha, h => by
    unfold blksR at h
    split at h
    · cases h
    · refine blksR_ok m _ (l.drop 8) bs (fun x hx => hl x (List.mem_of_mem_drop hx)) (fun b hb => ?_) h
      rcases List.mem_append.1 hb with hb | hb
      · exact ha b hb
      · simp only [List.mem_singleton] at hb
        subst hb
        exact ⟨by simp; omega, fun x hx => hl x (List.mem_of_mem_take hx)⟩
theorem blk_loop {D : Type} (a : List Int) (k : Nat) (ha : k + 8 ≤ a.length) (hl : a.length ≤ 10000) (K : Blk → Option D) :
    lp (β := Blk) (fun (s218 : Int × Blk) =>
                bif (cm .lss s218.1 (8 : Int)) then
                  (Sw.idx a (ar .add .i64 (k : Int) s218.1)).bind fun z225 =>
                    (Sw.idx s218.2 s218.1).bind fun _ =>
                      some (.next ((ar .add .i64 s218.1 (1 : Int)), (List.set s218.2 (Int.toNat s218.1) z225)))
                else
                  some (.done (.brk s218.2))
                ) ((0 : Int), zblk) K = K ((a.drop k).take 8) := by
  have e0 : ((0 : Int), zblk) = (fun (i : Nat) => ((i : Int), (a.drop k).take i ++ zblk.drop i)) 0 := by simp
  rw [e0]
  have hz : zblk.length = 8 := rfl
  refine lp_count (fun (i : Nat) => ((i : Int), (a.drop k).take i ++ zblk.drop i)) 8 ((a.drop k).take 8) (by unfold FUEL; omega) ?_ ?_
  · intro i hi
    have h8 : cm .lss (i : Int) 8 = true := by rw [cl]; simp; omega
    have hk : k + i < a.length := by omega
    have e1 : ar .add .i64 (k : Int) (i : Int) = ((k + i : Nat) : Int) := add64 (by omega)
    have e2 : Sw.idx a ((k + i : Nat) : Int) = some a[k + i] := by unfold Sw.idx; rw [if_pos (by omega), Int.toNat_natCast, List.getElem?_eq_getElem hk]
    have ht : ((a.drop k).take i).length = i := by simp; omega
    have hlt : i < ((a.drop k).take i ++ zblk.drop i).length := by rw [List.length_append, ht, List.length_drop, hz]; omega
    have e3 : Sw.idx ((a.drop k).take i ++ zblk.drop i) (i : Int) = some ((a.drop k).take i ++ zblk.drop i)[i] := by unfold Sw.idx; rw [if_pos (by omega), Int.toNat_natCast, List.getElem?_eq_getElem hlt]
    simp only [h8, cond_true, e1, e2, e3, Option.bind_some, Int.toNat_natCast, nxt (show i ≤ 4611686018427387904 by omega)]
    congr 3
    have e4 : (a.drop k).take (i + 1) = (a.drop k).take i ++ [a[k + i]] := by
      rw [List.take_add_one, List.getElem?_drop, List.getElem?_eq_getElem hk]; rfl
    rw [e4, List.set_append_right _ _ (by omega), ht, Nat.sub_self]
    have hzi : i < zblk.length := by omega
    rw [List.drop_eq_getElem_cons hzi, List.set_cons_zero, List.append_assoc]
    rfl
  · have h8 : cm .lss ((8 : Nat) : Int) 8 = false := by decide
    simp only [h8, cond_false]
    have : zblk.drop 8 = [] := rfl
    rw [this, List.append_nil]
theorem blksR_loop {z : Frame × Bool} (a : List Int) (L M : Nat) (h1 : Sw.idx a 1 = some (M : Int)) (hM : M ≤ 255) (ha : a.length ≤ 10000) (hL : L + 4 = a.length) : ∀ (m j k : Nat) (l : List Int) (acc : List Blk) (f : Nat), j + m = M → (a.take L).drop k = l → k ≤ L → acc.length + m ≤ 1000 → m < f →
    loop (β := Ex (List Blk) (Frame × Bool)) (fun (s183 : Int × Int × (List Blk)) =>
        (Sw.idx a (1 : Int)).bind fun z207 =>
          bif (cm .lss s183.2.1 z207) then
            bif (cm .gtr (ar .add .i64 s183.1 (8 : Int)) (ar .sub .i64 (a.length : Int) (4 : Int))) then
              some (.done (.ret z))
            else
              lp (β := Blk) (fun (s218 : Int × Blk) =>
                bif (cm .lss s218.1 (8 : Int)) then
                  (Sw.idx a (ar .add .i64 s183.1 s218.1)).bind fun z225 =>
                    (Sw.idx s218.2 s218.1).bind fun _ =>
                      some (.next ((ar .add .i64 s218.1 (1 : Int)), (List.set s218.2 (Int.toNat s218.1) z225)))
                else
                  some (.done (.brk s218.2))
                ) ((0 : Int), zblk) fun (x223 : Blk) =>
              (Sw.app s183.2.2 ([x223] : (List Blk))).bind fun v227 =>
                some (.next ((ar .add .i64 s183.1 (8 : Int)), (ar .add .i64 s183.2.1 (1 : Int)), v227))
          else
            some (.done (.brk s183.2.2))
        ) f ((k : Int), (j : Int), acc) = some (match blksR m acc l with | none => .ret z | some bs => .brk bs)
  | 0, j, k, l, acc, f, hj, hl, hk, hacc, hf => by
    obtain ⟨f, rfl⟩ : ∃ f', f = f' + 1 := ⟨f - 1, by omega⟩
    have : cm .lss (j : Int) (M : Int) = false := by rw [cl]; simp; omega
    simp only [loop, h1, Option.bind_some, this, cond_false, blksR]
  | m + 1, j, k, l, acc, f, hj, hl, hk, hacc, hf => by
    obtain ⟨f, rfl⟩ : ∃ f', f = f' + 1 := ⟨f - 1, by omega⟩
    have hlt : cm .lss (j : Int) (M : Int) = true := by rw [cl]; simp; omega
    have eL : ar .sub .i64 (a.length : Int) 4 = (L : Int) := by rw [subI (by omega)]; omega
    have e8 : ar .add .i64 (k : Int) 8 = ((k + 8 : Nat) : Int) := by rw [addI (by omega)]; push_cast; rfl
    have hlen : l.length = L - k := by rw [← hl]; simp; omega
    by_cases c : l.length < 8
    · have hgt : ((k + 8 : Nat) : Int) > L := by omega
      have eR : blksR (m + 1) acc l = none := by simp only [blksR, c, if_true]
      rw [eR]
      refine loop_done ?_
      simp only [h1, Option.bind_some, hlt, cond_true, eL, e8, cg, hgt, decide_true]
    · have hgt : ¬ ((k + 8 : Nat) : Int) > L := by omega
      have eR : blksR (m + 1) acc l = blksR m (acc ++ [l.take 8]) (l.drop 8) := by simp only [blksR, c, if_false]
      have e : (a.drop k).take 8 = l.take 8 := by
        rw [← hl, List.drop_take, List.take_take, Nat.min_eq_left (by omega)]
      rw [eR]
      refine (loop_next (y := (((k + 8 : Nat) : Int), ((j + 1 : Nat) : Int), acc ++ [l.take 8])) ?_).trans (blksR_loop a L M h1 hM ha hL m (j + 1) (k + 8) (l.drop 8) (acc ++ [l.take 8]) f (by omega) (by rw [← hl, List.drop_drop]) (by omega) (by simp; omega) (by omega))
      simp only [h1, Option.bind_some, hlt, cond_true, eL, e8, cg, hgt, decide_false, cond_false]
      rw [blk_loop a k (by omega) ha, app_small _ _ (by simp; omega), Option.bind_some, nxt (by omega), e]
end Go.Pl

namespace Go.Pl
open Go Go.Sw Go.Mo
def refP : List Int → Option Frame
  | b0 :: b1 :: r => match numsR (b0.toNat % 16) [] r with
    | none => none
    | some p => match blksR b1.toNat [] p.1 with
      | none => none
      | some bs => some (((b0.toNat / 16 : Nat) : Int), p.2, bs)
  | _ => none
theorem refP_body {f : Frame} (g : Good f) : refP (body f) = some f := by
  have h0 := g.s0
  have h1 := g.s1
  have h2 := g.ns
  have h3 := g.bs
  unfold body
  rw [pre1_is g]
  simp only [List.cons_append, List.nil_append, refP, Int.toNat_natCast]
  have e1 : (16 * f.1.toNat + f.2.1.length) % 16 = f.2.1.length := by omega
  have e2 : (16 * f.1.toNat + f.2.1.length) / 16 = f.1.toNat := by omega
  rw [e1, e2, numsR_vs _ _ _ g.num]
  simp only [List.nil_append]
  rw [blksR_flat _ _ (fun b hb => (g.blk b hb).1)]
  have e3 : ((f.1.toNat : Nat) : Int) = f.1 := by omega
  simp only [e3, List.nil_append]
theorem refP_good {p : List Int} {f : Frame} (hb : Bytes p) (h : refP p = some f) : ∀ b ∈ f.2.2, b.length = 8 ∧ Bytes b := by
  match p, h with
  | b0 :: b1 :: r, h =>
    simp only [refP] at h
    cases hn : numsR (b0.toNat % 16) [] r with
    | none => rw [hn] at h; cases h
    | some q =>
      rw [hn] at h
      simp only at h
      obtain ⟨_, ⟨c, hc⟩, _⟩ := numsR_len _ _ _ _ hn
      cases hk : blksR b1.toNat [] q.1 with
      | none => rw [hk] at h; cases h
      | some bs =>
        rw [hk] at h
        simp only [Option.some.injEq] at h
        subst h
        exact blksR_ok _ _ _ _ (fun x hx => hb.tail.tail x (by rw [hc]; simp [hx])) (fun b hb => by simp at hb) hk
theorem lp_of {α β γ : Type} {step : α → Option (Step α (Ex β γ))} {x : α} {k : β → Option γ} {e : Ex β γ} (h : loop step FUEL x = some e) : lp step x k = out k e := by
  unfold lp; rw [h]; cases e <;> rfl
def refOf (a : List Int) : Option Frame := if a.length < 6 then none else match refP (a.take (a.length - 4)) with | none => none | some f => if frameErr f = 0 ∧ packed f = a then some f else none
theorem refOf_is (a : List Int) (hb : Bytes a) : refOf a = frameOf a := by
  cases hf : frameOf a with
  | some f =>
    obtain ⟨g, h1, h2⟩ := frameOf_ok hb hf
    have hlb : 2 ≤ (body f).length := by unfold body; rw [pre1_is g]; simp
    have hlp : (packed f).length = (body f).length + 4 := by simp [packed, sum4]
    have ht : (packed f).take ((packed f).length - 4) = body f := by rw [hlp, Nat.add_sub_cancel]; unfold packed; simp
    rw [← h2]
    unfold refOf
    rw [if_neg (by omega), ht, refP_body g]
    simp [h1]
  | none =>
    unfold refOf
    split
    · rfl
    · split
      · rfl
      · rename_i f hr
        split
        · rename_i hc
          have g := good_of hc.1 (refP_good (fun x hx => hb x (List.mem_of_mem_take hx)) hr)
          have := frameOf_packed g
          rw [hc.2, hf] at this
          cases this
        · rfl
end Go.Pl

namespace Go.Pl
open Go Go.Sw Go.Mo
theorem pick_in {c n : Int} (hc : -9223372036854775808 ≤ c ∧ c ≤ 9223372036854775807) (hn : 0 < n) : ∃ k, m_ref_Pick c n = some k ∧ 0 ≤ k ∧ k < n := by
  unfold m_ref_Pick jp
  have hz : nz n = some () := nz_ok (by omega)
  have go : ∀ x : Int, 0 ≤ x → 0 ≤ ar .rem .i64 x n ∧ ar .rem .i64 x n < n := fun x hx => by
    show 0 ≤ Int.tmod x n ∧ Int.tmod x n < n
    rw [Int.tmod_eq_emod_of_nonneg hx]
    exact ⟨Int.emod_nonneg _ (by omega), Int.emod_lt_of_pos _ hn⟩
  simp only [cl, hz, Option.bind_some]
  by_cases c0 : c < 0
  · simp only [c0, decide_true, cond_true]
    have e : IntKind.wrap .i64 (0 - ar .add .i64 c 1) = -(c + 1) := by rw [addI (by omega), wrap_i64 (by omega)]; omega
    rw [e]
    exact ⟨_, rfl, go _ (by omega)⟩
  · simp only [c0, decide_false, cond_false]
    exact ⟨_, rfl, go _ (by omega)⟩
theorem sum4_bytes {S : Nat} (h : S < 4294967296) : Bytes (sum4 S) := fun x hx => by
  simp only [sum4, List.mem_cons, List.not_mem_nil, or_false] at hx
  rcases hx with rfl | rfl | rfl | rfl <;> omega
theorem packed_bytes {f : Frame} (g : Good f) : Bytes (packed f) := fun x hx => by
  unfold packed at hx
  rcases List.mem_append.1 hx with hx | hx
  · exact (body_bytes g).1 x hx
  · exact sum4_bytes (by omega) x hx
theorem byteOf (n : Int) : 0 ≤ IntKind.wrap .u8 n ∧ IntKind.wrap .u8 n ≤ 255 := by
  have := wrap_in .u8 n
  unfold inK at this; simpa [IntKind.min, IntKind.max, IntKind.signed, IntKind.bits] using this
theorem i64_of {n : Int} (h : Wf (Enc.int .i64) n) : -9223372036854775808 ≤ n ∧ n ≤ 9223372036854775807 := by
  have := h.int
  unfold inK at this
  simpa [IntKind.min, IntKind.max, IntKind.signed, IntKind.bits] using this
end Go.Pl

namespace Go.Pl
open Go Go.Sw Go.Mo
theorem link1_is (x : Int) : m_link_number_1 x = some (bad x) := by
  unfold m_link_number_1 bad
  by_cases hx : x < 0
  · have : cm .lss x 0 = true := by simp [cm, hx]
    simp [this, hx]
  · have : cm .lss x 0 = false := by simp [cm]; omega
    simp [this, hx, cm]
theorem lcontains_is (l : List Int) (h : l.length ≤ 1000000) : m_slices_ContainsFunc_int_int__link_number_1 l = some (l.any bad) := by
  unfold m_slices_ContainsFunc_int_int__link_number_1 m_slices_IndexFunc_int_int__link_number_1
  rw [show (0 : Int) = ((0 : Nat) : Int) from rfl, lp_list (l := l) (fun i (_ : Unit) => (i : Int)) () (fun i x _ => if bad x then .done (.ret (i : Int)) else .next ()) (fun _ => .brk ()) (by unfold FUEL; omega)]
  · rw [any_fold (fun i => (i : Int)), any_find]
    cases l.findIdx? bad <;> simp [out, cm]
  · rintro pre x rest acc rfl
    simp only [lss_app, cond_true, idx_app, Option.bind_some, link1_is, inc (n := pre.length) (m := 1000000) (by simp at h; omega) (by omega)]
    cases bad x <;> simp [stp]
  · intro _; simp [lss_self]
theorem number_is (a b : Int) : m_link_number [a, b] = some (!(bad a || bad b)) := by
  unfold m_link_number
  rw [lcontains_is _ (by simp)]
  simp
theorem bad_no {x : Int} : bad x = false ↔ 0 ≤ x ∧ x ≤ 2147483647 := by unfold bad; simp
/-- a loop over a list that stops where something is said -/
theorem lp_fst {α A β γ : Type} {step : α → Option (Step α (Ex β γ))} {l : List A} {k : β → Option γ} (st : Nat → α) (z : A → Option γ) (y : β) (hf : l.length < FUEL)
    (hs : ∀ pre x rest, l = pre ++ x :: rest → step (st pre.length) = some (match z x with | some v => .done (.ret v) | none => .next (st (pre.length + 1)))) (he : step (st l.length) = some (.done (.brk y))) :
    lp step (st 0) k = (l.findSome? z).elim (k y) some := by
  have key : ∀ (rest pre : List A) (f : Nat), l = pre ++ rest → rest.length < f → loop step f (st pre.length) = some (match rest.findSome? z with | some v => .ret v | none => .brk y) := by
    intro rest
    induction rest with
    | nil =>
      intro pre f hl hf
      obtain ⟨f, rfl⟩ : ∃ f', f = f' + 1 := ⟨f - 1, by simp at hf; omega⟩
      rw [List.append_nil] at hl
      rw [← hl]
      simp [loop, he]
    | cons x rest ih =>
      intro pre f hl hf
      obtain ⟨f, rfl⟩ : ∃ f', f = f' + 1 := ⟨f - 1, by simp at hf; omega⟩
      simp only [loop, hs pre x rest hl, List.findSome?_cons]
      cases hz : z x with
      | some v => simp
      | none =>
        have := ih (pre ++ [x]) f (by rw [hl]; simp) (by simp at hf; omega)
        simpa using this
  have := key l [] FUEL rfl hf
  unfold lp
  simp only [List.length_nil] at this
  rw [this]
  cases l.findSome? z <;> rfl
def loadErr (f : Frame) : Int := if frameErr f = 0 then (if 9 < f.2.1.length then 2 else 0) else frameErr f
theorem load_is (f : Frame) : m_link_load f = some (if loadErr f = 0 then none else some (loadErr f)) := by
  unfold m_link_load loadErr
  rw [frameCheck_is, Option.bind_some, cg]
  by_cases h : frameErr f = 0
  · simp only [h, if_true, Option.isSome_none, cond_false]
    by_cases h9 : 9 < f.2.1.length
    · have : (f.2.1.length : Int) > 9 := by omega
      simp [h9, this]
    · have : ¬ (f.2.1.length : Int) > 9 := by omega
      simp [h9, this]
  · simp [h]
def firstErr (l : List Frame) : Option Int := l.findSome? fun f => if loadErr f = 0 then none else some (loadErr f)
abbrev Sender := Int × Int × List Frame
def senderErr (s : Sender) : Int := if bad s.1 || bad s.2.1 then 1 else if 64 < s.2.2.length then 2 else (firstErr s.2.2).getD 0
theorem first_ne {l : List Frame} {e : Int} (h : firstErr l = some e) : e ≠ 0 := by
  obtain ⟨f, _, h2⟩ := List.exists_of_findSome?_eq_some h
  split at h2
  · cases h2
  · cases h2; assumption
theorem check_is (s : Sender) : m_link_Check s = some (if senderErr s = 0 then none else some (senderErr s)) := by
  unfold m_link_Check senderErr
  rw [number_is, Option.bind_some]
  by_cases hb : (bad s.1 || bad s.2.1) = true
  · simp [hb]
  · simp only [Bool.not_eq_true] at hb
    simp only [hb, Bool.not_false, Bool.not_true, cond_false, Bool.false_eq_true, if_false, cg]
    by_cases h64 : 64 < s.2.2.length
    · have : (s.2.2.length : Int) > 64 := by omega
      simp [h64, this]
    · have : ¬ (s.2.2.length : Int) > 64 := by omega
      simp only [h64, this, decide_false, cond_false, if_false]
      rw [show (0 : Int) = (fun (i : Nat) => (i : Int)) 0 from rfl]
      rw [lp_fst (l := s.2.2) (fun (i : Nat) => (i : Int)) (fun f => if loadErr f = 0 then none else some (some (loadErr f))) () (by unfold FUEL; omega)]
      · have e : s.2.2.findSome? (fun f => if loadErr f = 0 then none else some (some (loadErr f))) = (firstErr s.2.2).map some := by
          unfold firstErr
          induction s.2.2 with
          | nil => rfl
          | cons f l ih => simp only [List.findSome?_cons]; by_cases h : loadErr f = 0 <;> simp [h, ih]
        rw [e]
        cases hf : firstErr s.2.2 with
        | none => simp
        | some e => have := first_ne hf; simp [this]
      · rintro pre x rest h
        rw [h]
        simp only [lss_app, cond_true, idx_app, Option.bind_some, load_is]
        rw [nxt (by have := congrArg List.length h; simp at this; omega)]
        by_cases h0 : loadErr x = 0 <;> simp [h0]
      · simp [lss_self]
/-- frames that may be messages -/
def Small (f : Frame) : Prop := f.2.1.length ≤ 1000 ∧ f.2.2.length ≤ 1000
theorem small_of {f : Frame} (h : loadErr f = 0) : Small f := by
  unfold loadErr at h
  split at h
  · rename_i h1
    unfold frameErr at h1
    unfold Small
    split at h1
    · simp at h1
    · split at h1
      · simp at h1
      · omega
  · exact absurd h (by assumption)
theorem queue_small {s : Sender} (h : senderErr s = 0) : (0 ≤ s.1 ∧ s.1 ≤ 2147483647) ∧ (0 ≤ s.2.1 ∧ s.2.1 ≤ 2147483647) ∧ s.2.2.length ≤ 64 ∧ ∀ f ∈ s.2.2, Small f := by
  unfold senderErr at h
  split at h
  · simp at h
  · rename_i hb
    simp only [Bool.not_eq_true, Bool.or_eq_false_iff] at hb
    split at h
    · simp at h
    · rename_i h64
      refine ⟨bad_no.1 hb.1, bad_no.1 hb.2, by omega, fun f hf => small_of ?_⟩
      have hn : firstErr s.2.2 = none := by
        cases hf2 : firstErr s.2.2 with
        | none => rfl
        | some e => rw [hf2] at h; exact absurd h (first_ne hf2)
      have := List.findSome?_eq_none_iff.1 hn f hf
      by_cases h0 : loadErr f = 0
      · exact h0
      · simp [h0] at this
theorem queue_is (l : List Frame) (hl : l.length ≤ 64) (h : ∀ f ∈ l, Small f) : m_link_queue l = some l := by
  unfold m_link_queue
  rw [show ((0 : Int), ([] : List Frame)) = (fun (i : Nat) (acc : List Frame) => ((i : Int), acc)) 0 [] from rfl]
  rw [lp_inv (l := l) (fun (i : Nat) (acc : List Frame) => ((i : Int), acc)) (fun i acc => acc.length = i) [] (fun _ f acc => acc ++ [f]) id (by unfold FUEL; omega) rfl]
  · have : ∀ (l : List Frame) (i : Nat) (acc : List Frame), (l.zipIdx i).foldl (fun acc x => acc ++ [x.1]) acc = acc ++ l := by
      intro l
      induction l with
      | nil => intro i acc; simp
      | cons x l ih => intro i acc; rw [List.zipIdx_cons, List.foldl_cons, ih]; simp
    rw [this]; rfl
  · intro pre x rest acc hl2 hI
    have hx := h x (by rw [hl2]; simp)
    have hpl : pre.length < 64 := by have := congrArg List.length hl2; simp at this; omega
    have e2 : cm .lss (pre.length : Int) (l.length : Int) = true := by rw [hl2]; exact lss_app pre x rest
    have e3 : Sw.idx l (pre.length : Int) = some x := by rw [hl2]; exact idx_app pre x rest
    have e4 : m_link_clone x = some x := by
      unfold m_link_clone m_slices_Clone_int_int m_slices_Clone_api_Block_api_Block
      unfold Small at hx
      rw [app_small _ _ (by simp; omega), app_small _ _ (by simp; omega)]; rfl
    simp only [e2, e3, e4, cond_true, Option.bind_some]
    rw [app_small _ _ (by simp; omega), nxt (by omega)]
    exact ⟨rfl, by simp [hI]⟩
  · intro acc _
    simp only [lss_self, cond_false]; rfl
end Go.Pl

namespace Go.Pl
open Go Go.Sw Go.Mo
theorem sub_drop {α : Type} (l : List α) (n : Nat) (h : n ≤ l.length) : Sw.sub l (n : Int) (l.length : Int) = some (l.drop n) := by
  unfold Sw.sub
  rw [if_pos (by omega)]
  simp
theorem ack_good {a c : Int} (h1 : 0 ≤ a ∧ a ≤ 2147483647) (h2 : 0 ≤ c ∧ c ≤ 2147483647) : frameErr ((0 : Int), [a, c], ([] : List Blk)) = 0 ∧ Good ((0 : Int), [a, c], ([] : List Blk)) := by
  have e : frameErr ((0 : Int), [a, c], ([] : List Blk)) = 0 := by
    unfold frameErr
    simp [bad_no.2 h1, bad_no.2 h2]
  exact ⟨e, good_of e (fun b hb => by simp at hb)⟩
end Go.Pl

namespace Go.Pl
open Go Go.Sw Go.Mo
def foldO {A B : Type} (g : Nat → A → B → Option B) : Nat → B → List A → Option B
  | _, acc, [] => some acc
  | i, acc, x :: l => (g i x acc).bind fun acc' => foldO g (i + 1) acc' l
/-- a loop over a list that gathers, or stops -/
theorem lp_opt {α A B β γ : Type} {step : α → Option (Step α (Ex β γ))} {l : List A} {k : β → Option γ} (st : Nat → B → α) (I : Nat → B → Prop) (acc0 : B) (g : Nat → A → B → Option B) (ex : Ex β γ) (fin : B → β) (hf : l.length < FUEL) (h0 : I 0 acc0)
    (hs : ∀ pre x rest acc, l = pre ++ x :: rest → I pre.length acc → step (st pre.length acc) = some (match g pre.length x acc with | some acc' => .next (st (pre.length + 1) acc') | none => .done ex) ∧ ∀ acc', g pre.length x acc = some acc' → I (pre.length + 1) acc')
    (he : ∀ acc, I l.length acc → step (st l.length acc) = some (.done (.brk (fin acc)))) :
    lp step (st 0 acc0) k = (foldO g 0 acc0 l).elim (out k ex) (fun acc => k (fin acc)) ∧ ∀ acc, foldO g 0 acc0 l = some acc → I l.length acc := by
  have key : ∀ (rest pre : List A) (f : Nat) (acc : B), l = pre ++ rest → rest.length < f → I pre.length acc → loop step f (st pre.length acc) = some ((foldO g pre.length acc rest).elim ex (fun acc => .brk (fin acc))) ∧ ∀ acc', foldO g pre.length acc rest = some acc' → I l.length acc' := by
    intro rest
    induction rest with
    | nil =>
      intro pre f acc hl hf hI
      obtain ⟨f, rfl⟩ : ∃ f', f = f' + 1 := ⟨f - 1, by simp at hf; omega⟩
      rw [List.append_nil] at hl
      rw [← hl] at hI ⊢
      exact ⟨by simp [loop, he acc hI, foldO], fun acc' h => by simp only [foldO, Option.some.injEq] at h; rw [← h]; exact hI⟩
    | cons x rest ih =>
      intro pre f acc hl hf hI
      obtain ⟨f, rfl⟩ : ∃ f', f = f' + 1 := ⟨f - 1, by simp at hf; omega⟩
      obtain ⟨h1, h2⟩ := hs pre x rest acc hl hI
      simp only [loop, h1, foldO]
      cases hg : g pre.length x acc with
      | none => exact ⟨by simp, fun acc' h => by simp at h⟩
      | some acc' =>
        have := ih (pre ++ [x]) f acc' (by rw [hl]; simp) (by simp at hf; omega) (by simpa using h2 acc' hg)
        simpa using this
  obtain ⟨h1, h2⟩ := key l [] FUEL acc0 rfl hf h0
  refine ⟨?_, h2⟩
  unfold lp
  simp only [List.length_nil] at h1
  rw [h1]
  cases foldO g 0 acc0 l with
  | none => cases ex <;> rfl
  | some _ => rfl
def dataF (s : Sender) (i : Nat) (f : Frame) : Frame := (1, [s.1, s.2.1 + (i : Int), f.1] ++ f.2.1, f.2.2)
def gData (s : Sender) (i : Nat) (f : Frame) (acc : List (List Int)) : Option (List (List Int)) := if s.2.1 + (i : Int) > 2147483647 then none else some (acc ++ [packed (dataF s i f)])
theorem load_frame {f : Frame} (h : loadErr f = 0) : frameErr f = 0 ∧ f.2.1.length ≤ 9 := by
  unfold loadErr at h
  split at h
  · rename_i h1
    refine ⟨h1, ?_⟩
    split at h
    · simp at h
    · omega
  · exact absurd h (by assumption)
theorem data_good {s : Sender} {i : Nat} {f : Frame} (h1 : 0 ≤ s.1 ∧ s.1 ≤ 2147483647) (h2 : 0 ≤ s.2.1) (hi : s.2.1 + (i : Int) ≤ 2147483647) (hf : loadErr f = 0) (hb : ∀ b ∈ f.2.2, b.length = 8 ∧ Bytes b) : frameErr (dataF s i f) = 0 ∧ Good (dataF s i f) := by
  obtain ⟨e1, e2⟩ := load_frame hf
  have g := good_of e1 hb
  have e : frameErr (dataF s i f) = 0 := by
    have hany : f.2.1.any bad = false := by
      rw [List.any_eq_false]
      intro n hn
      have := bad_no.2 (g.num n hn)
      simp [this]
    have b1 := bad_no.2 h1
    have b2 : bad (s.2.1 + (i : Int)) = false := bad_no.2 ⟨by omega, hi⟩
    have b3 : bad f.1 = false := bad_no.2 ⟨g.s0, by have := g.s1; omega⟩
    have hbs := g.bs
    unfold frameErr dataF
    have k1 : ¬ ((1 : Int) < 0 ∨ (1 : Int) > 15) := by omega
    have k2 : ¬ (([s.1, s.2.1 + (i : Int), f.1] ++ f.2.1).length > 12 ∨ f.2.2.length > 32) := by simp; omega
    simp only [k1, k2, if_false]
    simp [b1, b2, b3, hany]
  exact ⟨e, good_of e hb⟩
def QOk (s : Sender) : Prop := ∀ f ∈ s.2.2, loadErr f = 0 ∧ ∀ b ∈ f.2.2, b.length = 8 ∧ Bytes b
theorem queue_load {s : Sender} (h : senderErr s = 0) : ∀ f ∈ s.2.2, loadErr f = 0 := by
  unfold senderErr at h
  split at h
  · simp at h
  · split at h
    · simp at h
    · intro f hf
      have hn : firstErr s.2.2 = none := by
        cases hf2 : firstErr s.2.2 with
        | none => rfl
        | some e => rw [hf2] at h; exact absurd h (first_ne hf2)
      have := List.findSome?_eq_none_iff.1 hn f hf
      by_cases h0 : loadErr f = 0
      · exact h0
      · simp [h0] at this
def win (s : Sender) : List Frame := s.2.2.take (min s.2.2.length 4)
theorem win_at {s : Sender} {pre rest : List Frame} {x : Frame} (h : win s = pre ++ x :: rest) : pre.length < min s.2.2.length 4 ∧ s.2.2[pre.length]? = some x ∧ x ∈ s.2.2 := by
  have hl : pre.length < min s.2.2.length 4 := by have := congrArg List.length h; simp [win] at this; omega
  have h1 : (win s)[pre.length]? = some x := by rw [h]; simp
  unfold win at h1
  rw [List.getElem?_take, if_pos hl] at h1
  exact ⟨hl, h1, List.mem_of_getElem? h1⟩
theorem win_len (s : Sender) : (win s).length = min s.2.2.length 4 := by simp [win]
theorem send_is (s : Sender) (h0 : senderErr s = 0) (hq : QOk s) : m_link_Send s = (foldO (gData s) 0 [] (win s)).elim (some ([], some 1)) (fun acc => some (acc, none)) ∧
    ∀ acc, foldO (gData s) 0 [] (win s) = some acc → acc.length = (win s).length ∧ ∀ x ∈ acc, x.length ≤ 1000000 := by
  obtain ⟨q1, q2, q3, q4⟩ := queue_small h0
  unfold m_link_Send
  rw [check_is, if_pos h0, Option.bind_some]
  have hsub : Sw.sub s.2.2 (0 : Int) (min (s.2.2.length : Int) (4 : Int)) = some (win s) := by
    unfold Sw.sub win
    rw [if_pos (by omega)]
    simp; omega
  rw [hsub]
  simp only [Option.isSome_none, cond_false, Option.bind_some]
  refine lp_opt (l := win s) (fun (i : Nat) (acc : List (List Int)) => ((i : Int), acc)) (fun i acc => acc.length = i ∧ ∀ x ∈ acc, x.length ≤ 1000000) [] (gData s) (.ret ([], some 1)) id (by rw [win_len]; unfold FUEL; omega) ⟨rfl, fun x hx => by simp at hx⟩ ?_ ?_
  · intro pre x rest acc h hI
    obtain ⟨w1, w2, w3⟩ := win_at h
    have e1 : cm .lss (pre.length : Int) ((win s).length : Int) = true := by rw [h]; exact lss_app pre x rest
    have e2 : Sw.idx (win s) (pre.length : Int) = some x := by rw [h]; exact idx_app pre x rest
    have e3 : ar .add .i64 s.2.1 (pre.length : Int) = s.2.1 + (pre.length : Int) := addI (by omega)
    simp only [e1, e2, e3, cond_true, Option.bind_some, cg, gData]
    by_cases c : s.2.1 + (pre.length : Int) > 2147483647
    · simp [c]
    · obtain ⟨g1, g2⟩ := data_good (i := pre.length) q1 q2.1 (by omega) (hq x w3).1 (hq x w3).2
      have hx := load_frame (hq x w3).1
      have e4 : Sw.app ([s.1, s.2.1 + (pre.length : Int), x.1] : List Int) x.2.1 = some ([s.1, s.2.1 + (pre.length : Int), x.1] ++ x.2.1) := app_small _ _ (by simp; omega)
      have e5 : m_frame_Pack ((1 : Int), [s.1, s.2.1 + (pre.length : Int), x.1] ++ x.2.1, x.2.2) = some (packed (dataF s pre.length x), none) := pack_is g2 g1
      have e6 : Sw.app acc [packed (dataF s pre.length x)] = some (acc ++ [packed (dataF s pre.length x)]) := app_small _ _ (by simp; omega)
      simp only [c, decide_false, cond_false, if_false, e4, e5, e6, Option.bind_some, Option.isSome_none]
      rw [nxt (by omega)]
      refine ⟨rfl, fun acc' he => ?_⟩
      cases he
      refine ⟨by simp [hI.1], fun y hy => ?_⟩
      rcases List.mem_append.1 hy with hy | hy
      · exact hI.2 y hy
      · simp at hy; subst hy; exact packed_len g2
  · intro acc _
    simp only [lss_self, cond_false]; rfl
end Go.Pl

namespace Go.Pl
open Go Go.Sw Go.Mo
def msg (i : Nat) : Frame := (((2 + i % 14 : Nat) : Int), [(i : Int)], [])
def qsi (n : Nat) : List Frame := (List.range n).map msg
def dat (S j : Nat) : Frame := (1, [(S : Int), (j : Int), ((2 + j % 14 : Nat) : Int), (j : Int)], [])
def ack (S a : Nat) : Frame := (0, [(S : Int), (a : Int)], [])
def snd (S M b : Nat) : Sender := ((S : Int), (b : Int), (qsi M).drop b)
theorem msg_ok {i : Nat} (h : i ≤ 1000) : loadErr (msg i) = 0 := by
  have hb : bad (i : Int) = false := bad_no.2 (by omega)
  unfold loadErr frameErr msg
  simp only [List.length_cons, List.length_nil, List.any_cons, List.any_nil, hb, Bool.or_false]
  rw [if_neg (show ¬ ((((2 + i % 14 : Nat) : Int)) < 0 ∨ (((2 + i % 14 : Nat) : Int)) > 15) by omega)]
  simp
theorem qsi_len (n : Nat) : (qsi n).length = n := by unfold qsi; simp
theorem qsi_mem {n : Nat} {f : Frame} (h : f ∈ qsi n) : ∃ i, i < n ∧ f = msg i := by
  unfold qsi at h
  obtain ⟨i, hi, rfl⟩ := List.mem_map.1 h
  exact ⟨i, List.mem_range.1 hi, rfl⟩
theorem first_none {l : List Frame} (h : ∀ f ∈ l, loadErr f = 0) : firstErr l = none := by
  unfold firstErr
  rw [List.findSome?_eq_none_iff]
  intro f hf
  rw [if_pos (h f hf)]
theorem sender_ok {S b : Nat} {l : List Frame} (hS : S ≤ 1000000) (hb : b ≤ 1000000) (hl : l.length ≤ 64) (h : ∀ f ∈ l, loadErr f = 0) : senderErr ((S : Int), (b : Int), l) = 0 := by
  unfold senderErr
  simp only [bad_no.2 (show 0 ≤ (S : Int) ∧ (S : Int) ≤ 2147483647 by omega), bad_no.2 (show 0 ≤ (b : Int) ∧ (b : Int) ≤ 2147483647 by omega), Bool.or_false, Bool.false_eq_true, if_false]
  rw [if_neg (by omega), first_none h]; rfl
variable {S M : Nat}
theorem snd_q {b : Nat} {f : Frame} (hM : M ≤ 30) (h : f ∈ (snd S M b).2.2) : loadErr f = 0 ∧ ∀ x ∈ f.2.2, x.length = 8 ∧ Bytes x := by
  obtain ⟨i, hi, rfl⟩ := qsi_mem (List.mem_of_mem_drop h)
  exact ⟨msg_ok (by omega), fun x hx => by unfold msg at hx; simp at hx⟩
theorem snd_ok (hS : S ≤ 1000) (hM : M ≤ 30) {b : Nat} (hb : b ≤ M) : senderErr (snd S M b) = 0 :=
  sender_ok (by omega) (by omega) (by rw [List.length_drop, qsi_len]; omega) (fun f hf => (snd_q (S := S) (b := b) hM hf).1)
theorem dat_good (hS : S ≤ 1000) {j : Nat} (hj : j ≤ 30) : Good (dat S j) := by
  refine ⟨by unfold dat; simp, by unfold dat; simp, by unfold dat; simp, by unfold dat; simp, fun n hn => ?_, fun b hb => by unfold dat at hb; simp at hb⟩
  unfold dat at hn
  simp at hn
  omega
theorem ack_good2 (hS : S ≤ 1000) {a : Nat} (ha : a ≤ 31) : frameErr (ack S a) = 0 ∧ Good (ack S a) := ack_good (by omega) (by omega)
theorem fold_win (s : Sender) : ∀ (l : List Frame) (k : Nat) (acc : List (List Int)), s.2.1 + ((k + l.length : Nat) : Int) ≤ 2147483647 → foldO (gData s) k acc l = some (acc ++ (l.zipIdx k).map (fun x => packed (dataF s x.2 x.1))) := by
  intro l
  induction l with
  | nil => intro k acc _; simp [foldO]
  | cons f l ih =>
    intro k acc h
    simp only [List.length_cons] at h
    have hg : gData s k f acc = some (acc ++ [packed (dataF s k f)]) := by unfold gData; rw [if_neg (by omega)]
    show (gData s k f acc).bind (fun acc => foldO (gData s) (k + 1) acc l) = _
    rw [hg, Option.bind_some, ih _ _ (by omega), List.zipIdx_cons, List.map_cons]
    simp
theorem drop_range (n b : Nat) : (List.range n).drop b = (List.range (n - b)).map (b + ·) := by
  apply List.ext_getElem
  · simp
  · intro i h1 h2; simp
theorem send_line (hS : S ≤ 1000) (hM : M ≤ 30) {b : Nat} (hb : b ≤ M) : m_link_Send (snd S M b) = some ((List.range (min (M - b) 4)).map (fun i => packed (dat S (b + i))), none) := by
  obtain ⟨h1, _⟩ := send_is (snd S M b) (snd_ok hS hM hb) (fun f hf => snd_q hM hf)
  have hw : (win (snd S M b)) = (List.range (min (M - b) 4)).map (fun i => msg (b + i)) := by
    unfold win snd
    simp only [List.length_drop, qsi_len]
    unfold qsi
    rw [← List.map_drop, drop_range, List.map_map, ← List.map_take]
    rw [List.take_range]
    rw [show min (min (M - b) 4) (M - b) = min (M - b) 4 by omega]
    rfl
  rw [h1, hw, fold_win _ _ _ _ (by unfold snd; simp; omega)]
  simp only [Option.elim_some, List.nil_append]
  congr 2
  apply List.ext_getElem
  · simp
  · intro i h1 h2
    simp only [List.getElem_map, List.getElem_zipIdx, List.getElem_range, Nat.zero_add]
    unfold dataF snd msg dat
    simp
theorem unpack_packed {f : Frame} (g : Good f) : m_frame_Unpack (packed f) = some (f, none) := by
  rw [unpack_is _ (packed_bytes g) (by
    have := body_bytes g
    unfold packed
    rw [List.length_append]
    unfold sum4
    simp; omega), frameOf_packed g]
theorem heard_line (hS : S ≤ 1000) (hM : M ≤ 30) {b a : Nat} (hb : b ≤ M) (ha : a ≤ M) : m_link_Heard (snd S M b) (packed (ack S a)) = some (snd S M (if b < a ∧ a ≤ b + 4 then a else b), none) := by
  have h0 := snd_ok hS hM hb
  unfold m_link_Heard
  obtain ⟨q1, q2, q3, q4⟩ := queue_small h0
  rw [check_is, if_pos h0, Option.bind_some, queue_is _ q3 q4, unpack_packed (ack_good2 hS (a := a) (by omega)).2]
  have hlen : (snd S M b).2.2.length = M - b := by unfold snd; simp [qsi_len]
  have i0 : Sw.idx (ack S a).2.1 (0 : Int) = some (S : Int) := by unfold ack; simp [Sw.idx]
  have i1 : Sw.idx (ack S a).2.1 (1 : Int) = some (a : Int) := by unfold ack; simp [Sw.idx]
  have k0 : (ack S a).1 = 0 := rfl
  have k2 : ((ack S a).2.1.length : Int) = 2 := rfl
  have k3 : ((ack S a).2.2.length : Int) = 0 := rfl
  have k4 : (snd S M b).1 = (S : Int) := rfl
  have k5 : (snd S M b).2.1 = (b : Int) := rfl
  have hs : ar .sub .i64 (a : Int) (b : Int) = (a : Int) - (b : Int) := subI (by omega)
  simp only [Option.isSome_none, cond_false, Option.bind_some, cn, k0, k2, k3, k4, k5, i0, i1, hs, ne_eq, not_true, decide_false, cg]
  rw [show decide ((0 : Int) > 0) = false from rfl]
  simp only [cond_false, Option.bind_some, jp]
  by_cases c : b < a ∧ a ≤ b + 4
  · rw [decide_eq_true (show (a : Int) - b > 0 by omega), cond_true, cle, hlen, decide_eq_true (show (a : Int) - (b : Int) ≤ min ((M - b : Nat) : Int) 4 by omega), Option.bind_some, cond_true, if_pos c]
    have e1 : (a : Int) - (b : Int) = ((a - b : Nat) : Int) := by omega
    rw [e1, ← hlen, sub_drop _ _ (by rw [hlen]; omega), Option.bind_some]
    unfold snd
    rw [List.drop_drop, show b + (a - b) = a by omega]
  · have hc : (bif decide ((a : Int) - b > 0) then some (cm .leq ((a : Int) - b) (min (((snd S M b).2.2.length : Nat) : Int) 4)) else some false) = some false := by
      rw [cle, hlen]
      by_cases c2 : (a : Int) - b > 0
      · rw [decide_eq_true c2, decide_eq_false (by omega)]; rfl
      · rw [decide_eq_false c2]; rfl
    rw [hc, Option.bind_some, cond_false, if_neg c]; rfl
theorem packed_ne {f : Frame} : packed f ≠ [] := by unfold packed body pre1; simp
theorem ne1_packed {f : Frame} : ne1 (packed f) = some () := by
  unfold ne1
  rw [if_neg]
  intro h
  exact packed_ne (List.isEmpty_iff.1 h)
theorem receive_line (hS : S ≤ 1000) (hM : M ≤ 30) {w j : Nat} (hw : w ≤ M) (hj : j < M) :
    m_link_Receive ((S : Int), (w : Int)) (packed (dat S j)) = some (if j = w then (((S : Int), ((w + 1 : Nat) : Int)), (((2 + j % 14 : Nat) : Int), [(j : Int)], []), true, (false, packed (ack S (w + 1))), none) else (((S : Int), (w : Int)), (0, [], []), false, (false, packed (ack S w)), none)) := by
  unfold m_link_Receive
  rw [number_is, bad_no.2 (show 0 ≤ (S : Int) ∧ (S : Int) ≤ 2147483647 by omega), bad_no.2 (show 0 ≤ (w : Int) ∧ (w : Int) ≤ 2147483647 by omega), unpack_packed (dat_good hS (j := j) (by omega))]
  have i0 : Sw.idx (dat S j).2.1 (0 : Int) = some (S : Int) := by unfold dat; simp [Sw.idx]
  have i1 : Sw.idx (dat S j).2.1 (1 : Int) = some (j : Int) := by unfold dat; simp [Sw.idx]
  have i2 : Sw.idx (dat S j).2.1 (2 : Int) = some ((2 + j % 14 : Nat) : Int) := by unfold dat; simp [Sw.idx]
  have i3 : Sw.sub (dat S j).2.1 (3 : Int) ((dat S j).2.1.length : Int) = some [(j : Int)] := sub_drop (dat S j).2.1 3 (by unfold dat; simp)
  have k0 : (dat S j).1 = 1 := rfl
  have k1 : ((dat S j).2.1.length : Int) = 4 := rfl
  have k3 : (dat S j).2.2 = [] := rfl
  rw [k1] at i3
  simp only [Bool.or_self, Bool.not_false, Bool.not_true, cond_false, Option.bind_some, Option.isSome_none, cn, k0, k1, k3, i0, i1, i2, i3, ne_eq, not_true, decide_false, cl, cg, ce, jp]
  rw [show decide ((4 : Int) < 3) = false from rfl, decide_eq_false (show ¬ (((2 + j % 14 : Nat) : Int) > 15) by omega)]
  simp only [cond_false, Option.bind_some]
  by_cases c : j = w
  · subst c
    have e1 : ar .add .i64 (j : Int) (1 : Int) = ((j + 1 : Nat) : Int) := nxt (by omega)
    have hg := ack_good2 hS (a := j + 1) (by omega)
    have hp := pack_is hg.2 hg.1
    unfold ack at hp
    simp only [decide_true, cond_true, Option.bind_some, decide_eq_true (show (j : Int) < 2147483647 by omega), e1, hp, ne1_packed, if_true]
    rfl
  · have hg := ack_good2 hS (a := w) (by omega)
    have hp := pack_is hg.2 hg.1
    unfold ack at hp
    simp only [decide_eq_false (show ¬ ((j : Int) = (w : Int)) by omega), cond_false, Option.bind_some, hp, ne1_packed, if_neg c]
    rfl
end Go.Pl

namespace Go.Pl
open Go Go.Sw Go.Mo
/-- a list gone through, each element looked at: one that is bad ends it -/
theorem lp_any {α A β γ : Type} {step : α → Option (Step α (Ex β γ))} {l : List A} {k : β → Option γ} (st : Nat → α) (bad : A → Bool) (z : γ) (y : β) (hf : l.length < FUEL)
    (hs : ∀ pre x rest, l = pre ++ x :: rest → step (st pre.length) = some (if bad x then .done (.ret z) else .next (st (pre.length + 1)))) (he : step (st l.length) = some (.done (.brk y))) :
    lp step (st 0) k = if l.any bad then some z else k y := by
  have key : ∀ (rest pre : List A) (f : Nat), l = pre ++ rest → rest.length < f → loop step f (st pre.length) = some (if rest.any bad then .ret z else .brk y) := by
    intro rest
    induction rest with
    | nil =>
      intro pre f hl hf
      obtain ⟨f, rfl⟩ : ∃ f', f = f' + 1 := ⟨f - 1, by simp at hf; omega⟩
      rw [List.append_nil] at hl
      rw [← hl]
      simp [loop, he]
    | cons x rest ih =>
      intro pre f hl hf
      obtain ⟨f, rfl⟩ : ∃ f', f = f' + 1 := ⟨f - 1, by simp at hf; omega⟩
      simp only [loop, hs pre x rest hl, List.any_cons]
      by_cases hb : bad x = true
      · simp [hb]
      · have := ih (pre ++ [x]) f (by rw [hl]; simp) (by simp at hf; omega)
        simp only [Bool.not_eq_true] at hb
        simp only [hb, Bool.false_eq_true, if_false, Bool.false_or]
        simpa using this
  have := key l [] FUEL rfl hf
  unfold lp
  simp only [List.length_nil] at this
  rw [this]
  by_cases hb : l.any bad = true
  · simp only [hb, if_true]
  · simp only [Bool.not_eq_true] at hb
    simp only [hb, Bool.false_eq_true, if_false]
theorem lenF {A : Type} {l : List A} {n : Nat} (h : l.length ≤ n) (hn : n ≤ 140737488355328) : l.length < FUEL := by unfold FUEL; omega
/-- the same, with the state told once more -/
theorem lss_len {A : Type} {l pre rest : List A} {x : A} (h : l = pre ++ x :: rest) : cm .lss (pre.length : Int) (l.length : Int) = true := by rw [h]; exact lss_app pre x rest
theorem idx_len {A : Type} {l pre rest : List A} {x : A} (h : l = pre ++ x :: rest) : Sw.idx l (pre.length : Int) = some x := by rw [h]; exact idx_app pre x rest
theorem idx_get {A : Type} {l : List A} {i : Nat} {x : A} (h : l[i]? = some x) : Sw.idx l (i : Int) = some x := by unfold Sw.idx; simp [h]
theorem idx_nat {A : Type} {l : List A} {n : Int} (h0 : 0 ≤ n) (h1 : n < l.length) : ∃ x, Sw.idx l n = some x ∧ l[n.toNat]? = some x := by
  have : n.toNat < l.length := by omega
  exact ⟨l[n.toNat], by unfold Sw.idx; simp [h0, this], by simp [this]⟩
theorem wf_i64 {n : Int} (h : Wf (Enc.int .i64) n) : -9223372036854775808 ≤ n ∧ n ≤ 9223372036854775807 := by
  have := h.int
  unfold inK at this
  simpa [IntKind.min, IntKind.max, IntKind.signed, IntKind.bits] using this
def I64 (n : Int) : Prop := -9223372036854775808 ≤ n ∧ n ≤ 9223372036854775807
/-- which of n things a raw number speaks of -/
def pick (c n : Int) : Int := (if c < 0 then -(c + 1) else c).tmod n
theorem pick_is {c n : Int} (hc : I64 c) (hn : 0 < n) : m_ref_Pick c n = some (pick c n) := by
  unfold m_ref_Pick pick
  have hnz : nz n = some () := nz_ok (by omega)
  simp only [jp, hnz, Option.bind_some, cl]
  by_cases h : c < 0
  · simp only [h, decide_true, cond_true, if_true]
    rw [addI (by unfold I64 at hc; omega), wrap_i64 (by unfold I64 at hc; omega)]
    rw [show 0 - (c + 1) = -(c + 1) by omega]; rfl
  · simp only [h, decide_false, cond_false, if_false]; rfl
theorem pick_lt {c n : Int} (hn : 0 < n) : 0 ≤ pick c n ∧ pick c n < n := by
  unfold pick
  have h0 : 0 ≤ (if c < 0 then -(c + 1) else c) := by split <;> omega
  exact ⟨Int.tmod_nonneg _ h0, Int.tmod_lt_of_pos _ hn⟩
def Raws (l : List Int) : Prop := (∀ x ∈ l, I64 x) ∧ l.length ≤ 256
theorem wf_raws {l : List Int} (h : Wf (Enc.sl (Enc.int .i64)) l) (hl : l.length ≤ 256) : Raws l := ⟨fun x hx => wf_i64 (h.sl.2 x hx), hl⟩
theorem wrap_byte (n : Int) : 0 ≤ IntKind.wrap .u8 n ∧ IntKind.wrap .u8 n ≤ 255 := by
  unfold IntKind.wrap
  simp only [IntKind.signed, IntKind.bits]
  simp; omega
def BlkOk (b : Blk) : Prop := b.length = 8 ∧ Bytes b
theorem zblk_ok : BlkOk zblk := ⟨rfl, fun x hx => by unfold zblk at hx; simp at hx; omega⟩
theorem set_ok {b : Blk} (h : BlkOk b) (i : Nat) (n : Int) : BlkOk (List.set b i (IntKind.wrap .u8 n)) := by
  refine ⟨by simpa using h.1, fun x hx => ?_⟩
  rcases List.mem_or_eq_of_mem_set hx with hx | rfl
  · exact h.2 x hx
  · exact wrap_byte n
/-- a loop whose state keeps what holds of it -/
theorem lp_ex {α β γ : Type} {step : α → Option (Step α (Ex β γ))} {k : β → Option γ} {B : Type} (st : Nat → B → α) (fin : B → β) (n : Nat) (I : Nat → B → Prop) (b0 : B) (hf : n < FUEL) (h0 : I 0 b0)
    (hs : ∀ i b, i < n → I i b → ∃ b', step (st i b) = some (.next (st (i + 1) b')) ∧ I (i + 1) b') (he : ∀ b, I n b → step (st n b) = some (.done (.brk (fin b)))) :
    ∃ b, I n b ∧ lp step (st 0 b0) k = k (fin b) := by
  have key : ∀ (m i f : Nat) (b : B), i + m = n → m < f → I i b → ∃ b', I n b' ∧ loop step f (st i b) = some (.brk (fin b')) := by
    intro m
    induction m with
    | zero =>
      intro i f b hi hf hI
      obtain ⟨f, rfl⟩ : ∃ f', f = f' + 1 := ⟨f - 1, by omega⟩
      have : i = n := by omega
      subst this
      exact ⟨b, hI, by simp [loop, he b hI]⟩
    | succ m ih =>
      intro i f b hi hf hI
      obtain ⟨f, rfl⟩ : ∃ f', f = f' + 1 := ⟨f - 1, by omega⟩
      obtain ⟨b', h1, h2⟩ := hs i b (by omega) hI
      obtain ⟨b2, h3, h4⟩ := ih (i + 1) f b' (by omega) (by omega) h2
      exact ⟨b2, h3, by simp [loop, h1, h4]⟩
  obtain ⟨b, h1, h2⟩ := key n 0 FUEL b0 (by omega) hf h0
  exact ⟨b, h1, by unfold lp; rw [h2]⟩
end Go.Pl

namespace Go.Pl
open Go Go.Sw Go.Mo
/-- what is under way: a message's number, or how many came -/
abbrev Way := Bool × Nat
def enc (S : Nat) (e : Way) : Bool × List Int := (e.1, if e.1 then packed (dat S e.2) else packed (ack S e.2))
def came (w : Nat) : List Int := (List.range w).map (fun (i : Nat) => (i : Int))
theorem came_len (w : Nat) : (came w).length = w := by unfold came; simp
theorem came_snoc (w : Nat) : came w ++ [(w : Int)] = came (w + 1) := by unfold came; rw [List.range_succ]; simp
structure Ln (M b w : Nat) (net : List Way) : Prop where
  bw : b ≤ w
  wM : w ≤ M
  w4 : w ≤ b + 4
  dt : ∀ e ∈ net, e.1 = true → e.2 < M ∧ e.2 < b + 4
  ak : ∀ e ∈ net, e.1 = false → e.2 ≤ w
def comeB (b : Nat) (e : Way) : Nat := if e.1 then b else if b < e.2 ∧ e.2 ≤ b + 4 then e.2 else b
def comeW (w : Nat) (e : Way) : Nat := if e.1 = true ∧ e.2 = w then w + 1 else w
def comeN (w : Nat) (e : Way) (net : List Way) : List Way := if e.1 then net ++ [(false, comeW w e)] else net
variable {S M : Nat}
abbrev LSt := Sender × (Int × Int) × List (Bool × List Int) × List Int × Bool
def lst (S M b w : Nat) (net : List Way) : LSt := (snd S M b, ((S : Int), (w : Int)), net.map (enc S), came w, true)
theorem Ln.come {b w : Nat} {net : List Way} (h : Ln M b w net) {e : Way} (he : e ∈ net) : Ln M (comeB b e) (comeW w e) (comeN w e net) ∧ b ≤ comeB b e ∧ w ≤ comeW w e := by
  obtain ⟨c, j⟩ := e
  have h1 := h.bw; have h2 := h.wM; have h3 := h.w4
  cases c with
  | true =>
    have hd := h.dt _ he rfl
    simp only at hd
    have hw : w ≤ comeW w (true, j) ∧ comeW w (true, j) ≤ M ∧ comeW w (true, j) ≤ b + 4 := by
      unfold comeW
      split
      · rename_i hc
        simp only at hc
        omega
      · omega
    refine ⟨⟨by show b ≤ _; omega, hw.2.1, by show _ ≤ b + 4; omega, ?_, ?_⟩, Nat.le_refl _, hw.1⟩
    · intro x hx hx1
      rcases List.mem_append.1 (show x ∈ net ++ [(false, comeW w (true, j))] from hx) with hx | hx
      · exact h.dt x hx hx1
      · simp at hx; subst hx; cases hx1
    · intro x hx hx1
      rcases List.mem_append.1 (show x ∈ net ++ [(false, comeW w (true, j))] from hx) with hx | hx
      · exact Nat.le_trans (h.ak x hx hx1) hw.1
      · simp at hx; subst hx; exact Nat.le_refl _
  | false =>
    have ha := h.ak _ he rfl
    simp only at ha
    have hb : b ≤ comeB b (false, j) ∧ comeB b (false, j) ≤ w := by
      unfold comeB
      simp only [Bool.false_eq_true, if_false]
      split <;> omega
    have hw : comeW w (false, j) = w := by unfold comeW; simp
    rw [hw]
    refine ⟨⟨hb.2, h2, by omega, fun x hx hx1 => ?_, fun x hx hx1 => ?_⟩, hb.1, Nat.le_refl _⟩
    · have := h.dt x hx hx1; omega
    · exact h.ak x hx hx1
theorem Ln.less {b w : Nat} {net net' : List Way} (h : Ln M b w net) (hs : ∀ e ∈ net', e ∈ net) : Ln M b w net' := ⟨h.bw, h.wM, h.w4, fun e he => h.dt e (hs e he), fun e he => h.ak e (hs e he)⟩
def sent (M b : Nat) : List Way := (List.range (min (M - b) 4)).map (fun i => (true, b + i))
theorem Ln.send {b w : Nat} {net : List Way} (h : Ln M b w net) : Ln M b w (net ++ sent M b) := by
  refine ⟨h.bw, h.wM, h.w4, fun e he h1 => ?_, fun e he h1 => ?_⟩
  · rcases List.mem_append.1 he with he | he
    · exact h.dt e he h1
    · unfold sent at he
      obtain ⟨i, hi, rfl⟩ := List.mem_map.1 he
      have := List.mem_range.1 hi
      simp only
      omega
  · rcases List.mem_append.1 he with he | he
    · exact h.ak e he h1
    · unfold sent at he
      obtain ⟨i, hi, rfl⟩ := List.mem_map.1 he
      cases h1
theorem send_st (hS : S ≤ 1000) (hM : M ≤ 30) {b w : Nat} {net : List Way} (h : Ln M b w net) (hl : net.length ≤ 1000) :
    m_top_line_send_io (snd S M b) ((S : Int), (w : Int)) (net.map (enc S)) (came w) true = some (snd S M b, ((S : Int), (w : Int)), (net ++ sent M b).map (enc S), came w, true) := by
  have hb := Nat.le_trans h.bw h.wM
  unfold m_top_line_send_io
  rw [send_line hS hM hb]
  simp only [Option.bind_some, cond_true, Option.isNone_none]
  have key : ∀ {l : List (List Int)} {acc0 : List (Bool × List Int)} {γ : Type} (K : List (Bool × List Int) → Option γ), l.length ≤ 1000 → acc0.length ≤ 1000 → lp (β := (List (Bool × (List Int)))) (fun (s17 : Int × (List (Bool × (List Int)))) =>
        bif (cm .lss s17.1 (l.length : Int)) then
          (Sw.idx l s17.1).bind fun z28 =>
            (Sw.app s17.2 ([(true, z28)] : (List (Bool × (List Int))))).bind fun v29 =>
              some (.next ((ar .add .i64 s17.1 (1 : Int)), v29))
        else
          some (.done (.brk s17.2))
        ) ((0 : Int), acc0) K = K (acc0 ++ l.map (fun x => (true, x))) := by
    intro l acc0 γ K hl ha
    refine (lp_inv (l := l) (fun i (acc : List (Bool × List Int)) => ((i : Int), acc)) (fun i acc => acc.length = acc0.length + i) acc0 (fun _ p acc => acc ++ [(true, p)]) id (by unfold FUEL; omega) (by simp) ?_ ?_).trans ?_
    · intro pre p rest acc hpre hI
      have hpl : pre.length ≤ 1000 := by rw [hpre] at hl; simp at hl; omega
      refine ⟨?_, by simp; omega⟩
      simp only [lss_len hpre, cond_true, idx_len hpre, Option.bind_some]
      rw [app_small _ _ (by simp; omega), Option.bind_some, nxt (by omega)]
    · intro acc _
      simp only [lss_self, cond_false]
      rfl
    · show K _ = K _
      congr 1
      have h : ∀ (l : List (List Int)) (i : Nat) (s : List (Bool × List Int)), (l.zipIdx i).foldl (fun acc x => acc ++ [(true, x.1)]) s = s ++ l.map (fun x => (true, x)) := by
        intro l
        induction l with
        | nil => intro i s; simp
        | cons p l ih => intro i s; rw [List.zipIdx_cons, List.foldl_cons, ih]; simp
      exact h _ _ _
  rw [key _ (by simp; omega) (by simpa using hl)]
  have hs : (sent M b).map (enc S) = ((List.range (min (M - b) 4)).map (fun i => packed (dat S (b + i)))).map (fun x => (true, x)) := by
    unfold sent
    rw [List.map_map, List.map_map]
    rfl
  rw [List.map_append, hs]
theorem come_st (hS : S ≤ 1000) (hM : M ≤ 30) {b w : Nat} {net : List Way} (h : Ln M b w net) (hl : net.length ≤ 1000) {i : Nat} {e : Way} (he : net[i]? = some e) :
    m_top_line_come_io (snd S M b) ((S : Int), (w : Int)) (net.map (enc S)) (came w) true (i : Int) = some (snd S M (comeB b e), ((S : Int), ((comeW w e : Nat) : Int)), (comeN w e net).map (enc S), came (comeW w e), true) := by
  have hm := List.mem_of_getElem? he
  have hb := Nat.le_trans h.bw h.wM
  unfold m_top_line_come_io
  have hi : Sw.idx (net.map (enc S)) (i : Int) = some (enc S e) := by
    refine idx_get ?_
    rw [List.getElem?_map, he]; rfl
  rw [hi, Option.bind_some]
  obtain ⟨c, j⟩ := e
  cases c with
  | true =>
    have hd := h.dt _ hm rfl
    simp only at hd
    have he1 : (enc S (true, j)).1 = true := rfl
    have he2 : (enc S (true, j)).2 = packed (dat S j) := rfl
    rw [he1, he2, cond_true, receive_line hS hM h.wM hd.1]
    have hwl := h.wM
    by_cases c : j = w
    · have hw : comeW w (true, j) = w + 1 := by unfold comeW; simp [c]
      have hN : comeN w (true, j) net = net ++ [(false, w + 1)] := by unfold comeN; rw [hw]; rfl
      have i0 : Sw.idx [(j : Int)] (0 : Int) = some (j : Int) := by simp [Sw.idx]
      rw [hw, hN]
      simp only [if_pos c, Option.bind_some, Option.isNone_none, cond_true, List.length_singleton, jp, i0, Bool.not_false]
      rw [show cm .eql (((1 : Nat) : Int)) (1 : Int) = true from rfl, cond_true, app_small _ _ (by rw [came_len]; simp; omega), Option.bind_some, app_small _ _ (by simp; omega), Option.bind_some, c, came_snoc]
      simp only [List.map_append]
      rfl
    · have hw : comeW w (true, j) = w := by unfold comeW; simp [c]
      have hN : comeN w (true, j) net = net ++ [(false, w)] := by unfold comeN; rw [hw]; rfl
      rw [hw, hN]
      simp only [if_neg c, Option.bind_some, Option.isNone_none, cond_true, cond_false, jp, Bool.not_false]
      rw [app_small _ _ (by simp; omega), Option.bind_some]
      simp only [List.map_append]
      rfl
  | false =>
    have ha := h.ak _ hm rfl
    simp only at ha
    have hwl := h.wM
    have he1 : (enc S (false, j)).1 = false := rfl
    have he2 : (enc S (false, j)).2 = packed (ack S j) := rfl
    have hw : comeW w (false, j) = w := by unfold comeW; simp
    rw [he1, he2, cond_false, heard_line hS hM hb (show j ≤ M by omega), hw]
    simp only [Option.bind_some, Option.isNone_none, cond_true]
    rfl
theorem gone_st {b w : Nat} {net : List Way} (hl : net.length ≤ 1000) {i : Nat} (hi : i < net.length) :
    m_top_line_gone_io (snd S M b) ((S : Int), (w : Int)) (net.map (enc S)) (came w) true (i : Int) = some (snd S M b, ((S : Int), (w : Int)), (net.take i ++ net.drop (i + 1)).map (enc S), came w, true) := by
  unfold m_top_line_gone_io
  have h1 : Sw.sub (net.map (enc S)) (0 : Int) (i : Int) = some ((net.map (enc S)).take i) := by
    unfold Sw.sub
    rw [if_pos (by simp; omega)]
    simp
  have h2 : Sw.sub (net.map (enc S)) (ar .add .i64 (i : Int) (1 : Int)) ((net.map (enc S)).length : Int) = some ((net.map (enc S)).drop (i + 1)) := by
    rw [nxt (by omega), sub_drop _ _ (by simp; omega)]
  rw [h1, Option.bind_some, app_small _ _ (by simp; omega), Option.bind_some, h2, Option.bind_some, app_small _ _ (by simp; omega), Option.bind_some]
  simp only [List.nil_append, List.map_append, List.map_take, List.map_drop]
end Go.Pl

namespace Go.Pl
open Go Go.Sw Go.Mo
variable {S M : Nat}
theorem lp_exr {α β γ : Type} {step : α → Option (Step α (Ex β γ))} {k : β → Option γ} {r : Option γ} {B : Type} (st : Nat → B → α) (fin : B → β) (n : Nat) (I : Nat → B → Prop) (b0 : B) (hf : n < FUEL) (h0 : I 0 b0)
    (hs : ∀ i b, i < n → I i b → ∃ b', step (st i b) = some (.next (st (i + 1) b')) ∧ I (i + 1) b') (he : ∀ b, I n b → step (st n b) = some (.done (.brk (fin b)))) (hk : ∀ b, I n b → k (fin b) = r) : lp step (st 0 b0) k = r := by
  obtain ⟨b, h1, h2⟩ := lp_ex (k := k) st fin n I b0 hf h0 hs he
  rw [h2, hk b h1]
theorem qsi_snoc (i : Nat) : qsi i ++ [msg i] = qsi (i + 1) := by unfold qsi; rw [List.range_succ]; simp
theorem offer_line (hS : S ≤ 1000) {i : Nat} (hi : i ≤ 30) : m_link_Offer ((S : Int), (0 : Int), qsi i) (msg i) = some (((S : Int), (0 : Int), qsi (i + 1)), none) := by
  have hq : ∀ f ∈ qsi i, loadErr f = 0 := fun f hf => by obtain ⟨j, hj, rfl⟩ := qsi_mem hf; exact msg_ok (by omega)
  have h0 : senderErr ((S : Int), (0 : Int), qsi i) = 0 := sender_ok (b := 0) (by omega) (by omega) (by rw [qsi_len]; omega) hq
  obtain ⟨q1, q2, q3, q4⟩ := queue_small h0
  have hcl : m_link_clone (msg i) = some (msg i) := by
    unfold m_link_clone msg m_slices_Clone_int_int m_slices_Clone_api_Block_api_Block
    rfl
  unfold m_link_Offer
  rw [check_is, if_pos h0, Option.bind_some]
  simp only [Option.isSome_none, cond_false]
  rw [load_is, if_pos (msg_ok (by omega)), Option.bind_some]
  simp only [Option.isSome_none, cond_false, qsi_len, ce, cge]
  rw [decide_eq_false (show ¬ ((i : Int) = 64) by omega), cond_false, addI (by omega), decide_eq_false (show ¬ ((0 : Int) + (i : Int) ≥ 2147483647) by omega), Option.bind_some, cond_false, queue_is _ (by rw [qsi_len]; omega) q4, Option.bind_some, hcl, Option.bind_some, app_small _ _ (by rw [qsi_len]; simp; omega), Option.bind_some, qsi_snoc]
theorem came_loop {γ : Type} (w : Nat) (hw : w ≤ 1000) (z : γ) (n : Int) (hn : n = (w : Int)) (K : Unit → Option γ) :
    lp (β := Unit) (fun (s274 : Int) =>
          bif (cm .lss s274 n) then
            (Sw.idx (came w) s274).bind fun z281 =>
              bif (cm .neq z281 s274) then
                some (.done (.ret z))
              else
                some (.next (ar .add .i64 s274 (1 : Int)))
          else
            some (.done (.brk ()))
          ) (0 : Int) K = K () := by
  subst hn
  rw [show (0 : Int) = (fun (i : Nat) => (i : Int)) 0 from rfl]
  have hlen := came_len w
  rw [lp_any (l := came w) (fun (i : Nat) => (i : Int)) (fun _ => false) z () (lenF (n := 1000) (by omega) (by decide))]
  · simp
  · intro pre x rest hpre
    have hx : x = (pre.length : Int) := by
      have h1 : (came w)[pre.length]? = some x := by rw [hpre]; simp
      unfold came at h1
      rw [List.getElem?_map] at h1
      cases hr : (List.range w)[pre.length]? with
      | none => rw [hr] at h1; cases h1
      | some y =>
        rw [hr] at h1
        have h2 := List.getElem?_eq_some_iff.1 hr
        obtain ⟨h3, h4⟩ := h2
        simp at h4 h1
        omega
    have hpl : pre.length < w := by have := congrArg List.length hpre; simp [came_len] at this; omega
    rw [cl, decide_eq_true (show (pre.length : Int) < (w : Int) by omega), cond_true, idx_len hpre, Option.bind_some, hx, cn, decide_eq_false (fun h => h rfl), cond_false, nxt (by omega)]
    simp
  · simp only [hlen]
    rw [cl, decide_eq_false (show ¬ ((w : Int) < (w : Int)) by omega), cond_false]
abbrev LB := Nat × Nat × List Way
/-- what lies on a line, weighed: a message asks for two deeds -/
def weigh (net : List Way) : Nat := (net.map (fun e => if e.1 then 2 else 1)).sum
theorem weigh_cons (e : Way) (net : List Way) : weigh (e :: net) = (if e.1 then 2 else 1) + weigh net := by unfold weigh; simp
theorem weigh_app (a b : List Way) : weigh (a ++ b) = weigh a + weigh b := by unfold weigh; simp
theorem weigh_le (net : List Way) : weigh net ≤ 2 * net.length := by
  induction net with
  | nil => simp [weigh]
  | cons e net ih => rw [weigh_cons, List.length_cons]; split <;> omega
/-- message b0 or what was said of it is still under way, or was heard -/
def Due (b0 b : Nat) (net : List Way) : Prop := b0 + 1 ≤ b ∨ (∃ a, b0 + 1 ≤ a ∧ (false, a) ∈ net) ∨ (true, b0) ∈ net
theorem due_step {b0 b w : Nat} {e : Way} {net : List Way} (h : Ln M b w (e :: net)) (hb : b0 ≤ b) (hd : Due b0 b (e :: net)) : Due b0 (comeB b e) (if e.1 then net ++ [(false, comeW w e)] else net) := by
  have h1 := h.bw; have h2 := h.wM; have h3 := h.w4
  obtain ⟨hl, hb1, hw1⟩ := h.come (e := e) List.mem_cons_self
  rcases hd with hd | ⟨a, ha, hm⟩ | hm
  · exact .inl (by omega)
  · rcases List.mem_cons.1 hm with rfl | hm
    · have := h.ak _ List.mem_cons_self rfl
      simp only at this
      refine .inl ?_
      unfold comeB
      simp only [Bool.false_eq_true, if_false]
      split <;> omega
    · refine .inr (.inl ⟨a, ha, ?_⟩)
      split
      · exact List.mem_append_left _ hm
      · exact hm
  · rcases List.mem_cons.1 hm with rfl | hm
    · refine .inr (.inl ⟨comeW w (true, b0), ?_, by simp⟩)
      unfold comeW
      simp only [true_and]
      split <;> omega
    · refine .inr (.inr ?_)
      split
      · exact List.mem_append_left _ hm
      · exact hm
theorem come_gone {w : Nat} {e : Way} {net : List Way} : (comeN w e (e :: net)).take 0 ++ (comeN w e (e :: net)).drop (0 + 1) = if e.1 then net ++ [(false, comeW w e)] else net := by
  unfold comeN
  split <;> simp
abbrev TX := Sender × (Int × Int) × Bool × List (Bool × List Int) × List Int
abbrev TS := Int × TX
def dst (S M b w : Nat) (net : List Way) : TX := (snd S M b, ((S : Int), (w : Int)), true, net.map (enc S), came w)
def drainS (s409 : TX) : Option (Step TX (Ex TX (Step TS (Ex TX Bool)))) :=
                  (bif (cm .gtr (s409.2.2.2.1.length : Int) (0 : Int)) then
                    some s409.2.2.1
                  else
                    some false).bind fun x419 =>
                    bif x419 then
                      (m_top_line_come_io s409.1 s409.2.1 s409.2.2.2.1 s409.2.2.2.2 s409.2.2.1 (0 : Int)).bind fun v422 =>
                        (m_top_line_gone_io v422.1 v422.2.1 v422.2.2.1 v422.2.2.2.1 v422.2.2.2.2 (0 : Int)).bind fun v423 =>
                          some (Step.next (v423.1, v423.2.1, v423.2.2.2.2, v423.2.2.1, v423.2.2.2.1))
                    else
                      some (Step.done (Ex.brk (s409.1, s409.2.1, s409.2.2.1, s409.2.2.2.1, s409.2.2.2.2)))
theorem drain (hS : S ≤ 1000) (hM : M ≤ 30) (b0 : Nat) : ∀ (n F b w : Nat) (net : List Way), weigh net ≤ n → n < F → Ln M b w net → net.length ≤ 900 → b0 ≤ b → (b0 < M → Due b0 b net) →
    ∃ b' w', loop drainS F (dst S M b w net) = some (.brk (dst S M b' w' [])) ∧ Ln M b' w' [] ∧ (b0 < M → b0 + 1 ≤ b') ∧ b ≤ b' := by
  intro n
  induction n with
  | zero =>
    intro F b w net hn hF hL _ _ hd
    obtain ⟨F, rfl⟩ : ∃ f', F = f' + 1 := ⟨F - 1, by omega⟩
    cases net with
    | cons e net => rw [weigh_cons] at hn; split at hn <;> omega
    | nil =>
      refine ⟨b, w, ?_, hL, fun h => ?_, Nat.le_refl _⟩
      · have : drainS (dst S M b w []) = some (.done (.brk (dst S M b w []))) := rfl
        simp only [loop, this]
      · rcases hd h with h | ⟨a, _, h⟩ | h
        · exact h
        · simp at h
        · simp at h
  | succ n ih =>
    intro F b w net hn hF hL hl hb hd
    obtain ⟨F, rfl⟩ : ∃ f', F = f' + 1 := ⟨F - 1, by omega⟩
    cases net with
    | nil =>
      refine ⟨b, w, ?_, hL, fun h => ?_, Nat.le_refl _⟩
      · have : drainS (dst S M b w []) = some (.done (.brk (dst S M b w []))) := rfl
        simp only [loop, this]
      · rcases hd h with h | ⟨a, _, h⟩ | h
        · exact h
        · simp at h
        · simp at h
    | cons e net =>
      obtain ⟨hC, hb1, _⟩ := hL.come (e := e) List.mem_cons_self
      have hcome := come_st hS hM hL (by omega) (i := 0) (e := e) rfl
      have hNl : (comeN w e (e :: net)).length ≤ net.length + 2 := by unfold comeN; split <;> simp
      have hN0 : 0 < (comeN w e (e :: net)).length := by unfold comeN; split <;> simp
      simp only [List.length_cons] at hl
      by_cases hbig : (comeN w e (e :: net)).length ≤ 1000
      · have hgone := gone_st (S := S) (M := M) (b := comeB b e) (w := comeW w e) (net := comeN w e (e :: net)) hbig (i := 0) hN0
        rw [come_gone] at hgone
        have hs : drainS (dst S M b w (e :: net)) = some (.next (dst S M (comeB b e) (comeW w e) (if e.1 then net ++ [(false, comeW w e)] else net))) := by
          unfold drainS dst
          have hg : cm .gtr ((((e :: net).map (enc S)).length : Nat) : Int) (0 : Int) = true := by rw [cg]; exact decide_eq_true (by simp <;> omega)
          simp only [hg, cond_true, Option.bind_some]
          have hcome' : m_top_line_come_io (snd S M b) ((S : Int), (w : Int)) ((e :: net).map (enc S)) (came w) true (0 : Int) = _ := hcome
          have hgone' : m_top_line_gone_io (snd S M (comeB b e)) ((S : Int), ((comeW w e : Nat) : Int)) ((comeN w e (e :: net)).map (enc S)) (came (comeW w e)) true (0 : Int) = _ := hgone
          rw [hcome', Option.bind_some]
          simp only
          rw [hgone', Option.bind_some]
        have hnew : Ln M (comeB b e) (comeW w e) (if e.1 then net ++ [(false, comeW w e)] else net) := hC.less (fun x hx => by
          unfold comeN
          split at hx
          · rename_i he
            rw [if_pos he]
            rcases List.mem_append.1 hx with hx | hx
            · exact List.mem_append_left _ (List.mem_cons_of_mem _ hx)
            · exact List.mem_append_right _ hx
          · rename_i he
            rw [if_neg he]
            exact List.mem_cons_of_mem _ hx)
        have hw2 : weigh (if e.1 then net ++ [(false, comeW w e)] else net) ≤ n := by
          rw [weigh_cons] at hn
          split
          · rename_i he
            rw [if_pos he] at hn
            rw [weigh_app]
            have : weigh [(false, comeW w e)] = 1 := rfl
            omega
          · rename_i he
            rw [if_neg he] at hn
            omega
        have hlen2 : (if e.1 then net ++ [(false, comeW w e)] else net).length ≤ 900 := by
          split
          · simp; omega
          · omega
        obtain ⟨b', w', k1, k2, k3, k4⟩ := ih F _ _ _ hw2 (by omega) hnew hlen2 (show b0 ≤ comeB b e by omega) (fun h => due_step hL hb (hd h))
        exact ⟨b', w', by simp only [loop, hs]; exact k1, k2, k3, by omega⟩
      · exfalso
        omega
theorem law_TopLine (a0 a1 : Int) (a2 : List Int) (w0 : Wf (Enc.int .i64) a0) (w1 : Wf (Enc.int .i64) a1) (w2 : Wf (Enc.sl (Enc.int .i64)) a2) : m_top_TopLine a0 a1 a2 = some true := by
  unfold m_top_TopLine
  rw [cg]
  by_cases g1 : a2.length > 100
  · rw [decide_eq_true (show (a2.length : Int) > 100 by omega)]; rfl
  rw [decide_eq_false (show ¬ (a2.length : Int) > 100 by omega), cond_false]
  rw [pick_is (wf_i64 w0) (by decide), Option.bind_some, pick_is (wf_i64 w1) (by decide), Option.bind_some]
  have p1 := pick_lt (c := a0) (n := 1000) (by decide)
  have p2 := pick_lt (c := a1) (n := 20) (by decide)
  obtain ⟨S, hSe⟩ : ∃ n : Nat, pick a0 1000 = (n : Int) := ⟨(pick a0 1000).toNat, by omega⟩
  obtain ⟨M, hMe⟩ : ∃ n : Nat, pick a1 20 = (n : Int) := ⟨(pick a1 20).toNat, by omega⟩
  rw [hSe] at p1 ⊢
  rw [hMe] at p2 ⊢
  have hS : S ≤ 1000 := by omega
  have hM : M ≤ 30 := by omega
  refine lp_exr (γ := Bool) (fun (i : Nat) (_ : Unit) => ((i : Int), ((S : Int), (0 : Int), qsi i))) (fun _ => ((S : Int), (0 : Int), qsi M)) M (fun _ _ => True) () (by unfold FUEL; omega) trivial ?_ ?_ ?_
  · intro i _ hi _
    refine ⟨(), ?_, trivial⟩
    have e1 : ar .rem .i64 (i : Int) (14 : Int) = ((i % 14 : Nat) : Int) := rem64 (b := 14)
    have e2 : ar .add .i64 (2 : Int) ((i % 14 : Nat) : Int) = ((2 + i % 14 : Nat) : Int) := add64 (a := 2) (by omega)
    have ho := offer_line (S := S) hS (i := i) (by omega)
    unfold msg at ho
    simp only [cl, decide_eq_true (show (i : Int) < (M : Int) by omega), cond_true, e1, e2, ho, Option.bind_some, Option.isSome_none, cond_false]
    rw [nxt (by omega)]
  · intro _ _
    rw [cl, decide_eq_false (show ¬ ((M : Int) < (M : Int)) by omega), cond_false]
  intro _ _
  -- the script
  have hstart : ((S : Int), (0 : Int), qsi M) = snd S M 0 := by unfold snd; simp
  rw [hstart]
  refine lp_exr (γ := Bool) (fun (i : Nat) (b : LB) => ((i : Int), snd S M b.1, ((S : Int), (b.2.1 : Int)), true, b.2.2.map (enc S), came b.2.1)) (fun b => (snd S M b.1, ((S : Int), (b.2.1 : Int)), true, b.2.2.map (enc S), came b.2.1)) a2.length (fun i b => Ln M b.1 b.2.1 b.2.2 ∧ b.2.2.length ≤ 201 + 4 * i) (0, 0, []) (by unfold FUEL; omega) ⟨⟨Nat.le_refl _, Nat.zero_le _, Nat.zero_le _, fun e he => by simp at he, fun e he => by simp at he⟩, by simp⟩ ?_ ?_ ?_
  · rintro i ⟨b, w, net⟩ hi ⟨hL, hl⟩
    simp only at hL hl ⊢
    have hget : a2[i]? = some a2[i] := List.getElem?_eq_getElem hi
    rw [cl, decide_eq_true (show (i : Int) < (a2.length : Int) by omega), cond_true, Option.bind_some, cond_true]
    simp only [jp]
    rw [idx_get hget, Option.bind_some, pick_is (wf_i64 (w2.sl.2 _ (List.getElem_mem hi))) (by decide), Option.bind_some]
    have hp := pick_lt (c := a2[i]) (n := 100000) (by decide)
    obtain ⟨k, hk⟩ : ∃ n : Nat, pick a2[i] 100000 = (n : Int) := ⟨(pick a2[i] 100000).toNat, by omega⟩
    rw [hk] at hp ⊢
    have er : ar .rem .i64 (k : Int) (5 : Int) = ((k % 5 : Nat) : Int) := rem64 (b := 5)
    have eq : ar .quo .i64 (k : Int) (5 : Int) = ((k / 5 : Nat) : Int) := quo64 (b := 5) (by omega)
    have hnx : ar .add .i64 (i : Int) (1 : Int) = ((i + 1 : Nat) : Int) := nxt (by omega)
    simp only [er, eq, hnx, List.length_map, ce]
    have hsend := send_st hS hM hL (by omega)
    by_cases c0 : net.length = 0 ∨ k % 5 = 0
    · have hor : (bif decide ((net.length : Int) = 0) then some true else some (decide (((k % 5 : Nat) : Int) = 0))) = some true := by
        by_cases c : net.length = 0
        · rw [decide_eq_true (show (net.length : Int) = 0 by omega)]; rfl
        · rw [decide_eq_false (show ¬ (net.length : Int) = 0 by omega), decide_eq_true (show ((k % 5 : Nat) : Int) = 0 by omega)]; rfl
      refine ⟨(b, w, net ++ sent M b), ?_, hL.send, ?_⟩
      · rw [hor]
        simp only [Option.bind_some, cond_true, hsend]
      · simp only [List.length_append]
        have : (sent M b).length ≤ 4 := by unfold sent; simp; omega
        omega
    have hor : (bif decide ((net.length : Int) = 0) then some true else some (decide (((k % 5 : Nat) : Int) = 0))) = some false := by
      rw [decide_eq_false (show ¬ (net.length : Int) = 0 by omega), decide_eq_false (show ¬ ((k % 5 : Nat) : Int) = 0 by omega)]; rfl
    have hn0 : 0 < net.length := by omega
    have hat : k / 5 % net.length < net.length := Nat.mod_lt _ hn0
    have erl : ar .rem .i64 ((k / 5 : Nat) : Int) (net.length : Int) = ((k / 5 % net.length : Nat) : Int) := rem64
    generalize hj : k / 5 % net.length = j at hat erl
    have hge : net[j]? = some net[j] := List.getElem?_eq_getElem hat
    obtain ⟨hC, _, _⟩ := hL.come (List.getElem_mem hat)
    have hcome := come_st hS hM hL (by omega) hge
    have hNl : (comeN w net[j] net).length ≤ net.length + 1 := by unfold comeN; split <;> simp
    have hNg : net.length ≤ (comeN w net[j] net).length := by unfold comeN; split <;> simp
    have cut : ∀ (net' : List Way), net'.length ≤ 1000 → (bif cm .gtr (((net'.map (enc S)).length : Nat) : Int) (200 : Int) then (Sw.sub (net'.map (enc S)) (0 : Int) (200 : Int)) else some (net'.map (enc S))) = some ((net'.take 200).map (enc S)) := by
      intro net' hl'
      rw [cg, List.length_map]
      by_cases c : net'.length > 200
      · rw [decide_eq_true (show (net'.length : Int) > 200 by omega), cond_true]
        unfold Sw.sub
        rw [if_pos (by simp; omega)]
        simp
      · rw [decide_eq_false (show ¬ (net'.length : Int) > 200 by omega), cond_false, List.take_of_length_le (by omega)]
    have fin : ∀ {γ : Type} (net' : List Way) (K : List (Bool × List Int) → Option γ), net'.length ≤ 1000 → (bif cm .gtr (((net'.map (enc S)).length : Nat) : Int) (200 : Int) then (Sw.sub (net'.map (enc S)) (0 : Int) (200 : Int)).bind K else K (net'.map (enc S))) = K ((net'.take 200).map (enc S)) := by
      intro γ net' K hl'
      have := cut net' hl'
      cases hb : cm .gtr (((net'.map (enc S)).length : Nat) : Int) (200 : Int) with
      | true => rw [hb] at this; simp only [cond_true] at this ⊢; rw [this]; rfl
      | false => rw [hb] at this; simp only [cond_false, Option.some.injEq] at this ⊢; rw [this]
    have takeLn : ∀ {b w : Nat} {net' : List Way}, Ln M b w net' → Ln M b w (net'.take 200) ∧ (net'.take 200).length ≤ 200 := fun h => ⟨h.less (fun e he => List.mem_of_mem_take he), by simp; omega⟩
    have goneMem : ∀ (l : List Way) (i : Nat), ∀ e ∈ l.take i ++ l.drop (i + 1), e ∈ l := fun l i e he => by
      rcases List.mem_append.1 he with he | he
      · exact List.mem_of_mem_take he
      · exact List.mem_of_mem_drop he
    have goneLen : ∀ (l : List Way) (i : Nat), (l.take i ++ l.drop (i + 1)).length ≤ l.length := fun l i => by simp; omega
    have k2 := cm
    rw [hor]
    simp only [Option.bind_some, cond_false, nz_ok (show (net.length : Int) ≠ 0 by omega), erl]
    by_cases c1 : k % 5 = 1
    · rw [decide_eq_true (show ((k % 5 : Nat) : Int) = 1 by omega), cond_true, hcome, Option.bind_some]
      have hgone := gone_st (S := S) (M := M) (b := comeB b net[j]) (w := comeW w net[j]) (net := comeN w net[j] net) (by omega) (i := j) (by omega)
      simp only [hgone, Option.bind_some]
      have h1 := hC.less (goneMem (comeN w net[j] net) j)
      have h2 := takeLn h1
      refine ⟨(comeB b net[j], comeW w net[j], ((comeN w net[j] net).take j ++ (comeN w net[j] net).drop (j + 1)).take 200), ?_, h2.1, by have := h2.2; simp only; omega⟩
      exact fin ((comeN w net[j] net).take j ++ (comeN w net[j] net).drop (j + 1)) (fun v => (some (Step.next (((i + 1 : Nat) : Int), snd S M (comeB b net[j]), ((S : Int), ((comeW w net[j] : Nat) : Int)), true, v, came (comeW w net[j]))) : Option (Step TS (Ex TX Bool)))) (by have := goneLen (comeN w net[j] net) j; omega)
    rw [decide_eq_false (show ¬ ((k % 5 : Nat) : Int) = 1 by omega), cond_false]
    by_cases c2 : k % 5 = 2
    · rw [decide_eq_true (show ((k % 5 : Nat) : Int) = 2 by omega), cond_true]
      have hgone := gone_st (S := S) (M := M) (b := b) (w := w) (net := net) (by omega) (i := j) hat
      simp only [hgone, Option.bind_some]
      have h1 := hL.less (goneMem net j)
      have h2 := takeLn h1
      refine ⟨(b, w, (net.take j ++ net.drop (j + 1)).take 200), ?_, h2.1, by have := h2.2; simp only; omega⟩
      exact fin (net.take j ++ net.drop (j + 1)) (fun v => (some (Step.next (((i + 1 : Nat) : Int), snd S M b, ((S : Int), (w : Int)), true, v, came w)) : Option (Step TS (Ex TX Bool)))) (by have := goneLen net j; omega)
    rw [decide_eq_false (show ¬ ((k % 5 : Nat) : Int) = 2 by omega), cond_false]
    by_cases c3 : k % 5 = 3
    · rw [decide_eq_true (show ((k % 5 : Nat) : Int) = 3 by omega), cond_true]
      have hi2 : Sw.idx (net.map (enc S)) (j : Int) = some (enc S net[j]) := idx_get (by rw [List.getElem?_map, hge]; rfl)
      rw [hi2, Option.bind_some, app_small _ _ (by simp; omega), Option.bind_some]
      have h1 : Ln M b w (net ++ [net[j]]) := hL.less (fun e he => by
        rcases List.mem_append.1 he with he | he
        · exact he
        · simp at he; subst he; exact List.getElem_mem hat)
      have h2 := takeLn h1
      have hmap : net.map (enc S) ++ [enc S net[j]] = (net ++ [net[j]]).map (enc S) := by simp
      rw [hmap]
      refine ⟨(b, w, (net ++ [net[j]]).take 200), ?_, h2.1, by have := h2.2; simp only; omega⟩
      exact fin (net ++ [net[j]]) (fun v => (some (Step.next (((i + 1 : Nat) : Int), snd S M b, ((S : Int), (w : Int)), true, v, came w)) : Option (Step TS (Ex TX Bool)))) (by simp; omega)
    rw [decide_eq_false (show ¬ ((k % 5 : Nat) : Int) = 3 by omega), cond_false, hcome, Option.bind_some]
    have h2 := takeLn hC
    refine ⟨(comeB b net[j], comeW w net[j], (comeN w net[j] net).take 200), ?_, h2.1, by have := h2.2; simp only; omega⟩
    exact fin (comeN w net[j] net) (fun v => (some (Step.next (((i + 1 : Nat) : Int), snd S M (comeB b net[j]), ((S : Int), ((comeW w net[j] : Nat) : Int)), true, v, came (comeW w net[j]))) : Option (Step TS (Ex TX Bool)))) (by omega)
  · rintro ⟨b, w, net⟩ _
    simp only
    rw [cl, decide_eq_false (show ¬ ((a2.length : Int) < (a2.length : Int)) by omega)]
    rfl
  rintro ⟨b, w, net⟩ ⟨hL, hl⟩
  simp only at hL hl ⊢
  have hwM := hL.wM
  rw [came_loop w (by omega) false _ (by rw [came_len])]
  -- nothing is lost now
  refine lp_exr (γ := Bool) (fun (i : Nat) (b : LB) => ((i : Int), snd S M b.1, ((S : Int), (b.2.1 : Int)), true, b.2.2.map (enc S), came b.2.1)) (fun b => (snd S M b.1, ((S : Int), (b.2.1 : Int)), true, b.2.2.map (enc S), came b.2.1)) (M + 1) (fun i b => Ln M b.1 b.2.1 b.2.2 ∧ b.2.2.length ≤ 700 ∧ (0 < i → b.2.2 = []) ∧ min i M ≤ b.1) (b, w, net) (by unfold FUEL; omega) ⟨hL, by simp only; omega, fun h => by omega, by simp⟩ ?_ ?_ ?_
  · rintro i ⟨b, w, net⟩ hi ⟨hL, hl, _, hmin⟩
    simp only at hL hl hmin ⊢
    have hsend := send_st hS hM hL (by omega)
    rw [cle, decide_eq_true (show (i : Int) ≤ (M : Int) by omega), cond_true, Option.bind_some, cond_true, hsend, Option.bind_some]
    have hnx : ar .add .i64 (i : Int) (1 : Int) = ((i + 1 : Nat) : Int) := nxt (by omega)
    simp only [hnx]
    -- the line is emptied
    have hsl : (sent M b).length ≤ 4 := by unfold sent; simp; omega
    have hdue : b < M → Due b b (net ++ sent M b) := fun h => .inr (.inr (List.mem_append_right _ (by
      unfold sent
      exact List.mem_map.2 ⟨0, List.mem_range.2 (by omega), rfl⟩)))
    have hwl := weigh_le (net ++ sent M b)
    obtain ⟨b', w', k1, k2, k3, k4⟩ := drain hS hM b 1500 FUEL b w (net ++ sent M b) (by simp only [List.length_append] at hwl; omega) (by unfold FUEL; omega) hL.send (by simp only [List.length_append]; omega) (Nat.le_refl _) hdue
    refine ⟨(b', w', []), ?_, k2, by simp, fun _ => rfl, ?_⟩
    · unfold lp
      have k1' : loop drainS FUEL (snd S M b, ((S : Int), (w : Int)), true, (net ++ sent M b).map (enc S), came w) = some (.brk (dst S M b' w' [])) := k1
      unfold drainS at k1'
      rw [k1']
      rfl
    · simp only
      by_cases hbm : b < M
      · have := k3 hbm; omega
      · omega
  · rintro ⟨b, w, net⟩ _
    simp only
    rw [cle, decide_eq_false (show ¬ (((M + 1 : Nat) : Int) ≤ (M : Int)) by omega)]
    rfl
  rintro ⟨b, w, net⟩ ⟨hL, _, hemp, hmin⟩
  simp only at hL hemp hmin ⊢
  have h1 := hL.bw; have h2 := hL.wM
  have hb : b = M := by omega
  have hw : w = M := by omega
  subst hb; subst hw
  have hq : (snd S w w).2.2 = [] := by unfold snd; simp [qsi_len]
  have hb2 : (snd S w w).2.1 = (w : Int) := rfl
  rw [came_loop w (by omega) false _ rfl]
  simp only [Bool.not_true, cond_false, came_len, hq, hb2, cn, List.length_nil, ne_eq, not_true, decide_false]
  rw [show cm .gtr (((0 : Nat) : Int)) (0 : Int) = false from rfl, cond_false, Option.bind_some, cond_false]
end Go.Pl
