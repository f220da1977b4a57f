/- The plain law: the model of the law answers true. Conditions: none. -/
import Derived.Test.YteckohdbfkhmdabMoTopFrame
namespace Go.Pl
open Go Go.Sw

/-- going over a list, with what is carried, till something is done -/
def foldS {A B D : Type} (g : Nat → A → B → Step B D) (fin : B → D) : Nat → B → List A → D
  | _, acc, [] => fin acc
  | i, acc, x :: xs => match g i x acc with
    | .next acc' => foldS g fin (i + 1) acc' xs
    | .done d => d

def stp {α B D : Type} (st : Nat → B → α) (i : Nat) : Step B D → Step α D
  | .next a => .next (st i a)
  | .done d => .done d
def out {β γ : Type} (k : β → Option γ) : Ex β γ → Option γ
  | .brk y => k y
  | .ret z => some z

theorem loop_list {α A B D : Type} {step : α → Option (Step α D)} {l : List A} (st : Nat → B → α) (g : Nat → A → B → Step B D) (fin : B → D)
    (hs : ∀ pre x rest acc, l = pre ++ x :: rest → step (st pre.length acc) = some (stp st (pre.length + 1) (g pre.length x acc)))
    (he : ∀ acc, step (st l.length acc) = some (.done (fin acc))) :
    ∀ (rest pre : List A) (acc : B) (f : Nat), l = pre ++ rest → rest.length < f → loop step f (st pre.length acc) = some (foldS g fin pre.length acc rest)
  | [], pre, acc, f, hl, hf => by
    obtain ⟨f, rfl⟩ : ∃ f', f = f' + 1 := ⟨f - 1, by simp at hf; omega⟩
    have := he acc
    rw [hl, List.append_nil] at this
    simp [loop, this, foldS]
  | x :: rest, pre, acc, f, hl, hf => by
    obtain ⟨f, rfl⟩ : ∃ f', f = f' + 1 := ⟨f - 1, by simp at hf; omega⟩
    have h1 := hs pre x rest acc hl
    simp only [loop, h1, foldS]
    cases hg : g pre.length x acc with
    | done d => rfl
    | next acc' =>
      have ih := loop_list st g fin hs he rest (pre ++ [x]) acc' f (by rw [hl]; simp) (by simp at hf; omega)
      simpa [stp] using ih

theorem lp_list {α A B β γ : Type} {step : α → Option (Step α (Ex β γ))} {l : List A} {k : β → Option γ} (st : Nat → B → α) (acc0 : B) (g : Nat → A → B → Step B (Ex β γ)) (fin : B → Ex β γ) (hf : l.length < FUEL)
    (hs : ∀ pre x rest acc, l = pre ++ x :: rest → step (st pre.length acc) = some (stp st (pre.length + 1) (g pre.length x acc)))
    (he : ∀ acc, step (st l.length acc) = some (.done (fin acc))) :
    lp step (st 0 acc0) k = out k (foldS g fin 0 acc0 l) := by
  have h := loop_list st g fin hs he l [] acc0 FUEL rfl hf
  unfold lp
  simp only [List.length_nil] at h
  rw [h]
  cases foldS g fin 0 acc0 l <;> rfl

theorem idx_app {α : Type} (pre : List α) (x : α) (rest : List α) : Sw.idx (pre ++ x :: rest) (pre.length : Int) = some x := by
  unfold Sw.idx; simp
theorem inc {n m : Nat} (h : n < m) (hm : m ≤ 4611686018427387904) : ar .add .i64 (n : Int) 1 = ((n + 1 : Nat) : Int) := by
  unfold ar; simp only [IntKind.wrap, IntKind.signed, IntKind.bits]; simp; omega
theorem lss_app {α : Type} (pre : List α) (x : α) (rest : List α) : cm .lss (pre.length : Int) ((pre ++ x :: rest).length : Int) = true := by
  unfold cm; simp; omega
theorem lss_self {n : Nat} : cm .lss (n : Int) (n : Int) = false := by unfold cm; simp
end Go.Pl

namespace Go.Pl
open Go Go.Sw

theorem lp_count {α β γ : Type} {step : α → Option (Step α (Ex β γ))} {k : β → Option γ} (st : Nat → α) (n : Nat) (y : β) (hf : n < FUEL) (hs : ∀ i, i < n → step (st i) = some (.next (st (i + 1)))) (he : step (st n) = some (.done (.brk y))) : lp step (st 0) k = k y := by
  have h : ∀ m i, i + m = n → ∀ f, m < f → loop step f (st i) = some (.brk y) := by
    intro m
    induction m with
    | zero =>
      intro i hi f hf
      obtain ⟨f, rfl⟩ : ∃ f', f = f' + 1 := ⟨f - 1, by omega⟩
      simp only [Nat.add_zero] at hi
      subst hi
      simp [loop, he]
    | succ m ih =>
      intro i hi f hf
      obtain ⟨f, rfl⟩ : ∃ f', f = f' + 1 := ⟨f - 1, by omega⟩
      simp only [loop, hs i (by omega)]
      exact ih (i + 1) (by omega) f (by omega)
  unfold lp
  rw [h n 0 (by omega) FUEL hf]

theorem wrap_i64 {n : Int} (h : -9223372036854775808 ≤ n ∧ n ≤ 9223372036854775807) : IntKind.wrap .i64 n = n := wrap_id (k := .i64) (by unfold inK; simp [IntKind.min, IntKind.max, IntKind.signed, IntKind.bits]; omega)
theorem wrap_u8 {n : Int} (h : 0 ≤ n ∧ n ≤ 255) : IntKind.wrap .u8 n = n := wrap_id (k := .u8) (by unfold inK; simp [IntKind.min, IntKind.max, IntKind.signed, IntKind.bits]; omega)
theorem wrap_u32 {n : Int} (h : 0 ≤ n ∧ n ≤ 4294967295) : IntKind.wrap .u32 n = n := wrap_id (k := .u32) (by unfold inK; simp [IntKind.min, IntKind.max, IntKind.signed, IntKind.bits]; omega)
theorem ofInt_nat (w n : Nat) : BitVec.ofInt w (n : Int) = BitVec.ofNat w n := by
  apply BitVec.eq_of_toNat_eq
  simp
theorem xor32 {a b : Nat} (ha : a < 4294967296) (hb : b < 4294967296) : ar .xor .u32 (a : Int) (b : Int) = ((a ^^^ b : Nat) : Int) := by
  have h : a ^^^ b < 2 ^ 32 := Nat.xor_lt_two_pow (by simpa using ha) (by simpa using hb)
  show IntKind.wrap .u32 ((BitVec.ofInt 32 (a : Int) ^^^ BitVec.ofInt 32 (b : Int)).toNat : Int) = _
  simp only [ofInt_nat, BitVec.toNat_xor, BitVec.toNat_ofNat]
  rw [Nat.mod_eq_of_lt (by simpa using ha), Nat.mod_eq_of_lt (by simpa using hb)]
  exact wrap_u32 (by simp at h; omega)
theorem and32 {a : Nat} (ha : a < 4294967296) : ar .and .u32 (a : Int) 1 = ((a % 2 : Nat) : Int) := by
  show IntKind.wrap .u32 ((BitVec.ofInt 32 (a : Int) &&& BitVec.ofInt 32 ((1 : Nat) : Int)).toNat : Int) = _
  simp only [ofInt_nat, BitVec.toNat_and, BitVec.toNat_ofNat]
  rw [Nat.mod_eq_of_lt (a := a) (by simpa using ha), Nat.mod_eq_of_lt (a := 1) (by decide), Nat.and_one_is_mod]
  exact wrap_u32 (by omega)
theorem mul32 {a : Nat} (ha : a < 2) : ar .mul .u32 3988292384 (a : Int) = ((if a = 1 then 3988292384 else 0 : Nat) : Int) := by
  have : a = 0 ∨ a = 1 := by omega
  rcases this with rfl | rfl
  · rfl
  · decide
theorem shr1 {a : Nat} : sh .shr .u32 (a : Int) 1 = ((a / 2 : Nat) : Int) := by
  show Int.fdiv _ _ = _
  have : (2 : Int) ^ min (1 : Int).toNat (IntKind.bits .u32) = 2 := by decide
  rw [this, Int.fdiv_eq_ediv_of_nonneg _ (by omega)]
  omega
theorem not32 {a : Nat} (ha : a < 4294967296) : bnot .u32 (a : Int) = ((4294967295 - a : Nat) : Int) := by
  unfold bnot
  show IntKind.wrap .u32 ((BitVec.allOnes 32 ^^^ BitVec.ofInt 32 (a : Int)).toNat : Int) = _
  simp only [ofInt_nat, BitVec.allOnes_xor, BitVec.toNat_not, BitVec.toNat_ofNat]
  rw [Nat.mod_eq_of_lt (by simpa using ha)]
  exact wrap_u32 (by omega)
theorem tdiv_nat (a b : Nat) : Int.tdiv (a : Int) (b : Int) = ((a / b : Nat) : Int) := rfl
theorem tmod_nat (a b : Nat) : Int.tmod (a : Int) (b : Int) = ((a % b : Nat) : Int) := rfl
theorem quo64 {a b : Nat} (ha : a ≤ 9223372036854775807) : ar .quo .i64 (a : Int) (b : Int) = ((a / b : Nat) : Int) := by
  show IntKind.wrap .i64 _ = _
  rw [tdiv_nat]
  have := Nat.div_le_self a b
  generalize a / b = q at *
  exact wrap_i64 (by omega)
theorem rem64 {a b : Nat} : ar .rem .i64 (a : Int) (b : Int) = ((a % b : Nat) : Int) := rfl
theorem add64 {a b : Nat} (h : a + b ≤ 9223372036854775807) : ar .add .i64 (a : Int) (b : Int) = ((a + b : Nat) : Int) := by
  show IntKind.wrap .i64 _ = _
  rw [← Int.natCast_add]; exact wrap_i64 (by omega)
theorem mul64 {a b : Nat} (h : a * b ≤ 9223372036854775807) : ar .mul .i64 (a : Int) (b : Int) = ((a * b : Nat) : Int) := by
  show IntKind.wrap .i64 _ = _
  rw [← Int.natCast_mul]; exact wrap_i64 (by omega)
theorem nz_ok {n : Int} (h : n ≠ 0) : nz n = some () := by unfold nz; rw [if_neg h]
theorem cm_lss {a b : Nat} : cm .lss (a : Int) (b : Int) = decide (a < b) := by unfold cm; simp
theorem bit_xor (a b i : Nat) : (a ^^^ b) / 2 ^ i % 2 = (a / 2 ^ i + b / 2 ^ i) % 2 := by
  have h := Nat.testBit_xor a b i
  simp only [Nat.testBit_eq_decide_div_mod_eq] at h
  have ha := Nat.mod_two_eq_zero_or_one (a / 2 ^ i)
  have hb := Nat.mod_two_eq_zero_or_one (b / 2 ^ i)
  have hc := Nat.mod_two_eq_zero_or_one ((a ^^^ b) / 2 ^ i)
  rw [Nat.add_mod]
  rcases ha with ha | ha <;> rcases hb with hb | hb <;> rcases hc with hc | hc <;> simp [ha, hb, hc] at h ⊢
theorem xor_half (a b : Nat) : (a ^^^ b) / 2 = a / 2 ^^^ b / 2 := by
  have := Nat.shiftRight_xor_distrib (i := 1) (a := a) (b := b)
  simpa [Nat.shiftRight_eq_div_pow] using this
end Go.Pl

namespace Go.Pl
open Go Go.Sw
/-- it lies somewhere so -/
def Wf {α : Type} (e : Enc α) (x : α) : Prop := ∃ S w cs, e.ok x S w cs
theorem Wf.int {k : IntKind} {n : Int} (h : Wf (Enc.int k) n) : inK k n := by obtain ⟨_, _, _, h⟩ := h; exact h.2
theorem okL_all {α : Type} {e : Enc α} {S w} : ∀ {xs : List α} {cs}, e.okL xs S w cs → ∀ x ∈ xs, Wf e x
  | [], _, _, x, hx => by simp at hx
  | y :: ys, _, ⟨c, d, _, h2, h3⟩, x, hx => by
    rcases List.mem_cons.1 hx with rfl | hx
    · exact ⟨_, _, _, h2⟩
    · exact okL_all h3 x hx
theorem Wf.arr {α : Type} {m : Nat} {e : Enc α} {xs : List α} (h : Wf (Enc.arr m e) xs) : xs.length = m ∧ ∀ x ∈ xs, Wf e x := by
  obtain ⟨_, _, _, h1, h2⟩ := h; exact ⟨h1, okL_all h2⟩
theorem Wf.sl {α : Type} {e : Enc α} {xs : List α} (h : Wf (Enc.sl e) xs) : xs.length ≤ 9223372036854775807 ∧ ∀ x ∈ xs, Wf e x := by
  obtain ⟨_, _, _, a, cap, _, h2, h3⟩ := h
  refine ⟨h2.2, ?_⟩
  rcases h3 with rfl | ⟨b, off, ds, _, _, _, _, h4⟩
  · intro x hx; simp at hx
  · exact okL_all h4
theorem Wf.pr {α β : Type} {a : Enc α} {b : Enc β} {x : α × β} (h : Wf (Enc.pr a b) x) : Wf a x.1 ∧ Wf b x.2 := by
  obtain ⟨_, _, _, c, d, _, h1, h2⟩ := h; exact ⟨⟨_, _, _, h1⟩, ⟨_, _, _, h2⟩⟩
theorem Wf.one1 {α : Type} {a : Enc α} {x : α} (h : Wf (Enc.one1 a) x) : Wf a x := h
theorem Wf.of_val {α : Type} {e : Enc α} {x : α} {S w v} (h : e.val x S w v) : Wf e x := by obtain ⟨cs, h, _⟩ := h; exact ⟨_, _, _, h⟩
end Go.Pl

namespace Go.Pl
open Go Go.Sw Go.Mo
def poly : Nat := 3988292384
/-- one step of the sum -/
def crc1 (r : Nat) : Nat := if r % 2 = 1 then r / 2 ^^^ poly else r / 2
theorem crc1_lt {r : Nat} (h : r < 4294967296) : crc1 r < 4294967296 := by
  unfold crc1
  split
  · have : r / 2 ^^^ poly < 2 ^ 32 := Nat.xor_lt_two_pow (by omega) (by unfold poly; omega)
    simpa using this
  · omega
def crcN : Nat → Nat → Nat
  | 0, r => r
  | n + 1, r => crc1 (crcN n r)
theorem crcN_lt {n r : Nat} (h : r < 4294967296) : crcN n r < 4294967296 := by
  induction n with
  | zero => exact h
  | succ n ih => exact crc1_lt ih
def crcB (r : Nat) (b : Nat) : Nat := crcN 8 (r ^^^ b)
theorem crcB_lt {r b : Nat} (h : r < 4294967296) (hb : b < 256) : crcB r b < 4294967296 := by
  refine crcN_lt ?_
  have : r ^^^ b < 2 ^ 32 := Nat.xor_lt_two_pow (by omega) (by omega)
  simpa using this
def crcL (l : List Nat) : Nat := l.foldl crcB 4294967295
theorem foldl_lt (l : List Nat) (r : Nat) (h : r < 4294967296) (hb : ∀ b ∈ l, b < 256) : l.foldl crcB r < 4294967296 := by
  induction l generalizing r with
  | nil => exact h
  | cons b l ih => exact ih _ (crcB_lt h (hb b (by simp))) (fun x hx => hb x (by simp [hx]))

/-- bytes -/
def Bytes (l : List Int) : Prop := ∀ x ∈ l, 0 ≤ x ∧ x ≤ 255
def nat (l : List Int) : List Nat := l.map Int.toNat
theorem nat_byte {l : List Int} (h : Bytes l) : ∀ b ∈ nat l, b < 256 := by
  intro b hb
  obtain ⟨x, hx, rfl⟩ := List.mem_map.1 hb
  have := h x hx; omega

theorem foldS_fold {D : Type} (l : List Int) (h : Bytes l) (mk : Nat → Ex Int D) : ∀ (i r : Nat), foldS (fun (_ : Nat) (x : Int) (acc : Nat) => (Step.next (crcB acc x.toNat) : Step Nat (Ex Int D))) mk i r l = mk ((nat l).foldl crcB r) := by
  induction l with
  | nil => intro i r; rfl
  | cons x l ih => intro i r; simp only [foldS, nat, List.map_cons, List.foldl_cons]; exact ih (fun y hy => h y (by simp [hy])) _ _

theorem sum_is (l : List Int) (h : Bytes l) (hl : l.length ≤ 1000000) : m_frame_Sum l = some ((4294967295 - crcL (nat l) : Nat) : Int) := by
  unfold m_frame_Sum
  rw [show ((4294967295 : Int), (0 : Int)) = (((⟨4294967295, by decide⟩ : {r : Nat // r < 4294967296}).1 : Int), ((0 : Nat) : Int)) from rfl]
  rw [lp_list (l := l) (fun i (r : {r : Nat // r < 4294967296}) => ((r.1 : Int), (i : Int))) ⟨4294967295, by decide⟩ (fun _ x r => .next ⟨crcB r.1 x.toNat % 4294967296, Nat.mod_lt _ (by decide)⟩) (fun r => .brk (r.1 : Int)) (by unfold FUEL; omega)]
  · have : ∀ (l : List Int) (i : Nat) (r : {r : Nat // r < 4294967296}), Bytes l → foldS (fun (_ : Nat) (x : Int) (r : {r : Nat // r < 4294967296}) => (Step.next ⟨crcB r.1 x.toNat % 4294967296, Nat.mod_lt _ (by decide)⟩ : Step _ (Ex Int Int))) (fun r => .brk (r.1 : Int)) i r l = .brk (((nat l).foldl crcB r.1 : Nat) : Int) := by
      intro l
      induction l with
      | nil => intro i r _; rfl
      | cons x l ih =>
        intro i r hb
        simp only [foldS, nat, List.map_cons, List.foldl_cons]
        have h1 := ih (i + 1) ⟨crcB r.1 x.toNat % 4294967296, Nat.mod_lt _ (by decide)⟩ (fun y hy => hb y (by simp [hy]))
        rw [h1]
        have := hb x (by simp)
        have e : crcB r.1 x.toNat % 4294967296 = crcB r.1 x.toNat := Nat.mod_eq_of_lt (crcB_lt r.2 (by omega))
        show Ex.brk (((nat l).foldl crcB (crcB r.1 x.toNat % 4294967296) : Nat) : Int) = _
        rw [e]; rfl
    rw [this l 0 _ h]
    have hlt : (nat l).foldl crcB 4294967295 < 4294967296 := foldl_lt _ _ (by decide) (nat_byte h)
    simp only [out, crcL]
    rw [not32 hlt]
  · rintro pre x rest ⟨r, hr⟩ rfl
    have hx := h x (by simp)
    obtain ⟨b, rfl⟩ : ∃ b : Nat, x = (b : Int) := ⟨x.toNat, by omega⟩
    have hb : b < 256 := by omega
    simp only [lss_app, cond_true, idx_app, Option.bind_some]
    have hx0 : r ^^^ b < 4294967296 := by
      have : r ^^^ b < 2 ^ 32 := Nat.xor_lt_two_pow (by omega) (by omega)
      simpa using this
    rw [xor32 hr (by omega), show ((((r ^^^ b : Nat) : Int)), (0 : Int)) = (fun i : Nat => ((crcN i (r ^^^ b) : Int), (i : Int))) 0 from rfl]
    rw [lp_count (fun i : Nat => ((crcN i (r ^^^ b) : Int), (i : Int))) 8 ((crcN 8 (r ^^^ b) : Nat) : Int) (by unfold FUEL; omega)]
    · simp only [stp, inc (n := pre.length) (m := 1000000) (by simp at hl; omega) (by omega), Int.toNat_natCast]
      rw [Nat.mod_eq_of_lt (crcB_lt hr hb)]; rfl
    · intro i hi
      have hlt := crcN_lt (n := i) hx0
      have h8 : cm .lss (i : Int) 8 = true := by simp [cm]; omega
      have hp : (crcN i (r ^^^ b)) / 2 < 4294967296 := by omega
      simp only [h8, cond_true, shr1, and32 hlt, mul32 (Nat.mod_lt _ (by decide : 0 < 2))]
      rw [xor32 hp (by split <;> decide), inc (n := i) (m := 8) hi (by omega)]
      simp only [crcN, crc1, poly]
      split
      · rename_i h1; simp [h1]
      · rename_i h1; simp [h1]
    · simp [cm]
  · rintro ⟨r, hr⟩
    simp [lss_self]

/-! ### the same, bit by bit -/
theorem xor_lt32 {a b : Nat} (ha : a < 4294967296) (hb : b < 4294967296) : a ^^^ b < 4294967296 := by
  have : a ^^^ b < 2 ^ 32 := Nat.xor_lt_two_pow (by omega) (by omega)
  simpa using this
theorem xor_mod2 (a b : Nat) : (a ^^^ b) % 2 = (a + b) % 2 := by
  have := bit_xor a b 0
  simpa using this
abbrev Frame := Int × List Int × List Blk
def bad (x : Int) : Bool := decide (x < 0) || decide (x > 2147483647)
/-- what is wrong with a frame -/
def frameErr (f : Frame) : Int := if f.1 < 0 ∨ f.1 > 15 then 1 else if f.2.1.length > 12 ∨ f.2.2.length > 32 then 2 else if f.2.1.any bad then 1 else 0

theorem any_fold {D : Type} (r : Nat → D) (l : List Int) : ∀ i, foldS (fun (i : Nat) (x : Int) (_ : Unit) => (if bad x then Step.done (Ex.ret (r i)) else .next () : Step Unit (Ex Unit D))) (fun _ => .brk ()) i () l = match l.findIdx? bad with | some j => .ret (r (i + j)) | none => .brk () := by
  induction l with
  | nil => intro i; simp [foldS]
  | cons x l ih =>
    intro i
    simp only [foldS, List.findIdx?_cons]
    by_cases hx : bad x = true
    · simp [hx]
    · simp only [hx, if_false, ih, Bool.false_eq_true]
      cases l.findIdx? bad with
      | none => rfl
      | some j => simp [Nat.add_assoc, Nat.add_comm 1]
theorem any_find (l : List Int) : l.any bad = (l.findIdx? bad).isSome := by
  rw [List.findIdx?_isSome]

theorem check1_is (x : Int) : m_frame_Check_1 x = some (bad x) := by
  unfold m_frame_Check_1 bad
  by_cases hx : x < 0
  · have : cm .lss x 0 = true := by simp [cm, hx]
    simp [this, hx]
  · have : cm .lss x 0 = false := by simp [cm]; omega
    simp [this, hx, cm]
theorem contains_is (l : List Int) (h : l.length ≤ 1000000) : m_slices_ContainsFunc_int_int__frame_Check_1 l = some (l.any bad) := by
  unfold m_slices_ContainsFunc_int_int__frame_Check_1 m_slices_IndexFunc_int_int__frame_Check_1
  rw [show (0 : Int) = ((0 : Nat) : Int) from rfl, lp_list (l := l) (fun i (_ : Unit) => (i : Int)) () (fun i x _ => if bad x then .done (.ret (i : Int)) else .next ()) (fun _ => .brk ()) (by unfold FUEL; omega)]
  · rw [any_fold (fun i => (i : Int)), any_find]
    cases l.findIdx? bad <;> simp [out, cm]
  · rintro pre x rest acc rfl
    simp only [lss_app, cond_true, idx_app, Option.bind_some, check1_is, inc (n := pre.length) (m := 1000000) (by simp at h; omega) (by omega)]
    cases bad x <;> simp [stp]
  · intro _; simp [lss_self]
theorem frameCheck_is (f : Frame) : m_frame_Check f = some (if frameErr f = 0 then none else some (frameErr f)) := by
  obtain ⟨s, ns, bs⟩ := f
  unfold m_frame_Check frameErr
  by_cases h1 : s < 0
  · have : cm .lss s 0 = true := by simp [cm, h1]
    simp [this, h1]
  have e1 : cm .lss s 0 = false := by simp [cm]; omega
  by_cases h2 : s > 15
  · have : cm .gtr s 15 = true := by simp [cm]; omega
    simp [e1, this, h2]
  have e2 : cm .gtr s 15 = false := by simp [cm]; omega
  have h12 : ¬ (s < 0 ∨ s > 15) := by omega
  simp only [e1, e2, cond_false, Option.bind_some, h12, if_false]
  by_cases h3 : ns.length > 12
  · have : cm .gtr (ns.length : Int) 12 = true := by simp [cm]; omega
    simp [this, h3]
  have e3 : cm .gtr (ns.length : Int) 12 = false := by simp [cm]; omega
  by_cases h4 : bs.length > 32
  · have : cm .gtr (bs.length : Int) 32 = true := by simp [cm]; omega
    simp [e3, this, h4]
  have e4 : cm .gtr (bs.length : Int) 32 = false := by simp [cm]; omega
  have h34 : ¬ (ns.length > 12 ∨ bs.length > 32) := by omega
  simp only [e3, e4, cond_false, Option.bind_some, h34, if_false, contains_is ns (by omega)]
  cases ns.any bad <;> simp

/-! ### bytes of numbers -/
def vf : Nat → Nat → List Int
  | 0, n => [(n : Int)]
  | k + 1, n => if n < 128 then [(n : Int)] else ((128 + n % 128 : Nat) : Int) :: vf k (n / 128)
theorem vf_bytes : ∀ k n, n < 128 ^ (k + 1) → Bytes (vf k n) ∧ (vf k n).length ≤ k + 1
  | 0, n, h => by
    simp at h
    exact ⟨fun x hx => by simp [vf] at hx; omega, by simp [vf]⟩
  | k + 1, n, h => by
    unfold vf
    split
    · exact ⟨fun x hx => by simp at hx; omega, by simp⟩
    · have h2 : n / 128 < 128 ^ (k + 1) := by rw [Nat.pow_succ] at h; omega
      obtain ⟨h3, h4⟩ := vf_bytes k (n / 128) h2
      refine ⟨fun x hx => ?_, by simp; omega⟩
      rcases List.mem_cons.1 hx with rfl | hx
      · have := Nat.mod_lt n (by decide : 0 < 128); omega
      · exact h3 x hx
/-- the loop that writes a number -/
theorem vint_loop {γ : Type} {step : Int × List Int → Option (Step (Int × List Int) (Ex (Int × List Int) γ))}
    (h1 : ∀ (n : Nat) acc, 128 ≤ n → n < 34359738368 → acc.length ≤ 1000000 → step ((n : Int), acc) = some (.next (((n / 128 : Nat) : Int), acc ++ [((128 + n % 128 : Nat) : Int)])))
    (h2 : ∀ (n : Nat) acc, n < 128 → step ((n : Int), acc) = some (.done (.brk ((n : Int), acc)))) :
    ∀ (k n : Nat) (acc : List Int) (f : Nat), n < 128 ^ (k + 1) → n < 34359738368 → acc.length + k ≤ 1000000 → k < f → ∃ (m : Nat) (acc' : List Int), loop step f ((n : Int), acc) = some (.brk ((m : Int), acc')) ∧ m < 128 ∧ acc' ++ [(m : Int)] = acc ++ vf k n
  | 0, n, acc, f, hn, _, _, hf => by
    obtain ⟨f, rfl⟩ : ∃ f', f = f' + 1 := ⟨f - 1, by omega⟩
    simp at hn
    exact ⟨n, acc, by simp [loop, h2 n acc hn], hn, rfl⟩
  | k + 1, n, acc, f, hn, hn2, ha, hf => by
    obtain ⟨f, rfl⟩ : ∃ f', f = f' + 1 := ⟨f - 1, by omega⟩
    by_cases hlt : n < 128
    · exact ⟨n, acc, by simp [loop, h2 n acc hlt], hlt, by simp [vf, hlt]⟩
    · obtain ⟨m, acc', h3, h4, h5⟩ := vint_loop h1 h2 k (n / 128) (acc ++ [((128 + n % 128 : Nat) : Int)]) f (by rw [Nat.pow_succ] at hn; omega) (by omega) (by simp; omega) (by omega)
      refine ⟨m, acc', ?_, h4, ?_⟩
      · simp only [loop, h1 n acc (by omega) hn2 (by omega)]; exact h3
      · rw [h5]; simp [vf, hlt]

theorem ar_rem {a : Nat} {b : Nat} : ar .rem .i64 (a : Int) (b : Int) = ((a % b : Nat) : Int) := rfl
theorem or8 : ∀ a : Fin 128, ar .or .u8 ((a.1 + 0 : Nat) : Int) 128 = ((128 + a.1 : Nat) : Int) := by decide +kernel
theorem or8' : ∀ a : Fin 256, ar .or .u8 ((a.1 : Nat) : Int) 128 = ((128 + a.1 % 128 : Nat) : Int) := by decide +kernel
theorem wrap8 (n : Nat) : IntKind.wrap .u8 (n : Int) = ((n % 256 : Nat) : Int) := by
  simp [IntKind.wrap, IntKind.signed, IntKind.bits]
theorem shr7 (n : Nat) : sh .shr .i64 (n : Int) 7 = ((n / 128 : Nat) : Int) := by
  show Int.fdiv _ _ = _
  have : (2 : Int) ^ min (7 : Int).toNat (IntKind.bits .i64) = 128 := by decide
  rw [this, Int.fdiv_eq_ediv_of_nonneg _ (by omega)]
  omega
theorem hdr : ∀ s : Fin 16, ∀ n : Fin 13, ar .or .u8 (sh .shl .u8 (IntKind.wrap .u8 (s.1 : Int)) 4) (IntKind.wrap .u8 (n.1 : Int)) = IntKind.wrap .u8 (ar .add .i64 (ar .mul .i64 16 (s.1 : Int)) (n.1 : Int)) := by decide +kernel

/-- the bytes ahead of the sum -/
def pre1 (f : Frame) : List Int := [IntKind.wrap .u8 (ar .add .i64 (ar .mul .i64 16 f.1) (f.2.1.length : Int)), IntKind.wrap .u8 (f.2.2.length : Int)]
def vs (ns : List Int) : List Int := ns.flatMap fun n => vf 4 n.toNat
def body (f : Frame) : List Int := pre1 f ++ vs f.2.1 ++ f.2.2.flatten
def sum4 (v : Nat) : List Int := [((v / 16777216 : Nat) : Int), ((v / 65536 % 256 : Nat) : Int), ((v / 256 % 256 : Nat) : Int), ((v % 256 : Nat) : Int)]
def packed (f : Frame) : List Int := body f ++ sum4 (4294967295 - crcL (nat (body f)))

/-- going over a list, adding bytes -/
theorem foldS_app {A γ : Type} (w : A → List Int) (l : List A) : ∀ (i : Nat) (acc : List Int), foldS (fun (_ : Nat) (x : A) (acc : List Int) => (Step.next (acc ++ w x) : Step (List Int) (Ex (List Int) γ))) (fun acc => .brk acc) i acc l = .brk (acc ++ l.flatMap w) := by
  induction l with
  | nil => intro i acc; simp [foldS]
  | cons x l ih => intro i acc; simp only [foldS, ih]; simp

/-- as lp_list, with what holds on the way -/
theorem lp_inv {α A B β γ : Type} {step : α → Option (Step α (Ex β γ))} {l : List A} {k : β → Option γ} (st : Nat → B → α) (I : Nat → B → Prop) (acc0 : B) (g : Nat → A → B → B) (fin : B → β) (hf : l.length < FUEL) (h0 : I 0 acc0)
    (hs : ∀ pre x rest acc, l = pre ++ x :: rest → I pre.length acc → step (st pre.length acc) = some (.next (st (pre.length + 1) (g pre.length x acc))) ∧ I (pre.length + 1) (g pre.length x acc))
    (he : ∀ acc, I l.length acc → step (st l.length acc) = some (.done (.brk (fin acc)))) :
    lp step (st 0 acc0) k = k (fin ((l.zipIdx).foldl (fun acc x => g x.2 x.1 acc) acc0)) := by
  have key : ∀ (rest pre : List A) (acc : B) (f : Nat), l = pre ++ rest → I pre.length acc → rest.length < f → loop step f (st pre.length acc) = some (.brk (fin ((rest.zipIdx pre.length).foldl (fun acc x => g x.2 x.1 acc) acc))) := by
    intro rest
    induction rest with
    | nil =>
      intro pre acc f hl hI hf
      obtain ⟨f, rfl⟩ : ∃ f', f = f' + 1 := ⟨f - 1, by simp at hf; omega⟩
      have := he acc (by rw [hl, List.append_nil]; exact hI)
      rw [hl, List.append_nil] at this
      simp [loop, this]
    | cons x rest ih =>
      intro pre acc f hl hI hf
      obtain ⟨f, rfl⟩ : ∃ f', f = f' + 1 := ⟨f - 1, by simp at hf; omega⟩
      obtain ⟨h1, h2⟩ := hs pre x rest acc hl hI
      simp only [loop, h1]
      have := ih (pre ++ [x]) (g pre.length x acc) f (by rw [hl]; simp) (by simpa using h2) (by simp at hf; omega)
      simpa using this
  have h := key l [] acc0 FUEL rfl h0 hf
  unfold lp
  simp only [List.length_nil] at h
  rw [h]
theorem foldl_zipIdx {A : Type} (w : A → List Int) : ∀ (l : List A) (i : Nat) (acc : List Int), (l.zipIdx i).foldl (fun acc x => acc ++ w x.1) acc = acc ++ l.flatMap w
  | [], _, acc => by simp
  | x :: l, i, acc => by simp [foldl_zipIdx w l]
theorem app_small {α : Type} (xs ys : List α) (h : xs.length + ys.length ≤ 4294967296) : Sw.app xs ys = some (xs ++ ys) := by unfold Sw.app; rw [if_pos h]
theorem lp_vint {γ : Type} {step : Int × List Int → Option (Step (Int × List Int) (Ex (Int × List Int) γ))} {k : Int × List Int → Option γ}
    (h1 : ∀ (n : Nat) acc, 128 ≤ n → n < 34359738368 → acc.length ≤ 1000000 → step ((n : Int), acc) = some (.next (((n / 128 : Nat) : Int), acc ++ [((128 + n % 128 : Nat) : Int)])))
    (h2 : ∀ (n : Nat) acc, n < 128 → step ((n : Int), acc) = some (.done (.brk ((n : Int), acc)))) (n : Nat) (acc : List Int) (hn : n < 34359738368) (ha : acc.length ≤ 900000) :
    ∃ (m : Nat) (acc' : List Int), lp step ((n : Int), acc) k = k ((m : Int), acc') ∧ m < 128 ∧ acc' ++ [(m : Int)] = acc ++ vf 4 n := by
  obtain ⟨m, acc', h3, h4, h5⟩ := vint_loop h1 h2 4 n acc FUEL (by omega) hn (by omega) (by unfold FUEL; omega)
  exact ⟨m, acc', by unfold lp; rw [h3], h4, h5⟩

/-- a frame that may be -/
structure Good (f : Frame) : Prop where
  s0 : 0 ≤ f.1
  s1 : f.1 ≤ 15
  ns : f.2.1.length ≤ 12
  bs : f.2.2.length ≤ 32
  num : ∀ n ∈ f.2.1, 0 ≤ n ∧ n ≤ 2147483647
  blk : ∀ b ∈ f.2.2, b.length = 8 ∧ Bytes b
theorem good_of {f : Frame} (h : frameErr f = 0) (hb : ∀ b ∈ f.2.2, b.length = 8 ∧ Bytes b) : Good f := by
  unfold frameErr at h
  split at h
  · cases h
  · split at h
    · cases h
    · split at h
      · cases h
      · rename_i h1 h2 h3
        refine ⟨by omega, by omega, by omega, by omega, fun n hn => ?_, hb⟩
        have : ¬ bad n = true := fun hc => h3 (List.any_eq_true.2 ⟨n, hn, hc⟩)
        simp [bad] at this; omega

theorem vs_bytes {ns : List Int} (h : ∀ n ∈ ns, 0 ≤ n ∧ n ≤ 2147483647) : Bytes (vs ns) ∧ (vs ns).length ≤ 5 * ns.length := by
  induction ns with
  | nil => exact ⟨fun x hx => by simp [vs] at hx, by simp [vs]⟩
  | cons n ns ih =>
    obtain ⟨h1, h2⟩ := ih (fun x hx => h x (by simp [hx]))
    have hn := h n (by simp)
    obtain ⟨h3, h4⟩ := vf_bytes 4 n.toNat (by omega)
    refine ⟨fun x hx => ?_, ?_⟩
    · simp only [vs, List.flatMap_cons, List.mem_append] at hx
      rcases hx with hx | hx
      · exact h3 x hx
      · exact h1 x hx
    · simp only [vs, List.flatMap_cons, List.length_append, List.length_cons]
      unfold vs at h2; omega
theorem flat_bytes {bs : List Blk} (h : ∀ b ∈ bs, b.length = 8 ∧ Bytes b) : Bytes bs.flatten ∧ bs.flatten.length = 8 * bs.length := by
  induction bs with
  | nil => exact ⟨fun x hx => by simp at hx, rfl⟩
  | cons b bs ih =>
    obtain ⟨h1, h2⟩ := ih (fun x hx => h x (by simp [hx]))
    obtain ⟨h3, h4⟩ := h b (by simp)
    refine ⟨fun x hx => ?_, by simp only [List.flatten_cons, List.length_append, h2, h3, List.length_cons]; omega⟩
    simp only [List.flatten_cons, List.mem_append] at hx
    rcases hx with hx | hx
    · exact h4 x hx
    · exact h1 x hx
theorem body_bytes {f : Frame} (h : Good f) : Bytes (body f) ∧ (body f).length ≤ 1000 := by
  obtain ⟨h1, h2⟩ := vs_bytes h.num
  obtain ⟨h3, h4⟩ := flat_bytes h.blk
  have := h.ns
  have := h.bs
  refine ⟨fun x hx => ?_, by simp only [body, pre1, List.length_append, List.length_cons, List.length_nil]; omega⟩
  simp only [body, List.mem_append] at hx
  rcases hx with (hx | hx) | hx
  · simp only [pre1, List.mem_cons, List.not_mem_nil, or_false] at hx
    rcases hx with rfl | rfl
    · have := wrap_in .u8 (ar .add .i64 (ar .mul .i64 16 f.1) (f.2.1.length : Int))
      unfold inK at this; simpa [IntKind.min, IntKind.max, IntKind.signed, IntKind.bits] using this
    · have := wrap_in .u8 (f.2.2.length : Int)
      unfold inK at this; simpa [IntKind.min, IntKind.max, IntKind.signed, IntKind.bits] using this
  · exact h1 x hx
  · exact h3 x hx

theorem pack_is {f : Frame} (h : Good f) (he : frameErr f = 0) : m_frame_Pack f = some (packed f, none) := by
  obtain ⟨s, ns, bs⟩ := f
  have hs0 := h.s0
  have hs1 := h.s1
  have hns := h.ns
  have hbs := h.bs
  have hnum := h.num
  have hblk := h.blk
  simp only at hns hbs hnum hblk hs0 hs1
  obtain ⟨hvb, hvl⟩ := vs_bytes hnum
  obtain ⟨hfb, hfl⟩ := flat_bytes hblk
  obtain ⟨hbb, hbl⟩ := body_bytes h
  unfold m_frame_Pack
  rw [frameCheck_is, if_pos he]
  simp only [Option.bind_some, Option.isSome_none, cond_false]
  have hh : ar .or .u8 (sh .shl .u8 (IntKind.wrap .u8 s) 4) (IntKind.wrap .u8 (ns.length : Int)) = IntKind.wrap .u8 (ar .add .i64 (ar .mul .i64 16 s) (ns.length : Int)) := by
    have := hdr ⟨s.toNat, by omega⟩ ⟨ns.length, by omega⟩
    have e : ((s.toNat : Nat) : Int) = s := by omega
    simpa [e] using this
  rw [hh, show ((0 : Int), [IntKind.wrap .u8 (ar .add .i64 (ar .mul .i64 16 s) (ns.length : Int)), IntKind.wrap .u8 (bs.length : Int)]) = (((0 : Nat) : Int), pre1 (s, ns, bs)) from rfl]
  rw [lp_inv (l := ns) (fun i (acc : List Int) => ((i : Int), acc)) (fun i acc => acc.length ≤ 2 + 5 * i) (pre1 (s, ns, bs)) (fun _ n acc => acc ++ vf 4 n.toNat) (fun acc => acc) (by unfold FUEL; omega) (by simp [pre1])]
  · rw [foldl_zipIdx (fun n : Int => vf 4 n.toNat)]
    rw [show ((0 : Int), pre1 (s, ns, bs) ++ ns.flatMap (fun n => vf 4 n.toNat)) = (((0 : Nat) : Int), pre1 (s, ns, bs) ++ vs ns) from rfl]
    rw [lp_inv (l := bs) (fun i (acc : List Int) => ((i : Int), acc)) (fun i acc => acc.length ≤ 100 + 8 * i) (pre1 (s, ns, bs) ++ vs ns) (fun _ z acc => acc ++ z) (fun acc => acc) (by unfold FUEL; omega) (by simp [pre1]; omega)]
    · rw [foldl_zipIdx (fun z : Blk => z)]
      have hb0 : pre1 (s, ns, bs) ++ vs ns ++ bs.flatMap (fun z => z) = body (s, ns, bs) := by simp [body, List.flatMap_id']
      rw [hb0, sum_is _ hbb (by omega)]
      simp only [Option.bind_some]
      have hlt : crcL (nat (body (s, ns, bs))) < 4294967296 := foldl_lt _ _ (by decide) (nat_byte hbb)
      generalize hv : 4294967295 - crcL (nat (body (s, ns, bs))) = v
      have hv2 : v < 4294967296 := by omega
      have sh24 : sh .shr .u32 (v : Int) 24 = ((v / 16777216 : Nat) : Int) := by
        show Int.fdiv _ _ = _
        have : (2 : Int) ^ min (24 : Int).toNat (IntKind.bits .u32) = 16777216 := by decide
        rw [this, Int.fdiv_eq_ediv_of_nonneg _ (by omega)]; omega
      have sh16 : sh .shr .u32 (v : Int) 16 = ((v / 65536 : Nat) : Int) := by
        show Int.fdiv _ _ = _
        have : (2 : Int) ^ min (16 : Int).toNat (IntKind.bits .u32) = 65536 := by decide
        rw [this, Int.fdiv_eq_ediv_of_nonneg _ (by omega)]; omega
      have sh8 : sh .shr .u32 (v : Int) 8 = ((v / 256 : Nat) : Int) := by
        show Int.fdiv _ _ = _
        have : (2 : Int) ^ min (8 : Int).toNat (IntKind.bits .u32) = 256 := by decide
        rw [this, Int.fdiv_eq_ediv_of_nonneg _ (by omega)]; omega
      rw [sh24, sh16, sh8, wrap8, wrap8, wrap8, wrap8]
      rw [app_small _ _ (by simp; omega)]
      simp only [Option.bind_some, packed, hv, sum4]
      have e1 : v / 16777216 % 256 = v / 16777216 := Nat.mod_eq_of_lt (by omega)
      simp [e1]
    · rintro pre z rest acc rfl hI
      obtain ⟨hz, _⟩ := hblk z (by simp)
      simp only [lss_app, cond_true, idx_app, Option.bind_some]
      have hpl : pre.length ≤ 32 := by simp at hbs; omega
      rw [app_small _ _ (by omega), inc (n := pre.length) (m := 1000000) (by simp at hbs; omega) (by omega)]
      exact ⟨rfl, by simp; omega⟩
    · intro acc _; simp [lss_self]
  · rintro pre n rest acc rfl hI
    have hn := hnum n (by simp)
    obtain ⟨m, rfl⟩ : ∃ m : Nat, n = (m : Int) := ⟨n.toNat, by omega⟩
    simp only [lss_app, cond_true, idx_app, Option.bind_some]
    have hal : acc.length ≤ 900000 := by simp at hns; omega
    obtain ⟨q, acc', h3, h4, h5⟩ := lp_vint (γ := Step (Int × List Int) (Ex (List Int) (List Int × Option Int))) (step := fun (s64 : Int × (List Int)) =>
              bif (cm .gtr s64.1 (127 : Int)) then
                (Sw.app s64.2 ([(ar .or .u8 (IntKind.wrap .u8 s64.1) (128 : Int))] : (List Int))).bind fun v70 =>
                  some (.next ((sh .shr .i64 s64.1 (7 : Int)), v70))
              else
                some (.done (.brk (s64.1, s64.2))))
      (k := fun (x68 : Int × (List Int)) => (Sw.app x68.2 ([(IntKind.wrap .u8 x68.1)] : (List Int))).bind fun v71 => some (.next ((ar .add .i64 (pre.length : Int) (1 : Int)), v71)))
      (by
        intro n acc h1 h2 h3
        have : cm .gtr (n : Int) 127 = true := by simp [cm]; omega
        simp only [this, cond_true]
        rw [wrap8, or8' ⟨n % 256, Nat.mod_lt _ (by decide)⟩, app_small _ _ (by simp; omega), shr7]
        simp only [Option.bind_some]
        rw [Nat.mod_mod_of_dvd _ (by decide : 128 ∣ 256)])
      (by
        intro n acc h1
        have : cm .gtr (n : Int) 127 = false := by simp [cm]; omega
        simp [this]) m acc (by omega) hal
    have hvl4 := (vf_bytes 4 m (by omega)).2
    have hlen : acc'.length + 1 = acc.length + (vf 4 m).length := by
      have := congrArg List.length h5; simpa using this
    rw [h3]
    simp only [wrap8]
    rw [app_small _ _ (by simp at hns; simp; omega), Nat.mod_eq_of_lt (by omega : q < 256), h5, inc (n := pre.length) (m := 1000000) (by simp at hns; omega) (by omega)]
    refine ⟨by simp, by simp; omega⟩
  · intro acc _; simp [lss_self]

theorem packed_len {f : Frame} (h : Good f) : (packed f).length ≤ 1000000 := by
  have := (body_bytes h).2
  simp [packed, sum4]; omega

theorem cl (m n : Int) : cm .lss m n = decide (m < n) := rfl
theorem cg (m n : Int) : cm .gtr m n = decide (m > n) := rfl
theorem cle (m n : Int) : cm .leq m n = decide (m ≤ n) := rfl
theorem cge (m n : Int) : cm .geq m n = decide (m ≥ n) := rfl
theorem ce (m n : Int) : cm .eql m n = decide (m = n) := by show (m == n) = _; by_cases h : m = n <;> simp [h]
theorem cn (m n : Int) : cm .neq m n = decide (m ≠ n) := by show (m != n) = _; by_cases h : m = n <;> simp [h]
theorem addI {m n : Int} (h : -9223372036854775808 ≤ m + n ∧ m + n ≤ 9223372036854775807) : ar .add .i64 m n = m + n := wrap_i64 h
theorem subI {m n : Int} (h : -9223372036854775808 ≤ m - n ∧ m - n ≤ 9223372036854775807) : ar .sub .i64 m n = m - n := wrap_i64 h
theorem nxt {n : Nat} (h : n ≤ 4611686018427387904) : ar .add .i64 (n : Int) 1 = ((n + 1 : Nat) : Int) := by rw [addI (by omega)]; push_cast; rfl
theorem Bytes.tail {x : Int} {l : List Int} (h : Bytes (x :: l)) : Bytes l := fun y hy => h y (by simp [hy])
theorem Bytes.head {x : Int} {l : List Int} (h : Bytes (x :: l)) : 0 ≤ x ∧ x ≤ 255 := h x (by simp)
def byteV : List Int → Int × Bool × List Int
  | [] => (0, false, [])
  | b :: r => (b, true, r)
theorem byte_is (l : List Int) (hl : l.length ≤ 1000000) : m_frame_taker_byte_io l = some (byteV l) := by
  unfold m_frame_taker_byte_io
  cases l with
  | nil => rfl
  | cons b r =>
    have : ¬ ((b :: r).length : Int) = 0 := by simp; omega
    rw [ce]
    simp only [this, decide_false, cond_false]
    have h1 : Sw.idx (b :: r) 0 = some b := rfl
    have h2 : Sw.sub (b :: r) 1 ((b :: r).length : Int) = some r := by
      unfold Sw.sub
      rw [if_pos (by simp; omega)]
      simp
    rw [h1, h2]; rfl
def numP : Nat → Nat → Nat → List Int → Int × Bool × List Int
  | 0, _, _, l => (0, false, l)
  | _ + 1, _, _, [] => (0, false, [])
  | k + 1, i, v, b :: l => if b < 128 then (((v + b.toNat % 128 * 128 ^ i : Nat) : Int), decide (v + b.toNat % 128 * 128 ^ i ≤ 2147483647) && (decide (0 < b) || decide (i = 0)), l) else numP k (i + 1) (v + b.toNat % 128 * 128 ^ i) l
theorem and7 : ∀ a : Fin 256, ar .and .u8 ((a.1 : Nat) : Int) 127 = ((a.1 % 128 : Nat) : Int) := by decide +kernel
theorem and7' {b : Int} (h : 0 ≤ b ∧ b ≤ 255) : ar .and .u8 b 127 = ((b.toNat % 128 : Nat) : Int) := by
  have := and7 ⟨b.toNat, by omega⟩
  have e : ((b.toNat : Nat) : Int) = b := by omega
  simpa [e] using this
theorem pow7 (i : Nat) : 128 ^ i = 2 ^ (7 * i) := by rw [Nat.pow_mul]
theorem shl7 {c i : Nat} (hi : i ≤ 4) (hc : c < 128) : sh .shl .i64 (c : Int) ((7 * i : Nat) : Int) = ((c * 128 ^ i : Nat) : Int) := by
  show IntKind.wrap .i64 ((c : Int) * 2 ^ min ((7 * i : Nat) : Int).toNat (IntKind.bits .i64)) = _
  rw [Int.toNat_natCast, show IntKind.bits .i64 = 64 from rfl, Nat.min_eq_left (by omega), pow7]
  have h1 : 2 ^ (7 * i) ≤ 2 ^ 28 := Nat.pow_le_pow_right (by decide) (by omega)
  have h2 : c * 2 ^ (7 * i) ≤ 127 * 2 ^ 28 := Nat.mul_le_mul (by omega) h1
  have e : (c : Int) * 2 ^ (7 * i) = ((c * 2 ^ (7 * i) : Nat) : Int) := by push_cast; rfl
  rw [e, wrap_i64 (by omega)]
theorem or64 {a b : Nat} (ha : a < 4611686018427387904) (hb : b < 4611686018427387904) : ar .or .i64 (a : Int) (b : Int) = ((a ||| b : Nat) : Int) := by
  have h : a ||| b < 2 ^ 62 := Nat.or_lt_two_pow (by simpa using ha) (by simpa using hb)
  show IntKind.wrap .i64 ((BitVec.ofInt 64 (a : Int) ||| BitVec.ofInt 64 (b : Int)).toNat : Int) = _
  simp only [ofInt_nat, BitVec.toNat_or, BitVec.toNat_ofNat]
  rw [Nat.mod_eq_of_lt (a := a) (by omega), Nat.mod_eq_of_lt (a := b) (by omega)]
  exact wrap_i64 (by omega)
theorem orAdd {v c i : Nat} (hi : i ≤ 4) (hc : c < 128) (hv : v < 128 ^ i) : ar .or .i64 (v : Int) ((c * 128 ^ i : Nat) : Int) = ((v + c * 128 ^ i : Nat) : Int) := by
  have h1 : 128 ^ i ≤ 128 ^ 4 := Nat.pow_le_pow_right (by decide) hi
  have h2 : c * 128 ^ i ≤ 127 * 128 ^ 4 := Nat.mul_le_mul (by omega) h1
  rw [or64 (by omega) (by omega)]
  congr 1
  rw [pow7] at *
  have := Nat.shiftLeft_add_eq_or_of_lt hv c
  rw [Nat.shiftLeft_eq] at this
  rw [Nat.or_comm, ← this, Nat.add_comm]
theorem grow {v c i : Nat} (hc : c < 128) (hv : v < 128 ^ i) : v + c * 128 ^ i < 128 ^ (i + 1) := by
  rw [Nat.pow_succ]
  have : c * 128 ^ i ≤ 127 * 128 ^ i := Nat.mul_le_mul_right _ (by omega)
  omega
theorem num_is (l : List Int) (hb : Bytes l) (hl : l.length ≤ 1000000) : m_frame_taker_number_io l = some (numP 5 0 0 l) := by
  unfold m_frame_taker_number_io
  have key : ∀ (k i v : Nat) (l : List Int) (f : Nat), i + k = 5 → v < 128 ^ i → Bytes l → l.length ≤ 1000000 → k < f →
      ∃ e, loop (fun (s22 : Int × Int × (List Int)) =>
    bif (cm .lss s22.2.1 (35 : Int)) then
      (m_frame_taker_byte_io s22.2.2).bind fun v36 =>
        bif (!v36.2.1) then
          some (.done (.ret ((0 : Int), false, v36.2.2)))
        else
          (nn s22.2.1).bind fun _ =>
            bif (cm .lss v36.1 (128 : Int)) then
              (bif (cm .leq (ar .or .i64 s22.1 (sh .shl .i64 (ar .and .u8 v36.1 (127 : Int)) s22.2.1)) (2147483647 : Int)) then
                bif (cm .gtr v36.1 (0 : Int)) then
                  some true
                else
                  some (cm .eql s22.2.1 (0 : Int))
              else
                some false).bind fun x42 =>
                some (.done (.ret ((ar .or .i64 s22.1 (sh .shl .i64 (ar .and .u8 v36.1 (127 : Int)) s22.2.1)), x42, v36.2.2)))
            else
              some (.next ((ar .or .i64 s22.1 (sh .shl .i64 (ar .and .u8 v36.1 (127 : Int)) s22.2.1)), (ar .add .i64 s22.2.1 (7 : Int)), v36.2.2))
    else
      some (.done (.brk s22.2.2))
    ) f ((v : Int), ((7 * i : Nat) : Int), l) = some e ∧ out (fun (x34 : List Int) => some ((0 : Int), false, x34)) e = some (numP k i v l) := by
    intro k
    induction k with
    | zero =>
      intro i v l f hi hv hb hl hf
      obtain ⟨f, rfl⟩ : ∃ f', f = f' + 1 := ⟨f - 1, by omega⟩
      have hi5 : i = 5 := by omega
      subst hi5
      exact ⟨.brk l, rfl, rfl⟩
    | succ k ih =>
      intro i v l f hi hv hb hl hf
      obtain ⟨f, rfl⟩ : ∃ f', f = f' + 1 := ⟨f - 1, by omega⟩
      have h35 : cm .lss ((7 * i : Nat) : Int) 35 = true := by rw [cl]; simp; omega
      have hnn : nn ((7 * i : Nat) : Int) = some () := by unfold nn; rw [if_pos (by omega)]
      simp only [loop, h35, cond_true, byte_is l hl, Option.bind_some]
      cases l with
      | nil => exact ⟨.ret (0, false, []), by simp [byteV], rfl⟩
      | cons b l =>
        have hbb := hb.head
        have hc : b.toNat % 128 < 128 := Nat.mod_lt _ (by decide)
        simp only [byteV, Bool.not_true, cond_false, hnn, Option.bind_some, and7' hbb, shl7 (by omega : i ≤ 4) hc, orAdd (by omega : i ≤ 4) hc hv, cl, cle, cg, ce]
        by_cases h128 : b < 128
        · simp only [h128, decide_true, cond_true]
          refine ⟨.ret (((v + b.toNat % 128 * 128 ^ i : Nat) : Int), decide (v + b.toNat % 128 * 128 ^ i ≤ 2147483647) && (decide (0 < b) || decide (i = 0)), l), ?_, ?_⟩
          · by_cases c1 : v + b.toNat % 128 * 128 ^ i ≤ 2147483647
            · have c1' : ((v + b.toNat % 128 * 128 ^ i : Nat) : Int) ≤ 2147483647 := by omega
              by_cases c2 : b > 0
              · have c2' : 0 < b := c2
                simp only [c1', c1, c2', gt_iff_lt, decide_true, cond_true, Option.bind_some, Bool.true_and, Bool.true_or]
              · have c2' : ¬ 0 < b := c2
                have e7 : (((7 * i : Nat) : Int) = 0) ↔ i = 0 := by omega
                simp only [c1', c1, c2, c2', e7, decide_true, decide_false, cond_true, cond_false, Option.bind_some, Bool.true_and, Bool.false_or]
            · have c1' : ¬ ((v + b.toNat % 128 * 128 ^ i : Nat) : Int) ≤ 2147483647 := by omega
              simp only [c1', c1, decide_false, cond_false, Option.bind_some, Bool.false_and]
          · simp only [out, numP, h128, if_true]
        · simp only [h128, decide_false, cond_false]
          have e7 : ar .add .i64 ((7 * i : Nat) : Int) 7 = ((7 * (i + 1) : Nat) : Int) := by rw [addI (by omega)]; push_cast; omega
          rw [e7]
          obtain ⟨e, h1, h2⟩ := ih (i + 1) (v + b.toNat % 128 * 128 ^ i) l f (by omega) (grow hc hv) hb.tail (by simp at hl; omega) (by omega)
          refine ⟨e, h1, ?_⟩
          rw [h2]
          simp only [numP, h128, if_false]
  obtain ⟨e, h1, h2⟩ := key 5 0 0 l FUEL rfl (by decide) hb hl (by unfold FUEL; omega)
  unfold lp
  have h1' := h1
  simp only [Nat.mul_zero] at h1'
  rw [show ((0 : Int), (0 : Int), l) = (((0 : Nat) : Int), ((0 : Nat) : Int), l) from rfl, h1']
  cases e with
  | brk y => exact h2
  | ret z => exact h2
theorem numP_len : ∀ (k i v : Nat) (l : List Int), (numP k i v l).2.2.length ≤ l.length
  | 0, _, _, l => Nat.le_refl _
  | _ + 1, _, _, [] => Nat.le_refl _
  | k + 1, i, v, b :: l => by
    unfold numP; split
    · simp
    · exact Nat.le_trans (numP_len k _ _ l) (by simp)
theorem numP_ok : ∀ (k i v : Nat) (l r : List Int) (w : Int), i + k = 5 → v < 128 ^ i → Bytes l → numP k i v l = (w, true, r) →
    ∃ q : Nat, w = ((v + q * 128 ^ i : Nat) : Int) ∧ v + q * 128 ^ i ≤ 2147483647 ∧ l = vf (k - 1) q ++ r ∧ (0 < i → 0 < q)
  | 0, _, _, _, _, _, _, _, _, h => by simp [numP] at h
  | _ + 1, _, _, [], _, _, _, _, _, h => by simp [numP] at h
  | k + 1, i, v, b :: l, r, w, hi, hv, hb, h => by
    have hbb := hb.head
    unfold numP at h
    split at h
    · rename_i h128
      have h128' : b.toNat % 128 = b.toNat := Nat.mod_eq_of_lt (by omega)
      simp only [Prod.mk.injEq, Bool.and_eq_true, Bool.or_eq_true, decide_eq_true_eq, h128'] at h
      obtain ⟨rfl, ⟨h1, h2⟩, rfl⟩ := h
      refine ⟨b.toNat, rfl, h1, ?_, fun h0 => by omega⟩
      have e : ((b.toNat : Nat) : Int) = b := by omega
      cases k with
      | zero => simp [vf, e]
      | succ k => simp only [Nat.add_sub_cancel]; unfold vf; rw [if_pos (by omega), e]; rfl
    · rename_i h128
      have hc : b.toNat % 128 < 128 := Nat.mod_lt _ (by decide)
      obtain ⟨q, h1, h2, h3, h4⟩ := numP_ok k (i + 1) (v + b.toNat % 128 * 128 ^ i) l r w (by omega) (grow hc hv) hb.tail h
      have hk : 0 < k := by
        cases k with
        | zero => simp [numP] at h
        | succ k => omega
      obtain ⟨k, rfl⟩ : ∃ k', k = k' + 1 := ⟨k - 1, by omega⟩
      have e : v + b.toNat % 128 * 128 ^ i + q * 128 ^ (i + 1) = v + (b.toNat % 128 + 128 * q) * 128 ^ i := by rw [Nat.pow_succ, Nat.add_mul]; rw [Nat.mul_comm 128 q, Nat.mul_assoc q 128, Nat.mul_comm 128 (128 ^ i)]; omega
      have hq := h4 (by omega)
      refine ⟨b.toNat % 128 + 128 * q, by rw [h1, e], by rw [← e]; exact h2, ?_, fun _ => by omega⟩
      simp only [Nat.add_sub_cancel] at h3 ⊢
      unfold vf
      rw [if_neg (by omega), h3]
      have e1 : (b.toNat % 128 + 128 * q) % 128 = b.toNat % 128 := by omega
      have e2 : (b.toNat % 128 + 128 * q) / 128 = q := by omega
      rw [e1, e2]
      have e3 : ((128 + b.toNat % 128 : Nat) : Int) = b := by omega
      rw [e3]; rfl
theorem numP_vf : ∀ (k i v q : Nat) (r : List Int), i + k = 4 → v + q * 128 ^ i ≤ 2147483647 → (0 < i → 0 < q) → numP (k + 1) i v (vf k q ++ r) = (((v + q * 128 ^ i : Nat) : Int), true, r)
  | 0, i, v, q, r, hi, hv, h0 => by
    have hi4 : i = 4 := by omega
    subst hi4
    have hq : q < 128 := by omega
    have h0 := h0 (by omega)
    have e : q % 128 = q := Nat.mod_eq_of_lt hq
    simp only [vf, List.cons_append, List.nil_append, numP, Int.toNat_natCast, e]
    rw [if_pos (by omega)]
    simp
    omega
  | k + 1, i, v, q, r, hi, hv, h0 => by
    unfold vf
    by_cases hq : q < 128
    · have e : q % 128 = q := Nat.mod_eq_of_lt hq
      simp only [hq, if_true, List.cons_append, List.nil_append, numP, Int.toNat_natCast, e]
      rw [if_pos (by omega)]
      simp
      omega
    · simp only [hq, if_false, List.cons_append, numP, Int.toNat_natCast]
      rw [if_neg (by omega)]
      have e1 : (128 + q % 128) % 128 = q % 128 := by omega
      have e : v + q % 128 * 128 ^ i + q / 128 * 128 ^ (i + 1) = v + q * 128 ^ i := by
        rw [Nat.pow_succ]
        have : q * 128 ^ i = (q % 128 + 128 * (q / 128)) * 128 ^ i := by rw [Nat.mod_add_div]
        rw [this, Nat.add_mul, Nat.mul_comm 128 (q / 128), Nat.mul_assoc, Nat.mul_comm 128 (128 ^ i)]; omega
      rw [e1, numP_vf k (i + 1) (v + q % 128 * 128 ^ i) (q / 128) r (by omega) (by rw [e]; exact hv) (fun _ => by omega), e]
/-- so many numbers -/
def numsP : Nat → List Int → List Int → Option (List Int × List Int)
  | 0, acc, l => some (l, acc)
  | n + 1, acc, l => if (numP 5 0 0 l).2.1 then numsP n (acc ++ [(numP 5 0 0 l).1]) (numP 5 0 0 l).2.2 else none
theorem numP_bytes : ∀ (k i v : Nat) (l : List Int), Bytes l → Bytes (numP k i v l).2.2
  | 0, _, _, l, h => h
  | _ + 1, _, _, [], h => h
  | k + 1, i, v, b :: l, h => by
    unfold numP; split
    · exact h.tail
    · exact numP_bytes k _ _ l h.tail
theorem numsP_ok : ∀ (n : Nat) (acc l r acc' : List Int), Bytes l → numsP n acc l = some (r, acc') → ∃ ns, acc' = acc ++ ns ∧ ns.length = n ∧ (∀ x ∈ ns, 0 ≤ x ∧ x ≤ 2147483647) ∧ l = vs ns ++ r
  | 0, acc, l, r, acc', _, h => by
    simp only [numsP, Option.some.injEq, Prod.mk.injEq] at h
    obtain ⟨rfl, rfl⟩ := h
    exact ⟨[], by simp, rfl, fun x hx => by simp at hx, rfl⟩
  | n + 1, acc, l, r, acc', hb, h => by
    unfold numsP at h
    split at h
    · rename_i hok
      obtain ⟨ns, h1, h2, h3, h4⟩ := numsP_ok n _ _ r acc' (numP_bytes _ _ _ _ hb) h
      obtain ⟨q, g1, g2, g3, _⟩ := numP_ok 5 0 0 l (numP 5 0 0 l).2.2 (numP 5 0 0 l).1 rfl (by decide) hb (by rw [← hok])
      simp only [Nat.pow_zero, Nat.mul_one, Nat.zero_add] at g1 g2
      refine ⟨(q : Int) :: ns, by rw [h1, g1]; simp, by simp [h2], fun x hx => ?_, ?_⟩
      · rcases List.mem_cons.1 hx with rfl | hx
        · omega
        · exact h3 x hx
      · have e : vs ((q : Int) :: ns) = vf 4 q ++ vs ns := by simp [vs]
        rw [g3, h4, e, List.append_assoc]
    · cases h
theorem numsP_vs : ∀ (ns acc r : List Int), (∀ x ∈ ns, 0 ≤ x ∧ x ≤ 2147483647) → numsP ns.length acc (vs ns ++ r) = some (r, acc ++ ns)
  | [], acc, r, _ => by simp [numsP, vs]
  | x :: ns, acc, r, h => by
    have hx := h x (by simp)
    have e : vs (x :: ns) ++ r = vf 4 x.toNat ++ (vs ns ++ r) := by simp [vs]
    have g := numP_vf 4 0 0 x.toNat (vs ns ++ r) rfl (by omega) (fun h => by omega)
    simp only [Nat.pow_zero, Nat.mul_one, Nat.zero_add] at g
    have ex : ((x.toNat : Nat) : Int) = x := by omega
    rw [e, List.length_cons, numsP, g]
    simp only [if_true, ex]
    rw [numsP_vs ns _ r (fun y hy => h y (by simp [hy]))]
    simp
/-! ### pieces of eight -/
theorem chunks_cons {c l : List Int} (hc : c.length = 8) : Sw.chunks 8 (c ++ l) = c :: Sw.chunks 8 l := by
  unfold Sw.chunks
  have e : ((c ++ l).length + 8 - 1) / 8 = (l.length + 8 - 1) / 8 + 1 := by rw [List.length_append, hc]; omega
  rw [e, List.range_succ_eq_map, List.map_cons, List.map_map]
  congr 1
  · rw [Nat.zero_mul, List.drop_zero, List.take_append_of_le_length (by omega), List.take_of_length_le (by omega)]
  · apply List.map_congr_left
    intro k _
    simp only [Function.comp_apply, Nat.succ_eq_add_one]
    rw [show (k + 1) * 8 = c.length + k * 8 by omega, List.drop_append]
    congr 1
    simp
theorem chunks_flat : ∀ (bs : List Blk), (∀ b ∈ bs, b.length = 8) → Sw.chunks 8 bs.flatten = bs
  | [], _ => rfl
  | b :: bs, h => by rw [List.flatten_cons, chunks_cons (h b (by simp)), chunks_flat bs (fun c hc => h c (by simp [hc]))]
theorem flat_chunks : ∀ (m : Nat) (l : List Int), l.length = 8 * m → (Sw.chunks 8 l).flatten = l ∧ (∀ b ∈ Sw.chunks 8 l, b.length = 8) ∧ (Sw.chunks 8 l).length = m
  | 0, l, h => by
    have : l = [] := List.length_eq_zero_iff.1 (by omega)
    subst this
    exact ⟨rfl, fun b hb => by simp [Sw.chunks] at hb, rfl⟩
  | m + 1, l, h => by
    have e : l = l.take 8 ++ l.drop 8 := (List.take_append_drop 8 l).symm
    have h8 : (l.take 8).length = 8 := by simp; omega
    obtain ⟨h1, h2, h3⟩ := flat_chunks m (l.drop 8) (by simp; omega)
    rw [e, chunks_cons h8]
    refine ⟨by rw [List.flatten_cons, h1], fun b hb => ?_, by simp [h3]⟩
    rcases List.mem_cons.1 hb with rfl | hb
    · exact h8
    · exact h2 b hb
theorem flat_mem {l : List Int} {bs : List Blk} (h : bs.flatten = l) (hb : Bytes l) : ∀ b ∈ bs, Bytes b := fun b hm x hx => hb x (by rw [← h]; exact List.mem_flatten.2 ⟨b, hm, hx⟩)
/-! ### a frame's bytes but for the sum -/
def parseB : List Int → Option Frame
  | b0 :: b1 :: r => match numsP (b0.toNat % 16) [] r with
    | some (rest, ns) => if b1 > 32 ∨ ns.length > 12 ∨ (rest.length : Int) ≠ 8 * b1 then none else some (((b0.toNat / 16 : Nat) : Int), ns, Sw.chunks 8 rest)
    | none => none
  | _ => none
theorem wrapN {n : Nat} (h : n < 256) : IntKind.wrap .u8 (n : Int) = n := by rw [wrap8]; omega
theorem pre1_is {f : Frame} (g : Good f) : pre1 f = [((16 * f.1.toNat + f.2.1.length : Nat) : Int), (f.2.2.length : Int)] := by
  have h0 := g.s0
  have h1 := g.s1
  have h2 := g.ns
  have h3 := g.bs
  unfold pre1
  have e : ar .add .i64 (ar .mul .i64 16 f.1) (f.2.1.length : Int) = ((16 * f.1.toNat + f.2.1.length : Nat) : Int) := by
    have : ar .mul .i64 16 f.1 = 16 * f.1 := wrap_i64 (by omega)
    rw [this, addI (by omega)]
    omega
  rw [e, wrapN (by omega), wrapN (by omega)]
theorem parseB_ok {b : List Int} {f : Frame} (hb : Bytes b) (h : parseB b = some f) : Good f ∧ frameErr f = 0 ∧ body f = b := by
  match b, h with
  | b0 :: b1 :: r, h =>
    have hb0 := hb.head
    have hb1 := hb.tail.head
    have hr := hb.tail.tail
    simp only [parseB] at h
    cases hn : numsP (b0.toNat % 16) [] r with
    | none => rw [hn] at h; cases h
    | some p =>
      obtain ⟨rest, ns⟩ := p
      rw [hn] at h
      simp only at h
      split at h
      · cases h
      · rename_i hc
        simp only [Option.some.injEq] at h
        subst h
        obtain ⟨ns', h1, h2, h3, h4⟩ := numsP_ok _ _ _ _ _ hr hn
        simp only [List.nil_append] at h1
        subst h1
        obtain ⟨g1, g2, g3⟩ := flat_chunks b1.toNat rest (by omega)
        have hrb : Bytes rest := fun x hx => hr x (by rw [h4]; simp [hx])
        have good : Good (((b0.toNat / 16 : Nat) : Int), ns, Sw.chunks 8 rest) := ⟨by simp only; omega, by simp only; omega, by simp only; omega, by simp only; omega, h3, fun b hb => ⟨g2 b hb, flat_mem g1 hrb b hb⟩⟩
        refine ⟨good, ?_, ?_⟩
        · unfold frameErr
          rw [if_neg (by simp only; omega), if_neg (by simp only; omega), if_neg]
          intro hbad
          obtain ⟨x, hx, hx2⟩ := List.any_eq_true.1 hbad
          have := h3 x hx
          simp [bad] at hx2; omega
        · unfold body
          rw [pre1_is good]
          simp only [g1, g3, h2, List.cons_append, List.nil_append]
          rw [h4]
          have e1 : ((16 * (((b0.toNat / 16 : Nat) : Int)).toNat + b0.toNat % 16 : Nat) : Int) = b0 := by rw [Int.toNat_natCast]; omega
          have e2 : ((b1.toNat : Nat) : Int) = b1 := by omega
          rw [e1, e2]
theorem parseB_body {f : Frame} (g : Good f) : parseB (body f) = some f := by
  have h0 := g.s0
  have h1 := g.s1
  have h2 := g.ns
  have h3 := g.bs
  unfold body
  rw [pre1_is g]
  simp only [List.cons_append, List.nil_append, parseB, Int.toNat_natCast]
  have e1 : (16 * f.1.toNat + f.2.1.length) % 16 = f.2.1.length := by omega
  have e2 : (16 * f.1.toNat + f.2.1.length) / 16 = f.1.toNat := by omega
  rw [e1, e2, numsP_vs _ _ _ g.num]
  simp only [List.nil_append]
  have hf := (flat_bytes g.blk).2
  rw [if_neg (by omega), chunks_flat _ (fun b hb => (g.blk b hb).1)]
  have e3 : ((f.1.toNat : Nat) : Int) = f.1 := by omega
  rw [e3]
def frameOf (a : List Int) : Option Frame :=
  if a.length < 6 then none else if a.drop (a.length - 4) = sum4 (4294967295 - crcL (nat (a.take (a.length - 4)))) then parseB (a.take (a.length - 4)) else none
theorem shrN {n c : Nat} (hc : c ≤ 32) : sh .shr .u32 (n : Int) (c : Int) = ((n / 2 ^ c : Nat) : Int) := by
  show Int.fdiv _ _ = _
  rw [Int.toNat_natCast, show IntKind.bits .u32 = 32 from rfl, Nat.min_eq_left hc, Int.fdiv_eq_ediv_of_nonneg _ (Int.le_of_lt (Int.pow_pos (by decide)))]
  push_cast; rfl
theorem sum4_is {S : Nat} (h : S < 4294967296) : [(IntKind.wrap .u8 (sh .shr .u32 (S : Int) (24 : Int))), (IntKind.wrap .u8 (sh .shr .u32 (S : Int) (16 : Int))), (IntKind.wrap .u8 (sh .shr .u32 (S : Int) (8 : Int))), (IntKind.wrap .u8 (S : Int))] = sum4 S := by
  rw [show (24 : Int) = ((24 : Nat) : Int) from rfl, show (16 : Int) = ((16 : Nat) : Int) from rfl, show (8 : Int) = ((8 : Nat) : Int) from rfl, shrN (by decide), shrN (by decide), shrN (by decide), wrap8, wrap8, wrap8, wrap8]
  unfold sum4
  have e : S / 2 ^ 24 % 256 = S / 16777216 := by omega
  rw [e]
theorem and15 : ∀ a : Fin 256, ar .and .u8 ((a.1 : Nat) : Int) 15 = ((a.1 % 16 : Nat) : Int) := by decide +kernel
theorem and15' {b : Int} (h : 0 ≤ b ∧ b ≤ 255) : ar .and .u8 b 15 = ((b.toNat % 16 : Nat) : Int) := by
  have := and15 ⟨b.toNat, by omega⟩
  have e : ((b.toNat : Nat) : Int) = b := by omega
  simpa [e] using this
theorem shr4 : ∀ a : Fin 256, sh .shr .u8 ((a.1 : Nat) : Int) 4 = ((a.1 / 16 : Nat) : Int) := by decide +kernel
theorem shr4' {b : Int} (h : 0 ≤ b ∧ b ≤ 255) : sh .shr .u8 b 4 = ((b.toNat / 16 : Nat) : Int) := by
  have := shr4 ⟨b.toNat, by omega⟩
  have e : ((b.toNat : Nat) : Int) = b := by omega
  simpa [e] using this
theorem nxt8 {n : Nat} (h : n < 200) : ar .add .u8 (n : Int) 1 = ((n + 1 : Nat) : Int) := by
  show IntKind.wrap .u8 ((n : Int) + 1) = _
  have : (n : Int) + 1 = ((n + 1 : Nat) : Int) := by push_cast; rfl
  rw [this, wrapN (by omega)]
theorem nums_loop {z : Frame × Option Int} (N : Nat) (hN : N ≤ 15) : ∀ (n j : Nat) (l acc : List Int) (f : Nat), j + n = N → Bytes l → l.length ≤ 1000000 → acc.length + n ≤ 1000 → n < f →
    loop (β := Ex ((List Int) × (List Int)) (Frame × Option Int)) (fun (s19 : Int × (List Int) × (List Int)) =>
                    bif (cm .lss s19.1 (N : Int)) then
                      (m_frame_taker_number_io s19.2.1).bind fun v27 =>
                        bif (!v27.2.1) then
                          some (.done (.ret z))
                        else
                          (Sw.app s19.2.2 ([v27.1] : (List Int))).bind fun v29 =>
                            some (.next ((ar .add .u8 s19.1 (1 : Int)), v27.2.2, v29))
                    else
                      some (.done (.brk (s19.2.1, s19.2.2)))
                    ) f ((j : Int), l, acc) = some (match numsP n acc l with | some p => .brk p | none => .ret z)
  | 0, j, l, acc, f, hj, hb, hl, ha, hf => by
    obtain ⟨f, rfl⟩ : ∃ f', f = f' + 1 := ⟨f - 1, by omega⟩
    have : cm .lss (j : Int) (N : Int) = false := by rw [cl]; simp; omega
    simp only [loop, this, cond_false, numsP]
  | n + 1, j, l, acc, f, hj, hb, hl, ha, hf => by
    obtain ⟨f, rfl⟩ : ∃ f', f = f' + 1 := ⟨f - 1, by omega⟩
    have : cm .lss (j : Int) (N : Int) = true := by rw [cl]; simp; omega
    simp only [loop, this, cond_true, num_is l hb hl, Option.bind_some, numsP]
    by_cases hk : (numP 5 0 0 l).2.1 = true
    · simp only [hk, Bool.not_true, cond_false, if_true]
      rw [app_small _ _ (by simp; omega), Option.bind_some, nxt8 (by omega)]
      exact nums_loop N hN n (j + 1) _ _ f (by omega) (numP_bytes _ _ _ _ hb) (Nat.le_trans (numP_len _ _ _ _) hl) (by simp; omega) (by omega)
    · simp only [Bool.not_eq_true] at hk
      simp only [hk, Bool.not_false, cond_true, Bool.false_eq_true, if_false]
theorem rng_blk : ∀ (its acc : List Blk), (∀ i ∈ its, i.length = 8) → acc.length + its.length ≤ 1000000 →
    rng (δ := Empty) (fun (z38 : (List Int)) (s45 : (List Blk)) =>
                              (Sw.arrOf 8 z38).bind fun z46 =>
                                (Sw.app s45 ([z46] : (List Blk))).bind fun v47 =>
                                  some (.next v47)
                              ) its acc = some (.brk (acc ++ its))
  | [], acc, _, _ => by simp [rng]
  | i :: is, acc, h, hl => by
    have h8 := h i (by simp)
    have e : Sw.arrOf 8 i = some i := by unfold Sw.arrOf; rw [if_pos (by omega), List.take_of_length_le (by omega)]
    simp only [rng, e, Option.bind_some]
    rw [app_small _ _ (by simp at hl ⊢; omega)]
    simp only [Option.bind_some]
    rw [rng_blk is _ (fun j hj => h j (by simp [hj])) (by simp at hl ⊢; omega)]
    simp
theorem unpack_is (a : List Int) (hb : Bytes a) (hl : a.length ≤ 10000) : m_frame_Unpack a = some (match frameOf a with | some f => (f, none) | none => ((0, [], []), some 3)) := by
  unfold m_frame_Unpack frameOf
  rw [cl]
  by_cases h6 : a.length < 6
  · have : (a.length : Int) < 6 := by omega
    simp [h6, this]
  have h6' : ¬ (a.length : Int) < 6 := by omega
  simp only [h6, h6', decide_false, cond_false, if_false]
  generalize hL : a.length - 4 = L
  have eL : ar .sub .i64 (a.length : Int) 4 = (L : Int) := by rw [subI (by omega)]; omega
  have hs1 : Sw.sub a 0 (L : Int) = some (a.take L) := by unfold Sw.sub; rw [if_pos (by omega)]; simp
  have hlen : (a.take L).length = L := by simp; omega
  have hs2 : Sw.sub a (L : Int) (a.length : Int) = some (a.drop L) := by unfold Sw.sub; rw [if_pos (by omega)]; simp
  have hd4 : (a.drop L).length = 4 := by simp; omega
  have har : Sw.arrOf 4 (a.drop L) = some (a.drop L) := by unfold Sw.arrOf; rw [if_pos (by omega), List.take_of_length_le (by omega)]
  have hbt : Bytes (a.take L) := fun x hx => hb x (List.mem_of_mem_take hx)
  have hsum := sum_is (a.take L) hbt (by omega)
  rw [eL, hs1, Option.bind_some, hsum, Option.bind_some, hlen, hs2, Option.bind_some, har, Option.bind_some, sum4_is (by omega)]
  by_cases hc : a.drop L = sum4 (4294967295 - crcL (nat (a.take L)))
  · simp only [hc, decide_true, Bool.not_true, cond_false, if_true]
    generalize hp : a.take L = p at *
    match p, hlen with
    | [], h => simp at h; omega
    | [_], h => simp at h; omega
    | b0 :: b1 :: r, hlen =>
      have hb0 := hbt.head
      have hb1 := hbt.tail.head
      have hr := hbt.tail.tail
      have hrl : r.length ≤ 10000 := by simp at hlen; omega
      rw [byte_is _ (by simp; omega), Option.bind_some]
      simp only [byteV]
      rw [byte_is _ (by simp; omega), Option.bind_some]
      simp only [byteV, and15' hb0, shr4' hb0, parseB]
      have hloop := nums_loop (z := ((0, [], []), some 3)) (b0.toNat % 16) (by omega) (b0.toNat % 16) 0 r [] FUEL (by omega) hr (by omega) (by simp; omega) (by unfold FUEL; omega)
      unfold lp
      rw [show ((0 : Int), r, ([] : List Int)) = (((0 : Nat) : Int), r, ([] : List Int)) from rfl, hloop]
      cases hn : numsP (b0.toNat % 16) [] r with
      | none => rfl
      | some q =>
        obtain ⟨rest, ns⟩ := q
        obtain ⟨ns', h1, h2, h3, h4⟩ := numsP_ok _ _ _ _ _ hr hn
        simp only [List.nil_append] at h1
        subst h1
        have hrest : rest.length ≤ r.length := by rw [h4]; simp
        have hmul : ar .mul .i64 b1 8 = 8 * b1 := by show IntKind.wrap .i64 _ = _; rw [wrap_i64 (by omega)]; omega
        simp only [cg, cn, hmul]
        by_cases c1 : b1 > 32
        · simp [c1]
        by_cases c2 : ns.length > 12
        · have c2' : (ns.length : Int) > 12 := by omega
          simp [c1, c2, c2']
        by_cases c3 : (rest.length : Int) ≠ 8 * b1
        · have c2' : ¬ (ns.length : Int) > 12 := by omega
          simp [c1, c2, c2', c3]
        have c2' : ¬ (ns.length : Int) > 12 := by omega
        have c3' : (rest.length : Int) = 8 * b1 := Decidable.not_not.1 c3
        obtain ⟨g1, g2, g3⟩ := flat_chunks b1.toNat rest (by omega)
        have hch : m_slices_Chunk_byte_byte rest 8 = some (rest, 8) := rfl
        have hsm : small rest = some () := by unfold small; rw [if_pos (by omega)]
        have hck : chkn 8 = some () := by decide
        simp only [c1, c2, c2', c3', ne_eq, not_true, decide_false, cond_false, Option.bind_some, or_self, if_false, hch, hsm, hck, rg]
        rw [show Int.toNat 8 = 8 from rfl, rng_blk _ _ g2 (by simp; omega)]
        simp
  · simp only [hc, decide_false, Bool.not_false, cond_true, if_false]
theorem frameOf_ok {a : List Int} {f : Frame} (hb : Bytes a) (h : frameOf a = some f) : Good f ∧ frameErr f = 0 ∧ packed f = a := by
  unfold frameOf at h
  split at h
  · cases h
  · split at h
    · rename_i h6 hc
      obtain ⟨h1, h2, h3⟩ := parseB_ok (fun x hx => hb x (List.mem_of_mem_take hx)) h
      refine ⟨h1, h2, ?_⟩
      unfold packed
      rw [h3, ← hc, List.take_append_drop]
    · cases h
theorem frameOf_packed {f : Frame} (g : Good f) : frameOf (packed f) = some f := by
  have hlb : 2 ≤ (body f).length := by unfold body; rw [pre1_is g]; simp
  have hlp : (packed f).length = (body f).length + 4 := by simp [packed, sum4]
  have ht : (packed f).take ((packed f).length - 4) = body f := by rw [hlp, Nat.add_sub_cancel]; unfold packed; simp
  have hd : (packed f).drop ((packed f).length - 4) = sum4 (4294967295 - crcL (nat (body f))) := by rw [hlp, Nat.add_sub_cancel]; unfold packed; simp
  unfold frameOf
  rw [if_neg (by omega), ht, hd, if_pos rfl, parseB_body g]
theorem pick_in {c n : Int} (hc : -9223372036854775808 ≤ c ∧ c ≤ 9223372036854775807) (hn : 0 < n) : ∃ k, m_ref_Pick c n = some k ∧ 0 ≤ k ∧ k < n := by
  unfold m_ref_Pick jp
  have hz : nz n = some () := nz_ok (by omega)
  have go : ∀ x : Int, 0 ≤ x → 0 ≤ ar .rem .i64 x n ∧ ar .rem .i64 x n < n := fun x hx => by
    show 0 ≤ Int.tmod x n ∧ Int.tmod x n < n
    rw [Int.tmod_eq_emod_of_nonneg hx]
    exact ⟨Int.emod_nonneg _ (by omega), Int.emod_lt_of_pos _ hn⟩
  simp only [cl, hz, Option.bind_some]
  by_cases c0 : c < 0
  · simp only [c0, decide_true, cond_true]
    have e : IntKind.wrap .i64 (0 - ar .add .i64 c 1) = -(c + 1) := by rw [addI (by omega), wrap_i64 (by omega)]; omega
    rw [e]
    exact ⟨_, rfl, go _ (by omega)⟩
  · simp only [c0, decide_false, cond_false]
    exact ⟨_, rfl, go _ (by omega)⟩
theorem sum4_bytes {S : Nat} (h : S < 4294967296) : Bytes (sum4 S) := fun x hx => by
  simp only [sum4, List.mem_cons, List.not_mem_nil, or_false] at hx
  rcases hx with rfl | rfl | rfl | rfl <;> omega
theorem packed_bytes {f : Frame} (g : Good f) : Bytes (packed f) := fun x hx => by
  unfold packed at hx
  rcases List.mem_append.1 hx with hx | hx
  · exact (body_bytes g).1 x hx
  · exact sum4_bytes (by omega) x hx
theorem byteOf (n : Int) : 0 ≤ IntKind.wrap .u8 n ∧ IntKind.wrap .u8 n ≤ 255 := by
  have := wrap_in .u8 n
  unfold inK at this; simpa [IntKind.min, IntKind.max, IntKind.signed, IntKind.bits] using this
theorem i64_of {n : Int} (h : Wf (Enc.int .i64) n) : -9223372036854775808 ≤ n ∧ n ≤ 9223372036854775807 := by
  have := h.int
  unfold inK at this
  simpa [IntKind.min, IntKind.max, IntKind.signed, IntKind.bits] using this
/-! ### one byte another one -/
theorem xor_rc {a b c : Nat} (h : a ^^^ c = b ^^^ c) : a = b := by
  have := congrArg (· ^^^ c) h
  simpa [Nat.xor_assoc] using this
theorem xor_lc {a b c : Nat} (h : c ^^^ a = c ^^^ b) : a = b := by
  rw [Nat.xor_comm c a, Nat.xor_comm c b] at h; exact xor_rc h
theorem crc1_inj {a b : Nat} (ha : a < 4294967296) (hb : b < 4294967296) (h : crc1 a = crc1 b) : a = b := by
  have top : ∀ x : Nat, x < 2147483648 → 2147483648 ≤ x ^^^ poly := by
    intro x hx
    have h1 : (x ^^^ poly) / 2 ^ 31 % 2 = (x / 2 ^ 31 + poly / 2 ^ 31) % 2 := bit_xor x poly 31
    have h2 : x / 2 ^ 31 = 0 := Nat.div_eq_of_lt (by simpa using hx)
    have h3 : poly / 2 ^ 31 = 1 := by decide
    rw [h2, h3] at h1
    omega
  unfold crc1 at h
  by_cases h1 : a % 2 = 1
  · by_cases h2 : b % 2 = 1
    · rw [if_pos h1, if_pos h2] at h
      have := xor_rc h
      omega
    · rw [if_pos h1, if_neg h2] at h
      have := top (a / 2) (by omega)
      omega
  · by_cases h2 : b % 2 = 1
    · rw [if_neg h1, if_pos h2] at h
      have := top (b / 2) (by omega)
      omega
    · rw [if_neg h1, if_neg h2] at h
      omega
theorem crcN_inj : ∀ (n : Nat) {a b : Nat}, a < 4294967296 → b < 4294967296 → crcN n a = crcN n b → a = b
  | 0, _, _, _, _, h => h
  | n + 1, _, _, ha, hb, h => crcN_inj n ha hb (crc1_inj (crcN_lt ha) (crcN_lt hb) h)
theorem xlt {r b : Nat} (hr : r < 4294967296) (hb : b < 256) : r ^^^ b < 4294967296 := by
  have : r ^^^ b < 2 ^ 32 := Nat.xor_lt_two_pow (by simpa using hr) (by omega)
  simpa using this
theorem crcB_injr {r r' b : Nat} (hr : r < 4294967296) (hr' : r' < 4294967296) (hb : b < 256) (h : crcB r b = crcB r' b) : r = r' :=
  xor_rc (crcN_inj 8 (xlt hr hb) (xlt hr' hb) h)
theorem crcB_injb {r b b' : Nat} (hr : r < 4294967296) (hb : b < 256) (hb' : b' < 256) (h : crcB r b = crcB r b') : b = b' :=
  xor_lc (crcN_inj 8 (xlt hr hb) (xlt hr hb') h)
theorem fold_inj : ∀ (l : List Nat) {r r' : Nat}, r < 4294967296 → r' < 4294967296 → (∀ b ∈ l, b < 256) → l.foldl crcB r = l.foldl crcB r' → r = r'
  | [], _, _, _, _, _, h => h
  | b :: l, _, _, hr, hr', hl, h => crcB_injr hr hr' (hl b (by simp)) (fold_inj l (crcB_lt hr (hl b (by simp))) (crcB_lt hr' (hl b (by simp))) (fun c hc => hl c (by simp [hc])) h)
theorem crc_set {l : List Nat} {k v : Nat} (hl : ∀ b ∈ l, b < 256) (hk : k < l.length) (hv : v < 256) (hne : l[k] ≠ v) : crcL (l.set k v) ≠ crcL l := by
  intro h
  have e1 : l = l.take k ++ l[k] :: l.drop (k + 1) := by rw [← List.drop_eq_getElem_cons hk, List.take_append_drop]
  have e2 : l.set k v = l.take k ++ v :: l.drop (k + 1) := by rw [List.set_eq_take_append_cons_drop, if_pos hk]
  unfold crcL at h
  rw [e2] at h
  have h2 : (l.take k ++ v :: l.drop (k + 1)).foldl crcB 4294967295 = (l.take k ++ l[k] :: l.drop (k + 1)).foldl crcB 4294967295 := by rw [← e1]; exact h
  rw [List.foldl_append, List.foldl_append, List.foldl_cons, List.foldl_cons] at h2
  have hr := foldl_lt (l.take k) 4294967295 (by decide) (fun b hb => hl b (List.mem_of_mem_take hb))
  have hx : l[k] < 256 := hl _ (List.getElem_mem hk)
  have h3 := fold_inj (l.drop (k + 1)) (crcB_lt hr hv) (crcB_lt hr hx) (fun b hb => hl b (List.mem_of_mem_drop hb)) h2
  exact hne (crcB_injb hr hv hx h3).symm
theorem sum4_inj {a b : Nat} (ha : a < 4294967296) (hb : b < 4294967296) (h : sum4 a = sum4 b) : a = b := by
  simp only [sum4, List.cons.injEq, and_true] at h
  omega
theorem crcL_lt {l : List Int} (h : Bytes l) : crcL (nat l) < 4294967296 := foldl_lt _ _ (by decide) (nat_byte h)
theorem torn {f : Frame} (g : Good f) {k : Nat} {v : Int} (hk : k < (packed f).length) (hv : 0 ≤ v ∧ v ≤ 255) (hne : (packed f)[k] ≠ v) (hb : Bytes ((packed f).set k v)) : frameOf ((packed f).set k v) = none := by
  cases hf : frameOf ((packed f).set k v) with
  | none => rfl
  | some x =>
    exfalso
    obtain ⟨gx, _, h2⟩ := frameOf_ok hb hf
    have hl : (body x).length = (body f).length := by
      have := congrArg List.length h2
      simp [packed, sum4] at this
      omega
    have bf := (body_bytes g).1
    have bx := (body_bytes gx).1
    have cf := crcL_lt bf
    have cx := crcL_lt bx
    by_cases hkb : k < (body f).length
    · have e : (packed f).set k v = (body f).set k v ++ sum4 (4294967295 - crcL (nat (body f))) := by unfold packed; rw [List.set_append_left _ _ hkb]
      rw [e] at h2
      unfold packed at h2
      obtain ⟨h3, h4⟩ := List.append_inj h2 (by simp [hl])
      have h5 := sum4_inj (by omega) (by omega) h4
      have hc : crcL (nat (body x)) = crcL (nat (body f)) := by omega
      rw [h3] at hc
      have en : nat ((body f).set k v) = (nat (body f)).set k v.toNat := by unfold nat; rw [List.map_set]
      rw [en] at hc
      have hkn : k < (nat (body f)).length := by simpa [nat] using hkb
      refine crc_set (nat_byte bf) hkn (by omega) ?_ hc
      intro hh
      have e6 : (nat (body f))[k] = ((body f)[k]).toNat := by simp [nat]
      have e7 : (packed f)[k] = (body f)[k] := by simp only [packed]; rw [List.getElem_append_left hkb]
      have := bf _ (List.getElem_mem hkb)
      rw [e6] at hh
      rw [e7] at hne
      omega
    · have e : (packed f).set k v = body f ++ (sum4 (4294967295 - crcL (nat (body f)))).set (k - (body f).length) v := by unfold packed; rw [List.set_append_right _ _ (by omega)]
      rw [e] at h2
      unfold packed at h2
      obtain ⟨h3, h4⟩ := List.append_inj h2 hl
      rw [h3] at h4
      have hk2 : k - (body f).length < (sum4 (4294967295 - crcL (nat (body f)))).length := by
        have : (packed f).length = (body f).length + (sum4 (4294967295 - crcL (nat (body f)))).length := by simp [packed]
        omega
      have e7 : (packed f)[k] = (sum4 (4294967295 - crcL (nat (body f))))[k - (body f).length] := by simp only [packed]; rw [List.getElem_append_right (by omega)]
      have e8 : (sum4 (4294967295 - crcL (nat (body f))))[k - (body f).length]? = some v := by rw [h4, List.getElem?_set_self hk2]
      rw [List.getElem?_eq_getElem hk2, Option.some.injEq] at e8
      exact hne (by rw [e7, e8])

theorem sameI_self (l : List Int) (h : l.length ≤ 1000000) : m_ref_SameInts l l = some true := by
  unfold m_ref_SameInts
  have : cm .neq (l.length : Int) (l.length : Int) = false := by simp [cm]
  rw [this]
  simp only [cond_false]
  rw [show (0 : Int) = ((0 : Nat) : Int) from rfl, lp_list (l := l) (fun i (_ : Unit) => (i : Int)) () (fun _ _ _ => .next ()) (fun _ => .brk ()) (by unfold FUEL; omega)]
  · have : ∀ (l : List Int) i, foldS (fun (_ : Nat) (_ : Int) (_ : Unit) => (Step.next () : Step Unit (Ex Unit Bool))) (fun _ => .brk ()) i () l = .brk () := by
      intro l; induction l with
      | nil => intro i; rfl
      | cons x l ih => intro i; simp only [foldS]; exact ih _
    rw [this]; rfl
  · rintro pre x rest acc rfl
    simp only [lss_app, cond_true, idx_app, Option.bind_some, stp, inc (n := pre.length) (m := 1000000) (by simp at h; omega) (by omega)]
    simp [cm]
  · intro _; simp [lss_self]
theorem sameB_self (l : List Blk) (h : l.length ≤ 1000000) : m_ref_SameBlocks l l = some true := by
  unfold m_ref_SameBlocks
  have : cm .neq (l.length : Int) (l.length : Int) = false := by simp [cm]
  rw [this]
  simp only [cond_false]
  rw [show (0 : Int) = ((0 : Nat) : Int) from rfl, lp_list (l := l) (fun i (_ : Unit) => (i : Int)) () (fun _ _ _ => .next ()) (fun _ => .brk ()) (by unfold FUEL; omega)]
  · have : ∀ (l : List Blk) i, foldS (fun (_ : Nat) (_ : Blk) (_ : Unit) => (Step.next () : Step Unit (Ex Unit Bool))) (fun _ => .brk ()) i () l = .brk () := by
      intro l; induction l with
      | nil => intro i; rfl
      | cons x l ih => intro i; simp only [foldS]; exact ih _
    rw [this]; rfl
  · rintro pre x rest acc rfl
    simp only [lss_app, cond_true, idx_app, Option.bind_some, stp, inc (n := pre.length) (m := 1000000) (by simp at h; omega) (by omega)]
    simp
  · intro _; simp [lss_self]
theorem sameFrame_self (f : Frame) (h1 : f.2.1.length ≤ 1000) (h2 : f.2.2.length ≤ 1000) : m_ref_SameFrame f f = some true := by
  unfold m_ref_SameFrame
  rw [ce, sameI_self _ (by omega), sameB_self _ (by omega)]
  simp
def zf : Frame := (0, [], [])
theorem zf_good : Good zf := ⟨by decide, by decide, by decide, by decide, fun n hn => by simp [zf] at hn, fun n hn => by simp [zf] at hn⟩
theorem zf_packed : packed zf = [0, 0, 65, 217, 18, 255] := by decide +kernel
theorem known_is : m_frame_Unpack [0, 0, 65, 217, 18, 255] = some (zf, none) := by
  rw [← zf_packed, unpack_is _ (packed_bytes zf_good) (by rw [zf_packed]; decide), frameOf_packed zf_good]
theorem xor8 {a b : Int} (ha : 0 ≤ a ∧ a ≤ 255) (hb : 0 ≤ b ∧ b ≤ 255) : ar .xor .u8 a b = ((a.toNat ^^^ b.toNat : Nat) : Int) := by
  have ea : ((a.toNat : Nat) : Int) = a := by omega
  have eb : ((b.toNat : Nat) : Int) = b := by omega
  have h : a.toNat ^^^ b.toNat < 2 ^ 8 := Nat.xor_lt_two_pow (by omega) (by omega)
  show IntKind.wrap .u8 ((BitVec.ofInt 8 a ^^^ BitVec.ofInt 8 b).toNat : Int) = _
  rw [← ea, ← eb]
  simp only [ofInt_nat, BitVec.toNat_xor, BitVec.toNat_ofNat, Int.toNat_natCast]
  rw [Nat.mod_eq_of_lt (a := a.toNat) (by omega), Nat.mod_eq_of_lt (a := b.toNat) (by omega), wrapN (by omega)]
theorem law_TopFrame (f : Frame) (at' by' : Int) (h : Wf (Enc.pr (Enc.int .i64) (Enc.pr (Enc.sl (Enc.int .i64)) (Enc.sl eBlk))) f) (h1 : Wf (Enc.int .i64) at') (h2 : Wf (Enc.int .i64) by') : m_top_TopFrame f at' by' = some true := by
  have hb : ∀ b ∈ f.2.2, b.length = 8 ∧ Bytes b := fun b hb => by
    have h1 := (h.pr.2.pr.2.sl.2 b hb).arr
    refine ⟨h1.1, fun x hx => ?_⟩
    have := (h1.2 x hx).int
    unfold inK at this; simpa [IntKind.min, IntKind.max, IntKind.signed, IntKind.bits] using this
  unfold m_top_TopFrame
  have z1 : cm .neq zf.1 0 = false := by decide
  have z2 : cm .gtr (zf.2.1.length : Int) 0 = false := by decide
  by_cases he : frameErr f = 0
  · have g := good_of he hb
    have hpb := packed_bytes g
    have hlb : 2 ≤ (body f).length := by unfold body; rw [pre1_is g]; simp
    have hbl := (body_bytes g).2
    have hlp : (packed f).length = (body f).length + 4 := by simp [packed, sum4]
    have hs := sameFrame_self f (by have := g.ns; omega) (by have := g.bs; omega)
    have hl6 : cm .lss ((packed f).length : Int) 6 = false := by rw [cl]; simp; omega
    have hu : m_frame_Unpack (packed f) = some (f, none) := by rw [unpack_is _ hpb (by omega), frameOf_packed g]
    obtain ⟨k, e1, k0, k1⟩ := pick_in (n := ((packed f).length : Int)) (i64_of h1) (by omega)
    obtain ⟨q, e2, q0, q1⟩ := pick_in (n := 255) (i64_of h2) (by omega)
    have hk : k.toNat < (packed f).length := by omega
    have hi : Sw.idx (packed f) k = some (packed f)[k.toNat] := by unfold Sw.idx; rw [if_pos k0, List.getElem?_eq_getElem hk]
    have hz := hpb _ (List.getElem_mem hk)
    have ew : IntKind.wrap .u8 (ar .add .i64 1 q) = 1 + q := by
      rw [addI (by omega)]
      have := wrapN (n := (1 + q).toNat) (by omega)
      have e : (((1 + q).toNat : Nat) : Int) = 1 + q := by omega
      rwa [e] at this
    have hx := xor8 (a := (packed f)[k.toNat]) (b := 1 + q) hz (by omega)
    have hxl : (packed f)[k.toNat].toNat ^^^ (1 + q).toNat < 2 ^ 8 := Nat.xor_lt_two_pow (by omega) (by omega)
    have hne : (packed f)[k.toNat] ≠ ((((packed f)[k.toNat]).toNat ^^^ (1 + q).toNat : Nat) : Int) := by
      intro hh
      have h3 : (packed f)[k.toNat].toNat ^^^ (1 + q).toNat = (packed f)[k.toNat].toNat ^^^ 0 := by rw [Nat.xor_zero]; omega
      have := xor_lc h3
      omega
    generalize hvv : ((((packed f)[k.toNat]).toNat ^^^ (1 + q).toNat : Nat) : Int) = v at *
    have hv : 0 ≤ v ∧ v ≤ 255 := by omega
    have hbs : Bytes ((packed f).set k.toNat v) := fun x hx => by
      rcases List.mem_or_eq_of_mem_set hx with hx | rfl
      · exact hpb x hx
      · exact hv
    have ht := torn g hk hv hne hbs
    have hu2 : m_frame_Unpack ((packed f).set k.toNat v) = some ((0, [], []), some 3) := by rw [unpack_is _ hbs (by simp; omega), ht]
    rw [pack_is g he, Option.bind_some, known_is, Option.bind_some]
    simp only [z1, z2, Option.isSome_none, cond_false, Option.bind_some, hu, hs, Bool.not_true, hl6, e1, e2, hi, ew, hx, hu2]
    rfl
  · have hpk : m_frame_Pack f = some ([], some (frameErr f)) := by
      unfold m_frame_Pack
      rw [frameCheck_is, if_neg he]; simp
    rw [hpk, Option.bind_some, known_is, Option.bind_some]
    simp only [z1, z2, Option.isSome_none, Option.isSome_some, cond_false, cond_true, Option.bind_some, frameCheck_is, if_neg he]
end Go.Pl
