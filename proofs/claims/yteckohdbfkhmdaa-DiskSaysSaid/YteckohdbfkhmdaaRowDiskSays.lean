/- DiskSays: for every input the law answers true, and its arguments read as they did. Conditions: none. -/
import Derived.Test.YteckohdbfkhmdaaSwR
import Derived.Test.YteckohdbfkhmdaaPlDiskSays
import Derived.Test.YteckohdbfkhmdaaCnDiskSays
import Derived.Test.YteckohdbfkhmdaaRows
import Derived.WalkKit
import Derived.ProofKit
import Derived.OpenShut
import Derived.ShutString
import Derived.ChangeOld
import Derived.Below
import Derived.Test.YteckohdbfkhmdaaChecked
namespace Go.Proofs.Yteckohdbfkhmdaa.diskSays
open Go Go.Sw Go.Mo Go.Cn Go.Pl Go.ChangeShapes Go.WideShapes Go.ChangeAt Go.RowKit
set_option linter.unusedVariables false

theorem own : ownKnob Try.prog.godebug = none := by kernel_rfl
theorem laidOut : laidOutB Try.prog = true := by kernel_rfl
theorem rd3 : RdV Try.prog 3 (Enc.int .i64) := (RdV.int Try.underlying3)
theorem rd24 : RdV Try.prog 24 eBlk := (RdV.arr rfl Try.underlying24 (RdE.arr (E := 5) Try.underlying24 (by kernel_rfl) (by kernel_rfl) (RdE.int Try.underlying5)))
theorem rd49 : RdV Try.prog 49 (Enc.pr (Enc.sl eBlk) (Enc.pr (Enc.sl (Enc.pr (Enc.int .i64) eBlk)) (Enc.int .i64))) := (RdV.struct rfl Try.underlying49 (RdE.struct Try.underlying49 (by kernel_rfl) (RdFs.cons rfl (by kernel_rfl) (RdE.sl (E := 24) Try.underlying22 (by kernel_rfl) rfl (RdE.arr (E := 5) Try.underlying24 (by kernel_rfl) (by kernel_rfl) (RdE.int Try.underlying5))) (RdFs.cons rfl (by kernel_rfl) (RdE.sl (E := 85) Try.underlying47 (by kernel_rfl) rfl (RdE.struct Try.underlying85 (by kernel_rfl) (RdFs.cons rfl (by kernel_rfl) (RdE.int Try.underlying3) (RdFs.last rfl (by kernel_rfl) (RdE.arr (E := 5) Try.underlying24 (by kernel_rfl) (by kernel_rfl) (RdE.int Try.underlying5)))))) (RdFs.last rfl (by kernel_rfl) (RdE.int Try.underlying3))))))
set_option maxRecDepth 100000 in
theorem lifted (os : Os) (started : os.Started) (H : Type) (enc : TypeId × Value → H) :
    ReturnsInHanded {} Try.checked os 13 .any (Rows.diskSaysSpec.pre6 enc Try.prog Try.f13 Rows.diskSaysRow.domain false) (Rows.diskSaysSpec.post enc Try.prog Try.f13 false true false false) := by
  refine returnsInHanded_of_change (C := Try.checked) own started (by kernel_rfl) Try.func13
    (ChangeSpec.witness6 (enc := enc) (C := Try.checked) false ⟨#[], #[.agg #[.slice none 0 0, .slice none 0 0, .int .i64 0], .int .i64 0, .agg #[.int .u8 0, .int .u8 0, .int .u8 0, .int .u8 0, .int .u8 0, .int .u8 0, .int .u8 0, .int .u8 0]], []⟩ 8 (by kernel_rfl) (by kernel_rfl) (by kernel_rfl) (by kernel_rfl)) ?_
  intro W base args ds gs before hval0 hW hcnd _
  have hval : ∀ (j : Nat) t v, Try.f13.params[j]? = some t → args[j]? = some v → Value.okWide Try.prog W .any base t v := hval0
  have hW' := hW
  obtain ⟨p, q, hA0, hV, rfl, hfz, hnd⟩ := hW
  have hA : DataW.TrodAll enc Try.prog W 0 (fun _ => true) true Try.f13.params.toList args.toList ds p := hA0
  rw [Try.params13] at hA hval
  obtain ⟨v0, vs0, d0, ds0, p0, q0, hargs, rfl, rfl, h0, r0⟩ := trodAll_cons hA
  obtain ⟨v1, vs1, d1, ds1, p1, q1, rfl, rfl, rfl, h1, r1⟩ := trodAll_cons r0
  obtain ⟨v2, vs2, d2, ds2, p2, q2, rfl, rfl, rfl, h2, r2⟩ := trodAll_cons r1
  obtain ⟨rfl, rfl, rfl⟩ := trodAll_nil r2
  obtain rfl : args = #[v0, v1, v2] := by cases args; simp_all
  obtain ⟨rfl, rfl⟩ := trodVars_none hV
  have k0 := h0
  have lt0 : ∀ x ∈ p0, x.block < W.heap.size := by obtain ⟨m, hm⟩ := k0; exact DataW.trod_lt m _ _ _ hm
  obtain ⟨x0, w0⟩ := rd49 H enc W W v0 d0 p0 (hval 0 49 v0 rfl rfl) h0
  have k1 := h1
  have lt1 : ∀ x ∈ p1, x.block < W.heap.size := by obtain ⟨m, hm⟩ := k1; exact DataW.trod_lt m _ _ _ hm
  obtain ⟨x1, w1⟩ := rd3 H enc W W v1 d1 p1 (hval 1 3 v1 rfl rfl) h1
  have k2 := h2
  have lt2 : ∀ x ∈ p2, x.block < W.heap.size := by obtain ⟨m, hm⟩ := k2; exact DataW.trod_lt m _ _ _ hm
  obtain ⟨x2, w2⟩ := rd24 H enc W W v2 d2 p2 (hval 2 24 v2 rfl rfl) h2
  clear hA0 hval0
  have hv : Slot.okv (fun _ => undef) (fun _ => False) W [.v (Enc.pr (Enc.sl eBlk) (Enc.pr (Enc.sl (Enc.pr (Enc.int .i64) eBlk)) (Enc.int .i64))) x0, .v (Enc.int .i64) x1, .v eBlk x2] [v0, v1, v2] := by
    simp only [Slot.okv]
    exact ⟨v0, _, rfl, (by simp only [Slot.ok]; exact w0), ⟨v1, _, rfl, (by simp only [Slot.ok]; exact w1), ⟨v2, _, rfl, (by simp only [Slot.ok]; exact w2), rfl⟩⟩⟩
  refine ((Or.elim (Classical.em (x0.2.1 = [])) (fun hz => con_law_DiskSays_e hz (law_DiskSays_e x0 x1 x2 hz)) (fun hz => con_law_DiskSays hz (law_DiskSays x0 x1 x2))).law hv).mono fun e W' ⟨he, bel⟩ => ?_
  subst he
  exact ⟨_, rfl, _, _, _, [], _, [], hW', trodAll_mk1 (shut_bool Try.underlying4 _), (trodAll_cons_mk (Below.trod laidOut (by kernel_rfl) (of_decide_eq_true (by kernel_rfl)) k0 bel lt0) (trodAll_cons_mk (Below.trod laidOut (by kernel_rfl) (of_decide_eq_true (by kernel_rfl)) k1 bel lt1) (trodAll_cons_mk (Below.trod laidOut (by kernel_rfl) (of_decide_eq_true (by kernel_rfl)) k2 bel lt2) trodAll_mk0))), rfl, bel.frame _, fun h => by cases h⟩

theorem over : Rows.diskSaysRow.holds Try.pinned (OpenSpec.ofChange Rows.diskSaysSpec) :=
  OpenClaim.holds_of_wide 13 Try.f13 rfl rfl rfl rfl rfl rfl rfl ⟨rfl, rfl, rfl, rfl, rfl⟩ rfl rfl rfl rfl rfl (by kernel_rfl) Try.func13 (by kernel_rfl)
    (of_decide_eq_true (by kernel_rfl)) (by unfold Func.isWrapper; first | (rw [if_pos (by decide +kernel)]; kernel_rfl) | (rw [if_neg (by decide +kernel)]; exact ⟨rfl, rfl⟩))
    (fun os started H enc _ => lifted os started H enc)

/-- the statement -/
theorem proved : Rows.DiskSaysSaid := over
#print axioms proved
end Go.Proofs.Yteckohdbfkhmdaa.diskSays
