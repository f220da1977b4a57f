/- The functions that this law reaches come to what their models come to. Conditions: none. -/
import Derived.Test.YteckohdbfkhmdaaMoTopDiff
import Derived.KernelRfl
import Derived.Test.YteckohdbfkhmdaaChecked
set_option linter.unusedVariables false
set_option linter.unusedSimpArgs false
namespace Go.Cn
open Go Go.Sw Go.Mo Go.Proofs
abbrev ET : Nat := 25
theorem mixed : Try.prog.follows .mixedOrders = true := Try.checked.mixed
theorem eq24 : EqE 2 Try.prog 24 eBlk := EqE.arr Try.runUnderlying24 Try.sizeOf5 Try.isAgg5 (EqE.int Try.underlying5)
theorem built71 : ∀ parts, Try.prog.built 71 parts = Instr.fill (([(0, 1)] : List (Nat × Nat)).toArray[·]?) ([.slice none 0 0] : List Value).toArray parts := built_struct Try.typeInfo71 Try.runUnderlying71 rfl rfl (.cons rfl (by kernel_rfl) (by kernel_rfl) .nil)
set_option maxRecDepth 100000 in
set_option maxHeartbeats 4000000 in
theorem con_tree_Digest {a0 : (List Int)} {r : Int} (h : m_tree_Digest a0 = some r) :
    Con Try.prog 37 [.v (Enc.sl (Enc.int .u8)) a0] (.v (Enc.int .u64) r) [] := by
  refine Con.of Try.func37 rfl Try.ntmps37 rfl ?_
  intro S w hF
  unfold m_tree_Digest at h
  refine W.seq ?_
  refine W.reg (σ' := ⟨[(0, .v (Enc.sl (Enc.int .u8)) a0)], []⟩) (J.cons (.none rfl) (JO.assign rfl) rfl rfl (J.fin (Sw.Sub.mk id (.cons rfl (.of_eq rfl) .nil) .nil rfl))) ?_
  refine W.seq ?_
  refine W.reg (σ' := ⟨[(0, .v (Enc.sl (Enc.int .u8)) a0), (3, .v (Enc.int .u64) (14695981039346656037 : Int))], []⟩) (J.cons (.none rfl) (JO.assign rfl) rfl rfl (J.fin (Sw.Sub.mk id (.cons rfl (.of_eq rfl) (.cons rfl (.of_eq rfl) .nil)) .nil rfl))) ?_
  refine W.seq ?_
  refine W.seq ?_
  refine W.reg (σ' := ⟨[(3, .v (Enc.int .u64) (14695981039346656037 : Int)), (6, .v (Enc.sl (Enc.int .u8)) a0), (7, .v (Enc.int .i64) (a0.length : Int)), (8, .v (Enc.int .i64) (0 : Int))], []⟩) (J.cons (.none rfl) (JO.move rfl) rfl rfl (J.cons (.none rfl) (JO.len rfl Try.runUnderlying40) rfl rfl (J.cons (.none rfl) (JO.move rfl) rfl rfl (J.fin (Sw.Sub.mk id (.cons rfl (.of_eq rfl) (.cons rfl (.of_eq rfl) (.cons rfl (.of_eq rfl) (.cons rfl (.of_eq rfl) .nil)))) .nil rfl))))) ?_
  obtain ⟨o10, ho10, hb10, hr10⟩ := lp_elim h
  refine W.lp (σs := fun s7 : Int × Int => ⟨[(3, .v (Enc.int .u64) s7.1), (6, .v (Enc.sl (Enc.int .u8)) a0), (7, .v (Enc.int .i64) (a0.length : Int)), (8, .v (Enc.int .i64) s7.2)], []⟩) (fun x11 : Int => ⟨[(3, .v (Enc.int .u64) x11)], []⟩) ho10 (Sw.Sub.mk id (.cons rfl (.of_eq rfl) (.cons rfl (.of_eq rfl) (.cons rfl (.of_eq rfl) (.cons rfl (.of_eq rfl) .nil)))) .nil rfl) ?_ ?_
  · intro x11 hy
    have h := hb10 _ hy
    refine W.seq ?_
    refine W.reg (σ' := ⟨[(2, .v (Enc.int .u64) x11)], []⟩) (J.cons (.none rfl) (JO.move rfl) rfl rfl (J.cons (.none rfl) (JO.assign rfl) rfl rfl (J.fin (Sw.Sub.mk id (.cons rfl (.of_eq rfl) .nil) .nil rfl)))) ?_
    refine W.ret ?_
    obtain rfl := Option.some.inj h
    exact XQ.sub (σ' := ⟨[(2, .v (Enc.int .u64) x11)], []⟩) (Sw.Sub.mk id (.cons rfl (.of_eq rfl) .nil) .nil rfl) (XQ.ret1 hF noR rfl (RV.tmp rfl) .nil rfl)
  intro s7 r10 h
  refine W.seq ?_
  refine W.reg (σ' := ⟨[(3, .v (Enc.int .u64) s7.1), (6, .v (Enc.sl (Enc.int .u8)) a0), (7, .v (Enc.int .i64) (a0.length : Int)), (8, .v (Enc.int .i64) s7.2), (9, .v Enc.bool (cm .lss s7.2 (a0.length : Int)))], []⟩) (J.cons (.none rfl) (JO.cmp rfl rfl rfl) rfl rfl (J.fin (Sw.Sub.mk id (.cons rfl (.of_eq rfl) (.cons rfl (.of_eq rfl) (.cons rfl (.of_eq rfl) (.cons rfl (.of_eq rfl) (.cons rfl (.of_eq rfl) .nil))))) .nil rfl))) ?_
  refine W.seq ?_
  rcases Bool.eq_false_or_eq_true (cm .lss s7.2 (a0.length : Int)) with hc12 | hc12
  · replace h := cond_t hc12 h
    refine W.condT rfl hc12 ?_
    refine W.skip ?_
    refine W.seq ?_
    refine W.block ?_
    refine W.seq ?_
    obtain ⟨z13, hz13, h⟩ := bind_e h
    refine W.reg (σ' := ⟨[(3, .v (Enc.int .u64) s7.1), (5, .v (Enc.int .u8) z13), (6, .v (Enc.sl (Enc.int .u8)) a0), (7, .v (Enc.int .i64) (a0.length : Int)), (8, .v (Enc.int .i64) s7.2)], []⟩) (J.cons (.none rfl) (JO.idx hz13 rfl rfl Try.runUnderlying40 Try.sizeOf5) rfl rfl (J.cons (.none rfl) (JO.loadPst rfl Try.isAgg5 Try.sizeOf5) rfl rfl (J.cons (.none rfl) (JO.assign rfl) rfl rfl (J.fin (Sw.Sub.mk id (.cons rfl (.of_eq rfl) (.cons rfl (.of_eq rfl) (.cons rfl (.of_eq rfl) (.cons rfl (.of_eq rfl) (.cons rfl (.of_eq rfl) .nil))))) .nil rfl))))) ?_
    refine W.reg (σ' := ⟨[(3, .v (Enc.int .u64) (ar .mul .u64 (ar .xor .u64 s7.1 z13) (1099511628211 : Int))), (6, .v (Enc.sl (Enc.int .u8)) a0), (7, .v (Enc.int .i64) (a0.length : Int)), (8, .v (Enc.int .i64) s7.2)], []⟩) (J.cons (.none rfl) (JO.move rfl) rfl rfl (J.cons (.none rfl) (JO.move rfl) rfl rfl (J.cons (.none rfl) (JO.convUp Try.runUnderlying5 Try.runUnderlying67 rfl rfl) rfl rfl (J.cons (.none rfl) (JO.arith rfl rfl rfl) rfl rfl (J.cons (.none rfl) (JO.arith rfl rfl rfl) rfl rfl (J.cons (.none rfl) (JO.assign rfl) rfl rfl (J.fin (Sw.Sub.mk id (.cons rfl (.of_eq rfl) (.cons rfl (.of_eq rfl) (.cons rfl (.of_eq rfl) (.cons rfl (.of_eq rfl) .nil)))) .nil rfl)))))))) ?_
    refine W.fall ?_
    refine W.reg (σ' := ⟨[(3, .v (Enc.int .u64) (ar .mul .u64 (ar .xor .u64 s7.1 z13) (1099511628211 : Int))), (6, .v (Enc.sl (Enc.int .u8)) a0), (7, .v (Enc.int .i64) (a0.length : Int)), (8, .v (Enc.int .i64) (ar .add .i64 s7.2 (1 : Int)))], []⟩) (J.cons (.none rfl) (JO.arith rfl rfl rfl) rfl rfl (J.cons (.none rfl) (JO.move rfl) rfl rfl (J.fin (Sw.Sub.mk id (.cons rfl (.of_eq rfl) (.cons rfl (.of_eq rfl) (.cons rfl (.of_eq rfl) (.cons rfl (.of_eq rfl) .nil)))) .nil rfl)))) ?_
    obtain rfl := Option.some.inj h
    exact W.next (Sw.Sub.mk id (.cons rfl (.of_eq rfl) (.cons rfl (.of_eq rfl) (.cons rfl (.of_eq rfl) (.cons rfl (.of_eq rfl) .nil)))) .nil rfl)
  · replace h := cond_f hc12 h
    refine W.condF rfl hc12 ?_
    refine W.exit ?_
    obtain rfl := Option.some.inj h
    exact XQ.brk (Sw.Sub.mk id (.cons rfl (.of_eq rfl) .nil) .nil rfl)
set_option maxRecDepth 100000 in
set_option maxHeartbeats 4000000 in
theorem con_ref_DigestOf {a0 : (List Int)} {r : Int} (h : m_ref_DigestOf a0 = some r) :
    Con Try.prog 38 [.v (Enc.sl (Enc.int .u8)) a0] (.v (Enc.int .u64) r) [] := by
  refine Con.of Try.func38 rfl Try.ntmps38 rfl ?_
  intro S w hF
  unfold m_ref_DigestOf at h
  refine W.seq ?_
  refine W.reg (σ' := ⟨[(0, .v (Enc.sl (Enc.int .u8)) a0)], []⟩) (J.cons (.none rfl) (JO.assign rfl) rfl rfl (J.fin (Sw.Sub.mk id (.cons rfl (.of_eq rfl) .nil) .nil rfl))) ?_
  refine W.seq ?_
  refine W.reg (σ' := ⟨[(0, .v (Enc.sl (Enc.int .u8)) a0), (3, .v (Enc.int .u64) (14695981039346656037 : Int))], []⟩) (J.cons (.none rfl) (JO.assign rfl) rfl rfl (J.fin (Sw.Sub.mk id (.cons rfl (.of_eq rfl) (.cons rfl (.of_eq rfl) .nil)) .nil rfl))) ?_
  refine W.seq ?_
  refine W.seq ?_
  refine W.reg (σ' := ⟨[(0, .v (Enc.sl (Enc.int .u8)) a0), (3, .v (Enc.int .u64) (14695981039346656037 : Int)), (4, .v (Enc.int .i64) (0 : Int))], []⟩) (J.cons (.none rfl) (JO.assign rfl) rfl rfl (J.fin (Sw.Sub.mk id (.cons rfl (.of_eq rfl) (.cons rfl (.of_eq rfl) (.cons rfl (.of_eq rfl) .nil))) .nil rfl))) ?_
  obtain ⟨o76, ho76, hb76, hr76⟩ := lp_elim h
  refine W.lp (σs := fun s51 : Int × Int => ⟨[(0, .v (Enc.sl (Enc.int .u8)) a0), (3, .v (Enc.int .u64) s51.1), (4, .v (Enc.int .i64) s51.2)], []⟩) (fun x77 : Int => ⟨[(3, .v (Enc.int .u64) x77)], []⟩) ho76 (Sw.Sub.mk id (.cons rfl (.of_eq rfl) (.cons rfl (.of_eq rfl) (.cons rfl (.of_eq rfl) .nil))) .nil rfl) ?_ ?_
  · intro x77 hy
    have h := hb76 _ hy
    refine W.seq ?_
    refine W.reg (σ' := ⟨[(2, .v (Enc.int .u64) x77)], []⟩) (J.cons (.none rfl) (JO.move rfl) rfl rfl (J.cons (.none rfl) (JO.assign rfl) rfl rfl (J.fin (Sw.Sub.mk id (.cons rfl (.of_eq rfl) .nil) .nil rfl)))) ?_
    refine W.ret ?_
    obtain rfl := Option.some.inj h
    exact XQ.sub (σ' := ⟨[(2, .v (Enc.int .u64) x77)], []⟩) (Sw.Sub.mk id (.cons rfl (.of_eq rfl) .nil) .nil rfl) (XQ.ret1 hF noR rfl (RV.tmp rfl) .nil rfl)
  intro s51 r76 h
  refine W.seq ?_
  refine W.seq ?_
  refine W.reg (σ' := ⟨[(0, .v (Enc.sl (Enc.int .u8)) a0), (3, .v (Enc.int .u64) s51.1), (4, .v (Enc.int .i64) s51.2), (11, .v Enc.bool (cm .lss s51.2 (a0.length : Int)))], []⟩) (J.cons (.none rfl) (JO.move rfl) rfl rfl (J.cons (.none rfl) (JO.move rfl) rfl rfl (J.cons (.none rfl) (JO.len rfl Try.runUnderlying40) rfl rfl (J.cons (.none rfl) (JO.cmp rfl rfl rfl) rfl rfl (J.fin (Sw.Sub.mk id (.cons rfl (.of_eq rfl) (.cons rfl (.of_eq rfl) (.cons rfl (.of_eq rfl) (.cons rfl (.of_eq rfl) .nil)))) .nil rfl)))))) ?_
  rcases Bool.eq_false_or_eq_true (cm .lss s51.2 (a0.length : Int)) with hc78 | hc78
  · replace h := cond_t hc78 h
    refine W.condT rfl hc78 ?_
    refine W.skip ?_
    refine W.seq ?_
    refine W.block ?_
    refine W.seq ?_
    refine W.reg (σ' := ⟨[(0, .v (Enc.sl (Enc.int .u8)) a0), (3, .v (Enc.int .u64) s51.1), (4, .v (Enc.int .i64) s51.2), (5, .v (Enc.int .u64) (ar .rem .u64 s51.1 (256 : Int)))], []⟩) (J.cons (.none rfl) (JO.move rfl) rfl rfl (J.cons (.none rfl) (JO.div (.inr rfl) (by decide) rfl rfl) rfl rfl (J.cons (.none rfl) (JO.assign rfl) rfl rfl (J.fin (Sw.Sub.mk id (.cons rfl (.of_eq rfl) (.cons rfl (.of_eq rfl) (.cons rfl (.of_eq rfl) (.cons rfl (.of_eq rfl) .nil)))) .nil rfl))))) ?_
    refine W.seq ?_
    refine W.reg (σ' := ⟨[(0, .v (Enc.sl (Enc.int .u8)) a0), (3, .v (Enc.int .u64) s51.1), (4, .v (Enc.int .i64) s51.2), (5, .v (Enc.int .u64) (ar .rem .u64 s51.1 (256 : Int))), (6, .v (Enc.int .u64) (0 : Int))], []⟩) (J.cons (.none rfl) (JO.assign rfl) rfl rfl (J.fin (Sw.Sub.mk id (.cons rfl (.of_eq rfl) (.cons rfl (.of_eq rfl) (.cons rfl (.of_eq rfl) (.cons rfl (.of_eq rfl) (.cons rfl (.of_eq rfl) .nil))))) .nil rfl))) ?_
    refine W.seq ?_
    refine W.seq ?_
    refine W.reg (σ' := ⟨[(0, .v (Enc.sl (Enc.int .u8)) a0), (3, .v (Enc.int .u64) s51.1), (4, .v (Enc.int .i64) s51.2), (5, .v (Enc.int .u64) (ar .rem .u64 s51.1 (256 : Int))), (6, .v (Enc.int .u64) (0 : Int)), (7, .v (Enc.int .u64) (1 : Int))], []⟩) (J.cons (.none rfl) (JO.assign rfl) rfl rfl (J.fin (Sw.Sub.mk id (.cons rfl (.of_eq rfl) (.cons rfl (.of_eq rfl) (.cons rfl (.of_eq rfl) (.cons rfl (.of_eq rfl) (.cons rfl (.of_eq rfl) (.cons rfl (.of_eq rfl) .nil)))))) .nil rfl))) ?_
    obtain ⟨o95, ho95, hb95, hr95⟩ := lp_elim h
    refine W.lp (σs := fun s89 : Int × Int => ⟨[(0, .v (Enc.sl (Enc.int .u8)) a0), (3, .v (Enc.int .u64) s51.1), (4, .v (Enc.int .i64) s51.2), (5, .v (Enc.int .u64) (ar .rem .u64 s51.1 (256 : Int))), (6, .v (Enc.int .u64) s89.1), (7, .v (Enc.int .u64) s89.2)], []⟩) (fun x96 : Int => ⟨[(0, .v (Enc.sl (Enc.int .u8)) a0), (3, .v (Enc.int .u64) s51.1), (4, .v (Enc.int .i64) s51.2), (5, .v (Enc.int .u64) (ar .rem .u64 s51.1 (256 : Int))), (6, .v (Enc.int .u64) x96)], []⟩) ho95 (Sw.Sub.mk id (.cons rfl (.of_eq rfl) (.cons rfl (.of_eq rfl) (.cons rfl (.of_eq rfl) (.cons rfl (.of_eq rfl) (.cons rfl (.of_eq rfl) (.cons rfl (.of_eq rfl) .nil)))))) .nil rfl) ?_ ?_
    · intro x96 hy
      have h := hb95 _ hy
      refine W.reg (σ' := ⟨[(0, .v (Enc.sl (Enc.int .u8)) a0), (3, .v (Enc.int .u64) (ar .mul .u64 (ar .add .u64 (ar .sub .u64 s51.1 (ar .rem .u64 s51.1 (256 : Int))) x96) (1099511628211 : Int))), (4, .v (Enc.int .i64) s51.2)], []⟩) (J.cons (.none rfl) (JO.move rfl) rfl rfl (J.cons (.none rfl) (JO.move rfl) rfl rfl (J.cons (.none rfl) (JO.arith rfl rfl rfl) rfl rfl (J.cons (.none rfl) (JO.move rfl) rfl rfl (J.cons (.none rfl) (JO.arith rfl rfl rfl) rfl rfl (J.cons (.none rfl) (JO.arith rfl rfl rfl) rfl rfl (J.cons (.none rfl) (JO.assign rfl) rfl rfl (J.fin (Sw.Sub.mk id (.cons rfl (.of_eq rfl) (.cons rfl (.of_eq rfl) (.cons rfl (.of_eq rfl) .nil))) .nil rfl))))))))) ?_
      refine W.fall ?_
      refine W.reg (σ' := ⟨[(0, .v (Enc.sl (Enc.int .u8)) a0), (3, .v (Enc.int .u64) (ar .mul .u64 (ar .add .u64 (ar .sub .u64 s51.1 (ar .rem .u64 s51.1 (256 : Int))) x96) (1099511628211 : Int))), (4, .v (Enc.int .i64) (ar .add .i64 s51.2 (1 : Int)))], []⟩) (J.cons (.none rfl) (JO.move rfl) rfl rfl (J.cons (.none rfl) (JO.arith rfl rfl rfl) rfl rfl (J.cons (.none rfl) (JO.assign rfl) rfl rfl (J.fin (Sw.Sub.mk id (.cons rfl (.of_eq rfl) (.cons rfl (.of_eq rfl) (.cons rfl (.of_eq rfl) .nil))) .nil rfl))))) ?_
      obtain rfl := Option.some.inj h
      exact W.next (Sw.Sub.mk id (.cons rfl (.of_eq rfl) (.cons rfl (.of_eq rfl) (.cons rfl (.of_eq rfl) .nil))) .nil rfl)
    intro s89 r95 h
    refine W.seq ?_
    refine W.seq ?_
    refine W.reg (σ' := ⟨[(0, .v (Enc.sl (Enc.int .u8)) a0), (3, .v (Enc.int .u64) s51.1), (4, .v (Enc.int .i64) s51.2), (5, .v (Enc.int .u64) (ar .rem .u64 s51.1 (256 : Int))), (6, .v (Enc.int .u64) s89.1), (7, .v (Enc.int .u64) s89.2), (17, .v Enc.bool (cm .lss s89.2 (256 : Int)))], []⟩) (J.cons (.none rfl) (JO.move rfl) rfl rfl (J.cons (.none rfl) (JO.cmp rfl rfl rfl) rfl rfl (J.fin (Sw.Sub.mk id (.cons rfl (.of_eq rfl) (.cons rfl (.of_eq rfl) (.cons rfl (.of_eq rfl) (.cons rfl (.of_eq rfl) (.cons rfl (.of_eq rfl) (.cons rfl (.of_eq rfl) (.cons rfl (.of_eq rfl) .nil))))))) .nil rfl)))) ?_
    rcases Bool.eq_false_or_eq_true (cm .lss s89.2 (256 : Int)) with hc97 | hc97
    · replace h := cond_t hc97 h
      refine W.condT rfl hc97 ?_
      refine W.skip ?_
      refine W.seq ?_
      refine W.block ?_
      refine W.seq ?_
      obtain ⟨u98, hu98, h⟩ := bind_e h
      obtain ⟨z99, hz99, h⟩ := bind_e h
      obtain ⟨u100, hu100, h⟩ := bind_e h
      refine W.dr2 (σ' := ⟨[(0, .v (Enc.sl (Enc.int .u8)) a0), (3, .v (Enc.int .u64) s51.1), (4, .v (Enc.int .i64) s51.2), (5, .v (Enc.int .u64) (ar .rem .u64 s51.1 (256 : Int))), (6, .v (Enc.int .u64) s89.1), (7, .v (Enc.int .u64) s89.2), (32, .v Enc.bool (cm .neq (ar .rem .u64 (ar .quo .u64 (ar .rem .u64 s51.1 (256 : Int)) s89.2) (2 : Int)) (ar .rem .u64 (ar .quo .u64 z99 s89.2) (2 : Int))))], []⟩) 13 [0, 0, 3, 7, 0, 0, 48, 112, 240, 0, 1008, 2032, 4095] mixed (by exact (.cons (.none rfl) (JO.move rfl) rfl rfl (.cons (.none rfl) (JO.move rfl) rfl rfl (.cons (.none rfl) (JO.div (.inl rfl) (nz_some hu98) rfl rfl) rfl rfl (.cons (.none rfl) (JO.div (.inr rfl) (by decide) rfl rfl) rfl rfl (.cons (.none rfl) (JO.move rfl) rfl rfl (.cons (.none rfl) (JO.move rfl) rfl rfl (.cons (.none rfl) (JO.idx hz99 rfl rfl Try.runUnderlying40 Try.sizeOf5) rfl rfl (.cons (.none rfl) (JO.loadPst rfl Try.isAgg5 Try.sizeOf5) rfl rfl (.cons (.none rfl) (JO.convUp Try.runUnderlying5 Try.runUnderlying67 rfl rfl) rfl rfl (.cons (.none rfl) (JO.move rfl) rfl rfl (.cons (.none rfl) (JO.div (.inl rfl) (nz_some hu100) rfl rfl) rfl rfl (.cons (.none rfl) (JO.div (.inr rfl) (by decide) rfl rfl) rfl rfl (.cons (.none rfl) (JO.cmp rfl rfl rfl) rfl rfl .nil)))))))))))))) (by exact (J.fin (Sw.Sub.mk id (.cons rfl (.of_eq rfl) (.cons rfl (.of_eq rfl) (.cons rfl (.of_eq rfl) (.cons rfl (.of_eq rfl) (.cons rfl (.of_eq rfl) (.cons rfl (.of_eq rfl) (.cons rfl (.of_eq rfl) .nil))))))) .nil rfl))) rfl (by decide +kernel) (by decide +kernel) (by decide +kernel) (by kernel_rfl) ?_
      rcases Bool.eq_false_or_eq_true (cm .neq (ar .rem .u64 (ar .quo .u64 (ar .rem .u64 s51.1 (256 : Int)) s89.2) (2 : Int)) (ar .rem .u64 (ar .quo .u64 z99 s89.2) (2 : Int))) with hc101 | hc101
      · replace h := cond_t hc101 h
        refine W.condT rfl hc101 ?_
        refine W.reg (σ' := ⟨[(0, .v (Enc.sl (Enc.int .u8)) a0), (3, .v (Enc.int .u64) s51.1), (4, .v (Enc.int .i64) s51.2), (5, .v (Enc.int .u64) (ar .rem .u64 s51.1 (256 : Int))), (6, .v (Enc.int .u64) (ar .add .u64 s89.1 s89.2)), (7, .v (Enc.int .u64) s89.2)], []⟩) (J.cons (.none rfl) (JO.move rfl) rfl rfl (J.cons (.none rfl) (JO.move rfl) rfl rfl (J.cons (.none rfl) (JO.arith rfl rfl rfl) rfl rfl (J.cons (.none rfl) (JO.assign rfl) rfl rfl (J.fin (Sw.Sub.mk id (.cons rfl (.of_eq rfl) (.cons rfl (.of_eq rfl) (.cons rfl (.of_eq rfl) (.cons rfl (.of_eq rfl) (.cons rfl (.of_eq rfl) (.cons rfl (.of_eq rfl) .nil)))))) .nil rfl)))))) ?_
        refine W.fall ?_
        refine W.reg (σ' := ⟨[(0, .v (Enc.sl (Enc.int .u8)) a0), (3, .v (Enc.int .u64) s51.1), (4, .v (Enc.int .i64) s51.2), (5, .v (Enc.int .u64) (ar .rem .u64 s51.1 (256 : Int))), (6, .v (Enc.int .u64) (ar .add .u64 s89.1 s89.2)), (7, .v (Enc.int .u64) (ar .mul .u64 s89.2 (2 : Int)))], []⟩) (J.cons (.none rfl) (JO.move rfl) rfl rfl (J.cons (.none rfl) (JO.arith rfl rfl rfl) rfl rfl (J.cons (.none rfl) (JO.assign rfl) rfl rfl (J.fin (Sw.Sub.mk id (.cons rfl (.of_eq rfl) (.cons rfl (.of_eq rfl) (.cons rfl (.of_eq rfl) (.cons rfl (.of_eq rfl) (.cons rfl (.of_eq rfl) (.cons rfl (.of_eq rfl) .nil)))))) .nil rfl))))) ?_
        obtain rfl := Option.some.inj h
        exact W.next (Sw.Sub.mk id (.cons rfl (.of_eq rfl) (.cons rfl (.of_eq rfl) (.cons rfl (.of_eq rfl) (.cons rfl (.of_eq rfl) (.cons rfl (.of_eq rfl) (.cons rfl (.of_eq rfl) .nil)))))) .nil rfl)
      · replace h := cond_f hc101 h
        refine W.condF rfl hc101 ?_
        refine W.skip ?_
        refine W.fall ?_
        refine W.reg (σ' := ⟨[(0, .v (Enc.sl (Enc.int .u8)) a0), (3, .v (Enc.int .u64) s51.1), (4, .v (Enc.int .i64) s51.2), (5, .v (Enc.int .u64) (ar .rem .u64 s51.1 (256 : Int))), (6, .v (Enc.int .u64) s89.1), (7, .v (Enc.int .u64) (ar .mul .u64 s89.2 (2 : Int)))], []⟩) (J.cons (.none rfl) (JO.move rfl) rfl rfl (J.cons (.none rfl) (JO.arith rfl rfl rfl) rfl rfl (J.cons (.none rfl) (JO.assign rfl) rfl rfl (J.fin (Sw.Sub.mk id (.cons rfl (.of_eq rfl) (.cons rfl (.of_eq rfl) (.cons rfl (.of_eq rfl) (.cons rfl (.of_eq rfl) (.cons rfl (.of_eq rfl) (.cons rfl (.of_eq rfl) .nil)))))) .nil rfl))))) ?_
        obtain rfl := Option.some.inj h
        exact W.next (Sw.Sub.mk id (.cons rfl (.of_eq rfl) (.cons rfl (.of_eq rfl) (.cons rfl (.of_eq rfl) (.cons rfl (.of_eq rfl) (.cons rfl (.of_eq rfl) (.cons rfl (.of_eq rfl) .nil)))))) .nil rfl)
    · replace h := cond_f hc97 h
      refine W.condF rfl hc97 ?_
      refine W.exit ?_
      obtain rfl := Option.some.inj h
      exact XQ.brk (Sw.Sub.mk id (.cons rfl (.of_eq rfl) (.cons rfl (.of_eq rfl) (.cons rfl (.of_eq rfl) (.cons rfl (.of_eq rfl) (.cons rfl (.of_eq rfl) .nil))))) .nil rfl)
  · replace h := cond_f hc78 h
    refine W.condF rfl hc78 ?_
    refine W.exit ?_
    obtain rfl := Option.some.inj h
    exact XQ.brk (Sw.Sub.mk id (.cons rfl (.of_eq rfl) .nil) .nil rfl)
set_option maxRecDepth 100000 in
set_option maxHeartbeats 4000000 in
theorem con_tree_leaf {a0 : Blk} {r : Int} (h : m_tree_leaf a0 = some r) :
    Con Try.prog 76 [.v eBlk a0] (.v (Enc.int .u64) r) [] := by
  refine Con.of Try.func76 rfl Try.ntmps76 rfl ?_
  intro S w hF
  unfold m_tree_leaf at h
  refine W.seq ?_
  refine W.reg (σ' := ⟨[(1, .ptr 101 0)], [(101, .box 24 [.v eBlk a0])]⟩) (J.cons (.none rfl) (JO.box 101 rfl (.one _ _) rfl) rfl rfl (J.cons (.none rfl) (JO.assign rfl) rfl rfl (J.fin (Sw.Sub.mk id (.cons rfl (.of_eq rfl) .nil) (.box rfl (.cons (.of_eq rfl) .nil) .nil) rfl)))) ?_
  refine W.seq ?_
  obtain ⟨v1, hv1, h⟩ := bind_e h
  obtain ⟨v2, hv2, h⟩ := bind_e h
  refine W.reg (σ' := ⟨[(2, .v (Enc.int .u64) v2)], []⟩) (J.cons (.none rfl) (JO.litR (e := (Enc.int .u8)) 102 Try.runUnderlying40 Try.sizeOf5 Try.zeroValue5 rfl rfl rfl rfl (.cons (.dir rfl) .nil)) rfl rfl (J.cons (.none rfl) (JO.aslAll rfl rfl rfl Try.runUnderlying24 Try.sizeOf5) rfl rfl (J.mut (.none rfl) (JM.append 103 hv1 rfl rfl (.asl rfl rfl rfl rfl) Try.runUnderlying40 Try.typeInfo5 Try.sizeOf5 rfl rfl rfl rfl rfl) (J.cons (.none rfl) (JO.callL0 (con_tree_Digest hv2) Try.call37 (.cons (.ref rfl rfl) .nil) FlatS.v) rfl rfl (J.cons (.none rfl) (JO.assign rfl) rfl rfl (J.fin (Sw.Sub.mk id (.cons rfl (.of_eq rfl) .nil) .nil rfl))))))) ?_
  refine W.ret ?_
  obtain rfl := Option.some.inj h
  exact XQ.sub (σ' := ⟨[(2, .v (Enc.int .u64) v2)], []⟩) (Sw.Sub.mk id (.cons rfl (.of_eq rfl) .nil) .nil rfl) (XQ.ret1 hF noR rfl (RV.tmp rfl) .nil rfl)
set_option maxRecDepth 100000 in
set_option maxHeartbeats 4000000 in
theorem con_slices_Chunk_uint64_uint64 {a0 : (List Int)} {a1 : Int} {r : ((List Int) × Int)} (h : m_slices_Chunk_uint64_uint64 a0 a1 = some r) :
    Con Try.prog 94 [.v (Enc.sl (Enc.int .u64)) a0, .v (Enc.int .i64) a1] (.fnc 97 [.pst (Enc.sl (Enc.int .u64)) r.1, .pst (Enc.int .i64) r.2]) [] := by
  refine Con.of Try.func94 rfl Try.ntmps94 rfl ?_
  intro S w hF
  unfold m_slices_Chunk_uint64_uint64 at h
  refine W.seq ?_
  refine W.reg (σ' := ⟨[(2, .ptr 101 0), (3, .ptr 102 0)], [(101, .box 95 [.v (Enc.sl (Enc.int .u64)) a0]), (102, .box 3 [.v (Enc.int .i64) a1])]⟩) (J.cons (.none rfl) (JO.box 101 rfl (.one _ _) rfl) rfl rfl (J.cons (.none rfl) (JO.box 102 rfl (.one _ _) rfl) rfl rfl (J.cons (.none rfl) (JO.assignCst rfl) rfl rfl (J.fin (Sw.Sub.mk id (.cons rfl (.of_eq rfl) (.cons rfl (.of_eq rfl) .nil)) (.box rfl (.cons (.of_eq rfl) .nil) (.box rfl (.cons (.of_eq rfl) .nil) .nil)) rfl))))) ?_
  refine W.seq ?_
  refine W.seq ?_
  refine W.reg (σ' := ⟨[(2, .ptr 101 0), (3, .ptr 102 0), (6, .v Enc.bool (cm .lss a1 (1 : Int)))], [(101, .box 95 [.v (Enc.sl (Enc.int .u64)) a0]), (102, .box 3 [.v (Enc.int .i64) a1])]⟩) (J.cons (.none rfl) (JO.load rfl rfl rfl Try.isAgg3 Try.sizeOf3) rfl rfl (J.cons (.none rfl) (JO.cmp rfl rfl rfl) rfl rfl (J.fin (Sw.Sub.mk id (.cons rfl (.of_eq rfl) (.cons rfl (.of_eq rfl) (.cons rfl (.of_eq rfl) .nil))) (.box rfl (.cons (.of_eq rfl) .nil) (.box rfl (.cons (.of_eq rfl) .nil) .nil)) rfl)))) ?_
  obtain ⟨k2, hk2, h⟩ := jp_elim h
  refine W.jn (fun x3 : Unit => ⟨[(2, .ptr 101 0), (3, .ptr 102 0)], [(101, .box 95 [.v (Enc.sl (Enc.int .u64)) a0]), (102, .box 3 [.v (Enc.int .i64) a1])]⟩) (fun x => k2 x = some r) rfl ?_ ?_ ?_
  · intro x3 h
    rw [hk2] at h
    refine W.seq ?_
    refine W.reg (σ' := ⟨[(4, .fnc 97 [.ptr 101 0, .ptr 102 0])], [(101, .box 95 [.v (Enc.sl (Enc.int .u64)) a0]), (102, .box 3 [.v (Enc.int .i64) a1])]⟩) (J.cons (.none rfl) (JO.makeFunc (.cons (.dir rfl) (.cons (.dir rfl) .nil))) rfl rfl (J.cons (.none rfl) (JO.assign rfl) rfl rfl (J.fin (Sw.Sub.mk id (.cons rfl (.of_eq rfl) .nil) (.box rfl (.cons (.of_eq rfl) .nil) (.box rfl (.cons (.of_eq rfl) .nil) .nil)) rfl)))) ?_
    refine W.ret ?_
    obtain rfl := Option.some.inj h
    exact XQ.sub (σ' := ⟨[(4, .fnc 97 [.pst (Enc.sl (Enc.int .u64)) a0, .pst (Enc.int .i64) a1])], []⟩) (Sw.Sub.mk id (.cons rfl (.fnc (.cons (.frzP rfl rfl (.cons (.of_eq rfl) .nil) (.one _ _)) (.cons (.frzP rfl rfl (.cons (.of_eq rfl) .nil) (.one _ _)) .nil))) .nil) .nil rfl) (XQ.ret1 hF noR rfl (RV.tmp rfl) .nil rfl)
  · intro hc1
    replace h := cond_t hc1 h
    cases h
  · intro hc1
    replace h := cond_f hc1 h
    refine W.skip ?_
    exact W.jfall h (Sw.Sub.mk id (.cons rfl (.of_eq rfl) (.cons rfl (.of_eq rfl) .nil)) (.box rfl (.cons (.of_eq rfl) .nil) (.box rfl (.cons (.of_eq rfl) .nil) .nil)) rfl)
set_option maxRecDepth 100000 in
set_option maxHeartbeats 4000000 in
theorem it_97 {xs : List Int} {n : Int} (hn : 1 ≤ n) (hlen : (xs.length : Int) ≤ 4294967296) (hn2 : n ≤ 4294967296) :
    IterC Try.prog 97 [.pst (Enc.sl (Enc.int .u64)) xs, .pst (Enc.int .i64) n] ((chunks n.toNat xs).map fun c => [.v (Enc.sl (Enc.int .u64)) c]) := by
  refine IterC.of2 Try.func97 rfl Try.ntmps97 rfl ?_
  intro S w ρ l Jp Jx b off b' off' I hJ0 h1 h2
  refine W.seq ?_
  refine W.reg (σ' := ⟨[(0, .v (Enc.cst (.func (.yield l) #[] #[]) rfl) ()), (1, .v (Enc.cp b off (Enc.sl (Enc.int .u64))) xs), (2, .v (Enc.cp b' off' (Enc.int .i64)) n), (4, .v (Enc.int .i64) ((0 : Nat) * n))], []⟩) (J.cons (.none rfl) (JO.assign rfl) rfl rfl (J.fin (Sub.keepE (by rfl) (by exact (.cons rfl (.cons rfl (.cons rfl (.cons (by simp [lk, AS.put]) .nil)))))))) ?_
  refine W.block ?_
  refine W.iloop I (fun k => [(0, .v (Enc.cst (.func (.yield l) #[] #[]) rfl) ()), (1, .v (Enc.cp b off (Enc.sl (Enc.int .u64))) xs), (2, .v (Enc.cp b' off' (Enc.int .i64)) n), (4, .v (Enc.int .i64) ((k : Nat) * n))]) (fun k => (.cons (@Again.flat _ _ ⟨fun h => h⟩ _ _ _ _) (.cons h1 (.cons h2 (.cons .flat .nil))))) (fun _ _ h => h) hJ0 ?_
  intro k V hJ hk
  have hm : ((chunks n.toNat xs).map fun c => ([.v (Enc.sl (Enc.int .u64)) c] : List Slot)).length = (chunks n.toNat xs).length := List.length_map ..
  refine W.seq (W.seq ?_)
  refine W.reg (σ' := ⟨[(0, .v (Enc.cst (.func (.yield l) #[] #[]) rfl) ()), (1, .v (Enc.cp b off (Enc.sl (Enc.int .u64))) xs), (2, .v (Enc.cp b' off' (Enc.int .i64)) n), (4, .v (Enc.int .i64) (k * n)), (9, .v Enc.bool (cm .lss (k * n) xs.length))], []⟩) (J.cons (.none rfl) (JO.move rfl) rfl rfl (J.cons (.none rfl) (JO.loadCp rfl Try.isAgg95 Try.sizeOf95) rfl rfl (J.cons (.none rfl) (JO.len rfl Try.runUnderlying95) rfl rfl (J.cons (.none rfl) (JO.cmp rfl rfl rfl) rfl rfl (J.fin (Sub.keepE (by rfl) (by exact (.cons rfl (.cons rfl (.cons rfl (.cons rfl (.cons rfl .nil)))))))))))) ?_
  refine W.cond rfl (fun hc => ?_) (fun hc => ?_)
  · refine W.skip ?_
    have hlt : (k : Int) * n < xs.length := by simpa [cm] using hc
    obtain ⟨hklt, hs1, hs2, hs3, hadd⟩ := chunk_facts hn hn2 hlen hlt
    have hkm : k < (chunks n.toNat xs).length := (chunks_len (by omega) xs).2 hklt
    refine W.seq ?_
    refine W.block ?_
    refine W.seq ?_
    refine W.draw (σ' := ⟨[(0, .v (Enc.cst (.func (.yield l) #[] #[]) rfl) ()), (1, .v (Enc.cp b off (Enc.sl (Enc.int .u64))) xs), (2, .v (Enc.cp b' off' (Enc.int .i64)) n), (4, .v (Enc.int .i64) (k * n)), (5, .v (Enc.int .i64) (min n ((xs.drop (k * n.toNat)).length : Int)))], []⟩) (n := 7) mixed rfl rfl (by decide +kernel) (by decide +kernel) (.cons (.none rfl) (JO.loadCp rfl Try.isAgg3 Try.sizeOf3) rfl rfl (.cons (.none rfl) (JO.loadCp rfl Try.isAgg95 Try.sizeOf95) rfl rfl (.cons (.none rfl) (JO.move rfl) rfl rfl (.cons (.none rfl) (JO.slLo hs1 rfl rfl Try.runUnderlying95 Try.sizeOf67) rfl rfl (.cons (.none rfl) (JO.len rfl Try.runUnderlying95) rfl rfl (.cons (.none rfl) (JO.gmin rfl rfl) rfl rfl (.cons (.none rfl) (JO.assign rfl) rfl rfl .nil))))))) (J.fin (Sub.keepE (by rfl) (by exact (.cons rfl (.cons rfl (.cons rfl (.cons rfl (.cons rfl .nil)))))))) ?_
    refine W.seq ?_
    refine W.iyield (σ1 := ⟨[(19, .v (Enc.cst (.func (.yield l) #[] #[]) rfl) ()), (28, .v (Enc.sl (Enc.int .u64)) ((xs.drop (k * n.toNat)).take n.toNat)), (0, .v (Enc.cst (.func (.yield l) #[] #[]) rfl) ()), (1, .v (Enc.cp b off (Enc.sl (Enc.int .u64))) xs), (2, .v (Enc.cp b' off' (Enc.int .i64)) n), (4, .v (Enc.int .i64) (k * n))], []⟩) (g2 := [(0, .v (Enc.cst (.func (.yield l) #[] #[]) rfl) ()), (1, .v (Enc.cp b off (Enc.sl (Enc.int .u64))) xs), (2, .v (Enc.cp b' off' (Enc.int .i64)) n), (4, .v (Enc.int .i64) (k * n))]) (pre := [_, _, _, _, _, _, _, _, _, _]) I hJ (item := [.v (Enc.sl (Enc.int .u64)) ((xs.drop (k * n.toNat)).take n.toNat)]) (by rw [List.getElem?_map, chunks_get (by omega) hklt]; rfl)
      (J.cons (.none rfl) (JO.move rfl) rfl rfl (J.cons (.none rfl) (JO.loadCp rfl Try.isAgg95 Try.sizeOf95) rfl rfl (J.cons (.none rfl) (JO.move rfl) rfl rfl (J.cons (.none rfl) (JO.move rfl) rfl rfl (J.cons (.none rfl) (JO.move rfl) rfl rfl (J.cons (.none rfl) (JO.arith rfl rfl rfl) rfl rfl (J.cons (.none rfl) (JO.move rfl) rfl rfl (J.cons (.none rfl) (JO.move rfl) rfl rfl (J.cons (.none rfl) (JO.arith rfl rfl rfl) rfl rfl (J.cons (.none rfl) (JO.sl3 hs2 hs3 rfl rfl rfl rfl Try.runUnderlying95 Try.sizeOf67) rfl rfl (J.fin (Sub.keepE (by rfl) (by exact (.cons rfl (.cons rfl (.cons rfl (.cons rfl (.cons rfl (.cons rfl .nil)))))))))))))))))))
      rfl (.cons (.dir rfl) .nil) rfl rfl rfl rfl (.cons (@Again.flat _ _ ⟨fun h => h⟩ _ _ _ _) (.cons h1 (.cons h2 (.cons .flat .nil)))) (.cons rfl (.cons rfl (.cons rfl (.cons rfl .nil)))) (fun V' hJ' => ?_) (fun V' hJx => ?_)
    · refine W.condF rfl rfl (W.skip (W.fall ?_))
      refine W.reg (σ' := ⟨[(0, .v (Enc.cst (.func (.yield l) #[] #[]) rfl) ()), (1, .v (Enc.cp b off (Enc.sl (Enc.int .u64))) xs), (2, .v (Enc.cp b' off' (Enc.int .i64)) n), (4, .v (Enc.int .i64) (ar .add .i64 (k * n) n))], []⟩) (J.cons (.none rfl) (JO.move rfl) rfl rfl (J.cons (.none rfl) (JO.loadCp rfl Try.isAgg3 Try.sizeOf3) rfl rfl (J.cons (.none rfl) (JO.arith rfl rfl rfl) rfl rfl (J.cons (.none rfl) (JO.assign rfl) rfl rfl (J.fin (Sub.keepE (by rfl) (by exact (.cons rfl (.cons rfl (.cons rfl (.cons rfl .nil))))))))))) ?_
      exact W.inext I hJ' (by rw [hm]; exact hkm) (by rw [hadd]; exact fun _ _ h => h)
    · refine W.condT rfl rfl (W.ret (W.istop (fn := Try.f97) I rfl hJx fun a V' h => h))
  · refine W.exit (W.iend (fn := Try.f97) I rfl hJ ?_ (fun a V' h => ?_))
    · have hge : ¬ (k : Int) * n < xs.length := by simpa [cm] using hc
      have hkn : ((k : Int) * n) = ((k * n.toNat : Nat) : Int) := by push_cast; rw [Int.toNat_of_nonneg (by omega)]
      have : ¬ k * n.toNat < xs.length := fun h => hge (by rw [hkn]; exact_mod_cast h)
      rw [hm] at hk ⊢
      have := mt (chunks_len (n := n.toNat) (by omega) xs (k := k)).1 this
      omega
    · simp only [Exit.inBlock, if_true]; exact h

set_option maxRecDepth 100000 in
set_option maxHeartbeats 4000000 in
theorem con_tree_node {a0 : (List Int)} {r : Int} (h : m_tree_node a0 = some r) :
    Con Try.prog 85 [.v (Enc.sl (Enc.int .u64)) a0] (.v (Enc.int .u64) r) [] := by
  refine Con.of Try.func85 rfl Try.ntmps85 rfl ?_
  intro S w hF
  unfold m_tree_node at h
  refine W.seq ?_
  refine W.reg (σ' := ⟨[(0, .v (Enc.sl (Enc.int .u64)) a0)], []⟩) (J.cons (.none rfl) (JO.assign rfl) rfl rfl (J.fin (Sw.Sub.mk id (.cons rfl (.of_eq rfl) .nil) .nil rfl))) ?_
  refine W.seq ?_
  refine W.reg (σ' := ⟨[(0, .v (Enc.sl (Enc.int .u64)) a0), (3, .ref 101)], [(101, .arr 5 (Enc.int .u8) ([(1 : Int)] : (List Int)))]⟩) (J.cons (.none rfl) (JO.litR (e := (Enc.int .u8)) 101 Try.runUnderlying40 Try.sizeOf5 Try.zeroValue5 rfl rfl rfl rfl (.cons (.dir rfl) .nil)) rfl rfl (J.cons (.none rfl) (JO.assign rfl) rfl rfl (J.fin (Sw.Sub.mk id (.cons rfl (.of_eq rfl) (.cons rfl (.of_eq rfl) .nil)) (.arr rfl .nil) rfl)))) ?_
  refine W.seq ?_
  refine W.seq ?_
  refine W.reg (σ' := ⟨[(3, .ref 101), (8, .v (Enc.sl (Enc.int .u64)) a0), (9, .v (Enc.int .i64) (a0.length : Int)), (10, .v (Enc.int .i64) (0 : Int))], [(101, .arr 5 (Enc.int .u8) ([(1 : Int)] : (List Int)))]⟩) (J.cons (.none rfl) (JO.move rfl) rfl rfl (J.cons (.none rfl) (JO.len rfl Try.runUnderlying95) rfl rfl (J.cons (.none rfl) (JO.move rfl) rfl rfl (J.fin (Sw.Sub.mk id (.cons rfl (.of_eq rfl) (.cons rfl (.of_eq rfl) (.cons rfl (.of_eq rfl) (.cons rfl (.of_eq rfl) .nil)))) (.arr rfl .nil) rfl))))) ?_
  obtain ⟨o58, ho58, hb58, hr58⟩ := lp_elim h
  refine W.lp (σs := fun s39 : Int × (List Int) => ⟨[(3, .ref 121), (8, .v (Enc.sl (Enc.int .u64)) a0), (9, .v (Enc.int .i64) (a0.length : Int)), (10, .v (Enc.int .i64) s39.1)], [(121, .arr 5 (Enc.int .u8) s39.2)]⟩) (fun x59 : (List Int) => ⟨[(3, .ref 121)], [(121, .arr 5 (Enc.int .u8) x59)]⟩) ho58 (Sw.Sub.mk (rn [(121, 101)]) (.cons rfl (.of_eq rfl) (.cons rfl (.of_eq rfl) (.cons rfl (.of_eq rfl) (.cons rfl (.of_eq rfl) .nil)))) (.arr rfl .nil) rfl) ?_ ?_
  · intro x59 hy
    have h := hb58 _ hy
    refine W.seq ?_
    obtain ⟨v78, hv78, h⟩ := bind_e h
    refine W.reg (σ' := ⟨[(2, .v (Enc.int .u64) v78)], []⟩) (J.cons (.none rfl) (JO.move rfl) rfl rfl (J.cons (.none rfl) (JO.callL0 (con_tree_Digest hv78) Try.call37 (.cons (.ref rfl rfl) .nil) FlatS.v) rfl rfl (J.cons (.none rfl) (JO.assign rfl) rfl rfl (J.fin (Sw.Sub.mk id (.cons rfl (.of_eq rfl) .nil) .nil rfl))))) ?_
    refine W.ret ?_
    obtain rfl := Option.some.inj h
    exact XQ.sub (σ' := ⟨[(2, .v (Enc.int .u64) v78)], []⟩) (Sw.Sub.mk id (.cons rfl (.of_eq rfl) .nil) .nil rfl) (XQ.ret1 hF noR rfl (RV.tmp rfl) .nil rfl)
  intro s39 r58 h
  refine W.seq ?_
  refine W.reg (σ' := ⟨[(3, .ref 121), (8, .v (Enc.sl (Enc.int .u64)) a0), (9, .v (Enc.int .i64) (a0.length : Int)), (10, .v (Enc.int .i64) s39.1), (11, .v Enc.bool (cm .lss s39.1 (a0.length : Int)))], [(121, .arr 5 (Enc.int .u8) s39.2)]⟩) (J.cons (.none rfl) (JO.cmp rfl rfl rfl) rfl rfl (J.fin (Sw.Sub.mk id (.cons rfl (.of_eq rfl) (.cons rfl (.of_eq rfl) (.cons rfl (.of_eq rfl) (.cons rfl (.of_eq rfl) (.cons rfl (.of_eq rfl) .nil))))) (.arr rfl .nil) rfl))) ?_
  refine W.seq ?_
  rcases Bool.eq_false_or_eq_true (cm .lss s39.1 (a0.length : Int)) with hc60 | hc60
  · replace h := cond_t hc60 h
    refine W.condT rfl hc60 ?_
    refine W.skip ?_
    refine W.seq ?_
    refine W.block ?_
    refine W.seq ?_
    obtain ⟨z61, hz61, h⟩ := bind_e h
    refine W.reg (σ' := ⟨[(3, .ref 121), (5, .v (Enc.int .u64) z61), (8, .v (Enc.sl (Enc.int .u64)) a0), (9, .v (Enc.int .i64) (a0.length : Int)), (10, .v (Enc.int .i64) s39.1)], [(121, .arr 5 (Enc.int .u8) s39.2)]⟩) (J.cons (.none rfl) (JO.idx hz61 rfl rfl Try.runUnderlying95 Try.sizeOf67) rfl rfl (J.cons (.none rfl) (JO.loadPst rfl Try.isAgg67 Try.sizeOf67) rfl rfl (J.cons (.none rfl) (JO.assign rfl) rfl rfl (J.fin (Sw.Sub.mk id (.cons rfl (.of_eq rfl) (.cons rfl (.of_eq rfl) (.cons rfl (.of_eq rfl) (.cons rfl (.of_eq rfl) (.cons rfl (.of_eq rfl) .nil))))) (.arr rfl .nil) rfl))))) ?_
    refine W.seq ?_
    refine W.reg (σ' := ⟨[(3, .ref 121), (5, .v (Enc.int .u64) z61), (6, .v (Enc.int .i64) (56 : Int)), (8, .v (Enc.sl (Enc.int .u64)) a0), (9, .v (Enc.int .i64) (a0.length : Int)), (10, .v (Enc.int .i64) s39.1)], [(121, .arr 5 (Enc.int .u8) s39.2)]⟩) (J.cons (.none rfl) (JO.assign rfl) rfl rfl (J.fin (Sw.Sub.mk id (.cons rfl (.of_eq rfl) (.cons rfl (.of_eq rfl) (.cons rfl (.of_eq rfl) (.cons rfl (.of_eq rfl) (.cons rfl (.of_eq rfl) (.cons rfl (.of_eq rfl) .nil)))))) (.arr rfl .nil) rfl))) ?_
    obtain ⟨o73, ho73, hb73, hr73⟩ := lp_elim h
    refine W.lp (σs := fun s69 : Int × (List Int) => ⟨[(3, .ref 135), (5, .v (Enc.int .u64) z61), (6, .v (Enc.int .i64) s69.1), (8, .v (Enc.sl (Enc.int .u64)) a0), (9, .v (Enc.int .i64) (a0.length : Int)), (10, .v (Enc.int .i64) s39.1)], [(135, .arr 5 (Enc.int .u8) s69.2)]⟩) (fun x74 : (List Int) => ⟨[(3, .ref 135), (8, .v (Enc.sl (Enc.int .u64)) a0), (9, .v (Enc.int .i64) (a0.length : Int)), (10, .v (Enc.int .i64) s39.1)], [(135, .arr 5 (Enc.int .u8) x74)]⟩) ho73 (Sw.Sub.mk (rn [(135, 121)]) (.cons rfl (.of_eq rfl) (.cons rfl (.of_eq rfl) (.cons rfl (.of_eq rfl) (.cons rfl (.of_eq rfl) (.cons rfl (.of_eq rfl) (.cons rfl (.of_eq rfl) .nil)))))) (.arr rfl .nil) rfl) ?_ ?_
    · intro x74 hy
      have h := hb73 _ hy
      refine W.fall ?_
      refine W.reg (σ' := ⟨[(3, .ref 135), (8, .v (Enc.sl (Enc.int .u64)) a0), (9, .v (Enc.int .i64) (a0.length : Int)), (10, .v (Enc.int .i64) (ar .add .i64 s39.1 (1 : Int)))], [(135, .arr 5 (Enc.int .u8) x74)]⟩) (J.cons (.none rfl) (JO.arith rfl rfl rfl) rfl rfl (J.cons (.none rfl) (JO.move rfl) rfl rfl (J.fin (Sw.Sub.mk id (.cons rfl (.of_eq rfl) (.cons rfl (.of_eq rfl) (.cons rfl (.of_eq rfl) (.cons rfl (.of_eq rfl) .nil)))) (.arr rfl .nil) rfl)))) ?_
      obtain rfl := Option.some.inj h
      exact W.next (Sw.Sub.mk (rn [(121, 135)]) (.cons rfl (.of_eq rfl) (.cons rfl (.of_eq rfl) (.cons rfl (.of_eq rfl) (.cons rfl (.of_eq rfl) .nil)))) (.arr rfl .nil) rfl)
    intro s69 r73 h
    refine W.seq ?_
    refine W.seq ?_
    refine W.reg (σ' := ⟨[(3, .ref 135), (5, .v (Enc.int .u64) z61), (6, .v (Enc.int .i64) s69.1), (8, .v (Enc.sl (Enc.int .u64)) a0), (9, .v (Enc.int .i64) (a0.length : Int)), (10, .v (Enc.int .i64) s39.1), (15, .v Enc.bool (cm .geq s69.1 (0 : Int)))], [(135, .arr 5 (Enc.int .u8) s69.2)]⟩) (J.cons (.none rfl) (JO.move rfl) rfl rfl (J.cons (.none rfl) (JO.cmp rfl rfl rfl) rfl rfl (J.fin (Sw.Sub.mk id (.cons rfl (.of_eq rfl) (.cons rfl (.of_eq rfl) (.cons rfl (.of_eq rfl) (.cons rfl (.of_eq rfl) (.cons rfl (.of_eq rfl) (.cons rfl (.of_eq rfl) (.cons rfl (.of_eq rfl) .nil))))))) (.arr rfl .nil) rfl)))) ?_
    rcases Bool.eq_false_or_eq_true (cm .geq s69.1 (0 : Int)) with hc75 | hc75
    · replace h := cond_t hc75 h
      refine W.condT rfl hc75 ?_
      refine W.skip ?_
      refine W.seq ?_
      refine W.block ?_
      obtain ⟨u76, hu76, h⟩ := bind_e h
      obtain ⟨v77, hv77, h⟩ := bind_e h
      refine W.reg (σ' := ⟨[(3, .ref 137), (5, .v (Enc.int .u64) z61), (6, .v (Enc.int .i64) s69.1), (8, .v (Enc.sl (Enc.int .u64)) a0), (9, .v (Enc.int .i64) (a0.length : Int)), (10, .v (Enc.int .i64) s39.1)], [(137, .arr 5 (Enc.int .u8) v77)]⟩) (J.cons (.none rfl) (JO.move rfl) rfl rfl (J.cons (.none rfl) (JO.move rfl) rfl rfl (J.cons (.none rfl) (JO.move rfl) rfl rfl (J.cons (.none rfl) (JO.shift (.inr rfl) (nn_some hu76) rfl rfl) rfl rfl (J.cons (.none rfl) (JO.conv Try.runUnderlying67 Try.runUnderlying5 rfl) rfl rfl (J.cons (.none rfl) (JO.lit (e := (Enc.int .u8)) Try.runUnderlying40 Try.sizeOf5 Try.zeroValue5 rfl rfl rfl rfl (.cons (.dir rfl) .nil)) rfl rfl (J.mut (.none rfl) (JM.append 137 hv77 rfl rfl (.sl rfl) Try.runUnderlying40 Try.typeInfo5 Try.sizeOf5 rfl rfl rfl rfl rfl) (J.cons (.none rfl) (JO.assign rfl) rfl rfl (J.fin (Sw.Sub.mk id (.cons rfl (.of_eq rfl) (.cons rfl (.of_eq rfl) (.cons rfl (.of_eq rfl) (.cons rfl (.of_eq rfl) (.cons rfl (.of_eq rfl) (.cons rfl (.of_eq rfl) .nil)))))) (.arr rfl .nil) rfl)))))))))) ?_
      refine W.fall ?_
      refine W.reg (σ' := ⟨[(3, .ref 137), (5, .v (Enc.int .u64) z61), (6, .v (Enc.int .i64) (ar .sub .i64 s69.1 (8 : Int))), (8, .v (Enc.sl (Enc.int .u64)) a0), (9, .v (Enc.int .i64) (a0.length : Int)), (10, .v (Enc.int .i64) s39.1)], [(137, .arr 5 (Enc.int .u8) v77)]⟩) (J.cons (.none rfl) (JO.move rfl) rfl rfl (J.cons (.none rfl) (JO.arith rfl rfl rfl) rfl rfl (J.cons (.none rfl) (JO.assign rfl) rfl rfl (J.fin (Sw.Sub.mk id (.cons rfl (.of_eq rfl) (.cons rfl (.of_eq rfl) (.cons rfl (.of_eq rfl) (.cons rfl (.of_eq rfl) (.cons rfl (.of_eq rfl) (.cons rfl (.of_eq rfl) .nil)))))) (.arr rfl .nil) rfl))))) ?_
      obtain rfl := Option.some.inj h
      exact W.next (Sw.Sub.mk (rn [(135, 137)]) (.cons rfl (.of_eq rfl) (.cons rfl (.of_eq rfl) (.cons rfl (.of_eq rfl) (.cons rfl (.of_eq rfl) (.cons rfl (.of_eq rfl) (.cons rfl (.of_eq rfl) .nil)))))) (.arr rfl .nil) rfl)
    · replace h := cond_f hc75 h
      refine W.condF rfl hc75 ?_
      refine W.exit ?_
      obtain rfl := Option.some.inj h
      exact XQ.brk (Sw.Sub.mk id (.cons rfl (.of_eq rfl) (.cons rfl (.of_eq rfl) (.cons rfl (.of_eq rfl) (.cons rfl (.of_eq rfl) .nil)))) (.arr rfl .nil) rfl)
  · replace h := cond_f hc60 h
    refine W.condF rfl hc60 ?_
    refine W.exit ?_
    obtain rfl := Option.some.inj h
    exact XQ.brk (Sw.Sub.mk id (.cons rfl (.of_eq rfl) .nil) (.arr rfl .nil) rfl)
set_option maxRecDepth 100000 in
set_option maxHeartbeats 4000000 in
theorem con_tree_above {a0 : (List Int)} {r : (List Int)} (h : m_tree_above a0 = some r) :
    Con Try.prog 77 [.v (Enc.sl (Enc.int .u64)) a0] (.v (Enc.sl (Enc.int .u64)) r) [] := by
  refine Con.of Try.func77 rfl Try.ntmps77 rfl ?_
  intro S w hF
  unfold m_tree_above at h
  refine W.seq ?_
  refine W.reg (σ' := ⟨[(0, .v (Enc.sl (Enc.int .u64)) a0), (2, .v (Enc.sl (Enc.int .u64)) ([] : (List Int)))], []⟩) (J.cons (.none rfl) (JO.assignNil (Enc.int .u64)) rfl rfl (J.fin (Sw.Sub.mk id (.cons rfl (.of_eq rfl) (.cons rfl (.of_eq rfl) .nil)) .nil rfl))) ?_
  refine W.seq ?_
  refine W.reg (σ' := ⟨[(0, .v (Enc.sl (Enc.int .u64)) a0), (2, .v (Enc.sl (Enc.int .u64)) ([] : (List Int))), (3, .ptr 101 0)], [(101, .box 95 [.ref 102]), (102, .arr 67 (Enc.int .u64) ([] : (List Int)))]⟩) (J.cons (.none rfl) (JO.allocN (new := [(102, .arr 67 (Enc.int .u64) ([] : (List Int)))]) 101 Try.zeroValue95 rfl (.ref 102 rfl .nil) (.cons .nil) rfl rfl) rfl rfl (J.fin (Sw.Sub.mk id (.cons rfl (.of_eq rfl) (.cons rfl (.of_eq rfl) (.cons rfl (.of_eq rfl) .nil))) (.box rfl (.cons (.of_eq rfl) .nil) (.arr rfl .nil)) rfl))) ?_
  refine W.seq ?_
  refine W.seq ?_
  obtain ⟨v1, hv1, h⟩ := bind_e h
  refine W.reg (σ' := ⟨[(2, .v (Enc.sl (Enc.int .u64)) ([] : (List Int))), (3, .ptr 101 0), (6, .fnc 97 [.pst (Enc.sl (Enc.int .u64)) v1.1, .pst (Enc.int .i64) v1.2])], [(101, .box 95 [.ref 102]), (102, .arr 67 (Enc.int .u64) ([] : (List Int)))]⟩) (J.cons (.none rfl) (JO.move rfl) rfl rfl (J.cons (.none rfl) (JO.call0 (con_slices_Chunk_uint64_uint64 hv1) Try.call94 (.cons (.dir rfl) (.cons (.dir rfl) .nil))) rfl rfl (J.fin (Sw.Sub.mk id (.cons rfl (.of_eq rfl) (.cons rfl (.of_eq rfl) (.cons rfl (.of_eq rfl) .nil))) (.box rfl (.cons (.of_eq rfl) .nil) (.arr rfl .nil)) rfl)))) ?_
  refine W.block ?_
  obtain ⟨u14, hu14, h⟩ := bind_e h
  obtain ⟨u15, hu15, h⟩ := bind_e h
  obtain ⟨o2, ho2, hb2, hx2⟩ := rg_elim h
  refine W.range (g := [(2, .v (Enc.sl (Enc.int .u64)) ([] : (List Int))), (3, .ptr 101 0), (6, .fnc 97 [.pst (Enc.sl (Enc.int .u64)) v1.1, .pst (Enc.int .i64) v1.2])]) (ds0 := [(101, .box 95 [.ref 111]), (111, .arr 67 (Enc.int .u64) ([] : (List Int)))]) (L := [101]) (fun z3 : (List Int) => [.v (Enc.sl (Enc.int .u64)) z3]) (fun A2 (s10 : (List Int)) => [(101, .box 95 [.ref 111] (some (A2 101))), (111, .arr 67 (Enc.int .u64) s10)]) (fun _ (z : Empty) => nomatch z) (fun A2 z3 s10 => ⟨[(2, .v (Enc.sl (Enc.int .u64)) ([] : (List Int))), (3, .ptr 101 0), (4, .v (Enc.sl (Enc.int .u64)) z3), (6, .fnc 97 [.pst (Enc.sl (Enc.int .u64)) v1.1, .pst (Enc.int .i64) v1.2])], [(101, .box 95 [.ref 111] (some (A2 101))), (111, .arr 67 (Enc.int .u64) s10)]⟩) hF rfl ho2 (Sw.Sub.mk (rn [(101, 101), (111, 102)]) (.cons rfl (.of_eq rfl) (.cons rfl (.of_eq rfl) (.cons rfl (.of_eq rfl) .nil))) (.box rfl (.cons (.of_eq rfl) .nil) (.arr rfl .nil)) rfl) (fun _ => rfl) rfl (it_97 (chkn_some hu15).1 (small_some hu14) (chkn_some hu15).2) Try.call97 (fun _ => rfl) rfl (fun _ => rfl) rfl (fun _ _ => (.cons rfl .nil)) (fun _ z => nomatch z) ?_ ?_ ?_ ?_
  · intro A2 S w R l z3 s10
    refine W.reg (σ' := ⟨[(2, .v (Enc.sl (Enc.int .u64)) ([] : (List Int))), (3, .ptr 101 0), (4, .v (Enc.sl (Enc.int .u64)) z3), (6, .fnc 97 [.pst (Enc.sl (Enc.int .u64)) v1.1, .pst (Enc.int .i64) v1.2])], [(101, .box 95 [.ref 111] (some (A2 101))), (111, .arr 67 (Enc.int .u64) s10)]⟩) (J.cons (.none rfl) (JO.assign rfl) rfl rfl (J.fin (Sw.Sub.mk id (.cons rfl (.of_eq rfl) (.cons rfl (.of_eq rfl) (.cons rfl (.of_eq rfl) (.cons rfl (.of_eq rfl) .nil)))) (.box rfl (.cons (.of_eq rfl) .nil) (.arr rfl .nil)) rfl))) ?_
    exact W.aq (Sw.Sub.mk id (.cons rfl (.of_eq rfl) (.cons rfl (.of_eq rfl) (.cons rfl (.of_eq rfl) (.cons rfl (.of_eq rfl) .nil)))) (.box rfl (.cons (.of_eq rfl) .nil) (.arr rfl .nil)) rfl)
  · intro A2 S w R l z3 s10 r2 h
    refine W.block ?_
    obtain ⟨v11, hv11, h⟩ := bind_e h
    obtain ⟨v12, hv12, h⟩ := bind_e h
    refine W.dr2 (σ' := ⟨[(2, .v (Enc.sl (Enc.int .u64)) ([] : (List Int))), (3, .ptr 101 0), (6, .fnc 97 [.pst (Enc.sl (Enc.int .u64)) v1.1, .pst (Enc.int .i64) v1.2])], [(101, .box 95 [.ref 113] (some (A2 101))), (113, .arr 67 (Enc.int .u64) v12)]⟩) 4 [0, 0, 2, 6, 15, 31] mixed (by exact (.cons (.none rfl) (JO.load rfl rfl rfl Try.isAgg95 Try.sizeOf95) rfl rfl (.cons (.none rfl) (JO.move rfl) rfl rfl (.cons (.none rfl) (JO.call0 (con_tree_node hv11) Try.call85 (.cons (.dir rfl) .nil)) rfl rfl (.cons (.none rfl) (JO.lit (e := (Enc.int .u64)) Try.runUnderlying95 Try.sizeOf67 Try.zeroValue67 rfl rfl rfl rfl (.cons (.dir rfl) .nil)) rfl rfl .nil))))) (by exact (J.mut (.none rfl) (JM.append 113 hv12 rfl rfl (.sl rfl) Try.runUnderlying95 Try.typeInfo67 Try.sizeOf67 rfl rfl rfl rfl rfl) (J.mut (.none rfl) (JM.store rfl rfl rfl rfl rfl rfl rfl Try.sizeOf95) (J.fin (Sw.Sub.mk id (.cons rfl (.of_eq rfl) (.cons rfl (.of_eq rfl) (.cons rfl (.of_eq rfl) .nil))) (.box rfl (.cons (.of_eq rfl) .nil) (.arr rfl .nil)) rfl))))) rfl (by decide +kernel) (by decide +kernel) (by decide +kernel) (by kernel_rfl) ?_
    refine W.fall ?_
    obtain rfl := Option.some.inj h
    exact W.rnext (Sw.Sub.mk (rn [(101, 101), (111, 113)]) .nil (.box rfl (.cons (.of_eq rfl) .nil) (.arr rfl .nil)) rfl)
  · intro A2 x13 hy S w R df hF
    have h := hb2 _ hy
    refine W.fall ?_
    refine W.seq ?_
    refine W.reg (σ' := ⟨[(2, .ref 111)], [(111, .arr 67 (Enc.int .u64) x13)]⟩) (J.cons (.none rfl) (JO.load rfl rfl rfl Try.isAgg95 Try.sizeOf95) rfl rfl (J.cons (.none rfl) (JO.assign rfl) rfl rfl (J.fin (Sw.Sub.mk id (.cons rfl (.of_eq rfl) .nil) (.arr rfl .nil) rfl)))) ?_
    refine W.ret ?_
    obtain rfl := Option.some.inj h
    exact XQ.sub (σ' := ⟨[(2, .v (Enc.sl (Enc.int .u64)) x13)], []⟩) (Sw.Sub.mk id (.cons rfl (.frz rfl rfl) .nil) .nil rfl) (XQ.ret1 hF noR rfl (RV.tmp rfl) .nil rfl)
  · exact fun _ z => nomatch z
set_option maxRecDepth 100000 in
set_option maxHeartbeats 4000000 in
theorem con_tree_Of {a0 : (List Blk)} {r : ((List (List Int))) × (Option Int)} (h : m_tree_Of a0 = some r) :
    Con Try.prog 39 [.v (Enc.sl eBlk) a0] (.tup [.v (Enc.one1 (Enc.sl (Enc.sl (Enc.int .u64)))) r.1, .v (Enc.err ET) r.2]) [] := by
  refine Con.of Try.func39 rfl Try.ntmps39 rfl ?_
  intro S w hF
  unfold m_tree_Of at h
  refine W.seq ?_
  refine W.reg (σ' := ⟨[(0, .v (Enc.sl eBlk) a0), (2, .ptr 101 0)], [(101, .box 71 [.v (Enc.sl (Enc.sl (Enc.int .u64))) ([] : (List (List Int)))])]⟩) (J.cons (.none rfl) (JO.alloc 101 Try.zeroValue71 rfl (.cons (Z.sl (Enc.sl (Enc.int .u64))) .nil) rfl) rfl rfl (J.cons (.none rfl) (JO.assignNilE ET) rfl rfl (J.fin (Sw.Sub.mk id (.cons rfl (.of_eq rfl) (.cons rfl (.of_eq rfl) .nil)) (.box rfl (.cons (.of_eq rfl) .nil) .nil) rfl)))) ?_
  refine W.seq ?_
  refine W.seq ?_
  obtain ⟨x2, hx, h⟩ := bind_e h
  refine W.reg (σ' := ⟨[(0, .v (Enc.sl eBlk) a0), (2, .ptr 101 0), (15, .v Enc.bool x2)], [(101, .box 71 [.v (Enc.sl (Enc.sl (Enc.int .u64))) ([] : (List (List Int)))])]⟩) ?_ ?_
  · rcases Bool.eq_false_or_eq_true (cm .lss (a0.length : Int) (1 : Int)) with hc3 | hc3
    · replace hx := cond_t hc3 hx
      obtain rfl := Option.some.inj hx
      exact (J.cons (.none rfl) (JO.move rfl) rfl rfl (J.cons (.none rfl) (JO.len rfl Try.runUnderlying22) rfl rfl (J.cons (.none rfl) (JO.cmp rfl rfl rfl) rfl rfl (J.cons (.none rfl) (JO.move rfl) rfl rfl (J.left (GK.unmet 11 rfl rfl rfl hc3) rfl (J.left (GK.unmet 11 rfl rfl rfl hc3) rfl (J.left (GK.unmet 11 rfl rfl rfl hc3) rfl (J.cons (.none rfl) (JO.pT hc3 rfl rfl) rfl rfl (J.fin (Sw.Sub.mk id (.cons rfl (.of_eq rfl) (.cons rfl (.of_eq rfl) (.cons rfl (.of_eq rfl) .nil))) (.box rfl (.cons (.of_eq rfl) .nil) .nil) rfl))))))))))
    · replace hx := cond_f hc3 hx
      obtain rfl := Option.some.inj hx
      exact (J.cons (.none rfl) (JO.move rfl) rfl rfl (J.cons (.none rfl) (JO.len rfl Try.runUnderlying22) rfl rfl (J.cons (.none rfl) (JO.cmp rfl rfl rfl) rfl rfl (J.cons (.none rfl) (JO.move rfl) rfl rfl (J.cons (GK.met 11 rfl rfl rfl hc3) (JO.move rfl) rfl rfl (J.cons (GK.met 11 rfl rfl rfl hc3) (JO.len rfl Try.runUnderlying22) rfl rfl (J.cons (GK.met 11 rfl rfl rfl hc3) (JO.cmp rfl rfl rfl) rfl rfl (J.cons (.none rfl) (JO.pF hc3 rfl rfl) rfl rfl (J.fin (Sw.Sub.mk id (.cons rfl (.of_eq rfl) (.cons rfl (.of_eq rfl) (.cons rfl (.of_eq rfl) .nil))) (.box rfl (.cons (.of_eq rfl) .nil) .nil) rfl))))))))))
  rcases Bool.eq_false_or_eq_true x2 with hc4 | hc4
  · replace h := cond_t hc4 h
    refine W.condT rfl hc4 ?_
    refine W.seq ?_
    refine W.reg (σ' := ⟨[(2, .ptr 101 0), (3, .v (Enc.err ET) (some (1 : Int)))], [(101, .box 71 [.ref 102]), (102, .arr 95 (Enc.sl (Enc.int .u64)) ([] : (List (List Int))))]⟩) (J.cons (.none rfl) (JO.buildN (new := [(102, .arr 95 (Enc.sl (Enc.int .u64)) ([] : (List (List Int))))]) built71 (.ref 102 rfl .nil) (.cons .nil) rfl .nil) rfl rfl (J.cons (.none rfl) (JO.mkErr Try.runUnderlying25 rfl) rfl rfl (J.mut (.none rfl) (JM.storeAgg rfl rfl rfl rfl rfl rfl Try.sizeOf71) (J.cons (.none rfl) (JO.assign rfl) rfl rfl (J.fin (Sw.Sub.mk id (.cons rfl (.of_eq rfl) (.cons rfl (.of_eq rfl) .nil)) (.box rfl (.cons (.of_eq rfl) .nil) (.arr rfl .nil)) rfl)))))) ?_
    refine W.ret ?_
    obtain rfl := Option.some.inj h
    exact XQ.sub (σ' := ⟨[(2, .ptr 90 0), (3, .v (Enc.err ET) (some (1 : Int)))], [(90, .box 71 [.v (Enc.sl (Enc.sl (Enc.int .u64))) ([] : (List (List Int)))])]⟩) (Sw.Sub.mk (rn [(90, 101)]) (.cons rfl (.of_eq rfl) (.cons rfl (.of_eq rfl) .nil)) (.box rfl (.cons (.frz rfl rfl) .nil) .nil) rfl) (XQ.ret2 hF noR rfl (RV.cellAll rfl rfl (.one1 (.one _ _)) Try.isAgg71 Try.sizeOf71) (RV.tmp rfl) .nil rfl)
  · replace h := cond_f hc4 h
    refine W.condF rfl hc4 ?_
    refine W.skip ?_
    refine W.seq ?_
    refine W.reg (σ' := ⟨[(0, .v (Enc.sl eBlk) a0), (2, .ptr 101 0), (4, .ref 103)], [(101, .box 71 [.v (Enc.sl (Enc.sl (Enc.int .u64))) ([] : (List (List Int)))]), (103, .arr 67 (Enc.int .u64) ([] : (List Int)))]⟩) (J.cons (.none rfl) (JO.assignNilR 103 67 (Enc.int .u64)) rfl rfl (J.fin (Sw.Sub.mk id (.cons rfl (.of_eq rfl) (.cons rfl (.of_eq rfl) (.cons rfl (.of_eq rfl) .nil))) (.box rfl (.cons (.of_eq rfl) .nil) (.arr rfl .nil)) rfl))) ?_
    refine W.seq ?_
    refine W.seq ?_
    refine W.reg (σ' := ⟨[(2, .ptr 101 0), (4, .ref 103), (18, .v (Enc.sl eBlk) a0), (19, .v (Enc.int .i64) (a0.length : Int)), (20, .v (Enc.int .i64) (0 : Int))], [(101, .box 71 [.v (Enc.sl (Enc.sl (Enc.int .u64))) ([] : (List (List Int)))]), (103, .arr 67 (Enc.int .u64) ([] : (List Int)))]⟩) (J.cons (.none rfl) (JO.move rfl) rfl rfl (J.cons (.none rfl) (JO.len rfl Try.runUnderlying22) rfl rfl (J.cons (.none rfl) (JO.move rfl) rfl rfl (J.fin (Sw.Sub.mk id (.cons rfl (.of_eq rfl) (.cons rfl (.of_eq rfl) (.cons rfl (.of_eq rfl) (.cons rfl (.of_eq rfl) (.cons rfl (.of_eq rfl) .nil))))) (.box rfl (.cons (.of_eq rfl) .nil) (.arr rfl .nil)) rfl))))) ?_
    obtain ⟨o20, ho20, hb20, hr20⟩ := lp_elim h
    refine W.lp (σs := fun s15 : Int × (List Int) => ⟨[(2, .ptr 101 0), (4, .ref 113), (18, .v (Enc.sl eBlk) a0), (19, .v (Enc.int .i64) (a0.length : Int)), (20, .v (Enc.int .i64) s15.1)], [(101, .box 71 [.v (Enc.sl (Enc.sl (Enc.int .u64))) ([] : (List (List Int)))]), (113, .arr 67 (Enc.int .u64) s15.2)]⟩) (fun x21 : (List Int) => ⟨[(2, .ptr 101 0), (4, .ref 113)], [(101, .box 71 [.v (Enc.sl (Enc.sl (Enc.int .u64))) ([] : (List (List Int)))]), (113, .arr 67 (Enc.int .u64) x21)]⟩) ho20 (Sw.Sub.mk (rn [(101, 101), (113, 103)]) (.cons rfl (.of_eq rfl) (.cons rfl (.of_eq rfl) (.cons rfl (.of_eq rfl) (.cons rfl (.of_eq rfl) (.cons rfl (.of_eq rfl) .nil))))) (.box rfl (.cons (.of_eq rfl) .nil) (.arr rfl .nil)) rfl) ?_ ?_
    · intro x21 hy
      have h := hb20 _ hy
      refine W.seq ?_
      refine W.reg (σ' := ⟨[(2, .ptr 101 0), (4, .v (Enc.sl (Enc.int .u64)) x21), (7, .ptr 121 0)], [(101, .box 71 [.v (Enc.sl (Enc.sl (Enc.int .u64))) ([] : (List (List Int)))]), (121, .box 71 [.ref 120]), (120, .arr 95 (Enc.sl (Enc.int .u64)) ([x21] : (List (List Int))))]⟩) (J.cons (.none rfl) (JO.move rfl) rfl rfl (J.sub (σ' := ⟨[(2, .ptr 101 0), (4, .v (Enc.sl (Enc.int .u64)) x21), (30, .v (Enc.sl (Enc.int .u64)) x21)], [(101, .box 71 [.v (Enc.sl (Enc.sl (Enc.int .u64))) ([] : (List (List Int)))])]⟩) (Sw.Sub.mk id (.cons rfl (.of_eq rfl) (.cons rfl (.frz rfl rfl) (.cons rfl (.frz rfl rfl) .nil))) (.box rfl (.cons (.of_eq rfl) .nil) .nil) rfl) (J.cons (.none rfl) (JO.litR (e := (Enc.sl (Enc.int .u64))) 120 Try.runUnderlying69 Try.sizeOf95 Try.zeroValue95 rfl rfl rfl rfl (.cons (.dir rfl) .nil)) rfl rfl (J.cons (.none rfl) (JO.build built71 (.cons (Z.sl (Enc.sl (Enc.int .u64))) .nil) (.cons rfl (.dir rfl) rfl rfl rfl rfl .nil)) rfl rfl (J.cons (.none rfl) (JO.allocN (new := [(122, .arr 95 (Enc.sl (Enc.int .u64)) ([] : (List (List Int))))]) 121 Try.zeroValue71 rfl (.ref 122 rfl .nil) (.cons .nil) rfl rfl) rfl rfl (J.mut (.none rfl) (JM.storeAgg rfl rfl rfl rfl rfl rfl Try.sizeOf71) (J.fin (Sw.Sub.mk id (.cons rfl (.of_eq rfl) (.cons rfl (.of_eq rfl) (.cons rfl (.of_eq rfl) .nil))) (.box rfl (.cons (.of_eq rfl) .nil) (.box rfl (.cons (.of_eq rfl) .nil) (.arr rfl .nil))) rfl)))))))) ?_
      refine W.seq ?_
      obtain ⟨o38, ho38, hb38, hr38⟩ := lp_elim h
      refine W.lp (σs := fun s34 : (List Int) × (List (List Int)) => ⟨[(2, .ptr 101 0), (4, .v (Enc.sl (Enc.int .u64)) s34.1), (7, .ptr 121 0)], [(101, .box 71 [.v (Enc.sl (Enc.sl (Enc.int .u64))) ([] : (List (List Int)))]), (121, .box 71 [.ref 130]), (130, .arr 95 (Enc.sl (Enc.int .u64)) s34.2)]⟩) (fun x39 : (List (List Int)) => ⟨[(2, .ptr 101 0), (7, .ptr 121 0)], [(101, .box 71 [.v (Enc.sl (Enc.sl (Enc.int .u64))) ([] : (List (List Int)))]), (121, .box 71 [.ref 130]), (130, .arr 95 (Enc.sl (Enc.int .u64)) x39)]⟩) ho38 (Sw.Sub.mk (rn [(101, 101), (121, 121), (130, 120)]) (.cons rfl (.of_eq rfl) (.cons rfl (.of_eq rfl) (.cons rfl (.of_eq rfl) .nil))) (.box rfl (.cons (.of_eq rfl) .nil) (.box rfl (.cons (.of_eq rfl) .nil) (.arr rfl .nil))) rfl) ?_ ?_
      · intro x39 hy
        have h := hb38 _ hy
        refine W.seq ?_
        refine W.reg (σ' := ⟨[(2, .ptr 101 0), (3, .v (Enc.err ET) (none : Option Int))], [(101, .box 71 [.ref 130]), (130, .arr 95 (Enc.sl (Enc.int .u64)) x39)]⟩) (J.cons (.none rfl) (JO.loadAgg rfl rfl rfl Try.isAgg71 Try.sizeOf71) rfl rfl (J.mut (.none rfl) (JM.storeAgg rfl rfl rfl rfl rfl rfl Try.sizeOf71) (J.cons (.none rfl) (JO.assignNilE ET) rfl rfl (J.fin (Sw.Sub.mk id (.cons rfl (.of_eq rfl) (.cons rfl (.of_eq rfl) .nil)) (.box rfl (.cons (.of_eq rfl) .nil) (.arr rfl .nil)) rfl))))) ?_
        refine W.ret ?_
        obtain rfl := Option.some.inj h
        exact XQ.sub (σ' := ⟨[(2, .ptr 90 0), (3, .v (Enc.err ET) (none : Option Int))], [(90, .box 71 [.v (Enc.sl (Enc.sl (Enc.int .u64))) x39])]⟩) (Sw.Sub.mk (rn [(90, 101)]) (.cons rfl (.of_eq rfl) (.cons rfl (.of_eq rfl) .nil)) (.box rfl (.cons (.frz rfl rfl) .nil) .nil) rfl) (XQ.ret2 hF noR rfl (RV.cellAll rfl rfl (.one1 (.one _ _)) Try.isAgg71 Try.sizeOf71) (RV.tmp rfl) .nil rfl)
      intro s34 r38 h
      refine W.seq ?_
      refine W.seq ?_
      refine W.reg (σ' := ⟨[(2, .ptr 101 0), (4, .v (Enc.sl (Enc.int .u64)) s34.1), (7, .ptr 121 0), (35, .v Enc.bool (cm .gtr (s34.1.length : Int) (1 : Int)))], [(101, .box 71 [.v (Enc.sl (Enc.sl (Enc.int .u64))) ([] : (List (List Int)))]), (121, .box 71 [.ref 130]), (130, .arr 95 (Enc.sl (Enc.int .u64)) s34.2)]⟩) (J.cons (.none rfl) (JO.move rfl) rfl rfl (J.cons (.none rfl) (JO.len rfl Try.runUnderlying95) rfl rfl (J.cons (.none rfl) (JO.cmp rfl rfl rfl) rfl rfl (J.fin (Sw.Sub.mk id (.cons rfl (.of_eq rfl) (.cons rfl (.of_eq rfl) (.cons rfl (.of_eq rfl) (.cons rfl (.of_eq rfl) .nil)))) (.box rfl (.cons (.of_eq rfl) .nil) (.box rfl (.cons (.of_eq rfl) .nil) (.arr rfl .nil))) rfl))))) ?_
      rcases Bool.eq_false_or_eq_true (cm .gtr (s34.1.length : Int) (1 : Int)) with hc40 | hc40
      · replace h := cond_t hc40 h
        refine W.condT rfl hc40 ?_
        refine W.skip ?_
        refine W.block ?_
        refine W.seq ?_
        obtain ⟨v41, hv41, h⟩ := bind_e h
        refine W.reg (σ' := ⟨[(2, .ptr 101 0), (4, .v (Enc.sl (Enc.int .u64)) v41), (7, .ptr 121 0)], [(101, .box 71 [.v (Enc.sl (Enc.sl (Enc.int .u64))) ([] : (List (List Int)))]), (121, .box 71 [.ref 130]), (130, .arr 95 (Enc.sl (Enc.int .u64)) s34.2)]⟩) (J.cons (.none rfl) (JO.move rfl) rfl rfl (J.cons (.none rfl) (JO.call0 (con_tree_above hv41) Try.call77 (.cons (.dir rfl) .nil)) rfl rfl (J.cons (.none rfl) (JO.assign rfl) rfl rfl (J.fin (Sw.Sub.mk id (.cons rfl (.of_eq rfl) (.cons rfl (.of_eq rfl) (.cons rfl (.of_eq rfl) .nil))) (.box rfl (.cons (.of_eq rfl) .nil) (.box rfl (.cons (.of_eq rfl) .nil) (.arr rfl .nil))) rfl))))) ?_
        obtain ⟨v42, hv42, h⟩ := bind_e h
        refine W.reg (σ' := ⟨[(2, .ptr 101 0), (4, .v (Enc.sl (Enc.int .u64)) v41), (7, .ptr 121 0)], [(101, .box 71 [.v (Enc.sl (Enc.sl (Enc.int .u64))) ([] : (List (List Int)))]), (121, .box 71 [.ref 134]), (134, .arr 95 (Enc.sl (Enc.int .u64)) v42)]⟩) (J.cons (.none rfl) (JO.fieldPtr 0 rfl Try.runUnderlying71 rfl Try.sizeOf69 rfl rfl) rfl rfl (J.cons (.none rfl) (JO.load rfl rfl rfl Try.isAgg69 Try.sizeOf69) rfl rfl (J.cons (.none rfl) (JO.move rfl) rfl rfl (J.cons (.none rfl) (JO.lit (e := (Enc.sl (Enc.int .u64))) Try.runUnderlying69 Try.sizeOf95 Try.zeroValue95 rfl rfl rfl rfl (.cons (.dir rfl) .nil)) rfl rfl (J.mut (.none rfl) (JM.append 134 hv42 rfl rfl (.sl rfl) Try.runUnderlying69 Try.typeInfo95 Try.sizeOf95 rfl rfl rfl rfl rfl) (J.cons (.none rfl) (JO.fieldPtr 0 rfl Try.runUnderlying71 rfl Try.sizeOf69 rfl rfl) rfl rfl (J.mut (.none rfl) (JM.store rfl rfl rfl rfl rfl rfl rfl Try.sizeOf69) (J.fin (Sw.Sub.mk id (.cons rfl (.of_eq rfl) (.cons rfl (.of_eq rfl) (.cons rfl (.of_eq rfl) .nil))) (.box rfl (.cons (.of_eq rfl) .nil) (.box rfl (.cons (.of_eq rfl) .nil) (.arr rfl .nil))) rfl))))))))) ?_
        refine W.fall ?_
        obtain rfl := Option.some.inj h
        exact W.next (Sw.Sub.mk (rn [(101, 101), (121, 121), (130, 134)]) (.cons rfl (.of_eq rfl) (.cons rfl (.of_eq rfl) (.cons rfl (.of_eq rfl) .nil))) (.box rfl (.cons (.of_eq rfl) .nil) (.box rfl (.cons (.of_eq rfl) .nil) (.arr rfl .nil))) rfl)
      · replace h := cond_f hc40 h
        refine W.condF rfl hc40 ?_
        refine W.exit ?_
        obtain rfl := Option.some.inj h
        exact XQ.brk (Sw.Sub.mk id (.cons rfl (.of_eq rfl) (.cons rfl (.of_eq rfl) .nil)) (.box rfl (.cons (.of_eq rfl) .nil) (.box rfl (.cons (.of_eq rfl) .nil) (.arr rfl .nil))) rfl)
    intro s15 r20 h
    refine W.seq ?_
    refine W.reg (σ' := ⟨[(2, .ptr 101 0), (4, .ref 113), (18, .v (Enc.sl eBlk) a0), (19, .v (Enc.int .i64) (a0.length : Int)), (20, .v (Enc.int .i64) s15.1), (21, .v Enc.bool (cm .lss s15.1 (a0.length : Int)))], [(101, .box 71 [.v (Enc.sl (Enc.sl (Enc.int .u64))) ([] : (List (List Int)))]), (113, .arr 67 (Enc.int .u64) s15.2)]⟩) (J.cons (.none rfl) (JO.cmp rfl rfl rfl) rfl rfl (J.fin (Sw.Sub.mk id (.cons rfl (.of_eq rfl) (.cons rfl (.of_eq rfl) (.cons rfl (.of_eq rfl) (.cons rfl (.of_eq rfl) (.cons rfl (.of_eq rfl) (.cons rfl (.of_eq rfl) .nil)))))) (.box rfl (.cons (.of_eq rfl) .nil) (.arr rfl .nil)) rfl))) ?_
    refine W.seq ?_
    rcases Bool.eq_false_or_eq_true (cm .lss s15.1 (a0.length : Int)) with hc22 | hc22
    · replace h := cond_t hc22 h
      refine W.condT rfl hc22 ?_
      refine W.skip ?_
      refine W.seq ?_
      refine W.block ?_
      refine W.seq ?_
      obtain ⟨z23, hz23, h⟩ := bind_e h
      refine W.reg (σ' := ⟨[(2, .ptr 101 0), (4, .ref 113), (6, .ptr 117 0), (18, .v (Enc.sl eBlk) a0), (19, .v (Enc.int .i64) (a0.length : Int)), (20, .v (Enc.int .i64) s15.1)], [(101, .box 71 [.v (Enc.sl (Enc.sl (Enc.int .u64))) ([] : (List (List Int)))]), (113, .arr 67 (Enc.int .u64) s15.2), (117, .box 24 [.v eBlk z23])]⟩) (J.cons (.none rfl) (JO.idx hz23 rfl rfl Try.runUnderlying22 Try.sizeOf24) rfl rfl (J.cons (.none rfl) (JO.loadPst rfl Try.isAgg24 Try.sizeOf24) rfl rfl (J.cons (.none rfl) (JO.alloc 117 Try.zeroValue24 rfl (.cons (Z.arr 8 (Z.int .u8)) .nil) rfl) rfl rfl (J.mut (.none rfl) (JM.store rfl rfl rfl rfl rfl rfl rfl Try.sizeOf24) (J.fin (Sw.Sub.mk id (.cons rfl (.of_eq rfl) (.cons rfl (.of_eq rfl) (.cons rfl (.of_eq rfl) (.cons rfl (.of_eq rfl) (.cons rfl (.of_eq rfl) (.cons rfl (.of_eq rfl) .nil)))))) (.box rfl (.cons (.of_eq rfl) .nil) (.arr rfl (.box rfl (.cons (.of_eq rfl) .nil) .nil))) rfl)))))) ?_
      obtain ⟨v24, hv24, h⟩ := bind_e h
      obtain ⟨v25, hv25, h⟩ := bind_e h
      refine W.reg (σ' := ⟨[(2, .ptr 101 0), (4, .ref 119), (18, .v (Enc.sl eBlk) a0), (19, .v (Enc.int .i64) (a0.length : Int)), (20, .v (Enc.int .i64) s15.1)], [(101, .box 71 [.v (Enc.sl (Enc.sl (Enc.int .u64))) ([] : (List (List Int)))]), (119, .arr 67 (Enc.int .u64) v25)]⟩) (J.cons (.none rfl) (JO.move rfl) rfl rfl (J.cons (.none rfl) (JO.load rfl rfl rfl Try.isAgg24 Try.sizeOf24) rfl rfl (J.cons (.none rfl) (JO.call0 (con_tree_leaf hv24) Try.call76 (.cons (.dir rfl) .nil)) rfl rfl (J.cons (.none rfl) (JO.lit (e := (Enc.int .u64)) Try.runUnderlying95 Try.sizeOf67 Try.zeroValue67 rfl rfl rfl rfl (.cons (.dir rfl) .nil)) rfl rfl (J.mut (.none rfl) (JM.append 119 hv25 rfl rfl (.sl rfl) Try.runUnderlying95 Try.typeInfo67 Try.sizeOf67 rfl rfl rfl rfl rfl) (J.cons (.none rfl) (JO.assign rfl) rfl rfl (J.fin (Sw.Sub.mk id (.cons rfl (.of_eq rfl) (.cons rfl (.of_eq rfl) (.cons rfl (.of_eq rfl) (.cons rfl (.of_eq rfl) (.cons rfl (.of_eq rfl) .nil))))) (.box rfl (.cons (.of_eq rfl) .nil) (.arr rfl .nil)) rfl)))))))) ?_
      refine W.fall ?_
      refine W.reg (σ' := ⟨[(2, .ptr 101 0), (4, .ref 119), (18, .v (Enc.sl eBlk) a0), (19, .v (Enc.int .i64) (a0.length : Int)), (20, .v (Enc.int .i64) (ar .add .i64 s15.1 (1 : Int)))], [(101, .box 71 [.v (Enc.sl (Enc.sl (Enc.int .u64))) ([] : (List (List Int)))]), (119, .arr 67 (Enc.int .u64) v25)]⟩) (J.cons (.none rfl) (JO.arith rfl rfl rfl) rfl rfl (J.cons (.none rfl) (JO.move rfl) rfl rfl (J.fin (Sw.Sub.mk id (.cons rfl (.of_eq rfl) (.cons rfl (.of_eq rfl) (.cons rfl (.of_eq rfl) (.cons rfl (.of_eq rfl) (.cons rfl (.of_eq rfl) .nil))))) (.box rfl (.cons (.of_eq rfl) .nil) (.arr rfl .nil)) rfl)))) ?_
      obtain rfl := Option.some.inj h
      exact W.next (Sw.Sub.mk (rn [(101, 101), (113, 119)]) (.cons rfl (.of_eq rfl) (.cons rfl (.of_eq rfl) (.cons rfl (.of_eq rfl) (.cons rfl (.of_eq rfl) (.cons rfl (.of_eq rfl) .nil))))) (.box rfl (.cons (.of_eq rfl) .nil) (.arr rfl .nil)) rfl)
    · replace h := cond_f hc22 h
      refine W.condF rfl hc22 ?_
      refine W.exit ?_
      obtain rfl := Option.some.inj h
      exact XQ.brk (Sw.Sub.mk id (.cons rfl (.of_eq rfl) (.cons rfl (.of_eq rfl) .nil)) (.box rfl (.cons (.of_eq rfl) .nil) (.arr rfl .nil)) rfl)
set_option maxRecDepth 100000 in
set_option maxHeartbeats 4000000 in
theorem con_ref_above {a0 : (List Int)} {r : (List Int)} (h : m_ref_above a0 = some r) :
    Con Try.prog 78 [.v (Enc.sl (Enc.int .u64)) a0] (.v (Enc.sl (Enc.int .u64)) r) [] := by
  refine Con.of Try.func78 rfl Try.ntmps78 rfl ?_
  intro S w hF
  unfold m_ref_above at h
  refine W.seq ?_
  refine W.reg (σ' := ⟨[(0, .v (Enc.sl (Enc.int .u64)) a0)], []⟩) (J.cons (.none rfl) (JO.assignNilR 101 67 (Enc.int .u64)) rfl rfl (J.fin (Sw.Sub.mk id (.cons rfl (.of_eq rfl) .nil) .nil rfl))) ?_
  refine W.seq ?_
  refine W.reg (σ' := ⟨[(0, .v (Enc.sl (Enc.int .u64)) a0), (3, .ref 102)], [(102, .arr 67 (Enc.int .u64) ([] : (List Int)))]⟩) (J.cons (.none rfl) (JO.assignNilR 102 67 (Enc.int .u64)) rfl rfl (J.fin (Sw.Sub.mk id (.cons rfl (.of_eq rfl) (.cons rfl (.of_eq rfl) .nil)) (.arr rfl .nil) rfl))) ?_
  refine W.seq ?_
  refine W.seq ?_
  refine W.reg (σ' := ⟨[(0, .v (Enc.sl (Enc.int .u64)) a0), (3, .ref 102), (4, .v (Enc.int .i64) (0 : Int))], [(102, .arr 67 (Enc.int .u64) ([] : (List Int)))]⟩) (J.cons (.none rfl) (JO.assign rfl) rfl rfl (J.fin (Sw.Sub.mk id (.cons rfl (.of_eq rfl) (.cons rfl (.of_eq rfl) (.cons rfl (.of_eq rfl) .nil))) (.arr rfl .nil) rfl))) ?_
  obtain ⟨o316, ho316, hb316, hr316⟩ := lp_elim h
  refine W.lp (σs := fun s211 : Int × (List Int) => ⟨[(0, .v (Enc.sl (Enc.int .u64)) a0), (3, .ref 184), (4, .v (Enc.int .i64) s211.1)], [(184, .arr 67 (Enc.int .u64) s211.2)]⟩) (fun x317 : (List Int) => ⟨[(3, .ref 184)], [(184, .arr 67 (Enc.int .u64) x317)]⟩) ho316 (Sw.Sub.mk (rn [(184, 102)]) (.cons rfl (.of_eq rfl) (.cons rfl (.of_eq rfl) (.cons rfl (.of_eq rfl) .nil))) (.arr rfl .nil) rfl) ?_ ?_
  · intro x317 hy
    have h := hb316 _ hy
    refine W.seq ?_
    refine W.reg (σ' := ⟨[(2, .ref 184)], [(184, .arr 67 (Enc.int .u64) x317)]⟩) (J.cons (.none rfl) (JO.move rfl) rfl rfl (J.cons (.none rfl) (JO.assign rfl) rfl rfl (J.fin (Sw.Sub.mk id (.cons rfl (.of_eq rfl) .nil) (.arr rfl .nil) rfl)))) ?_
    refine W.ret ?_
    obtain rfl := Option.some.inj h
    exact XQ.sub (σ' := ⟨[(2, .v (Enc.sl (Enc.int .u64)) x317)], []⟩) (Sw.Sub.mk id (.cons rfl (.frz rfl rfl) .nil) .nil rfl) (XQ.ret1 hF noR rfl (RV.tmp rfl) .nil rfl)
  intro s211 r316 h
  refine W.seq ?_
  refine W.seq ?_
  refine W.reg (σ' := ⟨[(0, .v (Enc.sl (Enc.int .u64)) a0), (3, .ref 184), (4, .v (Enc.int .i64) s211.1), (11, .v Enc.bool (cm .lss s211.1 (a0.length : Int)))], [(184, .arr 67 (Enc.int .u64) s211.2)]⟩) (J.cons (.none rfl) (JO.move rfl) rfl rfl (J.cons (.none rfl) (JO.move rfl) rfl rfl (J.cons (.none rfl) (JO.len rfl Try.runUnderlying95) rfl rfl (J.cons (.none rfl) (JO.cmp rfl rfl rfl) rfl rfl (J.fin (Sw.Sub.mk id (.cons rfl (.of_eq rfl) (.cons rfl (.of_eq rfl) (.cons rfl (.of_eq rfl) (.cons rfl (.of_eq rfl) .nil)))) (.arr rfl .nil) rfl)))))) ?_
  rcases Bool.eq_false_or_eq_true (cm .lss s211.1 (a0.length : Int)) with hc318 | hc318
  · replace h := cond_t hc318 h
    refine W.condT rfl hc318 ?_
    refine W.skip ?_
    refine W.seq ?_
    refine W.block ?_
    refine W.seq ?_
    refine W.reg (σ' := ⟨[(0, .v (Enc.sl (Enc.int .u64)) a0), (3, .ref 184), (4, .v (Enc.int .i64) s211.1), (5, .ref 224)], [(184, .arr 67 (Enc.int .u64) s211.2), (224, .arr 5 (Enc.int .u8) ([(1 : Int)] : (List Int)))]⟩) (J.cons (.none rfl) (JO.litR (e := (Enc.int .u8)) 224 Try.runUnderlying40 Try.sizeOf5 Try.zeroValue5 rfl rfl rfl rfl (.cons (.dir rfl) .nil)) rfl rfl (J.cons (.none rfl) (JO.assign rfl) rfl rfl (J.fin (Sw.Sub.mk id (.cons rfl (.of_eq rfl) (.cons rfl (.of_eq rfl) (.cons rfl (.of_eq rfl) (.cons rfl (.of_eq rfl) .nil)))) (.arr rfl (.arr rfl .nil)) rfl)))) ?_
    refine W.seq ?_
    refine W.seq ?_
    refine W.reg (σ' := ⟨[(0, .v (Enc.sl (Enc.int .u64)) a0), (3, .ref 184), (4, .v (Enc.int .i64) s211.1), (5, .ref 224), (6, .v (Enc.int .i64) s211.1)], [(184, .arr 67 (Enc.int .u64) s211.2), (224, .arr 5 (Enc.int .u8) ([(1 : Int)] : (List Int)))]⟩) (J.cons (.none rfl) (JO.move rfl) rfl rfl (J.cons (.none rfl) (JO.assign rfl) rfl rfl (J.fin (Sw.Sub.mk id (.cons rfl (.of_eq rfl) (.cons rfl (.of_eq rfl) (.cons rfl (.of_eq rfl) (.cons rfl (.of_eq rfl) (.cons rfl (.of_eq rfl) .nil))))) (.arr rfl (.arr rfl .nil)) rfl)))) ?_
    obtain ⟨o394, ho394, hb394, hr394⟩ := lp_elim h
    refine W.lp (σs := fun s369 : Int × (List Int) => ⟨[(0, .v (Enc.sl (Enc.int .u64)) a0), (3, .ref 184), (4, .v (Enc.int .i64) s211.1), (5, .ref 244), (6, .v (Enc.int .i64) s369.1)], [(184, .arr 67 (Enc.int .u64) s211.2), (244, .arr 5 (Enc.int .u8) s369.2)]⟩) (fun x395 : (List Int) => ⟨[(0, .v (Enc.sl (Enc.int .u64)) a0), (3, .ref 184), (4, .v (Enc.int .i64) s211.1), (5, .ref 244)], [(184, .arr 67 (Enc.int .u64) s211.2), (244, .arr 5 (Enc.int .u8) x395)]⟩) ho394 (Sw.Sub.mk (rn [(184, 184), (244, 224)]) (.cons rfl (.of_eq rfl) (.cons rfl (.of_eq rfl) (.cons rfl (.of_eq rfl) (.cons rfl (.of_eq rfl) (.cons rfl (.of_eq rfl) .nil))))) (.arr rfl (.arr rfl .nil)) rfl) ?_ ?_
    · intro x395 hy
      have h := hb394 _ hy
      obtain ⟨v420, hv420, h⟩ := bind_e h
      obtain ⟨v421, hv421, h⟩ := bind_e h
      refine W.reg (σ' := ⟨[(0, .v (Enc.sl (Enc.int .u64)) a0), (3, .ref 262), (4, .v (Enc.int .i64) s211.1)], [(262, .arr 67 (Enc.int .u64) v421)]⟩) (J.cons (.none rfl) (JO.move rfl) rfl rfl (J.cons (.none rfl) (JO.move rfl) rfl rfl (J.cons (.none rfl) (JO.callL0 (con_ref_DigestOf hv420) Try.call38 (.cons (.ref rfl rfl) .nil) FlatS.v) rfl rfl (J.cons (.none rfl) (JO.lit (e := (Enc.int .u64)) Try.runUnderlying95 Try.sizeOf67 Try.zeroValue67 rfl rfl rfl rfl (.cons (.dir rfl) .nil)) rfl rfl (J.mut (.none rfl) (JM.append 262 hv421 rfl rfl (.sl rfl) Try.runUnderlying95 Try.typeInfo67 Try.sizeOf67 rfl rfl rfl rfl rfl) (J.cons (.none rfl) (JO.assign rfl) rfl rfl (J.fin (Sw.Sub.mk id (.cons rfl (.of_eq rfl) (.cons rfl (.of_eq rfl) (.cons rfl (.of_eq rfl) .nil))) (.arr rfl .nil) rfl)))))))) ?_
      refine W.fall ?_
      refine W.reg (σ' := ⟨[(0, .v (Enc.sl (Enc.int .u64)) a0), (3, .ref 262), (4, .v (Enc.int .i64) (ar .add .i64 s211.1 (4 : Int)))], [(262, .arr 67 (Enc.int .u64) v421)]⟩) (J.cons (.none rfl) (JO.move rfl) rfl rfl (J.cons (.none rfl) (JO.arith rfl rfl rfl) rfl rfl (J.cons (.none rfl) (JO.assign rfl) rfl rfl (J.fin (Sw.Sub.mk id (.cons rfl (.of_eq rfl) (.cons rfl (.of_eq rfl) (.cons rfl (.of_eq rfl) .nil))) (.arr rfl .nil) rfl))))) ?_
      obtain rfl := Option.some.inj h
      exact W.next (Sw.Sub.mk (rn [(184, 262)]) (.cons rfl (.of_eq rfl) (.cons rfl (.of_eq rfl) (.cons rfl (.of_eq rfl) .nil))) (.arr rfl .nil) rfl)
    intro s369 r394 h
    refine W.seq ?_
    refine W.seq ?_
    obtain ⟨x397, hx, h⟩ := bind_e h
    refine W.reg (σ' := ⟨[(0, .v (Enc.sl (Enc.int .u64)) a0), (3, .ref 184), (4, .v (Enc.int .i64) s211.1), (5, .ref 244), (6, .v (Enc.int .i64) s369.1), (25, .v Enc.bool x397)], [(184, .arr 67 (Enc.int .u64) s211.2), (244, .arr 5 (Enc.int .u8) s369.2)]⟩) ?_ ?_
    · rcases Bool.eq_false_or_eq_true (cm .lss s369.1 (ar .add .i64 s211.1 (4 : Int))) with hc398 | hc398
      · replace hx := cond_t hc398 hx
        obtain rfl := Option.some.inj hx
        exact (J.cons (.none rfl) (JO.move rfl) rfl rfl (J.cons (.none rfl) (JO.move rfl) rfl rfl (J.cons (.none rfl) (JO.arith rfl rfl rfl) rfl rfl (J.cons (.none rfl) (JO.cmp rfl rfl rfl) rfl rfl (J.cons (.none rfl) (JO.move rfl) rfl rfl (J.cons (GK.met 20 rfl rfl rfl hc398) (JO.move rfl) rfl rfl (J.cons (GK.met 20 rfl rfl rfl hc398) (JO.move rfl) rfl rfl (J.cons (GK.met 20 rfl rfl rfl hc398) (JO.len rfl Try.runUnderlying95) rfl rfl (J.cons (GK.met 20 rfl rfl rfl hc398) (JO.cmp rfl rfl rfl) rfl rfl (J.cons (.none rfl) (JO.pT hc398 rfl rfl) rfl rfl (J.fin (Sw.Sub.mk id (.cons rfl (.of_eq rfl) (.cons rfl (.of_eq rfl) (.cons rfl (.of_eq rfl) (.cons rfl (.of_eq rfl) (.cons rfl (.of_eq rfl) (.cons rfl (.of_eq rfl) .nil)))))) (.arr rfl (.arr rfl .nil)) rfl))))))))))))
      · replace hx := cond_f hc398 hx
        obtain rfl := Option.some.inj hx
        exact (J.cons (.none rfl) (JO.move rfl) rfl rfl (J.cons (.none rfl) (JO.move rfl) rfl rfl (J.cons (.none rfl) (JO.arith rfl rfl rfl) rfl rfl (J.cons (.none rfl) (JO.cmp rfl rfl rfl) rfl rfl (J.cons (.none rfl) (JO.move rfl) rfl rfl (J.left (GK.unmet 20 rfl rfl rfl hc398) rfl (J.left (GK.unmet 20 rfl rfl rfl hc398) rfl (J.left (GK.unmet 20 rfl rfl rfl hc398) rfl (J.left (GK.unmet 20 rfl rfl rfl hc398) rfl (J.cons (.none rfl) (JO.pF hc398 rfl rfl) rfl rfl (J.fin (Sw.Sub.mk id (.cons rfl (.of_eq rfl) (.cons rfl (.of_eq rfl) (.cons rfl (.of_eq rfl) (.cons rfl (.of_eq rfl) (.cons rfl (.of_eq rfl) (.cons rfl (.of_eq rfl) .nil)))))) (.arr rfl (.arr rfl .nil)) rfl))))))))))))
    rcases Bool.eq_false_or_eq_true x397 with hc399 | hc399
    · replace h := cond_t hc399 h
      refine W.condT rfl hc399 ?_
      refine W.skip ?_
      refine W.seq ?_
      refine W.block ?_
      refine W.seq ?_
      refine W.reg (σ' := ⟨[(0, .v (Enc.sl (Enc.int .u64)) a0), (3, .ref 184), (4, .v (Enc.int .i64) s211.1), (5, .ref 244), (6, .v (Enc.int .i64) s369.1), (7, .v (Enc.int .u64) (72057594037927936 : Int))], [(184, .arr 67 (Enc.int .u64) s211.2), (244, .arr 5 (Enc.int .u8) s369.2)]⟩) (J.cons (.none rfl) (JO.assign rfl) rfl rfl (J.fin (Sw.Sub.mk id (.cons rfl (.of_eq rfl) (.cons rfl (.of_eq rfl) (.cons rfl (.of_eq rfl) (.cons rfl (.of_eq rfl) (.cons rfl (.of_eq rfl) (.cons rfl (.of_eq rfl) .nil)))))) (.arr rfl (.arr rfl .nil)) rfl))) ?_
      obtain ⟨o414, ho414, hb414, hr414⟩ := lp_elim h
      refine W.lp (σs := fun s409 : Int × (List Int) => ⟨[(0, .v (Enc.sl (Enc.int .u64)) a0), (3, .ref 184), (4, .v (Enc.int .i64) s211.1), (5, .ref 258), (6, .v (Enc.int .i64) s369.1), (7, .v (Enc.int .u64) s409.1)], [(184, .arr 67 (Enc.int .u64) s211.2), (258, .arr 5 (Enc.int .u8) s409.2)]⟩) (fun x415 : (List Int) => ⟨[(0, .v (Enc.sl (Enc.int .u64)) a0), (3, .ref 184), (4, .v (Enc.int .i64) s211.1), (5, .ref 258), (6, .v (Enc.int .i64) s369.1)], [(184, .arr 67 (Enc.int .u64) s211.2), (258, .arr 5 (Enc.int .u8) x415)]⟩) ho414 (Sw.Sub.mk (rn [(184, 184), (258, 244)]) (.cons rfl (.of_eq rfl) (.cons rfl (.of_eq rfl) (.cons rfl (.of_eq rfl) (.cons rfl (.of_eq rfl) (.cons rfl (.of_eq rfl) (.cons rfl (.of_eq rfl) .nil)))))) (.arr rfl (.arr rfl .nil)) rfl) ?_ ?_
      · intro x415 hy
        have h := hb414 _ hy
        refine W.fall ?_
        refine W.reg (σ' := ⟨[(0, .v (Enc.sl (Enc.int .u64)) a0), (3, .ref 184), (4, .v (Enc.int .i64) s211.1), (5, .ref 258), (6, .v (Enc.int .i64) (ar .add .i64 s369.1 (1 : Int)))], [(184, .arr 67 (Enc.int .u64) s211.2), (258, .arr 5 (Enc.int .u8) x415)]⟩) (J.cons (.none rfl) (JO.move rfl) rfl rfl (J.cons (.none rfl) (JO.arith rfl rfl rfl) rfl rfl (J.cons (.none rfl) (JO.assign rfl) rfl rfl (J.fin (Sw.Sub.mk id (.cons rfl (.of_eq rfl) (.cons rfl (.of_eq rfl) (.cons rfl (.of_eq rfl) (.cons rfl (.of_eq rfl) (.cons rfl (.of_eq rfl) .nil))))) (.arr rfl (.arr rfl .nil)) rfl))))) ?_
        obtain rfl := Option.some.inj h
        exact W.next (Sw.Sub.mk (rn [(184, 184), (244, 258)]) (.cons rfl (.of_eq rfl) (.cons rfl (.of_eq rfl) (.cons rfl (.of_eq rfl) (.cons rfl (.of_eq rfl) (.cons rfl (.of_eq rfl) .nil))))) (.arr rfl (.arr rfl .nil)) rfl)
      intro s409 r414 h
      refine W.seq ?_
      refine W.seq ?_
      refine W.reg (σ' := ⟨[(0, .v (Enc.sl (Enc.int .u64)) a0), (3, .ref 184), (4, .v (Enc.int .i64) s211.1), (5, .ref 258), (6, .v (Enc.int .i64) s369.1), (7, .v (Enc.int .u64) s409.1), (29, .v Enc.bool (cm .gtr s409.1 (0 : Int)))], [(184, .arr 67 (Enc.int .u64) s211.2), (258, .arr 5 (Enc.int .u8) s409.2)]⟩) (J.cons (.none rfl) (JO.move rfl) rfl rfl (J.cons (.none rfl) (JO.cmp rfl rfl rfl) rfl rfl (J.fin (Sw.Sub.mk id (.cons rfl (.of_eq rfl) (.cons rfl (.of_eq rfl) (.cons rfl (.of_eq rfl) (.cons rfl (.of_eq rfl) (.cons rfl (.of_eq rfl) (.cons rfl (.of_eq rfl) (.cons rfl (.of_eq rfl) .nil))))))) (.arr rfl (.arr rfl .nil)) rfl)))) ?_
      rcases Bool.eq_false_or_eq_true (cm .gtr s409.1 (0 : Int)) with hc416 | hc416
      · replace h := cond_t hc416 h
        refine W.condT rfl hc416 ?_
        refine W.skip ?_
        refine W.seq ?_
        refine W.block ?_
        obtain ⟨z417, hz417, h⟩ := bind_e h
        obtain ⟨u418, hu418, h⟩ := bind_e h
        obtain ⟨v419, hv419, h⟩ := bind_e h
        refine W.reg (σ' := ⟨[(0, .v (Enc.sl (Enc.int .u64)) a0), (3, .ref 184), (4, .v (Enc.int .i64) s211.1), (5, .ref 260), (6, .v (Enc.int .i64) s369.1), (7, .v (Enc.int .u64) s409.1)], [(184, .arr 67 (Enc.int .u64) s211.2), (260, .arr 5 (Enc.int .u8) v419)]⟩) (J.cons (.none rfl) (JO.move rfl) rfl rfl (J.cons (.none rfl) (JO.move rfl) rfl rfl (J.cons (.none rfl) (JO.move rfl) rfl rfl (J.cons (.none rfl) (JO.idx hz417 rfl rfl Try.runUnderlying95 Try.sizeOf67) rfl rfl (J.cons (.none rfl) (JO.loadPst rfl Try.isAgg67 Try.sizeOf67) rfl rfl (J.cons (.none rfl) (JO.move rfl) rfl rfl (J.cons (.none rfl) (JO.div (.inl rfl) (nz_some hu418) rfl rfl) rfl rfl (J.cons (.none rfl) (JO.div (.inr rfl) (by decide) rfl rfl) rfl rfl (J.cons (.none rfl) (JO.conv Try.runUnderlying67 Try.runUnderlying5 rfl) rfl rfl (J.cons (.none rfl) (JO.lit (e := (Enc.int .u8)) Try.runUnderlying40 Try.sizeOf5 Try.zeroValue5 rfl rfl rfl rfl (.cons (.dir rfl) .nil)) rfl rfl (J.mut (.none rfl) (JM.append 260 hv419 rfl rfl (.sl rfl) Try.runUnderlying40 Try.typeInfo5 Try.sizeOf5 rfl rfl rfl rfl rfl) (J.cons (.none rfl) (JO.assign rfl) rfl rfl (J.fin (Sw.Sub.mk id (.cons rfl (.of_eq rfl) (.cons rfl (.of_eq rfl) (.cons rfl (.of_eq rfl) (.cons rfl (.of_eq rfl) (.cons rfl (.of_eq rfl) (.cons rfl (.of_eq rfl) .nil)))))) (.arr rfl (.arr rfl .nil)) rfl)))))))))))))) ?_
        refine W.fall ?_
        refine W.reg (σ' := ⟨[(0, .v (Enc.sl (Enc.int .u64)) a0), (3, .ref 184), (4, .v (Enc.int .i64) s211.1), (5, .ref 260), (6, .v (Enc.int .i64) s369.1), (7, .v (Enc.int .u64) (ar .quo .u64 s409.1 (256 : Int)))], [(184, .arr 67 (Enc.int .u64) s211.2), (260, .arr 5 (Enc.int .u8) v419)]⟩) (J.cons (.none rfl) (JO.move rfl) rfl rfl (J.cons (.none rfl) (JO.div (.inl rfl) (by decide) rfl rfl) rfl rfl (J.cons (.none rfl) (JO.assign rfl) rfl rfl (J.fin (Sw.Sub.mk id (.cons rfl (.of_eq rfl) (.cons rfl (.of_eq rfl) (.cons rfl (.of_eq rfl) (.cons rfl (.of_eq rfl) (.cons rfl (.of_eq rfl) (.cons rfl (.of_eq rfl) .nil)))))) (.arr rfl (.arr rfl .nil)) rfl))))) ?_
        obtain rfl := Option.some.inj h
        exact W.next (Sw.Sub.mk (rn [(184, 184), (258, 260)]) (.cons rfl (.of_eq rfl) (.cons rfl (.of_eq rfl) (.cons rfl (.of_eq rfl) (.cons rfl (.of_eq rfl) (.cons rfl (.of_eq rfl) (.cons rfl (.of_eq rfl) .nil)))))) (.arr rfl (.arr rfl .nil)) rfl)
      · replace h := cond_f hc416 h
        refine W.condF rfl hc416 ?_
        refine W.exit ?_
        obtain rfl := Option.some.inj h
        exact XQ.brk (Sw.Sub.mk id (.cons rfl (.of_eq rfl) (.cons rfl (.of_eq rfl) (.cons rfl (.of_eq rfl) (.cons rfl (.of_eq rfl) (.cons rfl (.of_eq rfl) .nil))))) (.arr rfl (.arr rfl .nil)) rfl)
    · replace h := cond_f hc399 h
      refine W.condF rfl hc399 ?_
      refine W.exit ?_
      obtain rfl := Option.some.inj h
      exact XQ.brk (Sw.Sub.mk id (.cons rfl (.of_eq rfl) (.cons rfl (.of_eq rfl) (.cons rfl (.of_eq rfl) (.cons rfl (.of_eq rfl) .nil)))) (.arr rfl (.arr rfl .nil)) rfl)
  · replace h := cond_f hc318 h
    refine W.condF rfl hc318 ?_
    refine W.exit ?_
    obtain rfl := Option.some.inj h
    exact XQ.brk (Sw.Sub.mk id (.cons rfl (.of_eq rfl) .nil) (.arr rfl .nil) rfl)
set_option maxRecDepth 100000 in
set_option maxHeartbeats 4000000 in
theorem con_ref_TreeOf {a0 : (List Blk)} {r : ((List (List Int)))} (h : m_ref_TreeOf a0 = some r) :
    Con Try.prog 41 [.v (Enc.sl eBlk) a0] (.v (Enc.one1 (Enc.sl (Enc.sl (Enc.int .u64)))) r) [] := by
  refine Con.of Try.func41 rfl Try.ntmps41 rfl ?_
  intro S w hF
  unfold m_ref_TreeOf at h
  refine W.seq ?_
  refine W.reg (σ' := ⟨[(0, .v (Enc.sl eBlk) a0), (2, .ptr 101 0)], [(101, .box 71 [.v (Enc.sl (Enc.sl (Enc.int .u64))) ([] : (List (List Int)))])]⟩) (J.cons (.none rfl) (JO.alloc 101 Try.zeroValue71 rfl (.cons (Z.sl (Enc.sl (Enc.int .u64))) .nil) rfl) rfl rfl (J.fin (Sw.Sub.mk id (.cons rfl (.of_eq rfl) (.cons rfl (.of_eq rfl) .nil)) (.box rfl (.cons (.of_eq rfl) .nil) .nil) rfl))) ?_
  refine W.seq ?_
  refine W.reg (σ' := ⟨[(0, .v (Enc.sl eBlk) a0), (2, .ptr 101 0), (3, .ref 102)], [(101, .box 71 [.v (Enc.sl (Enc.sl (Enc.int .u64))) ([] : (List (List Int)))]), (102, .arr 67 (Enc.int .u64) ([] : (List Int)))]⟩) (J.cons (.none rfl) (JO.assignNilR 102 67 (Enc.int .u64)) rfl rfl (J.fin (Sw.Sub.mk id (.cons rfl (.of_eq rfl) (.cons rfl (.of_eq rfl) (.cons rfl (.of_eq rfl) .nil))) (.box rfl (.cons (.of_eq rfl) .nil) (.arr rfl .nil)) rfl))) ?_
  refine W.seq ?_
  refine W.seq ?_
  refine W.reg (σ' := ⟨[(0, .v (Enc.sl eBlk) a0), (2, .ptr 101 0), (3, .ref 102), (4, .v (Enc.int .i64) (0 : Int))], [(101, .box 71 [.v (Enc.sl (Enc.sl (Enc.int .u64))) ([] : (List (List Int)))]), (102, .arr 67 (Enc.int .u64) ([] : (List Int)))]⟩) (J.cons (.none rfl) (JO.assign rfl) rfl rfl (J.fin (Sw.Sub.mk id (.cons rfl (.of_eq rfl) (.cons rfl (.of_eq rfl) (.cons rfl (.of_eq rfl) (.cons rfl (.of_eq rfl) .nil)))) (.box rfl (.cons (.of_eq rfl) .nil) (.arr rfl .nil)) rfl))) ?_
  obtain ⟨o76, ho76, hb76, hr76⟩ := lp_elim h
  refine W.lp (σs := fun s51 : Int × (List Int) => ⟨[(0, .v (Enc.sl eBlk) a0), (2, .ptr 101 0), (3, .ref 128), (4, .v (Enc.int .i64) s51.1)], [(101, .box 71 [.v (Enc.sl (Enc.sl (Enc.int .u64))) ([] : (List (List Int)))]), (128, .arr 67 (Enc.int .u64) s51.2)]⟩) (fun x77 : (List Int) => ⟨[(2, .ptr 101 0), (3, .ref 128)], [(101, .box 71 [.v (Enc.sl (Enc.sl (Enc.int .u64))) ([] : (List (List Int)))]), (128, .arr 67 (Enc.int .u64) x77)]⟩) ho76 (Sw.Sub.mk (rn [(101, 101), (128, 102)]) (.cons rfl (.of_eq rfl) (.cons rfl (.of_eq rfl) (.cons rfl (.of_eq rfl) (.cons rfl (.of_eq rfl) .nil)))) (.box rfl (.cons (.of_eq rfl) .nil) (.arr rfl .nil)) rfl) ?_ ?_
  · intro x77 hy
    have h := hb76 _ hy
    refine W.seq ?_
    refine W.reg (σ' := ⟨[(2, .ptr 101 0), (3, .v (Enc.sl (Enc.int .u64)) x77), (7, .ptr 152 0)], [(101, .box 71 [.v (Enc.sl (Enc.sl (Enc.int .u64))) ([] : (List (List Int)))]), (152, .box 71 [.ref 151]), (151, .arr 95 (Enc.sl (Enc.int .u64)) ([x77] : (List (List Int))))]⟩) (J.cons (.none rfl) (JO.move rfl) rfl rfl (J.sub (σ' := ⟨[(2, .ptr 101 0), (3, .v (Enc.sl (Enc.int .u64)) x77), (33, .v (Enc.sl (Enc.int .u64)) x77)], [(101, .box 71 [.v (Enc.sl (Enc.sl (Enc.int .u64))) ([] : (List (List Int)))])]⟩) (Sw.Sub.mk id (.cons rfl (.of_eq rfl) (.cons rfl (.frz rfl rfl) (.cons rfl (.frz rfl rfl) .nil))) (.box rfl (.cons (.of_eq rfl) .nil) .nil) rfl) (J.cons (.none rfl) (JO.litR (e := (Enc.sl (Enc.int .u64))) 151 Try.runUnderlying69 Try.sizeOf95 Try.zeroValue95 rfl rfl rfl rfl (.cons (.dir rfl) .nil)) rfl rfl (J.cons (.none rfl) (JO.build built71 (.cons (Z.sl (Enc.sl (Enc.int .u64))) .nil) (.cons rfl (.dir rfl) rfl rfl rfl rfl .nil)) rfl rfl (J.cons (.none rfl) (JO.allocN (new := [(153, .arr 95 (Enc.sl (Enc.int .u64)) ([] : (List (List Int))))]) 152 Try.zeroValue71 rfl (.ref 153 rfl .nil) (.cons .nil) rfl rfl) rfl rfl (J.mut (.none rfl) (JM.storeAgg rfl rfl rfl rfl rfl rfl Try.sizeOf71) (J.fin (Sw.Sub.mk id (.cons rfl (.of_eq rfl) (.cons rfl (.of_eq rfl) (.cons rfl (.of_eq rfl) .nil))) (.box rfl (.cons (.of_eq rfl) .nil) (.box rfl (.cons (.of_eq rfl) .nil) (.arr rfl .nil))) rfl)))))))) ?_
    refine W.seq ?_
    obtain ⟨o114, ho114, hb114, hr114⟩ := lp_elim h
    refine W.lp (σs := fun s110 : (List Int) × (List (List Int)) => ⟨[(2, .ptr 101 0), (3, .v (Enc.sl (Enc.int .u64)) s110.1), (7, .ptr 152 0)], [(101, .box 71 [.v (Enc.sl (Enc.sl (Enc.int .u64))) ([] : (List (List Int)))]), (152, .box 71 [.ref 161]), (161, .arr 95 (Enc.sl (Enc.int .u64)) s110.2)]⟩) (fun x115 : (List (List Int)) => ⟨[(2, .ptr 101 0), (7, .ptr 152 0)], [(101, .box 71 [.v (Enc.sl (Enc.sl (Enc.int .u64))) ([] : (List (List Int)))]), (152, .box 71 [.ref 161]), (161, .arr 95 (Enc.sl (Enc.int .u64)) x115)]⟩) ho114 (Sw.Sub.mk (rn [(101, 101), (152, 152), (161, 151)]) (.cons rfl (.of_eq rfl) (.cons rfl (.of_eq rfl) (.cons rfl (.of_eq rfl) .nil))) (.box rfl (.cons (.of_eq rfl) .nil) (.box rfl (.cons (.of_eq rfl) .nil) (.arr rfl .nil))) rfl) ?_ ?_
    · intro x115 hy
      have h := hb114 _ hy
      refine W.seq ?_
      refine W.reg (σ' := ⟨[(2, .ptr 101 0)], [(101, .box 71 [.ref 161]), (161, .arr 95 (Enc.sl (Enc.int .u64)) x115)]⟩) (J.cons (.none rfl) (JO.loadAgg rfl rfl rfl Try.isAgg71 Try.sizeOf71) rfl rfl (J.mut (.none rfl) (JM.storeAgg rfl rfl rfl rfl rfl rfl Try.sizeOf71) (J.fin (Sw.Sub.mk id (.cons rfl (.of_eq rfl) .nil) (.box rfl (.cons (.of_eq rfl) .nil) (.arr rfl .nil)) rfl)))) ?_
      refine W.ret ?_
      obtain rfl := Option.some.inj h
      exact XQ.sub (σ' := ⟨[(2, .ptr 90 0)], [(90, .box 71 [.v (Enc.sl (Enc.sl (Enc.int .u64))) x115])]⟩) (Sw.Sub.mk (rn [(90, 101)]) (.cons rfl (.of_eq rfl) .nil) (.box rfl (.cons (.frz rfl rfl) .nil) .nil) rfl) (XQ.ret1 hF noR rfl (RV.cellAll rfl rfl (.one1 (.one _ _)) Try.isAgg71 Try.sizeOf71) .nil rfl)
    intro s110 r114 h
    refine W.seq ?_
    refine W.seq ?_
    refine W.reg (σ' := ⟨[(2, .ptr 101 0), (3, .v (Enc.sl (Enc.int .u64)) s110.1), (7, .ptr 152 0), (38, .v Enc.bool (cm .gtr (s110.1.length : Int) (1 : Int)))], [(101, .box 71 [.v (Enc.sl (Enc.sl (Enc.int .u64))) ([] : (List (List Int)))]), (152, .box 71 [.ref 161]), (161, .arr 95 (Enc.sl (Enc.int .u64)) s110.2)]⟩) (J.cons (.none rfl) (JO.move rfl) rfl rfl (J.cons (.none rfl) (JO.len rfl Try.runUnderlying95) rfl rfl (J.cons (.none rfl) (JO.cmp rfl rfl rfl) rfl rfl (J.fin (Sw.Sub.mk id (.cons rfl (.of_eq rfl) (.cons rfl (.of_eq rfl) (.cons rfl (.of_eq rfl) (.cons rfl (.of_eq rfl) .nil)))) (.box rfl (.cons (.of_eq rfl) .nil) (.box rfl (.cons (.of_eq rfl) .nil) (.arr rfl .nil))) rfl))))) ?_
    rcases Bool.eq_false_or_eq_true (cm .gtr (s110.1.length : Int) (1 : Int)) with hc116 | hc116
    · replace h := cond_t hc116 h
      refine W.condT rfl hc116 ?_
      refine W.skip ?_
      refine W.block ?_
      refine W.seq ?_
      obtain ⟨v117, hv117, h⟩ := bind_e h
      refine W.reg (σ' := ⟨[(2, .ptr 101 0), (3, .v (Enc.sl (Enc.int .u64)) v117), (7, .ptr 152 0)], [(101, .box 71 [.v (Enc.sl (Enc.sl (Enc.int .u64))) ([] : (List (List Int)))]), (152, .box 71 [.ref 161]), (161, .arr 95 (Enc.sl (Enc.int .u64)) s110.2)]⟩) (J.cons (.none rfl) (JO.move rfl) rfl rfl (J.cons (.none rfl) (JO.call0 (con_ref_above hv117) Try.call78 (.cons (.dir rfl) .nil)) rfl rfl (J.cons (.none rfl) (JO.assign rfl) rfl rfl (J.fin (Sw.Sub.mk id (.cons rfl (.of_eq rfl) (.cons rfl (.of_eq rfl) (.cons rfl (.of_eq rfl) .nil))) (.box rfl (.cons (.of_eq rfl) .nil) (.box rfl (.cons (.of_eq rfl) .nil) (.arr rfl .nil))) rfl))))) ?_
      obtain ⟨v118, hv118, h⟩ := bind_e h
      refine W.reg (σ' := ⟨[(2, .ptr 101 0), (3, .v (Enc.sl (Enc.int .u64)) v117), (7, .ptr 152 0)], [(101, .box 71 [.v (Enc.sl (Enc.sl (Enc.int .u64))) ([] : (List (List Int)))]), (152, .box 71 [.ref 165]), (165, .arr 95 (Enc.sl (Enc.int .u64)) v118)]⟩) (J.cons (.none rfl) (JO.fieldPtr 0 rfl Try.runUnderlying71 rfl Try.sizeOf69 rfl rfl) rfl rfl (J.cons (.none rfl) (JO.load rfl rfl rfl Try.isAgg69 Try.sizeOf69) rfl rfl (J.cons (.none rfl) (JO.move rfl) rfl rfl (J.cons (.none rfl) (JO.lit (e := (Enc.sl (Enc.int .u64))) Try.runUnderlying69 Try.sizeOf95 Try.zeroValue95 rfl rfl rfl rfl (.cons (.dir rfl) .nil)) rfl rfl (J.mut (.none rfl) (JM.append 165 hv118 rfl rfl (.sl rfl) Try.runUnderlying69 Try.typeInfo95 Try.sizeOf95 rfl rfl rfl rfl rfl) (J.cons (.none rfl) (JO.fieldPtr 0 rfl Try.runUnderlying71 rfl Try.sizeOf69 rfl rfl) rfl rfl (J.mut (.none rfl) (JM.store rfl rfl rfl rfl rfl rfl rfl Try.sizeOf69) (J.fin (Sw.Sub.mk id (.cons rfl (.of_eq rfl) (.cons rfl (.of_eq rfl) (.cons rfl (.of_eq rfl) .nil))) (.box rfl (.cons (.of_eq rfl) .nil) (.box rfl (.cons (.of_eq rfl) .nil) (.arr rfl .nil))) rfl))))))))) ?_
      refine W.fall ?_
      obtain rfl := Option.some.inj h
      exact W.next (Sw.Sub.mk (rn [(101, 101), (152, 152), (161, 165)]) (.cons rfl (.of_eq rfl) (.cons rfl (.of_eq rfl) (.cons rfl (.of_eq rfl) .nil))) (.box rfl (.cons (.of_eq rfl) .nil) (.box rfl (.cons (.of_eq rfl) .nil) (.arr rfl .nil))) rfl)
    · replace h := cond_f hc116 h
      refine W.condF rfl hc116 ?_
      refine W.exit ?_
      obtain rfl := Option.some.inj h
      exact XQ.brk (Sw.Sub.mk id (.cons rfl (.of_eq rfl) (.cons rfl (.of_eq rfl) .nil)) (.box rfl (.cons (.of_eq rfl) .nil) (.box rfl (.cons (.of_eq rfl) .nil) (.arr rfl .nil))) rfl)
  intro s51 r76 h
  refine W.seq ?_
  refine W.seq ?_
  refine W.reg (σ' := ⟨[(0, .v (Enc.sl eBlk) a0), (2, .ptr 101 0), (3, .ref 128), (4, .v (Enc.int .i64) s51.1), (11, .v Enc.bool (cm .lss s51.1 (a0.length : Int)))], [(101, .box 71 [.v (Enc.sl (Enc.sl (Enc.int .u64))) ([] : (List (List Int)))]), (128, .arr 67 (Enc.int .u64) s51.2)]⟩) (J.cons (.none rfl) (JO.move rfl) rfl rfl (J.cons (.none rfl) (JO.move rfl) rfl rfl (J.cons (.none rfl) (JO.len rfl Try.runUnderlying22) rfl rfl (J.cons (.none rfl) (JO.cmp rfl rfl rfl) rfl rfl (J.fin (Sw.Sub.mk id (.cons rfl (.of_eq rfl) (.cons rfl (.of_eq rfl) (.cons rfl (.of_eq rfl) (.cons rfl (.of_eq rfl) (.cons rfl (.of_eq rfl) .nil))))) (.box rfl (.cons (.of_eq rfl) .nil) (.arr rfl .nil)) rfl)))))) ?_
  rcases Bool.eq_false_or_eq_true (cm .lss s51.1 (a0.length : Int)) with hc78 | hc78
  · replace h := cond_t hc78 h
    refine W.condT rfl hc78 ?_
    refine W.skip ?_
    refine W.seq ?_
    refine W.block ?_
    refine W.seq ?_
    refine W.reg (σ' := ⟨[(0, .v (Enc.sl eBlk) a0), (2, .ptr 101 0), (3, .ref 128), (4, .v (Enc.int .i64) s51.1), (5, .ref 140)], [(101, .box 71 [.v (Enc.sl (Enc.sl (Enc.int .u64))) ([] : (List (List Int)))]), (128, .arr 67 (Enc.int .u64) s51.2), (140, .arr 5 (Enc.int .u8) ([(0 : Int)] : (List Int)))]⟩) (J.cons (.none rfl) (JO.litR (e := (Enc.int .u8)) 140 Try.runUnderlying40 Try.sizeOf5 Try.zeroValue5 rfl rfl rfl rfl (.cons (.dir rfl) .nil)) rfl rfl (J.cons (.none rfl) (JO.assign rfl) rfl rfl (J.fin (Sw.Sub.mk id (.cons rfl (.of_eq rfl) (.cons rfl (.of_eq rfl) (.cons rfl (.of_eq rfl) (.cons rfl (.of_eq rfl) (.cons rfl (.of_eq rfl) .nil))))) (.box rfl (.cons (.of_eq rfl) .nil) (.arr rfl (.arr rfl .nil))) rfl)))) ?_
    refine W.seq ?_
    refine W.seq ?_
    refine W.reg (σ' := ⟨[(0, .v (Enc.sl eBlk) a0), (2, .ptr 101 0), (3, .ref 128), (4, .v (Enc.int .i64) s51.1), (5, .ref 140), (6, .v (Enc.int .i64) (0 : Int))], [(101, .box 71 [.v (Enc.sl (Enc.sl (Enc.int .u64))) ([] : (List (List Int)))]), (128, .arr 67 (Enc.int .u64) s51.2), (140, .arr 5 (Enc.int .u8) ([(0 : Int)] : (List Int)))]⟩) (J.cons (.none rfl) (JO.assign rfl) rfl rfl (J.fin (Sw.Sub.mk id (.cons rfl (.of_eq rfl) (.cons rfl (.of_eq rfl) (.cons rfl (.of_eq rfl) (.cons rfl (.of_eq rfl) (.cons rfl (.of_eq rfl) (.cons rfl (.of_eq rfl) .nil)))))) (.box rfl (.cons (.of_eq rfl) .nil) (.arr rfl (.arr rfl .nil))) rfl))) ?_
    obtain ⟨o94, ho94, hb94, hr94⟩ := lp_elim h
    refine W.lp (σs := fun s89 : Int × (List Int) => ⟨[(0, .v (Enc.sl eBlk) a0), (2, .ptr 101 0), (3, .ref 128), (4, .v (Enc.int .i64) s51.1), (5, .ref 146), (6, .v (Enc.int .i64) s89.1)], [(101, .box 71 [.v (Enc.sl (Enc.sl (Enc.int .u64))) ([] : (List (List Int)))]), (128, .arr 67 (Enc.int .u64) s51.2), (146, .arr 5 (Enc.int .u8) s89.2)]⟩) (fun x95 : (List Int) => ⟨[(0, .v (Enc.sl eBlk) a0), (2, .ptr 101 0), (3, .ref 128), (4, .v (Enc.int .i64) s51.1), (5, .ref 146)], [(101, .box 71 [.v (Enc.sl (Enc.sl (Enc.int .u64))) ([] : (List (List Int)))]), (128, .arr 67 (Enc.int .u64) s51.2), (146, .arr 5 (Enc.int .u8) x95)]⟩) ho94 (Sw.Sub.mk (rn [(101, 101), (128, 128), (146, 140)]) (.cons rfl (.of_eq rfl) (.cons rfl (.of_eq rfl) (.cons rfl (.of_eq rfl) (.cons rfl (.of_eq rfl) (.cons rfl (.of_eq rfl) (.cons rfl (.of_eq rfl) .nil)))))) (.box rfl (.cons (.of_eq rfl) .nil) (.arr rfl (.arr rfl .nil))) rfl) ?_ ?_
    · intro x95 hy
      have h := hb94 _ hy
      obtain ⟨v100, hv100, h⟩ := bind_e h
      obtain ⟨v101, hv101, h⟩ := bind_e h
      refine W.reg (σ' := ⟨[(0, .v (Enc.sl eBlk) a0), (2, .ptr 101 0), (3, .ref 150), (4, .v (Enc.int .i64) s51.1)], [(101, .box 71 [.v (Enc.sl (Enc.sl (Enc.int .u64))) ([] : (List (List Int)))]), (150, .arr 67 (Enc.int .u64) v101)]⟩) (J.cons (.none rfl) (JO.move rfl) rfl rfl (J.cons (.none rfl) (JO.move rfl) rfl rfl (J.cons (.none rfl) (JO.callL0 (con_ref_DigestOf hv100) Try.call38 (.cons (.ref rfl rfl) .nil) FlatS.v) rfl rfl (J.cons (.none rfl) (JO.lit (e := (Enc.int .u64)) Try.runUnderlying95 Try.sizeOf67 Try.zeroValue67 rfl rfl rfl rfl (.cons (.dir rfl) .nil)) rfl rfl (J.mut (.none rfl) (JM.append 150 hv101 rfl rfl (.sl rfl) Try.runUnderlying95 Try.typeInfo67 Try.sizeOf67 rfl rfl rfl rfl rfl) (J.cons (.none rfl) (JO.assign rfl) rfl rfl (J.fin (Sw.Sub.mk id (.cons rfl (.of_eq rfl) (.cons rfl (.of_eq rfl) (.cons rfl (.of_eq rfl) (.cons rfl (.of_eq rfl) .nil)))) (.box rfl (.cons (.of_eq rfl) .nil) (.arr rfl .nil)) rfl)))))))) ?_
      refine W.fall ?_
      refine W.reg (σ' := ⟨[(0, .v (Enc.sl eBlk) a0), (2, .ptr 101 0), (3, .ref 150), (4, .v (Enc.int .i64) (ar .add .i64 s51.1 (1 : Int)))], [(101, .box 71 [.v (Enc.sl (Enc.sl (Enc.int .u64))) ([] : (List (List Int)))]), (150, .arr 67 (Enc.int .u64) v101)]⟩) (J.cons (.none rfl) (JO.move rfl) rfl rfl (J.cons (.none rfl) (JO.arith rfl rfl rfl) rfl rfl (J.cons (.none rfl) (JO.assign rfl) rfl rfl (J.fin (Sw.Sub.mk id (.cons rfl (.of_eq rfl) (.cons rfl (.of_eq rfl) (.cons rfl (.of_eq rfl) (.cons rfl (.of_eq rfl) .nil)))) (.box rfl (.cons (.of_eq rfl) .nil) (.arr rfl .nil)) rfl))))) ?_
      obtain rfl := Option.some.inj h
      exact W.next (Sw.Sub.mk (rn [(101, 101), (128, 150)]) (.cons rfl (.of_eq rfl) (.cons rfl (.of_eq rfl) (.cons rfl (.of_eq rfl) (.cons rfl (.of_eq rfl) .nil)))) (.box rfl (.cons (.of_eq rfl) .nil) (.arr rfl .nil)) rfl)
    intro s89 r94 h
    refine W.seq ?_
    refine W.seq ?_
    refine W.reg (σ' := ⟨[(0, .v (Enc.sl eBlk) a0), (2, .ptr 101 0), (3, .ref 128), (4, .v (Enc.int .i64) s51.1), (5, .ref 146), (6, .v (Enc.int .i64) s89.1), (16, .v Enc.bool (cm .lss s89.1 (8 : Int)))], [(101, .box 71 [.v (Enc.sl (Enc.sl (Enc.int .u64))) ([] : (List (List Int)))]), (128, .arr 67 (Enc.int .u64) s51.2), (146, .arr 5 (Enc.int .u8) s89.2)]⟩) (J.cons (.none rfl) (JO.move rfl) rfl rfl (J.cons (.none rfl) (JO.cmp rfl rfl rfl) rfl rfl (J.fin (Sw.Sub.mk id (.cons rfl (.of_eq rfl) (.cons rfl (.of_eq rfl) (.cons rfl (.of_eq rfl) (.cons rfl (.of_eq rfl) (.cons rfl (.of_eq rfl) (.cons rfl (.of_eq rfl) (.cons rfl (.of_eq rfl) .nil))))))) (.box rfl (.cons (.of_eq rfl) .nil) (.arr rfl (.arr rfl .nil))) rfl)))) ?_
    rcases Bool.eq_false_or_eq_true (cm .lss s89.1 (8 : Int)) with hc96 | hc96
    · replace h := cond_t hc96 h
      refine W.condT rfl hc96 ?_
      refine W.skip ?_
      refine W.seq ?_
      refine W.block ?_
      obtain ⟨z97, hz97, h⟩ := bind_e h
      obtain ⟨z98, hz98, h⟩ := bind_e h
      obtain ⟨v99, hv99, h⟩ := bind_e h
      refine W.reg (σ' := ⟨[(0, .v (Enc.sl eBlk) a0), (2, .ptr 101 0), (3, .ref 128), (4, .v (Enc.int .i64) s51.1), (5, .ref 148), (6, .v (Enc.int .i64) s89.1)], [(101, .box 71 [.v (Enc.sl (Enc.sl (Enc.int .u64))) ([] : (List (List Int)))]), (128, .arr 67 (Enc.int .u64) s51.2), (148, .arr 5 (Enc.int .u8) v99)]⟩) (J.cons (.none rfl) (JO.move rfl) rfl rfl (J.cons (.none rfl) (JO.move rfl) rfl rfl (J.cons (.none rfl) (JO.move rfl) rfl rfl (J.cons (.none rfl) (JO.move rfl) rfl rfl (J.cons (.none rfl) (JO.idx hz97 rfl rfl Try.runUnderlying22 Try.sizeOf24) rfl rfl (J.cons (.none rfl) (JO.idxPst hz98 rfl rfl Try.runUnderlying24 Try.sizeOf5) rfl rfl (J.cons (.none rfl) (JO.loadPst rfl Try.isAgg5 Try.sizeOf5) rfl rfl (J.cons (.none rfl) (JO.lit (e := (Enc.int .u8)) Try.runUnderlying40 Try.sizeOf5 Try.zeroValue5 rfl rfl rfl rfl (.cons (.dir rfl) .nil)) rfl rfl (J.mut (.none rfl) (JM.append 148 hv99 rfl rfl (.sl rfl) Try.runUnderlying40 Try.typeInfo5 Try.sizeOf5 rfl rfl rfl rfl rfl) (J.cons (.none rfl) (JO.assign rfl) rfl rfl (J.fin (Sw.Sub.mk id (.cons rfl (.of_eq rfl) (.cons rfl (.of_eq rfl) (.cons rfl (.of_eq rfl) (.cons rfl (.of_eq rfl) (.cons rfl (.of_eq rfl) (.cons rfl (.of_eq rfl) .nil)))))) (.box rfl (.cons (.of_eq rfl) .nil) (.arr rfl (.arr rfl .nil))) rfl)))))))))))) ?_
      refine W.fall ?_
      refine W.reg (σ' := ⟨[(0, .v (Enc.sl eBlk) a0), (2, .ptr 101 0), (3, .ref 128), (4, .v (Enc.int .i64) s51.1), (5, .ref 148), (6, .v (Enc.int .i64) (ar .add .i64 s89.1 (1 : Int)))], [(101, .box 71 [.v (Enc.sl (Enc.sl (Enc.int .u64))) ([] : (List (List Int)))]), (128, .arr 67 (Enc.int .u64) s51.2), (148, .arr 5 (Enc.int .u8) v99)]⟩) (J.cons (.none rfl) (JO.move rfl) rfl rfl (J.cons (.none rfl) (JO.arith rfl rfl rfl) rfl rfl (J.cons (.none rfl) (JO.assign rfl) rfl rfl (J.fin (Sw.Sub.mk id (.cons rfl (.of_eq rfl) (.cons rfl (.of_eq rfl) (.cons rfl (.of_eq rfl) (.cons rfl (.of_eq rfl) (.cons rfl (.of_eq rfl) (.cons rfl (.of_eq rfl) .nil)))))) (.box rfl (.cons (.of_eq rfl) .nil) (.arr rfl (.arr rfl .nil))) rfl))))) ?_
      obtain rfl := Option.some.inj h
      exact W.next (Sw.Sub.mk (rn [(101, 101), (128, 128), (146, 148)]) (.cons rfl (.of_eq rfl) (.cons rfl (.of_eq rfl) (.cons rfl (.of_eq rfl) (.cons rfl (.of_eq rfl) (.cons rfl (.of_eq rfl) (.cons rfl (.of_eq rfl) .nil)))))) (.box rfl (.cons (.of_eq rfl) .nil) (.arr rfl (.arr rfl .nil))) rfl)
    · replace h := cond_f hc96 h
      refine W.condF rfl hc96 ?_
      refine W.exit ?_
      obtain rfl := Option.some.inj h
      exact XQ.brk (Sw.Sub.mk id (.cons rfl (.of_eq rfl) (.cons rfl (.of_eq rfl) (.cons rfl (.of_eq rfl) (.cons rfl (.of_eq rfl) (.cons rfl (.of_eq rfl) .nil))))) (.box rfl (.cons (.of_eq rfl) .nil) (.arr rfl (.arr rfl .nil))) rfl)
  · replace h := cond_f hc78 h
    refine W.condF rfl hc78 ?_
    refine W.exit ?_
    obtain rfl := Option.some.inj h
    exact XQ.brk (Sw.Sub.mk id (.cons rfl (.of_eq rfl) (.cons rfl (.of_eq rfl) .nil)) (.box rfl (.cons (.of_eq rfl) .nil) (.arr rfl .nil)) rfl)
set_option maxRecDepth 100000 in
set_option maxHeartbeats 4000000 in
theorem con_ref_SameLevel {a0 : (List Int)} {a1 : (List Int)} {r : Bool} (h : m_ref_SameLevel a0 a1 = some r) :
    Con Try.prog 55 [.v (Enc.sl (Enc.int .u64)) a0, .v (Enc.sl (Enc.int .u64)) a1] (.v Enc.bool r) [] := by
  refine Con.of Try.func55 rfl Try.ntmps55 rfl ?_
  intro S w hF
  unfold m_ref_SameLevel at h
  refine W.seq ?_
  refine W.reg (σ' := ⟨[(0, .v (Enc.sl (Enc.int .u64)) a0), (1, .v (Enc.sl (Enc.int .u64)) a1)], []⟩) (J.cons (.none rfl) (JO.assign rfl) rfl rfl (J.fin (Sw.Sub.mk id (.cons rfl (.of_eq rfl) (.cons rfl (.of_eq rfl) .nil)) .nil rfl))) ?_
  refine W.seq ?_
  refine W.seq ?_
  refine W.reg (σ' := ⟨[(0, .v (Enc.sl (Enc.int .u64)) a0), (1, .v (Enc.sl (Enc.int .u64)) a1), (10, .v Enc.bool (cm .neq (a0.length : Int) (a1.length : Int)))], []⟩) (J.cons (.none rfl) (JO.move rfl) rfl rfl (J.cons (.none rfl) (JO.len rfl Try.runUnderlying95) rfl rfl (J.cons (.none rfl) (JO.move rfl) rfl rfl (J.cons (.none rfl) (JO.len rfl Try.runUnderlying95) rfl rfl (J.cons (.none rfl) (JO.cmp rfl rfl rfl) rfl rfl (J.fin (Sw.Sub.mk id (.cons rfl (.of_eq rfl) (.cons rfl (.of_eq rfl) (.cons rfl (.of_eq rfl) .nil))) .nil rfl))))))) ?_
  rcases Bool.eq_false_or_eq_true (cm .neq (a0.length : Int) (a1.length : Int)) with hc1 | hc1
  · replace h := cond_t hc1 h
    refine W.condT rfl hc1 ?_
    refine W.seq ?_
    refine W.reg (σ' := ⟨[(4, .v Enc.bool false)], []⟩) (J.cons (.none rfl) (JO.assign rfl) rfl rfl (J.fin (Sw.Sub.mk id (.cons rfl (.of_eq rfl) .nil) .nil rfl))) ?_
    refine W.ret ?_
    obtain rfl := Option.some.inj h
    exact XQ.sub (σ' := ⟨[(4, .v Enc.bool false)], []⟩) (Sw.Sub.mk id (.cons rfl (.of_eq rfl) .nil) .nil rfl) (XQ.ret1 hF noR rfl (RV.tmp rfl) .nil rfl)
  · replace h := cond_f hc1 h
    refine W.condF rfl hc1 ?_
    refine W.skip ?_
    refine W.seq ?_
    refine W.seq ?_
    refine W.reg (σ' := ⟨[(0, .v (Enc.sl (Enc.int .u64)) a0), (1, .v (Enc.sl (Enc.int .u64)) a1), (5, .v (Enc.int .i64) (0 : Int))], []⟩) (J.cons (.none rfl) (JO.assign rfl) rfl rfl (J.fin (Sw.Sub.mk id (.cons rfl (.of_eq rfl) (.cons rfl (.of_eq rfl) (.cons rfl (.of_eq rfl) .nil))) .nil rfl))) ?_
    obtain ⟨o17, ho17, hb17, hr17⟩ := lp_elim h
    refine W.lp (σs := fun s12 : Int => ⟨[(0, .v (Enc.sl (Enc.int .u64)) a0), (1, .v (Enc.sl (Enc.int .u64)) a1), (5, .v (Enc.int .i64) s12)], []⟩) (fun x18 : Unit => ⟨[], []⟩) ho17 (Sw.Sub.mk id (.cons rfl (.of_eq rfl) (.cons rfl (.of_eq rfl) (.cons rfl (.of_eq rfl) .nil))) .nil rfl) ?_ ?_
    · intro x18 hy
      have h := hb17 _ hy
      refine W.seq ?_
      refine W.reg (σ' := ⟨[(4, .v Enc.bool true)], []⟩) (J.cons (.none rfl) (JO.assign rfl) rfl rfl (J.fin (Sw.Sub.mk id (.cons rfl (.of_eq rfl) .nil) .nil rfl))) ?_
      refine W.ret ?_
      obtain rfl := Option.some.inj h
      exact XQ.sub (σ' := ⟨[(4, .v Enc.bool true)], []⟩) (Sw.Sub.mk id (.cons rfl (.of_eq rfl) .nil) .nil rfl) (XQ.ret1 hF noR rfl (RV.tmp rfl) .nil rfl)
    intro s12 r17 h
    refine W.seq ?_
    refine W.seq ?_
    refine W.reg (σ' := ⟨[(0, .v (Enc.sl (Enc.int .u64)) a0), (1, .v (Enc.sl (Enc.int .u64)) a1), (5, .v (Enc.int .i64) s12), (14, .v Enc.bool (cm .lss s12 (a0.length : Int)))], []⟩) (J.cons (.none rfl) (JO.move rfl) rfl rfl (J.cons (.none rfl) (JO.move rfl) rfl rfl (J.cons (.none rfl) (JO.len rfl Try.runUnderlying95) rfl rfl (J.cons (.none rfl) (JO.cmp rfl rfl rfl) rfl rfl (J.fin (Sw.Sub.mk id (.cons rfl (.of_eq rfl) (.cons rfl (.of_eq rfl) (.cons rfl (.of_eq rfl) (.cons rfl (.of_eq rfl) .nil)))) .nil rfl)))))) ?_
    rcases Bool.eq_false_or_eq_true (cm .lss s12 (a0.length : Int)) with hc19 | hc19
    · replace h := cond_t hc19 h
      refine W.condT rfl hc19 ?_
      refine W.skip ?_
      refine W.seq ?_
      refine W.block ?_
      refine W.seq ?_
      obtain ⟨z20, hz20, h⟩ := bind_e h
      obtain ⟨z21, hz21, h⟩ := bind_e h
      refine W.dr2 (σ' := ⟨[(0, .v (Enc.sl (Enc.int .u64)) a0), (1, .v (Enc.sl (Enc.int .u64)) a1), (5, .v (Enc.int .i64) s12), (25, .v Enc.bool (cm .neq z20 z21))], []⟩) 9 [0, 0, 3, 7, 0, 0, 48, 112, 255] mixed (by exact (.cons (.none rfl) (JO.move rfl) rfl rfl (.cons (.none rfl) (JO.move rfl) rfl rfl (.cons (.none rfl) (JO.idx hz20 rfl rfl Try.runUnderlying95 Try.sizeOf67) rfl rfl (.cons (.none rfl) (JO.loadPst rfl Try.isAgg67 Try.sizeOf67) rfl rfl (.cons (.none rfl) (JO.move rfl) rfl rfl (.cons (.none rfl) (JO.move rfl) rfl rfl (.cons (.none rfl) (JO.idx hz21 rfl rfl Try.runUnderlying95 Try.sizeOf67) rfl rfl (.cons (.none rfl) (JO.loadPst rfl Try.isAgg67 Try.sizeOf67) rfl rfl (.cons (.none rfl) (JO.cmp rfl rfl rfl) rfl rfl .nil)))))))))) (by exact (J.fin (Sw.Sub.mk id (.cons rfl (.of_eq rfl) (.cons rfl (.of_eq rfl) (.cons rfl (.of_eq rfl) (.cons rfl (.of_eq rfl) .nil)))) .nil rfl))) rfl (by decide +kernel) (by decide +kernel) (by decide +kernel) (by kernel_rfl) ?_
      rcases Bool.eq_false_or_eq_true (cm .neq z20 z21) with hc22 | hc22
      · replace h := cond_t hc22 h
        refine W.condT rfl hc22 ?_
        refine W.seq ?_
        refine W.reg (σ' := ⟨[(4, .v Enc.bool false)], []⟩) (J.cons (.none rfl) (JO.assign rfl) rfl rfl (J.fin (Sw.Sub.mk id (.cons rfl (.of_eq rfl) .nil) .nil rfl))) ?_
        refine W.ret ?_
        refine XQ.ret ?_
        obtain rfl := Option.some.inj h
        refine XQ.lret fun ho => ?_
        obtain rfl := hr17 _ ho
        exact XQ.sub (σ' := ⟨[(4, .v Enc.bool false)], []⟩) (Sw.Sub.mk id (.cons rfl (.of_eq rfl) .nil) .nil rfl) (XQ.ret1 hF noR rfl (RV.tmp rfl) .nil rfl)
      · replace h := cond_f hc22 h
        refine W.condF rfl hc22 ?_
        refine W.skip ?_
        refine W.fall ?_
        refine W.reg (σ' := ⟨[(0, .v (Enc.sl (Enc.int .u64)) a0), (1, .v (Enc.sl (Enc.int .u64)) a1), (5, .v (Enc.int .i64) (ar .add .i64 s12 (1 : Int)))], []⟩) (J.cons (.none rfl) (JO.move rfl) rfl rfl (J.cons (.none rfl) (JO.arith rfl rfl rfl) rfl rfl (J.cons (.none rfl) (JO.assign rfl) rfl rfl (J.fin (Sw.Sub.mk id (.cons rfl (.of_eq rfl) (.cons rfl (.of_eq rfl) (.cons rfl (.of_eq rfl) .nil))) .nil rfl))))) ?_
        obtain rfl := Option.some.inj h
        exact W.next (Sw.Sub.mk id (.cons rfl (.of_eq rfl) (.cons rfl (.of_eq rfl) (.cons rfl (.of_eq rfl) .nil))) .nil rfl)
    · replace h := cond_f hc19 h
      refine W.condF rfl hc19 ?_
      refine W.exit ?_
      obtain rfl := Option.some.inj h
      exact XQ.brk (Sw.Sub.mk id .nil .nil rfl)
set_option maxRecDepth 100000 in
set_option maxHeartbeats 4000000 in
theorem con_ref_SameTree {a0 : ((List (List Int)))} {a1 : ((List (List Int)))} {r : Bool} (h : m_ref_SameTree a0 a1 = some r) :
    Con Try.prog 40 [.v (Enc.one1 (Enc.sl (Enc.sl (Enc.int .u64)))) a0, .v (Enc.one1 (Enc.sl (Enc.sl (Enc.int .u64)))) a1] (.v Enc.bool r) [] := by
  refine Con.of Try.func40 rfl Try.ntmps40 rfl ?_
  intro S w hF
  unfold m_ref_SameTree at h
  refine W.seq ?_
  refine W.reg (σ' := ⟨[(2, .ptr 101 0), (3, .ptr 102 0)], [(101, .box 71 [.v (Enc.sl (Enc.sl (Enc.int .u64))) a0]), (102, .box 71 [.v (Enc.sl (Enc.sl (Enc.int .u64))) a1])]⟩) (J.cons (.none rfl) (JO.box 101 rfl (.one1 (.one _ _)) rfl) rfl rfl (J.cons (.none rfl) (JO.box 102 rfl (.one1 (.one _ _)) rfl) rfl rfl (J.cons (.none rfl) (JO.assign rfl) rfl rfl (J.fin (Sw.Sub.mk id (.cons rfl (.of_eq rfl) (.cons rfl (.of_eq rfl) .nil)) (.box rfl (.cons (.of_eq rfl) .nil) (.box rfl (.cons (.of_eq rfl) .nil) .nil)) rfl))))) ?_
  refine W.seq ?_
  refine W.seq ?_
  refine W.reg (σ' := ⟨[(2, .ptr 101 0), (3, .ptr 102 0), (12, .v Enc.bool (cm .neq (a0.length : Int) (a1.length : Int)))], [(101, .box 71 [.v (Enc.sl (Enc.sl (Enc.int .u64))) a0]), (102, .box 71 [.v (Enc.sl (Enc.sl (Enc.int .u64))) a1])]⟩) (J.cons (.none rfl) (JO.fieldPtr 0 rfl Try.runUnderlying71 rfl Try.sizeOf69 rfl rfl) rfl rfl (J.cons (.none rfl) (JO.load rfl rfl rfl Try.isAgg69 Try.sizeOf69) rfl rfl (J.cons (.none rfl) (JO.len rfl Try.runUnderlying69) rfl rfl (J.cons (.none rfl) (JO.fieldPtr 0 rfl Try.runUnderlying71 rfl Try.sizeOf69 rfl rfl) rfl rfl (J.cons (.none rfl) (JO.load rfl rfl rfl Try.isAgg69 Try.sizeOf69) rfl rfl (J.cons (.none rfl) (JO.len rfl Try.runUnderlying69) rfl rfl (J.cons (.none rfl) (JO.cmp rfl rfl rfl) rfl rfl (J.fin (Sw.Sub.mk id (.cons rfl (.of_eq rfl) (.cons rfl (.of_eq rfl) (.cons rfl (.of_eq rfl) .nil))) (.box rfl (.cons (.of_eq rfl) .nil) (.box rfl (.cons (.of_eq rfl) .nil) .nil)) rfl))))))))) ?_
  rcases Bool.eq_false_or_eq_true (cm .neq (a0.length : Int) (a1.length : Int)) with hc1 | hc1
  · replace h := cond_t hc1 h
    refine W.condT rfl hc1 ?_
    refine W.seq ?_
    refine W.reg (σ' := ⟨[(4, .v Enc.bool false)], []⟩) (J.cons (.none rfl) (JO.assign rfl) rfl rfl (J.fin (Sw.Sub.mk id (.cons rfl (.of_eq rfl) .nil) .nil rfl))) ?_
    refine W.ret ?_
    obtain rfl := Option.some.inj h
    exact XQ.sub (σ' := ⟨[(4, .v Enc.bool false)], []⟩) (Sw.Sub.mk id (.cons rfl (.of_eq rfl) .nil) .nil rfl) (XQ.ret1 hF noR rfl (RV.tmp rfl) .nil rfl)
  · replace h := cond_f hc1 h
    refine W.condF rfl hc1 ?_
    refine W.skip ?_
    refine W.seq ?_
    refine W.seq ?_
    refine W.reg (σ' := ⟨[(2, .ptr 101 0), (3, .ptr 102 0), (5, .v (Enc.int .i64) (0 : Int))], [(101, .box 71 [.v (Enc.sl (Enc.sl (Enc.int .u64))) a0]), (102, .box 71 [.v (Enc.sl (Enc.sl (Enc.int .u64))) a1])]⟩) (J.cons (.none rfl) (JO.assign rfl) rfl rfl (J.fin (Sw.Sub.mk id (.cons rfl (.of_eq rfl) (.cons rfl (.of_eq rfl) (.cons rfl (.of_eq rfl) .nil))) (.box rfl (.cons (.of_eq rfl) .nil) (.box rfl (.cons (.of_eq rfl) .nil) .nil)) rfl))) ?_
    obtain ⟨o20, ho20, hb20, hr20⟩ := lp_elim h
    refine W.lp (σs := fun s14 : Int => ⟨[(2, .ptr 101 0), (3, .ptr 102 0), (5, .v (Enc.int .i64) s14)], [(101, .box 71 [.v (Enc.sl (Enc.sl (Enc.int .u64))) a0]), (102, .box 71 [.v (Enc.sl (Enc.sl (Enc.int .u64))) a1])]⟩) (fun x21 : Unit => ⟨[], []⟩) ho20 (Sw.Sub.mk id (.cons rfl (.of_eq rfl) (.cons rfl (.of_eq rfl) (.cons rfl (.of_eq rfl) .nil))) (.box rfl (.cons (.of_eq rfl) .nil) (.box rfl (.cons (.of_eq rfl) .nil) .nil)) rfl) ?_ ?_
    · intro x21 hy
      have h := hb20 _ hy
      refine W.seq ?_
      refine W.reg (σ' := ⟨[(4, .v Enc.bool true)], []⟩) (J.cons (.none rfl) (JO.assign rfl) rfl rfl (J.fin (Sw.Sub.mk id (.cons rfl (.of_eq rfl) .nil) .nil rfl))) ?_
      refine W.ret ?_
      obtain rfl := Option.some.inj h
      exact XQ.sub (σ' := ⟨[(4, .v Enc.bool true)], []⟩) (Sw.Sub.mk id (.cons rfl (.of_eq rfl) .nil) .nil rfl) (XQ.ret1 hF noR rfl (RV.tmp rfl) .nil rfl)
    intro s14 r20 h
    refine W.seq ?_
    refine W.seq ?_
    refine W.reg (σ' := ⟨[(2, .ptr 101 0), (3, .ptr 102 0), (5, .v (Enc.int .i64) s14), (17, .v Enc.bool (cm .lss s14 (a0.length : Int)))], [(101, .box 71 [.v (Enc.sl (Enc.sl (Enc.int .u64))) a0]), (102, .box 71 [.v (Enc.sl (Enc.sl (Enc.int .u64))) a1])]⟩) (J.cons (.none rfl) (JO.move rfl) rfl rfl (J.cons (.none rfl) (JO.fieldPtr 0 rfl Try.runUnderlying71 rfl Try.sizeOf69 rfl rfl) rfl rfl (J.cons (.none rfl) (JO.load rfl rfl rfl Try.isAgg69 Try.sizeOf69) rfl rfl (J.cons (.none rfl) (JO.len rfl Try.runUnderlying69) rfl rfl (J.cons (.none rfl) (JO.cmp rfl rfl rfl) rfl rfl (J.fin (Sw.Sub.mk id (.cons rfl (.of_eq rfl) (.cons rfl (.of_eq rfl) (.cons rfl (.of_eq rfl) (.cons rfl (.of_eq rfl) .nil)))) (.box rfl (.cons (.of_eq rfl) .nil) (.box rfl (.cons (.of_eq rfl) .nil) .nil)) rfl))))))) ?_
    rcases Bool.eq_false_or_eq_true (cm .lss s14 (a0.length : Int)) with hc22 | hc22
    · replace h := cond_t hc22 h
      refine W.condT rfl hc22 ?_
      refine W.skip ?_
      refine W.seq ?_
      refine W.block ?_
      refine W.seq ?_
      obtain ⟨z23, hz23, h⟩ := bind_e h
      obtain ⟨z24, hz24, h⟩ := bind_e h
      obtain ⟨v25, hv25, h⟩ := bind_e h
      refine W.dr2 (σ' := ⟨[(2, .ptr 101 0), (3, .ptr 102 0), (5, .v (Enc.int .i64) s14), (31, .v Enc.bool (!v25))], [(101, .box 71 [.v (Enc.sl (Enc.sl (Enc.int .u64))) a0]), (102, .box 71 [.v (Enc.sl (Enc.sl (Enc.int .u64))) a1])]⟩) 12 [0, 1, 0, 7, 15, 0, 32, 0, 224, 480, 1023, 2047] mixed (by exact (.cons (.none rfl) (JO.fieldPtr 0 rfl Try.runUnderlying71 rfl Try.sizeOf69 rfl rfl) rfl rfl (.cons (.none rfl) (JO.load rfl rfl rfl Try.isAgg69 Try.sizeOf69) rfl rfl (.cons (.none rfl) (JO.move rfl) rfl rfl (.cons (.none rfl) (JO.idx hz23 rfl rfl Try.runUnderlying69 Try.sizeOf95) rfl rfl (.cons (.none rfl) (JO.loadPst rfl Try.isAgg95 Try.sizeOf95) rfl rfl (.cons (.none rfl) (JO.fieldPtr 0 rfl Try.runUnderlying71 rfl Try.sizeOf69 rfl rfl) rfl rfl (.cons (.none rfl) (JO.load rfl rfl rfl Try.isAgg69 Try.sizeOf69) rfl rfl (.cons (.none rfl) (JO.move rfl) rfl rfl (.cons (.none rfl) (JO.idx hz24 rfl rfl Try.runUnderlying69 Try.sizeOf95) rfl rfl (.cons (.none rfl) (JO.loadPst rfl Try.isAgg95 Try.sizeOf95) rfl rfl (.cons (.none rfl) (JO.call0 (con_ref_SameLevel hv25) Try.call55 (.cons (.dir rfl) (.cons (.dir rfl) .nil))) rfl rfl (.cons (.none rfl) (JO.not rfl) rfl rfl .nil))))))))))))) (by exact (J.fin (Sw.Sub.mk id (.cons rfl (.of_eq rfl) (.cons rfl (.of_eq rfl) (.cons rfl (.of_eq rfl) (.cons rfl (.of_eq rfl) .nil)))) (.box rfl (.cons (.of_eq rfl) .nil) (.box rfl (.cons (.of_eq rfl) .nil) .nil)) rfl))) rfl (by decide +kernel) (by decide +kernel) (by decide +kernel) (by kernel_rfl) ?_
      rcases Bool.eq_false_or_eq_true (!v25) with hc26 | hc26
      · replace h := cond_t hc26 h
        refine W.condT rfl hc26 ?_
        refine W.seq ?_
        refine W.reg (σ' := ⟨[(4, .v Enc.bool false)], []⟩) (J.cons (.none rfl) (JO.assign rfl) rfl rfl (J.fin (Sw.Sub.mk id (.cons rfl (.of_eq rfl) .nil) .nil rfl))) ?_
        refine W.ret ?_
        refine XQ.ret ?_
        obtain rfl := Option.some.inj h
        refine XQ.lret fun ho => ?_
        obtain rfl := hr20 _ ho
        exact XQ.sub (σ' := ⟨[(4, .v Enc.bool false)], []⟩) (Sw.Sub.mk id (.cons rfl (.of_eq rfl) .nil) .nil rfl) (XQ.ret1 hF noR rfl (RV.tmp rfl) .nil rfl)
      · replace h := cond_f hc26 h
        refine W.condF rfl hc26 ?_
        refine W.skip ?_
        refine W.fall ?_
        refine W.reg (σ' := ⟨[(2, .ptr 101 0), (3, .ptr 102 0), (5, .v (Enc.int .i64) (ar .add .i64 s14 (1 : Int)))], [(101, .box 71 [.v (Enc.sl (Enc.sl (Enc.int .u64))) a0]), (102, .box 71 [.v (Enc.sl (Enc.sl (Enc.int .u64))) a1])]⟩) (J.cons (.none rfl) (JO.move rfl) rfl rfl (J.cons (.none rfl) (JO.arith rfl rfl rfl) rfl rfl (J.cons (.none rfl) (JO.assign rfl) rfl rfl (J.fin (Sw.Sub.mk id (.cons rfl (.of_eq rfl) (.cons rfl (.of_eq rfl) (.cons rfl (.of_eq rfl) .nil))) (.box rfl (.cons (.of_eq rfl) .nil) (.box rfl (.cons (.of_eq rfl) .nil) .nil)) rfl))))) ?_
        obtain rfl := Option.some.inj h
        exact W.next (Sw.Sub.mk id (.cons rfl (.of_eq rfl) (.cons rfl (.of_eq rfl) (.cons rfl (.of_eq rfl) .nil))) (.box rfl (.cons (.of_eq rfl) .nil) (.box rfl (.cons (.of_eq rfl) .nil) .nil)) rfl)
    · replace h := cond_f hc22 h
      refine W.condF rfl hc22 ?_
      refine W.exit ?_
      obtain rfl := Option.some.inj h
      exact XQ.brk (Sw.Sub.mk id .nil .nil rfl)
set_option maxRecDepth 100000 in
set_option maxHeartbeats 4000000 in
theorem con_slices_Equal_uint64_uint64 {a0 : (List Int)} {a1 : (List Int)} {r : Bool} (h : m_slices_Equal_uint64_uint64 a0 a1 = some r) :
    Con Try.prog 79 [.v (Enc.sl (Enc.int .u64)) a0, .v (Enc.sl (Enc.int .u64)) a1] (.v Enc.bool r) [] := by
  refine Con.of Try.func79 rfl Try.ntmps79 rfl ?_
  intro S w hF
  unfold m_slices_Equal_uint64_uint64 at h
  refine W.seq ?_
  refine W.reg (σ' := ⟨[(0, .v (Enc.sl (Enc.int .u64)) a0), (1, .v (Enc.sl (Enc.int .u64)) a1)], []⟩) (J.cons (.none rfl) (JO.assign rfl) rfl rfl (J.fin (Sw.Sub.mk id (.cons rfl (.of_eq rfl) (.cons rfl (.of_eq rfl) .nil)) .nil rfl))) ?_
  refine W.seq ?_
  refine W.seq ?_
  refine W.reg (σ' := ⟨[(0, .v (Enc.sl (Enc.int .u64)) a0), (1, .v (Enc.sl (Enc.int .u64)) a1), (10, .v Enc.bool (cm .neq (a0.length : Int) (a1.length : Int)))], []⟩) (J.cons (.none rfl) (JO.move rfl) rfl rfl (J.cons (.none rfl) (JO.len rfl Try.runUnderlying95) rfl rfl (J.cons (.none rfl) (JO.move rfl) rfl rfl (J.cons (.none rfl) (JO.len rfl Try.runUnderlying95) rfl rfl (J.cons (.none rfl) (JO.cmp rfl rfl rfl) rfl rfl (J.fin (Sw.Sub.mk id (.cons rfl (.of_eq rfl) (.cons rfl (.of_eq rfl) (.cons rfl (.of_eq rfl) .nil))) .nil rfl))))))) ?_
  rcases Bool.eq_false_or_eq_true (cm .neq (a0.length : Int) (a1.length : Int)) with hc1 | hc1
  · replace h := cond_t hc1 h
    refine W.condT rfl hc1 ?_
    refine W.seq ?_
    refine W.reg (σ' := ⟨[(4, .v Enc.bool false)], []⟩) (J.cons (.none rfl) (JO.assign rfl) rfl rfl (J.fin (Sw.Sub.mk id (.cons rfl (.of_eq rfl) .nil) .nil rfl))) ?_
    refine W.ret ?_
    obtain rfl := Option.some.inj h
    exact XQ.sub (σ' := ⟨[(4, .v Enc.bool false)], []⟩) (Sw.Sub.mk id (.cons rfl (.of_eq rfl) .nil) .nil rfl) (XQ.ret1 hF noR rfl (RV.tmp rfl) .nil rfl)
  · replace h := cond_f hc1 h
    refine W.condF rfl hc1 ?_
    refine W.skip ?_
    refine W.seq ?_
    refine W.seq ?_
    refine W.reg (σ' := ⟨[(0, .v (Enc.sl (Enc.int .u64)) a0), (1, .v (Enc.sl (Enc.int .u64)) a1), (12, .v (Enc.int .i64) (a0.length : Int)), (13, .v (Enc.int .i64) (0 : Int))], []⟩) (J.cons (.none rfl) (JO.move rfl) rfl rfl (J.cons (.none rfl) (JO.len rfl Try.runUnderlying95) rfl rfl (J.cons (.none rfl) (JO.move rfl) rfl rfl (J.fin (Sw.Sub.mk id (.cons rfl (.of_eq rfl) (.cons rfl (.of_eq rfl) (.cons rfl (.of_eq rfl) (.cons rfl (.of_eq rfl) .nil)))) .nil rfl))))) ?_
    obtain ⟨o17, ho17, hb17, hr17⟩ := lp_elim h
    refine W.lp (σs := fun s12 : Int => ⟨[(0, .v (Enc.sl (Enc.int .u64)) a0), (1, .v (Enc.sl (Enc.int .u64)) a1), (12, .v (Enc.int .i64) (a0.length : Int)), (13, .v (Enc.int .i64) s12)], []⟩) (fun x18 : Unit => ⟨[], []⟩) ho17 (Sw.Sub.mk id (.cons rfl (.of_eq rfl) (.cons rfl (.of_eq rfl) (.cons rfl (.of_eq rfl) (.cons rfl (.of_eq rfl) .nil)))) .nil rfl) ?_ ?_
    · intro x18 hy
      have h := hb17 _ hy
      refine W.seq ?_
      refine W.reg (σ' := ⟨[(4, .v Enc.bool true)], []⟩) (J.cons (.none rfl) (JO.assign rfl) rfl rfl (J.fin (Sw.Sub.mk id (.cons rfl (.of_eq rfl) .nil) .nil rfl))) ?_
      refine W.ret ?_
      obtain rfl := Option.some.inj h
      exact XQ.sub (σ' := ⟨[(4, .v Enc.bool true)], []⟩) (Sw.Sub.mk id (.cons rfl (.of_eq rfl) .nil) .nil rfl) (XQ.ret1 hF noR rfl (RV.tmp rfl) .nil rfl)
    intro s12 r17 h
    refine W.seq ?_
    refine W.reg (σ' := ⟨[(0, .v (Enc.sl (Enc.int .u64)) a0), (1, .v (Enc.sl (Enc.int .u64)) a1), (12, .v (Enc.int .i64) (a0.length : Int)), (13, .v (Enc.int .i64) s12), (14, .v Enc.bool (cm .lss s12 (a0.length : Int)))], []⟩) (J.cons (.none rfl) (JO.cmp rfl rfl rfl) rfl rfl (J.fin (Sw.Sub.mk id (.cons rfl (.of_eq rfl) (.cons rfl (.of_eq rfl) (.cons rfl (.of_eq rfl) (.cons rfl (.of_eq rfl) (.cons rfl (.of_eq rfl) .nil))))) .nil rfl))) ?_
    refine W.seq ?_
    rcases Bool.eq_false_or_eq_true (cm .lss s12 (a0.length : Int)) with hc19 | hc19
    · replace h := cond_t hc19 h
      refine W.condT rfl hc19 ?_
      refine W.skip ?_
      refine W.seq ?_
      refine W.block ?_
      refine W.seq ?_
      refine W.reg (σ' := ⟨[(0, .v (Enc.sl (Enc.int .u64)) a0), (1, .v (Enc.sl (Enc.int .u64)) a1), (5, .v (Enc.int .i64) s12), (12, .v (Enc.int .i64) (a0.length : Int)), (13, .v (Enc.int .i64) s12)], []⟩) (J.cons (.none rfl) (JO.move rfl) rfl rfl (J.cons (.none rfl) (JO.assign rfl) rfl rfl (J.fin (Sw.Sub.mk id (.cons rfl (.of_eq rfl) (.cons rfl (.of_eq rfl) (.cons rfl (.of_eq rfl) (.cons rfl (.of_eq rfl) (.cons rfl (.of_eq rfl) .nil))))) .nil rfl)))) ?_
      refine W.seq ?_
      obtain ⟨z20, hz20, h⟩ := bind_e h
      obtain ⟨z21, hz21, h⟩ := bind_e h
      refine W.dr2 (σ' := ⟨[(0, .v (Enc.sl (Enc.int .u64)) a0), (1, .v (Enc.sl (Enc.int .u64)) a1), (12, .v (Enc.int .i64) (a0.length : Int)), (13, .v (Enc.int .i64) s12), (24, .v Enc.bool (cm .neq z20 z21))], []⟩) 9 [0, 0, 3, 7, 0, 0, 48, 112, 255] mixed (by exact (.cons (.none rfl) (JO.move rfl) rfl rfl (.cons (.none rfl) (JO.move rfl) rfl rfl (.cons (.none rfl) (JO.idx hz20 rfl rfl Try.runUnderlying95 Try.sizeOf67) rfl rfl (.cons (.none rfl) (JO.loadPst rfl Try.isAgg67 Try.sizeOf67) rfl rfl (.cons (.none rfl) (JO.move rfl) rfl rfl (.cons (.none rfl) (JO.move rfl) rfl rfl (.cons (.none rfl) (JO.idx hz21 rfl rfl Try.runUnderlying95 Try.sizeOf67) rfl rfl (.cons (.none rfl) (JO.loadPst rfl Try.isAgg67 Try.sizeOf67) rfl rfl (.cons (.none rfl) (JO.cmp rfl rfl rfl) rfl rfl .nil)))))))))) (by exact (J.fin (Sw.Sub.mk id (.cons rfl (.of_eq rfl) (.cons rfl (.of_eq rfl) (.cons rfl (.of_eq rfl) (.cons rfl (.of_eq rfl) (.cons rfl (.of_eq rfl) .nil))))) .nil rfl))) rfl (by decide +kernel) (by decide +kernel) (by decide +kernel) (by kernel_rfl) ?_
      rcases Bool.eq_false_or_eq_true (cm .neq z20 z21) with hc22 | hc22
      · replace h := cond_t hc22 h
        refine W.condT rfl hc22 ?_
        refine W.seq ?_
        refine W.reg (σ' := ⟨[(4, .v Enc.bool false)], []⟩) (J.cons (.none rfl) (JO.assign rfl) rfl rfl (J.fin (Sw.Sub.mk id (.cons rfl (.of_eq rfl) .nil) .nil rfl))) ?_
        refine W.ret ?_
        refine XQ.ret ?_
        obtain rfl := Option.some.inj h
        refine XQ.lret fun ho => ?_
        obtain rfl := hr17 _ ho
        exact XQ.sub (σ' := ⟨[(4, .v Enc.bool false)], []⟩) (Sw.Sub.mk id (.cons rfl (.of_eq rfl) .nil) .nil rfl) (XQ.ret1 hF noR rfl (RV.tmp rfl) .nil rfl)
      · replace h := cond_f hc22 h
        refine W.condF rfl hc22 ?_
        refine W.skip ?_
        refine W.fall ?_
        refine W.reg (σ' := ⟨[(0, .v (Enc.sl (Enc.int .u64)) a0), (1, .v (Enc.sl (Enc.int .u64)) a1), (12, .v (Enc.int .i64) (a0.length : Int)), (13, .v (Enc.int .i64) (ar .add .i64 s12 (1 : Int)))], []⟩) (J.cons (.none rfl) (JO.arith rfl rfl rfl) rfl rfl (J.cons (.none rfl) (JO.move rfl) rfl rfl (J.fin (Sw.Sub.mk id (.cons rfl (.of_eq rfl) (.cons rfl (.of_eq rfl) (.cons rfl (.of_eq rfl) (.cons rfl (.of_eq rfl) .nil)))) .nil rfl)))) ?_
        obtain rfl := Option.some.inj h
        exact W.next (Sw.Sub.mk id (.cons rfl (.of_eq rfl) (.cons rfl (.of_eq rfl) (.cons rfl (.of_eq rfl) (.cons rfl (.of_eq rfl) .nil)))) .nil rfl)
    · replace h := cond_f hc19 h
      refine W.condF rfl hc19 ?_
      refine W.exit ?_
      obtain rfl := Option.some.inj h
      exact XQ.brk (Sw.Sub.mk id .nil .nil rfl)
set_option maxRecDepth 100000 in
set_option maxHeartbeats 4000000 in
theorem con_tree_Check {a0 : ((List (List Int)))} {r : (Option Int)} (h : m_tree_Check a0 = some r) :
    Con Try.prog 42 [.v (Enc.one1 (Enc.sl (Enc.sl (Enc.int .u64)))) a0] (.v (Enc.err ET) r) [] := by
  refine Con.of Try.func42 rfl Try.ntmps42 rfl ?_
  intro S w hF
  unfold m_tree_Check at h
  refine W.seq ?_
  refine W.reg (σ' := ⟨[(1, .ptr 101 0)], [(101, .box 71 [.v (Enc.sl (Enc.sl (Enc.int .u64))) a0])]⟩) (J.cons (.none rfl) (JO.box 101 rfl (.one1 (.one _ _)) rfl) rfl rfl (J.cons (.none rfl) (JO.assignNilE ET) rfl rfl (J.fin (Sw.Sub.mk id (.cons rfl (.of_eq rfl) .nil) (.box rfl (.cons (.of_eq rfl) .nil) .nil) rfl)))) ?_
  refine W.seq ?_
  refine W.seq ?_
  obtain ⟨x5, hx, h⟩ := bind_e h
  refine W.reg (σ' := ⟨[(1, .ptr 101 0), (25, .v Enc.bool x5)], [(101, .box 71 [.v (Enc.sl (Enc.sl (Enc.int .u64))) a0])]⟩) ?_ ?_
  · rcases Bool.eq_false_or_eq_true (cm .eql (a0.length : Int) (0 : Int)) with hc6 | hc6
    · replace hx := cond_t hc6 hx
      obtain rfl := Option.some.inj hx
      exact (J.cons (.none rfl) (JO.fieldPtr 0 rfl Try.runUnderlying71 rfl Try.sizeOf69 rfl rfl) rfl rfl (J.cons (.none rfl) (JO.load rfl rfl rfl Try.isAgg69 Try.sizeOf69) rfl rfl (J.cons (.none rfl) (JO.len rfl Try.runUnderlying69) rfl rfl (J.cons (.none rfl) (JO.cmp rfl rfl rfl) rfl rfl (J.cons (.none rfl) (JO.move rfl) rfl rfl (J.left (GK.unmet 10 rfl rfl rfl hc6) rfl (J.left (GK.unmet 10 rfl rfl rfl hc6) rfl (J.left (GK.unmet 10 rfl rfl rfl hc6) rfl (J.left (GK.unmet 10 rfl rfl rfl hc6) rfl (J.left (GK.unmet 10 rfl rfl rfl hc6) rfl (J.left (GK.unmet 10 rfl rfl rfl hc6) rfl (J.cons (.none rfl) (JO.pT hc6 rfl rfl) rfl rfl (J.cons (.none rfl) (JO.move rfl) rfl rfl (J.left (GK.unmet 18 rfl rfl rfl rfl) rfl (J.left (GK.unmet 18 rfl rfl rfl rfl) rfl (J.left (GK.unmet 18 rfl rfl rfl rfl) rfl (J.left (GK.unmet 18 rfl rfl rfl rfl) rfl (J.left (GK.unmet 18 rfl rfl rfl rfl) rfl (J.left (GK.unmet 18 rfl rfl rfl rfl) rfl (J.cons (.none rfl) (JO.pT rfl rfl rfl) rfl rfl (J.fin (Sw.Sub.mk id (.cons rfl (.of_eq rfl) (.cons rfl (.of_eq rfl) .nil)) (.box rfl (.cons (.of_eq rfl) .nil) .nil) rfl))))))))))))))))))))))
    · replace hx := cond_f hc6 hx
      obtain ⟨z7, hz7, hx⟩ := bind_e hx
      rcases Bool.eq_false_or_eq_true (cm .lss (z7.length : Int) (1 : Int)) with hc8 | hc8
      · replace hx := cond_t hc8 hx
        obtain rfl := Option.some.inj hx
        exact (J.cons (.none rfl) (JO.fieldPtr 0 rfl Try.runUnderlying71 rfl Try.sizeOf69 rfl rfl) rfl rfl (J.cons (.none rfl) (JO.load rfl rfl rfl Try.isAgg69 Try.sizeOf69) rfl rfl (J.cons (.none rfl) (JO.len rfl Try.runUnderlying69) rfl rfl (J.cons (.none rfl) (JO.cmp rfl rfl rfl) rfl rfl (J.cons (.none rfl) (JO.move rfl) rfl rfl (J.cons (GK.met 10 rfl rfl rfl hc6) (JO.fieldPtr 0 rfl Try.runUnderlying71 rfl Try.sizeOf69 rfl rfl) rfl rfl (J.cons (GK.met 10 rfl rfl rfl hc6) (JO.load rfl rfl rfl Try.isAgg69 Try.sizeOf69) rfl rfl (J.cons (GK.met 10 rfl rfl rfl hc6) (JO.idx hz7 rfl rfl Try.runUnderlying69 Try.sizeOf95) rfl rfl (J.cons (GK.met 10 rfl rfl rfl hc6) (JO.loadPst rfl Try.isAgg95 Try.sizeOf95) rfl rfl (J.cons (GK.met 10 rfl rfl rfl hc6) (JO.len rfl Try.runUnderlying95) rfl rfl (J.cons (GK.met 10 rfl rfl rfl hc6) (JO.cmp rfl rfl rfl) rfl rfl (J.cons (.none rfl) (JO.pF hc6 rfl rfl) rfl rfl (J.cons (.none rfl) (JO.move rfl) rfl rfl (J.left (GK.unmet 18 rfl rfl rfl hc8) rfl (J.left (GK.unmet 18 rfl rfl rfl hc8) rfl (J.left (GK.unmet 18 rfl rfl rfl hc8) rfl (J.left (GK.unmet 18 rfl rfl rfl hc8) rfl (J.left (GK.unmet 18 rfl rfl rfl hc8) rfl (J.left (GK.unmet 18 rfl rfl rfl hc8) rfl (J.cons (.none rfl) (JO.pT hc8 rfl rfl) rfl rfl (J.fin (Sw.Sub.mk id (.cons rfl (.of_eq rfl) (.cons rfl (.of_eq rfl) .nil)) (.box rfl (.cons (.of_eq rfl) .nil) .nil) rfl))))))))))))))))))))))
      · replace hx := cond_f hc8 hx
        obtain ⟨z9, hz9, hx⟩ := bind_e hx
        obtain rfl := Option.some.inj hx
        exact (J.cons (.none rfl) (JO.fieldPtr 0 rfl Try.runUnderlying71 rfl Try.sizeOf69 rfl rfl) rfl rfl (J.cons (.none rfl) (JO.load rfl rfl rfl Try.isAgg69 Try.sizeOf69) rfl rfl (J.cons (.none rfl) (JO.len rfl Try.runUnderlying69) rfl rfl (J.cons (.none rfl) (JO.cmp rfl rfl rfl) rfl rfl (J.cons (.none rfl) (JO.move rfl) rfl rfl (J.cons (GK.met 10 rfl rfl rfl hc6) (JO.fieldPtr 0 rfl Try.runUnderlying71 rfl Try.sizeOf69 rfl rfl) rfl rfl (J.cons (GK.met 10 rfl rfl rfl hc6) (JO.load rfl rfl rfl Try.isAgg69 Try.sizeOf69) rfl rfl (J.cons (GK.met 10 rfl rfl rfl hc6) (JO.idx hz7 rfl rfl Try.runUnderlying69 Try.sizeOf95) rfl rfl (J.cons (GK.met 10 rfl rfl rfl hc6) (JO.loadPst rfl Try.isAgg95 Try.sizeOf95) rfl rfl (J.cons (GK.met 10 rfl rfl rfl hc6) (JO.len rfl Try.runUnderlying95) rfl rfl (J.cons (GK.met 10 rfl rfl rfl hc6) (JO.cmp rfl rfl rfl) rfl rfl (J.cons (.none rfl) (JO.pF hc6 rfl rfl) rfl rfl (J.cons (.none rfl) (JO.move rfl) rfl rfl (J.cons (GK.met 18 rfl rfl rfl hc8) (JO.fieldPtr 0 rfl Try.runUnderlying71 rfl Try.sizeOf69 rfl rfl) rfl rfl (J.cons (GK.met 18 rfl rfl rfl hc8) (JO.load rfl rfl rfl Try.isAgg69 Try.sizeOf69) rfl rfl (J.cons (GK.met 18 rfl rfl rfl hc8) (JO.idx hz9 rfl rfl Try.runUnderlying69 Try.sizeOf95) rfl rfl (J.cons (GK.met 18 rfl rfl rfl hc8) (JO.loadPst rfl Try.isAgg95 Try.sizeOf95) rfl rfl (J.cons (GK.met 18 rfl rfl rfl hc8) (JO.len rfl Try.runUnderlying95) rfl rfl (J.cons (GK.met 18 rfl rfl rfl hc8) (JO.cmp rfl rfl rfl) rfl rfl (J.cons (.none rfl) (JO.pF hc8 rfl rfl) rfl rfl (J.fin (Sw.Sub.mk id (.cons rfl (.of_eq rfl) (.cons rfl (.of_eq rfl) .nil)) (.box rfl (.cons (.of_eq rfl) .nil) .nil) rfl))))))))))))))))))))))
  rcases Bool.eq_false_or_eq_true x5 with hc10 | hc10
  · replace h := cond_t hc10 h
    refine W.condT rfl hc10 ?_
    refine W.seq ?_
    refine W.reg (σ' := ⟨[(2, .v (Enc.err ET) (some (3 : Int)))], []⟩) (J.cons (.none rfl) (JO.mkErr Try.runUnderlying25 rfl) rfl rfl (J.cons (.none rfl) (JO.assign rfl) rfl rfl (J.fin (Sw.Sub.mk id (.cons rfl (.of_eq rfl) .nil) .nil rfl)))) ?_
    refine W.ret ?_
    obtain rfl := Option.some.inj h
    exact XQ.sub (σ' := ⟨[(2, .v (Enc.err ET) (some (3 : Int)))], []⟩) (Sw.Sub.mk id (.cons rfl (.of_eq rfl) .nil) .nil rfl) (XQ.ret1 hF noR rfl (RV.tmp rfl) .nil rfl)
  · replace h := cond_f hc10 h
    refine W.condF rfl hc10 ?_
    refine W.skip ?_
    refine W.seq ?_
    refine W.seq ?_
    refine W.reg (σ' := ⟨[(1, .ptr 101 0), (28, .v (Enc.sl (Enc.sl (Enc.int .u64))) a0), (29, .v (Enc.int .i64) (a0.length : Int)), (30, .v (Enc.int .i64) (0 : Int))], [(101, .box 71 [.v (Enc.sl (Enc.sl (Enc.int .u64))) a0])]⟩) (J.cons (.none rfl) (JO.fieldPtr 0 rfl Try.runUnderlying71 rfl Try.sizeOf69 rfl rfl) rfl rfl (J.cons (.none rfl) (JO.load rfl rfl rfl Try.isAgg69 Try.sizeOf69) rfl rfl (J.cons (.none rfl) (JO.len rfl Try.runUnderlying69) rfl rfl (J.cons (.none rfl) (JO.move rfl) rfl rfl (J.fin (Sw.Sub.mk id (.cons rfl (.of_eq rfl) (.cons rfl (.of_eq rfl) (.cons rfl (.of_eq rfl) (.cons rfl (.of_eq rfl) .nil)))) (.box rfl (.cons (.of_eq rfl) .nil) .nil) rfl)))))) ?_
    obtain ⟨o56, ho56, hb56, hr56⟩ := lp_elim h
    refine W.lp (σs := fun s41 : Int => ⟨[(1, .ptr 101 0), (28, .v (Enc.sl (Enc.sl (Enc.int .u64))) a0), (29, .v (Enc.int .i64) (a0.length : Int)), (30, .v (Enc.int .i64) s41)], [(101, .box 71 [.v (Enc.sl (Enc.sl (Enc.int .u64))) a0])]⟩) (fun x57 : Unit => ⟨[], []⟩) ho56 (Sw.Sub.mk id (.cons rfl (.of_eq rfl) (.cons rfl (.of_eq rfl) (.cons rfl (.of_eq rfl) (.cons rfl (.of_eq rfl) .nil)))) (.box rfl (.cons (.of_eq rfl) .nil) .nil) rfl) ?_ ?_
    · intro x57 hy
      have h := hb56 _ hy
      refine W.seq ?_
      refine W.reg (σ' := ⟨[(2, .v (Enc.err ET) (none : Option Int))], []⟩) (J.cons (.none rfl) (JO.assignNilE ET) rfl rfl (J.fin (Sw.Sub.mk id (.cons rfl (.of_eq rfl) .nil) .nil rfl))) ?_
      refine W.ret ?_
      obtain rfl := Option.some.inj h
      exact XQ.sub (σ' := ⟨[(2, .v (Enc.err ET) (none : Option Int))], []⟩) (Sw.Sub.mk id (.cons rfl (.of_eq rfl) .nil) .nil rfl) (XQ.ret1 hF noR rfl (RV.tmp rfl) .nil rfl)
    intro s41 r56 h
    refine W.seq ?_
    refine W.reg (σ' := ⟨[(1, .ptr 101 0), (28, .v (Enc.sl (Enc.sl (Enc.int .u64))) a0), (29, .v (Enc.int .i64) (a0.length : Int)), (30, .v (Enc.int .i64) s41), (31, .v Enc.bool (cm .lss s41 (a0.length : Int)))], [(101, .box 71 [.v (Enc.sl (Enc.sl (Enc.int .u64))) a0])]⟩) (J.cons (.none rfl) (JO.cmp rfl rfl rfl) rfl rfl (J.fin (Sw.Sub.mk id (.cons rfl (.of_eq rfl) (.cons rfl (.of_eq rfl) (.cons rfl (.of_eq rfl) (.cons rfl (.of_eq rfl) (.cons rfl (.of_eq rfl) .nil))))) (.box rfl (.cons (.of_eq rfl) .nil) .nil) rfl))) ?_
    refine W.seq ?_
    rcases Bool.eq_false_or_eq_true (cm .lss s41 (a0.length : Int)) with hc58 | hc58
    · replace h := cond_t hc58 h
      refine W.condT rfl hc58 ?_
      refine W.skip ?_
      refine W.seq ?_
      refine W.block ?_
      refine W.seq ?_
      obtain ⟨z59, hz59, h⟩ := bind_e h
      refine W.reg (σ' := ⟨[(1, .ptr 101 0), (3, .v (Enc.int .i64) s41), (4, .v (Enc.sl (Enc.int .u64)) z59), (28, .v (Enc.sl (Enc.sl (Enc.int .u64))) a0), (29, .v (Enc.int .i64) (a0.length : Int)), (30, .v (Enc.int .i64) s41)], [(101, .box 71 [.v (Enc.sl (Enc.sl (Enc.int .u64))) a0])]⟩) (J.cons (.none rfl) (JO.move rfl) rfl rfl (J.cons (.none rfl) (JO.idx hz59 rfl rfl Try.runUnderlying69 Try.sizeOf95) rfl rfl (J.cons (.none rfl) (JO.loadPst rfl Try.isAgg95 Try.sizeOf95) rfl rfl (J.cons (.none rfl) (JO.assign rfl) rfl rfl (J.cons (.none rfl) (JO.assign rfl) rfl rfl (J.fin (Sw.Sub.mk id (.cons rfl (.of_eq rfl) (.cons rfl (.of_eq rfl) (.cons rfl (.of_eq rfl) (.cons rfl (.of_eq rfl) (.cons rfl (.of_eq rfl) (.cons rfl (.of_eq rfl) .nil)))))) (.box rfl (.cons (.of_eq rfl) .nil) .nil) rfl))))))) ?_
      refine W.seq ?_
      refine W.reg (σ' := ⟨[(1, .ptr 101 0), (3, .v (Enc.int .i64) s41), (4, .v (Enc.sl (Enc.int .u64)) z59), (5, .v Enc.bool (cm .eql s41 (ar .sub .i64 (a0.length : Int) (1 : Int)))), (28, .v (Enc.sl (Enc.sl (Enc.int .u64))) a0), (29, .v (Enc.int .i64) (a0.length : Int)), (30, .v (Enc.int .i64) s41)], [(101, .box 71 [.v (Enc.sl (Enc.sl (Enc.int .u64))) a0])]⟩) (J.cons (.none rfl) (JO.move rfl) rfl rfl (J.cons (.none rfl) (JO.fieldPtr 0 rfl Try.runUnderlying71 rfl Try.sizeOf69 rfl rfl) rfl rfl (J.cons (.none rfl) (JO.load rfl rfl rfl Try.isAgg69 Try.sizeOf69) rfl rfl (J.cons (.none rfl) (JO.len rfl Try.runUnderlying69) rfl rfl (J.cons (.none rfl) (JO.arith rfl rfl rfl) rfl rfl (J.cons (.none rfl) (JO.cmp rfl rfl rfl) rfl rfl (J.cons (.none rfl) (JO.assign rfl) rfl rfl (J.fin (Sw.Sub.mk id (.cons rfl (.of_eq rfl) (.cons rfl (.of_eq rfl) (.cons rfl (.of_eq rfl) (.cons rfl (.of_eq rfl) (.cons rfl (.of_eq rfl) (.cons rfl (.of_eq rfl) (.cons rfl (.of_eq rfl) .nil))))))) (.box rfl (.cons (.of_eq rfl) .nil) .nil) rfl))))))))) ?_
      refine W.seq ?_
      obtain ⟨x65, hx, h⟩ := bind_e h
      refine W.mg (σ' := ⟨[(1, .ptr 101 0), (28, .v (Enc.sl (Enc.sl (Enc.int .u64))) a0), (29, .v (Enc.int .i64) (a0.length : Int)), (30, .v (Enc.int .i64) s41), (61, .v Enc.bool x65)], [(101, .box 71 [.v (Enc.sl (Enc.sl (Enc.int .u64))) a0])]⟩) ?_ ?_
      · intro hk
        rcases Bool.eq_false_or_eq_true (!((cm .eql s41 (ar .sub .i64 (a0.length : Int) (1 : Int))) == (cm .eql (z59.length : Int) (1 : Int)))) with hc66 | hc66
        · replace hx := cond_t hc66 hx
          obtain rfl := Option.some.inj hx
          exact W.dr2 (σ' := ⟨[(1, .ptr 101 0), (28, .v (Enc.sl (Enc.sl (Enc.int .u64))) a0), (29, .v (Enc.int .i64) (a0.length : Int)), (30, .v (Enc.int .i64) s41), (61, .v Enc.bool true)], [(101, .box 71 [.v (Enc.sl (Enc.sl (Enc.int .u64))) a0])]⟩) 21 [0, 0, 2, 6, 15, 31, 63, 127, 255, 511, 1023, 511, 2559, 511, 8703, 31231, 63999, 131071, 262143, 524287, 1048575] mixed (by exact (.cons (.none rfl) (JO.move rfl) rfl rfl (.cons (.none rfl) (JO.move rfl) rfl rfl (.cons (.none rfl) (JO.len rfl Try.runUnderlying95) rfl rfl (.cons (.none rfl) (JO.cmp rfl rfl rfl) rfl rfl (.cons (.none rfl) (JO.boolNe Try.runUnderlying4 rfl rfl) rfl rfl (.cons (.none rfl) (JO.move rfl) rfl rfl (.left (GK.unmet 46 rfl rfl rfl hc66) rfl (.left (GK.unmet 46 rfl rfl rfl hc66) rfl (.left (GK.unmet 46 rfl rfl rfl hc66) rfl (.left (GK.und 49 rfl rfl rfl) rfl (.left (GK.und 49 rfl rfl rfl) rfl (.left (GK.und 49 rfl rfl rfl) rfl (.left (GK.und 49 rfl rfl rfl) rfl (.left (GK.und 49 rfl rfl rfl) rfl (.left (GK.und 49 rfl rfl rfl) rfl (.left (GK.und 49 rfl rfl rfl) rfl (.left (GK.und 49 rfl rfl rfl) rfl (.left (GK.und 49 rfl rfl rfl) rfl (.left (GK.und 49 rfl rfl rfl) rfl (.left (GK.unmet 46 rfl rfl rfl hc66) rfl (.cons (.none rfl) (JO.pT hc66 rfl rfl) rfl rfl .nil)))))))))))))))))))))) (by exact (J.fin (Sw.Sub.mk id (.cons rfl (.of_eq rfl) (.cons rfl (.of_eq rfl) (.cons rfl (.of_eq rfl) (.cons rfl (.of_eq rfl) (.cons rfl (.of_eq rfl) .nil))))) (.box rfl (.cons (.of_eq rfl) .nil) .nil) rfl))) rfl (by decide +kernel) (by decide +kernel) (by decide +kernel) (by kernel_rfl) hk
        · replace hx := cond_f hc66 hx
          rcases Bool.eq_false_or_eq_true (!(cm .eql s41 (ar .sub .i64 (a0.length : Int) (1 : Int)))) with hc67 | hc67
          · replace hx := cond_t hc67 hx
            obtain ⟨v68, hv68, hx⟩ := bind_e hx
            obtain ⟨z69, hz69, hx⟩ := bind_e hx
            obtain ⟨v70, hv70, hx⟩ := bind_e hx
            obtain rfl := Option.some.inj hx
            exact W.dr2 (σ' := ⟨[(1, .ptr 101 0), (28, .v (Enc.sl (Enc.sl (Enc.int .u64))) a0), (29, .v (Enc.int .i64) (a0.length : Int)), (30, .v (Enc.int .i64) s41), (61, .v Enc.bool (!v70))], [(101, .box 71 [.v (Enc.sl (Enc.sl (Enc.int .u64))) a0])]⟩) 21 [0, 0, 2, 6, 15, 31, 63, 127, 255, 511, 1023, 511, 2559, 511, 8703, 31231, 63999, 131071, 262143, 524287, 1048575] mixed (by exact (.cons (.none rfl) (JO.move rfl) rfl rfl (.cons (.none rfl) (JO.move rfl) rfl rfl (.cons (.none rfl) (JO.len rfl Try.runUnderlying95) rfl rfl (.cons (.none rfl) (JO.cmp rfl rfl rfl) rfl rfl (.cons (.none rfl) (JO.boolNe Try.runUnderlying4 rfl rfl) rfl rfl (.cons (.none rfl) (JO.move rfl) rfl rfl (.cons (GK.met 46 rfl rfl rfl hc66) (JO.move rfl) rfl rfl (.cons (GK.met 46 rfl rfl rfl hc66) (JO.not rfl) rfl rfl (.cons (GK.met 46 rfl rfl rfl hc66) (JO.move rfl) rfl rfl (.cons (GK.met 49 rfl rfl rfl hc67) (JO.move rfl) rfl rfl (.cons (GK.met 49 rfl rfl rfl hc67) (JO.call0 (con_tree_above hv68) Try.call77 (.cons (.dir rfl) .nil)) rfl rfl (.cons (GK.met 49 rfl rfl rfl hc67) (JO.fieldPtr 0 rfl Try.runUnderlying71 rfl Try.sizeOf69 rfl rfl) rfl rfl (.cons (GK.met 49 rfl rfl rfl hc67) (JO.load rfl rfl rfl Try.isAgg69 Try.sizeOf69) rfl rfl (.cons (GK.met 49 rfl rfl rfl hc67) (JO.move rfl) rfl rfl (.cons (GK.met 49 rfl rfl rfl hc67) (JO.arith rfl rfl rfl) rfl rfl (.cons (GK.met 49 rfl rfl rfl hc67) (JO.idx hz69 rfl rfl Try.runUnderlying69 Try.sizeOf95) rfl rfl (.cons (GK.met 49 rfl rfl rfl hc67) (JO.loadPst rfl Try.isAgg95 Try.sizeOf95) rfl rfl (.cons (GK.met 49 rfl rfl rfl hc67) (JO.call0 (con_slices_Equal_uint64_uint64 hv70) Try.call79 (.cons (.dir rfl) (.cons (.dir rfl) .nil))) rfl rfl (.cons (GK.met 49 rfl rfl rfl hc67) (JO.not rfl) rfl rfl (.cons (GK.met 46 rfl rfl rfl hc66) (JO.pT hc67 rfl rfl) rfl rfl (.cons (.none rfl) (JO.pF hc66 rfl rfl) rfl rfl .nil)))))))))))))))))))))) (by exact (J.fin (Sw.Sub.mk id (.cons rfl (.of_eq rfl) (.cons rfl (.of_eq rfl) (.cons rfl (.of_eq rfl) (.cons rfl (.of_eq rfl) (.cons rfl (.of_eq rfl) .nil))))) (.box rfl (.cons (.of_eq rfl) .nil) .nil) rfl))) rfl (by decide +kernel) (by decide +kernel) (by decide +kernel) (by kernel_rfl) hk
          · replace hx := cond_f hc67 hx
            obtain rfl := Option.some.inj hx
            exact W.dr2 (σ' := ⟨[(1, .ptr 101 0), (28, .v (Enc.sl (Enc.sl (Enc.int .u64))) a0), (29, .v (Enc.int .i64) (a0.length : Int)), (30, .v (Enc.int .i64) s41), (61, .v Enc.bool false)], [(101, .box 71 [.v (Enc.sl (Enc.sl (Enc.int .u64))) a0])]⟩) 21 [0, 0, 2, 6, 15, 31, 63, 127, 255, 511, 1023, 511, 2559, 511, 8703, 31231, 63999, 131071, 262143, 524287, 1048575] mixed (by exact (.cons (.none rfl) (JO.move rfl) rfl rfl (.cons (.none rfl) (JO.move rfl) rfl rfl (.cons (.none rfl) (JO.len rfl Try.runUnderlying95) rfl rfl (.cons (.none rfl) (JO.cmp rfl rfl rfl) rfl rfl (.cons (.none rfl) (JO.boolNe Try.runUnderlying4 rfl rfl) rfl rfl (.cons (.none rfl) (JO.move rfl) rfl rfl (.cons (GK.met 46 rfl rfl rfl hc66) (JO.move rfl) rfl rfl (.cons (GK.met 46 rfl rfl rfl hc66) (JO.not rfl) rfl rfl (.cons (GK.met 46 rfl rfl rfl hc66) (JO.move rfl) rfl rfl (.left (GK.unmet 49 rfl rfl rfl hc67) rfl (.left (GK.unmet 49 rfl rfl rfl hc67) rfl (.left (GK.unmet 49 rfl rfl rfl hc67) rfl (.left (GK.unmet 49 rfl rfl rfl hc67) rfl (.left (GK.unmet 49 rfl rfl rfl hc67) rfl (.left (GK.unmet 49 rfl rfl rfl hc67) rfl (.left (GK.unmet 49 rfl rfl rfl hc67) rfl (.left (GK.unmet 49 rfl rfl rfl hc67) rfl (.left (GK.unmet 49 rfl rfl rfl hc67) rfl (.left (GK.unmet 49 rfl rfl rfl hc67) rfl (.cons (GK.met 46 rfl rfl rfl hc66) (JO.pF hc67 rfl rfl) rfl rfl (.cons (.none rfl) (JO.pF hc66 rfl rfl) rfl rfl .nil)))))))))))))))))))))) (by exact (J.fin (Sw.Sub.mk id (.cons rfl (.of_eq rfl) (.cons rfl (.of_eq rfl) (.cons rfl (.of_eq rfl) (.cons rfl (.of_eq rfl) (.cons rfl (.of_eq rfl) .nil))))) (.box rfl (.cons (.of_eq rfl) .nil) .nil) rfl))) rfl (by decide +kernel) (by decide +kernel) (by decide +kernel) (by kernel_rfl) hk
      rcases Bool.eq_false_or_eq_true x65 with hc71 | hc71
      · replace h := cond_t hc71 h
        refine W.condT rfl hc71 ?_
        refine W.seq ?_
        refine W.reg (σ' := ⟨[(2, .v (Enc.err ET) (some (3 : Int)))], []⟩) (J.cons (.none rfl) (JO.mkErr Try.runUnderlying25 rfl) rfl rfl (J.cons (.none rfl) (JO.assign rfl) rfl rfl (J.fin (Sw.Sub.mk id (.cons rfl (.of_eq rfl) .nil) .nil rfl)))) ?_
        refine W.ret ?_
        refine XQ.ret ?_
        obtain rfl := Option.some.inj h
        refine XQ.lret fun ho => ?_
        obtain rfl := hr56 _ ho
        exact XQ.sub (σ' := ⟨[(2, .v (Enc.err ET) (some (3 : Int)))], []⟩) (Sw.Sub.mk id (.cons rfl (.of_eq rfl) .nil) .nil rfl) (XQ.ret1 hF noR rfl (RV.tmp rfl) .nil rfl)
      · replace h := cond_f hc71 h
        refine W.condF rfl hc71 ?_
        refine W.skip ?_
        refine W.fall ?_
        refine W.reg (σ' := ⟨[(1, .ptr 101 0), (28, .v (Enc.sl (Enc.sl (Enc.int .u64))) a0), (29, .v (Enc.int .i64) (a0.length : Int)), (30, .v (Enc.int .i64) (ar .add .i64 s41 (1 : Int)))], [(101, .box 71 [.v (Enc.sl (Enc.sl (Enc.int .u64))) a0])]⟩) (J.cons (.none rfl) (JO.arith rfl rfl rfl) rfl rfl (J.cons (.none rfl) (JO.move rfl) rfl rfl (J.fin (Sw.Sub.mk id (.cons rfl (.of_eq rfl) (.cons rfl (.of_eq rfl) (.cons rfl (.of_eq rfl) (.cons rfl (.of_eq rfl) .nil)))) (.box rfl (.cons (.of_eq rfl) .nil) .nil) rfl)))) ?_
        obtain rfl := Option.some.inj h
        exact W.next (Sw.Sub.mk id (.cons rfl (.of_eq rfl) (.cons rfl (.of_eq rfl) (.cons rfl (.of_eq rfl) (.cons rfl (.of_eq rfl) .nil)))) (.box rfl (.cons (.of_eq rfl) .nil) .nil) rfl)
    · replace h := cond_f hc58 h
      refine W.condF rfl hc58 ?_
      refine W.exit ?_
      obtain rfl := Option.some.inj h
      exact XQ.brk (Sw.Sub.mk id .nil .nil rfl)
set_option maxRecDepth 100000 in
set_option maxHeartbeats 4000000 in
theorem con_law_TreeSays {a0 : (List Blk)} {a1 : (List Int)} {r : Bool} (h : m_law_TreeSays a0 a1 = some r) :
    Con Try.prog 8 [.v (Enc.sl eBlk) a0, .v (Enc.sl (Enc.int .u8)) a1] (.v Enc.bool r) [] := by
  refine Con.of Try.func8 rfl Try.ntmps8 rfl ?_
  intro S w hF
  unfold m_law_TreeSays at h
  refine W.seq ?_
  refine W.reg (σ' := ⟨[(0, .v (Enc.sl eBlk) a0), (1, .v (Enc.sl (Enc.int .u8)) a1)], []⟩) (J.cons (.none rfl) (JO.assign rfl) rfl rfl (J.fin (Sw.Sub.mk id (.cons rfl (.of_eq rfl) (.cons rfl (.of_eq rfl) .nil)) .nil rfl))) ?_
  refine W.seq ?_
  refine W.seq ?_
  obtain ⟨x2, hx, h⟩ := bind_e h
  refine W.reg (σ' := ⟨[(0, .v (Enc.sl eBlk) a0), (1, .v (Enc.sl (Enc.int .u8)) a1), (14, .v Enc.bool x2)], []⟩) ?_ ?_
  · rcases Bool.eq_false_or_eq_true (cm .gtr (a0.length : Int) (100 : Int)) with hc3 | hc3
    · replace hx := cond_t hc3 hx
      obtain rfl := Option.some.inj hx
      exact (J.cons (.none rfl) (JO.move rfl) rfl rfl (J.cons (.none rfl) (JO.len rfl Try.runUnderlying22) rfl rfl (J.cons (.none rfl) (JO.cmp rfl rfl rfl) rfl rfl (J.cons (.none rfl) (JO.move rfl) rfl rfl (J.left (GK.unmet 10 rfl rfl rfl hc3) rfl (J.left (GK.unmet 10 rfl rfl rfl hc3) rfl (J.left (GK.unmet 10 rfl rfl rfl hc3) rfl (J.cons (.none rfl) (JO.pT hc3 rfl rfl) rfl rfl (J.fin (Sw.Sub.mk id (.cons rfl (.of_eq rfl) (.cons rfl (.of_eq rfl) (.cons rfl (.of_eq rfl) .nil))) .nil rfl))))))))))
    · replace hx := cond_f hc3 hx
      obtain rfl := Option.some.inj hx
      exact (J.cons (.none rfl) (JO.move rfl) rfl rfl (J.cons (.none rfl) (JO.len rfl Try.runUnderlying22) rfl rfl (J.cons (.none rfl) (JO.cmp rfl rfl rfl) rfl rfl (J.cons (.none rfl) (JO.move rfl) rfl rfl (J.cons (GK.met 10 rfl rfl rfl hc3) (JO.move rfl) rfl rfl (J.cons (GK.met 10 rfl rfl rfl hc3) (JO.len rfl Try.runUnderlying40) rfl rfl (J.cons (GK.met 10 rfl rfl rfl hc3) (JO.cmp rfl rfl rfl) rfl rfl (J.cons (.none rfl) (JO.pF hc3 rfl rfl) rfl rfl (J.fin (Sw.Sub.mk id (.cons rfl (.of_eq rfl) (.cons rfl (.of_eq rfl) (.cons rfl (.of_eq rfl) .nil))) .nil rfl))))))))))
  rcases Bool.eq_false_or_eq_true x2 with hc4 | hc4
  · replace h := cond_t hc4 h
    refine W.condT rfl hc4 ?_
    refine W.seq ?_
    refine W.reg (σ' := ⟨[(4, .v Enc.bool true)], []⟩) (J.cons (.none rfl) (JO.assign rfl) rfl rfl (J.fin (Sw.Sub.mk id (.cons rfl (.of_eq rfl) .nil) .nil rfl))) ?_
    refine W.ret ?_
    obtain rfl := Option.some.inj h
    exact XQ.sub (σ' := ⟨[(4, .v Enc.bool true)], []⟩) (Sw.Sub.mk id (.cons rfl (.of_eq rfl) .nil) .nil rfl) (XQ.ret1 hF noR rfl (RV.tmp rfl) .nil rfl)
  · replace h := cond_f hc4 h
    refine W.condF rfl hc4 ?_
    refine W.skip ?_
    refine W.seq ?_
    refine W.seq ?_
    obtain ⟨v5, hv5, h⟩ := bind_e h
    obtain ⟨v6, hv6, h⟩ := bind_e h
    refine W.reg (σ' := ⟨[(0, .v (Enc.sl eBlk) a0), (19, .v Enc.bool (cm .neq v5 v6))], []⟩) (J.cons (.none rfl) (JO.move rfl) rfl rfl (J.cons (.none rfl) (JO.call0 (con_tree_Digest hv5) Try.call37 (.cons (.dir rfl) .nil)) rfl rfl (J.cons (.none rfl) (JO.move rfl) rfl rfl (J.cons (.none rfl) (JO.call0 (con_ref_DigestOf hv6) Try.call38 (.cons (.dir rfl) .nil)) rfl rfl (J.cons (.none rfl) (JO.cmp rfl rfl rfl) rfl rfl (J.fin (Sw.Sub.mk id (.cons rfl (.of_eq rfl) (.cons rfl (.of_eq rfl) .nil)) .nil rfl))))))) ?_
    rcases Bool.eq_false_or_eq_true (cm .neq v5 v6) with hc7 | hc7
    · replace h := cond_t hc7 h
      refine W.condT rfl hc7 ?_
      refine W.seq ?_
      refine W.reg (σ' := ⟨[(4, .v Enc.bool false)], []⟩) (J.cons (.none rfl) (JO.assign rfl) rfl rfl (J.fin (Sw.Sub.mk id (.cons rfl (.of_eq rfl) .nil) .nil rfl))) ?_
      refine W.ret ?_
      obtain rfl := Option.some.inj h
      exact XQ.sub (σ' := ⟨[(4, .v Enc.bool false)], []⟩) (Sw.Sub.mk id (.cons rfl (.of_eq rfl) .nil) .nil rfl) (XQ.ret1 hF noR rfl (RV.tmp rfl) .nil rfl)
    · replace h := cond_f hc7 h
      refine W.condF rfl hc7 ?_
      refine W.skip ?_
      refine W.seq ?_
      obtain ⟨v8, hv8, h⟩ := bind_e h
      refine W.reg (σ' := ⟨[(0, .v (Enc.sl eBlk) a0), (5, .ptr 104 0), (6, .v (Enc.err ET) v8.2)], [(104, .box 71 [.v (Enc.sl (Enc.sl (Enc.int .u64))) v8.1])]⟩) (J.cons (.none rfl) (JO.move rfl) rfl rfl (J.cons (.none rfl) (JO.call0 (con_tree_Of hv8) Try.call39 (.cons (.dir rfl) .nil)) rfl rfl (J.cons (.none rfl) (JO.move rfl) rfl rfl (J.cons (.none rfl) (JO.extract rfl rfl) rfl rfl (J.cons (.none rfl) (JO.extract rfl rfl) rfl rfl (J.cons (.none rfl) (JO.alloc 104 Try.zeroValue71 rfl (.cons (Z.sl (Enc.sl (Enc.int .u64))) .nil) rfl) rfl rfl (J.mut (.none rfl) (JM.storeAll rfl rfl rfl rfl (.one1 (.one _ _)) Try.sizeOf71) (J.cons (.none rfl) (JO.assign rfl) rfl rfl (J.fin (Sw.Sub.mk id (.cons rfl (.of_eq rfl) (.cons rfl (.of_eq rfl) (.cons rfl (.of_eq rfl) .nil))) (.box rfl (.cons (.of_eq rfl) .nil) .nil) rfl)))))))))) ?_
      refine W.seq ?_
      refine W.seq ?_
      obtain ⟨x10, hx, h⟩ := bind_e h
      refine W.reg (σ' := ⟨[(0, .v (Enc.sl eBlk) a0), (5, .ptr 104 0), (6, .v (Enc.err ET) v8.2), (32, .v Enc.bool x10)], [(104, .box 71 [.v (Enc.sl (Enc.sl (Enc.int .u64))) v8.1])]⟩) ?_ ?_
      · rcases Bool.eq_false_or_eq_true (cm .lss (a0.length : Int) (1 : Int)) with hc11 | hc11
        · replace hx := cond_t hc11 hx
          obtain rfl := Option.some.inj hx
          exact (J.cons (.none rfl) (JO.move rfl) rfl rfl (J.cons (.none rfl) (JO.len rfl Try.runUnderlying22) rfl rfl (J.cons (.none rfl) (JO.cmp rfl rfl rfl) rfl rfl (J.cons (.none rfl) (JO.move rfl) rfl rfl (J.left (GK.unmet 28 rfl rfl rfl hc11) rfl (J.left (GK.unmet 28 rfl rfl rfl hc11) rfl (J.left (GK.unmet 28 rfl rfl rfl hc11) rfl (J.cons (.none rfl) (JO.pT hc11 rfl rfl) rfl rfl (J.fin (Sw.Sub.mk id (.cons rfl (.of_eq rfl) (.cons rfl (.of_eq rfl) (.cons rfl (.of_eq rfl) (.cons rfl (.of_eq rfl) .nil)))) (.box rfl (.cons (.of_eq rfl) .nil) .nil) rfl))))))))))
        · replace hx := cond_f hc11 hx
          obtain rfl := Option.some.inj hx
          exact (J.cons (.none rfl) (JO.move rfl) rfl rfl (J.cons (.none rfl) (JO.len rfl Try.runUnderlying22) rfl rfl (J.cons (.none rfl) (JO.cmp rfl rfl rfl) rfl rfl (J.cons (.none rfl) (JO.move rfl) rfl rfl (J.cons (GK.met 28 rfl rfl rfl hc11) (JO.move rfl) rfl rfl (J.cons (GK.met 28 rfl rfl rfl hc11) (JO.len rfl Try.runUnderlying22) rfl rfl (J.cons (GK.met 28 rfl rfl rfl hc11) (JO.cmp rfl rfl rfl) rfl rfl (J.cons (.none rfl) (JO.pF hc11 rfl rfl) rfl rfl (J.fin (Sw.Sub.mk id (.cons rfl (.of_eq rfl) (.cons rfl (.of_eq rfl) (.cons rfl (.of_eq rfl) (.cons rfl (.of_eq rfl) .nil)))) (.box rfl (.cons (.of_eq rfl) .nil) .nil) rfl))))))))))
      rcases Bool.eq_false_or_eq_true x10 with hc12 | hc12
      · replace h := cond_t hc12 h
        refine W.condT rfl hc12 ?_
        refine W.seq ?_
        obtain ⟨x14, hx, h⟩ := bind_e h
        refine W.reg (σ' := ⟨[(4, .v Enc.bool x14)], []⟩) ?_ ?_
        · rcases Bool.eq_false_or_eq_true (v8.2 == (some (1 : Int))) with hc15 | hc15
          · replace hx := cond_t hc15 hx
            obtain rfl := Option.some.inj hx
            exact (J.cons (.none rfl) (JO.move rfl) rfl rfl (J.cons (.none rfl) (JO.mkErr Try.runUnderlying25 rfl) rfl rfl (J.cons (.none rfl) (JO.errEq2 Try.runUnderlying29 Try.runUnderlying25 Try.typeInfo25 rfl rfl rfl) rfl rfl (J.cons (.none rfl) (JO.move rfl) rfl rfl (J.cons (GK.met 36 rfl rfl rfl hc15) (JO.fieldPtr 0 rfl Try.runUnderlying71 rfl Try.sizeOf69 rfl rfl) rfl rfl (J.cons (GK.met 36 rfl rfl rfl hc15) (JO.load rfl rfl rfl Try.isAgg69 Try.sizeOf69) rfl rfl (J.cons (GK.met 36 rfl rfl rfl hc15) (JO.len rfl Try.runUnderlying69) rfl rfl (J.cons (GK.met 36 rfl rfl rfl hc15) (JO.cmp rfl rfl rfl) rfl rfl (J.cons (.none rfl) (JO.pT hc15 rfl rfl) rfl rfl (J.cons (.none rfl) (JO.assign rfl) rfl rfl (J.fin (Sw.Sub.mk id (.cons rfl (.of_eq rfl) .nil) .nil rfl))))))))))))
          · replace hx := cond_f hc15 hx
            obtain rfl := Option.some.inj hx
            exact (J.cons (.none rfl) (JO.move rfl) rfl rfl (J.cons (.none rfl) (JO.mkErr Try.runUnderlying25 rfl) rfl rfl (J.cons (.none rfl) (JO.errEq2 Try.runUnderlying29 Try.runUnderlying25 Try.typeInfo25 rfl rfl rfl) rfl rfl (J.cons (.none rfl) (JO.move rfl) rfl rfl (J.left (GK.unmet 36 rfl rfl rfl hc15) rfl (J.left (GK.unmet 36 rfl rfl rfl hc15) rfl (J.left (GK.unmet 36 rfl rfl rfl hc15) rfl (J.left (GK.unmet 36 rfl rfl rfl hc15) rfl (J.cons (.none rfl) (JO.pF hc15 rfl rfl) rfl rfl (J.cons (.none rfl) (JO.assign rfl) rfl rfl (J.fin (Sw.Sub.mk id (.cons rfl (.of_eq rfl) .nil) .nil rfl))))))))))))
        refine W.ret ?_
        obtain rfl := Option.some.inj h
        exact XQ.sub (σ' := ⟨[(4, .v Enc.bool x14)], []⟩) (Sw.Sub.mk id (.cons rfl (.of_eq rfl) .nil) .nil rfl) (XQ.ret1 hF noR rfl (RV.tmp rfl) .nil rfl)
      · replace h := cond_f hc12 h
        refine W.condF rfl hc12 ?_
        refine W.skip ?_
        refine W.seq ?_
        obtain ⟨x21, hx, h⟩ := bind_e h
        refine W.mg (σ' := ⟨[(4, .v Enc.bool x21)], []⟩) ?_ ?_
        · intro hk
          rcases Bool.eq_false_or_eq_true (Option.isNone v8.2) with hc22 | hc22
          · replace hx := cond_t hc22 hx
            obtain ⟨v23, hv23, hx⟩ := bind_e hx
            obtain ⟨v24, hv24, hx⟩ := bind_e hx
            rcases Bool.eq_false_or_eq_true v24 with hc25 | hc25
            · replace hx := cond_t hc25 hx
              obtain ⟨v26, hv26, hx⟩ := bind_e hx
              obtain rfl := Option.some.inj hx
              exact W.dr2 (σ' := ⟨[(4, .v Enc.bool (Option.isNone v26))], []⟩) 14 [0, 1, 3, 7, 7, 23, 63, 127, 255, 511, 1023, 2047, 4095, 8191] mixed (by exact (.cons (.none rfl) (JO.move rfl) rfl rfl (.cons (.none rfl) (JO.errEq Try.runUnderlying29 rfl) rfl rfl (.cons (.none rfl) (JO.move rfl) rfl rfl (.cons (GK.met 44 rfl rfl rfl hc22) (JO.loadAll rfl rfl (.one1 (.one _ _)) Try.isAgg71 Try.sizeOf71) rfl rfl (.cons (GK.met 44 rfl rfl rfl hc22) (JO.move rfl) rfl rfl (.cons (GK.met 44 rfl rfl rfl hc22) (JO.call0 (con_ref_TreeOf hv23) Try.call41 (.cons (.dir rfl) .nil)) rfl rfl (.cons (GK.met 44 rfl rfl rfl hc22) (JO.call0 (con_ref_SameTree hv24) Try.call40 (.cons (.dir rfl) (.cons (.dir rfl) .nil))) rfl rfl (.cons (.none rfl) (JO.pT hc22 rfl rfl) rfl rfl (.cons (.none rfl) (JO.move rfl) rfl rfl (.cons (GK.met 50 rfl rfl rfl hc25) (JO.loadAll rfl rfl (.one1 (.one _ _)) Try.isAgg71 Try.sizeOf71) rfl rfl (.cons (GK.met 50 rfl rfl rfl hc25) (JO.call0 (con_tree_Check hv26) Try.call42 (.cons (.dir rfl) .nil)) rfl rfl (.cons (GK.met 50 rfl rfl rfl hc25) (JO.errEq Try.runUnderlying29 rfl) rfl rfl (.cons (.none rfl) (JO.pT hc25 rfl rfl) rfl rfl (.cons (.none rfl) (JO.assign rfl) rfl rfl .nil))))))))))))))) (by exact (J.fin (Sw.Sub.mk id (.cons rfl (.of_eq rfl) .nil) .nil rfl))) rfl (by decide +kernel) (by decide +kernel) (by decide +kernel) (by kernel_rfl) hk
            · replace hx := cond_f hc25 hx
              obtain rfl := Option.some.inj hx
              exact W.dr2 (σ' := ⟨[(4, .v Enc.bool false)], []⟩) 14 [0, 1, 3, 7, 7, 23, 63, 127, 255, 511, 1023, 2047, 4095, 8191] mixed (by exact (.cons (.none rfl) (JO.move rfl) rfl rfl (.cons (.none rfl) (JO.errEq Try.runUnderlying29 rfl) rfl rfl (.cons (.none rfl) (JO.move rfl) rfl rfl (.cons (GK.met 44 rfl rfl rfl hc22) (JO.loadAll rfl rfl (.one1 (.one _ _)) Try.isAgg71 Try.sizeOf71) rfl rfl (.cons (GK.met 44 rfl rfl rfl hc22) (JO.move rfl) rfl rfl (.cons (GK.met 44 rfl rfl rfl hc22) (JO.call0 (con_ref_TreeOf hv23) Try.call41 (.cons (.dir rfl) .nil)) rfl rfl (.cons (GK.met 44 rfl rfl rfl hc22) (JO.call0 (con_ref_SameTree hv24) Try.call40 (.cons (.dir rfl) (.cons (.dir rfl) .nil))) rfl rfl (.cons (.none rfl) (JO.pT hc22 rfl rfl) rfl rfl (.cons (.none rfl) (JO.move rfl) rfl rfl (.left (GK.unmet 50 rfl rfl rfl hc25) rfl (.left (GK.unmet 50 rfl rfl rfl hc25) rfl (.left (GK.unmet 50 rfl rfl rfl hc25) rfl (.cons (.none rfl) (JO.pF hc25 rfl rfl) rfl rfl (.cons (.none rfl) (JO.assign rfl) rfl rfl .nil))))))))))))))) (by exact (J.fin (Sw.Sub.mk id (.cons rfl (.of_eq rfl) .nil) .nil rfl))) rfl (by decide +kernel) (by decide +kernel) (by decide +kernel) (by kernel_rfl) hk
          · replace hx := cond_f hc22 hx
            obtain rfl := Option.some.inj hx
            exact W.dr2 (σ' := ⟨[(4, .v Enc.bool false)], []⟩) 14 [0, 1, 3, 7, 7, 23, 63, 127, 255, 511, 1023, 2047, 4095, 8191] mixed (by exact (.cons (.none rfl) (JO.move rfl) rfl rfl (.cons (.none rfl) (JO.errEq Try.runUnderlying29 rfl) rfl rfl (.cons (.none rfl) (JO.move rfl) rfl rfl (.left (GK.unmet 44 rfl rfl rfl hc22) rfl (.left (GK.unmet 44 rfl rfl rfl hc22) rfl (.left (GK.unmet 44 rfl rfl rfl hc22) rfl (.left (GK.unmet 44 rfl rfl rfl hc22) rfl (.cons (.none rfl) (JO.pF hc22 rfl rfl) rfl rfl (.cons (.none rfl) (JO.move rfl) rfl rfl (.left (GK.unmet 50 rfl rfl rfl rfl) rfl (.left (GK.unmet 50 rfl rfl rfl rfl) rfl (.left (GK.unmet 50 rfl rfl rfl rfl) rfl (.cons (.none rfl) (JO.pF rfl rfl rfl) rfl rfl (.cons (.none rfl) (JO.assign rfl) rfl rfl .nil))))))))))))))) (by exact (J.fin (Sw.Sub.mk id (.cons rfl (.of_eq rfl) .nil) .nil rfl))) rfl (by decide +kernel) (by decide +kernel) (by decide +kernel) (by kernel_rfl) hk
        refine W.ret ?_
        obtain rfl := Option.some.inj h
        exact XQ.sub (σ' := ⟨[(4, .v Enc.bool x21)], []⟩) (Sw.Sub.mk id (.cons rfl (.of_eq rfl) .nil) .nil rfl) (XQ.ret1 hF noR rfl (RV.tmp rfl) .nil rfl)
set_option maxRecDepth 100000 in
set_option maxHeartbeats 4000000 in
theorem con_law_hugeTree {a0 : ((List (List Int)))} {r : Bool} (h : m_law_hugeTree a0 = some r) :
    Con Try.prog 50 [.v (Enc.one1 (Enc.sl (Enc.sl (Enc.int .u64)))) a0] (.v Enc.bool r) [] := by
  refine Con.of Try.func50 rfl Try.ntmps50 rfl ?_
  intro S w hF
  unfold m_law_hugeTree at h
  refine W.seq ?_
  refine W.reg (σ' := ⟨[(1, .ptr 101 0)], [(101, .box 71 [.v (Enc.sl (Enc.sl (Enc.int .u64))) a0])]⟩) (J.cons (.none rfl) (JO.box 101 rfl (.one1 (.one _ _)) rfl) rfl rfl (J.cons (.none rfl) (JO.assign rfl) rfl rfl (J.fin (Sw.Sub.mk id (.cons rfl (.of_eq rfl) .nil) (.box rfl (.cons (.of_eq rfl) .nil) .nil) rfl)))) ?_
  refine W.seq ?_
  refine W.seq ?_
  refine W.reg (σ' := ⟨[(1, .ptr 101 0), (3, .v (Enc.int .i64) (0 : Int))], [(101, .box 71 [.v (Enc.sl (Enc.sl (Enc.int .u64))) a0])]⟩) (J.cons (.none rfl) (JO.assign rfl) rfl rfl (J.fin (Sw.Sub.mk id (.cons rfl (.of_eq rfl) (.cons rfl (.of_eq rfl) .nil)) (.box rfl (.cons (.of_eq rfl) .nil) .nil) rfl))) ?_
  obtain ⟨o13, ho13, hb13, hr13⟩ := lp_elim h
  refine W.lp (σs := fun s9 : Int => ⟨[(1, .ptr 101 0), (3, .v (Enc.int .i64) s9)], [(101, .box 71 [.v (Enc.sl (Enc.sl (Enc.int .u64))) a0])]⟩) (fun x14 : Unit => ⟨[(1, .ptr 101 0)], [(101, .box 71 [.v (Enc.sl (Enc.sl (Enc.int .u64))) a0])]⟩) ho13 (Sw.Sub.mk id (.cons rfl (.of_eq rfl) (.cons rfl (.of_eq rfl) .nil)) (.box rfl (.cons (.of_eq rfl) .nil) .nil) rfl) ?_ ?_
  · intro x14 hy
    have h := hb13 _ hy
    refine W.seq ?_
    refine W.reg (σ' := ⟨[(2, .v Enc.bool (cm .gtr (a0.length : Int) (50 : Int)))], []⟩) (J.cons (.none rfl) (JO.fieldPtr 0 rfl Try.runUnderlying71 rfl Try.sizeOf69 rfl rfl) rfl rfl (J.cons (.none rfl) (JO.load rfl rfl rfl Try.isAgg69 Try.sizeOf69) rfl rfl (J.cons (.none rfl) (JO.len rfl Try.runUnderlying69) rfl rfl (J.cons (.none rfl) (JO.cmp rfl rfl rfl) rfl rfl (J.cons (.none rfl) (JO.assign rfl) rfl rfl (J.fin (Sw.Sub.mk id (.cons rfl (.of_eq rfl) .nil) .nil rfl))))))) ?_
    refine W.ret ?_
    obtain rfl := Option.some.inj h
    exact XQ.sub (σ' := ⟨[(2, .v Enc.bool (cm .gtr (a0.length : Int) (50 : Int)))], []⟩) (Sw.Sub.mk id (.cons rfl (.of_eq rfl) .nil) .nil rfl) (XQ.ret1 hF noR rfl (RV.tmp rfl) .nil rfl)
  intro s9 r13 h
  refine W.seq ?_
  refine W.seq ?_
  refine W.reg (σ' := ⟨[(1, .ptr 101 0), (3, .v (Enc.int .i64) s9), (8, .v Enc.bool (cm .lss s9 (a0.length : Int)))], [(101, .box 71 [.v (Enc.sl (Enc.sl (Enc.int .u64))) a0])]⟩) (J.cons (.none rfl) (JO.move rfl) rfl rfl (J.cons (.none rfl) (JO.fieldPtr 0 rfl Try.runUnderlying71 rfl Try.sizeOf69 rfl rfl) rfl rfl (J.cons (.none rfl) (JO.load rfl rfl rfl Try.isAgg69 Try.sizeOf69) rfl rfl (J.cons (.none rfl) (JO.len rfl Try.runUnderlying69) rfl rfl (J.cons (.none rfl) (JO.cmp rfl rfl rfl) rfl rfl (J.fin (Sw.Sub.mk id (.cons rfl (.of_eq rfl) (.cons rfl (.of_eq rfl) (.cons rfl (.of_eq rfl) .nil))) (.box rfl (.cons (.of_eq rfl) .nil) .nil) rfl))))))) ?_
  rcases Bool.eq_false_or_eq_true (cm .lss s9 (a0.length : Int)) with hc15 | hc15
  · replace h := cond_t hc15 h
    refine W.condT rfl hc15 ?_
    refine W.skip ?_
    refine W.seq ?_
    refine W.block ?_
    refine W.seq ?_
    obtain ⟨z16, hz16, h⟩ := bind_e h
    refine W.reg (σ' := ⟨[(1, .ptr 101 0), (3, .v (Enc.int .i64) s9), (17, .v Enc.bool (cm .gtr (z16.length : Int) (200 : Int)))], [(101, .box 71 [.v (Enc.sl (Enc.sl (Enc.int .u64))) a0])]⟩) (J.cons (.none rfl) (JO.fieldPtr 0 rfl Try.runUnderlying71 rfl Try.sizeOf69 rfl rfl) rfl rfl (J.cons (.none rfl) (JO.load rfl rfl rfl Try.isAgg69 Try.sizeOf69) rfl rfl (J.cons (.none rfl) (JO.move rfl) rfl rfl (J.cons (.none rfl) (JO.idx hz16 rfl rfl Try.runUnderlying69 Try.sizeOf95) rfl rfl (J.cons (.none rfl) (JO.loadPst rfl Try.isAgg95 Try.sizeOf95) rfl rfl (J.cons (.none rfl) (JO.len rfl Try.runUnderlying95) rfl rfl (J.cons (.none rfl) (JO.cmp rfl rfl rfl) rfl rfl (J.fin (Sw.Sub.mk id (.cons rfl (.of_eq rfl) (.cons rfl (.of_eq rfl) (.cons rfl (.of_eq rfl) .nil))) (.box rfl (.cons (.of_eq rfl) .nil) .nil) rfl))))))))) ?_
    rcases Bool.eq_false_or_eq_true (cm .gtr (z16.length : Int) (200 : Int)) with hc17 | hc17
    · replace h := cond_t hc17 h
      refine W.condT rfl hc17 ?_
      refine W.seq ?_
      refine W.reg (σ' := ⟨[(2, .v Enc.bool true)], []⟩) (J.cons (.none rfl) (JO.assign rfl) rfl rfl (J.fin (Sw.Sub.mk id (.cons rfl (.of_eq rfl) .nil) .nil rfl))) ?_
      refine W.ret ?_
      refine XQ.ret ?_
      obtain rfl := Option.some.inj h
      refine XQ.lret fun ho => ?_
      obtain rfl := hr13 _ ho
      exact XQ.sub (σ' := ⟨[(2, .v Enc.bool true)], []⟩) (Sw.Sub.mk id (.cons rfl (.of_eq rfl) .nil) .nil rfl) (XQ.ret1 hF noR rfl (RV.tmp rfl) .nil rfl)
    · replace h := cond_f hc17 h
      refine W.condF rfl hc17 ?_
      refine W.skip ?_
      refine W.fall ?_
      refine W.reg (σ' := ⟨[(1, .ptr 101 0), (3, .v (Enc.int .i64) (ar .add .i64 s9 (1 : Int)))], [(101, .box 71 [.v (Enc.sl (Enc.sl (Enc.int .u64))) a0])]⟩) (J.cons (.none rfl) (JO.move rfl) rfl rfl (J.cons (.none rfl) (JO.arith rfl rfl rfl) rfl rfl (J.cons (.none rfl) (JO.assign rfl) rfl rfl (J.fin (Sw.Sub.mk id (.cons rfl (.of_eq rfl) (.cons rfl (.of_eq rfl) .nil)) (.box rfl (.cons (.of_eq rfl) .nil) .nil) rfl))))) ?_
      obtain rfl := Option.some.inj h
      exact W.next (Sw.Sub.mk id (.cons rfl (.of_eq rfl) (.cons rfl (.of_eq rfl) .nil)) (.box rfl (.cons (.of_eq rfl) .nil) .nil) rfl)
  · replace h := cond_f hc15 h
    refine W.condF rfl hc15 ?_
    refine W.exit ?_
    obtain rfl := Option.some.inj h
    exact XQ.brk (Sw.Sub.mk id (.cons rfl (.of_eq rfl) .nil) (.box rfl (.cons (.of_eq rfl) .nil) .nil) rfl)
set_option maxRecDepth 100000 in
set_option maxHeartbeats 4000000 in
theorem con_ref_TreeMay {a0 : ((List (List Int)))} {r : Int} (h : m_ref_TreeMay a0 = some r) :
    Con Try.prog 51 [.v (Enc.one1 (Enc.sl (Enc.sl (Enc.int .u64)))) a0] (.v (Enc.int .i64) r) [] := by
  refine Con.of Try.func51 rfl Try.ntmps51 rfl ?_
  intro S w hF
  unfold m_ref_TreeMay at h
  refine W.seq ?_
  refine W.reg (σ' := ⟨[(1, .ptr 101 0)], [(101, .box 71 [.v (Enc.sl (Enc.sl (Enc.int .u64))) a0])]⟩) (J.cons (.none rfl) (JO.box 101 rfl (.one1 (.one _ _)) rfl) rfl rfl (J.cons (.none rfl) (JO.assign rfl) rfl rfl (J.fin (Sw.Sub.mk id (.cons rfl (.of_eq rfl) .nil) (.box rfl (.cons (.of_eq rfl) .nil) .nil) rfl)))) ?_
  refine W.seq ?_
  refine W.seq ?_
  obtain ⟨x5, hx, h⟩ := bind_e h
  refine W.reg (σ' := ⟨[(1, .ptr 101 0), (24, .v Enc.bool x5)], [(101, .box 71 [.v (Enc.sl (Enc.sl (Enc.int .u64))) a0])]⟩) ?_ ?_
  · rcases Bool.eq_false_or_eq_true (cm .eql (a0.length : Int) (0 : Int)) with hc6 | hc6
    · replace hx := cond_t hc6 hx
      obtain rfl := Option.some.inj hx
      exact (J.cons (.none rfl) (JO.fieldPtr 0 rfl Try.runUnderlying71 rfl Try.sizeOf69 rfl rfl) rfl rfl (J.cons (.none rfl) (JO.load rfl rfl rfl Try.isAgg69 Try.sizeOf69) rfl rfl (J.cons (.none rfl) (JO.len rfl Try.runUnderlying69) rfl rfl (J.cons (.none rfl) (JO.cmp rfl rfl rfl) rfl rfl (J.cons (.none rfl) (JO.move rfl) rfl rfl (J.left (GK.unmet 9 rfl rfl rfl hc6) rfl (J.left (GK.unmet 9 rfl rfl rfl hc6) rfl (J.left (GK.unmet 9 rfl rfl rfl hc6) rfl (J.left (GK.unmet 9 rfl rfl rfl hc6) rfl (J.left (GK.unmet 9 rfl rfl rfl hc6) rfl (J.left (GK.unmet 9 rfl rfl rfl hc6) rfl (J.cons (.none rfl) (JO.pT hc6 rfl rfl) rfl rfl (J.cons (.none rfl) (JO.move rfl) rfl rfl (J.left (GK.unmet 17 rfl rfl rfl rfl) rfl (J.left (GK.unmet 17 rfl rfl rfl rfl) rfl (J.left (GK.unmet 17 rfl rfl rfl rfl) rfl (J.left (GK.unmet 17 rfl rfl rfl rfl) rfl (J.left (GK.unmet 17 rfl rfl rfl rfl) rfl (J.left (GK.unmet 17 rfl rfl rfl rfl) rfl (J.cons (.none rfl) (JO.pT rfl rfl rfl) rfl rfl (J.fin (Sw.Sub.mk id (.cons rfl (.of_eq rfl) (.cons rfl (.of_eq rfl) .nil)) (.box rfl (.cons (.of_eq rfl) .nil) .nil) rfl))))))))))))))))))))))
    · replace hx := cond_f hc6 hx
      obtain ⟨z7, hz7, hx⟩ := bind_e hx
      rcases Bool.eq_false_or_eq_true (cm .lss (z7.length : Int) (1 : Int)) with hc8 | hc8
      · replace hx := cond_t hc8 hx
        obtain rfl := Option.some.inj hx
        exact (J.cons (.none rfl) (JO.fieldPtr 0 rfl Try.runUnderlying71 rfl Try.sizeOf69 rfl rfl) rfl rfl (J.cons (.none rfl) (JO.load rfl rfl rfl Try.isAgg69 Try.sizeOf69) rfl rfl (J.cons (.none rfl) (JO.len rfl Try.runUnderlying69) rfl rfl (J.cons (.none rfl) (JO.cmp rfl rfl rfl) rfl rfl (J.cons (.none rfl) (JO.move rfl) rfl rfl (J.cons (GK.met 9 rfl rfl rfl hc6) (JO.fieldPtr 0 rfl Try.runUnderlying71 rfl Try.sizeOf69 rfl rfl) rfl rfl (J.cons (GK.met 9 rfl rfl rfl hc6) (JO.load rfl rfl rfl Try.isAgg69 Try.sizeOf69) rfl rfl (J.cons (GK.met 9 rfl rfl rfl hc6) (JO.idx hz7 rfl rfl Try.runUnderlying69 Try.sizeOf95) rfl rfl (J.cons (GK.met 9 rfl rfl rfl hc6) (JO.loadPst rfl Try.isAgg95 Try.sizeOf95) rfl rfl (J.cons (GK.met 9 rfl rfl rfl hc6) (JO.len rfl Try.runUnderlying95) rfl rfl (J.cons (GK.met 9 rfl rfl rfl hc6) (JO.cmp rfl rfl rfl) rfl rfl (J.cons (.none rfl) (JO.pF hc6 rfl rfl) rfl rfl (J.cons (.none rfl) (JO.move rfl) rfl rfl (J.left (GK.unmet 17 rfl rfl rfl hc8) rfl (J.left (GK.unmet 17 rfl rfl rfl hc8) rfl (J.left (GK.unmet 17 rfl rfl rfl hc8) rfl (J.left (GK.unmet 17 rfl rfl rfl hc8) rfl (J.left (GK.unmet 17 rfl rfl rfl hc8) rfl (J.left (GK.unmet 17 rfl rfl rfl hc8) rfl (J.cons (.none rfl) (JO.pT hc8 rfl rfl) rfl rfl (J.fin (Sw.Sub.mk id (.cons rfl (.of_eq rfl) (.cons rfl (.of_eq rfl) .nil)) (.box rfl (.cons (.of_eq rfl) .nil) .nil) rfl))))))))))))))))))))))
      · replace hx := cond_f hc8 hx
        obtain ⟨z9, hz9, hx⟩ := bind_e hx
        obtain rfl := Option.some.inj hx
        exact (J.cons (.none rfl) (JO.fieldPtr 0 rfl Try.runUnderlying71 rfl Try.sizeOf69 rfl rfl) rfl rfl (J.cons (.none rfl) (JO.load rfl rfl rfl Try.isAgg69 Try.sizeOf69) rfl rfl (J.cons (.none rfl) (JO.len rfl Try.runUnderlying69) rfl rfl (J.cons (.none rfl) (JO.cmp rfl rfl rfl) rfl rfl (J.cons (.none rfl) (JO.move rfl) rfl rfl (J.cons (GK.met 9 rfl rfl rfl hc6) (JO.fieldPtr 0 rfl Try.runUnderlying71 rfl Try.sizeOf69 rfl rfl) rfl rfl (J.cons (GK.met 9 rfl rfl rfl hc6) (JO.load rfl rfl rfl Try.isAgg69 Try.sizeOf69) rfl rfl (J.cons (GK.met 9 rfl rfl rfl hc6) (JO.idx hz7 rfl rfl Try.runUnderlying69 Try.sizeOf95) rfl rfl (J.cons (GK.met 9 rfl rfl rfl hc6) (JO.loadPst rfl Try.isAgg95 Try.sizeOf95) rfl rfl (J.cons (GK.met 9 rfl rfl rfl hc6) (JO.len rfl Try.runUnderlying95) rfl rfl (J.cons (GK.met 9 rfl rfl rfl hc6) (JO.cmp rfl rfl rfl) rfl rfl (J.cons (.none rfl) (JO.pF hc6 rfl rfl) rfl rfl (J.cons (.none rfl) (JO.move rfl) rfl rfl (J.cons (GK.met 17 rfl rfl rfl hc8) (JO.fieldPtr 0 rfl Try.runUnderlying71 rfl Try.sizeOf69 rfl rfl) rfl rfl (J.cons (GK.met 17 rfl rfl rfl hc8) (JO.load rfl rfl rfl Try.isAgg69 Try.sizeOf69) rfl rfl (J.cons (GK.met 17 rfl rfl rfl hc8) (JO.idx hz9 rfl rfl Try.runUnderlying69 Try.sizeOf95) rfl rfl (J.cons (GK.met 17 rfl rfl rfl hc8) (JO.loadPst rfl Try.isAgg95 Try.sizeOf95) rfl rfl (J.cons (GK.met 17 rfl rfl rfl hc8) (JO.len rfl Try.runUnderlying95) rfl rfl (J.cons (GK.met 17 rfl rfl rfl hc8) (JO.cmp rfl rfl rfl) rfl rfl (J.cons (.none rfl) (JO.pF hc8 rfl rfl) rfl rfl (J.fin (Sw.Sub.mk id (.cons rfl (.of_eq rfl) (.cons rfl (.of_eq rfl) .nil)) (.box rfl (.cons (.of_eq rfl) .nil) .nil) rfl))))))))))))))))))))))
  rcases Bool.eq_false_or_eq_true x5 with hc10 | hc10
  · replace h := cond_t hc10 h
    refine W.condT rfl hc10 ?_
    refine W.seq ?_
    refine W.reg (σ' := ⟨[(2, .v (Enc.int .i64) (3 : Int))], []⟩) (J.cons (.none rfl) (JO.assign rfl) rfl rfl (J.fin (Sw.Sub.mk id (.cons rfl (.of_eq rfl) .nil) .nil rfl))) ?_
    refine W.ret ?_
    obtain rfl := Option.some.inj h
    exact XQ.sub (σ' := ⟨[(2, .v (Enc.int .i64) (3 : Int))], []⟩) (Sw.Sub.mk id (.cons rfl (.of_eq rfl) .nil) .nil rfl) (XQ.ret1 hF noR rfl (RV.tmp rfl) .nil rfl)
  · replace h := cond_f hc10 h
    refine W.condF rfl hc10 ?_
    refine W.skip ?_
    refine W.seq ?_
    obtain ⟨z11, hz11, h⟩ := bind_e h
    refine W.reg (σ' := ⟨[(1, .ptr 101 0), (3, .v (Enc.sl (Enc.int .u64)) z11)], [(101, .box 71 [.v (Enc.sl (Enc.sl (Enc.int .u64))) a0])]⟩) (J.cons (.none rfl) (JO.fieldPtr 0 rfl Try.runUnderlying71 rfl Try.sizeOf69 rfl rfl) rfl rfl (J.cons (.none rfl) (JO.load rfl rfl rfl Try.isAgg69 Try.sizeOf69) rfl rfl (J.cons (.none rfl) (JO.idx hz11 rfl rfl Try.runUnderlying69 Try.sizeOf95) rfl rfl (J.cons (.none rfl) (JO.loadPst rfl Try.isAgg95 Try.sizeOf95) rfl rfl (J.cons (.none rfl) (JO.assign rfl) rfl rfl (J.fin (Sw.Sub.mk id (.cons rfl (.of_eq rfl) (.cons rfl (.of_eq rfl) .nil)) (.box rfl (.cons (.of_eq rfl) .nil) .nil) rfl))))))) ?_
    refine W.seq ?_
    refine W.reg (σ' := ⟨[(1, .ptr 101 0), (3, .v (Enc.sl (Enc.int .u64)) z11), (4, .v (Enc.int .i64) (0 : Int))], [(101, .box 71 [.v (Enc.sl (Enc.sl (Enc.int .u64))) a0])]⟩) (J.cons (.none rfl) (JO.assign rfl) rfl rfl (J.fin (Sw.Sub.mk id (.cons rfl (.of_eq rfl) (.cons rfl (.of_eq rfl) (.cons rfl (.of_eq rfl) .nil))) (.box rfl (.cons (.of_eq rfl) .nil) .nil) rfl))) ?_
    refine W.seq ?_
    obtain ⟨o45, ho45, hb45, hr45⟩ := lp_elim h
    refine W.lp (σs := fun s34 : (List Int) × Int => ⟨[(1, .ptr 101 0), (3, .v (Enc.sl (Enc.int .u64)) s34.1), (4, .v (Enc.int .i64) s34.2)], [(101, .box 71 [.v (Enc.sl (Enc.sl (Enc.int .u64))) a0])]⟩) (fun x46 : Int => ⟨[(1, .ptr 101 0), (4, .v (Enc.int .i64) x46)], [(101, .box 71 [.v (Enc.sl (Enc.sl (Enc.int .u64))) a0])]⟩) ho45 (Sw.Sub.mk id (.cons rfl (.of_eq rfl) (.cons rfl (.of_eq rfl) (.cons rfl (.of_eq rfl) .nil))) (.box rfl (.cons (.of_eq rfl) .nil) .nil) rfl) ?_ ?_
    · intro x46 hy
      have h := hb45 _ hy
      refine W.seq ?_
      refine W.seq ?_
      refine W.reg (σ' := ⟨[(56, .v Enc.bool (cm .neq x46 (ar .sub .i64 (a0.length : Int) (1 : Int))))], []⟩) (J.cons (.none rfl) (JO.move rfl) rfl rfl (J.cons (.none rfl) (JO.fieldPtr 0 rfl Try.runUnderlying71 rfl Try.sizeOf69 rfl rfl) rfl rfl (J.cons (.none rfl) (JO.load rfl rfl rfl Try.isAgg69 Try.sizeOf69) rfl rfl (J.cons (.none rfl) (JO.len rfl Try.runUnderlying69) rfl rfl (J.cons (.none rfl) (JO.arith rfl rfl rfl) rfl rfl (J.cons (.none rfl) (JO.cmp rfl rfl rfl) rfl rfl (J.fin (Sw.Sub.mk id (.cons rfl (.of_eq rfl) .nil) .nil rfl)))))))) ?_
      rcases Bool.eq_false_or_eq_true (cm .neq x46 (ar .sub .i64 (a0.length : Int) (1 : Int))) with hc57 | hc57
      · replace h := cond_t hc57 h
        refine W.condT rfl hc57 ?_
        refine W.seq ?_
        refine W.reg (σ' := ⟨[(2, .v (Enc.int .i64) (3 : Int))], []⟩) (J.cons (.none rfl) (JO.assign rfl) rfl rfl (J.fin (Sw.Sub.mk id (.cons rfl (.of_eq rfl) .nil) .nil rfl))) ?_
        refine W.ret ?_
        obtain rfl := Option.some.inj h
        exact XQ.sub (σ' := ⟨[(2, .v (Enc.int .i64) (3 : Int))], []⟩) (Sw.Sub.mk id (.cons rfl (.of_eq rfl) .nil) .nil rfl) (XQ.ret1 hF noR rfl (RV.tmp rfl) .nil rfl)
      · replace h := cond_f hc57 h
        refine W.condF rfl hc57 ?_
        refine W.skip ?_
        refine W.seq ?_
        refine W.reg (σ' := ⟨[(2, .v (Enc.int .i64) (0 : Int))], []⟩) (J.cons (.none rfl) (JO.assign rfl) rfl rfl (J.fin (Sw.Sub.mk id (.cons rfl (.of_eq rfl) .nil) .nil rfl))) ?_
        refine W.ret ?_
        obtain rfl := Option.some.inj h
        exact XQ.sub (σ' := ⟨[(2, .v (Enc.int .i64) (0 : Int))], []⟩) (Sw.Sub.mk id (.cons rfl (.of_eq rfl) .nil) .nil rfl) (XQ.ret1 hF noR rfl (RV.tmp rfl) .nil rfl)
    intro s34 r45 h
    refine W.seq ?_
    refine W.seq ?_
    refine W.reg (σ' := ⟨[(1, .ptr 101 0), (3, .v (Enc.sl (Enc.int .u64)) s34.1), (4, .v (Enc.int .i64) s34.2), (31, .v Enc.bool (cm .gtr (s34.1.length : Int) (1 : Int)))], [(101, .box 71 [.v (Enc.sl (Enc.sl (Enc.int .u64))) a0])]⟩) (J.cons (.none rfl) (JO.move rfl) rfl rfl (J.cons (.none rfl) (JO.len rfl Try.runUnderlying95) rfl rfl (J.cons (.none rfl) (JO.cmp rfl rfl rfl) rfl rfl (J.fin (Sw.Sub.mk id (.cons rfl (.of_eq rfl) (.cons rfl (.of_eq rfl) (.cons rfl (.of_eq rfl) (.cons rfl (.of_eq rfl) .nil)))) (.box rfl (.cons (.of_eq rfl) .nil) .nil) rfl))))) ?_
    rcases Bool.eq_false_or_eq_true (cm .gtr (s34.1.length : Int) (1 : Int)) with hc47 | hc47
    · replace h := cond_t hc47 h
      refine W.condT rfl hc47 ?_
      refine W.skip ?_
      refine W.block ?_
      refine W.seq ?_
      obtain ⟨v48, hv48, h⟩ := bind_e h
      refine W.reg (σ' := ⟨[(1, .ptr 101 0), (3, .v (Enc.sl (Enc.int .u64)) v48), (4, .v (Enc.int .i64) s34.2)], [(101, .box 71 [.v (Enc.sl (Enc.sl (Enc.int .u64))) a0])]⟩) (J.cons (.none rfl) (JO.move rfl) rfl rfl (J.cons (.none rfl) (JO.call0 (con_ref_above hv48) Try.call78 (.cons (.dir rfl) .nil)) rfl rfl (J.cons (.none rfl) (JO.assign rfl) rfl rfl (J.fin (Sw.Sub.mk id (.cons rfl (.of_eq rfl) (.cons rfl (.of_eq rfl) (.cons rfl (.of_eq rfl) .nil))) (.box rfl (.cons (.of_eq rfl) .nil) .nil) rfl))))) ?_
      refine W.seq ?_
      refine W.reg (σ' := ⟨[(1, .ptr 101 0), (3, .v (Enc.sl (Enc.int .u64)) v48), (4, .v (Enc.int .i64) (ar .add .i64 s34.2 (1 : Int)))], [(101, .box 71 [.v (Enc.sl (Enc.sl (Enc.int .u64))) a0])]⟩) (J.cons (.none rfl) (JO.move rfl) rfl rfl (J.cons (.none rfl) (JO.arith rfl rfl rfl) rfl rfl (J.cons (.none rfl) (JO.assign rfl) rfl rfl (J.fin (Sw.Sub.mk id (.cons rfl (.of_eq rfl) (.cons rfl (.of_eq rfl) (.cons rfl (.of_eq rfl) .nil))) (.box rfl (.cons (.of_eq rfl) .nil) .nil) rfl))))) ?_
      refine W.seq ?_
      obtain ⟨x52, hx, h⟩ := bind_e h
      refine W.reg (σ' := ⟨[(1, .ptr 101 0), (3, .v (Enc.sl (Enc.int .u64)) v48), (4, .v (Enc.int .i64) (ar .add .i64 s34.2 (1 : Int))), (50, .v Enc.bool x52)], [(101, .box 71 [.v (Enc.sl (Enc.sl (Enc.int .u64))) a0])]⟩) ?_ ?_
      · rcases Bool.eq_false_or_eq_true (cm .geq (ar .add .i64 s34.2 (1 : Int)) (a0.length : Int)) with hc53 | hc53
        · replace hx := cond_t hc53 hx
          obtain rfl := Option.some.inj hx
          exact (J.cons (.none rfl) (JO.move rfl) rfl rfl (J.cons (.none rfl) (JO.fieldPtr 0 rfl Try.runUnderlying71 rfl Try.sizeOf69 rfl rfl) rfl rfl (J.cons (.none rfl) (JO.load rfl rfl rfl Try.isAgg69 Try.sizeOf69) rfl rfl (J.cons (.none rfl) (JO.len rfl Try.runUnderlying69) rfl rfl (J.cons (.none rfl) (JO.cmp rfl rfl rfl) rfl rfl (J.cons (.none rfl) (JO.move rfl) rfl rfl (J.left (GK.unmet 41 rfl rfl rfl hc53) rfl (J.left (GK.unmet 41 rfl rfl rfl hc53) rfl (J.left (GK.unmet 41 rfl rfl rfl hc53) rfl (J.left (GK.unmet 41 rfl rfl rfl hc53) rfl (J.left (GK.unmet 41 rfl rfl rfl hc53) rfl (J.left (GK.unmet 41 rfl rfl rfl hc53) rfl (J.left (GK.unmet 41 rfl rfl rfl hc53) rfl (J.left (GK.unmet 41 rfl rfl rfl hc53) rfl (J.cons (.none rfl) (JO.pT hc53 rfl rfl) rfl rfl (J.fin (Sw.Sub.mk id (.cons rfl (.of_eq rfl) (.cons rfl (.of_eq rfl) (.cons rfl (.of_eq rfl) (.cons rfl (.of_eq rfl) .nil)))) (.box rfl (.cons (.of_eq rfl) .nil) .nil) rfl)))))))))))))))))
        · replace hx := cond_f hc53 hx
          obtain ⟨z54, hz54, hx⟩ := bind_e hx
          obtain ⟨v55, hv55, hx⟩ := bind_e hx
          obtain rfl := Option.some.inj hx
          exact (J.cons (.none rfl) (JO.move rfl) rfl rfl (J.cons (.none rfl) (JO.fieldPtr 0 rfl Try.runUnderlying71 rfl Try.sizeOf69 rfl rfl) rfl rfl (J.cons (.none rfl) (JO.load rfl rfl rfl Try.isAgg69 Try.sizeOf69) rfl rfl (J.cons (.none rfl) (JO.len rfl Try.runUnderlying69) rfl rfl (J.cons (.none rfl) (JO.cmp rfl rfl rfl) rfl rfl (J.cons (.none rfl) (JO.move rfl) rfl rfl (J.cons (GK.met 41 rfl rfl rfl hc53) (JO.move rfl) rfl rfl (J.cons (GK.met 41 rfl rfl rfl hc53) (JO.fieldPtr 0 rfl Try.runUnderlying71 rfl Try.sizeOf69 rfl rfl) rfl rfl (J.cons (GK.met 41 rfl rfl rfl hc53) (JO.load rfl rfl rfl Try.isAgg69 Try.sizeOf69) rfl rfl (J.cons (GK.met 41 rfl rfl rfl hc53) (JO.move rfl) rfl rfl (J.cons (GK.met 41 rfl rfl rfl hc53) (JO.idx hz54 rfl rfl Try.runUnderlying69 Try.sizeOf95) rfl rfl (J.cons (GK.met 41 rfl rfl rfl hc53) (JO.loadPst rfl Try.isAgg95 Try.sizeOf95) rfl rfl (J.cons (GK.met 41 rfl rfl rfl hc53) (JO.call0 (con_ref_SameLevel hv55) Try.call55 (.cons (.dir rfl) (.cons (.dir rfl) .nil))) rfl rfl (J.cons (GK.met 41 rfl rfl rfl hc53) (JO.not rfl) rfl rfl (J.cons (.none rfl) (JO.pF hc53 rfl rfl) rfl rfl (J.fin (Sw.Sub.mk id (.cons rfl (.of_eq rfl) (.cons rfl (.of_eq rfl) (.cons rfl (.of_eq rfl) (.cons rfl (.of_eq rfl) .nil)))) (.box rfl (.cons (.of_eq rfl) .nil) .nil) rfl)))))))))))))))))
      rcases Bool.eq_false_or_eq_true x52 with hc56 | hc56
      · replace h := cond_t hc56 h
        refine W.condT rfl hc56 ?_
        refine W.seq ?_
        refine W.reg (σ' := ⟨[(2, .v (Enc.int .i64) (3 : Int))], []⟩) (J.cons (.none rfl) (JO.assign rfl) rfl rfl (J.fin (Sw.Sub.mk id (.cons rfl (.of_eq rfl) .nil) .nil rfl))) ?_
        refine W.ret ?_
        refine XQ.ret ?_
        obtain rfl := Option.some.inj h
        refine XQ.lret fun ho => ?_
        obtain rfl := hr45 _ ho
        exact XQ.sub (σ' := ⟨[(2, .v (Enc.int .i64) (3 : Int))], []⟩) (Sw.Sub.mk id (.cons rfl (.of_eq rfl) .nil) .nil rfl) (XQ.ret1 hF noR rfl (RV.tmp rfl) .nil rfl)
      · replace h := cond_f hc56 h
        refine W.condF rfl hc56 ?_
        refine W.skip ?_
        refine W.fall ?_
        obtain rfl := Option.some.inj h
        exact W.next (Sw.Sub.mk id (.cons rfl (.of_eq rfl) (.cons rfl (.of_eq rfl) (.cons rfl (.of_eq rfl) .nil))) (.box rfl (.cons (.of_eq rfl) .nil) .nil) rfl)
    · replace h := cond_f hc47 h
      refine W.condF rfl hc47 ?_
      refine W.exit ?_
      obtain rfl := Option.some.inj h
      exact XQ.brk (Sw.Sub.mk id (.cons rfl (.of_eq rfl) (.cons rfl (.of_eq rfl) .nil)) (.box rfl (.cons (.of_eq rfl) .nil) .nil) rfl)
set_option maxRecDepth 100000 in
set_option maxHeartbeats 4000000 in
theorem con_ref_Differs {a0 : ((List (List Int)))} {a1 : ((List (List Int)))} {r : (List Int) × Int} (h : m_ref_Differs a0 a1 = some r) :
    Con Try.prog 52 [.v (Enc.one1 (Enc.sl (Enc.sl (Enc.int .u64)))) a0, .v (Enc.one1 (Enc.sl (Enc.sl (Enc.int .u64)))) a1] (.tup [.v (Enc.sl (Enc.int .i64)) r.1, .v (Enc.int .i64) r.2]) [] := by
  refine Con.of Try.func52 rfl Try.ntmps52 rfl ?_
  intro S w hF
  unfold m_ref_Differs at h
  refine W.seq ?_
  refine W.reg (σ' := ⟨[(2, .ptr 101 0), (3, .ptr 102 0)], [(101, .box 71 [.v (Enc.sl (Enc.sl (Enc.int .u64))) a0]), (102, .box 71 [.v (Enc.sl (Enc.sl (Enc.int .u64))) a1])]⟩) (J.cons (.none rfl) (JO.box 101 rfl (.one1 (.one _ _)) rfl) rfl rfl (J.cons (.none rfl) (JO.box 102 rfl (.one1 (.one _ _)) rfl) rfl rfl (J.cons (.none rfl) (JO.assignNilR 103 3 (Enc.int .i64)) rfl rfl (J.cons (.none rfl) (JO.assign rfl) rfl rfl (J.fin (Sw.Sub.mk id (.cons rfl (.of_eq rfl) (.cons rfl (.of_eq rfl) .nil)) (.box rfl (.cons (.of_eq rfl) .nil) (.box rfl (.cons (.of_eq rfl) .nil) .nil)) rfl)))))) ?_
  refine W.seq ?_
  refine W.reg (σ' := ⟨[(2, .ptr 101 0), (3, .ptr 102 0), (6, .ref 104)], [(101, .box 71 [.v (Enc.sl (Enc.sl (Enc.int .u64))) a0]), (102, .box 71 [.v (Enc.sl (Enc.sl (Enc.int .u64))) a1]), (104, .arr 3 (Enc.int .i64) ([] : (List Int)))]⟩) (J.cons (.none rfl) (JO.assignNilR 104 3 (Enc.int .i64)) rfl rfl (J.fin (Sw.Sub.mk id (.cons rfl (.of_eq rfl) (.cons rfl (.of_eq rfl) (.cons rfl (.of_eq rfl) .nil))) (.box rfl (.cons (.of_eq rfl) .nil) (.box rfl (.cons (.of_eq rfl) .nil) (.arr rfl .nil))) rfl))) ?_
  refine W.seq ?_
  refine W.reg (σ' := ⟨[(2, .ptr 101 0), (3, .ptr 102 0), (6, .ref 104), (7, .v (Enc.int .i64) (0 : Int))], [(101, .box 71 [.v (Enc.sl (Enc.sl (Enc.int .u64))) a0]), (102, .box 71 [.v (Enc.sl (Enc.sl (Enc.int .u64))) a1]), (104, .arr 3 (Enc.int .i64) ([] : (List Int)))]⟩) (J.cons (.none rfl) (JO.assign rfl) rfl rfl (J.fin (Sw.Sub.mk id (.cons rfl (.of_eq rfl) (.cons rfl (.of_eq rfl) (.cons rfl (.of_eq rfl) (.cons rfl (.of_eq rfl) .nil)))) (.box rfl (.cons (.of_eq rfl) .nil) (.box rfl (.cons (.of_eq rfl) .nil) (.arr rfl .nil))) rfl))) ?_
  refine W.seq ?_
  refine W.reg (σ' := ⟨[(2, .ptr 101 0), (3, .ptr 102 0), (6, .ref 104), (7, .v (Enc.int .i64) (0 : Int)), (8, .ref 105)], [(101, .box 71 [.v (Enc.sl (Enc.sl (Enc.int .u64))) a0]), (102, .box 71 [.v (Enc.sl (Enc.sl (Enc.int .u64))) a1]), (104, .arr 3 (Enc.int .i64) ([] : (List Int))), (105, .arr 3 (Enc.int .i64) ([(0 : Int)] : (List Int)))]⟩) (J.cons (.none rfl) (JO.litR (e := (Enc.int .i64)) 105 Try.runUnderlying36 Try.sizeOf3 Try.zeroValue3 rfl rfl rfl rfl (.cons (.dir rfl) .nil)) rfl rfl (J.cons (.none rfl) (JO.assign rfl) rfl rfl (J.fin (Sw.Sub.mk id (.cons rfl (.of_eq rfl) (.cons rfl (.of_eq rfl) (.cons rfl (.of_eq rfl) (.cons rfl (.of_eq rfl) (.cons rfl (.of_eq rfl) .nil))))) (.box rfl (.cons (.of_eq rfl) .nil) (.box rfl (.cons (.of_eq rfl) .nil) (.arr rfl (.arr rfl .nil)))) rfl)))) ?_
  refine W.seq ?_
  refine W.seq ?_
  refine W.reg (σ' := ⟨[(2, .ptr 101 0), (3, .ptr 102 0), (6, .ref 104), (7, .v (Enc.int .i64) (0 : Int)), (8, .ref 105), (9, .v (Enc.int .i64) (ar .sub .i64 (a0.length : Int) (1 : Int)))], [(101, .box 71 [.v (Enc.sl (Enc.sl (Enc.int .u64))) a0]), (102, .box 71 [.v (Enc.sl (Enc.sl (Enc.int .u64))) a1]), (104, .arr 3 (Enc.int .i64) ([] : (List Int))), (105, .arr 3 (Enc.int .i64) ([(0 : Int)] : (List Int)))]⟩) (J.cons (.none rfl) (JO.fieldPtr 0 rfl Try.runUnderlying71 rfl Try.sizeOf69 rfl rfl) rfl rfl (J.cons (.none rfl) (JO.load rfl rfl rfl Try.isAgg69 Try.sizeOf69) rfl rfl (J.cons (.none rfl) (JO.len rfl Try.runUnderlying69) rfl rfl (J.cons (.none rfl) (JO.arith rfl rfl rfl) rfl rfl (J.cons (.none rfl) (JO.assign rfl) rfl rfl (J.fin (Sw.Sub.mk id (.cons rfl (.of_eq rfl) (.cons rfl (.of_eq rfl) (.cons rfl (.of_eq rfl) (.cons rfl (.of_eq rfl) (.cons rfl (.of_eq rfl) (.cons rfl (.of_eq rfl) .nil)))))) (.box rfl (.cons (.of_eq rfl) .nil) (.box rfl (.cons (.of_eq rfl) .nil) (.arr rfl (.arr rfl .nil)))) rfl))))))) ?_
  obtain ⟨o994, ho994, hb994, hr994⟩ := lp_elim h
  refine W.lp (σs := fun s663 : Int × Int × (List Int) × (List Int) => ⟨[(2, .ptr 101 0), (3, .ptr 102 0), (6, .ref 290), (7, .v (Enc.int .i64) s663.1), (8, .ref 291), (9, .v (Enc.int .i64) s663.2.1)], [(101, .box 71 [.v (Enc.sl (Enc.sl (Enc.int .u64))) a0]), (102, .box 71 [.v (Enc.sl (Enc.sl (Enc.int .u64))) a1]), (290, .arr 3 (Enc.int .i64) s663.2.2.1), (291, .arr 3 (Enc.int .i64) s663.2.2.2)]⟩) (fun x995 : Int × (List Int) => ⟨[(6, .ref 290), (7, .v (Enc.int .i64) x995.1)], [(290, .arr 3 (Enc.int .i64) x995.2)]⟩) ho994 (Sw.Sub.mk (rn [(101, 101), (102, 102), (290, 104), (291, 105)]) (.cons rfl (.of_eq rfl) (.cons rfl (.of_eq rfl) (.cons rfl (.of_eq rfl) (.cons rfl (.of_eq rfl) (.cons rfl (.of_eq rfl) (.cons rfl (.of_eq rfl) .nil)))))) (.box rfl (.cons (.of_eq rfl) .nil) (.box rfl (.cons (.of_eq rfl) .nil) (.arr rfl (.arr rfl .nil)))) rfl) ?_ ?_
  · intro x995 hy
    have h := hb994 _ hy
    refine W.seq ?_
    refine W.reg (σ' := ⟨[(4, .ref 290), (5, .v (Enc.int .i64) x995.1)], [(290, .arr 3 (Enc.int .i64) x995.2)]⟩) (J.cons (.none rfl) (JO.move rfl) rfl rfl (J.cons (.none rfl) (JO.move rfl) rfl rfl (J.cons (.none rfl) (JO.assign rfl) rfl rfl (J.cons (.none rfl) (JO.assign rfl) rfl rfl (J.fin (Sw.Sub.mk id (.cons rfl (.of_eq rfl) (.cons rfl (.of_eq rfl) .nil)) (.arr rfl .nil) rfl)))))) ?_
    refine W.ret ?_
    obtain rfl := Option.some.inj h
    exact XQ.sub (σ' := ⟨[(4, .v (Enc.sl (Enc.int .i64)) x995.2), (5, .v (Enc.int .i64) x995.1)], []⟩) (Sw.Sub.mk id (.cons rfl (.frz rfl rfl) (.cons rfl (.of_eq rfl) .nil)) .nil rfl) (XQ.ret2 hF noR rfl (RV.tmp rfl) (RV.tmp rfl) .nil rfl)
  intro s663 r994 h
  refine W.seq ?_
  refine W.seq ?_
  refine W.reg (σ' := ⟨[(2, .ptr 101 0), (3, .ptr 102 0), (6, .ref 290), (7, .v (Enc.int .i64) s663.1), (8, .ref 291), (9, .v (Enc.int .i64) s663.2.1), (19, .v Enc.bool (cm .geq s663.2.1 (0 : Int)))], [(101, .box 71 [.v (Enc.sl (Enc.sl (Enc.int .u64))) a0]), (102, .box 71 [.v (Enc.sl (Enc.sl (Enc.int .u64))) a1]), (290, .arr 3 (Enc.int .i64) s663.2.2.1), (291, .arr 3 (Enc.int .i64) s663.2.2.2)]⟩) (J.cons (.none rfl) (JO.move rfl) rfl rfl (J.cons (.none rfl) (JO.cmp rfl rfl rfl) rfl rfl (J.fin (Sw.Sub.mk id (.cons rfl (.of_eq rfl) (.cons rfl (.of_eq rfl) (.cons rfl (.of_eq rfl) (.cons rfl (.of_eq rfl) (.cons rfl (.of_eq rfl) (.cons rfl (.of_eq rfl) (.cons rfl (.of_eq rfl) .nil))))))) (.box rfl (.cons (.of_eq rfl) .nil) (.box rfl (.cons (.of_eq rfl) .nil) (.arr rfl (.arr rfl .nil)))) rfl)))) ?_
  rcases Bool.eq_false_or_eq_true (cm .geq s663.2.1 (0 : Int)) with hc996 | hc996
  · replace h := cond_t hc996 h
    refine W.condT rfl hc996 ?_
    refine W.skip ?_
    refine W.seq ?_
    refine W.block ?_
    refine W.seq ?_
    refine W.reg (σ' := ⟨[(2, .ptr 101 0), (3, .ptr 102 0), (6, .ref 290), (7, .v (Enc.int .i64) s663.1), (8, .ref 291), (9, .v (Enc.int .i64) s663.2.1), (10, .ref 381)], [(101, .box 71 [.v (Enc.sl (Enc.sl (Enc.int .u64))) a0]), (102, .box 71 [.v (Enc.sl (Enc.sl (Enc.int .u64))) a1]), (290, .arr 3 (Enc.int .i64) s663.2.2.1), (291, .arr 3 (Enc.int .i64) s663.2.2.2), (381, .arr 3 (Enc.int .i64) ([] : (List Int)))]⟩) (J.cons (.none rfl) (JO.assignNilR 381 3 (Enc.int .i64)) rfl rfl (J.fin (Sw.Sub.mk id (.cons rfl (.of_eq rfl) (.cons rfl (.of_eq rfl) (.cons rfl (.of_eq rfl) (.cons rfl (.of_eq rfl) (.cons rfl (.of_eq rfl) (.cons rfl (.of_eq rfl) (.cons rfl (.of_eq rfl) .nil))))))) (.box rfl (.cons (.of_eq rfl) .nil) (.box rfl (.cons (.of_eq rfl) .nil) (.arr rfl (.arr rfl (.arr rfl .nil))))) rfl))) ?_
    refine W.seq ?_
    refine W.seq ?_
    refine W.reg (σ' := ⟨[(2, .ptr 101 0), (3, .ptr 102 0), (6, .ref 290), (7, .v (Enc.int .i64) s663.1), (8, .ref 291), (9, .v (Enc.int .i64) s663.2.1), (10, .ref 381), (11, .v (Enc.int .i64) (0 : Int))], [(101, .box 71 [.v (Enc.sl (Enc.sl (Enc.int .u64))) a0]), (102, .box 71 [.v (Enc.sl (Enc.sl (Enc.int .u64))) a1]), (290, .arr 3 (Enc.int .i64) s663.2.2.1), (291, .arr 3 (Enc.int .i64) s663.2.2.2), (381, .arr 3 (Enc.int .i64) ([] : (List Int)))]⟩) (J.cons (.none rfl) (JO.assign rfl) rfl rfl (J.fin (Sw.Sub.mk id (.cons rfl (.of_eq rfl) (.cons rfl (.of_eq rfl) (.cons rfl (.of_eq rfl) (.cons rfl (.of_eq rfl) (.cons rfl (.of_eq rfl) (.cons rfl (.of_eq rfl) (.cons rfl (.of_eq rfl) (.cons rfl (.of_eq rfl) .nil)))))))) (.box rfl (.cons (.of_eq rfl) .nil) (.box rfl (.cons (.of_eq rfl) .nil) (.arr rfl (.arr rfl (.arr rfl .nil))))) rfl))) ?_
    obtain ⟨o1243, ho1243, hb1243, hr1243⟩ := lp_elim h
    refine W.lp (σs := fun s1161 : Int × Int × (List Int) × (List Int) => ⟨[(2, .ptr 101 0), (3, .ptr 102 0), (6, .ref 428), (7, .v (Enc.int .i64) s1161.1), (8, .ref 291), (9, .v (Enc.int .i64) s663.2.1), (10, .ref 429), (11, .v (Enc.int .i64) s1161.2.1)], [(101, .box 71 [.v (Enc.sl (Enc.sl (Enc.int .u64))) a0]), (102, .box 71 [.v (Enc.sl (Enc.sl (Enc.int .u64))) a1]), (428, .arr 3 (Enc.int .i64) s1161.2.2.1), (291, .arr 3 (Enc.int .i64) s663.2.2.2), (429, .arr 3 (Enc.int .i64) s1161.2.2.2)]⟩) (fun x1244 : Int × (List Int) × (List Int) => ⟨[(2, .ptr 101 0), (3, .ptr 102 0), (6, .ref 428), (7, .v (Enc.int .i64) x1244.1), (9, .v (Enc.int .i64) s663.2.1), (10, .ref 429)], [(101, .box 71 [.v (Enc.sl (Enc.sl (Enc.int .u64))) a0]), (102, .box 71 [.v (Enc.sl (Enc.sl (Enc.int .u64))) a1]), (428, .arr 3 (Enc.int .i64) x1244.2.1), (429, .arr 3 (Enc.int .i64) x1244.2.2)]⟩) ho1243 (Sw.Sub.mk (rn [(101, 101), (102, 102), (428, 290), (291, 291), (429, 381)]) (.cons rfl (.of_eq rfl) (.cons rfl (.of_eq rfl) (.cons rfl (.of_eq rfl) (.cons rfl (.of_eq rfl) (.cons rfl (.of_eq rfl) (.cons rfl (.of_eq rfl) (.cons rfl (.of_eq rfl) (.cons rfl (.of_eq rfl) .nil)))))))) (.box rfl (.cons (.of_eq rfl) .nil) (.box rfl (.cons (.of_eq rfl) .nil) (.arr rfl (.arr rfl (.arr rfl .nil))))) rfl) ?_ ?_
    · intro x1244 hy
      have h := hb1243 _ hy
      refine W.reg (σ' := ⟨[(2, .ptr 101 0), (3, .ptr 102 0), (6, .ref 428), (7, .v (Enc.int .i64) x1244.1), (8, .ref 429), (9, .v (Enc.int .i64) s663.2.1)], [(101, .box 71 [.v (Enc.sl (Enc.sl (Enc.int .u64))) a0]), (102, .box 71 [.v (Enc.sl (Enc.sl (Enc.int .u64))) a1]), (428, .arr 3 (Enc.int .i64) x1244.2.1), (429, .arr 3 (Enc.int .i64) x1244.2.2)]⟩) (J.cons (.none rfl) (JO.move rfl) rfl rfl (J.cons (.none rfl) (JO.assign rfl) rfl rfl (J.fin (Sw.Sub.mk id (.cons rfl (.of_eq rfl) (.cons rfl (.of_eq rfl) (.cons rfl (.of_eq rfl) (.cons rfl (.of_eq rfl) (.cons rfl (.of_eq rfl) (.cons rfl (.of_eq rfl) .nil)))))) (.box rfl (.cons (.of_eq rfl) .nil) (.box rfl (.cons (.of_eq rfl) .nil) (.arr rfl (.arr rfl .nil)))) rfl)))) ?_
      refine W.fall ?_
      refine W.reg (σ' := ⟨[(2, .ptr 101 0), (3, .ptr 102 0), (6, .ref 428), (7, .v (Enc.int .i64) x1244.1), (8, .ref 429), (9, .v (Enc.int .i64) (ar .sub .i64 s663.2.1 (1 : Int)))], [(101, .box 71 [.v (Enc.sl (Enc.sl (Enc.int .u64))) a0]), (102, .box 71 [.v (Enc.sl (Enc.sl (Enc.int .u64))) a1]), (428, .arr 3 (Enc.int .i64) x1244.2.1), (429, .arr 3 (Enc.int .i64) x1244.2.2)]⟩) (J.cons (.none rfl) (JO.move rfl) rfl rfl (J.cons (.none rfl) (JO.arith rfl rfl rfl) rfl rfl (J.cons (.none rfl) (JO.assign rfl) rfl rfl (J.fin (Sw.Sub.mk id (.cons rfl (.of_eq rfl) (.cons rfl (.of_eq rfl) (.cons rfl (.of_eq rfl) (.cons rfl (.of_eq rfl) (.cons rfl (.of_eq rfl) (.cons rfl (.of_eq rfl) .nil)))))) (.box rfl (.cons (.of_eq rfl) .nil) (.box rfl (.cons (.of_eq rfl) .nil) (.arr rfl (.arr rfl .nil)))) rfl))))) ?_
      obtain rfl := Option.some.inj h
      exact W.next (Sw.Sub.mk (rn [(101, 101), (102, 102), (290, 428), (291, 429)]) (.cons rfl (.of_eq rfl) (.cons rfl (.of_eq rfl) (.cons rfl (.of_eq rfl) (.cons rfl (.of_eq rfl) (.cons rfl (.of_eq rfl) (.cons rfl (.of_eq rfl) .nil)))))) (.box rfl (.cons (.of_eq rfl) .nil) (.box rfl (.cons (.of_eq rfl) .nil) (.arr rfl (.arr rfl .nil)))) rfl)
    intro s1161 r1243 h
    refine W.seq ?_
    refine W.seq ?_
    refine W.reg (σ' := ⟨[(2, .ptr 101 0), (3, .ptr 102 0), (6, .ref 428), (7, .v (Enc.int .i64) s1161.1), (8, .ref 291), (9, .v (Enc.int .i64) s663.2.1), (10, .ref 429), (11, .v (Enc.int .i64) s1161.2.1), (25, .v Enc.bool (cm .lss s1161.2.1 (s663.2.2.2.length : Int)))], [(101, .box 71 [.v (Enc.sl (Enc.sl (Enc.int .u64))) a0]), (102, .box 71 [.v (Enc.sl (Enc.sl (Enc.int .u64))) a1]), (428, .arr 3 (Enc.int .i64) s1161.2.2.1), (291, .arr 3 (Enc.int .i64) s663.2.2.2), (429, .arr 3 (Enc.int .i64) s1161.2.2.2)]⟩) (J.cons (.none rfl) (JO.move rfl) rfl rfl (J.cons (.none rfl) (JO.move rfl) rfl rfl (J.cons (.none rfl) (JO.lenR rfl rfl Try.runUnderlying36) rfl rfl (J.cons (.none rfl) (JO.cmp rfl rfl rfl) rfl rfl (J.fin (Sw.Sub.mk id (.cons rfl (.of_eq rfl) (.cons rfl (.of_eq rfl) (.cons rfl (.of_eq rfl) (.cons rfl (.of_eq rfl) (.cons rfl (.of_eq rfl) (.cons rfl (.of_eq rfl) (.cons rfl (.of_eq rfl) (.cons rfl (.of_eq rfl) (.cons rfl (.of_eq rfl) .nil))))))))) (.box rfl (.cons (.of_eq rfl) .nil) (.box rfl (.cons (.of_eq rfl) .nil) (.arr rfl (.arr rfl (.arr rfl .nil))))) rfl)))))) ?_
    rcases Bool.eq_false_or_eq_true (cm .lss s1161.2.1 (s663.2.2.2.length : Int)) with hc1245 | hc1245
    · replace h := cond_t hc1245 h
      refine W.condT rfl hc1245 ?_
      refine W.skip ?_
      refine W.seq ?_
      obtain ⟨k1285, hk1285, h⟩ := jp_elim h
      refine W.bj (fun x1286 : (List Int) × (List Int) => ⟨[(2, .ptr 101 0), (3, .ptr 102 0), (6, .ref 459), (7, .v (Enc.int .i64) (ar .add .i64 s1161.1 (1 : Int))), (8, .ref 291), (9, .v (Enc.int .i64) s663.2.1), (10, .ref 460), (11, .v (Enc.int .i64) s1161.2.1)], [(101, .box 71 [.v (Enc.sl (Enc.sl (Enc.int .u64))) a0]), (102, .box 71 [.v (Enc.sl (Enc.sl (Enc.int .u64))) a1]), (459, .arr 3 (Enc.int .i64) x1286.1), (291, .arr 3 (Enc.int .i64) s663.2.2.2), (460, .arr 3 (Enc.int .i64) x1286.2)]⟩) (fun x => k1285 x = some r1243) ?_ ?_
      · intro x1286 h
        rw [hk1285] at h
        refine W.reg (σ' := ⟨[(2, .ptr 101 0), (3, .ptr 102 0), (6, .ref 459), (7, .v (Enc.int .i64) (ar .add .i64 s1161.1 (1 : Int))), (8, .ref 291), (9, .v (Enc.int .i64) s663.2.1), (10, .ref 460), (11, .v (Enc.int .i64) (ar .add .i64 s1161.2.1 (1 : Int)))], [(101, .box 71 [.v (Enc.sl (Enc.sl (Enc.int .u64))) a0]), (102, .box 71 [.v (Enc.sl (Enc.sl (Enc.int .u64))) a1]), (459, .arr 3 (Enc.int .i64) x1286.1), (291, .arr 3 (Enc.int .i64) s663.2.2.2), (460, .arr 3 (Enc.int .i64) x1286.2)]⟩) (J.cons (.none rfl) (JO.move rfl) rfl rfl (J.cons (.none rfl) (JO.arith rfl rfl rfl) rfl rfl (J.cons (.none rfl) (JO.assign rfl) rfl rfl (J.fin (Sw.Sub.mk id (.cons rfl (.of_eq rfl) (.cons rfl (.of_eq rfl) (.cons rfl (.of_eq rfl) (.cons rfl (.of_eq rfl) (.cons rfl (.of_eq rfl) (.cons rfl (.of_eq rfl) (.cons rfl (.of_eq rfl) (.cons rfl (.of_eq rfl) .nil)))))))) (.box rfl (.cons (.of_eq rfl) .nil) (.box rfl (.cons (.of_eq rfl) .nil) (.arr rfl (.arr rfl (.arr rfl .nil))))) rfl))))) ?_
        obtain rfl := Option.some.inj h
        exact W.next (Sw.Sub.mk (rn [(101, 101), (102, 102), (428, 459), (291, 291), (429, 460)]) (.cons rfl (.of_eq rfl) (.cons rfl (.of_eq rfl) (.cons rfl (.of_eq rfl) (.cons rfl (.of_eq rfl) (.cons rfl (.of_eq rfl) (.cons rfl (.of_eq rfl) (.cons rfl (.of_eq rfl) (.cons rfl (.of_eq rfl) .nil)))))))) (.box rfl (.cons (.of_eq rfl) .nil) (.box rfl (.cons (.of_eq rfl) .nil) (.arr rfl (.arr rfl (.arr rfl .nil))))) rfl)
      refine W.seq ?_
      refine W.reg (σ' := ⟨[(2, .ptr 101 0), (3, .ptr 102 0), (6, .ref 428), (7, .v (Enc.int .i64) (ar .add .i64 s1161.1 (1 : Int))), (8, .ref 291), (9, .v (Enc.int .i64) s663.2.1), (10, .ref 429), (11, .v (Enc.int .i64) s1161.2.1)], [(101, .box 71 [.v (Enc.sl (Enc.sl (Enc.int .u64))) a0]), (102, .box 71 [.v (Enc.sl (Enc.sl (Enc.int .u64))) a1]), (428, .arr 3 (Enc.int .i64) s1161.2.2.1), (291, .arr 3 (Enc.int .i64) s663.2.2.2), (429, .arr 3 (Enc.int .i64) s1161.2.2.2)]⟩) (J.cons (.none rfl) (JO.move rfl) rfl rfl (J.cons (.none rfl) (JO.arith rfl rfl rfl) rfl rfl (J.cons (.none rfl) (JO.assign rfl) rfl rfl (J.fin (Sw.Sub.mk id (.cons rfl (.of_eq rfl) (.cons rfl (.of_eq rfl) (.cons rfl (.of_eq rfl) (.cons rfl (.of_eq rfl) (.cons rfl (.of_eq rfl) (.cons rfl (.of_eq rfl) (.cons rfl (.of_eq rfl) (.cons rfl (.of_eq rfl) .nil)))))))) (.box rfl (.cons (.of_eq rfl) .nil) (.box rfl (.cons (.of_eq rfl) .nil) (.arr rfl (.arr rfl (.arr rfl .nil))))) rfl))))) ?_
      refine W.seq ?_
      refine W.seq ?_
      obtain ⟨z1287, hz1287, h⟩ := bind_e h
      obtain ⟨z1288, hz1288, h⟩ := bind_e h
      obtain ⟨z1289, hz1289, h⟩ := bind_e h
      obtain ⟨z1290, hz1290, h⟩ := bind_e h
      obtain ⟨z1291, hz1291, h⟩ := bind_e h
      obtain ⟨z1292, hz1292, h⟩ := bind_e h
      refine W.dr2 (σ' := ⟨[(2, .ptr 101 0), (3, .ptr 102 0), (6, .ref 428), (7, .v (Enc.int .i64) (ar .add .i64 s1161.1 (1 : Int))), (8, .ref 291), (9, .v (Enc.int .i64) s663.2.1), (10, .ref 429), (11, .v (Enc.int .i64) s1161.2.1), (52, .v Enc.bool (cm .eql z1289 z1292))], [(101, .box 71 [.v (Enc.sl (Enc.sl (Enc.int .u64))) a0]), (102, .box 71 [.v (Enc.sl (Enc.sl (Enc.int .u64))) a1]), (428, .arr 3 (Enc.int .i64) s1161.2.2.1), (291, .arr 3 (Enc.int .i64) s663.2.2.2), (429, .arr 3 (Enc.int .i64) s1161.2.2.2)]⟩) 23 [0, 1, 0, 7, 15, 0, 0, 96, 224, 511, 1023, 0, 2048, 0, 14336, 30720, 0, 0, 196608, 458752, 1046528, 2095104, 4194303] mixed (by exact (.cons (.none rfl) (JO.fieldPtr 0 rfl Try.runUnderlying71 rfl Try.sizeOf69 rfl rfl) rfl rfl (.cons (.none rfl) (JO.load rfl rfl rfl Try.isAgg69 Try.sizeOf69) rfl rfl (.cons (.none rfl) (JO.move rfl) rfl rfl (.cons (.none rfl) (JO.idx hz1287 rfl rfl Try.runUnderlying69 Try.sizeOf95) rfl rfl (.cons (.none rfl) (JO.loadPst rfl Try.isAgg95 Try.sizeOf95) rfl rfl (.cons (.none rfl) (JO.move rfl) rfl rfl (.cons (.none rfl) (JO.move rfl) rfl rfl (.cons (.none rfl) (JO.idxR hz1288 rfl rfl rfl Try.runUnderlying36 Try.sizeOf3) rfl rfl (.cons (.none rfl) (JO.loadEl (idx_some hz1288).2.2 rfl rfl .here Try.isAgg3 Try.sizeOf3) rfl rfl (.cons (.none rfl) (JO.idx hz1289 rfl rfl Try.runUnderlying95 Try.sizeOf67) rfl rfl (.cons (.none rfl) (JO.loadPst rfl Try.isAgg67 Try.sizeOf67) rfl rfl (.cons (.none rfl) (JO.fieldPtr 0 rfl Try.runUnderlying71 rfl Try.sizeOf69 rfl rfl) rfl rfl (.cons (.none rfl) (JO.load rfl rfl rfl Try.isAgg69 Try.sizeOf69) rfl rfl (.cons (.none rfl) (JO.move rfl) rfl rfl (.cons (.none rfl) (JO.idx hz1290 rfl rfl Try.runUnderlying69 Try.sizeOf95) rfl rfl (.cons (.none rfl) (JO.loadPst rfl Try.isAgg95 Try.sizeOf95) rfl rfl (.cons (.none rfl) (JO.move rfl) rfl rfl (.cons (.none rfl) (JO.move rfl) rfl rfl (.cons (.none rfl) (JO.idxR hz1291 rfl rfl rfl Try.runUnderlying36 Try.sizeOf3) rfl rfl (.cons (.none rfl) (JO.loadEl (idx_some hz1291).2.2 rfl rfl .here Try.isAgg3 Try.sizeOf3) rfl rfl (.cons (.none rfl) (JO.idx hz1292 rfl rfl Try.runUnderlying95 Try.sizeOf67) rfl rfl (.cons (.none rfl) (JO.loadPst rfl Try.isAgg67 Try.sizeOf67) rfl rfl (.cons (.none rfl) (JO.cmp rfl rfl rfl) rfl rfl .nil)))))))))))))))))))))))) (by exact (J.fin (Sw.Sub.mk id (.cons rfl (.of_eq rfl) (.cons rfl (.of_eq rfl) (.cons rfl (.of_eq rfl) (.cons rfl (.of_eq rfl) (.cons rfl (.of_eq rfl) (.cons rfl (.of_eq rfl) (.cons rfl (.of_eq rfl) (.cons rfl (.of_eq rfl) (.cons rfl (.of_eq rfl) .nil))))))))) (.box rfl (.cons (.of_eq rfl) .nil) (.box rfl (.cons (.of_eq rfl) .nil) (.arr rfl (.arr rfl (.arr rfl .nil))))) rfl))) rfl (by decide +kernel) (by decide +kernel) (by decide +kernel) (by kernel_rfl) ?_
      rcases Bool.eq_false_or_eq_true (cm .eql z1289 z1292) with hc1293 | hc1293
      · replace h := cond_t hc1293 h
        refine W.condT rfl hc1293 ?_
        refine W.exit ?_
        exact XQ.bhit h (Sw.Sub.mk (rn [(101, 101), (102, 102), (459, 428), (291, 291), (460, 429)]) (.cons rfl (.of_eq rfl) (.cons rfl (.of_eq rfl) (.cons rfl (.of_eq rfl) (.cons rfl (.of_eq rfl) (.cons rfl (.of_eq rfl) (.cons rfl (.of_eq rfl) (.cons rfl (.of_eq rfl) (.cons rfl (.of_eq rfl) .nil)))))))) (.box rfl (.cons (.of_eq rfl) .nil) (.box rfl (.cons (.of_eq rfl) .nil) (.arr rfl (.arr rfl (.arr rfl .nil))))) rfl)
      · replace h := cond_f hc1293 h
        refine W.condF rfl hc1293 ?_
        refine W.skip ?_
        refine W.seq ?_
        refine W.seq ?_
        refine W.reg (σ' := ⟨[(2, .ptr 101 0), (3, .ptr 102 0), (6, .ref 428), (7, .v (Enc.int .i64) (ar .add .i64 s1161.1 (1 : Int))), (8, .ref 291), (9, .v (Enc.int .i64) s663.2.1), (10, .ref 429), (11, .v (Enc.int .i64) s1161.2.1), (54, .v Enc.bool (cm .eql s663.2.1 (0 : Int)))], [(101, .box 71 [.v (Enc.sl (Enc.sl (Enc.int .u64))) a0]), (102, .box 71 [.v (Enc.sl (Enc.sl (Enc.int .u64))) a1]), (428, .arr 3 (Enc.int .i64) s1161.2.2.1), (291, .arr 3 (Enc.int .i64) s663.2.2.2), (429, .arr 3 (Enc.int .i64) s1161.2.2.2)]⟩) (J.cons (.none rfl) (JO.move rfl) rfl rfl (J.cons (.none rfl) (JO.cmp rfl rfl rfl) rfl rfl (J.fin (Sw.Sub.mk id (.cons rfl (.of_eq rfl) (.cons rfl (.of_eq rfl) (.cons rfl (.of_eq rfl) (.cons rfl (.of_eq rfl) (.cons rfl (.of_eq rfl) (.cons rfl (.of_eq rfl) (.cons rfl (.of_eq rfl) (.cons rfl (.of_eq rfl) (.cons rfl (.of_eq rfl) .nil))))))))) (.box rfl (.cons (.of_eq rfl) .nil) (.box rfl (.cons (.of_eq rfl) .nil) (.arr rfl (.arr rfl (.arr rfl .nil))))) rfl)))) ?_
        rcases Bool.eq_false_or_eq_true (cm .eql s663.2.1 (0 : Int)) with hc1294 | hc1294
        · replace h := cond_t hc1294 h
          refine W.condT rfl hc1294 ?_
          refine W.seq ?_
          obtain ⟨z1295, hz1295, h⟩ := bind_e h
          obtain ⟨v1296, hv1296, h⟩ := bind_e h
          refine W.reg (σ' := ⟨[(2, .ptr 101 0), (3, .ptr 102 0), (6, .ref 461), (7, .v (Enc.int .i64) (ar .add .i64 s1161.1 (1 : Int))), (8, .ref 291), (9, .v (Enc.int .i64) s663.2.1), (10, .ref 429), (11, .v (Enc.int .i64) s1161.2.1)], [(101, .box 71 [.v (Enc.sl (Enc.sl (Enc.int .u64))) a0]), (102, .box 71 [.v (Enc.sl (Enc.sl (Enc.int .u64))) a1]), (461, .arr 3 (Enc.int .i64) v1296), (291, .arr 3 (Enc.int .i64) s663.2.2.2), (429, .arr 3 (Enc.int .i64) s1161.2.2.2)]⟩) (J.cons (.none rfl) (JO.move rfl) rfl rfl (J.cons (.none rfl) (JO.move rfl) rfl rfl (J.cons (.none rfl) (JO.move rfl) rfl rfl (J.cons (.none rfl) (JO.idxR hz1295 rfl rfl rfl Try.runUnderlying36 Try.sizeOf3) rfl rfl (J.cons (.none rfl) (JO.loadEl (idx_some hz1295).2.2 rfl rfl .here Try.isAgg3 Try.sizeOf3) rfl rfl (J.cons (.none rfl) (JO.lit (e := (Enc.int .i64)) Try.runUnderlying36 Try.sizeOf3 Try.zeroValue3 rfl rfl rfl rfl (.cons (.dir rfl) .nil)) rfl rfl (J.mut (.none rfl) (JM.append 461 hv1296 rfl rfl (.sl rfl) Try.runUnderlying36 Try.typeInfo3 Try.sizeOf3 rfl rfl rfl rfl rfl) (J.cons (.none rfl) (JO.assign rfl) rfl rfl (J.fin (Sw.Sub.mk id (.cons rfl (.of_eq rfl) (.cons rfl (.of_eq rfl) (.cons rfl (.of_eq rfl) (.cons rfl (.of_eq rfl) (.cons rfl (.of_eq rfl) (.cons rfl (.of_eq rfl) (.cons rfl (.of_eq rfl) (.cons rfl (.of_eq rfl) .nil)))))))) (.box rfl (.cons (.of_eq rfl) .nil) (.box rfl (.cons (.of_eq rfl) .nil) (.arr rfl (.arr rfl (.arr rfl .nil))))) rfl)))))))))) ?_
          refine W.exit ?_
          exact XQ.bhit h (Sw.Sub.mk (rn [(101, 101), (102, 102), (459, 461), (291, 291), (460, 429)]) (.cons rfl (.of_eq rfl) (.cons rfl (.of_eq rfl) (.cons rfl (.of_eq rfl) (.cons rfl (.of_eq rfl) (.cons rfl (.of_eq rfl) (.cons rfl (.of_eq rfl) (.cons rfl (.of_eq rfl) (.cons rfl (.of_eq rfl) .nil)))))))) (.box rfl (.cons (.of_eq rfl) .nil) (.box rfl (.cons (.of_eq rfl) .nil) (.arr rfl (.arr rfl (.arr rfl .nil))))) rfl)
        · replace h := cond_f hc1294 h
          refine W.condF rfl hc1294 ?_
          refine W.skip ?_
          refine W.seq ?_
          refine W.reg (σ' := ⟨[(2, .ptr 101 0), (3, .ptr 102 0), (6, .ref 428), (7, .v (Enc.int .i64) (ar .add .i64 s1161.1 (1 : Int))), (8, .ref 291), (9, .v (Enc.int .i64) s663.2.1), (10, .ref 429), (11, .v (Enc.int .i64) s1161.2.1), (12, .v (Enc.int .i64) (0 : Int))], [(101, .box 71 [.v (Enc.sl (Enc.sl (Enc.int .u64))) a0]), (102, .box 71 [.v (Enc.sl (Enc.sl (Enc.int .u64))) a1]), (428, .arr 3 (Enc.int .i64) s1161.2.2.1), (291, .arr 3 (Enc.int .i64) s663.2.2.2), (429, .arr 3 (Enc.int .i64) s1161.2.2.2)]⟩) (J.cons (.none rfl) (JO.assign rfl) rfl rfl (J.fin (Sw.Sub.mk id (.cons rfl (.of_eq rfl) (.cons rfl (.of_eq rfl) (.cons rfl (.of_eq rfl) (.cons rfl (.of_eq rfl) (.cons rfl (.of_eq rfl) (.cons rfl (.of_eq rfl) (.cons rfl (.of_eq rfl) (.cons rfl (.of_eq rfl) (.cons rfl (.of_eq rfl) .nil))))))))) (.box rfl (.cons (.of_eq rfl) .nil) (.box rfl (.cons (.of_eq rfl) .nil) (.arr rfl (.arr rfl (.arr rfl .nil))))) rfl))) ?_
          obtain ⟨o1318, ho1318, hb1318, hr1318⟩ := lp_elim h
          refine W.lp (σs := fun s1311 : Int × (List Int) => ⟨[(2, .ptr 101 0), (3, .ptr 102 0), (6, .ref 428), (7, .v (Enc.int .i64) (ar .add .i64 s1161.1 (1 : Int))), (8, .ref 291), (9, .v (Enc.int .i64) s663.2.1), (10, .ref 467), (11, .v (Enc.int .i64) s1161.2.1), (12, .v (Enc.int .i64) s1311.1)], [(101, .box 71 [.v (Enc.sl (Enc.sl (Enc.int .u64))) a0]), (102, .box 71 [.v (Enc.sl (Enc.sl (Enc.int .u64))) a1]), (428, .arr 3 (Enc.int .i64) s1161.2.2.1), (291, .arr 3 (Enc.int .i64) s663.2.2.2), (467, .arr 3 (Enc.int .i64) s1311.2)]⟩) (fun x1319 : (List Int) => ⟨[(2, .ptr 101 0), (3, .ptr 102 0), (6, .ref 428), (7, .v (Enc.int .i64) (ar .add .i64 s1161.1 (1 : Int))), (8, .ref 291), (9, .v (Enc.int .i64) s663.2.1), (10, .ref 467), (11, .v (Enc.int .i64) s1161.2.1)], [(101, .box 71 [.v (Enc.sl (Enc.sl (Enc.int .u64))) a0]), (102, .box 71 [.v (Enc.sl (Enc.sl (Enc.int .u64))) a1]), (428, .arr 3 (Enc.int .i64) s1161.2.2.1), (291, .arr 3 (Enc.int .i64) s663.2.2.2), (467, .arr 3 (Enc.int .i64) x1319)]⟩) ho1318 (Sw.Sub.mk (rn [(101, 101), (102, 102), (428, 428), (291, 291), (467, 429)]) (.cons rfl (.of_eq rfl) (.cons rfl (.of_eq rfl) (.cons rfl (.of_eq rfl) (.cons rfl (.of_eq rfl) (.cons rfl (.of_eq rfl) (.cons rfl (.of_eq rfl) (.cons rfl (.of_eq rfl) (.cons rfl (.of_eq rfl) (.cons rfl (.of_eq rfl) .nil))))))))) (.box rfl (.cons (.of_eq rfl) .nil) (.box rfl (.cons (.of_eq rfl) .nil) (.arr rfl (.arr rfl (.arr rfl .nil))))) rfl) ?_ ?_
          · intro x1319 hy
            have h := hb1318 _ hy
            exact W.bfall h (Sw.Sub.mk (rn [(101, 101), (102, 102), (459, 428), (291, 291), (460, 467)]) (.cons rfl (.of_eq rfl) (.cons rfl (.of_eq rfl) (.cons rfl (.of_eq rfl) (.cons rfl (.of_eq rfl) (.cons rfl (.of_eq rfl) (.cons rfl (.of_eq rfl) (.cons rfl (.of_eq rfl) (.cons rfl (.of_eq rfl) .nil)))))))) (.box rfl (.cons (.of_eq rfl) .nil) (.box rfl (.cons (.of_eq rfl) .nil) (.arr rfl (.arr rfl (.arr rfl .nil))))) rfl)
          intro s1311 r1318 h
          refine W.seq ?_
          refine W.seq ?_
          refine W.reg (σ' := ⟨[(2, .ptr 101 0), (3, .ptr 102 0), (6, .ref 428), (7, .v (Enc.int .i64) (ar .add .i64 s1161.1 (1 : Int))), (8, .ref 291), (9, .v (Enc.int .i64) s663.2.1), (10, .ref 467), (11, .v (Enc.int .i64) s1161.2.1), (12, .v (Enc.int .i64) s1311.1), (63, .v Enc.bool (cm .lss s1311.1 (4 : Int)))], [(101, .box 71 [.v (Enc.sl (Enc.sl (Enc.int .u64))) a0]), (102, .box 71 [.v (Enc.sl (Enc.sl (Enc.int .u64))) a1]), (428, .arr 3 (Enc.int .i64) s1161.2.2.1), (291, .arr 3 (Enc.int .i64) s663.2.2.2), (467, .arr 3 (Enc.int .i64) s1311.2)]⟩) (J.cons (.none rfl) (JO.move rfl) rfl rfl (J.cons (.none rfl) (JO.cmp rfl rfl rfl) rfl rfl (J.fin (Sw.Sub.mk id (.cons rfl (.of_eq rfl) (.cons rfl (.of_eq rfl) (.cons rfl (.of_eq rfl) (.cons rfl (.of_eq rfl) (.cons rfl (.of_eq rfl) (.cons rfl (.of_eq rfl) (.cons rfl (.of_eq rfl) (.cons rfl (.of_eq rfl) (.cons rfl (.of_eq rfl) (.cons rfl (.of_eq rfl) .nil)))))))))) (.box rfl (.cons (.of_eq rfl) .nil) (.box rfl (.cons (.of_eq rfl) .nil) (.arr rfl (.arr rfl (.arr rfl .nil))))) rfl)))) ?_
          rcases Bool.eq_false_or_eq_true (cm .lss s1311.1 (4 : Int)) with hc1320 | hc1320
          · replace h := cond_t hc1320 h
            refine W.condT rfl hc1320 ?_
            refine W.skip ?_
            refine W.seq ?_
            refine W.block ?_
            refine W.seq ?_
            obtain ⟨z1321, hz1321, h⟩ := bind_e h
            obtain ⟨z1322, hz1322, h⟩ := bind_e h
            refine W.dr2 (σ' := ⟨[(2, .ptr 101 0), (3, .ptr 102 0), (6, .ref 428), (7, .v (Enc.int .i64) (ar .add .i64 s1161.1 (1 : Int))), (8, .ref 291), (9, .v (Enc.int .i64) s663.2.1), (10, .ref 467), (11, .v (Enc.int .i64) s1161.2.1), (12, .v (Enc.int .i64) s1311.1), (80, .v Enc.bool (cm .lss (ar .add .i64 (ar .mul .i64 z1321 (4 : Int)) s1311.1) (z1322.length : Int)))], [(101, .box 71 [.v (Enc.sl (Enc.sl (Enc.int .u64))) a0]), (102, .box 71 [.v (Enc.sl (Enc.sl (Enc.int .u64))) a1]), (428, .arr 3 (Enc.int .i64) s1161.2.2.1), (291, .arr 3 (Enc.int .i64) s663.2.2.2), (467, .arr 3 (Enc.int .i64) s1311.2)]⟩) 15 [0, 0, 3, 7, 15, 0, 63, 0, 128, 0, 512, 1920, 3968, 8064, 16383] mixed (by exact (.cons (.none rfl) (JO.move rfl) rfl rfl (.cons (.none rfl) (JO.move rfl) rfl rfl (.cons (.none rfl) (JO.idxR hz1321 rfl rfl rfl Try.runUnderlying36 Try.sizeOf3) rfl rfl (.cons (.none rfl) (JO.loadEl (idx_some hz1321).2.2 rfl rfl .here Try.isAgg3 Try.sizeOf3) rfl rfl (.cons (.none rfl) (JO.arith rfl rfl rfl) rfl rfl (.cons (.none rfl) (JO.move rfl) rfl rfl (.cons (.none rfl) (JO.arith rfl rfl rfl) rfl rfl (.cons (.none rfl) (JO.fieldPtr 0 rfl Try.runUnderlying71 rfl Try.sizeOf69 rfl rfl) rfl rfl (.cons (.none rfl) (JO.load rfl rfl rfl Try.isAgg69 Try.sizeOf69) rfl rfl (.cons (.none rfl) (JO.move rfl) rfl rfl (.cons (.none rfl) (JO.arith rfl rfl rfl) rfl rfl (.cons (.none rfl) (JO.idx hz1322 rfl rfl Try.runUnderlying69 Try.sizeOf95) rfl rfl (.cons (.none rfl) (JO.loadPst rfl Try.isAgg95 Try.sizeOf95) rfl rfl (.cons (.none rfl) (JO.len rfl Try.runUnderlying95) rfl rfl (.cons (.none rfl) (JO.cmp rfl rfl rfl) rfl rfl .nil)))))))))))))))) (by exact (J.fin (Sw.Sub.mk id (.cons rfl (.of_eq rfl) (.cons rfl (.of_eq rfl) (.cons rfl (.of_eq rfl) (.cons rfl (.of_eq rfl) (.cons rfl (.of_eq rfl) (.cons rfl (.of_eq rfl) (.cons rfl (.of_eq rfl) (.cons rfl (.of_eq rfl) (.cons rfl (.of_eq rfl) (.cons rfl (.of_eq rfl) .nil)))))))))) (.box rfl (.cons (.of_eq rfl) .nil) (.box rfl (.cons (.of_eq rfl) .nil) (.arr rfl (.arr rfl (.arr rfl .nil))))) rfl))) rfl (by decide +kernel) (by decide +kernel) (by decide +kernel) (by kernel_rfl) ?_
            rcases Bool.eq_false_or_eq_true (cm .lss (ar .add .i64 (ar .mul .i64 z1321 (4 : Int)) s1311.1) (z1322.length : Int)) with hc1323 | hc1323
            · replace h := cond_t hc1323 h
              refine W.condT rfl hc1323 ?_
              obtain ⟨z1324, hz1324, h⟩ := bind_e h
              obtain ⟨v1325, hv1325, h⟩ := bind_e h
              refine W.reg (σ' := ⟨[(2, .ptr 101 0), (3, .ptr 102 0), (6, .ref 428), (7, .v (Enc.int .i64) (ar .add .i64 s1161.1 (1 : Int))), (8, .ref 291), (9, .v (Enc.int .i64) s663.2.1), (10, .ref 469), (11, .v (Enc.int .i64) s1161.2.1), (12, .v (Enc.int .i64) s1311.1)], [(101, .box 71 [.v (Enc.sl (Enc.sl (Enc.int .u64))) a0]), (102, .box 71 [.v (Enc.sl (Enc.sl (Enc.int .u64))) a1]), (428, .arr 3 (Enc.int .i64) s1161.2.2.1), (291, .arr 3 (Enc.int .i64) s663.2.2.2), (469, .arr 3 (Enc.int .i64) v1325)]⟩) (J.cons (.none rfl) (JO.move rfl) rfl rfl (J.cons (.none rfl) (JO.move rfl) rfl rfl (J.cons (.none rfl) (JO.move rfl) rfl rfl (J.cons (.none rfl) (JO.idxR hz1324 rfl rfl rfl Try.runUnderlying36 Try.sizeOf3) rfl rfl (J.cons (.none rfl) (JO.loadEl (idx_some hz1324).2.2 rfl rfl .here Try.isAgg3 Try.sizeOf3) rfl rfl (J.cons (.none rfl) (JO.arith rfl rfl rfl) rfl rfl (J.cons (.none rfl) (JO.move rfl) rfl rfl (J.cons (.none rfl) (JO.arith rfl rfl rfl) rfl rfl (J.cons (.none rfl) (JO.lit (e := (Enc.int .i64)) Try.runUnderlying36 Try.sizeOf3 Try.zeroValue3 rfl rfl rfl rfl (.cons (.dir rfl) .nil)) rfl rfl (J.mut (.none rfl) (JM.append 469 hv1325 rfl rfl (.sl rfl) Try.runUnderlying36 Try.typeInfo3 Try.sizeOf3 rfl rfl rfl rfl rfl) (J.cons (.none rfl) (JO.assign rfl) rfl rfl (J.fin (Sw.Sub.mk id (.cons rfl (.of_eq rfl) (.cons rfl (.of_eq rfl) (.cons rfl (.of_eq rfl) (.cons rfl (.of_eq rfl) (.cons rfl (.of_eq rfl) (.cons rfl (.of_eq rfl) (.cons rfl (.of_eq rfl) (.cons rfl (.of_eq rfl) (.cons rfl (.of_eq rfl) .nil))))))))) (.box rfl (.cons (.of_eq rfl) .nil) (.box rfl (.cons (.of_eq rfl) .nil) (.arr rfl (.arr rfl (.arr rfl .nil))))) rfl))))))))))))) ?_
              refine W.fall ?_
              refine W.reg (σ' := ⟨[(2, .ptr 101 0), (3, .ptr 102 0), (6, .ref 428), (7, .v (Enc.int .i64) (ar .add .i64 s1161.1 (1 : Int))), (8, .ref 291), (9, .v (Enc.int .i64) s663.2.1), (10, .ref 469), (11, .v (Enc.int .i64) s1161.2.1), (12, .v (Enc.int .i64) (ar .add .i64 s1311.1 (1 : Int)))], [(101, .box 71 [.v (Enc.sl (Enc.sl (Enc.int .u64))) a0]), (102, .box 71 [.v (Enc.sl (Enc.sl (Enc.int .u64))) a1]), (428, .arr 3 (Enc.int .i64) s1161.2.2.1), (291, .arr 3 (Enc.int .i64) s663.2.2.2), (469, .arr 3 (Enc.int .i64) v1325)]⟩) (J.cons (.none rfl) (JO.move rfl) rfl rfl (J.cons (.none rfl) (JO.arith rfl rfl rfl) rfl rfl (J.cons (.none rfl) (JO.assign rfl) rfl rfl (J.fin (Sw.Sub.mk id (.cons rfl (.of_eq rfl) (.cons rfl (.of_eq rfl) (.cons rfl (.of_eq rfl) (.cons rfl (.of_eq rfl) (.cons rfl (.of_eq rfl) (.cons rfl (.of_eq rfl) (.cons rfl (.of_eq rfl) (.cons rfl (.of_eq rfl) (.cons rfl (.of_eq rfl) .nil))))))))) (.box rfl (.cons (.of_eq rfl) .nil) (.box rfl (.cons (.of_eq rfl) .nil) (.arr rfl (.arr rfl (.arr rfl .nil))))) rfl))))) ?_
              obtain rfl := Option.some.inj h
              exact W.next (Sw.Sub.mk (rn [(101, 101), (102, 102), (428, 428), (291, 291), (467, 469)]) (.cons rfl (.of_eq rfl) (.cons rfl (.of_eq rfl) (.cons rfl (.of_eq rfl) (.cons rfl (.of_eq rfl) (.cons rfl (.of_eq rfl) (.cons rfl (.of_eq rfl) (.cons rfl (.of_eq rfl) (.cons rfl (.of_eq rfl) (.cons rfl (.of_eq rfl) .nil))))))))) (.box rfl (.cons (.of_eq rfl) .nil) (.box rfl (.cons (.of_eq rfl) .nil) (.arr rfl (.arr rfl (.arr rfl .nil))))) rfl)
            · replace h := cond_f hc1323 h
              refine W.condF rfl hc1323 ?_
              refine W.skip ?_
              refine W.fall ?_
              refine W.reg (σ' := ⟨[(2, .ptr 101 0), (3, .ptr 102 0), (6, .ref 428), (7, .v (Enc.int .i64) (ar .add .i64 s1161.1 (1 : Int))), (8, .ref 291), (9, .v (Enc.int .i64) s663.2.1), (10, .ref 467), (11, .v (Enc.int .i64) s1161.2.1), (12, .v (Enc.int .i64) (ar .add .i64 s1311.1 (1 : Int)))], [(101, .box 71 [.v (Enc.sl (Enc.sl (Enc.int .u64))) a0]), (102, .box 71 [.v (Enc.sl (Enc.sl (Enc.int .u64))) a1]), (428, .arr 3 (Enc.int .i64) s1161.2.2.1), (291, .arr 3 (Enc.int .i64) s663.2.2.2), (467, .arr 3 (Enc.int .i64) s1311.2)]⟩) (J.cons (.none rfl) (JO.move rfl) rfl rfl (J.cons (.none rfl) (JO.arith rfl rfl rfl) rfl rfl (J.cons (.none rfl) (JO.assign rfl) rfl rfl (J.fin (Sw.Sub.mk id (.cons rfl (.of_eq rfl) (.cons rfl (.of_eq rfl) (.cons rfl (.of_eq rfl) (.cons rfl (.of_eq rfl) (.cons rfl (.of_eq rfl) (.cons rfl (.of_eq rfl) (.cons rfl (.of_eq rfl) (.cons rfl (.of_eq rfl) (.cons rfl (.of_eq rfl) .nil))))))))) (.box rfl (.cons (.of_eq rfl) .nil) (.box rfl (.cons (.of_eq rfl) .nil) (.arr rfl (.arr rfl (.arr rfl .nil))))) rfl))))) ?_
              obtain rfl := Option.some.inj h
              exact W.next (Sw.Sub.mk id (.cons rfl (.of_eq rfl) (.cons rfl (.of_eq rfl) (.cons rfl (.of_eq rfl) (.cons rfl (.of_eq rfl) (.cons rfl (.of_eq rfl) (.cons rfl (.of_eq rfl) (.cons rfl (.of_eq rfl) (.cons rfl (.of_eq rfl) (.cons rfl (.of_eq rfl) .nil))))))))) (.box rfl (.cons (.of_eq rfl) .nil) (.box rfl (.cons (.of_eq rfl) .nil) (.arr rfl (.arr rfl (.arr rfl .nil))))) rfl)
          · replace h := cond_f hc1320 h
            refine W.condF rfl hc1320 ?_
            refine W.exit ?_
            obtain rfl := Option.some.inj h
            exact XQ.brk (Sw.Sub.mk id (.cons rfl (.of_eq rfl) (.cons rfl (.of_eq rfl) (.cons rfl (.of_eq rfl) (.cons rfl (.of_eq rfl) (.cons rfl (.of_eq rfl) (.cons rfl (.of_eq rfl) (.cons rfl (.of_eq rfl) (.cons rfl (.of_eq rfl) .nil)))))))) (.box rfl (.cons (.of_eq rfl) .nil) (.box rfl (.cons (.of_eq rfl) .nil) (.arr rfl (.arr rfl (.arr rfl .nil))))) rfl)
    · replace h := cond_f hc1245 h
      refine W.condF rfl hc1245 ?_
      refine W.exit ?_
      obtain rfl := Option.some.inj h
      exact XQ.brk (Sw.Sub.mk id (.cons rfl (.of_eq rfl) (.cons rfl (.of_eq rfl) (.cons rfl (.of_eq rfl) (.cons rfl (.of_eq rfl) (.cons rfl (.of_eq rfl) (.cons rfl (.of_eq rfl) .nil)))))) (.box rfl (.cons (.of_eq rfl) .nil) (.box rfl (.cons (.of_eq rfl) .nil) (.arr rfl (.arr rfl .nil)))) rfl)
  · replace h := cond_f hc996 h
    refine W.condF rfl hc996 ?_
    refine W.exit ?_
    obtain rfl := Option.some.inj h
    exact XQ.brk (Sw.Sub.mk id (.cons rfl (.of_eq rfl) (.cons rfl (.of_eq rfl) .nil)) (.arr rfl .nil) rfl)
set_option maxRecDepth 100000 in
set_option maxHeartbeats 4000000 in
theorem con_tree_Diff_1_io : ∀ (n : Nat) (A : Nat → Nat) {a0 : Int} {a1 : Int} {a2_0 : Int} {a3_0 : (List (List Int))} {a4_0 : (List (List Int))} {a5_0 : (List Int)} {r : Int × (List (List Int)) × (List (List Int)) × (List Int)} (_ : m_tree_Diff_1_io n a0 a1 a2_0 a3_0 a4_0 a5_0 = some r),
    ConM Try.prog 83 [.v (Enc.int .i64) a0, .v (Enc.int .i64) a1, .ptr 9200 0, .ptr 9300 0, .ptr 9400 0, .ptr 9500 0, .ptr 9600 0] [(9200, .box 3 [.v (Enc.int .i64) a2_0] (some (A 9200))), (9300, .box 71 [.v (Enc.sl (Enc.sl (Enc.int .u64))) a3_0] (some (A 9300))), (9400, .box 71 [.v (Enc.sl (Enc.sl (Enc.int .u64))) a4_0] (some (A 9400))), (9500, .box 36 [.ref 9450] (some (A 9500))), (9450, .arr 3 (Enc.int .i64) a5_0), (9600, .box 143 [.fnc 83 [.ptr 9200 0, .ptr 9300 0, .ptr 9400 0, .ptr 9500 0, .ptr 9600 0]] (some (A 9600)))] (.tup []) [(9200, .box 3 [.v (Enc.int .i64) r.1] (some (A 9200))), (9300, .box 71 [.v (Enc.sl (Enc.sl (Enc.int .u64))) r.2.1] (some (A 9300))), (9400, .box 71 [.v (Enc.sl (Enc.sl (Enc.int .u64))) r.2.2.1] (some (A 9400))), (9500, .box 36 [.ref 9410] (some (A 9500))), (9410, .arr 3 (Enc.int .i64) r.2.2.2), (9600, .box 143 [.fnc 83 [.ptr 9200 0, .ptr 9300 0, .ptr 9400 0, .ptr 9500 0, .ptr 9600 0]] (some (A 9600)))] := by
  intro n
  induction n with
  | zero => intro A a0 a1 a2_0 a3_0 a4_0 a5_0 r h; cases h
  | succ n0 ih =>
    intro A a0 a1 a2_0 a3_0 a4_0 a5_0 r h
    refine ConM.of Try.func83 rfl Try.ntmps83 rfl ?_
    intro S w R hF
    simp only [m_tree_Diff_1_io] at h
    refine W.seq ?_
    refine W.reg (σ' := ⟨[(0, .v (Enc.int .i64) a0), (1, .v (Enc.int .i64) a1), (2, .ptr 9200 0), (3, .ptr 9300 0), (4, .ptr 9400 0), (5, .ptr 9500 0), (6, .ptr 9600 0)], [(9200, .box 3 [.v (Enc.int .i64) (ar .add .i64 a2_0 (1 : Int))] (some (A 9200))), (9300, .box 71 [.v (Enc.sl (Enc.sl (Enc.int .u64))) a3_0] (some (A 9300))), (9400, .box 71 [.v (Enc.sl (Enc.sl (Enc.int .u64))) a4_0] (some (A 9400))), (9500, .box 36 [.ref 9450] (some (A 9500))), (9600, .box 143 [.fnc 83 [.ptr 9200 0, .ptr 9300 0, .ptr 9400 0, .ptr 9500 0, .ptr 9600 0]] (some (A 9600))), (9450, .arr 3 (Enc.int .i64) a5_0)]⟩) (J.cons (.none rfl) (JO.load rfl rfl rfl Try.isAgg3 Try.sizeOf3) rfl rfl (J.cons (.none rfl) (JO.arith rfl rfl rfl) rfl rfl (J.mut (.none rfl) (JM.store rfl rfl rfl rfl rfl rfl rfl Try.sizeOf3) (J.fin (Sw.Sub.mk id (.cons rfl (.of_eq rfl) (.cons rfl (.of_eq rfl) (.cons rfl (.of_eq rfl) (.cons rfl (.of_eq rfl) (.cons rfl (.of_eq rfl) (.cons rfl (.of_eq rfl) (.cons rfl (.of_eq rfl) .nil))))))) (.box rfl (.cons (.of_eq rfl) .nil) (.box rfl (.cons (.of_eq rfl) .nil) (.box rfl (.cons (.of_eq rfl) .nil) (.box rfl (.cons (.of_eq rfl) .nil) (.box rfl (.cons (.of_eq rfl) .nil) (.arr rfl .nil)))))) rfl))))) ?_
    refine W.block ?_
    refine W.seq ?_
    obtain ⟨z1, hz1, h⟩ := bind_e h
    obtain ⟨z2, hz2, h⟩ := bind_e h
    obtain ⟨z3, hz3, h⟩ := bind_e h
    obtain ⟨z4, hz4, h⟩ := bind_e h
    refine W.dr2 (σ' := ⟨[(0, .v (Enc.int .i64) a0), (1, .v (Enc.int .i64) a1), (2, .ptr 9200 0), (3, .ptr 9300 0), (4, .ptr 9400 0), (5, .ptr 9500 0), (6, .ptr 9600 0), (34, .v Enc.bool (cm .eql z2 z4))], [(9200, .box 3 [.v (Enc.int .i64) (ar .add .i64 a2_0 (1 : Int))] (some (A 9200))), (9300, .box 71 [.v (Enc.sl (Enc.sl (Enc.int .u64))) a3_0] (some (A 9300))), (9400, .box 71 [.v (Enc.sl (Enc.sl (Enc.int .u64))) a4_0] (some (A 9400))), (9500, .box 36 [.ref 9450] (some (A 9500))), (9600, .box 143 [.fnc 83 [.ptr 9200 0, .ptr 9300 0, .ptr 9400 0, .ptr 9500 0, .ptr 9600 0]] (some (A 9600))), (9450, .arr 3 (Enc.int .i64) a5_0)]⟩) 18 [0, 1, 0, 7, 15, 0, 63, 127, 0, 256, 0, 1792, 3840, 0, 16128, 32512, 65535, 131071] mixed (by exact (.cons (.none rfl) (JO.fieldPtr 0 rfl Try.runUnderlying71 rfl Try.sizeOf69 rfl rfl) rfl rfl (.cons (.none rfl) (JO.load rfl rfl rfl Try.isAgg69 Try.sizeOf69) rfl rfl (.cons (.none rfl) (JO.move rfl) rfl rfl (.cons (.none rfl) (JO.idx hz1 rfl rfl Try.runUnderlying69 Try.sizeOf95) rfl rfl (.cons (.none rfl) (JO.loadPst rfl Try.isAgg95 Try.sizeOf95) rfl rfl (.cons (.none rfl) (JO.move rfl) rfl rfl (.cons (.none rfl) (JO.idx hz2 rfl rfl Try.runUnderlying95 Try.sizeOf67) rfl rfl (.cons (.none rfl) (JO.loadPst rfl Try.isAgg67 Try.sizeOf67) rfl rfl (.cons (.none rfl) (JO.fieldPtr 0 rfl Try.runUnderlying71 rfl Try.sizeOf69 rfl rfl) rfl rfl (.cons (.none rfl) (JO.load rfl rfl rfl Try.isAgg69 Try.sizeOf69) rfl rfl (.cons (.none rfl) (JO.move rfl) rfl rfl (.cons (.none rfl) (JO.idx hz3 rfl rfl Try.runUnderlying69 Try.sizeOf95) rfl rfl (.cons (.none rfl) (JO.loadPst rfl Try.isAgg95 Try.sizeOf95) rfl rfl (.cons (.none rfl) (JO.move rfl) rfl rfl (.cons (.none rfl) (JO.idx hz4 rfl rfl Try.runUnderlying95 Try.sizeOf67) rfl rfl (.cons (.none rfl) (JO.loadPst rfl Try.isAgg67 Try.sizeOf67) rfl rfl (.cons (.none rfl) (JO.cmp rfl rfl rfl) rfl rfl (.cons (.none rfl) (JO.assign rfl) rfl rfl .nil))))))))))))))))))) (by exact (J.fin (Sw.Sub.mk id (.cons rfl (.of_eq rfl) (.cons rfl (.of_eq rfl) (.cons rfl (.of_eq rfl) (.cons rfl (.of_eq rfl) (.cons rfl (.of_eq rfl) (.cons rfl (.of_eq rfl) (.cons rfl (.of_eq rfl) (.cons rfl (.of_eq rfl) .nil)))))))) (.box rfl (.cons (.of_eq rfl) .nil) (.box rfl (.cons (.of_eq rfl) .nil) (.box rfl (.cons (.of_eq rfl) .nil) (.box rfl (.cons (.of_eq rfl) .nil) (.box rfl (.cons (.of_eq rfl) .nil) (.arr rfl .nil)))))) rfl))) rfl (by decide +kernel) (by decide +kernel) (by decide +kernel) (by kernel_rfl) ?_
    rcases Bool.eq_false_or_eq_true (cm .eql z2 z4) with hc5 | hc5
    · replace h := cond_t hc5 h
      refine W.condT rfl hc5 ?_
      refine W.skip ?_
      refine W.fall ?_
      refine W.nil ?_
      obtain rfl := Option.some.inj h
      exact XQ.sub (σ' := ⟨[(2, .ptr 9200 0), (3, .ptr 9300 0), (4, .ptr 9400 0), (5, .ptr 9500 0), (6, .ptr 9600 0)], [(9600, .box 143 [.fnc 83 [.ptr 9200 0, .ptr 9300 0, .ptr 9400 0, .ptr 9500 0, .ptr 9600 0]] (some (A 9600))), (9500, .box 36 [.ref 9410] (some (A 9500))), (9410, .arr 3 (Enc.int .i64) a5_0), (9400, .box 71 [.v (Enc.sl (Enc.sl (Enc.int .u64))) a4_0] (some (A 9400))), (9300, .box 71 [.v (Enc.sl (Enc.sl (Enc.int .u64))) a3_0] (some (A 9300))), (9200, .box 3 [.v (Enc.int .i64) (ar .add .i64 a2_0 (1 : Int))] (some (A 9200)))]⟩) (Sw.Sub.mk (rn [(9200, 9200), (9300, 9300), (9400, 9400), (9500, 9500), (9600, 9600), (9410, 9450)]) (.cons rfl (.of_eq rfl) (.cons rfl (.of_eq rfl) (.cons rfl (.of_eq rfl) (.cons rfl (.of_eq rfl) (.cons rfl (.of_eq rfl) .nil))))) (.box rfl (.cons (.of_eq rfl) .nil) (.box rfl (.cons (.of_eq rfl) .nil) (.arr rfl (.box rfl (.cons (.of_eq rfl) .nil) (.box rfl (.cons (.of_eq rfl) .nil) (.box rfl (.cons (.of_eq rfl) .nil) .nil)))))) rfl) (XQ.normM0 hF rfl  (.cons rfl (.cons rfl (.cons rfl (.cons rfl (.cons rfl (.cons rfl .nil)))))))
    · replace h := cond_f hc5 h
      refine W.condF rfl hc5 ?_
      refine W.seq ?_
      refine W.reg (σ' := ⟨[(0, .v (Enc.int .i64) a0), (1, .v (Enc.int .i64) a1), (2, .ptr 9200 0), (3, .ptr 9300 0), (4, .ptr 9400 0), (5, .ptr 9500 0), (6, .ptr 9600 0), (52, .v Enc.bool (cm .eql a0 (0 : Int)))], [(9200, .box 3 [.v (Enc.int .i64) (ar .add .i64 a2_0 (1 : Int))] (some (A 9200))), (9300, .box 71 [.v (Enc.sl (Enc.sl (Enc.int .u64))) a3_0] (some (A 9300))), (9400, .box 71 [.v (Enc.sl (Enc.sl (Enc.int .u64))) a4_0] (some (A 9400))), (9500, .box 36 [.ref 9450] (some (A 9500))), (9600, .box 143 [.fnc 83 [.ptr 9200 0, .ptr 9300 0, .ptr 9400 0, .ptr 9500 0, .ptr 9600 0]] (some (A 9600))), (9450, .arr 3 (Enc.int .i64) a5_0)]⟩) (J.cons (.none rfl) (JO.move rfl) rfl rfl (J.cons (.none rfl) (JO.cmp rfl rfl rfl) rfl rfl (J.cons (.none rfl) (JO.assign rfl) rfl rfl (J.fin (Sw.Sub.mk id (.cons rfl (.of_eq rfl) (.cons rfl (.of_eq rfl) (.cons rfl (.of_eq rfl) (.cons rfl (.of_eq rfl) (.cons rfl (.of_eq rfl) (.cons rfl (.of_eq rfl) (.cons rfl (.of_eq rfl) (.cons rfl (.of_eq rfl) .nil)))))))) (.box rfl (.cons (.of_eq rfl) .nil) (.box rfl (.cons (.of_eq rfl) .nil) (.box rfl (.cons (.of_eq rfl) .nil) (.box rfl (.cons (.of_eq rfl) .nil) (.box rfl (.cons (.of_eq rfl) .nil) (.arr rfl .nil)))))) rfl))))) ?_
      rcases Bool.eq_false_or_eq_true (cm .eql a0 (0 : Int)) with hc6 | hc6
      · replace h := cond_t hc6 h
        refine W.condT rfl hc6 ?_
        obtain ⟨v7, hv7, h⟩ := bind_e h
        refine W.reg (σ' := ⟨[(2, .ptr 9200 0), (3, .ptr 9300 0), (4, .ptr 9400 0), (5, .ptr 9500 0), (6, .ptr 9600 0)], [(9200, .box 3 [.v (Enc.int .i64) (ar .add .i64 a2_0 (1 : Int))] (some (A 9200))), (9300, .box 71 [.v (Enc.sl (Enc.sl (Enc.int .u64))) a3_0] (some (A 9300))), (9400, .box 71 [.v (Enc.sl (Enc.sl (Enc.int .u64))) a4_0] (some (A 9400))), (9500, .box 36 [.ref 101] (some (A 9500))), (9600, .box 143 [.fnc 83 [.ptr 9200 0, .ptr 9300 0, .ptr 9400 0, .ptr 9500 0, .ptr 9600 0]] (some (A 9600))), (101, .arr 3 (Enc.int .i64) v7)]⟩) (J.cons (.none rfl) (JO.load rfl rfl rfl Try.isAgg36 Try.sizeOf36) rfl rfl (J.cons (.none rfl) (JO.move rfl) rfl rfl (J.cons (.none rfl) (JO.lit (e := (Enc.int .i64)) Try.runUnderlying36 Try.sizeOf3 Try.zeroValue3 rfl rfl rfl rfl (.cons (.dir rfl) .nil)) rfl rfl (J.mut (.none rfl) (JM.append 101 hv7 rfl rfl (.sl rfl) Try.runUnderlying36 Try.typeInfo3 Try.sizeOf3 rfl rfl rfl rfl rfl) (J.mut (.none rfl) (JM.store rfl rfl rfl rfl rfl rfl rfl Try.sizeOf36) (J.fin (Sw.Sub.mk id (.cons rfl (.of_eq rfl) (.cons rfl (.of_eq rfl) (.cons rfl (.of_eq rfl) (.cons rfl (.of_eq rfl) (.cons rfl (.of_eq rfl) .nil))))) (.box rfl (.cons (.of_eq rfl) .nil) (.box rfl (.cons (.of_eq rfl) .nil) (.box rfl (.cons (.of_eq rfl) .nil) (.box rfl (.cons (.of_eq rfl) .nil) (.box rfl (.cons (.of_eq rfl) .nil) (.arr rfl .nil)))))) rfl))))))) ?_
        refine W.fall ?_
        refine W.nil ?_
        obtain rfl := Option.some.inj h
        exact XQ.sub (σ' := ⟨[(2, .ptr 9200 0), (3, .ptr 9300 0), (4, .ptr 9400 0), (5, .ptr 9500 0), (6, .ptr 9600 0)], [(9600, .box 143 [.fnc 83 [.ptr 9200 0, .ptr 9300 0, .ptr 9400 0, .ptr 9500 0, .ptr 9600 0]] (some (A 9600))), (9500, .box 36 [.ref 9410] (some (A 9500))), (9410, .arr 3 (Enc.int .i64) v7), (9400, .box 71 [.v (Enc.sl (Enc.sl (Enc.int .u64))) a4_0] (some (A 9400))), (9300, .box 71 [.v (Enc.sl (Enc.sl (Enc.int .u64))) a3_0] (some (A 9300))), (9200, .box 3 [.v (Enc.int .i64) (ar .add .i64 a2_0 (1 : Int))] (some (A 9200)))]⟩) (Sw.Sub.mk (rn [(9200, 9200), (9300, 9300), (9400, 9400), (9500, 9500), (9600, 9600), (9410, 101)]) (.cons rfl (.of_eq rfl) (.cons rfl (.of_eq rfl) (.cons rfl (.of_eq rfl) (.cons rfl (.of_eq rfl) (.cons rfl (.of_eq rfl) .nil))))) (.box rfl (.cons (.of_eq rfl) .nil) (.box rfl (.cons (.of_eq rfl) .nil) (.arr rfl (.box rfl (.cons (.of_eq rfl) .nil) (.box rfl (.cons (.of_eq rfl) .nil) (.box rfl (.cons (.of_eq rfl) .nil) .nil)))))) rfl) (XQ.normM0 hF rfl  (.cons rfl (.cons rfl (.cons rfl (.cons rfl (.cons rfl (.cons rfl .nil)))))))
      · replace h := cond_f hc6 h
        refine W.condF rfl hc6 ?_
        refine W.seq ?_
        refine W.reg (σ' := ⟨[(0, .v (Enc.int .i64) a0), (1, .v (Enc.int .i64) a1), (2, .ptr 9200 0), (3, .ptr 9300 0), (4, .ptr 9400 0), (5, .ptr 9500 0), (6, .ptr 9600 0), (9, .v (Enc.int .i64) (ar .mul .i64 a1 (4 : Int)))], [(9200, .box 3 [.v (Enc.int .i64) (ar .add .i64 a2_0 (1 : Int))] (some (A 9200))), (9300, .box 71 [.v (Enc.sl (Enc.sl (Enc.int .u64))) a3_0] (some (A 9300))), (9400, .box 71 [.v (Enc.sl (Enc.sl (Enc.int .u64))) a4_0] (some (A 9400))), (9500, .box 36 [.ref 9450] (some (A 9500))), (9600, .box 143 [.fnc 83 [.ptr 9200 0, .ptr 9300 0, .ptr 9400 0, .ptr 9500 0, .ptr 9600 0]] (some (A 9600))), (9450, .arr 3 (Enc.int .i64) a5_0)]⟩) (J.cons (.none rfl) (JO.move rfl) rfl rfl (J.cons (.none rfl) (JO.arith rfl rfl rfl) rfl rfl (J.cons (.none rfl) (JO.assign rfl) rfl rfl (J.fin (Sw.Sub.mk id (.cons rfl (.of_eq rfl) (.cons rfl (.of_eq rfl) (.cons rfl (.of_eq rfl) (.cons rfl (.of_eq rfl) (.cons rfl (.of_eq rfl) (.cons rfl (.of_eq rfl) (.cons rfl (.of_eq rfl) (.cons rfl (.of_eq rfl) .nil)))))))) (.box rfl (.cons (.of_eq rfl) .nil) (.box rfl (.cons (.of_eq rfl) .nil) (.box rfl (.cons (.of_eq rfl) .nil) (.box rfl (.cons (.of_eq rfl) .nil) (.box rfl (.cons (.of_eq rfl) .nil) (.arr rfl .nil)))))) rfl))))) ?_
        obtain ⟨o20, ho20, hb20, hr20⟩ := lp_elim h
        refine W.lp (σs := fun s16 : Int × Int × (List (List Int)) × (List (List Int)) × (List Int) => ⟨[(0, .v (Enc.int .i64) a0), (1, .v (Enc.int .i64) a1), (2, .ptr 9200 0), (3, .ptr 9300 0), (4, .ptr 9400 0), (5, .ptr 9500 0), (6, .ptr 9600 0), (9, .v (Enc.int .i64) s16.1)], [(9200, .box 3 [.v (Enc.int .i64) s16.2.1] (some (A 9200))), (9300, .box 71 [.v (Enc.sl (Enc.sl (Enc.int .u64))) s16.2.2.1] (some (A 9300))), (9400, .box 71 [.v (Enc.sl (Enc.sl (Enc.int .u64))) s16.2.2.2.1] (some (A 9400))), (9500, .box 36 [.ref 107] (some (A 9500))), (9600, .box 143 [.fnc 83 [.ptr 9200 0, .ptr 9300 0, .ptr 9400 0, .ptr 9500 0, .ptr 9600 0]] (some (A 9600))), (107, .arr 3 (Enc.int .i64) s16.2.2.2.2)]⟩) (fun x21 : Int × (List (List Int)) × (List (List Int)) × (List Int) => ⟨[(2, .ptr 9200 0), (3, .ptr 9300 0), (4, .ptr 9400 0), (5, .ptr 9500 0), (6, .ptr 9600 0)], [(9200, .box 3 [.v (Enc.int .i64) x21.1] (some (A 9200))), (9300, .box 71 [.v (Enc.sl (Enc.sl (Enc.int .u64))) x21.2.1] (some (A 9300))), (9400, .box 71 [.v (Enc.sl (Enc.sl (Enc.int .u64))) x21.2.2.1] (some (A 9400))), (9500, .box 36 [.ref 107] (some (A 9500))), (9600, .box 143 [.fnc 83 [.ptr 9200 0, .ptr 9300 0, .ptr 9400 0, .ptr 9500 0, .ptr 9600 0]] (some (A 9600))), (107, .arr 3 (Enc.int .i64) x21.2.2.2)]⟩) ho20 (Sw.Sub.mk (rn [(9200, 9200), (9300, 9300), (9400, 9400), (9500, 9500), (9600, 9600), (107, 9450)]) (.cons rfl (.of_eq rfl) (.cons rfl (.of_eq rfl) (.cons rfl (.of_eq rfl) (.cons rfl (.of_eq rfl) (.cons rfl (.of_eq rfl) (.cons rfl (.of_eq rfl) (.cons rfl (.of_eq rfl) (.cons rfl (.of_eq rfl) .nil)))))))) (.box rfl (.cons (.of_eq rfl) .nil) (.box rfl (.cons (.of_eq rfl) .nil) (.box rfl (.cons (.of_eq rfl) .nil) (.box rfl (.cons (.of_eq rfl) .nil) (.box rfl (.cons (.of_eq rfl) .nil) (.arr rfl .nil)))))) rfl) ?_ ?_
        · intro x21 hy
          have h := hb20 _ hy
          refine W.fall ?_
          refine W.nil ?_
          obtain rfl := Option.some.inj h
          exact XQ.sub (σ' := ⟨[(2, .ptr 9200 0), (3, .ptr 9300 0), (4, .ptr 9400 0), (5, .ptr 9500 0), (6, .ptr 9600 0)], [(9600, .box 143 [.fnc 83 [.ptr 9200 0, .ptr 9300 0, .ptr 9400 0, .ptr 9500 0, .ptr 9600 0]] (some (A 9600))), (9500, .box 36 [.ref 9410] (some (A 9500))), (9410, .arr 3 (Enc.int .i64) x21.2.2.2), (9400, .box 71 [.v (Enc.sl (Enc.sl (Enc.int .u64))) x21.2.2.1] (some (A 9400))), (9300, .box 71 [.v (Enc.sl (Enc.sl (Enc.int .u64))) x21.2.1] (some (A 9300))), (9200, .box 3 [.v (Enc.int .i64) x21.1] (some (A 9200)))]⟩) (Sw.Sub.mk (rn [(9200, 9200), (9300, 9300), (9400, 9400), (9500, 9500), (9600, 9600), (9410, 107)]) (.cons rfl (.of_eq rfl) (.cons rfl (.of_eq rfl) (.cons rfl (.of_eq rfl) (.cons rfl (.of_eq rfl) (.cons rfl (.of_eq rfl) .nil))))) (.box rfl (.cons (.of_eq rfl) .nil) (.box rfl (.cons (.of_eq rfl) .nil) (.arr rfl (.box rfl (.cons (.of_eq rfl) .nil) (.box rfl (.cons (.of_eq rfl) .nil) (.box rfl (.cons (.of_eq rfl) .nil) .nil)))))) rfl) (XQ.normM0 hF rfl  (.cons rfl (.cons rfl (.cons rfl (.cons rfl (.cons rfl (.cons rfl .nil)))))))
        intro s16 r20 h
        refine W.seq ?_
        refine W.seq ?_
        obtain ⟨z22, hz22, h⟩ := bind_e h
        refine W.reg (σ' := ⟨[(0, .v (Enc.int .i64) a0), (1, .v (Enc.int .i64) a1), (2, .ptr 9200 0), (3, .ptr 9300 0), (4, .ptr 9400 0), (5, .ptr 9500 0), (6, .ptr 9600 0), (9, .v (Enc.int .i64) s16.1), (26, .v Enc.bool (cm .lss s16.1 (min (z22.length : Int) (ar .add .i64 (ar .mul .i64 a1 (4 : Int)) (4 : Int)))))], [(9200, .box 3 [.v (Enc.int .i64) s16.2.1] (some (A 9200))), (9300, .box 71 [.v (Enc.sl (Enc.sl (Enc.int .u64))) s16.2.2.1] (some (A 9300))), (9400, .box 71 [.v (Enc.sl (Enc.sl (Enc.int .u64))) s16.2.2.2.1] (some (A 9400))), (9500, .box 36 [.ref 107] (some (A 9500))), (9600, .box 143 [.fnc 83 [.ptr 9200 0, .ptr 9300 0, .ptr 9400 0, .ptr 9500 0, .ptr 9600 0]] (some (A 9600))), (107, .arr 3 (Enc.int .i64) s16.2.2.2.2)]⟩) (J.cons (.none rfl) (JO.move rfl) rfl rfl (J.cons (.none rfl) (JO.fieldPtr 0 rfl Try.runUnderlying71 rfl Try.sizeOf69 rfl rfl) rfl rfl (J.cons (.none rfl) (JO.load rfl rfl rfl Try.isAgg69 Try.sizeOf69) rfl rfl (J.cons (.none rfl) (JO.move rfl) rfl rfl (J.cons (.none rfl) (JO.arith rfl rfl rfl) rfl rfl (J.cons (.none rfl) (JO.idx hz22 rfl rfl Try.runUnderlying69 Try.sizeOf95) rfl rfl (J.cons (.none rfl) (JO.loadPst rfl Try.isAgg95 Try.sizeOf95) rfl rfl (J.cons (.none rfl) (JO.len rfl Try.runUnderlying95) rfl rfl (J.cons (.none rfl) (JO.move rfl) rfl rfl (J.cons (.none rfl) (JO.arith rfl rfl rfl) rfl rfl (J.cons (.none rfl) (JO.arith rfl rfl rfl) rfl rfl (J.cons (.none rfl) (JO.gmin rfl rfl) rfl rfl (J.cons (.none rfl) (JO.cmp rfl rfl rfl) rfl rfl (J.fin (Sw.Sub.mk id (.cons rfl (.of_eq rfl) (.cons rfl (.of_eq rfl) (.cons rfl (.of_eq rfl) (.cons rfl (.of_eq rfl) (.cons rfl (.of_eq rfl) (.cons rfl (.of_eq rfl) (.cons rfl (.of_eq rfl) (.cons rfl (.of_eq rfl) (.cons rfl (.of_eq rfl) .nil))))))))) (.box rfl (.cons (.of_eq rfl) .nil) (.box rfl (.cons (.of_eq rfl) .nil) (.box rfl (.cons (.of_eq rfl) .nil) (.box rfl (.cons (.of_eq rfl) .nil) (.box rfl (.cons (.of_eq rfl) .nil) (.arr rfl .nil)))))) rfl))))))))))))))) ?_
        rcases Bool.eq_false_or_eq_true (cm .lss s16.1 (min (z22.length : Int) (ar .add .i64 (ar .mul .i64 a1 (4 : Int)) (4 : Int)))) with hc23 | hc23
        · replace h := cond_t hc23 h
          refine W.condT rfl hc23 ?_
          refine W.skip ?_
          refine W.seq ?_
          refine W.block ?_
          obtain ⟨v24, hv24, h⟩ := bind_e h
          refine W.reg (σ' := ⟨[(0, .v (Enc.int .i64) a0), (1, .v (Enc.int .i64) a1), (2, .ptr 9200 0), (3, .ptr 9300 0), (4, .ptr 9400 0), (5, .ptr 9500 0), (6, .ptr 9600 0), (9, .v (Enc.int .i64) s16.1)], [(9200, .box 3 [.v (Enc.int .i64) v24.1] (some (A 9200))), (9300, .box 71 [.v (Enc.sl (Enc.sl (Enc.int .u64))) v24.2.1] (some (A 9300))), (9400, .box 71 [.v (Enc.sl (Enc.sl (Enc.int .u64))) v24.2.2.1] (some (A 9400))), (9500, .box 36 [.ref 109] (some (A 9500))), (9600, .box 143 [.fnc 83 [.ptr 9200 0, .ptr 9300 0, .ptr 9400 0, .ptr 9500 0, .ptr 9600 0]] (some (A 9600))), (109, .arr 3 (Enc.int .i64) v24.2.2.2)]⟩) (J.cons (.none rfl) (JO.load rfl rfl rfl Try.isAgg143 Try.sizeOf143) rfl rfl (J.cons (.none rfl) (JO.move rfl) rfl rfl (J.cons (.none rfl) (JO.arith rfl rfl rfl) rfl rfl (J.cons (.none rfl) (JO.move rfl) rfl rfl (J.mut (.none rfl) (JM.callMF (H := [9200, 9300, 9400, 9500, 107, 9600]) (K := [9200, 9300, 9400, 9500, 9600]) (swp [(9200, 9200), (9300, 9300), (9400, 9400), (9500, 9500), (9450, 107), (9600, 9600), (9410, 109)]) (swp_inj _) rfl rfl (fun A => ih A hv24) Try.call83 (.cons (.dir rfl) (.cons (.dir rfl) .nil)) (fun A => (.box rfl (.box rfl (.box rfl (.box rfl (.arr rfl (.box rfl .nil))))))) (fun A => (.box rfl (.box rfl (.box rfl (.box rfl (.arr (.box rfl .nil rfl) rfl) rfl) rfl) rfl) rfl)) (fun _ => rfl) rfl rfl (fun _ => rfl) rfl rfl) (J.fin (Sw.Sub.mk id (.cons rfl (.of_eq rfl) (.cons rfl (.of_eq rfl) (.cons rfl (.of_eq rfl) (.cons rfl (.of_eq rfl) (.cons rfl (.of_eq rfl) (.cons rfl (.of_eq rfl) (.cons rfl (.of_eq rfl) (.cons rfl (.of_eq rfl) .nil)))))))) (.box rfl (.cons (.of_eq rfl) .nil) (.box rfl (.cons (.of_eq rfl) .nil) (.box rfl (.cons (.of_eq rfl) .nil) (.box rfl (.cons (.of_eq rfl) .nil) (.box rfl (.cons (.of_eq rfl) .nil) (.arr rfl .nil)))))) rfl))))))) ?_
          refine W.fall ?_
          refine W.reg (σ' := ⟨[(0, .v (Enc.int .i64) a0), (1, .v (Enc.int .i64) a1), (2, .ptr 9200 0), (3, .ptr 9300 0), (4, .ptr 9400 0), (5, .ptr 9500 0), (6, .ptr 9600 0), (9, .v (Enc.int .i64) (ar .add .i64 s16.1 (1 : Int)))], [(9200, .box 3 [.v (Enc.int .i64) v24.1] (some (A 9200))), (9300, .box 71 [.v (Enc.sl (Enc.sl (Enc.int .u64))) v24.2.1] (some (A 9300))), (9400, .box 71 [.v (Enc.sl (Enc.sl (Enc.int .u64))) v24.2.2.1] (some (A 9400))), (9500, .box 36 [.ref 109] (some (A 9500))), (9600, .box 143 [.fnc 83 [.ptr 9200 0, .ptr 9300 0, .ptr 9400 0, .ptr 9500 0, .ptr 9600 0]] (some (A 9600))), (109, .arr 3 (Enc.int .i64) v24.2.2.2)]⟩) (J.cons (.none rfl) (JO.move rfl) rfl rfl (J.cons (.none rfl) (JO.arith rfl rfl rfl) rfl rfl (J.cons (.none rfl) (JO.assign rfl) rfl rfl (J.fin (Sw.Sub.mk id (.cons rfl (.of_eq rfl) (.cons rfl (.of_eq rfl) (.cons rfl (.of_eq rfl) (.cons rfl (.of_eq rfl) (.cons rfl (.of_eq rfl) (.cons rfl (.of_eq rfl) (.cons rfl (.of_eq rfl) (.cons rfl (.of_eq rfl) .nil)))))))) (.box rfl (.cons (.of_eq rfl) .nil) (.box rfl (.cons (.of_eq rfl) .nil) (.box rfl (.cons (.of_eq rfl) .nil) (.box rfl (.cons (.of_eq rfl) .nil) (.box rfl (.cons (.of_eq rfl) .nil) (.arr rfl .nil)))))) rfl))))) ?_
          obtain rfl := Option.some.inj h
          exact W.next (Sw.Sub.mk (rn [(9200, 9200), (9300, 9300), (9400, 9400), (9500, 9500), (9600, 9600), (107, 109)]) (.cons rfl (.of_eq rfl) (.cons rfl (.of_eq rfl) (.cons rfl (.of_eq rfl) (.cons rfl (.of_eq rfl) (.cons rfl (.of_eq rfl) (.cons rfl (.of_eq rfl) (.cons rfl (.of_eq rfl) (.cons rfl (.of_eq rfl) .nil)))))))) (.box rfl (.cons (.of_eq rfl) .nil) (.box rfl (.cons (.of_eq rfl) .nil) (.box rfl (.cons (.of_eq rfl) .nil) (.box rfl (.cons (.of_eq rfl) .nil) (.box rfl (.cons (.of_eq rfl) .nil) (.arr rfl .nil)))))) rfl)
        · replace h := cond_f hc23 h
          refine W.condF rfl hc23 ?_
          refine W.exit ?_
          obtain rfl := Option.some.inj h
          exact XQ.brk (Sw.Sub.mk id (.cons rfl (.of_eq rfl) (.cons rfl (.of_eq rfl) (.cons rfl (.of_eq rfl) (.cons rfl (.of_eq rfl) (.cons rfl (.of_eq rfl) .nil))))) (.box rfl (.cons (.of_eq rfl) .nil) (.box rfl (.cons (.of_eq rfl) .nil) (.box rfl (.cons (.of_eq rfl) .nil) (.box rfl (.cons (.of_eq rfl) .nil) (.box rfl (.cons (.of_eq rfl) .nil) (.arr rfl .nil)))))) rfl)
set_option maxRecDepth 100000 in
set_option maxHeartbeats 4000000 in
theorem con_tree_Diff {a0 : ((List (List Int)))} {a1 : ((List (List Int)))} {r : (List Int) × Int × (Option Int)} (h : m_tree_Diff a0 a1 = some r) :
    Con Try.prog 53 [.v (Enc.one1 (Enc.sl (Enc.sl (Enc.int .u64)))) a0, .v (Enc.one1 (Enc.sl (Enc.sl (Enc.int .u64)))) a1] (.tup [.v (Enc.sl (Enc.int .i64)) r.1, .v (Enc.int .i64) r.2.1, .v (Enc.err ET) r.2.2]) [] := by
  refine Con.of Try.func53 rfl Try.ntmps53 rfl ?_
  intro S w hF
  unfold m_tree_Diff at h
  refine W.seq ?_
  refine W.reg (σ' := ⟨[(2, .ptr 101 0), (3, .ptr 102 0), (4, .ptr 103 0), (5, .ptr 105 0)], [(101, .box 71 [.v (Enc.sl (Enc.sl (Enc.int .u64))) a0]), (102, .box 71 [.v (Enc.sl (Enc.sl (Enc.int .u64))) a1]), (103, .box 36 [.ref 104]), (105, .box 3 [.v (Enc.int .i64) (0 : Int)]), (104, .arr 3 (Enc.int .i64) ([] : (List Int)))]⟩) (J.cons (.none rfl) (JO.box 101 rfl (.one1 (.one _ _)) rfl) rfl rfl (J.cons (.none rfl) (JO.box 102 rfl (.one1 (.one _ _)) rfl) rfl rfl (J.cons (.none rfl) (JO.allocN (new := [(104, .arr 3 (Enc.int .i64) ([] : (List Int)))]) 103 Try.zeroValue36 rfl (.ref 104 rfl .nil) (.cons .nil) rfl rfl) rfl rfl (J.cons (.none rfl) (JO.alloc 105 Try.zeroValue3 rfl (.cons (Z.int .i64) .nil) rfl) rfl rfl (J.cons (.none rfl) (JO.assignNilE ET) rfl rfl (J.fin (Sw.Sub.mk id (.cons rfl (.of_eq rfl) (.cons rfl (.of_eq rfl) (.cons rfl (.of_eq rfl) (.cons rfl (.of_eq rfl) .nil)))) (.box rfl (.cons (.of_eq rfl) .nil) (.box rfl (.cons (.of_eq rfl) .nil) (.box rfl (.cons (.of_eq rfl) .nil) (.box rfl (.cons (.of_eq rfl) .nil) (.arr rfl .nil))))) rfl))))))) ?_
  refine W.seq ?_
  refine W.seq ?_
  refine W.reg (σ' := ⟨[(2, .ptr 101 0), (3, .ptr 102 0), (4, .ptr 103 0), (5, .ptr 105 0), (13, .v (Enc.sl (Enc.one1 (Enc.sl (Enc.sl (Enc.int .u64))))) ([a0, a1] : (List ((List (List Int)))))), (14, .v (Enc.int .i64) (([a0, a1] : (List ((List (List Int))))).length : Int)), (15, .v (Enc.int .i64) (0 : Int))], [(101, .box 71 [.v (Enc.sl (Enc.sl (Enc.int .u64))) a0]), (102, .box 71 [.v (Enc.sl (Enc.sl (Enc.int .u64))) a1]), (103, .box 36 [.ref 104]), (105, .box 3 [.v (Enc.int .i64) (0 : Int)]), (104, .arr 3 (Enc.int .i64) ([] : (List Int)))]⟩) (J.cons (.none rfl) (JO.loadAll rfl rfl (.one1 (.one _ _)) Try.isAgg71 Try.sizeOf71) rfl rfl (J.cons (.none rfl) (JO.loadAll rfl rfl (.one1 (.one _ _)) Try.isAgg71 Try.sizeOf71) rfl rfl (J.cons (.none rfl) (JO.lit (e := (Enc.one1 (Enc.sl (Enc.sl (Enc.int .u64))))) Try.runUnderlying142 Try.sizeOf71 Try.zeroValue71 rfl rfl rfl rfl (.cons (.dir rfl) (.cons (.dir rfl) .nil))) rfl rfl (J.cons (.none rfl) (JO.len rfl Try.runUnderlying142) rfl rfl (J.cons (.none rfl) (JO.move rfl) rfl rfl (J.fin (Sw.Sub.mk id (.cons rfl (.of_eq rfl) (.cons rfl (.of_eq rfl) (.cons rfl (.of_eq rfl) (.cons rfl (.of_eq rfl) (.cons rfl (.of_eq rfl) (.cons rfl (.of_eq rfl) (.cons rfl (.of_eq rfl) .nil))))))) (.box rfl (.cons (.of_eq rfl) .nil) (.box rfl (.cons (.of_eq rfl) .nil) (.box rfl (.cons (.of_eq rfl) .nil) (.box rfl (.cons (.of_eq rfl) .nil) (.arr rfl .nil))))) rfl))))))) ?_
  obtain ⟨o16, ho16, hb16, hr16⟩ := lp_elim h
  refine W.lp (σs := fun s11 : Int => ⟨[(2, .ptr 101 0), (3, .ptr 102 0), (4, .ptr 103 0), (5, .ptr 105 0), (13, .v (Enc.sl (Enc.one1 (Enc.sl (Enc.sl (Enc.int .u64))))) ([a0, a1] : (List ((List (List Int)))))), (14, .v (Enc.int .i64) (([a0, a1] : (List ((List (List Int))))).length : Int)), (15, .v (Enc.int .i64) s11)], [(101, .box 71 [.v (Enc.sl (Enc.sl (Enc.int .u64))) a0]), (102, .box 71 [.v (Enc.sl (Enc.sl (Enc.int .u64))) a1]), (103, .box 36 [.ref 104]), (105, .box 3 [.v (Enc.int .i64) (0 : Int)]), (104, .arr 3 (Enc.int .i64) ([] : (List Int)))]⟩) (fun x17 : Unit => ⟨[(2, .ptr 101 0), (3, .ptr 102 0), (4, .ptr 103 0), (5, .ptr 105 0)], [(101, .box 71 [.v (Enc.sl (Enc.sl (Enc.int .u64))) a0]), (102, .box 71 [.v (Enc.sl (Enc.sl (Enc.int .u64))) a1]), (103, .box 36 [.ref 104]), (105, .box 3 [.v (Enc.int .i64) (0 : Int)]), (104, .arr 3 (Enc.int .i64) ([] : (List Int)))]⟩) ho16 (Sw.Sub.mk id (.cons rfl (.of_eq rfl) (.cons rfl (.of_eq rfl) (.cons rfl (.of_eq rfl) (.cons rfl (.of_eq rfl) (.cons rfl (.of_eq rfl) (.cons rfl (.of_eq rfl) (.cons rfl (.of_eq rfl) .nil))))))) (.box rfl (.cons (.of_eq rfl) .nil) (.box rfl (.cons (.of_eq rfl) .nil) (.box rfl (.cons (.of_eq rfl) .nil) (.box rfl (.cons (.of_eq rfl) .nil) (.arr rfl .nil))))) rfl) ?_ ?_
  · intro x17 hy
    have h := hb16 _ hy
    refine W.seq ?_
    refine W.seq ?_
    obtain ⟨z22, hz22, h⟩ := bind_e h
    obtain ⟨z23, hz23, h⟩ := bind_e h
    refine W.dr2 (σ' := ⟨[(2, .ptr 101 0), (3, .ptr 102 0), (4, .ptr 103 0), (5, .ptr 105 0), (35, .v Enc.bool (cm .neq (z22.length : Int) (z23.length : Int)))], [(101, .box 71 [.v (Enc.sl (Enc.sl (Enc.int .u64))) a0]), (102, .box 71 [.v (Enc.sl (Enc.sl (Enc.int .u64))) a1]), (103, .box 36 [.ref 104]), (105, .box 3 [.v (Enc.int .i64) (0 : Int)]), (104, .arr 3 (Enc.int .i64) ([] : (List Int)))]⟩) 11 [0, 1, 3, 7, 15, 0, 32, 96, 224, 480, 1023] mixed (by exact (.cons (.none rfl) (JO.fieldPtr 0 rfl Try.runUnderlying71 rfl Try.sizeOf69 rfl rfl) rfl rfl (.cons (.none rfl) (JO.load rfl rfl rfl Try.isAgg69 Try.sizeOf69) rfl rfl (.cons (.none rfl) (JO.idx hz22 rfl rfl Try.runUnderlying69 Try.sizeOf95) rfl rfl (.cons (.none rfl) (JO.loadPst rfl Try.isAgg95 Try.sizeOf95) rfl rfl (.cons (.none rfl) (JO.len rfl Try.runUnderlying95) rfl rfl (.cons (.none rfl) (JO.fieldPtr 0 rfl Try.runUnderlying71 rfl Try.sizeOf69 rfl rfl) rfl rfl (.cons (.none rfl) (JO.load rfl rfl rfl Try.isAgg69 Try.sizeOf69) rfl rfl (.cons (.none rfl) (JO.idx hz23 rfl rfl Try.runUnderlying69 Try.sizeOf95) rfl rfl (.cons (.none rfl) (JO.loadPst rfl Try.isAgg95 Try.sizeOf95) rfl rfl (.cons (.none rfl) (JO.len rfl Try.runUnderlying95) rfl rfl (.cons (.none rfl) (JO.cmp rfl rfl rfl) rfl rfl .nil)))))))))))) (by exact (J.fin (Sw.Sub.mk id (.cons rfl (.of_eq rfl) (.cons rfl (.of_eq rfl) (.cons rfl (.of_eq rfl) (.cons rfl (.of_eq rfl) (.cons rfl (.of_eq rfl) .nil))))) (.box rfl (.cons (.of_eq rfl) .nil) (.box rfl (.cons (.of_eq rfl) .nil) (.box rfl (.cons (.of_eq rfl) .nil) (.box rfl (.cons (.of_eq rfl) .nil) (.arr rfl .nil))))) rfl))) rfl (by decide +kernel) (by decide +kernel) (by decide +kernel) (by kernel_rfl) ?_
    rcases Bool.eq_false_or_eq_true (cm .neq (z22.length : Int) (z23.length : Int)) with hc24 | hc24
    · replace h := cond_t hc24 h
      refine W.condT rfl hc24 ?_
      refine W.seq ?_
      refine W.reg (σ' := ⟨[(4, .ptr 103 0), (5, .ptr 105 0), (6, .v (Enc.err ET) (some (6 : Int)))], [(103, .box 36 [.v (Enc.sl (Enc.int .i64)) ([] : (List Int))]), (105, .box 3 [.v (Enc.int .i64) (0 : Int)])]⟩) (J.cons (.none rfl) (JO.mkErr Try.runUnderlying25 rfl) rfl rfl (J.mut (.none rfl) (JM.storeA rfl rfl rfl (.nilS (Enc.int .i64)) rfl rfl rfl Try.sizeOf36) (J.mut (.none rfl) (JM.store rfl rfl rfl rfl rfl rfl rfl Try.sizeOf3) (J.cons (.none rfl) (JO.assign rfl) rfl rfl (J.fin (Sw.Sub.mk id (.cons rfl (.of_eq rfl) (.cons rfl (.of_eq rfl) (.cons rfl (.of_eq rfl) .nil))) (.box rfl (.cons (.of_eq rfl) .nil) (.box rfl (.cons (.of_eq rfl) .nil) .nil)) rfl)))))) ?_
      refine W.ret ?_
      obtain rfl := Option.some.inj h
      exact XQ.sub (σ' := ⟨[(4, .ptr 90 0), (5, .ptr 91 0), (6, .v (Enc.err ET) (some (6 : Int)))], [(91, .box 3 [.v (Enc.int .i64) (0 : Int)]), (90, .box 36 [.v (Enc.sl (Enc.int .i64)) ([] : (List Int))])]⟩) (Sw.Sub.mk (rn [(90, 103), (91, 105)]) (.cons rfl (.of_eq rfl) (.cons rfl (.of_eq rfl) (.cons rfl (.of_eq rfl) .nil))) (.box rfl (.cons (.of_eq rfl) .nil) (.box rfl (.cons (.of_eq rfl) .nil) .nil)) rfl) (XQ.ret3 hF noR rfl (RV.cellAt rfl rfl rfl Try.isAgg36 Try.sizeOf36) (RV.cellAt rfl rfl rfl Try.isAgg3 Try.sizeOf3) (RV.tmp rfl) .nil rfl)
    · replace h := cond_f hc24 h
      refine W.condF rfl hc24 ?_
      refine W.skip ?_
      refine W.seq ?_
      refine W.reg (σ' := ⟨[(2, .ptr 101 0), (3, .ptr 102 0), (4, .ptr 103 0), (5, .ptr 105 0), (10, .ptr 114 0)], [(101, .box 71 [.v (Enc.sl (Enc.sl (Enc.int .u64))) a0]), (102, .box 71 [.v (Enc.sl (Enc.sl (Enc.int .u64))) a1]), (103, .box 36 [.ref 104]), (105, .box 3 [.v (Enc.int .i64) (0 : Int)]), (114, .box 143 [.v (Enc.cst .nilFunc rfl) ()]), (104, .arr 3 (Enc.int .i64) ([] : (List Int)))]⟩) (J.cons (.none rfl) (JO.alloc 114 Try.zeroValue143 rfl (.cons (Z.cst (u := .nilFunc) rfl) .nil) rfl) rfl rfl (J.fin (Sw.Sub.mk id (.cons rfl (.of_eq rfl) (.cons rfl (.of_eq rfl) (.cons rfl (.of_eq rfl) (.cons rfl (.of_eq rfl) (.cons rfl (.of_eq rfl) .nil))))) (.box rfl (.cons (.of_eq rfl) .nil) (.box rfl (.cons (.of_eq rfl) .nil) (.box rfl (.cons (.of_eq rfl) .nil) (.box rfl (.cons (.of_eq rfl) .nil) (.box rfl (.cons (.of_eq rfl) .nil) (.arr rfl .nil)))))) rfl))) ?_
      refine W.seq ?_
      refine W.reg (σ' := ⟨[(2, .ptr 101 0), (4, .ptr 103 0), (5, .ptr 105 0), (10, .ptr 114 0)], [(101, .box 71 [.v (Enc.sl (Enc.sl (Enc.int .u64))) a0]), (103, .box 36 [.ref 104]), (105, .box 3 [.v (Enc.int .i64) (0 : Int)]), (114, .box 143 [.fnc 83 [.ptr 105 0, .ptr 101 0, .ptr 102 0, .ptr 103 0, .ptr 114 0]]), (104, .arr 3 (Enc.int .i64) ([] : (List Int))), (102, .box 71 [.v (Enc.sl (Enc.sl (Enc.int .u64))) a1])]⟩) (J.cons (.none rfl) (JO.makeFunc (.cons (.dir rfl) (.cons (.dir rfl) (.cons (.dir rfl) (.cons (.dir rfl) (.cons (.dir rfl) .nil)))))) rfl rfl (J.mut (.none rfl) (JM.store rfl rfl rfl rfl rfl rfl rfl Try.sizeOf143) (J.fin (Sw.Sub.mk id (.cons rfl (.of_eq rfl) (.cons rfl (.of_eq rfl) (.cons rfl (.of_eq rfl) (.cons rfl (.of_eq rfl) .nil)))) (.box rfl (.cons (.of_eq rfl) .nil) (.box rfl (.cons (.of_eq rfl) .nil) (.box rfl (.cons (.of_eq rfl) .nil) (.box rfl (.cons (.of_eq rfl) .nil) (.arr rfl (.box rfl (.cons (.of_eq rfl) .nil) .nil)))))) rfl)))) ?_
      refine W.seq ?_
      obtain ⟨v25, hv25, h⟩ := bind_e h
      refine W.reg (σ' := ⟨[(4, .ptr 103 0), (5, .ptr 105 0)], [(103, .box 36 [.ref 115]), (105, .box 3 [.v (Enc.int .i64) v25.1]), (115, .arr 3 (Enc.int .i64) v25.2.2.2)]⟩) (J.cons (.none rfl) (JO.load rfl rfl rfl Try.isAgg143 Try.sizeOf143) rfl rfl (J.cons (.none rfl) (JO.fieldPtr 0 rfl Try.runUnderlying71 rfl Try.sizeOf69 rfl rfl) rfl rfl (J.cons (.none rfl) (JO.load rfl rfl rfl Try.isAgg69 Try.sizeOf69) rfl rfl (J.cons (.none rfl) (JO.len rfl Try.runUnderlying69) rfl rfl (J.cons (.none rfl) (JO.arith rfl rfl rfl) rfl rfl (J.mut (.none rfl) (JM.callMF (H := [105, 101, 102, 103, 104, 114]) (K := [105, 101, 102, 103, 114]) (swp [(9200, 105), (9300, 101), (9400, 102), (9500, 103), (9450, 104), (9600, 114), (9410, 115)]) (swp_inj _) rfl rfl (fun A => con_tree_Diff_1_io FUEL A hv25) Try.call83 (.cons (.dir rfl) (.cons (.dir rfl) .nil)) (fun A => (.box rfl (.box rfl (.box rfl (.box rfl (.arr rfl (.box rfl .nil))))))) (fun A => (.box rfl (.box rfl (.box rfl (.box rfl (.arr (.box rfl .nil rfl) rfl) rfl) rfl) rfl) rfl)) (fun _ => rfl) rfl rfl (fun _ => rfl) rfl rfl) (J.fin (Sw.Sub.mk id (.cons rfl (.of_eq rfl) (.cons rfl (.of_eq rfl) .nil)) (.box rfl (.cons (.of_eq rfl) .nil) (.box rfl (.cons (.of_eq rfl) .nil) (.arr rfl .nil))) rfl)))))))) ?_
      refine W.seq ?_
      refine W.dr2 (σ' := ⟨[(4, .ptr 103 0), (5, .ptr 105 0), (6, .v (Enc.err ET) (none : Option Int))], [(103, .box 36 [.ref 115]), (105, .box 3 [.v (Enc.int .i64) v25.1]), (115, .arr 3 (Enc.int .i64) v25.2.2.2)]⟩) 5 [0, 0, 1, 7, 15] mixed (by exact (.cons (.none rfl) (JO.load rfl rfl rfl Try.isAgg36 Try.sizeOf36) rfl rfl (.cons (.none rfl) (JO.load rfl rfl rfl Try.isAgg3 Try.sizeOf3) rfl rfl (JP2.store (.none rfl) rfl rfl rfl rfl rfl rfl rfl Try.sizeOf36 (JP2.store (.none rfl) rfl rfl rfl rfl rfl rfl rfl Try.sizeOf3 (.cons (.none rfl) (JO.assignNilE ET) rfl rfl .nil)))))) (by exact (J.fin (Sw.Sub.mk id (.cons rfl (.of_eq rfl) (.cons rfl (.of_eq rfl) (.cons rfl (.of_eq rfl) .nil))) (.box rfl (.cons (.of_eq rfl) .nil) (.box rfl (.cons (.of_eq rfl) .nil) (.arr rfl .nil))) rfl))) rfl (by decide +kernel) (by decide +kernel) (by decide +kernel) (by kernel_rfl) ?_
      refine W.ret ?_
      obtain rfl := Option.some.inj h
      exact XQ.sub (σ' := ⟨[(4, .ptr 90 0), (5, .ptr 91 0), (6, .v (Enc.err ET) (none : Option Int))], [(91, .box 3 [.v (Enc.int .i64) v25.1]), (90, .box 36 [.v (Enc.sl (Enc.int .i64)) v25.2.2.2])]⟩) (Sw.Sub.mk (rn [(90, 103), (91, 105)]) (.cons rfl (.of_eq rfl) (.cons rfl (.of_eq rfl) (.cons rfl (.of_eq rfl) .nil))) (.box rfl (.cons (.of_eq rfl) .nil) (.box rfl (.cons (.frz rfl rfl) .nil) .nil)) rfl) (XQ.ret3 hF noR rfl (RV.cellAt rfl rfl rfl Try.isAgg36 Try.sizeOf36) (RV.cellAt rfl rfl rfl Try.isAgg3 Try.sizeOf3) (RV.tmp rfl) .nil rfl)
  intro s11 r16 h
  refine W.seq ?_
  refine W.reg (σ' := ⟨[(2, .ptr 101 0), (3, .ptr 102 0), (4, .ptr 103 0), (5, .ptr 105 0), (13, .v (Enc.sl (Enc.one1 (Enc.sl (Enc.sl (Enc.int .u64))))) ([a0, a1] : (List ((List (List Int)))))), (14, .v (Enc.int .i64) (([a0, a1] : (List ((List (List Int))))).length : Int)), (15, .v (Enc.int .i64) s11), (16, .v Enc.bool (cm .lss s11 (([a0, a1] : (List ((List (List Int))))).length : Int)))], [(101, .box 71 [.v (Enc.sl (Enc.sl (Enc.int .u64))) a0]), (102, .box 71 [.v (Enc.sl (Enc.sl (Enc.int .u64))) a1]), (103, .box 36 [.ref 104]), (105, .box 3 [.v (Enc.int .i64) (0 : Int)]), (104, .arr 3 (Enc.int .i64) ([] : (List Int)))]⟩) (J.cons (.none rfl) (JO.cmp rfl rfl rfl) rfl rfl (J.fin (Sw.Sub.mk id (.cons rfl (.of_eq rfl) (.cons rfl (.of_eq rfl) (.cons rfl (.of_eq rfl) (.cons rfl (.of_eq rfl) (.cons rfl (.of_eq rfl) (.cons rfl (.of_eq rfl) (.cons rfl (.of_eq rfl) (.cons rfl (.of_eq rfl) .nil)))))))) (.box rfl (.cons (.of_eq rfl) .nil) (.box rfl (.cons (.of_eq rfl) .nil) (.box rfl (.cons (.of_eq rfl) .nil) (.box rfl (.cons (.of_eq rfl) .nil) (.arr rfl .nil))))) rfl))) ?_
  refine W.seq ?_
  rcases Bool.eq_false_or_eq_true (cm .lss s11 (([a0, a1] : (List ((List (List Int))))).length : Int)) with hc18 | hc18
  · replace h := cond_t hc18 h
    refine W.condT rfl hc18 ?_
    refine W.skip ?_
    refine W.seq ?_
    refine W.block ?_
    refine W.seq ?_
    obtain ⟨z19, hz19, h⟩ := bind_e h
    refine W.reg (σ' := ⟨[(2, .ptr 101 0), (3, .ptr 102 0), (4, .ptr 103 0), (5, .ptr 105 0), (8, .ptr 112 0), (13, .v (Enc.sl (Enc.one1 (Enc.sl (Enc.sl (Enc.int .u64))))) ([a0, a1] : (List ((List (List Int)))))), (14, .v (Enc.int .i64) (([a0, a1] : (List ((List (List Int))))).length : Int)), (15, .v (Enc.int .i64) s11)], [(101, .box 71 [.v (Enc.sl (Enc.sl (Enc.int .u64))) a0]), (102, .box 71 [.v (Enc.sl (Enc.sl (Enc.int .u64))) a1]), (103, .box 36 [.ref 104]), (105, .box 3 [.v (Enc.int .i64) (0 : Int)]), (112, .box 71 [.v (Enc.sl (Enc.sl (Enc.int .u64))) z19]), (104, .arr 3 (Enc.int .i64) ([] : (List Int)))]⟩) (J.cons (.none rfl) (JO.idx hz19 rfl rfl Try.runUnderlying142 Try.sizeOf71) rfl rfl (J.cons (.none rfl) (JO.loadPst rfl Try.isAgg71 Try.sizeOf71) rfl rfl (J.cons (.none rfl) (JO.alloc 112 Try.zeroValue71 rfl (.cons (Z.sl (Enc.sl (Enc.int .u64))) .nil) rfl) rfl rfl (J.mut (.none rfl) (JM.storeAll rfl rfl rfl rfl (.one1 (.one _ _)) Try.sizeOf71) (J.fin (Sw.Sub.mk id (.cons rfl (.of_eq rfl) (.cons rfl (.of_eq rfl) (.cons rfl (.of_eq rfl) (.cons rfl (.of_eq rfl) (.cons rfl (.of_eq rfl) (.cons rfl (.of_eq rfl) (.cons rfl (.of_eq rfl) (.cons rfl (.of_eq rfl) .nil)))))))) (.box rfl (.cons (.of_eq rfl) .nil) (.box rfl (.cons (.of_eq rfl) .nil) (.box rfl (.cons (.of_eq rfl) .nil) (.box rfl (.cons (.of_eq rfl) .nil) (.box rfl (.cons (.of_eq rfl) .nil) (.arr rfl .nil)))))) rfl)))))) ?_
    refine W.seq ?_
    obtain ⟨v20, hv20, h⟩ := bind_e h
    refine W.reg (σ' := ⟨[(2, .ptr 101 0), (3, .ptr 102 0), (4, .ptr 103 0), (5, .ptr 105 0), (9, .v (Enc.err ET) v20), (13, .v (Enc.sl (Enc.one1 (Enc.sl (Enc.sl (Enc.int .u64))))) ([a0, a1] : (List ((List (List Int)))))), (14, .v (Enc.int .i64) (([a0, a1] : (List ((List (List Int))))).length : Int)), (15, .v (Enc.int .i64) s11)], [(101, .box 71 [.v (Enc.sl (Enc.sl (Enc.int .u64))) a0]), (102, .box 71 [.v (Enc.sl (Enc.sl (Enc.int .u64))) a1]), (103, .box 36 [.ref 104]), (105, .box 3 [.v (Enc.int .i64) (0 : Int)]), (104, .arr 3 (Enc.int .i64) ([] : (List Int)))]⟩) (J.cons (.none rfl) (JO.loadAll rfl rfl (.one1 (.one _ _)) Try.isAgg71 Try.sizeOf71) rfl rfl (J.cons (.none rfl) (JO.call0 (con_tree_Check hv20) Try.call42 (.cons (.dir rfl) .nil)) rfl rfl (J.cons (.none rfl) (JO.assign rfl) rfl rfl (J.fin (Sw.Sub.mk id (.cons rfl (.of_eq rfl) (.cons rfl (.of_eq rfl) (.cons rfl (.of_eq rfl) (.cons rfl (.of_eq rfl) (.cons rfl (.of_eq rfl) (.cons rfl (.of_eq rfl) (.cons rfl (.of_eq rfl) (.cons rfl (.of_eq rfl) .nil)))))))) (.box rfl (.cons (.of_eq rfl) .nil) (.box rfl (.cons (.of_eq rfl) .nil) (.box rfl (.cons (.of_eq rfl) .nil) (.box rfl (.cons (.of_eq rfl) .nil) (.arr rfl .nil))))) rfl))))) ?_
    refine W.seq ?_
    refine W.reg (σ' := ⟨[(2, .ptr 101 0), (3, .ptr 102 0), (4, .ptr 103 0), (5, .ptr 105 0), (9, .v (Enc.err ET) v20), (13, .v (Enc.sl (Enc.one1 (Enc.sl (Enc.sl (Enc.int .u64))))) ([a0, a1] : (List ((List (List Int)))))), (14, .v (Enc.int .i64) (([a0, a1] : (List ((List (List Int))))).length : Int)), (15, .v (Enc.int .i64) s11), (22, .v Enc.bool (Option.isSome v20))], [(101, .box 71 [.v (Enc.sl (Enc.sl (Enc.int .u64))) a0]), (102, .box 71 [.v (Enc.sl (Enc.sl (Enc.int .u64))) a1]), (103, .box 36 [.ref 104]), (105, .box 3 [.v (Enc.int .i64) (0 : Int)]), (104, .arr 3 (Enc.int .i64) ([] : (List Int)))]⟩) (J.cons (.none rfl) (JO.move rfl) rfl rfl (J.cons (.none rfl) (JO.errNe Try.runUnderlying29 rfl) rfl rfl (J.fin (Sw.Sub.mk id (.cons rfl (.of_eq rfl) (.cons rfl (.of_eq rfl) (.cons rfl (.of_eq rfl) (.cons rfl (.of_eq rfl) (.cons rfl (.of_eq rfl) (.cons rfl (.of_eq rfl) (.cons rfl (.of_eq rfl) (.cons rfl (.of_eq rfl) (.cons rfl (.of_eq rfl) .nil))))))))) (.box rfl (.cons (.of_eq rfl) .nil) (.box rfl (.cons (.of_eq rfl) .nil) (.box rfl (.cons (.of_eq rfl) .nil) (.box rfl (.cons (.of_eq rfl) .nil) (.arr rfl .nil))))) rfl)))) ?_
    rcases Bool.eq_false_or_eq_true (Option.isSome v20) with hc21 | hc21
    · replace h := cond_t hc21 h
      refine W.condT rfl hc21 ?_
      refine W.seq ?_
      refine W.reg (σ' := ⟨[(4, .ptr 103 0), (5, .ptr 105 0), (6, .v (Enc.err ET) v20)], [(103, .box 36 [.v (Enc.sl (Enc.int .i64)) ([] : (List Int))]), (105, .box 3 [.v (Enc.int .i64) (0 : Int)])]⟩) (J.cons (.none rfl) (JO.move rfl) rfl rfl (J.mut (.none rfl) (JM.storeA rfl rfl rfl (.nilS (Enc.int .i64)) rfl rfl rfl Try.sizeOf36) (J.mut (.none rfl) (JM.store rfl rfl rfl rfl rfl rfl rfl Try.sizeOf3) (J.cons (.none rfl) (JO.assign rfl) rfl rfl (J.fin (Sw.Sub.mk id (.cons rfl (.of_eq rfl) (.cons rfl (.of_eq rfl) (.cons rfl (.of_eq rfl) .nil))) (.box rfl (.cons (.of_eq rfl) .nil) (.box rfl (.cons (.of_eq rfl) .nil) .nil)) rfl)))))) ?_
      refine W.ret ?_
      refine XQ.ret ?_
      obtain rfl := Option.some.inj h
      refine XQ.lret fun ho => ?_
      obtain rfl := hr16 _ ho
      exact XQ.sub (σ' := ⟨[(4, .ptr 90 0), (5, .ptr 91 0), (6, .v (Enc.err ET) v20)], [(91, .box 3 [.v (Enc.int .i64) (0 : Int)]), (90, .box 36 [.v (Enc.sl (Enc.int .i64)) ([] : (List Int))])]⟩) (Sw.Sub.mk (rn [(90, 103), (91, 105)]) (.cons rfl (.of_eq rfl) (.cons rfl (.of_eq rfl) (.cons rfl (.of_eq rfl) .nil))) (.box rfl (.cons (.of_eq rfl) .nil) (.box rfl (.cons (.of_eq rfl) .nil) .nil)) rfl) (XQ.ret3 hF noR rfl (RV.cellAt rfl rfl rfl Try.isAgg36 Try.sizeOf36) (RV.cellAt rfl rfl rfl Try.isAgg3 Try.sizeOf3) (RV.tmp rfl) .nil rfl)
    · replace h := cond_f hc21 h
      refine W.condF rfl hc21 ?_
      refine W.skip ?_
      refine W.fall ?_
      refine W.reg (σ' := ⟨[(2, .ptr 101 0), (3, .ptr 102 0), (4, .ptr 103 0), (5, .ptr 105 0), (13, .v (Enc.sl (Enc.one1 (Enc.sl (Enc.sl (Enc.int .u64))))) ([a0, a1] : (List ((List (List Int)))))), (14, .v (Enc.int .i64) (([a0, a1] : (List ((List (List Int))))).length : Int)), (15, .v (Enc.int .i64) (ar .add .i64 s11 (1 : Int)))], [(101, .box 71 [.v (Enc.sl (Enc.sl (Enc.int .u64))) a0]), (102, .box 71 [.v (Enc.sl (Enc.sl (Enc.int .u64))) a1]), (103, .box 36 [.ref 104]), (105, .box 3 [.v (Enc.int .i64) (0 : Int)]), (104, .arr 3 (Enc.int .i64) ([] : (List Int)))]⟩) (J.cons (.none rfl) (JO.arith rfl rfl rfl) rfl rfl (J.cons (.none rfl) (JO.move rfl) rfl rfl (J.fin (Sw.Sub.mk id (.cons rfl (.of_eq rfl) (.cons rfl (.of_eq rfl) (.cons rfl (.of_eq rfl) (.cons rfl (.of_eq rfl) (.cons rfl (.of_eq rfl) (.cons rfl (.of_eq rfl) (.cons rfl (.of_eq rfl) .nil))))))) (.box rfl (.cons (.of_eq rfl) .nil) (.box rfl (.cons (.of_eq rfl) .nil) (.box rfl (.cons (.of_eq rfl) .nil) (.box rfl (.cons (.of_eq rfl) .nil) (.arr rfl .nil))))) rfl)))) ?_
      obtain rfl := Option.some.inj h
      exact W.next (Sw.Sub.mk id (.cons rfl (.of_eq rfl) (.cons rfl (.of_eq rfl) (.cons rfl (.of_eq rfl) (.cons rfl (.of_eq rfl) (.cons rfl (.of_eq rfl) (.cons rfl (.of_eq rfl) (.cons rfl (.of_eq rfl) .nil))))))) (.box rfl (.cons (.of_eq rfl) .nil) (.box rfl (.cons (.of_eq rfl) .nil) (.box rfl (.cons (.of_eq rfl) .nil) (.box rfl (.cons (.of_eq rfl) .nil) (.arr rfl .nil))))) rfl)
  · replace h := cond_f hc18 h
    refine W.condF rfl hc18 ?_
    refine W.exit ?_
    obtain rfl := Option.some.inj h
    exact XQ.brk (Sw.Sub.mk id (.cons rfl (.of_eq rfl) (.cons rfl (.of_eq rfl) (.cons rfl (.of_eq rfl) (.cons rfl (.of_eq rfl) .nil)))) (.box rfl (.cons (.of_eq rfl) .nil) (.box rfl (.cons (.of_eq rfl) .nil) (.box rfl (.cons (.of_eq rfl) .nil) (.box rfl (.cons (.of_eq rfl) .nil) (.arr rfl .nil))))) rfl)
set_option maxRecDepth 100000 in
set_option maxHeartbeats 4000000 in
theorem con_ref_Is {a0 : (Option Int)} {a1 : Int} {r : Bool} (h : m_ref_Is a0 a1 = some r) :
    Con Try.prog 18 [.v (Enc.err ET) a0, .v (Enc.int .i64) a1] (.v Enc.bool r) [] := by
  refine Con.of Try.func18 rfl Try.ntmps18 rfl ?_
  intro S w hF
  unfold m_ref_Is at h
  refine W.seq ?_
  refine W.reg (σ' := ⟨[(0, .v (Enc.err ET) a0), (1, .v (Enc.int .i64) a1)], []⟩) (J.cons (.none rfl) (JO.assign rfl) rfl rfl (J.fin (Sw.Sub.mk id (.cons rfl (.of_eq rfl) (.cons rfl (.of_eq rfl) .nil)) .nil rfl))) ?_
  refine W.seq ?_
  refine W.seq ?_
  refine W.reg (σ' := ⟨[(0, .v (Enc.err ET) a0), (1, .v (Enc.int .i64) a1), (6, .v Enc.bool (Option.isNone a0))], []⟩) (J.cons (.none rfl) (JO.move rfl) rfl rfl (J.cons (.none rfl) (JO.errEq Try.runUnderlying29 rfl) rfl rfl (J.fin (Sw.Sub.mk id (.cons rfl (.of_eq rfl) (.cons rfl (.of_eq rfl) (.cons rfl (.of_eq rfl) .nil))) .nil rfl)))) ?_
  rcases Bool.eq_false_or_eq_true (Option.isNone a0) with hc1 | hc1
  · replace h := cond_t hc1 h
    refine W.condT rfl hc1 ?_
    refine W.seq ?_
    refine W.reg (σ' := ⟨[(4, .v Enc.bool (cm .eql a1 (0 : Int)))], []⟩) (J.cons (.none rfl) (JO.move rfl) rfl rfl (J.cons (.none rfl) (JO.cmp rfl rfl rfl) rfl rfl (J.cons (.none rfl) (JO.assign rfl) rfl rfl (J.fin (Sw.Sub.mk id (.cons rfl (.of_eq rfl) .nil) .nil rfl))))) ?_
    refine W.ret ?_
    obtain rfl := Option.some.inj h
    exact XQ.sub (σ' := ⟨[(4, .v Enc.bool (cm .eql a1 (0 : Int)))], []⟩) (Sw.Sub.mk id (.cons rfl (.of_eq rfl) .nil) .nil rfl) (XQ.ret1 hF noR rfl (RV.tmp rfl) .nil rfl)
  · replace h := cond_f hc1 h
    refine W.condF rfl hc1 ?_
    refine W.skip ?_
    refine W.seq ?_
    obtain ⟨x3, hx, h⟩ := bind_e h
    refine W.reg (σ' := ⟨[(4, .v Enc.bool x3)], []⟩) ?_ ?_
    · rcases Bool.eq_false_or_eq_true (cm .neq a1 (0 : Int)) with hc4 | hc4
      · replace hx := cond_t hc4 hx
        obtain rfl := Option.some.inj hx
        exact (J.cons (.none rfl) (JO.move rfl) rfl rfl (J.cons (.none rfl) (JO.cmp rfl rfl rfl) rfl rfl (J.cons (.none rfl) (JO.move rfl) rfl rfl (J.cons (GK.met 11 rfl rfl rfl hc4) (JO.move rfl) rfl rfl (J.cons (GK.met 11 rfl rfl rfl hc4) (JO.move rfl) rfl rfl (J.cons (GK.met 11 rfl rfl rfl hc4) (JO.mkErr Try.runUnderlying25 rfl) rfl rfl (J.cons (GK.met 11 rfl rfl rfl hc4) (JO.errEq2 Try.runUnderlying29 Try.runUnderlying25 Try.typeInfo25 rfl rfl rfl) rfl rfl (J.cons (.none rfl) (JO.pT hc4 rfl rfl) rfl rfl (J.cons (.none rfl) (JO.assign rfl) rfl rfl (J.fin (Sw.Sub.mk id (.cons rfl (.of_eq rfl) .nil) .nil rfl)))))))))))
      · replace hx := cond_f hc4 hx
        obtain rfl := Option.some.inj hx
        exact (J.cons (.none rfl) (JO.move rfl) rfl rfl (J.cons (.none rfl) (JO.cmp rfl rfl rfl) rfl rfl (J.cons (.none rfl) (JO.move rfl) rfl rfl (J.left (GK.unmet 11 rfl rfl rfl hc4) rfl (J.left (GK.unmet 11 rfl rfl rfl hc4) rfl (J.left (GK.unmet 11 rfl rfl rfl hc4) rfl (J.left (GK.unmet 11 rfl rfl rfl hc4) rfl (J.cons (.none rfl) (JO.pF hc4 rfl rfl) rfl rfl (J.cons (.none rfl) (JO.assign rfl) rfl rfl (J.fin (Sw.Sub.mk id (.cons rfl (.of_eq rfl) .nil) .nil rfl)))))))))))
    refine W.ret ?_
    obtain rfl := Option.some.inj h
    exact XQ.sub (σ' := ⟨[(4, .v Enc.bool x3)], []⟩) (Sw.Sub.mk id (.cons rfl (.of_eq rfl) .nil) .nil rfl) (XQ.ret1 hF noR rfl (RV.tmp rfl) .nil rfl)
set_option maxRecDepth 100000 in
set_option maxHeartbeats 4000000 in
theorem con_ref_SameInts {a0 : (List Int)} {a1 : (List Int)} {r : Bool} (h : m_ref_SameInts a0 a1 = some r) :
    Con Try.prog 47 [.v (Enc.sl (Enc.int .i64)) a0, .v (Enc.sl (Enc.int .i64)) a1] (.v Enc.bool r) [] := by
  refine Con.of Try.func47 rfl Try.ntmps47 rfl ?_
  intro S w hF
  unfold m_ref_SameInts at h
  refine W.seq ?_
  refine W.reg (σ' := ⟨[(0, .v (Enc.sl (Enc.int .i64)) a0), (1, .v (Enc.sl (Enc.int .i64)) a1)], []⟩) (J.cons (.none rfl) (JO.assign rfl) rfl rfl (J.fin (Sw.Sub.mk id (.cons rfl (.of_eq rfl) (.cons rfl (.of_eq rfl) .nil)) .nil rfl))) ?_
  refine W.seq ?_
  refine W.seq ?_
  refine W.reg (σ' := ⟨[(0, .v (Enc.sl (Enc.int .i64)) a0), (1, .v (Enc.sl (Enc.int .i64)) a1), (10, .v Enc.bool (cm .neq (a0.length : Int) (a1.length : Int)))], []⟩) (J.cons (.none rfl) (JO.move rfl) rfl rfl (J.cons (.none rfl) (JO.len rfl Try.runUnderlying36) rfl rfl (J.cons (.none rfl) (JO.move rfl) rfl rfl (J.cons (.none rfl) (JO.len rfl Try.runUnderlying36) rfl rfl (J.cons (.none rfl) (JO.cmp rfl rfl rfl) rfl rfl (J.fin (Sw.Sub.mk id (.cons rfl (.of_eq rfl) (.cons rfl (.of_eq rfl) (.cons rfl (.of_eq rfl) .nil))) .nil rfl))))))) ?_
  rcases Bool.eq_false_or_eq_true (cm .neq (a0.length : Int) (a1.length : Int)) with hc1 | hc1
  · replace h := cond_t hc1 h
    refine W.condT rfl hc1 ?_
    refine W.seq ?_
    refine W.reg (σ' := ⟨[(4, .v Enc.bool false)], []⟩) (J.cons (.none rfl) (JO.assign rfl) rfl rfl (J.fin (Sw.Sub.mk id (.cons rfl (.of_eq rfl) .nil) .nil rfl))) ?_
    refine W.ret ?_
    obtain rfl := Option.some.inj h
    exact XQ.sub (σ' := ⟨[(4, .v Enc.bool false)], []⟩) (Sw.Sub.mk id (.cons rfl (.of_eq rfl) .nil) .nil rfl) (XQ.ret1 hF noR rfl (RV.tmp rfl) .nil rfl)
  · replace h := cond_f hc1 h
    refine W.condF rfl hc1 ?_
    refine W.skip ?_
    refine W.seq ?_
    refine W.seq ?_
    refine W.reg (σ' := ⟨[(0, .v (Enc.sl (Enc.int .i64)) a0), (1, .v (Enc.sl (Enc.int .i64)) a1), (5, .v (Enc.int .i64) (0 : Int))], []⟩) (J.cons (.none rfl) (JO.assign rfl) rfl rfl (J.fin (Sw.Sub.mk id (.cons rfl (.of_eq rfl) (.cons rfl (.of_eq rfl) (.cons rfl (.of_eq rfl) .nil))) .nil rfl))) ?_
    obtain ⟨o17, ho17, hb17, hr17⟩ := lp_elim h
    refine W.lp (σs := fun s12 : Int => ⟨[(0, .v (Enc.sl (Enc.int .i64)) a0), (1, .v (Enc.sl (Enc.int .i64)) a1), (5, .v (Enc.int .i64) s12)], []⟩) (fun x18 : Unit => ⟨[], []⟩) ho17 (Sw.Sub.mk id (.cons rfl (.of_eq rfl) (.cons rfl (.of_eq rfl) (.cons rfl (.of_eq rfl) .nil))) .nil rfl) ?_ ?_
    · intro x18 hy
      have h := hb17 _ hy
      refine W.seq ?_
      refine W.reg (σ' := ⟨[(4, .v Enc.bool true)], []⟩) (J.cons (.none rfl) (JO.assign rfl) rfl rfl (J.fin (Sw.Sub.mk id (.cons rfl (.of_eq rfl) .nil) .nil rfl))) ?_
      refine W.ret ?_
      obtain rfl := Option.some.inj h
      exact XQ.sub (σ' := ⟨[(4, .v Enc.bool true)], []⟩) (Sw.Sub.mk id (.cons rfl (.of_eq rfl) .nil) .nil rfl) (XQ.ret1 hF noR rfl (RV.tmp rfl) .nil rfl)
    intro s12 r17 h
    refine W.seq ?_
    refine W.seq ?_
    refine W.reg (σ' := ⟨[(0, .v (Enc.sl (Enc.int .i64)) a0), (1, .v (Enc.sl (Enc.int .i64)) a1), (5, .v (Enc.int .i64) s12), (14, .v Enc.bool (cm .lss s12 (a0.length : Int)))], []⟩) (J.cons (.none rfl) (JO.move rfl) rfl rfl (J.cons (.none rfl) (JO.move rfl) rfl rfl (J.cons (.none rfl) (JO.len rfl Try.runUnderlying36) rfl rfl (J.cons (.none rfl) (JO.cmp rfl rfl rfl) rfl rfl (J.fin (Sw.Sub.mk id (.cons rfl (.of_eq rfl) (.cons rfl (.of_eq rfl) (.cons rfl (.of_eq rfl) (.cons rfl (.of_eq rfl) .nil)))) .nil rfl)))))) ?_
    rcases Bool.eq_false_or_eq_true (cm .lss s12 (a0.length : Int)) with hc19 | hc19
    · replace h := cond_t hc19 h
      refine W.condT rfl hc19 ?_
      refine W.skip ?_
      refine W.seq ?_
      refine W.block ?_
      refine W.seq ?_
      obtain ⟨z20, hz20, h⟩ := bind_e h
      obtain ⟨z21, hz21, h⟩ := bind_e h
      refine W.dr2 (σ' := ⟨[(0, .v (Enc.sl (Enc.int .i64)) a0), (1, .v (Enc.sl (Enc.int .i64)) a1), (5, .v (Enc.int .i64) s12), (25, .v Enc.bool (cm .neq z20 z21))], []⟩) 9 [0, 0, 3, 7, 0, 0, 48, 112, 255] mixed (by exact (.cons (.none rfl) (JO.move rfl) rfl rfl (.cons (.none rfl) (JO.move rfl) rfl rfl (.cons (.none rfl) (JO.idx hz20 rfl rfl Try.runUnderlying36 Try.sizeOf3) rfl rfl (.cons (.none rfl) (JO.loadPst rfl Try.isAgg3 Try.sizeOf3) rfl rfl (.cons (.none rfl) (JO.move rfl) rfl rfl (.cons (.none rfl) (JO.move rfl) rfl rfl (.cons (.none rfl) (JO.idx hz21 rfl rfl Try.runUnderlying36 Try.sizeOf3) rfl rfl (.cons (.none rfl) (JO.loadPst rfl Try.isAgg3 Try.sizeOf3) rfl rfl (.cons (.none rfl) (JO.cmp rfl rfl rfl) rfl rfl .nil)))))))))) (by exact (J.fin (Sw.Sub.mk id (.cons rfl (.of_eq rfl) (.cons rfl (.of_eq rfl) (.cons rfl (.of_eq rfl) (.cons rfl (.of_eq rfl) .nil)))) .nil rfl))) rfl (by decide +kernel) (by decide +kernel) (by decide +kernel) (by kernel_rfl) ?_
      rcases Bool.eq_false_or_eq_true (cm .neq z20 z21) with hc22 | hc22
      · replace h := cond_t hc22 h
        refine W.condT rfl hc22 ?_
        refine W.seq ?_
        refine W.reg (σ' := ⟨[(4, .v Enc.bool false)], []⟩) (J.cons (.none rfl) (JO.assign rfl) rfl rfl (J.fin (Sw.Sub.mk id (.cons rfl (.of_eq rfl) .nil) .nil rfl))) ?_
        refine W.ret ?_
        refine XQ.ret ?_
        obtain rfl := Option.some.inj h
        refine XQ.lret fun ho => ?_
        obtain rfl := hr17 _ ho
        exact XQ.sub (σ' := ⟨[(4, .v Enc.bool false)], []⟩) (Sw.Sub.mk id (.cons rfl (.of_eq rfl) .nil) .nil rfl) (XQ.ret1 hF noR rfl (RV.tmp rfl) .nil rfl)
      · replace h := cond_f hc22 h
        refine W.condF rfl hc22 ?_
        refine W.skip ?_
        refine W.fall ?_
        refine W.reg (σ' := ⟨[(0, .v (Enc.sl (Enc.int .i64)) a0), (1, .v (Enc.sl (Enc.int .i64)) a1), (5, .v (Enc.int .i64) (ar .add .i64 s12 (1 : Int)))], []⟩) (J.cons (.none rfl) (JO.move rfl) rfl rfl (J.cons (.none rfl) (JO.arith rfl rfl rfl) rfl rfl (J.cons (.none rfl) (JO.assign rfl) rfl rfl (J.fin (Sw.Sub.mk id (.cons rfl (.of_eq rfl) (.cons rfl (.of_eq rfl) (.cons rfl (.of_eq rfl) .nil))) .nil rfl))))) ?_
        obtain rfl := Option.some.inj h
        exact W.next (Sw.Sub.mk id (.cons rfl (.of_eq rfl) (.cons rfl (.of_eq rfl) (.cons rfl (.of_eq rfl) .nil))) .nil rfl)
    · replace h := cond_f hc19 h
      refine W.condF rfl hc19 ?_
      refine W.exit ?_
      obtain rfl := Option.some.inj h
      exact XQ.brk (Sw.Sub.mk id .nil .nil rfl)
end Go.Cn
