/- The functions that this law reaches come to what their models come to. Conditions: none. -/
import Derived.Test.YteckohdbfkhmdacMoTopHad
import Derived.KernelRfl
import Derived.Test.YteckohdbfkhmdacChecked
set_option linter.unusedVariables false
set_option linter.unusedSimpArgs false
namespace Go.Cn
open Go Go.Sw Go.Mo Go.Proofs
abbrev ET : Nat := 86
theorem mixed : Try.prog.follows .mixedOrders = true := Try.checked.mixed
theorem eq29 : EqE 2 Try.prog 29 eBlk := EqE.arr Try.runUnderlying29 Try.sizeOf5 Try.isAgg5 (EqE.int Try.underlying5)
theorem key29 : KeyE 2 Try.prog 29 eBlk := KeyE.arr Try.runUnderlying29 Try.sizeOf5 Try.isAgg5 (KeyE.int Try.runUnderlying5)
theorem built41 : ∀ parts, Try.prog.built 41 parts = Instr.fill (([(0, 1), (1, 8)] : List (Nat × Nat)).toArray[·]?) ([.int .i64 0, .int .u8 0, .int .u8 0, .int .u8 0, .int .u8 0, .int .u8 0, .int .u8 0, .int .u8 0, .int .u8 0] : List Value).toArray parts := built_struct Try.typeInfo41 Try.runUnderlying41 rfl rfl (.cons rfl (by kernel_rfl) (by kernel_rfl) (.cons rfl (by kernel_rfl) (by kernel_rfl) .nil))
theorem built43 : ∀ parts, Try.prog.built 43 parts = Instr.fill (([(0, 1), (1, 1), (2, 1), (3, 8)] : List (Nat × Nat)).toArray[·]?) ([.int .i64 0, .int .i64 0, .int .i64 0, .int .u8 0, .int .u8 0, .int .u8 0, .int .u8 0, .int .u8 0, .int .u8 0, .int .u8 0, .int .u8 0] : List Value).toArray parts := built_struct Try.typeInfo43 Try.runUnderlying43 rfl rfl (.cons rfl (by kernel_rfl) (by kernel_rfl) (.cons rfl (by kernel_rfl) (by kernel_rfl) (.cons rfl (by kernel_rfl) (by kernel_rfl) (.cons rfl (by kernel_rfl) (by kernel_rfl) .nil))))
theorem built97 : ∀ parts, Try.prog.built 97 parts = Instr.fill (([] : List (Nat × Nat)).toArray[·]?) ([] : List Value).toArray parts := built_struct Try.typeInfo97 Try.runUnderlying97 rfl rfl .nil
theorem built99 : ∀ parts, Try.prog.built 99 parts = Instr.fill (([(0, 1)] : List (Nat × Nat)).toArray[·]?) ([.pointer none] : List Value).toArray parts := built_struct Try.typeInfo99 Try.runUnderlying99 rfl rfl (.cons rfl (by kernel_rfl) (by kernel_rfl) .nil)
theorem built101 : ∀ parts, Try.prog.built 101 parts = Instr.fill (([(0, 1)] : List (Nat × Nat)).toArray[·]?) ([.slice none 0 0] : List Value).toArray parts := built_struct Try.typeInfo101 Try.runUnderlying101 rfl rfl (.cons rfl (by kernel_rfl) (by kernel_rfl) .nil)
theorem built102 : ∀ parts, Try.prog.built 102 parts = Instr.fill (([] : List (Nat × Nat)).toArray[·]?) ([] : List Value).toArray parts := built_struct Try.typeInfo102 Try.runUnderlying102 rfl rfl .nil
theorem built150 : ∀ parts, Try.prog.built 150 parts = Instr.fill (([(0, 1), (1, 1)] : List (Nat × Nat)).toArray[·]?) ([.slice none 0 0, .map none] : List Value).toArray parts := built_struct Try.typeInfo150 Try.runUnderlying150 rfl rfl (.cons rfl (by kernel_rfl) (by kernel_rfl) (.cons rfl (by kernel_rfl) (by kernel_rfl) .nil))
set_option maxRecDepth 100000 in
set_option maxHeartbeats 4000000 in
theorem con_ref_Pick {a0 : Int} {a1 : Int} {r : Int} (h : m_ref_Pick a0 a1 = some r) :
    Con Try.prog 8 [.v (Enc.int .i64) a0, .v (Enc.int .i64) a1] (.v (Enc.int .i64) r) [] := by
  refine Con.of Try.func8 rfl Try.ntmps8 rfl ?_
  intro S w hF
  unfold m_ref_Pick at h
  refine W.seq ?_
  refine W.reg (σ' := ⟨[(0, .v (Enc.int .i64) a0), (1, .v (Enc.int .i64) a1)], []⟩) (J.cons (.none rfl) (JO.assign rfl) rfl rfl (J.fin (Sw.Sub.mk id (.cons rfl (.of_eq rfl) (.cons rfl (.of_eq rfl) .nil)) .nil rfl))) ?_
  refine W.seq ?_
  refine W.seq ?_
  refine W.reg (σ' := ⟨[(0, .v (Enc.int .i64) a0), (1, .v (Enc.int .i64) a1), (6, .v Enc.bool (cm .lss a0 (0 : Int)))], []⟩) (J.cons (.none rfl) (JO.move rfl) rfl rfl (J.cons (.none rfl) (JO.cmp rfl rfl rfl) rfl rfl (J.fin (Sw.Sub.mk id (.cons rfl (.of_eq rfl) (.cons rfl (.of_eq rfl) (.cons rfl (.of_eq rfl) .nil))) .nil rfl)))) ?_
  obtain ⟨k2, hk2, h⟩ := jp_elim h
  refine W.jn (fun x3 : Int => ⟨[(0, .v (Enc.int .i64) x3), (1, .v (Enc.int .i64) a1)], []⟩) (fun x => k2 x = some r) rfl ?_ ?_ ?_
  · intro x3 h
    rw [hk2] at h
    refine W.seq ?_
    obtain ⟨u4, hu4, h⟩ := bind_e h
    refine W.reg (σ' := ⟨[(4, .v (Enc.int .i64) (ar .rem .i64 x3 a1))], []⟩) (J.cons (.none rfl) (JO.move rfl) rfl rfl (J.cons (.none rfl) (JO.move rfl) rfl rfl (J.cons (.none rfl) (JO.div (.inr rfl) (nz_some hu4) rfl rfl) rfl rfl (J.cons (.none rfl) (JO.assign rfl) rfl rfl (J.fin (Sw.Sub.mk id (.cons rfl (.of_eq rfl) .nil) .nil rfl)))))) ?_
    refine W.ret ?_
    obtain rfl := Option.some.inj h
    exact XQ.sub (σ' := ⟨[(4, .v (Enc.int .i64) (ar .rem .i64 x3 a1))], []⟩) (Sw.Sub.mk id (.cons rfl (.of_eq rfl) .nil) .nil rfl) (XQ.ret1 hF noR rfl (RV.tmp rfl) .nil rfl)
  · intro hc1
    replace h := cond_t hc1 h
    refine W.reg (σ' := ⟨[(0, .v (Enc.int .i64) (IntKind.wrap .i64 (0 - (ar .add .i64 a0 (1 : Int))))), (1, .v (Enc.int .i64) a1)], []⟩) (J.cons (.none rfl) (JO.move rfl) rfl rfl (J.cons (.none rfl) (JO.arith rfl rfl rfl) rfl rfl (J.cons (.none rfl) (JO.neg rfl) rfl rfl (J.cons (.none rfl) (JO.assign rfl) rfl rfl (J.fin (Sw.Sub.mk id (.cons rfl (.of_eq rfl) (.cons rfl (.of_eq rfl) .nil)) .nil rfl)))))) ?_
    exact W.jfall h (Sw.Sub.mk id (.cons rfl (.of_eq rfl) (.cons rfl (.of_eq rfl) .nil)) .nil rfl)
  · intro hc1
    replace h := cond_f hc1 h
    refine W.skip ?_
    exact W.jfall h (Sw.Sub.mk id (.cons rfl (.of_eq rfl) (.cons rfl (.of_eq rfl) .nil)) .nil rfl)
set_option maxRecDepth 100000 in
set_option maxHeartbeats 4000000 in
theorem con_ref_Raw {a0 : (List Int)} {a1 : Int} {r : Int} (h : m_ref_Raw a0 a1 = some r) :
    Con Try.prog 22 [.v (Enc.sl (Enc.int .i64)) a0, .v (Enc.int .i64) a1] (.v (Enc.int .i64) r) [] := by
  refine Con.of Try.func22 rfl Try.ntmps22 rfl ?_
  intro S w hF
  unfold m_ref_Raw at h
  refine W.seq ?_
  refine W.reg (σ' := ⟨[(0, .v (Enc.sl (Enc.int .i64)) a0), (1, .v (Enc.int .i64) a1)], []⟩) (J.cons (.none rfl) (JO.assign rfl) rfl rfl (J.fin (Sw.Sub.mk id (.cons rfl (.of_eq rfl) (.cons rfl (.of_eq rfl) .nil)) .nil rfl))) ?_
  refine W.seq ?_
  refine W.seq ?_
  refine W.reg (σ' := ⟨[(0, .v (Enc.sl (Enc.int .i64)) a0), (1, .v (Enc.int .i64) a1), (7, .v Enc.bool (cm .eql (a0.length : Int) (0 : Int)))], []⟩) (J.cons (.none rfl) (JO.move rfl) rfl rfl (J.cons (.none rfl) (JO.len rfl Try.runUnderlying22) rfl rfl (J.cons (.none rfl) (JO.cmp rfl rfl rfl) rfl rfl (J.fin (Sw.Sub.mk id (.cons rfl (.of_eq rfl) (.cons rfl (.of_eq rfl) (.cons rfl (.of_eq rfl) .nil))) .nil rfl))))) ?_
  rcases Bool.eq_false_or_eq_true (cm .eql (a0.length : Int) (0 : Int)) with hc1 | hc1
  · replace h := cond_t hc1 h
    refine W.condT rfl hc1 ?_
    refine W.seq ?_
    refine W.reg (σ' := ⟨[(4, .v (Enc.int .i64) (ar .mul .i64 a1 (31 : Int)))], []⟩) (J.cons (.none rfl) (JO.move rfl) rfl rfl (J.cons (.none rfl) (JO.arith rfl rfl rfl) rfl rfl (J.cons (.none rfl) (JO.assign rfl) rfl rfl (J.fin (Sw.Sub.mk id (.cons rfl (.of_eq rfl) .nil) .nil rfl))))) ?_
    refine W.ret ?_
    obtain rfl := Option.some.inj h
    exact XQ.sub (σ' := ⟨[(4, .v (Enc.int .i64) (ar .mul .i64 a1 (31 : Int)))], []⟩) (Sw.Sub.mk id (.cons rfl (.of_eq rfl) .nil) .nil rfl) (XQ.ret1 hF noR rfl (RV.tmp rfl) .nil rfl)
  · replace h := cond_f hc1 h
    refine W.condF rfl hc1 ?_
    refine W.skip ?_
    refine W.seq ?_
    obtain ⟨u2, hu2, h⟩ := bind_e h
    obtain ⟨z3, hz3, h⟩ := bind_e h
    obtain ⟨v4, hv4, h⟩ := bind_e h
    obtain ⟨u5, hu5, h⟩ := bind_e h
    refine W.dr2 (σ' := ⟨[(4, .v (Enc.int .i64) (ar .add .i64 v4 (ar .mul .i64 (ar .quo .i64 a1 (a0.length : Int)) (7919 : Int))))], []⟩) 15 [0, 0, 0, 4, 14, 31, 63, 127, 0, 0, 512, 1792, 3840, 8191, 16383] mixed (by exact (.cons (.none rfl) (JO.move rfl) rfl rfl (.cons (.none rfl) (JO.move rfl) rfl rfl (.cons (.none rfl) (JO.move rfl) rfl rfl (.cons (.none rfl) (JO.len rfl Try.runUnderlying22) rfl rfl (.cons (.none rfl) (JO.div (.inr rfl) (nz_some hu2) rfl rfl) rfl rfl (.cons (.none rfl) (JO.idx hz3 rfl rfl Try.runUnderlying22 Try.sizeOf3) rfl rfl (.cons (.none rfl) (JO.loadPst rfl Try.isAgg3 Try.sizeOf3) rfl rfl (.cons (.none rfl) (JO.call0 (con_ref_Pick hv4) Try.call8 (.cons (.dir rfl) (.cons (.dir rfl) .nil))) rfl rfl (.cons (.none rfl) (JO.move rfl) rfl rfl (.cons (.none rfl) (JO.move rfl) rfl rfl (.cons (.none rfl) (JO.len rfl Try.runUnderlying22) rfl rfl (.cons (.none rfl) (JO.div (.inl rfl) (nz_some hu5) rfl rfl) rfl rfl (.cons (.none rfl) (JO.arith rfl rfl rfl) rfl rfl (.cons (.none rfl) (JO.arith rfl rfl rfl) rfl rfl (.cons (.none rfl) (JO.assign rfl) rfl rfl .nil)))))))))))))))) (by exact (J.fin (Sw.Sub.mk id (.cons rfl (.of_eq rfl) .nil) .nil rfl))) rfl (by decide +kernel) (by decide +kernel) (by decide +kernel) (by kernel_rfl) ?_
    refine W.ret ?_
    obtain rfl := Option.some.inj h
    exact XQ.sub (σ' := ⟨[(4, .v (Enc.int .i64) (ar .add .i64 v4 (ar .mul .i64 (ar .quo .i64 a1 (a0.length : Int)) (7919 : Int))))], []⟩) (Sw.Sub.mk id (.cons rfl (.of_eq rfl) .nil) .nil rfl) (XQ.ret1 hF noR rfl (RV.tmp rfl) .nil rfl)
set_option maxRecDepth 100000 in
set_option maxHeartbeats 4000000 in
theorem con_ref_BlockFrom {a0 : (List Int)} {a1 : Int} {r : Blk} (h : m_ref_BlockFrom a0 a1 = some r) :
    Con Try.prog 11 [.v (Enc.sl (Enc.int .i64)) a0, .v (Enc.int .i64) a1] (.v eBlk r) [] := by
  refine Con.of Try.func11 rfl Try.ntmps11 rfl ?_
  intro S w hF
  unfold m_ref_BlockFrom at h
  refine W.seq ?_
  refine W.reg (σ' := ⟨[(0, .v (Enc.sl (Enc.int .i64)) a0), (1, .v (Enc.int .i64) a1), (4, .ptr 101 0)], [(101, .box 29 [.v eBlk zblk])]⟩) (J.cons (.none rfl) (JO.alloc 101 Try.zeroValue29 rfl (.cons (Z.arr 8 (Z.int .u8)) .nil) rfl) rfl rfl (J.fin (Sw.Sub.mk id (.cons rfl (.of_eq rfl) (.cons rfl (.of_eq rfl) (.cons rfl (.of_eq rfl) .nil))) (.box rfl (.cons (.of_eq rfl) .nil) .nil) rfl))) ?_
  refine W.seq ?_
  refine W.reg (σ' := ⟨[(0, .v (Enc.sl (Enc.int .i64)) a0), (1, .v (Enc.int .i64) a1), (4, .ptr 101 0), (5, .ptr 102 0)], [(101, .box 29 [.v eBlk zblk]), (102, .box 29 [.v eBlk zblk])]⟩) (J.cons (.none rfl) (JO.zeroArr (e := eBlk) (v := zblk) Try.typeInfo29 Try.runUnderlying29 Try.typeInfo5 rfl rfl (Z.arr 8 (Z.int .u8))) rfl rfl (J.cons (.none rfl) (JO.alloc 102 Try.zeroValue29 rfl (.cons (Z.arr 8 (Z.int .u8)) .nil) rfl) rfl rfl (J.mut (.none rfl) (JM.store rfl rfl rfl rfl rfl rfl rfl Try.sizeOf29) (J.fin (Sw.Sub.mk id (.cons rfl (.of_eq rfl) (.cons rfl (.of_eq rfl) (.cons rfl (.of_eq rfl) (.cons rfl (.of_eq rfl) .nil)))) (.box rfl (.cons (.of_eq rfl) .nil) (.box rfl (.cons (.of_eq rfl) .nil) .nil)) rfl))))) ?_
  refine W.seq ?_
  obtain ⟨v1, hv1, h⟩ := bind_e h
  refine W.reg (σ' := ⟨[(0, .v (Enc.sl (Enc.int .i64)) a0), (1, .v (Enc.int .i64) a1), (4, .ptr 101 0), (5, .ptr 102 0), (6, .v (Enc.int .i64) v1)], [(101, .box 29 [.v eBlk zblk]), (102, .box 29 [.v eBlk zblk])]⟩) (J.cons (.none rfl) (JO.move rfl) rfl rfl (J.cons (.none rfl) (JO.move rfl) rfl rfl (J.cons (.none rfl) (JO.call0 (con_ref_Raw hv1) Try.call22 (.cons (.dir rfl) (.cons (.dir rfl) .nil))) rfl rfl (J.cons (.none rfl) (JO.assign rfl) rfl rfl (J.fin (Sw.Sub.mk id (.cons rfl (.of_eq rfl) (.cons rfl (.of_eq rfl) (.cons rfl (.of_eq rfl) (.cons rfl (.of_eq rfl) (.cons rfl (.of_eq rfl) .nil))))) (.box rfl (.cons (.of_eq rfl) .nil) (.box rfl (.cons (.of_eq rfl) .nil) .nil)) rfl)))))) ?_
  refine W.seq ?_
  refine W.seq ?_
  refine W.reg (σ' := ⟨[(0, .v (Enc.sl (Enc.int .i64)) a0), (1, .v (Enc.int .i64) a1), (4, .ptr 101 0), (5, .ptr 102 0), (6, .v (Enc.int .i64) v1), (14, .v Enc.bool (cm .eql (ar .rem .i64 v1 (3 : Int)) (0 : Int)))], [(101, .box 29 [.v eBlk zblk]), (102, .box 29 [.v eBlk zblk])]⟩) (J.cons (.none rfl) (JO.move rfl) rfl rfl (J.cons (.none rfl) (JO.div (.inr rfl) (by decide) rfl rfl) rfl rfl (J.cons (.none rfl) (JO.cmp rfl rfl rfl) rfl rfl (J.fin (Sw.Sub.mk id (.cons rfl (.of_eq rfl) (.cons rfl (.of_eq rfl) (.cons rfl (.of_eq rfl) (.cons rfl (.of_eq rfl) (.cons rfl (.of_eq rfl) (.cons rfl (.of_eq rfl) .nil)))))) (.box rfl (.cons (.of_eq rfl) .nil) (.box rfl (.cons (.of_eq rfl) .nil) .nil)) rfl))))) ?_
  rcases Bool.eq_false_or_eq_true (cm .eql (ar .rem .i64 v1 (3 : Int)) (0 : Int)) with hc2 | hc2
  · replace h := cond_t hc2 h
    refine W.condT rfl hc2 ?_
    refine W.seq ?_
    refine W.reg (σ' := ⟨[(4, .ptr 101 0)], [(101, .box 29 [.v eBlk zblk])]⟩) (J.cons (.none rfl) (JO.load rfl rfl rfl Try.isAgg29 Try.sizeOf29) rfl rfl (J.mut (.none rfl) (JM.store rfl rfl rfl rfl rfl rfl rfl Try.sizeOf29) (J.fin (Sw.Sub.mk id (.cons rfl (.of_eq rfl) .nil) (.box rfl (.cons (.of_eq rfl) .nil) .nil) rfl)))) ?_
    refine W.ret ?_
    obtain rfl := Option.some.inj h
    exact XQ.sub (σ' := ⟨[(4, .ptr 90 0)], [(90, .box 29 [.v eBlk zblk])]⟩) (Sw.Sub.mk (rn [(90, 101)]) (.cons rfl (.of_eq rfl) .nil) (.box rfl (.cons (.of_eq rfl) .nil) .nil) rfl) (XQ.ret1 hF noR rfl (RV.cellAt rfl rfl rfl Try.isAgg29 Try.sizeOf29) .nil rfl)
  · replace h := cond_f hc2 h
    refine W.condF rfl hc2 ?_
    refine W.skip ?_
    refine W.seq ?_
    obtain ⟨z3, hz3, h⟩ := bind_e h
    refine W.reg (σ' := ⟨[(0, .v (Enc.sl (Enc.int .i64)) a0), (1, .v (Enc.int .i64) a1), (4, .ptr 101 0), (5, .ptr 102 0), (6, .v (Enc.int .i64) v1)], [(101, .box 29 [.v eBlk zblk]), (102, .box 29 [.v eBlk (List.set zblk (Int.toNat (0 : Int)) (IntKind.wrap .u8 (ar .add .i64 (1 : Int) (ar .rem .i64 (ar .quo .i64 v1 (3 : Int)) (5 : Int)))))])]⟩) (J.cons (.none rfl) (JO.move rfl) rfl rfl (J.cons (.none rfl) (JO.div (.inl rfl) (by decide) rfl rfl) rfl rfl (J.cons (.none rfl) (JO.div (.inr rfl) (by decide) rfl rfl) rfl rfl (J.cons (.none rfl) (JO.arith rfl rfl rfl) rfl rfl (J.cons (.none rfl) (JO.conv Try.runUnderlying3 Try.runUnderlying5 rfl) rfl rfl (J.cons (.none rfl) (JO.idxBox hz3 rfl rfl rfl rfl Try.runUnderlying29 Try.sizeOf5) rfl rfl (J.mut (.none rfl) (JM.storePel (idx_some hz3).2.2 rfl rfl rfl rfl Try.sizeOf5) (J.fin (Sw.Sub.mk id (.cons rfl (.of_eq rfl) (.cons rfl (.of_eq rfl) (.cons rfl (.of_eq rfl) (.cons rfl (.of_eq rfl) (.cons rfl (.of_eq rfl) .nil))))) (.box rfl (.cons (.of_eq rfl) .nil) (.box rfl (.cons (.of_eq rfl) .nil) .nil)) rfl))))))))) ?_
    refine W.seq ?_
    refine W.seq ?_
    refine W.reg (σ' := ⟨[(0, .v (Enc.sl (Enc.int .i64)) a0), (1, .v (Enc.int .i64) a1), (4, .ptr 101 0), (5, .ptr 102 0), (24, .v Enc.bool (cm .eql (ar .rem .i64 v1 (3 : Int)) (2 : Int)))], [(101, .box 29 [.v eBlk zblk]), (102, .box 29 [.v eBlk (List.set zblk (Int.toNat (0 : Int)) (IntKind.wrap .u8 (ar .add .i64 (1 : Int) (ar .rem .i64 (ar .quo .i64 v1 (3 : Int)) (5 : Int)))))])]⟩) (J.cons (.none rfl) (JO.move rfl) rfl rfl (J.cons (.none rfl) (JO.div (.inr rfl) (by decide) rfl rfl) rfl rfl (J.cons (.none rfl) (JO.cmp rfl rfl rfl) rfl rfl (J.fin (Sw.Sub.mk id (.cons rfl (.of_eq rfl) (.cons rfl (.of_eq rfl) (.cons rfl (.of_eq rfl) (.cons rfl (.of_eq rfl) (.cons rfl (.of_eq rfl) .nil))))) (.box rfl (.cons (.of_eq rfl) .nil) (.box rfl (.cons (.of_eq rfl) .nil) .nil)) rfl))))) ?_
    obtain ⟨k22, hk22, h⟩ := jp_elim h
    refine W.jn (fun x23 : Blk => ⟨[(4, .ptr 101 0), (5, .ptr 102 0)], [(101, .box 29 [.v eBlk zblk]), (102, .box 29 [.v eBlk x23])]⟩) (fun x => k22 x = some r) rfl ?_ ?_ ?_
    · intro x23 h
      rw [hk22] at h
      refine W.seq ?_
      refine W.reg (σ' := ⟨[(4, .ptr 101 0)], [(101, .box 29 [.v eBlk x23])]⟩) (J.cons (.none rfl) (JO.load rfl rfl rfl Try.isAgg29 Try.sizeOf29) rfl rfl (J.mut (.none rfl) (JM.store rfl rfl rfl rfl rfl rfl rfl Try.sizeOf29) (J.fin (Sw.Sub.mk id (.cons rfl (.of_eq rfl) .nil) (.box rfl (.cons (.of_eq rfl) .nil) .nil) rfl)))) ?_
      refine W.ret ?_
      obtain rfl := Option.some.inj h
      exact XQ.sub (σ' := ⟨[(4, .ptr 90 0)], [(90, .box 29 [.v eBlk x23])]⟩) (Sw.Sub.mk (rn [(90, 101)]) (.cons rfl (.of_eq rfl) .nil) (.box rfl (.cons (.of_eq rfl) .nil) .nil) rfl) (XQ.ret1 hF noR rfl (RV.cellAt rfl rfl rfl Try.isAgg29 Try.sizeOf29) .nil rfl)
    · intro hc4
      replace h := cond_t hc4 h
      refine W.seq ?_
      refine W.reg (σ' := ⟨[(0, .v (Enc.sl (Enc.int .i64)) a0), (1, .v (Enc.int .i64) a1), (4, .ptr 101 0), (5, .ptr 102 0), (7, .v (Enc.int .i64) (1 : Int))], [(101, .box 29 [.v eBlk zblk]), (102, .box 29 [.v eBlk (List.set zblk (Int.toNat (0 : Int)) (IntKind.wrap .u8 (ar .add .i64 (1 : Int) (ar .rem .i64 (ar .quo .i64 v1 (3 : Int)) (5 : Int)))))])]⟩) (J.cons (.none rfl) (JO.assign rfl) rfl rfl (J.fin (Sw.Sub.mk id (.cons rfl (.of_eq rfl) (.cons rfl (.of_eq rfl) (.cons rfl (.of_eq rfl) (.cons rfl (.of_eq rfl) (.cons rfl (.of_eq rfl) .nil))))) (.box rfl (.cons (.of_eq rfl) .nil) (.box rfl (.cons (.of_eq rfl) .nil) .nil)) rfl))) ?_
      obtain ⟨o36, ho36, hb36, hr36⟩ := lp_elim h
      refine W.lp (σs := fun s32 : Int × Blk => ⟨[(0, .v (Enc.sl (Enc.int .i64)) a0), (1, .v (Enc.int .i64) a1), (4, .ptr 101 0), (5, .ptr 102 0), (7, .v (Enc.int .i64) s32.1)], [(101, .box 29 [.v eBlk zblk]), (102, .box 29 [.v eBlk s32.2])]⟩) (fun x37 : Blk => ⟨[(4, .ptr 101 0), (5, .ptr 102 0)], [(101, .box 29 [.v eBlk zblk]), (102, .box 29 [.v eBlk x37])]⟩) ho36 (Sw.Sub.mk id (.cons rfl (.of_eq rfl) (.cons rfl (.of_eq rfl) (.cons rfl (.of_eq rfl) (.cons rfl (.of_eq rfl) (.cons rfl (.of_eq rfl) .nil))))) (.box rfl (.cons (.of_eq rfl) .nil) (.box rfl (.cons (.of_eq rfl) .nil) .nil)) rfl) ?_ ?_
      · intro x37 hy
        have h := hb36 _ hy
        exact W.jfall h (Sw.Sub.mk id (.cons rfl (.of_eq rfl) (.cons rfl (.of_eq rfl) .nil)) (.box rfl (.cons (.of_eq rfl) .nil) (.box rfl (.cons (.of_eq rfl) .nil) .nil)) rfl)
      intro s32 r36 h
      refine W.seq ?_
      refine W.seq ?_
      refine W.reg (σ' := ⟨[(0, .v (Enc.sl (Enc.int .i64)) a0), (1, .v (Enc.int .i64) a1), (4, .ptr 101 0), (5, .ptr 102 0), (7, .v (Enc.int .i64) s32.1), (26, .v Enc.bool (cm .lss s32.1 (8 : Int)))], [(101, .box 29 [.v eBlk zblk]), (102, .box 29 [.v eBlk s32.2])]⟩) (J.cons (.none rfl) (JO.move rfl) rfl rfl (J.cons (.none rfl) (JO.cmp rfl rfl rfl) rfl rfl (J.fin (Sw.Sub.mk id (.cons rfl (.of_eq rfl) (.cons rfl (.of_eq rfl) (.cons rfl (.of_eq rfl) (.cons rfl (.of_eq rfl) (.cons rfl (.of_eq rfl) (.cons rfl (.of_eq rfl) .nil)))))) (.box rfl (.cons (.of_eq rfl) .nil) (.box rfl (.cons (.of_eq rfl) .nil) .nil)) rfl)))) ?_
      rcases Bool.eq_false_or_eq_true (cm .lss s32.1 (8 : Int)) with hc38 | hc38
      · replace h := cond_t hc38 h
        refine W.condT rfl hc38 ?_
        refine W.skip ?_
        refine W.seq ?_
        refine W.block ?_
        obtain ⟨v39, hv39, h⟩ := bind_e h
        obtain ⟨z40, hz40, h⟩ := bind_e h
        refine W.reg (σ' := ⟨[(0, .v (Enc.sl (Enc.int .i64)) a0), (1, .v (Enc.int .i64) a1), (4, .ptr 101 0), (5, .ptr 102 0), (7, .v (Enc.int .i64) s32.1)], [(101, .box 29 [.v eBlk zblk]), (102, .box 29 [.v eBlk (List.set s32.2 (Int.toNat s32.1) (IntKind.wrap .u8 (ar .quo .i64 v39 (7 : Int))))])]⟩) (J.cons (.none rfl) (JO.move rfl) rfl rfl (J.cons (.none rfl) (JO.move rfl) rfl rfl (J.cons (.none rfl) (JO.move rfl) rfl rfl (J.cons (.none rfl) (JO.move rfl) rfl rfl (J.cons (.none rfl) (JO.arith rfl rfl rfl) rfl rfl (J.cons (.none rfl) (JO.call0 (con_ref_Raw hv39) Try.call22 (.cons (.dir rfl) (.cons (.dir rfl) .nil))) rfl rfl (J.cons (.none rfl) (JO.div (.inl rfl) (by decide) rfl rfl) rfl rfl (J.cons (.none rfl) (JO.conv Try.runUnderlying3 Try.runUnderlying5 rfl) rfl rfl (J.cons (.none rfl) (JO.idxBox hz40 rfl rfl rfl rfl Try.runUnderlying29 Try.sizeOf5) rfl rfl (J.mut (.none rfl) (JM.storePel (idx_some hz40).2.2 rfl rfl rfl rfl Try.sizeOf5) (J.fin (Sw.Sub.mk id (.cons rfl (.of_eq rfl) (.cons rfl (.of_eq rfl) (.cons rfl (.of_eq rfl) (.cons rfl (.of_eq rfl) (.cons rfl (.of_eq rfl) .nil))))) (.box rfl (.cons (.of_eq rfl) .nil) (.box rfl (.cons (.of_eq rfl) .nil) .nil)) rfl)))))))))))) ?_
        refine W.fall ?_
        refine W.reg (σ' := ⟨[(0, .v (Enc.sl (Enc.int .i64)) a0), (1, .v (Enc.int .i64) a1), (4, .ptr 101 0), (5, .ptr 102 0), (7, .v (Enc.int .i64) (ar .add .i64 s32.1 (1 : Int)))], [(101, .box 29 [.v eBlk zblk]), (102, .box 29 [.v eBlk (List.set s32.2 (Int.toNat s32.1) (IntKind.wrap .u8 (ar .quo .i64 v39 (7 : Int))))])]⟩) (J.cons (.none rfl) (JO.move rfl) rfl rfl (J.cons (.none rfl) (JO.arith rfl rfl rfl) rfl rfl (J.cons (.none rfl) (JO.assign rfl) rfl rfl (J.fin (Sw.Sub.mk id (.cons rfl (.of_eq rfl) (.cons rfl (.of_eq rfl) (.cons rfl (.of_eq rfl) (.cons rfl (.of_eq rfl) (.cons rfl (.of_eq rfl) .nil))))) (.box rfl (.cons (.of_eq rfl) .nil) (.box rfl (.cons (.of_eq rfl) .nil) .nil)) rfl))))) ?_
        obtain rfl := Option.some.inj h
        exact W.next (Sw.Sub.mk id (.cons rfl (.of_eq rfl) (.cons rfl (.of_eq rfl) (.cons rfl (.of_eq rfl) (.cons rfl (.of_eq rfl) (.cons rfl (.of_eq rfl) .nil))))) (.box rfl (.cons (.of_eq rfl) .nil) (.box rfl (.cons (.of_eq rfl) .nil) .nil)) rfl)
      · replace h := cond_f hc38 h
        refine W.condF rfl hc38 ?_
        refine W.exit ?_
        obtain rfl := Option.some.inj h
        exact XQ.brk (Sw.Sub.mk id (.cons rfl (.of_eq rfl) (.cons rfl (.of_eq rfl) .nil)) (.box rfl (.cons (.of_eq rfl) .nil) (.box rfl (.cons (.of_eq rfl) .nil) .nil)) rfl)
    · intro hc4
      replace h := cond_f hc4 h
      refine W.skip ?_
      exact W.jfall h (Sw.Sub.mk id (.cons rfl (.of_eq rfl) (.cons rfl (.of_eq rfl) .nil)) (.box rfl (.cons (.of_eq rfl) .nil) (.box rfl (.cons (.of_eq rfl) .nil) .nil)) rfl)
set_option maxRecDepth 100000 in
set_option maxHeartbeats 4000000 in
theorem con_ref_BlocksFrom {a0 : (List Int)} {a1 : Int} {a2 : Int} {r : (List Blk)} (h : m_ref_BlocksFrom a0 a1 a2 = some r) :
    Con Try.prog 9 [.v (Enc.sl (Enc.int .i64)) a0, .v (Enc.int .i64) a1, .v (Enc.int .i64) a2] (.v (Enc.sl eBlk) r) [] := by
  refine Con.of Try.func9 rfl Try.ntmps9 rfl ?_
  intro S w hF
  unfold m_ref_BlocksFrom at h
  refine W.seq ?_
  refine W.reg (σ' := ⟨[(0, .v (Enc.sl (Enc.int .i64)) a0), (1, .v (Enc.int .i64) a1), (2, .v (Enc.int .i64) a2)], []⟩) (J.cons (.none rfl) (JO.assignNilR 101 29 eBlk) rfl rfl (J.fin (Sw.Sub.mk id (.cons rfl (.of_eq rfl) (.cons rfl (.of_eq rfl) (.cons rfl (.of_eq rfl) .nil))) .nil rfl))) ?_
  refine W.seq ?_
  refine W.reg (σ' := ⟨[(0, .v (Enc.sl (Enc.int .i64)) a0), (1, .v (Enc.int .i64) a1), (2, .v (Enc.int .i64) a2), (7, .ref 102)], [(102, .arr 29 eBlk ([] : (List Blk)))]⟩) (J.cons (.none rfl) (JO.assignNilR 102 29 eBlk) rfl rfl (J.fin (Sw.Sub.mk id (.cons rfl (.of_eq rfl) (.cons rfl (.of_eq rfl) (.cons rfl (.of_eq rfl) (.cons rfl (.of_eq rfl) .nil)))) (.arr rfl .nil) rfl))) ?_
  refine W.seq ?_
  refine W.seq ?_
  refine W.reg (σ' := ⟨[(0, .v (Enc.sl (Enc.int .i64)) a0), (1, .v (Enc.int .i64) a1), (2, .v (Enc.int .i64) a2), (7, .ref 102), (8, .v (Enc.int .i64) (0 : Int))], [(102, .arr 29 eBlk ([] : (List Blk)))]⟩) (J.cons (.none rfl) (JO.assign rfl) rfl rfl (J.fin (Sw.Sub.mk id (.cons rfl (.of_eq rfl) (.cons rfl (.of_eq rfl) (.cons rfl (.of_eq rfl) (.cons rfl (.of_eq rfl) (.cons rfl (.of_eq rfl) .nil))))) (.arr rfl .nil) rfl))) ?_
  obtain ⟨o13, ho13, hb13, hr13⟩ := lp_elim h
  refine W.lp (σs := fun s9 : Int × (List Blk) => ⟨[(0, .v (Enc.sl (Enc.int .i64)) a0), (1, .v (Enc.int .i64) a1), (2, .v (Enc.int .i64) a2), (7, .ref 110), (8, .v (Enc.int .i64) s9.1)], [(110, .arr 29 eBlk s9.2)]⟩) (fun x14 : (List Blk) => ⟨[(7, .ref 110)], [(110, .arr 29 eBlk x14)]⟩) ho13 (Sw.Sub.mk (rn [(110, 102)]) (.cons rfl (.of_eq rfl) (.cons rfl (.of_eq rfl) (.cons rfl (.of_eq rfl) (.cons rfl (.of_eq rfl) (.cons rfl (.of_eq rfl) .nil))))) (.arr rfl .nil) rfl) ?_ ?_
  · intro x14 hy
    have h := hb13 _ hy
    refine W.seq ?_
    refine W.reg (σ' := ⟨[(6, .ref 110)], [(110, .arr 29 eBlk x14)]⟩) (J.cons (.none rfl) (JO.move rfl) rfl rfl (J.cons (.none rfl) (JO.assign rfl) rfl rfl (J.fin (Sw.Sub.mk id (.cons rfl (.of_eq rfl) .nil) (.arr rfl .nil) rfl)))) ?_
    refine W.ret ?_
    obtain rfl := Option.some.inj h
    exact XQ.sub (σ' := ⟨[(6, .v (Enc.sl eBlk) x14)], []⟩) (Sw.Sub.mk id (.cons rfl (.frz rfl rfl) .nil) .nil rfl) (XQ.ret1 hF noR rfl (RV.tmp rfl) .nil rfl)
  intro s9 r13 h
  refine W.seq ?_
  refine W.seq ?_
  refine W.reg (σ' := ⟨[(0, .v (Enc.sl (Enc.int .i64)) a0), (1, .v (Enc.int .i64) a1), (2, .v (Enc.int .i64) a2), (7, .ref 110), (8, .v (Enc.int .i64) s9.1), (11, .v Enc.bool (cm .lss s9.1 a2))], [(110, .arr 29 eBlk s9.2)]⟩) (J.cons (.none rfl) (JO.move rfl) rfl rfl (J.cons (.none rfl) (JO.move rfl) rfl rfl (J.cons (.none rfl) (JO.cmp rfl rfl rfl) rfl rfl (J.fin (Sw.Sub.mk id (.cons rfl (.of_eq rfl) (.cons rfl (.of_eq rfl) (.cons rfl (.of_eq rfl) (.cons rfl (.of_eq rfl) (.cons rfl (.of_eq rfl) (.cons rfl (.of_eq rfl) .nil)))))) (.arr rfl .nil) rfl))))) ?_
  rcases Bool.eq_false_or_eq_true (cm .lss s9.1 a2) with hc15 | hc15
  · replace h := cond_t hc15 h
    refine W.condT rfl hc15 ?_
    refine W.skip ?_
    refine W.seq ?_
    refine W.block ?_
    obtain ⟨v16, hv16, h⟩ := bind_e h
    obtain ⟨v17, hv17, h⟩ := bind_e h
    refine W.reg (σ' := ⟨[(0, .v (Enc.sl (Enc.int .i64)) a0), (1, .v (Enc.int .i64) a1), (2, .v (Enc.int .i64) a2), (7, .ref 114), (8, .v (Enc.int .i64) s9.1)], [(114, .arr 29 eBlk v17)]⟩) (J.cons (.none rfl) (JO.move rfl) rfl rfl (J.cons (.none rfl) (JO.move rfl) rfl rfl (J.cons (.none rfl) (JO.move rfl) rfl rfl (J.cons (.none rfl) (JO.move rfl) rfl rfl (J.cons (.none rfl) (JO.arith rfl rfl rfl) rfl rfl (J.cons (.none rfl) (JO.arith rfl rfl rfl) rfl rfl (J.cons (.none rfl) (JO.call0 (con_ref_BlockFrom hv16) Try.call11 (.cons (.dir rfl) (.cons (.dir rfl) .nil))) rfl rfl (J.cons (.none rfl) (JO.lit (e := eBlk) Try.runUnderlying24 Try.sizeOf29 Try.zeroValue29 rfl rfl rfl rfl (.cons (.dir rfl) .nil)) rfl rfl (J.mut (.none rfl) (JM.append 114 hv17 rfl rfl (.sl rfl) Try.runUnderlying24 Try.typeInfo29 Try.sizeOf29 rfl rfl rfl rfl rfl) (J.cons (.none rfl) (JO.assign rfl) rfl rfl (J.fin (Sw.Sub.mk id (.cons rfl (.of_eq rfl) (.cons rfl (.of_eq rfl) (.cons rfl (.of_eq rfl) (.cons rfl (.of_eq rfl) (.cons rfl (.of_eq rfl) .nil))))) (.arr rfl .nil) rfl)))))))))))) ?_
    refine W.fall ?_
    refine W.reg (σ' := ⟨[(0, .v (Enc.sl (Enc.int .i64)) a0), (1, .v (Enc.int .i64) a1), (2, .v (Enc.int .i64) a2), (7, .ref 114), (8, .v (Enc.int .i64) (ar .add .i64 s9.1 (1 : Int)))], [(114, .arr 29 eBlk v17)]⟩) (J.cons (.none rfl) (JO.move rfl) rfl rfl (J.cons (.none rfl) (JO.arith rfl rfl rfl) rfl rfl (J.cons (.none rfl) (JO.assign rfl) rfl rfl (J.fin (Sw.Sub.mk id (.cons rfl (.of_eq rfl) (.cons rfl (.of_eq rfl) (.cons rfl (.of_eq rfl) (.cons rfl (.of_eq rfl) (.cons rfl (.of_eq rfl) .nil))))) (.arr rfl .nil) rfl))))) ?_
    obtain rfl := Option.some.inj h
    exact W.next (Sw.Sub.mk (rn [(110, 114)]) (.cons rfl (.of_eq rfl) (.cons rfl (.of_eq rfl) (.cons rfl (.of_eq rfl) (.cons rfl (.of_eq rfl) (.cons rfl (.of_eq rfl) .nil))))) (.arr rfl .nil) rfl)
  · replace h := cond_f hc15 h
    refine W.condF rfl hc15 ?_
    refine W.exit ?_
    obtain rfl := Option.some.inj h
    exact XQ.brk (Sw.Sub.mk id (.cons rfl (.of_eq rfl) .nil) (.arr rfl .nil) rfl)
set_option maxRecDepth 100000 in
set_option maxHeartbeats 4000000 in
theorem con_ref_PutsFrom {a0 : (List Int)} {a1 : Int} {a2 : Int} {r : (List (Int × Blk))} (h : m_ref_PutsFrom a0 a1 a2 = some r) :
    Con Try.prog 10 [.v (Enc.sl (Enc.int .i64)) a0, .v (Enc.int .i64) a1, .v (Enc.int .i64) a2] (.v (Enc.sl (Enc.pr (Enc.int .i64) eBlk)) r) [] := by
  refine Con.of Try.func10 rfl Try.ntmps10 rfl ?_
  intro S w hF
  unfold m_ref_PutsFrom at h
  refine W.seq ?_
  refine W.reg (σ' := ⟨[(0, .v (Enc.sl (Enc.int .i64)) a0), (1, .v (Enc.int .i64) a1), (2, .v (Enc.int .i64) a2)], []⟩) (J.cons (.none rfl) (JO.assignNilR 101 41 (Enc.pr (Enc.int .i64) eBlk)) rfl rfl (J.fin (Sw.Sub.mk id (.cons rfl (.of_eq rfl) (.cons rfl (.of_eq rfl) (.cons rfl (.of_eq rfl) .nil))) .nil rfl))) ?_
  refine W.seq ?_
  refine W.reg (σ' := ⟨[(0, .v (Enc.sl (Enc.int .i64)) a0), (1, .v (Enc.int .i64) a1), (2, .v (Enc.int .i64) a2), (7, .ref 102)], [(102, .arr 41 (Enc.pr (Enc.int .i64) eBlk) ([] : (List (Int × Blk))))]⟩) (J.cons (.none rfl) (JO.assignNilR 102 41 (Enc.pr (Enc.int .i64) eBlk)) rfl rfl (J.fin (Sw.Sub.mk id (.cons rfl (.of_eq rfl) (.cons rfl (.of_eq rfl) (.cons rfl (.of_eq rfl) (.cons rfl (.of_eq rfl) .nil)))) (.arr rfl .nil) rfl))) ?_
  refine W.seq ?_
  refine W.seq ?_
  refine W.reg (σ' := ⟨[(0, .v (Enc.sl (Enc.int .i64)) a0), (1, .v (Enc.int .i64) a1), (2, .v (Enc.int .i64) a2), (7, .ref 102), (8, .v (Enc.int .i64) (0 : Int))], [(102, .arr 41 (Enc.pr (Enc.int .i64) eBlk) ([] : (List (Int × Blk))))]⟩) (J.cons (.none rfl) (JO.assign rfl) rfl rfl (J.fin (Sw.Sub.mk id (.cons rfl (.of_eq rfl) (.cons rfl (.of_eq rfl) (.cons rfl (.of_eq rfl) (.cons rfl (.of_eq rfl) (.cons rfl (.of_eq rfl) .nil))))) (.arr rfl .nil) rfl))) ?_
  obtain ⟨o19, ho19, hb19, hr19⟩ := lp_elim h
  refine W.lp (σs := fun s13 : Int × (List (Int × Blk)) => ⟨[(0, .v (Enc.sl (Enc.int .i64)) a0), (1, .v (Enc.int .i64) a1), (2, .v (Enc.int .i64) a2), (7, .ref 112), (8, .v (Enc.int .i64) s13.1)], [(112, .arr 41 (Enc.pr (Enc.int .i64) eBlk) s13.2)]⟩) (fun x20 : (List (Int × Blk)) => ⟨[(7, .ref 112)], [(112, .arr 41 (Enc.pr (Enc.int .i64) eBlk) x20)]⟩) ho19 (Sw.Sub.mk (rn [(112, 102)]) (.cons rfl (.of_eq rfl) (.cons rfl (.of_eq rfl) (.cons rfl (.of_eq rfl) (.cons rfl (.of_eq rfl) (.cons rfl (.of_eq rfl) .nil))))) (.arr rfl .nil) rfl) ?_ ?_
  · intro x20 hy
    have h := hb19 _ hy
    refine W.seq ?_
    refine W.reg (σ' := ⟨[(6, .ref 112)], [(112, .arr 41 (Enc.pr (Enc.int .i64) eBlk) x20)]⟩) (J.cons (.none rfl) (JO.move rfl) rfl rfl (J.cons (.none rfl) (JO.assign rfl) rfl rfl (J.fin (Sw.Sub.mk id (.cons rfl (.of_eq rfl) .nil) (.arr rfl .nil) rfl)))) ?_
    refine W.ret ?_
    obtain rfl := Option.some.inj h
    exact XQ.sub (σ' := ⟨[(6, .v (Enc.sl (Enc.pr (Enc.int .i64) eBlk)) x20)], []⟩) (Sw.Sub.mk id (.cons rfl (.frz rfl rfl) .nil) .nil rfl) (XQ.ret1 hF noR rfl (RV.tmp rfl) .nil rfl)
  intro s13 r19 h
  refine W.seq ?_
  refine W.seq ?_
  refine W.reg (σ' := ⟨[(0, .v (Enc.sl (Enc.int .i64)) a0), (1, .v (Enc.int .i64) a1), (2, .v (Enc.int .i64) a2), (7, .ref 112), (8, .v (Enc.int .i64) s13.1), (11, .v Enc.bool (cm .lss s13.1 a2))], [(112, .arr 41 (Enc.pr (Enc.int .i64) eBlk) s13.2)]⟩) (J.cons (.none rfl) (JO.move rfl) rfl rfl (J.cons (.none rfl) (JO.move rfl) rfl rfl (J.cons (.none rfl) (JO.cmp rfl rfl rfl) rfl rfl (J.fin (Sw.Sub.mk id (.cons rfl (.of_eq rfl) (.cons rfl (.of_eq rfl) (.cons rfl (.of_eq rfl) (.cons rfl (.of_eq rfl) (.cons rfl (.of_eq rfl) (.cons rfl (.of_eq rfl) .nil)))))) (.arr rfl .nil) rfl))))) ?_
  rcases Bool.eq_false_or_eq_true (cm .lss s13.1 a2) with hc21 | hc21
  · replace h := cond_t hc21 h
    refine W.condT rfl hc21 ?_
    refine W.skip ?_
    refine W.seq ?_
    refine W.block ?_
    refine W.seq ?_
    obtain ⟨v22, hv22, h⟩ := bind_e h
    refine W.reg (σ' := ⟨[(0, .v (Enc.sl (Enc.int .i64)) a0), (1, .v (Enc.int .i64) a1), (2, .v (Enc.int .i64) a2), (7, .ref 112), (8, .v (Enc.int .i64) s13.1), (20, .v Enc.bool (cm .eql (ar .rem .i64 v22 (3 : Int)) (0 : Int)))], [(112, .arr 41 (Enc.pr (Enc.int .i64) eBlk) s13.2)]⟩) (J.cons (.none rfl) (JO.move rfl) rfl rfl (J.cons (.none rfl) (JO.move rfl) rfl rfl (J.cons (.none rfl) (JO.move rfl) rfl rfl (J.cons (.none rfl) (JO.arith rfl rfl rfl) rfl rfl (J.cons (.none rfl) (JO.call0 (con_ref_Raw hv22) Try.call22 (.cons (.dir rfl) (.cons (.dir rfl) .nil))) rfl rfl (J.cons (.none rfl) (JO.div (.inr rfl) (by decide) rfl rfl) rfl rfl (J.cons (.none rfl) (JO.cmp rfl rfl rfl) rfl rfl (J.fin (Sw.Sub.mk id (.cons rfl (.of_eq rfl) (.cons rfl (.of_eq rfl) (.cons rfl (.of_eq rfl) (.cons rfl (.of_eq rfl) (.cons rfl (.of_eq rfl) (.cons rfl (.of_eq rfl) .nil)))))) (.arr rfl .nil) rfl))))))))) ?_
    rcases Bool.eq_false_or_eq_true (cm .eql (ar .rem .i64 v22 (3 : Int)) (0 : Int)) with hc23 | hc23
    · replace h := cond_t hc23 h
      refine W.condT rfl hc23 ?_
      obtain ⟨v24, hv24, h⟩ := bind_e h
      obtain ⟨v25, hv25, h⟩ := bind_e h
      refine W.reg (σ' := ⟨[(0, .v (Enc.sl (Enc.int .i64)) a0), (1, .v (Enc.int .i64) a1), (2, .v (Enc.int .i64) a2), (7, .ref 118), (8, .v (Enc.int .i64) s13.1)], [(118, .arr 41 (Enc.pr (Enc.int .i64) eBlk) v25)]⟩) (J.cons (.none rfl) (JO.move rfl) rfl rfl (J.cons (.none rfl) (JO.move rfl) rfl rfl (J.cons (.none rfl) (JO.move rfl) rfl rfl (J.cons (.none rfl) (JO.move rfl) rfl rfl (J.cons (.none rfl) (JO.move rfl) rfl rfl (J.cons (.none rfl) (JO.arith rfl rfl rfl) rfl rfl (J.cons (.none rfl) (JO.arith rfl rfl rfl) rfl rfl (J.cons (.none rfl) (JO.arith rfl rfl rfl) rfl rfl (J.cons (.none rfl) (JO.call0 (con_ref_BlockFrom hv24) Try.call11 (.cons (.dir rfl) (.cons (.dir rfl) .nil))) rfl rfl (J.cons (.none rfl) (JO.build built41 (.cons (Z.int .i64) (.cons (Z.arr 8 (Z.int .u8)) .nil)) (.cons rfl (.dir rfl) rfl rfl rfl rfl (.cons rfl (.dir rfl) rfl rfl rfl rfl .nil))) rfl rfl (J.cons (.none rfl) (JO.lit (e := (Enc.pr (Enc.int .i64) eBlk)) Try.runUnderlying26 Try.sizeOf41 Try.zeroValue41 rfl rfl rfl rfl (.cons (.agg rfl (.same (.same .nil)) (.prm (.one _ _) (.one _ _)) rfl) .nil)) rfl rfl (J.mut (.none rfl) (JM.append 118 hv25 rfl rfl (.sl rfl) Try.runUnderlying26 Try.typeInfo41 Try.sizeOf41 rfl rfl rfl rfl rfl) (J.cons (.none rfl) (JO.assign rfl) rfl rfl (J.fin (Sw.Sub.mk id (.cons rfl (.of_eq rfl) (.cons rfl (.of_eq rfl) (.cons rfl (.of_eq rfl) (.cons rfl (.of_eq rfl) (.cons rfl (.of_eq rfl) .nil))))) (.arr rfl .nil) rfl))))))))))))))) ?_
      refine W.fall ?_
      refine W.reg (σ' := ⟨[(0, .v (Enc.sl (Enc.int .i64)) a0), (1, .v (Enc.int .i64) a1), (2, .v (Enc.int .i64) a2), (7, .ref 118), (8, .v (Enc.int .i64) (ar .add .i64 s13.1 (1 : Int)))], [(118, .arr 41 (Enc.pr (Enc.int .i64) eBlk) v25)]⟩) (J.cons (.none rfl) (JO.move rfl) rfl rfl (J.cons (.none rfl) (JO.arith rfl rfl rfl) rfl rfl (J.cons (.none rfl) (JO.assign rfl) rfl rfl (J.fin (Sw.Sub.mk id (.cons rfl (.of_eq rfl) (.cons rfl (.of_eq rfl) (.cons rfl (.of_eq rfl) (.cons rfl (.of_eq rfl) (.cons rfl (.of_eq rfl) .nil))))) (.arr rfl .nil) rfl))))) ?_
      obtain rfl := Option.some.inj h
      exact W.next (Sw.Sub.mk (rn [(112, 118)]) (.cons rfl (.of_eq rfl) (.cons rfl (.of_eq rfl) (.cons rfl (.of_eq rfl) (.cons rfl (.of_eq rfl) (.cons rfl (.of_eq rfl) .nil))))) (.arr rfl .nil) rfl)
    · replace h := cond_f hc23 h
      refine W.condF rfl hc23 ?_
      refine W.skip ?_
      refine W.fall ?_
      refine W.reg (σ' := ⟨[(0, .v (Enc.sl (Enc.int .i64)) a0), (1, .v (Enc.int .i64) a1), (2, .v (Enc.int .i64) a2), (7, .ref 112), (8, .v (Enc.int .i64) (ar .add .i64 s13.1 (1 : Int)))], [(112, .arr 41 (Enc.pr (Enc.int .i64) eBlk) s13.2)]⟩) (J.cons (.none rfl) (JO.move rfl) rfl rfl (J.cons (.none rfl) (JO.arith rfl rfl rfl) rfl rfl (J.cons (.none rfl) (JO.assign rfl) rfl rfl (J.fin (Sw.Sub.mk id (.cons rfl (.of_eq rfl) (.cons rfl (.of_eq rfl) (.cons rfl (.of_eq rfl) (.cons rfl (.of_eq rfl) (.cons rfl (.of_eq rfl) .nil))))) (.arr rfl .nil) rfl))))) ?_
      obtain rfl := Option.some.inj h
      exact W.next (Sw.Sub.mk id (.cons rfl (.of_eq rfl) (.cons rfl (.of_eq rfl) (.cons rfl (.of_eq rfl) (.cons rfl (.of_eq rfl) (.cons rfl (.of_eq rfl) .nil))))) (.arr rfl .nil) rfl)
  · replace h := cond_f hc21 h
    refine W.condF rfl hc21 ?_
    refine W.exit ?_
    obtain rfl := Option.some.inj h
    exact XQ.brk (Sw.Sub.mk id (.cons rfl (.of_eq rfl) .nil) (.arr rfl .nil) rfl)
set_option maxRecDepth 100000 in
set_option maxHeartbeats 4000000 in
theorem con_ref_First {a0 : (List Blk)} {a1 : Blk} {r : Int} (h : m_ref_First a0 a1 = some r) :
    Con Try.prog 12 [.v (Enc.sl eBlk) a0, .v eBlk a1] (.v (Enc.int .i64) r) [] := by
  refine Con.of Try.func12 rfl Try.ntmps12 rfl ?_
  intro S w hF
  unfold m_ref_First at h
  refine W.seq ?_
  refine W.reg (σ' := ⟨[(0, .v (Enc.sl eBlk) a0), (3, .ptr 101 0)], [(101, .box 29 [.v eBlk a1])]⟩) (J.cons (.none rfl) (JO.box 101 rfl (.one _ _) rfl) rfl rfl (J.cons (.none rfl) (JO.assign rfl) rfl rfl (J.fin (Sw.Sub.mk id (.cons rfl (.of_eq rfl) (.cons rfl (.of_eq rfl) .nil)) (.box rfl (.cons (.of_eq rfl) .nil) .nil) rfl)))) ?_
  refine W.seq ?_
  refine W.seq ?_
  refine W.reg (σ' := ⟨[(0, .v (Enc.sl eBlk) a0), (3, .ptr 101 0), (5, .v (Enc.int .i64) (0 : Int))], [(101, .box 29 [.v eBlk a1])]⟩) (J.cons (.none rfl) (JO.assign rfl) rfl rfl (J.fin (Sw.Sub.mk id (.cons rfl (.of_eq rfl) (.cons rfl (.of_eq rfl) (.cons rfl (.of_eq rfl) .nil))) (.box rfl (.cons (.of_eq rfl) .nil) .nil) rfl))) ?_
  obtain ⟨o13, ho13, hb13, hr13⟩ := lp_elim h
  refine W.lp (σs := fun s9 : Int => ⟨[(0, .v (Enc.sl eBlk) a0), (3, .ptr 101 0), (5, .v (Enc.int .i64) s9)], [(101, .box 29 [.v eBlk a1])]⟩) (fun x14 : Unit => ⟨[], []⟩) ho13 (Sw.Sub.mk id (.cons rfl (.of_eq rfl) (.cons rfl (.of_eq rfl) (.cons rfl (.of_eq rfl) .nil))) (.box rfl (.cons (.of_eq rfl) .nil) .nil) rfl) ?_ ?_
  · intro x14 hy
    have h := hb13 _ hy
    refine W.seq ?_
    refine W.reg (σ' := ⟨[(4, .v (Enc.int .i64) (-1 : Int))], []⟩) (J.cons (.none rfl) (JO.assign rfl) rfl rfl (J.fin (Sw.Sub.mk id (.cons rfl (.of_eq rfl) .nil) .nil rfl))) ?_
    refine W.ret ?_
    obtain rfl := Option.some.inj h
    exact XQ.sub (σ' := ⟨[(4, .v (Enc.int .i64) (-1 : Int))], []⟩) (Sw.Sub.mk id (.cons rfl (.of_eq rfl) .nil) .nil rfl) (XQ.ret1 hF noR rfl (RV.tmp rfl) .nil rfl)
  intro s9 r13 h
  refine W.seq ?_
  refine W.seq ?_
  refine W.reg (σ' := ⟨[(0, .v (Enc.sl eBlk) a0), (3, .ptr 101 0), (5, .v (Enc.int .i64) s9), (9, .v Enc.bool (cm .lss s9 (a0.length : Int)))], [(101, .box 29 [.v eBlk a1])]⟩) (J.cons (.none rfl) (JO.move rfl) rfl rfl (J.cons (.none rfl) (JO.move rfl) rfl rfl (J.cons (.none rfl) (JO.len rfl Try.runUnderlying24) rfl rfl (J.cons (.none rfl) (JO.cmp rfl rfl rfl) rfl rfl (J.fin (Sw.Sub.mk id (.cons rfl (.of_eq rfl) (.cons rfl (.of_eq rfl) (.cons rfl (.of_eq rfl) (.cons rfl (.of_eq rfl) .nil)))) (.box rfl (.cons (.of_eq rfl) .nil) .nil) rfl)))))) ?_
  rcases Bool.eq_false_or_eq_true (cm .lss s9 (a0.length : Int)) with hc15 | hc15
  · replace h := cond_t hc15 h
    refine W.condT rfl hc15 ?_
    refine W.skip ?_
    refine W.seq ?_
    refine W.block ?_
    refine W.seq ?_
    obtain ⟨z16, hz16, h⟩ := bind_e h
    refine W.dr2 (σ' := ⟨[(0, .v (Enc.sl eBlk) a0), (3, .ptr 101 0), (5, .v (Enc.int .i64) s9), (17, .v Enc.bool (decide (z16 = a1)))], [(101, .box 29 [.v eBlk a1])]⟩) 6 [0, 0, 3, 7, 0, 31] mixed (by exact (.cons (.none rfl) (JO.move rfl) rfl rfl (.cons (.none rfl) (JO.move rfl) rfl rfl (.cons (.none rfl) (JO.idx hz16 rfl rfl Try.runUnderlying24 Try.sizeOf29) rfl rfl (.cons (.none rfl) (JO.loadPst rfl Try.isAgg29 Try.sizeOf29) rfl rfl (.cons (.none rfl) (JO.load rfl rfl rfl Try.isAgg29 Try.sizeOf29) rfl rfl (.cons (.none rfl) (JO.eqV eq29 rfl rfl Try.eqGuardType29 rfl rfl) rfl rfl .nil))))))) (by exact (J.fin (Sw.Sub.mk id (.cons rfl (.of_eq rfl) (.cons rfl (.of_eq rfl) (.cons rfl (.of_eq rfl) (.cons rfl (.of_eq rfl) .nil)))) (.box rfl (.cons (.of_eq rfl) .nil) .nil) rfl))) rfl (by decide +kernel) (by decide +kernel) (by decide +kernel) (by kernel_rfl) ?_
    rcases Bool.eq_false_or_eq_true (decide (z16 = a1)) with hc17 | hc17
    · replace h := cond_t hc17 h
      refine W.condT rfl hc17 ?_
      refine W.seq ?_
      refine W.reg (σ' := ⟨[(4, .v (Enc.int .i64) s9)], []⟩) (J.cons (.none rfl) (JO.move rfl) rfl rfl (J.cons (.none rfl) (JO.assign rfl) rfl rfl (J.fin (Sw.Sub.mk id (.cons rfl (.of_eq rfl) .nil) .nil rfl)))) ?_
      refine W.ret ?_
      refine XQ.ret ?_
      obtain rfl := Option.some.inj h
      refine XQ.lret fun ho => ?_
      obtain rfl := hr13 _ ho
      exact XQ.sub (σ' := ⟨[(4, .v (Enc.int .i64) s9)], []⟩) (Sw.Sub.mk id (.cons rfl (.of_eq rfl) .nil) .nil rfl) (XQ.ret1 hF noR rfl (RV.tmp rfl) .nil rfl)
    · replace h := cond_f hc17 h
      refine W.condF rfl hc17 ?_
      refine W.skip ?_
      refine W.fall ?_
      refine W.reg (σ' := ⟨[(0, .v (Enc.sl eBlk) a0), (3, .ptr 101 0), (5, .v (Enc.int .i64) (ar .add .i64 s9 (1 : Int)))], [(101, .box 29 [.v eBlk a1])]⟩) (J.cons (.none rfl) (JO.move rfl) rfl rfl (J.cons (.none rfl) (JO.arith rfl rfl rfl) rfl rfl (J.cons (.none rfl) (JO.assign rfl) rfl rfl (J.fin (Sw.Sub.mk id (.cons rfl (.of_eq rfl) (.cons rfl (.of_eq rfl) (.cons rfl (.of_eq rfl) .nil))) (.box rfl (.cons (.of_eq rfl) .nil) .nil) rfl))))) ?_
      obtain rfl := Option.some.inj h
      exact W.next (Sw.Sub.mk id (.cons rfl (.of_eq rfl) (.cons rfl (.of_eq rfl) (.cons rfl (.of_eq rfl) .nil))) (.box rfl (.cons (.of_eq rfl) .nil) .nil) rfl)
  · replace h := cond_f hc15 h
    refine W.condF rfl hc15 ?_
    refine W.exit ?_
    obtain rfl := Option.some.inj h
    exact XQ.brk (Sw.Sub.mk id .nil .nil rfl)
set_option maxRecDepth 100000 in
set_option maxHeartbeats 4000000 in
theorem con_cache_Check {a0 : (List Blk)} {r : (Option Int)} (h : m_cache_Check a0 = some r) :
    Con Try.prog 35 [.v (Enc.sl eBlk) a0] (.v (Enc.err ET) r) [] := by
  refine Con.of Try.func35 rfl Try.ntmps35 rfl ?_
  intro S w hF
  unfold m_cache_Check at h
  refine W.seq ?_
  refine W.reg (σ' := ⟨[(0, .v (Enc.sl eBlk) a0)], []⟩) (J.cons (.none rfl) (JO.assignNilE ET) rfl rfl (J.fin (Sw.Sub.mk id (.cons rfl (.of_eq rfl) .nil) .nil rfl))) ?_
  refine W.seq ?_
  refine W.seq ?_
  refine W.reg (σ' := ⟨[(0, .v (Enc.sl eBlk) a0), (8, .v Enc.bool (cm .gtr (a0.length : Int) (8 : Int)))], []⟩) (J.cons (.none rfl) (JO.move rfl) rfl rfl (J.cons (.none rfl) (JO.len rfl Try.runUnderlying24) rfl rfl (J.cons (.none rfl) (JO.cmp rfl rfl rfl) rfl rfl (J.fin (Sw.Sub.mk id (.cons rfl (.of_eq rfl) (.cons rfl (.of_eq rfl) .nil)) .nil rfl))))) ?_
  rcases Bool.eq_false_or_eq_true (cm .gtr (a0.length : Int) (8 : Int)) with hc1 | hc1
  · replace h := cond_t hc1 h
    refine W.condT rfl hc1 ?_
    refine W.seq ?_
    refine W.reg (σ' := ⟨[(2, .v (Enc.err ET) (some (2 : Int)))], []⟩) (J.cons (.none rfl) (JO.mkErr Try.runUnderlying86 rfl) rfl rfl (J.cons (.none rfl) (JO.assign rfl) rfl rfl (J.fin (Sw.Sub.mk id (.cons rfl (.of_eq rfl) .nil) .nil rfl)))) ?_
    refine W.ret ?_
    obtain rfl := Option.some.inj h
    exact XQ.sub (σ' := ⟨[(2, .v (Enc.err ET) (some (2 : Int)))], []⟩) (Sw.Sub.mk id (.cons rfl (.of_eq rfl) .nil) .nil rfl) (XQ.ret1 hF noR rfl (RV.tmp rfl) .nil rfl)
  · replace h := cond_f hc1 h
    refine W.condF rfl hc1 ?_
    refine W.skip ?_
    refine W.seq ?_
    refine W.reg (σ' := ⟨[(0, .v (Enc.sl eBlk) a0), (3, .ref 101)], [(101, .mp eBlk Enc.bool ([] : List (Blk × Bool)))]⟩) (J.cons (.none rfl) (JO.makeMap 101 eBlk Enc.bool) rfl rfl (J.cons (.none rfl) (JO.assign rfl) rfl rfl (J.fin (Sw.Sub.mk id (.cons rfl (.of_eq rfl) (.cons rfl (.of_eq rfl) .nil)) (.mp rfl .nil) rfl)))) ?_
    refine W.seq ?_
    refine W.seq ?_
    refine W.reg (σ' := ⟨[(3, .ref 101), (11, .v (Enc.sl eBlk) a0), (12, .v (Enc.int .i64) (a0.length : Int)), (13, .v (Enc.int .i64) (0 : Int))], [(101, .mp eBlk Enc.bool ([] : List (Blk × Bool)))]⟩) (J.cons (.none rfl) (JO.move rfl) rfl rfl (J.cons (.none rfl) (JO.len rfl Try.runUnderlying24) rfl rfl (J.cons (.none rfl) (JO.move rfl) rfl rfl (J.fin (Sw.Sub.mk id (.cons rfl (.of_eq rfl) (.cons rfl (.of_eq rfl) (.cons rfl (.of_eq rfl) (.cons rfl (.of_eq rfl) .nil)))) (.mp rfl .nil) rfl))))) ?_
    obtain ⟨o17, ho17, hb17, hr17⟩ := lp_elim h
    refine W.lp (σs := fun s12 : Int × (List (Blk × Bool)) => ⟨[(3, .ref 101), (11, .v (Enc.sl eBlk) a0), (12, .v (Enc.int .i64) (a0.length : Int)), (13, .v (Enc.int .i64) s12.1)], [(101, .mp eBlk Enc.bool s12.2)]⟩) (fun x18 : Unit => ⟨[], []⟩) ho17 (Sw.Sub.mk id (.cons rfl (.of_eq rfl) (.cons rfl (.of_eq rfl) (.cons rfl (.of_eq rfl) (.cons rfl (.of_eq rfl) .nil)))) (.mp rfl .nil) rfl) ?_ ?_
    · intro x18 hy
      have h := hb17 _ hy
      refine W.seq ?_
      refine W.reg (σ' := ⟨[(2, .v (Enc.err ET) (none : Option Int))], []⟩) (J.cons (.none rfl) (JO.assignNilE ET) rfl rfl (J.fin (Sw.Sub.mk id (.cons rfl (.of_eq rfl) .nil) .nil rfl))) ?_
      refine W.ret ?_
      obtain rfl := Option.some.inj h
      exact XQ.sub (σ' := ⟨[(2, .v (Enc.err ET) (none : Option Int))], []⟩) (Sw.Sub.mk id (.cons rfl (.of_eq rfl) .nil) .nil rfl) (XQ.ret1 hF noR rfl (RV.tmp rfl) .nil rfl)
    intro s12 r17 h
    refine W.seq ?_
    refine W.reg (σ' := ⟨[(3, .ref 101), (11, .v (Enc.sl eBlk) a0), (12, .v (Enc.int .i64) (a0.length : Int)), (13, .v (Enc.int .i64) s12.1), (14, .v Enc.bool (cm .lss s12.1 (a0.length : Int)))], [(101, .mp eBlk Enc.bool s12.2)]⟩) (J.cons (.none rfl) (JO.cmp rfl rfl rfl) rfl rfl (J.fin (Sw.Sub.mk id (.cons rfl (.of_eq rfl) (.cons rfl (.of_eq rfl) (.cons rfl (.of_eq rfl) (.cons rfl (.of_eq rfl) (.cons rfl (.of_eq rfl) .nil))))) (.mp rfl .nil) rfl))) ?_
    refine W.seq ?_
    rcases Bool.eq_false_or_eq_true (cm .lss s12.1 (a0.length : Int)) with hc19 | hc19
    · replace h := cond_t hc19 h
      refine W.condT rfl hc19 ?_
      refine W.skip ?_
      refine W.seq ?_
      refine W.block ?_
      refine W.seq ?_
      obtain ⟨z20, hz20, h⟩ := bind_e h
      refine W.reg (σ' := ⟨[(3, .ref 101), (5, .ptr 105 0), (11, .v (Enc.sl eBlk) a0), (12, .v (Enc.int .i64) (a0.length : Int)), (13, .v (Enc.int .i64) s12.1)], [(101, .mp eBlk Enc.bool s12.2), (105, .box 29 [.v eBlk z20])]⟩) (J.cons (.none rfl) (JO.idx hz20 rfl rfl Try.runUnderlying24 Try.sizeOf29) rfl rfl (J.cons (.none rfl) (JO.loadPst rfl Try.isAgg29 Try.sizeOf29) rfl rfl (J.cons (.none rfl) (JO.alloc 105 Try.zeroValue29 rfl (.cons (Z.arr 8 (Z.int .u8)) .nil) rfl) rfl rfl (J.mut (.none rfl) (JM.store rfl rfl rfl rfl rfl rfl rfl Try.sizeOf29) (J.fin (Sw.Sub.mk id (.cons rfl (.of_eq rfl) (.cons rfl (.of_eq rfl) (.cons rfl (.of_eq rfl) (.cons rfl (.of_eq rfl) (.cons rfl (.of_eq rfl) .nil))))) (.mp rfl (.box rfl (.cons (.of_eq rfl) .nil) .nil)) rfl)))))) ?_
      refine W.seq ?_
      refine W.seq ?_
      refine W.reg (σ' := ⟨[(3, .ref 101), (5, .ptr 105 0), (11, .v (Enc.sl eBlk) a0), (12, .v (Enc.int .i64) (a0.length : Int)), (13, .v (Enc.int .i64) s12.1), (19, .v Enc.bool ((mget s12.2 z20).getD false))], [(101, .mp eBlk Enc.bool s12.2), (105, .box 29 [.v eBlk z20])]⟩) (J.cons (.none rfl) (JO.move rfl) rfl rfl (J.cons (.none rfl) (JO.load rfl rfl rfl Try.isAgg29 Try.sizeOf29) rfl rfl (J.cons (.none rfl) (JO.lookup rfl rfl rfl Try.runUnderlying151 Try.runUnderlying29 eq29 rfl key29 rfl Try.zeroValue4 (fun _ _ => ⟨_, rfl, rfl⟩)) rfl rfl (J.fin (Sw.Sub.mk id (.cons rfl (.of_eq rfl) (.cons rfl (.of_eq rfl) (.cons rfl (.of_eq rfl) (.cons rfl (.of_eq rfl) (.cons rfl (.of_eq rfl) (.cons rfl (.of_eq rfl) .nil)))))) (.mp rfl (.box rfl (.cons (.of_eq rfl) .nil) .nil)) rfl))))) ?_
      rcases Bool.eq_false_or_eq_true ((mget s12.2 z20).getD false) with hc21 | hc21
      · replace h := cond_t hc21 h
        refine W.condT rfl hc21 ?_
        refine W.seq ?_
        refine W.reg (σ' := ⟨[(2, .v (Enc.err ET) (some (3 : Int)))], []⟩) (J.cons (.none rfl) (JO.mkErr Try.runUnderlying86 rfl) rfl rfl (J.cons (.none rfl) (JO.assign rfl) rfl rfl (J.fin (Sw.Sub.mk id (.cons rfl (.of_eq rfl) .nil) .nil rfl)))) ?_
        refine W.ret ?_
        refine XQ.ret ?_
        obtain rfl := Option.some.inj h
        refine XQ.lret fun ho => ?_
        obtain rfl := hr17 _ ho
        exact XQ.sub (σ' := ⟨[(2, .v (Enc.err ET) (some (3 : Int)))], []⟩) (Sw.Sub.mk id (.cons rfl (.of_eq rfl) .nil) .nil rfl) (XQ.ret1 hF noR rfl (RV.tmp rfl) .nil rfl)
      · replace h := cond_f hc21 h
        refine W.condF rfl hc21 ?_
        refine W.skip ?_
        obtain ⟨v22, hv22, h⟩ := bind_e h
        refine W.reg (σ' := ⟨[(3, .ref 101), (11, .v (Enc.sl eBlk) a0), (12, .v (Enc.int .i64) (a0.length : Int)), (13, .v (Enc.int .i64) s12.1)], [(101, .mp eBlk Enc.bool v22)]⟩) (J.cons (.none rfl) (JO.move rfl) rfl rfl (J.cons (.none rfl) (JO.load rfl rfl rfl Try.isAgg29 Try.sizeOf29) rfl rfl (J.mut (.none rfl) (JM.mapPut hv22 rfl rfl rfl rfl Try.runUnderlying151 Try.runUnderlying29 eq29 rfl key29 rfl) (J.fin (Sw.Sub.mk id (.cons rfl (.of_eq rfl) (.cons rfl (.of_eq rfl) (.cons rfl (.of_eq rfl) (.cons rfl (.of_eq rfl) .nil)))) (.mp rfl .nil) rfl))))) ?_
        refine W.fall ?_
        refine W.reg (σ' := ⟨[(3, .ref 101), (11, .v (Enc.sl eBlk) a0), (12, .v (Enc.int .i64) (a0.length : Int)), (13, .v (Enc.int .i64) (ar .add .i64 s12.1 (1 : Int)))], [(101, .mp eBlk Enc.bool v22)]⟩) (J.cons (.none rfl) (JO.arith rfl rfl rfl) rfl rfl (J.cons (.none rfl) (JO.move rfl) rfl rfl (J.fin (Sw.Sub.mk id (.cons rfl (.of_eq rfl) (.cons rfl (.of_eq rfl) (.cons rfl (.of_eq rfl) (.cons rfl (.of_eq rfl) .nil)))) (.mp rfl .nil) rfl)))) ?_
        obtain rfl := Option.some.inj h
        exact W.next (Sw.Sub.mk id (.cons rfl (.of_eq rfl) (.cons rfl (.of_eq rfl) (.cons rfl (.of_eq rfl) (.cons rfl (.of_eq rfl) .nil)))) (.mp rfl .nil) rfl)
    · replace h := cond_f hc19 h
      refine W.condF rfl hc19 ?_
      refine W.exit ?_
      obtain rfl := Option.some.inj h
      exact XQ.brk (Sw.Sub.mk id .nil .nil rfl)
set_option maxRecDepth 100000 in
set_option maxHeartbeats 4000000 in
theorem con_plan_checked {a0 : (List Blk)} {a1 : (List Blk)} {r : (Option Int)} (h : m_plan_checked a0 a1 = some r) :
    Con Try.prog 32 [.v (Enc.sl eBlk) a0, .v (Enc.sl eBlk) a1] (.v (Enc.err ET) r) [] := by
  refine Con.of Try.func32 rfl Try.ntmps32 rfl ?_
  intro S w hF
  unfold m_plan_checked at h
  refine W.seq ?_
  refine W.reg (σ' := ⟨[(0, .v (Enc.sl eBlk) a0), (1, .v (Enc.sl eBlk) a1)], []⟩) (J.cons (.none rfl) (JO.assignNilE ET) rfl rfl (J.fin (Sw.Sub.mk id (.cons rfl (.of_eq rfl) (.cons rfl (.of_eq rfl) .nil)) .nil rfl))) ?_
  refine W.seq ?_
  refine W.seq ?_
  obtain ⟨x2, hx, h⟩ := bind_e h
  refine W.reg (σ' := ⟨[(1, .v (Enc.sl eBlk) a1), (12, .v Enc.bool x2)], []⟩) ?_ ?_
  · rcases Bool.eq_false_or_eq_true (cm .lss (a0.length : Int) (1 : Int)) with hc3 | hc3
    · replace hx := cond_t hc3 hx
      obtain rfl := Option.some.inj hx
      exact (J.cons (.none rfl) (JO.move rfl) rfl rfl (J.cons (.none rfl) (JO.len rfl Try.runUnderlying24) rfl rfl (J.cons (.none rfl) (JO.cmp rfl rfl rfl) rfl rfl (J.cons (.none rfl) (JO.move rfl) rfl rfl (J.left (GK.unmet 8 rfl rfl rfl hc3) rfl (J.left (GK.unmet 8 rfl rfl rfl hc3) rfl (J.left (GK.unmet 8 rfl rfl rfl hc3) rfl (J.cons (.none rfl) (JO.pT hc3 rfl rfl) rfl rfl (J.fin (Sw.Sub.mk id (.cons rfl (.of_eq rfl) (.cons rfl (.of_eq rfl) .nil)) .nil rfl))))))))))
    · replace hx := cond_f hc3 hx
      obtain rfl := Option.some.inj hx
      exact (J.cons (.none rfl) (JO.move rfl) rfl rfl (J.cons (.none rfl) (JO.len rfl Try.runUnderlying24) rfl rfl (J.cons (.none rfl) (JO.cmp rfl rfl rfl) rfl rfl (J.cons (.none rfl) (JO.move rfl) rfl rfl (J.cons (GK.met 8 rfl rfl rfl hc3) (JO.move rfl) rfl rfl (J.cons (GK.met 8 rfl rfl rfl hc3) (JO.len rfl Try.runUnderlying24) rfl rfl (J.cons (GK.met 8 rfl rfl rfl hc3) (JO.cmp rfl rfl rfl) rfl rfl (J.cons (.none rfl) (JO.pF hc3 rfl rfl) rfl rfl (J.fin (Sw.Sub.mk id (.cons rfl (.of_eq rfl) (.cons rfl (.of_eq rfl) .nil)) .nil rfl))))))))))
  rcases Bool.eq_false_or_eq_true x2 with hc4 | hc4
  · replace h := cond_t hc4 h
    refine W.condT rfl hc4 ?_
    refine W.seq ?_
    refine W.reg (σ' := ⟨[(4, .v (Enc.err ET) (some (1 : Int)))], []⟩) (J.cons (.none rfl) (JO.mkErr Try.runUnderlying86 rfl) rfl rfl (J.cons (.none rfl) (JO.assign rfl) rfl rfl (J.fin (Sw.Sub.mk id (.cons rfl (.of_eq rfl) .nil) .nil rfl)))) ?_
    refine W.ret ?_
    obtain rfl := Option.some.inj h
    exact XQ.sub (σ' := ⟨[(4, .v (Enc.err ET) (some (1 : Int)))], []⟩) (Sw.Sub.mk id (.cons rfl (.of_eq rfl) .nil) .nil rfl) (XQ.ret1 hF noR rfl (RV.tmp rfl) .nil rfl)
  · replace h := cond_f hc4 h
    refine W.condF rfl hc4 ?_
    refine W.skip ?_
    refine W.seq ?_
    obtain ⟨v5, hv5, h⟩ := bind_e h
    refine W.reg (σ' := ⟨[(4, .v (Enc.err ET) v5)], []⟩) (J.cons (.none rfl) (JO.move rfl) rfl rfl (J.cons (.none rfl) (JO.call0 (con_cache_Check hv5) Try.call35 (.cons (.dir rfl) .nil)) rfl rfl (J.cons (.none rfl) (JO.assign rfl) rfl rfl (J.fin (Sw.Sub.mk id (.cons rfl (.of_eq rfl) .nil) .nil rfl))))) ?_
    refine W.ret ?_
    obtain rfl := Option.some.inj h
    exact XQ.sub (σ' := ⟨[(4, .v (Enc.err ET) v5)], []⟩) (Sw.Sub.mk id (.cons rfl (.of_eq rfl) .nil) .nil rfl) (XQ.ret1 hF noR rfl (RV.tmp rfl) .nil rfl)
set_option maxRecDepth 100000 in
set_option maxHeartbeats 4000000 in
theorem con_slices_Clone_api_Block_api_Block_nil {a0 : (Bool × (List Blk))} {r : (List Blk)} (h : m_slices_Clone_api_Block_api_Block_nil a0 = some r) :
    Con Try.prog 36 [.v (Enc.slN eBlk) a0] (.ref 0) [(0, .arr 29 eBlk r)] := by
  refine Con.of Try.func36 rfl Try.ntmps36 rfl ?_
  intro S w hF
  unfold m_slices_Clone_api_Block_api_Block_nil at h
  refine W.seq ?_
  refine W.reg (σ' := ⟨[(0, .v (Enc.slN eBlk) a0)], []⟩) (J.cons (.none rfl) (JO.assignNilR 101 29 eBlk) rfl rfl (J.fin (Sw.Sub.mk id (.cons rfl (.of_eq rfl) .nil) .nil rfl))) ?_
  refine W.seq ?_
  refine W.seq ?_
  refine W.reg (σ' := ⟨[(0, .v (Enc.slN eBlk) a0), (4, .v Enc.bool a0.1)], []⟩) (J.cons (.none rfl) (JO.move rfl) rfl rfl (J.cons (.none rfl) (JO.eqNilS rfl Try.runUnderlying24) rfl rfl (J.fin (Sw.Sub.mk id (.cons rfl (.of_eq rfl) (.cons rfl (.of_eq rfl) .nil)) .nil rfl)))) ?_
  rcases Bool.eq_false_or_eq_true a0.1 with hc1 | hc1
  · replace h := cond_t hc1 h
    refine W.condT rfl hc1 ?_
    refine W.seq ?_
    refine W.reg (σ' := ⟨[(2, .ref 102)], [(102, .arr 29 eBlk ([] : (List Blk)))]⟩) (J.cons (.none rfl) (JO.assignNilR 102 29 eBlk) rfl rfl (J.fin (Sw.Sub.mk id (.cons rfl (.of_eq rfl) .nil) (.arr rfl .nil) rfl))) ?_
    refine W.ret ?_
    obtain rfl := Option.some.inj h
    exact XQ.sub (σ' := ⟨[(2, .ref 0)], [(0, .arr 29 eBlk ([] : (List Blk)))]⟩) (Sw.Sub.mk (rn [(0, 102)]) (.cons rfl (.of_eq rfl) .nil) (.arr rfl .nil) rfl) (XQ.ret1 hF noR rfl (RV.tmp rfl) (.cons rfl .nil) rfl)
  · replace h := cond_f hc1 h
    refine W.condF rfl hc1 ?_
    refine W.skip ?_
    refine W.seq ?_
    obtain ⟨v2, hv2, h⟩ := bind_e h
    refine W.reg (σ' := ⟨[(2, .ref 104)], [(104, .arr 29 eBlk v2)]⟩) (J.cons (.none rfl) (JO.litR (e := eBlk) 103 Try.runUnderlying24 Try.sizeOf29 Try.zeroValue29 rfl rfl rfl rfl .nil) rfl rfl (J.cons (.none rfl) (JO.move rfl) rfl rfl (J.mut (.none rfl) (JM.append 104 hv2 rfl rfl (.slN rfl) Try.runUnderlying24 Try.typeInfo29 Try.sizeOf29 rfl rfl rfl rfl rfl) (J.cons (.none rfl) (JO.assign rfl) rfl rfl (J.fin (Sw.Sub.mk id (.cons rfl (.of_eq rfl) .nil) (.arr rfl .nil) rfl)))))) ?_
    refine W.ret ?_
    obtain rfl := Option.some.inj h
    exact XQ.sub (σ' := ⟨[(2, .ref 0)], [(0, .arr 29 eBlk v2)]⟩) (Sw.Sub.mk (rn [(0, 104)]) (.cons rfl (.of_eq rfl) .nil) (.arr rfl .nil) rfl) (XQ.ret1 hF noR rfl (RV.tmp rfl) (.cons rfl .nil) rfl)
theorem con_slices_Clone_api_Block_api_Block {a0 : (List Blk)} {r : (List Blk)} (h : m_slices_Clone_api_Block_api_Block a0 = some r) :
    Con Try.prog 36 [.v (Enc.sl eBlk) a0] (.ref 0) [(0, .arr 29 eBlk r)] :=
  Con.nilCases fun b hb => con_slices_Clone_api_Block_api_Block_nil (by cases b with | true => rw [hb rfl] at h ⊢; exact h | false => exact clone_f h)
set_option maxRecDepth 100000 in
set_option maxHeartbeats 4000000 in
theorem con_cache_New {a0 : (List Blk)} {r : (Option ((List Blk) × (List (Blk × (List Int))))) × (Option Int)} (h : m_cache_New a0 = some r) :
    Con Try.prog 33 [.v (Enc.sl eBlk) a0] (.tup [.v (Enc.ptN (Enc.pr (Enc.sl eBlk) (Enc.mpF eBlk (Enc.sl (Enc.int .i64))))) r.1, .v (Enc.err ET) r.2]) [] := by
  refine Con.of Try.func33 rfl Try.ntmps33 rfl ?_
  intro S w hF
  unfold m_cache_New at h
  refine W.seq ?_
  refine W.reg (σ' := ⟨[(0, .v (Enc.sl eBlk) a0)], []⟩) (J.cons (.none rfl) (JO.assignPtN (Enc.pr (Enc.sl eBlk) (Enc.mpF eBlk (Enc.sl (Enc.int .i64))))) rfl rfl (J.cons (.none rfl) (JO.assignNilE ET) rfl rfl (J.fin (Sw.Sub.mk id (.cons rfl (.of_eq rfl) .nil) .nil rfl)))) ?_
  refine W.seq ?_
  refine W.seq ?_
  obtain ⟨x2, hx, h⟩ := bind_e h
  refine W.reg (σ' := ⟨[(0, .v (Enc.sl eBlk) a0), (14, .v Enc.bool x2)], []⟩) ?_ ?_
  · rcases Bool.eq_false_or_eq_true (cm .lss (a0.length : Int) (1 : Int)) with hc3 | hc3
    · replace hx := cond_t hc3 hx
      obtain rfl := Option.some.inj hx
      exact (J.cons (.none rfl) (JO.move rfl) rfl rfl (J.cons (.none rfl) (JO.len rfl Try.runUnderlying24) rfl rfl (J.cons (.none rfl) (JO.cmp rfl rfl rfl) rfl rfl (J.cons (.none rfl) (JO.move rfl) rfl rfl (J.left (GK.unmet 10 rfl rfl rfl hc3) rfl (J.left (GK.unmet 10 rfl rfl rfl hc3) rfl (J.left (GK.unmet 10 rfl rfl rfl hc3) rfl (J.cons (.none rfl) (JO.pT hc3 rfl rfl) rfl rfl (J.fin (Sw.Sub.mk id (.cons rfl (.of_eq rfl) (.cons rfl (.of_eq rfl) .nil)) .nil rfl))))))))))
    · replace hx := cond_f hc3 hx
      obtain rfl := Option.some.inj hx
      exact (J.cons (.none rfl) (JO.move rfl) rfl rfl (J.cons (.none rfl) (JO.len rfl Try.runUnderlying24) rfl rfl (J.cons (.none rfl) (JO.cmp rfl rfl rfl) rfl rfl (J.cons (.none rfl) (JO.move rfl) rfl rfl (J.cons (GK.met 10 rfl rfl rfl hc3) (JO.move rfl) rfl rfl (J.cons (GK.met 10 rfl rfl rfl hc3) (JO.len rfl Try.runUnderlying24) rfl rfl (J.cons (GK.met 10 rfl rfl rfl hc3) (JO.cmp rfl rfl rfl) rfl rfl (J.cons (.none rfl) (JO.pF hc3 rfl rfl) rfl rfl (J.fin (Sw.Sub.mk id (.cons rfl (.of_eq rfl) (.cons rfl (.of_eq rfl) .nil)) .nil rfl))))))))))
  rcases Bool.eq_false_or_eq_true x2 with hc4 | hc4
  · replace h := cond_t hc4 h
    refine W.condT rfl hc4 ?_
    refine W.seq ?_
    refine W.reg (σ' := ⟨[(2, .v (Enc.ptN (Enc.pr (Enc.sl eBlk) (Enc.mpF eBlk (Enc.sl (Enc.int .i64))))) (none : (Option ((List Blk) × (List (Blk × (List Int))))))), (3, .v (Enc.err ET) (some (1 : Int)))], []⟩) (J.cons (.none rfl) (JO.mkErr Try.runUnderlying86 rfl) rfl rfl (J.cons (.none rfl) (JO.assignPtN (Enc.pr (Enc.sl eBlk) (Enc.mpF eBlk (Enc.sl (Enc.int .i64))))) rfl rfl (J.cons (.none rfl) (JO.assign rfl) rfl rfl (J.fin (Sw.Sub.mk id (.cons rfl (.of_eq rfl) (.cons rfl (.of_eq rfl) .nil)) .nil rfl))))) ?_
    refine W.ret ?_
    obtain rfl := Option.some.inj h
    exact XQ.sub (σ' := ⟨[(2, .v (Enc.ptN (Enc.pr (Enc.sl eBlk) (Enc.mpF eBlk (Enc.sl (Enc.int .i64))))) (none : (Option ((List Blk) × (List (Blk × (List Int))))))), (3, .v (Enc.err ET) (some (1 : Int)))], []⟩) (Sw.Sub.mk id (.cons rfl (.of_eq rfl) (.cons rfl (.of_eq rfl) .nil)) .nil rfl) (XQ.ret2 hF noR rfl (RV.tmp rfl) (RV.tmp rfl) .nil rfl)
  · replace h := cond_f hc4 h
    refine W.condF rfl hc4 ?_
    refine W.skip ?_
    refine W.seq ?_
    obtain ⟨v5, hv5, h⟩ := bind_e h
    refine W.reg (σ' := ⟨[(0, .v (Enc.sl eBlk) a0), (4, .ptr 103 0)], [(103, .box 150 [.ref 101000, .ref 102]), (101000, .arr 29 eBlk v5), (102, .dp (DE.mps true eBlk 3 (Enc.int .i64)) (([] : List (Blk × (List Int))), none) [])]⟩) (J.cons (.none rfl) (JO.move rfl) rfl rfl (J.cons (.none rfl) (JO.call 101000 (con_slices_Clone_api_Block_api_Block hv5) Try.call36 (.cons (.dir rfl) .nil) rfl) rfl rfl (J.cons (.none rfl) (JO.makeMapS 102 eBlk 3 (Enc.int .i64)) rfl rfl (J.cons (.none rfl) (JO.build built150 (.cons (Z.sl eBlk) (.cons (Z.mpF eBlk (Enc.sl (Enc.int .i64))) .nil)) (.cons rfl (.dir rfl) rfl rfl rfl rfl (.cons rfl (.dir rfl) rfl rfl rfl rfl .nil))) rfl rfl (J.cons (.none rfl) (JO.boxAgg 103 rfl rfl) rfl rfl (J.cons (.none rfl) (JO.assign rfl) rfl rfl (J.fin (Sw.Sub.mk id (.cons rfl (.of_eq rfl) (.cons rfl (.of_eq rfl) .nil)) (.box rfl (.cons (.of_eq rfl) (.cons (.of_eq rfl) .nil)) (.arr rfl (.dp rfl .nil))) rfl)))))))) ?_
    refine W.seq ?_
    refine W.seq ?_
    refine W.reg (σ' := ⟨[(4, .ptr 103 0), (21, .v (Enc.sl eBlk) a0), (22, .v (Enc.int .i64) (a0.length : Int)), (23, .v (Enc.int .i64) (0 : Int))], [(103, .box 150 [.ref 101000, .ref 102]), (101000, .arr 29 eBlk v5), (102, .dp (DE.mps true eBlk 3 (Enc.int .i64)) (([] : List (Blk × (List Int))), none) [])]⟩) (J.cons (.none rfl) (JO.move rfl) rfl rfl (J.cons (.none rfl) (JO.len rfl Try.runUnderlying24) rfl rfl (J.cons (.none rfl) (JO.move rfl) rfl rfl (J.fin (Sw.Sub.mk id (.cons rfl (.of_eq rfl) (.cons rfl (.of_eq rfl) (.cons rfl (.of_eq rfl) (.cons rfl (.of_eq rfl) .nil)))) (.box rfl (.cons (.of_eq rfl) (.cons (.of_eq rfl) .nil)) (.arr rfl (.dp rfl .nil))) rfl))))) ?_
    obtain ⟨o27, ho27, hb27, hr27⟩ := lp_elim h
    refine W.lp (σs := fun s20 : Int × (List (Blk × (List Int))) => ⟨[(4, .ptr 103 0), (21, .v (Enc.sl eBlk) a0), (22, .v (Enc.int .i64) (a0.length : Int)), (23, .v (Enc.int .i64) s20.1)], [(103, .box 150 [.ref 101000, .ref 102]), (101000, .arr 29 eBlk v5), (102, .dp (DE.mps true eBlk 3 (Enc.int .i64)) (s20.2, none) [])]⟩) (fun x28 : (List (Blk × (List Int))) => ⟨[(4, .ptr 103 0)], [(103, .box 150 [.ref 101000, .ref 102]), (101000, .arr 29 eBlk v5), (102, .dp (DE.mps true eBlk 3 (Enc.int .i64)) (x28, none) [])]⟩) ho27 (Sw.Sub.mk id (.cons rfl (.of_eq rfl) (.cons rfl (.of_eq rfl) (.cons rfl (.of_eq rfl) (.cons rfl (.of_eq rfl) .nil)))) (.box rfl (.cons (.of_eq rfl) (.cons (.of_eq rfl) .nil)) (.arr rfl (.dp rfl .nil))) rfl) ?_ ?_
    · intro x28 hy
      have h := hb27 _ hy
      refine W.seq ?_
      refine W.reg (σ' := ⟨[(2, .v (Enc.ptN (Enc.pr (Enc.sl eBlk) (Enc.mpF eBlk (Enc.sl (Enc.int .i64))))) (some (v5, x28))), (3, .v (Enc.err ET) (none : Option Int))], []⟩) (J.cons (.none rfl) (JO.move rfl) rfl rfl (J.sub (σ' := ⟨[(4, .pst (Enc.pr (Enc.sl eBlk) (Enc.mpF eBlk (Enc.sl (Enc.int .i64)))) (v5, x28)), (40, .pst (Enc.pr (Enc.sl eBlk) (Enc.mpF eBlk (Enc.sl (Enc.int .i64)))) (v5, x28))], []⟩) (Sw.Sub.mk id (.cons rfl (.frzP rfl rfl (.cons (.frz rfl rfl) (.cons (.frzD rfl rfl .mps) .nil)) (.prm (.one _ _) (.one _ _))) (.cons rfl (.frzP rfl rfl (.cons (.frz rfl rfl) (.cons (.frzD rfl rfl .mps) .nil)) (.prm (.one _ _) (.one _ _))) .nil)) .nil rfl) (J.cons (.none rfl) (JO.ptOf (JO.assign rfl)) rfl rfl (J.cons (.none rfl) (JO.assignNilE ET) rfl rfl (J.fin (Sw.Sub.mk id (.cons rfl (.of_eq rfl) (.cons rfl (.of_eq rfl) .nil)) .nil rfl)))))) ?_
      refine W.ret ?_
      obtain rfl := Option.some.inj h
      exact XQ.sub (σ' := ⟨[(2, .v (Enc.ptN (Enc.pr (Enc.sl eBlk) (Enc.mpF eBlk (Enc.sl (Enc.int .i64))))) (some (v5, x28))), (3, .v (Enc.err ET) (none : Option Int))], []⟩) (Sw.Sub.mk id (.cons rfl (.of_eq rfl) (.cons rfl (.of_eq rfl) .nil)) .nil rfl) (XQ.ret2 hF noR rfl (RV.tmp rfl) (RV.tmp rfl) .nil rfl)
    intro s20 r27 h
    refine W.seq ?_
    refine W.reg (σ' := ⟨[(4, .ptr 103 0), (21, .v (Enc.sl eBlk) a0), (22, .v (Enc.int .i64) (a0.length : Int)), (23, .v (Enc.int .i64) s20.1), (24, .v Enc.bool (cm .lss s20.1 (a0.length : Int)))], [(103, .box 150 [.ref 101000, .ref 102]), (101000, .arr 29 eBlk v5), (102, .dp (DE.mps true eBlk 3 (Enc.int .i64)) (s20.2, none) [])]⟩) (J.cons (.none rfl) (JO.cmp rfl rfl rfl) rfl rfl (J.fin (Sw.Sub.mk id (.cons rfl (.of_eq rfl) (.cons rfl (.of_eq rfl) (.cons rfl (.of_eq rfl) (.cons rfl (.of_eq rfl) (.cons rfl (.of_eq rfl) .nil))))) (.box rfl (.cons (.of_eq rfl) (.cons (.of_eq rfl) .nil)) (.arr rfl (.dp rfl .nil))) rfl))) ?_
    refine W.seq ?_
    rcases Bool.eq_false_or_eq_true (cm .lss s20.1 (a0.length : Int)) with hc29 | hc29
    · replace h := cond_t hc29 h
      refine W.condT rfl hc29 ?_
      refine W.skip ?_
      refine W.seq ?_
      refine W.block ?_
      refine W.seq ?_
      obtain ⟨z30, hz30, h⟩ := bind_e h
      refine W.reg (σ' := ⟨[(4, .ptr 103 0), (5, .v (Enc.int .i64) s20.1), (6, .ptr 119 0), (21, .v (Enc.sl eBlk) a0), (22, .v (Enc.int .i64) (a0.length : Int)), (23, .v (Enc.int .i64) s20.1)], [(103, .box 150 [.ref 101000, .ref 102]), (119, .box 29 [.v eBlk z30]), (101000, .arr 29 eBlk v5), (102, .dp (DE.mps true eBlk 3 (Enc.int .i64)) (s20.2, none) [])]⟩) (J.cons (.none rfl) (JO.move rfl) rfl rfl (J.cons (.none rfl) (JO.idx hz30 rfl rfl Try.runUnderlying24 Try.sizeOf29) rfl rfl (J.cons (.none rfl) (JO.loadPst rfl Try.isAgg29 Try.sizeOf29) rfl rfl (J.cons (.none rfl) (JO.alloc 119 Try.zeroValue29 rfl (.cons (Z.arr 8 (Z.int .u8)) .nil) rfl) rfl rfl (J.cons (.none rfl) (JO.assign rfl) rfl rfl (J.mut (.none rfl) (JM.store rfl rfl rfl rfl rfl rfl rfl Try.sizeOf29) (J.fin (Sw.Sub.mk id (.cons rfl (.of_eq rfl) (.cons rfl (.of_eq rfl) (.cons rfl (.of_eq rfl) (.cons rfl (.of_eq rfl) (.cons rfl (.of_eq rfl) (.cons rfl (.of_eq rfl) .nil)))))) (.box rfl (.cons (.of_eq rfl) (.cons (.of_eq rfl) .nil)) (.box rfl (.cons (.of_eq rfl) .nil) (.arr rfl (.dp rfl .nil)))) rfl)))))))) ?_
      obtain ⟨v33, hv33, h⟩ := bind_e h
      obtain ⟨v34, hv34, h⟩ := bind_e h
      refine W.dr4 (σ' := ⟨[(4, .ptr 103 0), (21, .v (Enc.sl eBlk) a0), (22, .v (Enc.int .i64) (a0.length : Int)), (23, .v (Enc.int .i64) s20.1)], [(103, .box 150 [.ref 101000, .ref 102]), (101000, .arr 29 eBlk v5), (102, .dp (DE.mps true eBlk 3 (Enc.int .i64)) (mset v33.1 v33.2.1 v34, none) [])]⟩) 11 [0, 1, 3, 7, 0, 0, 32, 127, 255, 511, 255, 2047] mixed (by exact (.cons (.none rfl) (JO.move rfl) rfl (.cons (.none rfl) (JO.nilPtr rfl) rfl (.cons (.none rfl) (JO.fieldPtr 1 rfl Try.runUnderlying150 rfl Try.sizeOf148 rfl rfl) rfl (.cons (.none rfl) (JO.load rfl rfl rfl Try.isAgg148 Try.sizeOf148) rfl (.cons (.none rfl) (JO.load rfl rfl rfl Try.isAgg29 Try.sizeOf29) rfl (.cons (.none rfl) (JO.move rfl) rfl (.cons (.none rfl) (JO.lit (e := (Enc.int .i64)) Try.runUnderlying22 Try.sizeOf3 Try.zeroValue3 rfl rfl rfl rfl (.cons (.dir rfl) .nil)) rfl (JP4.mapEntry (.none rfl) 122 hv33 rfl rfl rfl Try.runUnderlying148 Try.runUnderlying29 eq29 rfl key29 rfl SameE.arr Try.zeroValue22 rfl rfl (.pu (.none rfl) rfl (fun _ => JO.extract rfl rfl) (JP4.append (.none rfl) 123 hv34 rfl rfl (.sl rfl) Try.runUnderlying22 Try.typeInfo3 Try.sizeOf3 rfl rfl rfl rfl rfl (.pu (.none rfl) rfl (fun _ => JO.extract rfl rfl) .nil)))))))))))) (by exact (J.mut (.none rfl) (JM.entryStore (ment_lt hv33) rfl rfl rfl rfl rfl rfl) (J.fin (Sw.Sub.mk id (.cons rfl (.of_eq rfl) (.cons rfl (.of_eq rfl) (.cons rfl (.of_eq rfl) (.cons rfl (.of_eq rfl) .nil)))) (.box rfl (.cons (.of_eq rfl) (.cons (.of_eq rfl) .nil)) (.arr rfl (.dp rfl .nil))) rfl)))) rfl (by decide +kernel) (by decide +kernel) (by decide +kernel) (by kernel_rfl) (by kernel_rfl) ?_
      refine W.fall ?_
      refine W.reg (σ' := ⟨[(4, .ptr 103 0), (21, .v (Enc.sl eBlk) a0), (22, .v (Enc.int .i64) (a0.length : Int)), (23, .v (Enc.int .i64) (ar .add .i64 s20.1 (1 : Int)))], [(103, .box 150 [.ref 101000, .ref 102]), (101000, .arr 29 eBlk v5), (102, .dp (DE.mps true eBlk 3 (Enc.int .i64)) (mset v33.1 v33.2.1 v34, none) [])]⟩) (J.cons (.none rfl) (JO.arith rfl rfl rfl) rfl rfl (J.cons (.none rfl) (JO.move rfl) rfl rfl (J.fin (Sw.Sub.mk id (.cons rfl (.of_eq rfl) (.cons rfl (.of_eq rfl) (.cons rfl (.of_eq rfl) (.cons rfl (.of_eq rfl) .nil)))) (.box rfl (.cons (.of_eq rfl) (.cons (.of_eq rfl) .nil)) (.arr rfl (.dp rfl .nil))) rfl)))) ?_
      obtain rfl := Option.some.inj h
      exact W.next (Sw.Sub.mk id (.cons rfl (.of_eq rfl) (.cons rfl (.of_eq rfl) (.cons rfl (.of_eq rfl) (.cons rfl (.of_eq rfl) .nil)))) (.box rfl (.cons (.of_eq rfl) (.cons (.of_eq rfl) .nil)) (.arr rfl (.dp rfl .nil))) rfl)
    · replace h := cond_f hc29 h
      refine W.condF rfl hc29 ?_
      refine W.exit ?_
      obtain rfl := Option.some.inj h
      exact XQ.brk (Sw.Sub.mk id (.cons rfl (.of_eq rfl) .nil) (.box rfl (.cons (.of_eq rfl) (.cons (.of_eq rfl) .nil)) (.arr rfl (.dp rfl .nil))) rfl)
set_option maxRecDepth 100000 in
set_option maxHeartbeats 4000000 in
theorem con_plan_zero_tell {a0 : Unit} {a1 : (Int × Blk)} {r : (Int × Int × Int × Blk) × Bool} (h : m_plan_zero_tell a0 a1 = some r) :
    Con Try.prog 120 [.v Enc.st0 a0, .v (Enc.pr (Enc.int .i64) eBlk) a1] (.tup [.v (Enc.pr (Enc.int .i64) (Enc.pr (Enc.int .i64) (Enc.pr (Enc.int .i64) eBlk))) r.1, .v Enc.bool r.2]) [] := by
  refine Con.of Try.func120 rfl Try.ntmps120 rfl ?_
  intro S w hF
  unfold m_plan_zero_tell at h
  refine W.seq ?_
  refine W.reg (σ' := ⟨[(3, .ptr 102 0), (4, .ptr 103 0)], [(102, .box 41 [.v (Enc.int .i64) a1.1, .v eBlk a1.2]), (103, .box 43 [.v (Enc.int .i64) (0 : Int), .v (Enc.int .i64) (0 : Int), .v (Enc.int .i64) (0 : Int), .v eBlk zblk])]⟩) (J.cons (.none rfl) (JO.box 101 rfl (.one _ _) rfl) rfl rfl (J.cons (.none rfl) (JO.box 102 rfl (.prm (.one _ _) (.one _ _)) rfl) rfl rfl (J.cons (.none rfl) (JO.alloc 103 Try.zeroValue43 rfl (.cons (Z.int .i64) (.cons (Z.int .i64) (.cons (Z.int .i64) (.cons (Z.arr 8 (Z.int .u8)) .nil)))) rfl) rfl rfl (J.cons (.none rfl) (JO.assign rfl) rfl rfl (J.fin (Sw.Sub.mk id (.cons rfl (.of_eq rfl) (.cons rfl (.of_eq rfl) .nil)) (.box rfl (.cons (.of_eq rfl) (.cons (.of_eq rfl) .nil)) (.box rfl (.cons (.of_eq rfl) (.cons (.of_eq rfl) (.cons (.of_eq rfl) (.cons (.of_eq rfl) .nil)))) .nil)) rfl)))))) ?_
  refine W.seq ?_
  refine W.dr2 (σ' := ⟨[(4, .ptr 103 0), (5, .v Enc.bool (decide (a1.2 = zblk)))], [(103, .box 43 [.v (Enc.int .i64) a1.1, .v (Enc.int .i64) (0 : Int), .v (Enc.int .i64) (0 : Int), .v eBlk zblk])]⟩) 9 [0, 1, 3, 0, 8, 0, 56, 7, 255] mixed (by exact (.cons (.none rfl) (JO.fieldPtr 0 rfl Try.runUnderlying41 rfl Try.sizeOf3 rfl rfl) rfl rfl (.cons (.none rfl) (JO.load rfl rfl rfl Try.isAgg3 Try.sizeOf3) rfl rfl (.cons (.none rfl) (JO.build built43 (.cons (Z.int .i64) (.cons (Z.int .i64) (.cons (Z.int .i64) (.cons (Z.arr 8 (Z.int .u8)) .nil)))) (.cons rfl (.dir rfl) rfl rfl rfl rfl (.cons rfl (.dir rfl) rfl rfl rfl rfl .nil))) rfl rfl (.cons (.none rfl) (JO.fieldPtr 1 rfl Try.runUnderlying41 rfl Try.sizeOf29 rfl rfl) rfl rfl (.cons (.none rfl) (JO.load rfl rfl rfl Try.isAgg29 Try.sizeOf29) rfl rfl (.cons (.none rfl) (JO.zeroArr (e := eBlk) (v := zblk) Try.typeInfo29 Try.runUnderlying29 Try.typeInfo5 rfl rfl (Z.arr 8 (Z.int .u8))) rfl rfl (.cons (.none rfl) (JO.eqV eq29 rfl rfl Try.eqGuardType29 rfl rfl) rfl rfl (JP2.storeAgg (.none rfl) rfl rfl rfl rfl rfl rfl Try.sizeOf43 (.cons (.none rfl) (JO.assign rfl) rfl rfl .nil)))))))))) (by exact (J.fin (Sw.Sub.mk id (.cons rfl (.of_eq rfl) (.cons rfl (.of_eq rfl) .nil)) (.box rfl (.cons (.of_eq rfl) (.cons (.of_eq rfl) (.cons (.of_eq rfl) (.cons (.of_eq rfl) .nil)))) .nil) rfl))) rfl (by decide +kernel) (by decide +kernel) (by decide +kernel) (by kernel_rfl) ?_
  refine W.ret ?_
  obtain rfl := Option.some.inj h
  exact XQ.sub (σ' := ⟨[(4, .ptr 90 0), (5, .v Enc.bool (decide (a1.2 = zblk)))], [(90, .box 43 [.v (Enc.int .i64) a1.1, .v (Enc.int .i64) (0 : Int), .v (Enc.int .i64) (0 : Int), .v eBlk zblk])]⟩) (Sw.Sub.mk (rn [(90, 103)]) (.cons rfl (.of_eq rfl) (.cons rfl (.of_eq rfl) .nil)) (.box rfl (.cons (.of_eq rfl) (.cons (.of_eq rfl) (.cons (.of_eq rfl) (.cons (.of_eq rfl) .nil)))) .nil) rfl) (XQ.ret2 hF noR rfl (RV.cellAll rfl rfl (.prm (.one _ _) (.prm (.one _ _) (.prm (.one _ _) (.one _ _)))) Try.isAgg43 Try.sizeOf43) (RV.tmp rfl) .nil rfl)
set_option maxRecDepth 100000 in
set_option maxHeartbeats 4000000 in
theorem con_cache_Index_Find {a0 : (Option ((List Blk) × (List (Blk × (List Int)))))} {a1 : Blk} {r : Int × Bool} (h : m_cache_Index_Find a0 a1 = some r) :
    Con Try.prog 119 [.v (Enc.ptN (Enc.pr (Enc.sl eBlk) (Enc.mpF eBlk (Enc.sl (Enc.int .i64))))) a0, .v eBlk a1] (.tup [.v (Enc.int .i64) r.1, .v Enc.bool r.2]) [] := by
  refine Con.of Try.func119 rfl Try.ntmps119 rfl ?_
  intro S w hF
  unfold m_cache_Index_Find at h
  refine W.seq ?_
  refine W.reg (σ' := ⟨[(0, .v (Enc.ptN (Enc.pr (Enc.sl eBlk) (Enc.mpF eBlk (Enc.sl (Enc.int .i64))))) a0), (3, .ptr 101 0)], [(101, .box 29 [.v eBlk a1])]⟩) (J.cons (.none rfl) (JO.box 101 rfl (.one _ _) rfl) rfl rfl (J.cons (.none rfl) (JO.assign rfl) rfl rfl (J.cons (.none rfl) (JO.assign rfl) rfl rfl (J.fin (Sw.Sub.mk id (.cons rfl (.of_eq rfl) (.cons rfl (.of_eq rfl) .nil)) (.box rfl (.cons (.of_eq rfl) .nil) .nil) rfl))))) ?_
  refine W.seq ?_
  obtain ⟨z1, hz1, h⟩ := bind_e h
  refine W.dr2 (σ' := ⟨[(6, .v (Enc.sl (Enc.int .i64)) ((mget z1.2 a1).getD ([] : (List Int))))], []⟩) 7 [0, 1, 3, 7, 0, 31, 63] mixed (by exact (.cons (.none rfl) (JO.move rfl) rfl rfl (.cons (.none rfl) (JO.nilPtN hz1 rfl) rfl rfl (.cons (.none rfl) (JO.fieldPst rfl Try.runUnderlying150 rfl Try.sizeOf148 rfl (.snd .here) rfl) rfl rfl (.cons (.none rfl) (JO.loadPst rfl Try.isAgg148 Try.sizeOf148) rfl rfl (.cons (.none rfl) (JO.load rfl rfl rfl Try.isAgg29 Try.sizeOf29) rfl rfl (.cons (.none rfl) (JO.lookupF rfl rfl Try.runUnderlying148 Try.runUnderlying29 eq29 rfl key29 rfl Try.zeroValue22 (fun S w => ⟨_, (Z.sl (Enc.int .i64)) S w, rfl⟩)) rfl rfl (.cons (.none rfl) (JO.assign rfl) rfl rfl .nil)))))))) (by exact (J.fin (Sw.Sub.mk id (.cons rfl (.of_eq rfl) .nil) .nil rfl))) rfl (by decide +kernel) (by decide +kernel) (by decide +kernel) (by kernel_rfl) ?_
  refine W.seq ?_
  refine W.seq ?_
  refine W.reg (σ' := ⟨[(6, .v (Enc.sl (Enc.int .i64)) ((mget z1.2 a1).getD ([] : (List Int)))), (15, .v Enc.bool (cm .eql (((mget z1.2 a1).getD ([] : (List Int))).length : Int) (0 : Int)))], []⟩) (J.cons (.none rfl) (JO.move rfl) rfl rfl (J.cons (.none rfl) (JO.len rfl Try.runUnderlying22) rfl rfl (J.cons (.none rfl) (JO.cmp rfl rfl rfl) rfl rfl (J.fin (Sw.Sub.mk id (.cons rfl (.of_eq rfl) (.cons rfl (.of_eq rfl) .nil)) .nil rfl))))) ?_
  rcases Bool.eq_false_or_eq_true (cm .eql (((mget z1.2 a1).getD ([] : (List Int))).length : Int) (0 : Int)) with hc2 | hc2
  · replace h := cond_t hc2 h
    refine W.condT rfl hc2 ?_
    refine W.seq ?_
    refine W.reg (σ' := ⟨[(4, .v (Enc.int .i64) (0 : Int)), (5, .v Enc.bool false)], []⟩) (J.cons (.none rfl) (JO.assign rfl) rfl rfl (J.cons (.none rfl) (JO.assign rfl) rfl rfl (J.fin (Sw.Sub.mk id (.cons rfl (.of_eq rfl) (.cons rfl (.of_eq rfl) .nil)) .nil rfl)))) ?_
    refine W.ret ?_
    obtain rfl := Option.some.inj h
    exact XQ.sub (σ' := ⟨[(4, .v (Enc.int .i64) (0 : Int)), (5, .v Enc.bool false)], []⟩) (Sw.Sub.mk id (.cons rfl (.of_eq rfl) (.cons rfl (.of_eq rfl) .nil)) .nil rfl) (XQ.ret2 hF noR rfl (RV.tmp rfl) (RV.tmp rfl) .nil rfl)
  · replace h := cond_f hc2 h
    refine W.condF rfl hc2 ?_
    refine W.skip ?_
    refine W.seq ?_
    obtain ⟨z3, hz3, h⟩ := bind_e h
    refine W.reg (σ' := ⟨[(4, .v (Enc.int .i64) z3), (5, .v Enc.bool true)], []⟩) (J.cons (.none rfl) (JO.move rfl) rfl rfl (J.cons (.none rfl) (JO.idx hz3 rfl rfl Try.runUnderlying22 Try.sizeOf3) rfl rfl (J.cons (.none rfl) (JO.loadPst rfl Try.isAgg3 Try.sizeOf3) rfl rfl (J.cons (.none rfl) (JO.assign rfl) rfl rfl (J.cons (.none rfl) (JO.assign rfl) rfl rfl (J.fin (Sw.Sub.mk id (.cons rfl (.of_eq rfl) (.cons rfl (.of_eq rfl) .nil)) .nil rfl))))))) ?_
    refine W.ret ?_
    obtain rfl := Option.some.inj h
    exact XQ.sub (σ' := ⟨[(4, .v (Enc.int .i64) z3), (5, .v Enc.bool true)], []⟩) (Sw.Sub.mk id (.cons rfl (.of_eq rfl) (.cons rfl (.of_eq rfl) .nil)) .nil rfl) (XQ.ret2 hF noR rfl (RV.tmp rfl) (RV.tmp rfl) .nil rfl)
set_option maxRecDepth 100000 in
set_option maxHeartbeats 4000000 in
theorem con_plan_same_tell {a0 : ((Option ((List Blk) × (List (Blk × (List Int))))))} {a1 : (Int × Blk)} {r : (Int × Int × Int × Blk) × Bool} (h : m_plan_same_tell a0 a1 = some r) :
    Con Try.prog 121 [.v (Enc.one1 (Enc.ptN (Enc.pr (Enc.sl eBlk) (Enc.mpF eBlk (Enc.sl (Enc.int .i64)))))) a0, .v (Enc.pr (Enc.int .i64) eBlk) a1] (.tup [.v (Enc.pr (Enc.int .i64) (Enc.pr (Enc.int .i64) (Enc.pr (Enc.int .i64) eBlk))) r.1, .v Enc.bool r.2]) [] := by
  refine Con.of Try.func121 rfl Try.ntmps121 rfl ?_
  intro S w hF
  unfold m_plan_same_tell at h
  refine W.seq ?_
  refine W.reg (σ' := ⟨[(2, .ptr 101 0), (3, .ptr 102 0), (4, .ptr 103 0)], [(101, .box 99 [.v (Enc.ptN (Enc.pr (Enc.sl eBlk) (Enc.mpF eBlk (Enc.sl (Enc.int .i64))))) a0]), (102, .box 41 [.v (Enc.int .i64) a1.1, .v eBlk a1.2]), (103, .box 43 [.v (Enc.int .i64) (0 : Int), .v (Enc.int .i64) (0 : Int), .v (Enc.int .i64) (0 : Int), .v eBlk zblk])]⟩) (J.cons (.none rfl) (JO.box 101 rfl (.one1 (.one _ _)) rfl) rfl rfl (J.cons (.none rfl) (JO.box 102 rfl (.prm (.one _ _) (.one _ _)) rfl) rfl rfl (J.cons (.none rfl) (JO.alloc 103 Try.zeroValue43 rfl (.cons (Z.int .i64) (.cons (Z.int .i64) (.cons (Z.int .i64) (.cons (Z.arr 8 (Z.int .u8)) .nil)))) rfl) rfl rfl (J.cons (.none rfl) (JO.assign rfl) rfl rfl (J.fin (Sw.Sub.mk id (.cons rfl (.of_eq rfl) (.cons rfl (.of_eq rfl) (.cons rfl (.of_eq rfl) .nil))) (.box rfl (.cons (.of_eq rfl) .nil) (.box rfl (.cons (.of_eq rfl) (.cons (.of_eq rfl) .nil)) (.box rfl (.cons (.of_eq rfl) (.cons (.of_eq rfl) (.cons (.of_eq rfl) (.cons (.of_eq rfl) .nil)))) .nil))) rfl)))))) ?_
  refine W.seq ?_
  obtain ⟨v1, hv1, h⟩ := bind_e h
  refine W.reg (σ' := ⟨[(3, .ptr 102 0), (4, .ptr 103 0), (6, .v (Enc.int .i64) v1.1), (7, .v Enc.bool v1.2)], [(102, .box 41 [.v (Enc.int .i64) a1.1, .v eBlk a1.2]), (103, .box 43 [.v (Enc.int .i64) (0 : Int), .v (Enc.int .i64) (0 : Int), .v (Enc.int .i64) (0 : Int), .v eBlk zblk])]⟩) (J.cons (.none rfl) (JO.fieldPtr 0 rfl Try.runUnderlying99 rfl Try.sizeOf93 rfl rfl) rfl rfl (J.cons (.none rfl) (JO.load rfl rfl rfl Try.isAgg93 Try.sizeOf93) rfl rfl (J.cons (.none rfl) (JO.fieldPtr 1 rfl Try.runUnderlying41 rfl Try.sizeOf29 rfl rfl) rfl rfl (J.cons (.none rfl) (JO.load rfl rfl rfl Try.isAgg29 Try.sizeOf29) rfl rfl (J.cons (.none rfl) (JO.call0 (con_cache_Index_Find hv1) Try.call119 (.cons (.dir rfl) (.cons (.dir rfl) .nil))) rfl rfl (J.cons (.none rfl) (JO.move rfl) rfl rfl (J.cons (.none rfl) (JO.extract rfl rfl) rfl rfl (J.cons (.none rfl) (JO.extract rfl rfl) rfl rfl (J.cons (.none rfl) (JO.assign rfl) rfl rfl (J.cons (.none rfl) (JO.assign rfl) rfl rfl (J.fin (Sw.Sub.mk id (.cons rfl (.of_eq rfl) (.cons rfl (.of_eq rfl) (.cons rfl (.of_eq rfl) (.cons rfl (.of_eq rfl) .nil)))) (.box rfl (.cons (.of_eq rfl) (.cons (.of_eq rfl) .nil)) (.box rfl (.cons (.of_eq rfl) (.cons (.of_eq rfl) (.cons (.of_eq rfl) (.cons (.of_eq rfl) .nil)))) .nil)) rfl)))))))))))) ?_
  refine W.seq ?_
  refine W.reg (σ' := ⟨[(4, .ptr 103 0), (5, .v Enc.bool v1.2)], [(103, .box 43 [.v (Enc.int .i64) a1.1, .v (Enc.int .i64) (1 : Int), .v (Enc.int .i64) v1.1, .v eBlk zblk])]⟩) (J.cons (.none rfl) (JO.fieldPtr 0 rfl Try.runUnderlying41 rfl Try.sizeOf3 rfl rfl) rfl rfl (J.cons (.none rfl) (JO.load rfl rfl rfl Try.isAgg3 Try.sizeOf3) rfl rfl (J.cons (.none rfl) (JO.move rfl) rfl rfl (J.cons (.none rfl) (JO.build built43 (.cons (Z.int .i64) (.cons (Z.int .i64) (.cons (Z.int .i64) (.cons (Z.arr 8 (Z.int .u8)) .nil)))) (.cons rfl (.dir rfl) rfl rfl rfl rfl (.cons rfl (.dir rfl) rfl rfl rfl rfl (.cons rfl (.dir rfl) rfl rfl rfl rfl .nil)))) rfl rfl (J.cons (.none rfl) (JO.move rfl) rfl rfl (J.mut (.none rfl) (JM.storeAgg rfl rfl rfl rfl rfl rfl Try.sizeOf43) (J.cons (.none rfl) (JO.assign rfl) rfl rfl (J.fin (Sw.Sub.mk id (.cons rfl (.of_eq rfl) (.cons rfl (.of_eq rfl) .nil)) (.box rfl (.cons (.of_eq rfl) (.cons (.of_eq rfl) (.cons (.of_eq rfl) (.cons (.of_eq rfl) .nil)))) .nil) rfl))))))))) ?_
  refine W.ret ?_
  obtain rfl := Option.some.inj h
  exact XQ.sub (σ' := ⟨[(4, .ptr 90 0), (5, .v Enc.bool v1.2)], [(90, .box 43 [.v (Enc.int .i64) a1.1, .v (Enc.int .i64) (1 : Int), .v (Enc.int .i64) v1.1, .v eBlk zblk])]⟩) (Sw.Sub.mk (rn [(90, 103)]) (.cons rfl (.of_eq rfl) (.cons rfl (.of_eq rfl) .nil)) (.box rfl (.cons (.of_eq rfl) (.cons (.of_eq rfl) (.cons (.of_eq rfl) (.cons (.of_eq rfl) .nil)))) .nil) rfl) (XQ.ret2 hF noR rfl (RV.cellAll rfl rfl (.prm (.one _ _) (.prm (.one _ _) (.prm (.one _ _) (.one _ _)))) Try.isAgg43 Try.sizeOf43) (RV.tmp rfl) .nil rfl)
set_option maxRecDepth 100000 in
set_option maxHeartbeats 4000000 in
theorem con_slices_Index_api_Block_api_Block {a0 : (List Blk)} {a1 : Blk} {r : Int} (h : m_slices_Index_api_Block_api_Block a0 a1 = some r) :
    Con Try.prog 124 [.v (Enc.sl eBlk) a0, .v eBlk a1] (.v (Enc.int .i64) r) [] := by
  refine Con.of Try.func124 rfl Try.ntmps124 rfl ?_
  intro S w hF
  unfold m_slices_Index_api_Block_api_Block at h
  refine W.seq ?_
  refine W.reg (σ' := ⟨[(0, .v (Enc.sl eBlk) a0), (3, .ptr 101 0)], [(101, .box 29 [.v eBlk a1])]⟩) (J.cons (.none rfl) (JO.box 101 rfl (.one _ _) rfl) rfl rfl (J.cons (.none rfl) (JO.assign rfl) rfl rfl (J.fin (Sw.Sub.mk id (.cons rfl (.of_eq rfl) (.cons rfl (.of_eq rfl) .nil)) (.box rfl (.cons (.of_eq rfl) .nil) .nil) rfl)))) ?_
  refine W.seq ?_
  refine W.seq ?_
  refine W.reg (σ' := ⟨[(0, .v (Enc.sl eBlk) a0), (3, .ptr 101 0), (7, .v (Enc.int .i64) (a0.length : Int)), (8, .v (Enc.int .i64) (0 : Int))], [(101, .box 29 [.v eBlk a1])]⟩) (J.cons (.none rfl) (JO.move rfl) rfl rfl (J.cons (.none rfl) (JO.len rfl Try.runUnderlying24) rfl rfl (J.cons (.none rfl) (JO.move rfl) rfl rfl (J.fin (Sw.Sub.mk id (.cons rfl (.of_eq rfl) (.cons rfl (.of_eq rfl) (.cons rfl (.of_eq rfl) (.cons rfl (.of_eq rfl) .nil)))) (.box rfl (.cons (.of_eq rfl) .nil) .nil) rfl))))) ?_
  obtain ⟨o13, ho13, hb13, hr13⟩ := lp_elim h
  refine W.lp (σs := fun s9 : Int => ⟨[(0, .v (Enc.sl eBlk) a0), (3, .ptr 101 0), (7, .v (Enc.int .i64) (a0.length : Int)), (8, .v (Enc.int .i64) s9)], [(101, .box 29 [.v eBlk a1])]⟩) (fun x14 : Unit => ⟨[], []⟩) ho13 (Sw.Sub.mk id (.cons rfl (.of_eq rfl) (.cons rfl (.of_eq rfl) (.cons rfl (.of_eq rfl) (.cons rfl (.of_eq rfl) .nil)))) (.box rfl (.cons (.of_eq rfl) .nil) .nil) rfl) ?_ ?_
  · intro x14 hy
    have h := hb13 _ hy
    refine W.seq ?_
    refine W.reg (σ' := ⟨[(4, .v (Enc.int .i64) (-1 : Int))], []⟩) (J.cons (.none rfl) (JO.assign rfl) rfl rfl (J.fin (Sw.Sub.mk id (.cons rfl (.of_eq rfl) .nil) .nil rfl))) ?_
    refine W.ret ?_
    obtain rfl := Option.some.inj h
    exact XQ.sub (σ' := ⟨[(4, .v (Enc.int .i64) (-1 : Int))], []⟩) (Sw.Sub.mk id (.cons rfl (.of_eq rfl) .nil) .nil rfl) (XQ.ret1 hF noR rfl (RV.tmp rfl) .nil rfl)
  intro s9 r13 h
  refine W.seq ?_
  refine W.reg (σ' := ⟨[(0, .v (Enc.sl eBlk) a0), (3, .ptr 101 0), (7, .v (Enc.int .i64) (a0.length : Int)), (8, .v (Enc.int .i64) s9), (9, .v Enc.bool (cm .lss s9 (a0.length : Int)))], [(101, .box 29 [.v eBlk a1])]⟩) (J.cons (.none rfl) (JO.cmp rfl rfl rfl) rfl rfl (J.fin (Sw.Sub.mk id (.cons rfl (.of_eq rfl) (.cons rfl (.of_eq rfl) (.cons rfl (.of_eq rfl) (.cons rfl (.of_eq rfl) (.cons rfl (.of_eq rfl) .nil))))) (.box rfl (.cons (.of_eq rfl) .nil) .nil) rfl))) ?_
  refine W.seq ?_
  rcases Bool.eq_false_or_eq_true (cm .lss s9 (a0.length : Int)) with hc15 | hc15
  · replace h := cond_t hc15 h
    refine W.condT rfl hc15 ?_
    refine W.skip ?_
    refine W.seq ?_
    refine W.block ?_
    refine W.seq ?_
    refine W.reg (σ' := ⟨[(0, .v (Enc.sl eBlk) a0), (3, .ptr 101 0), (5, .v (Enc.int .i64) s9), (7, .v (Enc.int .i64) (a0.length : Int)), (8, .v (Enc.int .i64) s9)], [(101, .box 29 [.v eBlk a1])]⟩) (J.cons (.none rfl) (JO.move rfl) rfl rfl (J.cons (.none rfl) (JO.assign rfl) rfl rfl (J.fin (Sw.Sub.mk id (.cons rfl (.of_eq rfl) (.cons rfl (.of_eq rfl) (.cons rfl (.of_eq rfl) (.cons rfl (.of_eq rfl) (.cons rfl (.of_eq rfl) .nil))))) (.box rfl (.cons (.of_eq rfl) .nil) .nil) rfl)))) ?_
    refine W.seq ?_
    obtain ⟨z16, hz16, h⟩ := bind_e h
    refine W.dr2 (σ' := ⟨[(0, .v (Enc.sl eBlk) a0), (3, .ptr 101 0), (5, .v (Enc.int .i64) s9), (7, .v (Enc.int .i64) (a0.length : Int)), (8, .v (Enc.int .i64) s9), (16, .v Enc.bool (decide (a1 = z16)))], [(101, .box 29 [.v eBlk a1])]⟩) 6 [0, 0, 0, 6, 14, 31] mixed (by exact (.cons (.none rfl) (JO.load rfl rfl rfl Try.isAgg29 Try.sizeOf29) rfl rfl (.cons (.none rfl) (JO.move rfl) rfl rfl (.cons (.none rfl) (JO.move rfl) rfl rfl (.cons (.none rfl) (JO.idx hz16 rfl rfl Try.runUnderlying24 Try.sizeOf29) rfl rfl (.cons (.none rfl) (JO.loadPst rfl Try.isAgg29 Try.sizeOf29) rfl rfl (.cons (.none rfl) (JO.eqV eq29 rfl rfl Try.eqGuardType29 rfl rfl) rfl rfl .nil))))))) (by exact (J.fin (Sw.Sub.mk id (.cons rfl (.of_eq rfl) (.cons rfl (.of_eq rfl) (.cons rfl (.of_eq rfl) (.cons rfl (.of_eq rfl) (.cons rfl (.of_eq rfl) (.cons rfl (.of_eq rfl) .nil)))))) (.box rfl (.cons (.of_eq rfl) .nil) .nil) rfl))) rfl (by decide +kernel) (by decide +kernel) (by decide +kernel) (by kernel_rfl) ?_
    rcases Bool.eq_false_or_eq_true (decide (a1 = z16)) with hc17 | hc17
    · replace h := cond_t hc17 h
      refine W.condT rfl hc17 ?_
      refine W.seq ?_
      refine W.reg (σ' := ⟨[(4, .v (Enc.int .i64) s9)], []⟩) (J.cons (.none rfl) (JO.move rfl) rfl rfl (J.cons (.none rfl) (JO.assign rfl) rfl rfl (J.fin (Sw.Sub.mk id (.cons rfl (.of_eq rfl) .nil) .nil rfl)))) ?_
      refine W.ret ?_
      refine XQ.ret ?_
      obtain rfl := Option.some.inj h
      refine XQ.lret fun ho => ?_
      obtain rfl := hr13 _ ho
      exact XQ.sub (σ' := ⟨[(4, .v (Enc.int .i64) s9)], []⟩) (Sw.Sub.mk id (.cons rfl (.of_eq rfl) .nil) .nil rfl) (XQ.ret1 hF noR rfl (RV.tmp rfl) .nil rfl)
    · replace h := cond_f hc17 h
      refine W.condF rfl hc17 ?_
      refine W.skip ?_
      refine W.fall ?_
      refine W.reg (σ' := ⟨[(0, .v (Enc.sl eBlk) a0), (3, .ptr 101 0), (7, .v (Enc.int .i64) (a0.length : Int)), (8, .v (Enc.int .i64) (ar .add .i64 s9 (1 : Int)))], [(101, .box 29 [.v eBlk a1])]⟩) (J.cons (.none rfl) (JO.arith rfl rfl rfl) rfl rfl (J.cons (.none rfl) (JO.move rfl) rfl rfl (J.fin (Sw.Sub.mk id (.cons rfl (.of_eq rfl) (.cons rfl (.of_eq rfl) (.cons rfl (.of_eq rfl) (.cons rfl (.of_eq rfl) .nil)))) (.box rfl (.cons (.of_eq rfl) .nil) .nil) rfl)))) ?_
      obtain rfl := Option.some.inj h
      exact W.next (Sw.Sub.mk id (.cons rfl (.of_eq rfl) (.cons rfl (.of_eq rfl) (.cons rfl (.of_eq rfl) (.cons rfl (.of_eq rfl) .nil)))) (.box rfl (.cons (.of_eq rfl) .nil) .nil) rfl)
  · replace h := cond_f hc15 h
    refine W.condF rfl hc15 ?_
    refine W.exit ?_
    obtain rfl := Option.some.inj h
    exact XQ.brk (Sw.Sub.mk id .nil .nil rfl)
set_option maxRecDepth 100000 in
set_option maxHeartbeats 4000000 in
theorem con_cache_Find {a0 : (List Blk)} {a1 : Blk} {r : Int × Bool} (h : m_cache_Find a0 a1 = some r) :
    Con Try.prog 123 [.v (Enc.sl eBlk) a0, .v eBlk a1] (.tup [.v (Enc.int .i64) r.1, .v Enc.bool r.2]) [] := by
  refine Con.of Try.func123 rfl Try.ntmps123 rfl ?_
  intro S w hF
  unfold m_cache_Find at h
  refine W.seq ?_
  refine W.reg (σ' := ⟨[(0, .v (Enc.sl eBlk) a0), (3, .ptr 101 0)], [(101, .box 29 [.v eBlk a1])]⟩) (J.cons (.none rfl) (JO.box 101 rfl (.one _ _) rfl) rfl rfl (J.cons (.none rfl) (JO.assign rfl) rfl rfl (J.cons (.none rfl) (JO.assign rfl) rfl rfl (J.fin (Sw.Sub.mk id (.cons rfl (.of_eq rfl) (.cons rfl (.of_eq rfl) .nil)) (.box rfl (.cons (.of_eq rfl) .nil) .nil) rfl))))) ?_
  refine W.seq ?_
  obtain ⟨v1, hv1, h⟩ := bind_e h
  refine W.reg (σ' := ⟨[(6, .v (Enc.int .i64) v1)], []⟩) (J.cons (.none rfl) (JO.move rfl) rfl rfl (J.cons (.none rfl) (JO.load rfl rfl rfl Try.isAgg29 Try.sizeOf29) rfl rfl (J.cons (.none rfl) (JO.call0 (con_slices_Index_api_Block_api_Block hv1) Try.call124 (.cons (.dir rfl) (.cons (.dir rfl) .nil))) rfl rfl (J.cons (.none rfl) (JO.assign rfl) rfl rfl (J.fin (Sw.Sub.mk id (.cons rfl (.of_eq rfl) .nil) .nil rfl)))))) ?_
  refine W.seq ?_
  refine W.reg (σ' := ⟨[(4, .v (Enc.int .i64) (max v1 (0 : Int))), (5, .v Enc.bool (cm .geq v1 (0 : Int)))], []⟩) (J.cons (.none rfl) (JO.move rfl) rfl rfl (J.cons (.none rfl) (JO.gmax rfl rfl) rfl rfl (J.cons (.none rfl) (JO.move rfl) rfl rfl (J.cons (.none rfl) (JO.cmp rfl rfl rfl) rfl rfl (J.cons (.none rfl) (JO.assign rfl) rfl rfl (J.cons (.none rfl) (JO.assign rfl) rfl rfl (J.fin (Sw.Sub.mk id (.cons rfl (.of_eq rfl) (.cons rfl (.of_eq rfl) .nil)) .nil rfl)))))))) ?_
  refine W.ret ?_
  obtain rfl := Option.some.inj h
  exact XQ.sub (σ' := ⟨[(4, .v (Enc.int .i64) (max v1 (0 : Int))), (5, .v Enc.bool (cm .geq v1 (0 : Int)))], []⟩) (Sw.Sub.mk id (.cons rfl (.of_eq rfl) (.cons rfl (.of_eq rfl) .nil)) .nil rfl) (XQ.ret2 hF noR rfl (RV.tmp rfl) (RV.tmp rfl) .nil rfl)
set_option maxRecDepth 100000 in
set_option maxHeartbeats 4000000 in
theorem con_plan_cached_tell {a0 : ((List Blk))} {a1 : (Int × Blk)} {r : (Int × Int × Int × Blk) × Bool} (h : m_plan_cached_tell a0 a1 = some r) :
    Con Try.prog 122 [.v (Enc.one1 (Enc.sl eBlk)) a0, .v (Enc.pr (Enc.int .i64) eBlk) a1] (.tup [.v (Enc.pr (Enc.int .i64) (Enc.pr (Enc.int .i64) (Enc.pr (Enc.int .i64) eBlk))) r.1, .v Enc.bool r.2]) [] := by
  refine Con.of Try.func122 rfl Try.ntmps122 rfl ?_
  intro S w hF
  unfold m_plan_cached_tell at h
  refine W.seq ?_
  refine W.reg (σ' := ⟨[(2, .ptr 101 0), (3, .ptr 102 0), (4, .ptr 103 0)], [(101, .box 101 [.v (Enc.sl eBlk) a0]), (102, .box 41 [.v (Enc.int .i64) a1.1, .v eBlk a1.2]), (103, .box 43 [.v (Enc.int .i64) (0 : Int), .v (Enc.int .i64) (0 : Int), .v (Enc.int .i64) (0 : Int), .v eBlk zblk])]⟩) (J.cons (.none rfl) (JO.box 101 rfl (.one1 (.one _ _)) rfl) rfl rfl (J.cons (.none rfl) (JO.box 102 rfl (.prm (.one _ _) (.one _ _)) rfl) rfl rfl (J.cons (.none rfl) (JO.alloc 103 Try.zeroValue43 rfl (.cons (Z.int .i64) (.cons (Z.int .i64) (.cons (Z.int .i64) (.cons (Z.arr 8 (Z.int .u8)) .nil)))) rfl) rfl rfl (J.cons (.none rfl) (JO.assign rfl) rfl rfl (J.fin (Sw.Sub.mk id (.cons rfl (.of_eq rfl) (.cons rfl (.of_eq rfl) (.cons rfl (.of_eq rfl) .nil))) (.box rfl (.cons (.of_eq rfl) .nil) (.box rfl (.cons (.of_eq rfl) (.cons (.of_eq rfl) .nil)) (.box rfl (.cons (.of_eq rfl) (.cons (.of_eq rfl) (.cons (.of_eq rfl) (.cons (.of_eq rfl) .nil)))) .nil))) rfl)))))) ?_
  refine W.seq ?_
  obtain ⟨v1, hv1, h⟩ := bind_e h
  refine W.reg (σ' := ⟨[(3, .ptr 102 0), (4, .ptr 103 0), (6, .v (Enc.int .i64) v1.1), (7, .v Enc.bool v1.2)], [(102, .box 41 [.v (Enc.int .i64) a1.1, .v eBlk a1.2]), (103, .box 43 [.v (Enc.int .i64) (0 : Int), .v (Enc.int .i64) (0 : Int), .v (Enc.int .i64) (0 : Int), .v eBlk zblk])]⟩) (J.cons (.none rfl) (JO.fieldPtr 0 rfl Try.runUnderlying101 rfl Try.sizeOf24 rfl rfl) rfl rfl (J.cons (.none rfl) (JO.load rfl rfl rfl Try.isAgg24 Try.sizeOf24) rfl rfl (J.cons (.none rfl) (JO.fieldPtr 1 rfl Try.runUnderlying41 rfl Try.sizeOf29 rfl rfl) rfl rfl (J.cons (.none rfl) (JO.load rfl rfl rfl Try.isAgg29 Try.sizeOf29) rfl rfl (J.cons (.none rfl) (JO.call0 (con_cache_Find hv1) Try.call123 (.cons (.dir rfl) (.cons (.dir rfl) .nil))) rfl rfl (J.cons (.none rfl) (JO.move rfl) rfl rfl (J.cons (.none rfl) (JO.extract rfl rfl) rfl rfl (J.cons (.none rfl) (JO.extract rfl rfl) rfl rfl (J.cons (.none rfl) (JO.assign rfl) rfl rfl (J.cons (.none rfl) (JO.assign rfl) rfl rfl (J.fin (Sw.Sub.mk id (.cons rfl (.of_eq rfl) (.cons rfl (.of_eq rfl) (.cons rfl (.of_eq rfl) (.cons rfl (.of_eq rfl) .nil)))) (.box rfl (.cons (.of_eq rfl) (.cons (.of_eq rfl) .nil)) (.box rfl (.cons (.of_eq rfl) (.cons (.of_eq rfl) (.cons (.of_eq rfl) (.cons (.of_eq rfl) .nil)))) .nil)) rfl)))))))))))) ?_
  refine W.seq ?_
  refine W.reg (σ' := ⟨[(4, .ptr 103 0), (5, .v Enc.bool v1.2)], [(103, .box 43 [.v (Enc.int .i64) a1.1, .v (Enc.int .i64) (2 : Int), .v (Enc.int .i64) v1.1, .v eBlk zblk])]⟩) (J.cons (.none rfl) (JO.fieldPtr 0 rfl Try.runUnderlying41 rfl Try.sizeOf3 rfl rfl) rfl rfl (J.cons (.none rfl) (JO.load rfl rfl rfl Try.isAgg3 Try.sizeOf3) rfl rfl (J.cons (.none rfl) (JO.move rfl) rfl rfl (J.cons (.none rfl) (JO.build built43 (.cons (Z.int .i64) (.cons (Z.int .i64) (.cons (Z.int .i64) (.cons (Z.arr 8 (Z.int .u8)) .nil)))) (.cons rfl (.dir rfl) rfl rfl rfl rfl (.cons rfl (.dir rfl) rfl rfl rfl rfl (.cons rfl (.dir rfl) rfl rfl rfl rfl .nil)))) rfl rfl (J.cons (.none rfl) (JO.move rfl) rfl rfl (J.mut (.none rfl) (JM.storeAgg rfl rfl rfl rfl rfl rfl Try.sizeOf43) (J.cons (.none rfl) (JO.assign rfl) rfl rfl (J.fin (Sw.Sub.mk id (.cons rfl (.of_eq rfl) (.cons rfl (.of_eq rfl) .nil)) (.box rfl (.cons (.of_eq rfl) (.cons (.of_eq rfl) (.cons (.of_eq rfl) (.cons (.of_eq rfl) .nil)))) .nil) rfl))))))))) ?_
  refine W.ret ?_
  obtain rfl := Option.some.inj h
  exact XQ.sub (σ' := ⟨[(4, .ptr 90 0), (5, .v Enc.bool v1.2)], [(90, .box 43 [.v (Enc.int .i64) a1.1, .v (Enc.int .i64) (2 : Int), .v (Enc.int .i64) v1.1, .v eBlk zblk])]⟩) (Sw.Sub.mk (rn [(90, 103)]) (.cons rfl (.of_eq rfl) (.cons rfl (.of_eq rfl) .nil)) (.box rfl (.cons (.of_eq rfl) (.cons (.of_eq rfl) (.cons (.of_eq rfl) (.cons (.of_eq rfl) .nil)))) .nil) rfl) (XQ.ret2 hF noR rfl (RV.cellAll rfl rfl (.prm (.one _ _) (.prm (.one _ _) (.prm (.one _ _) (.one _ _)))) Try.isAgg43 Try.sizeOf43) (RV.tmp rfl) .nil rfl)
set_option maxRecDepth 100000 in
set_option maxHeartbeats 4000000 in
theorem con_plan_literal_tell {a0 : Unit} {a1 : (Int × Blk)} {r : (Int × Int × Int × Blk) × Bool} (h : m_plan_literal_tell a0 a1 = some r) :
    Con Try.prog 125 [.v Enc.st0 a0, .v (Enc.pr (Enc.int .i64) eBlk) a1] (.tup [.v (Enc.pr (Enc.int .i64) (Enc.pr (Enc.int .i64) (Enc.pr (Enc.int .i64) eBlk))) r.1, .v Enc.bool r.2]) [] := by
  refine Con.of Try.func125 rfl Try.ntmps125 rfl ?_
  intro S w hF
  unfold m_plan_literal_tell at h
  refine W.seq ?_
  refine W.reg (σ' := ⟨[(3, .ptr 102 0), (4, .ptr 103 0)], [(102, .box 41 [.v (Enc.int .i64) a1.1, .v eBlk a1.2]), (103, .box 43 [.v (Enc.int .i64) (0 : Int), .v (Enc.int .i64) (0 : Int), .v (Enc.int .i64) (0 : Int), .v eBlk zblk])]⟩) (J.cons (.none rfl) (JO.box 101 rfl (.one _ _) rfl) rfl rfl (J.cons (.none rfl) (JO.box 102 rfl (.prm (.one _ _) (.one _ _)) rfl) rfl rfl (J.cons (.none rfl) (JO.alloc 103 Try.zeroValue43 rfl (.cons (Z.int .i64) (.cons (Z.int .i64) (.cons (Z.int .i64) (.cons (Z.arr 8 (Z.int .u8)) .nil)))) rfl) rfl rfl (J.cons (.none rfl) (JO.assign rfl) rfl rfl (J.fin (Sw.Sub.mk id (.cons rfl (.of_eq rfl) (.cons rfl (.of_eq rfl) .nil)) (.box rfl (.cons (.of_eq rfl) (.cons (.of_eq rfl) .nil)) (.box rfl (.cons (.of_eq rfl) (.cons (.of_eq rfl) (.cons (.of_eq rfl) (.cons (.of_eq rfl) .nil)))) .nil)) rfl)))))) ?_
  refine W.seq ?_
  refine W.reg (σ' := ⟨[(4, .ptr 103 0), (5, .v Enc.bool true)], [(103, .box 43 [.v (Enc.int .i64) a1.1, .v (Enc.int .i64) (3 : Int), .v (Enc.int .i64) (0 : Int), .v eBlk a1.2])]⟩) (J.cons (.none rfl) (JO.fieldPtr 0 rfl Try.runUnderlying41 rfl Try.sizeOf3 rfl rfl) rfl rfl (J.cons (.none rfl) (JO.load rfl rfl rfl Try.isAgg3 Try.sizeOf3) rfl rfl (J.cons (.none rfl) (JO.fieldPtr 1 rfl Try.runUnderlying41 rfl Try.sizeOf29 rfl rfl) rfl rfl (J.cons (.none rfl) (JO.load rfl rfl rfl Try.isAgg29 Try.sizeOf29) rfl rfl (J.cons (.none rfl) (JO.build built43 (.cons (Z.int .i64) (.cons (Z.int .i64) (.cons (Z.int .i64) (.cons (Z.arr 8 (Z.int .u8)) .nil)))) (.cons rfl (.dir rfl) rfl rfl rfl rfl (.cons rfl (.dir rfl) rfl rfl rfl rfl (.cons rfl (.dir rfl) rfl rfl rfl rfl .nil)))) rfl rfl (J.mut (.none rfl) (JM.storeAgg rfl rfl rfl rfl rfl rfl Try.sizeOf43) (J.cons (.none rfl) (JO.assign rfl) rfl rfl (J.fin (Sw.Sub.mk id (.cons rfl (.of_eq rfl) (.cons rfl (.of_eq rfl) .nil)) (.box rfl (.cons (.of_eq rfl) (.cons (.of_eq rfl) (.cons (.of_eq rfl) (.cons (.of_eq rfl) .nil)))) .nil) rfl))))))))) ?_
  refine W.ret ?_
  obtain rfl := Option.some.inj h
  exact XQ.sub (σ' := ⟨[(4, .ptr 90 0), (5, .v Enc.bool true)], [(90, .box 43 [.v (Enc.int .i64) a1.1, .v (Enc.int .i64) (3 : Int), .v (Enc.int .i64) (0 : Int), .v eBlk a1.2])]⟩) (Sw.Sub.mk (rn [(90, 103)]) (.cons rfl (.of_eq rfl) (.cons rfl (.of_eq rfl) .nil)) (.box rfl (.cons (.of_eq rfl) (.cons (.of_eq rfl) (.cons (.of_eq rfl) (.cons (.of_eq rfl) .nil)))) .nil) rfl) (XQ.ret2 hF noR rfl (RV.cellAll rfl rfl (.prm (.one _ _) (.prm (.one _ _) (.prm (.one _ _) (.one _ _)))) Try.isAgg43 Try.sizeOf43) (RV.tmp rfl) .nil rfl)
set_option maxRecDepth 100000 in
set_option maxHeartbeats 4000000 in
theorem con_inv_PWay {w : PWay} {p0 : (Int × Blk)} {r : (Int × Int × Int × Blk) × Bool} (h : m_inv_PWay w p0 = some r) :
    IfcCon Try.prog "stillwater/plan.tell" ePWay w [.v (Enc.pr (Enc.int .i64) eBlk) p0] (.tup [.v (Enc.pr (Enc.int .i64) (Enc.pr (Enc.int .i64) (Enc.pr (Enc.int .i64) eBlk))) r.1, .v Enc.bool r.2]) [] := by
  unfold m_inv_PWay at h
  rcases w with z | z | z | z | z
  · exact (IfcCon.here (fun _ _ => by kernel_rfl) Try.call120 (con_plan_zero_tell h))
  · exact (.there (IfcCon.here (fun _ _ => by kernel_rfl) Try.call121 (con_plan_same_tell h)))
  · exact (.there (.there (IfcCon.here (fun _ _ => by kernel_rfl) Try.call122 (con_plan_cached_tell h))))
  · exact (.there (.there (.there (IfcCon.here (fun _ _ => by kernel_rfl) Try.call125 (con_plan_literal_tell h)))))
  · cases h
set_option maxRecDepth 100000 in
set_option maxHeartbeats 4000000 in
theorem con_plan_Packets {a0 : (List (Int × Blk))} {a1 : (List Blk)} {a2 : (List Blk)} {r : (List (Int × Int × Int × Blk)) × (Option Int)} (h : m_plan_Packets a0 a1 a2 = some r) :
    Con Try.prog 13 [.v (Enc.sl (Enc.pr (Enc.int .i64) eBlk)) a0, .v (Enc.sl eBlk) a1, .v (Enc.sl eBlk) a2] (.tup [.ref 0, .v (Enc.err ET) r.2]) [(0, .arr 43 (Enc.pr (Enc.int .i64) (Enc.pr (Enc.int .i64) (Enc.pr (Enc.int .i64) eBlk))) r.1)] := by
  refine Con.of Try.func13 rfl Try.ntmps13 rfl ?_
  intro S w hF
  unfold m_plan_Packets at h
  refine W.seq ?_
  refine W.reg (σ' := ⟨[(0, .v (Enc.sl (Enc.pr (Enc.int .i64) eBlk)) a0), (1, .v (Enc.sl eBlk) a1), (2, .v (Enc.sl eBlk) a2)], []⟩) (J.cons (.none rfl) (JO.assignNilR 101 43 (Enc.pr (Enc.int .i64) (Enc.pr (Enc.int .i64) (Enc.pr (Enc.int .i64) eBlk)))) rfl rfl (J.cons (.none rfl) (JO.assignNilE ET) rfl rfl (J.fin (Sw.Sub.mk id (.cons rfl (.of_eq rfl) (.cons rfl (.of_eq rfl) (.cons rfl (.of_eq rfl) .nil))) .nil rfl)))) ?_
  refine W.seq ?_
  refine W.seq ?_
  obtain ⟨v1, hv1, h⟩ := bind_e h
  refine W.reg (σ' := ⟨[(0, .v (Enc.sl (Enc.pr (Enc.int .i64) eBlk)) a0), (1, .v (Enc.sl eBlk) a1), (2, .v (Enc.sl eBlk) a2), (8, .v (Enc.err ET) v1)], []⟩) (J.cons (.none rfl) (JO.move rfl) rfl rfl (J.cons (.none rfl) (JO.move rfl) rfl rfl (J.cons (.none rfl) (JO.call0 (con_plan_checked hv1) Try.call32 (.cons (.dir rfl) (.cons (.dir rfl) .nil))) rfl rfl (J.cons (.none rfl) (JO.assign rfl) rfl rfl (J.fin (Sw.Sub.mk id (.cons rfl (.of_eq rfl) (.cons rfl (.of_eq rfl) (.cons rfl (.of_eq rfl) (.cons rfl (.of_eq rfl) .nil)))) .nil rfl)))))) ?_
  refine W.seq ?_
  refine W.reg (σ' := ⟨[(0, .v (Enc.sl (Enc.pr (Enc.int .i64) eBlk)) a0), (1, .v (Enc.sl eBlk) a1), (2, .v (Enc.sl eBlk) a2), (8, .v (Enc.err ET) v1), (25, .v Enc.bool (Option.isSome v1))], []⟩) (J.cons (.none rfl) (JO.move rfl) rfl rfl (J.cons (.none rfl) (JO.errNe Try.runUnderlying34 rfl) rfl rfl (J.fin (Sw.Sub.mk id (.cons rfl (.of_eq rfl) (.cons rfl (.of_eq rfl) (.cons rfl (.of_eq rfl) (.cons rfl (.of_eq rfl) (.cons rfl (.of_eq rfl) .nil))))) .nil rfl)))) ?_
  rcases Bool.eq_false_or_eq_true (Option.isSome v1) with hc2 | hc2
  · replace h := cond_t hc2 h
    refine W.condT rfl hc2 ?_
    refine W.seq ?_
    refine W.reg (σ' := ⟨[(6, .ref 103), (7, .v (Enc.err ET) v1)], [(103, .arr 43 (Enc.pr (Enc.int .i64) (Enc.pr (Enc.int .i64) (Enc.pr (Enc.int .i64) eBlk))) ([] : (List (Int × Int × Int × Blk))))]⟩) (J.cons (.none rfl) (JO.move rfl) rfl rfl (J.cons (.none rfl) (JO.assignNilR 103 43 (Enc.pr (Enc.int .i64) (Enc.pr (Enc.int .i64) (Enc.pr (Enc.int .i64) eBlk)))) rfl rfl (J.cons (.none rfl) (JO.assign rfl) rfl rfl (J.fin (Sw.Sub.mk id (.cons rfl (.of_eq rfl) (.cons rfl (.of_eq rfl) .nil)) (.arr rfl .nil) rfl))))) ?_
    refine W.ret ?_
    obtain rfl := Option.some.inj h
    exact XQ.sub (σ' := ⟨[(6, .ref 0), (7, .v (Enc.err ET) v1)], [(0, .arr 43 (Enc.pr (Enc.int .i64) (Enc.pr (Enc.int .i64) (Enc.pr (Enc.int .i64) eBlk))) ([] : (List (Int × Int × Int × Blk))))]⟩) (Sw.Sub.mk (rn [(0, 103)]) (.cons rfl (.of_eq rfl) (.cons rfl (.of_eq rfl) .nil)) (.arr rfl .nil) rfl) (XQ.ret2 hF noR rfl (RV.tmp rfl) (RV.tmp rfl) (.cons rfl .nil) rfl)
  · replace h := cond_f hc2 h
    refine W.condF rfl hc2 ?_
    refine W.skip ?_
    refine W.seq ?_
    refine W.reg (σ' := ⟨[(0, .v (Enc.sl (Enc.pr (Enc.int .i64) eBlk)) a0), (1, .v (Enc.sl eBlk) a1), (2, .v (Enc.sl eBlk) a2), (9, .v (Enc.int .i64) (-1 : Int))], []⟩) (J.cons (.none rfl) (JO.assign rfl) rfl rfl (J.fin (Sw.Sub.mk id (.cons rfl (.of_eq rfl) (.cons rfl (.of_eq rfl) (.cons rfl (.of_eq rfl) (.cons rfl (.of_eq rfl) .nil)))) .nil rfl))) ?_
    refine W.seq ?_
    refine W.seq ?_
    refine W.reg (σ' := ⟨[(0, .v (Enc.sl (Enc.pr (Enc.int .i64) eBlk)) a0), (1, .v (Enc.sl eBlk) a1), (2, .v (Enc.sl eBlk) a2), (9, .v (Enc.int .i64) (-1 : Int)), (27, .v (Enc.sl (Enc.pr (Enc.int .i64) eBlk)) a0), (28, .v (Enc.int .i64) (a0.length : Int)), (29, .v (Enc.int .i64) (0 : Int))], []⟩) (J.cons (.none rfl) (JO.move rfl) rfl rfl (J.cons (.none rfl) (JO.len rfl Try.runUnderlying26) rfl rfl (J.cons (.none rfl) (JO.move rfl) rfl rfl (J.fin (Sw.Sub.mk id (.cons rfl (.of_eq rfl) (.cons rfl (.of_eq rfl) (.cons rfl (.of_eq rfl) (.cons rfl (.of_eq rfl) (.cons rfl (.of_eq rfl) (.cons rfl (.of_eq rfl) (.cons rfl (.of_eq rfl) .nil))))))) .nil rfl))))) ?_
    obtain ⟨o24, ho24, hb24, hr24⟩ := lp_elim h
    refine W.lp (σs := fun s17 : Int × Int => ⟨[(0, .v (Enc.sl (Enc.pr (Enc.int .i64) eBlk)) a0), (1, .v (Enc.sl eBlk) a1), (2, .v (Enc.sl eBlk) a2), (9, .v (Enc.int .i64) s17.1), (27, .v (Enc.sl (Enc.pr (Enc.int .i64) eBlk)) a0), (28, .v (Enc.int .i64) (a0.length : Int)), (29, .v (Enc.int .i64) s17.2)], []⟩) (fun x25 : Unit => ⟨[(0, .v (Enc.sl (Enc.pr (Enc.int .i64) eBlk)) a0), (1, .v (Enc.sl eBlk) a1), (2, .v (Enc.sl eBlk) a2)], []⟩) ho24 (Sw.Sub.mk id (.cons rfl (.of_eq rfl) (.cons rfl (.of_eq rfl) (.cons rfl (.of_eq rfl) (.cons rfl (.of_eq rfl) (.cons rfl (.of_eq rfl) (.cons rfl (.of_eq rfl) (.cons rfl (.of_eq rfl) .nil))))))) .nil rfl) ?_ ?_
    · intro x25 hy
      have h := hb24 _ hy
      refine W.seq ?_
      obtain ⟨v32, hv32, h⟩ := bind_e h
      refine W.reg (σ' := ⟨[(0, .v (Enc.sl (Enc.pr (Enc.int .i64) eBlk)) a0), (1, .v (Enc.sl eBlk) a1), (2, .v (Enc.sl eBlk) a2), (12, .v (Enc.ptN (Enc.pr (Enc.sl eBlk) (Enc.mpF eBlk (Enc.sl (Enc.int .i64))))) v32.1), (13, .v (Enc.err ET) v32.2)], []⟩) (J.cons (.none rfl) (JO.move rfl) rfl rfl (J.cons (.none rfl) (JO.call0 (con_cache_New hv32) Try.call33 (.cons (.dir rfl) .nil)) rfl rfl (J.cons (.none rfl) (JO.move rfl) rfl rfl (J.cons (.none rfl) (JO.extract rfl rfl) rfl rfl (J.cons (.none rfl) (JO.extract rfl rfl) rfl rfl (J.cons (.none rfl) (JO.assign rfl) rfl rfl (J.cons (.none rfl) (JO.assign rfl) rfl rfl (J.fin (Sw.Sub.mk id (.cons rfl (.of_eq rfl) (.cons rfl (.of_eq rfl) (.cons rfl (.of_eq rfl) (.cons rfl (.of_eq rfl) (.cons rfl (.of_eq rfl) .nil))))) .nil rfl))))))))) ?_
      refine W.seq ?_
      refine W.seq ?_
      refine W.reg (σ' := ⟨[(0, .v (Enc.sl (Enc.pr (Enc.int .i64) eBlk)) a0), (1, .v (Enc.sl eBlk) a1), (2, .v (Enc.sl eBlk) a2), (12, .v (Enc.ptN (Enc.pr (Enc.sl eBlk) (Enc.mpF eBlk (Enc.sl (Enc.int .i64))))) v32.1), (13, .v (Enc.err ET) v32.2), (54, .v Enc.bool (Option.isSome v32.2))], []⟩) (J.cons (.none rfl) (JO.move rfl) rfl rfl (J.cons (.none rfl) (JO.errNe Try.runUnderlying34 rfl) rfl rfl (J.fin (Sw.Sub.mk id (.cons rfl (.of_eq rfl) (.cons rfl (.of_eq rfl) (.cons rfl (.of_eq rfl) (.cons rfl (.of_eq rfl) (.cons rfl (.of_eq rfl) (.cons rfl (.of_eq rfl) .nil)))))) .nil rfl)))) ?_
      rcases Bool.eq_false_or_eq_true (Option.isSome v32.2) with hc33 | hc33
      · replace h := cond_t hc33 h
        refine W.condT rfl hc33 ?_
        refine W.seq ?_
        refine W.reg (σ' := ⟨[(6, .ref 113), (7, .v (Enc.err ET) v32.2)], [(113, .arr 43 (Enc.pr (Enc.int .i64) (Enc.pr (Enc.int .i64) (Enc.pr (Enc.int .i64) eBlk))) ([] : (List (Int × Int × Int × Blk))))]⟩) (J.cons (.none rfl) (JO.move rfl) rfl rfl (J.cons (.none rfl) (JO.assignNilR 113 43 (Enc.pr (Enc.int .i64) (Enc.pr (Enc.int .i64) (Enc.pr (Enc.int .i64) eBlk)))) rfl rfl (J.cons (.none rfl) (JO.assign rfl) rfl rfl (J.fin (Sw.Sub.mk id (.cons rfl (.of_eq rfl) (.cons rfl (.of_eq rfl) .nil)) (.arr rfl .nil) rfl))))) ?_
        refine W.ret ?_
        obtain rfl := Option.some.inj h
        exact XQ.sub (σ' := ⟨[(6, .ref 0), (7, .v (Enc.err ET) v32.2)], [(0, .arr 43 (Enc.pr (Enc.int .i64) (Enc.pr (Enc.int .i64) (Enc.pr (Enc.int .i64) eBlk))) ([] : (List (Int × Int × Int × Blk))))]⟩) (Sw.Sub.mk (rn [(0, 113)]) (.cons rfl (.of_eq rfl) (.cons rfl (.of_eq rfl) .nil)) (.arr rfl .nil) rfl) (XQ.ret2 hF noR rfl (RV.tmp rfl) (RV.tmp rfl) (.cons rfl .nil) rfl)
      · replace h := cond_f hc33 h
        refine W.condF rfl hc33 ?_
        refine W.skip ?_
        refine W.seq ?_
        refine W.reg (σ' := ⟨[(0, .v (Enc.sl (Enc.pr (Enc.int .i64) eBlk)) a0), (1, .v (Enc.sl eBlk) a1), (2, .v (Enc.sl eBlk) a2), (12, .v (Enc.ptN (Enc.pr (Enc.sl eBlk) (Enc.mpF eBlk (Enc.sl (Enc.int .i64))))) v32.1), (14, .ref 114)], [(114, .arr 43 (Enc.pr (Enc.int .i64) (Enc.pr (Enc.int .i64) (Enc.pr (Enc.int .i64) eBlk))) ([] : (List (Int × Int × Int × Blk))))]⟩) (J.cons (.none rfl) (JO.assignNilR 114 43 (Enc.pr (Enc.int .i64) (Enc.pr (Enc.int .i64) (Enc.pr (Enc.int .i64) eBlk)))) rfl rfl (J.fin (Sw.Sub.mk id (.cons rfl (.of_eq rfl) (.cons rfl (.of_eq rfl) (.cons rfl (.of_eq rfl) (.cons rfl (.of_eq rfl) (.cons rfl (.of_eq rfl) .nil))))) (.arr rfl .nil) rfl))) ?_
        refine W.seq ?_
        refine W.seq ?_
        refine W.reg (σ' := ⟨[(1, .v (Enc.sl eBlk) a1), (2, .v (Enc.sl eBlk) a2), (12, .v (Enc.ptN (Enc.pr (Enc.sl eBlk) (Enc.mpF eBlk (Enc.sl (Enc.int .i64))))) v32.1), (14, .ref 114), (56, .v (Enc.sl (Enc.pr (Enc.int .i64) eBlk)) a0), (57, .v (Enc.int .i64) (a0.length : Int)), (58, .v (Enc.int .i64) (0 : Int))], [(114, .arr 43 (Enc.pr (Enc.int .i64) (Enc.pr (Enc.int .i64) (Enc.pr (Enc.int .i64) eBlk))) ([] : (List (Int × Int × Int × Blk))))]⟩) (J.cons (.none rfl) (JO.move rfl) rfl rfl (J.cons (.none rfl) (JO.len rfl Try.runUnderlying26) rfl rfl (J.cons (.none rfl) (JO.move rfl) rfl rfl (J.fin (Sw.Sub.mk id (.cons rfl (.of_eq rfl) (.cons rfl (.of_eq rfl) (.cons rfl (.of_eq rfl) (.cons rfl (.of_eq rfl) (.cons rfl (.of_eq rfl) (.cons rfl (.of_eq rfl) (.cons rfl (.of_eq rfl) .nil))))))) (.arr rfl .nil) rfl))))) ?_
        obtain ⟨o214, ho214, hb214, hr214⟩ := lp_elim h
        refine W.lp (σs := fun s154 : Int × (List (Int × Int × Int × Blk)) => ⟨[(1, .v (Enc.sl eBlk) a1), (2, .v (Enc.sl eBlk) a2), (12, .v (Enc.ptN (Enc.pr (Enc.sl eBlk) (Enc.mpF eBlk (Enc.sl (Enc.int .i64))))) v32.1), (14, .ref 160), (56, .v (Enc.sl (Enc.pr (Enc.int .i64) eBlk)) a0), (57, .v (Enc.int .i64) (a0.length : Int)), (58, .v (Enc.int .i64) s154.1)], [(160, .arr 43 (Enc.pr (Enc.int .i64) (Enc.pr (Enc.int .i64) (Enc.pr (Enc.int .i64) eBlk))) s154.2)]⟩) (fun x215 : (List (Int × Int × Int × Blk)) => ⟨[(14, .ref 160)], [(160, .arr 43 (Enc.pr (Enc.int .i64) (Enc.pr (Enc.int .i64) (Enc.pr (Enc.int .i64) eBlk))) x215)]⟩) ho214 (Sw.Sub.mk (rn [(160, 114)]) (.cons rfl (.of_eq rfl) (.cons rfl (.of_eq rfl) (.cons rfl (.of_eq rfl) (.cons rfl (.of_eq rfl) (.cons rfl (.of_eq rfl) (.cons rfl (.of_eq rfl) (.cons rfl (.of_eq rfl) .nil))))))) (.arr rfl .nil) rfl) ?_ ?_
        · intro x215 hy
          have h := hb214 _ hy
          refine W.seq ?_
          refine W.reg (σ' := ⟨[(6, .ref 160), (7, .v (Enc.err ET) (none : Option Int))], [(160, .arr 43 (Enc.pr (Enc.int .i64) (Enc.pr (Enc.int .i64) (Enc.pr (Enc.int .i64) eBlk))) x215)]⟩) (J.cons (.none rfl) (JO.move rfl) rfl rfl (J.cons (.none rfl) (JO.assign rfl) rfl rfl (J.cons (.none rfl) (JO.assignNilE ET) rfl rfl (J.fin (Sw.Sub.mk id (.cons rfl (.of_eq rfl) (.cons rfl (.of_eq rfl) .nil)) (.arr rfl .nil) rfl))))) ?_
          refine W.ret ?_
          obtain rfl := Option.some.inj h
          exact XQ.sub (σ' := ⟨[(6, .ref 0), (7, .v (Enc.err ET) (none : Option Int))], [(0, .arr 43 (Enc.pr (Enc.int .i64) (Enc.pr (Enc.int .i64) (Enc.pr (Enc.int .i64) eBlk))) x215)]⟩) (Sw.Sub.mk (rn [(0, 160)]) (.cons rfl (.of_eq rfl) (.cons rfl (.of_eq rfl) .nil)) (.arr rfl .nil) rfl) (XQ.ret2 hF noR rfl (RV.tmp rfl) (RV.tmp rfl) (.cons rfl .nil) rfl)
        intro s154 r214 h
        refine W.seq ?_
        refine W.reg (σ' := ⟨[(1, .v (Enc.sl eBlk) a1), (2, .v (Enc.sl eBlk) a2), (12, .v (Enc.ptN (Enc.pr (Enc.sl eBlk) (Enc.mpF eBlk (Enc.sl (Enc.int .i64))))) v32.1), (14, .ref 160), (56, .v (Enc.sl (Enc.pr (Enc.int .i64) eBlk)) a0), (57, .v (Enc.int .i64) (a0.length : Int)), (58, .v (Enc.int .i64) s154.1), (59, .v Enc.bool (cm .lss s154.1 (a0.length : Int)))], [(160, .arr 43 (Enc.pr (Enc.int .i64) (Enc.pr (Enc.int .i64) (Enc.pr (Enc.int .i64) eBlk))) s154.2)]⟩) (J.cons (.none rfl) (JO.cmp rfl rfl rfl) rfl rfl (J.fin (Sw.Sub.mk id (.cons rfl (.of_eq rfl) (.cons rfl (.of_eq rfl) (.cons rfl (.of_eq rfl) (.cons rfl (.of_eq rfl) (.cons rfl (.of_eq rfl) (.cons rfl (.of_eq rfl) (.cons rfl (.of_eq rfl) (.cons rfl (.of_eq rfl) .nil)))))))) (.arr rfl .nil) rfl))) ?_
        refine W.seq ?_
        rcases Bool.eq_false_or_eq_true (cm .lss s154.1 (a0.length : Int)) with hc216 | hc216
        · replace h := cond_t hc216 h
          refine W.condT rfl hc216 ?_
          refine W.skip ?_
          refine W.seq ?_
          obtain ⟨k245, hk245, h⟩ := jp_elim h
          refine W.bj (fun x246 : (List (Int × Int × Int × Blk)) => ⟨[(1, .v (Enc.sl eBlk) a1), (2, .v (Enc.sl eBlk) a2), (12, .v (Enc.ptN (Enc.pr (Enc.sl eBlk) (Enc.mpF eBlk (Enc.sl (Enc.int .i64))))) v32.1), (14, .ref 192), (56, .v (Enc.sl (Enc.pr (Enc.int .i64) eBlk)) a0), (57, .v (Enc.int .i64) (a0.length : Int)), (58, .v (Enc.int .i64) s154.1)], [(192, .arr 43 (Enc.pr (Enc.int .i64) (Enc.pr (Enc.int .i64) (Enc.pr (Enc.int .i64) eBlk))) x246)]⟩) (fun x => k245 x = some r214) ?_ ?_
          · intro x246 h
            rw [hk245] at h
            refine W.reg (σ' := ⟨[(1, .v (Enc.sl eBlk) a1), (2, .v (Enc.sl eBlk) a2), (12, .v (Enc.ptN (Enc.pr (Enc.sl eBlk) (Enc.mpF eBlk (Enc.sl (Enc.int .i64))))) v32.1), (14, .ref 192), (56, .v (Enc.sl (Enc.pr (Enc.int .i64) eBlk)) a0), (57, .v (Enc.int .i64) (a0.length : Int)), (58, .v (Enc.int .i64) (ar .add .i64 s154.1 (1 : Int)))], [(192, .arr 43 (Enc.pr (Enc.int .i64) (Enc.pr (Enc.int .i64) (Enc.pr (Enc.int .i64) eBlk))) x246)]⟩) (J.cons (.none rfl) (JO.arith rfl rfl rfl) rfl rfl (J.cons (.none rfl) (JO.move rfl) rfl rfl (J.fin (Sw.Sub.mk id (.cons rfl (.of_eq rfl) (.cons rfl (.of_eq rfl) (.cons rfl (.of_eq rfl) (.cons rfl (.of_eq rfl) (.cons rfl (.of_eq rfl) (.cons rfl (.of_eq rfl) (.cons rfl (.of_eq rfl) .nil))))))) (.arr rfl .nil) rfl)))) ?_
            obtain rfl := Option.some.inj h
            exact W.next (Sw.Sub.mk (rn [(160, 192)]) (.cons rfl (.of_eq rfl) (.cons rfl (.of_eq rfl) (.cons rfl (.of_eq rfl) (.cons rfl (.of_eq rfl) (.cons rfl (.of_eq rfl) (.cons rfl (.of_eq rfl) (.cons rfl (.of_eq rfl) .nil))))))) (.arr rfl .nil) rfl)
          refine W.seq ?_
          obtain ⟨z247, hz247, h⟩ := bind_e h
          refine W.reg (σ' := ⟨[(1, .v (Enc.sl eBlk) a1), (2, .v (Enc.sl eBlk) a2), (12, .v (Enc.ptN (Enc.pr (Enc.sl eBlk) (Enc.mpF eBlk (Enc.sl (Enc.int .i64))))) v32.1), (14, .ref 160), (16, .ptr 193 0), (56, .v (Enc.sl (Enc.pr (Enc.int .i64) eBlk)) a0), (57, .v (Enc.int .i64) (a0.length : Int)), (58, .v (Enc.int .i64) s154.1)], [(160, .arr 43 (Enc.pr (Enc.int .i64) (Enc.pr (Enc.int .i64) (Enc.pr (Enc.int .i64) eBlk))) s154.2), (193, .box 41 [.v (Enc.int .i64) z247.1, .v eBlk z247.2])]⟩) (J.cons (.none rfl) (JO.idx hz247 rfl rfl Try.runUnderlying26 Try.sizeOf41) rfl rfl (J.cons (.none rfl) (JO.loadPst rfl Try.isAgg41 Try.sizeOf41) rfl rfl (J.cons (.none rfl) (JO.alloc 193 Try.zeroValue41 rfl (.cons (Z.int .i64) (.cons (Z.arr 8 (Z.int .u8)) .nil)) rfl) rfl rfl (J.mut (.none rfl) (JM.storeAll rfl rfl rfl rfl (.prm (.one _ _) (.one _ _)) Try.sizeOf41) (J.fin (Sw.Sub.mk id (.cons rfl (.of_eq rfl) (.cons rfl (.of_eq rfl) (.cons rfl (.of_eq rfl) (.cons rfl (.of_eq rfl) (.cons rfl (.of_eq rfl) (.cons rfl (.of_eq rfl) (.cons rfl (.of_eq rfl) (.cons rfl (.of_eq rfl) .nil)))))))) (.arr rfl (.box rfl (.cons (.of_eq rfl) (.cons (.of_eq rfl) .nil)) .nil)) rfl)))))) ?_
          refine W.seq ?_
          refine W.seq ?_
          obtain ⟨z248, hz248, h⟩ := bind_e h
          refine W.dr2 (σ' := ⟨[(1, .v (Enc.sl eBlk) a1), (2, .v (Enc.sl eBlk) a2), (12, .v (Enc.ptN (Enc.pr (Enc.sl eBlk) (Enc.mpF eBlk (Enc.sl (Enc.int .i64))))) v32.1), (14, .ref 160), (16, .ptr 193 0), (56, .v (Enc.sl (Enc.pr (Enc.int .i64) eBlk)) a0), (57, .v (Enc.int .i64) (a0.length : Int)), (58, .v (Enc.int .i64) s154.1), (69, .v Enc.bool (decide (z248 = z247.2)))], [(160, .arr 43 (Enc.pr (Enc.int .i64) (Enc.pr (Enc.int .i64) (Enc.pr (Enc.int .i64) eBlk))) s154.2), (193, .box 41 [.v (Enc.int .i64) z247.1, .v eBlk z247.2])]⟩) 8 [0, 0, 2, 7, 15, 0, 32, 127] mixed (by exact (.cons (.none rfl) (JO.move rfl) rfl rfl (.cons (.none rfl) (JO.fieldPtr 0 rfl Try.runUnderlying41 rfl Try.sizeOf3 rfl rfl) rfl rfl (.cons (.none rfl) (JO.load rfl rfl rfl Try.isAgg3 Try.sizeOf3) rfl rfl (.cons (.none rfl) (JO.idx hz248 rfl rfl Try.runUnderlying24 Try.sizeOf29) rfl rfl (.cons (.none rfl) (JO.loadPst rfl Try.isAgg29 Try.sizeOf29) rfl rfl (.cons (.none rfl) (JO.fieldPtr 1 rfl Try.runUnderlying41 rfl Try.sizeOf29 rfl rfl) rfl rfl (.cons (.none rfl) (JO.load rfl rfl rfl Try.isAgg29 Try.sizeOf29) rfl rfl (.cons (.none rfl) (JO.eqV eq29 rfl rfl Try.eqGuardType29 rfl rfl) rfl rfl .nil))))))))) (by exact (J.fin (Sw.Sub.mk id (.cons rfl (.of_eq rfl) (.cons rfl (.of_eq rfl) (.cons rfl (.of_eq rfl) (.cons rfl (.of_eq rfl) (.cons rfl (.of_eq rfl) (.cons rfl (.of_eq rfl) (.cons rfl (.of_eq rfl) (.cons rfl (.of_eq rfl) (.cons rfl (.of_eq rfl) .nil))))))))) (.arr rfl (.box rfl (.cons (.of_eq rfl) (.cons (.of_eq rfl) .nil)) .nil)) rfl))) rfl (by decide +kernel) (by decide +kernel) (by decide +kernel) (by kernel_rfl) ?_
          rcases Bool.eq_false_or_eq_true (decide (z248 = z247.2)) with hc249 | hc249
          · replace h := cond_t hc249 h
            refine W.condT rfl hc249 ?_
            refine W.exit ?_
            exact XQ.bhit h (Sw.Sub.mk (rn [(192, 160)]) (.cons rfl (.of_eq rfl) (.cons rfl (.of_eq rfl) (.cons rfl (.of_eq rfl) (.cons rfl (.of_eq rfl) (.cons rfl (.of_eq rfl) (.cons rfl (.of_eq rfl) (.cons rfl (.of_eq rfl) .nil))))))) (.arr rfl .nil) rfl)
          · replace h := cond_f hc249 h
            refine W.condF rfl hc249 ?_
            refine W.skip ?_
            refine W.seq ?_
            refine W.reg (σ' := ⟨[(1, .v (Enc.sl eBlk) a1), (2, .v (Enc.sl eBlk) a2), (12, .v (Enc.ptN (Enc.pr (Enc.sl eBlk) (Enc.mpF eBlk (Enc.sl (Enc.int .i64))))) v32.1), (14, .ref 160), (16, .ptr 193 0), (56, .v (Enc.sl (Enc.pr (Enc.int .i64) eBlk)) a0), (57, .v (Enc.int .i64) (a0.length : Int)), (58, .v (Enc.int .i64) s154.1), (80, .v (Enc.sl ePWay) ([(.inl () : PWay), (.inr (.inl v32.1) : PWay), (.inr (.inr (.inl a2)) : PWay), (.inr (.inr (.inr (.inl ()))) : PWay)] : (List PWay))), (81, .v (Enc.int .i64) (([(.inl () : PWay), (.inr (.inl v32.1) : PWay), (.inr (.inr (.inl a2)) : PWay), (.inr (.inr (.inr (.inl ()))) : PWay)] : (List PWay)).length : Int)), (82, .v (Enc.int .i64) (0 : Int))], [(160, .arr 43 (Enc.pr (Enc.int .i64) (Enc.pr (Enc.int .i64) (Enc.pr (Enc.int .i64) eBlk))) s154.2), (193, .box 41 [.v (Enc.int .i64) z247.1, .v eBlk z247.2])]⟩) (J.cons (.none rfl) (JO.packSt0 (JO.build built97 .nil .nil)) rfl rfl (J.cons (.none rfl) (JO.mkIfc rfl Try.runUnderlying97 .here) rfl rfl (J.cons (.none rfl) (JO.move rfl) rfl rfl (J.cons (.none rfl) (JO.pack (JO.build built99 (.cons (Z.ptN (Enc.pr (Enc.sl eBlk) (Enc.mpF eBlk (Enc.sl (Enc.int .i64))))) .nil) (.cons rfl (.dir rfl) rfl rfl rfl rfl .nil)) (.one1 (.one _ _)) rfl) rfl rfl (J.cons (.none rfl) (JO.mkIfc rfl Try.runUnderlying99 (.there .here)) rfl rfl (J.cons (.none rfl) (JO.move rfl) rfl rfl (J.cons (.none rfl) (JO.pack (JO.build built101 (.cons (Z.sl eBlk) .nil) (.cons rfl (.dir rfl) rfl rfl rfl rfl .nil)) (.one1 (.one _ _)) rfl) rfl rfl (J.cons (.none rfl) (JO.mkIfc rfl Try.runUnderlying101 (.there (.there .here))) rfl rfl (J.cons (.none rfl) (JO.packSt0 (JO.build built102 .nil .nil)) rfl rfl (J.cons (.none rfl) (JO.mkIfc rfl Try.runUnderlying102 (.there (.there (.there .here)))) rfl rfl (J.cons (.none rfl) (JO.lit (e := ePWay) Try.runUnderlying103 Try.sizeOf105 Try.zeroValue105 rfl rfl rfl rfl (.cons (.dir rfl) (.cons (.dir rfl) (.cons (.dir rfl) (.cons (.dir rfl) .nil))))) rfl rfl (J.cons (.none rfl) (JO.len rfl Try.runUnderlying103) rfl rfl (J.cons (.none rfl) (JO.move rfl) rfl rfl (J.fin (Sw.Sub.mk id (.cons rfl (.of_eq rfl) (.cons rfl (.of_eq rfl) (.cons rfl (.of_eq rfl) (.cons rfl (.of_eq rfl) (.cons rfl (.of_eq rfl) (.cons rfl (.of_eq rfl) (.cons rfl (.of_eq rfl) (.cons rfl (.of_eq rfl) (.cons rfl (.of_eq rfl) (.cons rfl (.of_eq rfl) (.cons rfl (.of_eq rfl) .nil))))))))))) (.arr rfl (.box rfl (.cons (.of_eq rfl) (.cons (.of_eq rfl) .nil)) .nil)) rfl))))))))))))))) ?_
            obtain ⟨o268, ho268, hb268, hr268⟩ := lp_elim h
            refine W.lp (σs := fun s262 : Int => ⟨[(1, .v (Enc.sl eBlk) a1), (2, .v (Enc.sl eBlk) a2), (12, .v (Enc.ptN (Enc.pr (Enc.sl eBlk) (Enc.mpF eBlk (Enc.sl (Enc.int .i64))))) v32.1), (14, .ref 160), (16, .ptr 193 0), (56, .v (Enc.sl (Enc.pr (Enc.int .i64) eBlk)) a0), (57, .v (Enc.int .i64) (a0.length : Int)), (58, .v (Enc.int .i64) s154.1), (80, .v (Enc.sl ePWay) ([(.inl () : PWay), (.inr (.inl v32.1) : PWay), (.inr (.inr (.inl a2)) : PWay), (.inr (.inr (.inr (.inl ()))) : PWay)] : (List PWay))), (81, .v (Enc.int .i64) (([(.inl () : PWay), (.inr (.inl v32.1) : PWay), (.inr (.inr (.inl a2)) : PWay), (.inr (.inr (.inr (.inl ()))) : PWay)] : (List PWay)).length : Int)), (82, .v (Enc.int .i64) s262)], [(160, .arr 43 (Enc.pr (Enc.int .i64) (Enc.pr (Enc.int .i64) (Enc.pr (Enc.int .i64) eBlk))) s154.2), (193, .box 41 [.v (Enc.int .i64) z247.1, .v eBlk z247.2])]⟩) (fun x269 : (List (Int × Int × Int × Blk)) => ⟨[(1, .v (Enc.sl eBlk) a1), (2, .v (Enc.sl eBlk) a2), (12, .v (Enc.ptN (Enc.pr (Enc.sl eBlk) (Enc.mpF eBlk (Enc.sl (Enc.int .i64))))) v32.1), (14, .ref 200), (56, .v (Enc.sl (Enc.pr (Enc.int .i64) eBlk)) a0), (57, .v (Enc.int .i64) (a0.length : Int)), (58, .v (Enc.int .i64) s154.1)], [(200, .arr 43 (Enc.pr (Enc.int .i64) (Enc.pr (Enc.int .i64) (Enc.pr (Enc.int .i64) eBlk))) x269)]⟩) ho268 (Sw.Sub.mk id (.cons rfl (.of_eq rfl) (.cons rfl (.of_eq rfl) (.cons rfl (.of_eq rfl) (.cons rfl (.of_eq rfl) (.cons rfl (.of_eq rfl) (.cons rfl (.of_eq rfl) (.cons rfl (.of_eq rfl) (.cons rfl (.of_eq rfl) (.cons rfl (.of_eq rfl) (.cons rfl (.of_eq rfl) (.cons rfl (.of_eq rfl) .nil))))))))))) (.arr rfl (.box rfl (.cons (.of_eq rfl) (.cons (.of_eq rfl) .nil)) .nil)) rfl) ?_ ?_
            · intro x269 hy
              have h := hb268 _ hy
              exact W.bfall h (Sw.Sub.mk (rn [(192, 200)]) (.cons rfl (.of_eq rfl) (.cons rfl (.of_eq rfl) (.cons rfl (.of_eq rfl) (.cons rfl (.of_eq rfl) (.cons rfl (.of_eq rfl) (.cons rfl (.of_eq rfl) (.cons rfl (.of_eq rfl) .nil))))))) (.arr rfl .nil) rfl)
            intro s262 r268 h
            refine W.seq ?_
            refine W.reg (σ' := ⟨[(1, .v (Enc.sl eBlk) a1), (2, .v (Enc.sl eBlk) a2), (12, .v (Enc.ptN (Enc.pr (Enc.sl eBlk) (Enc.mpF eBlk (Enc.sl (Enc.int .i64))))) v32.1), (14, .ref 160), (16, .ptr 193 0), (56, .v (Enc.sl (Enc.pr (Enc.int .i64) eBlk)) a0), (57, .v (Enc.int .i64) (a0.length : Int)), (58, .v (Enc.int .i64) s154.1), (80, .v (Enc.sl ePWay) ([(.inl () : PWay), (.inr (.inl v32.1) : PWay), (.inr (.inr (.inl a2)) : PWay), (.inr (.inr (.inr (.inl ()))) : PWay)] : (List PWay))), (81, .v (Enc.int .i64) (([(.inl () : PWay), (.inr (.inl v32.1) : PWay), (.inr (.inr (.inl a2)) : PWay), (.inr (.inr (.inr (.inl ()))) : PWay)] : (List PWay)).length : Int)), (82, .v (Enc.int .i64) s262), (83, .v Enc.bool (cm .lss s262 (([(.inl () : PWay), (.inr (.inl v32.1) : PWay), (.inr (.inr (.inl a2)) : PWay), (.inr (.inr (.inr (.inl ()))) : PWay)] : (List PWay)).length : Int)))], [(160, .arr 43 (Enc.pr (Enc.int .i64) (Enc.pr (Enc.int .i64) (Enc.pr (Enc.int .i64) eBlk))) s154.2), (193, .box 41 [.v (Enc.int .i64) z247.1, .v eBlk z247.2])]⟩) (J.cons (.none rfl) (JO.cmp rfl rfl rfl) rfl rfl (J.fin (Sw.Sub.mk id (.cons rfl (.of_eq rfl) (.cons rfl (.of_eq rfl) (.cons rfl (.of_eq rfl) (.cons rfl (.of_eq rfl) (.cons rfl (.of_eq rfl) (.cons rfl (.of_eq rfl) (.cons rfl (.of_eq rfl) (.cons rfl (.of_eq rfl) (.cons rfl (.of_eq rfl) (.cons rfl (.of_eq rfl) (.cons rfl (.of_eq rfl) (.cons rfl (.of_eq rfl) .nil)))))))))))) (.arr rfl (.box rfl (.cons (.of_eq rfl) (.cons (.of_eq rfl) .nil)) .nil)) rfl))) ?_
            refine W.seq ?_
            rcases Bool.eq_false_or_eq_true (cm .lss s262 (([(.inl () : PWay), (.inr (.inl v32.1) : PWay), (.inr (.inr (.inl a2)) : PWay), (.inr (.inr (.inr (.inl ()))) : PWay)] : (List PWay)).length : Int)) with hc270 | hc270
            · replace h := cond_t hc270 h
              refine W.condT rfl hc270 ?_
              refine W.skip ?_
              refine W.seq ?_
              refine W.block ?_
              refine W.seq ?_
              obtain ⟨z271, hz271, h⟩ := bind_e h
              refine W.reg (σ' := ⟨[(1, .v (Enc.sl eBlk) a1), (2, .v (Enc.sl eBlk) a2), (12, .v (Enc.ptN (Enc.pr (Enc.sl eBlk) (Enc.mpF eBlk (Enc.sl (Enc.int .i64))))) v32.1), (14, .ref 160), (16, .ptr 193 0), (18, .v ePWay z271), (56, .v (Enc.sl (Enc.pr (Enc.int .i64) eBlk)) a0), (57, .v (Enc.int .i64) (a0.length : Int)), (58, .v (Enc.int .i64) s154.1), (80, .v (Enc.sl ePWay) ([(.inl () : PWay), (.inr (.inl v32.1) : PWay), (.inr (.inr (.inl a2)) : PWay), (.inr (.inr (.inr (.inl ()))) : PWay)] : (List PWay))), (81, .v (Enc.int .i64) (([(.inl () : PWay), (.inr (.inl v32.1) : PWay), (.inr (.inr (.inl a2)) : PWay), (.inr (.inr (.inr (.inl ()))) : PWay)] : (List PWay)).length : Int)), (82, .v (Enc.int .i64) s262)], [(160, .arr 43 (Enc.pr (Enc.int .i64) (Enc.pr (Enc.int .i64) (Enc.pr (Enc.int .i64) eBlk))) s154.2), (193, .box 41 [.v (Enc.int .i64) z247.1, .v eBlk z247.2])]⟩) (J.cons (.none rfl) (JO.idx hz271 rfl rfl Try.runUnderlying103 Try.sizeOf105) rfl rfl (J.cons (.none rfl) (JO.loadPst rfl Try.isAgg105 Try.sizeOf105) rfl rfl (J.cons (.none rfl) (JO.assign rfl) rfl rfl (J.fin (Sw.Sub.mk id (.cons rfl (.of_eq rfl) (.cons rfl (.of_eq rfl) (.cons rfl (.of_eq rfl) (.cons rfl (.of_eq rfl) (.cons rfl (.of_eq rfl) (.cons rfl (.of_eq rfl) (.cons rfl (.of_eq rfl) (.cons rfl (.of_eq rfl) (.cons rfl (.of_eq rfl) (.cons rfl (.of_eq rfl) (.cons rfl (.of_eq rfl) (.cons rfl (.of_eq rfl) .nil)))))))))))) (.arr rfl (.box rfl (.cons (.of_eq rfl) (.cons (.of_eq rfl) .nil)) .nil)) rfl))))) ?_
              refine W.seq ?_
              obtain ⟨v272, hv272, h⟩ := bind_e h
              refine W.reg (σ' := ⟨[(1, .v (Enc.sl eBlk) a1), (2, .v (Enc.sl eBlk) a2), (12, .v (Enc.ptN (Enc.pr (Enc.sl eBlk) (Enc.mpF eBlk (Enc.sl (Enc.int .i64))))) v32.1), (14, .ref 160), (16, .ptr 193 0), (19, .ptr 201 0), (20, .v Enc.bool v272.2), (56, .v (Enc.sl (Enc.pr (Enc.int .i64) eBlk)) a0), (57, .v (Enc.int .i64) (a0.length : Int)), (58, .v (Enc.int .i64) s154.1), (80, .v (Enc.sl ePWay) ([(.inl () : PWay), (.inr (.inl v32.1) : PWay), (.inr (.inr (.inl a2)) : PWay), (.inr (.inr (.inr (.inl ()))) : PWay)] : (List PWay))), (81, .v (Enc.int .i64) (([(.inl () : PWay), (.inr (.inl v32.1) : PWay), (.inr (.inr (.inl a2)) : PWay), (.inr (.inr (.inr (.inl ()))) : PWay)] : (List PWay)).length : Int)), (82, .v (Enc.int .i64) s262)], [(160, .arr 43 (Enc.pr (Enc.int .i64) (Enc.pr (Enc.int .i64) (Enc.pr (Enc.int .i64) eBlk))) s154.2), (193, .box 41 [.v (Enc.int .i64) z247.1, .v eBlk z247.2]), (201, .box 43 [.v (Enc.int .i64) v272.1.1, .v (Enc.int .i64) v272.1.2.1, .v (Enc.int .i64) v272.1.2.2.1, .v eBlk v272.1.2.2.2])]⟩) (J.cons (.none rfl) (JO.move rfl) rfl rfl (J.cons (.none rfl) (JO.loadAll rfl rfl (.prm (.one _ _) (.one _ _)) Try.isAgg41 Try.sizeOf41) rfl rfl (J.cons (.none rfl) (JO.callI0 rfl (con_inv_PWay hv272) (.cons (.dir rfl) .nil)) rfl rfl (J.cons (.none rfl) (JO.move rfl) rfl rfl (J.cons (.none rfl) (JO.extract rfl rfl) rfl rfl (J.cons (.none rfl) (JO.extract rfl rfl) rfl rfl (J.cons (.none rfl) (JO.alloc 201 Try.zeroValue43 rfl (.cons (Z.int .i64) (.cons (Z.int .i64) (.cons (Z.int .i64) (.cons (Z.arr 8 (Z.int .u8)) .nil)))) rfl) rfl rfl (J.mut (.none rfl) (JM.storeAll rfl rfl rfl rfl (.prm (.one _ _) (.prm (.one _ _) (.prm (.one _ _) (.one _ _)))) Try.sizeOf43) (J.cons (.none rfl) (JO.assign rfl) rfl rfl (J.fin (Sw.Sub.mk id (.cons rfl (.of_eq rfl) (.cons rfl (.of_eq rfl) (.cons rfl (.of_eq rfl) (.cons rfl (.of_eq rfl) (.cons rfl (.of_eq rfl) (.cons rfl (.of_eq rfl) (.cons rfl (.of_eq rfl) (.cons rfl (.of_eq rfl) (.cons rfl (.of_eq rfl) (.cons rfl (.of_eq rfl) (.cons rfl (.of_eq rfl) (.cons rfl (.of_eq rfl) (.cons rfl (.of_eq rfl) .nil))))))))))))) (.arr rfl (.box rfl (.cons (.of_eq rfl) (.cons (.of_eq rfl) .nil)) (.box rfl (.cons (.of_eq rfl) (.cons (.of_eq rfl) (.cons (.of_eq rfl) (.cons (.of_eq rfl) .nil)))) .nil))) rfl))))))))))) ?_
              refine W.seq ?_
              refine W.reg (σ' := ⟨[(1, .v (Enc.sl eBlk) a1), (2, .v (Enc.sl eBlk) a2), (12, .v (Enc.ptN (Enc.pr (Enc.sl eBlk) (Enc.mpF eBlk (Enc.sl (Enc.int .i64))))) v32.1), (14, .ref 160), (16, .ptr 193 0), (19, .ptr 201 0), (56, .v (Enc.sl (Enc.pr (Enc.int .i64) eBlk)) a0), (57, .v (Enc.int .i64) (a0.length : Int)), (58, .v (Enc.int .i64) s154.1), (80, .v (Enc.sl ePWay) ([(.inl () : PWay), (.inr (.inl v32.1) : PWay), (.inr (.inr (.inl a2)) : PWay), (.inr (.inr (.inr (.inl ()))) : PWay)] : (List PWay))), (81, .v (Enc.int .i64) (([(.inl () : PWay), (.inr (.inl v32.1) : PWay), (.inr (.inr (.inl a2)) : PWay), (.inr (.inr (.inr (.inl ()))) : PWay)] : (List PWay)).length : Int)), (82, .v (Enc.int .i64) s262), (92, .v Enc.bool v272.2)], [(160, .arr 43 (Enc.pr (Enc.int .i64) (Enc.pr (Enc.int .i64) (Enc.pr (Enc.int .i64) eBlk))) s154.2), (193, .box 41 [.v (Enc.int .i64) z247.1, .v eBlk z247.2]), (201, .box 43 [.v (Enc.int .i64) v272.1.1, .v (Enc.int .i64) v272.1.2.1, .v (Enc.int .i64) v272.1.2.2.1, .v eBlk v272.1.2.2.2])]⟩) (J.cons (.none rfl) (JO.move rfl) rfl rfl (J.fin (Sw.Sub.mk id (.cons rfl (.of_eq rfl) (.cons rfl (.of_eq rfl) (.cons rfl (.of_eq rfl) (.cons rfl (.of_eq rfl) (.cons rfl (.of_eq rfl) (.cons rfl (.of_eq rfl) (.cons rfl (.of_eq rfl) (.cons rfl (.of_eq rfl) (.cons rfl (.of_eq rfl) (.cons rfl (.of_eq rfl) (.cons rfl (.of_eq rfl) (.cons rfl (.of_eq rfl) (.cons rfl (.of_eq rfl) .nil))))))))))))) (.arr rfl (.box rfl (.cons (.of_eq rfl) (.cons (.of_eq rfl) .nil)) (.box rfl (.cons (.of_eq rfl) (.cons (.of_eq rfl) (.cons (.of_eq rfl) (.cons (.of_eq rfl) .nil)))) .nil))) rfl))) ?_
              rcases Bool.eq_false_or_eq_true v272.2 with hc273 | hc273
              · replace h := cond_t hc273 h
                refine W.condT rfl hc273 ?_
                refine W.seq ?_
                obtain ⟨v274, hv274, h⟩ := bind_e h
                refine W.reg (σ' := ⟨[(1, .v (Enc.sl eBlk) a1), (2, .v (Enc.sl eBlk) a2), (12, .v (Enc.ptN (Enc.pr (Enc.sl eBlk) (Enc.mpF eBlk (Enc.sl (Enc.int .i64))))) v32.1), (14, .ref 202), (56, .v (Enc.sl (Enc.pr (Enc.int .i64) eBlk)) a0), (57, .v (Enc.int .i64) (a0.length : Int)), (58, .v (Enc.int .i64) s154.1)], [(202, .arr 43 (Enc.pr (Enc.int .i64) (Enc.pr (Enc.int .i64) (Enc.pr (Enc.int .i64) eBlk))) v274)]⟩) (J.cons (.none rfl) (JO.move rfl) rfl rfl (J.cons (.none rfl) (JO.loadAll rfl rfl (.prm (.one _ _) (.prm (.one _ _) (.prm (.one _ _) (.one _ _)))) Try.isAgg43 Try.sizeOf43) rfl rfl (J.cons (.none rfl) (JO.lit (e := (Enc.pr (Enc.int .i64) (Enc.pr (Enc.int .i64) (Enc.pr (Enc.int .i64) eBlk)))) Try.runUnderlying32 Try.sizeOf43 Try.zeroValue43 rfl rfl rfl rfl (.cons (.dir rfl) .nil)) rfl rfl (J.mut (.none rfl) (JM.append 202 hv274 rfl rfl (.sl rfl) Try.runUnderlying32 Try.typeInfo43 Try.sizeOf43 rfl rfl rfl rfl rfl) (J.cons (.none rfl) (JO.assign rfl) rfl rfl (J.fin (Sw.Sub.mk id (.cons rfl (.of_eq rfl) (.cons rfl (.of_eq rfl) (.cons rfl (.of_eq rfl) (.cons rfl (.of_eq rfl) (.cons rfl (.of_eq rfl) (.cons rfl (.of_eq rfl) (.cons rfl (.of_eq rfl) .nil))))))) (.arr rfl .nil) rfl))))))) ?_
                refine W.exit ?_
                refine XQ.miss rfl ?_
                obtain rfl := Option.some.inj h
                exact XQ.brk (Sw.Sub.mk (rn [(200, 202)]) (.cons rfl (.of_eq rfl) (.cons rfl (.of_eq rfl) (.cons rfl (.of_eq rfl) (.cons rfl (.of_eq rfl) (.cons rfl (.of_eq rfl) (.cons rfl (.of_eq rfl) (.cons rfl (.of_eq rfl) .nil))))))) (.arr rfl .nil) rfl)
              · replace h := cond_f hc273 h
                refine W.condF rfl hc273 ?_
                refine W.skip ?_
                refine W.fall ?_
                refine W.reg (σ' := ⟨[(1, .v (Enc.sl eBlk) a1), (2, .v (Enc.sl eBlk) a2), (12, .v (Enc.ptN (Enc.pr (Enc.sl eBlk) (Enc.mpF eBlk (Enc.sl (Enc.int .i64))))) v32.1), (14, .ref 160), (16, .ptr 193 0), (56, .v (Enc.sl (Enc.pr (Enc.int .i64) eBlk)) a0), (57, .v (Enc.int .i64) (a0.length : Int)), (58, .v (Enc.int .i64) s154.1), (80, .v (Enc.sl ePWay) ([(.inl () : PWay), (.inr (.inl v32.1) : PWay), (.inr (.inr (.inl a2)) : PWay), (.inr (.inr (.inr (.inl ()))) : PWay)] : (List PWay))), (81, .v (Enc.int .i64) (([(.inl () : PWay), (.inr (.inl v32.1) : PWay), (.inr (.inr (.inl a2)) : PWay), (.inr (.inr (.inr (.inl ()))) : PWay)] : (List PWay)).length : Int)), (82, .v (Enc.int .i64) (ar .add .i64 s262 (1 : Int)))], [(160, .arr 43 (Enc.pr (Enc.int .i64) (Enc.pr (Enc.int .i64) (Enc.pr (Enc.int .i64) eBlk))) s154.2), (193, .box 41 [.v (Enc.int .i64) z247.1, .v eBlk z247.2])]⟩) (J.cons (.none rfl) (JO.arith rfl rfl rfl) rfl rfl (J.cons (.none rfl) (JO.move rfl) rfl rfl (J.fin (Sw.Sub.mk id (.cons rfl (.of_eq rfl) (.cons rfl (.of_eq rfl) (.cons rfl (.of_eq rfl) (.cons rfl (.of_eq rfl) (.cons rfl (.of_eq rfl) (.cons rfl (.of_eq rfl) (.cons rfl (.of_eq rfl) (.cons rfl (.of_eq rfl) (.cons rfl (.of_eq rfl) (.cons rfl (.of_eq rfl) (.cons rfl (.of_eq rfl) .nil))))))))))) (.arr rfl (.box rfl (.cons (.of_eq rfl) (.cons (.of_eq rfl) .nil)) .nil)) rfl)))) ?_
                obtain rfl := Option.some.inj h
                exact W.next (Sw.Sub.mk id (.cons rfl (.of_eq rfl) (.cons rfl (.of_eq rfl) (.cons rfl (.of_eq rfl) (.cons rfl (.of_eq rfl) (.cons rfl (.of_eq rfl) (.cons rfl (.of_eq rfl) (.cons rfl (.of_eq rfl) (.cons rfl (.of_eq rfl) (.cons rfl (.of_eq rfl) (.cons rfl (.of_eq rfl) (.cons rfl (.of_eq rfl) .nil))))))))))) (.arr rfl (.box rfl (.cons (.of_eq rfl) (.cons (.of_eq rfl) .nil)) .nil)) rfl)
            · replace h := cond_f hc270 h
              refine W.condF rfl hc270 ?_
              refine W.exit ?_
              obtain rfl := Option.some.inj h
              exact XQ.brk (Sw.Sub.mk (rn [(200, 160)]) (.cons rfl (.of_eq rfl) (.cons rfl (.of_eq rfl) (.cons rfl (.of_eq rfl) (.cons rfl (.of_eq rfl) (.cons rfl (.of_eq rfl) (.cons rfl (.of_eq rfl) (.cons rfl (.of_eq rfl) .nil))))))) (.arr rfl .nil) rfl)
        · replace h := cond_f hc216 h
          refine W.condF rfl hc216 ?_
          refine W.exit ?_
          obtain rfl := Option.some.inj h
          exact XQ.brk (Sw.Sub.mk id (.cons rfl (.of_eq rfl) .nil) (.arr rfl .nil) rfl)
    intro s17 r24 h
    refine W.seq ?_
    refine W.reg (σ' := ⟨[(0, .v (Enc.sl (Enc.pr (Enc.int .i64) eBlk)) a0), (1, .v (Enc.sl eBlk) a1), (2, .v (Enc.sl eBlk) a2), (9, .v (Enc.int .i64) s17.1), (27, .v (Enc.sl (Enc.pr (Enc.int .i64) eBlk)) a0), (28, .v (Enc.int .i64) (a0.length : Int)), (29, .v (Enc.int .i64) s17.2), (30, .v Enc.bool (cm .lss s17.2 (a0.length : Int)))], []⟩) (J.cons (.none rfl) (JO.cmp rfl rfl rfl) rfl rfl (J.fin (Sw.Sub.mk id (.cons rfl (.of_eq rfl) (.cons rfl (.of_eq rfl) (.cons rfl (.of_eq rfl) (.cons rfl (.of_eq rfl) (.cons rfl (.of_eq rfl) (.cons rfl (.of_eq rfl) (.cons rfl (.of_eq rfl) (.cons rfl (.of_eq rfl) .nil)))))))) .nil rfl))) ?_
    refine W.seq ?_
    rcases Bool.eq_false_or_eq_true (cm .lss s17.2 (a0.length : Int)) with hc26 | hc26
    · replace h := cond_t hc26 h
      refine W.condT rfl hc26 ?_
      refine W.skip ?_
      refine W.seq ?_
      refine W.block ?_
      refine W.seq ?_
      obtain ⟨z27, hz27, h⟩ := bind_e h
      refine W.reg (σ' := ⟨[(0, .v (Enc.sl (Enc.pr (Enc.int .i64) eBlk)) a0), (1, .v (Enc.sl eBlk) a1), (2, .v (Enc.sl eBlk) a2), (9, .v (Enc.int .i64) s17.1), (11, .ptr 110 0), (27, .v (Enc.sl (Enc.pr (Enc.int .i64) eBlk)) a0), (28, .v (Enc.int .i64) (a0.length : Int)), (29, .v (Enc.int .i64) s17.2)], [(110, .box 41 [.v (Enc.int .i64) z27.1, .v eBlk z27.2])]⟩) (J.cons (.none rfl) (JO.idx hz27 rfl rfl Try.runUnderlying26 Try.sizeOf41) rfl rfl (J.cons (.none rfl) (JO.loadPst rfl Try.isAgg41 Try.sizeOf41) rfl rfl (J.cons (.none rfl) (JO.alloc 110 Try.zeroValue41 rfl (.cons (Z.int .i64) (.cons (Z.arr 8 (Z.int .u8)) .nil)) rfl) rfl rfl (J.mut (.none rfl) (JM.storeAll rfl rfl rfl rfl (.prm (.one _ _) (.one _ _)) Try.sizeOf41) (J.fin (Sw.Sub.mk id (.cons rfl (.of_eq rfl) (.cons rfl (.of_eq rfl) (.cons rfl (.of_eq rfl) (.cons rfl (.of_eq rfl) (.cons rfl (.of_eq rfl) (.cons rfl (.of_eq rfl) (.cons rfl (.of_eq rfl) (.cons rfl (.of_eq rfl) .nil)))))))) (.box rfl (.cons (.of_eq rfl) (.cons (.of_eq rfl) .nil)) .nil) rfl)))))) ?_
      refine W.seq ?_
      refine W.seq ?_
      obtain ⟨x29, hx, h⟩ := bind_e h
      refine W.reg (σ' := ⟨[(0, .v (Enc.sl (Enc.pr (Enc.int .i64) eBlk)) a0), (1, .v (Enc.sl eBlk) a1), (2, .v (Enc.sl eBlk) a2), (11, .ptr 110 0), (27, .v (Enc.sl (Enc.pr (Enc.int .i64) eBlk)) a0), (28, .v (Enc.int .i64) (a0.length : Int)), (29, .v (Enc.int .i64) s17.2), (43, .v Enc.bool x29)], [(110, .box 41 [.v (Enc.int .i64) z27.1, .v eBlk z27.2])]⟩) ?_ ?_
      · rcases Bool.eq_false_or_eq_true (cm .leq z27.1 s17.1) with hc30 | hc30
        · replace hx := cond_t hc30 hx
          obtain rfl := Option.some.inj hx
          exact (J.cons (.none rfl) (JO.fieldPtr 0 rfl Try.runUnderlying41 rfl Try.sizeOf3 rfl rfl) rfl rfl (J.cons (.none rfl) (JO.load rfl rfl rfl Try.isAgg3 Try.sizeOf3) rfl rfl (J.cons (.none rfl) (JO.move rfl) rfl rfl (J.cons (.none rfl) (JO.cmp rfl rfl rfl) rfl rfl (J.cons (.none rfl) (JO.move rfl) rfl rfl (J.left (GK.unmet 37 rfl rfl rfl hc30) rfl (J.left (GK.unmet 37 rfl rfl rfl hc30) rfl (J.left (GK.unmet 37 rfl rfl rfl hc30) rfl (J.left (GK.unmet 37 rfl rfl rfl hc30) rfl (J.left (GK.unmet 37 rfl rfl rfl hc30) rfl (J.cons (.none rfl) (JO.pT hc30 rfl rfl) rfl rfl (J.fin (Sw.Sub.mk id (.cons rfl (.of_eq rfl) (.cons rfl (.of_eq rfl) (.cons rfl (.of_eq rfl) (.cons rfl (.of_eq rfl) (.cons rfl (.of_eq rfl) (.cons rfl (.of_eq rfl) (.cons rfl (.of_eq rfl) (.cons rfl (.of_eq rfl) .nil)))))))) (.box rfl (.cons (.of_eq rfl) (.cons (.of_eq rfl) .nil)) .nil) rfl)))))))))))))
        · replace hx := cond_f hc30 hx
          obtain rfl := Option.some.inj hx
          exact (J.cons (.none rfl) (JO.fieldPtr 0 rfl Try.runUnderlying41 rfl Try.sizeOf3 rfl rfl) rfl rfl (J.cons (.none rfl) (JO.load rfl rfl rfl Try.isAgg3 Try.sizeOf3) rfl rfl (J.cons (.none rfl) (JO.move rfl) rfl rfl (J.cons (.none rfl) (JO.cmp rfl rfl rfl) rfl rfl (J.cons (.none rfl) (JO.move rfl) rfl rfl (J.cons (GK.met 37 rfl rfl rfl hc30) (JO.fieldPtr 0 rfl Try.runUnderlying41 rfl Try.sizeOf3 rfl rfl) rfl rfl (J.cons (GK.met 37 rfl rfl rfl hc30) (JO.load rfl rfl rfl Try.isAgg3 Try.sizeOf3) rfl rfl (J.cons (GK.met 37 rfl rfl rfl hc30) (JO.move rfl) rfl rfl (J.cons (GK.met 37 rfl rfl rfl hc30) (JO.len rfl Try.runUnderlying24) rfl rfl (J.cons (GK.met 37 rfl rfl rfl hc30) (JO.cmp rfl rfl rfl) rfl rfl (J.cons (.none rfl) (JO.pF hc30 rfl rfl) rfl rfl (J.fin (Sw.Sub.mk id (.cons rfl (.of_eq rfl) (.cons rfl (.of_eq rfl) (.cons rfl (.of_eq rfl) (.cons rfl (.of_eq rfl) (.cons rfl (.of_eq rfl) (.cons rfl (.of_eq rfl) (.cons rfl (.of_eq rfl) (.cons rfl (.of_eq rfl) .nil)))))))) (.box rfl (.cons (.of_eq rfl) (.cons (.of_eq rfl) .nil)) .nil) rfl)))))))))))))
      rcases Bool.eq_false_or_eq_true x29 with hc31 | hc31
      · replace h := cond_t hc31 h
        refine W.condT rfl hc31 ?_
        refine W.seq ?_
        refine W.reg (σ' := ⟨[(6, .ref 111), (7, .v (Enc.err ET) (some (1 : Int)))], [(111, .arr 43 (Enc.pr (Enc.int .i64) (Enc.pr (Enc.int .i64) (Enc.pr (Enc.int .i64) eBlk))) ([] : (List (Int × Int × Int × Blk))))]⟩) (J.cons (.none rfl) (JO.mkErr Try.runUnderlying86 rfl) rfl rfl (J.cons (.none rfl) (JO.assignNilR 111 43 (Enc.pr (Enc.int .i64) (Enc.pr (Enc.int .i64) (Enc.pr (Enc.int .i64) eBlk)))) rfl rfl (J.cons (.none rfl) (JO.assign rfl) rfl rfl (J.fin (Sw.Sub.mk id (.cons rfl (.of_eq rfl) (.cons rfl (.of_eq rfl) .nil)) (.arr rfl .nil) rfl))))) ?_
        refine W.ret ?_
        refine XQ.ret ?_
        obtain rfl := Option.some.inj h
        refine XQ.lret fun ho => ?_
        obtain rfl := hr24 _ ho
        exact XQ.sub (σ' := ⟨[(6, .ref 0), (7, .v (Enc.err ET) (some (1 : Int)))], [(0, .arr 43 (Enc.pr (Enc.int .i64) (Enc.pr (Enc.int .i64) (Enc.pr (Enc.int .i64) eBlk))) ([] : (List (Int × Int × Int × Blk))))]⟩) (Sw.Sub.mk (rn [(0, 111)]) (.cons rfl (.of_eq rfl) (.cons rfl (.of_eq rfl) .nil)) (.arr rfl .nil) rfl) (XQ.ret2 hF noR rfl (RV.tmp rfl) (RV.tmp rfl) (.cons rfl .nil) rfl)
      · replace h := cond_f hc31 h
        refine W.condF rfl hc31 ?_
        refine W.skip ?_
        refine W.reg (σ' := ⟨[(0, .v (Enc.sl (Enc.pr (Enc.int .i64) eBlk)) a0), (1, .v (Enc.sl eBlk) a1), (2, .v (Enc.sl eBlk) a2), (9, .v (Enc.int .i64) z27.1), (27, .v (Enc.sl (Enc.pr (Enc.int .i64) eBlk)) a0), (28, .v (Enc.int .i64) (a0.length : Int)), (29, .v (Enc.int .i64) s17.2)], []⟩) (J.cons (.none rfl) (JO.fieldPtr 0 rfl Try.runUnderlying41 rfl Try.sizeOf3 rfl rfl) rfl rfl (J.cons (.none rfl) (JO.load rfl rfl rfl Try.isAgg3 Try.sizeOf3) rfl rfl (J.cons (.none rfl) (JO.assign rfl) rfl rfl (J.fin (Sw.Sub.mk id (.cons rfl (.of_eq rfl) (.cons rfl (.of_eq rfl) (.cons rfl (.of_eq rfl) (.cons rfl (.of_eq rfl) (.cons rfl (.of_eq rfl) (.cons rfl (.of_eq rfl) (.cons rfl (.of_eq rfl) .nil))))))) .nil rfl))))) ?_
        refine W.fall ?_
        refine W.reg (σ' := ⟨[(0, .v (Enc.sl (Enc.pr (Enc.int .i64) eBlk)) a0), (1, .v (Enc.sl eBlk) a1), (2, .v (Enc.sl eBlk) a2), (9, .v (Enc.int .i64) z27.1), (27, .v (Enc.sl (Enc.pr (Enc.int .i64) eBlk)) a0), (28, .v (Enc.int .i64) (a0.length : Int)), (29, .v (Enc.int .i64) (ar .add .i64 s17.2 (1 : Int)))], []⟩) (J.cons (.none rfl) (JO.arith rfl rfl rfl) rfl rfl (J.cons (.none rfl) (JO.move rfl) rfl rfl (J.fin (Sw.Sub.mk id (.cons rfl (.of_eq rfl) (.cons rfl (.of_eq rfl) (.cons rfl (.of_eq rfl) (.cons rfl (.of_eq rfl) (.cons rfl (.of_eq rfl) (.cons rfl (.of_eq rfl) (.cons rfl (.of_eq rfl) .nil))))))) .nil rfl)))) ?_
        obtain rfl := Option.some.inj h
        exact W.next (Sw.Sub.mk id (.cons rfl (.of_eq rfl) (.cons rfl (.of_eq rfl) (.cons rfl (.of_eq rfl) (.cons rfl (.of_eq rfl) (.cons rfl (.of_eq rfl) (.cons rfl (.of_eq rfl) (.cons rfl (.of_eq rfl) .nil))))))) .nil rfl)
    · replace h := cond_f hc26 h
      refine W.condF rfl hc26 ?_
      refine W.exit ?_
      obtain rfl := Option.some.inj h
      exact XQ.brk (Sw.Sub.mk id (.cons rfl (.of_eq rfl) (.cons rfl (.of_eq rfl) (.cons rfl (.of_eq rfl) .nil))) .nil rfl)
set_option maxRecDepth 100000 in
set_option maxHeartbeats 4000000 in
theorem con_plan_one {a0 : (List Blk)} {a1 : Int} {r : Blk × Bool} (h : m_plan_one a0 a1 = some r) :
    Con Try.prog 34 [.v (Enc.sl eBlk) a0, .v (Enc.int .i64) a1] (.tup [.v eBlk r.1, .v Enc.bool r.2]) [] := by
  refine Con.of Try.func34 rfl Try.ntmps34 rfl ?_
  intro S w hF
  unfold m_plan_one at h
  refine W.seq ?_
  refine W.reg (σ' := ⟨[(0, .v (Enc.sl eBlk) a0), (1, .v (Enc.int .i64) a1), (4, .ptr 101 0)], [(101, .box 29 [.v eBlk zblk])]⟩) (J.cons (.none rfl) (JO.alloc 101 Try.zeroValue29 rfl (.cons (Z.arr 8 (Z.int .u8)) .nil) rfl) rfl rfl (J.cons (.none rfl) (JO.assign rfl) rfl rfl (J.fin (Sw.Sub.mk id (.cons rfl (.of_eq rfl) (.cons rfl (.of_eq rfl) (.cons rfl (.of_eq rfl) .nil))) (.box rfl (.cons (.of_eq rfl) .nil) .nil) rfl)))) ?_
  refine W.seq ?_
  refine W.seq ?_
  obtain ⟨x2, hx, h⟩ := bind_e h
  refine W.reg (σ' := ⟨[(0, .v (Enc.sl eBlk) a0), (1, .v (Enc.int .i64) a1), (4, .ptr 101 0), (13, .v Enc.bool x2)], [(101, .box 29 [.v eBlk zblk])]⟩) ?_ ?_
  · rcases Bool.eq_false_or_eq_true (cm .lss a1 (0 : Int)) with hc3 | hc3
    · replace hx := cond_t hc3 hx
      obtain rfl := Option.some.inj hx
      exact (J.cons (.none rfl) (JO.move rfl) rfl rfl (J.cons (.none rfl) (JO.cmp rfl rfl rfl) rfl rfl (J.cons (.none rfl) (JO.move rfl) rfl rfl (J.left (GK.unmet 8 rfl rfl rfl hc3) rfl (J.left (GK.unmet 8 rfl rfl rfl hc3) rfl (J.left (GK.unmet 8 rfl rfl rfl hc3) rfl (J.left (GK.unmet 8 rfl rfl rfl hc3) rfl (J.cons (.none rfl) (JO.pT hc3 rfl rfl) rfl rfl (J.fin (Sw.Sub.mk id (.cons rfl (.of_eq rfl) (.cons rfl (.of_eq rfl) (.cons rfl (.of_eq rfl) (.cons rfl (.of_eq rfl) .nil)))) (.box rfl (.cons (.of_eq rfl) .nil) .nil) rfl))))))))))
    · replace hx := cond_f hc3 hx
      obtain rfl := Option.some.inj hx
      exact (J.cons (.none rfl) (JO.move rfl) rfl rfl (J.cons (.none rfl) (JO.cmp rfl rfl rfl) rfl rfl (J.cons (.none rfl) (JO.move rfl) rfl rfl (J.cons (GK.met 8 rfl rfl rfl hc3) (JO.move rfl) rfl rfl (J.cons (GK.met 8 rfl rfl rfl hc3) (JO.move rfl) rfl rfl (J.cons (GK.met 8 rfl rfl rfl hc3) (JO.len rfl Try.runUnderlying24) rfl rfl (J.cons (GK.met 8 rfl rfl rfl hc3) (JO.cmp rfl rfl rfl) rfl rfl (J.cons (.none rfl) (JO.pF hc3 rfl rfl) rfl rfl (J.fin (Sw.Sub.mk id (.cons rfl (.of_eq rfl) (.cons rfl (.of_eq rfl) (.cons rfl (.of_eq rfl) (.cons rfl (.of_eq rfl) .nil)))) (.box rfl (.cons (.of_eq rfl) .nil) .nil) rfl))))))))))
  rcases Bool.eq_false_or_eq_true x2 with hc4 | hc4
  · replace h := cond_t hc4 h
    refine W.condT rfl hc4 ?_
    refine W.seq ?_
    refine W.reg (σ' := ⟨[(4, .ptr 101 0), (5, .v Enc.bool false)], [(101, .box 29 [.v eBlk zblk])]⟩) (J.cons (.none rfl) (JO.zeroArr (e := eBlk) (v := zblk) Try.typeInfo29 Try.runUnderlying29 Try.typeInfo5 rfl rfl (Z.arr 8 (Z.int .u8))) rfl rfl (J.mut (.none rfl) (JM.store rfl rfl rfl rfl rfl rfl rfl Try.sizeOf29) (J.cons (.none rfl) (JO.assign rfl) rfl rfl (J.fin (Sw.Sub.mk id (.cons rfl (.of_eq rfl) (.cons rfl (.of_eq rfl) .nil)) (.box rfl (.cons (.of_eq rfl) .nil) .nil) rfl))))) ?_
    refine W.ret ?_
    obtain rfl := Option.some.inj h
    exact XQ.sub (σ' := ⟨[(4, .ptr 90 0), (5, .v Enc.bool false)], [(90, .box 29 [.v eBlk zblk])]⟩) (Sw.Sub.mk (rn [(90, 101)]) (.cons rfl (.of_eq rfl) (.cons rfl (.of_eq rfl) .nil)) (.box rfl (.cons (.of_eq rfl) .nil) .nil) rfl) (XQ.ret2 hF noR rfl (RV.cellAt rfl rfl rfl Try.isAgg29 Try.sizeOf29) (RV.tmp rfl) .nil rfl)
  · replace h := cond_f hc4 h
    refine W.condF rfl hc4 ?_
    refine W.skip ?_
    refine W.seq ?_
    obtain ⟨z5, hz5, h⟩ := bind_e h
    refine W.reg (σ' := ⟨[(4, .ptr 101 0), (5, .v Enc.bool true)], [(101, .box 29 [.v eBlk z5])]⟩) (J.cons (.none rfl) (JO.move rfl) rfl rfl (J.cons (.none rfl) (JO.move rfl) rfl rfl (J.cons (.none rfl) (JO.idx hz5 rfl rfl Try.runUnderlying24 Try.sizeOf29) rfl rfl (J.cons (.none rfl) (JO.loadPst rfl Try.isAgg29 Try.sizeOf29) rfl rfl (J.mut (.none rfl) (JM.store rfl rfl rfl rfl rfl rfl rfl Try.sizeOf29) (J.cons (.none rfl) (JO.assign rfl) rfl rfl (J.fin (Sw.Sub.mk id (.cons rfl (.of_eq rfl) (.cons rfl (.of_eq rfl) .nil)) (.box rfl (.cons (.of_eq rfl) .nil) .nil) rfl)))))))) ?_
    refine W.ret ?_
    obtain rfl := Option.some.inj h
    exact XQ.sub (σ' := ⟨[(4, .ptr 90 0), (5, .v Enc.bool true)], [(90, .box 29 [.v eBlk z5])]⟩) (Sw.Sub.mk (rn [(90, 101)]) (.cons rfl (.of_eq rfl) (.cons rfl (.of_eq rfl) .nil)) (.box rfl (.cons (.of_eq rfl) .nil) .nil) rfl) (XQ.ret2 hF noR rfl (RV.cellAt rfl rfl rfl Try.isAgg29 Try.sizeOf29) (RV.tmp rfl) .nil rfl)
set_option maxRecDepth 100000 in
set_option maxHeartbeats 4000000 in
theorem con_plan_Apply {a0 : (List (Int × Int × Int × Blk))} {a1 : (List Blk)} {a2 : (List Blk)} {r : (List (Int × Blk)) × (List Int) × (Option Int)} (h : m_plan_Apply a0 a1 a2 = some r) :
    Con Try.prog 14 [.v (Enc.sl (Enc.pr (Enc.int .i64) (Enc.pr (Enc.int .i64) (Enc.pr (Enc.int .i64) eBlk)))) a0, .v (Enc.sl eBlk) a1, .v (Enc.sl eBlk) a2] (.tup [.ref 0, .ref 1, .v (Enc.err ET) r.2.2]) [(0, .arr 41 (Enc.pr (Enc.int .i64) eBlk) r.1), (1, .arr 3 (Enc.int .i64) r.2.1)] := by
  refine Con.of Try.func14 rfl Try.ntmps14 rfl ?_
  intro S w hF
  unfold m_plan_Apply at h
  refine W.seq ?_
  refine W.reg (σ' := ⟨[(0, .v (Enc.sl (Enc.pr (Enc.int .i64) (Enc.pr (Enc.int .i64) (Enc.pr (Enc.int .i64) eBlk)))) a0), (1, .v (Enc.sl eBlk) a1), (2, .v (Enc.sl eBlk) a2), (6, .ref 101), (7, .ref 102)], [(101, .arr 41 (Enc.pr (Enc.int .i64) eBlk) ([] : (List (Int × Blk)))), (102, .arr 3 (Enc.int .i64) ([] : (List Int)))]⟩) (J.cons (.none rfl) (JO.assignNilR 101 41 (Enc.pr (Enc.int .i64) eBlk)) rfl rfl (J.cons (.none rfl) (JO.assignNilR 102 3 (Enc.int .i64)) rfl rfl (J.cons (.none rfl) (JO.assignNilE ET) rfl rfl (J.fin (Sw.Sub.mk id (.cons rfl (.of_eq rfl) (.cons rfl (.of_eq rfl) (.cons rfl (.of_eq rfl) (.cons rfl (.of_eq rfl) (.cons rfl (.of_eq rfl) .nil))))) (.arr rfl (.arr rfl .nil)) rfl))))) ?_
  refine W.seq ?_
  refine W.seq ?_
  obtain ⟨v1, hv1, h⟩ := bind_e h
  refine W.reg (σ' := ⟨[(0, .v (Enc.sl (Enc.pr (Enc.int .i64) (Enc.pr (Enc.int .i64) (Enc.pr (Enc.int .i64) eBlk)))) a0), (1, .v (Enc.sl eBlk) a1), (2, .v (Enc.sl eBlk) a2), (6, .ref 101), (7, .ref 102), (9, .v (Enc.err ET) v1)], [(101, .arr 41 (Enc.pr (Enc.int .i64) eBlk) ([] : (List (Int × Blk)))), (102, .arr 3 (Enc.int .i64) ([] : (List Int)))]⟩) (J.cons (.none rfl) (JO.move rfl) rfl rfl (J.cons (.none rfl) (JO.move rfl) rfl rfl (J.cons (.none rfl) (JO.call0 (con_plan_checked hv1) Try.call32 (.cons (.dir rfl) (.cons (.dir rfl) .nil))) rfl rfl (J.cons (.none rfl) (JO.assign rfl) rfl rfl (J.fin (Sw.Sub.mk id (.cons rfl (.of_eq rfl) (.cons rfl (.of_eq rfl) (.cons rfl (.of_eq rfl) (.cons rfl (.of_eq rfl) (.cons rfl (.of_eq rfl) (.cons rfl (.of_eq rfl) .nil)))))) (.arr rfl (.arr rfl .nil)) rfl)))))) ?_
  refine W.seq ?_
  refine W.reg (σ' := ⟨[(0, .v (Enc.sl (Enc.pr (Enc.int .i64) (Enc.pr (Enc.int .i64) (Enc.pr (Enc.int .i64) eBlk)))) a0), (1, .v (Enc.sl eBlk) a1), (2, .v (Enc.sl eBlk) a2), (6, .ref 101), (7, .ref 102), (9, .v (Enc.err ET) v1), (21, .v Enc.bool (Option.isSome v1))], [(101, .arr 41 (Enc.pr (Enc.int .i64) eBlk) ([] : (List (Int × Blk)))), (102, .arr 3 (Enc.int .i64) ([] : (List Int)))]⟩) (J.cons (.none rfl) (JO.move rfl) rfl rfl (J.cons (.none rfl) (JO.errNe Try.runUnderlying34 rfl) rfl rfl (J.fin (Sw.Sub.mk id (.cons rfl (.of_eq rfl) (.cons rfl (.of_eq rfl) (.cons rfl (.of_eq rfl) (.cons rfl (.of_eq rfl) (.cons rfl (.of_eq rfl) (.cons rfl (.of_eq rfl) (.cons rfl (.of_eq rfl) .nil))))))) (.arr rfl (.arr rfl .nil)) rfl)))) ?_
  rcases Bool.eq_false_or_eq_true (Option.isSome v1) with hc2 | hc2
  · replace h := cond_t hc2 h
    refine W.condT rfl hc2 ?_
    refine W.seq ?_
    refine W.reg (σ' := ⟨[(6, .ref 104), (7, .ref 105), (8, .v (Enc.err ET) v1)], [(104, .arr 41 (Enc.pr (Enc.int .i64) eBlk) ([] : (List (Int × Blk)))), (105, .arr 3 (Enc.int .i64) ([] : (List Int)))]⟩) (J.cons (.none rfl) (JO.move rfl) rfl rfl (J.cons (.none rfl) (JO.assignNilR 104 41 (Enc.pr (Enc.int .i64) eBlk)) rfl rfl (J.cons (.none rfl) (JO.assignNilR 105 3 (Enc.int .i64)) rfl rfl (J.cons (.none rfl) (JO.assign rfl) rfl rfl (J.fin (Sw.Sub.mk id (.cons rfl (.of_eq rfl) (.cons rfl (.of_eq rfl) (.cons rfl (.of_eq rfl) .nil))) (.arr rfl (.arr rfl .nil)) rfl)))))) ?_
    refine W.ret ?_
    obtain rfl := Option.some.inj h
    exact XQ.sub (σ' := ⟨[(6, .ref 0), (7, .ref 1), (8, .v (Enc.err ET) v1)], [(1, .arr 3 (Enc.int .i64) ([] : (List Int))), (0, .arr 41 (Enc.pr (Enc.int .i64) eBlk) ([] : (List (Int × Blk))))]⟩) (Sw.Sub.mk (rn [(0, 104), (1, 105)]) (.cons rfl (.of_eq rfl) (.cons rfl (.of_eq rfl) (.cons rfl (.of_eq rfl) .nil))) (.arr rfl (.arr rfl .nil)) rfl) (XQ.ret3 hF noR rfl (RV.tmp rfl) (RV.tmp rfl) (RV.tmp rfl) (.cons rfl (.cons rfl .nil)) rfl)
  · replace h := cond_f hc2 h
    refine W.condF rfl hc2 ?_
    refine W.skip ?_
    refine W.seq ?_
    refine W.reg (σ' := ⟨[(0, .v (Enc.sl (Enc.pr (Enc.int .i64) (Enc.pr (Enc.int .i64) (Enc.pr (Enc.int .i64) eBlk)))) a0), (1, .v (Enc.sl eBlk) a1), (2, .v (Enc.sl eBlk) a2), (6, .ref 101), (7, .ref 102), (10, .v (Enc.int .i64) (-1 : Int))], [(101, .arr 41 (Enc.pr (Enc.int .i64) eBlk) ([] : (List (Int × Blk)))), (102, .arr 3 (Enc.int .i64) ([] : (List Int)))]⟩) (J.cons (.none rfl) (JO.assign rfl) rfl rfl (J.fin (Sw.Sub.mk id (.cons rfl (.of_eq rfl) (.cons rfl (.of_eq rfl) (.cons rfl (.of_eq rfl) (.cons rfl (.of_eq rfl) (.cons rfl (.of_eq rfl) (.cons rfl (.of_eq rfl) .nil)))))) (.arr rfl (.arr rfl .nil)) rfl))) ?_
    refine W.seq ?_
    refine W.seq ?_
    refine W.reg (σ' := ⟨[(0, .v (Enc.sl (Enc.pr (Enc.int .i64) (Enc.pr (Enc.int .i64) (Enc.pr (Enc.int .i64) eBlk)))) a0), (1, .v (Enc.sl eBlk) a1), (2, .v (Enc.sl eBlk) a2), (6, .ref 101), (7, .ref 102), (10, .v (Enc.int .i64) (-1 : Int)), (23, .v (Enc.sl (Enc.pr (Enc.int .i64) (Enc.pr (Enc.int .i64) (Enc.pr (Enc.int .i64) eBlk)))) a0), (24, .v (Enc.int .i64) (a0.length : Int)), (25, .v (Enc.int .i64) (0 : Int))], [(101, .arr 41 (Enc.pr (Enc.int .i64) eBlk) ([] : (List (Int × Blk)))), (102, .arr 3 (Enc.int .i64) ([] : (List Int)))]⟩) (J.cons (.none rfl) (JO.move rfl) rfl rfl (J.cons (.none rfl) (JO.len rfl Try.runUnderlying32) rfl rfl (J.cons (.none rfl) (JO.move rfl) rfl rfl (J.fin (Sw.Sub.mk id (.cons rfl (.of_eq rfl) (.cons rfl (.of_eq rfl) (.cons rfl (.of_eq rfl) (.cons rfl (.of_eq rfl) (.cons rfl (.of_eq rfl) (.cons rfl (.of_eq rfl) (.cons rfl (.of_eq rfl) (.cons rfl (.of_eq rfl) (.cons rfl (.of_eq rfl) .nil))))))))) (.arr rfl (.arr rfl .nil)) rfl))))) ?_
    obtain ⟨o36, ho36, hb36, hr36⟩ := lp_elim h
    refine W.lp (σs := fun s25 : Int × Int => ⟨[(0, .v (Enc.sl (Enc.pr (Enc.int .i64) (Enc.pr (Enc.int .i64) (Enc.pr (Enc.int .i64) eBlk)))) a0), (1, .v (Enc.sl eBlk) a1), (2, .v (Enc.sl eBlk) a2), (6, .ref 101), (7, .ref 102), (10, .v (Enc.int .i64) s25.1), (23, .v (Enc.sl (Enc.pr (Enc.int .i64) (Enc.pr (Enc.int .i64) (Enc.pr (Enc.int .i64) eBlk)))) a0), (24, .v (Enc.int .i64) (a0.length : Int)), (25, .v (Enc.int .i64) s25.2)], [(101, .arr 41 (Enc.pr (Enc.int .i64) eBlk) ([] : (List (Int × Blk)))), (102, .arr 3 (Enc.int .i64) ([] : (List Int)))]⟩) (fun x37 : Unit => ⟨[(0, .v (Enc.sl (Enc.pr (Enc.int .i64) (Enc.pr (Enc.int .i64) (Enc.pr (Enc.int .i64) eBlk)))) a0), (1, .v (Enc.sl eBlk) a1), (2, .v (Enc.sl eBlk) a2), (6, .ref 101), (7, .ref 102)], [(101, .arr 41 (Enc.pr (Enc.int .i64) eBlk) ([] : (List (Int × Blk)))), (102, .arr 3 (Enc.int .i64) ([] : (List Int)))]⟩) ho36 (Sw.Sub.mk id (.cons rfl (.of_eq rfl) (.cons rfl (.of_eq rfl) (.cons rfl (.of_eq rfl) (.cons rfl (.of_eq rfl) (.cons rfl (.of_eq rfl) (.cons rfl (.of_eq rfl) (.cons rfl (.of_eq rfl) (.cons rfl (.of_eq rfl) (.cons rfl (.of_eq rfl) .nil))))))))) (.arr rfl (.arr rfl .nil)) rfl) ?_ ?_
    · intro x37 hy
      have h := hb36 _ hy
      refine W.seq ?_
      refine W.seq ?_
      refine W.reg (σ' := ⟨[(1, .v (Enc.sl eBlk) a1), (2, .v (Enc.sl eBlk) a2), (6, .ref 101), (7, .ref 102), (54, .v (Enc.sl (Enc.pr (Enc.int .i64) (Enc.pr (Enc.int .i64) (Enc.pr (Enc.int .i64) eBlk)))) a0), (55, .v (Enc.int .i64) (a0.length : Int)), (56, .v (Enc.int .i64) (0 : Int))], [(101, .arr 41 (Enc.pr (Enc.int .i64) eBlk) ([] : (List (Int × Blk)))), (102, .arr 3 (Enc.int .i64) ([] : (List Int)))]⟩) (J.cons (.none rfl) (JO.move rfl) rfl rfl (J.cons (.none rfl) (JO.len rfl Try.runUnderlying32) rfl rfl (J.cons (.none rfl) (JO.move rfl) rfl rfl (J.fin (Sw.Sub.mk id (.cons rfl (.of_eq rfl) (.cons rfl (.of_eq rfl) (.cons rfl (.of_eq rfl) (.cons rfl (.of_eq rfl) (.cons rfl (.of_eq rfl) (.cons rfl (.of_eq rfl) (.cons rfl (.of_eq rfl) .nil))))))) (.arr rfl (.arr rfl .nil)) rfl))))) ?_
      obtain ⟨o108, ho108, hb108, hr108⟩ := lp_elim h
      refine W.lp (σs := fun s88 : Int × (List (Int × Blk)) × (List Int) => ⟨[(1, .v (Enc.sl eBlk) a1), (2, .v (Enc.sl eBlk) a2), (6, .ref 148), (7, .ref 149), (54, .v (Enc.sl (Enc.pr (Enc.int .i64) (Enc.pr (Enc.int .i64) (Enc.pr (Enc.int .i64) eBlk)))) a0), (55, .v (Enc.int .i64) (a0.length : Int)), (56, .v (Enc.int .i64) s88.1)], [(148, .arr 41 (Enc.pr (Enc.int .i64) eBlk) s88.2.1), (149, .arr 3 (Enc.int .i64) s88.2.2)]⟩) (fun x109 : (List (Int × Blk)) × (List Int) => ⟨[(6, .ref 148), (7, .ref 149)], [(148, .arr 41 (Enc.pr (Enc.int .i64) eBlk) x109.1), (149, .arr 3 (Enc.int .i64) x109.2)]⟩) ho108 (Sw.Sub.mk (rn [(148, 101), (149, 102)]) (.cons rfl (.of_eq rfl) (.cons rfl (.of_eq rfl) (.cons rfl (.of_eq rfl) (.cons rfl (.of_eq rfl) (.cons rfl (.of_eq rfl) (.cons rfl (.of_eq rfl) (.cons rfl (.of_eq rfl) .nil))))))) (.arr rfl (.arr rfl .nil)) rfl) ?_ ?_
      · intro x109 hy
        have h := hb108 _ hy
        refine W.seq ?_
        refine W.reg (σ' := ⟨[(6, .ref 148), (7, .ref 149), (8, .v (Enc.err ET) (none : Option Int))], [(148, .arr 41 (Enc.pr (Enc.int .i64) eBlk) x109.1), (149, .arr 3 (Enc.int .i64) x109.2)]⟩) (J.cons (.none rfl) (JO.move rfl) rfl rfl (J.cons (.none rfl) (JO.move rfl) rfl rfl (J.cons (.none rfl) (JO.assign rfl) rfl rfl (J.cons (.none rfl) (JO.assign rfl) rfl rfl (J.cons (.none rfl) (JO.assignNilE ET) rfl rfl (J.fin (Sw.Sub.mk id (.cons rfl (.of_eq rfl) (.cons rfl (.of_eq rfl) (.cons rfl (.of_eq rfl) .nil))) (.arr rfl (.arr rfl .nil)) rfl))))))) ?_
        refine W.ret ?_
        obtain rfl := Option.some.inj h
        exact XQ.sub (σ' := ⟨[(6, .ref 0), (7, .ref 1), (8, .v (Enc.err ET) (none : Option Int))], [(1, .arr 3 (Enc.int .i64) x109.2), (0, .arr 41 (Enc.pr (Enc.int .i64) eBlk) x109.1)]⟩) (Sw.Sub.mk (rn [(0, 148), (1, 149)]) (.cons rfl (.of_eq rfl) (.cons rfl (.of_eq rfl) (.cons rfl (.of_eq rfl) .nil))) (.arr rfl (.arr rfl .nil)) rfl) (XQ.ret3 hF noR rfl (RV.tmp rfl) (RV.tmp rfl) (RV.tmp rfl) (.cons rfl (.cons rfl .nil)) rfl)
      intro s88 r108 h
      refine W.seq ?_
      refine W.reg (σ' := ⟨[(1, .v (Enc.sl eBlk) a1), (2, .v (Enc.sl eBlk) a2), (6, .ref 148), (7, .ref 149), (54, .v (Enc.sl (Enc.pr (Enc.int .i64) (Enc.pr (Enc.int .i64) (Enc.pr (Enc.int .i64) eBlk)))) a0), (55, .v (Enc.int .i64) (a0.length : Int)), (56, .v (Enc.int .i64) s88.1), (57, .v Enc.bool (cm .lss s88.1 (a0.length : Int)))], [(148, .arr 41 (Enc.pr (Enc.int .i64) eBlk) s88.2.1), (149, .arr 3 (Enc.int .i64) s88.2.2)]⟩) (J.cons (.none rfl) (JO.cmp rfl rfl rfl) rfl rfl (J.fin (Sw.Sub.mk id (.cons rfl (.of_eq rfl) (.cons rfl (.of_eq rfl) (.cons rfl (.of_eq rfl) (.cons rfl (.of_eq rfl) (.cons rfl (.of_eq rfl) (.cons rfl (.of_eq rfl) (.cons rfl (.of_eq rfl) (.cons rfl (.of_eq rfl) .nil)))))))) (.arr rfl (.arr rfl .nil)) rfl))) ?_
      refine W.seq ?_
      rcases Bool.eq_false_or_eq_true (cm .lss s88.1 (a0.length : Int)) with hc110 | hc110
      · replace h := cond_t hc110 h
        refine W.condT rfl hc110 ?_
        refine W.skip ?_
        refine W.seq ?_
        refine W.block ?_
        refine W.seq ?_
        obtain ⟨z111, hz111, h⟩ := bind_e h
        refine W.reg (σ' := ⟨[(1, .v (Enc.sl eBlk) a1), (2, .v (Enc.sl eBlk) a2), (6, .ref 148), (7, .ref 149), (14, .ptr 162 0), (54, .v (Enc.sl (Enc.pr (Enc.int .i64) (Enc.pr (Enc.int .i64) (Enc.pr (Enc.int .i64) eBlk)))) a0), (55, .v (Enc.int .i64) (a0.length : Int)), (56, .v (Enc.int .i64) s88.1)], [(148, .arr 41 (Enc.pr (Enc.int .i64) eBlk) s88.2.1), (149, .arr 3 (Enc.int .i64) s88.2.2), (162, .box 43 [.v (Enc.int .i64) z111.1, .v (Enc.int .i64) z111.2.1, .v (Enc.int .i64) z111.2.2.1, .v eBlk z111.2.2.2])]⟩) (J.cons (.none rfl) (JO.idx hz111 rfl rfl Try.runUnderlying32 Try.sizeOf43) rfl rfl (J.cons (.none rfl) (JO.loadPst rfl Try.isAgg43 Try.sizeOf43) rfl rfl (J.cons (.none rfl) (JO.alloc 162 Try.zeroValue43 rfl (.cons (Z.int .i64) (.cons (Z.int .i64) (.cons (Z.int .i64) (.cons (Z.arr 8 (Z.int .u8)) .nil)))) rfl) rfl rfl (J.mut (.none rfl) (JM.storeAll rfl rfl rfl rfl (.prm (.one _ _) (.prm (.one _ _) (.prm (.one _ _) (.one _ _)))) Try.sizeOf43) (J.fin (Sw.Sub.mk id (.cons rfl (.of_eq rfl) (.cons rfl (.of_eq rfl) (.cons rfl (.of_eq rfl) (.cons rfl (.of_eq rfl) (.cons rfl (.of_eq rfl) (.cons rfl (.of_eq rfl) (.cons rfl (.of_eq rfl) (.cons rfl (.of_eq rfl) .nil)))))))) (.arr rfl (.arr rfl (.box rfl (.cons (.of_eq rfl) (.cons (.of_eq rfl) (.cons (.of_eq rfl) (.cons (.of_eq rfl) .nil)))) .nil))) rfl)))))) ?_
        refine W.seq ?_
        refine W.reg (σ' := ⟨[(1, .v (Enc.sl eBlk) a1), (2, .v (Enc.sl eBlk) a2), (6, .ref 148), (7, .ref 149), (14, .ptr 162 0), (15, .ptr 163 0), (54, .v (Enc.sl (Enc.pr (Enc.int .i64) (Enc.pr (Enc.int .i64) (Enc.pr (Enc.int .i64) eBlk)))) a0), (55, .v (Enc.int .i64) (a0.length : Int)), (56, .v (Enc.int .i64) s88.1)], [(148, .arr 41 (Enc.pr (Enc.int .i64) eBlk) s88.2.1), (149, .arr 3 (Enc.int .i64) s88.2.2), (162, .box 43 [.v (Enc.int .i64) z111.1, .v (Enc.int .i64) z111.2.1, .v (Enc.int .i64) z111.2.2.1, .v eBlk z111.2.2.2]), (163, .box 29 [.v eBlk zblk])]⟩) (J.cons (.none rfl) (JO.alloc 163 Try.zeroValue29 rfl (.cons (Z.arr 8 (Z.int .u8)) .nil) rfl) rfl rfl (J.fin (Sw.Sub.mk id (.cons rfl (.of_eq rfl) (.cons rfl (.of_eq rfl) (.cons rfl (.of_eq rfl) (.cons rfl (.of_eq rfl) (.cons rfl (.of_eq rfl) (.cons rfl (.of_eq rfl) (.cons rfl (.of_eq rfl) (.cons rfl (.of_eq rfl) (.cons rfl (.of_eq rfl) .nil))))))))) (.arr rfl (.arr rfl (.box rfl (.cons (.of_eq rfl) (.cons (.of_eq rfl) (.cons (.of_eq rfl) (.cons (.of_eq rfl) .nil)))) (.box rfl (.cons (.of_eq rfl) .nil) .nil)))) rfl))) ?_
        refine W.seq ?_
        refine W.reg (σ' := ⟨[(1, .v (Enc.sl eBlk) a1), (2, .v (Enc.sl eBlk) a2), (6, .ref 148), (7, .ref 149), (14, .ptr 162 0), (15, .ptr 163 0), (16, .v Enc.bool true), (54, .v (Enc.sl (Enc.pr (Enc.int .i64) (Enc.pr (Enc.int .i64) (Enc.pr (Enc.int .i64) eBlk)))) a0), (55, .v (Enc.int .i64) (a0.length : Int)), (56, .v (Enc.int .i64) s88.1)], [(148, .arr 41 (Enc.pr (Enc.int .i64) eBlk) s88.2.1), (149, .arr 3 (Enc.int .i64) s88.2.2), (162, .box 43 [.v (Enc.int .i64) z111.1, .v (Enc.int .i64) z111.2.1, .v (Enc.int .i64) z111.2.2.1, .v eBlk z111.2.2.2]), (163, .box 29 [.v eBlk zblk])]⟩) (J.cons (.none rfl) (JO.assign rfl) rfl rfl (J.fin (Sw.Sub.mk id (.cons rfl (.of_eq rfl) (.cons rfl (.of_eq rfl) (.cons rfl (.of_eq rfl) (.cons rfl (.of_eq rfl) (.cons rfl (.of_eq rfl) (.cons rfl (.of_eq rfl) (.cons rfl (.of_eq rfl) (.cons rfl (.of_eq rfl) (.cons rfl (.of_eq rfl) (.cons rfl (.of_eq rfl) .nil)))))))))) (.arr rfl (.arr rfl (.box rfl (.cons (.of_eq rfl) (.cons (.of_eq rfl) (.cons (.of_eq rfl) (.cons (.of_eq rfl) .nil)))) (.box rfl (.cons (.of_eq rfl) .nil) .nil)))) rfl))) ?_
        refine W.seq ?_
        refine W.seq ?_
        refine W.reg (σ' := ⟨[(1, .v (Enc.sl eBlk) a1), (2, .v (Enc.sl eBlk) a2), (6, .ref 148), (7, .ref 149), (14, .ptr 162 0), (15, .ptr 163 0), (16, .v Enc.bool true), (54, .v (Enc.sl (Enc.pr (Enc.int .i64) (Enc.pr (Enc.int .i64) (Enc.pr (Enc.int .i64) eBlk)))) a0), (55, .v (Enc.int .i64) (a0.length : Int)), (56, .v (Enc.int .i64) s88.1), (61, .v (Enc.int .i64) z111.2.1)], [(148, .arr 41 (Enc.pr (Enc.int .i64) eBlk) s88.2.1), (149, .arr 3 (Enc.int .i64) s88.2.2), (162, .box 43 [.v (Enc.int .i64) z111.1, .v (Enc.int .i64) z111.2.1, .v (Enc.int .i64) z111.2.2.1, .v eBlk z111.2.2.2]), (163, .box 29 [.v eBlk zblk])]⟩) (J.cons (.none rfl) (JO.fieldPtr 1 rfl Try.runUnderlying43 rfl Try.sizeOf3 rfl rfl) rfl rfl (J.cons (.none rfl) (JO.load rfl rfl rfl Try.isAgg3 Try.sizeOf3) rfl rfl (J.fin (Sw.Sub.mk id (.cons rfl (.of_eq rfl) (.cons rfl (.of_eq rfl) (.cons rfl (.of_eq rfl) (.cons rfl (.of_eq rfl) (.cons rfl (.of_eq rfl) (.cons rfl (.of_eq rfl) (.cons rfl (.of_eq rfl) (.cons rfl (.of_eq rfl) (.cons rfl (.of_eq rfl) (.cons rfl (.of_eq rfl) (.cons rfl (.of_eq rfl) .nil))))))))))) (.arr rfl (.arr rfl (.box rfl (.cons (.of_eq rfl) (.cons (.of_eq rfl) (.cons (.of_eq rfl) (.cons (.of_eq rfl) .nil)))) (.box rfl (.cons (.of_eq rfl) .nil) .nil)))) rfl)))) ?_
        refine W.block ?_
        refine W.seq ?_
        refine W.reg (σ' := ⟨[(1, .v (Enc.sl eBlk) a1), (2, .v (Enc.sl eBlk) a2), (6, .ref 148), (7, .ref 149), (14, .ptr 162 0), (15, .ptr 163 0), (16, .v Enc.bool true), (54, .v (Enc.sl (Enc.pr (Enc.int .i64) (Enc.pr (Enc.int .i64) (Enc.pr (Enc.int .i64) eBlk)))) a0), (55, .v (Enc.int .i64) (a0.length : Int)), (56, .v (Enc.int .i64) s88.1), (61, .v (Enc.int .i64) z111.2.1), (62, .v Enc.bool (cm .eql z111.2.1 (1 : Int)))], [(148, .arr 41 (Enc.pr (Enc.int .i64) eBlk) s88.2.1), (149, .arr 3 (Enc.int .i64) s88.2.2), (162, .box 43 [.v (Enc.int .i64) z111.1, .v (Enc.int .i64) z111.2.1, .v (Enc.int .i64) z111.2.2.1, .v eBlk z111.2.2.2]), (163, .box 29 [.v eBlk zblk])]⟩) (J.cons (.none rfl) (JO.cmp rfl rfl rfl) rfl rfl (J.cons (.none rfl) (JO.assign rfl) rfl rfl (J.fin (Sw.Sub.mk id (.cons rfl (.of_eq rfl) (.cons rfl (.of_eq rfl) (.cons rfl (.of_eq rfl) (.cons rfl (.of_eq rfl) (.cons rfl (.of_eq rfl) (.cons rfl (.of_eq rfl) (.cons rfl (.of_eq rfl) (.cons rfl (.of_eq rfl) (.cons rfl (.of_eq rfl) (.cons rfl (.of_eq rfl) (.cons rfl (.of_eq rfl) (.cons rfl (.of_eq rfl) .nil)))))))))))) (.arr rfl (.arr rfl (.box rfl (.cons (.of_eq rfl) (.cons (.of_eq rfl) (.cons (.of_eq rfl) (.cons (.of_eq rfl) .nil)))) (.box rfl (.cons (.of_eq rfl) .nil) .nil)))) rfl)))) ?_
        rcases Bool.eq_false_or_eq_true (cm .eql z111.2.1 (1 : Int)) with hc112 | hc112
        · replace h := cond_t hc112 h
          refine W.condT rfl hc112 ?_
          obtain ⟨v113, hv113, h⟩ := bind_e h
          refine W.reg (σ' := ⟨[(1, .v (Enc.sl eBlk) a1), (2, .v (Enc.sl eBlk) a2), (6, .ref 148), (7, .ref 149), (14, .ptr 162 0), (15, .ptr 163 0), (16, .v Enc.bool v113.2), (54, .v (Enc.sl (Enc.pr (Enc.int .i64) (Enc.pr (Enc.int .i64) (Enc.pr (Enc.int .i64) eBlk)))) a0), (55, .v (Enc.int .i64) (a0.length : Int)), (56, .v (Enc.int .i64) s88.1)], [(148, .arr 41 (Enc.pr (Enc.int .i64) eBlk) s88.2.1), (149, .arr 3 (Enc.int .i64) s88.2.2), (162, .box 43 [.v (Enc.int .i64) z111.1, .v (Enc.int .i64) z111.2.1, .v (Enc.int .i64) z111.2.2.1, .v eBlk z111.2.2.2]), (163, .box 29 [.v eBlk v113.1])]⟩) (J.cons (.none rfl) (JO.move rfl) rfl rfl (J.cons (.none rfl) (JO.fieldPtr 2 rfl Try.runUnderlying43 rfl Try.sizeOf3 rfl rfl) rfl rfl (J.cons (.none rfl) (JO.load rfl rfl rfl Try.isAgg3 Try.sizeOf3) rfl rfl (J.cons (.none rfl) (JO.call0 (con_plan_one hv113) Try.call34 (.cons (.dir rfl) (.cons (.dir rfl) .nil))) rfl rfl (J.cons (.none rfl) (JO.move rfl) rfl rfl (J.cons (.none rfl) (JO.extract rfl rfl) rfl rfl (J.cons (.none rfl) (JO.extract rfl rfl) rfl rfl (J.mut (.none rfl) (JM.store rfl rfl rfl rfl rfl rfl rfl Try.sizeOf29) (J.cons (.none rfl) (JO.assign rfl) rfl rfl (J.fin (Sw.Sub.mk id (.cons rfl (.of_eq rfl) (.cons rfl (.of_eq rfl) (.cons rfl (.of_eq rfl) (.cons rfl (.of_eq rfl) (.cons rfl (.of_eq rfl) (.cons rfl (.of_eq rfl) (.cons rfl (.of_eq rfl) (.cons rfl (.of_eq rfl) (.cons rfl (.of_eq rfl) (.cons rfl (.of_eq rfl) .nil)))))))))) (.arr rfl (.arr rfl (.box rfl (.cons (.of_eq rfl) (.cons (.of_eq rfl) (.cons (.of_eq rfl) (.cons (.of_eq rfl) .nil)))) (.box rfl (.cons (.of_eq rfl) .nil) .nil)))) rfl))))))))))) ?_
          refine W.fall ?_
          refine W.seq ?_
          refine W.reg (σ' := ⟨[(1, .v (Enc.sl eBlk) a1), (2, .v (Enc.sl eBlk) a2), (6, .ref 148), (7, .ref 149), (14, .ptr 162 0), (15, .ptr 163 0), (54, .v (Enc.sl (Enc.pr (Enc.int .i64) (Enc.pr (Enc.int .i64) (Enc.pr (Enc.int .i64) eBlk)))) a0), (55, .v (Enc.int .i64) (a0.length : Int)), (56, .v (Enc.int .i64) s88.1), (84, .v Enc.bool v113.2)], [(148, .arr 41 (Enc.pr (Enc.int .i64) eBlk) s88.2.1), (149, .arr 3 (Enc.int .i64) s88.2.2), (162, .box 43 [.v (Enc.int .i64) z111.1, .v (Enc.int .i64) z111.2.1, .v (Enc.int .i64) z111.2.2.1, .v eBlk z111.2.2.2]), (163, .box 29 [.v eBlk v113.1])]⟩) (J.cons (.none rfl) (JO.move rfl) rfl rfl (J.fin (Sw.Sub.mk id (.cons rfl (.of_eq rfl) (.cons rfl (.of_eq rfl) (.cons rfl (.of_eq rfl) (.cons rfl (.of_eq rfl) (.cons rfl (.of_eq rfl) (.cons rfl (.of_eq rfl) (.cons rfl (.of_eq rfl) (.cons rfl (.of_eq rfl) (.cons rfl (.of_eq rfl) (.cons rfl (.of_eq rfl) .nil)))))))))) (.arr rfl (.arr rfl (.box rfl (.cons (.of_eq rfl) (.cons (.of_eq rfl) (.cons (.of_eq rfl) (.cons (.of_eq rfl) .nil)))) (.box rfl (.cons (.of_eq rfl) .nil) .nil)))) rfl))) ?_
          rcases Bool.eq_false_or_eq_true v113.2 with hc114 | hc114
          · replace h := cond_t hc114 h
            refine W.condT rfl hc114 ?_
            obtain ⟨v115, hv115, h⟩ := bind_e h
            refine W.reg (σ' := ⟨[(1, .v (Enc.sl eBlk) a1), (2, .v (Enc.sl eBlk) a2), (6, .ref 165), (7, .ref 149), (54, .v (Enc.sl (Enc.pr (Enc.int .i64) (Enc.pr (Enc.int .i64) (Enc.pr (Enc.int .i64) eBlk)))) a0), (55, .v (Enc.int .i64) (a0.length : Int)), (56, .v (Enc.int .i64) s88.1)], [(165, .arr 41 (Enc.pr (Enc.int .i64) eBlk) v115), (149, .arr 3 (Enc.int .i64) s88.2.2)]⟩) (J.cons (.none rfl) (JO.move rfl) rfl rfl (J.cons (.none rfl) (JO.fieldPtr 0 rfl Try.runUnderlying43 rfl Try.sizeOf3 rfl rfl) rfl rfl (J.cons (.none rfl) (JO.load rfl rfl rfl Try.isAgg3 Try.sizeOf3) rfl rfl (J.cons (.none rfl) (JO.load rfl rfl rfl Try.isAgg29 Try.sizeOf29) rfl rfl (J.cons (.none rfl) (JO.build built41 (.cons (Z.int .i64) (.cons (Z.arr 8 (Z.int .u8)) .nil)) (.cons rfl (.dir rfl) rfl rfl rfl rfl (.cons rfl (.dir rfl) rfl rfl rfl rfl .nil))) rfl rfl (J.cons (.none rfl) (JO.lit (e := (Enc.pr (Enc.int .i64) eBlk)) Try.runUnderlying26 Try.sizeOf41 Try.zeroValue41 rfl rfl rfl rfl (.cons (.agg rfl (.same (.same .nil)) (.prm (.one _ _) (.one _ _)) rfl) .nil)) rfl rfl (J.mut (.none rfl) (JM.append 165 hv115 rfl rfl (.sl rfl) Try.runUnderlying26 Try.typeInfo41 Try.sizeOf41 rfl rfl rfl rfl rfl) (J.cons (.none rfl) (JO.assign rfl) rfl rfl (J.fin (Sw.Sub.mk id (.cons rfl (.of_eq rfl) (.cons rfl (.of_eq rfl) (.cons rfl (.of_eq rfl) (.cons rfl (.of_eq rfl) (.cons rfl (.of_eq rfl) (.cons rfl (.of_eq rfl) (.cons rfl (.of_eq rfl) .nil))))))) (.arr rfl (.arr rfl .nil)) rfl)))))))))) ?_
            refine W.fall ?_
            refine W.reg (σ' := ⟨[(1, .v (Enc.sl eBlk) a1), (2, .v (Enc.sl eBlk) a2), (6, .ref 165), (7, .ref 149), (54, .v (Enc.sl (Enc.pr (Enc.int .i64) (Enc.pr (Enc.int .i64) (Enc.pr (Enc.int .i64) eBlk)))) a0), (55, .v (Enc.int .i64) (a0.length : Int)), (56, .v (Enc.int .i64) (ar .add .i64 s88.1 (1 : Int)))], [(165, .arr 41 (Enc.pr (Enc.int .i64) eBlk) v115), (149, .arr 3 (Enc.int .i64) s88.2.2)]⟩) (J.cons (.none rfl) (JO.arith rfl rfl rfl) rfl rfl (J.cons (.none rfl) (JO.move rfl) rfl rfl (J.fin (Sw.Sub.mk id (.cons rfl (.of_eq rfl) (.cons rfl (.of_eq rfl) (.cons rfl (.of_eq rfl) (.cons rfl (.of_eq rfl) (.cons rfl (.of_eq rfl) (.cons rfl (.of_eq rfl) (.cons rfl (.of_eq rfl) .nil))))))) (.arr rfl (.arr rfl .nil)) rfl)))) ?_
            obtain rfl := Option.some.inj h
            exact W.next (Sw.Sub.mk (rn [(148, 165), (149, 149)]) (.cons rfl (.of_eq rfl) (.cons rfl (.of_eq rfl) (.cons rfl (.of_eq rfl) (.cons rfl (.of_eq rfl) (.cons rfl (.of_eq rfl) (.cons rfl (.of_eq rfl) (.cons rfl (.of_eq rfl) .nil))))))) (.arr rfl (.arr rfl .nil)) rfl)
          · replace h := cond_f hc114 h
            refine W.condF rfl hc114 ?_
            obtain ⟨v116, hv116, h⟩ := bind_e h
            refine W.reg (σ' := ⟨[(1, .v (Enc.sl eBlk) a1), (2, .v (Enc.sl eBlk) a2), (6, .ref 148), (7, .ref 166), (54, .v (Enc.sl (Enc.pr (Enc.int .i64) (Enc.pr (Enc.int .i64) (Enc.pr (Enc.int .i64) eBlk)))) a0), (55, .v (Enc.int .i64) (a0.length : Int)), (56, .v (Enc.int .i64) s88.1)], [(148, .arr 41 (Enc.pr (Enc.int .i64) eBlk) s88.2.1), (166, .arr 3 (Enc.int .i64) v116)]⟩) (J.cons (.none rfl) (JO.move rfl) rfl rfl (J.cons (.none rfl) (JO.fieldPtr 0 rfl Try.runUnderlying43 rfl Try.sizeOf3 rfl rfl) rfl rfl (J.cons (.none rfl) (JO.load rfl rfl rfl Try.isAgg3 Try.sizeOf3) rfl rfl (J.cons (.none rfl) (JO.lit (e := (Enc.int .i64)) Try.runUnderlying22 Try.sizeOf3 Try.zeroValue3 rfl rfl rfl rfl (.cons (.dir rfl) .nil)) rfl rfl (J.mut (.none rfl) (JM.append 166 hv116 rfl rfl (.sl rfl) Try.runUnderlying22 Try.typeInfo3 Try.sizeOf3 rfl rfl rfl rfl rfl) (J.cons (.none rfl) (JO.assign rfl) rfl rfl (J.fin (Sw.Sub.mk id (.cons rfl (.of_eq rfl) (.cons rfl (.of_eq rfl) (.cons rfl (.of_eq rfl) (.cons rfl (.of_eq rfl) (.cons rfl (.of_eq rfl) (.cons rfl (.of_eq rfl) (.cons rfl (.of_eq rfl) .nil))))))) (.arr rfl (.arr rfl .nil)) rfl)))))))) ?_
            refine W.fall ?_
            refine W.reg (σ' := ⟨[(1, .v (Enc.sl eBlk) a1), (2, .v (Enc.sl eBlk) a2), (6, .ref 148), (7, .ref 166), (54, .v (Enc.sl (Enc.pr (Enc.int .i64) (Enc.pr (Enc.int .i64) (Enc.pr (Enc.int .i64) eBlk)))) a0), (55, .v (Enc.int .i64) (a0.length : Int)), (56, .v (Enc.int .i64) (ar .add .i64 s88.1 (1 : Int)))], [(148, .arr 41 (Enc.pr (Enc.int .i64) eBlk) s88.2.1), (166, .arr 3 (Enc.int .i64) v116)]⟩) (J.cons (.none rfl) (JO.arith rfl rfl rfl) rfl rfl (J.cons (.none rfl) (JO.move rfl) rfl rfl (J.fin (Sw.Sub.mk id (.cons rfl (.of_eq rfl) (.cons rfl (.of_eq rfl) (.cons rfl (.of_eq rfl) (.cons rfl (.of_eq rfl) (.cons rfl (.of_eq rfl) (.cons rfl (.of_eq rfl) (.cons rfl (.of_eq rfl) .nil))))))) (.arr rfl (.arr rfl .nil)) rfl)))) ?_
            obtain rfl := Option.some.inj h
            exact W.next (Sw.Sub.mk (rn [(148, 148), (149, 166)]) (.cons rfl (.of_eq rfl) (.cons rfl (.of_eq rfl) (.cons rfl (.of_eq rfl) (.cons rfl (.of_eq rfl) (.cons rfl (.of_eq rfl) (.cons rfl (.of_eq rfl) (.cons rfl (.of_eq rfl) .nil))))))) (.arr rfl (.arr rfl .nil)) rfl)
        · replace h := cond_f hc112 h
          refine W.condF rfl hc112 ?_
          refine W.seq ?_
          refine W.reg (σ' := ⟨[(1, .v (Enc.sl eBlk) a1), (2, .v (Enc.sl eBlk) a2), (6, .ref 148), (7, .ref 149), (14, .ptr 162 0), (15, .ptr 163 0), (16, .v Enc.bool true), (54, .v (Enc.sl (Enc.pr (Enc.int .i64) (Enc.pr (Enc.int .i64) (Enc.pr (Enc.int .i64) eBlk)))) a0), (55, .v (Enc.int .i64) (a0.length : Int)), (56, .v (Enc.int .i64) s88.1), (61, .v (Enc.int .i64) z111.2.1), (71, .v Enc.bool (cm .eql z111.2.1 (2 : Int)))], [(148, .arr 41 (Enc.pr (Enc.int .i64) eBlk) s88.2.1), (149, .arr 3 (Enc.int .i64) s88.2.2), (162, .box 43 [.v (Enc.int .i64) z111.1, .v (Enc.int .i64) z111.2.1, .v (Enc.int .i64) z111.2.2.1, .v eBlk z111.2.2.2]), (163, .box 29 [.v eBlk zblk])]⟩) (J.cons (.none rfl) (JO.cmp rfl rfl rfl) rfl rfl (J.cons (.none rfl) (JO.assign rfl) rfl rfl (J.fin (Sw.Sub.mk id (.cons rfl (.of_eq rfl) (.cons rfl (.of_eq rfl) (.cons rfl (.of_eq rfl) (.cons rfl (.of_eq rfl) (.cons rfl (.of_eq rfl) (.cons rfl (.of_eq rfl) (.cons rfl (.of_eq rfl) (.cons rfl (.of_eq rfl) (.cons rfl (.of_eq rfl) (.cons rfl (.of_eq rfl) (.cons rfl (.of_eq rfl) (.cons rfl (.of_eq rfl) .nil)))))))))))) (.arr rfl (.arr rfl (.box rfl (.cons (.of_eq rfl) (.cons (.of_eq rfl) (.cons (.of_eq rfl) (.cons (.of_eq rfl) .nil)))) (.box rfl (.cons (.of_eq rfl) .nil) .nil)))) rfl)))) ?_
          rcases Bool.eq_false_or_eq_true (cm .eql z111.2.1 (2 : Int)) with hc117 | hc117
          · replace h := cond_t hc117 h
            refine W.condT rfl hc117 ?_
            obtain ⟨v118, hv118, h⟩ := bind_e h
            refine W.reg (σ' := ⟨[(1, .v (Enc.sl eBlk) a1), (2, .v (Enc.sl eBlk) a2), (6, .ref 148), (7, .ref 149), (14, .ptr 162 0), (15, .ptr 163 0), (16, .v Enc.bool v118.2), (54, .v (Enc.sl (Enc.pr (Enc.int .i64) (Enc.pr (Enc.int .i64) (Enc.pr (Enc.int .i64) eBlk)))) a0), (55, .v (Enc.int .i64) (a0.length : Int)), (56, .v (Enc.int .i64) s88.1)], [(148, .arr 41 (Enc.pr (Enc.int .i64) eBlk) s88.2.1), (149, .arr 3 (Enc.int .i64) s88.2.2), (162, .box 43 [.v (Enc.int .i64) z111.1, .v (Enc.int .i64) z111.2.1, .v (Enc.int .i64) z111.2.2.1, .v eBlk z111.2.2.2]), (163, .box 29 [.v eBlk v118.1])]⟩) (J.cons (.none rfl) (JO.move rfl) rfl rfl (J.cons (.none rfl) (JO.fieldPtr 2 rfl Try.runUnderlying43 rfl Try.sizeOf3 rfl rfl) rfl rfl (J.cons (.none rfl) (JO.load rfl rfl rfl Try.isAgg3 Try.sizeOf3) rfl rfl (J.cons (.none rfl) (JO.call0 (con_plan_one hv118) Try.call34 (.cons (.dir rfl) (.cons (.dir rfl) .nil))) rfl rfl (J.cons (.none rfl) (JO.move rfl) rfl rfl (J.cons (.none rfl) (JO.extract rfl rfl) rfl rfl (J.cons (.none rfl) (JO.extract rfl rfl) rfl rfl (J.mut (.none rfl) (JM.store rfl rfl rfl rfl rfl rfl rfl Try.sizeOf29) (J.cons (.none rfl) (JO.assign rfl) rfl rfl (J.fin (Sw.Sub.mk id (.cons rfl (.of_eq rfl) (.cons rfl (.of_eq rfl) (.cons rfl (.of_eq rfl) (.cons rfl (.of_eq rfl) (.cons rfl (.of_eq rfl) (.cons rfl (.of_eq rfl) (.cons rfl (.of_eq rfl) (.cons rfl (.of_eq rfl) (.cons rfl (.of_eq rfl) (.cons rfl (.of_eq rfl) .nil)))))))))) (.arr rfl (.arr rfl (.box rfl (.cons (.of_eq rfl) (.cons (.of_eq rfl) (.cons (.of_eq rfl) (.cons (.of_eq rfl) .nil)))) (.box rfl (.cons (.of_eq rfl) .nil) .nil)))) rfl))))))))))) ?_
            refine W.fall ?_
            refine W.seq ?_
            refine W.reg (σ' := ⟨[(1, .v (Enc.sl eBlk) a1), (2, .v (Enc.sl eBlk) a2), (6, .ref 148), (7, .ref 149), (14, .ptr 162 0), (15, .ptr 163 0), (54, .v (Enc.sl (Enc.pr (Enc.int .i64) (Enc.pr (Enc.int .i64) (Enc.pr (Enc.int .i64) eBlk)))) a0), (55, .v (Enc.int .i64) (a0.length : Int)), (56, .v (Enc.int .i64) s88.1), (84, .v Enc.bool v118.2)], [(148, .arr 41 (Enc.pr (Enc.int .i64) eBlk) s88.2.1), (149, .arr 3 (Enc.int .i64) s88.2.2), (162, .box 43 [.v (Enc.int .i64) z111.1, .v (Enc.int .i64) z111.2.1, .v (Enc.int .i64) z111.2.2.1, .v eBlk z111.2.2.2]), (163, .box 29 [.v eBlk v118.1])]⟩) (J.cons (.none rfl) (JO.move rfl) rfl rfl (J.fin (Sw.Sub.mk id (.cons rfl (.of_eq rfl) (.cons rfl (.of_eq rfl) (.cons rfl (.of_eq rfl) (.cons rfl (.of_eq rfl) (.cons rfl (.of_eq rfl) (.cons rfl (.of_eq rfl) (.cons rfl (.of_eq rfl) (.cons rfl (.of_eq rfl) (.cons rfl (.of_eq rfl) (.cons rfl (.of_eq rfl) .nil)))))))))) (.arr rfl (.arr rfl (.box rfl (.cons (.of_eq rfl) (.cons (.of_eq rfl) (.cons (.of_eq rfl) (.cons (.of_eq rfl) .nil)))) (.box rfl (.cons (.of_eq rfl) .nil) .nil)))) rfl))) ?_
            rcases Bool.eq_false_or_eq_true v118.2 with hc119 | hc119
            · replace h := cond_t hc119 h
              refine W.condT rfl hc119 ?_
              obtain ⟨v120, hv120, h⟩ := bind_e h
              refine W.reg (σ' := ⟨[(1, .v (Enc.sl eBlk) a1), (2, .v (Enc.sl eBlk) a2), (6, .ref 168), (7, .ref 149), (54, .v (Enc.sl (Enc.pr (Enc.int .i64) (Enc.pr (Enc.int .i64) (Enc.pr (Enc.int .i64) eBlk)))) a0), (55, .v (Enc.int .i64) (a0.length : Int)), (56, .v (Enc.int .i64) s88.1)], [(168, .arr 41 (Enc.pr (Enc.int .i64) eBlk) v120), (149, .arr 3 (Enc.int .i64) s88.2.2)]⟩) (J.cons (.none rfl) (JO.move rfl) rfl rfl (J.cons (.none rfl) (JO.fieldPtr 0 rfl Try.runUnderlying43 rfl Try.sizeOf3 rfl rfl) rfl rfl (J.cons (.none rfl) (JO.load rfl rfl rfl Try.isAgg3 Try.sizeOf3) rfl rfl (J.cons (.none rfl) (JO.load rfl rfl rfl Try.isAgg29 Try.sizeOf29) rfl rfl (J.cons (.none rfl) (JO.build built41 (.cons (Z.int .i64) (.cons (Z.arr 8 (Z.int .u8)) .nil)) (.cons rfl (.dir rfl) rfl rfl rfl rfl (.cons rfl (.dir rfl) rfl rfl rfl rfl .nil))) rfl rfl (J.cons (.none rfl) (JO.lit (e := (Enc.pr (Enc.int .i64) eBlk)) Try.runUnderlying26 Try.sizeOf41 Try.zeroValue41 rfl rfl rfl rfl (.cons (.agg rfl (.same (.same .nil)) (.prm (.one _ _) (.one _ _)) rfl) .nil)) rfl rfl (J.mut (.none rfl) (JM.append 168 hv120 rfl rfl (.sl rfl) Try.runUnderlying26 Try.typeInfo41 Try.sizeOf41 rfl rfl rfl rfl rfl) (J.cons (.none rfl) (JO.assign rfl) rfl rfl (J.fin (Sw.Sub.mk id (.cons rfl (.of_eq rfl) (.cons rfl (.of_eq rfl) (.cons rfl (.of_eq rfl) (.cons rfl (.of_eq rfl) (.cons rfl (.of_eq rfl) (.cons rfl (.of_eq rfl) (.cons rfl (.of_eq rfl) .nil))))))) (.arr rfl (.arr rfl .nil)) rfl)))))))))) ?_
              refine W.fall ?_
              refine W.reg (σ' := ⟨[(1, .v (Enc.sl eBlk) a1), (2, .v (Enc.sl eBlk) a2), (6, .ref 168), (7, .ref 149), (54, .v (Enc.sl (Enc.pr (Enc.int .i64) (Enc.pr (Enc.int .i64) (Enc.pr (Enc.int .i64) eBlk)))) a0), (55, .v (Enc.int .i64) (a0.length : Int)), (56, .v (Enc.int .i64) (ar .add .i64 s88.1 (1 : Int)))], [(168, .arr 41 (Enc.pr (Enc.int .i64) eBlk) v120), (149, .arr 3 (Enc.int .i64) s88.2.2)]⟩) (J.cons (.none rfl) (JO.arith rfl rfl rfl) rfl rfl (J.cons (.none rfl) (JO.move rfl) rfl rfl (J.fin (Sw.Sub.mk id (.cons rfl (.of_eq rfl) (.cons rfl (.of_eq rfl) (.cons rfl (.of_eq rfl) (.cons rfl (.of_eq rfl) (.cons rfl (.of_eq rfl) (.cons rfl (.of_eq rfl) (.cons rfl (.of_eq rfl) .nil))))))) (.arr rfl (.arr rfl .nil)) rfl)))) ?_
              obtain rfl := Option.some.inj h
              exact W.next (Sw.Sub.mk (rn [(148, 168), (149, 149)]) (.cons rfl (.of_eq rfl) (.cons rfl (.of_eq rfl) (.cons rfl (.of_eq rfl) (.cons rfl (.of_eq rfl) (.cons rfl (.of_eq rfl) (.cons rfl (.of_eq rfl) (.cons rfl (.of_eq rfl) .nil))))))) (.arr rfl (.arr rfl .nil)) rfl)
            · replace h := cond_f hc119 h
              refine W.condF rfl hc119 ?_
              obtain ⟨v121, hv121, h⟩ := bind_e h
              refine W.reg (σ' := ⟨[(1, .v (Enc.sl eBlk) a1), (2, .v (Enc.sl eBlk) a2), (6, .ref 148), (7, .ref 169), (54, .v (Enc.sl (Enc.pr (Enc.int .i64) (Enc.pr (Enc.int .i64) (Enc.pr (Enc.int .i64) eBlk)))) a0), (55, .v (Enc.int .i64) (a0.length : Int)), (56, .v (Enc.int .i64) s88.1)], [(148, .arr 41 (Enc.pr (Enc.int .i64) eBlk) s88.2.1), (169, .arr 3 (Enc.int .i64) v121)]⟩) (J.cons (.none rfl) (JO.move rfl) rfl rfl (J.cons (.none rfl) (JO.fieldPtr 0 rfl Try.runUnderlying43 rfl Try.sizeOf3 rfl rfl) rfl rfl (J.cons (.none rfl) (JO.load rfl rfl rfl Try.isAgg3 Try.sizeOf3) rfl rfl (J.cons (.none rfl) (JO.lit (e := (Enc.int .i64)) Try.runUnderlying22 Try.sizeOf3 Try.zeroValue3 rfl rfl rfl rfl (.cons (.dir rfl) .nil)) rfl rfl (J.mut (.none rfl) (JM.append 169 hv121 rfl rfl (.sl rfl) Try.runUnderlying22 Try.typeInfo3 Try.sizeOf3 rfl rfl rfl rfl rfl) (J.cons (.none rfl) (JO.assign rfl) rfl rfl (J.fin (Sw.Sub.mk id (.cons rfl (.of_eq rfl) (.cons rfl (.of_eq rfl) (.cons rfl (.of_eq rfl) (.cons rfl (.of_eq rfl) (.cons rfl (.of_eq rfl) (.cons rfl (.of_eq rfl) (.cons rfl (.of_eq rfl) .nil))))))) (.arr rfl (.arr rfl .nil)) rfl)))))))) ?_
              refine W.fall ?_
              refine W.reg (σ' := ⟨[(1, .v (Enc.sl eBlk) a1), (2, .v (Enc.sl eBlk) a2), (6, .ref 148), (7, .ref 169), (54, .v (Enc.sl (Enc.pr (Enc.int .i64) (Enc.pr (Enc.int .i64) (Enc.pr (Enc.int .i64) eBlk)))) a0), (55, .v (Enc.int .i64) (a0.length : Int)), (56, .v (Enc.int .i64) (ar .add .i64 s88.1 (1 : Int)))], [(148, .arr 41 (Enc.pr (Enc.int .i64) eBlk) s88.2.1), (169, .arr 3 (Enc.int .i64) v121)]⟩) (J.cons (.none rfl) (JO.arith rfl rfl rfl) rfl rfl (J.cons (.none rfl) (JO.move rfl) rfl rfl (J.fin (Sw.Sub.mk id (.cons rfl (.of_eq rfl) (.cons rfl (.of_eq rfl) (.cons rfl (.of_eq rfl) (.cons rfl (.of_eq rfl) (.cons rfl (.of_eq rfl) (.cons rfl (.of_eq rfl) (.cons rfl (.of_eq rfl) .nil))))))) (.arr rfl (.arr rfl .nil)) rfl)))) ?_
              obtain rfl := Option.some.inj h
              exact W.next (Sw.Sub.mk (rn [(148, 148), (149, 169)]) (.cons rfl (.of_eq rfl) (.cons rfl (.of_eq rfl) (.cons rfl (.of_eq rfl) (.cons rfl (.of_eq rfl) (.cons rfl (.of_eq rfl) (.cons rfl (.of_eq rfl) (.cons rfl (.of_eq rfl) .nil))))))) (.arr rfl (.arr rfl .nil)) rfl)
          · replace h := cond_f hc117 h
            refine W.condF rfl hc117 ?_
            refine W.seq ?_
            refine W.reg (σ' := ⟨[(1, .v (Enc.sl eBlk) a1), (2, .v (Enc.sl eBlk) a2), (6, .ref 148), (7, .ref 149), (14, .ptr 162 0), (15, .ptr 163 0), (16, .v Enc.bool true), (54, .v (Enc.sl (Enc.pr (Enc.int .i64) (Enc.pr (Enc.int .i64) (Enc.pr (Enc.int .i64) eBlk)))) a0), (55, .v (Enc.int .i64) (a0.length : Int)), (56, .v (Enc.int .i64) s88.1), (80, .v Enc.bool (cm .eql z111.2.1 (3 : Int)))], [(148, .arr 41 (Enc.pr (Enc.int .i64) eBlk) s88.2.1), (149, .arr 3 (Enc.int .i64) s88.2.2), (162, .box 43 [.v (Enc.int .i64) z111.1, .v (Enc.int .i64) z111.2.1, .v (Enc.int .i64) z111.2.2.1, .v eBlk z111.2.2.2]), (163, .box 29 [.v eBlk zblk])]⟩) (J.cons (.none rfl) (JO.cmp rfl rfl rfl) rfl rfl (J.cons (.none rfl) (JO.assign rfl) rfl rfl (J.fin (Sw.Sub.mk id (.cons rfl (.of_eq rfl) (.cons rfl (.of_eq rfl) (.cons rfl (.of_eq rfl) (.cons rfl (.of_eq rfl) (.cons rfl (.of_eq rfl) (.cons rfl (.of_eq rfl) (.cons rfl (.of_eq rfl) (.cons rfl (.of_eq rfl) (.cons rfl (.of_eq rfl) (.cons rfl (.of_eq rfl) (.cons rfl (.of_eq rfl) .nil))))))))))) (.arr rfl (.arr rfl (.box rfl (.cons (.of_eq rfl) (.cons (.of_eq rfl) (.cons (.of_eq rfl) (.cons (.of_eq rfl) .nil)))) (.box rfl (.cons (.of_eq rfl) .nil) .nil)))) rfl)))) ?_
            rcases Bool.eq_false_or_eq_true (cm .eql z111.2.1 (3 : Int)) with hc122 | hc122
            · replace h := cond_t hc122 h
              refine W.condT rfl hc122 ?_
              refine W.reg (σ' := ⟨[(1, .v (Enc.sl eBlk) a1), (2, .v (Enc.sl eBlk) a2), (6, .ref 148), (7, .ref 149), (14, .ptr 162 0), (15, .ptr 163 0), (16, .v Enc.bool true), (54, .v (Enc.sl (Enc.pr (Enc.int .i64) (Enc.pr (Enc.int .i64) (Enc.pr (Enc.int .i64) eBlk)))) a0), (55, .v (Enc.int .i64) (a0.length : Int)), (56, .v (Enc.int .i64) s88.1)], [(148, .arr 41 (Enc.pr (Enc.int .i64) eBlk) s88.2.1), (149, .arr 3 (Enc.int .i64) s88.2.2), (162, .box 43 [.v (Enc.int .i64) z111.1, .v (Enc.int .i64) z111.2.1, .v (Enc.int .i64) z111.2.2.1, .v eBlk z111.2.2.2]), (163, .box 29 [.v eBlk z111.2.2.2])]⟩) (J.cons (.none rfl) (JO.fieldPtr 3 rfl Try.runUnderlying43 rfl Try.sizeOf29 rfl rfl) rfl rfl (J.cons (.none rfl) (JO.load rfl rfl rfl Try.isAgg29 Try.sizeOf29) rfl rfl (J.mut (.none rfl) (JM.store rfl rfl rfl rfl rfl rfl rfl Try.sizeOf29) (J.fin (Sw.Sub.mk id (.cons rfl (.of_eq rfl) (.cons rfl (.of_eq rfl) (.cons rfl (.of_eq rfl) (.cons rfl (.of_eq rfl) (.cons rfl (.of_eq rfl) (.cons rfl (.of_eq rfl) (.cons rfl (.of_eq rfl) (.cons rfl (.of_eq rfl) (.cons rfl (.of_eq rfl) (.cons rfl (.of_eq rfl) .nil)))))))))) (.arr rfl (.arr rfl (.box rfl (.cons (.of_eq rfl) (.cons (.of_eq rfl) (.cons (.of_eq rfl) (.cons (.of_eq rfl) .nil)))) (.box rfl (.cons (.of_eq rfl) .nil) .nil)))) rfl))))) ?_
              refine W.fall ?_
              refine W.seq ?_
              refine W.reg (σ' := ⟨[(1, .v (Enc.sl eBlk) a1), (2, .v (Enc.sl eBlk) a2), (6, .ref 148), (7, .ref 149), (14, .ptr 162 0), (15, .ptr 163 0), (54, .v (Enc.sl (Enc.pr (Enc.int .i64) (Enc.pr (Enc.int .i64) (Enc.pr (Enc.int .i64) eBlk)))) a0), (55, .v (Enc.int .i64) (a0.length : Int)), (56, .v (Enc.int .i64) s88.1), (84, .v Enc.bool true)], [(148, .arr 41 (Enc.pr (Enc.int .i64) eBlk) s88.2.1), (149, .arr 3 (Enc.int .i64) s88.2.2), (162, .box 43 [.v (Enc.int .i64) z111.1, .v (Enc.int .i64) z111.2.1, .v (Enc.int .i64) z111.2.2.1, .v eBlk z111.2.2.2]), (163, .box 29 [.v eBlk z111.2.2.2])]⟩) (J.cons (.none rfl) (JO.move rfl) rfl rfl (J.fin (Sw.Sub.mk id (.cons rfl (.of_eq rfl) (.cons rfl (.of_eq rfl) (.cons rfl (.of_eq rfl) (.cons rfl (.of_eq rfl) (.cons rfl (.of_eq rfl) (.cons rfl (.of_eq rfl) (.cons rfl (.of_eq rfl) (.cons rfl (.of_eq rfl) (.cons rfl (.of_eq rfl) (.cons rfl (.of_eq rfl) .nil)))))))))) (.arr rfl (.arr rfl (.box rfl (.cons (.of_eq rfl) (.cons (.of_eq rfl) (.cons (.of_eq rfl) (.cons (.of_eq rfl) .nil)))) (.box rfl (.cons (.of_eq rfl) .nil) .nil)))) rfl))) ?_
              rcases Bool.eq_false_or_eq_true true with hc123 | hc123
              · replace h := cond_t hc123 h
                refine W.condT rfl hc123 ?_
                obtain ⟨v124, hv124, h⟩ := bind_e h
                refine W.reg (σ' := ⟨[(1, .v (Enc.sl eBlk) a1), (2, .v (Enc.sl eBlk) a2), (6, .ref 170), (7, .ref 149), (54, .v (Enc.sl (Enc.pr (Enc.int .i64) (Enc.pr (Enc.int .i64) (Enc.pr (Enc.int .i64) eBlk)))) a0), (55, .v (Enc.int .i64) (a0.length : Int)), (56, .v (Enc.int .i64) s88.1)], [(170, .arr 41 (Enc.pr (Enc.int .i64) eBlk) v124), (149, .arr 3 (Enc.int .i64) s88.2.2)]⟩) (J.cons (.none rfl) (JO.move rfl) rfl rfl (J.cons (.none rfl) (JO.fieldPtr 0 rfl Try.runUnderlying43 rfl Try.sizeOf3 rfl rfl) rfl rfl (J.cons (.none rfl) (JO.load rfl rfl rfl Try.isAgg3 Try.sizeOf3) rfl rfl (J.cons (.none rfl) (JO.load rfl rfl rfl Try.isAgg29 Try.sizeOf29) rfl rfl (J.cons (.none rfl) (JO.build built41 (.cons (Z.int .i64) (.cons (Z.arr 8 (Z.int .u8)) .nil)) (.cons rfl (.dir rfl) rfl rfl rfl rfl (.cons rfl (.dir rfl) rfl rfl rfl rfl .nil))) rfl rfl (J.cons (.none rfl) (JO.lit (e := (Enc.pr (Enc.int .i64) eBlk)) Try.runUnderlying26 Try.sizeOf41 Try.zeroValue41 rfl rfl rfl rfl (.cons (.agg rfl (.same (.same .nil)) (.prm (.one _ _) (.one _ _)) rfl) .nil)) rfl rfl (J.mut (.none rfl) (JM.append 170 hv124 rfl rfl (.sl rfl) Try.runUnderlying26 Try.typeInfo41 Try.sizeOf41 rfl rfl rfl rfl rfl) (J.cons (.none rfl) (JO.assign rfl) rfl rfl (J.fin (Sw.Sub.mk id (.cons rfl (.of_eq rfl) (.cons rfl (.of_eq rfl) (.cons rfl (.of_eq rfl) (.cons rfl (.of_eq rfl) (.cons rfl (.of_eq rfl) (.cons rfl (.of_eq rfl) (.cons rfl (.of_eq rfl) .nil))))))) (.arr rfl (.arr rfl .nil)) rfl)))))))))) ?_
                refine W.fall ?_
                refine W.reg (σ' := ⟨[(1, .v (Enc.sl eBlk) a1), (2, .v (Enc.sl eBlk) a2), (6, .ref 170), (7, .ref 149), (54, .v (Enc.sl (Enc.pr (Enc.int .i64) (Enc.pr (Enc.int .i64) (Enc.pr (Enc.int .i64) eBlk)))) a0), (55, .v (Enc.int .i64) (a0.length : Int)), (56, .v (Enc.int .i64) (ar .add .i64 s88.1 (1 : Int)))], [(170, .arr 41 (Enc.pr (Enc.int .i64) eBlk) v124), (149, .arr 3 (Enc.int .i64) s88.2.2)]⟩) (J.cons (.none rfl) (JO.arith rfl rfl rfl) rfl rfl (J.cons (.none rfl) (JO.move rfl) rfl rfl (J.fin (Sw.Sub.mk id (.cons rfl (.of_eq rfl) (.cons rfl (.of_eq rfl) (.cons rfl (.of_eq rfl) (.cons rfl (.of_eq rfl) (.cons rfl (.of_eq rfl) (.cons rfl (.of_eq rfl) (.cons rfl (.of_eq rfl) .nil))))))) (.arr rfl (.arr rfl .nil)) rfl)))) ?_
                obtain rfl := Option.some.inj h
                exact W.next (Sw.Sub.mk (rn [(148, 170), (149, 149)]) (.cons rfl (.of_eq rfl) (.cons rfl (.of_eq rfl) (.cons rfl (.of_eq rfl) (.cons rfl (.of_eq rfl) (.cons rfl (.of_eq rfl) (.cons rfl (.of_eq rfl) (.cons rfl (.of_eq rfl) .nil))))))) (.arr rfl (.arr rfl .nil)) rfl)
              · replace h := cond_f hc123 h
                refine W.condF rfl hc123 ?_
                obtain ⟨v125, hv125, h⟩ := bind_e h
                refine W.reg (σ' := ⟨[(1, .v (Enc.sl eBlk) a1), (2, .v (Enc.sl eBlk) a2), (6, .ref 148), (7, .ref 171), (54, .v (Enc.sl (Enc.pr (Enc.int .i64) (Enc.pr (Enc.int .i64) (Enc.pr (Enc.int .i64) eBlk)))) a0), (55, .v (Enc.int .i64) (a0.length : Int)), (56, .v (Enc.int .i64) s88.1)], [(148, .arr 41 (Enc.pr (Enc.int .i64) eBlk) s88.2.1), (171, .arr 3 (Enc.int .i64) v125)]⟩) (J.cons (.none rfl) (JO.move rfl) rfl rfl (J.cons (.none rfl) (JO.fieldPtr 0 rfl Try.runUnderlying43 rfl Try.sizeOf3 rfl rfl) rfl rfl (J.cons (.none rfl) (JO.load rfl rfl rfl Try.isAgg3 Try.sizeOf3) rfl rfl (J.cons (.none rfl) (JO.lit (e := (Enc.int .i64)) Try.runUnderlying22 Try.sizeOf3 Try.zeroValue3 rfl rfl rfl rfl (.cons (.dir rfl) .nil)) rfl rfl (J.mut (.none rfl) (JM.append 171 hv125 rfl rfl (.sl rfl) Try.runUnderlying22 Try.typeInfo3 Try.sizeOf3 rfl rfl rfl rfl rfl) (J.cons (.none rfl) (JO.assign rfl) rfl rfl (J.fin (Sw.Sub.mk id (.cons rfl (.of_eq rfl) (.cons rfl (.of_eq rfl) (.cons rfl (.of_eq rfl) (.cons rfl (.of_eq rfl) (.cons rfl (.of_eq rfl) (.cons rfl (.of_eq rfl) (.cons rfl (.of_eq rfl) .nil))))))) (.arr rfl (.arr rfl .nil)) rfl)))))))) ?_
                refine W.fall ?_
                refine W.reg (σ' := ⟨[(1, .v (Enc.sl eBlk) a1), (2, .v (Enc.sl eBlk) a2), (6, .ref 148), (7, .ref 171), (54, .v (Enc.sl (Enc.pr (Enc.int .i64) (Enc.pr (Enc.int .i64) (Enc.pr (Enc.int .i64) eBlk)))) a0), (55, .v (Enc.int .i64) (a0.length : Int)), (56, .v (Enc.int .i64) (ar .add .i64 s88.1 (1 : Int)))], [(148, .arr 41 (Enc.pr (Enc.int .i64) eBlk) s88.2.1), (171, .arr 3 (Enc.int .i64) v125)]⟩) (J.cons (.none rfl) (JO.arith rfl rfl rfl) rfl rfl (J.cons (.none rfl) (JO.move rfl) rfl rfl (J.fin (Sw.Sub.mk id (.cons rfl (.of_eq rfl) (.cons rfl (.of_eq rfl) (.cons rfl (.of_eq rfl) (.cons rfl (.of_eq rfl) (.cons rfl (.of_eq rfl) (.cons rfl (.of_eq rfl) (.cons rfl (.of_eq rfl) .nil))))))) (.arr rfl (.arr rfl .nil)) rfl)))) ?_
                obtain rfl := Option.some.inj h
                exact W.next (Sw.Sub.mk (rn [(148, 148), (149, 171)]) (.cons rfl (.of_eq rfl) (.cons rfl (.of_eq rfl) (.cons rfl (.of_eq rfl) (.cons rfl (.of_eq rfl) (.cons rfl (.of_eq rfl) (.cons rfl (.of_eq rfl) (.cons rfl (.of_eq rfl) .nil))))))) (.arr rfl (.arr rfl .nil)) rfl)
            · replace h := cond_f hc122 h
              refine W.condF rfl hc122 ?_
              refine W.skip ?_
              refine W.fall ?_
              refine W.seq ?_
              refine W.reg (σ' := ⟨[(1, .v (Enc.sl eBlk) a1), (2, .v (Enc.sl eBlk) a2), (6, .ref 148), (7, .ref 149), (14, .ptr 162 0), (15, .ptr 163 0), (54, .v (Enc.sl (Enc.pr (Enc.int .i64) (Enc.pr (Enc.int .i64) (Enc.pr (Enc.int .i64) eBlk)))) a0), (55, .v (Enc.int .i64) (a0.length : Int)), (56, .v (Enc.int .i64) s88.1), (84, .v Enc.bool true)], [(148, .arr 41 (Enc.pr (Enc.int .i64) eBlk) s88.2.1), (149, .arr 3 (Enc.int .i64) s88.2.2), (162, .box 43 [.v (Enc.int .i64) z111.1, .v (Enc.int .i64) z111.2.1, .v (Enc.int .i64) z111.2.2.1, .v eBlk z111.2.2.2]), (163, .box 29 [.v eBlk zblk])]⟩) (J.cons (.none rfl) (JO.move rfl) rfl rfl (J.fin (Sw.Sub.mk id (.cons rfl (.of_eq rfl) (.cons rfl (.of_eq rfl) (.cons rfl (.of_eq rfl) (.cons rfl (.of_eq rfl) (.cons rfl (.of_eq rfl) (.cons rfl (.of_eq rfl) (.cons rfl (.of_eq rfl) (.cons rfl (.of_eq rfl) (.cons rfl (.of_eq rfl) (.cons rfl (.of_eq rfl) .nil)))))))))) (.arr rfl (.arr rfl (.box rfl (.cons (.of_eq rfl) (.cons (.of_eq rfl) (.cons (.of_eq rfl) (.cons (.of_eq rfl) .nil)))) (.box rfl (.cons (.of_eq rfl) .nil) .nil)))) rfl))) ?_
              rcases Bool.eq_false_or_eq_true true with hc126 | hc126
              · replace h := cond_t hc126 h
                refine W.condT rfl hc126 ?_
                obtain ⟨v127, hv127, h⟩ := bind_e h
                refine W.reg (σ' := ⟨[(1, .v (Enc.sl eBlk) a1), (2, .v (Enc.sl eBlk) a2), (6, .ref 172), (7, .ref 149), (54, .v (Enc.sl (Enc.pr (Enc.int .i64) (Enc.pr (Enc.int .i64) (Enc.pr (Enc.int .i64) eBlk)))) a0), (55, .v (Enc.int .i64) (a0.length : Int)), (56, .v (Enc.int .i64) s88.1)], [(172, .arr 41 (Enc.pr (Enc.int .i64) eBlk) v127), (149, .arr 3 (Enc.int .i64) s88.2.2)]⟩) (J.cons (.none rfl) (JO.move rfl) rfl rfl (J.cons (.none rfl) (JO.fieldPtr 0 rfl Try.runUnderlying43 rfl Try.sizeOf3 rfl rfl) rfl rfl (J.cons (.none rfl) (JO.load rfl rfl rfl Try.isAgg3 Try.sizeOf3) rfl rfl (J.cons (.none rfl) (JO.load rfl rfl rfl Try.isAgg29 Try.sizeOf29) rfl rfl (J.cons (.none rfl) (JO.build built41 (.cons (Z.int .i64) (.cons (Z.arr 8 (Z.int .u8)) .nil)) (.cons rfl (.dir rfl) rfl rfl rfl rfl (.cons rfl (.dir rfl) rfl rfl rfl rfl .nil))) rfl rfl (J.cons (.none rfl) (JO.lit (e := (Enc.pr (Enc.int .i64) eBlk)) Try.runUnderlying26 Try.sizeOf41 Try.zeroValue41 rfl rfl rfl rfl (.cons (.agg rfl (.same (.same .nil)) (.prm (.one _ _) (.one _ _)) rfl) .nil)) rfl rfl (J.mut (.none rfl) (JM.append 172 hv127 rfl rfl (.sl rfl) Try.runUnderlying26 Try.typeInfo41 Try.sizeOf41 rfl rfl rfl rfl rfl) (J.cons (.none rfl) (JO.assign rfl) rfl rfl (J.fin (Sw.Sub.mk id (.cons rfl (.of_eq rfl) (.cons rfl (.of_eq rfl) (.cons rfl (.of_eq rfl) (.cons rfl (.of_eq rfl) (.cons rfl (.of_eq rfl) (.cons rfl (.of_eq rfl) (.cons rfl (.of_eq rfl) .nil))))))) (.arr rfl (.arr rfl .nil)) rfl)))))))))) ?_
                refine W.fall ?_
                refine W.reg (σ' := ⟨[(1, .v (Enc.sl eBlk) a1), (2, .v (Enc.sl eBlk) a2), (6, .ref 172), (7, .ref 149), (54, .v (Enc.sl (Enc.pr (Enc.int .i64) (Enc.pr (Enc.int .i64) (Enc.pr (Enc.int .i64) eBlk)))) a0), (55, .v (Enc.int .i64) (a0.length : Int)), (56, .v (Enc.int .i64) (ar .add .i64 s88.1 (1 : Int)))], [(172, .arr 41 (Enc.pr (Enc.int .i64) eBlk) v127), (149, .arr 3 (Enc.int .i64) s88.2.2)]⟩) (J.cons (.none rfl) (JO.arith rfl rfl rfl) rfl rfl (J.cons (.none rfl) (JO.move rfl) rfl rfl (J.fin (Sw.Sub.mk id (.cons rfl (.of_eq rfl) (.cons rfl (.of_eq rfl) (.cons rfl (.of_eq rfl) (.cons rfl (.of_eq rfl) (.cons rfl (.of_eq rfl) (.cons rfl (.of_eq rfl) (.cons rfl (.of_eq rfl) .nil))))))) (.arr rfl (.arr rfl .nil)) rfl)))) ?_
                obtain rfl := Option.some.inj h
                exact W.next (Sw.Sub.mk (rn [(148, 172), (149, 149)]) (.cons rfl (.of_eq rfl) (.cons rfl (.of_eq rfl) (.cons rfl (.of_eq rfl) (.cons rfl (.of_eq rfl) (.cons rfl (.of_eq rfl) (.cons rfl (.of_eq rfl) (.cons rfl (.of_eq rfl) .nil))))))) (.arr rfl (.arr rfl .nil)) rfl)
              · replace h := cond_f hc126 h
                refine W.condF rfl hc126 ?_
                obtain ⟨v128, hv128, h⟩ := bind_e h
                refine W.reg (σ' := ⟨[(1, .v (Enc.sl eBlk) a1), (2, .v (Enc.sl eBlk) a2), (6, .ref 148), (7, .ref 173), (54, .v (Enc.sl (Enc.pr (Enc.int .i64) (Enc.pr (Enc.int .i64) (Enc.pr (Enc.int .i64) eBlk)))) a0), (55, .v (Enc.int .i64) (a0.length : Int)), (56, .v (Enc.int .i64) s88.1)], [(148, .arr 41 (Enc.pr (Enc.int .i64) eBlk) s88.2.1), (173, .arr 3 (Enc.int .i64) v128)]⟩) (J.cons (.none rfl) (JO.move rfl) rfl rfl (J.cons (.none rfl) (JO.fieldPtr 0 rfl Try.runUnderlying43 rfl Try.sizeOf3 rfl rfl) rfl rfl (J.cons (.none rfl) (JO.load rfl rfl rfl Try.isAgg3 Try.sizeOf3) rfl rfl (J.cons (.none rfl) (JO.lit (e := (Enc.int .i64)) Try.runUnderlying22 Try.sizeOf3 Try.zeroValue3 rfl rfl rfl rfl (.cons (.dir rfl) .nil)) rfl rfl (J.mut (.none rfl) (JM.append 173 hv128 rfl rfl (.sl rfl) Try.runUnderlying22 Try.typeInfo3 Try.sizeOf3 rfl rfl rfl rfl rfl) (J.cons (.none rfl) (JO.assign rfl) rfl rfl (J.fin (Sw.Sub.mk id (.cons rfl (.of_eq rfl) (.cons rfl (.of_eq rfl) (.cons rfl (.of_eq rfl) (.cons rfl (.of_eq rfl) (.cons rfl (.of_eq rfl) (.cons rfl (.of_eq rfl) (.cons rfl (.of_eq rfl) .nil))))))) (.arr rfl (.arr rfl .nil)) rfl)))))))) ?_
                refine W.fall ?_
                refine W.reg (σ' := ⟨[(1, .v (Enc.sl eBlk) a1), (2, .v (Enc.sl eBlk) a2), (6, .ref 148), (7, .ref 173), (54, .v (Enc.sl (Enc.pr (Enc.int .i64) (Enc.pr (Enc.int .i64) (Enc.pr (Enc.int .i64) eBlk)))) a0), (55, .v (Enc.int .i64) (a0.length : Int)), (56, .v (Enc.int .i64) (ar .add .i64 s88.1 (1 : Int)))], [(148, .arr 41 (Enc.pr (Enc.int .i64) eBlk) s88.2.1), (173, .arr 3 (Enc.int .i64) v128)]⟩) (J.cons (.none rfl) (JO.arith rfl rfl rfl) rfl rfl (J.cons (.none rfl) (JO.move rfl) rfl rfl (J.fin (Sw.Sub.mk id (.cons rfl (.of_eq rfl) (.cons rfl (.of_eq rfl) (.cons rfl (.of_eq rfl) (.cons rfl (.of_eq rfl) (.cons rfl (.of_eq rfl) (.cons rfl (.of_eq rfl) (.cons rfl (.of_eq rfl) .nil))))))) (.arr rfl (.arr rfl .nil)) rfl)))) ?_
                obtain rfl := Option.some.inj h
                exact W.next (Sw.Sub.mk (rn [(148, 148), (149, 173)]) (.cons rfl (.of_eq rfl) (.cons rfl (.of_eq rfl) (.cons rfl (.of_eq rfl) (.cons rfl (.of_eq rfl) (.cons rfl (.of_eq rfl) (.cons rfl (.of_eq rfl) (.cons rfl (.of_eq rfl) .nil))))))) (.arr rfl (.arr rfl .nil)) rfl)
      · replace h := cond_f hc110 h
        refine W.condF rfl hc110 ?_
        refine W.exit ?_
        obtain rfl := Option.some.inj h
        exact XQ.brk (Sw.Sub.mk id (.cons rfl (.of_eq rfl) (.cons rfl (.of_eq rfl) .nil)) (.arr rfl (.arr rfl .nil)) rfl)
    intro s25 r36 h
    refine W.seq ?_
    refine W.reg (σ' := ⟨[(0, .v (Enc.sl (Enc.pr (Enc.int .i64) (Enc.pr (Enc.int .i64) (Enc.pr (Enc.int .i64) eBlk)))) a0), (1, .v (Enc.sl eBlk) a1), (2, .v (Enc.sl eBlk) a2), (6, .ref 101), (7, .ref 102), (10, .v (Enc.int .i64) s25.1), (23, .v (Enc.sl (Enc.pr (Enc.int .i64) (Enc.pr (Enc.int .i64) (Enc.pr (Enc.int .i64) eBlk)))) a0), (24, .v (Enc.int .i64) (a0.length : Int)), (25, .v (Enc.int .i64) s25.2), (26, .v Enc.bool (cm .lss s25.2 (a0.length : Int)))], [(101, .arr 41 (Enc.pr (Enc.int .i64) eBlk) ([] : (List (Int × Blk)))), (102, .arr 3 (Enc.int .i64) ([] : (List Int)))]⟩) (J.cons (.none rfl) (JO.cmp rfl rfl rfl) rfl rfl (J.fin (Sw.Sub.mk id (.cons rfl (.of_eq rfl) (.cons rfl (.of_eq rfl) (.cons rfl (.of_eq rfl) (.cons rfl (.of_eq rfl) (.cons rfl (.of_eq rfl) (.cons rfl (.of_eq rfl) (.cons rfl (.of_eq rfl) (.cons rfl (.of_eq rfl) (.cons rfl (.of_eq rfl) (.cons rfl (.of_eq rfl) .nil)))))))))) (.arr rfl (.arr rfl .nil)) rfl))) ?_
    refine W.seq ?_
    rcases Bool.eq_false_or_eq_true (cm .lss s25.2 (a0.length : Int)) with hc38 | hc38
    · replace h := cond_t hc38 h
      refine W.condT rfl hc38 ?_
      refine W.skip ?_
      refine W.seq ?_
      refine W.block ?_
      refine W.seq ?_
      obtain ⟨z39, hz39, h⟩ := bind_e h
      refine W.reg (σ' := ⟨[(0, .v (Enc.sl (Enc.pr (Enc.int .i64) (Enc.pr (Enc.int .i64) (Enc.pr (Enc.int .i64) eBlk)))) a0), (1, .v (Enc.sl eBlk) a1), (2, .v (Enc.sl eBlk) a2), (6, .ref 101), (7, .ref 102), (10, .v (Enc.int .i64) s25.1), (12, .ptr 115 0), (23, .v (Enc.sl (Enc.pr (Enc.int .i64) (Enc.pr (Enc.int .i64) (Enc.pr (Enc.int .i64) eBlk)))) a0), (24, .v (Enc.int .i64) (a0.length : Int)), (25, .v (Enc.int .i64) s25.2)], [(101, .arr 41 (Enc.pr (Enc.int .i64) eBlk) ([] : (List (Int × Blk)))), (102, .arr 3 (Enc.int .i64) ([] : (List Int))), (115, .box 43 [.v (Enc.int .i64) z39.1, .v (Enc.int .i64) z39.2.1, .v (Enc.int .i64) z39.2.2.1, .v eBlk z39.2.2.2])]⟩) (J.cons (.none rfl) (JO.idx hz39 rfl rfl Try.runUnderlying32 Try.sizeOf43) rfl rfl (J.cons (.none rfl) (JO.loadPst rfl Try.isAgg43 Try.sizeOf43) rfl rfl (J.cons (.none rfl) (JO.alloc 115 Try.zeroValue43 rfl (.cons (Z.int .i64) (.cons (Z.int .i64) (.cons (Z.int .i64) (.cons (Z.arr 8 (Z.int .u8)) .nil)))) rfl) rfl rfl (J.mut (.none rfl) (JM.storeAll rfl rfl rfl rfl (.prm (.one _ _) (.prm (.one _ _) (.prm (.one _ _) (.one _ _)))) Try.sizeOf43) (J.fin (Sw.Sub.mk id (.cons rfl (.of_eq rfl) (.cons rfl (.of_eq rfl) (.cons rfl (.of_eq rfl) (.cons rfl (.of_eq rfl) (.cons rfl (.of_eq rfl) (.cons rfl (.of_eq rfl) (.cons rfl (.of_eq rfl) (.cons rfl (.of_eq rfl) (.cons rfl (.of_eq rfl) (.cons rfl (.of_eq rfl) .nil)))))))))) (.arr rfl (.arr rfl (.box rfl (.cons (.of_eq rfl) (.cons (.of_eq rfl) (.cons (.of_eq rfl) (.cons (.of_eq rfl) .nil)))) .nil))) rfl)))))) ?_
      refine W.seq ?_
      refine W.seq ?_
      obtain ⟨x43, hx, h⟩ := bind_e h
      refine W.reg (σ' := ⟨[(0, .v (Enc.sl (Enc.pr (Enc.int .i64) (Enc.pr (Enc.int .i64) (Enc.pr (Enc.int .i64) eBlk)))) a0), (1, .v (Enc.sl eBlk) a1), (2, .v (Enc.sl eBlk) a2), (6, .ref 101), (7, .ref 102), (12, .ptr 115 0), (23, .v (Enc.sl (Enc.pr (Enc.int .i64) (Enc.pr (Enc.int .i64) (Enc.pr (Enc.int .i64) eBlk)))) a0), (24, .v (Enc.int .i64) (a0.length : Int)), (25, .v (Enc.int .i64) s25.2), (49, .v Enc.bool x43)], [(101, .arr 41 (Enc.pr (Enc.int .i64) eBlk) ([] : (List (Int × Blk)))), (102, .arr 3 (Enc.int .i64) ([] : (List Int))), (115, .box 43 [.v (Enc.int .i64) z39.1, .v (Enc.int .i64) z39.2.1, .v (Enc.int .i64) z39.2.2.1, .v eBlk z39.2.2.2])]⟩) ?_ ?_
      · rcases Bool.eq_false_or_eq_true (cm .leq z39.1 s25.1) with hc44 | hc44
        · replace hx := cond_t hc44 hx
          obtain rfl := Option.some.inj hx
          exact (J.cons (.none rfl) (JO.fieldPtr 0 rfl Try.runUnderlying43 rfl Try.sizeOf3 rfl rfl) rfl rfl (J.cons (.none rfl) (JO.load rfl rfl rfl Try.isAgg3 Try.sizeOf3) rfl rfl (J.cons (.none rfl) (JO.move rfl) rfl rfl (J.cons (.none rfl) (JO.cmp rfl rfl rfl) rfl rfl (J.cons (.none rfl) (JO.move rfl) rfl rfl (J.left (GK.unmet 33 rfl rfl rfl hc44) rfl (J.left (GK.unmet 33 rfl rfl rfl hc44) rfl (J.left (GK.unmet 33 rfl rfl rfl hc44) rfl (J.left (GK.unmet 33 rfl rfl rfl hc44) rfl (J.left (GK.unmet 33 rfl rfl rfl hc44) rfl (J.cons (.none rfl) (JO.pT hc44 rfl rfl) rfl rfl (J.cons (.none rfl) (JO.move rfl) rfl rfl (J.left (GK.unmet 40 rfl rfl rfl rfl) rfl (J.left (GK.unmet 40 rfl rfl rfl rfl) rfl (J.left (GK.unmet 40 rfl rfl rfl rfl) rfl (J.cons (.none rfl) (JO.pT rfl rfl rfl) rfl rfl (J.cons (.none rfl) (JO.move rfl) rfl rfl (J.left (GK.unmet 45 rfl rfl rfl rfl) rfl (J.left (GK.unmet 45 rfl rfl rfl rfl) rfl (J.left (GK.unmet 45 rfl rfl rfl rfl) rfl (J.cons (.none rfl) (JO.pT rfl rfl rfl) rfl rfl (J.fin (Sw.Sub.mk id (.cons rfl (.of_eq rfl) (.cons rfl (.of_eq rfl) (.cons rfl (.of_eq rfl) (.cons rfl (.of_eq rfl) (.cons rfl (.of_eq rfl) (.cons rfl (.of_eq rfl) (.cons rfl (.of_eq rfl) (.cons rfl (.of_eq rfl) (.cons rfl (.of_eq rfl) (.cons rfl (.of_eq rfl) .nil)))))))))) (.arr rfl (.arr rfl (.box rfl (.cons (.of_eq rfl) (.cons (.of_eq rfl) (.cons (.of_eq rfl) (.cons (.of_eq rfl) .nil)))) .nil))) rfl)))))))))))))))))))))))
        · replace hx := cond_f hc44 hx
          rcases Bool.eq_false_or_eq_true (cm .geq z39.1 (a1.length : Int)) with hc45 | hc45
          · replace hx := cond_t hc45 hx
            obtain rfl := Option.some.inj hx
            exact (J.cons (.none rfl) (JO.fieldPtr 0 rfl Try.runUnderlying43 rfl Try.sizeOf3 rfl rfl) rfl rfl (J.cons (.none rfl) (JO.load rfl rfl rfl Try.isAgg3 Try.sizeOf3) rfl rfl (J.cons (.none rfl) (JO.move rfl) rfl rfl (J.cons (.none rfl) (JO.cmp rfl rfl rfl) rfl rfl (J.cons (.none rfl) (JO.move rfl) rfl rfl (J.cons (GK.met 33 rfl rfl rfl hc44) (JO.fieldPtr 0 rfl Try.runUnderlying43 rfl Try.sizeOf3 rfl rfl) rfl rfl (J.cons (GK.met 33 rfl rfl rfl hc44) (JO.load rfl rfl rfl Try.isAgg3 Try.sizeOf3) rfl rfl (J.cons (GK.met 33 rfl rfl rfl hc44) (JO.move rfl) rfl rfl (J.cons (GK.met 33 rfl rfl rfl hc44) (JO.len rfl Try.runUnderlying24) rfl rfl (J.cons (GK.met 33 rfl rfl rfl hc44) (JO.cmp rfl rfl rfl) rfl rfl (J.cons (.none rfl) (JO.pF hc44 rfl rfl) rfl rfl (J.cons (.none rfl) (JO.move rfl) rfl rfl (J.left (GK.unmet 40 rfl rfl rfl hc45) rfl (J.left (GK.unmet 40 rfl rfl rfl hc45) rfl (J.left (GK.unmet 40 rfl rfl rfl hc45) rfl (J.cons (.none rfl) (JO.pT hc45 rfl rfl) rfl rfl (J.cons (.none rfl) (JO.move rfl) rfl rfl (J.left (GK.unmet 45 rfl rfl rfl rfl) rfl (J.left (GK.unmet 45 rfl rfl rfl rfl) rfl (J.left (GK.unmet 45 rfl rfl rfl rfl) rfl (J.cons (.none rfl) (JO.pT rfl rfl rfl) rfl rfl (J.fin (Sw.Sub.mk id (.cons rfl (.of_eq rfl) (.cons rfl (.of_eq rfl) (.cons rfl (.of_eq rfl) (.cons rfl (.of_eq rfl) (.cons rfl (.of_eq rfl) (.cons rfl (.of_eq rfl) (.cons rfl (.of_eq rfl) (.cons rfl (.of_eq rfl) (.cons rfl (.of_eq rfl) (.cons rfl (.of_eq rfl) .nil)))))))))) (.arr rfl (.arr rfl (.box rfl (.cons (.of_eq rfl) (.cons (.of_eq rfl) (.cons (.of_eq rfl) (.cons (.of_eq rfl) .nil)))) .nil))) rfl)))))))))))))))))))))))
          · replace hx := cond_f hc45 hx
            rcases Bool.eq_false_or_eq_true (cm .lss z39.2.1 (0 : Int)) with hc46 | hc46
            · replace hx := cond_t hc46 hx
              obtain rfl := Option.some.inj hx
              exact (J.cons (.none rfl) (JO.fieldPtr 0 rfl Try.runUnderlying43 rfl Try.sizeOf3 rfl rfl) rfl rfl (J.cons (.none rfl) (JO.load rfl rfl rfl Try.isAgg3 Try.sizeOf3) rfl rfl (J.cons (.none rfl) (JO.move rfl) rfl rfl (J.cons (.none rfl) (JO.cmp rfl rfl rfl) rfl rfl (J.cons (.none rfl) (JO.move rfl) rfl rfl (J.cons (GK.met 33 rfl rfl rfl hc44) (JO.fieldPtr 0 rfl Try.runUnderlying43 rfl Try.sizeOf3 rfl rfl) rfl rfl (J.cons (GK.met 33 rfl rfl rfl hc44) (JO.load rfl rfl rfl Try.isAgg3 Try.sizeOf3) rfl rfl (J.cons (GK.met 33 rfl rfl rfl hc44) (JO.move rfl) rfl rfl (J.cons (GK.met 33 rfl rfl rfl hc44) (JO.len rfl Try.runUnderlying24) rfl rfl (J.cons (GK.met 33 rfl rfl rfl hc44) (JO.cmp rfl rfl rfl) rfl rfl (J.cons (.none rfl) (JO.pF hc44 rfl rfl) rfl rfl (J.cons (.none rfl) (JO.move rfl) rfl rfl (J.cons (GK.met 40 rfl rfl rfl hc45) (JO.fieldPtr 1 rfl Try.runUnderlying43 rfl Try.sizeOf3 rfl rfl) rfl rfl (J.cons (GK.met 40 rfl rfl rfl hc45) (JO.load rfl rfl rfl Try.isAgg3 Try.sizeOf3) rfl rfl (J.cons (GK.met 40 rfl rfl rfl hc45) (JO.cmp rfl rfl rfl) rfl rfl (J.cons (.none rfl) (JO.pF hc45 rfl rfl) rfl rfl (J.cons (.none rfl) (JO.move rfl) rfl rfl (J.left (GK.unmet 45 rfl rfl rfl hc46) rfl (J.left (GK.unmet 45 rfl rfl rfl hc46) rfl (J.left (GK.unmet 45 rfl rfl rfl hc46) rfl (J.cons (.none rfl) (JO.pT hc46 rfl rfl) rfl rfl (J.fin (Sw.Sub.mk id (.cons rfl (.of_eq rfl) (.cons rfl (.of_eq rfl) (.cons rfl (.of_eq rfl) (.cons rfl (.of_eq rfl) (.cons rfl (.of_eq rfl) (.cons rfl (.of_eq rfl) (.cons rfl (.of_eq rfl) (.cons rfl (.of_eq rfl) (.cons rfl (.of_eq rfl) (.cons rfl (.of_eq rfl) .nil)))))))))) (.arr rfl (.arr rfl (.box rfl (.cons (.of_eq rfl) (.cons (.of_eq rfl) (.cons (.of_eq rfl) (.cons (.of_eq rfl) .nil)))) .nil))) rfl)))))))))))))))))))))))
            · replace hx := cond_f hc46 hx
              obtain rfl := Option.some.inj hx
              exact (J.cons (.none rfl) (JO.fieldPtr 0 rfl Try.runUnderlying43 rfl Try.sizeOf3 rfl rfl) rfl rfl (J.cons (.none rfl) (JO.load rfl rfl rfl Try.isAgg3 Try.sizeOf3) rfl rfl (J.cons (.none rfl) (JO.move rfl) rfl rfl (J.cons (.none rfl) (JO.cmp rfl rfl rfl) rfl rfl (J.cons (.none rfl) (JO.move rfl) rfl rfl (J.cons (GK.met 33 rfl rfl rfl hc44) (JO.fieldPtr 0 rfl Try.runUnderlying43 rfl Try.sizeOf3 rfl rfl) rfl rfl (J.cons (GK.met 33 rfl rfl rfl hc44) (JO.load rfl rfl rfl Try.isAgg3 Try.sizeOf3) rfl rfl (J.cons (GK.met 33 rfl rfl rfl hc44) (JO.move rfl) rfl rfl (J.cons (GK.met 33 rfl rfl rfl hc44) (JO.len rfl Try.runUnderlying24) rfl rfl (J.cons (GK.met 33 rfl rfl rfl hc44) (JO.cmp rfl rfl rfl) rfl rfl (J.cons (.none rfl) (JO.pF hc44 rfl rfl) rfl rfl (J.cons (.none rfl) (JO.move rfl) rfl rfl (J.cons (GK.met 40 rfl rfl rfl hc45) (JO.fieldPtr 1 rfl Try.runUnderlying43 rfl Try.sizeOf3 rfl rfl) rfl rfl (J.cons (GK.met 40 rfl rfl rfl hc45) (JO.load rfl rfl rfl Try.isAgg3 Try.sizeOf3) rfl rfl (J.cons (GK.met 40 rfl rfl rfl hc45) (JO.cmp rfl rfl rfl) rfl rfl (J.cons (.none rfl) (JO.pF hc45 rfl rfl) rfl rfl (J.cons (.none rfl) (JO.move rfl) rfl rfl (J.cons (GK.met 45 rfl rfl rfl hc46) (JO.fieldPtr 1 rfl Try.runUnderlying43 rfl Try.sizeOf3 rfl rfl) rfl rfl (J.cons (GK.met 45 rfl rfl rfl hc46) (JO.load rfl rfl rfl Try.isAgg3 Try.sizeOf3) rfl rfl (J.cons (GK.met 45 rfl rfl rfl hc46) (JO.cmp rfl rfl rfl) rfl rfl (J.cons (.none rfl) (JO.pF hc46 rfl rfl) rfl rfl (J.fin (Sw.Sub.mk id (.cons rfl (.of_eq rfl) (.cons rfl (.of_eq rfl) (.cons rfl (.of_eq rfl) (.cons rfl (.of_eq rfl) (.cons rfl (.of_eq rfl) (.cons rfl (.of_eq rfl) (.cons rfl (.of_eq rfl) (.cons rfl (.of_eq rfl) (.cons rfl (.of_eq rfl) (.cons rfl (.of_eq rfl) .nil)))))))))) (.arr rfl (.arr rfl (.box rfl (.cons (.of_eq rfl) (.cons (.of_eq rfl) (.cons (.of_eq rfl) (.cons (.of_eq rfl) .nil)))) .nil))) rfl)))))))))))))))))))))))
      rcases Bool.eq_false_or_eq_true x43 with hc47 | hc47
      · replace h := cond_t hc47 h
        refine W.condT rfl hc47 ?_
        refine W.seq ?_
        refine W.reg (σ' := ⟨[(6, .ref 116), (7, .ref 117), (8, .v (Enc.err ET) (some (1 : Int)))], [(116, .arr 41 (Enc.pr (Enc.int .i64) eBlk) ([] : (List (Int × Blk)))), (117, .arr 3 (Enc.int .i64) ([] : (List Int)))]⟩) (J.cons (.none rfl) (JO.mkErr Try.runUnderlying86 rfl) rfl rfl (J.cons (.none rfl) (JO.assignNilR 116 41 (Enc.pr (Enc.int .i64) eBlk)) rfl rfl (J.cons (.none rfl) (JO.assignNilR 117 3 (Enc.int .i64)) rfl rfl (J.cons (.none rfl) (JO.assign rfl) rfl rfl (J.fin (Sw.Sub.mk id (.cons rfl (.of_eq rfl) (.cons rfl (.of_eq rfl) (.cons rfl (.of_eq rfl) .nil))) (.arr rfl (.arr rfl .nil)) rfl)))))) ?_
        refine W.ret ?_
        refine XQ.ret ?_
        obtain rfl := Option.some.inj h
        refine XQ.lret fun ho => ?_
        obtain rfl := hr36 _ ho
        exact XQ.sub (σ' := ⟨[(6, .ref 0), (7, .ref 1), (8, .v (Enc.err ET) (some (1 : Int)))], [(1, .arr 3 (Enc.int .i64) ([] : (List Int))), (0, .arr 41 (Enc.pr (Enc.int .i64) eBlk) ([] : (List (Int × Blk))))]⟩) (Sw.Sub.mk (rn [(0, 116), (1, 117)]) (.cons rfl (.of_eq rfl) (.cons rfl (.of_eq rfl) (.cons rfl (.of_eq rfl) .nil))) (.arr rfl (.arr rfl .nil)) rfl) (XQ.ret3 hF noR rfl (RV.tmp rfl) (RV.tmp rfl) (RV.tmp rfl) (.cons rfl (.cons rfl .nil)) rfl)
      · replace h := cond_f hc47 h
        refine W.condF rfl hc47 ?_
        refine W.skip ?_
        refine W.reg (σ' := ⟨[(0, .v (Enc.sl (Enc.pr (Enc.int .i64) (Enc.pr (Enc.int .i64) (Enc.pr (Enc.int .i64) eBlk)))) a0), (1, .v (Enc.sl eBlk) a1), (2, .v (Enc.sl eBlk) a2), (6, .ref 101), (7, .ref 102), (10, .v (Enc.int .i64) z39.1), (23, .v (Enc.sl (Enc.pr (Enc.int .i64) (Enc.pr (Enc.int .i64) (Enc.pr (Enc.int .i64) eBlk)))) a0), (24, .v (Enc.int .i64) (a0.length : Int)), (25, .v (Enc.int .i64) s25.2)], [(101, .arr 41 (Enc.pr (Enc.int .i64) eBlk) ([] : (List (Int × Blk)))), (102, .arr 3 (Enc.int .i64) ([] : (List Int)))]⟩) (J.cons (.none rfl) (JO.fieldPtr 0 rfl Try.runUnderlying43 rfl Try.sizeOf3 rfl rfl) rfl rfl (J.cons (.none rfl) (JO.load rfl rfl rfl Try.isAgg3 Try.sizeOf3) rfl rfl (J.cons (.none rfl) (JO.assign rfl) rfl rfl (J.fin (Sw.Sub.mk id (.cons rfl (.of_eq rfl) (.cons rfl (.of_eq rfl) (.cons rfl (.of_eq rfl) (.cons rfl (.of_eq rfl) (.cons rfl (.of_eq rfl) (.cons rfl (.of_eq rfl) (.cons rfl (.of_eq rfl) (.cons rfl (.of_eq rfl) (.cons rfl (.of_eq rfl) .nil))))))))) (.arr rfl (.arr rfl .nil)) rfl))))) ?_
        refine W.fall ?_
        refine W.reg (σ' := ⟨[(0, .v (Enc.sl (Enc.pr (Enc.int .i64) (Enc.pr (Enc.int .i64) (Enc.pr (Enc.int .i64) eBlk)))) a0), (1, .v (Enc.sl eBlk) a1), (2, .v (Enc.sl eBlk) a2), (6, .ref 101), (7, .ref 102), (10, .v (Enc.int .i64) z39.1), (23, .v (Enc.sl (Enc.pr (Enc.int .i64) (Enc.pr (Enc.int .i64) (Enc.pr (Enc.int .i64) eBlk)))) a0), (24, .v (Enc.int .i64) (a0.length : Int)), (25, .v (Enc.int .i64) (ar .add .i64 s25.2 (1 : Int)))], [(101, .arr 41 (Enc.pr (Enc.int .i64) eBlk) ([] : (List (Int × Blk)))), (102, .arr 3 (Enc.int .i64) ([] : (List Int)))]⟩) (J.cons (.none rfl) (JO.arith rfl rfl rfl) rfl rfl (J.cons (.none rfl) (JO.move rfl) rfl rfl (J.fin (Sw.Sub.mk id (.cons rfl (.of_eq rfl) (.cons rfl (.of_eq rfl) (.cons rfl (.of_eq rfl) (.cons rfl (.of_eq rfl) (.cons rfl (.of_eq rfl) (.cons rfl (.of_eq rfl) (.cons rfl (.of_eq rfl) (.cons rfl (.of_eq rfl) (.cons rfl (.of_eq rfl) .nil))))))))) (.arr rfl (.arr rfl .nil)) rfl)))) ?_
        obtain rfl := Option.some.inj h
        exact W.next (Sw.Sub.mk id (.cons rfl (.of_eq rfl) (.cons rfl (.of_eq rfl) (.cons rfl (.of_eq rfl) (.cons rfl (.of_eq rfl) (.cons rfl (.of_eq rfl) (.cons rfl (.of_eq rfl) (.cons rfl (.of_eq rfl) (.cons rfl (.of_eq rfl) (.cons rfl (.of_eq rfl) .nil))))))))) (.arr rfl (.arr rfl .nil)) rfl)
    · replace h := cond_f hc38 h
      refine W.condF rfl hc38 ?_
      refine W.exit ?_
      obtain rfl := Option.some.inj h
      exact XQ.brk (Sw.Sub.mk id (.cons rfl (.of_eq rfl) (.cons rfl (.of_eq rfl) (.cons rfl (.of_eq rfl) (.cons rfl (.of_eq rfl) (.cons rfl (.of_eq rfl) .nil))))) (.arr rfl (.arr rfl .nil)) rfl)
set_option maxRecDepth 100000 in
set_option maxHeartbeats 4000000 in
theorem con_ref_OwnBlocks {a0 : (List Blk)} {r : (List Blk)} (h : m_ref_OwnBlocks a0 = some r) :
    Con Try.prog 15 [.v (Enc.sl eBlk) a0] (.ref 0) [(0, .arr 29 eBlk r)] := by
  refine Con.of Try.func15 rfl Try.ntmps15 rfl ?_
  intro S w hF
  unfold m_ref_OwnBlocks at h
  refine W.seq ?_
  refine W.reg (σ' := ⟨[(0, .v (Enc.sl eBlk) a0)], []⟩) (J.cons (.none rfl) (JO.assignNilR 101 29 eBlk) rfl rfl (J.fin (Sw.Sub.mk id (.cons rfl (.of_eq rfl) .nil) .nil rfl))) ?_
  refine W.seq ?_
  obtain ⟨v1, hv1, h⟩ := bind_e h
  refine W.reg (σ' := ⟨[(2, .ref 103)], [(103, .arr 29 eBlk v1)]⟩) (J.cons (.none rfl) (JO.litR (e := eBlk) 102 Try.runUnderlying24 Try.sizeOf29 Try.zeroValue29 rfl rfl rfl rfl .nil) rfl rfl (J.cons (.none rfl) (JO.move rfl) rfl rfl (J.mut (.none rfl) (JM.append 103 hv1 rfl rfl (.sl rfl) Try.runUnderlying24 Try.typeInfo29 Try.sizeOf29 rfl rfl rfl rfl rfl) (J.cons (.none rfl) (JO.assign rfl) rfl rfl (J.fin (Sw.Sub.mk id (.cons rfl (.of_eq rfl) .nil) (.arr rfl .nil) rfl)))))) ?_
  refine W.ret ?_
  obtain rfl := Option.some.inj h
  exact XQ.sub (σ' := ⟨[(2, .ref 0)], [(0, .arr 29 eBlk v1)]⟩) (Sw.Sub.mk (rn [(0, 103)]) (.cons rfl (.of_eq rfl) .nil) (.arr rfl .nil) rfl) (XQ.ret1 hF noR rfl (RV.tmp rfl) (.cons rfl .nil) rfl)
set_option maxRecDepth 100000 in
set_option maxHeartbeats 4000000 in
theorem con_ref_SameBlocks {a0 : (List Blk)} {a1 : (List Blk)} {r : Bool} (h : m_ref_SameBlocks a0 a1 = some r) :
    Con Try.prog 16 [.v (Enc.sl eBlk) a0, .v (Enc.sl eBlk) a1] (.v Enc.bool r) [] := by
  refine Con.of Try.func16 rfl Try.ntmps16 rfl ?_
  intro S w hF
  unfold m_ref_SameBlocks at h
  refine W.seq ?_
  refine W.reg (σ' := ⟨[(0, .v (Enc.sl eBlk) a0), (1, .v (Enc.sl eBlk) a1)], []⟩) (J.cons (.none rfl) (JO.assign rfl) rfl rfl (J.fin (Sw.Sub.mk id (.cons rfl (.of_eq rfl) (.cons rfl (.of_eq rfl) .nil)) .nil rfl))) ?_
  refine W.seq ?_
  refine W.seq ?_
  refine W.reg (σ' := ⟨[(0, .v (Enc.sl eBlk) a0), (1, .v (Enc.sl eBlk) a1), (10, .v Enc.bool (cm .neq (a0.length : Int) (a1.length : Int)))], []⟩) (J.cons (.none rfl) (JO.move rfl) rfl rfl (J.cons (.none rfl) (JO.len rfl Try.runUnderlying24) rfl rfl (J.cons (.none rfl) (JO.move rfl) rfl rfl (J.cons (.none rfl) (JO.len rfl Try.runUnderlying24) rfl rfl (J.cons (.none rfl) (JO.cmp rfl rfl rfl) rfl rfl (J.fin (Sw.Sub.mk id (.cons rfl (.of_eq rfl) (.cons rfl (.of_eq rfl) (.cons rfl (.of_eq rfl) .nil))) .nil rfl))))))) ?_
  rcases Bool.eq_false_or_eq_true (cm .neq (a0.length : Int) (a1.length : Int)) with hc1 | hc1
  · replace h := cond_t hc1 h
    refine W.condT rfl hc1 ?_
    refine W.seq ?_
    refine W.reg (σ' := ⟨[(4, .v Enc.bool false)], []⟩) (J.cons (.none rfl) (JO.assign rfl) rfl rfl (J.fin (Sw.Sub.mk id (.cons rfl (.of_eq rfl) .nil) .nil rfl))) ?_
    refine W.ret ?_
    obtain rfl := Option.some.inj h
    exact XQ.sub (σ' := ⟨[(4, .v Enc.bool false)], []⟩) (Sw.Sub.mk id (.cons rfl (.of_eq rfl) .nil) .nil rfl) (XQ.ret1 hF noR rfl (RV.tmp rfl) .nil rfl)
  · replace h := cond_f hc1 h
    refine W.condF rfl hc1 ?_
    refine W.skip ?_
    refine W.seq ?_
    refine W.seq ?_
    refine W.reg (σ' := ⟨[(0, .v (Enc.sl eBlk) a0), (1, .v (Enc.sl eBlk) a1), (5, .v (Enc.int .i64) (0 : Int))], []⟩) (J.cons (.none rfl) (JO.assign rfl) rfl rfl (J.fin (Sw.Sub.mk id (.cons rfl (.of_eq rfl) (.cons rfl (.of_eq rfl) (.cons rfl (.of_eq rfl) .nil))) .nil rfl))) ?_
    obtain ⟨o17, ho17, hb17, hr17⟩ := lp_elim h
    refine W.lp (σs := fun s12 : Int => ⟨[(0, .v (Enc.sl eBlk) a0), (1, .v (Enc.sl eBlk) a1), (5, .v (Enc.int .i64) s12)], []⟩) (fun x18 : Unit => ⟨[], []⟩) ho17 (Sw.Sub.mk id (.cons rfl (.of_eq rfl) (.cons rfl (.of_eq rfl) (.cons rfl (.of_eq rfl) .nil))) .nil rfl) ?_ ?_
    · intro x18 hy
      have h := hb17 _ hy
      refine W.seq ?_
      refine W.reg (σ' := ⟨[(4, .v Enc.bool true)], []⟩) (J.cons (.none rfl) (JO.assign rfl) rfl rfl (J.fin (Sw.Sub.mk id (.cons rfl (.of_eq rfl) .nil) .nil rfl))) ?_
      refine W.ret ?_
      obtain rfl := Option.some.inj h
      exact XQ.sub (σ' := ⟨[(4, .v Enc.bool true)], []⟩) (Sw.Sub.mk id (.cons rfl (.of_eq rfl) .nil) .nil rfl) (XQ.ret1 hF noR rfl (RV.tmp rfl) .nil rfl)
    intro s12 r17 h
    refine W.seq ?_
    refine W.seq ?_
    refine W.reg (σ' := ⟨[(0, .v (Enc.sl eBlk) a0), (1, .v (Enc.sl eBlk) a1), (5, .v (Enc.int .i64) s12), (14, .v Enc.bool (cm .lss s12 (a0.length : Int)))], []⟩) (J.cons (.none rfl) (JO.move rfl) rfl rfl (J.cons (.none rfl) (JO.move rfl) rfl rfl (J.cons (.none rfl) (JO.len rfl Try.runUnderlying24) rfl rfl (J.cons (.none rfl) (JO.cmp rfl rfl rfl) rfl rfl (J.fin (Sw.Sub.mk id (.cons rfl (.of_eq rfl) (.cons rfl (.of_eq rfl) (.cons rfl (.of_eq rfl) (.cons rfl (.of_eq rfl) .nil)))) .nil rfl)))))) ?_
    rcases Bool.eq_false_or_eq_true (cm .lss s12 (a0.length : Int)) with hc19 | hc19
    · replace h := cond_t hc19 h
      refine W.condT rfl hc19 ?_
      refine W.skip ?_
      refine W.seq ?_
      refine W.block ?_
      refine W.seq ?_
      obtain ⟨z20, hz20, h⟩ := bind_e h
      obtain ⟨z21, hz21, h⟩ := bind_e h
      refine W.dr2 (σ' := ⟨[(0, .v (Enc.sl eBlk) a0), (1, .v (Enc.sl eBlk) a1), (5, .v (Enc.int .i64) s12), (25, .v Enc.bool (!decide (z20 = z21)))], []⟩) 9 [0, 0, 3, 7, 0, 0, 48, 112, 255] mixed (by exact (.cons (.none rfl) (JO.move rfl) rfl rfl (.cons (.none rfl) (JO.move rfl) rfl rfl (.cons (.none rfl) (JO.idx hz20 rfl rfl Try.runUnderlying24 Try.sizeOf29) rfl rfl (.cons (.none rfl) (JO.loadPst rfl Try.isAgg29 Try.sizeOf29) rfl rfl (.cons (.none rfl) (JO.move rfl) rfl rfl (.cons (.none rfl) (JO.move rfl) rfl rfl (.cons (.none rfl) (JO.idx hz21 rfl rfl Try.runUnderlying24 Try.sizeOf29) rfl rfl (.cons (.none rfl) (JO.loadPst rfl Try.isAgg29 Try.sizeOf29) rfl rfl (.cons (.none rfl) (JO.neV eq29 rfl rfl Try.eqGuardType29 rfl rfl) rfl rfl .nil)))))))))) (by exact (J.fin (Sw.Sub.mk id (.cons rfl (.of_eq rfl) (.cons rfl (.of_eq rfl) (.cons rfl (.of_eq rfl) (.cons rfl (.of_eq rfl) .nil)))) .nil rfl))) rfl (by decide +kernel) (by decide +kernel) (by decide +kernel) (by kernel_rfl) ?_
      rcases Bool.eq_false_or_eq_true (!decide (z20 = z21)) with hc22 | hc22
      · replace h := cond_t hc22 h
        refine W.condT rfl hc22 ?_
        refine W.seq ?_
        refine W.reg (σ' := ⟨[(4, .v Enc.bool false)], []⟩) (J.cons (.none rfl) (JO.assign rfl) rfl rfl (J.fin (Sw.Sub.mk id (.cons rfl (.of_eq rfl) .nil) .nil rfl))) ?_
        refine W.ret ?_
        refine XQ.ret ?_
        obtain rfl := Option.some.inj h
        refine XQ.lret fun ho => ?_
        obtain rfl := hr17 _ ho
        exact XQ.sub (σ' := ⟨[(4, .v Enc.bool false)], []⟩) (Sw.Sub.mk id (.cons rfl (.of_eq rfl) .nil) .nil rfl) (XQ.ret1 hF noR rfl (RV.tmp rfl) .nil rfl)
      · replace h := cond_f hc22 h
        refine W.condF rfl hc22 ?_
        refine W.skip ?_
        refine W.fall ?_
        refine W.reg (σ' := ⟨[(0, .v (Enc.sl eBlk) a0), (1, .v (Enc.sl eBlk) a1), (5, .v (Enc.int .i64) (ar .add .i64 s12 (1 : Int)))], []⟩) (J.cons (.none rfl) (JO.move rfl) rfl rfl (J.cons (.none rfl) (JO.arith rfl rfl rfl) rfl rfl (J.cons (.none rfl) (JO.assign rfl) rfl rfl (J.fin (Sw.Sub.mk id (.cons rfl (.of_eq rfl) (.cons rfl (.of_eq rfl) (.cons rfl (.of_eq rfl) .nil))) .nil rfl))))) ?_
        obtain rfl := Option.some.inj h
        exact W.next (Sw.Sub.mk id (.cons rfl (.of_eq rfl) (.cons rfl (.of_eq rfl) (.cons rfl (.of_eq rfl) .nil))) .nil rfl)
    · replace h := cond_f hc19 h
      refine W.condF rfl hc19 ?_
      refine W.exit ?_
      obtain rfl := Option.some.inj h
      exact XQ.brk (Sw.Sub.mk id .nil .nil rfl)
end Go.Cn
