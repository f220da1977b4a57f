/- The functions that this law reaches come to what their models come to. Conditions: none. -/
import Derived.Test.YteckohdbfkhmdacMoTopAtomic
import Derived.KernelRfl
import Derived.Test.YteckohdbfkhmdacChecked
set_option linter.unusedVariables false
set_option linter.unusedSimpArgs false
namespace Go.Cn
open Go Go.Sw Go.Mo Go.Proofs
abbrev ET : Nat := 86
abbrev Q0 := (Enc.int .i64)
abbrev Q1 := (Enc.pr (Enc.sl eBlk) (Enc.pr (Enc.sl (Enc.pr Q0 eBlk)) Q0))
abbrev Q2 := (Enc.sl (Enc.pr Q0 eBlk))
abbrev Q3 := ((List Blk) × (List (Int × Blk)) × Int)
abbrev Q4 := (Enc.sl eBlk)
abbrev Q5 := (Enc.sl Q0)
abbrev Q6 := (Enc.pr Q0 eBlk)
abbrev Q7 := (List (Int × Blk))
theorem mixed : Try.prog.follows .mixedOrders = true := Try.checked.mixed
theorem eq29 : EqE 2 Try.prog 29 eBlk := EqE.arr Try.runUnderlying29 Try.sizeOf5 Try.isAgg5 (EqE.int Try.underlying5)
theorem built41 : ∀ parts, Try.prog.built 41 parts = Instr.fill (([(0, 1), (1, 8)] : List (Nat × Nat)).toArray[·]?) ([.int .i64 0, .int .u8 0, .int .u8 0, .int .u8 0, .int .u8 0, .int .u8 0, .int .u8 0, .int .u8 0, .int .u8 0] : List Value).toArray parts := built_struct Try.typeInfo41 Try.runUnderlying41 rfl rfl (.cons rfl (by kernel_rfl) (by kernel_rfl) (.cons rfl (by kernel_rfl) (by kernel_rfl) .nil))
theorem built80 : ∀ parts, Try.prog.built 80 parts = Instr.fill (([(0, 1), (1, 1), (2, 1)] : List (Nat × Nat)).toArray[·]?) ([.slice none 0 0, .slice none 0 0, .int .i64 0] : List Value).toArray parts := built_struct Try.typeInfo80 Try.runUnderlying80 rfl rfl (.cons rfl (by kernel_rfl) (by kernel_rfl) (.cons rfl (by kernel_rfl) (by kernel_rfl) (.cons rfl (by kernel_rfl) (by kernel_rfl) .nil)))
theorem built134 : ∀ parts, Try.prog.built 134 parts = Instr.fill (([(0, 1), (1, 3)] : List (Nat × Nat)).toArray[·]?) ([.int .i64 0, .slice none 0 0, .slice none 0 0, .int .i64 0] : List Value).toArray parts := built_struct Try.typeInfo134 Try.runUnderlying134 rfl rfl (.cons rfl (by kernel_rfl) (by kernel_rfl) (.cons rfl (by kernel_rfl) (by kernel_rfl) .nil))
set_option maxRecDepth 100000 in
set_option maxHeartbeats 4000000 in
theorem con_ref_Pick {a0 : Int} {a1 : Int} {r : Int} (h : m_ref_Pick a0 a1 = some r) :
  Con Try.prog 8 [.v Q0 a0, .v Q0 a1] (.v Q0 r) [] := by
 refine Con.of Try.func8 rfl Try.ntmps8 rfl ?_
 intro S w hF
 unfold m_ref_Pick at h
 refine W.seq ?_
 refine W.reg (σ' := ⟨[(0, .v Q0 a0), (1, .v Q0 a1)], []⟩) (J.k (JO.assign rfl) (J.fin (Sw.Sub.mk id (.c rfl (.c rfl .nil)) .nil rfl))) ?_
 refine W.seq ?_
 refine W.seq ?_
 refine W.reg (σ' := ⟨[(0, .v Q0 a0), (1, .v Q0 a1), (6, .v Enc.bool (cm .lss a0 (0 : Int)))], []⟩) (J.mv rfl (J.k (JO.cmp rfl rfl rfl) (J.fin (Sw.Sub.mk id (.c rfl (.c rfl (.c rfl .nil))) .nil rfl)))) ?_
 obtain ⟨k2, hk2, h⟩ := jp_elim h
 refine W.jn (fun x3 : Int => ⟨[(0, .v Q0 x3), (1, .v Q0 a1)], []⟩) (fun x => k2 x = some r) rfl ?_ ?_ ?_
 ·intro x3 h
  rw [hk2] at h
  refine W.seq ?_
  obtain ⟨u4, hu4, h⟩ := bind_e h
  refine W.reg (σ' := ⟨[(4, .v Q0 (ar .rem .i64 x3 a1))], []⟩) (J.mv rfl (J.mv rfl (J.k (JO.div (.inr rfl) (nz_some hu4) rfl rfl) (J.k (JO.assign rfl) (J.fin (Sw.Sub.mk id (.c rfl .nil) .nil rfl)))))) ?_
  refine W.ret ?_
  obtain rfl := Option.some.inj h
  exact XQ.sub (σ' := ⟨[(4, .v Q0 (ar .rem .i64 x3 a1))], []⟩) (Sw.Sub.mk id (.c rfl .nil) .nil rfl) (XQ.ret1 hF noR rfl (RV.tmp rfl) .nil rfl)
 ·intro hc1
  replace h := cond_t hc1 h
  refine W.reg (σ' := ⟨[(0, .v Q0 (IntKind.wrap .i64 (0 - (ar .add .i64 a0 (1 : Int))))), (1, .v Q0 a1)], []⟩) (J.mv rfl (J.k (JO.arith rfl rfl rfl) (J.k (JO.neg rfl) (J.k (JO.assign rfl) (J.fin (Sw.Sub.mk id (.c rfl (.c rfl .nil)) .nil rfl)))))) ?_
  exact W.jfall h (Sw.Sub.mk id (.c rfl (.c rfl .nil)) .nil rfl)
 ·intro hc1
  replace h := cond_f hc1 h
  refine W.skip ?_
  exact W.jfall h (Sw.Sub.mk id (.c rfl (.c rfl .nil)) .nil rfl)
set_option maxRecDepth 100000 in
set_option maxHeartbeats 4000000 in
theorem con_store_Need {a0 : Int} {r : Int × (Option Int)} (h : m_store_Need a0 = some r) :
  Con Try.prog 50 [.v Q0 a0] (.tup [.v Q0 r.1, .v (Enc.err ET) r.2]) [] := by
 refine Con.of Try.func50 rfl Try.ntmps50 rfl ?_
 intro S w hF
 unfold m_store_Need at h
 refine W.seq ?_
 refine W.reg (σ' := ⟨[(0, .v Q0 a0)], []⟩) (J.k (JO.assign rfl) (J.k (JO.assignNilE ET) (J.fin (Sw.Sub.mk id (.c rfl .nil) .nil rfl)))) ?_
 refine W.seq ?_
 refine W.seq ?_
 obtain ⟨x2, hx, h⟩ := bind_e h
 refine W.reg (σ' := ⟨[(0, .v Q0 a0), (9, .v Enc.bool x2)], []⟩) ?_ ?_
 ·rcases Bool.eq_false_or_eq_true (cm .lss a0 (1 : Int)) with hc3 | hc3
  ·replace hx := cond_t hc3 hx
   obtain rfl := Option.some.inj hx
   exact (J.mv rfl (J.k (JO.cmp rfl rfl rfl) (J.mv rfl (J.u 6 hc3 (J.u 6 hc3 (J.k (JO.pT hc3 rfl rfl) (J.fin (Sw.Sub.mk id (.c rfl (.c rfl .nil)) .nil rfl))))))))
  ·replace hx := cond_f hc3 hx
   obtain rfl := Option.some.inj hx
   exact (J.mv rfl (J.k (JO.cmp rfl rfl rfl) (J.mv rfl (J.m 6 hc3 (JO.move rfl) (J.m 6 hc3 (JO.cmp rfl rfl rfl) (J.k (JO.pF hc3 rfl rfl) (J.fin (Sw.Sub.mk id (.c rfl (.c rfl .nil)) .nil rfl))))))))
 rcases Bool.eq_false_or_eq_true x2 with hc4 | hc4
 ·replace h := cond_t hc4 h
  refine W.condT rfl hc4 ?_
  refine W.seq ?_
  refine W.reg (σ' := ⟨[(2, .v Q0 (0 : Int)), (3, .v (Enc.err ET) (some (1 : Int)))], []⟩) (J.k (JO.mkErr Try.runUnderlying86 rfl) (J.k (JO.assign rfl) (J.k (JO.assign rfl) (J.fin (Sw.Sub.mk id (.c rfl (.c rfl .nil)) .nil rfl))))) ?_
  refine W.ret ?_
  obtain rfl := Option.some.inj h
  exact XQ.sub (σ' := ⟨[(2, .v Q0 (0 : Int)), (3, .v (Enc.err ET) (some (1 : Int)))], []⟩) (Sw.Sub.mk id (.c rfl (.c rfl .nil)) .nil rfl) (XQ.ret2 hF noR rfl (RV.tmp rfl) (RV.tmp rfl) .nil rfl)
 ·replace h := cond_f hc4 h
  refine W.condF rfl hc4 ?_
  refine W.skip ?_
  refine W.seq ?_
  refine W.reg (σ' := ⟨[(2, .v Q0 (ar .add .i64 (ar .add .i64 (ar .add .i64 a0 (1 : Int)) (2 : Int)) (ar .mul .i64 (2 : Int) (ar .add .i64 a0 (1 : Int))))), (3, .v (Enc.err ET) (none : Option Int))], []⟩) (J.mv rfl (J.k (JO.arith rfl rfl rfl) (J.k (JO.arith rfl rfl rfl) (J.mv rfl (J.k (JO.arith rfl rfl rfl) (J.k (JO.arith rfl rfl rfl) (J.k (JO.arith rfl rfl rfl) (J.k (JO.assign rfl) (J.k (JO.assignNilE ET) (J.fin (Sw.Sub.mk id (.c rfl (.c rfl .nil)) .nil rfl))))))))))) ?_
  refine W.ret ?_
  obtain rfl := Option.some.inj h
  exact XQ.sub (σ' := ⟨[(2, .v Q0 (ar .add .i64 (ar .add .i64 (ar .add .i64 a0 (1 : Int)) (2 : Int)) (ar .mul .i64 (2 : Int) (ar .add .i64 a0 (1 : Int))))), (3, .v (Enc.err ET) (none : Option Int))], []⟩) (Sw.Sub.mk id (.c rfl (.c rfl .nil)) .nil rfl) (XQ.ret2 hF noR rfl (RV.tmp rfl) (RV.tmp rfl) .nil rfl)
set_option maxRecDepth 100000 in
set_option maxHeartbeats 4000000 in
theorem con_disk_New {a0 : Int} {r : Q3 × (Option Int)} (h : m_disk_New a0 = some r) :
  Con Try.prog 51 [.v Q0 a0] (.tup [.v Q1 r.1, .v (Enc.err ET) r.2]) [] := by
 refine Con.of Try.func51 rfl Try.ntmps51 rfl ?_
 intro S w hF
 unfold m_disk_New at h
 refine W.seq ?_
 refine W.reg (σ' := ⟨[(0, .v Q0 a0), (2, .ptr 101 0)], [(101, .box 80 [.v Q4 ([] : (List Blk)), .v Q2 ([] : Q7), .v Q0 (0 : Int)])]⟩) (J.k (JO.alloc 101 Try.zeroValue80 rfl (.cons (Z.sl eBlk) (.cons (Z.sl Q6) (.cons (Z.int .i64) .nil))) rfl) (J.k (JO.assignNilE ET) (J.fin (Sw.Sub.mk id (.c rfl (.c rfl .nil)) (.box rfl (.c rfl (.c rfl (.c rfl .nil))) .nil) rfl)))) ?_
 refine W.seq ?_
 refine W.seq ?_
 obtain ⟨x2, hx, h⟩ := bind_e h
 refine W.reg (σ' := ⟨[(0, .v Q0 a0), (2, .ptr 101 0), (9, .v Enc.bool x2)], [(101, .box 80 [.v Q4 ([] : (List Blk)), .v Q2 ([] : Q7), .v Q0 (0 : Int)])]⟩) ?_ ?_
 ·rcases Bool.eq_false_or_eq_true (cm .lss a0 (1 : Int)) with hc3 | hc3
  ·replace hx := cond_t hc3 hx
   obtain rfl := Option.some.inj hx
   exact (J.mv rfl (J.k (JO.cmp rfl rfl rfl) (J.mv rfl (J.u 6 hc3 (J.u 6 hc3 (J.k (JO.pT hc3 rfl rfl) (J.fin (Sw.Sub.mk id (.c rfl (.c rfl (.c rfl .nil))) (.box rfl (.c rfl (.c rfl (.c rfl .nil))) .nil) rfl))))))))
  ·replace hx := cond_f hc3 hx
   obtain rfl := Option.some.inj hx
   exact (J.mv rfl (J.k (JO.cmp rfl rfl rfl) (J.mv rfl (J.m 6 hc3 (JO.move rfl) (J.m 6 hc3 (JO.cmp rfl rfl rfl) (J.k (JO.pF hc3 rfl rfl) (J.fin (Sw.Sub.mk id (.c rfl (.c rfl (.c rfl .nil))) (.box rfl (.c rfl (.c rfl (.c rfl .nil))) .nil) rfl))))))))
 rcases Bool.eq_false_or_eq_true x2 with hc4 | hc4
 ·replace h := cond_t hc4 h
  refine W.condT rfl hc4 ?_
  refine W.seq ?_
  refine W.reg (σ' := ⟨[(2, .ptr 101 0), (3, .v (Enc.err ET) (some (1 : Int)))], [(101, .box 80 [.v Q4 ([] : (List Blk)), .v Q2 ([] : Q7), .v Q0 (0 : Int)])]⟩) (J.k (JO.build built80 (.cons (Z.sl eBlk) (.cons (Z.sl Q6) (.cons (Z.int .i64) .nil))) .nil) (J.k (JO.mkErr Try.runUnderlying86 rfl) (J.t (JM.storeAgg rfl rfl rfl rfl rfl rfl Try.sizeOf80) (J.k (JO.assign rfl) (J.fin (Sw.Sub.mk id (.c rfl (.c rfl .nil)) (.box rfl (.c rfl (.c rfl (.c rfl .nil))) .nil) rfl)))))) ?_
  refine W.ret ?_
  obtain rfl := Option.some.inj h
  exact XQ.sub (σ' := ⟨[(2, .ptr 90 0), (3, .v (Enc.err ET) (some (1 : Int)))], [(90, .box 80 [.v Q4 ([] : (List Blk)), .v Q2 ([] : Q7), .v Q0 (0 : Int)])]⟩) (Sw.Sub.mk (rn [(90, 101)]) (.c rfl (.c rfl .nil)) (.box rfl (.c rfl (.c rfl (.c rfl .nil))) .nil) rfl) (XQ.ret2 hF noR rfl (RV.cellAll rfl rfl (.prm (.one _ _) (.prm (.one _ _) (.one _ _))) Try.isAgg80 Try.sizeOf80) (RV.tmp rfl) .nil rfl)
 ·replace h := cond_f hc4 h
  refine W.condF rfl hc4 ?_
  refine W.skip ?_
  refine W.seq ?_
  obtain ⟨v5, hv5, h⟩ := bind_e h
  refine W.reg (σ' := ⟨[(2, .ptr 101 0), (3, .v (Enc.err ET) (none : Option Int))], [(101, .box 80 [.ref 102, .v Q2 ([] : Q7), .v Q0 (-1 : Int)]), (102, .arr 29 eBlk v5)]⟩) (J.mv rfl (J.k (JO.mkR 102 hv5 rfl rfl Try.runUnderlying24 Try.typeInfo29 Try.sizeOf29 rfl rfl (Z.arr 8 (Z.int .u8))) (J.k (JO.build built80 (.cons (Z.sl eBlk) (.cons (Z.sl Q6) (.cons (Z.int .i64) .nil))) (.cons rfl (.dir rfl) rfl rfl rfl rfl (.cons rfl (.dir rfl) rfl rfl rfl rfl .nil))) (J.t (JM.storeAgg rfl rfl rfl rfl rfl rfl Try.sizeOf80) (J.k (JO.assignNilE ET) (J.fin (Sw.Sub.mk id (.c rfl (.c rfl .nil)) (.box rfl (.c rfl (.c rfl (.c rfl .nil))) (.arr rfl .nil)) rfl))))))) ?_
  refine W.ret ?_
  obtain rfl := Option.some.inj h
  exact XQ.sub (σ' := ⟨[(2, .ptr 90 0), (3, .v (Enc.err ET) (none : Option Int))], [(90, .box 80 [.v Q4 v5, .v Q2 ([] : Q7), .v Q0 (-1 : Int)])]⟩) (Sw.Sub.mk (rn [(90, 101)]) (.c rfl (.c rfl .nil)) (.box rfl (.cons (.frz rfl rfl) (.c rfl (.c rfl .nil))) .nil) rfl) (XQ.ret2 hF noR rfl (RV.cellAll rfl rfl (.prm (.one _ _) (.prm (.one _ _) (.one _ _))) Try.isAgg80 Try.sizeOf80) (RV.tmp rfl) .nil rfl)
set_option maxRecDepth 100000 in
set_option maxHeartbeats 4000000 in
theorem con_store_Format {a0 : Int} {r : Q3 × (Option Int)} (h : m_store_Format a0 = some r) :
  Con Try.prog 26 [.v Q0 a0] (.tup [.v Q1 r.1, .v (Enc.err ET) r.2]) [] := by
 refine Con.of Try.func26 rfl Try.ntmps26 rfl ?_
 intro S w hF
 unfold m_store_Format at h
 refine W.seq ?_
 refine W.reg (σ' := ⟨[(0, .v Q0 a0), (2, .ptr 101 0)], [(101, .box 80 [.v Q4 ([] : (List Blk)), .v Q2 ([] : Q7), .v Q0 (0 : Int)])]⟩) (J.k (JO.alloc 101 Try.zeroValue80 rfl (.cons (Z.sl eBlk) (.cons (Z.sl Q6) (.cons (Z.int .i64) .nil))) rfl) (J.k (JO.assignNilE ET) (J.fin (Sw.Sub.mk id (.c rfl (.c rfl .nil)) (.box rfl (.c rfl (.c rfl (.c rfl .nil))) .nil) rfl)))) ?_
 refine W.seq ?_
 obtain ⟨v1, hv1, h⟩ := bind_e h
 refine W.reg (σ' := ⟨[(2, .ptr 101 0), (4, .v Q0 v1.1), (5, .v (Enc.err ET) v1.2)], [(101, .box 80 [.v Q4 ([] : (List Blk)), .v Q2 ([] : Q7), .v Q0 (0 : Int)])]⟩) (J.mv rfl (J.k (JO.call0 (con_store_Need hv1) Try.call50 (.cons (.dir rfl) .nil)) (J.mv rfl (J.k (JO.extract rfl rfl) (J.k (JO.extract rfl rfl) (J.k (JO.assign rfl) (J.k (JO.assign rfl) (J.fin (Sw.Sub.mk id (.c rfl (.c rfl (.c rfl .nil))) (.box rfl (.c rfl (.c rfl (.c rfl .nil))) .nil) rfl))))))))) ?_
 refine W.seq ?_
 refine W.seq ?_
 refine W.reg (σ' := ⟨[(2, .ptr 101 0), (4, .v Q0 v1.1), (5, .v (Enc.err ET) v1.2), (12, .v Enc.bool (Option.isSome v1.2))], [(101, .box 80 [.v Q4 ([] : (List Blk)), .v Q2 ([] : Q7), .v Q0 (0 : Int)])]⟩) (J.mv rfl (J.k (JO.errNe Try.runUnderlying34 rfl) (J.fin (Sw.Sub.mk id (.c rfl (.c rfl (.c rfl (.c rfl .nil)))) (.box rfl (.c rfl (.c rfl (.c rfl .nil))) .nil) rfl)))) ?_
 rcases Bool.eq_false_or_eq_true (Option.isSome v1.2) with hc2 | hc2
 ·replace h := cond_t hc2 h
  refine W.condT rfl hc2 ?_
  refine W.seq ?_
  refine W.reg (σ' := ⟨[(2, .ptr 101 0), (3, .v (Enc.err ET) v1.2)], [(101, .box 80 [.v Q4 ([] : (List Blk)), .v Q2 ([] : Q7), .v Q0 (0 : Int)])]⟩) (J.k (JO.build built80 (.cons (Z.sl eBlk) (.cons (Z.sl Q6) (.cons (Z.int .i64) .nil))) .nil) (J.mv rfl (J.t (JM.storeAgg rfl rfl rfl rfl rfl rfl Try.sizeOf80) (J.k (JO.assign rfl) (J.fin (Sw.Sub.mk id (.c rfl (.c rfl .nil)) (.box rfl (.c rfl (.c rfl (.c rfl .nil))) .nil) rfl)))))) ?_
  refine W.ret ?_
  obtain rfl := Option.some.inj h
  exact XQ.sub (σ' := ⟨[(2, .ptr 90 0), (3, .v (Enc.err ET) v1.2)], [(90, .box 80 [.v Q4 ([] : (List Blk)), .v Q2 ([] : Q7), .v Q0 (0 : Int)])]⟩) (Sw.Sub.mk (rn [(90, 101)]) (.c rfl (.c rfl .nil)) (.box rfl (.c rfl (.c rfl (.c rfl .nil))) .nil) rfl) (XQ.ret2 hF noR rfl (RV.cellAll rfl rfl (.prm (.one _ _) (.prm (.one _ _) (.one _ _))) Try.isAgg80 Try.sizeOf80) (RV.tmp rfl) .nil rfl)
 ·replace h := cond_f hc2 h
  refine W.condF rfl hc2 ?_
  refine W.skip ?_
  refine W.seq ?_
  obtain ⟨v3, hv3, h⟩ := bind_e h
  refine W.reg (σ' := ⟨[(2, .ptr 101 0), (3, .v (Enc.err ET) v3.2)], [(101, .box 80 [.v Q4 v3.1.1, .v Q2 v3.1.2.1, .v Q0 v3.1.2.2])]⟩) (J.mv rfl (J.k (JO.call0 (con_disk_New hv3) Try.call51 (.cons (.dir rfl) .nil)) (J.k (JO.extract rfl rfl) (J.k (JO.extract rfl rfl) (J.t (JM.storeAll rfl rfl rfl rfl (.prm (.one _ _) (.prm (.one _ _) (.one _ _))) Try.sizeOf80) (J.k (JO.assign rfl) (J.fin (Sw.Sub.mk id (.c rfl (.c rfl .nil)) (.box rfl (.c rfl (.c rfl (.c rfl .nil))) .nil) rfl)))))))) ?_
  refine W.ret ?_
  obtain rfl := Option.some.inj h
  exact XQ.sub (σ' := ⟨[(2, .ptr 90 0), (3, .v (Enc.err ET) v3.2)], [(90, .box 80 [.v Q4 v3.1.1, .v Q2 v3.1.2.1, .v Q0 v3.1.2.2])]⟩) (Sw.Sub.mk (rn [(90, 101)]) (.c rfl (.c rfl .nil)) (.box rfl (.c rfl (.c rfl (.c rfl .nil))) .nil) rfl) (XQ.ret2 hF noR rfl (RV.cellAll rfl rfl (.prm (.one _ _) (.prm (.one _ _) (.one _ _))) Try.isAgg80 Try.sizeOf80) (RV.tmp rfl) .nil rfl)
set_option maxRecDepth 100000 in
set_option maxHeartbeats 4000000 in
theorem con_disk_Check_1 {a0 : (Int × Blk)} {a1 : Q3} {r : Bool} (h : m_disk_Check_1 a0 a1 = some r) :
  Con Try.prog 80 [.v Q6 a0, .pst Q1 a1] (.v Enc.bool r) [] := by
 refine Con.of Try.func80 rfl Try.ntmps80 rfl ?_
 intro S w hF
 unfold m_disk_Check_1 at h
 refine W.seq ?_
 refine W.reg (σ' := ⟨[(1, .pst Q1 a1), (2, .ptr 101 0)], [(101, .box 41 [.v Q0 a0.1, .v eBlk a0.2])]⟩) (J.k (JO.box 101 rfl (.prm (.one _ _) (.one _ _)) rfl) (J.k (JO.assign rfl) (J.fin (Sw.Sub.mk id (.c rfl (.c rfl .nil)) (.box rfl (.c rfl (.c rfl .nil)) .nil) rfl)))) ?_
 refine W.seq ?_
 obtain ⟨x2, hx, h⟩ := bind_e h
 refine W.reg (σ' := ⟨[(3, .v Enc.bool x2)], []⟩) ?_ ?_
 ·rcases Bool.eq_false_or_eq_true (cm .lss a0.1 (0 : Int)) with hc3 | hc3
  ·replace hx := cond_t hc3 hx
   obtain rfl := Option.some.inj hx
   exact (J.k (JO.fieldPtr 0 rfl Try.runUnderlying41 rfl Try.sizeOf3 rfl rfl) (J.k (JO.load rfl rfl rfl Try.isAgg3 Try.sizeOf3) (J.k (JO.cmp rfl rfl rfl) (J.mv rfl (J.u 7 hc3 (J.u 7 hc3 (J.u 7 hc3 (J.u 7 hc3 (J.u 7 hc3 (J.u 7 hc3 (J.k (JO.pT hc3 rfl rfl) (J.k (JO.assign rfl) (J.fin (Sw.Sub.mk id (.c rfl .nil) .nil rfl))))))))))))))
  ·replace hx := cond_f hc3 hx
   obtain rfl := Option.some.inj hx
   exact (J.k (JO.fieldPtr 0 rfl Try.runUnderlying41 rfl Try.sizeOf3 rfl rfl) (J.k (JO.load rfl rfl rfl Try.isAgg3 Try.sizeOf3) (J.k (JO.cmp rfl rfl rfl) (J.mv rfl (J.m 7 hc3 (JO.fieldPtr 0 rfl Try.runUnderlying41 rfl Try.sizeOf3 rfl rfl) (J.m 7 hc3 (JO.load rfl rfl rfl Try.isAgg3 Try.sizeOf3) (J.m 7 hc3 (JO.fieldPst rfl Try.runUnderlying80 rfl Try.sizeOf24 rfl (.fst .here) rfl) (J.m 7 hc3 (JO.loadPst rfl Try.isAgg24 Try.sizeOf24) (J.m 7 hc3 (JO.len rfl Try.runUnderlying24) (J.m 7 hc3 (JO.cmp rfl rfl rfl) (J.k (JO.pF hc3 rfl rfl) (J.k (JO.assign rfl) (J.fin (Sw.Sub.mk id (.c rfl .nil) .nil rfl))))))))))))))
 refine W.ret ?_
 obtain rfl := Option.some.inj h
 exact XQ.sub (σ' := ⟨[(3, .v Enc.bool x2)], []⟩) (Sw.Sub.mk id (.c rfl .nil) .nil rfl) (XQ.ret1 hF noR rfl (RV.tmp rfl) .nil rfl)
set_option maxRecDepth 100000 in
set_option maxHeartbeats 4000000 in
theorem con_slices_IndexFunc_api_Put_api_Put__disk_Check_1 {a0 : Q7} {a1_0 : Q3} {r : Int} (h : m_slices_IndexFunc_api_Put_api_Put__disk_Check_1 a0 a1_0 = some r) :
  Con Try.prog 83 [.v Q2 a0, .fnc 80 [.pst Q1 a1_0]] (.v Q0 r) [] := by
 refine Con.of Try.func83 rfl Try.ntmps83 rfl ?_
 intro S w hF
 unfold m_slices_IndexFunc_api_Put_api_Put__disk_Check_1 at h
 refine W.seq ?_
 refine W.reg (σ' := ⟨[(0, .v Q2 a0), (1, .fnc 80 [.pst Q1 a1_0])], []⟩) (J.k (JO.assign rfl) (J.fin (Sw.Sub.mk id (.c rfl (.c rfl .nil)) .nil rfl))) ?_
 refine W.seq ?_
 refine W.seq ?_
 refine W.reg (σ' := ⟨[(0, .v Q2 a0), (1, .fnc 80 [.pst Q1 a1_0]), (7, .v Q0 (a0.length : Int)), (8, .v Q0 (0 : Int))], []⟩) (J.mv rfl (J.k (JO.len rfl Try.runUnderlying26) (J.mv rfl (J.fin (Sw.Sub.mk id (.c rfl (.c rfl (.c rfl (.c rfl .nil)))) .nil rfl))))) ?_
 obtain ⟨o16, ho16, hb16, hr16⟩ := lp_elim h
 refine W.lp (σs := fun s11 : Int => ⟨[(0, .v Q2 a0), (1, .fnc 80 [.pst Q1 a1_0]), (7, .v Q0 (a0.length : Int)), (8, .v Q0 s11)], []⟩) (fun x17 : Unit => ⟨[], []⟩) ho16 (Sw.Sub.mk id (.c rfl (.c rfl (.c rfl (.c rfl .nil)))) .nil rfl) ?_ ?_
 ·intro x17 hy
  have h := hb16 _ hy
  refine W.seq ?_
  refine W.reg (σ' := ⟨[(4, .v Q0 (-1 : Int))], []⟩) (J.k (JO.assign rfl) (J.fin (Sw.Sub.mk id (.c rfl .nil) .nil rfl))) ?_
  refine W.ret ?_
  obtain rfl := Option.some.inj h
  exact XQ.sub (σ' := ⟨[(4, .v Q0 (-1 : Int))], []⟩) (Sw.Sub.mk id (.c rfl .nil) .nil rfl) (XQ.ret1 hF noR rfl (RV.tmp rfl) .nil rfl)
 intro s11 r16 h
 refine W.seq ?_
 refine W.reg (σ' := ⟨[(0, .v Q2 a0), (1, .fnc 80 [.pst Q1 a1_0]), (7, .v Q0 (a0.length : Int)), (8, .v Q0 s11), (9, .v Enc.bool (cm .lss s11 (a0.length : Int)))], []⟩) (J.k (JO.cmp rfl rfl rfl) (J.fin (Sw.Sub.mk id (.c rfl (.c rfl (.c rfl (.c rfl (.c rfl .nil))))) .nil rfl))) ?_
 refine W.seq ?_
 rcases Bool.eq_false_or_eq_true (cm .lss s11 (a0.length : Int)) with hc18 | hc18
 ·replace h := cond_t hc18 h
  refine W.condT rfl hc18 ?_
  refine W.skip ?_
  refine W.seq ?_
  refine W.block ?_
  refine W.seq ?_
  refine W.reg (σ' := ⟨[(0, .v Q2 a0), (1, .fnc 80 [.pst Q1 a1_0]), (5, .v Q0 s11), (7, .v Q0 (a0.length : Int)), (8, .v Q0 s11)], []⟩) (J.mv rfl (J.k (JO.assign rfl) (J.fin (Sw.Sub.mk id (.c rfl (.c rfl (.c rfl (.c rfl (.c rfl .nil))))) .nil rfl)))) ?_
  refine W.seq ?_
  obtain ⟨z19, hz19, h⟩ := bind_e h
  obtain ⟨v20, hv20, h⟩ := bind_e h
  refine W.reg (σ' := ⟨[(0, .v Q2 a0), (1, .fnc 80 [.pst Q1 a1_0]), (5, .v Q0 s11), (7, .v Q0 (a0.length : Int)), (8, .v Q0 s11), (16, .v Enc.bool v20)], []⟩) (J.mv rfl (J.mv rfl (J.mv rfl (J.k (JO.idx hz19 rfl rfl Try.runUnderlying26 Try.sizeOf41) (J.k (JO.loadPst rfl Try.isAgg41 Try.sizeOf41) (J.k (JO.callF0 rfl (con_disk_Check_1 hv20) Try.call80 (.cons (.dir rfl) .nil)) (J.fin (Sw.Sub.mk id (.c rfl (.c rfl (.c rfl (.c rfl (.c rfl (.c rfl .nil)))))) .nil rfl)))))))) ?_
  rcases Bool.eq_false_or_eq_true v20 with hc21 | hc21
  ·replace h := cond_t hc21 h
   refine W.condT rfl hc21 ?_
   refine W.seq ?_
   refine W.reg (σ' := ⟨[(4, .v Q0 s11)], []⟩) (J.mv rfl (J.k (JO.assign rfl) (J.fin (Sw.Sub.mk id (.c rfl .nil) .nil rfl)))) ?_
   refine W.ret ?_
   refine XQ.ret ?_
   obtain rfl := Option.some.inj h
   refine XQ.lret fun ho => ?_
   obtain rfl := hr16 _ ho
   exact XQ.sub (σ' := ⟨[(4, .v Q0 s11)], []⟩) (Sw.Sub.mk id (.c rfl .nil) .nil rfl) (XQ.ret1 hF noR rfl (RV.tmp rfl) .nil rfl)
  ·replace h := cond_f hc21 h
   refine W.condF rfl hc21 ?_
   refine W.skip ?_
   refine W.fall ?_
   refine W.reg (σ' := ⟨[(0, .v Q2 a0), (1, .fnc 80 [.pst Q1 a1_0]), (7, .v Q0 (a0.length : Int)), (8, .v Q0 (ar .add .i64 s11 (1 : Int)))], []⟩) (J.k (JO.arith rfl rfl rfl) (J.mv rfl (J.fin (Sw.Sub.mk id (.c rfl (.c rfl (.c rfl (.c rfl .nil)))) .nil rfl)))) ?_
   obtain rfl := Option.some.inj h
   exact W.next (Sw.Sub.mk id (.c rfl (.c rfl (.c rfl (.c rfl .nil)))) .nil rfl)
 ·replace h := cond_f hc18 h
  refine W.condF rfl hc18 ?_
  refine W.exit ?_
  obtain rfl := Option.some.inj h
  exact XQ.brk (Sw.Sub.mk id .nil .nil rfl)
set_option maxRecDepth 100000 in
set_option maxHeartbeats 4000000 in
theorem con_slices_ContainsFunc_api_Put_api_Put__disk_Check_1 {a0 : Q7} {a1_0 : Q3} {r : Bool} (h : m_slices_ContainsFunc_api_Put_api_Put__disk_Check_1 a0 a1_0 = some r) :
  Con Try.prog 55 [.v Q2 a0, .fnc 80 [.pst Q1 a1_0]] (.v Enc.bool r) [] := by
 refine Con.of Try.func55 rfl Try.ntmps55 rfl ?_
 intro S w hF
 unfold m_slices_ContainsFunc_api_Put_api_Put__disk_Check_1 at h
 refine W.seq ?_
 refine W.reg (σ' := ⟨[(0, .v Q2 a0), (1, .fnc 80 [.pst Q1 a1_0])], []⟩) (J.k (JO.assign rfl) (J.fin (Sw.Sub.mk id (.c rfl (.c rfl .nil)) .nil rfl))) ?_
 refine W.seq ?_
 obtain ⟨v1, hv1, h⟩ := bind_e h
 refine W.reg (σ' := ⟨[(4, .v Enc.bool (cm .geq v1 (0 : Int)))], []⟩) (J.mv rfl (J.mv rfl (J.k (JO.call0 (con_slices_IndexFunc_api_Put_api_Put__disk_Check_1 hv1) Try.call83 (.cons (.dir rfl) (.cons (.dir rfl) .nil))) (J.k (JO.cmp rfl rfl rfl) (J.k (JO.assign rfl) (J.fin (Sw.Sub.mk id (.c rfl .nil) .nil rfl))))))) ?_
 refine W.ret ?_
 obtain rfl := Option.some.inj h
 exact XQ.sub (σ' := ⟨[(4, .v Enc.bool (cm .geq v1 (0 : Int)))], []⟩) (Sw.Sub.mk id (.c rfl .nil) .nil rfl) (XQ.ret1 hF noR rfl (RV.tmp rfl) .nil rfl)
set_option maxRecDepth 100000 in
set_option maxHeartbeats 4000000 in
theorem con_disk_Check {a0 : Q3} {r : (Option Int)} (h : m_disk_Check a0 = some r) :
  Con Try.prog 52 [.v Q1 a0] (.v (Enc.err ET) r) [] := by
 refine Con.of Try.func52 rfl Try.ntmps52 rfl ?_
 intro S w hF
 unfold m_disk_Check at h
 refine W.seq ?_
 refine W.reg (σ' := ⟨[(1, .ptr 101 0)], [(101, .box 80 [.v Q4 a0.1, .v Q2 a0.2.1, .v Q0 a0.2.2])]⟩) (J.k (JO.box 101 rfl (.prm (.one _ _) (.prm (.one _ _) (.one _ _))) rfl) (J.k (JO.assignNilE ET) (J.fin (Sw.Sub.mk id (.c rfl .nil) (.box rfl (.c rfl (.c rfl (.c rfl .nil))) .nil) rfl)))) ?_
 refine W.seq ?_
 refine W.seq ?_
 obtain ⟨x3, hx, h⟩ := bind_e h
 refine W.reg (σ' := ⟨[(1, .ptr 101 0), (18, .v Enc.bool x3)], [(101, .box 80 [.v Q4 a0.1, .v Q2 a0.2.1, .v Q0 a0.2.2])]⟩) ?_ ?_
 ·rcases Bool.eq_false_or_eq_true (cm .lss (a0.1.length : Int) (1 : Int)) with hc4 | hc4
  ·replace hx := cond_t hc4 hx
   obtain rfl := Option.some.inj hx
   exact (J.k (JO.fieldPtr 0 rfl Try.runUnderlying80 rfl Try.sizeOf24 rfl rfl) (J.k (JO.load rfl rfl rfl Try.isAgg24 Try.sizeOf24) (J.k (JO.len rfl Try.runUnderlying24) (J.k (JO.cmp rfl rfl rfl) (J.mv rfl (J.u 7 hc4 (J.u 7 hc4 (J.u 7 hc4 (J.u 7 hc4 (J.k (JO.pT hc4 rfl rfl) (J.mv rfl (J.u 13 rfl (J.u 13 rfl (J.u 13 rfl (J.u 13 rfl (J.k (JO.pT rfl rfl rfl) (J.fin (Sw.Sub.mk id (.c rfl (.c rfl .nil)) (.box rfl (.c rfl (.c rfl (.c rfl .nil))) .nil) rfl))))))))))))))))))
  ·replace hx := cond_f hc4 hx
   rcases Bool.eq_false_or_eq_true (cm .gtr (a0.1.length : Int) (200 : Int)) with hc5 | hc5
   ·replace hx := cond_t hc5 hx
    obtain rfl := Option.some.inj hx
    exact (J.k (JO.fieldPtr 0 rfl Try.runUnderlying80 rfl Try.sizeOf24 rfl rfl) (J.k (JO.load rfl rfl rfl Try.isAgg24 Try.sizeOf24) (J.k (JO.len rfl Try.runUnderlying24) (J.k (JO.cmp rfl rfl rfl) (J.mv rfl (J.m 7 hc4 (JO.fieldPtr 0 rfl Try.runUnderlying80 rfl Try.sizeOf24 rfl rfl) (J.m 7 hc4 (JO.load rfl rfl rfl Try.isAgg24 Try.sizeOf24) (J.m 7 hc4 (JO.len rfl Try.runUnderlying24) (J.m 7 hc4 (JO.cmp rfl rfl rfl) (J.k (JO.pF hc4 rfl rfl) (J.mv rfl (J.u 13 hc5 (J.u 13 hc5 (J.u 13 hc5 (J.u 13 hc5 (J.k (JO.pT hc5 rfl rfl) (J.fin (Sw.Sub.mk id (.c rfl (.c rfl .nil)) (.box rfl (.c rfl (.c rfl (.c rfl .nil))) .nil) rfl))))))))))))))))))
   ·replace hx := cond_f hc5 hx
    obtain rfl := Option.some.inj hx
    exact (J.k (JO.fieldPtr 0 rfl Try.runUnderlying80 rfl Try.sizeOf24 rfl rfl) (J.k (JO.load rfl rfl rfl Try.isAgg24 Try.sizeOf24) (J.k (JO.len rfl Try.runUnderlying24) (J.k (JO.cmp rfl rfl rfl) (J.mv rfl (J.m 7 hc4 (JO.fieldPtr 0 rfl Try.runUnderlying80 rfl Try.sizeOf24 rfl rfl) (J.m 7 hc4 (JO.load rfl rfl rfl Try.isAgg24 Try.sizeOf24) (J.m 7 hc4 (JO.len rfl Try.runUnderlying24) (J.m 7 hc4 (JO.cmp rfl rfl rfl) (J.k (JO.pF hc4 rfl rfl) (J.mv rfl (J.m 13 hc5 (JO.fieldPtr 1 rfl Try.runUnderlying80 rfl Try.sizeOf26 rfl rfl) (J.m 13 hc5 (JO.load rfl rfl rfl Try.isAgg26 Try.sizeOf26) (J.m 13 hc5 (JO.len rfl Try.runUnderlying26) (J.m 13 hc5 (JO.cmp rfl rfl rfl) (J.k (JO.pF hc5 rfl rfl) (J.fin (Sw.Sub.mk id (.c rfl (.c rfl .nil)) (.box rfl (.c rfl (.c rfl (.c rfl .nil))) .nil) rfl))))))))))))))))))
 rcases Bool.eq_false_or_eq_true x3 with hc6 | hc6
 ·replace h := cond_t hc6 h
  refine W.condT rfl hc6 ?_
  refine W.seq ?_
  refine W.reg (σ' := ⟨[(2, .v (Enc.err ET) (some (2 : Int)))], []⟩) (J.k (JO.mkErr Try.runUnderlying86 rfl) (J.k (JO.assign rfl) (J.fin (Sw.Sub.mk id (.c rfl .nil) .nil rfl)))) ?_
  refine W.ret ?_
  obtain rfl := Option.some.inj h
  exact XQ.sub (σ' := ⟨[(2, .v (Enc.err ET) (some (2 : Int)))], []⟩) (Sw.Sub.mk id (.c rfl .nil) .nil rfl) (XQ.ret1 hF noR rfl (RV.tmp rfl) .nil rfl)
 ·replace h := cond_f hc6 h
  refine W.condF rfl hc6 ?_
  refine W.skip ?_
  refine W.seq ?_
  refine W.seq ?_
  obtain ⟨v7, hv7, h⟩ := bind_e h
  refine W.reg (σ' := ⟨[(23, .v Enc.bool v7)], []⟩) (J.k (JO.fieldPtr 1 rfl Try.runUnderlying80 rfl Try.sizeOf26 rfl rfl) (J.k (JO.load rfl rfl rfl Try.isAgg26 Try.sizeOf26) (J.k (JO.makeFunc (.cons (.dir rfl) .nil)) (J.k (JO.callL0 (con_slices_ContainsFunc_api_Put_api_Put__disk_Check_1 hv7) Try.call55 (.cons (.dir rfl) (.cons (.lendF rfl (.ptr rfl (.prm (.one _ _) (.prm (.one _ _) (.one _ _))) .nil)) .nil)) FlatS.v) (J.fin (Sw.Sub.mk id (.c rfl .nil) .nil rfl)))))) ?_
  rcases Bool.eq_false_or_eq_true v7 with hc8 | hc8
  ·replace h := cond_t hc8 h
   refine W.condT rfl hc8 ?_
   refine W.seq ?_
   refine W.reg (σ' := ⟨[(2, .v (Enc.err ET) (some (1 : Int)))], []⟩) (J.k (JO.mkErr Try.runUnderlying86 rfl) (J.k (JO.assign rfl) (J.fin (Sw.Sub.mk id (.c rfl .nil) .nil rfl)))) ?_
   refine W.ret ?_
   obtain rfl := Option.some.inj h
   exact XQ.sub (σ' := ⟨[(2, .v (Enc.err ET) (some (1 : Int)))], []⟩) (Sw.Sub.mk id (.c rfl .nil) .nil rfl) (XQ.ret1 hF noR rfl (RV.tmp rfl) .nil rfl)
  ·replace h := cond_f hc8 h
   refine W.condF rfl hc8 ?_
   refine W.skip ?_
   refine W.seq ?_
   refine W.reg (σ' := ⟨[(2, .v (Enc.err ET) (none : Option Int))], []⟩) (J.k (JO.assignNilE ET) (J.fin (Sw.Sub.mk id (.c rfl .nil) .nil rfl))) ?_
   refine W.ret ?_
   obtain rfl := Option.some.inj h
   exact XQ.sub (σ' := ⟨[(2, .v (Enc.err ET) (none : Option Int))], []⟩) (Sw.Sub.mk id (.c rfl .nil) .nil rfl) (XQ.ret1 hF noR rfl (RV.tmp rfl) .nil rfl)
set_option maxRecDepth 100000 in
set_option maxHeartbeats 4000000 in
theorem con_slices_Clone_api_Block_api_Block_nil {a0 : (Bool × (List Blk))} {r : (List Blk)} (h : m_slices_Clone_api_Block_api_Block_nil a0 = some r) :
  Con Try.prog 36 [.v (Enc.slN eBlk) a0] (.ref 0) [(0, .arr 29 eBlk r)] := by
 refine Con.of Try.func36 rfl Try.ntmps36 rfl ?_
 intro S w hF
 unfold m_slices_Clone_api_Block_api_Block_nil at h
 refine W.seq ?_
 refine W.reg (σ' := ⟨[(0, .v (Enc.slN eBlk) a0)], []⟩) (J.k (JO.assignNilR 101 29 eBlk) (J.fin (Sw.Sub.mk id (.c rfl .nil) .nil rfl))) ?_
 refine W.seq ?_
 refine W.seq ?_
 refine W.reg (σ' := ⟨[(0, .v (Enc.slN eBlk) a0), (4, .v Enc.bool a0.1)], []⟩) (J.mv rfl (J.k (JO.eqNilS rfl Try.runUnderlying24) (J.fin (Sw.Sub.mk id (.c rfl (.c rfl .nil)) .nil rfl)))) ?_
 rcases Bool.eq_false_or_eq_true a0.1 with hc1 | hc1
 ·replace h := cond_t hc1 h
  refine W.condT rfl hc1 ?_
  refine W.seq ?_
  refine W.reg (σ' := ⟨[(2, .ref 102)], [(102, .arr 29 eBlk ([] : (List Blk)))]⟩) (J.k (JO.assignNilR 102 29 eBlk) (J.fin (Sw.Sub.mk id (.c rfl .nil) (.arr rfl .nil) rfl))) ?_
  refine W.ret ?_
  obtain rfl := Option.some.inj h
  exact XQ.sub (σ' := ⟨[(2, .ref 0)], [(0, .arr 29 eBlk ([] : (List Blk)))]⟩) (Sw.Sub.mk (rn [(0, 102)]) (.c rfl .nil) (.arr rfl .nil) rfl) (XQ.ret1 hF noR rfl (RV.tmp rfl) (.cons rfl .nil) rfl)
 ·replace h := cond_f hc1 h
  refine W.condF rfl hc1 ?_
  refine W.skip ?_
  refine W.seq ?_
  obtain ⟨v2, hv2, h⟩ := bind_e h
  refine W.reg (σ' := ⟨[(2, .ref 104)], [(104, .arr 29 eBlk v2)]⟩) (J.k (JO.litR (e := eBlk) 103 Try.runUnderlying24 Try.sizeOf29 Try.zeroValue29 rfl rfl rfl rfl .nil) (J.mv rfl (J.t (JM.append 104 hv2 rfl rfl (.slN rfl) Try.runUnderlying24 Try.typeInfo29 Try.sizeOf29 rfl rfl rfl rfl rfl) (J.k (JO.assign rfl) (J.fin (Sw.Sub.mk id (.c rfl .nil) (.arr rfl .nil) rfl)))))) ?_
  refine W.ret ?_
  obtain rfl := Option.some.inj h
  exact XQ.sub (σ' := ⟨[(2, .ref 0)], [(0, .arr 29 eBlk v2)]⟩) (Sw.Sub.mk (rn [(0, 104)]) (.c rfl .nil) (.arr rfl .nil) rfl) (XQ.ret1 hF noR rfl (RV.tmp rfl) (.cons rfl .nil) rfl)
theorem con_slices_Clone_api_Block_api_Block {a0 : (List Blk)} {r : (List Blk)} (h : m_slices_Clone_api_Block_api_Block a0 = some r) :
  Con Try.prog 36 [.v Q4 a0] (.ref 0) [(0, .arr 29 eBlk r)] :=
 Con.nilCases fun b hb => con_slices_Clone_api_Block_api_Block_nil (by cases b with | true => rw [hb rfl] at h ⊢; exact h | false => exact clone_f h)
set_option maxRecDepth 100000 in
set_option maxHeartbeats 4000000 in
theorem con_slices_Backward_api_Put_api_Put {a0 : Q7} {r : Q7} (h : m_slices_Backward_api_Put_api_Put a0 = some r) :
  Con Try.prog 97 [.v Q2 a0] (.fnc 102 [.pst Q2 r]) [] := by
 refine Con.of Try.func97 rfl Try.ntmps97 rfl ?_
 intro S w hF
 unfold m_slices_Backward_api_Put_api_Put at h
 refine W.seq ?_
 refine W.reg (σ' := ⟨[(1, .ptr 101 0)], [(101, .box 26 [.v Q2 a0])]⟩) (J.k (JO.box 101 rfl (.one _ _) rfl) (J.k (JO.assignCst rfl) (J.fin (Sw.Sub.mk id (.c rfl .nil) (.box rfl (.c rfl .nil) .nil) rfl)))) ?_
 refine W.seq ?_
 refine W.reg (σ' := ⟨[(2, .fnc 102 [.ptr 101 0])], [(101, .box 26 [.v Q2 a0])]⟩) (J.k (JO.makeFunc (.cons (.dir rfl) .nil)) (J.k (JO.assign rfl) (J.fin (Sw.Sub.mk id (.c rfl .nil) (.box rfl (.c rfl .nil) .nil) rfl)))) ?_
 refine W.ret ?_
 obtain rfl := Option.some.inj h
 exact XQ.sub (σ' := ⟨[(2, .fnc 102 [.pst Q2 a0])], []⟩) (Sw.Sub.mk id (.cons rfl (.fnc (.cons (.frzP rfl rfl (.c rfl .nil) (.one _ _)) .nil)) .nil) .nil rfl) (XQ.ret1 hF noR rfl (RV.tmp rfl) .nil rfl)
set_option maxRecDepth 100000 in
set_option maxHeartbeats 4000000 in
theorem it_102 {xs : List (Int × Blk)} (hlen : (xs.length : Int) ≤ 4294967296) :
  IterC Try.prog 102 [.pst Q2 xs] ((backs xs).map fun c => [.v Q0 c.1, .v Q6 c.2]) := by
 refine IterC.of1 Try.func102 rfl Try.ntmps102 rfl ?_
 intro S w ρ l Jp Jx b off I hJ0 h1
 have hs0 := back_sub0 hlen
 refine W.seq ?_
 refine W.reg (σ' := ⟨[(0, .v (Enc.cst (.func (.yield l) #[] #[]) rfl) ()), (1, .v (Enc.cp b off Q2) xs), (3, .v Q0 ((xs.length : Int) - 1 - (0 : Nat)))], []⟩) (J.k (JO.loadCp rfl Try.isAgg26 Try.sizeOf26) (J.k (JO.len rfl Try.runUnderlying26) (J.k (JO.arith rfl rfl rfl) (J.k (JO.assign rfl) (J.fin (Sub.keepE (by rfl) (by exact (.cons rfl (.cons rfl (.cons (by rw [← hs0]; rfl) .nil)))))))))) ?_
 refine W.block ?_
 refine W.iloop I (fun k => [(0, .v (Enc.cst (.func (.yield l) #[] #[]) rfl) ()), (1, .v (Enc.cp b off Q2) xs), (3, .v Q0 ((xs.length : Int) - 1 - (k : Nat)))]) (fun k => (.cons (@Again.flat _ _ ⟨fun h => h⟩ _ _ _ _) (.cons h1 (.cons .flat .nil)))) (fun _ _ h => h) hJ0 ?_
 intro k V hJ hk
 have hm : ((backs xs).map fun c => ([.v Q0 c.1, .v Q6 c.2] : List Slot)).length = xs.length := by rw [List.length_map, backs_len]
 rw [hm] at hk
 have hsub := back_sub hlen hk
 refine W.seq (W.seq ?_)
 refine W.reg (σ' := ⟨[(0, .v (Enc.cst (.func (.yield l) #[] #[]) rfl) ()), (1, .v (Enc.cp b off Q2) xs), (3, .v Q0 ((xs.length : Int) - 1 - (k : Nat))), (8, .v Enc.bool (cm .geq ((xs.length : Int) - 1 - (k : Nat)) 0))], []⟩) (J.mv rfl (J.k (JO.cmp rfl rfl rfl) (J.fin (Sub.keepE (by rfl) (by exact (.cons rfl (.cons rfl (.cons rfl (.cons rfl .nil))))))))) ?_
 refine W.cond rfl (fun hc => ?_) (fun hc => ?_)
 ·refine W.skip ?_
  have hlt : (xs.length : Int) - 1 - (k : Nat) ≥ 0 := by simpa [cm] using hc
  have hkm : k < xs.length := by omega
  obtain ⟨x, hg, hi⟩ := back_get hkm
  refine W.seq ?_
  refine W.block ?_
  refine W.seq ?_
  refine W.iyield (σ1 := ⟨[(11, .v (Enc.cst (.func (.yield l) #[] #[]) rfl) ()), (12, .v Q0 ((xs.length : Int) - 1 - (k : Nat))), (16, .v Q6 x), (0, .v (Enc.cst (.func (.yield l) #[] #[]) rfl) ()), (1, .v (Enc.cp b off Q2) xs), (3, .v Q0 ((xs.length : Int) - 1 - (k : Nat)))], []⟩) (g2 := [(0, .v (Enc.cst (.func (.yield l) #[] #[]) rfl) ()), (1, .v (Enc.cp b off Q2) xs), (3, .v Q0 ((xs.length : Int) - 1 - (k : Nat)))]) (pre := [_, _, _, _, _, _]) I hJ (item := [.v Q0 ((xs.length : Int) - 1 - (k : Nat)), .v Q6 x]) (by rw [List.getElem?_map, hg]; rfl)
   (J.mv rfl (J.mv rfl (J.k (JO.loadCp rfl Try.isAgg26 Try.sizeOf26) (J.mv rfl (J.k (JO.idx hi rfl rfl Try.runUnderlying26 Try.sizeOf41) (J.k (JO.loadPst rfl Try.isAgg41 Try.sizeOf41) (J.fin (Sub.keepE (by rfl) (by exact (.cons rfl (.cons rfl (.cons rfl (.cons rfl (.cons rfl (.cons rfl .nil)))))))))))))))
   rfl (.cons (.dir rfl) (.cons (.dir rfl) .nil)) rfl rfl rfl rfl (.cons (@Again.flat _ _ ⟨fun h => h⟩ _ _ _ _) (.cons h1 (.cons .flat .nil))) (.cons rfl (.cons rfl (.cons rfl .nil))) (fun V' hJ' => ?_) (fun V' hJx => ?_)
  ·refine W.condF rfl rfl (W.skip (W.fall ?_))
   refine W.reg (σ' := ⟨[(0, .v (Enc.cst (.func (.yield l) #[] #[]) rfl) ()), (1, .v (Enc.cp b off Q2) xs), (3, .v Q0 (ar .sub .i64 ((xs.length : Int) - 1 - (k : Nat)) 1))], []⟩) (J.mv rfl (J.k (JO.arith rfl rfl rfl) (J.k (JO.assign rfl) (J.fin (Sub.keepE (by rfl) (by exact (.cons rfl (.cons rfl (.cons rfl .nil))))))))) ?_
   exact W.inext I hJ' (by rw [hm]; exact hkm) (by rw [hsub]; exact fun _ _ h => h)
  ·refine W.condT rfl rfl (W.ret (W.istop (fn := Try.f102) I rfl hJx fun a V' h => h))
 ·refine W.exit (W.iend (fn := Try.f102) I rfl hJ ?_ (fun a V' h => ?_))
  ·have hge : ¬ (xs.length : Int) - 1 - (k : Nat) ≥ 0 := by simpa [cm] using hc
   rw [hm]; omega
  ·simp only [Exit.inBlock, if_true]; exact h

set_option maxRecDepth 100000 in
set_option maxHeartbeats 4000000 in
theorem con_disk_Read {a0 : Q3} {a1 : Int} {r : Blk × (Option Int)} (h : m_disk_Read a0 a1 = some r) :
  Con Try.prog 81 [.v Q1 a0, .v Q0 a1] (.tup [.v eBlk r.1, .v (Enc.err ET) r.2]) [] := by
 refine Con.of Try.func81 rfl Try.ntmps81 rfl ?_
 intro S w hF
 unfold m_disk_Read at h
 refine W.seq ?_
 refine W.reg (σ' := ⟨[(2, .ptr 101 0), (3, .ptr 102 0), (4, .ptr 103 0), (5, .ptr 104 0)], [(101, .box 80 [.v Q4 a0.1, .v Q2 a0.2.1, .v Q0 a0.2.2]), (102, .box 3 [.v Q0 a1]), (103, .box 29 [.v eBlk zblk]), (104, .box 34 [.v (Enc.err ET) (none : Option Int)])]⟩) (J.k (JO.box 101 rfl (.prm (.one _ _) (.prm (.one _ _) (.one _ _))) rfl) (J.k (JO.box 102 rfl (.one _ _) rfl) (J.k (JO.alloc 103 Try.zeroValue29 rfl (.cons (Z.arr 8 (Z.int .u8)) .nil) rfl) (J.k (JO.alloc 104 Try.zeroValue34 rfl (.cons (Z.err ET) .nil) rfl) (J.fin (Sw.Sub.mk id (.c rfl (.c rfl (.c rfl (.c rfl .nil)))) (.box rfl (.c rfl (.c rfl (.c rfl .nil))) (.box rfl (.c rfl .nil) (.box rfl (.c rfl .nil) (.box rfl (.c rfl .nil) .nil)))) rfl)))))) ?_
 refine W.seq ?_
 refine W.seq ?_
 obtain ⟨v1, hv1, h⟩ := bind_e h
 refine W.reg (σ' := ⟨[(2, .ptr 101 0), (3, .ptr 102 0), (4, .ptr 103 0), (5, .ptr 104 0), (6, .v (Enc.err ET) v1)], [(101, .box 80 [.v Q4 a0.1, .v Q2 a0.2.1, .v Q0 a0.2.2]), (102, .box 3 [.v Q0 a1]), (103, .box 29 [.v eBlk zblk]), (104, .box 34 [.v (Enc.err ET) (none : Option Int)])]⟩) (J.k (JO.loadAll rfl rfl (.prm (.one _ _) (.prm (.one _ _) (.one _ _))) Try.isAgg80 Try.sizeOf80) (J.k (JO.call0 (con_disk_Check hv1) Try.call52 (.cons (.dir rfl) .nil)) (J.k (JO.assign rfl) (J.fin (Sw.Sub.mk id (.c rfl (.c rfl (.c rfl (.c rfl (.c rfl .nil))))) (.box rfl (.c rfl (.c rfl (.c rfl .nil))) (.box rfl (.c rfl .nil) (.box rfl (.c rfl .nil) (.box rfl (.c rfl .nil) .nil)))) rfl))))) ?_
 refine W.seq ?_
 refine W.reg (σ' := ⟨[(2, .ptr 101 0), (3, .ptr 102 0), (4, .ptr 103 0), (5, .ptr 104 0), (6, .v (Enc.err ET) v1), (12, .v Enc.bool (Option.isSome v1))], [(101, .box 80 [.v Q4 a0.1, .v Q2 a0.2.1, .v Q0 a0.2.2]), (102, .box 3 [.v Q0 a1]), (103, .box 29 [.v eBlk zblk]), (104, .box 34 [.v (Enc.err ET) (none : Option Int)])]⟩) (J.mv rfl (J.k (JO.errNe Try.runUnderlying34 rfl) (J.fin (Sw.Sub.mk id (.c rfl (.c rfl (.c rfl (.c rfl (.c rfl (.c rfl .nil)))))) (.box rfl (.c rfl (.c rfl (.c rfl .nil))) (.box rfl (.c rfl .nil) (.box rfl (.c rfl .nil) (.box rfl (.c rfl .nil) .nil)))) rfl)))) ?_
 rcases Bool.eq_false_or_eq_true (Option.isSome v1) with hc2 | hc2
 ·replace h := cond_t hc2 h
  refine W.condT rfl hc2 ?_
  refine W.seq ?_
  refine W.reg (σ' := ⟨[(4, .ptr 103 0), (5, .ptr 104 0)], [(103, .box 29 [.v eBlk zblk]), (104, .box 34 [.v (Enc.err ET) v1])]⟩) (J.k (JO.zeroArr (e := eBlk) (v := zblk) Try.typeInfo29 Try.runUnderlying29 Try.typeInfo5 rfl rfl (Z.arr 8 (Z.int .u8))) (J.mv rfl (J.t (JM.store rfl rfl rfl rfl rfl rfl rfl Try.sizeOf29) (J.t (JM.store rfl rfl rfl rfl rfl rfl rfl Try.sizeOf34) (J.fin (Sw.Sub.mk id (.c rfl (.c rfl .nil)) (.box rfl (.c rfl .nil) (.box rfl (.c rfl .nil) .nil)) rfl)))))) ?_
  refine W.ret ?_
  obtain rfl := Option.some.inj h
  exact XQ.sub (σ' := ⟨[(4, .ptr 90 0), (5, .ptr 91 0)], [(91, .box 34 [.v (Enc.err ET) v1]), (90, .box 29 [.v eBlk zblk])]⟩) (Sw.Sub.mk (rn [(90, 103), (91, 104)]) (.c rfl (.c rfl .nil)) (.box rfl (.c rfl .nil) (.box rfl (.c rfl .nil) .nil)) rfl) (XQ.ret2 hF noR rfl (RV.cellAt rfl rfl rfl Try.isAgg29 Try.sizeOf29) (RV.cellAt rfl rfl rfl Try.isAgg34 Try.sizeOf34) .nil rfl)
 ·replace h := cond_f hc2 h
  refine W.condF rfl hc2 ?_
  refine W.skip ?_
  refine W.seq ?_
  refine W.seq ?_
  obtain ⟨x4, hx, h⟩ := bind_e h
  refine W.reg (σ' := ⟨[(2, .ptr 101 0), (3, .ptr 102 0), (4, .ptr 103 0), (5, .ptr 104 0), (23, .v Enc.bool x4)], [(101, .box 80 [.v Q4 a0.1, .v Q2 a0.2.1, .v Q0 a0.2.2]), (102, .box 3 [.v Q0 a1]), (103, .box 29 [.v eBlk zblk]), (104, .box 34 [.v (Enc.err ET) (none : Option Int)])]⟩) ?_ ?_
  ·rcases Bool.eq_false_or_eq_true (cm .lss a1 (0 : Int)) with hc5 | hc5
   ·replace hx := cond_t hc5 hx
    obtain rfl := Option.some.inj hx
    exact (J.k (JO.load rfl rfl rfl Try.isAgg3 Try.sizeOf3) (J.k (JO.cmp rfl rfl rfl) (J.mv rfl (J.u 17 hc5 (J.u 17 hc5 (J.u 17 hc5 (J.u 17 hc5 (J.u 17 hc5 (J.k (JO.pT hc5 rfl rfl) (J.fin (Sw.Sub.mk id (.c rfl (.c rfl (.c rfl (.c rfl (.c rfl .nil))))) (.box rfl (.c rfl (.c rfl (.c rfl .nil))) (.box rfl (.c rfl .nil) (.box rfl (.c rfl .nil) (.box rfl (.c rfl .nil) .nil)))) rfl)))))))))))
   ·replace hx := cond_f hc5 hx
    obtain rfl := Option.some.inj hx
    exact (J.k (JO.load rfl rfl rfl Try.isAgg3 Try.sizeOf3) (J.k (JO.cmp rfl rfl rfl) (J.mv rfl (J.m 17 hc5 (JO.load rfl rfl rfl Try.isAgg3 Try.sizeOf3) (J.m 17 hc5 (JO.fieldPtr 0 rfl Try.runUnderlying80 rfl Try.sizeOf24 rfl rfl) (J.m 17 hc5 (JO.load rfl rfl rfl Try.isAgg24 Try.sizeOf24) (J.m 17 hc5 (JO.len rfl Try.runUnderlying24) (J.m 17 hc5 (JO.cmp rfl rfl rfl) (J.k (JO.pF hc5 rfl rfl) (J.fin (Sw.Sub.mk id (.c rfl (.c rfl (.c rfl (.c rfl (.c rfl .nil))))) (.box rfl (.c rfl (.c rfl (.c rfl .nil))) (.box rfl (.c rfl .nil) (.box rfl (.c rfl .nil) (.box rfl (.c rfl .nil) .nil)))) rfl)))))))))))
  rcases Bool.eq_false_or_eq_true x4 with hc6 | hc6
  ·replace h := cond_t hc6 h
   refine W.condT rfl hc6 ?_
   refine W.seq ?_
   refine W.reg (σ' := ⟨[(4, .ptr 103 0), (5, .ptr 104 0)], [(103, .box 29 [.v eBlk zblk]), (104, .box 34 [.v (Enc.err ET) (some (1 : Int))])]⟩) (J.k (JO.zeroArr (e := eBlk) (v := zblk) Try.typeInfo29 Try.runUnderlying29 Try.typeInfo5 rfl rfl (Z.arr 8 (Z.int .u8))) (J.k (JO.mkErr Try.runUnderlying86 rfl) (J.t (JM.store rfl rfl rfl rfl rfl rfl rfl Try.sizeOf29) (J.t (JM.store rfl rfl rfl rfl rfl rfl rfl Try.sizeOf34) (J.fin (Sw.Sub.mk id (.c rfl (.c rfl .nil)) (.box rfl (.c rfl .nil) (.box rfl (.c rfl .nil) .nil)) rfl)))))) ?_
   refine W.ret ?_
   obtain rfl := Option.some.inj h
   exact XQ.sub (σ' := ⟨[(4, .ptr 90 0), (5, .ptr 91 0)], [(91, .box 34 [.v (Enc.err ET) (some (1 : Int))]), (90, .box 29 [.v eBlk zblk])]⟩) (Sw.Sub.mk (rn [(90, 103), (91, 104)]) (.c rfl (.c rfl .nil)) (.box rfl (.c rfl .nil) (.box rfl (.c rfl .nil) .nil)) rfl) (XQ.ret2 hF noR rfl (RV.cellAt rfl rfl rfl Try.isAgg29 Try.sizeOf29) (RV.cellAt rfl rfl rfl Try.isAgg34 Try.sizeOf34) .nil rfl)
  ·replace h := cond_f hc6 h
   refine W.condF rfl hc6 ?_
   refine W.skip ?_
   refine W.seq ?_
   refine W.seq ?_
   refine W.reg (σ' := ⟨[(2, .ptr 101 0), (3, .ptr 102 0), (4, .ptr 103 0), (5, .ptr 104 0), (28, .v Enc.bool (cm .eql a0.2.2 (0 : Int)))], [(101, .box 80 [.v Q4 a0.1, .v Q2 a0.2.1, .v Q0 a0.2.2]), (102, .box 3 [.v Q0 a1]), (103, .box 29 [.v eBlk zblk]), (104, .box 34 [.v (Enc.err ET) (none : Option Int)])]⟩) (J.k (JO.fieldPtr 2 rfl Try.runUnderlying80 rfl Try.sizeOf3 rfl rfl) (J.k (JO.load rfl rfl rfl Try.isAgg3 Try.sizeOf3) (J.k (JO.cmp rfl rfl rfl) (J.fin (Sw.Sub.mk id (.c rfl (.c rfl (.c rfl (.c rfl (.c rfl .nil))))) (.box rfl (.c rfl (.c rfl (.c rfl .nil))) (.box rfl (.c rfl .nil) (.box rfl (.c rfl .nil) (.box rfl (.c rfl .nil) .nil)))) rfl))))) ?_
   rcases Bool.eq_false_or_eq_true (cm .eql a0.2.2 (0 : Int)) with hc7 | hc7
   ·replace h := cond_t hc7 h
    refine W.condT rfl hc7 ?_
    refine W.seq ?_
    refine W.reg (σ' := ⟨[(4, .ptr 103 0), (5, .ptr 104 0)], [(103, .box 29 [.v eBlk zblk]), (104, .box 34 [.v (Enc.err ET) (some (4 : Int))])]⟩) (J.k (JO.zeroArr (e := eBlk) (v := zblk) Try.typeInfo29 Try.runUnderlying29 Try.typeInfo5 rfl rfl (Z.arr 8 (Z.int .u8))) (J.k (JO.mkErr Try.runUnderlying86 rfl) (J.t (JM.store rfl rfl rfl rfl rfl rfl rfl Try.sizeOf29) (J.t (JM.store rfl rfl rfl rfl rfl rfl rfl Try.sizeOf34) (J.fin (Sw.Sub.mk id (.c rfl (.c rfl .nil)) (.box rfl (.c rfl .nil) (.box rfl (.c rfl .nil) .nil)) rfl)))))) ?_
    refine W.ret ?_
    obtain rfl := Option.some.inj h
    exact XQ.sub (σ' := ⟨[(4, .ptr 90 0), (5, .ptr 91 0)], [(91, .box 34 [.v (Enc.err ET) (some (4 : Int))]), (90, .box 29 [.v eBlk zblk])]⟩) (Sw.Sub.mk (rn [(90, 103), (91, 104)]) (.c rfl (.c rfl .nil)) (.box rfl (.c rfl .nil) (.box rfl (.c rfl .nil) .nil)) rfl) (XQ.ret2 hF noR rfl (RV.cellAt rfl rfl rfl Try.isAgg29 Try.sizeOf29) (RV.cellAt rfl rfl rfl Try.isAgg34 Try.sizeOf34) .nil rfl)
   ·replace h := cond_f hc7 h
    refine W.condF rfl hc7 ?_
    refine W.skip ?_
    refine W.seq ?_
    refine W.seq ?_
    obtain ⟨v8, hv8, h⟩ := bind_e h
    refine W.reg (σ' := ⟨[(2, .ptr 101 0), (3, .ptr 102 0), (4, .ptr 103 0), (5, .ptr 104 0), (33, .fnc 102 [.pst Q2 v8])], [(101, .box 80 [.v Q4 a0.1, .v Q2 a0.2.1, .v Q0 a0.2.2]), (102, .box 3 [.v Q0 a1]), (103, .box 29 [.v eBlk zblk]), (104, .box 34 [.v (Enc.err ET) (none : Option Int)])]⟩) (J.k (JO.fieldPtr 1 rfl Try.runUnderlying80 rfl Try.sizeOf26 rfl rfl) (J.k (JO.load rfl rfl rfl Try.isAgg26 Try.sizeOf26) (J.k (JO.call0 (con_slices_Backward_api_Put_api_Put hv8) Try.call97 (.cons (.dir rfl) .nil)) (J.fin (Sw.Sub.mk id (.c rfl (.c rfl (.c rfl (.c rfl (.c rfl .nil))))) (.box rfl (.c rfl (.c rfl (.c rfl .nil))) (.box rfl (.c rfl .nil) (.box rfl (.c rfl .nil) (.box rfl (.c rfl .nil) .nil)))) rfl))))) ?_
    refine W.block ?_
    obtain ⟨u17, hu17, h⟩ := bind_e h
    obtain ⟨o9, ho9, hb9, hx9⟩ := rg_elim h
    refine W.range (g := [(2, .ptr 101 0), (3, .ptr 102 0), (4, .ptr 103 0), (5, .ptr 104 0), (33, .fnc 102 [.pst Q2 v8])]) (ds0 := [(101, .box 80 [.v Q4 a0.1, .v Q2 a0.2.1, .v Q0 a0.2.2]), (102, .box 3 [.v Q0 a1]), (103, .box 29 [.v eBlk zblk]), (104, .box 34 [.v (Enc.err ET) (none : Option Int)])]) (L := [101, 102, 103, 104]) (fun z10 : (Int × (Int × Blk)) => [.v Q0 z10.1, .v Q6 z10.2]) (fun A9 (s13 : Unit) => [(101, .box 80 [.v Q4 a0.1, .v Q2 a0.2.1, .v Q0 a0.2.2] (some (A9 101))), (102, .box 3 [.v Q0 a1] (some (A9 102))), (103, .box 29 [.v eBlk zblk] (some (A9 103))), (104, .box 34 [.v (Enc.err ET) (none : Option Int)] (some (A9 104)))]) (fun A9 (z18 : Blk) => [(101, .box 80 [.v Q4 a0.1, .v Q2 a0.2.1, .v Q0 a0.2.2] (some (A9 101))), (102, .box 3 [.v Q0 a1] (some (A9 102))), (103, .box 29 [.v eBlk z18] (some (A9 103))), (104, .box 34 [.v (Enc.err ET) (none : Option Int)] (some (A9 104)))]) (fun A9 z10 s13 => ⟨[(2, .ptr 101 0), (3, .ptr 102 0), (4, .ptr 103 0), (5, .ptr 104 0), (8, .ptr 108 0), (33, .fnc 102 [.pst Q2 v8])], [(101, .box 80 [.v Q4 a0.1, .v Q2 a0.2.1, .v Q0 a0.2.2] (some (A9 101))), (102, .box 3 [.v Q0 a1] (some (A9 102))), (103, .box 29 [.v eBlk zblk] (some (A9 103))), (104, .box 34 [.v (Enc.err ET) (none : Option Int)] (some (A9 104))), (108, .box 41 [.v Q0 z10.2.1, .v eBlk z10.2.2])]⟩) hF rfl ho9 (Sw.Sub.mk id (.c rfl (.c rfl (.c rfl (.c rfl (.c rfl .nil))))) (.box rfl (.c rfl (.c rfl (.c rfl .nil))) (.box rfl (.c rfl .nil) (.box rfl (.c rfl .nil) (.box rfl (.c rfl .nil) .nil)))) rfl) (fun _ => rfl) rfl (it_102 (small_some hu17)) Try.call102 (fun _ => rfl) rfl (fun _ => rfl) rfl (fun _ _ => (.cons rfl (.cons rfl (.cons rfl (.cons rfl .nil))))) (fun _ _ => (.cons rfl (.cons rfl (.cons rfl (.cons rfl .nil))))) ?_ ?_ ?_ ?_
    ·intro A9 S w R l z10 s13
     refine W.reg (σ' := ⟨[(2, .ptr 101 0), (3, .ptr 102 0), (4, .ptr 103 0), (5, .ptr 104 0), (8, .ptr 109 0), (33, .fnc 102 [.pst Q2 v8])], [(101, .box 80 [.v Q4 a0.1, .v Q2 a0.2.1, .v Q0 a0.2.2] (some (A9 101))), (102, .box 3 [.v Q0 a1] (some (A9 102))), (103, .box 29 [.v eBlk zblk] (some (A9 103))), (104, .box 34 [.v (Enc.err ET) (none : Option Int)] (some (A9 104))), (109, .box 41 [.v Q0 z10.2.1, .v eBlk z10.2.2])]⟩) (J.k (JO.alloc 109 Try.zeroValue41 rfl (.cons (Z.int .i64) (.cons (Z.arr 8 (Z.int .u8)) .nil)) rfl) (J.t (JM.storeAll rfl rfl rfl rfl (.prm (.one _ _) (.one _ _)) Try.sizeOf41) (J.fin (Sw.Sub.mk id (.c rfl (.c rfl (.c rfl (.c rfl (.c rfl (.c rfl .nil)))))) (.box rfl (.c rfl (.c rfl (.c rfl .nil))) (.box rfl (.c rfl .nil) (.box rfl (.c rfl .nil) (.box rfl (.c rfl .nil) (.box rfl (.c rfl (.c rfl .nil)) .nil))))) rfl)))) ?_
     exact W.aq (Sw.Sub.mk (rn [(101, 101), (102, 102), (103, 103), (104, 104), (108, 109)]) (.c rfl (.c rfl (.c rfl (.c rfl (.c rfl (.c rfl .nil)))))) (.box rfl (.c rfl (.c rfl (.c rfl .nil))) (.box rfl (.c rfl .nil) (.box rfl (.c rfl .nil) (.box rfl (.c rfl .nil) (.box rfl (.c rfl (.c rfl .nil)) .nil))))) rfl)
    ·intro A9 S w R l z10 s13 r9 h
     refine W.block ?_
     refine W.seq ?_
     refine W.reg (σ' := ⟨[(2, .ptr 101 0), (3, .ptr 102 0), (4, .ptr 103 0), (5, .ptr 104 0), (8, .ptr 108 0), (33, .fnc 102 [.pst Q2 v8]), (39, .v Enc.bool (cm .eql z10.2.1 a1))], [(101, .box 80 [.v Q4 a0.1, .v Q2 a0.2.1, .v Q0 a0.2.2] (some (A9 101))), (102, .box 3 [.v Q0 a1] (some (A9 102))), (103, .box 29 [.v eBlk zblk] (some (A9 103))), (104, .box 34 [.v (Enc.err ET) (none : Option Int)] (some (A9 104))), (108, .box 41 [.v Q0 z10.2.1, .v eBlk z10.2.2])]⟩) (J.k (JO.fieldPtr 0 rfl Try.runUnderlying41 rfl Try.sizeOf3 rfl rfl) (J.k (JO.load rfl rfl rfl Try.isAgg3 Try.sizeOf3) (J.k (JO.load rfl rfl rfl Try.isAgg3 Try.sizeOf3) (J.k (JO.cmp rfl rfl rfl) (J.fin (Sw.Sub.mk id (.c rfl (.c rfl (.c rfl (.c rfl (.c rfl (.c rfl (.c rfl .nil))))))) (.box rfl (.c rfl (.c rfl (.c rfl .nil))) (.box rfl (.c rfl .nil) (.box rfl (.c rfl .nil) (.box rfl (.c rfl .nil) (.box rfl (.c rfl (.c rfl .nil)) .nil))))) rfl)))))) ?_
     rcases Bool.eq_false_or_eq_true (cm .eql z10.2.1 a1) with hc14 | hc14
     ·replace h := cond_t hc14 h
      refine W.condT rfl hc14 ?_
      refine W.seq ?_
      refine W.reg (σ' := ⟨[(2, .ptr 101 0), (3, .ptr 102 0), (4, .ptr 103 0), (5, .ptr 104 0), (33, .fnc 102 [.pst Q2 v8])], [(101, .box 80 [.v Q4 a0.1, .v Q2 a0.2.1, .v Q0 a0.2.2] (some (A9 101))), (102, .box 3 [.v Q0 a1] (some (A9 102))), (103, .box 29 [.v eBlk z10.2.2] (some (A9 103))), (104, .box 34 [.v (Enc.err ET) (none : Option Int)] (some (A9 104)))]⟩) (J.k (JO.fieldPtr 1 rfl Try.runUnderlying41 rfl Try.sizeOf29 rfl rfl) (J.k (JO.load rfl rfl rfl Try.isAgg29 Try.sizeOf29) (J.t (JM.store rfl rfl rfl rfl rfl rfl rfl Try.sizeOf29) (J.t (JM.storeA rfl rfl rfl (.nilE ET) rfl rfl rfl Try.sizeOf34) (J.fin (Sw.Sub.mk id (.c rfl (.c rfl (.c rfl (.c rfl (.c rfl .nil))))) (.box rfl (.c rfl (.c rfl (.c rfl .nil))) (.box rfl (.c rfl .nil) (.box rfl (.c rfl .nil) (.box rfl (.c rfl .nil) .nil)))) rfl)))))) ?_
      refine W.ret ?_
      refine XQ.ret ?_
      obtain rfl := Option.some.inj h
      exact XQ.rdone (Sw.Sub.mk id .nil (.box rfl (.c rfl (.c rfl (.c rfl .nil))) (.box rfl (.c rfl .nil) (.box rfl (.c rfl .nil) (.box rfl (.c rfl .nil) .nil)))) rfl)
     ·replace h := cond_f hc14 h
      refine W.condF rfl hc14 ?_
      refine W.skip ?_
      refine W.fall ?_
      obtain rfl := Option.some.inj h
      exact W.rnext (Sw.Sub.mk id .nil (.box rfl (.c rfl (.c rfl (.c rfl .nil))) (.box rfl (.c rfl .nil) (.box rfl (.c rfl .nil) (.box rfl (.c rfl .nil) .nil)))) rfl)
    ·intro A9 x15 hy S w R df hF
     have h := hb9 _ hy
     refine W.fall ?_
     refine W.seq ?_
     obtain ⟨z16, hz16, h⟩ := bind_e h
     refine W.reg (σ' := ⟨[(4, .ptr 103 0), (5, .ptr 104 0)], [(103, .box 29 [.v eBlk z16] (some (A9 103))), (104, .box 34 [.v (Enc.err ET) (none : Option Int)] (some (A9 104)))]⟩) (J.k (JO.fieldPtr 0 rfl Try.runUnderlying80 rfl Try.sizeOf24 rfl rfl) (J.k (JO.load rfl rfl rfl Try.isAgg24 Try.sizeOf24) (J.k (JO.load rfl rfl rfl Try.isAgg3 Try.sizeOf3) (J.k (JO.idx hz16 rfl rfl Try.runUnderlying24 Try.sizeOf29) (J.k (JO.loadPst rfl Try.isAgg29 Try.sizeOf29) (J.t (JM.store rfl rfl rfl rfl rfl rfl rfl Try.sizeOf29) (J.t (JM.storeA rfl rfl rfl (.nilE ET) rfl rfl rfl Try.sizeOf34) (J.fin (Sw.Sub.mk id (.c rfl (.c rfl .nil)) (.box rfl (.c rfl .nil) (.box rfl (.c rfl .nil) .nil)) rfl))))))))) ?_
     refine W.ret ?_
     obtain rfl := Option.some.inj h
     exact XQ.sub (σ' := ⟨[(4, .ptr 90 0), (5, .ptr 91 0)], [(91, .box 34 [.v (Enc.err ET) (none : Option Int)]), (90, .box 29 [.v eBlk z16])]⟩) (Sw.Sub.mk (rn [(90, 103), (91, 104)]) (.c rfl (.c rfl .nil)) (.boxU rfl (.c rfl .nil) (.boxU rfl (.c rfl .nil) .nil)) rfl) (XQ.ret2 hF noR rfl (RV.cellAt rfl rfl rfl Try.isAgg29 Try.sizeOf29) (RV.cellAt rfl rfl rfl Try.isAgg34 Try.sizeOf34) .nil rfl)
    ·intro A9 z18 hz S w R df hF
     have h := hx9 _ hz
     refine XQ.ret ?_
     obtain rfl := Option.some.inj h
     exact XQ.sub (σ' := ⟨[(4, .ptr 90 0), (5, .ptr 91 0)], [(91, .box 34 [.v (Enc.err ET) (none : Option Int)]), (90, .box 29 [.v eBlk z18])]⟩) (Sw.Sub.mk (rn [(90, 103), (91, 104)]) (.c rfl (.c rfl .nil)) (.boxU rfl (.c rfl .nil) (.boxU rfl (.c rfl .nil) .nil)) rfl) (XQ.ret2 hF noR rfl (RV.cellAt rfl rfl rfl Try.isAgg29 Try.sizeOf29) (RV.cellAt rfl rfl rfl Try.isAgg34 Try.sizeOf34) .nil rfl)
set_option maxRecDepth 100000 in
set_option maxHeartbeats 4000000 in
theorem con_store_value {a0 : Blk} {r : Int} (h : m_store_value a0 = some r) :
  Con Try.prog 87 [.v eBlk a0] (.v Q0 r) [] := by
 refine Con.of Try.func87 rfl Try.ntmps87 rfl ?_
 intro S w hF
 unfold m_store_value at h
 refine W.seq ?_
 refine W.reg (σ' := ⟨[(1, .ptr 101 0)], [(101, .box 29 [.v eBlk a0])]⟩) (J.k (JO.box 101 rfl (.one _ _) rfl) (J.k (JO.assign rfl) (J.fin (Sw.Sub.mk id (.c rfl .nil) (.box rfl (.c rfl .nil) .nil) rfl)))) ?_
 refine W.seq ?_
 obtain ⟨z1, hz1, h⟩ := bind_e h
 obtain ⟨z2, hz2, h⟩ := bind_e h
 obtain ⟨z3, hz3, h⟩ := bind_e h
 obtain ⟨z4, hz4, h⟩ := bind_e h
 refine W.reg (σ' := ⟨[(2, .v Q0 (ar .or .i64 (ar .or .i64 (ar .or .i64 (sh .shl .i64 z1 (24 : Int)) (sh .shl .i64 z2 (16 : Int))) (sh .shl .i64 z3 (8 : Int))) z4))], []⟩) (J.k (JO.idxBox hz1 rfl rfl rfl rfl Try.runUnderlying29 Try.sizeOf5) (J.k (JO.loadPel (idx_some hz1).2.2 rfl rfl rfl Try.isAgg5 Try.sizeOf5) (J.k (JO.convUp Try.runUnderlying5 Try.runUnderlying3 rfl rfl) (J.k (JO.shift (.inl rfl) (by decide) rfl rfl) (J.k (JO.idxBox hz2 rfl rfl rfl rfl Try.runUnderlying29 Try.sizeOf5) (J.k (JO.loadPel (idx_some hz2).2.2 rfl rfl rfl Try.isAgg5 Try.sizeOf5) (J.k (JO.convUp Try.runUnderlying5 Try.runUnderlying3 rfl rfl) (J.k (JO.shift (.inl rfl) (by decide) rfl rfl) (J.k (JO.arith rfl rfl rfl) (J.k (JO.idxBox hz3 rfl rfl rfl rfl Try.runUnderlying29 Try.sizeOf5) (J.k (JO.loadPel (idx_some hz3).2.2 rfl rfl rfl Try.isAgg5 Try.sizeOf5) (J.k (JO.convUp Try.runUnderlying5 Try.runUnderlying3 rfl rfl) (J.k (JO.shift (.inl rfl) (by decide) rfl rfl) (J.k (JO.arith rfl rfl rfl) (J.k (JO.idxBox hz4 rfl rfl rfl rfl Try.runUnderlying29 Try.sizeOf5) (J.k (JO.loadPel (idx_some hz4).2.2 rfl rfl rfl Try.isAgg5 Try.sizeOf5) (J.k (JO.convUp Try.runUnderlying5 Try.runUnderlying3 rfl rfl) (J.k (JO.arith rfl rfl rfl) (J.k (JO.assign rfl) (J.fin (Sw.Sub.mk id (.c rfl .nil) .nil rfl))))))))))))))))))))) ?_
 refine W.ret ?_
 obtain rfl := Option.some.inj h
 exact XQ.sub (σ' := ⟨[(2, .v Q0 (ar .or .i64 (ar .or .i64 (ar .or .i64 (sh .shl .i64 z1 (24 : Int)) (sh .shl .i64 z2 (16 : Int))) (sh .shl .i64 z3 (8 : Int))) z4))], []⟩) (Sw.Sub.mk id (.c rfl .nil) .nil rfl) (XQ.ret1 hF noR rfl (RV.tmp rfl) .nil rfl)
set_option maxRecDepth 100000 in
set_option maxHeartbeats 4000000 in
theorem con_slices_Clone_api_Put_api_Put_nil {a0 : (Bool × Q7)} {r : Q7} (h : m_slices_Clone_api_Put_api_Put_nil a0 = some r) :
  Con Try.prog 58 [.v (Enc.slN Q6) a0] (.ref 0) [(0, .arr 41 Q6 r)] := by
 refine Con.of Try.func58 rfl Try.ntmps58 rfl ?_
 intro S w hF
 unfold m_slices_Clone_api_Put_api_Put_nil at h
 refine W.seq ?_
 refine W.reg (σ' := ⟨[(0, .v (Enc.slN Q6) a0)], []⟩) (J.k (JO.assignNilR 101 41 Q6) (J.fin (Sw.Sub.mk id (.c rfl .nil) .nil rfl))) ?_
 refine W.seq ?_
 refine W.seq ?_
 refine W.reg (σ' := ⟨[(0, .v (Enc.slN Q6) a0), (4, .v Enc.bool a0.1)], []⟩) (J.mv rfl (J.k (JO.eqNilS rfl Try.runUnderlying26) (J.fin (Sw.Sub.mk id (.c rfl (.c rfl .nil)) .nil rfl)))) ?_
 rcases Bool.eq_false_or_eq_true a0.1 with hc1 | hc1
 ·replace h := cond_t hc1 h
  refine W.condT rfl hc1 ?_
  refine W.seq ?_
  refine W.reg (σ' := ⟨[(2, .ref 102)], [(102, .arr 41 Q6 ([] : Q7))]⟩) (J.k (JO.assignNilR 102 41 Q6) (J.fin (Sw.Sub.mk id (.c rfl .nil) (.arr rfl .nil) rfl))) ?_
  refine W.ret ?_
  obtain rfl := Option.some.inj h
  exact XQ.sub (σ' := ⟨[(2, .ref 0)], [(0, .arr 41 Q6 ([] : Q7))]⟩) (Sw.Sub.mk (rn [(0, 102)]) (.c rfl .nil) (.arr rfl .nil) rfl) (XQ.ret1 hF noR rfl (RV.tmp rfl) (.cons rfl .nil) rfl)
 ·replace h := cond_f hc1 h
  refine W.condF rfl hc1 ?_
  refine W.skip ?_
  refine W.seq ?_
  obtain ⟨v2, hv2, h⟩ := bind_e h
  refine W.reg (σ' := ⟨[(2, .ref 104)], [(104, .arr 41 Q6 v2)]⟩) (J.k (JO.litR (e := Q6) 103 Try.runUnderlying26 Try.sizeOf41 Try.zeroValue41 rfl rfl rfl rfl .nil) (J.mv rfl (J.t (JM.append 104 hv2 rfl rfl (.slN rfl) Try.runUnderlying26 Try.typeInfo41 Try.sizeOf41 rfl rfl rfl rfl rfl) (J.k (JO.assign rfl) (J.fin (Sw.Sub.mk id (.c rfl .nil) (.arr rfl .nil) rfl)))))) ?_
  refine W.ret ?_
  obtain rfl := Option.some.inj h
  exact XQ.sub (σ' := ⟨[(2, .ref 0)], [(0, .arr 41 Q6 v2)]⟩) (Sw.Sub.mk (rn [(0, 104)]) (.c rfl .nil) (.arr rfl .nil) rfl) (XQ.ret1 hF noR rfl (RV.tmp rfl) (.cons rfl .nil) rfl)
theorem con_slices_Clone_api_Put_api_Put {a0 : Q7} {r : Q7} (h : m_slices_Clone_api_Put_api_Put a0 = some r) :
  Con Try.prog 58 [.v Q2 a0] (.ref 0) [(0, .arr 41 Q6 r)] :=
 Con.nilCases fun b hb => con_slices_Clone_api_Put_api_Put_nil (by cases b with | true => rw [hb rfl] at h ⊢; exact h | false => exact clone_f h)
set_option maxRecDepth 100000 in
set_option maxHeartbeats 4000000 in
theorem con_disk_clone {a0 : Q3} {r : Q3} (h : m_disk_clone a0 = some r) :
  Con Try.prog 54 [.v Q1 a0] (.agg [.ref 0, .ref 1, .v Q0 r.2.2]) [(0, .arr 29 eBlk r.1), (1, .arr 41 Q6 r.2.1)] := by
 refine Con.of Try.func54 rfl Try.ntmps54 rfl ?_
 intro S w hF
 unfold m_disk_clone at h
 refine W.seq ?_
 refine W.reg (σ' := ⟨[(1, .ptr 101 0), (2, .ptr 102 0)], [(101, .box 80 [.v Q4 a0.1, .v Q2 a0.2.1, .v Q0 a0.2.2]), (102, .box 80 [.v Q4 ([] : (List Blk)), .v Q2 ([] : Q7), .v Q0 (0 : Int)])]⟩) (J.k (JO.box 101 rfl (.prm (.one _ _) (.prm (.one _ _) (.one _ _))) rfl) (J.k (JO.alloc 102 Try.zeroValue80 rfl (.cons (Z.sl eBlk) (.cons (Z.sl Q6) (.cons (Z.int .i64) .nil))) rfl) (J.fin (Sw.Sub.mk id (.c rfl (.c rfl .nil)) (.box rfl (.c rfl (.c rfl (.c rfl .nil))) (.box rfl (.c rfl (.c rfl (.c rfl .nil))) .nil)) rfl)))) ?_
 refine W.seq ?_
 obtain ⟨v1, hv1, h⟩ := bind_e h
 obtain ⟨v2, hv2, h⟩ := bind_e h
 refine W.dr2 (σ' := ⟨[(1, .ptr 101 0), (2, .ptr 102 0)], [(101, .box 80 [.ref 103000, .ref 104000, .v Q0 a0.2.2]), (102, .box 80 [.v Q4 ([] : (List Blk)), .v Q2 ([] : Q7), .v Q0 (0 : Int)]), (103000, .arr 29 eBlk v1), (104000, .arr 41 Q6 v2)]⟩) 10 [0, 1, 3, 0, 8, 31, 31, 127, 255, 511] mixed (by exact (.cons (.none rfl) (JO.fieldPtr 0 rfl Try.runUnderlying80 rfl Try.sizeOf24 rfl rfl) rfl rfl (.cons (.none rfl) (JO.load rfl rfl rfl Try.isAgg24 Try.sizeOf24) rfl rfl (.cons (.none rfl) (JO.call 103000 (con_slices_Clone_api_Block_api_Block hv1) Try.call36 (.cons (.dir rfl) .nil) rfl) rfl rfl (.cons (.none rfl) (JO.fieldPtr 1 rfl Try.runUnderlying80 rfl Try.sizeOf26 rfl rfl) rfl rfl (.cons (.none rfl) (JO.load rfl rfl rfl Try.isAgg26 Try.sizeOf26) rfl rfl (.cons (.none rfl) (JO.call 104000 (con_slices_Clone_api_Put_api_Put hv2) Try.call58 (.cons (.dir rfl) .nil) rfl) rfl rfl (.cons (.none rfl) (JO.fieldPtr 0 rfl Try.runUnderlying80 rfl Try.sizeOf24 rfl rfl) rfl rfl (JP2.store (.none rfl) rfl rfl rfl rfl rfl rfl rfl Try.sizeOf24 (.cons (.none rfl) (JO.fieldPtr 1 rfl Try.runUnderlying80 rfl Try.sizeOf26 rfl rfl) rfl rfl (JP2.store (.none rfl) rfl rfl rfl rfl rfl rfl rfl Try.sizeOf26 .nil))))))))))) (by exact (J.fin (Sw.Sub.mk id (.c rfl (.c rfl .nil)) (.box rfl (.c rfl (.c rfl (.c rfl .nil))) (.box rfl (.c rfl (.c rfl (.c rfl .nil))) (.arr rfl (.arr rfl .nil)))) rfl))) rfl (by decide +kernel) (by decide +kernel) (by decide +kernel) (by kernel_rfl) ?_
 refine W.seq ?_
 refine W.reg (σ' := ⟨[(2, .ptr 102 0)], [(102, .box 80 [.ref 103000, .ref 104000, .v Q0 a0.2.2]), (103000, .arr 29 eBlk v1), (104000, .arr 41 Q6 v2)]⟩) (J.k (JO.loadAgg rfl rfl rfl Try.isAgg80 Try.sizeOf80) (J.t (JM.storeAgg rfl rfl rfl rfl rfl rfl Try.sizeOf80) (J.fin (Sw.Sub.mk id (.c rfl .nil) (.box rfl (.c rfl (.c rfl (.c rfl .nil))) (.arr rfl (.arr rfl .nil))) rfl)))) ?_
 refine W.ret ?_
 obtain rfl := Option.some.inj h
 exact XQ.sub (σ' := ⟨[(2, .ptr 90 0)], [(90, .box 80 [.ref 0, .ref 1, .v Q0 a0.2.2]), (1, .arr 41 Q6 v2), (0, .arr 29 eBlk v1)]⟩) (Sw.Sub.mk (rn [(90, 102), (1, 104000), (0, 103000)]) (.c rfl .nil) (.box rfl (.c rfl (.c rfl (.c rfl .nil))) (.arr rfl (.arr rfl .nil))) rfl) (XQ.ret1 hF noR rfl (RV.cellAgg rfl rfl rfl Try.isAgg80 Try.sizeOf80) (.cons rfl (.cons rfl .nil)) rfl)
set_option maxRecDepth 100000 in
set_option maxHeartbeats 4000000 in
theorem con_disk_Disk_step_io (A : Nat → Nat) {a0_0 : (List Blk)} {a0_1 : Q7} {a0_2 : Int} {r : (Option Int) × (List Blk) × Q7 × Int} (h : m_disk_Disk_step_io a0_0 a0_1 a0_2 = some r) :
  ConM Try.prog 98 [.ptr 9000 0] [(9000, .box 80 [.ref 8950, .ref 8951, .v Q0 a0_2] (some (A 9000))), (8950, .arr 29 eBlk a0_0), (8951, .arr 41 Q6 a0_1)] (.v (Enc.err ET) r.1) [(9000, .box 80 [.ref 8910, .ref 8911, .v Q0 r.2.2.2] (some (A 9000))), (8910, .arr 29 eBlk r.2.1), (8911, .arr 41 Q6 r.2.2.1)] := by
 refine ConM.of Try.func98 rfl Try.ntmps98 rfl ?_
 intro S w R hF
 unfold m_disk_Disk_step_io at h
 refine W.seq ?_
 refine W.reg (σ' := ⟨[(0, .ptr 9000 0)], [(9000, .box 80 [.ref 8950, .ref 8951, .v Q0 a0_2] (some (A 9000))), (8950, .arr 29 eBlk a0_0), (8951, .arr 41 Q6 a0_1)]⟩) (J.k (JO.assignNilE ET) (J.fin (Sw.Sub.mk id (.c rfl .nil) (.box rfl (.c rfl (.c rfl (.c rfl .nil))) (.arr rfl (.arr rfl .nil))) rfl))) ?_
 refine W.seq ?_
 refine W.seq ?_
 refine W.reg (σ' := ⟨[(0, .ptr 9000 0), (7, .v Enc.bool (cm .eql a0_2 (0 : Int)))], [(9000, .box 80 [.ref 8950, .ref 8951, .v Q0 a0_2] (some (A 9000))), (8950, .arr 29 eBlk a0_0), (8951, .arr 41 Q6 a0_1)]⟩) (J.mv rfl (J.k (JO.nilPtr rfl) (J.k (JO.fieldPtr 2 rfl Try.runUnderlying80 rfl Try.sizeOf3 rfl rfl) (J.k (JO.load rfl rfl rfl Try.isAgg3 Try.sizeOf3) (J.k (JO.cmp rfl rfl rfl) (J.fin (Sw.Sub.mk id (.c rfl (.c rfl .nil)) (.box rfl (.c rfl (.c rfl (.c rfl .nil))) (.arr rfl (.arr rfl .nil))) rfl))))))) ?_
 rcases Bool.eq_false_or_eq_true (cm .eql a0_2 (0 : Int)) with hc1 | hc1
 ·replace h := cond_t hc1 h
  refine W.condT rfl hc1 ?_
  refine W.seq ?_
  refine W.reg (σ' := ⟨[(0, .ptr 9000 0), (2, .v (Enc.err ET) (some (4 : Int)))], [(9000, .box 80 [.ref 8950, .ref 8951, .v Q0 a0_2] (some (A 9000))), (8950, .arr 29 eBlk a0_0), (8951, .arr 41 Q6 a0_1)]⟩) (J.k (JO.mkErr Try.runUnderlying86 rfl) (J.k (JO.assign rfl) (J.fin (Sw.Sub.mk id (.c rfl (.c rfl .nil)) (.box rfl (.c rfl (.c rfl (.c rfl .nil))) (.arr rfl (.arr rfl .nil))) rfl)))) ?_
  refine W.ret ?_
  obtain rfl := Option.some.inj h
  exact XQ.sub (σ' := ⟨[(0, .ptr 9000 0), (2, .v (Enc.err ET) (some (4 : Int)))], [(9000, .box 80 [.ref 8910, .ref 8911, .v Q0 a0_2] (some (A 9000))), (8911, .arr 41 Q6 a0_1), (8910, .arr 29 eBlk a0_0)]⟩) (Sw.Sub.mk (rn [(9000, 9000), (8911, 8951), (8910, 8950)]) (.c rfl (.c rfl .nil)) (.box rfl (.c rfl (.c rfl (.c rfl .nil))) (.arr rfl (.arr rfl .nil))) rfl) (XQ.retM1 hF rfl (RV.tmp rfl) (.cons rfl (.cons rfl (.cons rfl .nil))))
 ·replace h := cond_f hc1 h
  refine W.condF rfl hc1 ?_
  refine W.skip ?_
  refine W.seq ?_
  refine W.seq ?_
  refine W.reg (σ' := ⟨[(0, .ptr 9000 0), (13, .v Enc.bool (cm .gtr a0_2 (0 : Int)))], [(9000, .box 80 [.ref 8950, .ref 8951, .v Q0 a0_2] (some (A 9000))), (8950, .arr 29 eBlk a0_0), (8951, .arr 41 Q6 a0_1)]⟩) (J.mv rfl (J.k (JO.nilPtr rfl) (J.k (JO.fieldPtr 2 rfl Try.runUnderlying80 rfl Try.sizeOf3 rfl rfl) (J.k (JO.load rfl rfl rfl Try.isAgg3 Try.sizeOf3) (J.k (JO.cmp rfl rfl rfl) (J.fin (Sw.Sub.mk id (.c rfl (.c rfl .nil)) (.box rfl (.c rfl (.c rfl (.c rfl .nil))) (.arr rfl (.arr rfl .nil))) rfl))))))) ?_
  obtain ⟨k3, hk3, h⟩ := jp_elim h
  refine W.jn (fun x4 : Int => ⟨[(0, .ptr 9000 0)], [(9000, .box 80 [.ref 8950, .ref 8951, .v Q0 x4] (some (A 9000))), (8950, .arr 29 eBlk a0_0), (8951, .arr 41 Q6 a0_1)]⟩) (fun x => k3 x = some r) rfl ?_ ?_ ?_
  ·intro x4 h
   rw [hk3] at h
   refine W.seq ?_
   refine W.reg (σ' := ⟨[(0, .ptr 9000 0), (2, .v (Enc.err ET) (none : Option Int))], [(9000, .box 80 [.ref 8950, .ref 8951, .v Q0 x4] (some (A 9000))), (8950, .arr 29 eBlk a0_0), (8951, .arr 41 Q6 a0_1)]⟩) (J.k (JO.assignNilE ET) (J.fin (Sw.Sub.mk id (.c rfl (.c rfl .nil)) (.box rfl (.c rfl (.c rfl (.c rfl .nil))) (.arr rfl (.arr rfl .nil))) rfl))) ?_
   refine W.ret ?_
   obtain rfl := Option.some.inj h
   exact XQ.sub (σ' := ⟨[(0, .ptr 9000 0), (2, .v (Enc.err ET) (none : Option Int))], [(9000, .box 80 [.ref 8910, .ref 8911, .v Q0 x4] (some (A 9000))), (8911, .arr 41 Q6 a0_1), (8910, .arr 29 eBlk a0_0)]⟩) (Sw.Sub.mk (rn [(9000, 9000), (8911, 8951), (8910, 8950)]) (.c rfl (.c rfl .nil)) (.box rfl (.c rfl (.c rfl (.c rfl .nil))) (.arr rfl (.arr rfl .nil))) rfl) (XQ.retM1 hF rfl (RV.tmp rfl) (.cons rfl (.cons rfl (.cons rfl .nil))))
  ·intro hc2
   replace h := cond_t hc2 h
   refine W.reg (σ' := ⟨[(0, .ptr 9000 0)], [(9000, .box 80 [.ref 8950, .ref 8951, .v Q0 (ar .sub .i64 a0_2 (1 : Int))] (some (A 9000))), (8950, .arr 29 eBlk a0_0), (8951, .arr 41 Q6 a0_1)]⟩) (J.mv rfl (J.k (JO.nilPtr rfl) (J.k (JO.fieldPtr 2 rfl Try.runUnderlying80 rfl Try.sizeOf3 rfl rfl) (J.k (JO.load rfl rfl rfl Try.isAgg3 Try.sizeOf3) (J.k (JO.arith rfl rfl rfl) (J.k (JO.nilPtr rfl) (J.k (JO.fieldPtr 2 rfl Try.runUnderlying80 rfl Try.sizeOf3 rfl rfl) (J.t (JM.store rfl rfl rfl rfl rfl rfl rfl Try.sizeOf3) (J.fin (Sw.Sub.mk id (.c rfl .nil) (.box rfl (.c rfl (.c rfl (.c rfl .nil))) (.arr rfl (.arr rfl .nil))) rfl)))))))))) ?_
   exact W.jfall h (Sw.Sub.mk id (.c rfl .nil) (.box rfl (.c rfl (.c rfl (.c rfl .nil))) (.arr rfl (.arr rfl .nil))) rfl)
  ·intro hc2
   replace h := cond_f hc2 h
   refine W.skip ?_
   exact W.jfall h (Sw.Sub.mk id (.c rfl .nil) (.box rfl (.c rfl (.c rfl (.c rfl .nil))) (.arr rfl (.arr rfl .nil))) rfl)
set_option maxRecDepth 100000 in
set_option maxHeartbeats 4000000 in
theorem con_disk_Write {a0 : Q3} {a1 : Int} {a2 : Blk} {r : Q3 × (Option Int)} (h : m_disk_Write a0 a1 a2 = some r) :
  Con Try.prog 84 [.v Q1 a0, .v Q0 a1, .v eBlk a2] (.tup [.v Q1 r.1, .v (Enc.err ET) r.2]) [] := by
 refine Con.of Try.func84 rfl Try.ntmps84 rfl ?_
 intro S w hF
 unfold m_disk_Write at h
 refine W.seq ?_
 refine W.reg (σ' := ⟨[(1, .v Q0 a1), (3, .ptr 101 0), (5, .ptr 102 0), (6, .ptr 103 0)], [(101, .box 80 [.v Q4 a0.1, .v Q2 a0.2.1, .v Q0 a0.2.2]), (102, .box 29 [.v eBlk a2]), (103, .box 80 [.v Q4 ([] : (List Blk)), .v Q2 ([] : Q7), .v Q0 (0 : Int)])]⟩) (J.k (JO.box 101 rfl (.prm (.one _ _) (.prm (.one _ _) (.one _ _))) rfl) (J.k (JO.box 102 rfl (.one _ _) rfl) (J.k (JO.alloc 103 Try.zeroValue80 rfl (.cons (Z.sl eBlk) (.cons (Z.sl Q6) (.cons (Z.int .i64) .nil))) rfl) (J.k (JO.assignNilE ET) (J.fin (Sw.Sub.mk id (.c rfl (.c rfl (.c rfl (.c rfl .nil)))) (.box rfl (.c rfl (.c rfl (.c rfl .nil))) (.box rfl (.c rfl .nil) (.box rfl (.c rfl (.c rfl (.c rfl .nil))) .nil))) rfl)))))) ?_
 refine W.seq ?_
 refine W.seq ?_
 obtain ⟨v1, hv1, h⟩ := bind_e h
 refine W.reg (σ' := ⟨[(1, .v Q0 a1), (3, .ptr 101 0), (5, .ptr 102 0), (6, .ptr 103 0), (8, .v (Enc.err ET) v1)], [(101, .box 80 [.v Q4 a0.1, .v Q2 a0.2.1, .v Q0 a0.2.2]), (102, .box 29 [.v eBlk a2]), (103, .box 80 [.v Q4 ([] : (List Blk)), .v Q2 ([] : Q7), .v Q0 (0 : Int)])]⟩) (J.k (JO.loadAll rfl rfl (.prm (.one _ _) (.prm (.one _ _) (.one _ _))) Try.isAgg80 Try.sizeOf80) (J.k (JO.call0 (con_disk_Check hv1) Try.call52 (.cons (.dir rfl) .nil)) (J.k (JO.assign rfl) (J.fin (Sw.Sub.mk id (.c rfl (.c rfl (.c rfl (.c rfl (.c rfl .nil))))) (.box rfl (.c rfl (.c rfl (.c rfl .nil))) (.box rfl (.c rfl .nil) (.box rfl (.c rfl (.c rfl (.c rfl .nil))) .nil))) rfl))))) ?_
 refine W.seq ?_
 refine W.reg (σ' := ⟨[(1, .v Q0 a1), (3, .ptr 101 0), (5, .ptr 102 0), (6, .ptr 103 0), (8, .v (Enc.err ET) v1), (13, .v Enc.bool (Option.isSome v1))], [(101, .box 80 [.v Q4 a0.1, .v Q2 a0.2.1, .v Q0 a0.2.2]), (102, .box 29 [.v eBlk a2]), (103, .box 80 [.v Q4 ([] : (List Blk)), .v Q2 ([] : Q7), .v Q0 (0 : Int)])]⟩) (J.mv rfl (J.k (JO.errNe Try.runUnderlying34 rfl) (J.fin (Sw.Sub.mk id (.c rfl (.c rfl (.c rfl (.c rfl (.c rfl (.c rfl .nil)))))) (.box rfl (.c rfl (.c rfl (.c rfl .nil))) (.box rfl (.c rfl .nil) (.box rfl (.c rfl (.c rfl (.c rfl .nil))) .nil))) rfl)))) ?_
 rcases Bool.eq_false_or_eq_true (Option.isSome v1) with hc2 | hc2
 ·replace h := cond_t hc2 h
  refine W.condT rfl hc2 ?_
  refine W.seq ?_
  refine W.reg (σ' := ⟨[(6, .ptr 103 0), (7, .v (Enc.err ET) v1)], [(103, .box 80 [.v Q4 ([] : (List Blk)), .ref 105, .v Q0 (0 : Int)]), (105, .arr 41 Q6 ([] : Q7))]⟩) (J.k (JO.buildN (new := [(105, .arr 41 Q6 ([] : Q7))]) built80 (.cons (Z.sl eBlk) (.ref 105 rfl (.cons (Z.int .i64) .nil))) (.cons .nil) rfl .nil) (J.mv rfl (J.t (JM.storeAgg rfl rfl rfl rfl rfl rfl Try.sizeOf80) (J.k (JO.assign rfl) (J.fin (Sw.Sub.mk id (.c rfl (.c rfl .nil)) (.box rfl (.c rfl (.c rfl (.c rfl .nil))) (.arr rfl .nil)) rfl)))))) ?_
  refine W.ret ?_
  obtain rfl := Option.some.inj h
  exact XQ.sub (σ' := ⟨[(6, .ptr 90 0), (7, .v (Enc.err ET) v1)], [(90, .box 80 [.v Q4 ([] : (List Blk)), .v Q2 ([] : Q7), .v Q0 (0 : Int)])]⟩) (Sw.Sub.mk (rn [(90, 103)]) (.c rfl (.c rfl .nil)) (.box rfl (.c rfl (.cons (.frz rfl rfl) (.c rfl .nil))) .nil) rfl) (XQ.ret2 hF noR rfl (RV.cellAll rfl rfl (.prm (.one _ _) (.prm (.one _ _) (.one _ _))) Try.isAgg80 Try.sizeOf80) (RV.tmp rfl) .nil rfl)
 ·replace h := cond_f hc2 h
  refine W.condF rfl hc2 ?_
  refine W.skip ?_
  refine W.seq ?_
  refine W.seq ?_
  obtain ⟨x4, hx, h⟩ := bind_e h
  refine W.reg (σ' := ⟨[(1, .v Q0 a1), (3, .ptr 101 0), (5, .ptr 102 0), (6, .ptr 103 0), (24, .v Enc.bool x4)], [(101, .box 80 [.v Q4 a0.1, .v Q2 a0.2.1, .v Q0 a0.2.2]), (102, .box 29 [.v eBlk a2]), (103, .box 80 [.v Q4 ([] : (List Blk)), .v Q2 ([] : Q7), .v Q0 (0 : Int)])]⟩) ?_ ?_
  ·rcases Bool.eq_false_or_eq_true (cm .lss a1 (0 : Int)) with hc5 | hc5
   ·replace hx := cond_t hc5 hx
    obtain rfl := Option.some.inj hx
    exact (J.mv rfl (J.k (JO.cmp rfl rfl rfl) (J.mv rfl (J.u 18 hc5 (J.u 18 hc5 (J.u 18 hc5 (J.u 18 hc5 (J.u 18 hc5 (J.k (JO.pT hc5 rfl rfl) (J.fin (Sw.Sub.mk id (.c rfl (.c rfl (.c rfl (.c rfl (.c rfl .nil))))) (.box rfl (.c rfl (.c rfl (.c rfl .nil))) (.box rfl (.c rfl .nil) (.box rfl (.c rfl (.c rfl (.c rfl .nil))) .nil))) rfl)))))))))))
   ·replace hx := cond_f hc5 hx
    obtain rfl := Option.some.inj hx
    exact (J.mv rfl (J.k (JO.cmp rfl rfl rfl) (J.mv rfl (J.m 18 hc5 (JO.move rfl) (J.m 18 hc5 (JO.fieldPtr 0 rfl Try.runUnderlying80 rfl Try.sizeOf24 rfl rfl) (J.m 18 hc5 (JO.load rfl rfl rfl Try.isAgg24 Try.sizeOf24) (J.m 18 hc5 (JO.len rfl Try.runUnderlying24) (J.m 18 hc5 (JO.cmp rfl rfl rfl) (J.k (JO.pF hc5 rfl rfl) (J.fin (Sw.Sub.mk id (.c rfl (.c rfl (.c rfl (.c rfl (.c rfl .nil))))) (.box rfl (.c rfl (.c rfl (.c rfl .nil))) (.box rfl (.c rfl .nil) (.box rfl (.c rfl (.c rfl (.c rfl .nil))) .nil))) rfl)))))))))))
  rcases Bool.eq_false_or_eq_true x4 with hc6 | hc6
  ·replace h := cond_t hc6 h
   refine W.condT rfl hc6 ?_
   refine W.seq ?_
   refine W.reg (σ' := ⟨[(6, .ptr 103 0), (7, .v (Enc.err ET) (some (1 : Int)))], [(103, .box 80 [.v Q4 ([] : (List Blk)), .ref 106, .v Q0 (0 : Int)]), (106, .arr 41 Q6 ([] : Q7))]⟩) (J.k (JO.buildN (new := [(106, .arr 41 Q6 ([] : Q7))]) built80 (.cons (Z.sl eBlk) (.ref 106 rfl (.cons (Z.int .i64) .nil))) (.cons .nil) rfl .nil) (J.k (JO.mkErr Try.runUnderlying86 rfl) (J.t (JM.storeAgg rfl rfl rfl rfl rfl rfl Try.sizeOf80) (J.k (JO.assign rfl) (J.fin (Sw.Sub.mk id (.c rfl (.c rfl .nil)) (.box rfl (.c rfl (.c rfl (.c rfl .nil))) (.arr rfl .nil)) rfl)))))) ?_
   refine W.ret ?_
   obtain rfl := Option.some.inj h
   exact XQ.sub (σ' := ⟨[(6, .ptr 90 0), (7, .v (Enc.err ET) (some (1 : Int)))], [(90, .box 80 [.v Q4 ([] : (List Blk)), .v Q2 ([] : Q7), .v Q0 (0 : Int)])]⟩) (Sw.Sub.mk (rn [(90, 103)]) (.c rfl (.c rfl .nil)) (.box rfl (.c rfl (.cons (.frz rfl rfl) (.c rfl .nil))) .nil) rfl) (XQ.ret2 hF noR rfl (RV.cellAll rfl rfl (.prm (.one _ _) (.prm (.one _ _) (.one _ _))) Try.isAgg80 Try.sizeOf80) (RV.tmp rfl) .nil rfl)
  ·replace h := cond_f hc6 h
   refine W.condF rfl hc6 ?_
   refine W.skip ?_
   refine W.seq ?_
   refine W.seq ?_
   refine W.reg (σ' := ⟨[(1, .v Q0 a1), (3, .ptr 101 0), (5, .ptr 102 0), (6, .ptr 103 0), (30, .v Enc.bool (cm .eql (a0.2.1.length : Int) (800 : Int)))], [(101, .box 80 [.v Q4 a0.1, .v Q2 a0.2.1, .v Q0 a0.2.2]), (102, .box 29 [.v eBlk a2]), (103, .box 80 [.v Q4 ([] : (List Blk)), .v Q2 ([] : Q7), .v Q0 (0 : Int)])]⟩) (J.k (JO.fieldPtr 1 rfl Try.runUnderlying80 rfl Try.sizeOf26 rfl rfl) (J.k (JO.load rfl rfl rfl Try.isAgg26 Try.sizeOf26) (J.k (JO.len rfl Try.runUnderlying26) (J.k (JO.cmp rfl rfl rfl) (J.fin (Sw.Sub.mk id (.c rfl (.c rfl (.c rfl (.c rfl (.c rfl .nil))))) (.box rfl (.c rfl (.c rfl (.c rfl .nil))) (.box rfl (.c rfl .nil) (.box rfl (.c rfl (.c rfl (.c rfl .nil))) .nil))) rfl)))))) ?_
   rcases Bool.eq_false_or_eq_true (cm .eql (a0.2.1.length : Int) (800 : Int)) with hc7 | hc7
   ·replace h := cond_t hc7 h
    refine W.condT rfl hc7 ?_
    refine W.seq ?_
    refine W.reg (σ' := ⟨[(6, .ptr 103 0), (7, .v (Enc.err ET) (some (2 : Int)))], [(103, .box 80 [.v Q4 ([] : (List Blk)), .ref 107, .v Q0 (0 : Int)]), (107, .arr 41 Q6 ([] : Q7))]⟩) (J.k (JO.buildN (new := [(107, .arr 41 Q6 ([] : Q7))]) built80 (.cons (Z.sl eBlk) (.ref 107 rfl (.cons (Z.int .i64) .nil))) (.cons .nil) rfl .nil) (J.k (JO.mkErr Try.runUnderlying86 rfl) (J.t (JM.storeAgg rfl rfl rfl rfl rfl rfl Try.sizeOf80) (J.k (JO.assign rfl) (J.fin (Sw.Sub.mk id (.c rfl (.c rfl .nil)) (.box rfl (.c rfl (.c rfl (.c rfl .nil))) (.arr rfl .nil)) rfl)))))) ?_
    refine W.ret ?_
    obtain rfl := Option.some.inj h
    exact XQ.sub (σ' := ⟨[(6, .ptr 90 0), (7, .v (Enc.err ET) (some (2 : Int)))], [(90, .box 80 [.v Q4 ([] : (List Blk)), .v Q2 ([] : Q7), .v Q0 (0 : Int)])]⟩) (Sw.Sub.mk (rn [(90, 103)]) (.c rfl (.c rfl .nil)) (.box rfl (.c rfl (.cons (.frz rfl rfl) (.c rfl .nil))) .nil) rfl) (XQ.ret2 hF noR rfl (RV.cellAll rfl rfl (.prm (.one _ _) (.prm (.one _ _) (.one _ _))) Try.isAgg80 Try.sizeOf80) (RV.tmp rfl) .nil rfl)
   ·replace h := cond_f hc7 h
    refine W.condF rfl hc7 ?_
    refine W.skip ?_
    refine W.seq ?_
    obtain ⟨v8, hv8, h⟩ := bind_e h
    refine W.reg (σ' := ⟨[(1, .v Q0 a1), (3, .ptr 101 0), (5, .ptr 102 0), (6, .ptr 103 0)], [(101, .box 80 [.ref 108000, .ref 108001, .v Q0 v8.2.2]), (102, .box 29 [.v eBlk a2]), (103, .box 80 [.v Q4 ([] : (List Blk)), .v Q2 ([] : Q7), .v Q0 (0 : Int)]), (108000, .arr 29 eBlk v8.1), (108001, .arr 41 Q6 v8.2.1)]⟩) (J.k (JO.loadAll rfl rfl (.prm (.one _ _) (.prm (.one _ _) (.one _ _))) Try.isAgg80 Try.sizeOf80) (J.k (JO.call 108000 (con_disk_clone hv8) Try.call54 (.cons (.dir rfl) .nil) rfl) (J.t (JM.storeAgg rfl rfl rfl rfl rfl rfl Try.sizeOf80) (J.fin (Sw.Sub.mk id (.c rfl (.c rfl (.c rfl (.c rfl .nil)))) (.box rfl (.c rfl (.c rfl (.c rfl .nil))) (.box rfl (.c rfl .nil) (.box rfl (.c rfl (.c rfl (.c rfl .nil))) (.arr rfl (.arr rfl .nil))))) rfl))))) ?_
    refine W.seq ?_
    refine W.seq ?_
    obtain ⟨v9, hv9, h⟩ := bind_e h
    refine W.reg (σ' := ⟨[(1, .v Q0 a1), (3, .ptr 101 0), (5, .ptr 102 0), (6, .ptr 103 0), (9, .v (Enc.err ET) v9.1)], [(101, .box 80 [.ref 109, .ref 110, .v Q0 v9.2.2.2]), (102, .box 29 [.v eBlk a2]), (103, .box 80 [.v Q4 ([] : (List Blk)), .v Q2 ([] : Q7), .v Q0 (0 : Int)]), (109, .arr 29 eBlk v9.2.1), (110, .arr 41 Q6 v9.2.2.1)]⟩) (J.t (JM.callM (H := [101, 108000, 108001]) (K := [101]) (swp [(9000, 101), (8950, 108000), (8951, 108001), (8910, 109), (8911, 110)]) (swp_inj _) (fun A => con_disk_Disk_step_io A hv9) Try.call98 (.cons (.dir rfl) .nil) (fun A => (.box rfl (.arr rfl (.arr rfl .nil)))) (fun A => (.box rfl (.arr (.arr .nil rfl) rfl) rfl)) (fun _ => rfl) rfl rfl (fun _ => rfl) rfl rfl) (J.k (JO.assign rfl) (J.fin (Sw.Sub.mk id (.c rfl (.c rfl (.c rfl (.c rfl (.c rfl .nil))))) (.box rfl (.c rfl (.c rfl (.c rfl .nil))) (.box rfl (.c rfl .nil) (.box rfl (.c rfl (.c rfl (.c rfl .nil))) (.arr rfl (.arr rfl .nil))))) rfl)))) ?_
    refine W.seq ?_
    refine W.reg (σ' := ⟨[(1, .v Q0 a1), (3, .ptr 101 0), (5, .ptr 102 0), (6, .ptr 103 0), (9, .v (Enc.err ET) v9.1), (37, .v Enc.bool (Option.isSome v9.1))], [(101, .box 80 [.ref 109, .ref 110, .v Q0 v9.2.2.2]), (102, .box 29 [.v eBlk a2]), (103, .box 80 [.v Q4 ([] : (List Blk)), .v Q2 ([] : Q7), .v Q0 (0 : Int)]), (109, .arr 29 eBlk v9.2.1), (110, .arr 41 Q6 v9.2.2.1)]⟩) (J.mv rfl (J.k (JO.errNe Try.runUnderlying34 rfl) (J.fin (Sw.Sub.mk id (.c rfl (.c rfl (.c rfl (.c rfl (.c rfl (.c rfl .nil)))))) (.box rfl (.c rfl (.c rfl (.c rfl .nil))) (.box rfl (.c rfl .nil) (.box rfl (.c rfl (.c rfl (.c rfl .nil))) (.arr rfl (.arr rfl .nil))))) rfl)))) ?_
    rcases Bool.eq_false_or_eq_true (Option.isSome v9.1) with hc10 | hc10
    ·replace h := cond_t hc10 h
     refine W.condT rfl hc10 ?_
     refine W.seq ?_
     refine W.reg (σ' := ⟨[(6, .ptr 103 0), (7, .v (Enc.err ET) v9.1)], [(103, .box 80 [.v Q4 ([] : (List Blk)), .ref 111, .v Q0 (0 : Int)]), (111, .arr 41 Q6 ([] : Q7))]⟩) (J.k (JO.buildN (new := [(111, .arr 41 Q6 ([] : Q7))]) built80 (.cons (Z.sl eBlk) (.ref 111 rfl (.cons (Z.int .i64) .nil))) (.cons .nil) rfl .nil) (J.mv rfl (J.t (JM.storeAgg rfl rfl rfl rfl rfl rfl Try.sizeOf80) (J.k (JO.assign rfl) (J.fin (Sw.Sub.mk id (.c rfl (.c rfl .nil)) (.box rfl (.c rfl (.c rfl (.c rfl .nil))) (.arr rfl .nil)) rfl)))))) ?_
     refine W.ret ?_
     obtain rfl := Option.some.inj h
     exact XQ.sub (σ' := ⟨[(6, .ptr 90 0), (7, .v (Enc.err ET) v9.1)], [(90, .box 80 [.v Q4 ([] : (List Blk)), .v Q2 ([] : Q7), .v Q0 (0 : Int)])]⟩) (Sw.Sub.mk (rn [(90, 103)]) (.c rfl (.c rfl .nil)) (.box rfl (.c rfl (.cons (.frz rfl rfl) (.c rfl .nil))) .nil) rfl) (XQ.ret2 hF noR rfl (RV.cellAll rfl rfl (.prm (.one _ _) (.prm (.one _ _) (.one _ _))) Try.isAgg80 Try.sizeOf80) (RV.tmp rfl) .nil rfl)
    ·replace h := cond_f hc10 h
     refine W.condF rfl hc10 ?_
     refine W.skip ?_
     refine W.seq ?_
     obtain ⟨v11, hv11, h⟩ := bind_e h
     refine W.reg (σ' := ⟨[(3, .ptr 101 0), (6, .ptr 103 0)], [(101, .box 80 [.ref 109, .ref 112, .v Q0 v9.2.2.2]), (103, .box 80 [.v Q4 ([] : (List Blk)), .v Q2 ([] : Q7), .v Q0 (0 : Int)]), (109, .arr 29 eBlk v9.2.1), (112, .arr 41 Q6 v11)]⟩) (J.k (JO.fieldPtr 1 rfl Try.runUnderlying80 rfl Try.sizeOf26 rfl rfl) (J.k (JO.load rfl rfl rfl Try.isAgg26 Try.sizeOf26) (J.mv rfl (J.k (JO.load rfl rfl rfl Try.isAgg29 Try.sizeOf29) (J.k (JO.build built41 (.cons (Z.int .i64) (.cons (Z.arr 8 (Z.int .u8)) .nil)) (.cons rfl (.dir rfl) rfl rfl rfl rfl (.cons rfl (.dir rfl) rfl rfl rfl rfl .nil))) (J.k (JO.lit (e := Q6) Try.runUnderlying26 Try.sizeOf41 Try.zeroValue41 rfl rfl rfl rfl (.cons (.agg rfl (.same (.same .nil)) (.prm (.one _ _) (.one _ _)) rfl) .nil)) (J.t (JM.append 112 hv11 rfl rfl (.sl rfl) Try.runUnderlying26 Try.typeInfo41 Try.sizeOf41 rfl rfl rfl rfl rfl) (J.k (JO.fieldPtr 1 rfl Try.runUnderlying80 rfl Try.sizeOf26 rfl rfl) (J.t (JM.store rfl rfl rfl rfl rfl rfl rfl Try.sizeOf26) (J.fin (Sw.Sub.mk id (.c rfl (.c rfl .nil)) (.box rfl (.c rfl (.c rfl (.c rfl .nil))) (.box rfl (.c rfl (.c rfl (.c rfl .nil))) (.arr rfl (.arr rfl .nil)))) rfl))))))))))) ?_
     refine W.seq ?_
     refine W.reg (σ' := ⟨[(6, .ptr 103 0), (7, .v (Enc.err ET) (none : Option Int))], [(103, .box 80 [.ref 109, .ref 112, .v Q0 v9.2.2.2]), (109, .arr 29 eBlk v9.2.1), (112, .arr 41 Q6 v11)]⟩) (J.k (JO.loadAgg rfl rfl rfl Try.isAgg80 Try.sizeOf80) (J.t (JM.storeAgg rfl rfl rfl rfl rfl rfl Try.sizeOf80) (J.k (JO.assignNilE ET) (J.fin (Sw.Sub.mk id (.c rfl (.c rfl .nil)) (.box rfl (.c rfl (.c rfl (.c rfl .nil))) (.arr rfl (.arr rfl .nil))) rfl))))) ?_
     refine W.ret ?_
     obtain rfl := Option.some.inj h
     exact XQ.sub (σ' := ⟨[(6, .ptr 90 0), (7, .v (Enc.err ET) (none : Option Int))], [(90, .box 80 [.v Q4 v9.2.1, .v Q2 v11, .v Q0 v9.2.2.2])]⟩) (Sw.Sub.mk (rn [(90, 103)]) (.c rfl (.c rfl .nil)) (.box rfl (.cons (.frz rfl rfl) (.cons (.frz rfl rfl) (.c rfl .nil))) .nil) rfl) (XQ.ret2 hF noR rfl (RV.cellAll rfl rfl (.prm (.one _ _) (.prm (.one _ _) (.one _ _))) Try.isAgg80 Try.sizeOf80) (RV.tmp rfl) .nil rfl)
set_option maxRecDepth 100000 in
set_option maxHeartbeats 4000000 in
theorem con_store_Store_write_io (A : Nat → Nat) {a0_0 : Int} {a0_1 : Q3} {a1 : Int} {a2 : Blk} {r : (Option Int) × Int × Q3} (h : m_store_Store_write_io a0_0 a0_1 a1 a2 = some r) :
  ConM Try.prog 60 [.ptr 9000 0, .v Q0 a1, .v eBlk a2] [(9000, .box 134 [.v Q0 a0_0, .v Q1 a0_1] (some (A 9000)))] (.v (Enc.err ET) r.1) [(9000, .box 134 [.v Q0 r.2.1, .v Q1 r.2.2] (some (A 9000)))] := by
 refine ConM.of Try.func60 rfl Try.ntmps60 rfl ?_
 intro S w R hF
 unfold m_store_Store_write_io at h
 refine W.seq ?_
 refine W.reg (σ' := ⟨[(0, .ptr 9000 0), (1, .v Q0 a1), (5, .ptr 101 0)], [(9000, .box 134 [.v Q0 a0_0, .v Q1 a0_1] (some (A 9000))), (101, .box 29 [.v eBlk a2])]⟩) (J.k (JO.box 101 rfl (.one _ _) rfl) (J.k (JO.assignNilE ET) (J.fin (Sw.Sub.mk id (.c rfl (.c rfl (.c rfl .nil))) (.box rfl (.c rfl (.c rfl .nil)) (.box rfl (.c rfl .nil) .nil)) rfl)))) ?_
 refine W.seq ?_
 obtain ⟨v1, hv1, h⟩ := bind_e h
 refine W.dr2 (σ' := ⟨[(0, .ptr 9000 0), (7, .ptr 103 0), (8, .v (Enc.err ET) v1.2)], [(9000, .box 134 [.v Q0 a0_0, .v Q1 a0_1] (some (A 9000))), (103, .box 80 [.v Q4 v1.1.1, .v Q2 v1.1.2.1, .v Q0 v1.1.2.2])]⟩) 13 [0, 1, 3, 7, 0, 0, 63, 127, 255, 255, 0, 1535, 4095] mixed (by exact (.cons (.none rfl) (JO.move rfl) rfl rfl (.cons (.none rfl) (JO.nilPtr rfl) rfl rfl (.cons (.none rfl) (JO.fieldPtr 1 rfl Try.runUnderlying134 rfl Try.sizeOf80 rfl rfl) rfl rfl (.cons (.none rfl) (JO.load rfl rfl rfl Try.isAgg80 Try.sizeOf80) rfl rfl (.cons (.none rfl) (JO.move rfl) rfl rfl (.cons (.none rfl) (JO.load rfl rfl rfl Try.isAgg29 Try.sizeOf29) rfl rfl (.cons (.none rfl) (JO.call0 (con_disk_Write hv1) Try.call84 (.cons (.dir rfl) (.cons (.dir rfl) (.cons (.dir rfl) .nil)))) rfl rfl (.cons (.none rfl) (JO.move rfl) rfl rfl (.cons (.none rfl) (JO.extract rfl rfl) rfl rfl (.cons (.none rfl) (JO.extract rfl rfl) rfl rfl (.cons (.none rfl) (JO.alloc 103 Try.zeroValue80 rfl (.cons (Z.sl eBlk) (.cons (Z.sl Q6) (.cons (Z.int .i64) .nil))) rfl) rfl rfl (JP2.storeAll (.none rfl) rfl rfl rfl rfl (.prm (.one _ _) (.prm (.one _ _) (.one _ _))) Try.sizeOf80 (.cons (.none rfl) (JO.assign rfl) rfl rfl .nil)))))))))))))) (by exact (J.fin (Sw.Sub.mk id (.c rfl (.c rfl (.c rfl .nil))) (.box rfl (.c rfl (.c rfl .nil)) (.box rfl (.c rfl (.c rfl (.c rfl .nil))) .nil)) rfl))) rfl (by decide +kernel) (by decide +kernel) (by decide +kernel) (by kernel_rfl) ?_
 refine W.seq ?_
 refine W.seq ?_
 refine W.reg (σ' := ⟨[(0, .ptr 9000 0), (7, .ptr 103 0), (8, .v (Enc.err ET) v1.2), (20, .v Enc.bool (Option.isNone v1.2))], [(9000, .box 134 [.v Q0 a0_0, .v Q1 a0_1] (some (A 9000))), (103, .box 80 [.v Q4 v1.1.1, .v Q2 v1.1.2.1, .v Q0 v1.1.2.2])]⟩) (J.mv rfl (J.k (JO.errEq Try.runUnderlying34 rfl) (J.fin (Sw.Sub.mk id (.c rfl (.c rfl (.c rfl (.c rfl .nil)))) (.box rfl (.c rfl (.c rfl .nil)) (.box rfl (.c rfl (.c rfl (.c rfl .nil))) .nil)) rfl)))) ?_
 obtain ⟨k3, hk3, h⟩ := jp_elim h
 refine W.jn (fun x4 : Q3 => ⟨[(0, .ptr 9000 0), (8, .v (Enc.err ET) v1.2)], [(9000, .box 134 [.v Q0 a0_0, .v Q1 x4] (some (A 9000)))]⟩) (fun x => k3 x = some r) rfl ?_ ?_ ?_
 ·intro x4 h
  rw [hk3] at h
  refine W.seq ?_
  refine W.reg (σ' := ⟨[(0, .ptr 9000 0), (6, .v (Enc.err ET) v1.2)], [(9000, .box 134 [.v Q0 a0_0, .v Q1 x4] (some (A 9000)))]⟩) (J.mv rfl (J.k (JO.assign rfl) (J.fin (Sw.Sub.mk id (.c rfl (.c rfl .nil)) (.box rfl (.c rfl (.c rfl .nil)) .nil) rfl)))) ?_
  refine W.ret ?_
  obtain rfl := Option.some.inj h
  exact XQ.sub (σ' := ⟨[(0, .ptr 9000 0), (6, .v (Enc.err ET) v1.2)], [(9000, .box 134 [.v Q0 a0_0, .v Q1 x4] (some (A 9000)))]⟩) (Sw.Sub.mk id (.c rfl (.c rfl .nil)) (.box rfl (.c rfl (.c rfl .nil)) .nil) rfl) (XQ.retM1 hF rfl (RV.tmp rfl) (.cons rfl .nil))
 ·intro hc2
  replace h := cond_t hc2 h
  refine W.reg (σ' := ⟨[(0, .ptr 9000 0), (8, .v (Enc.err ET) v1.2)], [(9000, .box 134 [.v Q0 a0_0, .v Q1 v1.1] (some (A 9000)))]⟩) (J.mv rfl (J.k (JO.loadAll rfl rfl (.prm (.one _ _) (.prm (.one _ _) (.one _ _))) Try.isAgg80 Try.sizeOf80) (J.k (JO.nilPtr rfl) (J.k (JO.fieldPtr 1 rfl Try.runUnderlying134 rfl Try.sizeOf80 rfl rfl) (J.t (JM.store rfl rfl rfl rfl rfl rfl rfl Try.sizeOf80) (J.fin (Sw.Sub.mk id (.c rfl (.c rfl .nil)) (.box rfl (.c rfl (.c rfl .nil)) .nil) rfl))))))) ?_
  exact W.jfall h (Sw.Sub.mk id (.c rfl (.c rfl .nil)) (.box rfl (.c rfl (.c rfl .nil)) .nil) rfl)
 ·intro hc2
  replace h := cond_f hc2 h
  refine W.skip ?_
  exact W.jfall h (Sw.Sub.mk id (.c rfl (.c rfl .nil)) (.box rfl (.c rfl (.c rfl .nil)) .nil) rfl)
set_option maxRecDepth 100000 in
set_option maxHeartbeats 4000000 in
theorem con_store_Store_apply_io (A : Nat → Nat) {a0_0 : Int} {a0_1 : Q3} {r : (Option Int) × Int × Q3} (h : m_store_Store_apply_io a0_0 a0_1 = some r) :
  ConM Try.prog 67 [.ptr 9000 0] [(9000, .box 134 [.v Q0 a0_0, .v Q1 a0_1] (some (A 9000))), (9100, .box 83 [.ptr 9000 0] (some (A 9100)))] (.v (Enc.err ET) r.1) [(9000, .box 134 [.v Q0 r.2.1, .v Q1 r.2.2] (some (A 9000))), (9100, .box 83 [.ptr 9000 0] (some (A 9100)))] := by
 refine ConM.of Try.func67 rfl Try.ntmps67 rfl ?_
 intro S w R hF
 unfold m_store_Store_apply_io at h
 refine W.seq ?_
 refine W.reg (σ' := ⟨[(0, .ptr 9000 0)], [(9000, .box 134 [.v Q0 a0_0, .v Q1 a0_1] (some (A 9000))), (9100, .box 83 [.ptr 9000 0] (some (A 9100)))]⟩) (J.k (JO.assignNilE ET) (J.fin (Sw.Sub.mk id (.c rfl .nil) (.box rfl (.c rfl (.c rfl .nil)) (.box rfl (.c rfl .nil) .nil)) rfl))) ?_
 refine W.seq ?_
 obtain ⟨v1, hv1, h⟩ := bind_e h
 refine W.dr2 (σ' := ⟨[(0, .ptr 9000 0), (3, .ptr 102 0), (4, .v (Enc.err ET) v1.2)], [(9000, .box 134 [.v Q0 a0_0, .v Q1 a0_1] (some (A 9000))), (102, .box 29 [.v eBlk v1.1]), (9100, .box 83 [.ptr 9000 0] (some (A 9100)))]⟩) 16 [0, 1, 3, 7, 0, 16, 48, 112, 240, 511, 1023, 2047, 2047, 0, 12287, 32767] mixed (by exact (.cons (.none rfl) (JO.move rfl) rfl rfl (.cons (.none rfl) (JO.nilPtr rfl) rfl rfl (.cons (.none rfl) (JO.fieldPtr 1 rfl Try.runUnderlying134 rfl Try.sizeOf80 rfl rfl) rfl rfl (.cons (.none rfl) (JO.load rfl rfl rfl Try.isAgg80 Try.sizeOf80) rfl rfl (.cons (.none rfl) (JO.move rfl) rfl rfl (.cons (.none rfl) (JO.nilPtr rfl) rfl rfl (.cons (.none rfl) (JO.fieldPtr 0 rfl Try.runUnderlying134 rfl Try.sizeOf3 rfl rfl) rfl rfl (.cons (.none rfl) (JO.load rfl rfl rfl Try.isAgg3 Try.sizeOf3) rfl rfl (.cons (.none rfl) (JO.arith rfl rfl rfl) rfl rfl (.cons (.none rfl) (JO.call0 (con_disk_Read hv1) Try.call81 (.cons (.dir rfl) (.cons (.dir rfl) .nil))) rfl rfl (.cons (.none rfl) (JO.move rfl) rfl rfl (.cons (.none rfl) (JO.extract rfl rfl) rfl rfl (.cons (.none rfl) (JO.extract rfl rfl) rfl rfl (.cons (.none rfl) (JO.alloc 102 Try.zeroValue29 rfl (.cons (Z.arr 8 (Z.int .u8)) .nil) rfl) rfl rfl (JP2.store (.none rfl) rfl rfl rfl rfl rfl rfl rfl Try.sizeOf29 (.cons (.none rfl) (JO.assign rfl) rfl rfl .nil))))))))))))))))) (by exact (J.fin (Sw.Sub.mk id (.c rfl (.c rfl (.c rfl .nil))) (.box rfl (.c rfl (.c rfl .nil)) (.box rfl (.c rfl .nil) (.box rfl (.c rfl .nil) .nil))) rfl))) rfl (by decide +kernel) (by decide +kernel) (by decide +kernel) (by kernel_rfl) ?_
 refine W.seq ?_
 refine W.seq ?_
 refine W.reg (σ' := ⟨[(0, .ptr 9000 0), (3, .ptr 102 0), (4, .v (Enc.err ET) v1.2), (5, .v Q0 (0 : Int))], [(9000, .box 134 [.v Q0 a0_0, .v Q1 a0_1] (some (A 9000))), (102, .box 29 [.v eBlk v1.1]), (9100, .box 83 [.ptr 9000 0] (some (A 9100)))]⟩) (J.k (JO.assign rfl) (J.fin (Sw.Sub.mk id (.c rfl (.c rfl (.c rfl (.c rfl .nil)))) (.box rfl (.c rfl (.c rfl .nil)) (.box rfl (.c rfl .nil) (.box rfl (.c rfl .nil) .nil))) rfl))) ?_
 obtain ⟨o50, ho50, hb50, hr50⟩ := lp_elim h
 refine W.lp (σs := fun s34 : (Option Int) × Int × Int × Q3 => ⟨[(0, .ptr 9000 0), (3, .ptr 102 0), (4, .v (Enc.err ET) s34.1), (5, .v Q0 s34.2.1)], [(9000, .box 134 [.v Q0 s34.2.2.1, .v Q1 s34.2.2.2] (some (A 9000))), (102, .box 29 [.v eBlk v1.1]), (9100, .box 83 [.ptr 9000 0] (some (A 9100)))]⟩) (fun x51 : (Option Int) × Int × Q3 => ⟨[(0, .ptr 9000 0), (4, .v (Enc.err ET) x51.1)], [(9000, .box 134 [.v Q0 x51.2.1, .v Q1 x51.2.2] (some (A 9000))), (9100, .box 83 [.ptr 9000 0] (some (A 9100)))]⟩) ho50 (Sw.Sub.mk id (.c rfl (.c rfl (.c rfl (.c rfl .nil)))) (.box rfl (.c rfl (.c rfl .nil)) (.box rfl (.c rfl .nil) (.box rfl (.c rfl .nil) .nil))) rfl) ?_ ?_
 ·intro x51 hy
  have h := hb50 _ hy
  refine W.seq ?_
  refine W.reg (σ' := ⟨[(0, .ptr 9000 0), (2, .v (Enc.err ET) x51.1)], [(9000, .box 134 [.v Q0 x51.2.1, .v Q1 x51.2.2] (some (A 9000))), (9100, .box 83 [.ptr 9000 0] (some (A 9100)))]⟩) (J.mv rfl (J.k (JO.assign rfl) (J.fin (Sw.Sub.mk id (.c rfl (.c rfl .nil)) (.box rfl (.c rfl (.c rfl .nil)) (.box rfl (.c rfl .nil) .nil)) rfl)))) ?_
  refine W.ret ?_
  obtain rfl := Option.some.inj h
  exact XQ.sub (σ' := ⟨[(0, .ptr 9000 0), (2, .v (Enc.err ET) x51.1)], [(9100, .box 83 [.ptr 9000 0] (some (A 9100))), (9000, .box 134 [.v Q0 x51.2.1, .v Q1 x51.2.2] (some (A 9000)))]⟩) (Sw.Sub.mk id (.c rfl (.c rfl .nil)) (.box rfl (.c rfl .nil) (.box rfl (.c rfl (.c rfl .nil)) .nil)) rfl) (XQ.retM1 hF rfl (RV.tmp rfl) (.cons rfl (.cons rfl .nil)))
 intro s34 r50 h
 refine W.seq ?_
 refine W.seq ?_
 obtain ⟨x54, hx, h⟩ := bind_e h
 refine W.reg (σ' := ⟨[(0, .ptr 9000 0), (3, .ptr 102 0), (4, .v (Enc.err ET) s34.1), (5, .v Q0 s34.2.1), (28, .v Enc.bool x54)], [(9000, .box 134 [.v Q0 s34.2.2.1, .v Q1 s34.2.2.2] (some (A 9000))), (102, .box 29 [.v eBlk v1.1]), (9100, .box 83 [.ptr 9000 0] (some (A 9100)))]⟩) ?_ ?_
 ·rcases Bool.eq_false_or_eq_true (Option.isNone s34.1) with hc55 | hc55
  ·replace hx := cond_t hc55 hx
   obtain ⟨v56, hv56, hx⟩ := bind_e hx
   obtain rfl := Option.some.inj hx
   exact (J.mv rfl (J.k (JO.errEq Try.runUnderlying34 rfl) (J.mv rfl (J.m 23 hc55 (JO.move rfl) (J.m 23 hc55 (JO.load rfl rfl rfl Try.isAgg29 Try.sizeOf29) (J.m 23 hc55 (JO.call0 (con_store_value hv56) Try.call87 (.cons (.dir rfl) .nil)) (J.m 23 hc55 (JO.cmp rfl rfl rfl) (J.k (JO.pT hc55 rfl rfl) (J.fin (Sw.Sub.mk id (.c rfl (.c rfl (.c rfl (.c rfl (.c rfl .nil))))) (.box rfl (.c rfl (.c rfl .nil)) (.box rfl (.c rfl .nil) (.box rfl (.c rfl .nil) .nil))) rfl))))))))))
  ·replace hx := cond_f hc55 hx
   obtain rfl := Option.some.inj hx
   exact (J.mv rfl (J.k (JO.errEq Try.runUnderlying34 rfl) (J.mv rfl (J.u 23 hc55 (J.u 23 hc55 (J.u 23 hc55 (J.u 23 hc55 (J.k (JO.pF hc55 rfl rfl) (J.fin (Sw.Sub.mk id (.c rfl (.c rfl (.c rfl (.c rfl (.c rfl .nil))))) (.box rfl (.c rfl (.c rfl .nil)) (.box rfl (.c rfl .nil) (.box rfl (.c rfl .nil) .nil))) rfl))))))))))
 rcases Bool.eq_false_or_eq_true x54 with hc57 | hc57
 ·replace h := cond_t hc57 h
  refine W.condT rfl hc57 ?_
  refine W.skip ?_
  refine W.seq ?_
  refine W.block ?_
  refine W.seq ?_
  refine W.reg (σ' := ⟨[(0, .ptr 9000 0), (3, .ptr 102 0), (5, .v Q0 s34.2.1), (6, .ptr 129 0), (7, .ptr 130 0)], [(9000, .box 134 [.v Q0 s34.2.2.1, .v Q1 s34.2.2.2] (some (A 9000))), (102, .box 29 [.v eBlk v1.1]), (129, .box 29 [.v eBlk zblk]), (130, .box 29 [.v eBlk zblk]), (9100, .box 83 [.ptr 9000 0] (some (A 9100)))]⟩) (J.k (JO.alloc 129 Try.zeroValue29 rfl (.cons (Z.arr 8 (Z.int .u8)) .nil) rfl) (J.k (JO.alloc 130 Try.zeroValue29 rfl (.cons (Z.arr 8 (Z.int .u8)) .nil) rfl) (J.fin (Sw.Sub.mk id (.c rfl (.c rfl (.c rfl (.c rfl (.c rfl .nil))))) (.box rfl (.c rfl (.c rfl .nil)) (.box rfl (.c rfl .nil) (.box rfl (.c rfl .nil) (.box rfl (.c rfl .nil) (.box rfl (.c rfl .nil) .nil))))) rfl)))) ?_
  refine W.seq ?_
  refine W.seq ?_
  obtain ⟨v58, hv58, h⟩ := bind_e h
  refine W.dr2 (σ' := ⟨[(0, .ptr 9000 0), (3, .ptr 102 0), (4, .v (Enc.err ET) v58.2), (5, .v Q0 s34.2.1), (6, .ptr 129 0), (7, .ptr 130 0)], [(9000, .box 134 [.v Q0 s34.2.2.1, .v Q1 s34.2.2.2] (some (A 9000))), (102, .box 29 [.v eBlk v1.1]), (129, .box 29 [.v eBlk v58.1]), (130, .box 29 [.v eBlk zblk]), (9100, .box 83 [.ptr 9000 0] (some (A 9100)))]⟩) 18 [0, 1, 3, 7, 0, 16, 48, 112, 240, 0, 512, 2032, 4095, 8191, 16383, 16383, 32767, 131071] mixed (by exact (.cons (.none rfl) (JO.move rfl) rfl rfl (.cons (.none rfl) (JO.nilPtr rfl) rfl rfl (.cons (.none rfl) (JO.fieldPtr 1 rfl Try.runUnderlying134 rfl Try.sizeOf80 rfl rfl) rfl rfl (.cons (.none rfl) (JO.load rfl rfl rfl Try.isAgg80 Try.sizeOf80) rfl rfl (.cons (.none rfl) (JO.move rfl) rfl rfl (.cons (.none rfl) (JO.nilPtr rfl) rfl rfl (.cons (.none rfl) (JO.fieldPtr 0 rfl Try.runUnderlying134 rfl Try.sizeOf3 rfl rfl) rfl rfl (.cons (.none rfl) (JO.load rfl rfl rfl Try.isAgg3 Try.sizeOf3) rfl rfl (.cons (.none rfl) (JO.arith rfl rfl rfl) rfl rfl (.cons (.none rfl) (JO.move rfl) rfl rfl (.cons (.none rfl) (JO.arith rfl rfl rfl) rfl rfl (.cons (.none rfl) (JO.arith rfl rfl rfl) rfl rfl (.cons (.none rfl) (JO.call0 (con_disk_Read hv58) Try.call81 (.cons (.dir rfl) (.cons (.dir rfl) .nil))) rfl rfl (.cons (.none rfl) (JO.move rfl) rfl rfl (.cons (.none rfl) (JO.extract rfl rfl) rfl rfl (.cons (.none rfl) (JO.extract rfl rfl) rfl rfl (JP2.store (.none rfl) rfl rfl rfl rfl rfl rfl rfl Try.sizeOf29 (.cons (.none rfl) (JO.assign rfl) rfl rfl .nil))))))))))))))))))) (by exact (J.fin (Sw.Sub.mk id (.c rfl (.c rfl (.c rfl (.c rfl (.c rfl (.c rfl .nil)))))) (.box rfl (.c rfl (.c rfl .nil)) (.box rfl (.c rfl .nil) (.box rfl (.c rfl .nil) (.box rfl (.c rfl .nil) (.box rfl (.c rfl .nil) .nil))))) rfl))) rfl (by decide +kernel) (by decide +kernel) (by decide +kernel) (by kernel_rfl) ?_
  refine W.seq ?_
  refine W.reg (σ' := ⟨[(0, .ptr 9000 0), (3, .ptr 102 0), (4, .v (Enc.err ET) v58.2), (5, .v Q0 s34.2.1), (6, .ptr 129 0), (7, .ptr 130 0), (48, .v Enc.bool (Option.isNone v58.2))], [(9000, .box 134 [.v Q0 s34.2.2.1, .v Q1 s34.2.2.2] (some (A 9000))), (102, .box 29 [.v eBlk v1.1]), (129, .box 29 [.v eBlk v58.1]), (130, .box 29 [.v eBlk zblk]), (9100, .box 83 [.ptr 9000 0] (some (A 9100)))]⟩) (J.mv rfl (J.k (JO.errEq Try.runUnderlying34 rfl) (J.fin (Sw.Sub.mk id (.c rfl (.c rfl (.c rfl (.c rfl (.c rfl (.c rfl (.c rfl .nil))))))) (.box rfl (.c rfl (.c rfl .nil)) (.box rfl (.c rfl .nil) (.box rfl (.c rfl .nil) (.box rfl (.c rfl .nil) (.box rfl (.c rfl .nil) .nil))))) rfl)))) ?_
  obtain ⟨k61, hk61, h⟩ := jp_elim h
  refine W.jn (fun x62 : (Option Int) × Blk => ⟨[(0, .ptr 9000 0), (3, .ptr 102 0), (4, .v (Enc.err ET) x62.1), (5, .v Q0 s34.2.1), (6, .ptr 129 0), (7, .ptr 130 0)], [(9000, .box 134 [.v Q0 s34.2.2.1, .v Q1 s34.2.2.2] (some (A 9000))), (102, .box 29 [.v eBlk v1.1]), (129, .box 29 [.v eBlk v58.1]), (130, .box 29 [.v eBlk x62.2]), (9100, .box 83 [.ptr 9000 0] (some (A 9100)))]⟩) (fun x => k61 x = some r50) rfl ?_ ?_ ?_
  ·intro x62 h
   rw [hk61] at h
   refine W.seq ?_
   refine W.reg (σ' := ⟨[(0, .ptr 9000 0), (3, .ptr 102 0), (4, .v (Enc.err ET) x62.1), (5, .v Q0 s34.2.1), (6, .ptr 129 0), (7, .ptr 130 0), (66, .v Enc.bool (Option.isNone x62.1))], [(9000, .box 134 [.v Q0 s34.2.2.1, .v Q1 s34.2.2.2] (some (A 9000))), (102, .box 29 [.v eBlk v1.1]), (129, .box 29 [.v eBlk v58.1]), (130, .box 29 [.v eBlk x62.2]), (9100, .box 83 [.ptr 9000 0] (some (A 9100)))]⟩) (J.mv rfl (J.k (JO.errEq Try.runUnderlying34 rfl) (J.fin (Sw.Sub.mk id (.c rfl (.c rfl (.c rfl (.c rfl (.c rfl (.c rfl (.c rfl .nil))))))) (.box rfl (.c rfl (.c rfl .nil)) (.box rfl (.c rfl .nil) (.box rfl (.c rfl .nil) (.box rfl (.c rfl .nil) (.box rfl (.c rfl .nil) .nil))))) rfl)))) ?_
   rcases Bool.eq_false_or_eq_true (Option.isNone x62.1) with hc64 | hc64
   ·replace h := cond_t hc64 h
    refine W.condT rfl hc64 ?_
    obtain ⟨v65, hv65, h⟩ := bind_e h
    obtain ⟨v66, hv66, h⟩ := bind_e h
    refine W.dr2 (σ' := ⟨[(0, .ptr 9000 0), (3, .ptr 102 0), (4, .v (Enc.err ET) v66.1), (5, .v Q0 s34.2.1)], [(9000, .box 134 [.v Q0 v66.2.1, .v Q1 v66.2.2] (some (A 9000))), (102, .box 29 [.v eBlk v1.1]), (9100, .box 83 [.ptr 9000 0] (some (A 9100)))]⟩) 4 [0, 0, 2, 0, 15, 31] mixed (by exact (.cons (.none rfl) (JO.move rfl) rfl rfl (.cons (.none rfl) (JO.load rfl rfl rfl Try.isAgg29 Try.sizeOf29) rfl rfl (.cons (.none rfl) (JO.call0 (con_store_value hv65) Try.call87 (.cons (.dir rfl) .nil)) rfl rfl (.cons (.none rfl) (JO.load rfl rfl rfl Try.isAgg29 Try.sizeOf29) rfl rfl .nil))))) (by exact (J.t (JM.callM (H := [9000]) (K := [9000]) (swp [(9000, 9000)]) (swp_inj _) (fun A => con_store_Store_write_io A hv66) Try.call60 (.cons (.dir rfl) (.cons (.dir rfl) (.cons (.dir rfl) .nil))) (fun A => (.box rfl .nil)) (fun A => (.box rfl .nil rfl)) (fun _ => rfl) rfl rfl (fun _ => rfl) rfl rfl) (J.k (JO.assign rfl) (J.fin (Sw.Sub.mk id (.c rfl (.c rfl (.c rfl (.c rfl .nil)))) (.box rfl (.c rfl (.c rfl .nil)) (.box rfl (.c rfl .nil) (.box rfl (.c rfl .nil) .nil))) rfl))))) rfl (by decide +kernel) (by decide +kernel) (by decide +kernel) (by kernel_rfl) ?_
    refine W.fall ?_
    refine W.reg (σ' := ⟨[(0, .ptr 9000 0), (3, .ptr 102 0), (4, .v (Enc.err ET) v66.1), (5, .v Q0 (ar .add .i64 s34.2.1 (1 : Int)))], [(9000, .box 134 [.v Q0 v66.2.1, .v Q1 v66.2.2] (some (A 9000))), (102, .box 29 [.v eBlk v1.1]), (9100, .box 83 [.ptr 9000 0] (some (A 9100)))]⟩) (J.mv rfl (J.k (JO.arith rfl rfl rfl) (J.k (JO.assign rfl) (J.fin (Sw.Sub.mk id (.c rfl (.c rfl (.c rfl (.c rfl .nil)))) (.box rfl (.c rfl (.c rfl .nil)) (.box rfl (.c rfl .nil) (.box rfl (.c rfl .nil) .nil))) rfl))))) ?_
    obtain rfl := Option.some.inj h
    exact W.next (Sw.Sub.mk id (.c rfl (.c rfl (.c rfl (.c rfl .nil)))) (.box rfl (.c rfl (.c rfl .nil)) (.box rfl (.c rfl .nil) (.box rfl (.c rfl .nil) .nil))) rfl)
   ·replace h := cond_f hc64 h
    refine W.condF rfl hc64 ?_
    refine W.skip ?_
    refine W.fall ?_
    refine W.reg (σ' := ⟨[(0, .ptr 9000 0), (3, .ptr 102 0), (4, .v (Enc.err ET) x62.1), (5, .v Q0 (ar .add .i64 s34.2.1 (1 : Int)))], [(9000, .box 134 [.v Q0 s34.2.2.1, .v Q1 s34.2.2.2] (some (A 9000))), (102, .box 29 [.v eBlk v1.1]), (9100, .box 83 [.ptr 9000 0] (some (A 9100)))]⟩) (J.mv rfl (J.k (JO.arith rfl rfl rfl) (J.k (JO.assign rfl) (J.fin (Sw.Sub.mk id (.c rfl (.c rfl (.c rfl (.c rfl .nil)))) (.box rfl (.c rfl (.c rfl .nil)) (.box rfl (.c rfl .nil) (.box rfl (.c rfl .nil) .nil))) rfl))))) ?_
    obtain rfl := Option.some.inj h
    exact W.next (Sw.Sub.mk id (.c rfl (.c rfl (.c rfl (.c rfl .nil)))) (.box rfl (.c rfl (.c rfl .nil)) (.box rfl (.c rfl .nil) (.box rfl (.c rfl .nil) .nil))) rfl)
  ·intro hc59
   replace h := cond_t hc59 h
   obtain ⟨v63, hv63, h⟩ := bind_e h
   refine W.dr2 (σ' := ⟨[(0, .ptr 9000 0), (3, .ptr 102 0), (4, .v (Enc.err ET) v63.2), (5, .v Q0 s34.2.1), (6, .ptr 129 0), (7, .ptr 130 0)], [(9000, .box 134 [.v Q0 s34.2.2.1, .v Q1 s34.2.2.2] (some (A 9000))), (102, .box 29 [.v eBlk v1.1]), (129, .box 29 [.v eBlk v58.1]), (130, .box 29 [.v eBlk v63.1]), (9100, .box 83 [.ptr 9000 0] (some (A 9100)))]⟩) 18 [0, 1, 3, 7, 0, 16, 48, 112, 240, 0, 512, 2032, 4095, 8191, 16383, 16383, 32767, 131071] mixed (by exact (.cons (.none rfl) (JO.move rfl) rfl rfl (.cons (.none rfl) (JO.nilPtr rfl) rfl rfl (.cons (.none rfl) (JO.fieldPtr 1 rfl Try.runUnderlying134 rfl Try.sizeOf80 rfl rfl) rfl rfl (.cons (.none rfl) (JO.load rfl rfl rfl Try.isAgg80 Try.sizeOf80) rfl rfl (.cons (.none rfl) (JO.move rfl) rfl rfl (.cons (.none rfl) (JO.nilPtr rfl) rfl rfl (.cons (.none rfl) (JO.fieldPtr 0 rfl Try.runUnderlying134 rfl Try.sizeOf3 rfl rfl) rfl rfl (.cons (.none rfl) (JO.load rfl rfl rfl Try.isAgg3 Try.sizeOf3) rfl rfl (.cons (.none rfl) (JO.arith rfl rfl rfl) rfl rfl (.cons (.none rfl) (JO.move rfl) rfl rfl (.cons (.none rfl) (JO.arith rfl rfl rfl) rfl rfl (.cons (.none rfl) (JO.arith rfl rfl rfl) rfl rfl (.cons (.none rfl) (JO.call0 (con_disk_Read hv63) Try.call81 (.cons (.dir rfl) (.cons (.dir rfl) .nil))) rfl rfl (.cons (.none rfl) (JO.move rfl) rfl rfl (.cons (.none rfl) (JO.extract rfl rfl) rfl rfl (.cons (.none rfl) (JO.extract rfl rfl) rfl rfl (JP2.store (.none rfl) rfl rfl rfl rfl rfl rfl rfl Try.sizeOf29 (.cons (.none rfl) (JO.assign rfl) rfl rfl .nil))))))))))))))))))) (by exact (J.fin (Sw.Sub.mk id (.c rfl (.c rfl (.c rfl (.c rfl (.c rfl (.c rfl .nil)))))) (.box rfl (.c rfl (.c rfl .nil)) (.box rfl (.c rfl .nil) (.box rfl (.c rfl .nil) (.box rfl (.c rfl .nil) (.box rfl (.c rfl .nil) .nil))))) rfl))) rfl (by decide +kernel) (by decide +kernel) (by decide +kernel) (by kernel_rfl) ?_
   exact W.jfall h (Sw.Sub.mk id (.c rfl (.c rfl (.c rfl (.c rfl (.c rfl (.c rfl .nil)))))) (.box rfl (.c rfl (.c rfl .nil)) (.box rfl (.c rfl .nil) (.box rfl (.c rfl .nil) (.box rfl (.c rfl .nil) (.box rfl (.c rfl .nil) .nil))))) rfl)
  ·intro hc59
   replace h := cond_f hc59 h
   refine W.skip ?_
   exact W.jfall h (Sw.Sub.mk id (.c rfl (.c rfl (.c rfl (.c rfl (.c rfl (.c rfl .nil)))))) (.box rfl (.c rfl (.c rfl .nil)) (.box rfl (.c rfl .nil) (.box rfl (.c rfl .nil) (.box rfl (.c rfl .nil) (.box rfl (.c rfl .nil) .nil))))) rfl)
 ·replace h := cond_f hc57 h
  refine W.condF rfl hc57 ?_
  refine W.exit ?_
  obtain rfl := Option.some.inj h
  exact XQ.brk (Sw.Sub.mk id (.c rfl (.c rfl .nil)) (.box rfl (.c rfl (.c rfl .nil)) (.box rfl (.c rfl .nil) .nil)) rfl)
set_option maxRecDepth 100000 in
set_option maxHeartbeats 4000000 in
theorem con_disk_Flush {a0 : Q3} {r : Q3 × (Option Int)} (h : m_disk_Flush a0 = some r) :
  Con Try.prog 85 [.v Q1 a0] (.tup [.v Q1 r.1, .v (Enc.err ET) r.2]) [] := by
 refine Con.of Try.func85 rfl Try.ntmps85 rfl ?_
 intro S w hF
 unfold m_disk_Flush at h
 refine W.seq ?_
 refine W.reg (σ' := ⟨[(1, .ptr 101 0), (2, .ptr 102 0)], [(101, .box 80 [.v Q4 a0.1, .v Q2 a0.2.1, .v Q0 a0.2.2]), (102, .box 80 [.v Q4 ([] : (List Blk)), .v Q2 ([] : Q7), .v Q0 (0 : Int)])]⟩) (J.k (JO.box 101 rfl (.prm (.one _ _) (.prm (.one _ _) (.one _ _))) rfl) (J.k (JO.alloc 102 Try.zeroValue80 rfl (.cons (Z.sl eBlk) (.cons (Z.sl Q6) (.cons (Z.int .i64) .nil))) rfl) (J.k (JO.assignNilE ET) (J.fin (Sw.Sub.mk id (.c rfl (.c rfl .nil)) (.box rfl (.c rfl (.c rfl (.c rfl .nil))) (.box rfl (.c rfl (.c rfl (.c rfl .nil))) .nil)) rfl))))) ?_
 refine W.seq ?_
 refine W.seq ?_
 obtain ⟨v1, hv1, h⟩ := bind_e h
 refine W.reg (σ' := ⟨[(1, .ptr 101 0), (2, .ptr 102 0), (4, .v (Enc.err ET) v1)], [(101, .box 80 [.v Q4 a0.1, .v Q2 a0.2.1, .v Q0 a0.2.2]), (102, .box 80 [.v Q4 ([] : (List Blk)), .v Q2 ([] : Q7), .v Q0 (0 : Int)])]⟩) (J.k (JO.loadAll rfl rfl (.prm (.one _ _) (.prm (.one _ _) (.one _ _))) Try.isAgg80 Try.sizeOf80) (J.k (JO.call0 (con_disk_Check hv1) Try.call52 (.cons (.dir rfl) .nil)) (J.k (JO.assign rfl) (J.fin (Sw.Sub.mk id (.c rfl (.c rfl (.c rfl .nil))) (.box rfl (.c rfl (.c rfl (.c rfl .nil))) (.box rfl (.c rfl (.c rfl (.c rfl .nil))) .nil)) rfl))))) ?_
 refine W.seq ?_
 refine W.reg (σ' := ⟨[(1, .ptr 101 0), (2, .ptr 102 0), (4, .v (Enc.err ET) v1), (11, .v Enc.bool (Option.isSome v1))], [(101, .box 80 [.v Q4 a0.1, .v Q2 a0.2.1, .v Q0 a0.2.2]), (102, .box 80 [.v Q4 ([] : (List Blk)), .v Q2 ([] : Q7), .v Q0 (0 : Int)])]⟩) (J.mv rfl (J.k (JO.errNe Try.runUnderlying34 rfl) (J.fin (Sw.Sub.mk id (.c rfl (.c rfl (.c rfl (.c rfl .nil)))) (.box rfl (.c rfl (.c rfl (.c rfl .nil))) (.box rfl (.c rfl (.c rfl (.c rfl .nil))) .nil)) rfl)))) ?_
 rcases Bool.eq_false_or_eq_true (Option.isSome v1) with hc2 | hc2
 ·replace h := cond_t hc2 h
  refine W.condT rfl hc2 ?_
  refine W.seq ?_
  refine W.reg (σ' := ⟨[(2, .ptr 102 0), (3, .v (Enc.err ET) v1)], [(102, .box 80 [.v Q4 ([] : (List Blk)), .v Q2 ([] : Q7), .v Q0 (0 : Int)])]⟩) (J.k (JO.build built80 (.cons (Z.sl eBlk) (.cons (Z.sl Q6) (.cons (Z.int .i64) .nil))) .nil) (J.mv rfl (J.t (JM.storeAgg rfl rfl rfl rfl rfl rfl Try.sizeOf80) (J.k (JO.assign rfl) (J.fin (Sw.Sub.mk id (.c rfl (.c rfl .nil)) (.box rfl (.c rfl (.c rfl (.c rfl .nil))) .nil) rfl)))))) ?_
  refine W.ret ?_
  obtain rfl := Option.some.inj h
  exact XQ.sub (σ' := ⟨[(2, .ptr 90 0), (3, .v (Enc.err ET) v1)], [(90, .box 80 [.v Q4 ([] : (List Blk)), .v Q2 ([] : Q7), .v Q0 (0 : Int)])]⟩) (Sw.Sub.mk (rn [(90, 102)]) (.c rfl (.c rfl .nil)) (.box rfl (.c rfl (.c rfl (.c rfl .nil))) .nil) rfl) (XQ.ret2 hF noR rfl (RV.cellAll rfl rfl (.prm (.one _ _) (.prm (.one _ _) (.one _ _))) Try.isAgg80 Try.sizeOf80) (RV.tmp rfl) .nil rfl)
 ·replace h := cond_f hc2 h
  refine W.condF rfl hc2 ?_
  refine W.skip ?_
  refine W.seq ?_
  obtain ⟨v3, hv3, h⟩ := bind_e h
  refine W.reg (σ' := ⟨[(1, .ptr 101 0), (2, .ptr 102 0)], [(101, .box 80 [.ref 104000, .ref 104001, .v Q0 v3.2.2]), (102, .box 80 [.v Q4 ([] : (List Blk)), .v Q2 ([] : Q7), .v Q0 (0 : Int)]), (104000, .arr 29 eBlk v3.1), (104001, .arr 41 Q6 v3.2.1)]⟩) (J.k (JO.loadAll rfl rfl (.prm (.one _ _) (.prm (.one _ _) (.one _ _))) Try.isAgg80 Try.sizeOf80) (J.k (JO.call 104000 (con_disk_clone hv3) Try.call54 (.cons (.dir rfl) .nil) rfl) (J.t (JM.storeAgg rfl rfl rfl rfl rfl rfl Try.sizeOf80) (J.fin (Sw.Sub.mk id (.c rfl (.c rfl .nil)) (.box rfl (.c rfl (.c rfl (.c rfl .nil))) (.box rfl (.c rfl (.c rfl (.c rfl .nil))) (.arr rfl (.arr rfl .nil)))) rfl))))) ?_
  refine W.seq ?_
  refine W.seq ?_
  obtain ⟨v4, hv4, h⟩ := bind_e h
  refine W.reg (σ' := ⟨[(1, .ptr 101 0), (2, .ptr 102 0), (5, .v (Enc.err ET) v4.1)], [(101, .box 80 [.ref 105, .ref 106, .v Q0 v4.2.2.2]), (102, .box 80 [.v Q4 ([] : (List Blk)), .v Q2 ([] : Q7), .v Q0 (0 : Int)]), (105, .arr 29 eBlk v4.2.1), (106, .arr 41 Q6 v4.2.2.1)]⟩) (J.t (JM.callM (H := [101, 104000, 104001]) (K := [101]) (swp [(9000, 101), (8950, 104000), (8951, 104001), (8910, 105), (8911, 106)]) (swp_inj _) (fun A => con_disk_Disk_step_io A hv4) Try.call98 (.cons (.dir rfl) .nil) (fun A => (.box rfl (.arr rfl (.arr rfl .nil)))) (fun A => (.box rfl (.arr (.arr .nil rfl) rfl) rfl)) (fun _ => rfl) rfl rfl (fun _ => rfl) rfl rfl) (J.k (JO.assign rfl) (J.fin (Sw.Sub.mk id (.c rfl (.c rfl (.c rfl .nil))) (.box rfl (.c rfl (.c rfl (.c rfl .nil))) (.box rfl (.c rfl (.c rfl (.c rfl .nil))) (.arr rfl (.arr rfl .nil)))) rfl)))) ?_
  refine W.seq ?_
  refine W.reg (σ' := ⟨[(1, .ptr 101 0), (2, .ptr 102 0), (5, .v (Enc.err ET) v4.1), (18, .v Enc.bool (Option.isSome v4.1))], [(101, .box 80 [.ref 105, .ref 106, .v Q0 v4.2.2.2]), (102, .box 80 [.v Q4 ([] : (List Blk)), .v Q2 ([] : Q7), .v Q0 (0 : Int)]), (105, .arr 29 eBlk v4.2.1), (106, .arr 41 Q6 v4.2.2.1)]⟩) (J.mv rfl (J.k (JO.errNe Try.runUnderlying34 rfl) (J.fin (Sw.Sub.mk id (.c rfl (.c rfl (.c rfl (.c rfl .nil)))) (.box rfl (.c rfl (.c rfl (.c rfl .nil))) (.box rfl (.c rfl (.c rfl (.c rfl .nil))) (.arr rfl (.arr rfl .nil)))) rfl)))) ?_
  rcases Bool.eq_false_or_eq_true (Option.isSome v4.1) with hc5 | hc5
  ·replace h := cond_t hc5 h
   refine W.condT rfl hc5 ?_
   refine W.seq ?_
   refine W.reg (σ' := ⟨[(2, .ptr 102 0), (3, .v (Enc.err ET) v4.1)], [(102, .box 80 [.v Q4 ([] : (List Blk)), .v Q2 ([] : Q7), .v Q0 (0 : Int)])]⟩) (J.k (JO.build built80 (.cons (Z.sl eBlk) (.cons (Z.sl Q6) (.cons (Z.int .i64) .nil))) .nil) (J.mv rfl (J.t (JM.storeAgg rfl rfl rfl rfl rfl rfl Try.sizeOf80) (J.k (JO.assign rfl) (J.fin (Sw.Sub.mk id (.c rfl (.c rfl .nil)) (.box rfl (.c rfl (.c rfl (.c rfl .nil))) .nil) rfl)))))) ?_
   refine W.ret ?_
   obtain rfl := Option.some.inj h
   exact XQ.sub (σ' := ⟨[(2, .ptr 90 0), (3, .v (Enc.err ET) v4.1)], [(90, .box 80 [.v Q4 ([] : (List Blk)), .v Q2 ([] : Q7), .v Q0 (0 : Int)])]⟩) (Sw.Sub.mk (rn [(90, 102)]) (.c rfl (.c rfl .nil)) (.box rfl (.c rfl (.c rfl (.c rfl .nil))) .nil) rfl) (XQ.ret2 hF noR rfl (RV.cellAll rfl rfl (.prm (.one _ _) (.prm (.one _ _) (.one _ _))) Try.isAgg80 Try.sizeOf80) (RV.tmp rfl) .nil rfl)
  ·replace h := cond_f hc5 h
   refine W.condF rfl hc5 ?_
   refine W.skip ?_
   refine W.seq ?_
   refine W.seq ?_
   refine W.reg (σ' := ⟨[(1, .ptr 101 0), (2, .ptr 102 0), (22, .ref 106), (23, .v Q0 (v4.2.2.1.length : Int)), (24, .v Q0 (0 : Int))], [(101, .box 80 [.ref 105, .ref 106, .v Q0 v4.2.2.2]), (102, .box 80 [.v Q4 ([] : (List Blk)), .v Q2 ([] : Q7), .v Q0 (0 : Int)]), (106, .arr 41 Q6 v4.2.2.1), (105, .arr 29 eBlk v4.2.1)]⟩) (J.k (JO.fieldPtr 1 rfl Try.runUnderlying80 rfl Try.sizeOf26 rfl rfl) (J.k (JO.load rfl rfl rfl Try.isAgg26 Try.sizeOf26) (J.k (JO.lenR rfl rfl Try.runUnderlying26) (J.mv rfl (J.fin (Sw.Sub.mk id (.c rfl (.c rfl (.c rfl (.c rfl (.c rfl .nil))))) (.box rfl (.c rfl (.c rfl (.c rfl .nil))) (.box rfl (.c rfl (.c rfl (.c rfl .nil))) (.arr rfl (.arr rfl .nil)))) rfl)))))) ?_
   obtain ⟨o18, ho18, hb18, hr18⟩ := lp_elim h
   refine W.lp (σs := fun s14 : Int × (List Blk) => ⟨[(1, .ptr 101 0), (2, .ptr 102 0), (22, .ref 106), (23, .v Q0 (v4.2.2.1.length : Int)), (24, .v Q0 s14.1)], [(101, .box 80 [.ref 105, .ref 106, .v Q0 v4.2.2.2]), (102, .box 80 [.v Q4 ([] : (List Blk)), .v Q2 ([] : Q7), .v Q0 (0 : Int)]), (106, .arr 41 Q6 v4.2.2.1), (105, .arr 29 eBlk s14.2)]⟩) (fun x19 : (List Blk) => ⟨[(1, .ptr 101 0), (2, .ptr 102 0)], [(101, .box 80 [.ref 105, .ref 106, .v Q0 v4.2.2.2]), (102, .box 80 [.v Q4 ([] : (List Blk)), .v Q2 ([] : Q7), .v Q0 (0 : Int)]), (105, .arr 29 eBlk x19), (106, .arr 41 Q6 v4.2.2.1)]⟩) ho18 (Sw.Sub.mk id (.c rfl (.c rfl (.c rfl (.c rfl (.c rfl .nil))))) (.box rfl (.c rfl (.c rfl (.c rfl .nil))) (.box rfl (.c rfl (.c rfl (.c rfl .nil))) (.arr rfl (.arr rfl .nil)))) rfl) ?_ ?_
   ·intro x19 hy
    have h := hb18 _ hy
    refine W.seq ?_
    refine W.reg (σ' := ⟨[(1, .ptr 101 0), (2, .ptr 102 0)], [(101, .box 80 [.ref 105, .v Q2 ([] : Q7), .v Q0 v4.2.2.2]), (102, .box 80 [.v Q4 ([] : (List Blk)), .v Q2 ([] : Q7), .v Q0 (0 : Int)]), (105, .arr 29 eBlk x19)]⟩) (J.k (JO.fieldPtr 1 rfl Try.runUnderlying80 rfl Try.sizeOf26 rfl rfl) (J.t (JM.storeA rfl rfl rfl (.nilS Q6) rfl rfl rfl Try.sizeOf26) (J.fin (Sw.Sub.mk id (.c rfl (.c rfl .nil)) (.box rfl (.c rfl (.c rfl (.c rfl .nil))) (.box rfl (.c rfl (.c rfl (.c rfl .nil))) (.arr rfl .nil))) rfl)))) ?_
    refine W.seq ?_
    refine W.reg (σ' := ⟨[(2, .ptr 102 0), (3, .v (Enc.err ET) (none : Option Int))], [(102, .box 80 [.ref 105, .v Q2 ([] : Q7), .v Q0 v4.2.2.2]), (105, .arr 29 eBlk x19)]⟩) (J.k (JO.loadAgg rfl rfl rfl Try.isAgg80 Try.sizeOf80) (J.t (JM.storeAgg rfl rfl rfl rfl rfl rfl Try.sizeOf80) (J.k (JO.assignNilE ET) (J.fin (Sw.Sub.mk id (.c rfl (.c rfl .nil)) (.box rfl (.c rfl (.c rfl (.c rfl .nil))) (.arr rfl .nil)) rfl))))) ?_
    refine W.ret ?_
    obtain rfl := Option.some.inj h
    exact XQ.sub (σ' := ⟨[(2, .ptr 90 0), (3, .v (Enc.err ET) (none : Option Int))], [(90, .box 80 [.v Q4 x19, .v Q2 ([] : Q7), .v Q0 v4.2.2.2])]⟩) (Sw.Sub.mk (rn [(90, 102)]) (.c rfl (.c rfl .nil)) (.box rfl (.cons (.frz rfl rfl) (.c rfl (.c rfl .nil))) .nil) rfl) (XQ.ret2 hF noR rfl (RV.cellAll rfl rfl (.prm (.one _ _) (.prm (.one _ _) (.one _ _))) Try.isAgg80 Try.sizeOf80) (RV.tmp rfl) .nil rfl)
   intro s14 r18 h
   refine W.seq ?_
   refine W.reg (σ' := ⟨[(1, .ptr 101 0), (2, .ptr 102 0), (22, .ref 106), (23, .v Q0 (v4.2.2.1.length : Int)), (24, .v Q0 s14.1), (25, .v Enc.bool (cm .lss s14.1 (v4.2.2.1.length : Int)))], [(101, .box 80 [.ref 105, .ref 106, .v Q0 v4.2.2.2]), (102, .box 80 [.v Q4 ([] : (List Blk)), .v Q2 ([] : Q7), .v Q0 (0 : Int)]), (106, .arr 41 Q6 v4.2.2.1), (105, .arr 29 eBlk s14.2)]⟩) (J.k (JO.cmp rfl rfl rfl) (J.fin (Sw.Sub.mk id (.c rfl (.c rfl (.c rfl (.c rfl (.c rfl (.c rfl .nil)))))) (.box rfl (.c rfl (.c rfl (.c rfl .nil))) (.box rfl (.c rfl (.c rfl (.c rfl .nil))) (.arr rfl (.arr rfl .nil)))) rfl))) ?_
   refine W.seq ?_
   rcases Bool.eq_false_or_eq_true (cm .lss s14.1 (v4.2.2.1.length : Int)) with hc20 | hc20
   ·replace h := cond_t hc20 h
    refine W.condT rfl hc20 ?_
    refine W.skip ?_
    refine W.seq ?_
    refine W.block ?_
    refine W.seq ?_
    obtain ⟨z21, hz21, h⟩ := bind_e h
    refine W.reg (σ' := ⟨[(1, .ptr 101 0), (2, .ptr 102 0), (7, .ptr 110 0), (22, .ref 106), (23, .v Q0 (v4.2.2.1.length : Int)), (24, .v Q0 s14.1)], [(101, .box 80 [.ref 105, .ref 106, .v Q0 v4.2.2.2]), (102, .box 80 [.v Q4 ([] : (List Blk)), .v Q2 ([] : Q7), .v Q0 (0 : Int)]), (110, .box 41 [.v Q0 z21.1, .v eBlk z21.2]), (106, .arr 41 Q6 v4.2.2.1), (105, .arr 29 eBlk s14.2)]⟩) (J.k (JO.idxR hz21 rfl rfl rfl Try.runUnderlying26 Try.sizeOf41) (J.k (JO.loadEl (idx_some hz21).2.2 rfl rfl .here Try.isAgg41 Try.sizeOf41) (J.k (JO.alloc 110 Try.zeroValue41 rfl (.cons (Z.int .i64) (.cons (Z.arr 8 (Z.int .u8)) .nil)) rfl) (J.t (JM.storeAll rfl rfl rfl rfl (.prm (.one _ _) (.one _ _)) Try.sizeOf41) (J.fin (Sw.Sub.mk id (.c rfl (.c rfl (.c rfl (.c rfl (.c rfl (.c rfl .nil)))))) (.box rfl (.c rfl (.c rfl (.c rfl .nil))) (.box rfl (.c rfl (.c rfl (.c rfl .nil))) (.box rfl (.c rfl (.c rfl .nil)) (.arr rfl (.arr rfl .nil))))) rfl)))))) ?_
    obtain ⟨z22, hz22, h⟩ := bind_e h
    refine W.reg (σ' := ⟨[(1, .ptr 101 0), (2, .ptr 102 0), (22, .ref 106), (23, .v Q0 (v4.2.2.1.length : Int)), (24, .v Q0 s14.1)], [(101, .box 80 [.ref 105, .ref 106, .v Q0 v4.2.2.2]), (102, .box 80 [.v Q4 ([] : (List Blk)), .v Q2 ([] : Q7), .v Q0 (0 : Int)]), (106, .arr 41 Q6 v4.2.2.1), (105, .arr 29 eBlk (List.set s14.2 (Int.toNat z21.1) z21.2))]⟩) (J.k (JO.fieldPtr 0 rfl Try.runUnderlying80 rfl Try.sizeOf24 rfl rfl) (J.k (JO.load rfl rfl rfl Try.isAgg24 Try.sizeOf24) (J.k (JO.fieldPtr 0 rfl Try.runUnderlying41 rfl Try.sizeOf3 rfl rfl) (J.k (JO.load rfl rfl rfl Try.isAgg3 Try.sizeOf3) (J.k (JO.fieldPtr 1 rfl Try.runUnderlying41 rfl Try.sizeOf29 rfl rfl) (J.k (JO.load rfl rfl rfl Try.isAgg29 Try.sizeOf29) (J.k (JO.idxR hz22 rfl rfl rfl Try.runUnderlying24 Try.sizeOf29) (J.t (JM.storeEl (idx_some hz22).2.2 rfl rfl rfl Try.sizeOf29) (J.fin (Sw.Sub.mk id (.c rfl (.c rfl (.c rfl (.c rfl (.c rfl .nil))))) (.box rfl (.c rfl (.c rfl (.c rfl .nil))) (.box rfl (.c rfl (.c rfl (.c rfl .nil))) (.arr rfl (.arr rfl .nil)))) rfl)))))))))) ?_
    refine W.fall ?_
    refine W.reg (σ' := ⟨[(1, .ptr 101 0), (2, .ptr 102 0), (22, .ref 106), (23, .v Q0 (v4.2.2.1.length : Int)), (24, .v Q0 (ar .add .i64 s14.1 (1 : Int)))], [(101, .box 80 [.ref 105, .ref 106, .v Q0 v4.2.2.2]), (102, .box 80 [.v Q4 ([] : (List Blk)), .v Q2 ([] : Q7), .v Q0 (0 : Int)]), (106, .arr 41 Q6 v4.2.2.1), (105, .arr 29 eBlk (List.set s14.2 (Int.toNat z21.1) z21.2))]⟩) (J.k (JO.arith rfl rfl rfl) (J.mv rfl (J.fin (Sw.Sub.mk id (.c rfl (.c rfl (.c rfl (.c rfl (.c rfl .nil))))) (.box rfl (.c rfl (.c rfl (.c rfl .nil))) (.box rfl (.c rfl (.c rfl (.c rfl .nil))) (.arr rfl (.arr rfl .nil)))) rfl)))) ?_
    obtain rfl := Option.some.inj h
    exact W.next (Sw.Sub.mk id (.c rfl (.c rfl (.c rfl (.c rfl (.c rfl .nil))))) (.box rfl (.c rfl (.c rfl (.c rfl .nil))) (.box rfl (.c rfl (.c rfl (.c rfl .nil))) (.arr rfl (.arr rfl .nil)))) rfl)
   ·replace h := cond_f hc20 h
    refine W.condF rfl hc20 ?_
    refine W.exit ?_
    obtain rfl := Option.some.inj h
    exact XQ.brk (Sw.Sub.mk id (.c rfl (.c rfl .nil)) (.box rfl (.c rfl (.c rfl (.c rfl .nil))) (.box rfl (.c rfl (.c rfl (.c rfl .nil))) (.arr rfl (.arr rfl .nil)))) rfl)
set_option maxRecDepth 100000 in
set_option maxHeartbeats 4000000 in
theorem con_store_Store_flush_io (A : Nat → Nat) {a0_0 : Int} {a0_1 : Q3} {r : (Option Int) × Int × Q3} (h : m_store_Store_flush_io a0_0 a0_1 = some r) :
  ConM Try.prog 64 [.ptr 9000 0] [(9000, .box 134 [.v Q0 a0_0, .v Q1 a0_1] (some (A 9000))), (9100, .box 83 [.ptr 9000 0] (some (A 9100)))] (.v (Enc.err ET) r.1) [(9000, .box 134 [.v Q0 r.2.1, .v Q1 r.2.2] (some (A 9000))), (9100, .box 83 [.ptr 9000 0] (some (A 9100)))] := by
 refine ConM.of Try.func64 rfl Try.ntmps64 rfl ?_
 intro S w R hF
 unfold m_store_Store_flush_io at h
 refine W.seq ?_
 refine W.reg (σ' := ⟨[(0, .ptr 9000 0)], [(9000, .box 134 [.v Q0 a0_0, .v Q1 a0_1] (some (A 9000))), (9100, .box 83 [.ptr 9000 0] (some (A 9100)))]⟩) (J.k (JO.assignNilE ET) (J.fin (Sw.Sub.mk id (.c rfl .nil) (.box rfl (.c rfl (.c rfl .nil)) (.box rfl (.c rfl .nil) .nil)) rfl))) ?_
 refine W.seq ?_
 obtain ⟨v1, hv1, h⟩ := bind_e h
 refine W.reg (σ' := ⟨[(0, .ptr 9000 0), (3, .ptr 102 0), (4, .v (Enc.err ET) v1.2)], [(9000, .box 134 [.v Q0 a0_0, .v Q1 a0_1] (some (A 9000))), (102, .box 80 [.v Q4 v1.1.1, .v Q2 v1.1.2.1, .v Q0 v1.1.2.2]), (9100, .box 83 [.ptr 9000 0] (some (A 9100)))]⟩) (J.mv rfl (J.k (JO.nilPtr rfl) (J.k (JO.fieldPtr 1 rfl Try.runUnderlying134 rfl Try.sizeOf80 rfl rfl) (J.k (JO.load rfl rfl rfl Try.isAgg80 Try.sizeOf80) (J.k (JO.call0 (con_disk_Flush hv1) Try.call85 (.cons (.dir rfl) .nil)) (J.mv rfl (J.k (JO.extract rfl rfl) (J.k (JO.extract rfl rfl) (J.k (JO.alloc 102 Try.zeroValue80 rfl (.cons (Z.sl eBlk) (.cons (Z.sl Q6) (.cons (Z.int .i64) .nil))) rfl) (J.t (JM.storeAll rfl rfl rfl rfl (.prm (.one _ _) (.prm (.one _ _) (.one _ _))) Try.sizeOf80) (J.k (JO.assign rfl) (J.fin (Sw.Sub.mk id (.c rfl (.c rfl (.c rfl .nil))) (.box rfl (.c rfl (.c rfl .nil)) (.box rfl (.c rfl (.c rfl (.c rfl .nil))) (.box rfl (.c rfl .nil) .nil))) rfl))))))))))))) ?_
 refine W.seq ?_
 refine W.seq ?_
 refine W.reg (σ' := ⟨[(0, .ptr 9000 0), (3, .ptr 102 0), (4, .v (Enc.err ET) v1.2), (14, .v Enc.bool (Option.isNone v1.2))], [(9000, .box 134 [.v Q0 a0_0, .v Q1 a0_1] (some (A 9000))), (102, .box 80 [.v Q4 v1.1.1, .v Q2 v1.1.2.1, .v Q0 v1.1.2.2]), (9100, .box 83 [.ptr 9000 0] (some (A 9100)))]⟩) (J.mv rfl (J.k (JO.errEq Try.runUnderlying34 rfl) (J.fin (Sw.Sub.mk id (.c rfl (.c rfl (.c rfl (.c rfl .nil)))) (.box rfl (.c rfl (.c rfl .nil)) (.box rfl (.c rfl (.c rfl (.c rfl .nil))) (.box rfl (.c rfl .nil) .nil))) rfl)))) ?_
 obtain ⟨k3, hk3, h⟩ := jp_elim h
 refine W.jn (fun x4 : Q3 => ⟨[(0, .ptr 9000 0), (4, .v (Enc.err ET) v1.2)], [(9000, .box 134 [.v Q0 a0_0, .v Q1 x4] (some (A 9000))), (9100, .box 83 [.ptr 9000 0] (some (A 9100)))]⟩) (fun x => k3 x = some r) rfl ?_ ?_ ?_
 ·intro x4 h
  rw [hk3] at h
  refine W.seq ?_
  refine W.reg (σ' := ⟨[(0, .ptr 9000 0), (2, .v (Enc.err ET) v1.2)], [(9000, .box 134 [.v Q0 a0_0, .v Q1 x4] (some (A 9000))), (9100, .box 83 [.ptr 9000 0] (some (A 9100)))]⟩) (J.mv rfl (J.k (JO.assign rfl) (J.fin (Sw.Sub.mk id (.c rfl (.c rfl .nil)) (.box rfl (.c rfl (.c rfl .nil)) (.box rfl (.c rfl .nil) .nil)) rfl)))) ?_
  refine W.ret ?_
  obtain rfl := Option.some.inj h
  exact XQ.sub (σ' := ⟨[(0, .ptr 9000 0), (2, .v (Enc.err ET) v1.2)], [(9100, .box 83 [.ptr 9000 0] (some (A 9100))), (9000, .box 134 [.v Q0 a0_0, .v Q1 x4] (some (A 9000)))]⟩) (Sw.Sub.mk id (.c rfl (.c rfl .nil)) (.box rfl (.c rfl .nil) (.box rfl (.c rfl (.c rfl .nil)) .nil)) rfl) (XQ.retM1 hF rfl (RV.tmp rfl) (.cons rfl (.cons rfl .nil)))
 ·intro hc2
  replace h := cond_t hc2 h
  refine W.reg (σ' := ⟨[(0, .ptr 9000 0), (4, .v (Enc.err ET) v1.2)], [(9000, .box 134 [.v Q0 a0_0, .v Q1 v1.1] (some (A 9000))), (9100, .box 83 [.ptr 9000 0] (some (A 9100)))]⟩) (J.mv rfl (J.k (JO.loadAll rfl rfl (.prm (.one _ _) (.prm (.one _ _) (.one _ _))) Try.isAgg80 Try.sizeOf80) (J.k (JO.nilPtr rfl) (J.k (JO.fieldPtr 1 rfl Try.runUnderlying134 rfl Try.sizeOf80 rfl rfl) (J.t (JM.store rfl rfl rfl rfl rfl rfl rfl Try.sizeOf80) (J.fin (Sw.Sub.mk id (.c rfl (.c rfl .nil)) (.box rfl (.c rfl (.c rfl .nil)) (.box rfl (.c rfl .nil) .nil)) rfl))))))) ?_
  exact W.jfall h (Sw.Sub.mk id (.c rfl (.c rfl .nil)) (.box rfl (.c rfl (.c rfl .nil)) (.box rfl (.c rfl .nil) .nil)) rfl)
 ·intro hc2
  replace h := cond_f hc2 h
  refine W.skip ?_
  exact W.jfall h (Sw.Sub.mk id (.c rfl (.c rfl .nil)) (.box rfl (.c rfl (.c rfl .nil)) (.box rfl (.c rfl .nil) .nil)) rfl)
set_option maxRecDepth 100000 in
set_option maxHeartbeats 4000000 in
theorem con_store_Store_mark_1_io (A : Nat → Nat) {a1 : Int} {a2_0 : Int} {a2_1 : Q3} {r : (Option Int) × Int × Q3} (h : m_store_Store_mark_1_io a1 a2_0 a2_1 = some r) :
  ConM Try.prog 86 [.ptr 9100 0, .pst (Enc.int .u8) a1] [(9000, .box 134 [.v Q0 a2_0, .v Q1 a2_1] (some (A 9000))), (9100, .box 83 [.ptr 9000 0] (some (A 9100)))] (.v (Enc.err ET) r.1) [(9000, .box 134 [.v Q0 r.2.1, .v Q1 r.2.2] (some (A 9000))), (9100, .box 83 [.ptr 9000 0] (some (A 9100)))] := by
 refine ConM.of Try.func86 rfl Try.ntmps86 rfl ?_
 intro S w R hF
 unfold m_store_Store_mark_1_io at h
 refine W.seq ?_
 refine W.reg (σ' := ⟨[(0, .ptr 9100 0), (1, .pst (Enc.int .u8) a1)], [(9100, .box 83 [.ptr 9000 0] (some (A 9100))), (9000, .box 134 [.v Q0 a2_0, .v Q1 a2_1] (some (A 9000)))]⟩) (J.k (JO.assignNilE ET) (J.fin (Sw.Sub.mk id (.c rfl (.c rfl .nil)) (.box rfl (.c rfl .nil) (.box rfl (.c rfl (.c rfl .nil)) .nil)) rfl))) ?_
 refine W.seq ?_
 obtain ⟨v1, hv1, h⟩ := bind_e h
 refine W.dr2 (σ' := ⟨[(0, .ptr 9100 0), (2, .v (Enc.err ET) v1.1)], [(9100, .box 83 [.ptr 9000 0] (some (A 9100))), (9000, .box 134 [.v Q0 v1.2.1, .v Q1 v1.2.2] (some (A 9000)))]⟩) 8 [0, 0, 2, 6, 14, 30, 0, 64, 255, 511] mixed (by exact (.cons (.none rfl) (JO.load rfl rfl rfl Try.isAgg83 Try.sizeOf83) rfl rfl (.cons (.none rfl) (JO.load rfl rfl rfl Try.isAgg83 Try.sizeOf83) rfl rfl (.cons (.none rfl) (JO.nilPtr rfl) rfl rfl (.cons (.none rfl) (JO.fieldPtr 0 rfl Try.runUnderlying134 rfl Try.sizeOf3 rfl rfl) rfl rfl (.cons (.none rfl) (JO.load rfl rfl rfl Try.isAgg3 Try.sizeOf3) rfl rfl (.cons (.none rfl) (JO.arith rfl rfl rfl) rfl rfl (.cons (.none rfl) (JO.loadPst rfl Try.isAgg5 Try.sizeOf5) rfl rfl (.cons (.none rfl) (JO.litArrZ (e := (Enc.int .u8)) (zv := (0 : Int)) Try.typeInfo29 Try.runUnderlying29 Try.typeInfo5 rfl rfl (Z.arr 8 (Z.int .u8)) rfl rfl (.cons (.dir rfl) .nil)) rfl rfl .nil))))))))) (by exact (J.t (JM.callM (H := [9000]) (K := [9000]) (swp [(9000, 9000)]) (swp_inj _) (fun A => con_store_Store_write_io A hv1) Try.call60 (.cons (.dir rfl) (.cons (.dir rfl) (.cons (.dir rfl) .nil))) (fun A => (.box rfl .nil)) (fun A => (.box rfl .nil rfl)) (fun _ => rfl) rfl rfl (fun _ => rfl) rfl rfl) (J.k (JO.assign rfl) (J.fin (Sw.Sub.mk id (.c rfl (.c rfl .nil)) (.box rfl (.c rfl .nil) (.box rfl (.c rfl (.c rfl .nil)) .nil)) rfl))))) rfl (by decide +kernel) (by decide +kernel) (by decide +kernel) (by kernel_rfl) ?_
 refine W.ret ?_
 obtain rfl := Option.some.inj h
 exact XQ.sub (σ' := ⟨[(0, .ptr 9100 0), (2, .v (Enc.err ET) v1.1)], [(9100, .box 83 [.ptr 9000 0] (some (A 9100))), (9000, .box 134 [.v Q0 v1.2.1, .v Q1 v1.2.2] (some (A 9000)))]⟩) (Sw.Sub.mk id (.c rfl (.c rfl .nil)) (.box rfl (.c rfl .nil) (.box rfl (.c rfl (.c rfl .nil)) .nil)) rfl) (XQ.retM1 hF rfl (RV.tmp rfl) (.cons rfl (.cons rfl .nil)))
set_option maxRecDepth 100000 in
set_option maxHeartbeats 4000000 in
theorem con_clo_store_Store_mark (A : Nat → Nat) {q : Clo_store_Store_mark} {n0 : Int} {n1 : Q3} {r : (Option Int) × Int × Q3} (h : m_clo_store_Store_mark q n0 n1 = some r) :
  CloCon Try.prog [(9000, A 9000), (9100, A 9100)] (eClo_store_Store_mark (A 9000) (A 9100)) q [(9000, .box 134 [.v Q0 n0, .v Q1 n1] (some (A 9000))), (9100, .box 83 [.ptr 9000 0] (some (A 9100)))] (.v (Enc.err ET) r.1) [(9000, .box 134 [.v Q0 r.2.1, .v Q1 r.2.2] (some (A 9000))), (9100, .box 83 [.ptr 9000 0] (some (A 9100)))] := by
 unfold m_clo_store_Store_mark at h
 rcases q with z | z
 ·exact (CloCon.l (CloCon.fn2 .nil (.pr (.adr (i := 9100) (by simp)) .pt) Try.call86 (con_store_Store_mark_1_io A h)))
 ·exact (CloCon.r (CloCon.fn2 (.adr (i := 9000) (by simp)) .nil Try.call64 (con_store_Store_flush_io A h)))
set_option maxRecDepth 100000 in
set_option maxHeartbeats 4000000 in
theorem con_store_all_store_Store_mark_io (A : Nat → Nat) {a0 : (List Clo_store_Store_mark)} {a1_0 : Int} {a1_1 : Q3} {r : (Option Int) × Int × Q3} (h : m_store_all_store_Store_mark_io a0 a1_0 a1_1 = some r) :
  ConM Try.prog 63 [.v (Enc.sl (eClo_store_Store_mark (A 9000) (A 9100))) a0] [(9000, .box 134 [.v Q0 a1_0, .v Q1 a1_1] (some (A 9000))), (9100, .box 83 [.ptr 9000 0] (some (A 9100)))] (.v (Enc.err ET) r.1) [(9000, .box 134 [.v Q0 r.2.1, .v Q1 r.2.2] (some (A 9000))), (9100, .box 83 [.ptr 9000 0] (some (A 9100)))] := by
 refine ConM.of Try.func63 rfl Try.ntmps63 rfl ?_
 intro S w R hF
 unfold m_store_all_store_Store_mark_io at h
 refine W.seq ?_
 refine W.reg (σ' := ⟨[(0, .v (Enc.sl (eClo_store_Store_mark (A 9000) (A 9100))) a0)], [(9000, .box 134 [.v Q0 a1_0, .v Q1 a1_1] (some (A 9000))), (9100, .box 83 [.ptr 9000 0] (some (A 9100)))]⟩) (J.k (JO.assignNilE ET) (J.fin (Sw.Sub.mk id (.c rfl .nil) (.box rfl (.c rfl (.c rfl .nil)) (.box rfl (.c rfl .nil) .nil)) rfl))) ?_
 refine W.seq ?_
 refine W.seq ?_
 refine W.reg (σ' := ⟨[(6, .v (Enc.sl (eClo_store_Store_mark (A 9000) (A 9100))) a0), (7, .v Q0 (a0.length : Int)), (8, .v Q0 (0 : Int))], [(9000, .box 134 [.v Q0 a1_0, .v Q1 a1_1] (some (A 9000))), (9100, .box 83 [.ptr 9000 0] (some (A 9100)))]⟩) (J.mv rfl (J.k (JO.len rfl Try.runUnderlying142) (J.mv rfl (J.fin (Sw.Sub.mk id (.c rfl (.c rfl (.c rfl .nil))) (.box rfl (.c rfl (.c rfl .nil)) (.box rfl (.c rfl .nil) .nil)) rfl))))) ?_
 obtain ⟨o16, ho16, hb16, hr16⟩ := lp_elim h
 refine W.lp (σs := fun s11 : Int × Int × Q3 => ⟨[(6, .v (Enc.sl (eClo_store_Store_mark (A 9000) (A 9100))) a0), (7, .v Q0 (a0.length : Int)), (8, .v Q0 s11.1)], [(9000, .box 134 [.v Q0 s11.2.1, .v Q1 s11.2.2] (some (A 9000))), (9100, .box 83 [.ptr 9000 0] (some (A 9100)))]⟩) (fun x17 : Int × Q3 => ⟨[], [(9000, .box 134 [.v Q0 x17.1, .v Q1 x17.2] (some (A 9000))), (9100, .box 83 [.ptr 9000 0] (some (A 9100)))]⟩) ho16 (Sw.Sub.mk id (.c rfl (.c rfl (.c rfl .nil))) (.box rfl (.c rfl (.c rfl .nil)) (.box rfl (.c rfl .nil) .nil)) rfl) ?_ ?_
 ·intro x17 hy
  have h := hb16 _ hy
  refine W.seq ?_
  refine W.reg (σ' := ⟨[(2, .v (Enc.err ET) (none : Option Int))], [(9000, .box 134 [.v Q0 x17.1, .v Q1 x17.2] (some (A 9000))), (9100, .box 83 [.ptr 9000 0] (some (A 9100)))]⟩) (J.k (JO.assignNilE ET) (J.fin (Sw.Sub.mk id (.c rfl .nil) (.box rfl (.c rfl (.c rfl .nil)) (.box rfl (.c rfl .nil) .nil)) rfl))) ?_
  refine W.ret ?_
  obtain rfl := Option.some.inj h
  exact XQ.sub (σ' := ⟨[(2, .v (Enc.err ET) (none : Option Int))], [(9100, .box 83 [.ptr 9000 0] (some (A 9100))), (9000, .box 134 [.v Q0 x17.1, .v Q1 x17.2] (some (A 9000)))]⟩) (Sw.Sub.mk id (.c rfl .nil) (.box rfl (.c rfl .nil) (.box rfl (.c rfl (.c rfl .nil)) .nil)) rfl) (XQ.retM1 hF rfl (RV.tmp rfl) (.cons rfl (.cons rfl .nil)))
 intro s11 r16 h
 refine W.seq ?_
 refine W.reg (σ' := ⟨[(6, .v (Enc.sl (eClo_store_Store_mark (A 9000) (A 9100))) a0), (7, .v Q0 (a0.length : Int)), (8, .v Q0 s11.1), (9, .v Enc.bool (cm .lss s11.1 (a0.length : Int)))], [(9000, .box 134 [.v Q0 s11.2.1, .v Q1 s11.2.2] (some (A 9000))), (9100, .box 83 [.ptr 9000 0] (some (A 9100)))]⟩) (J.k (JO.cmp rfl rfl rfl) (J.fin (Sw.Sub.mk id (.c rfl (.c rfl (.c rfl (.c rfl .nil)))) (.box rfl (.c rfl (.c rfl .nil)) (.box rfl (.c rfl .nil) .nil)) rfl))) ?_
 refine W.seq ?_
 rcases Bool.eq_false_or_eq_true (cm .lss s11.1 (a0.length : Int)) with hc18 | hc18
 ·replace h := cond_t hc18 h
  refine W.condT rfl hc18 ?_
  refine W.skip ?_
  refine W.seq ?_
  refine W.block ?_
  refine W.seq ?_
  obtain ⟨z19, hz19, h⟩ := bind_e h
  refine W.reg (σ' := ⟨[(4, .v (eClo_store_Store_mark (A 9000) (A 9100)) z19), (6, .v (Enc.sl (eClo_store_Store_mark (A 9000) (A 9100))) a0), (7, .v Q0 (a0.length : Int)), (8, .v Q0 s11.1)], [(9000, .box 134 [.v Q0 s11.2.1, .v Q1 s11.2.2] (some (A 9000))), (9100, .box 83 [.ptr 9000 0] (some (A 9100)))]⟩) (J.k (JO.idx hz19 rfl rfl Try.runUnderlying142 Try.sizeOf135) (J.k (JO.loadPst rfl Try.isAgg135 Try.sizeOf135) (J.k (JO.assign rfl) (J.fin (Sw.Sub.mk id (.c rfl (.c rfl (.c rfl (.c rfl .nil)))) (.box rfl (.c rfl (.c rfl .nil)) (.box rfl (.c rfl .nil) .nil)) rfl))))) ?_
  refine W.seq ?_
  obtain ⟨v20, hv20, h⟩ := bind_e h
  refine W.reg (σ' := ⟨[(5, .v (Enc.err ET) v20.1), (6, .v (Enc.sl (eClo_store_Store_mark (A 9000) (A 9100))) a0), (7, .v Q0 (a0.length : Int)), (8, .v Q0 s11.1)], [(9000, .box 134 [.v Q0 v20.2.1, .v Q1 v20.2.2] (some (A 9000))), (9100, .box 83 [.ptr 9000 0] (some (A 9100)))]⟩) (J.mv rfl (J.t (JM.callC (H := [9000, 9100]) (K := [9000, 9100]) [(9000, A 9000), (9100, A 9100)] (swp [(9000, 9000), (9100, 9100)]) (swp_inj _) rfl ⟨⟨_, _, rfl⟩, ⟨_, _, rfl⟩, trivial⟩ (CloCon.at2 (e := eClo_store_Store_mark) (A 9000) (A 9100) (fun A9 => con_clo_store_Store_mark A9 hv20)) (fun _ => .box rfl (.box rfl .nil)) (fun _ => .box rfl (.box rfl .nil rfl) rfl) (fun _ => rfl) rfl rfl (fun _ => rfl) rfl rfl) (J.k (JO.assign rfl) (J.fin (Sw.Sub.mk id (.c rfl (.c rfl (.c rfl (.c rfl .nil)))) (.box rfl (.c rfl (.c rfl .nil)) (.box rfl (.c rfl .nil) .nil)) rfl))))) ?_
  refine W.seq ?_
  refine W.reg (σ' := ⟨[(5, .v (Enc.err ET) v20.1), (6, .v (Enc.sl (eClo_store_Store_mark (A 9000) (A 9100))) a0), (7, .v Q0 (a0.length : Int)), (8, .v Q0 s11.1), (15, .v Enc.bool (Option.isSome v20.1))], [(9000, .box 134 [.v Q0 v20.2.1, .v Q1 v20.2.2] (some (A 9000))), (9100, .box 83 [.ptr 9000 0] (some (A 9100)))]⟩) (J.mv rfl (J.k (JO.errNe Try.runUnderlying34 rfl) (J.fin (Sw.Sub.mk id (.c rfl (.c rfl (.c rfl (.c rfl (.c rfl .nil))))) (.box rfl (.c rfl (.c rfl .nil)) (.box rfl (.c rfl .nil) .nil)) rfl)))) ?_
  rcases Bool.eq_false_or_eq_true (Option.isSome v20.1) with hc21 | hc21
  ·replace h := cond_t hc21 h
   refine W.condT rfl hc21 ?_
   refine W.seq ?_
   refine W.reg (σ' := ⟨[(2, .v (Enc.err ET) v20.1)], [(9000, .box 134 [.v Q0 v20.2.1, .v Q1 v20.2.2] (some (A 9000))), (9100, .box 83 [.ptr 9000 0] (some (A 9100)))]⟩) (J.mv rfl (J.k (JO.assign rfl) (J.fin (Sw.Sub.mk id (.c rfl .nil) (.box rfl (.c rfl (.c rfl .nil)) (.box rfl (.c rfl .nil) .nil)) rfl)))) ?_
   refine W.ret ?_
   refine XQ.ret ?_
   obtain rfl := Option.some.inj h
   refine XQ.lret fun ho => ?_
   obtain rfl := hr16 _ ho
   exact XQ.sub (σ' := ⟨[(2, .v (Enc.err ET) v20.1)], [(9100, .box 83 [.ptr 9000 0] (some (A 9100))), (9000, .box 134 [.v Q0 v20.2.1, .v Q1 v20.2.2] (some (A 9000)))]⟩) (Sw.Sub.mk id (.c rfl .nil) (.box rfl (.c rfl .nil) (.box rfl (.c rfl (.c rfl .nil)) .nil)) rfl) (XQ.retM1 hF rfl (RV.tmp rfl) (.cons rfl (.cons rfl .nil)))
  ·replace h := cond_f hc21 h
   refine W.condF rfl hc21 ?_
   refine W.skip ?_
   refine W.fall ?_
   refine W.reg (σ' := ⟨[(6, .v (Enc.sl (eClo_store_Store_mark (A 9000) (A 9100))) a0), (7, .v Q0 (a0.length : Int)), (8, .v Q0 (ar .add .i64 s11.1 (1 : Int)))], [(9000, .box 134 [.v Q0 v20.2.1, .v Q1 v20.2.2] (some (A 9000))), (9100, .box 83 [.ptr 9000 0] (some (A 9100)))]⟩) (J.k (JO.arith rfl rfl rfl) (J.mv rfl (J.fin (Sw.Sub.mk id (.c rfl (.c rfl (.c rfl .nil))) (.box rfl (.c rfl (.c rfl .nil)) (.box rfl (.c rfl .nil) .nil)) rfl)))) ?_
   obtain rfl := Option.some.inj h
   exact W.next (Sw.Sub.mk id (.c rfl (.c rfl (.c rfl .nil))) (.box rfl (.c rfl (.c rfl .nil)) (.box rfl (.c rfl .nil) .nil)) rfl)
 ·replace h := cond_f hc18 h
  refine W.condF rfl hc18 ?_
  refine W.exit ?_
  obtain rfl := Option.some.inj h
  exact XQ.brk (Sw.Sub.mk id .nil (.box rfl (.c rfl (.c rfl .nil)) (.box rfl (.c rfl .nil) .nil)) rfl)
set_option maxRecDepth 100000 in
set_option maxHeartbeats 4000000 in
theorem con_store_Store_mark_io (A : Nat → Nat) {a0_0 : Int} {a0_1 : Q3} {a1 : Int} {r : (Option Int) × Int × Q3} (h : m_store_Store_mark_io a0_0 a0_1 a1 = some r) :
  ConM Try.prog 66 [.ptr 9000 0, .v (Enc.int .u8) a1] [(9000, .box 134 [.v Q0 a0_0, .v Q1 a0_1] (some (A 9000)))] (.v (Enc.err ET) r.1) [(9000, .box 134 [.v Q0 r.2.1, .v Q1 r.2.2] (some (A 9000)))] := by
 refine ConM.of Try.func66 rfl Try.ntmps66 rfl ?_
 intro S w R hF
 unfold m_store_Store_mark_io at h
 refine W.seq ?_
 refine W.reg (σ' := ⟨[(0, .ptr 9000 0), (2, .ptr 101 0), (3, .ptr 102 0)], [(9000, .box 134 [.v Q0 a0_0, .v Q1 a0_1] (some (A 9000))), (101, .box 83 [.ptr 9000 0]), (102, .box 5 [.v (Enc.int .u8) a1])]⟩) (J.k (JO.boxPtr 101 rfl rfl) (J.k (JO.box 102 rfl (.one _ _) rfl) (J.k (JO.assignNilE ET) (J.fin (Sw.Sub.mk id (.c rfl (.c rfl (.c rfl .nil))) (.box rfl (.c rfl (.c rfl .nil)) (.box rfl (.c rfl .nil) (.box rfl (.c rfl .nil) .nil))) rfl))))) ?_
 refine W.pin (i := 101) rfl fun c1 => ?_
 refine W.sub (σ' := ⟨[(0, .ptr 9000 0), (2, .ptr 101 0), (3, .ptr 102 0)], [(9000, .box 134 [.v Q0 a0_0, .v Q1 a0_1] (some (A 9000))), (101, .box 83 [.ptr 9000 0] (some (c1))), (102, .box 5 [.v (Enc.int .u8) a1])]⟩) (Sw.Sub.mk id (.c rfl (.c rfl (.c rfl .nil))) (.box rfl (.c rfl (.c rfl .nil)) (.box rfl (.c rfl .nil) (.box rfl (.c rfl .nil) .nil))) rfl) ?_
 refine W.seq ?_
 obtain ⟨v2, hv2, h⟩ := bind_e h
 refine W.reg (σ' := ⟨[(0, .ptr 9000 0), (4, .v (Enc.err ET) v2.1)], [(9000, .box 134 [.v Q0 v2.2.1, .v Q1 v2.2.2] (some (A 9000)))]⟩) (J.sub (σ' := ⟨[(0, .ptr 9000 0), (2, .ptr 101 0), (3, .pst (Enc.int .u8) a1)], [(9000, .box 134 [.v Q0 a0_0, .v Q1 a0_1] (some (A 9000))), (101, .box 83 [.ptr 9000 0] (some (c1)))]⟩) (Sw.Sub.mk id (.c rfl (.c rfl (.cons rfl (.frzP rfl rfl (.c rfl .nil) (.one _ _)) .nil))) (.box rfl (.c rfl (.c rfl .nil)) (.box rfl (.c rfl .nil) .nil)) rfl) (J.k (JO.mkClo .nil (.cons (.adr rfl rfl) (.pst rfl)) (.l .self)) (J.k (JO.load rfl rfl rfl Try.isAgg83 Try.sizeOf83) (J.k (JO.mkClo (.adr rfl rfl) .nil (.r .self)) (J.k (JO.lit (e := (eClo_store_Store_mark (A 9000) (c1))) Try.runUnderlying142 Try.sizeOf135 Try.zeroValue135 rfl rfl rfl rfl (.cons (.dir rfl) (.cons (.dir rfl) .nil))) (J.t (JM.callMA (H := [9000, 101]) (K := [9000, 101]) [(9000, A 9000), (9100, c1)] (swp [(9000, 9000), (9100, 101)]) (swp_inj _) ⟨⟨_, _, rfl⟩, ⟨_, _, rfl⟩, trivial⟩ (ConM.at2 (ss := fun a9 p9 => [.v (Enc.sl (eClo_store_Store_mark a9 p9)) ([(.inl ((), ((), a1)) : Clo_store_Store_mark), (.inr ((), ()) : Clo_store_Store_mark)] : (List Clo_store_Store_mark))]) (A 9000) c1 (fun A9 => con_store_all_store_Store_mark_io A9 hv2)) Try.call63 (.cons (.dir rfl) .nil) (fun _ => .box rfl (.box rfl .nil)) (fun _ => .box rfl (.box rfl .nil rfl) rfl) (fun _ => rfl) rfl rfl (fun _ => rfl) rfl rfl) (J.k (JO.assign rfl) (J.fin (Sw.Sub.mk id (.c rfl (.c rfl .nil)) (.box rfl (.c rfl (.c rfl .nil)) .nil) rfl))))))))) ?_
 refine W.ret ?_
 obtain rfl := Option.some.inj h
 exact XQ.sub (σ' := ⟨[(0, .ptr 9000 0), (4, .v (Enc.err ET) v2.1)], [(9000, .box 134 [.v Q0 v2.2.1, .v Q1 v2.2.2] (some (A 9000)))]⟩) (Sw.Sub.mk id (.c rfl (.c rfl .nil)) (.box rfl (.c rfl (.c rfl .nil)) .nil) rfl) (XQ.retM1 hF rfl (RV.tmp rfl) (.cons rfl .nil))
set_option maxRecDepth 100000 in
set_option maxHeartbeats 4000000 in
theorem con_store_Store_replay_1_io (A : Nat → Nat) {a1_0 : Int} {a1_1 : Q3} {r : (Option Int) × Int × Q3} (h : m_store_Store_replay_1_io a1_0 a1_1 = some r) :
  ConM Try.prog 82 [.ptr 9100 0] [(9000, .box 134 [.v Q0 a1_0, .v Q1 a1_1] (some (A 9000))), (9100, .box 83 [.ptr 9000 0] (some (A 9100)))] (.v (Enc.err ET) r.1) [(9000, .box 134 [.v Q0 r.2.1, .v Q1 r.2.2] (some (A 9000))), (9100, .box 83 [.ptr 9000 0] (some (A 9100)))] := by
 refine ConM.of Try.func82 rfl Try.ntmps82 rfl ?_
 intro S w R hF
 unfold m_store_Store_replay_1_io at h
 refine W.seq ?_
 refine W.reg (σ' := ⟨[(0, .ptr 9100 0)], [(9100, .box 83 [.ptr 9000 0] (some (A 9100))), (9000, .box 134 [.v Q0 a1_0, .v Q1 a1_1] (some (A 9000)))]⟩) (J.k (JO.assignNilE ET) (J.fin (Sw.Sub.mk id (.c rfl .nil) (.box rfl (.c rfl .nil) (.box rfl (.c rfl (.c rfl .nil)) .nil)) rfl))) ?_
 refine W.seq ?_
 obtain ⟨v1, hv1, h⟩ := bind_e h
 refine W.reg (σ' := ⟨[(0, .ptr 9100 0), (1, .v (Enc.err ET) v1.1)], [(9100, .box 83 [.ptr 9000 0] (some (A 9100))), (9000, .box 134 [.v Q0 v1.2.1, .v Q1 v1.2.2] (some (A 9000)))]⟩) (J.k (JO.load rfl rfl rfl Try.isAgg83 Try.sizeOf83) (J.t (JM.callM (H := [9000]) (K := [9000]) (swp [(9000, 9000)]) (swp_inj _) (fun A => con_store_Store_mark_io A hv1) Try.call66 (.cons (.dir rfl) (.cons (.dir rfl) .nil)) (fun A => (.box rfl .nil)) (fun A => (.box rfl .nil rfl)) (fun _ => rfl) rfl rfl (fun _ => rfl) rfl rfl) (J.k (JO.assign rfl) (J.fin (Sw.Sub.mk id (.c rfl (.c rfl .nil)) (.box rfl (.c rfl .nil) (.box rfl (.c rfl (.c rfl .nil)) .nil)) rfl))))) ?_
 refine W.ret ?_
 obtain rfl := Option.some.inj h
 exact XQ.sub (σ' := ⟨[(0, .ptr 9100 0), (1, .v (Enc.err ET) v1.1)], [(9100, .box 83 [.ptr 9000 0] (some (A 9100))), (9000, .box 134 [.v Q0 v1.2.1, .v Q1 v1.2.2] (some (A 9000)))]⟩) (Sw.Sub.mk id (.c rfl (.c rfl .nil)) (.box rfl (.c rfl .nil) (.box rfl (.c rfl (.c rfl .nil)) .nil)) rfl) (XQ.retM1 hF rfl (RV.tmp rfl) (.cons rfl (.cons rfl .nil)))
set_option maxRecDepth 100000 in
set_option maxHeartbeats 4000000 in
theorem con_clo_store_Store_replay (A : Nat → Nat) {q : Clo_store_Store_replay} {n0 : Int} {n1 : Q3} {r : (Option Int) × Int × Q3} (h : m_clo_store_Store_replay q n0 n1 = some r) :
  CloCon Try.prog [(9000, A 9000), (9100, A 9100)] (eClo_store_Store_replay (A 9000) (A 9100)) q [(9000, .box 134 [.v Q0 n0, .v Q1 n1] (some (A 9000))), (9100, .box 83 [.ptr 9000 0] (some (A 9100)))] (.v (Enc.err ET) r.1) [(9000, .box 134 [.v Q0 r.2.1, .v Q1 r.2.2] (some (A 9000))), (9100, .box 83 [.ptr 9000 0] (some (A 9100)))] := by
 unfold m_clo_store_Store_replay at h
 rcases q with z | z | z
 ·exact (CloCon.l (CloCon.fn2 (.adr (i := 9000) (by simp)) .nil Try.call67 (con_store_Store_apply_io A h)))
 ·exact (CloCon.r (CloCon.l (CloCon.fn2 (.adr (i := 9000) (by simp)) .nil Try.call64 (con_store_Store_flush_io A h))))
 ·exact (CloCon.r (CloCon.r (CloCon.fn2 .nil (.adr (i := 9100) (by simp)) Try.call82 (con_store_Store_replay_1_io A h))))
set_option maxRecDepth 100000 in
set_option maxHeartbeats 4000000 in
theorem con_store_all_store_Store_replay_io (A : Nat → Nat) {a0 : (List Clo_store_Store_replay)} {a1_0 : Int} {a1_1 : Q3} {r : (Option Int) × Int × Q3} (h : m_store_all_store_Store_replay_io a0 a1_0 a1_1 = some r) :
  ConM Try.prog 63 [.v (Enc.sl (eClo_store_Store_replay (A 9000) (A 9100))) a0] [(9000, .box 134 [.v Q0 a1_0, .v Q1 a1_1] (some (A 9000))), (9100, .box 83 [.ptr 9000 0] (some (A 9100)))] (.v (Enc.err ET) r.1) [(9000, .box 134 [.v Q0 r.2.1, .v Q1 r.2.2] (some (A 9000))), (9100, .box 83 [.ptr 9000 0] (some (A 9100)))] := by
 refine ConM.of Try.func63 rfl Try.ntmps63 rfl ?_
 intro S w R hF
 unfold m_store_all_store_Store_replay_io at h
 refine W.seq ?_
 refine W.reg (σ' := ⟨[(0, .v (Enc.sl (eClo_store_Store_replay (A 9000) (A 9100))) a0)], [(9000, .box 134 [.v Q0 a1_0, .v Q1 a1_1] (some (A 9000))), (9100, .box 83 [.ptr 9000 0] (some (A 9100)))]⟩) (J.k (JO.assignNilE ET) (J.fin (Sw.Sub.mk id (.c rfl .nil) (.box rfl (.c rfl (.c rfl .nil)) (.box rfl (.c rfl .nil) .nil)) rfl))) ?_
 refine W.seq ?_
 refine W.seq ?_
 refine W.reg (σ' := ⟨[(6, .v (Enc.sl (eClo_store_Store_replay (A 9000) (A 9100))) a0), (7, .v Q0 (a0.length : Int)), (8, .v Q0 (0 : Int))], [(9000, .box 134 [.v Q0 a1_0, .v Q1 a1_1] (some (A 9000))), (9100, .box 83 [.ptr 9000 0] (some (A 9100)))]⟩) (J.mv rfl (J.k (JO.len rfl Try.runUnderlying142) (J.mv rfl (J.fin (Sw.Sub.mk id (.c rfl (.c rfl (.c rfl .nil))) (.box rfl (.c rfl (.c rfl .nil)) (.box rfl (.c rfl .nil) .nil)) rfl))))) ?_
 obtain ⟨o16, ho16, hb16, hr16⟩ := lp_elim h
 refine W.lp (σs := fun s11 : Int × Int × Q3 => ⟨[(6, .v (Enc.sl (eClo_store_Store_replay (A 9000) (A 9100))) a0), (7, .v Q0 (a0.length : Int)), (8, .v Q0 s11.1)], [(9000, .box 134 [.v Q0 s11.2.1, .v Q1 s11.2.2] (some (A 9000))), (9100, .box 83 [.ptr 9000 0] (some (A 9100)))]⟩) (fun x17 : Int × Q3 => ⟨[], [(9000, .box 134 [.v Q0 x17.1, .v Q1 x17.2] (some (A 9000))), (9100, .box 83 [.ptr 9000 0] (some (A 9100)))]⟩) ho16 (Sw.Sub.mk id (.c rfl (.c rfl (.c rfl .nil))) (.box rfl (.c rfl (.c rfl .nil)) (.box rfl (.c rfl .nil) .nil)) rfl) ?_ ?_
 ·intro x17 hy
  have h := hb16 _ hy
  refine W.seq ?_
  refine W.reg (σ' := ⟨[(2, .v (Enc.err ET) (none : Option Int))], [(9000, .box 134 [.v Q0 x17.1, .v Q1 x17.2] (some (A 9000))), (9100, .box 83 [.ptr 9000 0] (some (A 9100)))]⟩) (J.k (JO.assignNilE ET) (J.fin (Sw.Sub.mk id (.c rfl .nil) (.box rfl (.c rfl (.c rfl .nil)) (.box rfl (.c rfl .nil) .nil)) rfl))) ?_
  refine W.ret ?_
  obtain rfl := Option.some.inj h
  exact XQ.sub (σ' := ⟨[(2, .v (Enc.err ET) (none : Option Int))], [(9100, .box 83 [.ptr 9000 0] (some (A 9100))), (9000, .box 134 [.v Q0 x17.1, .v Q1 x17.2] (some (A 9000)))]⟩) (Sw.Sub.mk id (.c rfl .nil) (.box rfl (.c rfl .nil) (.box rfl (.c rfl (.c rfl .nil)) .nil)) rfl) (XQ.retM1 hF rfl (RV.tmp rfl) (.cons rfl (.cons rfl .nil)))
 intro s11 r16 h
 refine W.seq ?_
 refine W.reg (σ' := ⟨[(6, .v (Enc.sl (eClo_store_Store_replay (A 9000) (A 9100))) a0), (7, .v Q0 (a0.length : Int)), (8, .v Q0 s11.1), (9, .v Enc.bool (cm .lss s11.1 (a0.length : Int)))], [(9000, .box 134 [.v Q0 s11.2.1, .v Q1 s11.2.2] (some (A 9000))), (9100, .box 83 [.ptr 9000 0] (some (A 9100)))]⟩) (J.k (JO.cmp rfl rfl rfl) (J.fin (Sw.Sub.mk id (.c rfl (.c rfl (.c rfl (.c rfl .nil)))) (.box rfl (.c rfl (.c rfl .nil)) (.box rfl (.c rfl .nil) .nil)) rfl))) ?_
 refine W.seq ?_
 rcases Bool.eq_false_or_eq_true (cm .lss s11.1 (a0.length : Int)) with hc18 | hc18
 ·replace h := cond_t hc18 h
  refine W.condT rfl hc18 ?_
  refine W.skip ?_
  refine W.seq ?_
  refine W.block ?_
  refine W.seq ?_
  obtain ⟨z19, hz19, h⟩ := bind_e h
  refine W.reg (σ' := ⟨[(4, .v (eClo_store_Store_replay (A 9000) (A 9100)) z19), (6, .v (Enc.sl (eClo_store_Store_replay (A 9000) (A 9100))) a0), (7, .v Q0 (a0.length : Int)), (8, .v Q0 s11.1)], [(9000, .box 134 [.v Q0 s11.2.1, .v Q1 s11.2.2] (some (A 9000))), (9100, .box 83 [.ptr 9000 0] (some (A 9100)))]⟩) (J.k (JO.idx hz19 rfl rfl Try.runUnderlying142 Try.sizeOf135) (J.k (JO.loadPst rfl Try.isAgg135 Try.sizeOf135) (J.k (JO.assign rfl) (J.fin (Sw.Sub.mk id (.c rfl (.c rfl (.c rfl (.c rfl .nil)))) (.box rfl (.c rfl (.c rfl .nil)) (.box rfl (.c rfl .nil) .nil)) rfl))))) ?_
  refine W.seq ?_
  obtain ⟨v20, hv20, h⟩ := bind_e h
  refine W.reg (σ' := ⟨[(5, .v (Enc.err ET) v20.1), (6, .v (Enc.sl (eClo_store_Store_replay (A 9000) (A 9100))) a0), (7, .v Q0 (a0.length : Int)), (8, .v Q0 s11.1)], [(9000, .box 134 [.v Q0 v20.2.1, .v Q1 v20.2.2] (some (A 9000))), (9100, .box 83 [.ptr 9000 0] (some (A 9100)))]⟩) (J.mv rfl (J.t (JM.callC (H := [9000, 9100]) (K := [9000, 9100]) [(9000, A 9000), (9100, A 9100)] (swp [(9000, 9000), (9100, 9100)]) (swp_inj _) rfl ⟨⟨_, _, rfl⟩, ⟨_, _, rfl⟩, trivial⟩ (CloCon.at2 (e := eClo_store_Store_replay) (A 9000) (A 9100) (fun A9 => con_clo_store_Store_replay A9 hv20)) (fun _ => .box rfl (.box rfl .nil)) (fun _ => .box rfl (.box rfl .nil rfl) rfl) (fun _ => rfl) rfl rfl (fun _ => rfl) rfl rfl) (J.k (JO.assign rfl) (J.fin (Sw.Sub.mk id (.c rfl (.c rfl (.c rfl (.c rfl .nil)))) (.box rfl (.c rfl (.c rfl .nil)) (.box rfl (.c rfl .nil) .nil)) rfl))))) ?_
  refine W.seq ?_
  refine W.reg (σ' := ⟨[(5, .v (Enc.err ET) v20.1), (6, .v (Enc.sl (eClo_store_Store_replay (A 9000) (A 9100))) a0), (7, .v Q0 (a0.length : Int)), (8, .v Q0 s11.1), (15, .v Enc.bool (Option.isSome v20.1))], [(9000, .box 134 [.v Q0 v20.2.1, .v Q1 v20.2.2] (some (A 9000))), (9100, .box 83 [.ptr 9000 0] (some (A 9100)))]⟩) (J.mv rfl (J.k (JO.errNe Try.runUnderlying34 rfl) (J.fin (Sw.Sub.mk id (.c rfl (.c rfl (.c rfl (.c rfl (.c rfl .nil))))) (.box rfl (.c rfl (.c rfl .nil)) (.box rfl (.c rfl .nil) .nil)) rfl)))) ?_
  rcases Bool.eq_false_or_eq_true (Option.isSome v20.1) with hc21 | hc21
  ·replace h := cond_t hc21 h
   refine W.condT rfl hc21 ?_
   refine W.seq ?_
   refine W.reg (σ' := ⟨[(2, .v (Enc.err ET) v20.1)], [(9000, .box 134 [.v Q0 v20.2.1, .v Q1 v20.2.2] (some (A 9000))), (9100, .box 83 [.ptr 9000 0] (some (A 9100)))]⟩) (J.mv rfl (J.k (JO.assign rfl) (J.fin (Sw.Sub.mk id (.c rfl .nil) (.box rfl (.c rfl (.c rfl .nil)) (.box rfl (.c rfl .nil) .nil)) rfl)))) ?_
   refine W.ret ?_
   refine XQ.ret ?_
   obtain rfl := Option.some.inj h
   refine XQ.lret fun ho => ?_
   obtain rfl := hr16 _ ho
   exact XQ.sub (σ' := ⟨[(2, .v (Enc.err ET) v20.1)], [(9100, .box 83 [.ptr 9000 0] (some (A 9100))), (9000, .box 134 [.v Q0 v20.2.1, .v Q1 v20.2.2] (some (A 9000)))]⟩) (Sw.Sub.mk id (.c rfl .nil) (.box rfl (.c rfl .nil) (.box rfl (.c rfl (.c rfl .nil)) .nil)) rfl) (XQ.retM1 hF rfl (RV.tmp rfl) (.cons rfl (.cons rfl .nil)))
  ·replace h := cond_f hc21 h
   refine W.condF rfl hc21 ?_
   refine W.skip ?_
   refine W.fall ?_
   refine W.reg (σ' := ⟨[(6, .v (Enc.sl (eClo_store_Store_replay (A 9000) (A 9100))) a0), (7, .v Q0 (a0.length : Int)), (8, .v Q0 (ar .add .i64 s11.1 (1 : Int)))], [(9000, .box 134 [.v Q0 v20.2.1, .v Q1 v20.2.2] (some (A 9000))), (9100, .box 83 [.ptr 9000 0] (some (A 9100)))]⟩) (J.k (JO.arith rfl rfl rfl) (J.mv rfl (J.fin (Sw.Sub.mk id (.c rfl (.c rfl (.c rfl .nil))) (.box rfl (.c rfl (.c rfl .nil)) (.box rfl (.c rfl .nil) .nil)) rfl)))) ?_
   obtain rfl := Option.some.inj h
   exact W.next (Sw.Sub.mk id (.c rfl (.c rfl (.c rfl .nil))) (.box rfl (.c rfl (.c rfl .nil)) (.box rfl (.c rfl .nil) .nil)) rfl)
 ·replace h := cond_f hc18 h
  refine W.condF rfl hc18 ?_
  refine W.exit ?_
  obtain rfl := Option.some.inj h
  exact XQ.brk (Sw.Sub.mk id .nil (.box rfl (.c rfl (.c rfl .nil)) (.box rfl (.c rfl .nil) .nil)) rfl)
set_option maxRecDepth 100000 in
set_option maxHeartbeats 4000000 in
theorem con_store_Store_replay_io (A : Nat → Nat) {a0_0 : Int} {a0_1 : Q3} {r : (Option Int) × Int × Q3} (h : m_store_Store_replay_io a0_0 a0_1 = some r) :
  ConM Try.prog 53 [.ptr 9000 0] [(9000, .box 134 [.v Q0 a0_0, .v Q1 a0_1] (some (A 9000)))] (.v (Enc.err ET) r.1) [(9000, .box 134 [.v Q0 r.2.1, .v Q1 r.2.2] (some (A 9000)))] := by
 refine ConM.of Try.func53 rfl Try.ntmps53 rfl ?_
 intro S w R hF
 unfold m_store_Store_replay_io at h
 refine W.seq ?_
 refine W.reg (σ' := ⟨[(0, .ptr 9000 0), (1, .ptr 101 0)], [(9000, .box 134 [.v Q0 a0_0, .v Q1 a0_1] (some (A 9000))), (101, .box 83 [.ptr 9000 0])]⟩) (J.k (JO.boxPtr 101 rfl rfl) (J.k (JO.assignNilE ET) (J.fin (Sw.Sub.mk id (.c rfl (.c rfl .nil)) (.box rfl (.c rfl (.c rfl .nil)) (.box rfl (.c rfl .nil) .nil)) rfl)))) ?_
 refine W.pin (i := 101) rfl fun c1 => ?_
 refine W.sub (σ' := ⟨[(0, .ptr 9000 0), (1, .ptr 101 0)], [(9000, .box 134 [.v Q0 a0_0, .v Q1 a0_1] (some (A 9000))), (101, .box 83 [.ptr 9000 0] (some (c1)))]⟩) (Sw.Sub.mk id (.c rfl (.c rfl .nil)) (.box rfl (.c rfl (.c rfl .nil)) (.box rfl (.c rfl .nil) .nil)) rfl) ?_
 refine W.seq ?_
 obtain ⟨v2, hv2, h⟩ := bind_e h
 refine W.dr2 (σ' := ⟨[(0, .ptr 9000 0), (1, .ptr 101 0), (3, .ptr 103 0), (4, .v (Enc.err ET) v2.2)], [(9000, .box 134 [.v Q0 a0_0, .v Q1 a0_1] (some (A 9000))), (101, .box 83 [.ptr 9000 0] (some (c1))), (103, .box 29 [.v eBlk v2.1])]⟩) 16 [0, 1, 3, 7, 0, 16, 48, 112, 240, 511, 1023, 2047, 2047, 0, 12287, 32767] mixed (by exact (.cons (.none rfl) (JO.load rfl rfl rfl Try.isAgg83 Try.sizeOf83) rfl rfl (.cons (.none rfl) (JO.nilPtr rfl) rfl rfl (.cons (.none rfl) (JO.fieldPtr 1 rfl Try.runUnderlying134 rfl Try.sizeOf80 rfl rfl) rfl rfl (.cons (.none rfl) (JO.load rfl rfl rfl Try.isAgg80 Try.sizeOf80) rfl rfl (.cons (.none rfl) (JO.load rfl rfl rfl Try.isAgg83 Try.sizeOf83) rfl rfl (.cons (.none rfl) (JO.nilPtr rfl) rfl rfl (.cons (.none rfl) (JO.fieldPtr 0 rfl Try.runUnderlying134 rfl Try.sizeOf3 rfl rfl) rfl rfl (.cons (.none rfl) (JO.load rfl rfl rfl Try.isAgg3 Try.sizeOf3) rfl rfl (.cons (.none rfl) (JO.arith rfl rfl rfl) rfl rfl (.cons (.none rfl) (JO.call0 (con_disk_Read hv2) Try.call81 (.cons (.dir rfl) (.cons (.dir rfl) .nil))) rfl rfl (.cons (.none rfl) (JO.move rfl) rfl rfl (.cons (.none rfl) (JO.extract rfl rfl) rfl rfl (.cons (.none rfl) (JO.extract rfl rfl) rfl rfl (.cons (.none rfl) (JO.alloc 103 Try.zeroValue29 rfl (.cons (Z.arr 8 (Z.int .u8)) .nil) rfl) rfl rfl (JP2.store (.none rfl) rfl rfl rfl rfl rfl rfl rfl Try.sizeOf29 (.cons (.none rfl) (JO.assign rfl) rfl rfl .nil))))))))))))))))) (by exact (J.fin (Sw.Sub.mk id (.c rfl (.c rfl (.c rfl (.c rfl .nil)))) (.box rfl (.c rfl (.c rfl .nil)) (.box rfl (.c rfl .nil) (.box rfl (.c rfl .nil) .nil))) rfl))) rfl (by decide +kernel) (by decide +kernel) (by decide +kernel) (by kernel_rfl) ?_
 refine W.seq ?_
 refine W.seq ?_
 obtain ⟨x5, hx, h⟩ := bind_e h
 refine W.reg (σ' := ⟨[(0, .ptr 9000 0), (1, .ptr 101 0), (4, .v (Enc.err ET) v2.2), (24, .v Enc.bool x5)], [(9000, .box 134 [.v Q0 a0_0, .v Q1 a0_1] (some (A 9000))), (101, .box 83 [.ptr 9000 0] (some (c1)))]⟩) ?_ ?_
 ·rcases Bool.eq_false_or_eq_true (Option.isSome v2.2) with hc6 | hc6
  ·replace hx := cond_t hc6 hx
   obtain rfl := Option.some.inj hx
   exact (J.mv rfl (J.k (JO.errNe Try.runUnderlying34 rfl) (J.mv rfl (J.u 20 hc6 (J.u 20 hc6 (J.u 20 hc6 (J.k (JO.pT hc6 rfl rfl) (J.fin (Sw.Sub.mk id (.c rfl (.c rfl (.c rfl (.c rfl .nil)))) (.box rfl (.c rfl (.c rfl .nil)) (.box rfl (.c rfl .nil) .nil)) rfl)))))))))
  ·replace hx := cond_f hc6 hx
   obtain ⟨z7, hz7, hx⟩ := bind_e hx
   obtain rfl := Option.some.inj hx
   exact (J.mv rfl (J.k (JO.errNe Try.runUnderlying34 rfl) (J.mv rfl (J.m 20 hc6 (JO.idxBox hz7 rfl rfl rfl rfl Try.runUnderlying29 Try.sizeOf5) (J.m 20 hc6 (JO.loadPel (idx_some hz7).2.2 rfl rfl rfl Try.isAgg5 Try.sizeOf5) (J.m 20 hc6 (JO.cmp rfl rfl rfl) (J.k (JO.pF hc6 rfl rfl) (J.fin (Sw.Sub.mk id (.c rfl (.c rfl (.c rfl (.c rfl .nil)))) (.box rfl (.c rfl (.c rfl .nil)) (.box rfl (.c rfl .nil) .nil)) rfl)))))))))
 rcases Bool.eq_false_or_eq_true x5 with hc8 | hc8
 ·replace h := cond_t hc8 h
  refine W.condT rfl hc8 ?_
  refine W.seq ?_
  refine W.reg (σ' := ⟨[(0, .ptr 9000 0), (2, .v (Enc.err ET) v2.2)], [(9000, .box 134 [.v Q0 a0_0, .v Q1 a0_1] (some (A 9000)))]⟩) (J.mv rfl (J.k (JO.assign rfl) (J.fin (Sw.Sub.mk id (.c rfl (.c rfl .nil)) (.box rfl (.c rfl (.c rfl .nil)) .nil) rfl)))) ?_
  refine W.ret ?_
  obtain rfl := Option.some.inj h
  exact XQ.sub (σ' := ⟨[(0, .ptr 9000 0), (2, .v (Enc.err ET) v2.2)], [(9000, .box 134 [.v Q0 a0_0, .v Q1 a0_1] (some (A 9000)))]⟩) (Sw.Sub.mk id (.c rfl (.c rfl .nil)) (.box rfl (.c rfl (.c rfl .nil)) .nil) rfl) (XQ.retM1 hF rfl (RV.tmp rfl) (.cons rfl .nil))
 ·replace h := cond_f hc8 h
  refine W.condF rfl hc8 ?_
  refine W.skip ?_
  refine W.seq ?_
  obtain ⟨v9, hv9, h⟩ := bind_e h
  refine W.reg (σ' := ⟨[(0, .ptr 9000 0), (2, .v (Enc.err ET) v9.1)], [(9000, .box 134 [.v Q0 v9.2.1, .v Q1 v9.2.2] (some (A 9000)))]⟩) (J.k (JO.load rfl rfl rfl Try.isAgg83 Try.sizeOf83) (J.k (JO.mkClo (.adr rfl rfl) .nil (.l .self)) (J.k (JO.load rfl rfl rfl Try.isAgg83 Try.sizeOf83) (J.k (JO.mkClo (.adr rfl rfl) .nil (.r (.l .self))) (J.k (JO.mkClo .nil (.adr rfl rfl) (.r (.r .self))) (J.k (JO.lit (e := (eClo_store_Store_replay (A 9000) (c1))) Try.runUnderlying142 Try.sizeOf135 Try.zeroValue135 rfl rfl rfl rfl (.cons (.dir rfl) (.cons (.dir rfl) (.cons (.dir rfl) .nil)))) (J.t (JM.callMA (H := [9000, 101]) (K := [9000, 101]) [(9000, A 9000), (9100, c1)] (swp [(9000, 9000), (9100, 101)]) (swp_inj _) ⟨⟨_, _, rfl⟩, ⟨_, _, rfl⟩, trivial⟩ (ConM.at2 (ss := fun a9 p9 => [.v (Enc.sl (eClo_store_Store_replay a9 p9)) ([(.inl ((), ()) : Clo_store_Store_replay), (.inr (.inl ((), ())) : Clo_store_Store_replay), (.inr (.inr ((), ())) : Clo_store_Store_replay)] : (List Clo_store_Store_replay))]) (A 9000) c1 (fun A9 => con_store_all_store_Store_replay_io A9 hv9)) Try.call63 (.cons (.dir rfl) .nil) (fun _ => .box rfl (.box rfl .nil)) (fun _ => .box rfl (.box rfl .nil rfl) rfl) (fun _ => rfl) rfl rfl (fun _ => rfl) rfl rfl) (J.k (JO.assign rfl) (J.fin (Sw.Sub.mk id (.c rfl (.c rfl .nil)) (.box rfl (.c rfl (.c rfl .nil)) .nil) rfl)))))))))) ?_
  refine W.ret ?_
  obtain rfl := Option.some.inj h
  exact XQ.sub (σ' := ⟨[(0, .ptr 9000 0), (2, .v (Enc.err ET) v9.1)], [(9000, .box 134 [.v Q0 v9.2.1, .v Q1 v9.2.2] (some (A 9000)))]⟩) (Sw.Sub.mk id (.c rfl (.c rfl .nil)) (.box rfl (.c rfl (.c rfl .nil)) .nil) rfl) (XQ.retM1 hF rfl (RV.tmp rfl) (.cons rfl .nil))
def res_store_Open (r : (Option (Int × Q3)) × (Option Int)) : Slot := match r.1 with | none => .tup [.v (Enc.ptN (Enc.pr Q0 Q1)) (none : (Option (Int × Q3))), .v (Enc.err ET) r.2] | some z => .tup [.ptr 0 0, .v (Enc.err ET) r.2]
def new_store_Open (r : (Option (Int × Q3)) × (Option Int)) : List (Nat × Ent) := match r.1 with | none => [] | some z => [(0, .box 134 [.v Q0 z.1, .v Q1 z.2])]
set_option maxRecDepth 100000 in
set_option maxHeartbeats 4000000 in
theorem con_store_Open {a0 : Q3} {a1 : Int} {r : (Option (Int × Q3)) × (Option Int)} (h : m_store_Open a0 a1 = some r) :
  Con Try.prog 27 [.v Q1 a0, .v Q0 a1] (res_store_Open r) (new_store_Open r) := by
 refine Con.of Try.func27 rfl Try.ntmps27 rfl ?_
 intro S w hF
 unfold m_store_Open at h
 refine W.seq ?_
 refine W.reg (σ' := ⟨[(1, .v Q0 a1), (2, .ptr 101 0)], [(101, .box 80 [.v Q4 a0.1, .v Q2 a0.2.1, .v Q0 a0.2.2])]⟩) (J.k (JO.box 101 rfl (.prm (.one _ _) (.prm (.one _ _) (.one _ _))) rfl) (J.k (JO.assignPtN (Enc.pr Q0 Q1)) (J.k (JO.assignNilE ET) (J.fin (Sw.Sub.mk id (.c rfl (.c rfl .nil)) (.box rfl (.c rfl (.c rfl (.c rfl .nil))) .nil) rfl))))) ?_
 refine W.seq ?_
 obtain ⟨v1, hv1, h⟩ := bind_e h
 refine W.reg (σ' := ⟨[(1, .v Q0 a1), (2, .ptr 101 0), (6, .v Q0 v1.1), (7, .v (Enc.err ET) v1.2)], [(101, .box 80 [.v Q4 a0.1, .v Q2 a0.2.1, .v Q0 a0.2.2])]⟩) (J.mv rfl (J.k (JO.call0 (con_store_Need hv1) Try.call50 (.cons (.dir rfl) .nil)) (J.mv rfl (J.k (JO.extract rfl rfl) (J.k (JO.extract rfl rfl) (J.k (JO.assign rfl) (J.k (JO.assign rfl) (J.fin (Sw.Sub.mk id (.c rfl (.c rfl (.c rfl (.c rfl .nil)))) (.box rfl (.c rfl (.c rfl (.c rfl .nil))) .nil) rfl))))))))) ?_
 refine W.seq ?_
 refine W.seq ?_
 refine W.reg (σ' := ⟨[(1, .v Q0 a1), (2, .ptr 101 0), (6, .v Q0 v1.1), (7, .v (Enc.err ET) v1.2), (17, .v Enc.bool (Option.isSome v1.2))], [(101, .box 80 [.v Q4 a0.1, .v Q2 a0.2.1, .v Q0 a0.2.2])]⟩) (J.mv rfl (J.k (JO.errNe Try.runUnderlying34 rfl) (J.fin (Sw.Sub.mk id (.c rfl (.c rfl (.c rfl (.c rfl (.c rfl .nil))))) (.box rfl (.c rfl (.c rfl (.c rfl .nil))) .nil) rfl)))) ?_
 rcases Bool.eq_false_or_eq_true (Option.isSome v1.2) with hc2 | hc2
 ·replace h := cond_t hc2 h
  refine W.condT rfl hc2 ?_
  refine W.seq ?_
  refine W.reg (σ' := ⟨[(4, .v (Enc.ptN (Enc.pr Q0 Q1)) (none : (Option (Int × Q3)))), (5, .v (Enc.err ET) v1.2)], []⟩) (J.mv rfl (J.k (JO.assignPtN (Enc.pr Q0 Q1)) (J.k (JO.assign rfl) (J.fin (Sw.Sub.mk id (.c rfl (.c rfl .nil)) .nil rfl))))) ?_
  refine W.ret ?_
  obtain rfl := Option.some.inj h
  exact XQ.sub (σ' := ⟨[(4, .v (Enc.ptN (Enc.pr Q0 Q1)) (none : (Option (Int × Q3)))), (5, .v (Enc.err ET) v1.2)], []⟩) (Sw.Sub.mk id (.c rfl (.c rfl .nil)) .nil rfl) (XQ.ret2 hF noR rfl (RV.tmp rfl) (RV.tmp rfl) .nil rfl)
 ·replace h := cond_f hc2 h
  refine W.condF rfl hc2 ?_
  refine W.skip ?_
  refine W.seq ?_
  refine W.seq ?_
  obtain ⟨v3, hv3, h⟩ := bind_e h
  refine W.reg (σ' := ⟨[(1, .v Q0 a1), (2, .ptr 101 0), (6, .v Q0 v1.1), (8, .v (Enc.err ET) v3)], [(101, .box 80 [.v Q4 a0.1, .v Q2 a0.2.1, .v Q0 a0.2.2])]⟩) (J.k (JO.loadAll rfl rfl (.prm (.one _ _) (.prm (.one _ _) (.one _ _))) Try.isAgg80 Try.sizeOf80) (J.k (JO.call0 (con_disk_Check hv3) Try.call52 (.cons (.dir rfl) .nil)) (J.k (JO.assign rfl) (J.fin (Sw.Sub.mk id (.c rfl (.c rfl (.c rfl (.c rfl .nil)))) (.box rfl (.c rfl (.c rfl (.c rfl .nil))) .nil) rfl))))) ?_
  refine W.seq ?_
  obtain ⟨x6, hx, h⟩ := bind_e h
  refine W.reg (σ' := ⟨[(1, .v Q0 a1), (2, .ptr 101 0), (35, .v Enc.bool x6)], [(101, .box 80 [.v Q4 a0.1, .v Q2 a0.2.1, .v Q0 a0.2.2])]⟩) ?_ ?_
  ·rcases Bool.eq_false_or_eq_true (Option.isSome v3) with hc7 | hc7
   ·replace hx := cond_t hc7 hx
    obtain rfl := Option.some.inj hx
    exact (J.mv rfl (J.k (JO.errNe Try.runUnderlying34 rfl) (J.mv rfl (J.u 23 hc7 (J.u 23 hc7 (J.u 23 hc7 (J.u 23 hc7 (J.u 23 hc7 (J.k (JO.pT hc7 rfl rfl) (J.mv rfl (J.u 30 rfl (J.u 30 rfl (J.u 30 rfl (J.u 30 rfl (J.k (JO.pT rfl rfl rfl) (J.fin (Sw.Sub.mk id (.c rfl (.c rfl (.c rfl .nil))) (.box rfl (.c rfl (.c rfl (.c rfl .nil))) .nil) rfl)))))))))))))))))
   ·replace hx := cond_f hc7 hx
    rcases Bool.eq_false_or_eq_true (cm .neq (a0.1.length : Int) v1.1) with hc8 | hc8
    ·replace hx := cond_t hc8 hx
     obtain rfl := Option.some.inj hx
     exact (J.mv rfl (J.k (JO.errNe Try.runUnderlying34 rfl) (J.mv rfl (J.m 23 hc7 (JO.fieldPtr 0 rfl Try.runUnderlying80 rfl Try.sizeOf24 rfl rfl) (J.m 23 hc7 (JO.load rfl rfl rfl Try.isAgg24 Try.sizeOf24) (J.m 23 hc7 (JO.len rfl Try.runUnderlying24) (J.m 23 hc7 (JO.move rfl) (J.m 23 hc7 (JO.cmp rfl rfl rfl) (J.k (JO.pF hc7 rfl rfl) (J.mv rfl (J.u 30 hc8 (J.u 30 hc8 (J.u 30 hc8 (J.u 30 hc8 (J.k (JO.pT hc8 rfl rfl) (J.fin (Sw.Sub.mk id (.c rfl (.c rfl (.c rfl .nil))) (.box rfl (.c rfl (.c rfl (.c rfl .nil))) .nil) rfl)))))))))))))))))
    ·replace hx := cond_f hc8 hx
     obtain rfl := Option.some.inj hx
     exact (J.mv rfl (J.k (JO.errNe Try.runUnderlying34 rfl) (J.mv rfl (J.m 23 hc7 (JO.fieldPtr 0 rfl Try.runUnderlying80 rfl Try.sizeOf24 rfl rfl) (J.m 23 hc7 (JO.load rfl rfl rfl Try.isAgg24 Try.sizeOf24) (J.m 23 hc7 (JO.len rfl Try.runUnderlying24) (J.m 23 hc7 (JO.move rfl) (J.m 23 hc7 (JO.cmp rfl rfl rfl) (J.k (JO.pF hc7 rfl rfl) (J.mv rfl (J.m 30 hc8 (JO.fieldPtr 1 rfl Try.runUnderlying80 rfl Try.sizeOf26 rfl rfl) (J.m 30 hc8 (JO.load rfl rfl rfl Try.isAgg26 Try.sizeOf26) (J.m 30 hc8 (JO.len rfl Try.runUnderlying26) (J.m 30 hc8 (JO.cmp rfl rfl rfl) (J.k (JO.pF hc8 rfl rfl) (J.fin (Sw.Sub.mk id (.c rfl (.c rfl (.c rfl .nil))) (.box rfl (.c rfl (.c rfl (.c rfl .nil))) .nil) rfl)))))))))))))))))
  rcases Bool.eq_false_or_eq_true x6 with hc9 | hc9
  ·replace h := cond_t hc9 h
   refine W.condT rfl hc9 ?_
   refine W.seq ?_
   refine W.reg (σ' := ⟨[(4, .v (Enc.ptN (Enc.pr Q0 Q1)) (none : (Option (Int × Q3)))), (5, .v (Enc.err ET) (some (5 : Int)))], []⟩) (J.k (JO.mkErr Try.runUnderlying86 rfl) (J.k (JO.assignPtN (Enc.pr Q0 Q1)) (J.k (JO.assign rfl) (J.fin (Sw.Sub.mk id (.c rfl (.c rfl .nil)) .nil rfl))))) ?_
   refine W.ret ?_
   obtain rfl := Option.some.inj h
   exact XQ.sub (σ' := ⟨[(4, .v (Enc.ptN (Enc.pr Q0 Q1)) (none : (Option (Int × Q3)))), (5, .v (Enc.err ET) (some (5 : Int)))], []⟩) (Sw.Sub.mk id (.c rfl (.c rfl .nil)) .nil rfl) (XQ.ret2 hF noR rfl (RV.tmp rfl) (RV.tmp rfl) .nil rfl)
  ·replace h := cond_f hc9 h
   refine W.condF rfl hc9 ?_
   refine W.skip ?_
   refine W.seq ?_
   obtain ⟨v11, hv11, h⟩ := bind_e h
   refine W.dr3 [⟨0, 37, .v Q0 a1⟩, ⟨1, 38, .ptr 101 0⟩, ⟨2, 39, .v Q4 a0.1⟩, ⟨4, 41, .ptr 101 2⟩, ⟨5, 42, .v Q0 a0.2.2⟩] [3, 6, 7, 8, 9] [1, 2, 37, 38, 39, 41, 42] [101] [0, 0, 2, 6, 0, 16, 62, 127, 255, 511] mixed (by exact (QA.cons rfl (JO.move rfl) (QA.cons rfl (JO.fieldPtr 0 rfl Try.runUnderlying80 rfl Try.sizeOf24 rfl rfl) (QA.cons rfl (JO.load rfl rfl rfl Try.isAgg24 Try.sizeOf24) (QA.cons rfl (JO.fieldPtr 2 rfl Try.runUnderlying80 rfl Try.sizeOf3 rfl rfl) (QA.cons rfl (JO.load rfl rfl rfl Try.isAgg3 Try.sizeOf3) .nil)))))) (by exact (QB.cons rfl (JM.of_jo (JO.call 105000 (con_slices_Clone_api_Block_api_Block hv11) Try.call36 (.cons (.dir rfl) .nil) rfl) rfl rfl) ⟨rfl, rfl, rfl, rfl, rfl, rfl, rfl, trivial⟩ ⟨rfl, trivial⟩ (QB.cons rfl (JM.of_jo (JO.build built80 (.cons (Z.sl eBlk) (.cons (Z.sl Q6) (.cons (Z.int .i64) .nil))) (.cons rfl (.dir rfl) rfl rfl rfl rfl (.cons rfl (.dir rfl) rfl rfl rfl rfl .nil))) rfl rfl) ⟨rfl, rfl, rfl, rfl, rfl, rfl, rfl, trivial⟩ ⟨rfl, trivial⟩ (QB.sub (σ1 := ⟨[(1, .v Q0 a1), (2, .ptr 101 0), (35, .v Enc.bool x6), (37, .v Q0 a1), (38, .ptr 101 0), (39, .v Q4 a0.1), (40, .v Q4 v11), (41, .ptr 101 2), (42, .v Q0 a0.2.2), (43, .agg [.v Q4 v11, .v Q2 ([] : Q7), .v Q0 a0.2.2])], [(101, .box 80 [.v Q4 a0.1, .v Q2 a0.2.1, .v Q0 a0.2.2])]⟩) (Sw.Sub.mk id (.c rfl (.c rfl (.c rfl (.c rfl (.c rfl (.c rfl (.cons rfl (.frz rfl rfl) (.c rfl (.c rfl (.cons rfl (.agg (.cons (.frz rfl rfl) (.c rfl (.c rfl .nil)))) .nil)))))))))) (.box rfl (.c rfl (.c rfl (.c rfl .nil))) .nil) rfl) ⟨rfl, rfl, rfl, rfl, rfl, rfl, rfl, trivial⟩ ⟨rfl, trivial⟩ (QB.cons rfl (JM.of_jo (JO.build built134 (.cons (Z.int .i64) (.cons (Z.pr (Z.sl eBlk) (Z.pr (Z.sl Q6) (Z.int .i64))) .nil)) (.cons rfl (.dir rfl) rfl rfl rfl rfl (.cons rfl (.agg rfl (.same (.same (.same .nil))) (.prm (.one _ _) (.prm (.one _ _) (.one _ _))) rfl) rfl rfl rfl rfl .nil))) rfl rfl) ⟨rfl, rfl, rfl, rfl, rfl, rfl, rfl, trivial⟩ ⟨rfl, trivial⟩ (QB.cons rfl (JM.of_jo (JO.boxAgg 106 rfl rfl) rfl rfl) ⟨rfl, rfl, rfl, rfl, rfl, rfl, rfl, trivial⟩ ⟨rfl, trivial⟩ (QB.cons rfl (JM.of_jo (JO.assign rfl) rfl rfl) ⟨rfl, rfl, rfl, rfl, rfl, rfl, rfl, trivial⟩ ⟨rfl, trivial⟩ .nil))))))) rfl (by decide +kernel) (by kernel_rfl) (by kernel_rfl) ?_
   refine W.sub (σ' := ⟨[(9, .ptr 106 0)], [(106, .box 134 [.v Q0 a1, .v Q1 (v11, ([] : Q7), a0.2.2)])]⟩) (Sw.Sub.mk id (.c rfl .nil) (.box rfl (.c rfl (.c rfl .nil)) .nil) rfl) ?_
   refine W.seq ?_
   refine W.seq ?_
   obtain ⟨v12, hv12, h⟩ := bind_e h
   refine W.reg (σ' := ⟨[(9, .ptr 106 0), (10, .v (Enc.err ET) v12.1)], [(106, .box 134 [.v Q0 v12.2.1, .v Q1 v12.2.2])]⟩) (J.mv rfl (J.t (JM.callM (H := [106]) (K := [106]) (swp [(9000, 106)]) (swp_inj _) (fun A => con_store_Store_replay_io A hv12) Try.call53 (.cons (.dir rfl) .nil) (fun A => (.box rfl .nil)) (fun A => (.box rfl .nil rfl)) (fun _ => rfl) rfl rfl (fun _ => rfl) rfl rfl) (J.k (JO.assign rfl) (J.fin (Sw.Sub.mk id (.c rfl (.c rfl .nil)) (.box rfl (.c rfl (.c rfl .nil)) .nil) rfl))))) ?_
   refine W.seq ?_
   refine W.reg (σ' := ⟨[(9, .ptr 106 0), (10, .v (Enc.err ET) v12.1), (49, .v Enc.bool (Option.isSome v12.1))], [(106, .box 134 [.v Q0 v12.2.1, .v Q1 v12.2.2])]⟩) (J.mv rfl (J.k (JO.errNe Try.runUnderlying34 rfl) (J.fin (Sw.Sub.mk id (.c rfl (.c rfl (.c rfl .nil))) (.box rfl (.c rfl (.c rfl .nil)) .nil) rfl)))) ?_
   rcases Bool.eq_false_or_eq_true (Option.isSome v12.1) with hc13 | hc13
   ·replace h := cond_t hc13 h
    refine W.condT rfl hc13 ?_
    refine W.seq ?_
    refine W.reg (σ' := ⟨[(4, .v (Enc.ptN (Enc.pr Q0 Q1)) (none : (Option (Int × Q3)))), (5, .v (Enc.err ET) v12.1)], []⟩) (J.mv rfl (J.k (JO.assignPtN (Enc.pr Q0 Q1)) (J.k (JO.assign rfl) (J.fin (Sw.Sub.mk id (.c rfl (.c rfl .nil)) .nil rfl))))) ?_
    refine W.ret ?_
    obtain rfl := Option.some.inj h
    exact XQ.sub (σ' := ⟨[(4, .v (Enc.ptN (Enc.pr Q0 Q1)) (none : (Option (Int × Q3)))), (5, .v (Enc.err ET) v12.1)], []⟩) (Sw.Sub.mk id (.c rfl (.c rfl .nil)) .nil rfl) (XQ.ret2 hF noR rfl (RV.tmp rfl) (RV.tmp rfl) .nil rfl)
   ·replace h := cond_f hc13 h
    refine W.condF rfl hc13 ?_
    refine W.skip ?_
    refine W.seq ?_
    refine W.reg (σ' := ⟨[(4, .ptr 106 0), (5, .v (Enc.err ET) (none : Option Int))], [(106, .box 134 [.v Q0 v12.2.1, .v Q1 v12.2.2])]⟩) (J.mv rfl (J.k (JO.assign rfl) (J.k (JO.assignNilE ET) (J.fin (Sw.Sub.mk id (.c rfl (.c rfl .nil)) (.box rfl (.c rfl (.c rfl .nil)) .nil) rfl))))) ?_
    refine W.ret ?_
    obtain rfl := Option.some.inj h
    exact XQ.sub (σ' := ⟨[(4, .ptr 0 0), (5, .v (Enc.err ET) (none : Option Int))], [(0, .box 134 [.v Q0 v12.2.1, .v Q1 v12.2.2])]⟩) (Sw.Sub.mk (rn [(0, 106)]) (.c rfl (.c rfl .nil)) (.box rfl (.c rfl (.c rfl .nil)) .nil) rfl) (XQ.ret2 hF noR rfl (RV.tmp rfl) (RV.tmp rfl) (.cons rfl .nil) rfl)
theorem con_store_Open_n {a0 : Q3} {a1 : Int} {r : (Option (Int × Q3)) × (Option Int)} (hz : r.1 = none) (h : m_store_Open a0 a1 = some r) : Con Try.prog 27 [.v Q1 a0, .v Q0 a1] (.tup [.v (Enc.ptN (Enc.pr Q0 Q1)) (none : (Option (Int × Q3))), .v (Enc.err ET) r.2]) [] := by
 have := con_store_Open h
 unfold res_store_Open new_store_Open at this
 rw [hz] at this
 exact this
theorem con_store_Open_s {a0 : Q3} {a1 : Int} {r : (Option (Int × Q3)) × (Option Int)} {z : (Int × Q3)} (hz : r.1 = some z) (h : m_store_Open a0 a1 = some r) : Con Try.prog 27 [.v Q1 a0, .v Q0 a1] (.tup [.ptr 0 0, .v (Enc.err ET) r.2]) [(0, .box 134 [.v Q0 z.1, .v Q1 z.2])] := by
 have := con_store_Open h
 unfold res_store_Open new_store_Open at this
 rw [hz] at this
 exact this
set_option maxRecDepth 100000 in
set_option maxHeartbeats 4000000 in
theorem con_disk_Crash {a0 : Q3} {a1 : (List Int)} {r : Q3 × (Option Int)} (h : m_disk_Crash a0 a1 = some r) :
  Con Try.prog 28 [.v Q1 a0, .v Q5 a1] (.tup [.v Q1 r.1, .v (Enc.err ET) r.2]) [] := by
 refine Con.of Try.func28 rfl Try.ntmps28 rfl ?_
 intro S w hF
 unfold m_disk_Crash at h
 refine W.seq ?_
 refine W.reg (σ' := ⟨[(1, .v Q5 a1), (2, .ptr 101 0), (4, .ptr 102 0)], [(101, .box 80 [.v Q4 a0.1, .v Q2 a0.2.1, .v Q0 a0.2.2]), (102, .box 80 [.v Q4 ([] : (List Blk)), .v Q2 ([] : Q7), .v Q0 (0 : Int)])]⟩) (J.k (JO.box 101 rfl (.prm (.one _ _) (.prm (.one _ _) (.one _ _))) rfl) (J.k (JO.alloc 102 Try.zeroValue80 rfl (.cons (Z.sl eBlk) (.cons (Z.sl Q6) (.cons (Z.int .i64) .nil))) rfl) (J.k (JO.assignNilE ET) (J.fin (Sw.Sub.mk id (.c rfl (.c rfl (.c rfl .nil))) (.box rfl (.c rfl (.c rfl (.c rfl .nil))) (.box rfl (.c rfl (.c rfl (.c rfl .nil))) .nil)) rfl))))) ?_
 refine W.seq ?_
 refine W.seq ?_
 obtain ⟨v1, hv1, h⟩ := bind_e h
 refine W.reg (σ' := ⟨[(1, .v Q5 a1), (2, .ptr 101 0), (4, .ptr 102 0), (6, .v (Enc.err ET) v1)], [(101, .box 80 [.v Q4 a0.1, .v Q2 a0.2.1, .v Q0 a0.2.2]), (102, .box 80 [.v Q4 ([] : (List Blk)), .v Q2 ([] : Q7), .v Q0 (0 : Int)])]⟩) (J.k (JO.loadAll rfl rfl (.prm (.one _ _) (.prm (.one _ _) (.one _ _))) Try.isAgg80 Try.sizeOf80) (J.k (JO.call0 (con_disk_Check hv1) Try.call52 (.cons (.dir rfl) .nil)) (J.k (JO.assign rfl) (J.fin (Sw.Sub.mk id (.c rfl (.c rfl (.c rfl (.c rfl .nil)))) (.box rfl (.c rfl (.c rfl (.c rfl .nil))) (.box rfl (.c rfl (.c rfl (.c rfl .nil))) .nil)) rfl))))) ?_
 refine W.seq ?_
 refine W.reg (σ' := ⟨[(1, .v Q5 a1), (2, .ptr 101 0), (4, .ptr 102 0), (6, .v (Enc.err ET) v1), (13, .v Enc.bool (Option.isSome v1))], [(101, .box 80 [.v Q4 a0.1, .v Q2 a0.2.1, .v Q0 a0.2.2]), (102, .box 80 [.v Q4 ([] : (List Blk)), .v Q2 ([] : Q7), .v Q0 (0 : Int)])]⟩) (J.mv rfl (J.k (JO.errNe Try.runUnderlying34 rfl) (J.fin (Sw.Sub.mk id (.c rfl (.c rfl (.c rfl (.c rfl (.c rfl .nil))))) (.box rfl (.c rfl (.c rfl (.c rfl .nil))) (.box rfl (.c rfl (.c rfl (.c rfl .nil))) .nil)) rfl)))) ?_
 rcases Bool.eq_false_or_eq_true (Option.isSome v1) with hc2 | hc2
 ·replace h := cond_t hc2 h
  refine W.condT rfl hc2 ?_
  refine W.seq ?_
  refine W.reg (σ' := ⟨[(4, .ptr 102 0), (5, .v (Enc.err ET) v1)], [(102, .box 80 [.v Q4 ([] : (List Blk)), .v Q2 ([] : Q7), .v Q0 (0 : Int)])]⟩) (J.k (JO.build built80 (.cons (Z.sl eBlk) (.cons (Z.sl Q6) (.cons (Z.int .i64) .nil))) .nil) (J.mv rfl (J.t (JM.storeAgg rfl rfl rfl rfl rfl rfl Try.sizeOf80) (J.k (JO.assign rfl) (J.fin (Sw.Sub.mk id (.c rfl (.c rfl .nil)) (.box rfl (.c rfl (.c rfl (.c rfl .nil))) .nil) rfl)))))) ?_
  refine W.ret ?_
  obtain rfl := Option.some.inj h
  exact XQ.sub (σ' := ⟨[(4, .ptr 90 0), (5, .v (Enc.err ET) v1)], [(90, .box 80 [.v Q4 ([] : (List Blk)), .v Q2 ([] : Q7), .v Q0 (0 : Int)])]⟩) (Sw.Sub.mk (rn [(90, 102)]) (.c rfl (.c rfl .nil)) (.box rfl (.c rfl (.c rfl (.c rfl .nil))) .nil) rfl) (XQ.ret2 hF noR rfl (RV.cellAll rfl rfl (.prm (.one _ _) (.prm (.one _ _) (.one _ _))) Try.isAgg80 Try.sizeOf80) (RV.tmp rfl) .nil rfl)
 ·replace h := cond_f hc2 h
  refine W.condF rfl hc2 ?_
  refine W.skip ?_
  refine W.seq ?_
  obtain ⟨v3, hv3, h⟩ := bind_e h
  refine W.reg (σ' := ⟨[(1, .v Q5 a1), (2, .ptr 101 0), (4, .ptr 102 0)], [(101, .box 80 [.ref 104000, .ref 104001, .v Q0 v3.2.2]), (102, .box 80 [.v Q4 ([] : (List Blk)), .v Q2 ([] : Q7), .v Q0 (0 : Int)]), (104000, .arr 29 eBlk v3.1), (104001, .arr 41 Q6 v3.2.1)]⟩) (J.k (JO.loadAll rfl rfl (.prm (.one _ _) (.prm (.one _ _) (.one _ _))) Try.isAgg80 Try.sizeOf80) (J.k (JO.call 104000 (con_disk_clone hv3) Try.call54 (.cons (.dir rfl) .nil) rfl) (J.t (JM.storeAgg rfl rfl rfl rfl rfl rfl Try.sizeOf80) (J.fin (Sw.Sub.mk id (.c rfl (.c rfl (.c rfl .nil))) (.box rfl (.c rfl (.c rfl (.c rfl .nil))) (.box rfl (.c rfl (.c rfl (.c rfl .nil))) (.arr rfl (.arr rfl .nil)))) rfl))))) ?_
  refine W.seq ?_
  refine W.seq ?_
  refine W.reg (σ' := ⟨[(1, .v Q5 a1), (2, .ptr 101 0), (4, .ptr 102 0), (19, .ref 104001), (20, .v Q0 (v3.2.1.length : Int)), (21, .v Q0 (0 : Int))], [(101, .box 80 [.ref 104000, .ref 104001, .v Q0 v3.2.2]), (102, .box 80 [.v Q4 ([] : (List Blk)), .v Q2 ([] : Q7), .v Q0 (0 : Int)]), (104001, .arr 41 Q6 v3.2.1), (104000, .arr 29 eBlk v3.1)]⟩) (J.k (JO.fieldPtr 1 rfl Try.runUnderlying80 rfl Try.sizeOf26 rfl rfl) (J.k (JO.load rfl rfl rfl Try.isAgg26 Try.sizeOf26) (J.k (JO.lenR rfl rfl Try.runUnderlying26) (J.mv rfl (J.fin (Sw.Sub.mk id (.c rfl (.c rfl (.c rfl (.c rfl (.c rfl (.c rfl .nil)))))) (.box rfl (.c rfl (.c rfl (.c rfl .nil))) (.box rfl (.c rfl (.c rfl (.c rfl .nil))) (.arr rfl (.arr rfl .nil)))) rfl)))))) ?_
  obtain ⟨o43, ho43, hb43, hr43⟩ := lp_elim h
  refine W.lp (σs := fun s30 : Int × (List Blk) => ⟨[(1, .v Q5 a1), (2, .ptr 101 0), (4, .ptr 102 0), (19, .ref 104001), (20, .v Q0 (v3.2.1.length : Int)), (21, .v Q0 s30.1)], [(101, .box 80 [.ref 104000, .ref 104001, .v Q0 v3.2.2]), (102, .box 80 [.v Q4 ([] : (List Blk)), .v Q2 ([] : Q7), .v Q0 (0 : Int)]), (104001, .arr 41 Q6 v3.2.1), (104000, .arr 29 eBlk s30.2)]⟩) (fun x44 : (List Blk) => ⟨[(2, .ptr 101 0), (4, .ptr 102 0)], [(101, .box 80 [.ref 104000, .ref 104001, .v Q0 v3.2.2]), (102, .box 80 [.v Q4 ([] : (List Blk)), .v Q2 ([] : Q7), .v Q0 (0 : Int)]), (104000, .arr 29 eBlk x44), (104001, .arr 41 Q6 v3.2.1)]⟩) ho43 (Sw.Sub.mk id (.c rfl (.c rfl (.c rfl (.c rfl (.c rfl (.c rfl .nil)))))) (.box rfl (.c rfl (.c rfl (.c rfl .nil))) (.box rfl (.c rfl (.c rfl (.c rfl .nil))) (.arr rfl (.arr rfl .nil)))) rfl) ?_ ?_
  ·intro x44 hy
   have h := hb43 _ hy
   refine W.seq ?_
   refine W.reg (σ' := ⟨[(2, .ptr 101 0), (4, .ptr 102 0)], [(101, .box 80 [.ref 104000, .v Q2 ([] : Q7), .v Q0 (-1 : Int)]), (102, .box 80 [.v Q4 ([] : (List Blk)), .v Q2 ([] : Q7), .v Q0 (0 : Int)]), (104000, .arr 29 eBlk x44)]⟩) (J.k (JO.fieldPtr 1 rfl Try.runUnderlying80 rfl Try.sizeOf26 rfl rfl) (J.t (JM.storeA rfl rfl rfl (.nilS Q6) rfl rfl rfl Try.sizeOf26) (J.k (JO.fieldPtr 2 rfl Try.runUnderlying80 rfl Try.sizeOf3 rfl rfl) (J.t (JM.store rfl rfl rfl rfl rfl rfl rfl Try.sizeOf3) (J.fin (Sw.Sub.mk id (.c rfl (.c rfl .nil)) (.box rfl (.c rfl (.c rfl (.c rfl .nil))) (.box rfl (.c rfl (.c rfl (.c rfl .nil))) (.arr rfl .nil))) rfl)))))) ?_
   refine W.seq ?_
   refine W.reg (σ' := ⟨[(4, .ptr 102 0), (5, .v (Enc.err ET) (none : Option Int))], [(102, .box 80 [.ref 104000, .v Q2 ([] : Q7), .v Q0 (-1 : Int)]), (104000, .arr 29 eBlk x44)]⟩) (J.k (JO.loadAgg rfl rfl rfl Try.isAgg80 Try.sizeOf80) (J.t (JM.storeAgg rfl rfl rfl rfl rfl rfl Try.sizeOf80) (J.k (JO.assignNilE ET) (J.fin (Sw.Sub.mk id (.c rfl (.c rfl .nil)) (.box rfl (.c rfl (.c rfl (.c rfl .nil))) (.arr rfl .nil)) rfl))))) ?_
   refine W.ret ?_
   obtain rfl := Option.some.inj h
   exact XQ.sub (σ' := ⟨[(4, .ptr 90 0), (5, .v (Enc.err ET) (none : Option Int))], [(90, .box 80 [.v Q4 x44, .v Q2 ([] : Q7), .v Q0 (-1 : Int)])]⟩) (Sw.Sub.mk (rn [(90, 102)]) (.c rfl (.c rfl .nil)) (.box rfl (.cons (.frz rfl rfl) (.c rfl (.c rfl .nil))) .nil) rfl) (XQ.ret2 hF noR rfl (RV.cellAll rfl rfl (.prm (.one _ _) (.prm (.one _ _) (.one _ _))) Try.isAgg80 Try.sizeOf80) (RV.tmp rfl) .nil rfl)
  intro s30 r43 h
  refine W.seq ?_
  refine W.reg (σ' := ⟨[(1, .v Q5 a1), (2, .ptr 101 0), (4, .ptr 102 0), (19, .ref 104001), (20, .v Q0 (v3.2.1.length : Int)), (21, .v Q0 s30.1), (22, .v Enc.bool (cm .lss s30.1 (v3.2.1.length : Int)))], [(101, .box 80 [.ref 104000, .ref 104001, .v Q0 v3.2.2]), (102, .box 80 [.v Q4 ([] : (List Blk)), .v Q2 ([] : Q7), .v Q0 (0 : Int)]), (104001, .arr 41 Q6 v3.2.1), (104000, .arr 29 eBlk s30.2)]⟩) (J.k (JO.cmp rfl rfl rfl) (J.fin (Sw.Sub.mk id (.c rfl (.c rfl (.c rfl (.c rfl (.c rfl (.c rfl (.c rfl .nil))))))) (.box rfl (.c rfl (.c rfl (.c rfl .nil))) (.box rfl (.c rfl (.c rfl (.c rfl .nil))) (.arr rfl (.arr rfl .nil)))) rfl))) ?_
  refine W.seq ?_
  rcases Bool.eq_false_or_eq_true (cm .lss s30.1 (v3.2.1.length : Int)) with hc45 | hc45
  ·replace h := cond_t hc45 h
   refine W.condT rfl hc45 ?_
   refine W.skip ?_
   refine W.seq ?_
   refine W.block ?_
   refine W.seq ?_
   obtain ⟨z46, hz46, h⟩ := bind_e h
   refine W.reg (σ' := ⟨[(1, .v Q5 a1), (2, .ptr 101 0), (4, .ptr 102 0), (7, .v Q0 s30.1), (8, .ptr 108 0), (19, .ref 104001), (20, .v Q0 (v3.2.1.length : Int)), (21, .v Q0 s30.1)], [(101, .box 80 [.ref 104000, .ref 104001, .v Q0 v3.2.2]), (102, .box 80 [.v Q4 ([] : (List Blk)), .v Q2 ([] : Q7), .v Q0 (0 : Int)]), (108, .box 41 [.v Q0 z46.1, .v eBlk z46.2]), (104001, .arr 41 Q6 v3.2.1), (104000, .arr 29 eBlk s30.2)]⟩) (J.mv rfl (J.k (JO.idxR hz46 rfl rfl rfl Try.runUnderlying26 Try.sizeOf41) (J.k (JO.loadEl (idx_some hz46).2.2 rfl rfl .here Try.isAgg41 Try.sizeOf41) (J.k (JO.alloc 108 Try.zeroValue41 rfl (.cons (Z.int .i64) (.cons (Z.arr 8 (Z.int .u8)) .nil)) rfl) (J.k (JO.assign rfl) (J.t (JM.storeAll rfl rfl rfl rfl (.prm (.one _ _) (.one _ _)) Try.sizeOf41) (J.fin (Sw.Sub.mk id (.c rfl (.c rfl (.c rfl (.c rfl (.c rfl (.c rfl (.c rfl (.c rfl .nil)))))))) (.box rfl (.c rfl (.c rfl (.c rfl .nil))) (.box rfl (.c rfl (.c rfl (.c rfl .nil))) (.box rfl (.c rfl (.c rfl .nil)) (.arr rfl (.arr rfl .nil))))) rfl)))))))) ?_
   refine W.seq ?_
   refine W.reg (σ' := ⟨[(1, .v Q5 a1), (2, .ptr 101 0), (4, .ptr 102 0), (7, .v Q0 s30.1), (8, .ptr 108 0), (9, .v Q0 (0 : Int)), (19, .ref 104001), (20, .v Q0 (v3.2.1.length : Int)), (21, .v Q0 s30.1)], [(101, .box 80 [.ref 104000, .ref 104001, .v Q0 v3.2.2]), (102, .box 80 [.v Q4 ([] : (List Blk)), .v Q2 ([] : Q7), .v Q0 (0 : Int)]), (108, .box 41 [.v Q0 z46.1, .v eBlk z46.2]), (104001, .arr 41 Q6 v3.2.1), (104000, .arr 29 eBlk s30.2)]⟩) (J.k (JO.assign rfl) (J.fin (Sw.Sub.mk id (.c rfl (.c rfl (.c rfl (.c rfl (.c rfl (.c rfl (.c rfl (.c rfl (.c rfl .nil))))))))) (.box rfl (.c rfl (.c rfl (.c rfl .nil))) (.box rfl (.c rfl (.c rfl (.c rfl .nil))) (.box rfl (.c rfl (.c rfl .nil)) (.arr rfl (.arr rfl .nil))))) rfl))) ?_
   refine W.seq ?_
   refine W.seq ?_
   refine W.reg (σ' := ⟨[(1, .v Q5 a1), (2, .ptr 101 0), (4, .ptr 102 0), (7, .v Q0 s30.1), (8, .ptr 108 0), (9, .v Q0 (0 : Int)), (19, .ref 104001), (20, .v Q0 (v3.2.1.length : Int)), (21, .v Q0 s30.1), (29, .v Enc.bool (cm .lss s30.1 (a1.length : Int)))], [(101, .box 80 [.ref 104000, .ref 104001, .v Q0 v3.2.2]), (102, .box 80 [.v Q4 ([] : (List Blk)), .v Q2 ([] : Q7), .v Q0 (0 : Int)]), (108, .box 41 [.v Q0 z46.1, .v eBlk z46.2]), (104001, .arr 41 Q6 v3.2.1), (104000, .arr 29 eBlk s30.2)]⟩) (J.mv rfl (J.mv rfl (J.k (JO.len rfl Try.runUnderlying22) (J.k (JO.cmp rfl rfl rfl) (J.fin (Sw.Sub.mk id (.c rfl (.c rfl (.c rfl (.c rfl (.c rfl (.c rfl (.c rfl (.c rfl (.c rfl (.c rfl .nil)))))))))) (.box rfl (.c rfl (.c rfl (.c rfl .nil))) (.box rfl (.c rfl (.c rfl (.c rfl .nil))) (.box rfl (.c rfl (.c rfl .nil)) (.arr rfl (.arr rfl .nil))))) rfl)))))) ?_
   obtain ⟨k50, hk50, h⟩ := jp_elim h
   refine W.jn (fun x51 : Int => ⟨[(1, .v Q5 a1), (2, .ptr 101 0), (4, .ptr 102 0), (8, .ptr 108 0), (9, .v Q0 x51), (19, .ref 104001), (20, .v Q0 (v3.2.1.length : Int)), (21, .v Q0 s30.1)], [(101, .box 80 [.ref 104000, .ref 104001, .v Q0 v3.2.2]), (102, .box 80 [.v Q4 ([] : (List Blk)), .v Q2 ([] : Q7), .v Q0 (0 : Int)]), (108, .box 41 [.v Q0 z46.1, .v eBlk z46.2]), (104001, .arr 41 Q6 v3.2.1), (104000, .arr 29 eBlk s30.2)]⟩) (fun x => k50 x = some r43) rfl ?_ ?_ ?_
   ·intro x51 h
    rw [hk50] at h
    obtain ⟨z54, hz54, h⟩ := bind_e h
    obtain ⟨v55, hv55, h⟩ := bind_e h
    obtain ⟨v56, hv56, h⟩ := bind_e h
    refine W.dr2 (σ' := ⟨[(1, .v Q5 a1), (2, .ptr 101 0), (4, .ptr 102 0), (19, .ref 104001), (20, .v Q0 (v3.2.1.length : Int)), (21, .v Q0 s30.1)], [(101, .box 80 [.ref 104000, .ref 104001, .v Q0 v3.2.2]), (102, .box 80 [.v Q4 ([] : (List Blk)), .v Q2 ([] : Q7), .v Q0 (0 : Int)]), (104001, .arr 41 Q6 v3.2.1), (104000, .arr 29 eBlk (List.set s30.2 (Int.toNat z46.1) (Sw.cpy (Int.toNat x51) (List.take (Int.toNat x51) z46.2) z54)))]⟩) 10 [0, 1, 0, 4, 15, 0, 63, 0, 0, 384, 1023] mixed (by exact (.cons (.none rfl) (JO.fieldPtr 0 rfl Try.runUnderlying80 rfl Try.sizeOf24 rfl rfl) rfl rfl (.cons (.none rfl) (JO.load rfl rfl rfl Try.isAgg24 Try.sizeOf24) rfl rfl (.cons (.none rfl) (JO.fieldPtr 0 rfl Try.runUnderlying41 rfl Try.sizeOf3 rfl rfl) rfl rfl (.cons (.none rfl) (JO.load rfl rfl rfl Try.isAgg3 Try.sizeOf3) rfl rfl (.cons (.none rfl) (JO.idxR hz54 rfl rfl rfl Try.runUnderlying24 Try.sizeOf29) rfl rfl (.cons (.none rfl) (JO.move rfl) rfl rfl (.cons (.none rfl) (JO.slElH hv55 rfl rfl rfl Try.runUnderlying29 Try.sizeOf5) rfl rfl (.cons (.none rfl) (JO.fieldPtr 1 rfl Try.runUnderlying41 rfl Try.sizeOf29 rfl rfl) rfl rfl (.cons (.none rfl) (JO.move rfl) rfl rfl (.cons (.none rfl) (JO.aslH hv56 rfl rfl rfl rfl Try.runUnderlying29 Try.sizeOf5) rfl rfl .nil))))))))))) (by exact (J.t (JM.copyEl (idx_some hz54).2.2 (Int.toNat_le.2 (upto_some hv55).2) rfl rfl (.aslH rfl rfl rfl rfl (Int.toNat_le.2 (upto_some hv56).2)) Try.runUnderlying62 Try.sizeOf5 (by rw [List.length_take]; exact Nat.le_trans (Nat.min_le_left _ _) (Int.toNat_le.2 (upto_some hv56).2)) rfl rfl) (J.fin (Sw.Sub.mk id (.c rfl (.c rfl (.c rfl (.c rfl (.c rfl (.c rfl .nil)))))) (.box rfl (.c rfl (.c rfl (.c rfl .nil))) (.box rfl (.c rfl (.c rfl (.c rfl .nil))) (.arr rfl (.arr rfl .nil)))) rfl)))) rfl (by decide +kernel) (by decide +kernel) (by decide +kernel) (by kernel_rfl) ?_
    refine W.fall ?_
    refine W.reg (σ' := ⟨[(1, .v Q5 a1), (2, .ptr 101 0), (4, .ptr 102 0), (19, .ref 104001), (20, .v Q0 (v3.2.1.length : Int)), (21, .v Q0 (ar .add .i64 s30.1 (1 : Int)))], [(101, .box 80 [.ref 104000, .ref 104001, .v Q0 v3.2.2]), (102, .box 80 [.v Q4 ([] : (List Blk)), .v Q2 ([] : Q7), .v Q0 (0 : Int)]), (104001, .arr 41 Q6 v3.2.1), (104000, .arr 29 eBlk (List.set s30.2 (Int.toNat z46.1) (Sw.cpy (Int.toNat x51) (List.take (Int.toNat x51) z46.2) z54)))]⟩) (J.k (JO.arith rfl rfl rfl) (J.mv rfl (J.fin (Sw.Sub.mk id (.c rfl (.c rfl (.c rfl (.c rfl (.c rfl (.c rfl .nil)))))) (.box rfl (.c rfl (.c rfl (.c rfl .nil))) (.box rfl (.c rfl (.c rfl (.c rfl .nil))) (.arr rfl (.arr rfl .nil)))) rfl)))) ?_
    obtain rfl := Option.some.inj h
    exact W.next (Sw.Sub.mk id (.c rfl (.c rfl (.c rfl (.c rfl (.c rfl (.c rfl .nil)))))) (.box rfl (.c rfl (.c rfl (.c rfl .nil))) (.box rfl (.c rfl (.c rfl (.c rfl .nil))) (.arr rfl (.arr rfl .nil)))) rfl)
   ·intro hc47
    replace h := cond_t hc47 h
    obtain ⟨z52, hz52, h⟩ := bind_e h
    obtain ⟨z53, hz53, h⟩ := bind_e h
    refine W.dr2 (σ' := ⟨[(1, .v Q5 a1), (2, .ptr 101 0), (4, .ptr 102 0), (8, .ptr 108 0), (9, .v Q0 (ar .rem .i64 (max z52 (IntKind.wrap .i64 (0 - (ar .add .i64 z53 (1 : Int))))) (9 : Int))), (19, .ref 104001), (20, .v Q0 (v3.2.1.length : Int)), (21, .v Q0 s30.1)], [(101, .box 80 [.ref 104000, .ref 104001, .v Q0 v3.2.2]), (102, .box 80 [.v Q4 ([] : (List Blk)), .v Q2 ([] : Q7), .v Q0 (0 : Int)]), (108, .box 41 [.v Q0 z46.1, .v eBlk z46.2]), (104001, .arr 41 Q6 v3.2.1), (104000, .arr 29 eBlk s30.2)]⟩) 13 [0, 0, 3, 7, 0, 0, 48, 112, 240, 496, 1023, 2047, 4095] mixed (by exact (.cons (.none rfl) (JO.move rfl) rfl rfl (.cons (.none rfl) (JO.move rfl) rfl rfl (.cons (.none rfl) (JO.idx hz52 rfl rfl Try.runUnderlying22 Try.sizeOf3) rfl rfl (.cons (.none rfl) (JO.loadPst rfl Try.isAgg3 Try.sizeOf3) rfl rfl (.cons (.none rfl) (JO.move rfl) rfl rfl (.cons (.none rfl) (JO.move rfl) rfl rfl (.cons (.none rfl) (JO.idx hz53 rfl rfl Try.runUnderlying22 Try.sizeOf3) rfl rfl (.cons (.none rfl) (JO.loadPst rfl Try.isAgg3 Try.sizeOf3) rfl rfl (.cons (.none rfl) (JO.arith rfl rfl rfl) rfl rfl (.cons (.none rfl) (JO.neg rfl) rfl rfl (.cons (.none rfl) (JO.gmax rfl rfl) rfl rfl (.cons (.none rfl) (JO.div (.inr rfl) (by decide) rfl rfl) rfl rfl (.cons (.none rfl) (JO.assign rfl) rfl rfl .nil)))))))))))))) (by exact (J.fin (Sw.Sub.mk id (.c rfl (.c rfl (.c rfl (.c rfl (.c rfl (.c rfl (.c rfl (.c rfl .nil)))))))) (.box rfl (.c rfl (.c rfl (.c rfl .nil))) (.box rfl (.c rfl (.c rfl (.c rfl .nil))) (.box rfl (.c rfl (.c rfl .nil)) (.arr rfl (.arr rfl .nil))))) rfl))) rfl (by decide +kernel) (by decide +kernel) (by decide +kernel) (by kernel_rfl) ?_
    exact W.jfall h (Sw.Sub.mk id (.c rfl (.c rfl (.c rfl (.c rfl (.c rfl (.c rfl (.c rfl (.c rfl .nil)))))))) (.box rfl (.c rfl (.c rfl (.c rfl .nil))) (.box rfl (.c rfl (.c rfl (.c rfl .nil))) (.box rfl (.c rfl (.c rfl .nil)) (.arr rfl (.arr rfl .nil))))) rfl)
   ·intro hc47
    replace h := cond_f hc47 h
    refine W.skip ?_
    exact W.jfall h (Sw.Sub.mk id (.c rfl (.c rfl (.c rfl (.c rfl (.c rfl (.c rfl (.c rfl (.c rfl .nil)))))))) (.box rfl (.c rfl (.c rfl (.c rfl .nil))) (.box rfl (.c rfl (.c rfl (.c rfl .nil))) (.box rfl (.c rfl (.c rfl .nil)) (.arr rfl (.arr rfl .nil))))) rfl)
  ·replace h := cond_f hc45 h
   refine W.condF rfl hc45 ?_
   refine W.exit ?_
   obtain rfl := Option.some.inj h
   exact XQ.brk (Sw.Sub.mk id (.c rfl (.c rfl .nil)) (.box rfl (.c rfl (.c rfl (.c rfl .nil))) (.box rfl (.c rfl (.c rfl (.c rfl .nil))) (.arr rfl (.arr rfl .nil)))) rfl)
set_option maxRecDepth 100000 in
set_option maxHeartbeats 4000000 in
theorem con_ref_Raw {a0 : (List Int)} {a1 : Int} {r : Int} (h : m_ref_Raw a0 a1 = some r) :
  Con Try.prog 22 [.v Q5 a0, .v Q0 a1] (.v Q0 r) [] := by
 refine Con.of Try.func22 rfl Try.ntmps22 rfl ?_
 intro S w hF
 unfold m_ref_Raw at h
 refine W.seq ?_
 refine W.reg (σ' := ⟨[(0, .v Q5 a0), (1, .v Q0 a1)], []⟩) (J.k (JO.assign rfl) (J.fin (Sw.Sub.mk id (.c rfl (.c rfl .nil)) .nil rfl))) ?_
 refine W.seq ?_
 refine W.seq ?_
 refine W.reg (σ' := ⟨[(0, .v Q5 a0), (1, .v Q0 a1), (7, .v Enc.bool (cm .eql (a0.length : Int) (0 : Int)))], []⟩) (J.mv rfl (J.k (JO.len rfl Try.runUnderlying22) (J.k (JO.cmp rfl rfl rfl) (J.fin (Sw.Sub.mk id (.c rfl (.c rfl (.c rfl .nil))) .nil rfl))))) ?_
 rcases Bool.eq_false_or_eq_true (cm .eql (a0.length : Int) (0 : Int)) with hc1 | hc1
 ·replace h := cond_t hc1 h
  refine W.condT rfl hc1 ?_
  refine W.seq ?_
  refine W.reg (σ' := ⟨[(4, .v Q0 (ar .mul .i64 a1 (31 : Int)))], []⟩) (J.mv rfl (J.k (JO.arith rfl rfl rfl) (J.k (JO.assign rfl) (J.fin (Sw.Sub.mk id (.c rfl .nil) .nil rfl))))) ?_
  refine W.ret ?_
  obtain rfl := Option.some.inj h
  exact XQ.sub (σ' := ⟨[(4, .v Q0 (ar .mul .i64 a1 (31 : Int)))], []⟩) (Sw.Sub.mk id (.c rfl .nil) .nil rfl) (XQ.ret1 hF noR rfl (RV.tmp rfl) .nil rfl)
 ·replace h := cond_f hc1 h
  refine W.condF rfl hc1 ?_
  refine W.skip ?_
  refine W.seq ?_
  obtain ⟨u2, hu2, h⟩ := bind_e h
  obtain ⟨z3, hz3, h⟩ := bind_e h
  obtain ⟨v4, hv4, h⟩ := bind_e h
  obtain ⟨u5, hu5, h⟩ := bind_e h
  refine W.dr2 (σ' := ⟨[(4, .v Q0 (ar .add .i64 v4 (ar .mul .i64 (ar .quo .i64 a1 (a0.length : Int)) (7919 : Int))))], []⟩) 15 [0, 0, 0, 4, 14, 31, 63, 127, 0, 0, 512, 1792, 3840, 8191, 16383] mixed (by exact (.cons (.none rfl) (JO.move rfl) rfl rfl (.cons (.none rfl) (JO.move rfl) rfl rfl (.cons (.none rfl) (JO.move rfl) rfl rfl (.cons (.none rfl) (JO.len rfl Try.runUnderlying22) rfl rfl (.cons (.none rfl) (JO.div (.inr rfl) (nz_some hu2) rfl rfl) rfl rfl (.cons (.none rfl) (JO.idx hz3 rfl rfl Try.runUnderlying22 Try.sizeOf3) rfl rfl (.cons (.none rfl) (JO.loadPst rfl Try.isAgg3 Try.sizeOf3) rfl rfl (.cons (.none rfl) (JO.call0 (con_ref_Pick hv4) Try.call8 (.cons (.dir rfl) (.cons (.dir rfl) .nil))) rfl rfl (.cons (.none rfl) (JO.move rfl) rfl rfl (.cons (.none rfl) (JO.move rfl) rfl rfl (.cons (.none rfl) (JO.len rfl Try.runUnderlying22) rfl rfl (.cons (.none rfl) (JO.div (.inl rfl) (nz_some hu5) rfl rfl) rfl rfl (.cons (.none rfl) (JO.arith rfl rfl rfl) rfl rfl (.cons (.none rfl) (JO.arith rfl rfl rfl) rfl rfl (.cons (.none rfl) (JO.assign rfl) rfl rfl .nil)))))))))))))))) (by exact (J.fin (Sw.Sub.mk id (.c rfl .nil) .nil rfl))) rfl (by decide +kernel) (by decide +kernel) (by decide +kernel) (by kernel_rfl) ?_
  refine W.ret ?_
  obtain rfl := Option.some.inj h
  exact XQ.sub (σ' := ⟨[(4, .v Q0 (ar .add .i64 v4 (ar .mul .i64 (ar .quo .i64 a1 (a0.length : Int)) (7919 : Int))))], []⟩) (Sw.Sub.mk id (.c rfl .nil) .nil rfl) (XQ.ret1 hF noR rfl (RV.tmp rfl) .nil rfl)
set_option maxRecDepth 100000 in
set_option maxHeartbeats 4000000 in
theorem con_ref_BlockFrom {a0 : (List Int)} {a1 : Int} {r : Blk} (h : m_ref_BlockFrom a0 a1 = some r) :
  Con Try.prog 11 [.v Q5 a0, .v Q0 a1] (.v eBlk r) [] := by
 refine Con.of Try.func11 rfl Try.ntmps11 rfl ?_
 intro S w hF
 unfold m_ref_BlockFrom at h
 refine W.seq ?_
 refine W.reg (σ' := ⟨[(0, .v Q5 a0), (1, .v Q0 a1), (4, .ptr 101 0)], [(101, .box 29 [.v eBlk zblk])]⟩) (J.k (JO.alloc 101 Try.zeroValue29 rfl (.cons (Z.arr 8 (Z.int .u8)) .nil) rfl) (J.fin (Sw.Sub.mk id (.c rfl (.c rfl (.c rfl .nil))) (.box rfl (.c rfl .nil) .nil) rfl))) ?_
 refine W.seq ?_
 refine W.reg (σ' := ⟨[(0, .v Q5 a0), (1, .v Q0 a1), (4, .ptr 101 0), (5, .ptr 102 0)], [(101, .box 29 [.v eBlk zblk]), (102, .box 29 [.v eBlk zblk])]⟩) (J.k (JO.zeroArr (e := eBlk) (v := zblk) Try.typeInfo29 Try.runUnderlying29 Try.typeInfo5 rfl rfl (Z.arr 8 (Z.int .u8))) (J.k (JO.alloc 102 Try.zeroValue29 rfl (.cons (Z.arr 8 (Z.int .u8)) .nil) rfl) (J.t (JM.store rfl rfl rfl rfl rfl rfl rfl Try.sizeOf29) (J.fin (Sw.Sub.mk id (.c rfl (.c rfl (.c rfl (.c rfl .nil)))) (.box rfl (.c rfl .nil) (.box rfl (.c rfl .nil) .nil)) rfl))))) ?_
 refine W.seq ?_
 obtain ⟨v1, hv1, h⟩ := bind_e h
 refine W.reg (σ' := ⟨[(0, .v Q5 a0), (1, .v Q0 a1), (4, .ptr 101 0), (5, .ptr 102 0), (6, .v Q0 v1)], [(101, .box 29 [.v eBlk zblk]), (102, .box 29 [.v eBlk zblk])]⟩) (J.mv rfl (J.mv rfl (J.k (JO.call0 (con_ref_Raw hv1) Try.call22 (.cons (.dir rfl) (.cons (.dir rfl) .nil))) (J.k (JO.assign rfl) (J.fin (Sw.Sub.mk id (.c rfl (.c rfl (.c rfl (.c rfl (.c rfl .nil))))) (.box rfl (.c rfl .nil) (.box rfl (.c rfl .nil) .nil)) rfl)))))) ?_
 refine W.seq ?_
 refine W.seq ?_
 refine W.reg (σ' := ⟨[(0, .v Q5 a0), (1, .v Q0 a1), (4, .ptr 101 0), (5, .ptr 102 0), (6, .v Q0 v1), (14, .v Enc.bool (cm .eql (ar .rem .i64 v1 (3 : Int)) (0 : Int)))], [(101, .box 29 [.v eBlk zblk]), (102, .box 29 [.v eBlk zblk])]⟩) (J.mv rfl (J.k (JO.div (.inr rfl) (by decide) rfl rfl) (J.k (JO.cmp rfl rfl rfl) (J.fin (Sw.Sub.mk id (.c rfl (.c rfl (.c rfl (.c rfl (.c rfl (.c rfl .nil)))))) (.box rfl (.c rfl .nil) (.box rfl (.c rfl .nil) .nil)) rfl))))) ?_
 rcases Bool.eq_false_or_eq_true (cm .eql (ar .rem .i64 v1 (3 : Int)) (0 : Int)) with hc2 | hc2
 ·replace h := cond_t hc2 h
  refine W.condT rfl hc2 ?_
  refine W.seq ?_
  refine W.reg (σ' := ⟨[(4, .ptr 101 0)], [(101, .box 29 [.v eBlk zblk])]⟩) (J.k (JO.load rfl rfl rfl Try.isAgg29 Try.sizeOf29) (J.t (JM.store rfl rfl rfl rfl rfl rfl rfl Try.sizeOf29) (J.fin (Sw.Sub.mk id (.c rfl .nil) (.box rfl (.c rfl .nil) .nil) rfl)))) ?_
  refine W.ret ?_
  obtain rfl := Option.some.inj h
  exact XQ.sub (σ' := ⟨[(4, .ptr 90 0)], [(90, .box 29 [.v eBlk zblk])]⟩) (Sw.Sub.mk (rn [(90, 101)]) (.c rfl .nil) (.box rfl (.c rfl .nil) .nil) rfl) (XQ.ret1 hF noR rfl (RV.cellAt rfl rfl rfl Try.isAgg29 Try.sizeOf29) .nil rfl)
 ·replace h := cond_f hc2 h
  refine W.condF rfl hc2 ?_
  refine W.skip ?_
  refine W.seq ?_
  obtain ⟨z3, hz3, h⟩ := bind_e h
  refine W.reg (σ' := ⟨[(0, .v Q5 a0), (1, .v Q0 a1), (4, .ptr 101 0), (5, .ptr 102 0), (6, .v Q0 v1)], [(101, .box 29 [.v eBlk zblk]), (102, .box 29 [.v eBlk (List.set zblk (Int.toNat (0 : Int)) (IntKind.wrap .u8 (ar .add .i64 (1 : Int) (ar .rem .i64 (ar .quo .i64 v1 (3 : Int)) (5 : Int)))))])]⟩) (J.mv rfl (J.k (JO.div (.inl rfl) (by decide) rfl rfl) (J.k (JO.div (.inr rfl) (by decide) rfl rfl) (J.k (JO.arith rfl rfl rfl) (J.k (JO.conv Try.runUnderlying3 Try.runUnderlying5 rfl) (J.k (JO.idxBox hz3 rfl rfl rfl rfl Try.runUnderlying29 Try.sizeOf5) (J.t (JM.storePel (idx_some hz3).2.2 rfl rfl rfl rfl Try.sizeOf5) (J.fin (Sw.Sub.mk id (.c rfl (.c rfl (.c rfl (.c rfl (.c rfl .nil))))) (.box rfl (.c rfl .nil) (.box rfl (.c rfl .nil) .nil)) rfl))))))))) ?_
  refine W.seq ?_
  refine W.seq ?_
  refine W.reg (σ' := ⟨[(0, .v Q5 a0), (1, .v Q0 a1), (4, .ptr 101 0), (5, .ptr 102 0), (24, .v Enc.bool (cm .eql (ar .rem .i64 v1 (3 : Int)) (2 : Int)))], [(101, .box 29 [.v eBlk zblk]), (102, .box 29 [.v eBlk (List.set zblk (Int.toNat (0 : Int)) (IntKind.wrap .u8 (ar .add .i64 (1 : Int) (ar .rem .i64 (ar .quo .i64 v1 (3 : Int)) (5 : Int)))))])]⟩) (J.mv rfl (J.k (JO.div (.inr rfl) (by decide) rfl rfl) (J.k (JO.cmp rfl rfl rfl) (J.fin (Sw.Sub.mk id (.c rfl (.c rfl (.c rfl (.c rfl (.c rfl .nil))))) (.box rfl (.c rfl .nil) (.box rfl (.c rfl .nil) .nil)) rfl))))) ?_
  obtain ⟨k22, hk22, h⟩ := jp_elim h
  refine W.jn (fun x23 : Blk => ⟨[(4, .ptr 101 0), (5, .ptr 102 0)], [(101, .box 29 [.v eBlk zblk]), (102, .box 29 [.v eBlk x23])]⟩) (fun x => k22 x = some r) rfl ?_ ?_ ?_
  ·intro x23 h
   rw [hk22] at h
   refine W.seq ?_
   refine W.reg (σ' := ⟨[(4, .ptr 101 0)], [(101, .box 29 [.v eBlk x23])]⟩) (J.k (JO.load rfl rfl rfl Try.isAgg29 Try.sizeOf29) (J.t (JM.store rfl rfl rfl rfl rfl rfl rfl Try.sizeOf29) (J.fin (Sw.Sub.mk id (.c rfl .nil) (.box rfl (.c rfl .nil) .nil) rfl)))) ?_
   refine W.ret ?_
   obtain rfl := Option.some.inj h
   exact XQ.sub (σ' := ⟨[(4, .ptr 90 0)], [(90, .box 29 [.v eBlk x23])]⟩) (Sw.Sub.mk (rn [(90, 101)]) (.c rfl .nil) (.box rfl (.c rfl .nil) .nil) rfl) (XQ.ret1 hF noR rfl (RV.cellAt rfl rfl rfl Try.isAgg29 Try.sizeOf29) .nil rfl)
  ·intro hc4
   replace h := cond_t hc4 h
   refine W.seq ?_
   refine W.reg (σ' := ⟨[(0, .v Q5 a0), (1, .v Q0 a1), (4, .ptr 101 0), (5, .ptr 102 0), (7, .v Q0 (1 : Int))], [(101, .box 29 [.v eBlk zblk]), (102, .box 29 [.v eBlk (List.set zblk (Int.toNat (0 : Int)) (IntKind.wrap .u8 (ar .add .i64 (1 : Int) (ar .rem .i64 (ar .quo .i64 v1 (3 : Int)) (5 : Int)))))])]⟩) (J.k (JO.assign rfl) (J.fin (Sw.Sub.mk id (.c rfl (.c rfl (.c rfl (.c rfl (.c rfl .nil))))) (.box rfl (.c rfl .nil) (.box rfl (.c rfl .nil) .nil)) rfl))) ?_
   obtain ⟨o36, ho36, hb36, hr36⟩ := lp_elim h
   refine W.lp (σs := fun s32 : Int × Blk => ⟨[(0, .v Q5 a0), (1, .v Q0 a1), (4, .ptr 101 0), (5, .ptr 102 0), (7, .v Q0 s32.1)], [(101, .box 29 [.v eBlk zblk]), (102, .box 29 [.v eBlk s32.2])]⟩) (fun x37 : Blk => ⟨[(4, .ptr 101 0), (5, .ptr 102 0)], [(101, .box 29 [.v eBlk zblk]), (102, .box 29 [.v eBlk x37])]⟩) ho36 (Sw.Sub.mk id (.c rfl (.c rfl (.c rfl (.c rfl (.c rfl .nil))))) (.box rfl (.c rfl .nil) (.box rfl (.c rfl .nil) .nil)) rfl) ?_ ?_
   ·intro x37 hy
    have h := hb36 _ hy
    exact W.jfall h (Sw.Sub.mk id (.c rfl (.c rfl .nil)) (.box rfl (.c rfl .nil) (.box rfl (.c rfl .nil) .nil)) rfl)
   intro s32 r36 h
   refine W.seq ?_
   refine W.seq ?_
   refine W.reg (σ' := ⟨[(0, .v Q5 a0), (1, .v Q0 a1), (4, .ptr 101 0), (5, .ptr 102 0), (7, .v Q0 s32.1), (26, .v Enc.bool (cm .lss s32.1 (8 : Int)))], [(101, .box 29 [.v eBlk zblk]), (102, .box 29 [.v eBlk s32.2])]⟩) (J.mv rfl (J.k (JO.cmp rfl rfl rfl) (J.fin (Sw.Sub.mk id (.c rfl (.c rfl (.c rfl (.c rfl (.c rfl (.c rfl .nil)))))) (.box rfl (.c rfl .nil) (.box rfl (.c rfl .nil) .nil)) rfl)))) ?_
   rcases Bool.eq_false_or_eq_true (cm .lss s32.1 (8 : Int)) with hc38 | hc38
   ·replace h := cond_t hc38 h
    refine W.condT rfl hc38 ?_
    refine W.skip ?_
    refine W.seq ?_
    refine W.block ?_
    obtain ⟨v39, hv39, h⟩ := bind_e h
    obtain ⟨z40, hz40, h⟩ := bind_e h
    refine W.reg (σ' := ⟨[(0, .v Q5 a0), (1, .v Q0 a1), (4, .ptr 101 0), (5, .ptr 102 0), (7, .v Q0 s32.1)], [(101, .box 29 [.v eBlk zblk]), (102, .box 29 [.v eBlk (List.set s32.2 (Int.toNat s32.1) (IntKind.wrap .u8 (ar .quo .i64 v39 (7 : Int))))])]⟩) (J.mv rfl (J.mv rfl (J.mv rfl (J.mv rfl (J.k (JO.arith rfl rfl rfl) (J.k (JO.call0 (con_ref_Raw hv39) Try.call22 (.cons (.dir rfl) (.cons (.dir rfl) .nil))) (J.k (JO.div (.inl rfl) (by decide) rfl rfl) (J.k (JO.conv Try.runUnderlying3 Try.runUnderlying5 rfl) (J.k (JO.idxBox hz40 rfl rfl rfl rfl Try.runUnderlying29 Try.sizeOf5) (J.t (JM.storePel (idx_some hz40).2.2 rfl rfl rfl rfl Try.sizeOf5) (J.fin (Sw.Sub.mk id (.c rfl (.c rfl (.c rfl (.c rfl (.c rfl .nil))))) (.box rfl (.c rfl .nil) (.box rfl (.c rfl .nil) .nil)) rfl)))))))))))) ?_
    refine W.fall ?_
    refine W.reg (σ' := ⟨[(0, .v Q5 a0), (1, .v Q0 a1), (4, .ptr 101 0), (5, .ptr 102 0), (7, .v Q0 (ar .add .i64 s32.1 (1 : Int)))], [(101, .box 29 [.v eBlk zblk]), (102, .box 29 [.v eBlk (List.set s32.2 (Int.toNat s32.1) (IntKind.wrap .u8 (ar .quo .i64 v39 (7 : Int))))])]⟩) (J.mv rfl (J.k (JO.arith rfl rfl rfl) (J.k (JO.assign rfl) (J.fin (Sw.Sub.mk id (.c rfl (.c rfl (.c rfl (.c rfl (.c rfl .nil))))) (.box rfl (.c rfl .nil) (.box rfl (.c rfl .nil) .nil)) rfl))))) ?_
    obtain rfl := Option.some.inj h
    exact W.next (Sw.Sub.mk id (.c rfl (.c rfl (.c rfl (.c rfl (.c rfl .nil))))) (.box rfl (.c rfl .nil) (.box rfl (.c rfl .nil) .nil)) rfl)
   ·replace h := cond_f hc38 h
    refine W.condF rfl hc38 ?_
    refine W.exit ?_
    obtain rfl := Option.some.inj h
    exact XQ.brk (Sw.Sub.mk id (.c rfl (.c rfl .nil)) (.box rfl (.c rfl .nil) (.box rfl (.c rfl .nil) .nil)) rfl)
  ·intro hc4
   replace h := cond_f hc4 h
   refine W.skip ?_
   exact W.jfall h (Sw.Sub.mk id (.c rfl (.c rfl .nil)) (.box rfl (.c rfl .nil) (.box rfl (.c rfl .nil) .nil)) rfl)
set_option maxRecDepth 100000 in
set_option maxHeartbeats 4000000 in
theorem con_ref_PutsFrom {a0 : (List Int)} {a1 : Int} {a2 : Int} {r : Q7} (h : m_ref_PutsFrom a0 a1 a2 = some r) :
  Con Try.prog 10 [.v Q5 a0, .v Q0 a1, .v Q0 a2] (.v Q2 r) [] := by
 refine Con.of Try.func10 rfl Try.ntmps10 rfl ?_
 intro S w hF
 unfold m_ref_PutsFrom at h
 refine W.seq ?_
 refine W.reg (σ' := ⟨[(0, .v Q5 a0), (1, .v Q0 a1), (2, .v Q0 a2)], []⟩) (J.k (JO.assignNilR 101 41 Q6) (J.fin (Sw.Sub.mk id (.c rfl (.c rfl (.c rfl .nil))) .nil rfl))) ?_
 refine W.seq ?_
 refine W.reg (σ' := ⟨[(0, .v Q5 a0), (1, .v Q0 a1), (2, .v Q0 a2), (7, .ref 102)], [(102, .arr 41 Q6 ([] : Q7))]⟩) (J.k (JO.assignNilR 102 41 Q6) (J.fin (Sw.Sub.mk id (.c rfl (.c rfl (.c rfl (.c rfl .nil)))) (.arr rfl .nil) rfl))) ?_
 refine W.seq ?_
 refine W.seq ?_
 refine W.reg (σ' := ⟨[(0, .v Q5 a0), (1, .v Q0 a1), (2, .v Q0 a2), (7, .ref 102), (8, .v Q0 (0 : Int))], [(102, .arr 41 Q6 ([] : Q7))]⟩) (J.k (JO.assign rfl) (J.fin (Sw.Sub.mk id (.c rfl (.c rfl (.c rfl (.c rfl (.c rfl .nil))))) (.arr rfl .nil) rfl))) ?_
 obtain ⟨o19, ho19, hb19, hr19⟩ := lp_elim h
 refine W.lp (σs := fun s13 : Int × Q7 => ⟨[(0, .v Q5 a0), (1, .v Q0 a1), (2, .v Q0 a2), (7, .ref 112), (8, .v Q0 s13.1)], [(112, .arr 41 Q6 s13.2)]⟩) (fun x20 : Q7 => ⟨[(7, .ref 112)], [(112, .arr 41 Q6 x20)]⟩) ho19 (Sw.Sub.mk (rn [(112, 102)]) (.c rfl (.c rfl (.c rfl (.c rfl (.c rfl .nil))))) (.arr rfl .nil) rfl) ?_ ?_
 ·intro x20 hy
  have h := hb19 _ hy
  refine W.seq ?_
  refine W.reg (σ' := ⟨[(6, .ref 112)], [(112, .arr 41 Q6 x20)]⟩) (J.mv rfl (J.k (JO.assign rfl) (J.fin (Sw.Sub.mk id (.c rfl .nil) (.arr rfl .nil) rfl)))) ?_
  refine W.ret ?_
  obtain rfl := Option.some.inj h
  exact XQ.sub (σ' := ⟨[(6, .v Q2 x20)], []⟩) (Sw.Sub.mk id (.cons rfl (.frz rfl rfl) .nil) .nil rfl) (XQ.ret1 hF noR rfl (RV.tmp rfl) .nil rfl)
 intro s13 r19 h
 refine W.seq ?_
 refine W.seq ?_
 refine W.reg (σ' := ⟨[(0, .v Q5 a0), (1, .v Q0 a1), (2, .v Q0 a2), (7, .ref 112), (8, .v Q0 s13.1), (11, .v Enc.bool (cm .lss s13.1 a2))], [(112, .arr 41 Q6 s13.2)]⟩) (J.mv rfl (J.mv rfl (J.k (JO.cmp rfl rfl rfl) (J.fin (Sw.Sub.mk id (.c rfl (.c rfl (.c rfl (.c rfl (.c rfl (.c rfl .nil)))))) (.arr rfl .nil) rfl))))) ?_
 rcases Bool.eq_false_or_eq_true (cm .lss s13.1 a2) with hc21 | hc21
 ·replace h := cond_t hc21 h
  refine W.condT rfl hc21 ?_
  refine W.skip ?_
  refine W.seq ?_
  refine W.block ?_
  refine W.seq ?_
  obtain ⟨v22, hv22, h⟩ := bind_e h
  refine W.reg (σ' := ⟨[(0, .v Q5 a0), (1, .v Q0 a1), (2, .v Q0 a2), (7, .ref 112), (8, .v Q0 s13.1), (20, .v Enc.bool (cm .eql (ar .rem .i64 v22 (3 : Int)) (0 : Int)))], [(112, .arr 41 Q6 s13.2)]⟩) (J.mv rfl (J.mv rfl (J.mv rfl (J.k (JO.arith rfl rfl rfl) (J.k (JO.call0 (con_ref_Raw hv22) Try.call22 (.cons (.dir rfl) (.cons (.dir rfl) .nil))) (J.k (JO.div (.inr rfl) (by decide) rfl rfl) (J.k (JO.cmp rfl rfl rfl) (J.fin (Sw.Sub.mk id (.c rfl (.c rfl (.c rfl (.c rfl (.c rfl (.c rfl .nil)))))) (.arr rfl .nil) rfl))))))))) ?_
  rcases Bool.eq_false_or_eq_true (cm .eql (ar .rem .i64 v22 (3 : Int)) (0 : Int)) with hc23 | hc23
  ·replace h := cond_t hc23 h
   refine W.condT rfl hc23 ?_
   obtain ⟨v24, hv24, h⟩ := bind_e h
   obtain ⟨v25, hv25, h⟩ := bind_e h
   refine W.reg (σ' := ⟨[(0, .v Q5 a0), (1, .v Q0 a1), (2, .v Q0 a2), (7, .ref 118), (8, .v Q0 s13.1)], [(118, .arr 41 Q6 v25)]⟩) (J.mv rfl (J.mv rfl (J.mv rfl (J.mv rfl (J.mv rfl (J.k (JO.arith rfl rfl rfl) (J.k (JO.arith rfl rfl rfl) (J.k (JO.arith rfl rfl rfl) (J.k (JO.call0 (con_ref_BlockFrom hv24) Try.call11 (.cons (.dir rfl) (.cons (.dir rfl) .nil))) (J.k (JO.build built41 (.cons (Z.int .i64) (.cons (Z.arr 8 (Z.int .u8)) .nil)) (.cons rfl (.dir rfl) rfl rfl rfl rfl (.cons rfl (.dir rfl) rfl rfl rfl rfl .nil))) (J.k (JO.lit (e := Q6) Try.runUnderlying26 Try.sizeOf41 Try.zeroValue41 rfl rfl rfl rfl (.cons (.agg rfl (.same (.same .nil)) (.prm (.one _ _) (.one _ _)) rfl) .nil)) (J.t (JM.append 118 hv25 rfl rfl (.sl rfl) Try.runUnderlying26 Try.typeInfo41 Try.sizeOf41 rfl rfl rfl rfl rfl) (J.k (JO.assign rfl) (J.fin (Sw.Sub.mk id (.c rfl (.c rfl (.c rfl (.c rfl (.c rfl .nil))))) (.arr rfl .nil) rfl))))))))))))))) ?_
   refine W.fall ?_
   refine W.reg (σ' := ⟨[(0, .v Q5 a0), (1, .v Q0 a1), (2, .v Q0 a2), (7, .ref 118), (8, .v Q0 (ar .add .i64 s13.1 (1 : Int)))], [(118, .arr 41 Q6 v25)]⟩) (J.mv rfl (J.k (JO.arith rfl rfl rfl) (J.k (JO.assign rfl) (J.fin (Sw.Sub.mk id (.c rfl (.c rfl (.c rfl (.c rfl (.c rfl .nil))))) (.arr rfl .nil) rfl))))) ?_
   obtain rfl := Option.some.inj h
   exact W.next (Sw.Sub.mk (rn [(112, 118)]) (.c rfl (.c rfl (.c rfl (.c rfl (.c rfl .nil))))) (.arr rfl .nil) rfl)
  ·replace h := cond_f hc23 h
   refine W.condF rfl hc23 ?_
   refine W.skip ?_
   refine W.fall ?_
   refine W.reg (σ' := ⟨[(0, .v Q5 a0), (1, .v Q0 a1), (2, .v Q0 a2), (7, .ref 112), (8, .v Q0 (ar .add .i64 s13.1 (1 : Int)))], [(112, .arr 41 Q6 s13.2)]⟩) (J.mv rfl (J.k (JO.arith rfl rfl rfl) (J.k (JO.assign rfl) (J.fin (Sw.Sub.mk id (.c rfl (.c rfl (.c rfl (.c rfl (.c rfl .nil))))) (.arr rfl .nil) rfl))))) ?_
   obtain rfl := Option.some.inj h
   exact W.next (Sw.Sub.mk id (.c rfl (.c rfl (.c rfl (.c rfl (.c rfl .nil))))) (.arr rfl .nil) rfl)
 ·replace h := cond_f hc21 h
  refine W.condF rfl hc21 ?_
  refine W.exit ?_
  obtain rfl := Option.some.inj h
  exact XQ.brk (Sw.Sub.mk id (.c rfl .nil) (.arr rfl .nil) rfl)
set_option maxRecDepth 100000 in
set_option maxHeartbeats 4000000 in
theorem con_ref_OwnBlocks {a0 : (List Blk)} {r : (List Blk)} (h : m_ref_OwnBlocks a0 = some r) :
  Con Try.prog 15 [.v Q4 a0] (.ref 0) [(0, .arr 29 eBlk r)] := by
 refine Con.of Try.func15 rfl Try.ntmps15 rfl ?_
 intro S w hF
 unfold m_ref_OwnBlocks at h
 refine W.seq ?_
 refine W.reg (σ' := ⟨[(0, .v Q4 a0)], []⟩) (J.k (JO.assignNilR 101 29 eBlk) (J.fin (Sw.Sub.mk id (.c rfl .nil) .nil rfl))) ?_
 refine W.seq ?_
 obtain ⟨v1, hv1, h⟩ := bind_e h
 refine W.reg (σ' := ⟨[(2, .ref 103)], [(103, .arr 29 eBlk v1)]⟩) (J.k (JO.litR (e := eBlk) 102 Try.runUnderlying24 Try.sizeOf29 Try.zeroValue29 rfl rfl rfl rfl .nil) (J.mv rfl (J.t (JM.append 103 hv1 rfl rfl (.sl rfl) Try.runUnderlying24 Try.typeInfo29 Try.sizeOf29 rfl rfl rfl rfl rfl) (J.k (JO.assign rfl) (J.fin (Sw.Sub.mk id (.c rfl .nil) (.arr rfl .nil) rfl)))))) ?_
 refine W.ret ?_
 obtain rfl := Option.some.inj h
 exact XQ.sub (σ' := ⟨[(2, .ref 0)], [(0, .arr 29 eBlk v1)]⟩) (Sw.Sub.mk (rn [(0, 103)]) (.c rfl .nil) (.arr rfl .nil) rfl) (XQ.ret1 hF noR rfl (RV.tmp rfl) (.cons rfl .nil) rfl)
set_option maxRecDepth 100000 in
set_option maxHeartbeats 4000000 in
theorem con_store_Store_Commit_1 {a0 : (Int × Blk)} {a1 : (Option (Int × Q3))} {r : Bool} (h : m_store_Store_Commit_1 a0 a1 = some r) :
  Con Try.prog 56 [.v Q6 a0, .pst (Enc.ptN (Enc.pr Q0 Q1)) a1] (.v Enc.bool r) [] := by
 refine Con.of Try.func56 rfl Try.ntmps56 rfl ?_
 intro S w hF
 unfold m_store_Store_Commit_1 at h
 refine W.seq ?_
 refine W.reg (σ' := ⟨[(1, .pst (Enc.ptN (Enc.pr Q0 Q1)) a1), (2, .ptr 101 0)], [(101, .box 41 [.v Q0 a0.1, .v eBlk a0.2])]⟩) (J.k (JO.box 101 rfl (.prm (.one _ _) (.one _ _)) rfl) (J.k (JO.assign rfl) (J.fin (Sw.Sub.mk id (.c rfl (.c rfl .nil)) (.box rfl (.c rfl (.c rfl .nil)) .nil) rfl)))) ?_
 refine W.seq ?_
 obtain ⟨x3, hx, h⟩ := bind_e h
 refine W.mg (σ' := ⟨[(3, .v Enc.bool x3)], []⟩) ?_ ?_
 ·intro hk
  rcases Bool.eq_false_or_eq_true (cm .lss a0.1 (0 : Int)) with hc4 | hc4
  ·replace hx := cond_t hc4 hx
   obtain rfl := Option.some.inj hx
   exact W.dr2 (σ' := ⟨[(3, .v Enc.bool true)], []⟩) 13 [0, 1, 3, 7, 15, 31, 15, 79, 207, 463, 1023, 2047, 4095] mixed (by exact (.cons (.none rfl) (JO.fieldPtr 0 rfl Try.runUnderlying41 rfl Try.sizeOf3 rfl rfl) rfl rfl (.cons (.none rfl) (JO.load rfl rfl rfl Try.isAgg3 Try.sizeOf3) rfl rfl (.cons (.none rfl) (JO.cmp rfl rfl rfl) rfl rfl (.cons (.none rfl) (JO.move rfl) rfl rfl (.left (GK.unmet 7 rfl rfl rfl hc4) rfl (.left (GK.unmet 7 rfl rfl rfl hc4) rfl (.left (GK.unmet 7 rfl rfl rfl hc4) rfl (.left (GK.unmet 7 rfl rfl rfl hc4) rfl (.left (GK.unmet 7 rfl rfl rfl hc4) rfl (.left (GK.unmet 7 rfl rfl rfl hc4) rfl (.left (GK.unmet 7 rfl rfl rfl hc4) rfl (.cons (.none rfl) (JO.pT hc4 rfl rfl) rfl rfl (.cons (.none rfl) (JO.assign rfl) rfl rfl .nil)))))))))))))) (by exact (J.fin (Sw.Sub.mk id (.c rfl .nil) .nil rfl))) rfl (by decide +kernel) (by decide +kernel) (by decide +kernel) (by kernel_rfl) hk
  ·replace hx := cond_f hc4 hx
   obtain ⟨z5, hz5, hx⟩ := bind_e hx
   obtain rfl := Option.some.inj hx
   exact W.dr2 (σ' := ⟨[(3, .v Enc.bool (cm .geq a0.1 z5.1))], []⟩) 13 [0, 1, 3, 7, 15, 31, 15, 79, 207, 463, 1023, 2047, 4095] mixed (by exact (.cons (.none rfl) (JO.fieldPtr 0 rfl Try.runUnderlying41 rfl Try.sizeOf3 rfl rfl) rfl rfl (.cons (.none rfl) (JO.load rfl rfl rfl Try.isAgg3 Try.sizeOf3) rfl rfl (.cons (.none rfl) (JO.cmp rfl rfl rfl) rfl rfl (.cons (.none rfl) (JO.move rfl) rfl rfl (.cons (GK.met 7 rfl rfl rfl hc4) (JO.fieldPtr 0 rfl Try.runUnderlying41 rfl Try.sizeOf3 rfl rfl) rfl rfl (.cons (GK.met 7 rfl rfl rfl hc4) (JO.load rfl rfl rfl Try.isAgg3 Try.sizeOf3) rfl rfl (.cons (GK.met 7 rfl rfl rfl hc4) (JO.loadPst rfl Try.isAgg83 Try.sizeOf83) rfl rfl (.cons (GK.met 7 rfl rfl rfl hc4) (JO.nilPtN hz5 rfl) rfl rfl (.cons (GK.met 7 rfl rfl rfl hc4) (JO.fieldPst rfl Try.runUnderlying134 rfl Try.sizeOf3 rfl (.fst .here) rfl) rfl rfl (.cons (GK.met 7 rfl rfl rfl hc4) (JO.loadPst rfl Try.isAgg3 Try.sizeOf3) rfl rfl (.cons (GK.met 7 rfl rfl rfl hc4) (JO.cmp rfl rfl rfl) rfl rfl (.cons (.none rfl) (JO.pF hc4 rfl rfl) rfl rfl (.cons (.none rfl) (JO.assign rfl) rfl rfl .nil)))))))))))))) (by exact (J.fin (Sw.Sub.mk id (.c rfl .nil) .nil rfl))) rfl (by decide +kernel) (by decide +kernel) (by decide +kernel) (by kernel_rfl) hk
 refine W.ret ?_
 obtain rfl := Option.some.inj h
 exact XQ.sub (σ' := ⟨[(3, .v Enc.bool x3)], []⟩) (Sw.Sub.mk id (.c rfl .nil) .nil rfl) (XQ.ret1 hF noR rfl (RV.tmp rfl) .nil rfl)
set_option maxRecDepth 100000 in
set_option maxHeartbeats 4000000 in
theorem con_slices_IndexFunc_api_Put_api_Put__store_Store_Commit_1 {a0 : Q7} {a1_0 : (Option (Int × Q3))} {r : Int} (h : m_slices_IndexFunc_api_Put_api_Put__store_Store_Commit_1 a0 a1_0 = some r) :
  Con Try.prog 83 [.v Q2 a0, .fnc 56 [.pst (Enc.ptN (Enc.pr Q0 Q1)) a1_0]] (.v Q0 r) [] := by
 refine Con.of Try.func83 rfl Try.ntmps83 rfl ?_
 intro S w hF
 unfold m_slices_IndexFunc_api_Put_api_Put__store_Store_Commit_1 at h
 refine W.seq ?_
 refine W.reg (σ' := ⟨[(0, .v Q2 a0), (1, .fnc 56 [.pst (Enc.ptN (Enc.pr Q0 Q1)) a1_0])], []⟩) (J.k (JO.assign rfl) (J.fin (Sw.Sub.mk id (.c rfl (.c rfl .nil)) .nil rfl))) ?_
 refine W.seq ?_
 refine W.seq ?_
 refine W.reg (σ' := ⟨[(0, .v Q2 a0), (1, .fnc 56 [.pst (Enc.ptN (Enc.pr Q0 Q1)) a1_0]), (7, .v Q0 (a0.length : Int)), (8, .v Q0 (0 : Int))], []⟩) (J.mv rfl (J.k (JO.len rfl Try.runUnderlying26) (J.mv rfl (J.fin (Sw.Sub.mk id (.c rfl (.c rfl (.c rfl (.c rfl .nil)))) .nil rfl))))) ?_
 obtain ⟨o16, ho16, hb16, hr16⟩ := lp_elim h
 refine W.lp (σs := fun s11 : Int => ⟨[(0, .v Q2 a0), (1, .fnc 56 [.pst (Enc.ptN (Enc.pr Q0 Q1)) a1_0]), (7, .v Q0 (a0.length : Int)), (8, .v Q0 s11)], []⟩) (fun x17 : Unit => ⟨[], []⟩) ho16 (Sw.Sub.mk id (.c rfl (.c rfl (.c rfl (.c rfl .nil)))) .nil rfl) ?_ ?_
 ·intro x17 hy
  have h := hb16 _ hy
  refine W.seq ?_
  refine W.reg (σ' := ⟨[(4, .v Q0 (-1 : Int))], []⟩) (J.k (JO.assign rfl) (J.fin (Sw.Sub.mk id (.c rfl .nil) .nil rfl))) ?_
  refine W.ret ?_
  obtain rfl := Option.some.inj h
  exact XQ.sub (σ' := ⟨[(4, .v Q0 (-1 : Int))], []⟩) (Sw.Sub.mk id (.c rfl .nil) .nil rfl) (XQ.ret1 hF noR rfl (RV.tmp rfl) .nil rfl)
 intro s11 r16 h
 refine W.seq ?_
 refine W.reg (σ' := ⟨[(0, .v Q2 a0), (1, .fnc 56 [.pst (Enc.ptN (Enc.pr Q0 Q1)) a1_0]), (7, .v Q0 (a0.length : Int)), (8, .v Q0 s11), (9, .v Enc.bool (cm .lss s11 (a0.length : Int)))], []⟩) (J.k (JO.cmp rfl rfl rfl) (J.fin (Sw.Sub.mk id (.c rfl (.c rfl (.c rfl (.c rfl (.c rfl .nil))))) .nil rfl))) ?_
 refine W.seq ?_
 rcases Bool.eq_false_or_eq_true (cm .lss s11 (a0.length : Int)) with hc18 | hc18
 ·replace h := cond_t hc18 h
  refine W.condT rfl hc18 ?_
  refine W.skip ?_
  refine W.seq ?_
  refine W.block ?_
  refine W.seq ?_
  refine W.reg (σ' := ⟨[(0, .v Q2 a0), (1, .fnc 56 [.pst (Enc.ptN (Enc.pr Q0 Q1)) a1_0]), (5, .v Q0 s11), (7, .v Q0 (a0.length : Int)), (8, .v Q0 s11)], []⟩) (J.mv rfl (J.k (JO.assign rfl) (J.fin (Sw.Sub.mk id (.c rfl (.c rfl (.c rfl (.c rfl (.c rfl .nil))))) .nil rfl)))) ?_
  refine W.seq ?_
  obtain ⟨z19, hz19, h⟩ := bind_e h
  obtain ⟨v20, hv20, h⟩ := bind_e h
  refine W.reg (σ' := ⟨[(0, .v Q2 a0), (1, .fnc 56 [.pst (Enc.ptN (Enc.pr Q0 Q1)) a1_0]), (5, .v Q0 s11), (7, .v Q0 (a0.length : Int)), (8, .v Q0 s11), (16, .v Enc.bool v20)], []⟩) (J.mv rfl (J.mv rfl (J.mv rfl (J.k (JO.idx hz19 rfl rfl Try.runUnderlying26 Try.sizeOf41) (J.k (JO.loadPst rfl Try.isAgg41 Try.sizeOf41) (J.k (JO.callF0 rfl (con_store_Store_Commit_1 hv20) Try.call56 (.cons (.dir rfl) .nil)) (J.fin (Sw.Sub.mk id (.c rfl (.c rfl (.c rfl (.c rfl (.c rfl (.c rfl .nil)))))) .nil rfl)))))))) ?_
  rcases Bool.eq_false_or_eq_true v20 with hc21 | hc21
  ·replace h := cond_t hc21 h
   refine W.condT rfl hc21 ?_
   refine W.seq ?_
   refine W.reg (σ' := ⟨[(4, .v Q0 s11)], []⟩) (J.mv rfl (J.k (JO.assign rfl) (J.fin (Sw.Sub.mk id (.c rfl .nil) .nil rfl)))) ?_
   refine W.ret ?_
   refine XQ.ret ?_
   obtain rfl := Option.some.inj h
   refine XQ.lret fun ho => ?_
   obtain rfl := hr16 _ ho
   exact XQ.sub (σ' := ⟨[(4, .v Q0 s11)], []⟩) (Sw.Sub.mk id (.c rfl .nil) .nil rfl) (XQ.ret1 hF noR rfl (RV.tmp rfl) .nil rfl)
  ·replace h := cond_f hc21 h
   refine W.condF rfl hc21 ?_
   refine W.skip ?_
   refine W.fall ?_
   refine W.reg (σ' := ⟨[(0, .v Q2 a0), (1, .fnc 56 [.pst (Enc.ptN (Enc.pr Q0 Q1)) a1_0]), (7, .v Q0 (a0.length : Int)), (8, .v Q0 (ar .add .i64 s11 (1 : Int)))], []⟩) (J.k (JO.arith rfl rfl rfl) (J.mv rfl (J.fin (Sw.Sub.mk id (.c rfl (.c rfl (.c rfl (.c rfl .nil)))) .nil rfl)))) ?_
   obtain rfl := Option.some.inj h
   exact W.next (Sw.Sub.mk id (.c rfl (.c rfl (.c rfl (.c rfl .nil)))) .nil rfl)
 ·replace h := cond_f hc18 h
  refine W.condF rfl hc18 ?_
  refine W.exit ?_
  obtain rfl := Option.some.inj h
  exact XQ.brk (Sw.Sub.mk id .nil .nil rfl)
set_option maxRecDepth 100000 in
set_option maxHeartbeats 4000000 in
theorem con_slices_ContainsFunc_api_Put_api_Put__store_Store_Commit_1 {a0 : Q7} {a1_0 : (Option (Int × Q3))} {r : Bool} (h : m_slices_ContainsFunc_api_Put_api_Put__store_Store_Commit_1 a0 a1_0 = some r) :
  Con Try.prog 55 [.v Q2 a0, .fnc 56 [.pst (Enc.ptN (Enc.pr Q0 Q1)) a1_0]] (.v Enc.bool r) [] := by
 refine Con.of Try.func55 rfl Try.ntmps55 rfl ?_
 intro S w hF
 unfold m_slices_ContainsFunc_api_Put_api_Put__store_Store_Commit_1 at h
 refine W.seq ?_
 refine W.reg (σ' := ⟨[(0, .v Q2 a0), (1, .fnc 56 [.pst (Enc.ptN (Enc.pr Q0 Q1)) a1_0])], []⟩) (J.k (JO.assign rfl) (J.fin (Sw.Sub.mk id (.c rfl (.c rfl .nil)) .nil rfl))) ?_
 refine W.seq ?_
 obtain ⟨v1, hv1, h⟩ := bind_e h
 refine W.reg (σ' := ⟨[(4, .v Enc.bool (cm .geq v1 (0 : Int)))], []⟩) (J.mv rfl (J.mv rfl (J.k (JO.call0 (con_slices_IndexFunc_api_Put_api_Put__store_Store_Commit_1 hv1) Try.call83 (.cons (.dir rfl) (.cons (.dir rfl) .nil))) (J.k (JO.cmp rfl rfl rfl) (J.k (JO.assign rfl) (J.fin (Sw.Sub.mk id (.c rfl .nil) .nil rfl))))))) ?_
 refine W.ret ?_
 obtain rfl := Option.some.inj h
 exact XQ.sub (σ' := ⟨[(4, .v Enc.bool (cm .geq v1 (0 : Int)))], []⟩) (Sw.Sub.mk id (.c rfl .nil) .nil rfl) (XQ.ret1 hF noR rfl (RV.tmp rfl) .nil rfl)
set_option maxRecDepth 100000 in
set_option maxHeartbeats 4000000 in
theorem con_store_number {a0 : Int} {r : Blk} (h : m_store_number a0 = some r) :
  Con Try.prog 57 [.v Q0 a0] (.v eBlk r) [] := by
 refine Con.of Try.func57 rfl Try.ntmps57 rfl ?_
 intro S w hF
 unfold m_store_number at h
 refine W.seq ?_
 refine W.reg (σ' := ⟨[(0, .v Q0 a0), (2, .ptr 101 0)], [(101, .box 29 [.v eBlk zblk])]⟩) (J.k (JO.alloc 101 Try.zeroValue29 rfl (.cons (Z.arr 8 (Z.int .u8)) .nil) rfl) (J.fin (Sw.Sub.mk id (.c rfl (.c rfl .nil)) (.box rfl (.c rfl .nil) .nil) rfl))) ?_
 refine W.seq ?_
 refine W.reg (σ' := ⟨[(2, .ptr 101 0)], [(101, .box 29 [.v eBlk ([(IntKind.wrap .u8 (sh .shr .i64 a0 (24 : Int))), (IntKind.wrap .u8 (sh .shr .i64 a0 (16 : Int))), (IntKind.wrap .u8 (sh .shr .i64 a0 (8 : Int))), (IntKind.wrap .u8 a0)] ++ List.replicate 4 (0 : Int) : Blk)])]⟩) (J.mv rfl (J.k (JO.shift (.inr rfl) (by decide) rfl rfl) (J.k (JO.conv Try.runUnderlying3 Try.runUnderlying5 rfl) (J.mv rfl (J.k (JO.shift (.inr rfl) (by decide) rfl rfl) (J.k (JO.conv Try.runUnderlying3 Try.runUnderlying5 rfl) (J.mv rfl (J.k (JO.shift (.inr rfl) (by decide) rfl rfl) (J.k (JO.conv Try.runUnderlying3 Try.runUnderlying5 rfl) (J.mv rfl (J.k (JO.conv Try.runUnderlying3 Try.runUnderlying5 rfl) (J.k (JO.litArrZ (e := (Enc.int .u8)) (zv := (0 : Int)) Try.typeInfo29 Try.runUnderlying29 Try.typeInfo5 rfl rfl (Z.arr 8 (Z.int .u8)) rfl rfl (.cons (.dir rfl) (.cons (.dir rfl) (.cons (.dir rfl) (.cons (.dir rfl) .nil))))) (J.t (JM.store rfl rfl rfl rfl rfl rfl rfl Try.sizeOf29) (J.fin (Sw.Sub.mk id (.c rfl .nil) (.box rfl (.c rfl .nil) .nil) rfl))))))))))))))) ?_
 refine W.ret ?_
 obtain rfl := Option.some.inj h
 exact XQ.sub (σ' := ⟨[(2, .ptr 90 0)], [(90, .box 29 [.v eBlk ([(IntKind.wrap .u8 (sh .shr .i64 a0 (24 : Int))), (IntKind.wrap .u8 (sh .shr .i64 a0 (16 : Int))), (IntKind.wrap .u8 (sh .shr .i64 a0 (8 : Int))), (IntKind.wrap .u8 a0)] ++ List.replicate 4 (0 : Int) : Blk)])]⟩) (Sw.Sub.mk (rn [(90, 101)]) (.c rfl .nil) (.box rfl (.c rfl .nil) .nil) rfl) (XQ.ret1 hF noR rfl (RV.cellAt rfl rfl rfl Try.isAgg29 Try.sizeOf29) .nil rfl)
set_option maxRecDepth 100000 in
set_option maxHeartbeats 4000000 in
theorem con_store_Store_Commit_2_io (A : Nat → Nat) {a1 : Q7} {a2_0 : Int} {a2_1 : Q3} {r : (Option Int) × Int × Q3} (h : m_store_Store_Commit_2_io a1 a2_0 a2_1 = some r) :
  ConM Try.prog 59 [.ptr 9100 0, .pst Q2 a1] [(9000, .box 134 [.v Q0 a2_0, .v Q1 a2_1] (some (A 9000))), (9100, .box 83 [.ptr 9000 0] (some (A 9100)))] (.v (Enc.err ET) r.1) [(9000, .box 134 [.v Q0 r.2.1, .v Q1 r.2.2] (some (A 9000))), (9100, .box 83 [.ptr 9000 0] (some (A 9100)))] := by
 refine ConM.of Try.func59 rfl Try.ntmps59 rfl ?_
 intro S w R hF
 unfold m_store_Store_Commit_2_io at h
 refine W.seq ?_
 refine W.reg (σ' := ⟨[(0, .ptr 9100 0), (1, .pst Q2 a1)], [(9100, .box 83 [.ptr 9000 0] (some (A 9100))), (9000, .box 134 [.v Q0 a2_0, .v Q1 a2_1] (some (A 9000)))]⟩) (J.k (JO.assignNilE ET) (J.fin (Sw.Sub.mk id (.c rfl (.c rfl .nil)) (.box rfl (.c rfl .nil) (.box rfl (.c rfl (.c rfl .nil)) .nil)) rfl))) ?_
 refine W.seq ?_
 obtain ⟨v1, hv1, h⟩ := bind_e h
 obtain ⟨v2, hv2, h⟩ := bind_e h
 refine W.dr2 (σ' := ⟨[(0, .ptr 9100 0), (2, .v (Enc.err ET) v2.1)], [(9100, .box 83 [.ptr 9000 0] (some (A 9100))), (9000, .box 134 [.v Q0 v2.2.1, .v Q1 v2.2.2] (some (A 9000)))]⟩) 9 [0, 0, 2, 6, 14, 30, 0, 64, 192, 511, 1023] mixed (by exact (.cons (.none rfl) (JO.load rfl rfl rfl Try.isAgg83 Try.sizeOf83) rfl rfl (.cons (.none rfl) (JO.load rfl rfl rfl Try.isAgg83 Try.sizeOf83) rfl rfl (.cons (.none rfl) (JO.nilPtr rfl) rfl rfl (.cons (.none rfl) (JO.fieldPtr 0 rfl Try.runUnderlying134 rfl Try.sizeOf3 rfl rfl) rfl rfl (.cons (.none rfl) (JO.load rfl rfl rfl Try.isAgg3 Try.sizeOf3) rfl rfl (.cons (.none rfl) (JO.arith rfl rfl rfl) rfl rfl (.cons (.none rfl) (JO.loadPst rfl Try.isAgg26 Try.sizeOf26) rfl rfl (.cons (.none rfl) (JO.len rfl Try.runUnderlying26) rfl rfl (.cons (.none rfl) (JO.call0 (con_store_number hv1) Try.call57 (.cons (.dir rfl) .nil)) rfl rfl .nil)))))))))) (by exact (J.t (JM.callM (H := [9000]) (K := [9000]) (swp [(9000, 9000)]) (swp_inj _) (fun A => con_store_Store_write_io A hv2) Try.call60 (.cons (.dir rfl) (.cons (.dir rfl) (.cons (.dir rfl) .nil))) (fun A => (.box rfl .nil)) (fun A => (.box rfl .nil rfl)) (fun _ => rfl) rfl rfl (fun _ => rfl) rfl rfl) (J.k (JO.assign rfl) (J.fin (Sw.Sub.mk id (.c rfl (.c rfl .nil)) (.box rfl (.c rfl .nil) (.box rfl (.c rfl (.c rfl .nil)) .nil)) rfl))))) rfl (by decide +kernel) (by decide +kernel) (by decide +kernel) (by kernel_rfl) ?_
 refine W.ret ?_
 obtain rfl := Option.some.inj h
 exact XQ.sub (σ' := ⟨[(0, .ptr 9100 0), (2, .v (Enc.err ET) v2.1)], [(9100, .box 83 [.ptr 9000 0] (some (A 9100))), (9000, .box 134 [.v Q0 v2.2.1, .v Q1 v2.2.2] (some (A 9000)))]⟩) (Sw.Sub.mk id (.c rfl (.c rfl .nil)) (.box rfl (.c rfl .nil) (.box rfl (.c rfl (.c rfl .nil)) .nil)) rfl) (XQ.retM1 hF rfl (RV.tmp rfl) (.cons rfl (.cons rfl .nil)))
set_option maxRecDepth 100000 in
set_option maxHeartbeats 4000000 in
theorem con_store_Store_Commit_3_io (A : Nat → Nat) {a1 : Int} {a2 : (Int × Blk)} {a3_0 : Int} {a3_1 : Q3} {r : (Option Int) × Int × Q3} (h : m_store_Store_Commit_3_io a1 a2 a3_0 a3_1 = some r) :
  ConM Try.prog 61 [.ptr 9100 0, .pst Q0 a1, .pst Q6 a2] [(9000, .box 134 [.v Q0 a3_0, .v Q1 a3_1] (some (A 9000))), (9100, .box 83 [.ptr 9000 0] (some (A 9100)))] (.v (Enc.err ET) r.1) [(9000, .box 134 [.v Q0 r.2.1, .v Q1 r.2.2] (some (A 9000))), (9100, .box 83 [.ptr 9000 0] (some (A 9100)))] := by
 refine ConM.of Try.func61 rfl Try.ntmps61 rfl ?_
 intro S w R hF
 unfold m_store_Store_Commit_3_io at h
 refine W.seq ?_
 refine W.reg (σ' := ⟨[(0, .ptr 9100 0), (1, .pst Q0 a1), (2, .pst Q6 a2)], [(9100, .box 83 [.ptr 9000 0] (some (A 9100))), (9000, .box 134 [.v Q0 a3_0, .v Q1 a3_1] (some (A 9000)))]⟩) (J.k (JO.assignNilE ET) (J.fin (Sw.Sub.mk id (.c rfl (.c rfl (.c rfl .nil))) (.box rfl (.c rfl .nil) (.box rfl (.c rfl (.c rfl .nil)) .nil)) rfl))) ?_
 refine W.seq ?_
 obtain ⟨v1, hv1, h⟩ := bind_e h
 obtain ⟨v2, hv2, h⟩ := bind_e h
 refine W.dr2 (σ' := ⟨[(0, .ptr 9100 0), (3, .v (Enc.err ET) v2.1)], [(9100, .box 83 [.ptr 9000 0] (some (A 9100))), (9000, .box 134 [.v Q0 v2.2.1, .v Q1 v2.2.2] (some (A 9000)))]⟩) 12 [0, 0, 2, 6, 14, 30, 0, 64, 254, 0, 512, 1536, 4095, 8191] mixed (by exact (.cons (.none rfl) (JO.load rfl rfl rfl Try.isAgg83 Try.sizeOf83) rfl rfl (.cons (.none rfl) (JO.load rfl rfl rfl Try.isAgg83 Try.sizeOf83) rfl rfl (.cons (.none rfl) (JO.nilPtr rfl) rfl rfl (.cons (.none rfl) (JO.fieldPtr 0 rfl Try.runUnderlying134 rfl Try.sizeOf3 rfl rfl) rfl rfl (.cons (.none rfl) (JO.load rfl rfl rfl Try.isAgg3 Try.sizeOf3) rfl rfl (.cons (.none rfl) (JO.arith rfl rfl rfl) rfl rfl (.cons (.none rfl) (JO.loadPst rfl Try.isAgg3 Try.sizeOf3) rfl rfl (.cons (.none rfl) (JO.arith rfl rfl rfl) rfl rfl (.cons (.none rfl) (JO.arith rfl rfl rfl) rfl rfl (.cons (.none rfl) (JO.fieldPst rfl Try.runUnderlying41 rfl Try.sizeOf3 rfl (.fst .here) rfl) rfl rfl (.cons (.none rfl) (JO.loadPst rfl Try.isAgg3 Try.sizeOf3) rfl rfl (.cons (.none rfl) (JO.call0 (con_store_number hv1) Try.call57 (.cons (.dir rfl) .nil)) rfl rfl .nil))))))))))))) (by exact (J.t (JM.callM (H := [9000]) (K := [9000]) (swp [(9000, 9000)]) (swp_inj _) (fun A => con_store_Store_write_io A hv2) Try.call60 (.cons (.dir rfl) (.cons (.dir rfl) (.cons (.dir rfl) .nil))) (fun A => (.box rfl .nil)) (fun A => (.box rfl .nil rfl)) (fun _ => rfl) rfl rfl (fun _ => rfl) rfl rfl) (J.k (JO.assign rfl) (J.fin (Sw.Sub.mk id (.c rfl (.c rfl .nil)) (.box rfl (.c rfl .nil) (.box rfl (.c rfl (.c rfl .nil)) .nil)) rfl))))) rfl (by decide +kernel) (by decide +kernel) (by decide +kernel) (by kernel_rfl) ?_
 refine W.ret ?_
 obtain rfl := Option.some.inj h
 exact XQ.sub (σ' := ⟨[(0, .ptr 9100 0), (3, .v (Enc.err ET) v2.1)], [(9100, .box 83 [.ptr 9000 0] (some (A 9100))), (9000, .box 134 [.v Q0 v2.2.1, .v Q1 v2.2.2] (some (A 9000)))]⟩) (Sw.Sub.mk id (.c rfl (.c rfl .nil)) (.box rfl (.c rfl .nil) (.box rfl (.c rfl (.c rfl .nil)) .nil)) rfl) (XQ.retM1 hF rfl (RV.tmp rfl) (.cons rfl (.cons rfl .nil)))
set_option maxRecDepth 100000 in
set_option maxHeartbeats 4000000 in
theorem con_store_Store_Commit_4_io (A : Nat → Nat) {a1 : Int} {a2 : (Int × Blk)} {a3_0 : Int} {a3_1 : Q3} {r : (Option Int) × Int × Q3} (h : m_store_Store_Commit_4_io a1 a2 a3_0 a3_1 = some r) :
  ConM Try.prog 62 [.ptr 9100 0, .pst Q0 a1, .pst Q6 a2] [(9000, .box 134 [.v Q0 a3_0, .v Q1 a3_1] (some (A 9000))), (9100, .box 83 [.ptr 9000 0] (some (A 9100)))] (.v (Enc.err ET) r.1) [(9000, .box 134 [.v Q0 r.2.1, .v Q1 r.2.2] (some (A 9000))), (9100, .box 83 [.ptr 9000 0] (some (A 9100)))] := by
 refine ConM.of Try.func62 rfl Try.ntmps62 rfl ?_
 intro S w R hF
 unfold m_store_Store_Commit_4_io at h
 refine W.seq ?_
 refine W.reg (σ' := ⟨[(0, .ptr 9100 0), (1, .pst Q0 a1), (2, .pst Q6 a2)], [(9100, .box 83 [.ptr 9000 0] (some (A 9100))), (9000, .box 134 [.v Q0 a3_0, .v Q1 a3_1] (some (A 9000)))]⟩) (J.k (JO.assignNilE ET) (J.fin (Sw.Sub.mk id (.c rfl (.c rfl (.c rfl .nil))) (.box rfl (.c rfl .nil) (.box rfl (.c rfl (.c rfl .nil)) .nil)) rfl))) ?_
 refine W.seq ?_
 obtain ⟨v1, hv1, h⟩ := bind_e h
 refine W.dr2 (σ' := ⟨[(0, .ptr 9100 0), (3, .v (Enc.err ET) v1.1)], [(9100, .box 83 [.ptr 9000 0] (some (A 9100))), (9000, .box 134 [.v Q0 v1.2.1, .v Q1 v1.2.2] (some (A 9000)))]⟩) 11 [0, 0, 2, 6, 14, 30, 0, 64, 254, 0, 512, 2047, 4095] mixed (by exact (.cons (.none rfl) (JO.load rfl rfl rfl Try.isAgg83 Try.sizeOf83) rfl rfl (.cons (.none rfl) (JO.load rfl rfl rfl Try.isAgg83 Try.sizeOf83) rfl rfl (.cons (.none rfl) (JO.nilPtr rfl) rfl rfl (.cons (.none rfl) (JO.fieldPtr 0 rfl Try.runUnderlying134 rfl Try.sizeOf3 rfl rfl) rfl rfl (.cons (.none rfl) (JO.load rfl rfl rfl Try.isAgg3 Try.sizeOf3) rfl rfl (.cons (.none rfl) (JO.arith rfl rfl rfl) rfl rfl (.cons (.none rfl) (JO.loadPst rfl Try.isAgg3 Try.sizeOf3) rfl rfl (.cons (.none rfl) (JO.arith rfl rfl rfl) rfl rfl (.cons (.none rfl) (JO.arith rfl rfl rfl) rfl rfl (.cons (.none rfl) (JO.fieldPst rfl Try.runUnderlying41 rfl Try.sizeOf29 rfl (.snd .here) rfl) rfl rfl (.cons (.none rfl) (JO.loadPst rfl Try.isAgg29 Try.sizeOf29) rfl rfl .nil)))))))))))) (by exact (J.t (JM.callM (H := [9000]) (K := [9000]) (swp [(9000, 9000)]) (swp_inj _) (fun A => con_store_Store_write_io A hv1) Try.call60 (.cons (.dir rfl) (.cons (.dir rfl) (.cons (.dir rfl) .nil))) (fun A => (.box rfl .nil)) (fun A => (.box rfl .nil rfl)) (fun _ => rfl) rfl rfl (fun _ => rfl) rfl rfl) (J.k (JO.assign rfl) (J.fin (Sw.Sub.mk id (.c rfl (.c rfl .nil)) (.box rfl (.c rfl .nil) (.box rfl (.c rfl (.c rfl .nil)) .nil)) rfl))))) rfl (by decide +kernel) (by decide +kernel) (by decide +kernel) (by kernel_rfl) ?_
 refine W.ret ?_
 obtain rfl := Option.some.inj h
 exact XQ.sub (σ' := ⟨[(0, .ptr 9100 0), (3, .v (Enc.err ET) v1.1)], [(9100, .box 83 [.ptr 9000 0] (some (A 9100))), (9000, .box 134 [.v Q0 v1.2.1, .v Q1 v1.2.2] (some (A 9000)))]⟩) (Sw.Sub.mk id (.c rfl (.c rfl .nil)) (.box rfl (.c rfl .nil) (.box rfl (.c rfl (.c rfl .nil)) .nil)) rfl) (XQ.retM1 hF rfl (RV.tmp rfl) (.cons rfl (.cons rfl .nil)))
set_option maxRecDepth 100000 in
set_option maxHeartbeats 4000000 in
theorem con_store_Store_Commit_5_io (A : Nat → Nat) {a1_0 : Int} {a1_1 : Q3} {r : (Option Int) × Int × Q3} (h : m_store_Store_Commit_5_io a1_0 a1_1 = some r) :
  ConM Try.prog 65 [.ptr 9100 0] [(9000, .box 134 [.v Q0 a1_0, .v Q1 a1_1] (some (A 9000))), (9100, .box 83 [.ptr 9000 0] (some (A 9100)))] (.v (Enc.err ET) r.1) [(9000, .box 134 [.v Q0 r.2.1, .v Q1 r.2.2] (some (A 9000))), (9100, .box 83 [.ptr 9000 0] (some (A 9100)))] := by
 refine ConM.of Try.func65 rfl Try.ntmps65 rfl ?_
 intro S w R hF
 unfold m_store_Store_Commit_5_io at h
 refine W.seq ?_
 refine W.reg (σ' := ⟨[(0, .ptr 9100 0)], [(9100, .box 83 [.ptr 9000 0] (some (A 9100))), (9000, .box 134 [.v Q0 a1_0, .v Q1 a1_1] (some (A 9000)))]⟩) (J.k (JO.assignNilE ET) (J.fin (Sw.Sub.mk id (.c rfl .nil) (.box rfl (.c rfl .nil) (.box rfl (.c rfl (.c rfl .nil)) .nil)) rfl))) ?_
 refine W.seq ?_
 obtain ⟨v1, hv1, h⟩ := bind_e h
 refine W.reg (σ' := ⟨[(0, .ptr 9100 0), (1, .v (Enc.err ET) v1.1)], [(9100, .box 83 [.ptr 9000 0] (some (A 9100))), (9000, .box 134 [.v Q0 v1.2.1, .v Q1 v1.2.2] (some (A 9000)))]⟩) (J.k (JO.load rfl rfl rfl Try.isAgg83 Try.sizeOf83) (J.t (JM.callM (H := [9000]) (K := [9000]) (swp [(9000, 9000)]) (swp_inj _) (fun A => con_store_Store_mark_io A hv1) Try.call66 (.cons (.dir rfl) (.cons (.dir rfl) .nil)) (fun A => (.box rfl .nil)) (fun A => (.box rfl .nil rfl)) (fun _ => rfl) rfl rfl (fun _ => rfl) rfl rfl) (J.k (JO.assign rfl) (J.fin (Sw.Sub.mk id (.c rfl (.c rfl .nil)) (.box rfl (.c rfl .nil) (.box rfl (.c rfl (.c rfl .nil)) .nil)) rfl))))) ?_
 refine W.ret ?_
 obtain rfl := Option.some.inj h
 exact XQ.sub (σ' := ⟨[(0, .ptr 9100 0), (1, .v (Enc.err ET) v1.1)], [(9100, .box 83 [.ptr 9000 0] (some (A 9100))), (9000, .box 134 [.v Q0 v1.2.1, .v Q1 v1.2.2] (some (A 9000)))]⟩) (Sw.Sub.mk id (.c rfl (.c rfl .nil)) (.box rfl (.c rfl .nil) (.box rfl (.c rfl (.c rfl .nil)) .nil)) rfl) (XQ.retM1 hF rfl (RV.tmp rfl) (.cons rfl (.cons rfl .nil)))
set_option maxRecDepth 100000 in
set_option maxHeartbeats 4000000 in
theorem con_store_Store_Commit_6_io (A : Nat → Nat) {a1_0 : Int} {a1_1 : Q3} {r : (Option Int) × Int × Q3} (h : m_store_Store_Commit_6_io a1_0 a1_1 = some r) :
  ConM Try.prog 68 [.ptr 9100 0] [(9000, .box 134 [.v Q0 a1_0, .v Q1 a1_1] (some (A 9000))), (9100, .box 83 [.ptr 9000 0] (some (A 9100)))] (.v (Enc.err ET) r.1) [(9000, .box 134 [.v Q0 r.2.1, .v Q1 r.2.2] (some (A 9000))), (9100, .box 83 [.ptr 9000 0] (some (A 9100)))] := by
 refine ConM.of Try.func68 rfl Try.ntmps68 rfl ?_
 intro S w R hF
 unfold m_store_Store_Commit_6_io at h
 refine W.seq ?_
 refine W.reg (σ' := ⟨[(0, .ptr 9100 0)], [(9100, .box 83 [.ptr 9000 0] (some (A 9100))), (9000, .box 134 [.v Q0 a1_0, .v Q1 a1_1] (some (A 9000)))]⟩) (J.k (JO.assignNilE ET) (J.fin (Sw.Sub.mk id (.c rfl .nil) (.box rfl (.c rfl .nil) (.box rfl (.c rfl (.c rfl .nil)) .nil)) rfl))) ?_
 refine W.seq ?_
 obtain ⟨v1, hv1, h⟩ := bind_e h
 refine W.reg (σ' := ⟨[(0, .ptr 9100 0), (1, .v (Enc.err ET) v1.1)], [(9100, .box 83 [.ptr 9000 0] (some (A 9100))), (9000, .box 134 [.v Q0 v1.2.1, .v Q1 v1.2.2] (some (A 9000)))]⟩) (J.k (JO.load rfl rfl rfl Try.isAgg83 Try.sizeOf83) (J.t (JM.callM (H := [9000]) (K := [9000]) (swp [(9000, 9000)]) (swp_inj _) (fun A => con_store_Store_mark_io A hv1) Try.call66 (.cons (.dir rfl) (.cons (.dir rfl) .nil)) (fun A => (.box rfl .nil)) (fun A => (.box rfl .nil rfl)) (fun _ => rfl) rfl rfl (fun _ => rfl) rfl rfl) (J.k (JO.assign rfl) (J.fin (Sw.Sub.mk id (.c rfl (.c rfl .nil)) (.box rfl (.c rfl .nil) (.box rfl (.c rfl (.c rfl .nil)) .nil)) rfl))))) ?_
 refine W.ret ?_
 obtain rfl := Option.some.inj h
 exact XQ.sub (σ' := ⟨[(0, .ptr 9100 0), (1, .v (Enc.err ET) v1.1)], [(9100, .box 83 [.ptr 9000 0] (some (A 9100))), (9000, .box 134 [.v Q0 v1.2.1, .v Q1 v1.2.2] (some (A 9000)))]⟩) (Sw.Sub.mk id (.c rfl (.c rfl .nil)) (.box rfl (.c rfl .nil) (.box rfl (.c rfl (.c rfl .nil)) .nil)) rfl) (XQ.retM1 hF rfl (RV.tmp rfl) (.cons rfl (.cons rfl .nil)))
set_option maxRecDepth 100000 in
set_option maxHeartbeats 4000000 in
theorem con_clo_store_Store_Commit (A : Nat → Nat) {q : Clo_store_Store_Commit} {n0 : Int} {n1 : Q3} {r : (Option Int) × Int × Q3} (h : m_clo_store_Store_Commit q n0 n1 = some r) :
  CloCon Try.prog [(9000, A 9000), (9100, A 9100)] (eClo_store_Store_Commit (A 9000) (A 9100)) q [(9000, .box 134 [.v Q0 n0, .v Q1 n1] (some (A 9000))), (9100, .box 83 [.ptr 9000 0] (some (A 9100)))] (.v (Enc.err ET) r.1) [(9000, .box 134 [.v Q0 r.2.1, .v Q1 r.2.2] (some (A 9000))), (9100, .box 83 [.ptr 9000 0] (some (A 9100)))] := by
 unfold m_clo_store_Store_Commit at h
 rcases q with z | z | z | z | z | z | z | z
 ·exact (CloCon.l (CloCon.fn2 .nil (.pr (.adr (i := 9100) (by simp)) .pt) Try.call59 (con_store_Store_Commit_2_io A h)))
 ·exact (CloCon.r (CloCon.l (CloCon.fn2 .nil (.pr (.adr (i := 9100) (by simp)) (.pr .pt .pt)) Try.call61 (con_store_Store_Commit_3_io A h))))
 ·exact (CloCon.r (CloCon.r (CloCon.l (CloCon.fn2 .nil (.pr (.adr (i := 9100) (by simp)) (.pr .pt .pt)) Try.call62 (con_store_Store_Commit_4_io A h)))))
 ·exact (CloCon.r (CloCon.r (CloCon.r (CloCon.l (CloCon.fn2 (.adr (i := 9000) (by simp)) .nil Try.call64 (con_store_Store_flush_io A h))))))
 ·exact (CloCon.r (CloCon.r (CloCon.r (CloCon.r (CloCon.l (CloCon.fn2 .nil (.adr (i := 9100) (by simp)) Try.call65 (con_store_Store_Commit_5_io A h)))))))
 ·exact (CloCon.r (CloCon.r (CloCon.r (CloCon.r (CloCon.r (CloCon.l (CloCon.fn2 (.adr (i := 9000) (by simp)) .nil Try.call67 (con_store_Store_apply_io A h))))))))
 ·exact (CloCon.r (CloCon.r (CloCon.r (CloCon.r (CloCon.r (CloCon.r (CloCon.l (CloCon.fn2 (.adr (i := 9000) (by simp)) .nil Try.call64 (con_store_Store_flush_io A h)))))))))
 ·exact (CloCon.r (CloCon.r (CloCon.r (CloCon.r (CloCon.r (CloCon.r (CloCon.r (CloCon.fn2 .nil (.adr (i := 9100) (by simp)) Try.call68 (con_store_Store_Commit_6_io A h)))))))))
set_option maxRecDepth 100000 in
set_option maxHeartbeats 4000000 in
theorem con_store_all_store_Store_Commit_io (A : Nat → Nat) {a0 : (List Clo_store_Store_Commit)} {a1_0 : Int} {a1_1 : Q3} {r : (Option Int) × Int × Q3} (h : m_store_all_store_Store_Commit_io a0 a1_0 a1_1 = some r) :
  ConM Try.prog 63 [.v (Enc.sl (eClo_store_Store_Commit (A 9000) (A 9100))) a0] [(9000, .box 134 [.v Q0 a1_0, .v Q1 a1_1] (some (A 9000))), (9100, .box 83 [.ptr 9000 0] (some (A 9100)))] (.v (Enc.err ET) r.1) [(9000, .box 134 [.v Q0 r.2.1, .v Q1 r.2.2] (some (A 9000))), (9100, .box 83 [.ptr 9000 0] (some (A 9100)))] := by
 refine ConM.of Try.func63 rfl Try.ntmps63 rfl ?_
 intro S w R hF
 unfold m_store_all_store_Store_Commit_io at h
 refine W.seq ?_
 refine W.reg (σ' := ⟨[(0, .v (Enc.sl (eClo_store_Store_Commit (A 9000) (A 9100))) a0)], [(9000, .box 134 [.v Q0 a1_0, .v Q1 a1_1] (some (A 9000))), (9100, .box 83 [.ptr 9000 0] (some (A 9100)))]⟩) (J.k (JO.assignNilE ET) (J.fin (Sw.Sub.mk id (.c rfl .nil) (.box rfl (.c rfl (.c rfl .nil)) (.box rfl (.c rfl .nil) .nil)) rfl))) ?_
 refine W.seq ?_
 refine W.seq ?_
 refine W.reg (σ' := ⟨[(6, .v (Enc.sl (eClo_store_Store_Commit (A 9000) (A 9100))) a0), (7, .v Q0 (a0.length : Int)), (8, .v Q0 (0 : Int))], [(9000, .box 134 [.v Q0 a1_0, .v Q1 a1_1] (some (A 9000))), (9100, .box 83 [.ptr 9000 0] (some (A 9100)))]⟩) (J.mv rfl (J.k (JO.len rfl Try.runUnderlying142) (J.mv rfl (J.fin (Sw.Sub.mk id (.c rfl (.c rfl (.c rfl .nil))) (.box rfl (.c rfl (.c rfl .nil)) (.box rfl (.c rfl .nil) .nil)) rfl))))) ?_
 obtain ⟨o16, ho16, hb16, hr16⟩ := lp_elim h
 refine W.lp (σs := fun s11 : Int × Int × Q3 => ⟨[(6, .v (Enc.sl (eClo_store_Store_Commit (A 9000) (A 9100))) a0), (7, .v Q0 (a0.length : Int)), (8, .v Q0 s11.1)], [(9000, .box 134 [.v Q0 s11.2.1, .v Q1 s11.2.2] (some (A 9000))), (9100, .box 83 [.ptr 9000 0] (some (A 9100)))]⟩) (fun x17 : Int × Q3 => ⟨[], [(9000, .box 134 [.v Q0 x17.1, .v Q1 x17.2] (some (A 9000))), (9100, .box 83 [.ptr 9000 0] (some (A 9100)))]⟩) ho16 (Sw.Sub.mk id (.c rfl (.c rfl (.c rfl .nil))) (.box rfl (.c rfl (.c rfl .nil)) (.box rfl (.c rfl .nil) .nil)) rfl) ?_ ?_
 ·intro x17 hy
  have h := hb16 _ hy
  refine W.seq ?_
  refine W.reg (σ' := ⟨[(2, .v (Enc.err ET) (none : Option Int))], [(9000, .box 134 [.v Q0 x17.1, .v Q1 x17.2] (some (A 9000))), (9100, .box 83 [.ptr 9000 0] (some (A 9100)))]⟩) (J.k (JO.assignNilE ET) (J.fin (Sw.Sub.mk id (.c rfl .nil) (.box rfl (.c rfl (.c rfl .nil)) (.box rfl (.c rfl .nil) .nil)) rfl))) ?_
  refine W.ret ?_
  obtain rfl := Option.some.inj h
  exact XQ.sub (σ' := ⟨[(2, .v (Enc.err ET) (none : Option Int))], [(9100, .box 83 [.ptr 9000 0] (some (A 9100))), (9000, .box 134 [.v Q0 x17.1, .v Q1 x17.2] (some (A 9000)))]⟩) (Sw.Sub.mk id (.c rfl .nil) (.box rfl (.c rfl .nil) (.box rfl (.c rfl (.c rfl .nil)) .nil)) rfl) (XQ.retM1 hF rfl (RV.tmp rfl) (.cons rfl (.cons rfl .nil)))
 intro s11 r16 h
 refine W.seq ?_
 refine W.reg (σ' := ⟨[(6, .v (Enc.sl (eClo_store_Store_Commit (A 9000) (A 9100))) a0), (7, .v Q0 (a0.length : Int)), (8, .v Q0 s11.1), (9, .v Enc.bool (cm .lss s11.1 (a0.length : Int)))], [(9000, .box 134 [.v Q0 s11.2.1, .v Q1 s11.2.2] (some (A 9000))), (9100, .box 83 [.ptr 9000 0] (some (A 9100)))]⟩) (J.k (JO.cmp rfl rfl rfl) (J.fin (Sw.Sub.mk id (.c rfl (.c rfl (.c rfl (.c rfl .nil)))) (.box rfl (.c rfl (.c rfl .nil)) (.box rfl (.c rfl .nil) .nil)) rfl))) ?_
 refine W.seq ?_
 rcases Bool.eq_false_or_eq_true (cm .lss s11.1 (a0.length : Int)) with hc18 | hc18
 ·replace h := cond_t hc18 h
  refine W.condT rfl hc18 ?_
  refine W.skip ?_
  refine W.seq ?_
  refine W.block ?_
  refine W.seq ?_
  obtain ⟨z19, hz19, h⟩ := bind_e h
  refine W.reg (σ' := ⟨[(4, .v (eClo_store_Store_Commit (A 9000) (A 9100)) z19), (6, .v (Enc.sl (eClo_store_Store_Commit (A 9000) (A 9100))) a0), (7, .v Q0 (a0.length : Int)), (8, .v Q0 s11.1)], [(9000, .box 134 [.v Q0 s11.2.1, .v Q1 s11.2.2] (some (A 9000))), (9100, .box 83 [.ptr 9000 0] (some (A 9100)))]⟩) (J.k (JO.idx hz19 rfl rfl Try.runUnderlying142 Try.sizeOf135) (J.k (JO.loadPst rfl Try.isAgg135 Try.sizeOf135) (J.k (JO.assign rfl) (J.fin (Sw.Sub.mk id (.c rfl (.c rfl (.c rfl (.c rfl .nil)))) (.box rfl (.c rfl (.c rfl .nil)) (.box rfl (.c rfl .nil) .nil)) rfl))))) ?_
  refine W.seq ?_
  obtain ⟨v20, hv20, h⟩ := bind_e h
  refine W.reg (σ' := ⟨[(5, .v (Enc.err ET) v20.1), (6, .v (Enc.sl (eClo_store_Store_Commit (A 9000) (A 9100))) a0), (7, .v Q0 (a0.length : Int)), (8, .v Q0 s11.1)], [(9000, .box 134 [.v Q0 v20.2.1, .v Q1 v20.2.2] (some (A 9000))), (9100, .box 83 [.ptr 9000 0] (some (A 9100)))]⟩) (J.mv rfl (J.t (JM.callC (H := [9000, 9100]) (K := [9000, 9100]) [(9000, A 9000), (9100, A 9100)] (swp [(9000, 9000), (9100, 9100)]) (swp_inj _) rfl ⟨⟨_, _, rfl⟩, ⟨_, _, rfl⟩, trivial⟩ (CloCon.at2 (e := eClo_store_Store_Commit) (A 9000) (A 9100) (fun A9 => con_clo_store_Store_Commit A9 hv20)) (fun _ => .box rfl (.box rfl .nil)) (fun _ => .box rfl (.box rfl .nil rfl) rfl) (fun _ => rfl) rfl rfl (fun _ => rfl) rfl rfl) (J.k (JO.assign rfl) (J.fin (Sw.Sub.mk id (.c rfl (.c rfl (.c rfl (.c rfl .nil)))) (.box rfl (.c rfl (.c rfl .nil)) (.box rfl (.c rfl .nil) .nil)) rfl))))) ?_
  refine W.seq ?_
  refine W.reg (σ' := ⟨[(5, .v (Enc.err ET) v20.1), (6, .v (Enc.sl (eClo_store_Store_Commit (A 9000) (A 9100))) a0), (7, .v Q0 (a0.length : Int)), (8, .v Q0 s11.1), (15, .v Enc.bool (Option.isSome v20.1))], [(9000, .box 134 [.v Q0 v20.2.1, .v Q1 v20.2.2] (some (A 9000))), (9100, .box 83 [.ptr 9000 0] (some (A 9100)))]⟩) (J.mv rfl (J.k (JO.errNe Try.runUnderlying34 rfl) (J.fin (Sw.Sub.mk id (.c rfl (.c rfl (.c rfl (.c rfl (.c rfl .nil))))) (.box rfl (.c rfl (.c rfl .nil)) (.box rfl (.c rfl .nil) .nil)) rfl)))) ?_
  rcases Bool.eq_false_or_eq_true (Option.isSome v20.1) with hc21 | hc21
  ·replace h := cond_t hc21 h
   refine W.condT rfl hc21 ?_
   refine W.seq ?_
   refine W.reg (σ' := ⟨[(2, .v (Enc.err ET) v20.1)], [(9000, .box 134 [.v Q0 v20.2.1, .v Q1 v20.2.2] (some (A 9000))), (9100, .box 83 [.ptr 9000 0] (some (A 9100)))]⟩) (J.mv rfl (J.k (JO.assign rfl) (J.fin (Sw.Sub.mk id (.c rfl .nil) (.box rfl (.c rfl (.c rfl .nil)) (.box rfl (.c rfl .nil) .nil)) rfl)))) ?_
   refine W.ret ?_
   refine XQ.ret ?_
   obtain rfl := Option.some.inj h
   refine XQ.lret fun ho => ?_
   obtain rfl := hr16 _ ho
   exact XQ.sub (σ' := ⟨[(2, .v (Enc.err ET) v20.1)], [(9100, .box 83 [.ptr 9000 0] (some (A 9100))), (9000, .box 134 [.v Q0 v20.2.1, .v Q1 v20.2.2] (some (A 9000)))]⟩) (Sw.Sub.mk id (.c rfl .nil) (.box rfl (.c rfl .nil) (.box rfl (.c rfl (.c rfl .nil)) .nil)) rfl) (XQ.retM1 hF rfl (RV.tmp rfl) (.cons rfl (.cons rfl .nil)))
  ·replace h := cond_f hc21 h
   refine W.condF rfl hc21 ?_
   refine W.skip ?_
   refine W.fall ?_
   refine W.reg (σ' := ⟨[(6, .v (Enc.sl (eClo_store_Store_Commit (A 9000) (A 9100))) a0), (7, .v Q0 (a0.length : Int)), (8, .v Q0 (ar .add .i64 s11.1 (1 : Int)))], [(9000, .box 134 [.v Q0 v20.2.1, .v Q1 v20.2.2] (some (A 9000))), (9100, .box 83 [.ptr 9000 0] (some (A 9100)))]⟩) (J.k (JO.arith rfl rfl rfl) (J.mv rfl (J.fin (Sw.Sub.mk id (.c rfl (.c rfl (.c rfl .nil))) (.box rfl (.c rfl (.c rfl .nil)) (.box rfl (.c rfl .nil) .nil)) rfl)))) ?_
   obtain rfl := Option.some.inj h
   exact W.next (Sw.Sub.mk id (.c rfl (.c rfl (.c rfl .nil))) (.box rfl (.c rfl (.c rfl .nil)) (.box rfl (.c rfl .nil) .nil)) rfl)
 ·replace h := cond_f hc18 h
  refine W.condF rfl hc18 ?_
  refine W.exit ?_
  obtain rfl := Option.some.inj h
  exact XQ.brk (Sw.Sub.mk id .nil (.box rfl (.c rfl (.c rfl .nil)) (.box rfl (.c rfl .nil) .nil)) rfl)
set_option maxRecDepth 100000 in
set_option maxHeartbeats 4000000 in
theorem con_store_Store_Commit_io (A : Nat → Nat) {a0_0 : Int} {a0_1 : Q3} {a1 : Q7} {a2 : Int} {a3 : Int} {r : (Option Int) × Int × Q3} (h : m_store_Store_Commit_io a0_0 a0_1 a1 a2 a3 = some r) :
  ConM Try.prog 29 [.ptr 9000 0, .v Q2 a1, .v Q0 a2, .v Q0 a3] [(9000, .box 134 [.v Q0 a0_0, .v Q1 a0_1] (some (A 9000)))] (.v (Enc.err ET) r.1) [(9000, .box 134 [.v Q0 r.2.1, .v Q1 r.2.2] (some (A 9000)))] := by
 refine ConM.of Try.func29 rfl Try.ntmps29 rfl ?_
 intro S w R hF
 unfold m_store_Store_Commit_io at h
 refine W.seq ?_
 refine W.reg (σ' := ⟨[(0, .ptr 9000 0), (1, .v Q2 a1), (2, .v Q0 a2), (3, .v Q0 a3), (4, .ptr 101 0)], [(9000, .box 134 [.v Q0 a0_0, .v Q1 a0_1] (some (A 9000))), (101, .box 83 [.ptr 9000 0])]⟩) (J.k (JO.boxPtr 101 rfl rfl) (J.k (JO.assignNilE ET) (J.fin (Sw.Sub.mk id (.c rfl (.c rfl (.c rfl (.c rfl (.c rfl .nil))))) (.box rfl (.c rfl (.c rfl .nil)) (.box rfl (.c rfl .nil) .nil)) rfl)))) ?_
 refine W.pin (i := 101) rfl fun c1 => ?_
 refine W.sub (σ' := ⟨[(0, .ptr 9000 0), (1, .v Q2 a1), (2, .v Q0 a2), (3, .v Q0 a3), (4, .ptr 101 0)], [(9000, .box 134 [.v Q0 a0_0, .v Q1 a0_1] (some (A 9000))), (101, .box 83 [.ptr 9000 0] (some (c1)))]⟩) (Sw.Sub.mk id (.c rfl (.c rfl (.c rfl (.c rfl (.c rfl .nil))))) (.box rfl (.c rfl (.c rfl .nil)) (.box rfl (.c rfl .nil) .nil)) rfl) ?_
 refine W.seq ?_
 refine W.seq ?_
 refine W.reg (σ' := ⟨[(0, .ptr 9000 0), (1, .v Q2 a1), (2, .v Q0 a2), (3, .v Q0 a3), (4, .ptr 101 0), (21, .v Enc.bool (cm .gtr (a1.length : Int) a0_0))], [(9000, .box 134 [.v Q0 a0_0, .v Q1 a0_1] (some (A 9000))), (101, .box 83 [.ptr 9000 0] (some (c1)))]⟩) (J.mv rfl (J.k (JO.len rfl Try.runUnderlying26) (J.k (JO.load rfl rfl rfl Try.isAgg83 Try.sizeOf83) (J.k (JO.nilPtr rfl) (J.k (JO.fieldPtr 0 rfl Try.runUnderlying134 rfl Try.sizeOf3 rfl rfl) (J.k (JO.load rfl rfl rfl Try.isAgg3 Try.sizeOf3) (J.k (JO.cmp rfl rfl rfl) (J.fin (Sw.Sub.mk id (.c rfl (.c rfl (.c rfl (.c rfl (.c rfl (.c rfl .nil)))))) (.box rfl (.c rfl (.c rfl .nil)) (.box rfl (.c rfl .nil) .nil)) rfl))))))))) ?_
 rcases Bool.eq_false_or_eq_true (cm .gtr (a1.length : Int) a0_0) with hc2 | hc2
 ·replace h := cond_t hc2 h
  refine W.condT rfl hc2 ?_
  refine W.seq ?_
  refine W.reg (σ' := ⟨[(0, .ptr 9000 0), (8, .v (Enc.err ET) (some (2 : Int)))], [(9000, .box 134 [.v Q0 a0_0, .v Q1 a0_1] (some (A 9000)))]⟩) (J.k (JO.mkErr Try.runUnderlying86 rfl) (J.k (JO.assign rfl) (J.fin (Sw.Sub.mk id (.c rfl (.c rfl .nil)) (.box rfl (.c rfl (.c rfl .nil)) .nil) rfl)))) ?_
  refine W.ret ?_
  obtain rfl := Option.some.inj h
  exact XQ.sub (σ' := ⟨[(0, .ptr 9000 0), (8, .v (Enc.err ET) (some (2 : Int)))], [(9000, .box 134 [.v Q0 a0_0, .v Q1 a0_1] (some (A 9000)))]⟩) (Sw.Sub.mk id (.c rfl (.c rfl .nil)) (.box rfl (.c rfl (.c rfl .nil)) .nil) rfl) (XQ.retM1 hF rfl (RV.tmp rfl) (.cons rfl .nil))
 ·replace h := cond_f hc2 h
  refine W.condF rfl hc2 ?_
  refine W.skip ?_
  refine W.seq ?_
  refine W.seq ?_
  obtain ⟨x6, hx, h⟩ := bind_e h
  refine W.reg (σ' := ⟨[(0, .ptr 9000 0), (1, .v Q2 a1), (2, .v Q0 a2), (3, .v Q0 a3), (4, .ptr 101 0), (37, .v Enc.bool x6)], [(9000, .box 134 [.v Q0 a0_0, .v Q1 a0_1] (some (A 9000))), (101, .box 83 [.ptr 9000 0] (some (c1)))]⟩) ?_ ?_
  ·rcases Bool.eq_false_or_eq_true (cm .lss (min a2 a3) (0 : Int)) with hc7 | hc7
   ·replace hx := cond_t hc7 hx
    obtain rfl := Option.some.inj hx
    exact (J.mv rfl (J.mv rfl (J.k (JO.gmin rfl rfl) (J.k (JO.cmp rfl rfl rfl) (J.mv rfl (J.u 27 hc7 (J.u 27 hc7 (J.u 27 hc7 (J.u 27 hc7 (J.k (JO.pT hc7 rfl rfl) (J.mv rfl (J.u 33 rfl (J.u 33 rfl (J.u 33 rfl (J.k (JO.pT rfl rfl rfl) (J.fin (Sw.Sub.mk id (.c rfl (.c rfl (.c rfl (.c rfl (.c rfl (.c rfl .nil)))))) (.box rfl (.c rfl (.c rfl .nil)) (.box rfl (.c rfl .nil) .nil)) rfl)))))))))))))))))
   ·replace hx := cond_f hc7 hx
    rcases Bool.eq_false_or_eq_true (cm .gtr (max a2 a3) (2147483647 : Int)) with hc8 | hc8
    ·replace hx := cond_t hc8 hx
     obtain rfl := Option.some.inj hx
     exact (J.mv rfl (J.mv rfl (J.k (JO.gmin rfl rfl) (J.k (JO.cmp rfl rfl rfl) (J.mv rfl (J.m 27 hc7 (JO.move rfl) (J.m 27 hc7 (JO.move rfl) (J.m 27 hc7 (JO.gmax rfl rfl) (J.m 27 hc7 (JO.cmp rfl rfl rfl) (J.k (JO.pF hc7 rfl rfl) (J.mv rfl (J.u 33 hc8 (J.u 33 hc8 (J.u 33 hc8 (J.k (JO.pT hc8 rfl rfl) (J.fin (Sw.Sub.mk id (.c rfl (.c rfl (.c rfl (.c rfl (.c rfl (.c rfl .nil)))))) (.box rfl (.c rfl (.c rfl .nil)) (.box rfl (.c rfl .nil) .nil)) rfl)))))))))))))))))
    ·replace hx := cond_f hc8 hx
     obtain ⟨v9, hv9, hx⟩ := bind_e hx
     obtain rfl := Option.some.inj hx
     exact (J.mv rfl (J.mv rfl (J.k (JO.gmin rfl rfl) (J.k (JO.cmp rfl rfl rfl) (J.mv rfl (J.m 27 hc7 (JO.move rfl) (J.m 27 hc7 (JO.move rfl) (J.m 27 hc7 (JO.gmax rfl rfl) (J.m 27 hc7 (JO.cmp rfl rfl rfl) (J.k (JO.pF hc7 rfl rfl) (J.mv rfl (J.m 33 hc8 (JO.move rfl) (J.m 33 hc8 (JO.makeFunc (.cons (.dir rfl) .nil)) (J.mut (GK.met 33 rfl rfl rfl hc8) (JM.callK (con_slices_ContainsFunc_api_Put_api_Put__store_Store_Commit_1 hv9) Try.call55 (.cons (.dir rfl) (.fn1 rfl rfl rfl (.prm (.one _ _) (.one _ _)) .nil)) FlatS.v rfl) (J.k (JO.pF hc8 rfl rfl) (J.fin (Sw.Sub.mk id (.c rfl (.c rfl (.c rfl (.c rfl (.c rfl (.c rfl .nil)))))) (.box rfl (.c rfl (.c rfl .nil)) (.box rfl (.c rfl .nil) .nil)) rfl)))))))))))))))))
  rcases Bool.eq_false_or_eq_true x6 with hc10 | hc10
  ·replace h := cond_t hc10 h
   refine W.condT rfl hc10 ?_
   refine W.seq ?_
   refine W.reg (σ' := ⟨[(0, .ptr 9000 0), (8, .v (Enc.err ET) (some (1 : Int)))], [(9000, .box 134 [.v Q0 a0_0, .v Q1 a0_1] (some (A 9000)))]⟩) (J.k (JO.mkErr Try.runUnderlying86 rfl) (J.k (JO.assign rfl) (J.fin (Sw.Sub.mk id (.c rfl (.c rfl .nil)) (.box rfl (.c rfl (.c rfl .nil)) .nil) rfl)))) ?_
   refine W.ret ?_
   obtain rfl := Option.some.inj h
   exact XQ.sub (σ' := ⟨[(0, .ptr 9000 0), (8, .v (Enc.err ET) (some (1 : Int)))], [(9000, .box 134 [.v Q0 a0_0, .v Q1 a0_1] (some (A 9000)))]⟩) (Sw.Sub.mk id (.c rfl (.c rfl .nil)) (.box rfl (.c rfl (.c rfl .nil)) .nil) rfl) (XQ.retM1 hF rfl (RV.tmp rfl) (.cons rfl .nil))
  ·replace h := cond_f hc10 h
   refine W.condF rfl hc10 ?_
   refine W.skip ?_
   refine W.seq ?_
   obtain ⟨v11, hv11, h⟩ := bind_e h
   obtain ⟨v12, hv12, h⟩ := bind_e h
   refine W.reg (σ' := ⟨[(0, .ptr 9000 0), (1, .v Q2 a1), (4, .ptr 101 0), (9, .ptr 106 0), (10, .ptr 107 0)], [(9000, .box 134 [.v Q0 a0_0, .v Q1 a0_1] (some (A 9000))), (101, .box 83 [.ptr 9000 0] (some (c1))), (106, .box 29 [.v eBlk v11]), (107, .box 29 [.v eBlk v12])]⟩) (J.mv rfl (J.k (JO.call0 (con_store_number hv11) Try.call57 (.cons (.dir rfl) .nil)) (J.mv rfl (J.k (JO.call0 (con_store_number hv12) Try.call57 (.cons (.dir rfl) .nil)) (J.k (JO.alloc 106 Try.zeroValue29 rfl (.cons (Z.arr 8 (Z.int .u8)) .nil) rfl) (J.k (JO.alloc 107 Try.zeroValue29 rfl (.cons (Z.arr 8 (Z.int .u8)) .nil) rfl) (J.t (JM.store rfl rfl rfl rfl rfl rfl rfl Try.sizeOf29) (J.t (JM.store rfl rfl rfl rfl rfl rfl rfl Try.sizeOf29) (J.fin (Sw.Sub.mk id (.c rfl (.c rfl (.c rfl (.c rfl (.c rfl .nil))))) (.box rfl (.c rfl (.c rfl .nil)) (.box rfl (.c rfl .nil) (.box rfl (.c rfl .nil) (.box rfl (.c rfl .nil) .nil)))) rfl)))))))))) ?_
   refine W.seq ?_
   refine W.sub (σ' := ⟨[(0, .ptr 9000 0), (1, .v Q2 a1), (4, .ptr 101 0), (9, .pst eBlk v11), (10, .ptr 107 0)], [(9000, .box 134 [.v Q0 a0_0, .v Q1 a0_1] (some (A 9000))), (101, .box 83 [.ptr 9000 0] (some (c1))), (107, .box 29 [.v eBlk v12])]⟩) (Sw.Sub.mk id (.c rfl (.c rfl (.c rfl (.cons rfl (.frzP rfl rfl (.c rfl .nil) (.one _ _)) (.c rfl .nil))))) (.box rfl (.c rfl (.c rfl .nil)) (.box rfl (.c rfl .nil) (.box rfl (.c rfl .nil) .nil))) rfl) ?_
   refine W.sub (σ' := ⟨[(0, .ptr 9000 0), (1, .v Q2 a1), (4, .ptr 101 0), (9, .pst eBlk v11), (10, .pst eBlk v12)], [(9000, .box 134 [.v Q0 a0_0, .v Q1 a0_1] (some (A 9000))), (101, .box 83 [.ptr 9000 0] (some (c1)))]⟩) (Sw.Sub.mk id (.c rfl (.c rfl (.c rfl (.c rfl (.cons rfl (.frzP rfl rfl (.c rfl .nil) (.one _ _)) .nil))))) (.box rfl (.c rfl (.c rfl .nil)) (.box rfl (.c rfl .nil) .nil)) rfl) ?_
   obtain ⟨v22, hv22, h⟩ := bind_e h
   obtain ⟨v23, hv23, h⟩ := bind_e h
   obtain ⟨v24, hv24, h⟩ := bind_e h
   obtain ⟨v25, hv25, h⟩ := bind_e h
   obtain ⟨z26, hz26, h⟩ := bind_e h
   obtain ⟨v27, hv27, h⟩ := bind_e h
   refine W.dr4 (σ' := ⟨[(0, .ptr 9000 0), (4, .ptr 101 0), (11, .ptr 115 0)], [(9000, .box 134 [.v Q0 a0_0, .v Q1 a0_1] (some (A 9000))), (101, .box 83 [.ptr 9000 0] (some (c1))), (115, .box 26 [.ref 114]), (114, .arr 41 Q6 v27)]⟩) 16 [0, 1, 0, 4, 12, 28, 0, 0, 195, 451, 963, 2047, 4095, 8191, 0, 32767] mixed (by exact (.cons (.none rfl) (JO.move rfl) rfl (.cons (.none rfl) (JO.call 113000 (con_slices_Clone_api_Put_api_Put hv22) Try.call58 (.cons (.dir rfl) .nil) rfl) rfl (.cons (.none rfl) (JO.load rfl rfl rfl Try.isAgg83 Try.sizeOf83) rfl (.cons (.none rfl) (JO.nilPtr rfl) rfl (.cons (.none rfl) (JO.fieldPtr 0 rfl Try.runUnderlying134 rfl Try.sizeOf3 rfl rfl) rfl (.cons (.none rfl) (JO.load rfl rfl rfl Try.isAgg3 Try.sizeOf3) rfl (.cons (.none rfl) (JO.slPst3 hv23 rfl rfl rfl rfl Try.runUnderlying29 Try.sizeOf5) rfl (.cons (.none rfl) (JO.slPstH hv24 rfl rfl rfl Try.runUnderlying29 Try.sizeOf5) rfl (.cons (.none rfl) (JO.appC hv25 (subN_ne hv23) rfl (.sl rfl) Try.runUnderlying62 Try.typeInfo5 Try.sizeOf5 rfl rfl rfl) rfl (.cons (.none rfl) (JO.arrPtr hz26 rfl Try.runUnderlying29) rfl (.cons (.none rfl) (JO.loadPst rfl Try.isAgg29 Try.sizeOf29) rfl (.cons (.none rfl) (JO.build built41 (.cons (Z.int .i64) (.cons (Z.arr 8 (Z.int .u8)) .nil)) (.cons rfl (.dir rfl) rfl rfl rfl rfl (.cons rfl (.dir rfl) rfl rfl rfl rfl .nil))) rfl (.cons (.none rfl) (JO.lit (e := Q6) Try.runUnderlying26 Try.sizeOf41 Try.zeroValue41 rfl rfl rfl rfl (.cons (.agg rfl (.same (.same .nil)) (.prm (.one _ _) (.one _ _)) rfl) .nil)) rfl (JP4.append (.none rfl) 114 hv27 rfl rfl (.sl rfl) Try.runUnderlying26 Try.typeInfo41 Try.sizeOf41 rfl rfl rfl rfl rfl (.cons (.none rfl) (JO.alloc 115 Try.zeroValue26 rfl (.cons (Z.sl Q6) .nil) rfl) rfl (JP4.store (.none rfl) rfl rfl rfl rfl rfl rfl rfl Try.sizeOf26 .nil))))))))))))))))) (by exact (J.fin (Sw.Sub.mk id (.c rfl (.c rfl (.c rfl .nil))) (.box rfl (.c rfl (.c rfl .nil)) (.box rfl (.c rfl .nil) (.box rfl (.c rfl .nil) (.arr rfl .nil)))) rfl))) rfl (by decide +kernel) (by decide +kernel) (by decide +kernel) (by kernel_rfl) (by kernel_rfl) ?_
   refine W.seq ?_
   refine W.reg (σ' := ⟨[(0, .ptr 9000 0), (4, .ptr 101 0), (11, .pst Q2 v27), (12, .ref 116)], [(9000, .box 134 [.v Q0 a0_0, .v Q1 a0_1] (some (A 9000))), (101, .box 83 [.ptr 9000 0] (some (c1))), (116, .arr 135 (eClo_store_Store_Commit (A 9000) (c1)) ([(.inl ((), ((), v27)) : Clo_store_Store_Commit)] : (List Clo_store_Store_Commit)))]⟩) (J.sub (σ' := ⟨[(0, .ptr 9000 0), (4, .ptr 101 0), (11, .pst Q2 v27)], [(9000, .box 134 [.v Q0 a0_0, .v Q1 a0_1] (some (A 9000))), (101, .box 83 [.ptr 9000 0] (some (c1)))]⟩) (Sw.Sub.mk id (.c rfl (.c rfl (.cons rfl (.frzP rfl rfl (.cons (.frz rfl rfl) .nil) (.one _ _)) .nil))) (.box rfl (.c rfl (.c rfl .nil)) (.box rfl (.c rfl .nil) .nil)) rfl) (J.k (JO.mkClo .nil (.cons (.adr rfl rfl) (.pst rfl)) (.l .self)) (J.k (JO.litR (e := (eClo_store_Store_Commit (A 9000) (c1))) 116 Try.runUnderlying142 Try.sizeOf135 Try.zeroValue135 rfl rfl rfl rfl (.cons (.dir rfl) .nil)) (J.k (JO.assign rfl) (J.fin (Sw.Sub.mk id (.c rfl (.c rfl (.c rfl (.c rfl .nil)))) (.box rfl (.c rfl (.c rfl .nil)) (.box rfl (.c rfl .nil) (.arr rfl .nil))) rfl)))))) ?_
   refine W.seq ?_
   refine W.seq ?_
   refine W.reg (σ' := ⟨[(0, .ptr 9000 0), (4, .ptr 101 0), (12, .ref 116), (59, .v Q2 v27), (60, .v Q0 (v27.length : Int)), (61, .v Q0 (0 : Int))], [(9000, .box 134 [.v Q0 a0_0, .v Q1 a0_1] (some (A 9000))), (101, .box 83 [.ptr 9000 0] (some (c1))), (116, .arr 135 (eClo_store_Store_Commit (A 9000) (c1)) ([(.inl ((), ((), v27)) : Clo_store_Store_Commit)] : (List Clo_store_Store_Commit)))]⟩) (J.k (JO.loadPst rfl Try.isAgg26 Try.sizeOf26) (J.k (JO.len rfl Try.runUnderlying26) (J.mv rfl (J.fin (Sw.Sub.mk id (.c rfl (.c rfl (.c rfl (.c rfl (.c rfl (.c rfl .nil)))))) (.box rfl (.c rfl (.c rfl .nil)) (.box rfl (.c rfl .nil) (.arr rfl .nil))) rfl))))) ?_
   obtain ⟨o40, ho40, hb40, hr40⟩ := lp_elim h
   refine W.lp (σs := fun s36 : Int × (List Clo_store_Store_Commit) => ⟨[(0, .ptr 9000 0), (4, .ptr 101 0), (12, .ref 126), (59, .v Q2 v27), (60, .v Q0 (v27.length : Int)), (61, .v Q0 s36.1)], [(9000, .box 134 [.v Q0 a0_0, .v Q1 a0_1] (some (A 9000))), (101, .box 83 [.ptr 9000 0] (some (c1))), (126, .arr 135 (eClo_store_Store_Commit (A 9000) (c1)) s36.2)]⟩) (fun x41 : (List Clo_store_Store_Commit) => ⟨[(0, .ptr 9000 0), (4, .ptr 101 0), (12, .ref 126)], [(9000, .box 134 [.v Q0 a0_0, .v Q1 a0_1] (some (A 9000))), (101, .box 83 [.ptr 9000 0] (some (c1))), (126, .arr 135 (eClo_store_Store_Commit (A 9000) (c1)) x41)]⟩) ho40 (Sw.Sub.mk (rn [(9000, 9000), (101, 101), (126, 116)]) (.c rfl (.c rfl (.c rfl (.c rfl (.c rfl (.c rfl .nil)))))) (.box rfl (.c rfl (.c rfl .nil)) (.box rfl (.c rfl .nil) (.arr rfl .nil))) rfl) ?_ ?_
   ·intro x41 hy
    have h := hb40 _ hy
    refine W.seq ?_
    obtain ⟨v45, hv45, h⟩ := bind_e h
    obtain ⟨v46, hv46, h⟩ := bind_e h
    refine W.reg (σ' := ⟨[(0, .ptr 9000 0), (8, .v (Enc.err ET) v46.1)], [(9000, .box 134 [.v Q0 v46.2.1, .v Q1 v46.2.2] (some (A 9000)))]⟩) (J.mv rfl (J.k (JO.load rfl rfl rfl Try.isAgg83 Try.sizeOf83) (J.k (JO.mkClo (.adr rfl rfl) .nil (.r (.r (.r (.l .self))))) (J.k (JO.mkClo .nil (.adr rfl rfl) (.r (.r (.r (.r (.l .self)))))) (J.k (JO.load rfl rfl rfl Try.isAgg83 Try.sizeOf83) (J.k (JO.mkClo (.adr rfl rfl) .nil (.r (.r (.r (.r (.r (.l .self))))))) (J.k (JO.load rfl rfl rfl Try.isAgg83 Try.sizeOf83) (J.k (JO.mkClo (.adr rfl rfl) .nil (.r (.r (.r (.r (.r (.r (.l .self)))))))) (J.k (JO.mkClo .nil (.adr rfl rfl) (.r (.r (.r (.r (.r (.r (.r .self)))))))) (J.k (JO.lit (e := (eClo_store_Store_Commit (A 9000) (c1))) Try.runUnderlying142 Try.sizeOf135 Try.zeroValue135 rfl rfl rfl rfl (.cons (.dir rfl) (.cons (.dir rfl) (.cons (.dir rfl) (.cons (.dir rfl) (.cons (.dir rfl) .nil)))))) (J.t (JM.append 133 hv45 rfl rfl (.sl rfl) Try.runUnderlying142 Try.typeInfo135 Try.sizeOf135 rfl rfl rfl rfl rfl) (J.sub (σ' := ⟨[(0, .ptr 9000 0), (4, .ptr 101 0), (73, .ptr 9000 0), (74, .v (eClo_store_Store_Commit (A 9000) (c1)) (.inr (.inr (.inr (.inl ((), ())))) : Clo_store_Store_Commit)), (75, .v (eClo_store_Store_Commit (A 9000) (c1)) (.inr (.inr (.inr (.inr (.inl ((), ()))))) : Clo_store_Store_Commit)), (76, .ptr 9000 0), (77, .v (eClo_store_Store_Commit (A 9000) (c1)) (.inr (.inr (.inr (.inr (.inr (.inl ((), ())))))) : Clo_store_Store_Commit)), (78, .ptr 9000 0), (79, .v (eClo_store_Store_Commit (A 9000) (c1)) (.inr (.inr (.inr (.inr (.inr (.inr (.inl ((), ()))))))) : Clo_store_Store_Commit)), (80, .v (eClo_store_Store_Commit (A 9000) (c1)) (.inr (.inr (.inr (.inr (.inr (.inr (.inr ((), ()))))))) : Clo_store_Store_Commit)), (81, .v (Enc.sl (eClo_store_Store_Commit (A 9000) (c1))) ([(.inr (.inr (.inr (.inl ((), ())))) : Clo_store_Store_Commit), (.inr (.inr (.inr (.inr (.inl ((), ()))))) : Clo_store_Store_Commit), (.inr (.inr (.inr (.inr (.inr (.inl ((), ())))))) : Clo_store_Store_Commit), (.inr (.inr (.inr (.inr (.inr (.inr (.inl ((), ()))))))) : Clo_store_Store_Commit), (.inr (.inr (.inr (.inr (.inr (.inr (.inr ((), ()))))))) : Clo_store_Store_Commit)] : (List Clo_store_Store_Commit))), (82, .v (Enc.sl (eClo_store_Store_Commit (A 9000) (c1))) v45)], [(9000, .box 134 [.v Q0 a0_0, .v Q1 a0_1] (some (A 9000))), (101, .box 83 [.ptr 9000 0] (some (c1)))]⟩) (Sw.Sub.mk id (.c rfl (.c rfl (.c rfl (.c rfl (.c rfl (.c rfl (.c rfl (.c rfl (.c rfl (.c rfl (.c rfl (.cons rfl (.frz rfl rfl) .nil)))))))))))) (.box rfl (.c rfl (.c rfl .nil)) (.box rfl (.c rfl .nil) .nil)) rfl) (J.t (JM.callMA (H := [9000, 101]) (K := [9000, 101]) [(9000, A 9000), (9100, c1)] (swp [(9000, 9000), (9100, 101)]) (swp_inj _) ⟨⟨_, _, rfl⟩, ⟨_, _, rfl⟩, trivial⟩ (ConM.at2 (ss := fun a9 p9 => [.v (Enc.sl (eClo_store_Store_Commit a9 p9)) v45]) (A 9000) c1 (fun A9 => con_store_all_store_Store_Commit_io A9 hv46)) Try.call63 (.cons (.dir rfl) .nil) (fun _ => .box rfl (.box rfl .nil)) (fun _ => .box rfl (.box rfl .nil rfl) rfl) (fun _ => rfl) rfl rfl (fun _ => rfl) rfl rfl) (J.k (JO.assign rfl) (J.fin (Sw.Sub.mk id (.c rfl (.c rfl .nil)) (.box rfl (.c rfl (.c rfl .nil)) .nil) rfl)))))))))))))))) ?_
    refine W.ret ?_
    obtain rfl := Option.some.inj h
    exact XQ.sub (σ' := ⟨[(0, .ptr 9000 0), (8, .v (Enc.err ET) v46.1)], [(9000, .box 134 [.v Q0 v46.2.1, .v Q1 v46.2.2] (some (A 9000)))]⟩) (Sw.Sub.mk id (.c rfl (.c rfl .nil)) (.box rfl (.c rfl (.c rfl .nil)) .nil) rfl) (XQ.retM1 hF rfl (RV.tmp rfl) (.cons rfl .nil))
   intro s36 r40 h
   refine W.seq ?_
   refine W.reg (σ' := ⟨[(0, .ptr 9000 0), (4, .ptr 101 0), (12, .ref 126), (59, .v Q2 v27), (60, .v Q0 (v27.length : Int)), (61, .v Q0 s36.1), (62, .v Enc.bool (cm .lss s36.1 (v27.length : Int)))], [(9000, .box 134 [.v Q0 a0_0, .v Q1 a0_1] (some (A 9000))), (101, .box 83 [.ptr 9000 0] (some (c1))), (126, .arr 135 (eClo_store_Store_Commit (A 9000) (c1)) s36.2)]⟩) (J.k (JO.cmp rfl rfl rfl) (J.fin (Sw.Sub.mk id (.c rfl (.c rfl (.c rfl (.c rfl (.c rfl (.c rfl (.c rfl .nil))))))) (.box rfl (.c rfl (.c rfl .nil)) (.box rfl (.c rfl .nil) (.arr rfl .nil))) rfl))) ?_
   refine W.seq ?_
   rcases Bool.eq_false_or_eq_true (cm .lss s36.1 (v27.length : Int)) with hc42 | hc42
   ·replace h := cond_t hc42 h
    refine W.condT rfl hc42 ?_
    refine W.skip ?_
    refine W.seq ?_
    refine W.block ?_
    refine W.seq ?_
    obtain ⟨z43, hz43, h⟩ := bind_e h
    refine W.reg (σ' := ⟨[(0, .ptr 9000 0), (4, .ptr 101 0), (12, .ref 126), (13, .ptr 130 0), (14, .ptr 131 0), (59, .v Q2 v27), (60, .v Q0 (v27.length : Int)), (61, .v Q0 s36.1)], [(9000, .box 134 [.v Q0 a0_0, .v Q1 a0_1] (some (A 9000))), (101, .box 83 [.ptr 9000 0] (some (c1))), (126, .arr 135 (eClo_store_Store_Commit (A 9000) (c1)) s36.2), (130, .box 3 [.v Q0 s36.1]), (131, .box 41 [.v Q0 z43.1, .v eBlk z43.2])]⟩) (J.mv rfl (J.k (JO.idx hz43 rfl rfl Try.runUnderlying26 Try.sizeOf41) (J.k (JO.loadPst rfl Try.isAgg41 Try.sizeOf41) (J.k (JO.alloc 130 Try.zeroValue3 rfl (.cons (Z.int .i64) .nil) rfl) (J.k (JO.alloc 131 Try.zeroValue41 rfl (.cons (Z.int .i64) (.cons (Z.arr 8 (Z.int .u8)) .nil)) rfl) (J.t (JM.store rfl rfl rfl rfl rfl rfl rfl Try.sizeOf3) (J.t (JM.storeAll rfl rfl rfl rfl (.prm (.one _ _) (.one _ _)) Try.sizeOf41) (J.fin (Sw.Sub.mk id (.c rfl (.c rfl (.c rfl (.c rfl (.c rfl (.c rfl (.c rfl (.c rfl .nil)))))))) (.box rfl (.c rfl (.c rfl .nil)) (.box rfl (.c rfl .nil) (.arr rfl (.box rfl (.c rfl .nil) (.box rfl (.c rfl (.c rfl .nil)) .nil))))) rfl))))))))) ?_
    refine W.sub (σ' := ⟨[(0, .ptr 9000 0), (4, .ptr 101 0), (12, .ref 126), (13, .pst Q0 s36.1), (14, .ptr 131 0), (59, .v Q2 v27), (60, .v Q0 (v27.length : Int)), (61, .v Q0 s36.1)], [(9000, .box 134 [.v Q0 a0_0, .v Q1 a0_1] (some (A 9000))), (101, .box 83 [.ptr 9000 0] (some (c1))), (126, .arr 135 (eClo_store_Store_Commit (A 9000) (c1)) s36.2), (131, .box 41 [.v Q0 z43.1, .v eBlk z43.2])]⟩) (Sw.Sub.mk id (.c rfl (.c rfl (.c rfl (.cons rfl (.frzP rfl rfl (.c rfl .nil) (.one _ _)) (.c rfl (.c rfl (.c rfl (.c rfl .nil)))))))) (.box rfl (.c rfl (.c rfl .nil)) (.box rfl (.c rfl .nil) (.arr rfl (.box rfl (.c rfl (.c rfl .nil)) .nil)))) rfl) ?_
    obtain ⟨v44, hv44, h⟩ := bind_e h
    refine W.reg (σ' := ⟨[(0, .ptr 9000 0), (4, .ptr 101 0), (12, .ref 132), (59, .v Q2 v27), (60, .v Q0 (v27.length : Int)), (61, .v Q0 s36.1)], [(9000, .box 134 [.v Q0 a0_0, .v Q1 a0_1] (some (A 9000))), (101, .box 83 [.ptr 9000 0] (some (c1))), (132, .arr 135 (eClo_store_Store_Commit (A 9000) (c1)) v44)]⟩) (J.mv rfl (J.sub (σ' := ⟨[(0, .ptr 9000 0), (4, .ptr 101 0), (12, .ref 126), (13, .pst Q0 s36.1), (14, .pst Q6 z43), (59, .v Q2 v27), (60, .v Q0 (v27.length : Int)), (61, .v Q0 s36.1), (66, .ref 126)], [(9000, .box 134 [.v Q0 a0_0, .v Q1 a0_1] (some (A 9000))), (101, .box 83 [.ptr 9000 0] (some (c1))), (126, .arr 135 (eClo_store_Store_Commit (A 9000) (c1)) s36.2)]⟩) (Sw.Sub.mk id (.c rfl (.c rfl (.c rfl (.c rfl (.cons rfl (.frzP rfl rfl (.c rfl (.c rfl .nil)) (.prm (.one _ _) (.one _ _))) (.c rfl (.c rfl (.c rfl (.c rfl .nil))))))))) (.box rfl (.c rfl (.c rfl .nil)) (.box rfl (.c rfl .nil) (.arr rfl .nil))) rfl) (J.k (JO.mkClo .nil (.cons (.adr rfl rfl) (.cons (.pst rfl) (.pst rfl))) (.r (.l .self))) (J.k (JO.mkClo .nil (.cons (.adr rfl rfl) (.cons (.pst rfl) (.pst rfl))) (.r (.r (.l .self)))) (J.k (JO.lit (e := (eClo_store_Store_Commit (A 9000) (c1))) Try.runUnderlying142 Try.sizeOf135 Try.zeroValue135 rfl rfl rfl rfl (.cons (.dir rfl) (.cons (.dir rfl) .nil))) (J.t (JM.append 132 hv44 rfl rfl (.sl rfl) Try.runUnderlying142 Try.typeInfo135 Try.sizeOf135 rfl rfl rfl rfl rfl) (J.k (JO.assign rfl) (J.fin (Sw.Sub.mk id (.c rfl (.c rfl (.c rfl (.c rfl (.c rfl (.c rfl .nil)))))) (.box rfl (.c rfl (.c rfl .nil)) (.box rfl (.c rfl .nil) (.arr rfl .nil))) rfl))))))))) ?_
    refine W.fall ?_
    refine W.reg (σ' := ⟨[(0, .ptr 9000 0), (4, .ptr 101 0), (12, .ref 132), (59, .v Q2 v27), (60, .v Q0 (v27.length : Int)), (61, .v Q0 (ar .add .i64 s36.1 (1 : Int)))], [(9000, .box 134 [.v Q0 a0_0, .v Q1 a0_1] (some (A 9000))), (101, .box 83 [.ptr 9000 0] (some (c1))), (132, .arr 135 (eClo_store_Store_Commit (A 9000) (c1)) v44)]⟩) (J.k (JO.arith rfl rfl rfl) (J.mv rfl (J.fin (Sw.Sub.mk id (.c rfl (.c rfl (.c rfl (.c rfl (.c rfl (.c rfl .nil)))))) (.box rfl (.c rfl (.c rfl .nil)) (.box rfl (.c rfl .nil) (.arr rfl .nil))) rfl)))) ?_
    obtain rfl := Option.some.inj h
    exact W.next (Sw.Sub.mk (rn [(9000, 9000), (101, 101), (126, 132)]) (.c rfl (.c rfl (.c rfl (.c rfl (.c rfl (.c rfl .nil)))))) (.box rfl (.c rfl (.c rfl .nil)) (.box rfl (.c rfl .nil) (.arr rfl .nil))) rfl)
   ·replace h := cond_f hc42 h
    refine W.condF rfl hc42 ?_
    refine W.exit ?_
    obtain rfl := Option.some.inj h
    exact XQ.brk (Sw.Sub.mk id (.c rfl (.c rfl (.c rfl .nil))) (.box rfl (.c rfl (.c rfl .nil)) (.box rfl (.c rfl .nil) (.arr rfl .nil))) rfl)
set_option maxRecDepth 100000 in
set_option maxHeartbeats 4000000 in
theorem con_store_Store_Disk {a0 : (Int × Q3)} {r : Q3} (h : m_store_Store_Disk a0 = some r) :
  Con Try.prog 30 [.pst (Enc.pr Q0 Q1) a0] (.agg [.ref 0, .ref 1, .v Q0 r.2.2]) [(0, .arr 29 eBlk r.1), (1, .arr 41 Q6 r.2.1)] := by
 refine Con.of Try.func30 rfl Try.ntmps30 rfl ?_
 intro S w hF
 unfold m_store_Store_Disk at h
 refine W.seq ?_
 refine W.reg (σ' := ⟨[(0, .pst (Enc.pr Q0 Q1) a0), (2, .ptr 101 0)], [(101, .box 80 [.v Q4 ([] : (List Blk)), .v Q2 ([] : Q7), .v Q0 (0 : Int)])]⟩) (J.k (JO.alloc 101 Try.zeroValue80 rfl (.cons (Z.sl eBlk) (.cons (Z.sl Q6) (.cons (Z.int .i64) .nil))) rfl) (J.fin (Sw.Sub.mk id (.c rfl (.c rfl .nil)) (.box rfl (.c rfl (.c rfl (.c rfl .nil))) .nil) rfl))) ?_
 refine W.seq ?_
 obtain ⟨v1, hv1, h⟩ := bind_e h
 obtain ⟨v2, hv2, h⟩ := bind_e h
 refine W.dr2 (σ' := ⟨[(2, .ptr 101 0)], [(101, .box 80 [.ref 102000, .ref 103000, .v Q0 a0.2.2.2]), (102000, .arr 29 eBlk v1), (103000, .arr 41 Q6 v2)]⟩) 19 [0, 1, 3, 7, 15, 31, 0, 64, 192, 448, 960, 2047, 0, 4096, 12288, 28672, 61440, 131071, 262143] mixed (by exact (.cons (.none rfl) (JO.move rfl) rfl rfl (.cons (.none rfl) (JO.nilPst rfl) rfl rfl (.cons (.none rfl) (JO.fieldPst rfl Try.runUnderlying134 rfl Try.sizeOf80 rfl (.snd .here) rfl) rfl rfl (.cons (.none rfl) (JO.fieldPst rfl Try.runUnderlying80 rfl Try.sizeOf24 rfl (.fst .here) rfl) rfl rfl (.cons (.none rfl) (JO.loadPst rfl Try.isAgg24 Try.sizeOf24) rfl rfl (.cons (.none rfl) (JO.call 102000 (con_slices_Clone_api_Block_api_Block hv1) Try.call36 (.cons (.dir rfl) .nil) rfl) rfl rfl (.cons (.none rfl) (JO.move rfl) rfl rfl (.cons (.none rfl) (JO.nilPst rfl) rfl rfl (.cons (.none rfl) (JO.fieldPst rfl Try.runUnderlying134 rfl Try.sizeOf80 rfl (.snd .here) rfl) rfl rfl (.cons (.none rfl) (JO.fieldPst rfl Try.runUnderlying80 rfl Try.sizeOf26 rfl (.snd (.fst .here)) rfl) rfl rfl (.cons (.none rfl) (JO.loadPst rfl Try.isAgg26 Try.sizeOf26) rfl rfl (.cons (.none rfl) (JO.call 103000 (con_slices_Clone_api_Put_api_Put hv2) Try.call58 (.cons (.dir rfl) .nil) rfl) rfl rfl (.cons (.none rfl) (JO.move rfl) rfl rfl (.cons (.none rfl) (JO.nilPst rfl) rfl rfl (.cons (.none rfl) (JO.fieldPst rfl Try.runUnderlying134 rfl Try.sizeOf80 rfl (.snd .here) rfl) rfl rfl (.cons (.none rfl) (JO.fieldPst rfl Try.runUnderlying80 rfl Try.sizeOf3 rfl (.snd (.snd .here)) rfl) rfl rfl (.cons (.none rfl) (JO.loadPst rfl Try.isAgg3 Try.sizeOf3) rfl rfl (.cons (.none rfl) (JO.build built80 (.cons (Z.sl eBlk) (.cons (Z.sl Q6) (.cons (Z.int .i64) .nil))) (.cons rfl (.dir rfl) rfl rfl rfl rfl (.cons rfl (.dir rfl) rfl rfl rfl rfl (.cons rfl (.dir rfl) rfl rfl rfl rfl .nil)))) rfl rfl (JP2.storeAgg (.none rfl) rfl rfl rfl rfl rfl rfl Try.sizeOf80 .nil)))))))))))))))))))) (by exact (J.fin (Sw.Sub.mk id (.c rfl .nil) (.box rfl (.c rfl (.c rfl (.c rfl .nil))) (.arr rfl (.arr rfl .nil))) rfl))) rfl (by decide +kernel) (by decide +kernel) (by decide +kernel) (by kernel_rfl) ?_
 refine W.ret ?_
 obtain rfl := Option.some.inj h
 exact XQ.sub (σ' := ⟨[(2, .ptr 90 0)], [(90, .box 80 [.ref 0, .ref 1, .v Q0 a0.2.2.2]), (1, .arr 41 Q6 v2), (0, .arr 29 eBlk v1)]⟩) (Sw.Sub.mk (rn [(90, 101), (1, 103000), (0, 102000)]) (.c rfl .nil) (.box rfl (.c rfl (.c rfl (.c rfl .nil))) (.arr rfl (.arr rfl .nil))) rfl) (XQ.ret1 hF noR rfl (RV.cellAgg rfl rfl rfl Try.isAgg80 Try.sizeOf80) (.cons rfl (.cons rfl .nil)) rfl)
set_option maxRecDepth 100000 in
set_option maxHeartbeats 4000000 in
theorem con_store_Store_Get {a0 : (Int × Q3)} {a1 : Int} {r : Blk × (Option Int)} (h : m_store_Store_Get a0 a1 = some r) :
  Con Try.prog 88 [.pst (Enc.pr Q0 Q1) a0, .v Q0 a1] (.tup [.v eBlk r.1, .v (Enc.err ET) r.2]) [] := by
 refine Con.of Try.func88 rfl Try.ntmps88 rfl ?_
 intro S w hF
 unfold m_store_Store_Get at h
 refine W.seq ?_
 refine W.reg (σ' := ⟨[(0, .pst (Enc.pr Q0 Q1) a0), (1, .v Q0 a1), (4, .ptr 101 0)], [(101, .box 29 [.v eBlk zblk])]⟩) (J.k (JO.alloc 101 Try.zeroValue29 rfl (.cons (Z.arr 8 (Z.int .u8)) .nil) rfl) (J.k (JO.assignNilE ET) (J.fin (Sw.Sub.mk id (.c rfl (.c rfl (.c rfl .nil))) (.box rfl (.c rfl .nil) .nil) rfl)))) ?_
 refine W.seq ?_
 refine W.seq ?_
 obtain ⟨x2, hx, h⟩ := bind_e h
 refine W.reg (σ' := ⟨[(0, .pst (Enc.pr Q0 Q1) a0), (1, .v Q0 a1), (4, .ptr 101 0), (15, .v Enc.bool x2)], [(101, .box 29 [.v eBlk zblk])]⟩) ?_ ?_
 ·rcases Bool.eq_false_or_eq_true (cm .lss a1 (0 : Int)) with hc3 | hc3
  ·replace hx := cond_t hc3 hx
   obtain rfl := Option.some.inj hx
   exact (J.mv rfl (J.k (JO.cmp rfl rfl rfl) (J.mv rfl (J.u 8 hc3 (J.u 8 hc3 (J.u 8 hc3 (J.u 8 hc3 (J.u 8 hc3 (J.u 8 hc3 (J.k (JO.pT hc3 rfl rfl) (J.fin (Sw.Sub.mk id (.c rfl (.c rfl (.c rfl (.c rfl .nil)))) (.box rfl (.c rfl .nil) .nil) rfl))))))))))))
  ·replace hx := cond_f hc3 hx
   obtain rfl := Option.some.inj hx
   exact (J.mv rfl (J.k (JO.cmp rfl rfl rfl) (J.mv rfl (J.m 8 hc3 (JO.move rfl) (J.m 8 hc3 (JO.move rfl) (J.m 8 hc3 (JO.nilPst rfl) (J.m 8 hc3 (JO.fieldPst rfl Try.runUnderlying134 rfl Try.sizeOf3 rfl (.fst .here) rfl) (J.m 8 hc3 (JO.loadPst rfl Try.isAgg3 Try.sizeOf3) (J.m 8 hc3 (JO.cmp rfl rfl rfl) (J.k (JO.pF hc3 rfl rfl) (J.fin (Sw.Sub.mk id (.c rfl (.c rfl (.c rfl (.c rfl .nil)))) (.box rfl (.c rfl .nil) .nil) rfl))))))))))))
 rcases Bool.eq_false_or_eq_true x2 with hc4 | hc4
 ·replace h := cond_t hc4 h
  refine W.condT rfl hc4 ?_
  refine W.seq ?_
  refine W.reg (σ' := ⟨[(4, .ptr 101 0), (5, .v (Enc.err ET) (some (1 : Int)))], [(101, .box 29 [.v eBlk zblk])]⟩) (J.k (JO.zeroArr (e := eBlk) (v := zblk) Try.typeInfo29 Try.runUnderlying29 Try.typeInfo5 rfl rfl (Z.arr 8 (Z.int .u8))) (J.k (JO.mkErr Try.runUnderlying86 rfl) (J.t (JM.store rfl rfl rfl rfl rfl rfl rfl Try.sizeOf29) (J.k (JO.assign rfl) (J.fin (Sw.Sub.mk id (.c rfl (.c rfl .nil)) (.box rfl (.c rfl .nil) .nil) rfl)))))) ?_
  refine W.ret ?_
  obtain rfl := Option.some.inj h
  exact XQ.sub (σ' := ⟨[(4, .ptr 90 0), (5, .v (Enc.err ET) (some (1 : Int)))], [(90, .box 29 [.v eBlk zblk])]⟩) (Sw.Sub.mk (rn [(90, 101)]) (.c rfl (.c rfl .nil)) (.box rfl (.c rfl .nil) .nil) rfl) (XQ.ret2 hF noR rfl (RV.cellAt rfl rfl rfl Try.isAgg29 Try.sizeOf29) (RV.tmp rfl) .nil rfl)
 ·replace h := cond_f hc4 h
  refine W.condF rfl hc4 ?_
  refine W.skip ?_
  refine W.seq ?_
  obtain ⟨v5, hv5, h⟩ := bind_e h
  refine W.reg (σ' := ⟨[(4, .ptr 101 0), (5, .v (Enc.err ET) v5.2)], [(101, .box 29 [.v eBlk v5.1])]⟩) (J.mv rfl (J.k (JO.nilPst rfl) (J.k (JO.fieldPst rfl Try.runUnderlying134 rfl Try.sizeOf80 rfl (.snd .here) rfl) (J.k (JO.loadPst rfl Try.isAgg80 Try.sizeOf80) (J.mv rfl (J.k (JO.call0 (con_disk_Read hv5) Try.call81 (.cons (.dir rfl) (.cons (.dir rfl) .nil))) (J.k (JO.extract rfl rfl) (J.k (JO.extract rfl rfl) (J.t (JM.store rfl rfl rfl rfl rfl rfl rfl Try.sizeOf29) (J.k (JO.assign rfl) (J.fin (Sw.Sub.mk id (.c rfl (.c rfl .nil)) (.box rfl (.c rfl .nil) .nil) rfl)))))))))))) ?_
  refine W.ret ?_
  obtain rfl := Option.some.inj h
  exact XQ.sub (σ' := ⟨[(4, .ptr 90 0), (5, .v (Enc.err ET) v5.2)], [(90, .box 29 [.v eBlk v5.1])]⟩) (Sw.Sub.mk (rn [(90, 101)]) (.c rfl (.c rfl .nil)) (.box rfl (.c rfl .nil) .nil) rfl) (XQ.ret2 hF noR rfl (RV.cellAt rfl rfl rfl Try.isAgg29 Try.sizeOf29) (RV.tmp rfl) .nil rfl)
set_option maxRecDepth 100000 in
set_option maxHeartbeats 4000000 in
theorem con_store_Store_All {a0 : (Int × Q3)} {r : (List Blk) × (Option Int)} (h : m_store_Store_All a0 = some r) :
  Con Try.prog 69 [.pst (Enc.pr Q0 Q1) a0] (.tup [.v Q4 r.1, .v (Enc.err ET) r.2]) [] := by
 refine Con.of Try.func69 rfl Try.ntmps69 rfl ?_
 intro S w hF
 unfold m_store_Store_All at h
 refine W.seq ?_
 refine W.reg (σ' := ⟨[(0, .pst (Enc.pr Q0 Q1) a0)], []⟩) (J.k (JO.assignNilR 101 29 eBlk) (J.k (JO.assignNilE ET) (J.fin (Sw.Sub.mk id (.c rfl .nil) .nil rfl)))) ?_
 refine W.seq ?_
 refine W.reg (σ' := ⟨[(0, .pst (Enc.pr Q0 Q1) a0), (4, .ref 102)], [(102, .arr 29 eBlk ([] : (List Blk)))]⟩) (J.k (JO.assignNilR 102 29 eBlk) (J.fin (Sw.Sub.mk id (.c rfl (.c rfl .nil)) (.arr rfl .nil) rfl))) ?_
 refine W.seq ?_
 refine W.seq ?_
 refine W.reg (σ' := ⟨[(0, .pst (Enc.pr Q0 Q1) a0), (4, .ref 102), (11, .v Q0 a0.1), (12, .v Q0 (0 : Int))], [(102, .arr 29 eBlk ([] : (List Blk)))]⟩) (J.mv rfl (J.k (JO.nilPst rfl) (J.k (JO.fieldPst rfl Try.runUnderlying134 rfl Try.sizeOf3 rfl (.fst .here) rfl) (J.k (JO.loadPst rfl Try.isAgg3 Try.sizeOf3) (J.mv rfl (J.fin (Sw.Sub.mk id (.c rfl (.c rfl (.c rfl (.c rfl .nil)))) (.arr rfl .nil) rfl))))))) ?_
 obtain ⟨o16, ho16, hb16, hr16⟩ := lp_elim h
 refine W.lp (σs := fun s11 : Int × (List Blk) => ⟨[(0, .pst (Enc.pr Q0 Q1) a0), (4, .ref 114), (11, .v Q0 a0.1), (12, .v Q0 s11.1)], [(114, .arr 29 eBlk s11.2)]⟩) (fun x17 : (List Blk) => ⟨[(4, .ref 114)], [(114, .arr 29 eBlk x17)]⟩) ho16 (Sw.Sub.mk (rn [(114, 102)]) (.c rfl (.c rfl (.c rfl (.c rfl .nil)))) (.arr rfl .nil) rfl) ?_ ?_
 ·intro x17 hy
  have h := hb16 _ hy
  refine W.seq ?_
  refine W.reg (σ' := ⟨[(2, .ref 114), (3, .v (Enc.err ET) (none : Option Int))], [(114, .arr 29 eBlk x17)]⟩) (J.mv rfl (J.k (JO.assign rfl) (J.k (JO.assignNilE ET) (J.fin (Sw.Sub.mk id (.c rfl (.c rfl .nil)) (.arr rfl .nil) rfl))))) ?_
  refine W.ret ?_
  obtain rfl := Option.some.inj h
  exact XQ.sub (σ' := ⟨[(2, .v Q4 x17), (3, .v (Enc.err ET) (none : Option Int))], []⟩) (Sw.Sub.mk id (.cons rfl (.frz rfl rfl) (.c rfl .nil)) .nil rfl) (XQ.ret2 hF noR rfl (RV.tmp rfl) (RV.tmp rfl) .nil rfl)
 intro s11 r16 h
 refine W.seq ?_
 refine W.reg (σ' := ⟨[(0, .pst (Enc.pr Q0 Q1) a0), (4, .ref 114), (11, .v Q0 a0.1), (12, .v Q0 s11.1), (13, .v Enc.bool (cm .lss s11.1 a0.1))], [(114, .arr 29 eBlk s11.2)]⟩) (J.k (JO.cmp rfl rfl rfl) (J.fin (Sw.Sub.mk id (.c rfl (.c rfl (.c rfl (.c rfl (.c rfl .nil))))) (.arr rfl .nil) rfl))) ?_
 refine W.seq ?_
 rcases Bool.eq_false_or_eq_true (cm .lss s11.1 a0.1) with hc18 | hc18
 ·replace h := cond_t hc18 h
  refine W.condT rfl hc18 ?_
  refine W.skip ?_
  refine W.seq ?_
  refine W.block ?_
  refine W.seq ?_
  refine W.reg (σ' := ⟨[(0, .pst (Enc.pr Q0 Q1) a0), (4, .ref 114), (5, .v Q0 s11.1), (11, .v Q0 a0.1), (12, .v Q0 s11.1)], [(114, .arr 29 eBlk s11.2)]⟩) (J.mv rfl (J.k (JO.assign rfl) (J.fin (Sw.Sub.mk id (.c rfl (.c rfl (.c rfl (.c rfl (.c rfl .nil))))) (.arr rfl .nil) rfl)))) ?_
  refine W.seq ?_
  obtain ⟨v19, hv19, h⟩ := bind_e h
  refine W.reg (σ' := ⟨[(0, .pst (Enc.pr Q0 Q1) a0), (4, .ref 114), (6, .ptr 120 0), (7, .v (Enc.err ET) v19.2), (11, .v Q0 a0.1), (12, .v Q0 s11.1)], [(114, .arr 29 eBlk s11.2), (120, .box 29 [.v eBlk v19.1])]⟩) (J.mv rfl (J.mv rfl (J.k (JO.call0 (con_store_Store_Get hv19) Try.call88 (.cons (.dir rfl) (.cons (.dir rfl) .nil))) (J.mv rfl (J.k (JO.extract rfl rfl) (J.k (JO.extract rfl rfl) (J.k (JO.alloc 120 Try.zeroValue29 rfl (.cons (Z.arr 8 (Z.int .u8)) .nil) rfl) (J.t (JM.store rfl rfl rfl rfl rfl rfl rfl Try.sizeOf29) (J.k (JO.assign rfl) (J.fin (Sw.Sub.mk id (.c rfl (.c rfl (.c rfl (.c rfl (.c rfl (.c rfl .nil)))))) (.arr rfl (.box rfl (.c rfl .nil) .nil)) rfl))))))))))) ?_
  refine W.seq ?_
  refine W.seq ?_
  refine W.reg (σ' := ⟨[(0, .pst (Enc.pr Q0 Q1) a0), (4, .ref 114), (6, .ptr 120 0), (7, .v (Enc.err ET) v19.2), (11, .v Q0 a0.1), (12, .v Q0 s11.1), (22, .v Enc.bool (Option.isSome v19.2))], [(114, .arr 29 eBlk s11.2), (120, .box 29 [.v eBlk v19.1])]⟩) (J.mv rfl (J.k (JO.errNe Try.runUnderlying34 rfl) (J.fin (Sw.Sub.mk id (.c rfl (.c rfl (.c rfl (.c rfl (.c rfl (.c rfl (.c rfl .nil))))))) (.arr rfl (.box rfl (.c rfl .nil) .nil)) rfl)))) ?_
  rcases Bool.eq_false_or_eq_true (Option.isSome v19.2) with hc20 | hc20
  ·replace h := cond_t hc20 h
   refine W.condT rfl hc20 ?_
   refine W.seq ?_
   refine W.reg (σ' := ⟨[(2, .ref 121), (3, .v (Enc.err ET) v19.2)], [(121, .arr 29 eBlk ([] : (List Blk)))]⟩) (J.mv rfl (J.k (JO.assignNilR 121 29 eBlk) (J.k (JO.assign rfl) (J.fin (Sw.Sub.mk id (.c rfl (.c rfl .nil)) (.arr rfl .nil) rfl))))) ?_
   refine W.ret ?_
   refine XQ.ret ?_
   obtain rfl := Option.some.inj h
   refine XQ.lret fun ho => ?_
   obtain rfl := hr16 _ ho
   exact XQ.sub (σ' := ⟨[(2, .v Q4 ([] : (List Blk))), (3, .v (Enc.err ET) v19.2)], []⟩) (Sw.Sub.mk id (.cons rfl (.frz rfl rfl) (.c rfl .nil)) .nil rfl) (XQ.ret2 hF noR rfl (RV.tmp rfl) (RV.tmp rfl) .nil rfl)
  ·replace h := cond_f hc20 h
   refine W.condF rfl hc20 ?_
   refine W.skip ?_
   obtain ⟨v21, hv21, h⟩ := bind_e h
   refine W.reg (σ' := ⟨[(0, .pst (Enc.pr Q0 Q1) a0), (4, .ref 122), (11, .v Q0 a0.1), (12, .v Q0 s11.1)], [(122, .arr 29 eBlk v21)]⟩) (J.mv rfl (J.k (JO.load rfl rfl rfl Try.isAgg29 Try.sizeOf29) (J.k (JO.lit (e := eBlk) Try.runUnderlying24 Try.sizeOf29 Try.zeroValue29 rfl rfl rfl rfl (.cons (.dir rfl) .nil)) (J.t (JM.append 122 hv21 rfl rfl (.sl rfl) Try.runUnderlying24 Try.typeInfo29 Try.sizeOf29 rfl rfl rfl rfl rfl) (J.k (JO.assign rfl) (J.fin (Sw.Sub.mk id (.c rfl (.c rfl (.c rfl (.c rfl .nil)))) (.arr rfl .nil) rfl))))))) ?_
   refine W.fall ?_
   refine W.reg (σ' := ⟨[(0, .pst (Enc.pr Q0 Q1) a0), (4, .ref 122), (11, .v Q0 a0.1), (12, .v Q0 (ar .add .i64 s11.1 (1 : Int)))], [(122, .arr 29 eBlk v21)]⟩) (J.k (JO.arith rfl rfl rfl) (J.mv rfl (J.fin (Sw.Sub.mk id (.c rfl (.c rfl (.c rfl (.c rfl .nil)))) (.arr rfl .nil) rfl)))) ?_
   obtain rfl := Option.some.inj h
   exact W.next (Sw.Sub.mk (rn [(114, 122)]) (.c rfl (.c rfl (.c rfl (.c rfl .nil)))) (.arr rfl .nil) rfl)
 ·replace h := cond_f hc18 h
  refine W.condF rfl hc18 ?_
  refine W.exit ?_
  obtain rfl := Option.some.inj h
  exact XQ.brk (Sw.Sub.mk id (.c rfl .nil) (.arr rfl .nil) rfl)
set_option maxRecDepth 100000 in
set_option maxHeartbeats 4000000 in
theorem con_store_Store_Numbers {a0 : (Int × Q3)} {r : Int × Int × (Option Int)} (h : m_store_Store_Numbers a0 = some r) :
  Con Try.prog 70 [.pst (Enc.pr Q0 Q1) a0] (.tup [.v Q0 r.1, .v Q0 r.2.1, .v (Enc.err ET) r.2.2]) [] := by
 refine Con.of Try.func70 rfl Try.ntmps70 rfl ?_
 intro S w hF
 unfold m_store_Store_Numbers at h
 refine W.seq ?_
 refine W.reg (σ' := ⟨[(0, .pst (Enc.pr Q0 Q1) a0)], []⟩) (J.k (JO.assign rfl) (J.k (JO.assign rfl) (J.k (JO.assignNilE ET) (J.fin (Sw.Sub.mk id (.c rfl .nil) .nil rfl))))) ?_
 refine W.seq ?_
 obtain ⟨v1, hv1, h⟩ := bind_e h
 refine W.dr2 (σ' := ⟨[(4, .v (Enc.err ET) v1.2), (5, .ptr 102 0)], [(102, .box 29 [.v eBlk v1.1])]⟩) 15 [0, 1, 3, 7, 0, 16, 48, 112, 255, 511, 1023, 1023, 0, 6143, 16383] mixed (by exact (.cons (.none rfl) (JO.move rfl) rfl rfl (.cons (.none rfl) (JO.nilPst rfl) rfl rfl (.cons (.none rfl) (JO.fieldPst rfl Try.runUnderlying134 rfl Try.sizeOf80 rfl (.snd .here) rfl) rfl rfl (.cons (.none rfl) (JO.loadPst rfl Try.isAgg80 Try.sizeOf80) rfl rfl (.cons (.none rfl) (JO.move rfl) rfl rfl (.cons (.none rfl) (JO.nilPst rfl) rfl rfl (.cons (.none rfl) (JO.fieldPst rfl Try.runUnderlying134 rfl Try.sizeOf3 rfl (.fst .here) rfl) rfl rfl (.cons (.none rfl) (JO.loadPst rfl Try.isAgg3 Try.sizeOf3) rfl rfl (.cons (.none rfl) (JO.call0 (con_disk_Read hv1) Try.call81 (.cons (.dir rfl) (.cons (.dir rfl) .nil))) rfl rfl (.cons (.none rfl) (JO.move rfl) rfl rfl (.cons (.none rfl) (JO.extract rfl rfl) rfl rfl (.cons (.none rfl) (JO.extract rfl rfl) rfl rfl (.cons (.none rfl) (JO.alloc 102 Try.zeroValue29 rfl (.cons (Z.arr 8 (Z.int .u8)) .nil) rfl) rfl rfl (JP2.store (.none rfl) rfl rfl rfl rfl rfl rfl rfl Try.sizeOf29 (.cons (.none rfl) (JO.assign rfl) rfl rfl .nil)))))))))))))))) (by exact (J.fin (Sw.Sub.mk id (.c rfl (.c rfl .nil)) (.box rfl (.c rfl .nil) .nil) rfl))) rfl (by decide +kernel) (by decide +kernel) (by decide +kernel) (by kernel_rfl) ?_
 refine W.seq ?_
 refine W.seq ?_
 refine W.reg (σ' := ⟨[(4, .v (Enc.err ET) v1.2), (5, .ptr 102 0), (19, .v Enc.bool (Option.isSome v1.2))], [(102, .box 29 [.v eBlk v1.1])]⟩) (J.mv rfl (J.k (JO.errNe Try.runUnderlying34 rfl) (J.fin (Sw.Sub.mk id (.c rfl (.c rfl (.c rfl .nil))) (.box rfl (.c rfl .nil) .nil) rfl)))) ?_
 rcases Bool.eq_false_or_eq_true (Option.isSome v1.2) with hc2 | hc2
 ·replace h := cond_t hc2 h
  refine W.condT rfl hc2 ?_
  refine W.seq ?_
  refine W.reg (σ' := ⟨[(2, .v Q0 (0 : Int)), (3, .v Q0 (0 : Int)), (4, .v (Enc.err ET) v1.2)], []⟩) (J.mv rfl (J.k (JO.assign rfl) (J.k (JO.assign rfl) (J.k (JO.assign rfl) (J.fin (Sw.Sub.mk id (.c rfl (.c rfl (.c rfl .nil))) .nil rfl)))))) ?_
  refine W.ret ?_
  obtain rfl := Option.some.inj h
  exact XQ.sub (σ' := ⟨[(2, .v Q0 (0 : Int)), (3, .v Q0 (0 : Int)), (4, .v (Enc.err ET) v1.2)], []⟩) (Sw.Sub.mk id (.c rfl (.c rfl (.c rfl .nil))) .nil rfl) (XQ.ret3 hF noR rfl (RV.tmp rfl) (RV.tmp rfl) (RV.tmp rfl) .nil rfl)
 ·replace h := cond_f hc2 h
  refine W.condF rfl hc2 ?_
  refine W.skip ?_
  refine W.seq ?_
  refine W.sub (σ' := ⟨[(4, .v (Enc.err ET) v1.2), (5, .pst eBlk v1.1), (19, .v Enc.bool (Option.isSome v1.2))], []⟩) (Sw.Sub.mk id (.c rfl (.cons rfl (.frzP rfl rfl (.c rfl .nil) (.one _ _)) (.c rfl .nil))) .nil rfl) ?_
  obtain ⟨v4, hv4, h⟩ := bind_e h
  obtain ⟨v5, hv5, h⟩ := bind_e h
  obtain ⟨v6, hv6, h⟩ := bind_e h
  obtain ⟨v7, hv7, h⟩ := bind_e h
  obtain ⟨z8, hz8, h⟩ := bind_e h
  obtain ⟨v9, hv9, h⟩ := bind_e h
  refine W.dr2 (σ' := ⟨[(2, .v Q0 v4), (3, .v Q0 v9), (4, .v (Enc.err ET) (none : Option Int))], []⟩) 11 [0, 1, 0, 0, 15, 31, 63, 127, 255, 511, 1023] mixed (by exact (.cons (.none rfl) (JO.loadPst rfl Try.isAgg29 Try.sizeOf29) rfl rfl (.cons (.none rfl) (JO.call0 (con_store_value hv4) Try.call87 (.cons (.dir rfl) .nil)) rfl rfl (.cons (.none rfl) (JO.slPstLo hv5 rfl rfl rfl Try.runUnderlying29 Try.sizeOf5) rfl rfl (.cons (.none rfl) (JO.slPstH hv6 rfl rfl rfl Try.runUnderlying29 Try.sizeOf5) rfl rfl (.cons (.none rfl) (JO.appC hv7 (subN_ne hv5) rfl (.sl rfl) Try.runUnderlying62 Try.typeInfo5 Try.sizeOf5 rfl rfl rfl) rfl rfl (.cons (.none rfl) (JO.arrPtr hz8 rfl Try.runUnderlying29) rfl rfl (.cons (.none rfl) (JO.loadPst rfl Try.isAgg29 Try.sizeOf29) rfl rfl (.cons (.none rfl) (JO.call0 (con_store_value hv9) Try.call87 (.cons (.dir rfl) .nil)) rfl rfl (.cons (.none rfl) (JO.assign rfl) rfl rfl (.cons (.none rfl) (JO.assign rfl) rfl rfl (.cons (.none rfl) (JO.assignNilE ET) rfl rfl .nil)))))))))))) (by exact (J.fin (Sw.Sub.mk id (.c rfl (.c rfl (.c rfl .nil))) .nil rfl))) rfl (by decide +kernel) (by decide +kernel) (by decide +kernel) (by kernel_rfl) ?_
  refine W.ret ?_
  obtain rfl := Option.some.inj h
  exact XQ.sub (σ' := ⟨[(2, .v Q0 v4), (3, .v Q0 v9), (4, .v (Enc.err ET) (none : Option Int))], []⟩) (Sw.Sub.mk id (.c rfl (.c rfl (.c rfl .nil))) .nil rfl) (XQ.ret3 hF noR rfl (RV.tmp rfl) (RV.tmp rfl) (RV.tmp rfl) .nil rfl)
set_option maxRecDepth 100000 in
set_option maxHeartbeats 4000000 in
theorem con_ref_SameBlocks {a0 : (List Blk)} {a1 : (List Blk)} {r : Bool} (h : m_ref_SameBlocks a0 a1 = some r) :
  Con Try.prog 16 [.v Q4 a0, .v Q4 a1] (.v Enc.bool r) [] := by
 refine Con.of Try.func16 rfl Try.ntmps16 rfl ?_
 intro S w hF
 unfold m_ref_SameBlocks at h
 refine W.seq ?_
 refine W.reg (σ' := ⟨[(0, .v Q4 a0), (1, .v Q4 a1)], []⟩) (J.k (JO.assign rfl) (J.fin (Sw.Sub.mk id (.c rfl (.c rfl .nil)) .nil rfl))) ?_
 refine W.seq ?_
 refine W.seq ?_
 refine W.reg (σ' := ⟨[(0, .v Q4 a0), (1, .v Q4 a1), (10, .v Enc.bool (cm .neq (a0.length : Int) (a1.length : Int)))], []⟩) (J.mv rfl (J.k (JO.len rfl Try.runUnderlying24) (J.mv rfl (J.k (JO.len rfl Try.runUnderlying24) (J.k (JO.cmp rfl rfl rfl) (J.fin (Sw.Sub.mk id (.c rfl (.c rfl (.c rfl .nil))) .nil rfl))))))) ?_
 rcases Bool.eq_false_or_eq_true (cm .neq (a0.length : Int) (a1.length : Int)) with hc1 | hc1
 ·replace h := cond_t hc1 h
  refine W.condT rfl hc1 ?_
  refine W.seq ?_
  refine W.reg (σ' := ⟨[(4, .v Enc.bool false)], []⟩) (J.k (JO.assign rfl) (J.fin (Sw.Sub.mk id (.c rfl .nil) .nil rfl))) ?_
  refine W.ret ?_
  obtain rfl := Option.some.inj h
  exact XQ.sub (σ' := ⟨[(4, .v Enc.bool false)], []⟩) (Sw.Sub.mk id (.c rfl .nil) .nil rfl) (XQ.ret1 hF noR rfl (RV.tmp rfl) .nil rfl)
 ·replace h := cond_f hc1 h
  refine W.condF rfl hc1 ?_
  refine W.skip ?_
  refine W.seq ?_
  refine W.seq ?_
  refine W.reg (σ' := ⟨[(0, .v Q4 a0), (1, .v Q4 a1), (5, .v Q0 (0 : Int))], []⟩) (J.k (JO.assign rfl) (J.fin (Sw.Sub.mk id (.c rfl (.c rfl (.c rfl .nil))) .nil rfl))) ?_
  obtain ⟨o17, ho17, hb17, hr17⟩ := lp_elim h
  refine W.lp (σs := fun s12 : Int => ⟨[(0, .v Q4 a0), (1, .v Q4 a1), (5, .v Q0 s12)], []⟩) (fun x18 : Unit => ⟨[], []⟩) ho17 (Sw.Sub.mk id (.c rfl (.c rfl (.c rfl .nil))) .nil rfl) ?_ ?_
  ·intro x18 hy
   have h := hb17 _ hy
   refine W.seq ?_
   refine W.reg (σ' := ⟨[(4, .v Enc.bool true)], []⟩) (J.k (JO.assign rfl) (J.fin (Sw.Sub.mk id (.c rfl .nil) .nil rfl))) ?_
   refine W.ret ?_
   obtain rfl := Option.some.inj h
   exact XQ.sub (σ' := ⟨[(4, .v Enc.bool true)], []⟩) (Sw.Sub.mk id (.c rfl .nil) .nil rfl) (XQ.ret1 hF noR rfl (RV.tmp rfl) .nil rfl)
  intro s12 r17 h
  refine W.seq ?_
  refine W.seq ?_
  refine W.reg (σ' := ⟨[(0, .v Q4 a0), (1, .v Q4 a1), (5, .v Q0 s12), (14, .v Enc.bool (cm .lss s12 (a0.length : Int)))], []⟩) (J.mv rfl (J.mv rfl (J.k (JO.len rfl Try.runUnderlying24) (J.k (JO.cmp rfl rfl rfl) (J.fin (Sw.Sub.mk id (.c rfl (.c rfl (.c rfl (.c rfl .nil)))) .nil rfl)))))) ?_
  rcases Bool.eq_false_or_eq_true (cm .lss s12 (a0.length : Int)) with hc19 | hc19
  ·replace h := cond_t hc19 h
   refine W.condT rfl hc19 ?_
   refine W.skip ?_
   refine W.seq ?_
   refine W.block ?_
   refine W.seq ?_
   obtain ⟨z20, hz20, h⟩ := bind_e h
   obtain ⟨z21, hz21, h⟩ := bind_e h
   refine W.dr2 (σ' := ⟨[(0, .v Q4 a0), (1, .v Q4 a1), (5, .v Q0 s12), (25, .v Enc.bool (!decide (z20 = z21)))], []⟩) 9 [0, 0, 3, 7, 0, 0, 48, 112, 255] mixed (by exact (.cons (.none rfl) (JO.move rfl) rfl rfl (.cons (.none rfl) (JO.move rfl) rfl rfl (.cons (.none rfl) (JO.idx hz20 rfl rfl Try.runUnderlying24 Try.sizeOf29) rfl rfl (.cons (.none rfl) (JO.loadPst rfl Try.isAgg29 Try.sizeOf29) rfl rfl (.cons (.none rfl) (JO.move rfl) rfl rfl (.cons (.none rfl) (JO.move rfl) rfl rfl (.cons (.none rfl) (JO.idx hz21 rfl rfl Try.runUnderlying24 Try.sizeOf29) rfl rfl (.cons (.none rfl) (JO.loadPst rfl Try.isAgg29 Try.sizeOf29) rfl rfl (.cons (.none rfl) (JO.neV eq29 rfl rfl Try.eqGuardType29 rfl rfl) rfl rfl .nil)))))))))) (by exact (J.fin (Sw.Sub.mk id (.c rfl (.c rfl (.c rfl (.c rfl .nil)))) .nil rfl))) rfl (by decide +kernel) (by decide +kernel) (by decide +kernel) (by kernel_rfl) ?_
   rcases Bool.eq_false_or_eq_true (!decide (z20 = z21)) with hc22 | hc22
   ·replace h := cond_t hc22 h
    refine W.condT rfl hc22 ?_
    refine W.seq ?_
    refine W.reg (σ' := ⟨[(4, .v Enc.bool false)], []⟩) (J.k (JO.assign rfl) (J.fin (Sw.Sub.mk id (.c rfl .nil) .nil rfl))) ?_
    refine W.ret ?_
    refine XQ.ret ?_
    obtain rfl := Option.some.inj h
    refine XQ.lret fun ho => ?_
    obtain rfl := hr17 _ ho
    exact XQ.sub (σ' := ⟨[(4, .v Enc.bool false)], []⟩) (Sw.Sub.mk id (.c rfl .nil) .nil rfl) (XQ.ret1 hF noR rfl (RV.tmp rfl) .nil rfl)
   ·replace h := cond_f hc22 h
    refine W.condF rfl hc22 ?_
    refine W.skip ?_
    refine W.fall ?_
    refine W.reg (σ' := ⟨[(0, .v Q4 a0), (1, .v Q4 a1), (5, .v Q0 (ar .add .i64 s12 (1 : Int)))], []⟩) (J.mv rfl (J.k (JO.arith rfl rfl rfl) (J.k (JO.assign rfl) (J.fin (Sw.Sub.mk id (.c rfl (.c rfl (.c rfl .nil))) .nil rfl))))) ?_
    obtain rfl := Option.some.inj h
    exact W.next (Sw.Sub.mk id (.c rfl (.c rfl (.c rfl .nil))) .nil rfl)
  ·replace h := cond_f hc19 h
   refine W.condF rfl hc19 ?_
   refine W.exit ?_
   obtain rfl := Option.some.inj h
   exact XQ.brk (Sw.Sub.mk id .nil .nil rfl)
end Go.Cn
