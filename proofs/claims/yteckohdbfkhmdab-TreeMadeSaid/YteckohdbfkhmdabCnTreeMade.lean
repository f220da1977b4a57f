/- The functions that this law reaches come to what their models come to. Conditions: none. -/
import Derived.Test.YteckohdbfkhmdabCnATreeMade
set_option linter.unusedVariables false
set_option linter.unusedSimpArgs false
namespace Go.Cn
open Go Go.Sw Go.Mo Go.Proofs
set_option maxRecDepth 100000 in
set_option maxHeartbeats 4000000 in
theorem con_ref_Differs {a0 : ((List (List Int)))} {a1 : ((List (List Int)))} {r : (List Int) × Int} (h : m_ref_Differs a0 a1 = some r) :
    Con Try.prog 81 [.v (Enc.one1 (Enc.sl (Enc.sl (Enc.int .u64)))) a0, .v (Enc.one1 (Enc.sl (Enc.sl (Enc.int .u64)))) a1] (.tup [.v (Enc.sl (Enc.int .i64)) r.1, .v (Enc.int .i64) r.2]) [] := by
  refine Con.of Try.func81 rfl Try.ntmps81 rfl ?_
  intro S w hF
  unfold m_ref_Differs at h
  refine W.seq ?_
  refine W.reg (σ' := ⟨[(2, .ptr 101 0), (3, .ptr 102 0)], [(101, .box 51 [.v (Enc.sl (Enc.sl (Enc.int .u64))) a0]), (102, .box 51 [.v (Enc.sl (Enc.sl (Enc.int .u64))) a1])]⟩) (J.cons (.none rfl) (JO.box 101 rfl (.one1 (.one _ _)) rfl) rfl rfl (J.cons (.none rfl) (JO.box 102 rfl (.one1 (.one _ _)) rfl) rfl rfl (J.cons (.none rfl) (JO.assignNilR 103 3 (Enc.int .i64)) rfl rfl (J.cons (.none rfl) (JO.assign rfl) rfl rfl (J.fin (Sw.Sub.mk id (.cons rfl (.of_eq rfl) (.cons rfl (.of_eq rfl) .nil)) (.box rfl (.cons (.of_eq rfl) .nil) (.box rfl (.cons (.of_eq rfl) .nil) .nil)) rfl)))))) ?_
  refine W.seq ?_
  refine W.reg (σ' := ⟨[(2, .ptr 101 0), (3, .ptr 102 0), (6, .ref 104)], [(101, .box 51 [.v (Enc.sl (Enc.sl (Enc.int .u64))) a0]), (102, .box 51 [.v (Enc.sl (Enc.sl (Enc.int .u64))) a1]), (104, .arr 3 (Enc.int .i64) ([] : (List Int)))]⟩) (J.cons (.none rfl) (JO.assignNilR 104 3 (Enc.int .i64)) rfl rfl (J.fin (Sw.Sub.mk id (.cons rfl (.of_eq rfl) (.cons rfl (.of_eq rfl) (.cons rfl (.of_eq rfl) .nil))) (.box rfl (.cons (.of_eq rfl) .nil) (.box rfl (.cons (.of_eq rfl) .nil) (.arr rfl .nil))) rfl))) ?_
  refine W.seq ?_
  refine W.reg (σ' := ⟨[(2, .ptr 101 0), (3, .ptr 102 0), (6, .ref 104), (7, .v (Enc.int .i64) (0 : Int))], [(101, .box 51 [.v (Enc.sl (Enc.sl (Enc.int .u64))) a0]), (102, .box 51 [.v (Enc.sl (Enc.sl (Enc.int .u64))) a1]), (104, .arr 3 (Enc.int .i64) ([] : (List Int)))]⟩) (J.cons (.none rfl) (JO.assign rfl) rfl rfl (J.fin (Sw.Sub.mk id (.cons rfl (.of_eq rfl) (.cons rfl (.of_eq rfl) (.cons rfl (.of_eq rfl) (.cons rfl (.of_eq rfl) .nil)))) (.box rfl (.cons (.of_eq rfl) .nil) (.box rfl (.cons (.of_eq rfl) .nil) (.arr rfl .nil))) rfl))) ?_
  refine W.seq ?_
  refine W.reg (σ' := ⟨[(2, .ptr 101 0), (3, .ptr 102 0), (6, .ref 104), (7, .v (Enc.int .i64) (0 : Int)), (8, .ref 105)], [(101, .box 51 [.v (Enc.sl (Enc.sl (Enc.int .u64))) a0]), (102, .box 51 [.v (Enc.sl (Enc.sl (Enc.int .u64))) a1]), (104, .arr 3 (Enc.int .i64) ([] : (List Int))), (105, .arr 3 (Enc.int .i64) ([(0 : Int)] : (List Int)))]⟩) (J.cons (.none rfl) (JO.litR (e := (Enc.int .i64)) 105 Try.runUnderlying25 Try.sizeOf3 Try.zeroValue3 rfl rfl rfl rfl (.cons (.dir rfl) .nil)) rfl rfl (J.cons (.none rfl) (JO.assign rfl) rfl rfl (J.fin (Sw.Sub.mk id (.cons rfl (.of_eq rfl) (.cons rfl (.of_eq rfl) (.cons rfl (.of_eq rfl) (.cons rfl (.of_eq rfl) (.cons rfl (.of_eq rfl) .nil))))) (.box rfl (.cons (.of_eq rfl) .nil) (.box rfl (.cons (.of_eq rfl) .nil) (.arr rfl (.arr rfl .nil)))) rfl)))) ?_
  refine W.seq ?_
  refine W.seq ?_
  refine W.reg (σ' := ⟨[(2, .ptr 101 0), (3, .ptr 102 0), (6, .ref 104), (7, .v (Enc.int .i64) (0 : Int)), (8, .ref 105), (9, .v (Enc.int .i64) (ar .sub .i64 (a0.length : Int) (1 : Int)))], [(101, .box 51 [.v (Enc.sl (Enc.sl (Enc.int .u64))) a0]), (102, .box 51 [.v (Enc.sl (Enc.sl (Enc.int .u64))) a1]), (104, .arr 3 (Enc.int .i64) ([] : (List Int))), (105, .arr 3 (Enc.int .i64) ([(0 : Int)] : (List Int)))]⟩) (J.cons (.none rfl) (JO.fieldPtr 0 rfl Try.runUnderlying51 rfl Try.sizeOf49 rfl rfl) rfl rfl (J.cons (.none rfl) (JO.load rfl rfl rfl Try.isAgg49 Try.sizeOf49) rfl rfl (J.cons (.none rfl) (JO.len rfl Try.runUnderlying49) rfl rfl (J.cons (.none rfl) (JO.arith rfl rfl rfl) rfl rfl (J.cons (.none rfl) (JO.assign rfl) rfl rfl (J.fin (Sw.Sub.mk id (.cons rfl (.of_eq rfl) (.cons rfl (.of_eq rfl) (.cons rfl (.of_eq rfl) (.cons rfl (.of_eq rfl) (.cons rfl (.of_eq rfl) (.cons rfl (.of_eq rfl) .nil)))))) (.box rfl (.cons (.of_eq rfl) .nil) (.box rfl (.cons (.of_eq rfl) .nil) (.arr rfl (.arr rfl .nil)))) rfl))))))) ?_
  obtain ⟨o994, ho994, hb994, hr994⟩ := lp_elim h
  refine W.lp (σs := fun s663 : Int × Int × (List Int) × (List Int) => ⟨[(2, .ptr 101 0), (3, .ptr 102 0), (6, .ref 290), (7, .v (Enc.int .i64) s663.1), (8, .ref 291), (9, .v (Enc.int .i64) s663.2.1)], [(101, .box 51 [.v (Enc.sl (Enc.sl (Enc.int .u64))) a0]), (102, .box 51 [.v (Enc.sl (Enc.sl (Enc.int .u64))) a1]), (290, .arr 3 (Enc.int .i64) s663.2.2.1), (291, .arr 3 (Enc.int .i64) s663.2.2.2)]⟩) (fun x995 : Int × (List Int) => ⟨[(6, .ref 290), (7, .v (Enc.int .i64) x995.1)], [(290, .arr 3 (Enc.int .i64) x995.2)]⟩) ho994 (Sw.Sub.mk (rn [(101, 101), (102, 102), (290, 104), (291, 105)]) (.cons rfl (.of_eq rfl) (.cons rfl (.of_eq rfl) (.cons rfl (.of_eq rfl) (.cons rfl (.of_eq rfl) (.cons rfl (.of_eq rfl) (.cons rfl (.of_eq rfl) .nil)))))) (.box rfl (.cons (.of_eq rfl) .nil) (.box rfl (.cons (.of_eq rfl) .nil) (.arr rfl (.arr rfl .nil)))) rfl) ?_ ?_
  · intro x995 hy
    have h := hb994 _ hy
    refine W.seq ?_
    refine W.reg (σ' := ⟨[(4, .ref 290), (5, .v (Enc.int .i64) x995.1)], [(290, .arr 3 (Enc.int .i64) x995.2)]⟩) (J.cons (.none rfl) (JO.move rfl) rfl rfl (J.cons (.none rfl) (JO.move rfl) rfl rfl (J.cons (.none rfl) (JO.assign rfl) rfl rfl (J.cons (.none rfl) (JO.assign rfl) rfl rfl (J.fin (Sw.Sub.mk id (.cons rfl (.of_eq rfl) (.cons rfl (.of_eq rfl) .nil)) (.arr rfl .nil) rfl)))))) ?_
    refine W.ret ?_
    obtain rfl := Option.some.inj h
    exact XQ.sub (σ' := ⟨[(4, .v (Enc.sl (Enc.int .i64)) x995.2), (5, .v (Enc.int .i64) x995.1)], []⟩) (Sw.Sub.mk id (.cons rfl (.frz rfl rfl) (.cons rfl (.of_eq rfl) .nil)) .nil rfl) (XQ.ret2 hF noR rfl (RV.tmp rfl) (RV.tmp rfl) .nil rfl)
  intro s663 r994 h
  refine W.seq ?_
  refine W.seq ?_
  refine W.reg (σ' := ⟨[(2, .ptr 101 0), (3, .ptr 102 0), (6, .ref 290), (7, .v (Enc.int .i64) s663.1), (8, .ref 291), (9, .v (Enc.int .i64) s663.2.1), (19, .v Enc.bool (cm .geq s663.2.1 (0 : Int)))], [(101, .box 51 [.v (Enc.sl (Enc.sl (Enc.int .u64))) a0]), (102, .box 51 [.v (Enc.sl (Enc.sl (Enc.int .u64))) a1]), (290, .arr 3 (Enc.int .i64) s663.2.2.1), (291, .arr 3 (Enc.int .i64) s663.2.2.2)]⟩) (J.cons (.none rfl) (JO.move rfl) rfl rfl (J.cons (.none rfl) (JO.cmp rfl rfl rfl) rfl rfl (J.fin (Sw.Sub.mk id (.cons rfl (.of_eq rfl) (.cons rfl (.of_eq rfl) (.cons rfl (.of_eq rfl) (.cons rfl (.of_eq rfl) (.cons rfl (.of_eq rfl) (.cons rfl (.of_eq rfl) (.cons rfl (.of_eq rfl) .nil))))))) (.box rfl (.cons (.of_eq rfl) .nil) (.box rfl (.cons (.of_eq rfl) .nil) (.arr rfl (.arr rfl .nil)))) rfl)))) ?_
  rcases Bool.eq_false_or_eq_true (cm .geq s663.2.1 (0 : Int)) with hc996 | hc996
  · replace h := cond_t hc996 h
    refine W.condT rfl hc996 ?_
    refine W.skip ?_
    refine W.seq ?_
    refine W.block ?_
    refine W.seq ?_
    refine W.reg (σ' := ⟨[(2, .ptr 101 0), (3, .ptr 102 0), (6, .ref 290), (7, .v (Enc.int .i64) s663.1), (8, .ref 291), (9, .v (Enc.int .i64) s663.2.1), (10, .ref 381)], [(101, .box 51 [.v (Enc.sl (Enc.sl (Enc.int .u64))) a0]), (102, .box 51 [.v (Enc.sl (Enc.sl (Enc.int .u64))) a1]), (290, .arr 3 (Enc.int .i64) s663.2.2.1), (291, .arr 3 (Enc.int .i64) s663.2.2.2), (381, .arr 3 (Enc.int .i64) ([] : (List Int)))]⟩) (J.cons (.none rfl) (JO.assignNilR 381 3 (Enc.int .i64)) rfl rfl (J.fin (Sw.Sub.mk id (.cons rfl (.of_eq rfl) (.cons rfl (.of_eq rfl) (.cons rfl (.of_eq rfl) (.cons rfl (.of_eq rfl) (.cons rfl (.of_eq rfl) (.cons rfl (.of_eq rfl) (.cons rfl (.of_eq rfl) .nil))))))) (.box rfl (.cons (.of_eq rfl) .nil) (.box rfl (.cons (.of_eq rfl) .nil) (.arr rfl (.arr rfl (.arr rfl .nil))))) rfl))) ?_
    refine W.seq ?_
    refine W.seq ?_
    refine W.reg (σ' := ⟨[(2, .ptr 101 0), (3, .ptr 102 0), (6, .ref 290), (7, .v (Enc.int .i64) s663.1), (8, .ref 291), (9, .v (Enc.int .i64) s663.2.1), (10, .ref 381), (11, .v (Enc.int .i64) (0 : Int))], [(101, .box 51 [.v (Enc.sl (Enc.sl (Enc.int .u64))) a0]), (102, .box 51 [.v (Enc.sl (Enc.sl (Enc.int .u64))) a1]), (290, .arr 3 (Enc.int .i64) s663.2.2.1), (291, .arr 3 (Enc.int .i64) s663.2.2.2), (381, .arr 3 (Enc.int .i64) ([] : (List Int)))]⟩) (J.cons (.none rfl) (JO.assign rfl) rfl rfl (J.fin (Sw.Sub.mk id (.cons rfl (.of_eq rfl) (.cons rfl (.of_eq rfl) (.cons rfl (.of_eq rfl) (.cons rfl (.of_eq rfl) (.cons rfl (.of_eq rfl) (.cons rfl (.of_eq rfl) (.cons rfl (.of_eq rfl) (.cons rfl (.of_eq rfl) .nil)))))))) (.box rfl (.cons (.of_eq rfl) .nil) (.box rfl (.cons (.of_eq rfl) .nil) (.arr rfl (.arr rfl (.arr rfl .nil))))) rfl))) ?_
    obtain ⟨o1243, ho1243, hb1243, hr1243⟩ := lp_elim h
    refine W.lp (σs := fun s1161 : Int × Int × (List Int) × (List Int) => ⟨[(2, .ptr 101 0), (3, .ptr 102 0), (6, .ref 428), (7, .v (Enc.int .i64) s1161.1), (8, .ref 291), (9, .v (Enc.int .i64) s663.2.1), (10, .ref 429), (11, .v (Enc.int .i64) s1161.2.1)], [(101, .box 51 [.v (Enc.sl (Enc.sl (Enc.int .u64))) a0]), (102, .box 51 [.v (Enc.sl (Enc.sl (Enc.int .u64))) a1]), (428, .arr 3 (Enc.int .i64) s1161.2.2.1), (291, .arr 3 (Enc.int .i64) s663.2.2.2), (429, .arr 3 (Enc.int .i64) s1161.2.2.2)]⟩) (fun x1244 : Int × (List Int) × (List Int) => ⟨[(2, .ptr 101 0), (3, .ptr 102 0), (6, .ref 428), (7, .v (Enc.int .i64) x1244.1), (9, .v (Enc.int .i64) s663.2.1), (10, .ref 429)], [(101, .box 51 [.v (Enc.sl (Enc.sl (Enc.int .u64))) a0]), (102, .box 51 [.v (Enc.sl (Enc.sl (Enc.int .u64))) a1]), (428, .arr 3 (Enc.int .i64) x1244.2.1), (429, .arr 3 (Enc.int .i64) x1244.2.2)]⟩) ho1243 (Sw.Sub.mk (rn [(101, 101), (102, 102), (428, 290), (291, 291), (429, 381)]) (.cons rfl (.of_eq rfl) (.cons rfl (.of_eq rfl) (.cons rfl (.of_eq rfl) (.cons rfl (.of_eq rfl) (.cons rfl (.of_eq rfl) (.cons rfl (.of_eq rfl) (.cons rfl (.of_eq rfl) (.cons rfl (.of_eq rfl) .nil)))))))) (.box rfl (.cons (.of_eq rfl) .nil) (.box rfl (.cons (.of_eq rfl) .nil) (.arr rfl (.arr rfl (.arr rfl .nil))))) rfl) ?_ ?_
    · intro x1244 hy
      have h := hb1243 _ hy
      refine W.reg (σ' := ⟨[(2, .ptr 101 0), (3, .ptr 102 0), (6, .ref 428), (7, .v (Enc.int .i64) x1244.1), (8, .ref 429), (9, .v (Enc.int .i64) s663.2.1)], [(101, .box 51 [.v (Enc.sl (Enc.sl (Enc.int .u64))) a0]), (102, .box 51 [.v (Enc.sl (Enc.sl (Enc.int .u64))) a1]), (428, .arr 3 (Enc.int .i64) x1244.2.1), (429, .arr 3 (Enc.int .i64) x1244.2.2)]⟩) (J.cons (.none rfl) (JO.move rfl) rfl rfl (J.cons (.none rfl) (JO.assign rfl) rfl rfl (J.fin (Sw.Sub.mk id (.cons rfl (.of_eq rfl) (.cons rfl (.of_eq rfl) (.cons rfl (.of_eq rfl) (.cons rfl (.of_eq rfl) (.cons rfl (.of_eq rfl) (.cons rfl (.of_eq rfl) .nil)))))) (.box rfl (.cons (.of_eq rfl) .nil) (.box rfl (.cons (.of_eq rfl) .nil) (.arr rfl (.arr rfl .nil)))) rfl)))) ?_
      refine W.fall ?_
      refine W.reg (σ' := ⟨[(2, .ptr 101 0), (3, .ptr 102 0), (6, .ref 428), (7, .v (Enc.int .i64) x1244.1), (8, .ref 429), (9, .v (Enc.int .i64) (ar .sub .i64 s663.2.1 (1 : Int)))], [(101, .box 51 [.v (Enc.sl (Enc.sl (Enc.int .u64))) a0]), (102, .box 51 [.v (Enc.sl (Enc.sl (Enc.int .u64))) a1]), (428, .arr 3 (Enc.int .i64) x1244.2.1), (429, .arr 3 (Enc.int .i64) x1244.2.2)]⟩) (J.cons (.none rfl) (JO.move rfl) rfl rfl (J.cons (.none rfl) (JO.arith rfl rfl rfl) rfl rfl (J.cons (.none rfl) (JO.assign rfl) rfl rfl (J.fin (Sw.Sub.mk id (.cons rfl (.of_eq rfl) (.cons rfl (.of_eq rfl) (.cons rfl (.of_eq rfl) (.cons rfl (.of_eq rfl) (.cons rfl (.of_eq rfl) (.cons rfl (.of_eq rfl) .nil)))))) (.box rfl (.cons (.of_eq rfl) .nil) (.box rfl (.cons (.of_eq rfl) .nil) (.arr rfl (.arr rfl .nil)))) rfl))))) ?_
      obtain rfl := Option.some.inj h
      exact W.next (Sw.Sub.mk (rn [(101, 101), (102, 102), (290, 428), (291, 429)]) (.cons rfl (.of_eq rfl) (.cons rfl (.of_eq rfl) (.cons rfl (.of_eq rfl) (.cons rfl (.of_eq rfl) (.cons rfl (.of_eq rfl) (.cons rfl (.of_eq rfl) .nil)))))) (.box rfl (.cons (.of_eq rfl) .nil) (.box rfl (.cons (.of_eq rfl) .nil) (.arr rfl (.arr rfl .nil)))) rfl)
    intro s1161 r1243 h
    refine W.seq ?_
    refine W.seq ?_
    refine W.reg (σ' := ⟨[(2, .ptr 101 0), (3, .ptr 102 0), (6, .ref 428), (7, .v (Enc.int .i64) s1161.1), (8, .ref 291), (9, .v (Enc.int .i64) s663.2.1), (10, .ref 429), (11, .v (Enc.int .i64) s1161.2.1), (25, .v Enc.bool (cm .lss s1161.2.1 (s663.2.2.2.length : Int)))], [(101, .box 51 [.v (Enc.sl (Enc.sl (Enc.int .u64))) a0]), (102, .box 51 [.v (Enc.sl (Enc.sl (Enc.int .u64))) a1]), (428, .arr 3 (Enc.int .i64) s1161.2.2.1), (291, .arr 3 (Enc.int .i64) s663.2.2.2), (429, .arr 3 (Enc.int .i64) s1161.2.2.2)]⟩) (J.cons (.none rfl) (JO.move rfl) rfl rfl (J.cons (.none rfl) (JO.move rfl) rfl rfl (J.cons (.none rfl) (JO.lenR rfl rfl Try.runUnderlying25) rfl rfl (J.cons (.none rfl) (JO.cmp rfl rfl rfl) rfl rfl (J.fin (Sw.Sub.mk id (.cons rfl (.of_eq rfl) (.cons rfl (.of_eq rfl) (.cons rfl (.of_eq rfl) (.cons rfl (.of_eq rfl) (.cons rfl (.of_eq rfl) (.cons rfl (.of_eq rfl) (.cons rfl (.of_eq rfl) (.cons rfl (.of_eq rfl) (.cons rfl (.of_eq rfl) .nil))))))))) (.box rfl (.cons (.of_eq rfl) .nil) (.box rfl (.cons (.of_eq rfl) .nil) (.arr rfl (.arr rfl (.arr rfl .nil))))) rfl)))))) ?_
    rcases Bool.eq_false_or_eq_true (cm .lss s1161.2.1 (s663.2.2.2.length : Int)) with hc1245 | hc1245
    · replace h := cond_t hc1245 h
      refine W.condT rfl hc1245 ?_
      refine W.skip ?_
      refine W.seq ?_
      obtain ⟨k1285, hk1285, h⟩ := jp_elim h
      refine W.bj (fun x1286 : (List Int) × (List Int) => ⟨[(2, .ptr 101 0), (3, .ptr 102 0), (6, .ref 459), (7, .v (Enc.int .i64) (ar .add .i64 s1161.1 (1 : Int))), (8, .ref 291), (9, .v (Enc.int .i64) s663.2.1), (10, .ref 460), (11, .v (Enc.int .i64) s1161.2.1)], [(101, .box 51 [.v (Enc.sl (Enc.sl (Enc.int .u64))) a0]), (102, .box 51 [.v (Enc.sl (Enc.sl (Enc.int .u64))) a1]), (459, .arr 3 (Enc.int .i64) x1286.1), (291, .arr 3 (Enc.int .i64) s663.2.2.2), (460, .arr 3 (Enc.int .i64) x1286.2)]⟩) (fun x => k1285 x = some r1243) ?_ ?_
      · intro x1286 h
        rw [hk1285] at h
        refine W.reg (σ' := ⟨[(2, .ptr 101 0), (3, .ptr 102 0), (6, .ref 459), (7, .v (Enc.int .i64) (ar .add .i64 s1161.1 (1 : Int))), (8, .ref 291), (9, .v (Enc.int .i64) s663.2.1), (10, .ref 460), (11, .v (Enc.int .i64) (ar .add .i64 s1161.2.1 (1 : Int)))], [(101, .box 51 [.v (Enc.sl (Enc.sl (Enc.int .u64))) a0]), (102, .box 51 [.v (Enc.sl (Enc.sl (Enc.int .u64))) a1]), (459, .arr 3 (Enc.int .i64) x1286.1), (291, .arr 3 (Enc.int .i64) s663.2.2.2), (460, .arr 3 (Enc.int .i64) x1286.2)]⟩) (J.cons (.none rfl) (JO.move rfl) rfl rfl (J.cons (.none rfl) (JO.arith rfl rfl rfl) rfl rfl (J.cons (.none rfl) (JO.assign rfl) rfl rfl (J.fin (Sw.Sub.mk id (.cons rfl (.of_eq rfl) (.cons rfl (.of_eq rfl) (.cons rfl (.of_eq rfl) (.cons rfl (.of_eq rfl) (.cons rfl (.of_eq rfl) (.cons rfl (.of_eq rfl) (.cons rfl (.of_eq rfl) (.cons rfl (.of_eq rfl) .nil)))))))) (.box rfl (.cons (.of_eq rfl) .nil) (.box rfl (.cons (.of_eq rfl) .nil) (.arr rfl (.arr rfl (.arr rfl .nil))))) rfl))))) ?_
        obtain rfl := Option.some.inj h
        exact W.next (Sw.Sub.mk (rn [(101, 101), (102, 102), (428, 459), (291, 291), (429, 460)]) (.cons rfl (.of_eq rfl) (.cons rfl (.of_eq rfl) (.cons rfl (.of_eq rfl) (.cons rfl (.of_eq rfl) (.cons rfl (.of_eq rfl) (.cons rfl (.of_eq rfl) (.cons rfl (.of_eq rfl) (.cons rfl (.of_eq rfl) .nil)))))))) (.box rfl (.cons (.of_eq rfl) .nil) (.box rfl (.cons (.of_eq rfl) .nil) (.arr rfl (.arr rfl (.arr rfl .nil))))) rfl)
      refine W.seq ?_
      refine W.reg (σ' := ⟨[(2, .ptr 101 0), (3, .ptr 102 0), (6, .ref 428), (7, .v (Enc.int .i64) (ar .add .i64 s1161.1 (1 : Int))), (8, .ref 291), (9, .v (Enc.int .i64) s663.2.1), (10, .ref 429), (11, .v (Enc.int .i64) s1161.2.1)], [(101, .box 51 [.v (Enc.sl (Enc.sl (Enc.int .u64))) a0]), (102, .box 51 [.v (Enc.sl (Enc.sl (Enc.int .u64))) a1]), (428, .arr 3 (Enc.int .i64) s1161.2.2.1), (291, .arr 3 (Enc.int .i64) s663.2.2.2), (429, .arr 3 (Enc.int .i64) s1161.2.2.2)]⟩) (J.cons (.none rfl) (JO.move rfl) rfl rfl (J.cons (.none rfl) (JO.arith rfl rfl rfl) rfl rfl (J.cons (.none rfl) (JO.assign rfl) rfl rfl (J.fin (Sw.Sub.mk id (.cons rfl (.of_eq rfl) (.cons rfl (.of_eq rfl) (.cons rfl (.of_eq rfl) (.cons rfl (.of_eq rfl) (.cons rfl (.of_eq rfl) (.cons rfl (.of_eq rfl) (.cons rfl (.of_eq rfl) (.cons rfl (.of_eq rfl) .nil)))))))) (.box rfl (.cons (.of_eq rfl) .nil) (.box rfl (.cons (.of_eq rfl) .nil) (.arr rfl (.arr rfl (.arr rfl .nil))))) rfl))))) ?_
      refine W.seq ?_
      refine W.seq ?_
      obtain ⟨z1287, hz1287, h⟩ := bind_e h
      obtain ⟨z1288, hz1288, h⟩ := bind_e h
      obtain ⟨z1289, hz1289, h⟩ := bind_e h
      obtain ⟨z1290, hz1290, h⟩ := bind_e h
      obtain ⟨z1291, hz1291, h⟩ := bind_e h
      obtain ⟨z1292, hz1292, h⟩ := bind_e h
      refine W.dr2 (σ' := ⟨[(2, .ptr 101 0), (3, .ptr 102 0), (6, .ref 428), (7, .v (Enc.int .i64) (ar .add .i64 s1161.1 (1 : Int))), (8, .ref 291), (9, .v (Enc.int .i64) s663.2.1), (10, .ref 429), (11, .v (Enc.int .i64) s1161.2.1), (52, .v Enc.bool (cm .eql z1289 z1292))], [(101, .box 51 [.v (Enc.sl (Enc.sl (Enc.int .u64))) a0]), (102, .box 51 [.v (Enc.sl (Enc.sl (Enc.int .u64))) a1]), (428, .arr 3 (Enc.int .i64) s1161.2.2.1), (291, .arr 3 (Enc.int .i64) s663.2.2.2), (429, .arr 3 (Enc.int .i64) s1161.2.2.2)]⟩) 23 [0, 1, 0, 7, 15, 0, 0, 96, 224, 511, 1023, 0, 2048, 0, 14336, 30720, 0, 0, 196608, 458752, 1046528, 2095104, 4194303] mixed (by exact (.cons (.none rfl) (JO.fieldPtr 0 rfl Try.runUnderlying51 rfl Try.sizeOf49 rfl rfl) rfl rfl (.cons (.none rfl) (JO.load rfl rfl rfl Try.isAgg49 Try.sizeOf49) rfl rfl (.cons (.none rfl) (JO.move rfl) rfl rfl (.cons (.none rfl) (JO.idx hz1287 rfl rfl Try.runUnderlying49 Try.sizeOf131) rfl rfl (.cons (.none rfl) (JO.loadPst rfl Try.isAgg131 Try.sizeOf131) rfl rfl (.cons (.none rfl) (JO.move rfl) rfl rfl (.cons (.none rfl) (JO.move rfl) rfl rfl (.cons (.none rfl) (JO.idxR hz1288 rfl rfl rfl Try.runUnderlying25 Try.sizeOf3) rfl rfl (.cons (.none rfl) (JO.loadEl (idx_some hz1288).2.2 rfl rfl .here Try.isAgg3 Try.sizeOf3) rfl rfl (.cons (.none rfl) (JO.idx hz1289 rfl rfl Try.runUnderlying131 Try.sizeOf132) rfl rfl (.cons (.none rfl) (JO.loadPst rfl Try.isAgg132 Try.sizeOf132) rfl rfl (.cons (.none rfl) (JO.fieldPtr 0 rfl Try.runUnderlying51 rfl Try.sizeOf49 rfl rfl) rfl rfl (.cons (.none rfl) (JO.load rfl rfl rfl Try.isAgg49 Try.sizeOf49) rfl rfl (.cons (.none rfl) (JO.move rfl) rfl rfl (.cons (.none rfl) (JO.idx hz1290 rfl rfl Try.runUnderlying49 Try.sizeOf131) rfl rfl (.cons (.none rfl) (JO.loadPst rfl Try.isAgg131 Try.sizeOf131) rfl rfl (.cons (.none rfl) (JO.move rfl) rfl rfl (.cons (.none rfl) (JO.move rfl) rfl rfl (.cons (.none rfl) (JO.idxR hz1291 rfl rfl rfl Try.runUnderlying25 Try.sizeOf3) rfl rfl (.cons (.none rfl) (JO.loadEl (idx_some hz1291).2.2 rfl rfl .here Try.isAgg3 Try.sizeOf3) rfl rfl (.cons (.none rfl) (JO.idx hz1292 rfl rfl Try.runUnderlying131 Try.sizeOf132) rfl rfl (.cons (.none rfl) (JO.loadPst rfl Try.isAgg132 Try.sizeOf132) rfl rfl (.cons (.none rfl) (JO.cmp rfl rfl rfl) rfl rfl .nil)))))))))))))))))))))))) (by exact (J.fin (Sw.Sub.mk id (.cons rfl (.of_eq rfl) (.cons rfl (.of_eq rfl) (.cons rfl (.of_eq rfl) (.cons rfl (.of_eq rfl) (.cons rfl (.of_eq rfl) (.cons rfl (.of_eq rfl) (.cons rfl (.of_eq rfl) (.cons rfl (.of_eq rfl) (.cons rfl (.of_eq rfl) .nil))))))))) (.box rfl (.cons (.of_eq rfl) .nil) (.box rfl (.cons (.of_eq rfl) .nil) (.arr rfl (.arr rfl (.arr rfl .nil))))) rfl))) rfl (by decide +kernel) (by decide +kernel) (by decide +kernel) (by kernel_rfl) ?_
      rcases Bool.eq_false_or_eq_true (cm .eql z1289 z1292) with hc1293 | hc1293
      · replace h := cond_t hc1293 h
        refine W.condT rfl hc1293 ?_
        refine W.exit ?_
        exact XQ.bhit h (Sw.Sub.mk (rn [(101, 101), (102, 102), (459, 428), (291, 291), (460, 429)]) (.cons rfl (.of_eq rfl) (.cons rfl (.of_eq rfl) (.cons rfl (.of_eq rfl) (.cons rfl (.of_eq rfl) (.cons rfl (.of_eq rfl) (.cons rfl (.of_eq rfl) (.cons rfl (.of_eq rfl) (.cons rfl (.of_eq rfl) .nil)))))))) (.box rfl (.cons (.of_eq rfl) .nil) (.box rfl (.cons (.of_eq rfl) .nil) (.arr rfl (.arr rfl (.arr rfl .nil))))) rfl)
      · replace h := cond_f hc1293 h
        refine W.condF rfl hc1293 ?_
        refine W.skip ?_
        refine W.seq ?_
        refine W.seq ?_
        refine W.reg (σ' := ⟨[(2, .ptr 101 0), (3, .ptr 102 0), (6, .ref 428), (7, .v (Enc.int .i64) (ar .add .i64 s1161.1 (1 : Int))), (8, .ref 291), (9, .v (Enc.int .i64) s663.2.1), (10, .ref 429), (11, .v (Enc.int .i64) s1161.2.1), (54, .v Enc.bool (cm .eql s663.2.1 (0 : Int)))], [(101, .box 51 [.v (Enc.sl (Enc.sl (Enc.int .u64))) a0]), (102, .box 51 [.v (Enc.sl (Enc.sl (Enc.int .u64))) a1]), (428, .arr 3 (Enc.int .i64) s1161.2.2.1), (291, .arr 3 (Enc.int .i64) s663.2.2.2), (429, .arr 3 (Enc.int .i64) s1161.2.2.2)]⟩) (J.cons (.none rfl) (JO.move rfl) rfl rfl (J.cons (.none rfl) (JO.cmp rfl rfl rfl) rfl rfl (J.fin (Sw.Sub.mk id (.cons rfl (.of_eq rfl) (.cons rfl (.of_eq rfl) (.cons rfl (.of_eq rfl) (.cons rfl (.of_eq rfl) (.cons rfl (.of_eq rfl) (.cons rfl (.of_eq rfl) (.cons rfl (.of_eq rfl) (.cons rfl (.of_eq rfl) (.cons rfl (.of_eq rfl) .nil))))))))) (.box rfl (.cons (.of_eq rfl) .nil) (.box rfl (.cons (.of_eq rfl) .nil) (.arr rfl (.arr rfl (.arr rfl .nil))))) rfl)))) ?_
        rcases Bool.eq_false_or_eq_true (cm .eql s663.2.1 (0 : Int)) with hc1294 | hc1294
        · replace h := cond_t hc1294 h
          refine W.condT rfl hc1294 ?_
          refine W.seq ?_
          obtain ⟨z1295, hz1295, h⟩ := bind_e h
          obtain ⟨v1296, hv1296, h⟩ := bind_e h
          refine W.reg (σ' := ⟨[(2, .ptr 101 0), (3, .ptr 102 0), (6, .ref 461), (7, .v (Enc.int .i64) (ar .add .i64 s1161.1 (1 : Int))), (8, .ref 291), (9, .v (Enc.int .i64) s663.2.1), (10, .ref 429), (11, .v (Enc.int .i64) s1161.2.1)], [(101, .box 51 [.v (Enc.sl (Enc.sl (Enc.int .u64))) a0]), (102, .box 51 [.v (Enc.sl (Enc.sl (Enc.int .u64))) a1]), (461, .arr 3 (Enc.int .i64) v1296), (291, .arr 3 (Enc.int .i64) s663.2.2.2), (429, .arr 3 (Enc.int .i64) s1161.2.2.2)]⟩) (J.cons (.none rfl) (JO.move rfl) rfl rfl (J.cons (.none rfl) (JO.move rfl) rfl rfl (J.cons (.none rfl) (JO.move rfl) rfl rfl (J.cons (.none rfl) (JO.idxR hz1295 rfl rfl rfl Try.runUnderlying25 Try.sizeOf3) rfl rfl (J.cons (.none rfl) (JO.loadEl (idx_some hz1295).2.2 rfl rfl .here Try.isAgg3 Try.sizeOf3) rfl rfl (J.cons (.none rfl) (JO.lit (e := (Enc.int .i64)) Try.runUnderlying25 Try.sizeOf3 Try.zeroValue3 rfl rfl rfl rfl (.cons (.dir rfl) .nil)) rfl rfl (J.mut (.none rfl) (JM.append 461 hv1296 rfl rfl (.sl rfl) Try.runUnderlying25 Try.typeInfo3 Try.sizeOf3 rfl rfl rfl rfl rfl) (J.cons (.none rfl) (JO.assign rfl) rfl rfl (J.fin (Sw.Sub.mk id (.cons rfl (.of_eq rfl) (.cons rfl (.of_eq rfl) (.cons rfl (.of_eq rfl) (.cons rfl (.of_eq rfl) (.cons rfl (.of_eq rfl) (.cons rfl (.of_eq rfl) (.cons rfl (.of_eq rfl) (.cons rfl (.of_eq rfl) .nil)))))))) (.box rfl (.cons (.of_eq rfl) .nil) (.box rfl (.cons (.of_eq rfl) .nil) (.arr rfl (.arr rfl (.arr rfl .nil))))) rfl)))))))))) ?_
          refine W.exit ?_
          exact XQ.bhit h (Sw.Sub.mk (rn [(101, 101), (102, 102), (459, 461), (291, 291), (460, 429)]) (.cons rfl (.of_eq rfl) (.cons rfl (.of_eq rfl) (.cons rfl (.of_eq rfl) (.cons rfl (.of_eq rfl) (.cons rfl (.of_eq rfl) (.cons rfl (.of_eq rfl) (.cons rfl (.of_eq rfl) (.cons rfl (.of_eq rfl) .nil)))))))) (.box rfl (.cons (.of_eq rfl) .nil) (.box rfl (.cons (.of_eq rfl) .nil) (.arr rfl (.arr rfl (.arr rfl .nil))))) rfl)
        · replace h := cond_f hc1294 h
          refine W.condF rfl hc1294 ?_
          refine W.skip ?_
          refine W.seq ?_
          refine W.reg (σ' := ⟨[(2, .ptr 101 0), (3, .ptr 102 0), (6, .ref 428), (7, .v (Enc.int .i64) (ar .add .i64 s1161.1 (1 : Int))), (8, .ref 291), (9, .v (Enc.int .i64) s663.2.1), (10, .ref 429), (11, .v (Enc.int .i64) s1161.2.1), (12, .v (Enc.int .i64) (0 : Int))], [(101, .box 51 [.v (Enc.sl (Enc.sl (Enc.int .u64))) a0]), (102, .box 51 [.v (Enc.sl (Enc.sl (Enc.int .u64))) a1]), (428, .arr 3 (Enc.int .i64) s1161.2.2.1), (291, .arr 3 (Enc.int .i64) s663.2.2.2), (429, .arr 3 (Enc.int .i64) s1161.2.2.2)]⟩) (J.cons (.none rfl) (JO.assign rfl) rfl rfl (J.fin (Sw.Sub.mk id (.cons rfl (.of_eq rfl) (.cons rfl (.of_eq rfl) (.cons rfl (.of_eq rfl) (.cons rfl (.of_eq rfl) (.cons rfl (.of_eq rfl) (.cons rfl (.of_eq rfl) (.cons rfl (.of_eq rfl) (.cons rfl (.of_eq rfl) (.cons rfl (.of_eq rfl) .nil))))))))) (.box rfl (.cons (.of_eq rfl) .nil) (.box rfl (.cons (.of_eq rfl) .nil) (.arr rfl (.arr rfl (.arr rfl .nil))))) rfl))) ?_
          obtain ⟨o1318, ho1318, hb1318, hr1318⟩ := lp_elim h
          refine W.lp (σs := fun s1311 : Int × (List Int) => ⟨[(2, .ptr 101 0), (3, .ptr 102 0), (6, .ref 428), (7, .v (Enc.int .i64) (ar .add .i64 s1161.1 (1 : Int))), (8, .ref 291), (9, .v (Enc.int .i64) s663.2.1), (10, .ref 467), (11, .v (Enc.int .i64) s1161.2.1), (12, .v (Enc.int .i64) s1311.1)], [(101, .box 51 [.v (Enc.sl (Enc.sl (Enc.int .u64))) a0]), (102, .box 51 [.v (Enc.sl (Enc.sl (Enc.int .u64))) a1]), (428, .arr 3 (Enc.int .i64) s1161.2.2.1), (291, .arr 3 (Enc.int .i64) s663.2.2.2), (467, .arr 3 (Enc.int .i64) s1311.2)]⟩) (fun x1319 : (List Int) => ⟨[(2, .ptr 101 0), (3, .ptr 102 0), (6, .ref 428), (7, .v (Enc.int .i64) (ar .add .i64 s1161.1 (1 : Int))), (8, .ref 291), (9, .v (Enc.int .i64) s663.2.1), (10, .ref 467), (11, .v (Enc.int .i64) s1161.2.1)], [(101, .box 51 [.v (Enc.sl (Enc.sl (Enc.int .u64))) a0]), (102, .box 51 [.v (Enc.sl (Enc.sl (Enc.int .u64))) a1]), (428, .arr 3 (Enc.int .i64) s1161.2.2.1), (291, .arr 3 (Enc.int .i64) s663.2.2.2), (467, .arr 3 (Enc.int .i64) x1319)]⟩) ho1318 (Sw.Sub.mk (rn [(101, 101), (102, 102), (428, 428), (291, 291), (467, 429)]) (.cons rfl (.of_eq rfl) (.cons rfl (.of_eq rfl) (.cons rfl (.of_eq rfl) (.cons rfl (.of_eq rfl) (.cons rfl (.of_eq rfl) (.cons rfl (.of_eq rfl) (.cons rfl (.of_eq rfl) (.cons rfl (.of_eq rfl) (.cons rfl (.of_eq rfl) .nil))))))))) (.box rfl (.cons (.of_eq rfl) .nil) (.box rfl (.cons (.of_eq rfl) .nil) (.arr rfl (.arr rfl (.arr rfl .nil))))) rfl) ?_ ?_
          · intro x1319 hy
            have h := hb1318 _ hy
            exact W.bfall h (Sw.Sub.mk (rn [(101, 101), (102, 102), (459, 428), (291, 291), (460, 467)]) (.cons rfl (.of_eq rfl) (.cons rfl (.of_eq rfl) (.cons rfl (.of_eq rfl) (.cons rfl (.of_eq rfl) (.cons rfl (.of_eq rfl) (.cons rfl (.of_eq rfl) (.cons rfl (.of_eq rfl) (.cons rfl (.of_eq rfl) .nil)))))))) (.box rfl (.cons (.of_eq rfl) .nil) (.box rfl (.cons (.of_eq rfl) .nil) (.arr rfl (.arr rfl (.arr rfl .nil))))) rfl)
          intro s1311 r1318 h
          refine W.seq ?_
          refine W.seq ?_
          refine W.reg (σ' := ⟨[(2, .ptr 101 0), (3, .ptr 102 0), (6, .ref 428), (7, .v (Enc.int .i64) (ar .add .i64 s1161.1 (1 : Int))), (8, .ref 291), (9, .v (Enc.int .i64) s663.2.1), (10, .ref 467), (11, .v (Enc.int .i64) s1161.2.1), (12, .v (Enc.int .i64) s1311.1), (63, .v Enc.bool (cm .lss s1311.1 (4 : Int)))], [(101, .box 51 [.v (Enc.sl (Enc.sl (Enc.int .u64))) a0]), (102, .box 51 [.v (Enc.sl (Enc.sl (Enc.int .u64))) a1]), (428, .arr 3 (Enc.int .i64) s1161.2.2.1), (291, .arr 3 (Enc.int .i64) s663.2.2.2), (467, .arr 3 (Enc.int .i64) s1311.2)]⟩) (J.cons (.none rfl) (JO.move rfl) rfl rfl (J.cons (.none rfl) (JO.cmp rfl rfl rfl) rfl rfl (J.fin (Sw.Sub.mk id (.cons rfl (.of_eq rfl) (.cons rfl (.of_eq rfl) (.cons rfl (.of_eq rfl) (.cons rfl (.of_eq rfl) (.cons rfl (.of_eq rfl) (.cons rfl (.of_eq rfl) (.cons rfl (.of_eq rfl) (.cons rfl (.of_eq rfl) (.cons rfl (.of_eq rfl) (.cons rfl (.of_eq rfl) .nil)))))))))) (.box rfl (.cons (.of_eq rfl) .nil) (.box rfl (.cons (.of_eq rfl) .nil) (.arr rfl (.arr rfl (.arr rfl .nil))))) rfl)))) ?_
          rcases Bool.eq_false_or_eq_true (cm .lss s1311.1 (4 : Int)) with hc1320 | hc1320
          · replace h := cond_t hc1320 h
            refine W.condT rfl hc1320 ?_
            refine W.skip ?_
            refine W.seq ?_
            refine W.block ?_
            refine W.seq ?_
            obtain ⟨z1321, hz1321, h⟩ := bind_e h
            obtain ⟨z1322, hz1322, h⟩ := bind_e h
            refine W.dr2 (σ' := ⟨[(2, .ptr 101 0), (3, .ptr 102 0), (6, .ref 428), (7, .v (Enc.int .i64) (ar .add .i64 s1161.1 (1 : Int))), (8, .ref 291), (9, .v (Enc.int .i64) s663.2.1), (10, .ref 467), (11, .v (Enc.int .i64) s1161.2.1), (12, .v (Enc.int .i64) s1311.1), (80, .v Enc.bool (cm .lss (ar .add .i64 (ar .mul .i64 z1321 (4 : Int)) s1311.1) (z1322.length : Int)))], [(101, .box 51 [.v (Enc.sl (Enc.sl (Enc.int .u64))) a0]), (102, .box 51 [.v (Enc.sl (Enc.sl (Enc.int .u64))) a1]), (428, .arr 3 (Enc.int .i64) s1161.2.2.1), (291, .arr 3 (Enc.int .i64) s663.2.2.2), (467, .arr 3 (Enc.int .i64) s1311.2)]⟩) 15 [0, 0, 3, 7, 15, 0, 63, 0, 128, 0, 512, 1920, 3968, 8064, 16383] mixed (by exact (.cons (.none rfl) (JO.move rfl) rfl rfl (.cons (.none rfl) (JO.move rfl) rfl rfl (.cons (.none rfl) (JO.idxR hz1321 rfl rfl rfl Try.runUnderlying25 Try.sizeOf3) rfl rfl (.cons (.none rfl) (JO.loadEl (idx_some hz1321).2.2 rfl rfl .here Try.isAgg3 Try.sizeOf3) rfl rfl (.cons (.none rfl) (JO.arith rfl rfl rfl) rfl rfl (.cons (.none rfl) (JO.move rfl) rfl rfl (.cons (.none rfl) (JO.arith rfl rfl rfl) rfl rfl (.cons (.none rfl) (JO.fieldPtr 0 rfl Try.runUnderlying51 rfl Try.sizeOf49 rfl rfl) rfl rfl (.cons (.none rfl) (JO.load rfl rfl rfl Try.isAgg49 Try.sizeOf49) rfl rfl (.cons (.none rfl) (JO.move rfl) rfl rfl (.cons (.none rfl) (JO.arith rfl rfl rfl) rfl rfl (.cons (.none rfl) (JO.idx hz1322 rfl rfl Try.runUnderlying49 Try.sizeOf131) rfl rfl (.cons (.none rfl) (JO.loadPst rfl Try.isAgg131 Try.sizeOf131) rfl rfl (.cons (.none rfl) (JO.len rfl Try.runUnderlying131) rfl rfl (.cons (.none rfl) (JO.cmp rfl rfl rfl) rfl rfl .nil)))))))))))))))) (by exact (J.fin (Sw.Sub.mk id (.cons rfl (.of_eq rfl) (.cons rfl (.of_eq rfl) (.cons rfl (.of_eq rfl) (.cons rfl (.of_eq rfl) (.cons rfl (.of_eq rfl) (.cons rfl (.of_eq rfl) (.cons rfl (.of_eq rfl) (.cons rfl (.of_eq rfl) (.cons rfl (.of_eq rfl) (.cons rfl (.of_eq rfl) .nil)))))))))) (.box rfl (.cons (.of_eq rfl) .nil) (.box rfl (.cons (.of_eq rfl) .nil) (.arr rfl (.arr rfl (.arr rfl .nil))))) rfl))) rfl (by decide +kernel) (by decide +kernel) (by decide +kernel) (by kernel_rfl) ?_
            rcases Bool.eq_false_or_eq_true (cm .lss (ar .add .i64 (ar .mul .i64 z1321 (4 : Int)) s1311.1) (z1322.length : Int)) with hc1323 | hc1323
            · replace h := cond_t hc1323 h
              refine W.condT rfl hc1323 ?_
              obtain ⟨z1324, hz1324, h⟩ := bind_e h
              obtain ⟨v1325, hv1325, h⟩ := bind_e h
              refine W.reg (σ' := ⟨[(2, .ptr 101 0), (3, .ptr 102 0), (6, .ref 428), (7, .v (Enc.int .i64) (ar .add .i64 s1161.1 (1 : Int))), (8, .ref 291), (9, .v (Enc.int .i64) s663.2.1), (10, .ref 469), (11, .v (Enc.int .i64) s1161.2.1), (12, .v (Enc.int .i64) s1311.1)], [(101, .box 51 [.v (Enc.sl (Enc.sl (Enc.int .u64))) a0]), (102, .box 51 [.v (Enc.sl (Enc.sl (Enc.int .u64))) a1]), (428, .arr 3 (Enc.int .i64) s1161.2.2.1), (291, .arr 3 (Enc.int .i64) s663.2.2.2), (469, .arr 3 (Enc.int .i64) v1325)]⟩) (J.cons (.none rfl) (JO.move rfl) rfl rfl (J.cons (.none rfl) (JO.move rfl) rfl rfl (J.cons (.none rfl) (JO.move rfl) rfl rfl (J.cons (.none rfl) (JO.idxR hz1324 rfl rfl rfl Try.runUnderlying25 Try.sizeOf3) rfl rfl (J.cons (.none rfl) (JO.loadEl (idx_some hz1324).2.2 rfl rfl .here Try.isAgg3 Try.sizeOf3) rfl rfl (J.cons (.none rfl) (JO.arith rfl rfl rfl) rfl rfl (J.cons (.none rfl) (JO.move rfl) rfl rfl (J.cons (.none rfl) (JO.arith rfl rfl rfl) rfl rfl (J.cons (.none rfl) (JO.lit (e := (Enc.int .i64)) Try.runUnderlying25 Try.sizeOf3 Try.zeroValue3 rfl rfl rfl rfl (.cons (.dir rfl) .nil)) rfl rfl (J.mut (.none rfl) (JM.append 469 hv1325 rfl rfl (.sl rfl) Try.runUnderlying25 Try.typeInfo3 Try.sizeOf3 rfl rfl rfl rfl rfl) (J.cons (.none rfl) (JO.assign rfl) rfl rfl (J.fin (Sw.Sub.mk id (.cons rfl (.of_eq rfl) (.cons rfl (.of_eq rfl) (.cons rfl (.of_eq rfl) (.cons rfl (.of_eq rfl) (.cons rfl (.of_eq rfl) (.cons rfl (.of_eq rfl) (.cons rfl (.of_eq rfl) (.cons rfl (.of_eq rfl) (.cons rfl (.of_eq rfl) .nil))))))))) (.box rfl (.cons (.of_eq rfl) .nil) (.box rfl (.cons (.of_eq rfl) .nil) (.arr rfl (.arr rfl (.arr rfl .nil))))) rfl))))))))))))) ?_
              refine W.fall ?_
              refine W.reg (σ' := ⟨[(2, .ptr 101 0), (3, .ptr 102 0), (6, .ref 428), (7, .v (Enc.int .i64) (ar .add .i64 s1161.1 (1 : Int))), (8, .ref 291), (9, .v (Enc.int .i64) s663.2.1), (10, .ref 469), (11, .v (Enc.int .i64) s1161.2.1), (12, .v (Enc.int .i64) (ar .add .i64 s1311.1 (1 : Int)))], [(101, .box 51 [.v (Enc.sl (Enc.sl (Enc.int .u64))) a0]), (102, .box 51 [.v (Enc.sl (Enc.sl (Enc.int .u64))) a1]), (428, .arr 3 (Enc.int .i64) s1161.2.2.1), (291, .arr 3 (Enc.int .i64) s663.2.2.2), (469, .arr 3 (Enc.int .i64) v1325)]⟩) (J.cons (.none rfl) (JO.move rfl) rfl rfl (J.cons (.none rfl) (JO.arith rfl rfl rfl) rfl rfl (J.cons (.none rfl) (JO.assign rfl) rfl rfl (J.fin (Sw.Sub.mk id (.cons rfl (.of_eq rfl) (.cons rfl (.of_eq rfl) (.cons rfl (.of_eq rfl) (.cons rfl (.of_eq rfl) (.cons rfl (.of_eq rfl) (.cons rfl (.of_eq rfl) (.cons rfl (.of_eq rfl) (.cons rfl (.of_eq rfl) (.cons rfl (.of_eq rfl) .nil))))))))) (.box rfl (.cons (.of_eq rfl) .nil) (.box rfl (.cons (.of_eq rfl) .nil) (.arr rfl (.arr rfl (.arr rfl .nil))))) rfl))))) ?_
              obtain rfl := Option.some.inj h
              exact W.next (Sw.Sub.mk (rn [(101, 101), (102, 102), (428, 428), (291, 291), (467, 469)]) (.cons rfl (.of_eq rfl) (.cons rfl (.of_eq rfl) (.cons rfl (.of_eq rfl) (.cons rfl (.of_eq rfl) (.cons rfl (.of_eq rfl) (.cons rfl (.of_eq rfl) (.cons rfl (.of_eq rfl) (.cons rfl (.of_eq rfl) (.cons rfl (.of_eq rfl) .nil))))))))) (.box rfl (.cons (.of_eq rfl) .nil) (.box rfl (.cons (.of_eq rfl) .nil) (.arr rfl (.arr rfl (.arr rfl .nil))))) rfl)
            · replace h := cond_f hc1323 h
              refine W.condF rfl hc1323 ?_
              refine W.skip ?_
              refine W.fall ?_
              refine W.reg (σ' := ⟨[(2, .ptr 101 0), (3, .ptr 102 0), (6, .ref 428), (7, .v (Enc.int .i64) (ar .add .i64 s1161.1 (1 : Int))), (8, .ref 291), (9, .v (Enc.int .i64) s663.2.1), (10, .ref 467), (11, .v (Enc.int .i64) s1161.2.1), (12, .v (Enc.int .i64) (ar .add .i64 s1311.1 (1 : Int)))], [(101, .box 51 [.v (Enc.sl (Enc.sl (Enc.int .u64))) a0]), (102, .box 51 [.v (Enc.sl (Enc.sl (Enc.int .u64))) a1]), (428, .arr 3 (Enc.int .i64) s1161.2.2.1), (291, .arr 3 (Enc.int .i64) s663.2.2.2), (467, .arr 3 (Enc.int .i64) s1311.2)]⟩) (J.cons (.none rfl) (JO.move rfl) rfl rfl (J.cons (.none rfl) (JO.arith rfl rfl rfl) rfl rfl (J.cons (.none rfl) (JO.assign rfl) rfl rfl (J.fin (Sw.Sub.mk id (.cons rfl (.of_eq rfl) (.cons rfl (.of_eq rfl) (.cons rfl (.of_eq rfl) (.cons rfl (.of_eq rfl) (.cons rfl (.of_eq rfl) (.cons rfl (.of_eq rfl) (.cons rfl (.of_eq rfl) (.cons rfl (.of_eq rfl) (.cons rfl (.of_eq rfl) .nil))))))))) (.box rfl (.cons (.of_eq rfl) .nil) (.box rfl (.cons (.of_eq rfl) .nil) (.arr rfl (.arr rfl (.arr rfl .nil))))) rfl))))) ?_
              obtain rfl := Option.some.inj h
              exact W.next (Sw.Sub.mk id (.cons rfl (.of_eq rfl) (.cons rfl (.of_eq rfl) (.cons rfl (.of_eq rfl) (.cons rfl (.of_eq rfl) (.cons rfl (.of_eq rfl) (.cons rfl (.of_eq rfl) (.cons rfl (.of_eq rfl) (.cons rfl (.of_eq rfl) (.cons rfl (.of_eq rfl) .nil))))))))) (.box rfl (.cons (.of_eq rfl) .nil) (.box rfl (.cons (.of_eq rfl) .nil) (.arr rfl (.arr rfl (.arr rfl .nil))))) rfl)
          · replace h := cond_f hc1320 h
            refine W.condF rfl hc1320 ?_
            refine W.exit ?_
            obtain rfl := Option.some.inj h
            exact XQ.brk (Sw.Sub.mk id (.cons rfl (.of_eq rfl) (.cons rfl (.of_eq rfl) (.cons rfl (.of_eq rfl) (.cons rfl (.of_eq rfl) (.cons rfl (.of_eq rfl) (.cons rfl (.of_eq rfl) (.cons rfl (.of_eq rfl) (.cons rfl (.of_eq rfl) .nil)))))))) (.box rfl (.cons (.of_eq rfl) .nil) (.box rfl (.cons (.of_eq rfl) .nil) (.arr rfl (.arr rfl (.arr rfl .nil))))) rfl)
    · replace h := cond_f hc1245 h
      refine W.condF rfl hc1245 ?_
      refine W.exit ?_
      obtain rfl := Option.some.inj h
      exact XQ.brk (Sw.Sub.mk id (.cons rfl (.of_eq rfl) (.cons rfl (.of_eq rfl) (.cons rfl (.of_eq rfl) (.cons rfl (.of_eq rfl) (.cons rfl (.of_eq rfl) (.cons rfl (.of_eq rfl) .nil)))))) (.box rfl (.cons (.of_eq rfl) .nil) (.box rfl (.cons (.of_eq rfl) .nil) (.arr rfl (.arr rfl .nil)))) rfl)
  · replace h := cond_f hc996 h
    refine W.condF rfl hc996 ?_
    refine W.exit ?_
    obtain rfl := Option.some.inj h
    exact XQ.brk (Sw.Sub.mk id (.cons rfl (.of_eq rfl) (.cons rfl (.of_eq rfl) .nil)) (.arr rfl .nil) rfl)
set_option maxRecDepth 100000 in
set_option maxHeartbeats 4000000 in
theorem con_tree_Diff_1_io : ∀ (n : Nat) (A : Nat → Nat) {a0 : Int} {a1 : Int} {a2_0 : Int} {a3_0 : (List (List Int))} {a4_0 : (List (List Int))} {a5_0 : (List Int)} {r : Int × (List (List Int)) × (List (List Int)) × (List Int)} (_ : m_tree_Diff_1_io n a0 a1 a2_0 a3_0 a4_0 a5_0 = some r),
    ConM Try.prog 133 [.v (Enc.int .i64) a0, .v (Enc.int .i64) a1, .ptr 9200 0, .ptr 9300 0, .ptr 9400 0, .ptr 9500 0, .ptr 9600 0] [(9200, .box 3 [.v (Enc.int .i64) a2_0] (some (A 9200))), (9300, .box 51 [.v (Enc.sl (Enc.sl (Enc.int .u64))) a3_0] (some (A 9300))), (9400, .box 51 [.v (Enc.sl (Enc.sl (Enc.int .u64))) a4_0] (some (A 9400))), (9500, .box 25 [.ref 9450] (some (A 9500))), (9450, .arr 3 (Enc.int .i64) a5_0), (9600, .box 202 [.fnc 133 [.ptr 9200 0, .ptr 9300 0, .ptr 9400 0, .ptr 9500 0, .ptr 9600 0]] (some (A 9600)))] (.tup []) [(9200, .box 3 [.v (Enc.int .i64) r.1] (some (A 9200))), (9300, .box 51 [.v (Enc.sl (Enc.sl (Enc.int .u64))) r.2.1] (some (A 9300))), (9400, .box 51 [.v (Enc.sl (Enc.sl (Enc.int .u64))) r.2.2.1] (some (A 9400))), (9500, .box 25 [.ref 9410] (some (A 9500))), (9410, .arr 3 (Enc.int .i64) r.2.2.2), (9600, .box 202 [.fnc 133 [.ptr 9200 0, .ptr 9300 0, .ptr 9400 0, .ptr 9500 0, .ptr 9600 0]] (some (A 9600)))] := by
  intro n
  induction n with
  | zero => intro A a0 a1 a2_0 a3_0 a4_0 a5_0 r h; cases h
  | succ n0 ih =>
    intro A a0 a1 a2_0 a3_0 a4_0 a5_0 r h
    refine ConM.of Try.func133 rfl Try.ntmps133 rfl ?_
    intro S w R hF
    simp only [m_tree_Diff_1_io] at h
    refine W.seq ?_
    refine W.reg (σ' := ⟨[(0, .v (Enc.int .i64) a0), (1, .v (Enc.int .i64) a1), (2, .ptr 9200 0), (3, .ptr 9300 0), (4, .ptr 9400 0), (5, .ptr 9500 0), (6, .ptr 9600 0)], [(9200, .box 3 [.v (Enc.int .i64) (ar .add .i64 a2_0 (1 : Int))] (some (A 9200))), (9300, .box 51 [.v (Enc.sl (Enc.sl (Enc.int .u64))) a3_0] (some (A 9300))), (9400, .box 51 [.v (Enc.sl (Enc.sl (Enc.int .u64))) a4_0] (some (A 9400))), (9500, .box 25 [.ref 9450] (some (A 9500))), (9600, .box 202 [.fnc 133 [.ptr 9200 0, .ptr 9300 0, .ptr 9400 0, .ptr 9500 0, .ptr 9600 0]] (some (A 9600))), (9450, .arr 3 (Enc.int .i64) a5_0)]⟩) (J.cons (.none rfl) (JO.load rfl rfl rfl Try.isAgg3 Try.sizeOf3) rfl rfl (J.cons (.none rfl) (JO.arith rfl rfl rfl) rfl rfl (J.mut (.none rfl) (JM.store rfl rfl rfl rfl rfl rfl rfl Try.sizeOf3) (J.fin (Sw.Sub.mk id (.cons rfl (.of_eq rfl) (.cons rfl (.of_eq rfl) (.cons rfl (.of_eq rfl) (.cons rfl (.of_eq rfl) (.cons rfl (.of_eq rfl) (.cons rfl (.of_eq rfl) (.cons rfl (.of_eq rfl) .nil))))))) (.box rfl (.cons (.of_eq rfl) .nil) (.box rfl (.cons (.of_eq rfl) .nil) (.box rfl (.cons (.of_eq rfl) .nil) (.box rfl (.cons (.of_eq rfl) .nil) (.box rfl (.cons (.of_eq rfl) .nil) (.arr rfl .nil)))))) rfl))))) ?_
    refine W.block ?_
    refine W.seq ?_
    obtain ⟨z1, hz1, h⟩ := bind_e h
    obtain ⟨z2, hz2, h⟩ := bind_e h
    obtain ⟨z3, hz3, h⟩ := bind_e h
    obtain ⟨z4, hz4, h⟩ := bind_e h
    refine W.dr2 (σ' := ⟨[(0, .v (Enc.int .i64) a0), (1, .v (Enc.int .i64) a1), (2, .ptr 9200 0), (3, .ptr 9300 0), (4, .ptr 9400 0), (5, .ptr 9500 0), (6, .ptr 9600 0), (34, .v Enc.bool (cm .eql z2 z4))], [(9200, .box 3 [.v (Enc.int .i64) (ar .add .i64 a2_0 (1 : Int))] (some (A 9200))), (9300, .box 51 [.v (Enc.sl (Enc.sl (Enc.int .u64))) a3_0] (some (A 9300))), (9400, .box 51 [.v (Enc.sl (Enc.sl (Enc.int .u64))) a4_0] (some (A 9400))), (9500, .box 25 [.ref 9450] (some (A 9500))), (9600, .box 202 [.fnc 133 [.ptr 9200 0, .ptr 9300 0, .ptr 9400 0, .ptr 9500 0, .ptr 9600 0]] (some (A 9600))), (9450, .arr 3 (Enc.int .i64) a5_0)]⟩) 18 [0, 1, 0, 7, 15, 0, 63, 127, 0, 256, 0, 1792, 3840, 0, 16128, 32512, 65535, 131071] mixed (by exact (.cons (.none rfl) (JO.fieldPtr 0 rfl Try.runUnderlying51 rfl Try.sizeOf49 rfl rfl) rfl rfl (.cons (.none rfl) (JO.load rfl rfl rfl Try.isAgg49 Try.sizeOf49) rfl rfl (.cons (.none rfl) (JO.move rfl) rfl rfl (.cons (.none rfl) (JO.idx hz1 rfl rfl Try.runUnderlying49 Try.sizeOf131) rfl rfl (.cons (.none rfl) (JO.loadPst rfl Try.isAgg131 Try.sizeOf131) rfl rfl (.cons (.none rfl) (JO.move rfl) rfl rfl (.cons (.none rfl) (JO.idx hz2 rfl rfl Try.runUnderlying131 Try.sizeOf132) rfl rfl (.cons (.none rfl) (JO.loadPst rfl Try.isAgg132 Try.sizeOf132) rfl rfl (.cons (.none rfl) (JO.fieldPtr 0 rfl Try.runUnderlying51 rfl Try.sizeOf49 rfl rfl) rfl rfl (.cons (.none rfl) (JO.load rfl rfl rfl Try.isAgg49 Try.sizeOf49) rfl rfl (.cons (.none rfl) (JO.move rfl) rfl rfl (.cons (.none rfl) (JO.idx hz3 rfl rfl Try.runUnderlying49 Try.sizeOf131) rfl rfl (.cons (.none rfl) (JO.loadPst rfl Try.isAgg131 Try.sizeOf131) rfl rfl (.cons (.none rfl) (JO.move rfl) rfl rfl (.cons (.none rfl) (JO.idx hz4 rfl rfl Try.runUnderlying131 Try.sizeOf132) rfl rfl (.cons (.none rfl) (JO.loadPst rfl Try.isAgg132 Try.sizeOf132) rfl rfl (.cons (.none rfl) (JO.cmp rfl rfl rfl) rfl rfl (.cons (.none rfl) (JO.assign rfl) rfl rfl .nil))))))))))))))))))) (by exact (J.fin (Sw.Sub.mk id (.cons rfl (.of_eq rfl) (.cons rfl (.of_eq rfl) (.cons rfl (.of_eq rfl) (.cons rfl (.of_eq rfl) (.cons rfl (.of_eq rfl) (.cons rfl (.of_eq rfl) (.cons rfl (.of_eq rfl) (.cons rfl (.of_eq rfl) .nil)))))))) (.box rfl (.cons (.of_eq rfl) .nil) (.box rfl (.cons (.of_eq rfl) .nil) (.box rfl (.cons (.of_eq rfl) .nil) (.box rfl (.cons (.of_eq rfl) .nil) (.box rfl (.cons (.of_eq rfl) .nil) (.arr rfl .nil)))))) rfl))) rfl (by decide +kernel) (by decide +kernel) (by decide +kernel) (by kernel_rfl) ?_
    rcases Bool.eq_false_or_eq_true (cm .eql z2 z4) with hc5 | hc5
    · replace h := cond_t hc5 h
      refine W.condT rfl hc5 ?_
      refine W.skip ?_
      refine W.fall ?_
      refine W.nil ?_
      obtain rfl := Option.some.inj h
      exact XQ.sub (σ' := ⟨[(2, .ptr 9200 0), (3, .ptr 9300 0), (4, .ptr 9400 0), (5, .ptr 9500 0), (6, .ptr 9600 0)], [(9600, .box 202 [.fnc 133 [.ptr 9200 0, .ptr 9300 0, .ptr 9400 0, .ptr 9500 0, .ptr 9600 0]] (some (A 9600))), (9500, .box 25 [.ref 9410] (some (A 9500))), (9410, .arr 3 (Enc.int .i64) a5_0), (9400, .box 51 [.v (Enc.sl (Enc.sl (Enc.int .u64))) a4_0] (some (A 9400))), (9300, .box 51 [.v (Enc.sl (Enc.sl (Enc.int .u64))) a3_0] (some (A 9300))), (9200, .box 3 [.v (Enc.int .i64) (ar .add .i64 a2_0 (1 : Int))] (some (A 9200)))]⟩) (Sw.Sub.mk (rn [(9200, 9200), (9300, 9300), (9400, 9400), (9500, 9500), (9600, 9600), (9410, 9450)]) (.cons rfl (.of_eq rfl) (.cons rfl (.of_eq rfl) (.cons rfl (.of_eq rfl) (.cons rfl (.of_eq rfl) (.cons rfl (.of_eq rfl) .nil))))) (.box rfl (.cons (.of_eq rfl) .nil) (.box rfl (.cons (.of_eq rfl) .nil) (.arr rfl (.box rfl (.cons (.of_eq rfl) .nil) (.box rfl (.cons (.of_eq rfl) .nil) (.box rfl (.cons (.of_eq rfl) .nil) .nil)))))) rfl) (XQ.normM0 hF rfl  (.cons rfl (.cons rfl (.cons rfl (.cons rfl (.cons rfl (.cons rfl .nil)))))))
    · replace h := cond_f hc5 h
      refine W.condF rfl hc5 ?_
      refine W.seq ?_
      refine W.reg (σ' := ⟨[(0, .v (Enc.int .i64) a0), (1, .v (Enc.int .i64) a1), (2, .ptr 9200 0), (3, .ptr 9300 0), (4, .ptr 9400 0), (5, .ptr 9500 0), (6, .ptr 9600 0), (52, .v Enc.bool (cm .eql a0 (0 : Int)))], [(9200, .box 3 [.v (Enc.int .i64) (ar .add .i64 a2_0 (1 : Int))] (some (A 9200))), (9300, .box 51 [.v (Enc.sl (Enc.sl (Enc.int .u64))) a3_0] (some (A 9300))), (9400, .box 51 [.v (Enc.sl (Enc.sl (Enc.int .u64))) a4_0] (some (A 9400))), (9500, .box 25 [.ref 9450] (some (A 9500))), (9600, .box 202 [.fnc 133 [.ptr 9200 0, .ptr 9300 0, .ptr 9400 0, .ptr 9500 0, .ptr 9600 0]] (some (A 9600))), (9450, .arr 3 (Enc.int .i64) a5_0)]⟩) (J.cons (.none rfl) (JO.move rfl) rfl rfl (J.cons (.none rfl) (JO.cmp rfl rfl rfl) rfl rfl (J.cons (.none rfl) (JO.assign rfl) rfl rfl (J.fin (Sw.Sub.mk id (.cons rfl (.of_eq rfl) (.cons rfl (.of_eq rfl) (.cons rfl (.of_eq rfl) (.cons rfl (.of_eq rfl) (.cons rfl (.of_eq rfl) (.cons rfl (.of_eq rfl) (.cons rfl (.of_eq rfl) (.cons rfl (.of_eq rfl) .nil)))))))) (.box rfl (.cons (.of_eq rfl) .nil) (.box rfl (.cons (.of_eq rfl) .nil) (.box rfl (.cons (.of_eq rfl) .nil) (.box rfl (.cons (.of_eq rfl) .nil) (.box rfl (.cons (.of_eq rfl) .nil) (.arr rfl .nil)))))) rfl))))) ?_
      rcases Bool.eq_false_or_eq_true (cm .eql a0 (0 : Int)) with hc6 | hc6
      · replace h := cond_t hc6 h
        refine W.condT rfl hc6 ?_
        obtain ⟨v7, hv7, h⟩ := bind_e h
        refine W.reg (σ' := ⟨[(2, .ptr 9200 0), (3, .ptr 9300 0), (4, .ptr 9400 0), (5, .ptr 9500 0), (6, .ptr 9600 0)], [(9200, .box 3 [.v (Enc.int .i64) (ar .add .i64 a2_0 (1 : Int))] (some (A 9200))), (9300, .box 51 [.v (Enc.sl (Enc.sl (Enc.int .u64))) a3_0] (some (A 9300))), (9400, .box 51 [.v (Enc.sl (Enc.sl (Enc.int .u64))) a4_0] (some (A 9400))), (9500, .box 25 [.ref 101] (some (A 9500))), (9600, .box 202 [.fnc 133 [.ptr 9200 0, .ptr 9300 0, .ptr 9400 0, .ptr 9500 0, .ptr 9600 0]] (some (A 9600))), (101, .arr 3 (Enc.int .i64) v7)]⟩) (J.cons (.none rfl) (JO.load rfl rfl rfl Try.isAgg25 Try.sizeOf25) rfl rfl (J.cons (.none rfl) (JO.move rfl) rfl rfl (J.cons (.none rfl) (JO.lit (e := (Enc.int .i64)) Try.runUnderlying25 Try.sizeOf3 Try.zeroValue3 rfl rfl rfl rfl (.cons (.dir rfl) .nil)) rfl rfl (J.mut (.none rfl) (JM.append 101 hv7 rfl rfl (.sl rfl) Try.runUnderlying25 Try.typeInfo3 Try.sizeOf3 rfl rfl rfl rfl rfl) (J.mut (.none rfl) (JM.store rfl rfl rfl rfl rfl rfl rfl Try.sizeOf25) (J.fin (Sw.Sub.mk id (.cons rfl (.of_eq rfl) (.cons rfl (.of_eq rfl) (.cons rfl (.of_eq rfl) (.cons rfl (.of_eq rfl) (.cons rfl (.of_eq rfl) .nil))))) (.box rfl (.cons (.of_eq rfl) .nil) (.box rfl (.cons (.of_eq rfl) .nil) (.box rfl (.cons (.of_eq rfl) .nil) (.box rfl (.cons (.of_eq rfl) .nil) (.box rfl (.cons (.of_eq rfl) .nil) (.arr rfl .nil)))))) rfl))))))) ?_
        refine W.fall ?_
        refine W.nil ?_
        obtain rfl := Option.some.inj h
        exact XQ.sub (σ' := ⟨[(2, .ptr 9200 0), (3, .ptr 9300 0), (4, .ptr 9400 0), (5, .ptr 9500 0), (6, .ptr 9600 0)], [(9600, .box 202 [.fnc 133 [.ptr 9200 0, .ptr 9300 0, .ptr 9400 0, .ptr 9500 0, .ptr 9600 0]] (some (A 9600))), (9500, .box 25 [.ref 9410] (some (A 9500))), (9410, .arr 3 (Enc.int .i64) v7), (9400, .box 51 [.v (Enc.sl (Enc.sl (Enc.int .u64))) a4_0] (some (A 9400))), (9300, .box 51 [.v (Enc.sl (Enc.sl (Enc.int .u64))) a3_0] (some (A 9300))), (9200, .box 3 [.v (Enc.int .i64) (ar .add .i64 a2_0 (1 : Int))] (some (A 9200)))]⟩) (Sw.Sub.mk (rn [(9200, 9200), (9300, 9300), (9400, 9400), (9500, 9500), (9600, 9600), (9410, 101)]) (.cons rfl (.of_eq rfl) (.cons rfl (.of_eq rfl) (.cons rfl (.of_eq rfl) (.cons rfl (.of_eq rfl) (.cons rfl (.of_eq rfl) .nil))))) (.box rfl (.cons (.of_eq rfl) .nil) (.box rfl (.cons (.of_eq rfl) .nil) (.arr rfl (.box rfl (.cons (.of_eq rfl) .nil) (.box rfl (.cons (.of_eq rfl) .nil) (.box rfl (.cons (.of_eq rfl) .nil) .nil)))))) rfl) (XQ.normM0 hF rfl  (.cons rfl (.cons rfl (.cons rfl (.cons rfl (.cons rfl (.cons rfl .nil)))))))
      · replace h := cond_f hc6 h
        refine W.condF rfl hc6 ?_
        refine W.seq ?_
        refine W.reg (σ' := ⟨[(0, .v (Enc.int .i64) a0), (1, .v (Enc.int .i64) a1), (2, .ptr 9200 0), (3, .ptr 9300 0), (4, .ptr 9400 0), (5, .ptr 9500 0), (6, .ptr 9600 0), (9, .v (Enc.int .i64) (ar .mul .i64 a1 (4 : Int)))], [(9200, .box 3 [.v (Enc.int .i64) (ar .add .i64 a2_0 (1 : Int))] (some (A 9200))), (9300, .box 51 [.v (Enc.sl (Enc.sl (Enc.int .u64))) a3_0] (some (A 9300))), (9400, .box 51 [.v (Enc.sl (Enc.sl (Enc.int .u64))) a4_0] (some (A 9400))), (9500, .box 25 [.ref 9450] (some (A 9500))), (9600, .box 202 [.fnc 133 [.ptr 9200 0, .ptr 9300 0, .ptr 9400 0, .ptr 9500 0, .ptr 9600 0]] (some (A 9600))), (9450, .arr 3 (Enc.int .i64) a5_0)]⟩) (J.cons (.none rfl) (JO.move rfl) rfl rfl (J.cons (.none rfl) (JO.arith rfl rfl rfl) rfl rfl (J.cons (.none rfl) (JO.assign rfl) rfl rfl (J.fin (Sw.Sub.mk id (.cons rfl (.of_eq rfl) (.cons rfl (.of_eq rfl) (.cons rfl (.of_eq rfl) (.cons rfl (.of_eq rfl) (.cons rfl (.of_eq rfl) (.cons rfl (.of_eq rfl) (.cons rfl (.of_eq rfl) (.cons rfl (.of_eq rfl) .nil)))))))) (.box rfl (.cons (.of_eq rfl) .nil) (.box rfl (.cons (.of_eq rfl) .nil) (.box rfl (.cons (.of_eq rfl) .nil) (.box rfl (.cons (.of_eq rfl) .nil) (.box rfl (.cons (.of_eq rfl) .nil) (.arr rfl .nil)))))) rfl))))) ?_
        obtain ⟨o20, ho20, hb20, hr20⟩ := lp_elim h
        refine W.lp (σs := fun s16 : Int × Int × (List (List Int)) × (List (List Int)) × (List Int) => ⟨[(0, .v (Enc.int .i64) a0), (1, .v (Enc.int .i64) a1), (2, .ptr 9200 0), (3, .ptr 9300 0), (4, .ptr 9400 0), (5, .ptr 9500 0), (6, .ptr 9600 0), (9, .v (Enc.int .i64) s16.1)], [(9200, .box 3 [.v (Enc.int .i64) s16.2.1] (some (A 9200))), (9300, .box 51 [.v (Enc.sl (Enc.sl (Enc.int .u64))) s16.2.2.1] (some (A 9300))), (9400, .box 51 [.v (Enc.sl (Enc.sl (Enc.int .u64))) s16.2.2.2.1] (some (A 9400))), (9500, .box 25 [.ref 107] (some (A 9500))), (9600, .box 202 [.fnc 133 [.ptr 9200 0, .ptr 9300 0, .ptr 9400 0, .ptr 9500 0, .ptr 9600 0]] (some (A 9600))), (107, .arr 3 (Enc.int .i64) s16.2.2.2.2)]⟩) (fun x21 : Int × (List (List Int)) × (List (List Int)) × (List Int) => ⟨[(2, .ptr 9200 0), (3, .ptr 9300 0), (4, .ptr 9400 0), (5, .ptr 9500 0), (6, .ptr 9600 0)], [(9200, .box 3 [.v (Enc.int .i64) x21.1] (some (A 9200))), (9300, .box 51 [.v (Enc.sl (Enc.sl (Enc.int .u64))) x21.2.1] (some (A 9300))), (9400, .box 51 [.v (Enc.sl (Enc.sl (Enc.int .u64))) x21.2.2.1] (some (A 9400))), (9500, .box 25 [.ref 107] (some (A 9500))), (9600, .box 202 [.fnc 133 [.ptr 9200 0, .ptr 9300 0, .ptr 9400 0, .ptr 9500 0, .ptr 9600 0]] (some (A 9600))), (107, .arr 3 (Enc.int .i64) x21.2.2.2)]⟩) ho20 (Sw.Sub.mk (rn [(9200, 9200), (9300, 9300), (9400, 9400), (9500, 9500), (9600, 9600), (107, 9450)]) (.cons rfl (.of_eq rfl) (.cons rfl (.of_eq rfl) (.cons rfl (.of_eq rfl) (.cons rfl (.of_eq rfl) (.cons rfl (.of_eq rfl) (.cons rfl (.of_eq rfl) (.cons rfl (.of_eq rfl) (.cons rfl (.of_eq rfl) .nil)))))))) (.box rfl (.cons (.of_eq rfl) .nil) (.box rfl (.cons (.of_eq rfl) .nil) (.box rfl (.cons (.of_eq rfl) .nil) (.box rfl (.cons (.of_eq rfl) .nil) (.box rfl (.cons (.of_eq rfl) .nil) (.arr rfl .nil)))))) rfl) ?_ ?_
        · intro x21 hy
          have h := hb20 _ hy
          refine W.fall ?_
          refine W.nil ?_
          obtain rfl := Option.some.inj h
          exact XQ.sub (σ' := ⟨[(2, .ptr 9200 0), (3, .ptr 9300 0), (4, .ptr 9400 0), (5, .ptr 9500 0), (6, .ptr 9600 0)], [(9600, .box 202 [.fnc 133 [.ptr 9200 0, .ptr 9300 0, .ptr 9400 0, .ptr 9500 0, .ptr 9600 0]] (some (A 9600))), (9500, .box 25 [.ref 9410] (some (A 9500))), (9410, .arr 3 (Enc.int .i64) x21.2.2.2), (9400, .box 51 [.v (Enc.sl (Enc.sl (Enc.int .u64))) x21.2.2.1] (some (A 9400))), (9300, .box 51 [.v (Enc.sl (Enc.sl (Enc.int .u64))) x21.2.1] (some (A 9300))), (9200, .box 3 [.v (Enc.int .i64) x21.1] (some (A 9200)))]⟩) (Sw.Sub.mk (rn [(9200, 9200), (9300, 9300), (9400, 9400), (9500, 9500), (9600, 9600), (9410, 107)]) (.cons rfl (.of_eq rfl) (.cons rfl (.of_eq rfl) (.cons rfl (.of_eq rfl) (.cons rfl (.of_eq rfl) (.cons rfl (.of_eq rfl) .nil))))) (.box rfl (.cons (.of_eq rfl) .nil) (.box rfl (.cons (.of_eq rfl) .nil) (.arr rfl (.box rfl (.cons (.of_eq rfl) .nil) (.box rfl (.cons (.of_eq rfl) .nil) (.box rfl (.cons (.of_eq rfl) .nil) .nil)))))) rfl) (XQ.normM0 hF rfl  (.cons rfl (.cons rfl (.cons rfl (.cons rfl (.cons rfl (.cons rfl .nil)))))))
        intro s16 r20 h
        refine W.seq ?_
        refine W.seq ?_
        obtain ⟨z22, hz22, h⟩ := bind_e h
        refine W.reg (σ' := ⟨[(0, .v (Enc.int .i64) a0), (1, .v (Enc.int .i64) a1), (2, .ptr 9200 0), (3, .ptr 9300 0), (4, .ptr 9400 0), (5, .ptr 9500 0), (6, .ptr 9600 0), (9, .v (Enc.int .i64) s16.1), (26, .v Enc.bool (cm .lss s16.1 (min (z22.length : Int) (ar .add .i64 (ar .mul .i64 a1 (4 : Int)) (4 : Int)))))], [(9200, .box 3 [.v (Enc.int .i64) s16.2.1] (some (A 9200))), (9300, .box 51 [.v (Enc.sl (Enc.sl (Enc.int .u64))) s16.2.2.1] (some (A 9300))), (9400, .box 51 [.v (Enc.sl (Enc.sl (Enc.int .u64))) s16.2.2.2.1] (some (A 9400))), (9500, .box 25 [.ref 107] (some (A 9500))), (9600, .box 202 [.fnc 133 [.ptr 9200 0, .ptr 9300 0, .ptr 9400 0, .ptr 9500 0, .ptr 9600 0]] (some (A 9600))), (107, .arr 3 (Enc.int .i64) s16.2.2.2.2)]⟩) (J.cons (.none rfl) (JO.move rfl) rfl rfl (J.cons (.none rfl) (JO.fieldPtr 0 rfl Try.runUnderlying51 rfl Try.sizeOf49 rfl rfl) rfl rfl (J.cons (.none rfl) (JO.load rfl rfl rfl Try.isAgg49 Try.sizeOf49) rfl rfl (J.cons (.none rfl) (JO.move rfl) rfl rfl (J.cons (.none rfl) (JO.arith rfl rfl rfl) rfl rfl (J.cons (.none rfl) (JO.idx hz22 rfl rfl Try.runUnderlying49 Try.sizeOf131) rfl rfl (J.cons (.none rfl) (JO.loadPst rfl Try.isAgg131 Try.sizeOf131) rfl rfl (J.cons (.none rfl) (JO.len rfl Try.runUnderlying131) rfl rfl (J.cons (.none rfl) (JO.move rfl) rfl rfl (J.cons (.none rfl) (JO.arith rfl rfl rfl) rfl rfl (J.cons (.none rfl) (JO.arith rfl rfl rfl) rfl rfl (J.cons (.none rfl) (JO.gmin rfl rfl) rfl rfl (J.cons (.none rfl) (JO.cmp rfl rfl rfl) rfl rfl (J.fin (Sw.Sub.mk id (.cons rfl (.of_eq rfl) (.cons rfl (.of_eq rfl) (.cons rfl (.of_eq rfl) (.cons rfl (.of_eq rfl) (.cons rfl (.of_eq rfl) (.cons rfl (.of_eq rfl) (.cons rfl (.of_eq rfl) (.cons rfl (.of_eq rfl) (.cons rfl (.of_eq rfl) .nil))))))))) (.box rfl (.cons (.of_eq rfl) .nil) (.box rfl (.cons (.of_eq rfl) .nil) (.box rfl (.cons (.of_eq rfl) .nil) (.box rfl (.cons (.of_eq rfl) .nil) (.box rfl (.cons (.of_eq rfl) .nil) (.arr rfl .nil)))))) rfl))))))))))))))) ?_
        rcases Bool.eq_false_or_eq_true (cm .lss s16.1 (min (z22.length : Int) (ar .add .i64 (ar .mul .i64 a1 (4 : Int)) (4 : Int)))) with hc23 | hc23
        · replace h := cond_t hc23 h
          refine W.condT rfl hc23 ?_
          refine W.skip ?_
          refine W.seq ?_
          refine W.block ?_
          obtain ⟨v24, hv24, h⟩ := bind_e h
          refine W.reg (σ' := ⟨[(0, .v (Enc.int .i64) a0), (1, .v (Enc.int .i64) a1), (2, .ptr 9200 0), (3, .ptr 9300 0), (4, .ptr 9400 0), (5, .ptr 9500 0), (6, .ptr 9600 0), (9, .v (Enc.int .i64) s16.1)], [(9200, .box 3 [.v (Enc.int .i64) v24.1] (some (A 9200))), (9300, .box 51 [.v (Enc.sl (Enc.sl (Enc.int .u64))) v24.2.1] (some (A 9300))), (9400, .box 51 [.v (Enc.sl (Enc.sl (Enc.int .u64))) v24.2.2.1] (some (A 9400))), (9500, .box 25 [.ref 109] (some (A 9500))), (9600, .box 202 [.fnc 133 [.ptr 9200 0, .ptr 9300 0, .ptr 9400 0, .ptr 9500 0, .ptr 9600 0]] (some (A 9600))), (109, .arr 3 (Enc.int .i64) v24.2.2.2)]⟩) (J.cons (.none rfl) (JO.load rfl rfl rfl Try.isAgg202 Try.sizeOf202) rfl rfl (J.cons (.none rfl) (JO.move rfl) rfl rfl (J.cons (.none rfl) (JO.arith rfl rfl rfl) rfl rfl (J.cons (.none rfl) (JO.move rfl) rfl rfl (J.mut (.none rfl) (JM.callMF (H := [9200, 9300, 9400, 9500, 107, 9600]) (K := [9200, 9300, 9400, 9500, 9600]) (swp [(9200, 9200), (9300, 9300), (9400, 9400), (9500, 9500), (9450, 107), (9600, 9600), (9410, 109)]) (swp_inj _) rfl rfl (fun A => ih A hv24) Try.call133 (.cons (.dir rfl) (.cons (.dir rfl) .nil)) (fun A => (.box rfl (.box rfl (.box rfl (.box rfl (.arr rfl (.box rfl .nil))))))) (fun A => (.box rfl (.box rfl (.box rfl (.box rfl (.arr (.box rfl .nil rfl) rfl) rfl) rfl) rfl) rfl)) (fun _ => rfl) rfl rfl (fun _ => rfl) rfl rfl) (J.fin (Sw.Sub.mk id (.cons rfl (.of_eq rfl) (.cons rfl (.of_eq rfl) (.cons rfl (.of_eq rfl) (.cons rfl (.of_eq rfl) (.cons rfl (.of_eq rfl) (.cons rfl (.of_eq rfl) (.cons rfl (.of_eq rfl) (.cons rfl (.of_eq rfl) .nil)))))))) (.box rfl (.cons (.of_eq rfl) .nil) (.box rfl (.cons (.of_eq rfl) .nil) (.box rfl (.cons (.of_eq rfl) .nil) (.box rfl (.cons (.of_eq rfl) .nil) (.box rfl (.cons (.of_eq rfl) .nil) (.arr rfl .nil)))))) rfl))))))) ?_
          refine W.fall ?_
          refine W.reg (σ' := ⟨[(0, .v (Enc.int .i64) a0), (1, .v (Enc.int .i64) a1), (2, .ptr 9200 0), (3, .ptr 9300 0), (4, .ptr 9400 0), (5, .ptr 9500 0), (6, .ptr 9600 0), (9, .v (Enc.int .i64) (ar .add .i64 s16.1 (1 : Int)))], [(9200, .box 3 [.v (Enc.int .i64) v24.1] (some (A 9200))), (9300, .box 51 [.v (Enc.sl (Enc.sl (Enc.int .u64))) v24.2.1] (some (A 9300))), (9400, .box 51 [.v (Enc.sl (Enc.sl (Enc.int .u64))) v24.2.2.1] (some (A 9400))), (9500, .box 25 [.ref 109] (some (A 9500))), (9600, .box 202 [.fnc 133 [.ptr 9200 0, .ptr 9300 0, .ptr 9400 0, .ptr 9500 0, .ptr 9600 0]] (some (A 9600))), (109, .arr 3 (Enc.int .i64) v24.2.2.2)]⟩) (J.cons (.none rfl) (JO.move rfl) rfl rfl (J.cons (.none rfl) (JO.arith rfl rfl rfl) rfl rfl (J.cons (.none rfl) (JO.assign rfl) rfl rfl (J.fin (Sw.Sub.mk id (.cons rfl (.of_eq rfl) (.cons rfl (.of_eq rfl) (.cons rfl (.of_eq rfl) (.cons rfl (.of_eq rfl) (.cons rfl (.of_eq rfl) (.cons rfl (.of_eq rfl) (.cons rfl (.of_eq rfl) (.cons rfl (.of_eq rfl) .nil)))))))) (.box rfl (.cons (.of_eq rfl) .nil) (.box rfl (.cons (.of_eq rfl) .nil) (.box rfl (.cons (.of_eq rfl) .nil) (.box rfl (.cons (.of_eq rfl) .nil) (.box rfl (.cons (.of_eq rfl) .nil) (.arr rfl .nil)))))) rfl))))) ?_
          obtain rfl := Option.some.inj h
          exact W.next (Sw.Sub.mk (rn [(9200, 9200), (9300, 9300), (9400, 9400), (9500, 9500), (9600, 9600), (107, 109)]) (.cons rfl (.of_eq rfl) (.cons rfl (.of_eq rfl) (.cons rfl (.of_eq rfl) (.cons rfl (.of_eq rfl) (.cons rfl (.of_eq rfl) (.cons rfl (.of_eq rfl) (.cons rfl (.of_eq rfl) (.cons rfl (.of_eq rfl) .nil)))))))) (.box rfl (.cons (.of_eq rfl) .nil) (.box rfl (.cons (.of_eq rfl) .nil) (.box rfl (.cons (.of_eq rfl) .nil) (.box rfl (.cons (.of_eq rfl) .nil) (.box rfl (.cons (.of_eq rfl) .nil) (.arr rfl .nil)))))) rfl)
        · replace h := cond_f hc23 h
          refine W.condF rfl hc23 ?_
          refine W.exit ?_
          obtain rfl := Option.some.inj h
          exact XQ.brk (Sw.Sub.mk id (.cons rfl (.of_eq rfl) (.cons rfl (.of_eq rfl) (.cons rfl (.of_eq rfl) (.cons rfl (.of_eq rfl) (.cons rfl (.of_eq rfl) .nil))))) (.box rfl (.cons (.of_eq rfl) .nil) (.box rfl (.cons (.of_eq rfl) .nil) (.box rfl (.cons (.of_eq rfl) .nil) (.box rfl (.cons (.of_eq rfl) .nil) (.box rfl (.cons (.of_eq rfl) .nil) (.arr rfl .nil)))))) rfl)
set_option maxRecDepth 100000 in
set_option maxHeartbeats 4000000 in
theorem con_tree_Diff {a0 : ((List (List Int)))} {a1 : ((List (List Int)))} {r : (List Int) × Int × (Option Int)} (h : m_tree_Diff a0 a1 = some r) :
    Con Try.prog 82 [.v (Enc.one1 (Enc.sl (Enc.sl (Enc.int .u64)))) a0, .v (Enc.one1 (Enc.sl (Enc.sl (Enc.int .u64)))) a1] (.tup [.v (Enc.sl (Enc.int .i64)) r.1, .v (Enc.int .i64) r.2.1, .v (Enc.err ET) r.2.2]) [] := by
  refine Con.of Try.func82 rfl Try.ntmps82 rfl ?_
  intro S w hF
  unfold m_tree_Diff at h
  refine W.seq ?_
  refine W.reg (σ' := ⟨[(2, .ptr 101 0), (3, .ptr 102 0), (4, .ptr 103 0), (5, .ptr 105 0)], [(101, .box 51 [.v (Enc.sl (Enc.sl (Enc.int .u64))) a0]), (102, .box 51 [.v (Enc.sl (Enc.sl (Enc.int .u64))) a1]), (103, .box 25 [.ref 104]), (105, .box 3 [.v (Enc.int .i64) (0 : Int)]), (104, .arr 3 (Enc.int .i64) ([] : (List Int)))]⟩) (J.cons (.none rfl) (JO.box 101 rfl (.one1 (.one _ _)) rfl) rfl rfl (J.cons (.none rfl) (JO.box 102 rfl (.one1 (.one _ _)) rfl) rfl rfl (J.cons (.none rfl) (JO.allocN (new := [(104, .arr 3 (Enc.int .i64) ([] : (List Int)))]) 103 Try.zeroValue25 rfl (.ref 104 rfl .nil) (.cons .nil) rfl rfl) rfl rfl (J.cons (.none rfl) (JO.alloc 105 Try.zeroValue3 rfl (.cons (Z.int .i64) .nil) rfl) rfl rfl (J.cons (.none rfl) (JO.assignNilE ET) rfl rfl (J.fin (Sw.Sub.mk id (.cons rfl (.of_eq rfl) (.cons rfl (.of_eq rfl) (.cons rfl (.of_eq rfl) (.cons rfl (.of_eq rfl) .nil)))) (.box rfl (.cons (.of_eq rfl) .nil) (.box rfl (.cons (.of_eq rfl) .nil) (.box rfl (.cons (.of_eq rfl) .nil) (.box rfl (.cons (.of_eq rfl) .nil) (.arr rfl .nil))))) rfl))))))) ?_
  refine W.seq ?_
  refine W.seq ?_
  refine W.reg (σ' := ⟨[(2, .ptr 101 0), (3, .ptr 102 0), (4, .ptr 103 0), (5, .ptr 105 0), (13, .v (Enc.sl (Enc.one1 (Enc.sl (Enc.sl (Enc.int .u64))))) ([a0, a1] : (List ((List (List Int)))))), (14, .v (Enc.int .i64) (([a0, a1] : (List ((List (List Int))))).length : Int)), (15, .v (Enc.int .i64) (0 : Int))], [(101, .box 51 [.v (Enc.sl (Enc.sl (Enc.int .u64))) a0]), (102, .box 51 [.v (Enc.sl (Enc.sl (Enc.int .u64))) a1]), (103, .box 25 [.ref 104]), (105, .box 3 [.v (Enc.int .i64) (0 : Int)]), (104, .arr 3 (Enc.int .i64) ([] : (List Int)))]⟩) (J.cons (.none rfl) (JO.loadAll rfl rfl (.one1 (.one _ _)) Try.isAgg51 Try.sizeOf51) rfl rfl (J.cons (.none rfl) (JO.loadAll rfl rfl (.one1 (.one _ _)) Try.isAgg51 Try.sizeOf51) rfl rfl (J.cons (.none rfl) (JO.lit (e := (Enc.one1 (Enc.sl (Enc.sl (Enc.int .u64))))) Try.runUnderlying201 Try.sizeOf51 Try.zeroValue51 rfl rfl rfl rfl (.cons (.dir rfl) (.cons (.dir rfl) .nil))) rfl rfl (J.cons (.none rfl) (JO.len rfl Try.runUnderlying201) rfl rfl (J.cons (.none rfl) (JO.move rfl) rfl rfl (J.fin (Sw.Sub.mk id (.cons rfl (.of_eq rfl) (.cons rfl (.of_eq rfl) (.cons rfl (.of_eq rfl) (.cons rfl (.of_eq rfl) (.cons rfl (.of_eq rfl) (.cons rfl (.of_eq rfl) (.cons rfl (.of_eq rfl) .nil))))))) (.box rfl (.cons (.of_eq rfl) .nil) (.box rfl (.cons (.of_eq rfl) .nil) (.box rfl (.cons (.of_eq rfl) .nil) (.box rfl (.cons (.of_eq rfl) .nil) (.arr rfl .nil))))) rfl))))))) ?_
  obtain ⟨o16, ho16, hb16, hr16⟩ := lp_elim h
  refine W.lp (σs := fun s11 : Int => ⟨[(2, .ptr 101 0), (3, .ptr 102 0), (4, .ptr 103 0), (5, .ptr 105 0), (13, .v (Enc.sl (Enc.one1 (Enc.sl (Enc.sl (Enc.int .u64))))) ([a0, a1] : (List ((List (List Int)))))), (14, .v (Enc.int .i64) (([a0, a1] : (List ((List (List Int))))).length : Int)), (15, .v (Enc.int .i64) s11)], [(101, .box 51 [.v (Enc.sl (Enc.sl (Enc.int .u64))) a0]), (102, .box 51 [.v (Enc.sl (Enc.sl (Enc.int .u64))) a1]), (103, .box 25 [.ref 104]), (105, .box 3 [.v (Enc.int .i64) (0 : Int)]), (104, .arr 3 (Enc.int .i64) ([] : (List Int)))]⟩) (fun x17 : Unit => ⟨[(2, .ptr 101 0), (3, .ptr 102 0), (4, .ptr 103 0), (5, .ptr 105 0)], [(101, .box 51 [.v (Enc.sl (Enc.sl (Enc.int .u64))) a0]), (102, .box 51 [.v (Enc.sl (Enc.sl (Enc.int .u64))) a1]), (103, .box 25 [.ref 104]), (105, .box 3 [.v (Enc.int .i64) (0 : Int)]), (104, .arr 3 (Enc.int .i64) ([] : (List Int)))]⟩) ho16 (Sw.Sub.mk id (.cons rfl (.of_eq rfl) (.cons rfl (.of_eq rfl) (.cons rfl (.of_eq rfl) (.cons rfl (.of_eq rfl) (.cons rfl (.of_eq rfl) (.cons rfl (.of_eq rfl) (.cons rfl (.of_eq rfl) .nil))))))) (.box rfl (.cons (.of_eq rfl) .nil) (.box rfl (.cons (.of_eq rfl) .nil) (.box rfl (.cons (.of_eq rfl) .nil) (.box rfl (.cons (.of_eq rfl) .nil) (.arr rfl .nil))))) rfl) ?_ ?_
  · intro x17 hy
    have h := hb16 _ hy
    refine W.seq ?_
    refine W.seq ?_
    obtain ⟨z22, hz22, h⟩ := bind_e h
    obtain ⟨z23, hz23, h⟩ := bind_e h
    refine W.dr2 (σ' := ⟨[(2, .ptr 101 0), (3, .ptr 102 0), (4, .ptr 103 0), (5, .ptr 105 0), (35, .v Enc.bool (cm .neq (z22.length : Int) (z23.length : Int)))], [(101, .box 51 [.v (Enc.sl (Enc.sl (Enc.int .u64))) a0]), (102, .box 51 [.v (Enc.sl (Enc.sl (Enc.int .u64))) a1]), (103, .box 25 [.ref 104]), (105, .box 3 [.v (Enc.int .i64) (0 : Int)]), (104, .arr 3 (Enc.int .i64) ([] : (List Int)))]⟩) 11 [0, 1, 3, 7, 15, 0, 32, 96, 224, 480, 1023] mixed (by exact (.cons (.none rfl) (JO.fieldPtr 0 rfl Try.runUnderlying51 rfl Try.sizeOf49 rfl rfl) rfl rfl (.cons (.none rfl) (JO.load rfl rfl rfl Try.isAgg49 Try.sizeOf49) rfl rfl (.cons (.none rfl) (JO.idx hz22 rfl rfl Try.runUnderlying49 Try.sizeOf131) rfl rfl (.cons (.none rfl) (JO.loadPst rfl Try.isAgg131 Try.sizeOf131) rfl rfl (.cons (.none rfl) (JO.len rfl Try.runUnderlying131) rfl rfl (.cons (.none rfl) (JO.fieldPtr 0 rfl Try.runUnderlying51 rfl Try.sizeOf49 rfl rfl) rfl rfl (.cons (.none rfl) (JO.load rfl rfl rfl Try.isAgg49 Try.sizeOf49) rfl rfl (.cons (.none rfl) (JO.idx hz23 rfl rfl Try.runUnderlying49 Try.sizeOf131) rfl rfl (.cons (.none rfl) (JO.loadPst rfl Try.isAgg131 Try.sizeOf131) rfl rfl (.cons (.none rfl) (JO.len rfl Try.runUnderlying131) rfl rfl (.cons (.none rfl) (JO.cmp rfl rfl rfl) rfl rfl .nil)))))))))))) (by exact (J.fin (Sw.Sub.mk id (.cons rfl (.of_eq rfl) (.cons rfl (.of_eq rfl) (.cons rfl (.of_eq rfl) (.cons rfl (.of_eq rfl) (.cons rfl (.of_eq rfl) .nil))))) (.box rfl (.cons (.of_eq rfl) .nil) (.box rfl (.cons (.of_eq rfl) .nil) (.box rfl (.cons (.of_eq rfl) .nil) (.box rfl (.cons (.of_eq rfl) .nil) (.arr rfl .nil))))) rfl))) rfl (by decide +kernel) (by decide +kernel) (by decide +kernel) (by kernel_rfl) ?_
    rcases Bool.eq_false_or_eq_true (cm .neq (z22.length : Int) (z23.length : Int)) with hc24 | hc24
    · replace h := cond_t hc24 h
      refine W.condT rfl hc24 ?_
      refine W.seq ?_
      refine W.reg (σ' := ⟨[(4, .ptr 103 0), (5, .ptr 105 0), (6, .v (Enc.err ET) (some (6 : Int)))], [(103, .box 25 [.v (Enc.sl (Enc.int .i64)) ([] : (List Int))]), (105, .box 3 [.v (Enc.int .i64) (0 : Int)])]⟩) (J.cons (.none rfl) (JO.mkErr Try.runUnderlying29 rfl) rfl rfl (J.mut (.none rfl) (JM.storeA rfl rfl rfl (.nilS (Enc.int .i64)) rfl rfl rfl Try.sizeOf25) (J.mut (.none rfl) (JM.store rfl rfl rfl rfl rfl rfl rfl Try.sizeOf3) (J.cons (.none rfl) (JO.assign rfl) rfl rfl (J.fin (Sw.Sub.mk id (.cons rfl (.of_eq rfl) (.cons rfl (.of_eq rfl) (.cons rfl (.of_eq rfl) .nil))) (.box rfl (.cons (.of_eq rfl) .nil) (.box rfl (.cons (.of_eq rfl) .nil) .nil)) rfl)))))) ?_
      refine W.ret ?_
      obtain rfl := Option.some.inj h
      exact XQ.sub (σ' := ⟨[(4, .ptr 90 0), (5, .ptr 91 0), (6, .v (Enc.err ET) (some (6 : Int)))], [(91, .box 3 [.v (Enc.int .i64) (0 : Int)]), (90, .box 25 [.v (Enc.sl (Enc.int .i64)) ([] : (List Int))])]⟩) (Sw.Sub.mk (rn [(90, 103), (91, 105)]) (.cons rfl (.of_eq rfl) (.cons rfl (.of_eq rfl) (.cons rfl (.of_eq rfl) .nil))) (.box rfl (.cons (.of_eq rfl) .nil) (.box rfl (.cons (.of_eq rfl) .nil) .nil)) rfl) (XQ.ret3 hF noR rfl (RV.cellAt rfl rfl rfl Try.isAgg25 Try.sizeOf25) (RV.cellAt rfl rfl rfl Try.isAgg3 Try.sizeOf3) (RV.tmp rfl) .nil rfl)
    · replace h := cond_f hc24 h
      refine W.condF rfl hc24 ?_
      refine W.skip ?_
      refine W.seq ?_
      refine W.reg (σ' := ⟨[(2, .ptr 101 0), (3, .ptr 102 0), (4, .ptr 103 0), (5, .ptr 105 0), (10, .ptr 114 0)], [(101, .box 51 [.v (Enc.sl (Enc.sl (Enc.int .u64))) a0]), (102, .box 51 [.v (Enc.sl (Enc.sl (Enc.int .u64))) a1]), (103, .box 25 [.ref 104]), (105, .box 3 [.v (Enc.int .i64) (0 : Int)]), (114, .box 202 [.v (Enc.cst .nilFunc rfl) ()]), (104, .arr 3 (Enc.int .i64) ([] : (List Int)))]⟩) (J.cons (.none rfl) (JO.alloc 114 Try.zeroValue202 rfl (.cons (Z.cst (u := .nilFunc) rfl) .nil) rfl) rfl rfl (J.fin (Sw.Sub.mk id (.cons rfl (.of_eq rfl) (.cons rfl (.of_eq rfl) (.cons rfl (.of_eq rfl) (.cons rfl (.of_eq rfl) (.cons rfl (.of_eq rfl) .nil))))) (.box rfl (.cons (.of_eq rfl) .nil) (.box rfl (.cons (.of_eq rfl) .nil) (.box rfl (.cons (.of_eq rfl) .nil) (.box rfl (.cons (.of_eq rfl) .nil) (.box rfl (.cons (.of_eq rfl) .nil) (.arr rfl .nil)))))) rfl))) ?_
      refine W.seq ?_
      refine W.reg (σ' := ⟨[(2, .ptr 101 0), (4, .ptr 103 0), (5, .ptr 105 0), (10, .ptr 114 0)], [(101, .box 51 [.v (Enc.sl (Enc.sl (Enc.int .u64))) a0]), (103, .box 25 [.ref 104]), (105, .box 3 [.v (Enc.int .i64) (0 : Int)]), (114, .box 202 [.fnc 133 [.ptr 105 0, .ptr 101 0, .ptr 102 0, .ptr 103 0, .ptr 114 0]]), (104, .arr 3 (Enc.int .i64) ([] : (List Int))), (102, .box 51 [.v (Enc.sl (Enc.sl (Enc.int .u64))) a1])]⟩) (J.cons (.none rfl) (JO.makeFunc (.cons (.dir rfl) (.cons (.dir rfl) (.cons (.dir rfl) (.cons (.dir rfl) (.cons (.dir rfl) .nil)))))) rfl rfl (J.mut (.none rfl) (JM.store rfl rfl rfl rfl rfl rfl rfl Try.sizeOf202) (J.fin (Sw.Sub.mk id (.cons rfl (.of_eq rfl) (.cons rfl (.of_eq rfl) (.cons rfl (.of_eq rfl) (.cons rfl (.of_eq rfl) .nil)))) (.box rfl (.cons (.of_eq rfl) .nil) (.box rfl (.cons (.of_eq rfl) .nil) (.box rfl (.cons (.of_eq rfl) .nil) (.box rfl (.cons (.of_eq rfl) .nil) (.arr rfl (.box rfl (.cons (.of_eq rfl) .nil) .nil)))))) rfl)))) ?_
      refine W.seq ?_
      obtain ⟨v25, hv25, h⟩ := bind_e h
      refine W.reg (σ' := ⟨[(4, .ptr 103 0), (5, .ptr 105 0)], [(103, .box 25 [.ref 115]), (105, .box 3 [.v (Enc.int .i64) v25.1]), (115, .arr 3 (Enc.int .i64) v25.2.2.2)]⟩) (J.cons (.none rfl) (JO.load rfl rfl rfl Try.isAgg202 Try.sizeOf202) rfl rfl (J.cons (.none rfl) (JO.fieldPtr 0 rfl Try.runUnderlying51 rfl Try.sizeOf49 rfl rfl) rfl rfl (J.cons (.none rfl) (JO.load rfl rfl rfl Try.isAgg49 Try.sizeOf49) rfl rfl (J.cons (.none rfl) (JO.len rfl Try.runUnderlying49) rfl rfl (J.cons (.none rfl) (JO.arith rfl rfl rfl) rfl rfl (J.mut (.none rfl) (JM.callMF (H := [105, 101, 102, 103, 104, 114]) (K := [105, 101, 102, 103, 114]) (swp [(9200, 105), (9300, 101), (9400, 102), (9500, 103), (9450, 104), (9600, 114), (9410, 115)]) (swp_inj _) rfl rfl (fun A => con_tree_Diff_1_io FUEL A hv25) Try.call133 (.cons (.dir rfl) (.cons (.dir rfl) .nil)) (fun A => (.box rfl (.box rfl (.box rfl (.box rfl (.arr rfl (.box rfl .nil))))))) (fun A => (.box rfl (.box rfl (.box rfl (.box rfl (.arr (.box rfl .nil rfl) rfl) rfl) rfl) rfl) rfl)) (fun _ => rfl) rfl rfl (fun _ => rfl) rfl rfl) (J.fin (Sw.Sub.mk id (.cons rfl (.of_eq rfl) (.cons rfl (.of_eq rfl) .nil)) (.box rfl (.cons (.of_eq rfl) .nil) (.box rfl (.cons (.of_eq rfl) .nil) (.arr rfl .nil))) rfl)))))))) ?_
      refine W.seq ?_
      refine W.dr2 (σ' := ⟨[(4, .ptr 103 0), (5, .ptr 105 0), (6, .v (Enc.err ET) (none : Option Int))], [(103, .box 25 [.ref 115]), (105, .box 3 [.v (Enc.int .i64) v25.1]), (115, .arr 3 (Enc.int .i64) v25.2.2.2)]⟩) 5 [0, 0, 1, 7, 15] mixed (by exact (.cons (.none rfl) (JO.load rfl rfl rfl Try.isAgg25 Try.sizeOf25) rfl rfl (.cons (.none rfl) (JO.load rfl rfl rfl Try.isAgg3 Try.sizeOf3) rfl rfl (JP2.store (.none rfl) rfl rfl rfl rfl rfl rfl rfl Try.sizeOf25 (JP2.store (.none rfl) rfl rfl rfl rfl rfl rfl rfl Try.sizeOf3 (.cons (.none rfl) (JO.assignNilE ET) rfl rfl .nil)))))) (by exact (J.fin (Sw.Sub.mk id (.cons rfl (.of_eq rfl) (.cons rfl (.of_eq rfl) (.cons rfl (.of_eq rfl) .nil))) (.box rfl (.cons (.of_eq rfl) .nil) (.box rfl (.cons (.of_eq rfl) .nil) (.arr rfl .nil))) rfl))) rfl (by decide +kernel) (by decide +kernel) (by decide +kernel) (by kernel_rfl) ?_
      refine W.ret ?_
      obtain rfl := Option.some.inj h
      exact XQ.sub (σ' := ⟨[(4, .ptr 90 0), (5, .ptr 91 0), (6, .v (Enc.err ET) (none : Option Int))], [(91, .box 3 [.v (Enc.int .i64) v25.1]), (90, .box 25 [.v (Enc.sl (Enc.int .i64)) v25.2.2.2])]⟩) (Sw.Sub.mk (rn [(90, 103), (91, 105)]) (.cons rfl (.of_eq rfl) (.cons rfl (.of_eq rfl) (.cons rfl (.of_eq rfl) .nil))) (.box rfl (.cons (.of_eq rfl) .nil) (.box rfl (.cons (.frz rfl rfl) .nil) .nil)) rfl) (XQ.ret3 hF noR rfl (RV.cellAt rfl rfl rfl Try.isAgg25 Try.sizeOf25) (RV.cellAt rfl rfl rfl Try.isAgg3 Try.sizeOf3) (RV.tmp rfl) .nil rfl)
  intro s11 r16 h
  refine W.seq ?_
  refine W.reg (σ' := ⟨[(2, .ptr 101 0), (3, .ptr 102 0), (4, .ptr 103 0), (5, .ptr 105 0), (13, .v (Enc.sl (Enc.one1 (Enc.sl (Enc.sl (Enc.int .u64))))) ([a0, a1] : (List ((List (List Int)))))), (14, .v (Enc.int .i64) (([a0, a1] : (List ((List (List Int))))).length : Int)), (15, .v (Enc.int .i64) s11), (16, .v Enc.bool (cm .lss s11 (([a0, a1] : (List ((List (List Int))))).length : Int)))], [(101, .box 51 [.v (Enc.sl (Enc.sl (Enc.int .u64))) a0]), (102, .box 51 [.v (Enc.sl (Enc.sl (Enc.int .u64))) a1]), (103, .box 25 [.ref 104]), (105, .box 3 [.v (Enc.int .i64) (0 : Int)]), (104, .arr 3 (Enc.int .i64) ([] : (List Int)))]⟩) (J.cons (.none rfl) (JO.cmp rfl rfl rfl) rfl rfl (J.fin (Sw.Sub.mk id (.cons rfl (.of_eq rfl) (.cons rfl (.of_eq rfl) (.cons rfl (.of_eq rfl) (.cons rfl (.of_eq rfl) (.cons rfl (.of_eq rfl) (.cons rfl (.of_eq rfl) (.cons rfl (.of_eq rfl) (.cons rfl (.of_eq rfl) .nil)))))))) (.box rfl (.cons (.of_eq rfl) .nil) (.box rfl (.cons (.of_eq rfl) .nil) (.box rfl (.cons (.of_eq rfl) .nil) (.box rfl (.cons (.of_eq rfl) .nil) (.arr rfl .nil))))) rfl))) ?_
  refine W.seq ?_
  rcases Bool.eq_false_or_eq_true (cm .lss s11 (([a0, a1] : (List ((List (List Int))))).length : Int)) with hc18 | hc18
  · replace h := cond_t hc18 h
    refine W.condT rfl hc18 ?_
    refine W.skip ?_
    refine W.seq ?_
    refine W.block ?_
    refine W.seq ?_
    obtain ⟨z19, hz19, h⟩ := bind_e h
    refine W.reg (σ' := ⟨[(2, .ptr 101 0), (3, .ptr 102 0), (4, .ptr 103 0), (5, .ptr 105 0), (8, .ptr 112 0), (13, .v (Enc.sl (Enc.one1 (Enc.sl (Enc.sl (Enc.int .u64))))) ([a0, a1] : (List ((List (List Int)))))), (14, .v (Enc.int .i64) (([a0, a1] : (List ((List (List Int))))).length : Int)), (15, .v (Enc.int .i64) s11)], [(101, .box 51 [.v (Enc.sl (Enc.sl (Enc.int .u64))) a0]), (102, .box 51 [.v (Enc.sl (Enc.sl (Enc.int .u64))) a1]), (103, .box 25 [.ref 104]), (105, .box 3 [.v (Enc.int .i64) (0 : Int)]), (112, .box 51 [.v (Enc.sl (Enc.sl (Enc.int .u64))) z19]), (104, .arr 3 (Enc.int .i64) ([] : (List Int)))]⟩) (J.cons (.none rfl) (JO.idx hz19 rfl rfl Try.runUnderlying201 Try.sizeOf51) rfl rfl (J.cons (.none rfl) (JO.loadPst rfl Try.isAgg51 Try.sizeOf51) rfl rfl (J.cons (.none rfl) (JO.alloc 112 Try.zeroValue51 rfl (.cons (Z.sl (Enc.sl (Enc.int .u64))) .nil) rfl) rfl rfl (J.mut (.none rfl) (JM.storeAll rfl rfl rfl rfl (.one1 (.one _ _)) Try.sizeOf51) (J.fin (Sw.Sub.mk id (.cons rfl (.of_eq rfl) (.cons rfl (.of_eq rfl) (.cons rfl (.of_eq rfl) (.cons rfl (.of_eq rfl) (.cons rfl (.of_eq rfl) (.cons rfl (.of_eq rfl) (.cons rfl (.of_eq rfl) (.cons rfl (.of_eq rfl) .nil)))))))) (.box rfl (.cons (.of_eq rfl) .nil) (.box rfl (.cons (.of_eq rfl) .nil) (.box rfl (.cons (.of_eq rfl) .nil) (.box rfl (.cons (.of_eq rfl) .nil) (.box rfl (.cons (.of_eq rfl) .nil) (.arr rfl .nil)))))) rfl)))))) ?_
    refine W.seq ?_
    obtain ⟨v20, hv20, h⟩ := bind_e h
    refine W.reg (σ' := ⟨[(2, .ptr 101 0), (3, .ptr 102 0), (4, .ptr 103 0), (5, .ptr 105 0), (9, .v (Enc.err ET) v20), (13, .v (Enc.sl (Enc.one1 (Enc.sl (Enc.sl (Enc.int .u64))))) ([a0, a1] : (List ((List (List Int)))))), (14, .v (Enc.int .i64) (([a0, a1] : (List ((List (List Int))))).length : Int)), (15, .v (Enc.int .i64) s11)], [(101, .box 51 [.v (Enc.sl (Enc.sl (Enc.int .u64))) a0]), (102, .box 51 [.v (Enc.sl (Enc.sl (Enc.int .u64))) a1]), (103, .box 25 [.ref 104]), (105, .box 3 [.v (Enc.int .i64) (0 : Int)]), (104, .arr 3 (Enc.int .i64) ([] : (List Int)))]⟩) (J.cons (.none rfl) (JO.loadAll rfl rfl (.one1 (.one _ _)) Try.isAgg51 Try.sizeOf51) rfl rfl (J.cons (.none rfl) (JO.call0 (con_tree_Check hv20) Try.call73 (.cons (.dir rfl) .nil)) rfl rfl (J.cons (.none rfl) (JO.assign rfl) rfl rfl (J.fin (Sw.Sub.mk id (.cons rfl (.of_eq rfl) (.cons rfl (.of_eq rfl) (.cons rfl (.of_eq rfl) (.cons rfl (.of_eq rfl) (.cons rfl (.of_eq rfl) (.cons rfl (.of_eq rfl) (.cons rfl (.of_eq rfl) (.cons rfl (.of_eq rfl) .nil)))))))) (.box rfl (.cons (.of_eq rfl) .nil) (.box rfl (.cons (.of_eq rfl) .nil) (.box rfl (.cons (.of_eq rfl) .nil) (.box rfl (.cons (.of_eq rfl) .nil) (.arr rfl .nil))))) rfl))))) ?_
    refine W.seq ?_
    refine W.reg (σ' := ⟨[(2, .ptr 101 0), (3, .ptr 102 0), (4, .ptr 103 0), (5, .ptr 105 0), (9, .v (Enc.err ET) v20), (13, .v (Enc.sl (Enc.one1 (Enc.sl (Enc.sl (Enc.int .u64))))) ([a0, a1] : (List ((List (List Int)))))), (14, .v (Enc.int .i64) (([a0, a1] : (List ((List (List Int))))).length : Int)), (15, .v (Enc.int .i64) s11), (22, .v Enc.bool (Option.isSome v20))], [(101, .box 51 [.v (Enc.sl (Enc.sl (Enc.int .u64))) a0]), (102, .box 51 [.v (Enc.sl (Enc.sl (Enc.int .u64))) a1]), (103, .box 25 [.ref 104]), (105, .box 3 [.v (Enc.int .i64) (0 : Int)]), (104, .arr 3 (Enc.int .i64) ([] : (List Int)))]⟩) (J.cons (.none rfl) (JO.move rfl) rfl rfl (J.cons (.none rfl) (JO.errNe Try.runUnderlying33 rfl) rfl rfl (J.fin (Sw.Sub.mk id (.cons rfl (.of_eq rfl) (.cons rfl (.of_eq rfl) (.cons rfl (.of_eq rfl) (.cons rfl (.of_eq rfl) (.cons rfl (.of_eq rfl) (.cons rfl (.of_eq rfl) (.cons rfl (.of_eq rfl) (.cons rfl (.of_eq rfl) (.cons rfl (.of_eq rfl) .nil))))))))) (.box rfl (.cons (.of_eq rfl) .nil) (.box rfl (.cons (.of_eq rfl) .nil) (.box rfl (.cons (.of_eq rfl) .nil) (.box rfl (.cons (.of_eq rfl) .nil) (.arr rfl .nil))))) rfl)))) ?_
    rcases Bool.eq_false_or_eq_true (Option.isSome v20) with hc21 | hc21
    · replace h := cond_t hc21 h
      refine W.condT rfl hc21 ?_
      refine W.seq ?_
      refine W.reg (σ' := ⟨[(4, .ptr 103 0), (5, .ptr 105 0), (6, .v (Enc.err ET) v20)], [(103, .box 25 [.v (Enc.sl (Enc.int .i64)) ([] : (List Int))]), (105, .box 3 [.v (Enc.int .i64) (0 : Int)])]⟩) (J.cons (.none rfl) (JO.move rfl) rfl rfl (J.mut (.none rfl) (JM.storeA rfl rfl rfl (.nilS (Enc.int .i64)) rfl rfl rfl Try.sizeOf25) (J.mut (.none rfl) (JM.store rfl rfl rfl rfl rfl rfl rfl Try.sizeOf3) (J.cons (.none rfl) (JO.assign rfl) rfl rfl (J.fin (Sw.Sub.mk id (.cons rfl (.of_eq rfl) (.cons rfl (.of_eq rfl) (.cons rfl (.of_eq rfl) .nil))) (.box rfl (.cons (.of_eq rfl) .nil) (.box rfl (.cons (.of_eq rfl) .nil) .nil)) rfl)))))) ?_
      refine W.ret ?_
      refine XQ.ret ?_
      obtain rfl := Option.some.inj h
      refine XQ.lret fun ho => ?_
      obtain rfl := hr16 _ ho
      exact XQ.sub (σ' := ⟨[(4, .ptr 90 0), (5, .ptr 91 0), (6, .v (Enc.err ET) v20)], [(91, .box 3 [.v (Enc.int .i64) (0 : Int)]), (90, .box 25 [.v (Enc.sl (Enc.int .i64)) ([] : (List Int))])]⟩) (Sw.Sub.mk (rn [(90, 103), (91, 105)]) (.cons rfl (.of_eq rfl) (.cons rfl (.of_eq rfl) (.cons rfl (.of_eq rfl) .nil))) (.box rfl (.cons (.of_eq rfl) .nil) (.box rfl (.cons (.of_eq rfl) .nil) .nil)) rfl) (XQ.ret3 hF noR rfl (RV.cellAt rfl rfl rfl Try.isAgg25 Try.sizeOf25) (RV.cellAt rfl rfl rfl Try.isAgg3 Try.sizeOf3) (RV.tmp rfl) .nil rfl)
    · replace h := cond_f hc21 h
      refine W.condF rfl hc21 ?_
      refine W.skip ?_
      refine W.fall ?_
      refine W.reg (σ' := ⟨[(2, .ptr 101 0), (3, .ptr 102 0), (4, .ptr 103 0), (5, .ptr 105 0), (13, .v (Enc.sl (Enc.one1 (Enc.sl (Enc.sl (Enc.int .u64))))) ([a0, a1] : (List ((List (List Int)))))), (14, .v (Enc.int .i64) (([a0, a1] : (List ((List (List Int))))).length : Int)), (15, .v (Enc.int .i64) (ar .add .i64 s11 (1 : Int)))], [(101, .box 51 [.v (Enc.sl (Enc.sl (Enc.int .u64))) a0]), (102, .box 51 [.v (Enc.sl (Enc.sl (Enc.int .u64))) a1]), (103, .box 25 [.ref 104]), (105, .box 3 [.v (Enc.int .i64) (0 : Int)]), (104, .arr 3 (Enc.int .i64) ([] : (List Int)))]⟩) (J.cons (.none rfl) (JO.arith rfl rfl rfl) rfl rfl (J.cons (.none rfl) (JO.move rfl) rfl rfl (J.fin (Sw.Sub.mk id (.cons rfl (.of_eq rfl) (.cons rfl (.of_eq rfl) (.cons rfl (.of_eq rfl) (.cons rfl (.of_eq rfl) (.cons rfl (.of_eq rfl) (.cons rfl (.of_eq rfl) (.cons rfl (.of_eq rfl) .nil))))))) (.box rfl (.cons (.of_eq rfl) .nil) (.box rfl (.cons (.of_eq rfl) .nil) (.box rfl (.cons (.of_eq rfl) .nil) (.box rfl (.cons (.of_eq rfl) .nil) (.arr rfl .nil))))) rfl)))) ?_
      obtain rfl := Option.some.inj h
      exact W.next (Sw.Sub.mk id (.cons rfl (.of_eq rfl) (.cons rfl (.of_eq rfl) (.cons rfl (.of_eq rfl) (.cons rfl (.of_eq rfl) (.cons rfl (.of_eq rfl) (.cons rfl (.of_eq rfl) (.cons rfl (.of_eq rfl) .nil))))))) (.box rfl (.cons (.of_eq rfl) .nil) (.box rfl (.cons (.of_eq rfl) .nil) (.box rfl (.cons (.of_eq rfl) .nil) (.box rfl (.cons (.of_eq rfl) .nil) (.arr rfl .nil))))) rfl)
  · replace h := cond_f hc18 h
    refine W.condF rfl hc18 ?_
    refine W.exit ?_
    obtain rfl := Option.some.inj h
    exact XQ.brk (Sw.Sub.mk id (.cons rfl (.of_eq rfl) (.cons rfl (.of_eq rfl) (.cons rfl (.of_eq rfl) (.cons rfl (.of_eq rfl) .nil)))) (.box rfl (.cons (.of_eq rfl) .nil) (.box rfl (.cons (.of_eq rfl) .nil) (.box rfl (.cons (.of_eq rfl) .nil) (.box rfl (.cons (.of_eq rfl) .nil) (.arr rfl .nil))))) rfl)
set_option maxRecDepth 100000 in
set_option maxHeartbeats 4000000 in
theorem con_ref_Is {a0 : (Option Int)} {a1 : Int} {r : Bool} (h : m_ref_Is a0 a1 = some r) :
    Con Try.prog 14 [.v (Enc.err ET) a0, .v (Enc.int .i64) a1] (.v Enc.bool r) [] := by
  refine Con.of Try.func14 rfl Try.ntmps14 rfl ?_
  intro S w hF
  unfold m_ref_Is at h
  refine W.seq ?_
  refine W.reg (σ' := ⟨[(0, .v (Enc.err ET) a0), (1, .v (Enc.int .i64) a1)], []⟩) (J.cons (.none rfl) (JO.assign rfl) rfl rfl (J.fin (Sw.Sub.mk id (.cons rfl (.of_eq rfl) (.cons rfl (.of_eq rfl) .nil)) .nil rfl))) ?_
  refine W.seq ?_
  refine W.seq ?_
  refine W.reg (σ' := ⟨[(0, .v (Enc.err ET) a0), (1, .v (Enc.int .i64) a1), (6, .v Enc.bool (Option.isNone a0))], []⟩) (J.cons (.none rfl) (JO.move rfl) rfl rfl (J.cons (.none rfl) (JO.errEq Try.runUnderlying33 rfl) rfl rfl (J.fin (Sw.Sub.mk id (.cons rfl (.of_eq rfl) (.cons rfl (.of_eq rfl) (.cons rfl (.of_eq rfl) .nil))) .nil rfl)))) ?_
  rcases Bool.eq_false_or_eq_true (Option.isNone a0) with hc1 | hc1
  · replace h := cond_t hc1 h
    refine W.condT rfl hc1 ?_
    refine W.seq ?_
    refine W.reg (σ' := ⟨[(4, .v Enc.bool (cm .eql a1 (0 : Int)))], []⟩) (J.cons (.none rfl) (JO.move rfl) rfl rfl (J.cons (.none rfl) (JO.cmp rfl rfl rfl) rfl rfl (J.cons (.none rfl) (JO.assign rfl) rfl rfl (J.fin (Sw.Sub.mk id (.cons rfl (.of_eq rfl) .nil) .nil rfl))))) ?_
    refine W.ret ?_
    obtain rfl := Option.some.inj h
    exact XQ.sub (σ' := ⟨[(4, .v Enc.bool (cm .eql a1 (0 : Int)))], []⟩) (Sw.Sub.mk id (.cons rfl (.of_eq rfl) .nil) .nil rfl) (XQ.ret1 hF noR rfl (RV.tmp rfl) .nil rfl)
  · replace h := cond_f hc1 h
    refine W.condF rfl hc1 ?_
    refine W.skip ?_
    refine W.seq ?_
    obtain ⟨x3, hx, h⟩ := bind_e h
    refine W.reg (σ' := ⟨[(4, .v Enc.bool x3)], []⟩) ?_ ?_
    · rcases Bool.eq_false_or_eq_true (cm .neq a1 (0 : Int)) with hc4 | hc4
      · replace hx := cond_t hc4 hx
        obtain rfl := Option.some.inj hx
        exact (J.cons (.none rfl) (JO.move rfl) rfl rfl (J.cons (.none rfl) (JO.cmp rfl rfl rfl) rfl rfl (J.cons (.none rfl) (JO.move rfl) rfl rfl (J.cons (GK.met 11 rfl rfl rfl hc4) (JO.move rfl) rfl rfl (J.cons (GK.met 11 rfl rfl rfl hc4) (JO.move rfl) rfl rfl (J.cons (GK.met 11 rfl rfl rfl hc4) (JO.mkErr Try.runUnderlying29 rfl) rfl rfl (J.cons (GK.met 11 rfl rfl rfl hc4) (JO.errEq2 Try.runUnderlying33 Try.runUnderlying29 Try.typeInfo29 rfl rfl rfl) rfl rfl (J.cons (.none rfl) (JO.pT hc4 rfl rfl) rfl rfl (J.cons (.none rfl) (JO.assign rfl) rfl rfl (J.fin (Sw.Sub.mk id (.cons rfl (.of_eq rfl) .nil) .nil rfl)))))))))))
      · replace hx := cond_f hc4 hx
        obtain rfl := Option.some.inj hx
        exact (J.cons (.none rfl) (JO.move rfl) rfl rfl (J.cons (.none rfl) (JO.cmp rfl rfl rfl) rfl rfl (J.cons (.none rfl) (JO.move rfl) rfl rfl (J.left (GK.unmet 11 rfl rfl rfl hc4) rfl (J.left (GK.unmet 11 rfl rfl rfl hc4) rfl (J.left (GK.unmet 11 rfl rfl rfl hc4) rfl (J.left (GK.unmet 11 rfl rfl rfl hc4) rfl (J.cons (.none rfl) (JO.pF hc4 rfl rfl) rfl rfl (J.cons (.none rfl) (JO.assign rfl) rfl rfl (J.fin (Sw.Sub.mk id (.cons rfl (.of_eq rfl) .nil) .nil rfl)))))))))))
    refine W.ret ?_
    obtain rfl := Option.some.inj h
    exact XQ.sub (σ' := ⟨[(4, .v Enc.bool x3)], []⟩) (Sw.Sub.mk id (.cons rfl (.of_eq rfl) .nil) .nil rfl) (XQ.ret1 hF noR rfl (RV.tmp rfl) .nil rfl)
set_option maxRecDepth 100000 in
set_option maxHeartbeats 4000000 in
theorem con_ref_SameInts {a0 : (List Int)} {a1 : (List Int)} {r : Bool} (h : m_ref_SameInts a0 a1 = some r) :
    Con Try.prog 83 [.v (Enc.sl (Enc.int .i64)) a0, .v (Enc.sl (Enc.int .i64)) a1] (.v Enc.bool r) [] := by
  refine Con.of Try.func83 rfl Try.ntmps83 rfl ?_
  intro S w hF
  unfold m_ref_SameInts at h
  refine W.seq ?_
  refine W.reg (σ' := ⟨[(0, .v (Enc.sl (Enc.int .i64)) a0), (1, .v (Enc.sl (Enc.int .i64)) a1)], []⟩) (J.cons (.none rfl) (JO.assign rfl) rfl rfl (J.fin (Sw.Sub.mk id (.cons rfl (.of_eq rfl) (.cons rfl (.of_eq rfl) .nil)) .nil rfl))) ?_
  refine W.seq ?_
  refine W.seq ?_
  refine W.reg (σ' := ⟨[(0, .v (Enc.sl (Enc.int .i64)) a0), (1, .v (Enc.sl (Enc.int .i64)) a1), (10, .v Enc.bool (cm .neq (a0.length : Int) (a1.length : Int)))], []⟩) (J.cons (.none rfl) (JO.move rfl) rfl rfl (J.cons (.none rfl) (JO.len rfl Try.runUnderlying25) rfl rfl (J.cons (.none rfl) (JO.move rfl) rfl rfl (J.cons (.none rfl) (JO.len rfl Try.runUnderlying25) rfl rfl (J.cons (.none rfl) (JO.cmp rfl rfl rfl) rfl rfl (J.fin (Sw.Sub.mk id (.cons rfl (.of_eq rfl) (.cons rfl (.of_eq rfl) (.cons rfl (.of_eq rfl) .nil))) .nil rfl))))))) ?_
  rcases Bool.eq_false_or_eq_true (cm .neq (a0.length : Int) (a1.length : Int)) with hc1 | hc1
  · replace h := cond_t hc1 h
    refine W.condT rfl hc1 ?_
    refine W.seq ?_
    refine W.reg (σ' := ⟨[(4, .v Enc.bool false)], []⟩) (J.cons (.none rfl) (JO.assign rfl) rfl rfl (J.fin (Sw.Sub.mk id (.cons rfl (.of_eq rfl) .nil) .nil rfl))) ?_
    refine W.ret ?_
    obtain rfl := Option.some.inj h
    exact XQ.sub (σ' := ⟨[(4, .v Enc.bool false)], []⟩) (Sw.Sub.mk id (.cons rfl (.of_eq rfl) .nil) .nil rfl) (XQ.ret1 hF noR rfl (RV.tmp rfl) .nil rfl)
  · replace h := cond_f hc1 h
    refine W.condF rfl hc1 ?_
    refine W.skip ?_
    refine W.seq ?_
    refine W.seq ?_
    refine W.reg (σ' := ⟨[(0, .v (Enc.sl (Enc.int .i64)) a0), (1, .v (Enc.sl (Enc.int .i64)) a1), (5, .v (Enc.int .i64) (0 : Int))], []⟩) (J.cons (.none rfl) (JO.assign rfl) rfl rfl (J.fin (Sw.Sub.mk id (.cons rfl (.of_eq rfl) (.cons rfl (.of_eq rfl) (.cons rfl (.of_eq rfl) .nil))) .nil rfl))) ?_
    obtain ⟨o17, ho17, hb17, hr17⟩ := lp_elim h
    refine W.lp (σs := fun s12 : Int => ⟨[(0, .v (Enc.sl (Enc.int .i64)) a0), (1, .v (Enc.sl (Enc.int .i64)) a1), (5, .v (Enc.int .i64) s12)], []⟩) (fun x18 : Unit => ⟨[], []⟩) ho17 (Sw.Sub.mk id (.cons rfl (.of_eq rfl) (.cons rfl (.of_eq rfl) (.cons rfl (.of_eq rfl) .nil))) .nil rfl) ?_ ?_
    · intro x18 hy
      have h := hb17 _ hy
      refine W.seq ?_
      refine W.reg (σ' := ⟨[(4, .v Enc.bool true)], []⟩) (J.cons (.none rfl) (JO.assign rfl) rfl rfl (J.fin (Sw.Sub.mk id (.cons rfl (.of_eq rfl) .nil) .nil rfl))) ?_
      refine W.ret ?_
      obtain rfl := Option.some.inj h
      exact XQ.sub (σ' := ⟨[(4, .v Enc.bool true)], []⟩) (Sw.Sub.mk id (.cons rfl (.of_eq rfl) .nil) .nil rfl) (XQ.ret1 hF noR rfl (RV.tmp rfl) .nil rfl)
    intro s12 r17 h
    refine W.seq ?_
    refine W.seq ?_
    refine W.reg (σ' := ⟨[(0, .v (Enc.sl (Enc.int .i64)) a0), (1, .v (Enc.sl (Enc.int .i64)) a1), (5, .v (Enc.int .i64) s12), (14, .v Enc.bool (cm .lss s12 (a0.length : Int)))], []⟩) (J.cons (.none rfl) (JO.move rfl) rfl rfl (J.cons (.none rfl) (JO.move rfl) rfl rfl (J.cons (.none rfl) (JO.len rfl Try.runUnderlying25) rfl rfl (J.cons (.none rfl) (JO.cmp rfl rfl rfl) rfl rfl (J.fin (Sw.Sub.mk id (.cons rfl (.of_eq rfl) (.cons rfl (.of_eq rfl) (.cons rfl (.of_eq rfl) (.cons rfl (.of_eq rfl) .nil)))) .nil rfl)))))) ?_
    rcases Bool.eq_false_or_eq_true (cm .lss s12 (a0.length : Int)) with hc19 | hc19
    · replace h := cond_t hc19 h
      refine W.condT rfl hc19 ?_
      refine W.skip ?_
      refine W.seq ?_
      refine W.block ?_
      refine W.seq ?_
      obtain ⟨z20, hz20, h⟩ := bind_e h
      obtain ⟨z21, hz21, h⟩ := bind_e h
      refine W.dr2 (σ' := ⟨[(0, .v (Enc.sl (Enc.int .i64)) a0), (1, .v (Enc.sl (Enc.int .i64)) a1), (5, .v (Enc.int .i64) s12), (25, .v Enc.bool (cm .neq z20 z21))], []⟩) 9 [0, 0, 3, 7, 0, 0, 48, 112, 255] mixed (by exact (.cons (.none rfl) (JO.move rfl) rfl rfl (.cons (.none rfl) (JO.move rfl) rfl rfl (.cons (.none rfl) (JO.idx hz20 rfl rfl Try.runUnderlying25 Try.sizeOf3) rfl rfl (.cons (.none rfl) (JO.loadPst rfl Try.isAgg3 Try.sizeOf3) rfl rfl (.cons (.none rfl) (JO.move rfl) rfl rfl (.cons (.none rfl) (JO.move rfl) rfl rfl (.cons (.none rfl) (JO.idx hz21 rfl rfl Try.runUnderlying25 Try.sizeOf3) rfl rfl (.cons (.none rfl) (JO.loadPst rfl Try.isAgg3 Try.sizeOf3) rfl rfl (.cons (.none rfl) (JO.cmp rfl rfl rfl) rfl rfl .nil)))))))))) (by exact (J.fin (Sw.Sub.mk id (.cons rfl (.of_eq rfl) (.cons rfl (.of_eq rfl) (.cons rfl (.of_eq rfl) (.cons rfl (.of_eq rfl) .nil)))) .nil rfl))) rfl (by decide +kernel) (by decide +kernel) (by decide +kernel) (by kernel_rfl) ?_
      rcases Bool.eq_false_or_eq_true (cm .neq z20 z21) with hc22 | hc22
      · replace h := cond_t hc22 h
        refine W.condT rfl hc22 ?_
        refine W.seq ?_
        refine W.reg (σ' := ⟨[(4, .v Enc.bool false)], []⟩) (J.cons (.none rfl) (JO.assign rfl) rfl rfl (J.fin (Sw.Sub.mk id (.cons rfl (.of_eq rfl) .nil) .nil rfl))) ?_
        refine W.ret ?_
        refine XQ.ret ?_
        obtain rfl := Option.some.inj h
        refine XQ.lret fun ho => ?_
        obtain rfl := hr17 _ ho
        exact XQ.sub (σ' := ⟨[(4, .v Enc.bool false)], []⟩) (Sw.Sub.mk id (.cons rfl (.of_eq rfl) .nil) .nil rfl) (XQ.ret1 hF noR rfl (RV.tmp rfl) .nil rfl)
      · replace h := cond_f hc22 h
        refine W.condF rfl hc22 ?_
        refine W.skip ?_
        refine W.fall ?_
        refine W.reg (σ' := ⟨[(0, .v (Enc.sl (Enc.int .i64)) a0), (1, .v (Enc.sl (Enc.int .i64)) a1), (5, .v (Enc.int .i64) (ar .add .i64 s12 (1 : Int)))], []⟩) (J.cons (.none rfl) (JO.move rfl) rfl rfl (J.cons (.none rfl) (JO.arith rfl rfl rfl) rfl rfl (J.cons (.none rfl) (JO.assign rfl) rfl rfl (J.fin (Sw.Sub.mk id (.cons rfl (.of_eq rfl) (.cons rfl (.of_eq rfl) (.cons rfl (.of_eq rfl) .nil))) .nil rfl))))) ?_
        obtain rfl := Option.some.inj h
        exact W.next (Sw.Sub.mk id (.cons rfl (.of_eq rfl) (.cons rfl (.of_eq rfl) (.cons rfl (.of_eq rfl) .nil))) .nil rfl)
    · replace h := cond_f hc19 h
      refine W.condF rfl hc19 ?_
      refine W.exit ?_
      obtain rfl := Option.some.inj h
      exact XQ.brk (Sw.Sub.mk id .nil .nil rfl)
set_option maxRecDepth 100000 in
set_option maxHeartbeats 4000000 in
theorem con_law_TreeDiffs {a0 : ((List (List Int)))} {a1 : ((List (List Int)))} {r : Bool} (h : m_law_TreeDiffs a0 a1 = some r) :
    Con Try.prog 32 [.v (Enc.one1 (Enc.sl (Enc.sl (Enc.int .u64)))) a0, .v (Enc.one1 (Enc.sl (Enc.sl (Enc.int .u64)))) a1] (.v Enc.bool r) [] := by
  refine Con.of Try.func32 rfl Try.ntmps32 rfl ?_
  intro S w hF
  unfold m_law_TreeDiffs at h
  refine W.seq ?_
  refine W.reg (σ' := ⟨[(2, .ptr 101 0), (3, .ptr 102 0)], [(101, .box 51 [.v (Enc.sl (Enc.sl (Enc.int .u64))) a0]), (102, .box 51 [.v (Enc.sl (Enc.sl (Enc.int .u64))) a1])]⟩) (J.cons (.none rfl) (JO.box 101 rfl (.one1 (.one _ _)) rfl) rfl rfl (J.cons (.none rfl) (JO.box 102 rfl (.one1 (.one _ _)) rfl) rfl rfl (J.cons (.none rfl) (JO.assign rfl) rfl rfl (J.fin (Sw.Sub.mk id (.cons rfl (.of_eq rfl) (.cons rfl (.of_eq rfl) .nil)) (.box rfl (.cons (.of_eq rfl) .nil) (.box rfl (.cons (.of_eq rfl) .nil) .nil)) rfl))))) ?_
  refine W.seq ?_
  refine W.seq ?_
  obtain ⟨x4, hx, h⟩ := bind_e h
  refine W.reg (σ' := ⟨[(2, .ptr 101 0), (3, .ptr 102 0), (16, .v Enc.bool x4)], [(101, .box 51 [.v (Enc.sl (Enc.sl (Enc.int .u64))) a0]), (102, .box 51 [.v (Enc.sl (Enc.sl (Enc.int .u64))) a1])]⟩) ?_ ?_
  · obtain ⟨v5, hv5, hx⟩ := bind_e hx
    rcases Bool.eq_false_or_eq_true v5 with hc6 | hc6
    · replace hx := cond_t hc6 hx
      obtain rfl := Option.some.inj hx
      exact (J.cons (.none rfl) (JO.loadAll rfl rfl (.one1 (.one _ _)) Try.isAgg51 Try.sizeOf51) rfl rfl (J.cons (.none rfl) (JO.call0 (con_law_hugeTree hv5) Try.call79 (.cons (.dir rfl) .nil)) rfl rfl (J.cons (.none rfl) (JO.move rfl) rfl rfl (J.left (GK.unmet 13 rfl rfl rfl hc6) rfl (J.left (GK.unmet 13 rfl rfl rfl hc6) rfl (J.cons (.none rfl) (JO.pT hc6 rfl rfl) rfl rfl (J.fin (Sw.Sub.mk id (.cons rfl (.of_eq rfl) (.cons rfl (.of_eq rfl) (.cons rfl (.of_eq rfl) .nil))) (.box rfl (.cons (.of_eq rfl) .nil) (.box rfl (.cons (.of_eq rfl) .nil) .nil)) rfl))))))))
    · replace hx := cond_f hc6 hx
      obtain ⟨v7, hv7, hx⟩ := bind_e hx
      obtain rfl := Option.some.inj hx
      exact (J.cons (.none rfl) (JO.loadAll rfl rfl (.one1 (.one _ _)) Try.isAgg51 Try.sizeOf51) rfl rfl (J.cons (.none rfl) (JO.call0 (con_law_hugeTree hv5) Try.call79 (.cons (.dir rfl) .nil)) rfl rfl (J.cons (.none rfl) (JO.move rfl) rfl rfl (J.cons (GK.met 13 rfl rfl rfl hc6) (JO.loadAll rfl rfl (.one1 (.one _ _)) Try.isAgg51 Try.sizeOf51) rfl rfl (J.cons (GK.met 13 rfl rfl rfl hc6) (JO.call0 (con_law_hugeTree hv7) Try.call79 (.cons (.dir rfl) .nil)) rfl rfl (J.cons (.none rfl) (JO.pF hc6 rfl rfl) rfl rfl (J.fin (Sw.Sub.mk id (.cons rfl (.of_eq rfl) (.cons rfl (.of_eq rfl) (.cons rfl (.of_eq rfl) .nil))) (.box rfl (.cons (.of_eq rfl) .nil) (.box rfl (.cons (.of_eq rfl) .nil) .nil)) rfl))))))))
  rcases Bool.eq_false_or_eq_true x4 with hc8 | hc8
  · replace h := cond_t hc8 h
    refine W.condT rfl hc8 ?_
    refine W.seq ?_
    refine W.reg (σ' := ⟨[(4, .v Enc.bool true)], []⟩) (J.cons (.none rfl) (JO.assign rfl) rfl rfl (J.fin (Sw.Sub.mk id (.cons rfl (.of_eq rfl) .nil) .nil rfl))) ?_
    refine W.ret ?_
    obtain rfl := Option.some.inj h
    exact XQ.sub (σ' := ⟨[(4, .v Enc.bool true)], []⟩) (Sw.Sub.mk id (.cons rfl (.of_eq rfl) .nil) .nil rfl) (XQ.ret1 hF noR rfl (RV.tmp rfl) .nil rfl)
  · replace h := cond_f hc8 h
    refine W.condF rfl hc8 ?_
    refine W.skip ?_
    refine W.seq ?_
    obtain ⟨v9, hv9, h⟩ := bind_e h
    refine W.reg (σ' := ⟨[(2, .ptr 101 0), (3, .ptr 102 0), (5, .v (Enc.int .i64) v9)], [(101, .box 51 [.v (Enc.sl (Enc.sl (Enc.int .u64))) a0]), (102, .box 51 [.v (Enc.sl (Enc.sl (Enc.int .u64))) a1])]⟩) (J.cons (.none rfl) (JO.loadAll rfl rfl (.one1 (.one _ _)) Try.isAgg51 Try.sizeOf51) rfl rfl (J.cons (.none rfl) (JO.call0 (con_ref_TreeMay hv9) Try.call80 (.cons (.dir rfl) .nil)) rfl rfl (J.cons (.none rfl) (JO.assign rfl) rfl rfl (J.fin (Sw.Sub.mk id (.cons rfl (.of_eq rfl) (.cons rfl (.of_eq rfl) (.cons rfl (.of_eq rfl) .nil))) (.box rfl (.cons (.of_eq rfl) .nil) (.box rfl (.cons (.of_eq rfl) .nil) .nil)) rfl))))) ?_
    refine W.seq ?_
    refine W.seq ?_
    refine W.reg (σ' := ⟨[(2, .ptr 101 0), (3, .ptr 102 0), (5, .v (Enc.int .i64) v9), (20, .v Enc.bool (cm .eql v9 (0 : Int)))], [(101, .box 51 [.v (Enc.sl (Enc.sl (Enc.int .u64))) a0]), (102, .box 51 [.v (Enc.sl (Enc.sl (Enc.int .u64))) a1])]⟩) (J.cons (.none rfl) (JO.move rfl) rfl rfl (J.cons (.none rfl) (JO.cmp rfl rfl rfl) rfl rfl (J.fin (Sw.Sub.mk id (.cons rfl (.of_eq rfl) (.cons rfl (.of_eq rfl) (.cons rfl (.of_eq rfl) (.cons rfl (.of_eq rfl) .nil)))) (.box rfl (.cons (.of_eq rfl) .nil) (.box rfl (.cons (.of_eq rfl) .nil) .nil)) rfl)))) ?_
    obtain ⟨k12, hk12, h⟩ := jp_elim h
    refine W.jn (fun x13 : Int => ⟨[(2, .ptr 101 0), (3, .ptr 102 0), (5, .v (Enc.int .i64) x13)], [(101, .box 51 [.v (Enc.sl (Enc.sl (Enc.int .u64))) a0]), (102, .box 51 [.v (Enc.sl (Enc.sl (Enc.int .u64))) a1])]⟩) (fun x => k12 x = some r) rfl ?_ ?_ ?_
    · intro x13 h
      rw [hk12] at h
      refine W.seq ?_
      refine W.seq ?_
      obtain ⟨x18, hx, h⟩ := bind_e h
      refine W.mg (σ' := ⟨[(2, .ptr 101 0), (3, .ptr 102 0), (5, .v (Enc.int .i64) x13), (37, .v Enc.bool x18)], [(101, .box 51 [.v (Enc.sl (Enc.sl (Enc.int .u64))) a0]), (102, .box 51 [.v (Enc.sl (Enc.sl (Enc.int .u64))) a1])]⟩) ?_ ?_
      · intro hk
        rcases Bool.eq_false_or_eq_true (cm .eql x13 (0 : Int)) with hc19 | hc19
        · replace hx := cond_t hc19 hx
          obtain ⟨z20, hz20, hx⟩ := bind_e hx
          obtain ⟨z21, hz21, hx⟩ := bind_e hx
          obtain rfl := Option.some.inj hx
          exact W.dr2 (σ' := ⟨[(2, .ptr 101 0), (3, .ptr 102 0), (5, .v (Enc.int .i64) x13), (37, .v Enc.bool (cm .neq (z20.length : Int) (z21.length : Int)))], [(101, .box 51 [.v (Enc.sl (Enc.sl (Enc.int .u64))) a0]), (102, .box 51 [.v (Enc.sl (Enc.sl (Enc.int .u64))) a1])]⟩) 15 [0, 1, 3, 7, 15, 31, 63, 127, 7, 263, 775, 1799, 3847, 8191, 16383] mixed (by exact (.cons (.none rfl) (JO.move rfl) rfl rfl (.cons (.none rfl) (JO.cmp rfl rfl rfl) rfl rfl (.cons (.none rfl) (JO.move rfl) rfl rfl (.cons (GK.met 25 rfl rfl rfl hc19) (JO.fieldPtr 0 rfl Try.runUnderlying51 rfl Try.sizeOf49 rfl rfl) rfl rfl (.cons (GK.met 25 rfl rfl rfl hc19) (JO.load rfl rfl rfl Try.isAgg49 Try.sizeOf49) rfl rfl (.cons (GK.met 25 rfl rfl rfl hc19) (JO.idx hz20 rfl rfl Try.runUnderlying49 Try.sizeOf131) rfl rfl (.cons (GK.met 25 rfl rfl rfl hc19) (JO.loadPst rfl Try.isAgg131 Try.sizeOf131) rfl rfl (.cons (GK.met 25 rfl rfl rfl hc19) (JO.len rfl Try.runUnderlying131) rfl rfl (.cons (GK.met 25 rfl rfl rfl hc19) (JO.fieldPtr 0 rfl Try.runUnderlying51 rfl Try.sizeOf49 rfl rfl) rfl rfl (.cons (GK.met 25 rfl rfl rfl hc19) (JO.load rfl rfl rfl Try.isAgg49 Try.sizeOf49) rfl rfl (.cons (GK.met 25 rfl rfl rfl hc19) (JO.idx hz21 rfl rfl Try.runUnderlying49 Try.sizeOf131) rfl rfl (.cons (GK.met 25 rfl rfl rfl hc19) (JO.loadPst rfl Try.isAgg131 Try.sizeOf131) rfl rfl (.cons (GK.met 25 rfl rfl rfl hc19) (JO.len rfl Try.runUnderlying131) rfl rfl (.cons (GK.met 25 rfl rfl rfl hc19) (JO.cmp rfl rfl rfl) rfl rfl (.cons (.none rfl) (JO.pT hc19 rfl rfl) rfl rfl .nil)))))))))))))))) (by exact (J.fin (Sw.Sub.mk id (.cons rfl (.of_eq rfl) (.cons rfl (.of_eq rfl) (.cons rfl (.of_eq rfl) (.cons rfl (.of_eq rfl) .nil)))) (.box rfl (.cons (.of_eq rfl) .nil) (.box rfl (.cons (.of_eq rfl) .nil) .nil)) rfl))) rfl (by decide +kernel) (by decide +kernel) (by decide +kernel) (by kernel_rfl) hk
        · replace hx := cond_f hc19 hx
          obtain rfl := Option.some.inj hx
          exact W.dr2 (σ' := ⟨[(2, .ptr 101 0), (3, .ptr 102 0), (5, .v (Enc.int .i64) x13), (37, .v Enc.bool false)], [(101, .box 51 [.v (Enc.sl (Enc.sl (Enc.int .u64))) a0]), (102, .box 51 [.v (Enc.sl (Enc.sl (Enc.int .u64))) a1])]⟩) 15 [0, 1, 3, 7, 15, 31, 63, 127, 7, 263, 775, 1799, 3847, 8191, 16383] mixed (by exact (.cons (.none rfl) (JO.move rfl) rfl rfl (.cons (.none rfl) (JO.cmp rfl rfl rfl) rfl rfl (.cons (.none rfl) (JO.move rfl) rfl rfl (.left (GK.unmet 25 rfl rfl rfl hc19) rfl (.left (GK.unmet 25 rfl rfl rfl hc19) rfl (.left (GK.unmet 25 rfl rfl rfl hc19) rfl (.left (GK.unmet 25 rfl rfl rfl hc19) rfl (.left (GK.unmet 25 rfl rfl rfl hc19) rfl (.left (GK.unmet 25 rfl rfl rfl hc19) rfl (.left (GK.unmet 25 rfl rfl rfl hc19) rfl (.left (GK.unmet 25 rfl rfl rfl hc19) rfl (.left (GK.unmet 25 rfl rfl rfl hc19) rfl (.left (GK.unmet 25 rfl rfl rfl hc19) rfl (.left (GK.unmet 25 rfl rfl rfl hc19) rfl (.cons (.none rfl) (JO.pF hc19 rfl rfl) rfl rfl .nil)))))))))))))))) (by exact (J.fin (Sw.Sub.mk id (.cons rfl (.of_eq rfl) (.cons rfl (.of_eq rfl) (.cons rfl (.of_eq rfl) (.cons rfl (.of_eq rfl) .nil)))) (.box rfl (.cons (.of_eq rfl) .nil) (.box rfl (.cons (.of_eq rfl) .nil) .nil)) rfl))) rfl (by decide +kernel) (by decide +kernel) (by decide +kernel) (by kernel_rfl) hk
      obtain ⟨k23, hk23, h⟩ := jp_elim h
      refine W.jn (fun x24 : Int => ⟨[(2, .ptr 101 0), (3, .ptr 102 0), (5, .v (Enc.int .i64) x24)], [(101, .box 51 [.v (Enc.sl (Enc.sl (Enc.int .u64))) a0]), (102, .box 51 [.v (Enc.sl (Enc.sl (Enc.int .u64))) a1])]⟩) (fun x => k23 x = some r) rfl ?_ ?_ ?_
      · intro x24 h
        rw [hk23] at h
        refine W.seq ?_
        refine W.reg (σ' := ⟨[(2, .ptr 101 0), (3, .ptr 102 0), (5, .v (Enc.int .i64) x24), (6, .v (Enc.sl (Enc.int .i64)) ([] : (List Int)))], [(101, .box 51 [.v (Enc.sl (Enc.sl (Enc.int .u64))) a0]), (102, .box 51 [.v (Enc.sl (Enc.sl (Enc.int .u64))) a1])]⟩) (J.cons (.none rfl) (JO.assignNil (Enc.int .i64)) rfl rfl (J.fin (Sw.Sub.mk id (.cons rfl (.of_eq rfl) (.cons rfl (.of_eq rfl) (.cons rfl (.of_eq rfl) (.cons rfl (.of_eq rfl) .nil)))) (.box rfl (.cons (.of_eq rfl) .nil) (.box rfl (.cons (.of_eq rfl) .nil) .nil)) rfl))) ?_
        refine W.seq ?_
        refine W.reg (σ' := ⟨[(2, .ptr 101 0), (3, .ptr 102 0), (5, .v (Enc.int .i64) x24), (6, .v (Enc.sl (Enc.int .i64)) ([] : (List Int))), (7, .v (Enc.int .i64) (0 : Int))], [(101, .box 51 [.v (Enc.sl (Enc.sl (Enc.int .u64))) a0]), (102, .box 51 [.v (Enc.sl (Enc.sl (Enc.int .u64))) a1])]⟩) (J.cons (.none rfl) (JO.assign rfl) rfl rfl (J.fin (Sw.Sub.mk id (.cons rfl (.of_eq rfl) (.cons rfl (.of_eq rfl) (.cons rfl (.of_eq rfl) (.cons rfl (.of_eq rfl) (.cons rfl (.of_eq rfl) .nil))))) (.box rfl (.cons (.of_eq rfl) .nil) (.box rfl (.cons (.of_eq rfl) .nil) .nil)) rfl))) ?_
        refine W.seq ?_
        refine W.seq ?_
        refine W.reg (σ' := ⟨[(2, .ptr 101 0), (3, .ptr 102 0), (5, .v (Enc.int .i64) x24), (6, .v (Enc.sl (Enc.int .i64)) ([] : (List Int))), (7, .v (Enc.int .i64) (0 : Int)), (39, .v Enc.bool (cm .eql x24 (0 : Int)))], [(101, .box 51 [.v (Enc.sl (Enc.sl (Enc.int .u64))) a0]), (102, .box 51 [.v (Enc.sl (Enc.sl (Enc.int .u64))) a1])]⟩) (J.cons (.none rfl) (JO.move rfl) rfl rfl (J.cons (.none rfl) (JO.cmp rfl rfl rfl) rfl rfl (J.fin (Sw.Sub.mk id (.cons rfl (.of_eq rfl) (.cons rfl (.of_eq rfl) (.cons rfl (.of_eq rfl) (.cons rfl (.of_eq rfl) (.cons rfl (.of_eq rfl) (.cons rfl (.of_eq rfl) .nil)))))) (.box rfl (.cons (.of_eq rfl) .nil) (.box rfl (.cons (.of_eq rfl) .nil) .nil)) rfl)))) ?_
        obtain ⟨k27, hk27, h⟩ := jp_elim h
        refine W.jn (fun x28 : (List Int) × Int => ⟨[(2, .ptr 101 0), (3, .ptr 102 0), (5, .v (Enc.int .i64) x24), (6, .v (Enc.sl (Enc.int .i64)) x28.1), (7, .v (Enc.int .i64) x28.2)], [(101, .box 51 [.v (Enc.sl (Enc.sl (Enc.int .u64))) a0]), (102, .box 51 [.v (Enc.sl (Enc.sl (Enc.int .u64))) a1])]⟩) (fun x => k27 x = some r) rfl ?_ ?_ ?_
        · intro x28 h
          rw [hk27] at h
          refine W.seq ?_
          obtain ⟨v30, hv30, h⟩ := bind_e h
          refine W.reg (σ' := ⟨[(5, .v (Enc.int .i64) x24), (6, .v (Enc.sl (Enc.int .i64)) x28.1), (7, .v (Enc.int .i64) x28.2), (8, .v (Enc.sl (Enc.int .i64)) v30.1), (9, .v (Enc.int .i64) v30.2.1), (10, .v (Enc.err ET) v30.2.2)], []⟩) (J.cons (.none rfl) (JO.loadAll rfl rfl (.one1 (.one _ _)) Try.isAgg51 Try.sizeOf51) rfl rfl (J.cons (.none rfl) (JO.loadAll rfl rfl (.one1 (.one _ _)) Try.isAgg51 Try.sizeOf51) rfl rfl (J.cons (.none rfl) (JO.call0 (con_tree_Diff hv30) Try.call82 (.cons (.dir rfl) (.cons (.dir rfl) .nil))) rfl rfl (J.cons (.none rfl) (JO.move rfl) rfl rfl (J.cons (.none rfl) (JO.extract rfl rfl) rfl rfl (J.cons (.none rfl) (JO.extract rfl rfl) rfl rfl (J.cons (.none rfl) (JO.extract rfl rfl) rfl rfl (J.cons (.none rfl) (JO.assign rfl) rfl rfl (J.cons (.none rfl) (JO.assign rfl) rfl rfl (J.cons (.none rfl) (JO.assign rfl) rfl rfl (J.fin (Sw.Sub.mk id (.cons rfl (.of_eq rfl) (.cons rfl (.of_eq rfl) (.cons rfl (.of_eq rfl) (.cons rfl (.of_eq rfl) (.cons rfl (.of_eq rfl) (.cons rfl (.of_eq rfl) .nil)))))) .nil rfl)))))))))))) ?_
          refine W.seq ?_
          obtain ⟨x35, hx, h⟩ := bind_e h
          refine W.reg (σ' := ⟨[(4, .v Enc.bool x35)], []⟩) ?_ ?_
          · obtain ⟨v36, hv36, hx⟩ := bind_e hx
            rcases Bool.eq_false_or_eq_true v36 with hc37 | hc37
            · replace hx := cond_t hc37 hx
              obtain ⟨v38, hv38, hx⟩ := bind_e hx
              rcases Bool.eq_false_or_eq_true v38 with hc39 | hc39
              · replace hx := cond_t hc39 hx
                obtain rfl := Option.some.inj hx
                exact (J.cons (.none rfl) (JO.move rfl) rfl rfl (J.cons (.none rfl) (JO.move rfl) rfl rfl (J.cons (.none rfl) (JO.call0 (con_ref_Is hv36) Try.call14 (.cons (.dir rfl) (.cons (.dir rfl) .nil))) rfl rfl (J.cons (.none rfl) (JO.move rfl) rfl rfl (J.cons (GK.met 56 rfl rfl rfl hc37) (JO.move rfl) rfl rfl (J.cons (GK.met 56 rfl rfl rfl hc37) (JO.move rfl) rfl rfl (J.cons (GK.met 56 rfl rfl rfl hc37) (JO.call0 (con_ref_SameInts hv38) Try.call83 (.cons (.dir rfl) (.cons (.dir rfl) .nil))) rfl rfl (J.cons (.none rfl) (JO.pT hc37 rfl rfl) rfl rfl (J.cons (.none rfl) (JO.move rfl) rfl rfl (J.cons (GK.met 61 rfl rfl rfl hc39) (JO.move rfl) rfl rfl (J.cons (GK.met 61 rfl rfl rfl hc39) (JO.move rfl) rfl rfl (J.cons (GK.met 61 rfl rfl rfl hc39) (JO.cmp rfl rfl rfl) rfl rfl (J.cons (.none rfl) (JO.pT hc39 rfl rfl) rfl rfl (J.cons (.none rfl) (JO.assign rfl) rfl rfl (J.fin (Sw.Sub.mk id (.cons rfl (.of_eq rfl) .nil) .nil rfl))))))))))))))))
              · replace hx := cond_f hc39 hx
                obtain rfl := Option.some.inj hx
                exact (J.cons (.none rfl) (JO.move rfl) rfl rfl (J.cons (.none rfl) (JO.move rfl) rfl rfl (J.cons (.none rfl) (JO.call0 (con_ref_Is hv36) Try.call14 (.cons (.dir rfl) (.cons (.dir rfl) .nil))) rfl rfl (J.cons (.none rfl) (JO.move rfl) rfl rfl (J.cons (GK.met 56 rfl rfl rfl hc37) (JO.move rfl) rfl rfl (J.cons (GK.met 56 rfl rfl rfl hc37) (JO.move rfl) rfl rfl (J.cons (GK.met 56 rfl rfl rfl hc37) (JO.call0 (con_ref_SameInts hv38) Try.call83 (.cons (.dir rfl) (.cons (.dir rfl) .nil))) rfl rfl (J.cons (.none rfl) (JO.pT hc37 rfl rfl) rfl rfl (J.cons (.none rfl) (JO.move rfl) rfl rfl (J.left (GK.unmet 61 rfl rfl rfl hc39) rfl (J.left (GK.unmet 61 rfl rfl rfl hc39) rfl (J.left (GK.unmet 61 rfl rfl rfl hc39) rfl (J.cons (.none rfl) (JO.pF hc39 rfl rfl) rfl rfl (J.cons (.none rfl) (JO.assign rfl) rfl rfl (J.fin (Sw.Sub.mk id (.cons rfl (.of_eq rfl) .nil) .nil rfl))))))))))))))))
            · replace hx := cond_f hc37 hx
              obtain rfl := Option.some.inj hx
              exact (J.cons (.none rfl) (JO.move rfl) rfl rfl (J.cons (.none rfl) (JO.move rfl) rfl rfl (J.cons (.none rfl) (JO.call0 (con_ref_Is hv36) Try.call14 (.cons (.dir rfl) (.cons (.dir rfl) .nil))) rfl rfl (J.cons (.none rfl) (JO.move rfl) rfl rfl (J.left (GK.unmet 56 rfl rfl rfl hc37) rfl (J.left (GK.unmet 56 rfl rfl rfl hc37) rfl (J.left (GK.unmet 56 rfl rfl rfl hc37) rfl (J.cons (.none rfl) (JO.pF hc37 rfl rfl) rfl rfl (J.cons (.none rfl) (JO.move rfl) rfl rfl (J.left (GK.unmet 61 rfl rfl rfl rfl) rfl (J.left (GK.unmet 61 rfl rfl rfl rfl) rfl (J.left (GK.unmet 61 rfl rfl rfl rfl) rfl (J.cons (.none rfl) (JO.pF rfl rfl rfl) rfl rfl (J.cons (.none rfl) (JO.assign rfl) rfl rfl (J.fin (Sw.Sub.mk id (.cons rfl (.of_eq rfl) .nil) .nil rfl))))))))))))))))
          refine W.ret ?_
          obtain rfl := Option.some.inj h
          exact XQ.sub (σ' := ⟨[(4, .v Enc.bool x35)], []⟩) (Sw.Sub.mk id (.cons rfl (.of_eq rfl) .nil) .nil rfl) (XQ.ret1 hF noR rfl (RV.tmp rfl) .nil rfl)
        · intro hc25
          replace h := cond_t hc25 h
          obtain ⟨v29, hv29, h⟩ := bind_e h
          refine W.reg (σ' := ⟨[(2, .ptr 101 0), (3, .ptr 102 0), (5, .v (Enc.int .i64) x24), (6, .v (Enc.sl (Enc.int .i64)) v29.1), (7, .v (Enc.int .i64) v29.2)], [(101, .box 51 [.v (Enc.sl (Enc.sl (Enc.int .u64))) a0]), (102, .box 51 [.v (Enc.sl (Enc.sl (Enc.int .u64))) a1])]⟩) (J.cons (.none rfl) (JO.loadAll rfl rfl (.one1 (.one _ _)) Try.isAgg51 Try.sizeOf51) rfl rfl (J.cons (.none rfl) (JO.loadAll rfl rfl (.one1 (.one _ _)) Try.isAgg51 Try.sizeOf51) rfl rfl (J.cons (.none rfl) (JO.call0 (con_ref_Differs hv29) Try.call81 (.cons (.dir rfl) (.cons (.dir rfl) .nil))) rfl rfl (J.cons (.none rfl) (JO.move rfl) rfl rfl (J.cons (.none rfl) (JO.extract rfl rfl) rfl rfl (J.cons (.none rfl) (JO.extract rfl rfl) rfl rfl (J.cons (.none rfl) (JO.assign rfl) rfl rfl (J.cons (.none rfl) (JO.assign rfl) rfl rfl (J.fin (Sw.Sub.mk id (.cons rfl (.of_eq rfl) (.cons rfl (.of_eq rfl) (.cons rfl (.of_eq rfl) (.cons rfl (.of_eq rfl) (.cons rfl (.of_eq rfl) .nil))))) (.box rfl (.cons (.of_eq rfl) .nil) (.box rfl (.cons (.of_eq rfl) .nil) .nil)) rfl)))))))))) ?_
          exact W.jfall h (Sw.Sub.mk id (.cons rfl (.of_eq rfl) (.cons rfl (.of_eq rfl) (.cons rfl (.of_eq rfl) (.cons rfl (.of_eq rfl) (.cons rfl (.of_eq rfl) .nil))))) (.box rfl (.cons (.of_eq rfl) .nil) (.box rfl (.cons (.of_eq rfl) .nil) .nil)) rfl)
        · intro hc25
          replace h := cond_f hc25 h
          refine W.skip ?_
          exact W.jfall h (Sw.Sub.mk id (.cons rfl (.of_eq rfl) (.cons rfl (.of_eq rfl) (.cons rfl (.of_eq rfl) (.cons rfl (.of_eq rfl) (.cons rfl (.of_eq rfl) .nil))))) (.box rfl (.cons (.of_eq rfl) .nil) (.box rfl (.cons (.of_eq rfl) .nil) .nil)) rfl)
      · intro hc22
        replace h := cond_t hc22 h
        refine W.reg (σ' := ⟨[(2, .ptr 101 0), (3, .ptr 102 0), (5, .v (Enc.int .i64) (6 : Int))], [(101, .box 51 [.v (Enc.sl (Enc.sl (Enc.int .u64))) a0]), (102, .box 51 [.v (Enc.sl (Enc.sl (Enc.int .u64))) a1])]⟩) (J.cons (.none rfl) (JO.assign rfl) rfl rfl (J.fin (Sw.Sub.mk id (.cons rfl (.of_eq rfl) (.cons rfl (.of_eq rfl) (.cons rfl (.of_eq rfl) .nil))) (.box rfl (.cons (.of_eq rfl) .nil) (.box rfl (.cons (.of_eq rfl) .nil) .nil)) rfl))) ?_
        exact W.jfall h (Sw.Sub.mk id (.cons rfl (.of_eq rfl) (.cons rfl (.of_eq rfl) (.cons rfl (.of_eq rfl) .nil))) (.box rfl (.cons (.of_eq rfl) .nil) (.box rfl (.cons (.of_eq rfl) .nil) .nil)) rfl)
      · intro hc22
        replace h := cond_f hc22 h
        refine W.skip ?_
        exact W.jfall h (Sw.Sub.mk id (.cons rfl (.of_eq rfl) (.cons rfl (.of_eq rfl) (.cons rfl (.of_eq rfl) .nil))) (.box rfl (.cons (.of_eq rfl) .nil) (.box rfl (.cons (.of_eq rfl) .nil) .nil)) rfl)
    · intro hc10
      replace h := cond_t hc10 h
      obtain ⟨v14, hv14, h⟩ := bind_e h
      refine W.reg (σ' := ⟨[(2, .ptr 101 0), (3, .ptr 102 0), (5, .v (Enc.int .i64) v14)], [(101, .box 51 [.v (Enc.sl (Enc.sl (Enc.int .u64))) a0]), (102, .box 51 [.v (Enc.sl (Enc.sl (Enc.int .u64))) a1])]⟩) (J.cons (.none rfl) (JO.loadAll rfl rfl (.one1 (.one _ _)) Try.isAgg51 Try.sizeOf51) rfl rfl (J.cons (.none rfl) (JO.call0 (con_ref_TreeMay hv14) Try.call80 (.cons (.dir rfl) .nil)) rfl rfl (J.cons (.none rfl) (JO.assign rfl) rfl rfl (J.fin (Sw.Sub.mk id (.cons rfl (.of_eq rfl) (.cons rfl (.of_eq rfl) (.cons rfl (.of_eq rfl) .nil))) (.box rfl (.cons (.of_eq rfl) .nil) (.box rfl (.cons (.of_eq rfl) .nil) .nil)) rfl))))) ?_
      exact W.jfall h (Sw.Sub.mk id (.cons rfl (.of_eq rfl) (.cons rfl (.of_eq rfl) (.cons rfl (.of_eq rfl) .nil))) (.box rfl (.cons (.of_eq rfl) .nil) (.box rfl (.cons (.of_eq rfl) .nil) .nil)) rfl)
    · intro hc10
      replace h := cond_f hc10 h
      refine W.skip ?_
      exact W.jfall h (Sw.Sub.mk id (.cons rfl (.of_eq rfl) (.cons rfl (.of_eq rfl) (.cons rfl (.of_eq rfl) .nil))) (.box rfl (.cons (.of_eq rfl) .nil) (.box rfl (.cons (.of_eq rfl) .nil) .nil)) rfl)
set_option maxRecDepth 100000 in
set_option maxHeartbeats 4000000 in
theorem con_law_TreePuts {a0 : ((List (List Int)))} {a1 : Int} {a2 : Blk} {r : Bool} (h : m_law_TreePuts a0 a1 a2 = some r) :
    Con Try.prog 34 [.v (Enc.one1 (Enc.sl (Enc.sl (Enc.int .u64)))) a0, .v (Enc.int .i64) a1, .v eBlk a2] (.v Enc.bool r) [] := by
  refine Con.of Try.func34 rfl Try.ntmps34 rfl ?_
  intro S w hF
  unfold m_law_TreePuts at h
  refine W.seq ?_
  refine W.reg (σ' := ⟨[(1, .v (Enc.int .i64) a1), (3, .ptr 101 0), (5, .ptr 102 0)], [(101, .box 51 [.v (Enc.sl (Enc.sl (Enc.int .u64))) a0]), (102, .box 56 [.v eBlk a2])]⟩) (J.cons (.none rfl) (JO.box 101 rfl (.one1 (.one _ _)) rfl) rfl rfl (J.cons (.none rfl) (JO.box 102 rfl (.one _ _) rfl) rfl rfl (J.cons (.none rfl) (JO.assign rfl) rfl rfl (J.fin (Sw.Sub.mk id (.cons rfl (.of_eq rfl) (.cons rfl (.of_eq rfl) (.cons rfl (.of_eq rfl) .nil))) (.box rfl (.cons (.of_eq rfl) .nil) (.box rfl (.cons (.of_eq rfl) .nil) .nil)) rfl))))) ?_
  refine W.seq ?_
  refine W.seq ?_
  obtain ⟨v1, hv1, h⟩ := bind_e h
  refine W.reg (σ' := ⟨[(1, .v (Enc.int .i64) a1), (3, .ptr 101 0), (5, .ptr 102 0), (12, .v Enc.bool v1)], [(101, .box 51 [.v (Enc.sl (Enc.sl (Enc.int .u64))) a0]), (102, .box 56 [.v eBlk a2])]⟩) (J.cons (.none rfl) (JO.loadAll rfl rfl (.one1 (.one _ _)) Try.isAgg51 Try.sizeOf51) rfl rfl (J.cons (.none rfl) (JO.call0 (con_law_hugeTree hv1) Try.call79 (.cons (.dir rfl) .nil)) rfl rfl (J.fin (Sw.Sub.mk id (.cons rfl (.of_eq rfl) (.cons rfl (.of_eq rfl) (.cons rfl (.of_eq rfl) (.cons rfl (.of_eq rfl) .nil)))) (.box rfl (.cons (.of_eq rfl) .nil) (.box rfl (.cons (.of_eq rfl) .nil) .nil)) rfl)))) ?_
  rcases Bool.eq_false_or_eq_true v1 with hc2 | hc2
  · replace h := cond_t hc2 h
    refine W.condT rfl hc2 ?_
    refine W.seq ?_
    refine W.reg (σ' := ⟨[(6, .v Enc.bool true)], []⟩) (J.cons (.none rfl) (JO.assign rfl) rfl rfl (J.fin (Sw.Sub.mk id (.cons rfl (.of_eq rfl) .nil) .nil rfl))) ?_
    refine W.ret ?_
    obtain rfl := Option.some.inj h
    exact XQ.sub (σ' := ⟨[(6, .v Enc.bool true)], []⟩) (Sw.Sub.mk id (.cons rfl (.of_eq rfl) .nil) .nil rfl) (XQ.ret1 hF noR rfl (RV.tmp rfl) .nil rfl)
  · replace h := cond_f hc2 h
    refine W.condF rfl hc2 ?_
    refine W.skip ?_
    refine W.seq ?_
    obtain ⟨v3, hv3, h⟩ := bind_e h
    refine W.reg (σ' := ⟨[(1, .v (Enc.int .i64) a1), (3, .ptr 101 0), (5, .ptr 102 0), (7, .v (Enc.int .i64) v3)], [(101, .box 51 [.v (Enc.sl (Enc.sl (Enc.int .u64))) a0]), (102, .box 56 [.v eBlk a2])]⟩) (J.cons (.none rfl) (JO.loadAll rfl rfl (.one1 (.one _ _)) Try.isAgg51 Try.sizeOf51) rfl rfl (J.cons (.none rfl) (JO.call0 (con_ref_TreeMay hv3) Try.call80 (.cons (.dir rfl) .nil)) rfl rfl (J.cons (.none rfl) (JO.assign rfl) rfl rfl (J.fin (Sw.Sub.mk id (.cons rfl (.of_eq rfl) (.cons rfl (.of_eq rfl) (.cons rfl (.of_eq rfl) (.cons rfl (.of_eq rfl) .nil)))) (.box rfl (.cons (.of_eq rfl) .nil) (.box rfl (.cons (.of_eq rfl) .nil) .nil)) rfl))))) ?_
    refine W.seq ?_
    refine W.seq ?_
    obtain ⟨v4, hv4, h⟩ := bind_e h
    obtain ⟨v5, hv5, h⟩ := bind_e h
    refine W.reg (σ' := ⟨[(1, .v (Enc.int .i64) a1), (3, .ptr 101 0), (5, .ptr 102 0), (7, .v (Enc.int .i64) v3), (19, .v Enc.bool (!v5))], [(101, .box 51 [.v (Enc.sl (Enc.sl (Enc.int .u64))) a0]), (102, .box 56 [.v eBlk a2])]⟩) (J.cons (.none rfl) (JO.loadAll rfl rfl (.one1 (.one _ _)) Try.isAgg51 Try.sizeOf51) rfl rfl (J.cons (.none rfl) (JO.call0 (con_tree_Check hv4) Try.call73 (.cons (.dir rfl) .nil)) rfl rfl (J.cons (.none rfl) (JO.move rfl) rfl rfl (J.cons (.none rfl) (JO.call0 (con_ref_Is hv5) Try.call14 (.cons (.dir rfl) (.cons (.dir rfl) .nil))) rfl rfl (J.cons (.none rfl) (JO.not rfl) rfl rfl (J.fin (Sw.Sub.mk id (.cons rfl (.of_eq rfl) (.cons rfl (.of_eq rfl) (.cons rfl (.of_eq rfl) (.cons rfl (.of_eq rfl) (.cons rfl (.of_eq rfl) .nil))))) (.box rfl (.cons (.of_eq rfl) .nil) (.box rfl (.cons (.of_eq rfl) .nil) .nil)) rfl))))))) ?_
    rcases Bool.eq_false_or_eq_true (!v5) with hc6 | hc6
    · replace h := cond_t hc6 h
      refine W.condT rfl hc6 ?_
      refine W.seq ?_
      refine W.reg (σ' := ⟨[(6, .v Enc.bool false)], []⟩) (J.cons (.none rfl) (JO.assign rfl) rfl rfl (J.fin (Sw.Sub.mk id (.cons rfl (.of_eq rfl) .nil) .nil rfl))) ?_
      refine W.ret ?_
      obtain rfl := Option.some.inj h
      exact XQ.sub (σ' := ⟨[(6, .v Enc.bool false)], []⟩) (Sw.Sub.mk id (.cons rfl (.of_eq rfl) .nil) .nil rfl) (XQ.ret1 hF noR rfl (RV.tmp rfl) .nil rfl)
    · replace h := cond_f hc6 h
      refine W.condF rfl hc6 ?_
      refine W.skip ?_
      refine W.seq ?_
      obtain ⟨v7, hv7, h⟩ := bind_e h
      refine W.reg (σ' := ⟨[(1, .v (Enc.int .i64) a1), (3, .ptr 101 0), (5, .ptr 102 0), (7, .v (Enc.int .i64) v3), (8, .ptr 108 0), (9, .v (Enc.err ET) v7.2)], [(101, .box 51 [.v (Enc.sl (Enc.sl (Enc.int .u64))) a0]), (102, .box 56 [.v eBlk a2]), (108, .box 51 [.v (Enc.sl (Enc.sl (Enc.int .u64))) v7.1])]⟩) (J.cons (.none rfl) (JO.loadAll rfl rfl (.one1 (.one _ _)) Try.isAgg51 Try.sizeOf51) rfl rfl (J.cons (.none rfl) (JO.move rfl) rfl rfl (J.cons (.none rfl) (JO.load rfl rfl rfl Try.isAgg56 Try.sizeOf56) rfl rfl (J.cons (.none rfl) (JO.call0 (con_tree_Put hv7) Try.call26 (.cons (.dir rfl) (.cons (.dir rfl) (.cons (.dir rfl) .nil)))) rfl rfl (J.cons (.none rfl) (JO.move rfl) rfl rfl (J.cons (.none rfl) (JO.extract rfl rfl) rfl rfl (J.cons (.none rfl) (JO.extract rfl rfl) rfl rfl (J.cons (.none rfl) (JO.alloc 108 Try.zeroValue51 rfl (.cons (Z.sl (Enc.sl (Enc.int .u64))) .nil) rfl) rfl rfl (J.mut (.none rfl) (JM.storeAll rfl rfl rfl rfl (.one1 (.one _ _)) Try.sizeOf51) (J.cons (.none rfl) (JO.assign rfl) rfl rfl (J.fin (Sw.Sub.mk id (.cons rfl (.of_eq rfl) (.cons rfl (.of_eq rfl) (.cons rfl (.of_eq rfl) (.cons rfl (.of_eq rfl) (.cons rfl (.of_eq rfl) (.cons rfl (.of_eq rfl) .nil)))))) (.box rfl (.cons (.of_eq rfl) .nil) (.box rfl (.cons (.of_eq rfl) .nil) (.box rfl (.cons (.of_eq rfl) .nil) .nil))) rfl)))))))))))) ?_
      refine W.seq ?_
      refine W.seq ?_
      obtain ⟨x11, hx, h⟩ := bind_e h
      refine W.reg (σ' := ⟨[(1, .v (Enc.int .i64) a1), (3, .ptr 101 0), (5, .ptr 102 0), (7, .v (Enc.int .i64) v3), (8, .ptr 108 0), (9, .v (Enc.err ET) v7.2), (41, .v Enc.bool x11)], [(101, .box 51 [.v (Enc.sl (Enc.sl (Enc.int .u64))) a0]), (102, .box 56 [.v eBlk a2]), (108, .box 51 [.v (Enc.sl (Enc.sl (Enc.int .u64))) v7.1])]⟩) ?_ ?_
      · rcases Bool.eq_false_or_eq_true (cm .eql v3 (0 : Int)) with hc12 | hc12
        · replace hx := cond_t hc12 hx
          rcases Bool.eq_false_or_eq_true (cm .lss a1 (0 : Int)) with hc13 | hc13
          · replace hx := cond_t hc13 hx
            obtain rfl := Option.some.inj hx
            exact (J.cons (.none rfl) (JO.move rfl) rfl rfl (J.cons (.none rfl) (JO.cmp rfl rfl rfl) rfl rfl (J.cons (.none rfl) (JO.move rfl) rfl rfl (J.cons (GK.met 29 rfl rfl rfl hc12) (JO.move rfl) rfl rfl (J.cons (GK.met 29 rfl rfl rfl hc12) (JO.cmp rfl rfl rfl) rfl rfl (J.cons (GK.met 29 rfl rfl rfl hc12) (JO.move rfl) rfl rfl (J.left (GK.unmet 32 rfl rfl rfl hc13) rfl (J.left (GK.unmet 32 rfl rfl rfl hc13) rfl (J.left (GK.unmet 32 rfl rfl rfl hc13) rfl (J.left (GK.unmet 32 rfl rfl rfl hc13) rfl (J.left (GK.unmet 32 rfl rfl rfl hc13) rfl (J.left (GK.unmet 32 rfl rfl rfl hc13) rfl (J.left (GK.unmet 32 rfl rfl rfl hc13) rfl (J.cons (GK.met 29 rfl rfl rfl hc12) (JO.pT hc13 rfl rfl) rfl rfl (J.cons (.none rfl) (JO.pT hc12 rfl rfl) rfl rfl (J.fin (Sw.Sub.mk id (.cons rfl (.of_eq rfl) (.cons rfl (.of_eq rfl) (.cons rfl (.of_eq rfl) (.cons rfl (.of_eq rfl) (.cons rfl (.of_eq rfl) (.cons rfl (.of_eq rfl) (.cons rfl (.of_eq rfl) .nil))))))) (.box rfl (.cons (.of_eq rfl) .nil) (.box rfl (.cons (.of_eq rfl) .nil) (.box rfl (.cons (.of_eq rfl) .nil) .nil))) rfl)))))))))))))))))
          · replace hx := cond_f hc13 hx
            obtain ⟨z14, hz14, hx⟩ := bind_e hx
            obtain rfl := Option.some.inj hx
            exact (J.cons (.none rfl) (JO.move rfl) rfl rfl (J.cons (.none rfl) (JO.cmp rfl rfl rfl) rfl rfl (J.cons (.none rfl) (JO.move rfl) rfl rfl (J.cons (GK.met 29 rfl rfl rfl hc12) (JO.move rfl) rfl rfl (J.cons (GK.met 29 rfl rfl rfl hc12) (JO.cmp rfl rfl rfl) rfl rfl (J.cons (GK.met 29 rfl rfl rfl hc12) (JO.move rfl) rfl rfl (J.cons (GK.met 32 rfl rfl rfl hc13) (JO.move rfl) rfl rfl (J.cons (GK.met 32 rfl rfl rfl hc13) (JO.fieldPtr 0 rfl Try.runUnderlying51 rfl Try.sizeOf49 rfl rfl) rfl rfl (J.cons (GK.met 32 rfl rfl rfl hc13) (JO.load rfl rfl rfl Try.isAgg49 Try.sizeOf49) rfl rfl (J.cons (GK.met 32 rfl rfl rfl hc13) (JO.idx hz14 rfl rfl Try.runUnderlying49 Try.sizeOf131) rfl rfl (J.cons (GK.met 32 rfl rfl rfl hc13) (JO.loadPst rfl Try.isAgg131 Try.sizeOf131) rfl rfl (J.cons (GK.met 32 rfl rfl rfl hc13) (JO.len rfl Try.runUnderlying131) rfl rfl (J.cons (GK.met 32 rfl rfl rfl hc13) (JO.cmp rfl rfl rfl) rfl rfl (J.cons (GK.met 29 rfl rfl rfl hc12) (JO.pF hc13 rfl rfl) rfl rfl (J.cons (.none rfl) (JO.pT hc12 rfl rfl) rfl rfl (J.fin (Sw.Sub.mk id (.cons rfl (.of_eq rfl) (.cons rfl (.of_eq rfl) (.cons rfl (.of_eq rfl) (.cons rfl (.of_eq rfl) (.cons rfl (.of_eq rfl) (.cons rfl (.of_eq rfl) (.cons rfl (.of_eq rfl) .nil))))))) (.box rfl (.cons (.of_eq rfl) .nil) (.box rfl (.cons (.of_eq rfl) .nil) (.box rfl (.cons (.of_eq rfl) .nil) .nil))) rfl)))))))))))))))))
        · replace hx := cond_f hc12 hx
          obtain rfl := Option.some.inj hx
          exact (J.cons (.none rfl) (JO.move rfl) rfl rfl (J.cons (.none rfl) (JO.cmp rfl rfl rfl) rfl rfl (J.cons (.none rfl) (JO.move rfl) rfl rfl (J.left (GK.unmet 29 rfl rfl rfl hc12) rfl (J.left (GK.unmet 29 rfl rfl rfl hc12) rfl (J.left (GK.unmet 29 rfl rfl rfl hc12) rfl (J.left (GK.und 32 rfl rfl rfl) rfl (J.left (GK.und 32 rfl rfl rfl) rfl (J.left (GK.und 32 rfl rfl rfl) rfl (J.left (GK.und 32 rfl rfl rfl) rfl (J.left (GK.und 32 rfl rfl rfl) rfl (J.left (GK.und 32 rfl rfl rfl) rfl (J.left (GK.und 32 rfl rfl rfl) rfl (J.left (GK.unmet 29 rfl rfl rfl hc12) rfl (J.cons (.none rfl) (JO.pF hc12 rfl rfl) rfl rfl (J.fin (Sw.Sub.mk id (.cons rfl (.of_eq rfl) (.cons rfl (.of_eq rfl) (.cons rfl (.of_eq rfl) (.cons rfl (.of_eq rfl) (.cons rfl (.of_eq rfl) (.cons rfl (.of_eq rfl) (.cons rfl (.of_eq rfl) .nil))))))) (.box rfl (.cons (.of_eq rfl) .nil) (.box rfl (.cons (.of_eq rfl) .nil) (.box rfl (.cons (.of_eq rfl) .nil) .nil))) rfl)))))))))))))))))
      obtain ⟨k16, hk16, h⟩ := jp_elim h
      refine W.jn (fun x17 : Int => ⟨[(1, .v (Enc.int .i64) a1), (3, .ptr 101 0), (5, .ptr 102 0), (7, .v (Enc.int .i64) x17), (8, .ptr 108 0), (9, .v (Enc.err ET) v7.2)], [(101, .box 51 [.v (Enc.sl (Enc.sl (Enc.int .u64))) a0]), (102, .box 56 [.v eBlk a2]), (108, .box 51 [.v (Enc.sl (Enc.sl (Enc.int .u64))) v7.1])]⟩) (fun x => k16 x = some r) rfl ?_ ?_ ?_
      · intro x17 h
        rw [hk16] at h
        refine W.seq ?_
        refine W.seq ?_
        refine W.reg (σ' := ⟨[(1, .v (Enc.int .i64) a1), (3, .ptr 101 0), (5, .ptr 102 0), (7, .v (Enc.int .i64) x17), (8, .ptr 108 0), (9, .v (Enc.err ET) v7.2), (43, .v Enc.bool (cm .neq x17 (0 : Int)))], [(101, .box 51 [.v (Enc.sl (Enc.sl (Enc.int .u64))) a0]), (102, .box 56 [.v eBlk a2]), (108, .box 51 [.v (Enc.sl (Enc.sl (Enc.int .u64))) v7.1])]⟩) (J.cons (.none rfl) (JO.move rfl) rfl rfl (J.cons (.none rfl) (JO.cmp rfl rfl rfl) rfl rfl (J.fin (Sw.Sub.mk id (.cons rfl (.of_eq rfl) (.cons rfl (.of_eq rfl) (.cons rfl (.of_eq rfl) (.cons rfl (.of_eq rfl) (.cons rfl (.of_eq rfl) (.cons rfl (.of_eq rfl) (.cons rfl (.of_eq rfl) .nil))))))) (.box rfl (.cons (.of_eq rfl) .nil) (.box rfl (.cons (.of_eq rfl) .nil) (.box rfl (.cons (.of_eq rfl) .nil) .nil))) rfl)))) ?_
        rcases Bool.eq_false_or_eq_true (cm .neq x17 (0 : Int)) with hc18 | hc18
        · replace h := cond_t hc18 h
          refine W.condT rfl hc18 ?_
          refine W.seq ?_
          obtain ⟨x21, hx, h⟩ := bind_e h
          refine W.reg (σ' := ⟨[(6, .v Enc.bool x21)], []⟩) ?_ ?_
          · obtain ⟨v22, hv22, hx⟩ := bind_e hx
            rcases Bool.eq_false_or_eq_true v22 with hc23 | hc23
            · replace hx := cond_t hc23 hx
              obtain rfl := Option.some.inj hx
              exact (J.cons (.none rfl) (JO.move rfl) rfl rfl (J.cons (.none rfl) (JO.move rfl) rfl rfl (J.cons (.none rfl) (JO.call0 (con_ref_Is hv22) Try.call14 (.cons (.dir rfl) (.cons (.dir rfl) .nil))) rfl rfl (J.cons (.none rfl) (JO.move rfl) rfl rfl (J.cons (GK.met 47 rfl rfl rfl hc23) (JO.fieldPtr 0 rfl Try.runUnderlying51 rfl Try.sizeOf49 rfl rfl) rfl rfl (J.cons (GK.met 47 rfl rfl rfl hc23) (JO.load rfl rfl rfl Try.isAgg49 Try.sizeOf49) rfl rfl (J.cons (GK.met 47 rfl rfl rfl hc23) (JO.len rfl Try.runUnderlying49) rfl rfl (J.cons (GK.met 47 rfl rfl rfl hc23) (JO.cmp rfl rfl rfl) rfl rfl (J.cons (.none rfl) (JO.pT hc23 rfl rfl) rfl rfl (J.cons (.none rfl) (JO.assign rfl) rfl rfl (J.fin (Sw.Sub.mk id (.cons rfl (.of_eq rfl) .nil) .nil rfl))))))))))))
            · replace hx := cond_f hc23 hx
              obtain rfl := Option.some.inj hx
              exact (J.cons (.none rfl) (JO.move rfl) rfl rfl (J.cons (.none rfl) (JO.move rfl) rfl rfl (J.cons (.none rfl) (JO.call0 (con_ref_Is hv22) Try.call14 (.cons (.dir rfl) (.cons (.dir rfl) .nil))) rfl rfl (J.cons (.none rfl) (JO.move rfl) rfl rfl (J.left (GK.unmet 47 rfl rfl rfl hc23) rfl (J.left (GK.unmet 47 rfl rfl rfl hc23) rfl (J.left (GK.unmet 47 rfl rfl rfl hc23) rfl (J.left (GK.unmet 47 rfl rfl rfl hc23) rfl (J.cons (.none rfl) (JO.pF hc23 rfl rfl) rfl rfl (J.cons (.none rfl) (JO.assign rfl) rfl rfl (J.fin (Sw.Sub.mk id (.cons rfl (.of_eq rfl) .nil) .nil rfl))))))))))))
          refine W.ret ?_
          obtain rfl := Option.some.inj h
          exact XQ.sub (σ' := ⟨[(6, .v Enc.bool x21)], []⟩) (Sw.Sub.mk id (.cons rfl (.of_eq rfl) .nil) .nil rfl) (XQ.ret1 hF noR rfl (RV.tmp rfl) .nil rfl)
        · replace h := cond_f hc18 h
          refine W.condF rfl hc18 ?_
          refine W.skip ?_
          refine W.seq ?_
          obtain ⟨z24, hz24, h⟩ := bind_e h
          obtain ⟨v25, hv25, h⟩ := bind_e h
          refine W.reg (σ' := ⟨[(1, .v (Enc.int .i64) a1), (3, .ptr 101 0), (5, .ptr 102 0), (8, .ptr 108 0), (9, .v (Enc.err ET) v7.2), (10, .ref 112)], [(101, .box 51 [.v (Enc.sl (Enc.sl (Enc.int .u64))) a0]), (102, .box 56 [.v eBlk a2]), (108, .box 51 [.v (Enc.sl (Enc.sl (Enc.int .u64))) v7.1]), (112, .arr 132 (Enc.int .u64) v25)]⟩) (J.cons (.none rfl) (JO.litR (e := (Enc.int .u64)) 111 Try.runUnderlying131 Try.sizeOf132 Try.zeroValue132 rfl rfl rfl rfl .nil) rfl rfl (J.cons (.none rfl) (JO.fieldPtr 0 rfl Try.runUnderlying51 rfl Try.sizeOf49 rfl rfl) rfl rfl (J.cons (.none rfl) (JO.load rfl rfl rfl Try.isAgg49 Try.sizeOf49) rfl rfl (J.cons (.none rfl) (JO.idx hz24 rfl rfl Try.runUnderlying49 Try.sizeOf131) rfl rfl (J.cons (.none rfl) (JO.loadPst rfl Try.isAgg131 Try.sizeOf131) rfl rfl (J.mut (.none rfl) (JM.append 112 hv25 rfl rfl (.sl rfl) Try.runUnderlying131 Try.typeInfo132 Try.sizeOf132 rfl rfl rfl rfl rfl) (J.cons (.none rfl) (JO.assign rfl) rfl rfl (J.fin (Sw.Sub.mk id (.cons rfl (.of_eq rfl) (.cons rfl (.of_eq rfl) (.cons rfl (.of_eq rfl) (.cons rfl (.of_eq rfl) (.cons rfl (.of_eq rfl) (.cons rfl (.of_eq rfl) .nil)))))) (.box rfl (.cons (.of_eq rfl) .nil) (.box rfl (.cons (.of_eq rfl) .nil) (.box rfl (.cons (.of_eq rfl) .nil) (.arr rfl .nil)))) rfl))))))))) ?_
          refine W.seq ?_
          obtain ⟨v26, hv26, h⟩ := bind_e h
          obtain ⟨z27, hz27, h⟩ := bind_e h
          obtain ⟨z28, hz28, h⟩ := bind_e h
          obtain ⟨z29, hz29, h⟩ := bind_e h
          refine W.reg (σ' := ⟨[(3, .ptr 101 0), (8, .ptr 108 0), (9, .v (Enc.err ET) v7.2), (10, .ref 112)], [(101, .box 51 [.v (Enc.sl (Enc.sl (Enc.int .u64))) a0]), (108, .box 51 [.v (Enc.sl (Enc.sl (Enc.int .u64))) v7.1]), (112, .arr 132 (Enc.int .u64) (List.set v25 (Int.toNat a1) z28))]⟩) (J.cons (.none rfl) (JO.move rfl) rfl rfl (J.cons (.none rfl) (JO.move rfl) rfl rfl (J.cons (.none rfl) (JO.load rfl rfl rfl Try.isAgg56 Try.sizeOf56) rfl rfl (J.cons (.none rfl) (JO.lit (e := eBlk) Try.runUnderlying26 Try.sizeOf56 Try.zeroValue56 rfl rfl rfl rfl (.cons (.dir rfl) .nil)) rfl rfl (J.cons (.none rfl) (JO.call0 (con_ref_TreeOf hv26) Try.call33 (.cons (.dir rfl) .nil)) rfl rfl (J.cons (.none rfl) (JO.fieldV rfl Try.runUnderlying51 rfl rfl (.one1 .here) rfl Try.isAgg49 Try.sizeOf49) rfl rfl (J.cons (.none rfl) (JO.idx hz27 rfl rfl Try.runUnderlying49 Try.sizeOf131) rfl rfl (J.cons (.none rfl) (JO.loadPst rfl Try.isAgg131 Try.sizeOf131) rfl rfl (J.cons (.none rfl) (JO.idx hz28 rfl rfl Try.runUnderlying131 Try.sizeOf132) rfl rfl (J.cons (.none rfl) (JO.loadPst rfl Try.isAgg132 Try.sizeOf132) rfl rfl (J.cons (.none rfl) (JO.idxR hz29 rfl rfl rfl Try.runUnderlying131 Try.sizeOf132) rfl rfl (J.mut (.none rfl) (JM.storeEl (idx_some hz29).2.2 rfl rfl rfl Try.sizeOf132) (J.fin (Sw.Sub.mk id (.cons rfl (.of_eq rfl) (.cons rfl (.of_eq rfl) (.cons rfl (.of_eq rfl) (.cons rfl (.of_eq rfl) .nil)))) (.box rfl (.cons (.of_eq rfl) .nil) (.box rfl (.cons (.of_eq rfl) .nil) (.arr rfl .nil))) rfl)))))))))))))) ?_
          refine W.seq ?_
          obtain ⟨x36, hx, h⟩ := bind_e h
          refine W.reg (σ' := ⟨[(6, .v Enc.bool x36)], []⟩) ?_ ?_
          · rcases Bool.eq_false_or_eq_true (Option.isNone v7.2) with hc37 | hc37
            · replace hx := cond_t hc37 hx
              rcases Bool.eq_false_or_eq_true (cm .eql (v7.1.length : Int) (a0.length : Int)) with hc38 | hc38
              · replace hx := cond_t hc38 hx
                obtain ⟨z39, hz39, hx⟩ := bind_e hx
                obtain ⟨v40, hv40, hx⟩ := bind_e hx
                rcases Bool.eq_false_or_eq_true v40 with hc41 | hc41
                · replace hx := cond_t hc41 hx
                  obtain ⟨v42, hv42, hx⟩ := bind_e hx
                  obtain rfl := Option.some.inj hx
                  exact (J.cons (.none rfl) (JO.move rfl) rfl rfl (J.cons (.none rfl) (JO.errEq Try.runUnderlying33 rfl) rfl rfl (J.cons (.none rfl) (JO.move rfl) rfl rfl (J.cons (GK.met 72 rfl rfl rfl hc37) (JO.fieldPtr 0 rfl Try.runUnderlying51 rfl Try.sizeOf49 rfl rfl) rfl rfl (J.cons (GK.met 72 rfl rfl rfl hc37) (JO.load rfl rfl rfl Try.isAgg49 Try.sizeOf49) rfl rfl (J.cons (GK.met 72 rfl rfl rfl hc37) (JO.len rfl Try.runUnderlying49) rfl rfl (J.cons (GK.met 72 rfl rfl rfl hc37) (JO.fieldPtr 0 rfl Try.runUnderlying51 rfl Try.sizeOf49 rfl rfl) rfl rfl (J.cons (GK.met 72 rfl rfl rfl hc37) (JO.load rfl rfl rfl Try.isAgg49 Try.sizeOf49) rfl rfl (J.cons (GK.met 72 rfl rfl rfl hc37) (JO.len rfl Try.runUnderlying49) rfl rfl (J.cons (GK.met 72 rfl rfl rfl hc37) (JO.cmp rfl rfl rfl) rfl rfl (J.cons (.none rfl) (JO.pT hc37 rfl rfl) rfl rfl (J.cons (.none rfl) (JO.move rfl) rfl rfl (J.cons (GK.met 81 rfl rfl rfl hc38) (JO.fieldPtr 0 rfl Try.runUnderlying51 rfl Try.sizeOf49 rfl rfl) rfl rfl (J.cons (GK.met 81 rfl rfl rfl hc38) (JO.load rfl rfl rfl Try.isAgg49 Try.sizeOf49) rfl rfl (J.cons (GK.met 81 rfl rfl rfl hc38) (JO.idx hz39 rfl rfl Try.runUnderlying49 Try.sizeOf131) rfl rfl (J.cons (GK.met 81 rfl rfl rfl hc38) (JO.loadPst rfl Try.isAgg131 Try.sizeOf131) rfl rfl (J.cons (GK.met 81 rfl rfl rfl hc38) (JO.move rfl) rfl rfl (J.cons (GK.met 81 rfl rfl rfl hc38) (JO.callL0 (con_ref_SameLevel hv40) Try.call76 (.cons (.dir rfl) (.cons (.ref rfl rfl) .nil)) FlatS.v) rfl rfl (J.cons (.none rfl) (JO.pT hc38 rfl rfl) rfl rfl (J.cons (.none rfl) (JO.move rfl) rfl rfl (J.cons (GK.met 89 rfl rfl rfl hc41) (JO.loadAll rfl rfl (.one1 (.one _ _)) Try.isAgg51 Try.sizeOf51) rfl rfl (J.cons (GK.met 89 rfl rfl rfl hc41) (JO.call0 (con_ref_TreeMay hv42) Try.call80 (.cons (.dir rfl) .nil)) rfl rfl (J.cons (GK.met 89 rfl rfl rfl hc41) (JO.cmp rfl rfl rfl) rfl rfl (J.cons (.none rfl) (JO.pT hc41 rfl rfl) rfl rfl (J.cons (.none rfl) (JO.assign rfl) rfl rfl (J.fin (Sw.Sub.mk id (.cons rfl (.of_eq rfl) .nil) .nil rfl)))))))))))))))))))))))))))
                · replace hx := cond_f hc41 hx
                  obtain rfl := Option.some.inj hx
                  exact (J.cons (.none rfl) (JO.move rfl) rfl rfl (J.cons (.none rfl) (JO.errEq Try.runUnderlying33 rfl) rfl rfl (J.cons (.none rfl) (JO.move rfl) rfl rfl (J.cons (GK.met 72 rfl rfl rfl hc37) (JO.fieldPtr 0 rfl Try.runUnderlying51 rfl Try.sizeOf49 rfl rfl) rfl rfl (J.cons (GK.met 72 rfl rfl rfl hc37) (JO.load rfl rfl rfl Try.isAgg49 Try.sizeOf49) rfl rfl (J.cons (GK.met 72 rfl rfl rfl hc37) (JO.len rfl Try.runUnderlying49) rfl rfl (J.cons (GK.met 72 rfl rfl rfl hc37) (JO.fieldPtr 0 rfl Try.runUnderlying51 rfl Try.sizeOf49 rfl rfl) rfl rfl (J.cons (GK.met 72 rfl rfl rfl hc37) (JO.load rfl rfl rfl Try.isAgg49 Try.sizeOf49) rfl rfl (J.cons (GK.met 72 rfl rfl rfl hc37) (JO.len rfl Try.runUnderlying49) rfl rfl (J.cons (GK.met 72 rfl rfl rfl hc37) (JO.cmp rfl rfl rfl) rfl rfl (J.cons (.none rfl) (JO.pT hc37 rfl rfl) rfl rfl (J.cons (.none rfl) (JO.move rfl) rfl rfl (J.cons (GK.met 81 rfl rfl rfl hc38) (JO.fieldPtr 0 rfl Try.runUnderlying51 rfl Try.sizeOf49 rfl rfl) rfl rfl (J.cons (GK.met 81 rfl rfl rfl hc38) (JO.load rfl rfl rfl Try.isAgg49 Try.sizeOf49) rfl rfl (J.cons (GK.met 81 rfl rfl rfl hc38) (JO.idx hz39 rfl rfl Try.runUnderlying49 Try.sizeOf131) rfl rfl (J.cons (GK.met 81 rfl rfl rfl hc38) (JO.loadPst rfl Try.isAgg131 Try.sizeOf131) rfl rfl (J.cons (GK.met 81 rfl rfl rfl hc38) (JO.move rfl) rfl rfl (J.cons (GK.met 81 rfl rfl rfl hc38) (JO.callL0 (con_ref_SameLevel hv40) Try.call76 (.cons (.dir rfl) (.cons (.ref rfl rfl) .nil)) FlatS.v) rfl rfl (J.cons (.none rfl) (JO.pT hc38 rfl rfl) rfl rfl (J.cons (.none rfl) (JO.move rfl) rfl rfl (J.left (GK.unmet 89 rfl rfl rfl hc41) rfl (J.left (GK.unmet 89 rfl rfl rfl hc41) rfl (J.left (GK.unmet 89 rfl rfl rfl hc41) rfl (J.cons (.none rfl) (JO.pF hc41 rfl rfl) rfl rfl (J.cons (.none rfl) (JO.assign rfl) rfl rfl (J.fin (Sw.Sub.mk id (.cons rfl (.of_eq rfl) .nil) .nil rfl)))))))))))))))))))))))))))
              · replace hx := cond_f hc38 hx
                obtain rfl := Option.some.inj hx
                exact (J.cons (.none rfl) (JO.move rfl) rfl rfl (J.cons (.none rfl) (JO.errEq Try.runUnderlying33 rfl) rfl rfl (J.cons (.none rfl) (JO.move rfl) rfl rfl (J.cons (GK.met 72 rfl rfl rfl hc37) (JO.fieldPtr 0 rfl Try.runUnderlying51 rfl Try.sizeOf49 rfl rfl) rfl rfl (J.cons (GK.met 72 rfl rfl rfl hc37) (JO.load rfl rfl rfl Try.isAgg49 Try.sizeOf49) rfl rfl (J.cons (GK.met 72 rfl rfl rfl hc37) (JO.len rfl Try.runUnderlying49) rfl rfl (J.cons (GK.met 72 rfl rfl rfl hc37) (JO.fieldPtr 0 rfl Try.runUnderlying51 rfl Try.sizeOf49 rfl rfl) rfl rfl (J.cons (GK.met 72 rfl rfl rfl hc37) (JO.load rfl rfl rfl Try.isAgg49 Try.sizeOf49) rfl rfl (J.cons (GK.met 72 rfl rfl rfl hc37) (JO.len rfl Try.runUnderlying49) rfl rfl (J.cons (GK.met 72 rfl rfl rfl hc37) (JO.cmp rfl rfl rfl) rfl rfl (J.cons (.none rfl) (JO.pT hc37 rfl rfl) rfl rfl (J.cons (.none rfl) (JO.move rfl) rfl rfl (J.left (GK.unmet 81 rfl rfl rfl hc38) rfl (J.left (GK.unmet 81 rfl rfl rfl hc38) rfl (J.left (GK.unmet 81 rfl rfl rfl hc38) rfl (J.left (GK.unmet 81 rfl rfl rfl hc38) rfl (J.left (GK.unmet 81 rfl rfl rfl hc38) rfl (J.left (GK.unmet 81 rfl rfl rfl hc38) rfl (J.cons (.none rfl) (JO.pF hc38 rfl rfl) rfl rfl (J.cons (.none rfl) (JO.move rfl) rfl rfl (J.left (GK.unmet 89 rfl rfl rfl rfl) rfl (J.left (GK.unmet 89 rfl rfl rfl rfl) rfl (J.left (GK.unmet 89 rfl rfl rfl rfl) rfl (J.cons (.none rfl) (JO.pF rfl rfl rfl) rfl rfl (J.cons (.none rfl) (JO.assign rfl) rfl rfl (J.fin (Sw.Sub.mk id (.cons rfl (.of_eq rfl) .nil) .nil rfl)))))))))))))))))))))))))))
            · replace hx := cond_f hc37 hx
              obtain rfl := Option.some.inj hx
              exact (J.cons (.none rfl) (JO.move rfl) rfl rfl (J.cons (.none rfl) (JO.errEq Try.runUnderlying33 rfl) rfl rfl (J.cons (.none rfl) (JO.move rfl) rfl rfl (J.left (GK.unmet 72 rfl rfl rfl hc37) rfl (J.left (GK.unmet 72 rfl rfl rfl hc37) rfl (J.left (GK.unmet 72 rfl rfl rfl hc37) rfl (J.left (GK.unmet 72 rfl rfl rfl hc37) rfl (J.left (GK.unmet 72 rfl rfl rfl hc37) rfl (J.left (GK.unmet 72 rfl rfl rfl hc37) rfl (J.left (GK.unmet 72 rfl rfl rfl hc37) rfl (J.cons (.none rfl) (JO.pF hc37 rfl rfl) rfl rfl (J.cons (.none rfl) (JO.move rfl) rfl rfl (J.left (GK.unmet 81 rfl rfl rfl rfl) rfl (J.left (GK.unmet 81 rfl rfl rfl rfl) rfl (J.left (GK.unmet 81 rfl rfl rfl rfl) rfl (J.left (GK.unmet 81 rfl rfl rfl rfl) rfl (J.left (GK.unmet 81 rfl rfl rfl rfl) rfl (J.left (GK.unmet 81 rfl rfl rfl rfl) rfl (J.cons (.none rfl) (JO.pF rfl rfl rfl) rfl rfl (J.cons (.none rfl) (JO.move rfl) rfl rfl (J.left (GK.unmet 89 rfl rfl rfl rfl) rfl (J.left (GK.unmet 89 rfl rfl rfl rfl) rfl (J.left (GK.unmet 89 rfl rfl rfl rfl) rfl (J.cons (.none rfl) (JO.pF rfl rfl rfl) rfl rfl (J.cons (.none rfl) (JO.assign rfl) rfl rfl (J.fin (Sw.Sub.mk id (.cons rfl (.of_eq rfl) .nil) .nil rfl)))))))))))))))))))))))))))
          refine W.ret ?_
          obtain rfl := Option.some.inj h
          exact XQ.sub (σ' := ⟨[(6, .v Enc.bool x36)], []⟩) (Sw.Sub.mk id (.cons rfl (.of_eq rfl) .nil) .nil rfl) (XQ.ret1 hF noR rfl (RV.tmp rfl) .nil rfl)
      · intro hc15
        replace h := cond_t hc15 h
        refine W.reg (σ' := ⟨[(1, .v (Enc.int .i64) a1), (3, .ptr 101 0), (5, .ptr 102 0), (7, .v (Enc.int .i64) (1 : Int)), (8, .ptr 108 0), (9, .v (Enc.err ET) v7.2)], [(101, .box 51 [.v (Enc.sl (Enc.sl (Enc.int .u64))) a0]), (102, .box 56 [.v eBlk a2]), (108, .box 51 [.v (Enc.sl (Enc.sl (Enc.int .u64))) v7.1])]⟩) (J.cons (.none rfl) (JO.assign rfl) rfl rfl (J.fin (Sw.Sub.mk id (.cons rfl (.of_eq rfl) (.cons rfl (.of_eq rfl) (.cons rfl (.of_eq rfl) (.cons rfl (.of_eq rfl) (.cons rfl (.of_eq rfl) (.cons rfl (.of_eq rfl) .nil)))))) (.box rfl (.cons (.of_eq rfl) .nil) (.box rfl (.cons (.of_eq rfl) .nil) (.box rfl (.cons (.of_eq rfl) .nil) .nil))) rfl))) ?_
        exact W.jfall h (Sw.Sub.mk id (.cons rfl (.of_eq rfl) (.cons rfl (.of_eq rfl) (.cons rfl (.of_eq rfl) (.cons rfl (.of_eq rfl) (.cons rfl (.of_eq rfl) (.cons rfl (.of_eq rfl) .nil)))))) (.box rfl (.cons (.of_eq rfl) .nil) (.box rfl (.cons (.of_eq rfl) .nil) (.box rfl (.cons (.of_eq rfl) .nil) .nil))) rfl)
      · intro hc15
        replace h := cond_f hc15 h
        refine W.skip ?_
        exact W.jfall h (Sw.Sub.mk id (.cons rfl (.of_eq rfl) (.cons rfl (.of_eq rfl) (.cons rfl (.of_eq rfl) (.cons rfl (.of_eq rfl) (.cons rfl (.of_eq rfl) (.cons rfl (.of_eq rfl) .nil)))))) (.box rfl (.cons (.of_eq rfl) .nil) (.box rfl (.cons (.of_eq rfl) .nil) (.box rfl (.cons (.of_eq rfl) .nil) .nil))) rfl)
set_option maxRecDepth 100000 in
set_option maxHeartbeats 4000000 in
theorem con_law_TreeMade {a0 : (List Int)} {a1 : Int} {a2 : Int} {a3 : Int} {r : Bool} (h : m_law_TreeMade a0 a1 a2 a3 = some r) :
    Con Try.prog 5 [.v (Enc.sl (Enc.int .i64)) a0, .v (Enc.int .i64) a1, .v (Enc.int .i64) a2, .v (Enc.int .i64) a3] (.v Enc.bool r) [] := by
  refine Con.of Try.func5 rfl Try.ntmps5 rfl ?_
  intro S w hF
  unfold m_law_TreeMade at h
  refine W.seq ?_
  refine W.reg (σ' := ⟨[(0, .v (Enc.sl (Enc.int .i64)) a0), (1, .v (Enc.int .i64) a1), (2, .v (Enc.int .i64) a2), (3, .v (Enc.int .i64) a3)], []⟩) (J.cons (.none rfl) (JO.assign rfl) rfl rfl (J.fin (Sw.Sub.mk id (.cons rfl (.of_eq rfl) (.cons rfl (.of_eq rfl) (.cons rfl (.of_eq rfl) (.cons rfl (.of_eq rfl) .nil)))) .nil rfl))) ?_
  refine W.seq ?_
  refine W.seq ?_
  refine W.reg (σ' := ⟨[(0, .v (Enc.sl (Enc.int .i64)) a0), (1, .v (Enc.int .i64) a1), (2, .v (Enc.int .i64) a2), (3, .v (Enc.int .i64) a3), (14, .v Enc.bool (cm .gtr (a0.length : Int) (256 : Int)))], []⟩) (J.cons (.none rfl) (JO.move rfl) rfl rfl (J.cons (.none rfl) (JO.len rfl Try.runUnderlying25) rfl rfl (J.cons (.none rfl) (JO.cmp rfl rfl rfl) rfl rfl (J.fin (Sw.Sub.mk id (.cons rfl (.of_eq rfl) (.cons rfl (.of_eq rfl) (.cons rfl (.of_eq rfl) (.cons rfl (.of_eq rfl) (.cons rfl (.of_eq rfl) .nil))))) .nil rfl))))) ?_
  rcases Bool.eq_false_or_eq_true (cm .gtr (a0.length : Int) (256 : Int)) with hc1 | hc1
  · replace h := cond_t hc1 h
    refine W.condT rfl hc1 ?_
    refine W.seq ?_
    refine W.reg (σ' := ⟨[(8, .v Enc.bool true)], []⟩) (J.cons (.none rfl) (JO.assign rfl) rfl rfl (J.fin (Sw.Sub.mk id (.cons rfl (.of_eq rfl) .nil) .nil rfl))) ?_
    refine W.ret ?_
    obtain rfl := Option.some.inj h
    exact XQ.sub (σ' := ⟨[(8, .v Enc.bool true)], []⟩) (Sw.Sub.mk id (.cons rfl (.of_eq rfl) .nil) .nil rfl) (XQ.ret1 hF noR rfl (RV.tmp rfl) .nil rfl)
  · replace h := cond_f hc1 h
    refine W.condF rfl hc1 ?_
    refine W.skip ?_
    refine W.seq ?_
    obtain ⟨v2, hv2, h⟩ := bind_e h
    refine W.reg (σ' := ⟨[(0, .v (Enc.sl (Enc.int .i64)) a0), (1, .v (Enc.int .i64) (ar .add .i64 (1 : Int) v2)), (2, .v (Enc.int .i64) a2), (3, .v (Enc.int .i64) a3)], []⟩) (J.cons (.none rfl) (JO.move rfl) rfl rfl (J.cons (.none rfl) (JO.call0 (con_ref_Pick hv2) Try.call23 (.cons (.dir rfl) (.cons (.dir rfl) .nil))) rfl rfl (J.cons (.none rfl) (JO.arith rfl rfl rfl) rfl rfl (J.cons (.none rfl) (JO.assign rfl) rfl rfl (J.fin (Sw.Sub.mk id (.cons rfl (.of_eq rfl) (.cons rfl (.of_eq rfl) (.cons rfl (.of_eq rfl) (.cons rfl (.of_eq rfl) .nil)))) .nil rfl)))))) ?_
    refine W.seq ?_
    obtain ⟨v3, hv3, h⟩ := bind_e h
    obtain ⟨v4, hv4, h⟩ := bind_e h
    refine W.reg (σ' := ⟨[(0, .v (Enc.sl (Enc.int .i64)) a0), (1, .v (Enc.int .i64) (ar .add .i64 (1 : Int) v2)), (2, .v (Enc.int .i64) a2), (3, .v (Enc.int .i64) a3), (9, .v (Enc.sl eBlk) v4)], []⟩) (J.cons (.none rfl) (JO.move rfl) rfl rfl (J.cons (.none rfl) (JO.move rfl) rfl rfl (J.cons (.none rfl) (JO.call0 (con_ref_Pick hv3) Try.call23 (.cons (.dir rfl) (.cons (.dir rfl) .nil))) rfl rfl (J.cons (.none rfl) (JO.move rfl) rfl rfl (J.cons (.none rfl) (JO.call0 (con_ref_BlocksFrom hv4) Try.call24 (.cons (.dir rfl) (.cons (.dir rfl) (.cons (.dir rfl) .nil)))) rfl rfl (J.cons (.none rfl) (JO.assign rfl) rfl rfl (J.fin (Sw.Sub.mk id (.cons rfl (.of_eq rfl) (.cons rfl (.of_eq rfl) (.cons rfl (.of_eq rfl) (.cons rfl (.of_eq rfl) (.cons rfl (.of_eq rfl) .nil))))) .nil rfl)))))))) ?_
    refine W.seq ?_
    obtain ⟨v5, hv5, h⟩ := bind_e h
    refine W.reg (σ' := ⟨[(0, .v (Enc.sl (Enc.int .i64)) a0), (1, .v (Enc.int .i64) (ar .add .i64 (1 : Int) v2)), (2, .v (Enc.int .i64) a2), (3, .v (Enc.int .i64) a3), (9, .v (Enc.sl eBlk) v4), (10, .ref 104000)], [(104000, .arr 56 eBlk v5)]⟩) (J.cons (.none rfl) (JO.move rfl) rfl rfl (J.cons (.none rfl) (JO.call 104000 (con_ref_OwnBlocks hv5) Try.call28 (.cons (.dir rfl) .nil) rfl) rfl rfl (J.cons (.none rfl) (JO.assign rfl) rfl rfl (J.fin (Sw.Sub.mk id (.cons rfl (.of_eq rfl) (.cons rfl (.of_eq rfl) (.cons rfl (.of_eq rfl) (.cons rfl (.of_eq rfl) (.cons rfl (.of_eq rfl) (.cons rfl (.of_eq rfl) .nil)))))) (.arr rfl .nil) rfl))))) ?_
    refine W.seq ?_
    refine W.seq ?_
    refine W.reg (σ' := ⟨[(0, .v (Enc.sl (Enc.int .i64)) a0), (1, .v (Enc.int .i64) (ar .add .i64 (1 : Int) v2)), (2, .v (Enc.int .i64) a2), (3, .v (Enc.int .i64) a3), (9, .v (Enc.sl eBlk) v4), (10, .ref 104000), (11, .v (Enc.int .i64) (0 : Int))], [(104000, .arr 56 eBlk v5)]⟩) (J.cons (.none rfl) (JO.assign rfl) rfl rfl (J.fin (Sw.Sub.mk id (.cons rfl (.of_eq rfl) (.cons rfl (.of_eq rfl) (.cons rfl (.of_eq rfl) (.cons rfl (.of_eq rfl) (.cons rfl (.of_eq rfl) (.cons rfl (.of_eq rfl) (.cons rfl (.of_eq rfl) .nil))))))) (.arr rfl .nil) rfl))) ?_
    obtain ⟨o27, ho27, hb27, hr27⟩ := lp_elim h
    refine W.lp (σs := fun s20 : Int × (List Blk) => ⟨[(0, .v (Enc.sl (Enc.int .i64)) a0), (1, .v (Enc.int .i64) (ar .add .i64 (1 : Int) v2)), (2, .v (Enc.int .i64) a2), (3, .v (Enc.int .i64) a3), (9, .v (Enc.sl eBlk) v4), (10, .ref 104000), (11, .v (Enc.int .i64) s20.1)], [(104000, .arr 56 eBlk s20.2)]⟩) (fun x28 : (List Blk) => ⟨[(1, .v (Enc.int .i64) (ar .add .i64 (1 : Int) v2)), (2, .v (Enc.int .i64) a2), (9, .v (Enc.sl eBlk) v4), (10, .ref 104000)], [(104000, .arr 56 eBlk x28)]⟩) ho27 (Sw.Sub.mk id (.cons rfl (.of_eq rfl) (.cons rfl (.of_eq rfl) (.cons rfl (.of_eq rfl) (.cons rfl (.of_eq rfl) (.cons rfl (.of_eq rfl) (.cons rfl (.of_eq rfl) (.cons rfl (.of_eq rfl) .nil))))))) (.arr rfl .nil) rfl) ?_ ?_
    · intro x28 hy
      have h := hb27 _ hy
      refine W.seq ?_
      refine W.sub (σ' := ⟨[(1, .v (Enc.int .i64) (ar .add .i64 (1 : Int) v2)), (2, .v (Enc.int .i64) a2), (9, .v (Enc.sl eBlk) v4), (10, .v (Enc.sl eBlk) x28)], []⟩) (Sw.Sub.mk id (.cons rfl (.of_eq rfl) (.cons rfl (.of_eq rfl) (.cons rfl (.of_eq rfl) (.cons rfl (.frz rfl rfl) .nil)))) .nil rfl) ?_
      obtain ⟨x49, hx, h⟩ := bind_e h
      refine W.mg (σ' := ⟨[(8, .v Enc.bool x49)], []⟩) ?_ ?_
      · intro hk
        obtain ⟨v50, hv50, hx⟩ := bind_e hx
        rcases Bool.eq_false_or_eq_true v50 with hc51 | hc51
        · replace hx := cond_t hc51 hx
          obtain ⟨v52, hv52, hx⟩ := bind_e hx
          obtain ⟨v53, hv53, hx⟩ := bind_e hx
          obtain ⟨v54, hv54, hx⟩ := bind_e hx
          rcases Bool.eq_false_or_eq_true v54 with hc55 | hc55
          · replace hx := cond_t hc55 hx
            obtain ⟨v56, hv56, hx⟩ := bind_e hx
            obtain ⟨v57, hv57, hx⟩ := bind_e hx
            obtain ⟨z58, hz58, hx⟩ := bind_e hx
            obtain ⟨v59, hv59, hx⟩ := bind_e hx
            obtain rfl := Option.some.inj hx
            exact W.dr2 (σ' := ⟨[(8, .v Enc.bool v59)], []⟩) 23 [0, 1, 3, 7, 15, 7, 63, 127, 255, 511, 1023, 2047, 1023, 1023, 9215, 32767, 65535, 1023, 132095, 394239, 1048575, 2097151, 4194303] mixed (by exact (.cons (.none rfl) (JO.move rfl) rfl rfl (.cons (.none rfl) (JO.call0 (con_law_TreeSays hv50) Try.call31 (.cons (.dir rfl) (.cons (.nilS _) .nil))) rfl rfl (.cons (.none rfl) (JO.move rfl) rfl rfl (.cons (GK.met 45 rfl rfl rfl hc51) (JO.move rfl) rfl rfl (.cons (GK.met 45 rfl rfl rfl hc51) (JO.call0 (con_ref_TreeOf hv52) Try.call33 (.cons (.dir rfl) .nil)) rfl rfl (.cons (GK.met 45 rfl rfl rfl hc51) (JO.move rfl) rfl rfl (.cons (GK.met 45 rfl rfl rfl hc51) (JO.call0 (con_ref_TreeOf hv53) Try.call33 (.cons (.dir rfl) .nil)) rfl rfl (.cons (GK.met 45 rfl rfl rfl hc51) (JO.call0 (con_law_TreeDiffs hv54) Try.call32 (.cons (.dir rfl) (.cons (.dir rfl) .nil))) rfl rfl (.cons (.none rfl) (JO.pT hc51 rfl rfl) rfl rfl (.cons (.none rfl) (JO.move rfl) rfl rfl (.cons (GK.met 52 rfl rfl rfl hc55) (JO.move rfl) rfl rfl (.cons (GK.met 52 rfl rfl rfl hc55) (JO.call0 (con_ref_TreeOf hv56) Try.call33 (.cons (.dir rfl) .nil)) rfl rfl (.cons (GK.met 52 rfl rfl rfl hc55) (JO.move rfl) rfl rfl (.cons (GK.met 52 rfl rfl rfl hc55) (JO.move rfl) rfl rfl (.cons (GK.met 52 rfl rfl rfl hc55) (JO.arith rfl rfl rfl) rfl rfl (.cons (GK.met 52 rfl rfl rfl hc55) (JO.call0 (con_ref_Pick hv57) Try.call23 (.cons (.dir rfl) (.cons (.dir rfl) .nil))) rfl rfl (.cons (GK.met 52 rfl rfl rfl hc55) (JO.arith rfl rfl rfl) rfl rfl (.cons (GK.met 52 rfl rfl rfl hc55) (JO.move rfl) rfl rfl (.cons (GK.met 52 rfl rfl rfl hc55) (JO.idx hz58 rfl rfl Try.runUnderlying26 Try.sizeOf56) rfl rfl (.cons (GK.met 52 rfl rfl rfl hc55) (JO.loadPst rfl Try.isAgg56 Try.sizeOf56) rfl rfl (.cons (GK.met 52 rfl rfl rfl hc55) (JO.call0 (con_law_TreePuts hv59) Try.call34 (.cons (.dir rfl) (.cons (.dir rfl) (.cons (.dir rfl) .nil)))) rfl rfl (.cons (.none rfl) (JO.pT hc55 rfl rfl) rfl rfl (.cons (.none rfl) (JO.assign rfl) rfl rfl .nil)))))))))))))))))))))))) (by exact (J.fin (Sw.Sub.mk id (.cons rfl (.of_eq rfl) .nil) .nil rfl))) rfl (by decide +kernel) (by decide +kernel) (by decide +kernel) (by kernel_rfl) hk
          · replace hx := cond_f hc55 hx
            obtain rfl := Option.some.inj hx
            exact W.dr2 (σ' := ⟨[(8, .v Enc.bool false)], []⟩) 23 [0, 1, 3, 7, 15, 7, 63, 127, 255, 511, 1023, 2047, 1023, 1023, 9215, 32767, 65535, 1023, 132095, 394239, 1048575, 2097151, 4194303] mixed (by exact (.cons (.none rfl) (JO.move rfl) rfl rfl (.cons (.none rfl) (JO.call0 (con_law_TreeSays hv50) Try.call31 (.cons (.dir rfl) (.cons (.nilS _) .nil))) rfl rfl (.cons (.none rfl) (JO.move rfl) rfl rfl (.cons (GK.met 45 rfl rfl rfl hc51) (JO.move rfl) rfl rfl (.cons (GK.met 45 rfl rfl rfl hc51) (JO.call0 (con_ref_TreeOf hv52) Try.call33 (.cons (.dir rfl) .nil)) rfl rfl (.cons (GK.met 45 rfl rfl rfl hc51) (JO.move rfl) rfl rfl (.cons (GK.met 45 rfl rfl rfl hc51) (JO.call0 (con_ref_TreeOf hv53) Try.call33 (.cons (.dir rfl) .nil)) rfl rfl (.cons (GK.met 45 rfl rfl rfl hc51) (JO.call0 (con_law_TreeDiffs hv54) Try.call32 (.cons (.dir rfl) (.cons (.dir rfl) .nil))) rfl rfl (.cons (.none rfl) (JO.pT hc51 rfl rfl) rfl rfl (.cons (.none rfl) (JO.move rfl) rfl rfl (.left (GK.unmet 52 rfl rfl rfl hc55) rfl (.left (GK.unmet 52 rfl rfl rfl hc55) rfl (.left (GK.unmet 52 rfl rfl rfl hc55) rfl (.left (GK.unmet 52 rfl rfl rfl hc55) rfl (.left (GK.unmet 52 rfl rfl rfl hc55) rfl (.left (GK.unmet 52 rfl rfl rfl hc55) rfl (.left (GK.unmet 52 rfl rfl rfl hc55) rfl (.left (GK.unmet 52 rfl rfl rfl hc55) rfl (.left (GK.unmet 52 rfl rfl rfl hc55) rfl (.left (GK.unmet 52 rfl rfl rfl hc55) rfl (.left (GK.unmet 52 rfl rfl rfl hc55) rfl (.cons (.none rfl) (JO.pF hc55 rfl rfl) rfl rfl (.cons (.none rfl) (JO.assign rfl) rfl rfl .nil)))))))))))))))))))))))) (by exact (J.fin (Sw.Sub.mk id (.cons rfl (.of_eq rfl) .nil) .nil rfl))) rfl (by decide +kernel) (by decide +kernel) (by decide +kernel) (by kernel_rfl) hk
        · replace hx := cond_f hc51 hx
          obtain rfl := Option.some.inj hx
          exact W.dr2 (σ' := ⟨[(8, .v Enc.bool false)], []⟩) 23 [0, 1, 3, 7, 15, 7, 63, 127, 255, 511, 1023, 2047, 1023, 1023, 9215, 32767, 65535, 1023, 132095, 394239, 1048575, 2097151, 4194303] mixed (by exact (.cons (.none rfl) (JO.move rfl) rfl rfl (.cons (.none rfl) (JO.call0 (con_law_TreeSays hv50) Try.call31 (.cons (.dir rfl) (.cons (.nilS _) .nil))) rfl rfl (.cons (.none rfl) (JO.move rfl) rfl rfl (.left (GK.unmet 45 rfl rfl rfl hc51) rfl (.left (GK.unmet 45 rfl rfl rfl hc51) rfl (.left (GK.unmet 45 rfl rfl rfl hc51) rfl (.left (GK.unmet 45 rfl rfl rfl hc51) rfl (.left (GK.unmet 45 rfl rfl rfl hc51) rfl (.cons (.none rfl) (JO.pF hc51 rfl rfl) rfl rfl (.cons (.none rfl) (JO.move rfl) rfl rfl (.left (GK.unmet 52 rfl rfl rfl rfl) rfl (.left (GK.unmet 52 rfl rfl rfl rfl) rfl (.left (GK.unmet 52 rfl rfl rfl rfl) rfl (.left (GK.unmet 52 rfl rfl rfl rfl) rfl (.left (GK.unmet 52 rfl rfl rfl rfl) rfl (.left (GK.unmet 52 rfl rfl rfl rfl) rfl (.left (GK.unmet 52 rfl rfl rfl rfl) rfl (.left (GK.unmet 52 rfl rfl rfl rfl) rfl (.left (GK.unmet 52 rfl rfl rfl rfl) rfl (.left (GK.unmet 52 rfl rfl rfl rfl) rfl (.left (GK.unmet 52 rfl rfl rfl rfl) rfl (.cons (.none rfl) (JO.pF rfl rfl rfl) rfl rfl (.cons (.none rfl) (JO.assign rfl) rfl rfl .nil)))))))))))))))))))))))) (by exact (J.fin (Sw.Sub.mk id (.cons rfl (.of_eq rfl) .nil) .nil rfl))) rfl (by decide +kernel) (by decide +kernel) (by decide +kernel) (by kernel_rfl) hk
      refine W.ret ?_
      obtain rfl := Option.some.inj h
      exact XQ.sub (σ' := ⟨[(8, .v Enc.bool x49)], []⟩) (Sw.Sub.mk id (.cons rfl (.of_eq rfl) .nil) .nil rfl) (XQ.ret1 hF noR rfl (RV.tmp rfl) .nil rfl)
    intro s20 r27 h
    refine W.seq ?_
    refine W.seq ?_
    obtain ⟨v29, hv29, h⟩ := bind_e h
    refine W.reg (σ' := ⟨[(0, .v (Enc.sl (Enc.int .i64)) a0), (1, .v (Enc.int .i64) (ar .add .i64 (1 : Int) v2)), (2, .v (Enc.int .i64) a2), (3, .v (Enc.int .i64) a3), (9, .v (Enc.sl eBlk) v4), (10, .ref 104000), (11, .v (Enc.int .i64) s20.1), (28, .v Enc.bool (cm .lss s20.1 v29))], [(104000, .arr 56 eBlk s20.2)]⟩) (J.cons (.none rfl) (JO.move rfl) rfl rfl (J.cons (.none rfl) (JO.move rfl) rfl rfl (J.cons (.none rfl) (JO.call0 (con_ref_Pick hv29) Try.call23 (.cons (.dir rfl) (.cons (.dir rfl) .nil))) rfl rfl (J.cons (.none rfl) (JO.cmp rfl rfl rfl) rfl rfl (J.fin (Sw.Sub.mk id (.cons rfl (.of_eq rfl) (.cons rfl (.of_eq rfl) (.cons rfl (.of_eq rfl) (.cons rfl (.of_eq rfl) (.cons rfl (.of_eq rfl) (.cons rfl (.of_eq rfl) (.cons rfl (.of_eq rfl) (.cons rfl (.of_eq rfl) .nil)))))))) (.arr rfl .nil) rfl)))))) ?_
    rcases Bool.eq_false_or_eq_true (cm .lss s20.1 v29) with hc30 | hc30
    · replace h := cond_t hc30 h
      refine W.condT rfl hc30 ?_
      refine W.skip ?_
      refine W.seq ?_
      refine W.block ?_
      obtain ⟨v31, hv31, h⟩ := bind_e h
      obtain ⟨v32, hv32, h⟩ := bind_e h
      obtain ⟨v33, hv33, h⟩ := bind_e h
      obtain ⟨z34, hz34, h⟩ := bind_e h
      refine W.reg (σ' := ⟨[(0, .v (Enc.sl (Enc.int .i64)) a0), (1, .v (Enc.int .i64) (ar .add .i64 (1 : Int) v2)), (2, .v (Enc.int .i64) a2), (3, .v (Enc.int .i64) a3), (9, .v (Enc.sl eBlk) v4), (10, .ref 104000), (11, .v (Enc.int .i64) s20.1)], [(104000, .arr 56 eBlk (List.set s20.2 (Int.toNat v32) v33))]⟩) (J.cons (.none rfl) (JO.move rfl) rfl rfl (J.cons (.none rfl) (JO.move rfl) rfl rfl (J.cons (.none rfl) (JO.move rfl) rfl rfl (J.cons (.none rfl) (JO.arith rfl rfl rfl) rfl rfl (J.cons (.none rfl) (JO.call0 (con_ref_Raw hv31) Try.call30 (.cons (.dir rfl) (.cons (.dir rfl) .nil))) rfl rfl (J.cons (.none rfl) (JO.move rfl) rfl rfl (J.cons (.none rfl) (JO.call0 (con_ref_Pick hv32) Try.call23 (.cons (.dir rfl) (.cons (.dir rfl) .nil))) rfl rfl (J.cons (.none rfl) (JO.move rfl) rfl rfl (J.cons (.none rfl) (JO.move rfl) rfl rfl (J.cons (.none rfl) (JO.arith rfl rfl rfl) rfl rfl (J.cons (.none rfl) (JO.call0 (con_ref_BlockFrom hv33) Try.call29 (.cons (.dir rfl) (.cons (.dir rfl) .nil))) rfl rfl (J.cons (.none rfl) (JO.idxR hz34 rfl rfl rfl Try.runUnderlying26 Try.sizeOf56) rfl rfl (J.mut (.none rfl) (JM.storeEl (idx_some hz34).2.2 rfl rfl rfl Try.sizeOf56) (J.fin (Sw.Sub.mk id (.cons rfl (.of_eq rfl) (.cons rfl (.of_eq rfl) (.cons rfl (.of_eq rfl) (.cons rfl (.of_eq rfl) (.cons rfl (.of_eq rfl) (.cons rfl (.of_eq rfl) (.cons rfl (.of_eq rfl) .nil))))))) (.arr rfl .nil) rfl))))))))))))))) ?_
      refine W.fall ?_
      refine W.reg (σ' := ⟨[(0, .v (Enc.sl (Enc.int .i64)) a0), (1, .v (Enc.int .i64) (ar .add .i64 (1 : Int) v2)), (2, .v (Enc.int .i64) a2), (3, .v (Enc.int .i64) a3), (9, .v (Enc.sl eBlk) v4), (10, .ref 104000), (11, .v (Enc.int .i64) (ar .add .i64 s20.1 (1 : Int)))], [(104000, .arr 56 eBlk (List.set s20.2 (Int.toNat v32) v33))]⟩) (J.cons (.none rfl) (JO.move rfl) rfl rfl (J.cons (.none rfl) (JO.arith rfl rfl rfl) rfl rfl (J.cons (.none rfl) (JO.assign rfl) rfl rfl (J.fin (Sw.Sub.mk id (.cons rfl (.of_eq rfl) (.cons rfl (.of_eq rfl) (.cons rfl (.of_eq rfl) (.cons rfl (.of_eq rfl) (.cons rfl (.of_eq rfl) (.cons rfl (.of_eq rfl) (.cons rfl (.of_eq rfl) .nil))))))) (.arr rfl .nil) rfl))))) ?_
      obtain rfl := Option.some.inj h
      exact W.next (Sw.Sub.mk id (.cons rfl (.of_eq rfl) (.cons rfl (.of_eq rfl) (.cons rfl (.of_eq rfl) (.cons rfl (.of_eq rfl) (.cons rfl (.of_eq rfl) (.cons rfl (.of_eq rfl) (.cons rfl (.of_eq rfl) .nil))))))) (.arr rfl .nil) rfl)
    · replace h := cond_f hc30 h
      refine W.condF rfl hc30 ?_
      refine W.exit ?_
      obtain rfl := Option.some.inj h
      exact XQ.brk (Sw.Sub.mk id (.cons rfl (.of_eq rfl) (.cons rfl (.of_eq rfl) (.cons rfl (.of_eq rfl) (.cons rfl (.of_eq rfl) .nil)))) (.arr rfl .nil) rfl)
end Go.Cn
