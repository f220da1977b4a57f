/- The functions that this law reaches come to what their models come to. Conditions: none. -/
import Derived.Test.YteckohdbfkhmdaaCnATopDiff
set_option linter.unusedVariables false
set_option linter.unusedSimpArgs false
namespace Go.Cn
open Go Go.Sw Go.Mo Go.Proofs
set_option maxRecDepth 100000 in
set_option maxHeartbeats 4000000 in
theorem con_law_TreeDiffs {a0 : ((List (List Int)))} {a1 : ((List (List Int)))} {r : Bool} (h : m_law_TreeDiffs a0 a1 = some r) :
    Con Try.prog 10 [.v (Enc.one1 (Enc.sl (Enc.sl (Enc.int .u64)))) a0, .v (Enc.one1 (Enc.sl (Enc.sl (Enc.int .u64)))) a1] (.v Enc.bool r) [] := by
  refine Con.of Try.func10 rfl Try.ntmps10 rfl ?_
  intro S w hF
  unfold m_law_TreeDiffs at h
  refine W.seq ?_
  refine W.reg (σ' := ⟨[(2, .ptr 101 0), (3, .ptr 102 0)], [(101, .box 71 [.v (Enc.sl (Enc.sl (Enc.int .u64))) a0]), (102, .box 71 [.v (Enc.sl (Enc.sl (Enc.int .u64))) a1])]⟩) (J.cons (.none rfl) (JO.box 101 rfl (.one1 (.one _ _)) rfl) rfl rfl (J.cons (.none rfl) (JO.box 102 rfl (.one1 (.one _ _)) rfl) rfl rfl (J.cons (.none rfl) (JO.assign rfl) rfl rfl (J.fin (Sw.Sub.mk id (.cons rfl (.of_eq rfl) (.cons rfl (.of_eq rfl) .nil)) (.box rfl (.cons (.of_eq rfl) .nil) (.box rfl (.cons (.of_eq rfl) .nil) .nil)) rfl))))) ?_
  refine W.seq ?_
  refine W.seq ?_
  obtain ⟨x4, hx, h⟩ := bind_e h
  refine W.reg (σ' := ⟨[(2, .ptr 101 0), (3, .ptr 102 0), (16, .v Enc.bool x4)], [(101, .box 71 [.v (Enc.sl (Enc.sl (Enc.int .u64))) a0]), (102, .box 71 [.v (Enc.sl (Enc.sl (Enc.int .u64))) a1])]⟩) ?_ ?_
  · obtain ⟨v5, hv5, hx⟩ := bind_e hx
    rcases Bool.eq_false_or_eq_true v5 with hc6 | hc6
    · replace hx := cond_t hc6 hx
      obtain rfl := Option.some.inj hx
      exact (J.cons (.none rfl) (JO.loadAll rfl rfl (.one1 (.one _ _)) Try.isAgg71 Try.sizeOf71) rfl rfl (J.cons (.none rfl) (JO.call0 (con_law_hugeTree hv5) Try.call50 (.cons (.dir rfl) .nil)) rfl rfl (J.cons (.none rfl) (JO.move rfl) rfl rfl (J.left (GK.unmet 13 rfl rfl rfl hc6) rfl (J.left (GK.unmet 13 rfl rfl rfl hc6) rfl (J.cons (.none rfl) (JO.pT hc6 rfl rfl) rfl rfl (J.fin (Sw.Sub.mk id (.cons rfl (.of_eq rfl) (.cons rfl (.of_eq rfl) (.cons rfl (.of_eq rfl) .nil))) (.box rfl (.cons (.of_eq rfl) .nil) (.box rfl (.cons (.of_eq rfl) .nil) .nil)) rfl))))))))
    · replace hx := cond_f hc6 hx
      obtain ⟨v7, hv7, hx⟩ := bind_e hx
      obtain rfl := Option.some.inj hx
      exact (J.cons (.none rfl) (JO.loadAll rfl rfl (.one1 (.one _ _)) Try.isAgg71 Try.sizeOf71) rfl rfl (J.cons (.none rfl) (JO.call0 (con_law_hugeTree hv5) Try.call50 (.cons (.dir rfl) .nil)) rfl rfl (J.cons (.none rfl) (JO.move rfl) rfl rfl (J.cons (GK.met 13 rfl rfl rfl hc6) (JO.loadAll rfl rfl (.one1 (.one _ _)) Try.isAgg71 Try.sizeOf71) rfl rfl (J.cons (GK.met 13 rfl rfl rfl hc6) (JO.call0 (con_law_hugeTree hv7) Try.call50 (.cons (.dir rfl) .nil)) rfl rfl (J.cons (.none rfl) (JO.pF hc6 rfl rfl) rfl rfl (J.fin (Sw.Sub.mk id (.cons rfl (.of_eq rfl) (.cons rfl (.of_eq rfl) (.cons rfl (.of_eq rfl) .nil))) (.box rfl (.cons (.of_eq rfl) .nil) (.box rfl (.cons (.of_eq rfl) .nil) .nil)) rfl))))))))
  rcases Bool.eq_false_or_eq_true x4 with hc8 | hc8
  · replace h := cond_t hc8 h
    refine W.condT rfl hc8 ?_
    refine W.seq ?_
    refine W.reg (σ' := ⟨[(4, .v Enc.bool true)], []⟩) (J.cons (.none rfl) (JO.assign rfl) rfl rfl (J.fin (Sw.Sub.mk id (.cons rfl (.of_eq rfl) .nil) .nil rfl))) ?_
    refine W.ret ?_
    obtain rfl := Option.some.inj h
    exact XQ.sub (σ' := ⟨[(4, .v Enc.bool true)], []⟩) (Sw.Sub.mk id (.cons rfl (.of_eq rfl) .nil) .nil rfl) (XQ.ret1 hF noR rfl (RV.tmp rfl) .nil rfl)
  · replace h := cond_f hc8 h
    refine W.condF rfl hc8 ?_
    refine W.skip ?_
    refine W.seq ?_
    obtain ⟨v9, hv9, h⟩ := bind_e h
    refine W.reg (σ' := ⟨[(2, .ptr 101 0), (3, .ptr 102 0), (5, .v (Enc.int .i64) v9)], [(101, .box 71 [.v (Enc.sl (Enc.sl (Enc.int .u64))) a0]), (102, .box 71 [.v (Enc.sl (Enc.sl (Enc.int .u64))) a1])]⟩) (J.cons (.none rfl) (JO.loadAll rfl rfl (.one1 (.one _ _)) Try.isAgg71 Try.sizeOf71) rfl rfl (J.cons (.none rfl) (JO.call0 (con_ref_TreeMay hv9) Try.call51 (.cons (.dir rfl) .nil)) rfl rfl (J.cons (.none rfl) (JO.assign rfl) rfl rfl (J.fin (Sw.Sub.mk id (.cons rfl (.of_eq rfl) (.cons rfl (.of_eq rfl) (.cons rfl (.of_eq rfl) .nil))) (.box rfl (.cons (.of_eq rfl) .nil) (.box rfl (.cons (.of_eq rfl) .nil) .nil)) rfl))))) ?_
    refine W.seq ?_
    refine W.seq ?_
    refine W.reg (σ' := ⟨[(2, .ptr 101 0), (3, .ptr 102 0), (5, .v (Enc.int .i64) v9), (20, .v Enc.bool (cm .eql v9 (0 : Int)))], [(101, .box 71 [.v (Enc.sl (Enc.sl (Enc.int .u64))) a0]), (102, .box 71 [.v (Enc.sl (Enc.sl (Enc.int .u64))) a1])]⟩) (J.cons (.none rfl) (JO.move rfl) rfl rfl (J.cons (.none rfl) (JO.cmp rfl rfl rfl) rfl rfl (J.fin (Sw.Sub.mk id (.cons rfl (.of_eq rfl) (.cons rfl (.of_eq rfl) (.cons rfl (.of_eq rfl) (.cons rfl (.of_eq rfl) .nil)))) (.box rfl (.cons (.of_eq rfl) .nil) (.box rfl (.cons (.of_eq rfl) .nil) .nil)) rfl)))) ?_
    obtain ⟨k12, hk12, h⟩ := jp_elim h
    refine W.jn (fun x13 : Int => ⟨[(2, .ptr 101 0), (3, .ptr 102 0), (5, .v (Enc.int .i64) x13)], [(101, .box 71 [.v (Enc.sl (Enc.sl (Enc.int .u64))) a0]), (102, .box 71 [.v (Enc.sl (Enc.sl (Enc.int .u64))) a1])]⟩) (fun x => k12 x = some r) rfl ?_ ?_ ?_
    · intro x13 h
      rw [hk12] at h
      refine W.seq ?_
      refine W.seq ?_
      obtain ⟨x18, hx, h⟩ := bind_e h
      refine W.mg (σ' := ⟨[(2, .ptr 101 0), (3, .ptr 102 0), (5, .v (Enc.int .i64) x13), (37, .v Enc.bool x18)], [(101, .box 71 [.v (Enc.sl (Enc.sl (Enc.int .u64))) a0]), (102, .box 71 [.v (Enc.sl (Enc.sl (Enc.int .u64))) a1])]⟩) ?_ ?_
      · intro hk
        rcases Bool.eq_false_or_eq_true (cm .eql x13 (0 : Int)) with hc19 | hc19
        · replace hx := cond_t hc19 hx
          obtain ⟨z20, hz20, hx⟩ := bind_e hx
          obtain ⟨z21, hz21, hx⟩ := bind_e hx
          obtain rfl := Option.some.inj hx
          exact W.dr2 (σ' := ⟨[(2, .ptr 101 0), (3, .ptr 102 0), (5, .v (Enc.int .i64) x13), (37, .v Enc.bool (cm .neq (z20.length : Int) (z21.length : Int)))], [(101, .box 71 [.v (Enc.sl (Enc.sl (Enc.int .u64))) a0]), (102, .box 71 [.v (Enc.sl (Enc.sl (Enc.int .u64))) a1])]⟩) 15 [0, 1, 3, 7, 15, 31, 63, 127, 7, 263, 775, 1799, 3847, 8191, 16383] mixed (by exact (.cons (.none rfl) (JO.move rfl) rfl rfl (.cons (.none rfl) (JO.cmp rfl rfl rfl) rfl rfl (.cons (.none rfl) (JO.move rfl) rfl rfl (.cons (GK.met 25 rfl rfl rfl hc19) (JO.fieldPtr 0 rfl Try.runUnderlying71 rfl Try.sizeOf69 rfl rfl) rfl rfl (.cons (GK.met 25 rfl rfl rfl hc19) (JO.load rfl rfl rfl Try.isAgg69 Try.sizeOf69) rfl rfl (.cons (GK.met 25 rfl rfl rfl hc19) (JO.idx hz20 rfl rfl Try.runUnderlying69 Try.sizeOf95) rfl rfl (.cons (GK.met 25 rfl rfl rfl hc19) (JO.loadPst rfl Try.isAgg95 Try.sizeOf95) rfl rfl (.cons (GK.met 25 rfl rfl rfl hc19) (JO.len rfl Try.runUnderlying95) rfl rfl (.cons (GK.met 25 rfl rfl rfl hc19) (JO.fieldPtr 0 rfl Try.runUnderlying71 rfl Try.sizeOf69 rfl rfl) rfl rfl (.cons (GK.met 25 rfl rfl rfl hc19) (JO.load rfl rfl rfl Try.isAgg69 Try.sizeOf69) rfl rfl (.cons (GK.met 25 rfl rfl rfl hc19) (JO.idx hz21 rfl rfl Try.runUnderlying69 Try.sizeOf95) rfl rfl (.cons (GK.met 25 rfl rfl rfl hc19) (JO.loadPst rfl Try.isAgg95 Try.sizeOf95) rfl rfl (.cons (GK.met 25 rfl rfl rfl hc19) (JO.len rfl Try.runUnderlying95) rfl rfl (.cons (GK.met 25 rfl rfl rfl hc19) (JO.cmp rfl rfl rfl) rfl rfl (.cons (.none rfl) (JO.pT hc19 rfl rfl) rfl rfl .nil)))))))))))))))) (by exact (J.fin (Sw.Sub.mk id (.cons rfl (.of_eq rfl) (.cons rfl (.of_eq rfl) (.cons rfl (.of_eq rfl) (.cons rfl (.of_eq rfl) .nil)))) (.box rfl (.cons (.of_eq rfl) .nil) (.box rfl (.cons (.of_eq rfl) .nil) .nil)) rfl))) rfl (by decide +kernel) (by decide +kernel) (by decide +kernel) (by kernel_rfl) hk
        · replace hx := cond_f hc19 hx
          obtain rfl := Option.some.inj hx
          exact W.dr2 (σ' := ⟨[(2, .ptr 101 0), (3, .ptr 102 0), (5, .v (Enc.int .i64) x13), (37, .v Enc.bool false)], [(101, .box 71 [.v (Enc.sl (Enc.sl (Enc.int .u64))) a0]), (102, .box 71 [.v (Enc.sl (Enc.sl (Enc.int .u64))) a1])]⟩) 15 [0, 1, 3, 7, 15, 31, 63, 127, 7, 263, 775, 1799, 3847, 8191, 16383] mixed (by exact (.cons (.none rfl) (JO.move rfl) rfl rfl (.cons (.none rfl) (JO.cmp rfl rfl rfl) rfl rfl (.cons (.none rfl) (JO.move rfl) rfl rfl (.left (GK.unmet 25 rfl rfl rfl hc19) rfl (.left (GK.unmet 25 rfl rfl rfl hc19) rfl (.left (GK.unmet 25 rfl rfl rfl hc19) rfl (.left (GK.unmet 25 rfl rfl rfl hc19) rfl (.left (GK.unmet 25 rfl rfl rfl hc19) rfl (.left (GK.unmet 25 rfl rfl rfl hc19) rfl (.left (GK.unmet 25 rfl rfl rfl hc19) rfl (.left (GK.unmet 25 rfl rfl rfl hc19) rfl (.left (GK.unmet 25 rfl rfl rfl hc19) rfl (.left (GK.unmet 25 rfl rfl rfl hc19) rfl (.left (GK.unmet 25 rfl rfl rfl hc19) rfl (.cons (.none rfl) (JO.pF hc19 rfl rfl) rfl rfl .nil)))))))))))))))) (by exact (J.fin (Sw.Sub.mk id (.cons rfl (.of_eq rfl) (.cons rfl (.of_eq rfl) (.cons rfl (.of_eq rfl) (.cons rfl (.of_eq rfl) .nil)))) (.box rfl (.cons (.of_eq rfl) .nil) (.box rfl (.cons (.of_eq rfl) .nil) .nil)) rfl))) rfl (by decide +kernel) (by decide +kernel) (by decide +kernel) (by kernel_rfl) hk
      obtain ⟨k23, hk23, h⟩ := jp_elim h
      refine W.jn (fun x24 : Int => ⟨[(2, .ptr 101 0), (3, .ptr 102 0), (5, .v (Enc.int .i64) x24)], [(101, .box 71 [.v (Enc.sl (Enc.sl (Enc.int .u64))) a0]), (102, .box 71 [.v (Enc.sl (Enc.sl (Enc.int .u64))) a1])]⟩) (fun x => k23 x = some r) rfl ?_ ?_ ?_
      · intro x24 h
        rw [hk23] at h
        refine W.seq ?_
        refine W.reg (σ' := ⟨[(2, .ptr 101 0), (3, .ptr 102 0), (5, .v (Enc.int .i64) x24), (6, .v (Enc.sl (Enc.int .i64)) ([] : (List Int)))], [(101, .box 71 [.v (Enc.sl (Enc.sl (Enc.int .u64))) a0]), (102, .box 71 [.v (Enc.sl (Enc.sl (Enc.int .u64))) a1])]⟩) (J.cons (.none rfl) (JO.assignNil (Enc.int .i64)) rfl rfl (J.fin (Sw.Sub.mk id (.cons rfl (.of_eq rfl) (.cons rfl (.of_eq rfl) (.cons rfl (.of_eq rfl) (.cons rfl (.of_eq rfl) .nil)))) (.box rfl (.cons (.of_eq rfl) .nil) (.box rfl (.cons (.of_eq rfl) .nil) .nil)) rfl))) ?_
        refine W.seq ?_
        refine W.reg (σ' := ⟨[(2, .ptr 101 0), (3, .ptr 102 0), (5, .v (Enc.int .i64) x24), (6, .v (Enc.sl (Enc.int .i64)) ([] : (List Int))), (7, .v (Enc.int .i64) (0 : Int))], [(101, .box 71 [.v (Enc.sl (Enc.sl (Enc.int .u64))) a0]), (102, .box 71 [.v (Enc.sl (Enc.sl (Enc.int .u64))) a1])]⟩) (J.cons (.none rfl) (JO.assign rfl) rfl rfl (J.fin (Sw.Sub.mk id (.cons rfl (.of_eq rfl) (.cons rfl (.of_eq rfl) (.cons rfl (.of_eq rfl) (.cons rfl (.of_eq rfl) (.cons rfl (.of_eq rfl) .nil))))) (.box rfl (.cons (.of_eq rfl) .nil) (.box rfl (.cons (.of_eq rfl) .nil) .nil)) rfl))) ?_
        refine W.seq ?_
        refine W.seq ?_
        refine W.reg (σ' := ⟨[(2, .ptr 101 0), (3, .ptr 102 0), (5, .v (Enc.int .i64) x24), (6, .v (Enc.sl (Enc.int .i64)) ([] : (List Int))), (7, .v (Enc.int .i64) (0 : Int)), (39, .v Enc.bool (cm .eql x24 (0 : Int)))], [(101, .box 71 [.v (Enc.sl (Enc.sl (Enc.int .u64))) a0]), (102, .box 71 [.v (Enc.sl (Enc.sl (Enc.int .u64))) a1])]⟩) (J.cons (.none rfl) (JO.move rfl) rfl rfl (J.cons (.none rfl) (JO.cmp rfl rfl rfl) rfl rfl (J.fin (Sw.Sub.mk id (.cons rfl (.of_eq rfl) (.cons rfl (.of_eq rfl) (.cons rfl (.of_eq rfl) (.cons rfl (.of_eq rfl) (.cons rfl (.of_eq rfl) (.cons rfl (.of_eq rfl) .nil)))))) (.box rfl (.cons (.of_eq rfl) .nil) (.box rfl (.cons (.of_eq rfl) .nil) .nil)) rfl)))) ?_
        obtain ⟨k27, hk27, h⟩ := jp_elim h
        refine W.jn (fun x28 : (List Int) × Int => ⟨[(2, .ptr 101 0), (3, .ptr 102 0), (5, .v (Enc.int .i64) x24), (6, .v (Enc.sl (Enc.int .i64)) x28.1), (7, .v (Enc.int .i64) x28.2)], [(101, .box 71 [.v (Enc.sl (Enc.sl (Enc.int .u64))) a0]), (102, .box 71 [.v (Enc.sl (Enc.sl (Enc.int .u64))) a1])]⟩) (fun x => k27 x = some r) rfl ?_ ?_ ?_
        · intro x28 h
          rw [hk27] at h
          refine W.seq ?_
          obtain ⟨v30, hv30, h⟩ := bind_e h
          refine W.reg (σ' := ⟨[(5, .v (Enc.int .i64) x24), (6, .v (Enc.sl (Enc.int .i64)) x28.1), (7, .v (Enc.int .i64) x28.2), (8, .v (Enc.sl (Enc.int .i64)) v30.1), (9, .v (Enc.int .i64) v30.2.1), (10, .v (Enc.err ET) v30.2.2)], []⟩) (J.cons (.none rfl) (JO.loadAll rfl rfl (.one1 (.one _ _)) Try.isAgg71 Try.sizeOf71) rfl rfl (J.cons (.none rfl) (JO.loadAll rfl rfl (.one1 (.one _ _)) Try.isAgg71 Try.sizeOf71) rfl rfl (J.cons (.none rfl) (JO.call0 (con_tree_Diff hv30) Try.call53 (.cons (.dir rfl) (.cons (.dir rfl) .nil))) rfl rfl (J.cons (.none rfl) (JO.move rfl) rfl rfl (J.cons (.none rfl) (JO.extract rfl rfl) rfl rfl (J.cons (.none rfl) (JO.extract rfl rfl) rfl rfl (J.cons (.none rfl) (JO.extract rfl rfl) rfl rfl (J.cons (.none rfl) (JO.assign rfl) rfl rfl (J.cons (.none rfl) (JO.assign rfl) rfl rfl (J.cons (.none rfl) (JO.assign rfl) rfl rfl (J.fin (Sw.Sub.mk id (.cons rfl (.of_eq rfl) (.cons rfl (.of_eq rfl) (.cons rfl (.of_eq rfl) (.cons rfl (.of_eq rfl) (.cons rfl (.of_eq rfl) (.cons rfl (.of_eq rfl) .nil)))))) .nil rfl)))))))))))) ?_
          refine W.seq ?_
          obtain ⟨x35, hx, h⟩ := bind_e h
          refine W.reg (σ' := ⟨[(4, .v Enc.bool x35)], []⟩) ?_ ?_
          · obtain ⟨v36, hv36, hx⟩ := bind_e hx
            rcases Bool.eq_false_or_eq_true v36 with hc37 | hc37
            · replace hx := cond_t hc37 hx
              obtain ⟨v38, hv38, hx⟩ := bind_e hx
              rcases Bool.eq_false_or_eq_true v38 with hc39 | hc39
              · replace hx := cond_t hc39 hx
                obtain rfl := Option.some.inj hx
                exact (J.cons (.none rfl) (JO.move rfl) rfl rfl (J.cons (.none rfl) (JO.move rfl) rfl rfl (J.cons (.none rfl) (JO.call0 (con_ref_Is hv36) Try.call18 (.cons (.dir rfl) (.cons (.dir rfl) .nil))) rfl rfl (J.cons (.none rfl) (JO.move rfl) rfl rfl (J.cons (GK.met 56 rfl rfl rfl hc37) (JO.move rfl) rfl rfl (J.cons (GK.met 56 rfl rfl rfl hc37) (JO.move rfl) rfl rfl (J.cons (GK.met 56 rfl rfl rfl hc37) (JO.call0 (con_ref_SameInts hv38) Try.call47 (.cons (.dir rfl) (.cons (.dir rfl) .nil))) rfl rfl (J.cons (.none rfl) (JO.pT hc37 rfl rfl) rfl rfl (J.cons (.none rfl) (JO.move rfl) rfl rfl (J.cons (GK.met 61 rfl rfl rfl hc39) (JO.move rfl) rfl rfl (J.cons (GK.met 61 rfl rfl rfl hc39) (JO.move rfl) rfl rfl (J.cons (GK.met 61 rfl rfl rfl hc39) (JO.cmp rfl rfl rfl) rfl rfl (J.cons (.none rfl) (JO.pT hc39 rfl rfl) rfl rfl (J.cons (.none rfl) (JO.assign rfl) rfl rfl (J.fin (Sw.Sub.mk id (.cons rfl (.of_eq rfl) .nil) .nil rfl))))))))))))))))
              · replace hx := cond_f hc39 hx
                obtain rfl := Option.some.inj hx
                exact (J.cons (.none rfl) (JO.move rfl) rfl rfl (J.cons (.none rfl) (JO.move rfl) rfl rfl (J.cons (.none rfl) (JO.call0 (con_ref_Is hv36) Try.call18 (.cons (.dir rfl) (.cons (.dir rfl) .nil))) rfl rfl (J.cons (.none rfl) (JO.move rfl) rfl rfl (J.cons (GK.met 56 rfl rfl rfl hc37) (JO.move rfl) rfl rfl (J.cons (GK.met 56 rfl rfl rfl hc37) (JO.move rfl) rfl rfl (J.cons (GK.met 56 rfl rfl rfl hc37) (JO.call0 (con_ref_SameInts hv38) Try.call47 (.cons (.dir rfl) (.cons (.dir rfl) .nil))) rfl rfl (J.cons (.none rfl) (JO.pT hc37 rfl rfl) rfl rfl (J.cons (.none rfl) (JO.move rfl) rfl rfl (J.left (GK.unmet 61 rfl rfl rfl hc39) rfl (J.left (GK.unmet 61 rfl rfl rfl hc39) rfl (J.left (GK.unmet 61 rfl rfl rfl hc39) rfl (J.cons (.none rfl) (JO.pF hc39 rfl rfl) rfl rfl (J.cons (.none rfl) (JO.assign rfl) rfl rfl (J.fin (Sw.Sub.mk id (.cons rfl (.of_eq rfl) .nil) .nil rfl))))))))))))))))
            · replace hx := cond_f hc37 hx
              obtain rfl := Option.some.inj hx
              exact (J.cons (.none rfl) (JO.move rfl) rfl rfl (J.cons (.none rfl) (JO.move rfl) rfl rfl (J.cons (.none rfl) (JO.call0 (con_ref_Is hv36) Try.call18 (.cons (.dir rfl) (.cons (.dir rfl) .nil))) rfl rfl (J.cons (.none rfl) (JO.move rfl) rfl rfl (J.left (GK.unmet 56 rfl rfl rfl hc37) rfl (J.left (GK.unmet 56 rfl rfl rfl hc37) rfl (J.left (GK.unmet 56 rfl rfl rfl hc37) rfl (J.cons (.none rfl) (JO.pF hc37 rfl rfl) rfl rfl (J.cons (.none rfl) (JO.move rfl) rfl rfl (J.left (GK.unmet 61 rfl rfl rfl rfl) rfl (J.left (GK.unmet 61 rfl rfl rfl rfl) rfl (J.left (GK.unmet 61 rfl rfl rfl rfl) rfl (J.cons (.none rfl) (JO.pF rfl rfl rfl) rfl rfl (J.cons (.none rfl) (JO.assign rfl) rfl rfl (J.fin (Sw.Sub.mk id (.cons rfl (.of_eq rfl) .nil) .nil rfl))))))))))))))))
          refine W.ret ?_
          obtain rfl := Option.some.inj h
          exact XQ.sub (σ' := ⟨[(4, .v Enc.bool x35)], []⟩) (Sw.Sub.mk id (.cons rfl (.of_eq rfl) .nil) .nil rfl) (XQ.ret1 hF noR rfl (RV.tmp rfl) .nil rfl)
        · intro hc25
          replace h := cond_t hc25 h
          obtain ⟨v29, hv29, h⟩ := bind_e h
          refine W.reg (σ' := ⟨[(2, .ptr 101 0), (3, .ptr 102 0), (5, .v (Enc.int .i64) x24), (6, .v (Enc.sl (Enc.int .i64)) v29.1), (7, .v (Enc.int .i64) v29.2)], [(101, .box 71 [.v (Enc.sl (Enc.sl (Enc.int .u64))) a0]), (102, .box 71 [.v (Enc.sl (Enc.sl (Enc.int .u64))) a1])]⟩) (J.cons (.none rfl) (JO.loadAll rfl rfl (.one1 (.one _ _)) Try.isAgg71 Try.sizeOf71) rfl rfl (J.cons (.none rfl) (JO.loadAll rfl rfl (.one1 (.one _ _)) Try.isAgg71 Try.sizeOf71) rfl rfl (J.cons (.none rfl) (JO.call0 (con_ref_Differs hv29) Try.call52 (.cons (.dir rfl) (.cons (.dir rfl) .nil))) rfl rfl (J.cons (.none rfl) (JO.move rfl) rfl rfl (J.cons (.none rfl) (JO.extract rfl rfl) rfl rfl (J.cons (.none rfl) (JO.extract rfl rfl) rfl rfl (J.cons (.none rfl) (JO.assign rfl) rfl rfl (J.cons (.none rfl) (JO.assign rfl) rfl rfl (J.fin (Sw.Sub.mk id (.cons rfl (.of_eq rfl) (.cons rfl (.of_eq rfl) (.cons rfl (.of_eq rfl) (.cons rfl (.of_eq rfl) (.cons rfl (.of_eq rfl) .nil))))) (.box rfl (.cons (.of_eq rfl) .nil) (.box rfl (.cons (.of_eq rfl) .nil) .nil)) rfl)))))))))) ?_
          exact W.jfall h (Sw.Sub.mk id (.cons rfl (.of_eq rfl) (.cons rfl (.of_eq rfl) (.cons rfl (.of_eq rfl) (.cons rfl (.of_eq rfl) (.cons rfl (.of_eq rfl) .nil))))) (.box rfl (.cons (.of_eq rfl) .nil) (.box rfl (.cons (.of_eq rfl) .nil) .nil)) rfl)
        · intro hc25
          replace h := cond_f hc25 h
          refine W.skip ?_
          exact W.jfall h (Sw.Sub.mk id (.cons rfl (.of_eq rfl) (.cons rfl (.of_eq rfl) (.cons rfl (.of_eq rfl) (.cons rfl (.of_eq rfl) (.cons rfl (.of_eq rfl) .nil))))) (.box rfl (.cons (.of_eq rfl) .nil) (.box rfl (.cons (.of_eq rfl) .nil) .nil)) rfl)
      · intro hc22
        replace h := cond_t hc22 h
        refine W.reg (σ' := ⟨[(2, .ptr 101 0), (3, .ptr 102 0), (5, .v (Enc.int .i64) (6 : Int))], [(101, .box 71 [.v (Enc.sl (Enc.sl (Enc.int .u64))) a0]), (102, .box 71 [.v (Enc.sl (Enc.sl (Enc.int .u64))) a1])]⟩) (J.cons (.none rfl) (JO.assign rfl) rfl rfl (J.fin (Sw.Sub.mk id (.cons rfl (.of_eq rfl) (.cons rfl (.of_eq rfl) (.cons rfl (.of_eq rfl) .nil))) (.box rfl (.cons (.of_eq rfl) .nil) (.box rfl (.cons (.of_eq rfl) .nil) .nil)) rfl))) ?_
        exact W.jfall h (Sw.Sub.mk id (.cons rfl (.of_eq rfl) (.cons rfl (.of_eq rfl) (.cons rfl (.of_eq rfl) .nil))) (.box rfl (.cons (.of_eq rfl) .nil) (.box rfl (.cons (.of_eq rfl) .nil) .nil)) rfl)
      · intro hc22
        replace h := cond_f hc22 h
        refine W.skip ?_
        exact W.jfall h (Sw.Sub.mk id (.cons rfl (.of_eq rfl) (.cons rfl (.of_eq rfl) (.cons rfl (.of_eq rfl) .nil))) (.box rfl (.cons (.of_eq rfl) .nil) (.box rfl (.cons (.of_eq rfl) .nil) .nil)) rfl)
    · intro hc10
      replace h := cond_t hc10 h
      obtain ⟨v14, hv14, h⟩ := bind_e h
      refine W.reg (σ' := ⟨[(2, .ptr 101 0), (3, .ptr 102 0), (5, .v (Enc.int .i64) v14)], [(101, .box 71 [.v (Enc.sl (Enc.sl (Enc.int .u64))) a0]), (102, .box 71 [.v (Enc.sl (Enc.sl (Enc.int .u64))) a1])]⟩) (J.cons (.none rfl) (JO.loadAll rfl rfl (.one1 (.one _ _)) Try.isAgg71 Try.sizeOf71) rfl rfl (J.cons (.none rfl) (JO.call0 (con_ref_TreeMay hv14) Try.call51 (.cons (.dir rfl) .nil)) rfl rfl (J.cons (.none rfl) (JO.assign rfl) rfl rfl (J.fin (Sw.Sub.mk id (.cons rfl (.of_eq rfl) (.cons rfl (.of_eq rfl) (.cons rfl (.of_eq rfl) .nil))) (.box rfl (.cons (.of_eq rfl) .nil) (.box rfl (.cons (.of_eq rfl) .nil) .nil)) rfl))))) ?_
      exact W.jfall h (Sw.Sub.mk id (.cons rfl (.of_eq rfl) (.cons rfl (.of_eq rfl) (.cons rfl (.of_eq rfl) .nil))) (.box rfl (.cons (.of_eq rfl) .nil) (.box rfl (.cons (.of_eq rfl) .nil) .nil)) rfl)
    · intro hc10
      replace h := cond_f hc10 h
      refine W.skip ?_
      exact W.jfall h (Sw.Sub.mk id (.cons rfl (.of_eq rfl) (.cons rfl (.of_eq rfl) (.cons rfl (.of_eq rfl) .nil))) (.box rfl (.cons (.of_eq rfl) .nil) (.box rfl (.cons (.of_eq rfl) .nil) .nil)) rfl)
set_option maxRecDepth 100000 in
set_option maxHeartbeats 4000000 in
theorem con_slices_Clone_uint64_uint64_nil {a0 : (Bool × (List Int))} {r : (List Int)} (h : m_slices_Clone_uint64_uint64_nil a0 = some r) :
    Con Try.prog 84 [.v (Enc.slN (Enc.int .u64)) a0] (.ref 0) [(0, .arr 67 (Enc.int .u64) r)] := by
  refine Con.of Try.func84 rfl Try.ntmps84 rfl ?_
  intro S w hF
  unfold m_slices_Clone_uint64_uint64_nil at h
  refine W.seq ?_
  refine W.reg (σ' := ⟨[(0, .v (Enc.slN (Enc.int .u64)) a0)], []⟩) (J.cons (.none rfl) (JO.assignNilR 101 67 (Enc.int .u64)) rfl rfl (J.fin (Sw.Sub.mk id (.cons rfl (.of_eq rfl) .nil) .nil rfl))) ?_
  refine W.seq ?_
  refine W.seq ?_
  refine W.reg (σ' := ⟨[(0, .v (Enc.slN (Enc.int .u64)) a0), (4, .v Enc.bool a0.1)], []⟩) (J.cons (.none rfl) (JO.move rfl) rfl rfl (J.cons (.none rfl) (JO.eqNilS rfl Try.runUnderlying95) rfl rfl (J.fin (Sw.Sub.mk id (.cons rfl (.of_eq rfl) (.cons rfl (.of_eq rfl) .nil)) .nil rfl)))) ?_
  rcases Bool.eq_false_or_eq_true a0.1 with hc1 | hc1
  · replace h := cond_t hc1 h
    refine W.condT rfl hc1 ?_
    refine W.seq ?_
    refine W.reg (σ' := ⟨[(2, .ref 102)], [(102, .arr 67 (Enc.int .u64) ([] : (List Int)))]⟩) (J.cons (.none rfl) (JO.assignNilR 102 67 (Enc.int .u64)) rfl rfl (J.fin (Sw.Sub.mk id (.cons rfl (.of_eq rfl) .nil) (.arr rfl .nil) rfl))) ?_
    refine W.ret ?_
    obtain rfl := Option.some.inj h
    exact XQ.sub (σ' := ⟨[(2, .ref 0)], [(0, .arr 67 (Enc.int .u64) ([] : (List Int)))]⟩) (Sw.Sub.mk (rn [(0, 102)]) (.cons rfl (.of_eq rfl) .nil) (.arr rfl .nil) rfl) (XQ.ret1 hF noR rfl (RV.tmp rfl) (.cons rfl .nil) rfl)
  · replace h := cond_f hc1 h
    refine W.condF rfl hc1 ?_
    refine W.skip ?_
    refine W.seq ?_
    obtain ⟨v2, hv2, h⟩ := bind_e h
    refine W.reg (σ' := ⟨[(2, .ref 104)], [(104, .arr 67 (Enc.int .u64) v2)]⟩) (J.cons (.none rfl) (JO.litR (e := (Enc.int .u64)) 103 Try.runUnderlying95 Try.sizeOf67 Try.zeroValue67 rfl rfl rfl rfl .nil) rfl rfl (J.cons (.none rfl) (JO.move rfl) rfl rfl (J.mut (.none rfl) (JM.append 104 hv2 rfl rfl (.slN rfl) Try.runUnderlying95 Try.typeInfo67 Try.sizeOf67 rfl rfl rfl rfl rfl) (J.cons (.none rfl) (JO.assign rfl) rfl rfl (J.fin (Sw.Sub.mk id (.cons rfl (.of_eq rfl) .nil) (.arr rfl .nil) rfl)))))) ?_
    refine W.ret ?_
    obtain rfl := Option.some.inj h
    exact XQ.sub (σ' := ⟨[(2, .ref 0)], [(0, .arr 67 (Enc.int .u64) v2)]⟩) (Sw.Sub.mk (rn [(0, 104)]) (.cons rfl (.of_eq rfl) .nil) (.arr rfl .nil) rfl) (XQ.ret1 hF noR rfl (RV.tmp rfl) (.cons rfl .nil) rfl)
theorem con_slices_Clone_uint64_uint64 {a0 : (List Int)} {r : (List Int)} (h : m_slices_Clone_uint64_uint64 a0 = some r) :
    Con Try.prog 84 [.v (Enc.sl (Enc.int .u64)) a0] (.ref 0) [(0, .arr 67 (Enc.int .u64) r)] :=
  Con.nilCases fun b hb => con_slices_Clone_uint64_uint64_nil (by cases b with | true => rw [hb rfl] at h ⊢; exact h | false => exact clone_f h)
set_option maxRecDepth 100000 in
set_option maxHeartbeats 4000000 in
theorem con_tree_Put {a0 : ((List (List Int)))} {a1 : Int} {a2 : Blk} {r : ((List (List Int))) × (Option Int)} (h : m_tree_Put a0 a1 a2 = some r) :
    Con Try.prog 54 [.v (Enc.one1 (Enc.sl (Enc.sl (Enc.int .u64)))) a0, .v (Enc.int .i64) a1, .v eBlk a2] (.tup [.v (Enc.one1 (Enc.sl (Enc.sl (Enc.int .u64)))) r.1, .v (Enc.err ET) r.2]) [] := by
  refine Con.of Try.func54 rfl Try.ntmps54 rfl ?_
  intro S w hF
  unfold m_tree_Put at h
  refine W.seq ?_
  refine W.reg (σ' := ⟨[(1, .v (Enc.int .i64) a1), (3, .ptr 101 0), (5, .ptr 102 0), (6, .ptr 103 0)], [(101, .box 71 [.v (Enc.sl (Enc.sl (Enc.int .u64))) a0]), (102, .box 24 [.v eBlk a2]), (103, .box 71 [.v (Enc.sl (Enc.sl (Enc.int .u64))) ([] : (List (List Int)))])]⟩) (J.cons (.none rfl) (JO.box 101 rfl (.one1 (.one _ _)) rfl) rfl rfl (J.cons (.none rfl) (JO.box 102 rfl (.one _ _) rfl) rfl rfl (J.cons (.none rfl) (JO.alloc 103 Try.zeroValue71 rfl (.cons (Z.sl (Enc.sl (Enc.int .u64))) .nil) rfl) rfl rfl (J.cons (.none rfl) (JO.assignNilE ET) rfl rfl (J.fin (Sw.Sub.mk id (.cons rfl (.of_eq rfl) (.cons rfl (.of_eq rfl) (.cons rfl (.of_eq rfl) (.cons rfl (.of_eq rfl) .nil)))) (.box rfl (.cons (.of_eq rfl) .nil) (.box rfl (.cons (.of_eq rfl) .nil) (.box rfl (.cons (.of_eq rfl) .nil) .nil))) rfl)))))) ?_
  refine W.seq ?_
  refine W.seq ?_
  obtain ⟨v1, hv1, h⟩ := bind_e h
  refine W.reg (σ' := ⟨[(1, .v (Enc.int .i64) a1), (3, .ptr 101 0), (5, .ptr 102 0), (6, .ptr 103 0), (8, .v (Enc.err ET) v1)], [(101, .box 71 [.v (Enc.sl (Enc.sl (Enc.int .u64))) a0]), (102, .box 24 [.v eBlk a2]), (103, .box 71 [.v (Enc.sl (Enc.sl (Enc.int .u64))) ([] : (List (List Int)))])]⟩) (J.cons (.none rfl) (JO.loadAll rfl rfl (.one1 (.one _ _)) Try.isAgg71 Try.sizeOf71) rfl rfl (J.cons (.none rfl) (JO.call0 (con_tree_Check hv1) Try.call42 (.cons (.dir rfl) .nil)) rfl rfl (J.cons (.none rfl) (JO.assign rfl) rfl rfl (J.fin (Sw.Sub.mk id (.cons rfl (.of_eq rfl) (.cons rfl (.of_eq rfl) (.cons rfl (.of_eq rfl) (.cons rfl (.of_eq rfl) (.cons rfl (.of_eq rfl) .nil))))) (.box rfl (.cons (.of_eq rfl) .nil) (.box rfl (.cons (.of_eq rfl) .nil) (.box rfl (.cons (.of_eq rfl) .nil) .nil))) rfl))))) ?_
  refine W.seq ?_
  refine W.reg (σ' := ⟨[(1, .v (Enc.int .i64) a1), (3, .ptr 101 0), (5, .ptr 102 0), (6, .ptr 103 0), (8, .v (Enc.err ET) v1), (18, .v Enc.bool (Option.isSome v1))], [(101, .box 71 [.v (Enc.sl (Enc.sl (Enc.int .u64))) a0]), (102, .box 24 [.v eBlk a2]), (103, .box 71 [.v (Enc.sl (Enc.sl (Enc.int .u64))) ([] : (List (List Int)))])]⟩) (J.cons (.none rfl) (JO.move rfl) rfl rfl (J.cons (.none rfl) (JO.errNe Try.runUnderlying29 rfl) rfl rfl (J.fin (Sw.Sub.mk id (.cons rfl (.of_eq rfl) (.cons rfl (.of_eq rfl) (.cons rfl (.of_eq rfl) (.cons rfl (.of_eq rfl) (.cons rfl (.of_eq rfl) (.cons rfl (.of_eq rfl) .nil)))))) (.box rfl (.cons (.of_eq rfl) .nil) (.box rfl (.cons (.of_eq rfl) .nil) (.box rfl (.cons (.of_eq rfl) .nil) .nil))) rfl)))) ?_
  rcases Bool.eq_false_or_eq_true (Option.isSome v1) with hc2 | hc2
  · replace h := cond_t hc2 h
    refine W.condT rfl hc2 ?_
    refine W.seq ?_
    refine W.reg (σ' := ⟨[(6, .ptr 103 0), (7, .v (Enc.err ET) v1)], [(103, .box 71 [.ref 105]), (105, .dp (DE.arrs 95 67 (Enc.int .u64)) (([] : (List (List Int))), none) [])]⟩) (J.cons (.none rfl) (JO.buildN (new := [(105, .dp (DE.arrs 95 67 (Enc.int .u64)) (([] : (List (List Int))), none) [])]) built71 (.ref 105 rfl .nil) (.dp (fun _ _ => nilD) .nil) rfl .nil) rfl rfl (J.cons (.none rfl) (JO.move rfl) rfl rfl (J.mut (.none rfl) (JM.storeAgg rfl rfl rfl rfl rfl rfl Try.sizeOf71) (J.cons (.none rfl) (JO.assign rfl) rfl rfl (J.fin (Sw.Sub.mk id (.cons rfl (.of_eq rfl) (.cons rfl (.of_eq rfl) .nil)) (.box rfl (.cons (.of_eq rfl) .nil) (.dp rfl .nil)) rfl)))))) ?_
    refine W.ret ?_
    obtain rfl := Option.some.inj h
    exact XQ.sub (σ' := ⟨[(6, .ptr 90 0), (7, .v (Enc.err ET) v1)], [(90, .box 71 [.v (Enc.sl (Enc.sl (Enc.int .u64))) ([] : (List (List Int)))])]⟩) (Sw.Sub.mk (rn [(90, 103)]) (.cons rfl (.of_eq rfl) (.cons rfl (.of_eq rfl) .nil)) (.box rfl (.cons (.frzD rfl rfl .arrs) .nil) .nil) rfl) (XQ.ret2 hF noR rfl (RV.cellAll rfl rfl (.one1 (.one _ _)) Try.isAgg71 Try.sizeOf71) (RV.tmp rfl) .nil rfl)
  · replace h := cond_f hc2 h
    refine W.condF rfl hc2 ?_
    refine W.skip ?_
    refine W.seq ?_
    refine W.seq ?_
    obtain ⟨x5, hx, h⟩ := bind_e h
    refine W.reg (σ' := ⟨[(1, .v (Enc.int .i64) a1), (3, .ptr 101 0), (5, .ptr 102 0), (6, .ptr 103 0), (31, .v Enc.bool x5)], [(101, .box 71 [.v (Enc.sl (Enc.sl (Enc.int .u64))) a0]), (102, .box 24 [.v eBlk a2]), (103, .box 71 [.v (Enc.sl (Enc.sl (Enc.int .u64))) ([] : (List (List Int)))])]⟩) ?_ ?_
    · rcases Bool.eq_false_or_eq_true (cm .lss a1 (0 : Int)) with hc6 | hc6
      · replace hx := cond_t hc6 hx
        obtain rfl := Option.some.inj hx
        exact (J.cons (.none rfl) (JO.move rfl) rfl rfl (J.cons (.none rfl) (JO.cmp rfl rfl rfl) rfl rfl (J.cons (.none rfl) (JO.move rfl) rfl rfl (J.left (GK.unmet 23 rfl rfl rfl hc6) rfl (J.left (GK.unmet 23 rfl rfl rfl hc6) rfl (J.left (GK.unmet 23 rfl rfl rfl hc6) rfl (J.left (GK.unmet 23 rfl rfl rfl hc6) rfl (J.left (GK.unmet 23 rfl rfl rfl hc6) rfl (J.left (GK.unmet 23 rfl rfl rfl hc6) rfl (J.left (GK.unmet 23 rfl rfl rfl hc6) rfl (J.cons (.none rfl) (JO.pT hc6 rfl rfl) rfl rfl (J.fin (Sw.Sub.mk id (.cons rfl (.of_eq rfl) (.cons rfl (.of_eq rfl) (.cons rfl (.of_eq rfl) (.cons rfl (.of_eq rfl) (.cons rfl (.of_eq rfl) .nil))))) (.box rfl (.cons (.of_eq rfl) .nil) (.box rfl (.cons (.of_eq rfl) .nil) (.box rfl (.cons (.of_eq rfl) .nil) .nil))) rfl)))))))))))))
      · replace hx := cond_f hc6 hx
        obtain ⟨z7, hz7, hx⟩ := bind_e hx
        obtain rfl := Option.some.inj hx
        exact (J.cons (.none rfl) (JO.move rfl) rfl rfl (J.cons (.none rfl) (JO.cmp rfl rfl rfl) rfl rfl (J.cons (.none rfl) (JO.move rfl) rfl rfl (J.cons (GK.met 23 rfl rfl rfl hc6) (JO.move rfl) rfl rfl (J.cons (GK.met 23 rfl rfl rfl hc6) (JO.fieldPtr 0 rfl Try.runUnderlying71 rfl Try.sizeOf69 rfl rfl) rfl rfl (J.cons (GK.met 23 rfl rfl rfl hc6) (JO.load rfl rfl rfl Try.isAgg69 Try.sizeOf69) rfl rfl (J.cons (GK.met 23 rfl rfl rfl hc6) (JO.idx hz7 rfl rfl Try.runUnderlying69 Try.sizeOf95) rfl rfl (J.cons (GK.met 23 rfl rfl rfl hc6) (JO.loadPst rfl Try.isAgg95 Try.sizeOf95) rfl rfl (J.cons (GK.met 23 rfl rfl rfl hc6) (JO.len rfl Try.runUnderlying95) rfl rfl (J.cons (GK.met 23 rfl rfl rfl hc6) (JO.cmp rfl rfl rfl) rfl rfl (J.cons (.none rfl) (JO.pF hc6 rfl rfl) rfl rfl (J.fin (Sw.Sub.mk id (.cons rfl (.of_eq rfl) (.cons rfl (.of_eq rfl) (.cons rfl (.of_eq rfl) (.cons rfl (.of_eq rfl) (.cons rfl (.of_eq rfl) .nil))))) (.box rfl (.cons (.of_eq rfl) .nil) (.box rfl (.cons (.of_eq rfl) .nil) (.box rfl (.cons (.of_eq rfl) .nil) .nil))) rfl)))))))))))))
    rcases Bool.eq_false_or_eq_true x5 with hc8 | hc8
    · replace h := cond_t hc8 h
      refine W.condT rfl hc8 ?_
      refine W.seq ?_
      refine W.reg (σ' := ⟨[(6, .ptr 103 0), (7, .v (Enc.err ET) (some (1 : Int)))], [(103, .box 71 [.ref 106]), (106, .dp (DE.arrs 95 67 (Enc.int .u64)) (([] : (List (List Int))), none) [])]⟩) (J.cons (.none rfl) (JO.buildN (new := [(106, .dp (DE.arrs 95 67 (Enc.int .u64)) (([] : (List (List Int))), none) [])]) built71 (.ref 106 rfl .nil) (.dp (fun _ _ => nilD) .nil) rfl .nil) rfl rfl (J.cons (.none rfl) (JO.mkErr Try.runUnderlying25 rfl) rfl rfl (J.mut (.none rfl) (JM.storeAgg rfl rfl rfl rfl rfl rfl Try.sizeOf71) (J.cons (.none rfl) (JO.assign rfl) rfl rfl (J.fin (Sw.Sub.mk id (.cons rfl (.of_eq rfl) (.cons rfl (.of_eq rfl) .nil)) (.box rfl (.cons (.of_eq rfl) .nil) (.dp rfl .nil)) rfl)))))) ?_
      refine W.ret ?_
      obtain rfl := Option.some.inj h
      exact XQ.sub (σ' := ⟨[(6, .ptr 90 0), (7, .v (Enc.err ET) (some (1 : Int)))], [(90, .box 71 [.v (Enc.sl (Enc.sl (Enc.int .u64))) ([] : (List (List Int)))])]⟩) (Sw.Sub.mk (rn [(90, 103)]) (.cons rfl (.of_eq rfl) (.cons rfl (.of_eq rfl) .nil)) (.box rfl (.cons (.frzD rfl rfl .arrs) .nil) .nil) rfl) (XQ.ret2 hF noR rfl (RV.cellAll rfl rfl (.one1 (.one _ _)) Try.isAgg71 Try.sizeOf71) (RV.tmp rfl) .nil rfl)
    · replace h := cond_f hc8 h
      refine W.condF rfl hc8 ?_
      refine W.skip ?_
      refine W.seq ?_
      refine W.reg (σ' := ⟨[(1, .v (Enc.int .i64) a1), (3, .ptr 101 0), (5, .ptr 102 0), (6, .ptr 103 0), (9, .ptr 108 0)], [(101, .box 71 [.v (Enc.sl (Enc.sl (Enc.int .u64))) a0]), (102, .box 24 [.v eBlk a2]), (103, .box 71 [.v (Enc.sl (Enc.sl (Enc.int .u64))) ([] : (List (List Int)))]), (108, .box 71 [.ref 107]), (107, .dp (DE.arrs 95 67 (Enc.int .u64)) (([] : (List (List Int))), none) [])]⟩) (J.cons (.none rfl) (JO.buildN (new := [(107, .dp (DE.arrs 95 67 (Enc.int .u64)) (([] : (List (List Int))), none) [])]) built71 (.ref 107 rfl .nil) (.dp (fun _ _ => nilD) .nil) rfl .nil) rfl rfl (J.cons (.none rfl) (JO.allocN (new := [(109, .dp (DE.arrs 95 67 (Enc.int .u64)) (([] : (List (List Int))), none) [])]) 108 Try.zeroValue71 rfl (.ref 109 rfl .nil) (.dp (fun _ _ => nilD) .nil) rfl rfl) rfl rfl (J.mut (.none rfl) (JM.storeAgg rfl rfl rfl rfl rfl rfl Try.sizeOf71) (J.fin (Sw.Sub.mk id (.cons rfl (.of_eq rfl) (.cons rfl (.of_eq rfl) (.cons rfl (.of_eq rfl) (.cons rfl (.of_eq rfl) (.cons rfl (.of_eq rfl) .nil))))) (.box rfl (.cons (.of_eq rfl) .nil) (.box rfl (.cons (.of_eq rfl) .nil) (.box rfl (.cons (.of_eq rfl) .nil) (.box rfl (.cons (.of_eq rfl) .nil) (.dp rfl .nil))))) rfl))))) ?_
      refine W.seq ?_
      refine W.seq ?_
      refine W.reg (σ' := ⟨[(1, .v (Enc.int .i64) a1), (5, .ptr 102 0), (6, .ptr 103 0), (9, .ptr 108 0), (36, .v (Enc.sl (Enc.sl (Enc.int .u64))) a0), (37, .v (Enc.int .i64) (a0.length : Int)), (38, .v (Enc.int .i64) (0 : Int))], [(102, .box 24 [.v eBlk a2]), (103, .box 71 [.v (Enc.sl (Enc.sl (Enc.int .u64))) ([] : (List (List Int)))]), (108, .box 71 [.ref 107]), (107, .dp (DE.arrs 95 67 (Enc.int .u64)) (([] : (List (List Int))), none) [])]⟩) (J.cons (.none rfl) (JO.fieldPtr 0 rfl Try.runUnderlying71 rfl Try.sizeOf69 rfl rfl) rfl rfl (J.cons (.none rfl) (JO.load rfl rfl rfl Try.isAgg69 Try.sizeOf69) rfl rfl (J.cons (.none rfl) (JO.len rfl Try.runUnderlying69) rfl rfl (J.cons (.none rfl) (JO.move rfl) rfl rfl (J.fin (Sw.Sub.mk id (.cons rfl (.of_eq rfl) (.cons rfl (.of_eq rfl) (.cons rfl (.of_eq rfl) (.cons rfl (.of_eq rfl) (.cons rfl (.of_eq rfl) (.cons rfl (.of_eq rfl) (.cons rfl (.of_eq rfl) .nil))))))) (.box rfl (.cons (.of_eq rfl) .nil) (.box rfl (.cons (.of_eq rfl) .nil) (.box rfl (.cons (.of_eq rfl) .nil) (.dp rfl .nil)))) rfl)))))) ?_
      obtain ⟨o24, ho24, hb24, hr24⟩ := lp_elim h
      refine W.lp (σs := fun s19 : Int × (List (List Int)) => ⟨[(1, .v (Enc.int .i64) a1), (5, .ptr 102 0), (6, .ptr 103 0), (9, .ptr 108 0), (36, .v (Enc.sl (Enc.sl (Enc.int .u64))) a0), (37, .v (Enc.int .i64) (a0.length : Int)), (38, .v (Enc.int .i64) s19.1)], [(102, .box 24 [.v eBlk a2]), (103, .box 71 [.v (Enc.sl (Enc.sl (Enc.int .u64))) ([] : (List (List Int)))]), (108, .box 71 [.ref 119]), (119, .dp (DE.arrs 95 67 (Enc.int .u64)) (s19.2, none) [])]⟩) (fun x25 : (List (List Int)) => ⟨[(1, .v (Enc.int .i64) a1), (5, .ptr 102 0), (6, .ptr 103 0), (9, .ptr 108 0)], [(102, .box 24 [.v eBlk a2]), (103, .box 71 [.v (Enc.sl (Enc.sl (Enc.int .u64))) ([] : (List (List Int)))]), (108, .box 71 [.ref 119]), (119, .dp (DE.arrs 95 67 (Enc.int .u64)) (x25, none) [])]⟩) ho24 (Sw.Sub.mk (rn [(102, 102), (103, 103), (108, 108), (119, 107)]) (.cons rfl (.of_eq rfl) (.cons rfl (.of_eq rfl) (.cons rfl (.of_eq rfl) (.cons rfl (.of_eq rfl) (.cons rfl (.of_eq rfl) (.cons rfl (.of_eq rfl) (.cons rfl (.of_eq rfl) .nil))))))) (.box rfl (.cons (.of_eq rfl) .nil) (.box rfl (.cons (.of_eq rfl) .nil) (.box rfl (.cons (.of_eq rfl) .nil) (.dp rfl .nil)))) rfl) ?_ ?_
      · intro x25 hy
        have h := hb24 _ hy
        refine W.seq ?_
        obtain ⟨v30, hv30, h⟩ := bind_e h
        refine W.reg (σ' := ⟨[(1, .v (Enc.int .i64) a1), (6, .ptr 103 0), (9, .ptr 108 0), (12, .v (Enc.int .u64) v30)], [(103, .box 71 [.v (Enc.sl (Enc.sl (Enc.int .u64))) ([] : (List (List Int)))]), (108, .box 71 [.ref 119]), (119, .dp (DE.arrs 95 67 (Enc.int .u64)) (x25, none) [])]⟩) (J.cons (.none rfl) (JO.load rfl rfl rfl Try.isAgg24 Try.sizeOf24) rfl rfl (J.cons (.none rfl) (JO.call0 (con_tree_leaf hv30) Try.call76 (.cons (.dir rfl) .nil)) rfl rfl (J.cons (.none rfl) (JO.assign rfl) rfl rfl (J.fin (Sw.Sub.mk id (.cons rfl (.of_eq rfl) (.cons rfl (.of_eq rfl) (.cons rfl (.of_eq rfl) (.cons rfl (.of_eq rfl) .nil)))) (.box rfl (.cons (.of_eq rfl) .nil) (.box rfl (.cons (.of_eq rfl) .nil) (.dp rfl .nil))) rfl))))) ?_
        refine W.seq ?_
        refine W.seq ?_
        refine W.reg (σ' := ⟨[(1, .v (Enc.int .i64) a1), (6, .ptr 103 0), (9, .ptr 108 0), (12, .v (Enc.int .u64) v30), (53, .ref 119), (54, .v (Enc.int .i64) (x25.length : Int)), (55, .v (Enc.int .i64) (0 : Int))], [(103, .box 71 [.v (Enc.sl (Enc.sl (Enc.int .u64))) ([] : (List (List Int)))]), (108, .box 71 [.ref 119]), (119, .dp (DE.arrs 95 67 (Enc.int .u64)) (x25, none) [])]⟩) (J.cons (.none rfl) (JO.fieldPtr 0 rfl Try.runUnderlying71 rfl Try.sizeOf69 rfl rfl) rfl rfl (J.cons (.none rfl) (JO.load rfl rfl rfl Try.isAgg69 Try.sizeOf69) rfl rfl (J.cons (.none rfl) (JO.lenD rfl rfl Try.runUnderlying69) rfl rfl (J.cons (.none rfl) (JO.move rfl) rfl rfl (J.fin (Sw.Sub.mk id (.cons rfl (.of_eq rfl) (.cons rfl (.of_eq rfl) (.cons rfl (.of_eq rfl) (.cons rfl (.of_eq rfl) (.cons rfl (.of_eq rfl) (.cons rfl (.of_eq rfl) (.cons rfl (.of_eq rfl) .nil))))))) (.box rfl (.cons (.of_eq rfl) .nil) (.box rfl (.cons (.of_eq rfl) .nil) (.dp rfl .nil))) rfl)))))) ?_
        obtain ⟨o49, ho49, hb49, hr49⟩ := lp_elim h
        refine W.lp (σs := fun s43 : Int × Int × Int × (List (List Int)) => ⟨[(1, .v (Enc.int .i64) s43.1), (6, .ptr 103 0), (9, .ptr 108 0), (12, .v (Enc.int .u64) s43.2.1), (53, .ref 119), (54, .v (Enc.int .i64) (x25.length : Int)), (55, .v (Enc.int .i64) s43.2.2.1)], [(103, .box 71 [.v (Enc.sl (Enc.sl (Enc.int .u64))) ([] : (List (List Int)))]), (108, .box 71 [.ref 119]), (119, .dp (DE.arrs 95 67 (Enc.int .u64)) (s43.2.2.2, none) [])]⟩) (fun x50 : (List (List Int)) => ⟨[(6, .ptr 103 0), (9, .ptr 108 0)], [(103, .box 71 [.v (Enc.sl (Enc.sl (Enc.int .u64))) ([] : (List (List Int)))]), (108, .box 71 [.ref 119]), (119, .dp (DE.arrs 95 67 (Enc.int .u64)) (x50, none) [])]⟩) ho49 (Sw.Sub.mk id (.cons rfl (.of_eq rfl) (.cons rfl (.of_eq rfl) (.cons rfl (.of_eq rfl) (.cons rfl (.of_eq rfl) (.cons rfl (.of_eq rfl) (.cons rfl (.of_eq rfl) (.cons rfl (.of_eq rfl) .nil))))))) (.box rfl (.cons (.of_eq rfl) .nil) (.box rfl (.cons (.of_eq rfl) .nil) (.dp rfl .nil))) rfl) ?_ ?_
        · intro x50 hy
          have h := hb49 _ hy
          refine W.seq ?_
          refine W.reg (σ' := ⟨[(6, .ptr 103 0), (7, .v (Enc.err ET) (none : Option Int))], [(103, .box 71 [.ref 119]), (119, .dp (DE.arrs 95 67 (Enc.int .u64)) (x50, none) [])]⟩) (J.cons (.none rfl) (JO.loadAgg rfl rfl rfl Try.isAgg71 Try.sizeOf71) rfl rfl (J.mut (.none rfl) (JM.storeAgg rfl rfl rfl rfl rfl rfl Try.sizeOf71) (J.cons (.none rfl) (JO.assignNilE ET) rfl rfl (J.fin (Sw.Sub.mk id (.cons rfl (.of_eq rfl) (.cons rfl (.of_eq rfl) .nil)) (.box rfl (.cons (.of_eq rfl) .nil) (.dp rfl .nil)) rfl))))) ?_
          refine W.ret ?_
          obtain rfl := Option.some.inj h
          exact XQ.sub (σ' := ⟨[(6, .ptr 90 0), (7, .v (Enc.err ET) (none : Option Int))], [(90, .box 71 [.v (Enc.sl (Enc.sl (Enc.int .u64))) x50])]⟩) (Sw.Sub.mk (rn [(90, 103)]) (.cons rfl (.of_eq rfl) (.cons rfl (.of_eq rfl) .nil)) (.box rfl (.cons (.frzD rfl rfl .arrs) .nil) .nil) rfl) (XQ.ret2 hF noR rfl (RV.cellAll rfl rfl (.one1 (.one _ _)) Try.isAgg71 Try.sizeOf71) (RV.tmp rfl) .nil rfl)
        intro s43 r49 h
        refine W.seq ?_
        refine W.reg (σ' := ⟨[(1, .v (Enc.int .i64) s43.1), (6, .ptr 103 0), (9, .ptr 108 0), (12, .v (Enc.int .u64) s43.2.1), (53, .ref 119), (54, .v (Enc.int .i64) (x25.length : Int)), (55, .v (Enc.int .i64) s43.2.2.1), (56, .v Enc.bool (cm .lss s43.2.2.1 (x25.length : Int)))], [(103, .box 71 [.v (Enc.sl (Enc.sl (Enc.int .u64))) ([] : (List (List Int)))]), (108, .box 71 [.ref 119]), (119, .dp (DE.arrs 95 67 (Enc.int .u64)) (s43.2.2.2, none) [])]⟩) (J.cons (.none rfl) (JO.cmp rfl rfl rfl) rfl rfl (J.fin (Sw.Sub.mk id (.cons rfl (.of_eq rfl) (.cons rfl (.of_eq rfl) (.cons rfl (.of_eq rfl) (.cons rfl (.of_eq rfl) (.cons rfl (.of_eq rfl) (.cons rfl (.of_eq rfl) (.cons rfl (.of_eq rfl) (.cons rfl (.of_eq rfl) .nil)))))))) (.box rfl (.cons (.of_eq rfl) .nil) (.box rfl (.cons (.of_eq rfl) .nil) (.dp rfl .nil))) rfl))) ?_
        refine W.seq ?_
        rcases Bool.eq_false_or_eq_true (cm .lss s43.2.2.1 (x25.length : Int)) with hc51 | hc51
        · replace h := cond_t hc51 h
          refine W.condT rfl hc51 ?_
          refine W.skip ?_
          refine W.seq ?_
          refine W.block ?_
          refine W.seq ?_
          obtain ⟨z52, hz52, h⟩ := bind_e h
          refine W.reg (σ' := ⟨[(1, .v (Enc.int .i64) s43.1), (6, .ptr 103 0), (9, .ptr 108 0), (12, .v (Enc.int .u64) s43.2.1), (14, .ref 133), (53, .ref 119), (54, .v (Enc.int .i64) (x25.length : Int)), (55, .v (Enc.int .i64) s43.2.2.1)], [(103, .box 71 [.v (Enc.sl (Enc.sl (Enc.int .u64))) ([] : (List (List Int)))]), (108, .box 71 [.ref 119]), (133, .arr 67 (Enc.int .u64) z52), (119, .dp (DE.arrs 95 67 (Enc.int .u64)) (s43.2.2.2, some (Int.toNat s43.2.2.1)) [133])]⟩) (J.cons (.none rfl) (JO.idxD hz52 rfl rfl rfl Try.runUnderlying69 Try.sizeOf95) rfl rfl (J.mut (.none rfl) (JM.openD 133 (idx_some hz52).2.2 rfl rfl Try.isAgg95 Try.sizeOf95 rfl rfl) (J.cons (.none rfl) (JO.assign rfl) rfl rfl (J.fin (Sw.Sub.mk id (.cons rfl (.of_eq rfl) (.cons rfl (.of_eq rfl) (.cons rfl (.of_eq rfl) (.cons rfl (.of_eq rfl) (.cons rfl (.of_eq rfl) (.cons rfl (.of_eq rfl) (.cons rfl (.of_eq rfl) (.cons rfl (.of_eq rfl) .nil)))))))) (.box rfl (.cons (.of_eq rfl) .nil) (.box rfl (.cons (.of_eq rfl) .nil) (.arr rfl (.dp rfl .nil)))) rfl))))) ?_
          refine W.seq ?_
          obtain ⟨z53, hz53, h⟩ := bind_e h
          refine W.reg (σ' := ⟨[(1, .v (Enc.int .i64) s43.1), (6, .ptr 103 0), (9, .ptr 108 0), (14, .ref 133), (53, .ref 119), (54, .v (Enc.int .i64) (x25.length : Int)), (55, .v (Enc.int .i64) s43.2.2.1)], [(103, .box 71 [.v (Enc.sl (Enc.sl (Enc.int .u64))) ([] : (List (List Int)))]), (108, .box 71 [.ref 119]), (133, .arr 67 (Enc.int .u64) (List.set z52 (Int.toNat s43.1) s43.2.1)), (119, .dp (DE.arrs 95 67 (Enc.int .u64)) (s43.2.2.2, some (Int.toNat s43.2.2.1)) [133])]⟩) (J.cons (.none rfl) (JO.move rfl) rfl rfl (J.cons (.none rfl) (JO.move rfl) rfl rfl (J.cons (.none rfl) (JO.move rfl) rfl rfl (J.cons (.none rfl) (JO.idxR hz53 rfl rfl rfl Try.runUnderlying95 Try.sizeOf67) rfl rfl (J.mut (.none rfl) (JM.storeEl (idx_some hz53).2.2 rfl rfl rfl Try.sizeOf67) (J.fin (Sw.Sub.mk id (.cons rfl (.of_eq rfl) (.cons rfl (.of_eq rfl) (.cons rfl (.of_eq rfl) (.cons rfl (.of_eq rfl) (.cons rfl (.of_eq rfl) (.cons rfl (.of_eq rfl) (.cons rfl (.of_eq rfl) .nil))))))) (.box rfl (.cons (.of_eq rfl) .nil) (.box rfl (.cons (.of_eq rfl) .nil) (.arr rfl (.dp rfl .nil)))) rfl))))))) ?_
          refine W.seq ?_
          refine W.reg (σ' := ⟨[(1, .v (Enc.int .i64) (ar .quo .i64 s43.1 (4 : Int))), (6, .ptr 103 0), (9, .ptr 108 0), (14, .ref 133), (53, .ref 119), (54, .v (Enc.int .i64) (x25.length : Int)), (55, .v (Enc.int .i64) s43.2.2.1)], [(103, .box 71 [.v (Enc.sl (Enc.sl (Enc.int .u64))) ([] : (List (List Int)))]), (108, .box 71 [.ref 119]), (133, .arr 67 (Enc.int .u64) (List.set z52 (Int.toNat s43.1) s43.2.1)), (119, .dp (DE.arrs 95 67 (Enc.int .u64)) (s43.2.2.2, some (Int.toNat s43.2.2.1)) [133])]⟩) (J.cons (.none rfl) (JO.move rfl) rfl rfl (J.cons (.none rfl) (JO.div (.inl rfl) (by decide) rfl rfl) rfl rfl (J.cons (.none rfl) (JO.assign rfl) rfl rfl (J.fin (Sw.Sub.mk id (.cons rfl (.of_eq rfl) (.cons rfl (.of_eq rfl) (.cons rfl (.of_eq rfl) (.cons rfl (.of_eq rfl) (.cons rfl (.of_eq rfl) (.cons rfl (.of_eq rfl) (.cons rfl (.of_eq rfl) .nil))))))) (.box rfl (.cons (.of_eq rfl) .nil) (.box rfl (.cons (.of_eq rfl) .nil) (.arr rfl (.dp rfl .nil)))) rfl))))) ?_
          obtain ⟨v54, hv54, h⟩ := bind_e h
          obtain ⟨v55, hv55, h⟩ := bind_e h
          refine W.reg (σ' := ⟨[(1, .v (Enc.int .i64) (ar .quo .i64 s43.1 (4 : Int))), (6, .ptr 103 0), (9, .ptr 108 0), (12, .v (Enc.int .u64) v55), (53, .ref 119), (54, .v (Enc.int .i64) (x25.length : Int)), (55, .v (Enc.int .i64) s43.2.2.1)], [(103, .box 71 [.v (Enc.sl (Enc.sl (Enc.int .u64))) ([] : (List (List Int)))]), (108, .box 71 [.ref 119]), (119, .dp (DE.arrs 95 67 (Enc.int .u64)) (s43.2.2.2, some (Int.toNat s43.2.2.1)) [133]), (133, .arr 67 (Enc.int .u64) (List.set z52 (Int.toNat s43.1) s43.2.1))]⟩) (J.cons (.none rfl) (JO.move rfl) rfl rfl (J.cons (.none rfl) (JO.move rfl) rfl rfl (J.cons (.none rfl) (JO.arith rfl rfl rfl) rfl rfl (J.cons (.none rfl) (JO.move rfl) rfl rfl (J.cons (.none rfl) (JO.lenR rfl rfl Try.runUnderlying95) rfl rfl (J.cons (.none rfl) (JO.move rfl) rfl rfl (J.cons (.none rfl) (JO.arith rfl rfl rfl) rfl rfl (J.cons (.none rfl) (JO.arith rfl rfl rfl) rfl rfl (J.cons (.none rfl) (JO.gmin rfl rfl) rfl rfl (J.cons (.none rfl) (JO.srLoHi hv54 rfl rfl rfl rfl Try.runUnderlying95 Try.sizeOf67) rfl rfl (J.cons (.none rfl) (JO.callL0 (con_tree_node hv55) Try.call85 (.cons (.sub hv54 rfl rfl) .nil) FlatS.v) rfl rfl (J.cons (.none rfl) (JO.assign rfl) rfl rfl (J.fin (Sw.Sub.mk id (.cons rfl (.of_eq rfl) (.cons rfl (.of_eq rfl) (.cons rfl (.of_eq rfl) (.cons rfl (.of_eq rfl) (.cons rfl (.of_eq rfl) (.cons rfl (.of_eq rfl) (.cons rfl (.of_eq rfl) .nil))))))) (.box rfl (.cons (.of_eq rfl) .nil) (.box rfl (.cons (.of_eq rfl) .nil) (.dp rfl (.arr rfl .nil)))) rfl)))))))))))))) ?_
          refine W.fall ?_
          refine W.reg (σ' := ⟨[(1, .v (Enc.int .i64) (ar .quo .i64 s43.1 (4 : Int))), (6, .ptr 103 0), (9, .ptr 108 0), (12, .v (Enc.int .u64) v55), (53, .ref 119), (54, .v (Enc.int .i64) (x25.length : Int)), (55, .v (Enc.int .i64) (ar .add .i64 s43.2.2.1 (1 : Int)))], [(103, .box 71 [.v (Enc.sl (Enc.sl (Enc.int .u64))) ([] : (List (List Int)))]), (108, .box 71 [.ref 119]), (119, .dp (DE.arrs 95 67 (Enc.int .u64)) (s43.2.2.2, some (Int.toNat s43.2.2.1)) [133]), (133, .arr 67 (Enc.int .u64) (List.set z52 (Int.toNat s43.1) s43.2.1))]⟩) (J.cons (.none rfl) (JO.arith rfl rfl rfl) rfl rfl (J.cons (.none rfl) (JO.move rfl) rfl rfl (J.fin (Sw.Sub.mk id (.cons rfl (.of_eq rfl) (.cons rfl (.of_eq rfl) (.cons rfl (.of_eq rfl) (.cons rfl (.of_eq rfl) (.cons rfl (.of_eq rfl) (.cons rfl (.of_eq rfl) (.cons rfl (.of_eq rfl) .nil))))))) (.box rfl (.cons (.of_eq rfl) .nil) (.box rfl (.cons (.of_eq rfl) .nil) (.dp rfl (.arr rfl .nil)))) rfl)))) ?_
          refine W.sub (σ' := ⟨[(1, .v (Enc.int .i64) (ar .quo .i64 s43.1 (4 : Int))), (6, .ptr 103 0), (9, .ptr 108 0), (12, .v (Enc.int .u64) v55), (53, .ref 119), (54, .v (Enc.int .i64) (x25.length : Int)), (55, .v (Enc.int .i64) (ar .add .i64 s43.2.2.1 (1 : Int)))], [(119, .dp (DE.arrs 95 67 (Enc.int .u64)) (List.set s43.2.2.2 (Int.toNat s43.2.2.1) (List.set z52 (Int.toNat s43.1) s43.2.1), none) []), (103, .box 71 [.v (Enc.sl (Enc.sl (Enc.int .u64))) ([] : (List (List Int)))]), (108, .box 71 [.ref 119])]⟩) (Sw.Sub.shut rfl (idx_some hz52).2.1 rfl rfl rfl rfl) ?_
          obtain rfl := Option.some.inj h
          exact W.next (Sw.Sub.mk id (.cons rfl (.of_eq rfl) (.cons rfl (.of_eq rfl) (.cons rfl (.of_eq rfl) (.cons rfl (.of_eq rfl) (.cons rfl (.of_eq rfl) (.cons rfl (.of_eq rfl) (.cons rfl (.of_eq rfl) .nil))))))) (.box rfl (.cons (.of_eq rfl) .nil) (.box rfl (.cons (.of_eq rfl) .nil) (.dp rfl .nil))) rfl)
        · replace h := cond_f hc51 h
          refine W.condF rfl hc51 ?_
          refine W.exit ?_
          obtain rfl := Option.some.inj h
          exact XQ.brk (Sw.Sub.mk id (.cons rfl (.of_eq rfl) (.cons rfl (.of_eq rfl) .nil)) (.box rfl (.cons (.of_eq rfl) .nil) (.box rfl (.cons (.of_eq rfl) .nil) (.dp rfl .nil))) rfl)
      intro s19 r24 h
      refine W.seq ?_
      refine W.reg (σ' := ⟨[(1, .v (Enc.int .i64) a1), (5, .ptr 102 0), (6, .ptr 103 0), (9, .ptr 108 0), (36, .v (Enc.sl (Enc.sl (Enc.int .u64))) a0), (37, .v (Enc.int .i64) (a0.length : Int)), (38, .v (Enc.int .i64) s19.1), (39, .v Enc.bool (cm .lss s19.1 (a0.length : Int)))], [(102, .box 24 [.v eBlk a2]), (103, .box 71 [.v (Enc.sl (Enc.sl (Enc.int .u64))) ([] : (List (List Int)))]), (108, .box 71 [.ref 119]), (119, .dp (DE.arrs 95 67 (Enc.int .u64)) (s19.2, none) [])]⟩) (J.cons (.none rfl) (JO.cmp rfl rfl rfl) rfl rfl (J.fin (Sw.Sub.mk id (.cons rfl (.of_eq rfl) (.cons rfl (.of_eq rfl) (.cons rfl (.of_eq rfl) (.cons rfl (.of_eq rfl) (.cons rfl (.of_eq rfl) (.cons rfl (.of_eq rfl) (.cons rfl (.of_eq rfl) (.cons rfl (.of_eq rfl) .nil)))))))) (.box rfl (.cons (.of_eq rfl) .nil) (.box rfl (.cons (.of_eq rfl) .nil) (.box rfl (.cons (.of_eq rfl) .nil) (.dp rfl .nil)))) rfl))) ?_
      refine W.seq ?_
      rcases Bool.eq_false_or_eq_true (cm .lss s19.1 (a0.length : Int)) with hc26 | hc26
      · replace h := cond_t hc26 h
        refine W.condT rfl hc26 ?_
        refine W.skip ?_
        refine W.seq ?_
        refine W.block ?_
        refine W.seq ?_
        obtain ⟨z27, hz27, h⟩ := bind_e h
        refine W.reg (σ' := ⟨[(1, .v (Enc.int .i64) a1), (5, .ptr 102 0), (6, .ptr 103 0), (9, .ptr 108 0), (11, .v (Enc.sl (Enc.int .u64)) z27), (36, .v (Enc.sl (Enc.sl (Enc.int .u64))) a0), (37, .v (Enc.int .i64) (a0.length : Int)), (38, .v (Enc.int .i64) s19.1)], [(102, .box 24 [.v eBlk a2]), (103, .box 71 [.v (Enc.sl (Enc.sl (Enc.int .u64))) ([] : (List (List Int)))]), (108, .box 71 [.ref 119]), (119, .dp (DE.arrs 95 67 (Enc.int .u64)) (s19.2, none) [])]⟩) (J.cons (.none rfl) (JO.idx hz27 rfl rfl Try.runUnderlying69 Try.sizeOf95) rfl rfl (J.cons (.none rfl) (JO.loadPst rfl Try.isAgg95 Try.sizeOf95) rfl rfl (J.cons (.none rfl) (JO.assign rfl) rfl rfl (J.fin (Sw.Sub.mk id (.cons rfl (.of_eq rfl) (.cons rfl (.of_eq rfl) (.cons rfl (.of_eq rfl) (.cons rfl (.of_eq rfl) (.cons rfl (.of_eq rfl) (.cons rfl (.of_eq rfl) (.cons rfl (.of_eq rfl) (.cons rfl (.of_eq rfl) .nil)))))))) (.box rfl (.cons (.of_eq rfl) .nil) (.box rfl (.cons (.of_eq rfl) .nil) (.box rfl (.cons (.of_eq rfl) .nil) (.dp rfl .nil)))) rfl))))) ?_
        obtain ⟨v28, hv28, h⟩ := bind_e h
        obtain ⟨v29, hv29, h⟩ := bind_e h
        refine W.dr2 (σ' := ⟨[(1, .v (Enc.int .i64) a1), (5, .ptr 102 0), (6, .ptr 103 0), (9, .ptr 108 0), (36, .v (Enc.sl (Enc.sl (Enc.int .u64))) a0), (37, .v (Enc.int .i64) (a0.length : Int)), (38, .v (Enc.int .i64) s19.1)], [(102, .box 24 [.v eBlk a2]), (103, .box 71 [.v (Enc.sl (Enc.sl (Enc.int .u64))) ([] : (List (List Int)))]), (108, .box 71 [.ref 125]), (125, .dp (DE.arrs 95 67 (Enc.int .u64)) (v29, none) [])]⟩) 5 [0, 1, 0, 4, 12, 31, 63, 127] mixed (by exact (.cons (.none rfl) (JO.fieldPtr 0 rfl Try.runUnderlying71 rfl Try.sizeOf69 rfl rfl) rfl rfl (.cons (.none rfl) (JO.load rfl rfl rfl Try.isAgg69 Try.sizeOf69) rfl rfl (.cons (.none rfl) (JO.move rfl) rfl rfl (.cons (.none rfl) (JO.call 123000 (con_slices_Clone_uint64_uint64 hv28) Try.call84 (.cons (.dir rfl) .nil) rfl) rfl rfl (.cons (.none rfl) (JO.lit1 124 rfl rfl Try.runUnderlying69 Try.sizeOf95 Try.zeroValue95 rfl) rfl rfl .nil)))))) (by exact (J.mut (.none rfl) (JM.appendD 125 hv29 rfl rfl rfl rfl rfl Try.runUnderlying69 Try.typeInfo95 Try.sizeOf95 rfl rfl rfl rfl rfl rfl) (J.cons (.none rfl) (JO.fieldPtr 0 rfl Try.runUnderlying71 rfl Try.sizeOf69 rfl rfl) rfl rfl (J.mut (.none rfl) (JM.store rfl rfl rfl rfl rfl rfl rfl Try.sizeOf69) (J.fin (Sw.Sub.mk id (.cons rfl (.of_eq rfl) (.cons rfl (.of_eq rfl) (.cons rfl (.of_eq rfl) (.cons rfl (.of_eq rfl) (.cons rfl (.of_eq rfl) (.cons rfl (.of_eq rfl) (.cons rfl (.of_eq rfl) .nil))))))) (.box rfl (.cons (.of_eq rfl) .nil) (.box rfl (.cons (.of_eq rfl) .nil) (.box rfl (.cons (.of_eq rfl) .nil) (.dp rfl .nil)))) rfl)))))) rfl (by decide +kernel) (by decide +kernel) (by decide +kernel) (by kernel_rfl) ?_
        refine W.fall ?_
        refine W.reg (σ' := ⟨[(1, .v (Enc.int .i64) a1), (5, .ptr 102 0), (6, .ptr 103 0), (9, .ptr 108 0), (36, .v (Enc.sl (Enc.sl (Enc.int .u64))) a0), (37, .v (Enc.int .i64) (a0.length : Int)), (38, .v (Enc.int .i64) (ar .add .i64 s19.1 (1 : Int)))], [(102, .box 24 [.v eBlk a2]), (103, .box 71 [.v (Enc.sl (Enc.sl (Enc.int .u64))) ([] : (List (List Int)))]), (108, .box 71 [.ref 125]), (125, .dp (DE.arrs 95 67 (Enc.int .u64)) (v29, none) [])]⟩) (J.cons (.none rfl) (JO.arith rfl rfl rfl) rfl rfl (J.cons (.none rfl) (JO.move rfl) rfl rfl (J.fin (Sw.Sub.mk id (.cons rfl (.of_eq rfl) (.cons rfl (.of_eq rfl) (.cons rfl (.of_eq rfl) (.cons rfl (.of_eq rfl) (.cons rfl (.of_eq rfl) (.cons rfl (.of_eq rfl) (.cons rfl (.of_eq rfl) .nil))))))) (.box rfl (.cons (.of_eq rfl) .nil) (.box rfl (.cons (.of_eq rfl) .nil) (.box rfl (.cons (.of_eq rfl) .nil) (.dp rfl .nil)))) rfl)))) ?_
        obtain rfl := Option.some.inj h
        exact W.next (Sw.Sub.mk (rn [(102, 102), (103, 103), (108, 108), (119, 125)]) (.cons rfl (.of_eq rfl) (.cons rfl (.of_eq rfl) (.cons rfl (.of_eq rfl) (.cons rfl (.of_eq rfl) (.cons rfl (.of_eq rfl) (.cons rfl (.of_eq rfl) (.cons rfl (.of_eq rfl) .nil))))))) (.box rfl (.cons (.of_eq rfl) .nil) (.box rfl (.cons (.of_eq rfl) .nil) (.box rfl (.cons (.of_eq rfl) .nil) (.dp rfl .nil)))) rfl)
      · replace h := cond_f hc26 h
        refine W.condF rfl hc26 ?_
        refine W.exit ?_
        obtain rfl := Option.some.inj h
        exact XQ.brk (Sw.Sub.mk id (.cons rfl (.of_eq rfl) (.cons rfl (.of_eq rfl) (.cons rfl (.of_eq rfl) (.cons rfl (.of_eq rfl) .nil)))) (.box rfl (.cons (.of_eq rfl) .nil) (.box rfl (.cons (.of_eq rfl) .nil) (.box rfl (.cons (.of_eq rfl) .nil) (.dp rfl .nil)))) rfl)
set_option maxRecDepth 100000 in
set_option maxHeartbeats 4000000 in
theorem con_law_TreePuts {a0 : ((List (List Int)))} {a1 : Int} {a2 : Blk} {r : Bool} (h : m_law_TreePuts a0 a1 a2 = some r) :
    Con Try.prog 11 [.v (Enc.one1 (Enc.sl (Enc.sl (Enc.int .u64)))) a0, .v (Enc.int .i64) a1, .v eBlk a2] (.v Enc.bool r) [] := by
  refine Con.of Try.func11 rfl Try.ntmps11 rfl ?_
  intro S w hF
  unfold m_law_TreePuts at h
  refine W.seq ?_
  refine W.reg (σ' := ⟨[(1, .v (Enc.int .i64) a1), (3, .ptr 101 0), (5, .ptr 102 0)], [(101, .box 71 [.v (Enc.sl (Enc.sl (Enc.int .u64))) a0]), (102, .box 24 [.v eBlk a2])]⟩) (J.cons (.none rfl) (JO.box 101 rfl (.one1 (.one _ _)) rfl) rfl rfl (J.cons (.none rfl) (JO.box 102 rfl (.one _ _) rfl) rfl rfl (J.cons (.none rfl) (JO.assign rfl) rfl rfl (J.fin (Sw.Sub.mk id (.cons rfl (.of_eq rfl) (.cons rfl (.of_eq rfl) (.cons rfl (.of_eq rfl) .nil))) (.box rfl (.cons (.of_eq rfl) .nil) (.box rfl (.cons (.of_eq rfl) .nil) .nil)) rfl))))) ?_
  refine W.seq ?_
  refine W.seq ?_
  obtain ⟨v1, hv1, h⟩ := bind_e h
  refine W.reg (σ' := ⟨[(1, .v (Enc.int .i64) a1), (3, .ptr 101 0), (5, .ptr 102 0), (12, .v Enc.bool v1)], [(101, .box 71 [.v (Enc.sl (Enc.sl (Enc.int .u64))) a0]), (102, .box 24 [.v eBlk a2])]⟩) (J.cons (.none rfl) (JO.loadAll rfl rfl (.one1 (.one _ _)) Try.isAgg71 Try.sizeOf71) rfl rfl (J.cons (.none rfl) (JO.call0 (con_law_hugeTree hv1) Try.call50 (.cons (.dir rfl) .nil)) rfl rfl (J.fin (Sw.Sub.mk id (.cons rfl (.of_eq rfl) (.cons rfl (.of_eq rfl) (.cons rfl (.of_eq rfl) (.cons rfl (.of_eq rfl) .nil)))) (.box rfl (.cons (.of_eq rfl) .nil) (.box rfl (.cons (.of_eq rfl) .nil) .nil)) rfl)))) ?_
  rcases Bool.eq_false_or_eq_true v1 with hc2 | hc2
  · replace h := cond_t hc2 h
    refine W.condT rfl hc2 ?_
    refine W.seq ?_
    refine W.reg (σ' := ⟨[(6, .v Enc.bool true)], []⟩) (J.cons (.none rfl) (JO.assign rfl) rfl rfl (J.fin (Sw.Sub.mk id (.cons rfl (.of_eq rfl) .nil) .nil rfl))) ?_
    refine W.ret ?_
    obtain rfl := Option.some.inj h
    exact XQ.sub (σ' := ⟨[(6, .v Enc.bool true)], []⟩) (Sw.Sub.mk id (.cons rfl (.of_eq rfl) .nil) .nil rfl) (XQ.ret1 hF noR rfl (RV.tmp rfl) .nil rfl)
  · replace h := cond_f hc2 h
    refine W.condF rfl hc2 ?_
    refine W.skip ?_
    refine W.seq ?_
    obtain ⟨v3, hv3, h⟩ := bind_e h
    refine W.reg (σ' := ⟨[(1, .v (Enc.int .i64) a1), (3, .ptr 101 0), (5, .ptr 102 0), (7, .v (Enc.int .i64) v3)], [(101, .box 71 [.v (Enc.sl (Enc.sl (Enc.int .u64))) a0]), (102, .box 24 [.v eBlk a2])]⟩) (J.cons (.none rfl) (JO.loadAll rfl rfl (.one1 (.one _ _)) Try.isAgg71 Try.sizeOf71) rfl rfl (J.cons (.none rfl) (JO.call0 (con_ref_TreeMay hv3) Try.call51 (.cons (.dir rfl) .nil)) rfl rfl (J.cons (.none rfl) (JO.assign rfl) rfl rfl (J.fin (Sw.Sub.mk id (.cons rfl (.of_eq rfl) (.cons rfl (.of_eq rfl) (.cons rfl (.of_eq rfl) (.cons rfl (.of_eq rfl) .nil)))) (.box rfl (.cons (.of_eq rfl) .nil) (.box rfl (.cons (.of_eq rfl) .nil) .nil)) rfl))))) ?_
    refine W.seq ?_
    refine W.seq ?_
    obtain ⟨v4, hv4, h⟩ := bind_e h
    obtain ⟨v5, hv5, h⟩ := bind_e h
    refine W.reg (σ' := ⟨[(1, .v (Enc.int .i64) a1), (3, .ptr 101 0), (5, .ptr 102 0), (7, .v (Enc.int .i64) v3), (19, .v Enc.bool (!v5))], [(101, .box 71 [.v (Enc.sl (Enc.sl (Enc.int .u64))) a0]), (102, .box 24 [.v eBlk a2])]⟩) (J.cons (.none rfl) (JO.loadAll rfl rfl (.one1 (.one _ _)) Try.isAgg71 Try.sizeOf71) rfl rfl (J.cons (.none rfl) (JO.call0 (con_tree_Check hv4) Try.call42 (.cons (.dir rfl) .nil)) rfl rfl (J.cons (.none rfl) (JO.move rfl) rfl rfl (J.cons (.none rfl) (JO.call0 (con_ref_Is hv5) Try.call18 (.cons (.dir rfl) (.cons (.dir rfl) .nil))) rfl rfl (J.cons (.none rfl) (JO.not rfl) rfl rfl (J.fin (Sw.Sub.mk id (.cons rfl (.of_eq rfl) (.cons rfl (.of_eq rfl) (.cons rfl (.of_eq rfl) (.cons rfl (.of_eq rfl) (.cons rfl (.of_eq rfl) .nil))))) (.box rfl (.cons (.of_eq rfl) .nil) (.box rfl (.cons (.of_eq rfl) .nil) .nil)) rfl))))))) ?_
    rcases Bool.eq_false_or_eq_true (!v5) with hc6 | hc6
    · replace h := cond_t hc6 h
      refine W.condT rfl hc6 ?_
      refine W.seq ?_
      refine W.reg (σ' := ⟨[(6, .v Enc.bool false)], []⟩) (J.cons (.none rfl) (JO.assign rfl) rfl rfl (J.fin (Sw.Sub.mk id (.cons rfl (.of_eq rfl) .nil) .nil rfl))) ?_
      refine W.ret ?_
      obtain rfl := Option.some.inj h
      exact XQ.sub (σ' := ⟨[(6, .v Enc.bool false)], []⟩) (Sw.Sub.mk id (.cons rfl (.of_eq rfl) .nil) .nil rfl) (XQ.ret1 hF noR rfl (RV.tmp rfl) .nil rfl)
    · replace h := cond_f hc6 h
      refine W.condF rfl hc6 ?_
      refine W.skip ?_
      refine W.seq ?_
      obtain ⟨v7, hv7, h⟩ := bind_e h
      refine W.reg (σ' := ⟨[(1, .v (Enc.int .i64) a1), (3, .ptr 101 0), (5, .ptr 102 0), (7, .v (Enc.int .i64) v3), (8, .ptr 108 0), (9, .v (Enc.err ET) v7.2)], [(101, .box 71 [.v (Enc.sl (Enc.sl (Enc.int .u64))) a0]), (102, .box 24 [.v eBlk a2]), (108, .box 71 [.v (Enc.sl (Enc.sl (Enc.int .u64))) v7.1])]⟩) (J.cons (.none rfl) (JO.loadAll rfl rfl (.one1 (.one _ _)) Try.isAgg71 Try.sizeOf71) rfl rfl (J.cons (.none rfl) (JO.move rfl) rfl rfl (J.cons (.none rfl) (JO.load rfl rfl rfl Try.isAgg24 Try.sizeOf24) rfl rfl (J.cons (.none rfl) (JO.call0 (con_tree_Put hv7) Try.call54 (.cons (.dir rfl) (.cons (.dir rfl) (.cons (.dir rfl) .nil)))) rfl rfl (J.cons (.none rfl) (JO.move rfl) rfl rfl (J.cons (.none rfl) (JO.extract rfl rfl) rfl rfl (J.cons (.none rfl) (JO.extract rfl rfl) rfl rfl (J.cons (.none rfl) (JO.alloc 108 Try.zeroValue71 rfl (.cons (Z.sl (Enc.sl (Enc.int .u64))) .nil) rfl) rfl rfl (J.mut (.none rfl) (JM.storeAll rfl rfl rfl rfl (.one1 (.one _ _)) Try.sizeOf71) (J.cons (.none rfl) (JO.assign rfl) rfl rfl (J.fin (Sw.Sub.mk id (.cons rfl (.of_eq rfl) (.cons rfl (.of_eq rfl) (.cons rfl (.of_eq rfl) (.cons rfl (.of_eq rfl) (.cons rfl (.of_eq rfl) (.cons rfl (.of_eq rfl) .nil)))))) (.box rfl (.cons (.of_eq rfl) .nil) (.box rfl (.cons (.of_eq rfl) .nil) (.box rfl (.cons (.of_eq rfl) .nil) .nil))) rfl)))))))))))) ?_
      refine W.seq ?_
      refine W.seq ?_
      obtain ⟨x11, hx, h⟩ := bind_e h
      refine W.reg (σ' := ⟨[(1, .v (Enc.int .i64) a1), (3, .ptr 101 0), (5, .ptr 102 0), (7, .v (Enc.int .i64) v3), (8, .ptr 108 0), (9, .v (Enc.err ET) v7.2), (41, .v Enc.bool x11)], [(101, .box 71 [.v (Enc.sl (Enc.sl (Enc.int .u64))) a0]), (102, .box 24 [.v eBlk a2]), (108, .box 71 [.v (Enc.sl (Enc.sl (Enc.int .u64))) v7.1])]⟩) ?_ ?_
      · rcases Bool.eq_false_or_eq_true (cm .eql v3 (0 : Int)) with hc12 | hc12
        · replace hx := cond_t hc12 hx
          rcases Bool.eq_false_or_eq_true (cm .lss a1 (0 : Int)) with hc13 | hc13
          · replace hx := cond_t hc13 hx
            obtain rfl := Option.some.inj hx
            exact (J.cons (.none rfl) (JO.move rfl) rfl rfl (J.cons (.none rfl) (JO.cmp rfl rfl rfl) rfl rfl (J.cons (.none rfl) (JO.move rfl) rfl rfl (J.cons (GK.met 29 rfl rfl rfl hc12) (JO.move rfl) rfl rfl (J.cons (GK.met 29 rfl rfl rfl hc12) (JO.cmp rfl rfl rfl) rfl rfl (J.cons (GK.met 29 rfl rfl rfl hc12) (JO.move rfl) rfl rfl (J.left (GK.unmet 32 rfl rfl rfl hc13) rfl (J.left (GK.unmet 32 rfl rfl rfl hc13) rfl (J.left (GK.unmet 32 rfl rfl rfl hc13) rfl (J.left (GK.unmet 32 rfl rfl rfl hc13) rfl (J.left (GK.unmet 32 rfl rfl rfl hc13) rfl (J.left (GK.unmet 32 rfl rfl rfl hc13) rfl (J.left (GK.unmet 32 rfl rfl rfl hc13) rfl (J.cons (GK.met 29 rfl rfl rfl hc12) (JO.pT hc13 rfl rfl) rfl rfl (J.cons (.none rfl) (JO.pT hc12 rfl rfl) rfl rfl (J.fin (Sw.Sub.mk id (.cons rfl (.of_eq rfl) (.cons rfl (.of_eq rfl) (.cons rfl (.of_eq rfl) (.cons rfl (.of_eq rfl) (.cons rfl (.of_eq rfl) (.cons rfl (.of_eq rfl) (.cons rfl (.of_eq rfl) .nil))))))) (.box rfl (.cons (.of_eq rfl) .nil) (.box rfl (.cons (.of_eq rfl) .nil) (.box rfl (.cons (.of_eq rfl) .nil) .nil))) rfl)))))))))))))))))
          · replace hx := cond_f hc13 hx
            obtain ⟨z14, hz14, hx⟩ := bind_e hx
            obtain rfl := Option.some.inj hx
            exact (J.cons (.none rfl) (JO.move rfl) rfl rfl (J.cons (.none rfl) (JO.cmp rfl rfl rfl) rfl rfl (J.cons (.none rfl) (JO.move rfl) rfl rfl (J.cons (GK.met 29 rfl rfl rfl hc12) (JO.move rfl) rfl rfl (J.cons (GK.met 29 rfl rfl rfl hc12) (JO.cmp rfl rfl rfl) rfl rfl (J.cons (GK.met 29 rfl rfl rfl hc12) (JO.move rfl) rfl rfl (J.cons (GK.met 32 rfl rfl rfl hc13) (JO.move rfl) rfl rfl (J.cons (GK.met 32 rfl rfl rfl hc13) (JO.fieldPtr 0 rfl Try.runUnderlying71 rfl Try.sizeOf69 rfl rfl) rfl rfl (J.cons (GK.met 32 rfl rfl rfl hc13) (JO.load rfl rfl rfl Try.isAgg69 Try.sizeOf69) rfl rfl (J.cons (GK.met 32 rfl rfl rfl hc13) (JO.idx hz14 rfl rfl Try.runUnderlying69 Try.sizeOf95) rfl rfl (J.cons (GK.met 32 rfl rfl rfl hc13) (JO.loadPst rfl Try.isAgg95 Try.sizeOf95) rfl rfl (J.cons (GK.met 32 rfl rfl rfl hc13) (JO.len rfl Try.runUnderlying95) rfl rfl (J.cons (GK.met 32 rfl rfl rfl hc13) (JO.cmp rfl rfl rfl) rfl rfl (J.cons (GK.met 29 rfl rfl rfl hc12) (JO.pF hc13 rfl rfl) rfl rfl (J.cons (.none rfl) (JO.pT hc12 rfl rfl) rfl rfl (J.fin (Sw.Sub.mk id (.cons rfl (.of_eq rfl) (.cons rfl (.of_eq rfl) (.cons rfl (.of_eq rfl) (.cons rfl (.of_eq rfl) (.cons rfl (.of_eq rfl) (.cons rfl (.of_eq rfl) (.cons rfl (.of_eq rfl) .nil))))))) (.box rfl (.cons (.of_eq rfl) .nil) (.box rfl (.cons (.of_eq rfl) .nil) (.box rfl (.cons (.of_eq rfl) .nil) .nil))) rfl)))))))))))))))))
        · replace hx := cond_f hc12 hx
          obtain rfl := Option.some.inj hx
          exact (J.cons (.none rfl) (JO.move rfl) rfl rfl (J.cons (.none rfl) (JO.cmp rfl rfl rfl) rfl rfl (J.cons (.none rfl) (JO.move rfl) rfl rfl (J.left (GK.unmet 29 rfl rfl rfl hc12) rfl (J.left (GK.unmet 29 rfl rfl rfl hc12) rfl (J.left (GK.unmet 29 rfl rfl rfl hc12) rfl (J.left (GK.und 32 rfl rfl rfl) rfl (J.left (GK.und 32 rfl rfl rfl) rfl (J.left (GK.und 32 rfl rfl rfl) rfl (J.left (GK.und 32 rfl rfl rfl) rfl (J.left (GK.und 32 rfl rfl rfl) rfl (J.left (GK.und 32 rfl rfl rfl) rfl (J.left (GK.und 32 rfl rfl rfl) rfl (J.left (GK.unmet 29 rfl rfl rfl hc12) rfl (J.cons (.none rfl) (JO.pF hc12 rfl rfl) rfl rfl (J.fin (Sw.Sub.mk id (.cons rfl (.of_eq rfl) (.cons rfl (.of_eq rfl) (.cons rfl (.of_eq rfl) (.cons rfl (.of_eq rfl) (.cons rfl (.of_eq rfl) (.cons rfl (.of_eq rfl) (.cons rfl (.of_eq rfl) .nil))))))) (.box rfl (.cons (.of_eq rfl) .nil) (.box rfl (.cons (.of_eq rfl) .nil) (.box rfl (.cons (.of_eq rfl) .nil) .nil))) rfl)))))))))))))))))
      obtain ⟨k16, hk16, h⟩ := jp_elim h
      refine W.jn (fun x17 : Int => ⟨[(1, .v (Enc.int .i64) a1), (3, .ptr 101 0), (5, .ptr 102 0), (7, .v (Enc.int .i64) x17), (8, .ptr 108 0), (9, .v (Enc.err ET) v7.2)], [(101, .box 71 [.v (Enc.sl (Enc.sl (Enc.int .u64))) a0]), (102, .box 24 [.v eBlk a2]), (108, .box 71 [.v (Enc.sl (Enc.sl (Enc.int .u64))) v7.1])]⟩) (fun x => k16 x = some r) rfl ?_ ?_ ?_
      · intro x17 h
        rw [hk16] at h
        refine W.seq ?_
        refine W.seq ?_
        refine W.reg (σ' := ⟨[(1, .v (Enc.int .i64) a1), (3, .ptr 101 0), (5, .ptr 102 0), (7, .v (Enc.int .i64) x17), (8, .ptr 108 0), (9, .v (Enc.err ET) v7.2), (43, .v Enc.bool (cm .neq x17 (0 : Int)))], [(101, .box 71 [.v (Enc.sl (Enc.sl (Enc.int .u64))) a0]), (102, .box 24 [.v eBlk a2]), (108, .box 71 [.v (Enc.sl (Enc.sl (Enc.int .u64))) v7.1])]⟩) (J.cons (.none rfl) (JO.move rfl) rfl rfl (J.cons (.none rfl) (JO.cmp rfl rfl rfl) rfl rfl (J.fin (Sw.Sub.mk id (.cons rfl (.of_eq rfl) (.cons rfl (.of_eq rfl) (.cons rfl (.of_eq rfl) (.cons rfl (.of_eq rfl) (.cons rfl (.of_eq rfl) (.cons rfl (.of_eq rfl) (.cons rfl (.of_eq rfl) .nil))))))) (.box rfl (.cons (.of_eq rfl) .nil) (.box rfl (.cons (.of_eq rfl) .nil) (.box rfl (.cons (.of_eq rfl) .nil) .nil))) rfl)))) ?_
        rcases Bool.eq_false_or_eq_true (cm .neq x17 (0 : Int)) with hc18 | hc18
        · replace h := cond_t hc18 h
          refine W.condT rfl hc18 ?_
          refine W.seq ?_
          obtain ⟨x21, hx, h⟩ := bind_e h
          refine W.reg (σ' := ⟨[(6, .v Enc.bool x21)], []⟩) ?_ ?_
          · obtain ⟨v22, hv22, hx⟩ := bind_e hx
            rcases Bool.eq_false_or_eq_true v22 with hc23 | hc23
            · replace hx := cond_t hc23 hx
              obtain rfl := Option.some.inj hx
              exact (J.cons (.none rfl) (JO.move rfl) rfl rfl (J.cons (.none rfl) (JO.move rfl) rfl rfl (J.cons (.none rfl) (JO.call0 (con_ref_Is hv22) Try.call18 (.cons (.dir rfl) (.cons (.dir rfl) .nil))) rfl rfl (J.cons (.none rfl) (JO.move rfl) rfl rfl (J.cons (GK.met 47 rfl rfl rfl hc23) (JO.fieldPtr 0 rfl Try.runUnderlying71 rfl Try.sizeOf69 rfl rfl) rfl rfl (J.cons (GK.met 47 rfl rfl rfl hc23) (JO.load rfl rfl rfl Try.isAgg69 Try.sizeOf69) rfl rfl (J.cons (GK.met 47 rfl rfl rfl hc23) (JO.len rfl Try.runUnderlying69) rfl rfl (J.cons (GK.met 47 rfl rfl rfl hc23) (JO.cmp rfl rfl rfl) rfl rfl (J.cons (.none rfl) (JO.pT hc23 rfl rfl) rfl rfl (J.cons (.none rfl) (JO.assign rfl) rfl rfl (J.fin (Sw.Sub.mk id (.cons rfl (.of_eq rfl) .nil) .nil rfl))))))))))))
            · replace hx := cond_f hc23 hx
              obtain rfl := Option.some.inj hx
              exact (J.cons (.none rfl) (JO.move rfl) rfl rfl (J.cons (.none rfl) (JO.move rfl) rfl rfl (J.cons (.none rfl) (JO.call0 (con_ref_Is hv22) Try.call18 (.cons (.dir rfl) (.cons (.dir rfl) .nil))) rfl rfl (J.cons (.none rfl) (JO.move rfl) rfl rfl (J.left (GK.unmet 47 rfl rfl rfl hc23) rfl (J.left (GK.unmet 47 rfl rfl rfl hc23) rfl (J.left (GK.unmet 47 rfl rfl rfl hc23) rfl (J.left (GK.unmet 47 rfl rfl rfl hc23) rfl (J.cons (.none rfl) (JO.pF hc23 rfl rfl) rfl rfl (J.cons (.none rfl) (JO.assign rfl) rfl rfl (J.fin (Sw.Sub.mk id (.cons rfl (.of_eq rfl) .nil) .nil rfl))))))))))))
          refine W.ret ?_
          obtain rfl := Option.some.inj h
          exact XQ.sub (σ' := ⟨[(6, .v Enc.bool x21)], []⟩) (Sw.Sub.mk id (.cons rfl (.of_eq rfl) .nil) .nil rfl) (XQ.ret1 hF noR rfl (RV.tmp rfl) .nil rfl)
        · replace h := cond_f hc18 h
          refine W.condF rfl hc18 ?_
          refine W.skip ?_
          refine W.seq ?_
          obtain ⟨z24, hz24, h⟩ := bind_e h
          obtain ⟨v25, hv25, h⟩ := bind_e h
          refine W.reg (σ' := ⟨[(1, .v (Enc.int .i64) a1), (3, .ptr 101 0), (5, .ptr 102 0), (8, .ptr 108 0), (9, .v (Enc.err ET) v7.2), (10, .ref 112)], [(101, .box 71 [.v (Enc.sl (Enc.sl (Enc.int .u64))) a0]), (102, .box 24 [.v eBlk a2]), (108, .box 71 [.v (Enc.sl (Enc.sl (Enc.int .u64))) v7.1]), (112, .arr 67 (Enc.int .u64) v25)]⟩) (J.cons (.none rfl) (JO.litR (e := (Enc.int .u64)) 111 Try.runUnderlying95 Try.sizeOf67 Try.zeroValue67 rfl rfl rfl rfl .nil) rfl rfl (J.cons (.none rfl) (JO.fieldPtr 0 rfl Try.runUnderlying71 rfl Try.sizeOf69 rfl rfl) rfl rfl (J.cons (.none rfl) (JO.load rfl rfl rfl Try.isAgg69 Try.sizeOf69) rfl rfl (J.cons (.none rfl) (JO.idx hz24 rfl rfl Try.runUnderlying69 Try.sizeOf95) rfl rfl (J.cons (.none rfl) (JO.loadPst rfl Try.isAgg95 Try.sizeOf95) rfl rfl (J.mut (.none rfl) (JM.append 112 hv25 rfl rfl (.sl rfl) Try.runUnderlying95 Try.typeInfo67 Try.sizeOf67 rfl rfl rfl rfl rfl) (J.cons (.none rfl) (JO.assign rfl) rfl rfl (J.fin (Sw.Sub.mk id (.cons rfl (.of_eq rfl) (.cons rfl (.of_eq rfl) (.cons rfl (.of_eq rfl) (.cons rfl (.of_eq rfl) (.cons rfl (.of_eq rfl) (.cons rfl (.of_eq rfl) .nil)))))) (.box rfl (.cons (.of_eq rfl) .nil) (.box rfl (.cons (.of_eq rfl) .nil) (.box rfl (.cons (.of_eq rfl) .nil) (.arr rfl .nil)))) rfl))))))))) ?_
          refine W.seq ?_
          obtain ⟨v26, hv26, h⟩ := bind_e h
          obtain ⟨z27, hz27, h⟩ := bind_e h
          obtain ⟨z28, hz28, h⟩ := bind_e h
          obtain ⟨z29, hz29, h⟩ := bind_e h
          refine W.reg (σ' := ⟨[(3, .ptr 101 0), (8, .ptr 108 0), (9, .v (Enc.err ET) v7.2), (10, .ref 112)], [(101, .box 71 [.v (Enc.sl (Enc.sl (Enc.int .u64))) a0]), (108, .box 71 [.v (Enc.sl (Enc.sl (Enc.int .u64))) v7.1]), (112, .arr 67 (Enc.int .u64) (List.set v25 (Int.toNat a1) z28))]⟩) (J.cons (.none rfl) (JO.move rfl) rfl rfl (J.cons (.none rfl) (JO.move rfl) rfl rfl (J.cons (.none rfl) (JO.load rfl rfl rfl Try.isAgg24 Try.sizeOf24) rfl rfl (J.cons (.none rfl) (JO.lit (e := eBlk) Try.runUnderlying22 Try.sizeOf24 Try.zeroValue24 rfl rfl rfl rfl (.cons (.dir rfl) .nil)) rfl rfl (J.cons (.none rfl) (JO.call0 (con_ref_TreeOf hv26) Try.call41 (.cons (.dir rfl) .nil)) rfl rfl (J.cons (.none rfl) (JO.fieldV rfl Try.runUnderlying71 rfl rfl (.one1 .here) rfl Try.isAgg69 Try.sizeOf69) rfl rfl (J.cons (.none rfl) (JO.idx hz27 rfl rfl Try.runUnderlying69 Try.sizeOf95) rfl rfl (J.cons (.none rfl) (JO.loadPst rfl Try.isAgg95 Try.sizeOf95) rfl rfl (J.cons (.none rfl) (JO.idx hz28 rfl rfl Try.runUnderlying95 Try.sizeOf67) rfl rfl (J.cons (.none rfl) (JO.loadPst rfl Try.isAgg67 Try.sizeOf67) rfl rfl (J.cons (.none rfl) (JO.idxR hz29 rfl rfl rfl Try.runUnderlying95 Try.sizeOf67) rfl rfl (J.mut (.none rfl) (JM.storeEl (idx_some hz29).2.2 rfl rfl rfl Try.sizeOf67) (J.fin (Sw.Sub.mk id (.cons rfl (.of_eq rfl) (.cons rfl (.of_eq rfl) (.cons rfl (.of_eq rfl) (.cons rfl (.of_eq rfl) .nil)))) (.box rfl (.cons (.of_eq rfl) .nil) (.box rfl (.cons (.of_eq rfl) .nil) (.arr rfl .nil))) rfl)))))))))))))) ?_
          refine W.seq ?_
          obtain ⟨x36, hx, h⟩ := bind_e h
          refine W.reg (σ' := ⟨[(6, .v Enc.bool x36)], []⟩) ?_ ?_
          · rcases Bool.eq_false_or_eq_true (Option.isNone v7.2) with hc37 | hc37
            · replace hx := cond_t hc37 hx
              rcases Bool.eq_false_or_eq_true (cm .eql (v7.1.length : Int) (a0.length : Int)) with hc38 | hc38
              · replace hx := cond_t hc38 hx
                obtain ⟨z39, hz39, hx⟩ := bind_e hx
                obtain ⟨v40, hv40, hx⟩ := bind_e hx
                rcases Bool.eq_false_or_eq_true v40 with hc41 | hc41
                · replace hx := cond_t hc41 hx
                  obtain ⟨v42, hv42, hx⟩ := bind_e hx
                  obtain rfl := Option.some.inj hx
                  exact (J.cons (.none rfl) (JO.move rfl) rfl rfl (J.cons (.none rfl) (JO.errEq Try.runUnderlying29 rfl) rfl rfl (J.cons (.none rfl) (JO.move rfl) rfl rfl (J.cons (GK.met 72 rfl rfl rfl hc37) (JO.fieldPtr 0 rfl Try.runUnderlying71 rfl Try.sizeOf69 rfl rfl) rfl rfl (J.cons (GK.met 72 rfl rfl rfl hc37) (JO.load rfl rfl rfl Try.isAgg69 Try.sizeOf69) rfl rfl (J.cons (GK.met 72 rfl rfl rfl hc37) (JO.len rfl Try.runUnderlying69) rfl rfl (J.cons (GK.met 72 rfl rfl rfl hc37) (JO.fieldPtr 0 rfl Try.runUnderlying71 rfl Try.sizeOf69 rfl rfl) rfl rfl (J.cons (GK.met 72 rfl rfl rfl hc37) (JO.load rfl rfl rfl Try.isAgg69 Try.sizeOf69) rfl rfl (J.cons (GK.met 72 rfl rfl rfl hc37) (JO.len rfl Try.runUnderlying69) rfl rfl (J.cons (GK.met 72 rfl rfl rfl hc37) (JO.cmp rfl rfl rfl) rfl rfl (J.cons (.none rfl) (JO.pT hc37 rfl rfl) rfl rfl (J.cons (.none rfl) (JO.move rfl) rfl rfl (J.cons (GK.met 81 rfl rfl rfl hc38) (JO.fieldPtr 0 rfl Try.runUnderlying71 rfl Try.sizeOf69 rfl rfl) rfl rfl (J.cons (GK.met 81 rfl rfl rfl hc38) (JO.load rfl rfl rfl Try.isAgg69 Try.sizeOf69) rfl rfl (J.cons (GK.met 81 rfl rfl rfl hc38) (JO.idx hz39 rfl rfl Try.runUnderlying69 Try.sizeOf95) rfl rfl (J.cons (GK.met 81 rfl rfl rfl hc38) (JO.loadPst rfl Try.isAgg95 Try.sizeOf95) rfl rfl (J.cons (GK.met 81 rfl rfl rfl hc38) (JO.move rfl) rfl rfl (J.cons (GK.met 81 rfl rfl rfl hc38) (JO.callL0 (con_ref_SameLevel hv40) Try.call55 (.cons (.dir rfl) (.cons (.ref rfl rfl) .nil)) FlatS.v) rfl rfl (J.cons (.none rfl) (JO.pT hc38 rfl rfl) rfl rfl (J.cons (.none rfl) (JO.move rfl) rfl rfl (J.cons (GK.met 89 rfl rfl rfl hc41) (JO.loadAll rfl rfl (.one1 (.one _ _)) Try.isAgg71 Try.sizeOf71) rfl rfl (J.cons (GK.met 89 rfl rfl rfl hc41) (JO.call0 (con_ref_TreeMay hv42) Try.call51 (.cons (.dir rfl) .nil)) rfl rfl (J.cons (GK.met 89 rfl rfl rfl hc41) (JO.cmp rfl rfl rfl) rfl rfl (J.cons (.none rfl) (JO.pT hc41 rfl rfl) rfl rfl (J.cons (.none rfl) (JO.assign rfl) rfl rfl (J.fin (Sw.Sub.mk id (.cons rfl (.of_eq rfl) .nil) .nil rfl)))))))))))))))))))))))))))
                · replace hx := cond_f hc41 hx
                  obtain rfl := Option.some.inj hx
                  exact (J.cons (.none rfl) (JO.move rfl) rfl rfl (J.cons (.none rfl) (JO.errEq Try.runUnderlying29 rfl) rfl rfl (J.cons (.none rfl) (JO.move rfl) rfl rfl (J.cons (GK.met 72 rfl rfl rfl hc37) (JO.fieldPtr 0 rfl Try.runUnderlying71 rfl Try.sizeOf69 rfl rfl) rfl rfl (J.cons (GK.met 72 rfl rfl rfl hc37) (JO.load rfl rfl rfl Try.isAgg69 Try.sizeOf69) rfl rfl (J.cons (GK.met 72 rfl rfl rfl hc37) (JO.len rfl Try.runUnderlying69) rfl rfl (J.cons (GK.met 72 rfl rfl rfl hc37) (JO.fieldPtr 0 rfl Try.runUnderlying71 rfl Try.sizeOf69 rfl rfl) rfl rfl (J.cons (GK.met 72 rfl rfl rfl hc37) (JO.load rfl rfl rfl Try.isAgg69 Try.sizeOf69) rfl rfl (J.cons (GK.met 72 rfl rfl rfl hc37) (JO.len rfl Try.runUnderlying69) rfl rfl (J.cons (GK.met 72 rfl rfl rfl hc37) (JO.cmp rfl rfl rfl) rfl rfl (J.cons (.none rfl) (JO.pT hc37 rfl rfl) rfl rfl (J.cons (.none rfl) (JO.move rfl) rfl rfl (J.cons (GK.met 81 rfl rfl rfl hc38) (JO.fieldPtr 0 rfl Try.runUnderlying71 rfl Try.sizeOf69 rfl rfl) rfl rfl (J.cons (GK.met 81 rfl rfl rfl hc38) (JO.load rfl rfl rfl Try.isAgg69 Try.sizeOf69) rfl rfl (J.cons (GK.met 81 rfl rfl rfl hc38) (JO.idx hz39 rfl rfl Try.runUnderlying69 Try.sizeOf95) rfl rfl (J.cons (GK.met 81 rfl rfl rfl hc38) (JO.loadPst rfl Try.isAgg95 Try.sizeOf95) rfl rfl (J.cons (GK.met 81 rfl rfl rfl hc38) (JO.move rfl) rfl rfl (J.cons (GK.met 81 rfl rfl rfl hc38) (JO.callL0 (con_ref_SameLevel hv40) Try.call55 (.cons (.dir rfl) (.cons (.ref rfl rfl) .nil)) FlatS.v) rfl rfl (J.cons (.none rfl) (JO.pT hc38 rfl rfl) rfl rfl (J.cons (.none rfl) (JO.move rfl) rfl rfl (J.left (GK.unmet 89 rfl rfl rfl hc41) rfl (J.left (GK.unmet 89 rfl rfl rfl hc41) rfl (J.left (GK.unmet 89 rfl rfl rfl hc41) rfl (J.cons (.none rfl) (JO.pF hc41 rfl rfl) rfl rfl (J.cons (.none rfl) (JO.assign rfl) rfl rfl (J.fin (Sw.Sub.mk id (.cons rfl (.of_eq rfl) .nil) .nil rfl)))))))))))))))))))))))))))
              · replace hx := cond_f hc38 hx
                obtain rfl := Option.some.inj hx
                exact (J.cons (.none rfl) (JO.move rfl) rfl rfl (J.cons (.none rfl) (JO.errEq Try.runUnderlying29 rfl) rfl rfl (J.cons (.none rfl) (JO.move rfl) rfl rfl (J.cons (GK.met 72 rfl rfl rfl hc37) (JO.fieldPtr 0 rfl Try.runUnderlying71 rfl Try.sizeOf69 rfl rfl) rfl rfl (J.cons (GK.met 72 rfl rfl rfl hc37) (JO.load rfl rfl rfl Try.isAgg69 Try.sizeOf69) rfl rfl (J.cons (GK.met 72 rfl rfl rfl hc37) (JO.len rfl Try.runUnderlying69) rfl rfl (J.cons (GK.met 72 rfl rfl rfl hc37) (JO.fieldPtr 0 rfl Try.runUnderlying71 rfl Try.sizeOf69 rfl rfl) rfl rfl (J.cons (GK.met 72 rfl rfl rfl hc37) (JO.load rfl rfl rfl Try.isAgg69 Try.sizeOf69) rfl rfl (J.cons (GK.met 72 rfl rfl rfl hc37) (JO.len rfl Try.runUnderlying69) rfl rfl (J.cons (GK.met 72 rfl rfl rfl hc37) (JO.cmp rfl rfl rfl) rfl rfl (J.cons (.none rfl) (JO.pT hc37 rfl rfl) rfl rfl (J.cons (.none rfl) (JO.move rfl) rfl rfl (J.left (GK.unmet 81 rfl rfl rfl hc38) rfl (J.left (GK.unmet 81 rfl rfl rfl hc38) rfl (J.left (GK.unmet 81 rfl rfl rfl hc38) rfl (J.left (GK.unmet 81 rfl rfl rfl hc38) rfl (J.left (GK.unmet 81 rfl rfl rfl hc38) rfl (J.left (GK.unmet 81 rfl rfl rfl hc38) rfl (J.cons (.none rfl) (JO.pF hc38 rfl rfl) rfl rfl (J.cons (.none rfl) (JO.move rfl) rfl rfl (J.left (GK.unmet 89 rfl rfl rfl rfl) rfl (J.left (GK.unmet 89 rfl rfl rfl rfl) rfl (J.left (GK.unmet 89 rfl rfl rfl rfl) rfl (J.cons (.none rfl) (JO.pF rfl rfl rfl) rfl rfl (J.cons (.none rfl) (JO.assign rfl) rfl rfl (J.fin (Sw.Sub.mk id (.cons rfl (.of_eq rfl) .nil) .nil rfl)))))))))))))))))))))))))))
            · replace hx := cond_f hc37 hx
              obtain rfl := Option.some.inj hx
              exact (J.cons (.none rfl) (JO.move rfl) rfl rfl (J.cons (.none rfl) (JO.errEq Try.runUnderlying29 rfl) rfl rfl (J.cons (.none rfl) (JO.move rfl) rfl rfl (J.left (GK.unmet 72 rfl rfl rfl hc37) rfl (J.left (GK.unmet 72 rfl rfl rfl hc37) rfl (J.left (GK.unmet 72 rfl rfl rfl hc37) rfl (J.left (GK.unmet 72 rfl rfl rfl hc37) rfl (J.left (GK.unmet 72 rfl rfl rfl hc37) rfl (J.left (GK.unmet 72 rfl rfl rfl hc37) rfl (J.left (GK.unmet 72 rfl rfl rfl hc37) rfl (J.cons (.none rfl) (JO.pF hc37 rfl rfl) rfl rfl (J.cons (.none rfl) (JO.move rfl) rfl rfl (J.left (GK.unmet 81 rfl rfl rfl rfl) rfl (J.left (GK.unmet 81 rfl rfl rfl rfl) rfl (J.left (GK.unmet 81 rfl rfl rfl rfl) rfl (J.left (GK.unmet 81 rfl rfl rfl rfl) rfl (J.left (GK.unmet 81 rfl rfl rfl rfl) rfl (J.left (GK.unmet 81 rfl rfl rfl rfl) rfl (J.cons (.none rfl) (JO.pF rfl rfl rfl) rfl rfl (J.cons (.none rfl) (JO.move rfl) rfl rfl (J.left (GK.unmet 89 rfl rfl rfl rfl) rfl (J.left (GK.unmet 89 rfl rfl rfl rfl) rfl (J.left (GK.unmet 89 rfl rfl rfl rfl) rfl (J.cons (.none rfl) (JO.pF rfl rfl rfl) rfl rfl (J.cons (.none rfl) (JO.assign rfl) rfl rfl (J.fin (Sw.Sub.mk id (.cons rfl (.of_eq rfl) .nil) .nil rfl)))))))))))))))))))))))))))
          refine W.ret ?_
          obtain rfl := Option.some.inj h
          exact XQ.sub (σ' := ⟨[(6, .v Enc.bool x36)], []⟩) (Sw.Sub.mk id (.cons rfl (.of_eq rfl) .nil) .nil rfl) (XQ.ret1 hF noR rfl (RV.tmp rfl) .nil rfl)
      · intro hc15
        replace h := cond_t hc15 h
        refine W.reg (σ' := ⟨[(1, .v (Enc.int .i64) a1), (3, .ptr 101 0), (5, .ptr 102 0), (7, .v (Enc.int .i64) (1 : Int)), (8, .ptr 108 0), (9, .v (Enc.err ET) v7.2)], [(101, .box 71 [.v (Enc.sl (Enc.sl (Enc.int .u64))) a0]), (102, .box 24 [.v eBlk a2]), (108, .box 71 [.v (Enc.sl (Enc.sl (Enc.int .u64))) v7.1])]⟩) (J.cons (.none rfl) (JO.assign rfl) rfl rfl (J.fin (Sw.Sub.mk id (.cons rfl (.of_eq rfl) (.cons rfl (.of_eq rfl) (.cons rfl (.of_eq rfl) (.cons rfl (.of_eq rfl) (.cons rfl (.of_eq rfl) (.cons rfl (.of_eq rfl) .nil)))))) (.box rfl (.cons (.of_eq rfl) .nil) (.box rfl (.cons (.of_eq rfl) .nil) (.box rfl (.cons (.of_eq rfl) .nil) .nil))) rfl))) ?_
        exact W.jfall h (Sw.Sub.mk id (.cons rfl (.of_eq rfl) (.cons rfl (.of_eq rfl) (.cons rfl (.of_eq rfl) (.cons rfl (.of_eq rfl) (.cons rfl (.of_eq rfl) (.cons rfl (.of_eq rfl) .nil)))))) (.box rfl (.cons (.of_eq rfl) .nil) (.box rfl (.cons (.of_eq rfl) .nil) (.box rfl (.cons (.of_eq rfl) .nil) .nil))) rfl)
      · intro hc15
        replace h := cond_f hc15 h
        refine W.skip ?_
        exact W.jfall h (Sw.Sub.mk id (.cons rfl (.of_eq rfl) (.cons rfl (.of_eq rfl) (.cons rfl (.of_eq rfl) (.cons rfl (.of_eq rfl) (.cons rfl (.of_eq rfl) (.cons rfl (.of_eq rfl) .nil)))))) (.box rfl (.cons (.of_eq rfl) .nil) (.box rfl (.cons (.of_eq rfl) .nil) (.box rfl (.cons (.of_eq rfl) .nil) .nil))) rfl)
set_option maxRecDepth 100000 in
set_option maxHeartbeats 4000000 in
theorem con_ref_Pick {a0 : Int} {a1 : Int} {r : Int} (h : m_ref_Pick a0 a1 = some r) :
    Con Try.prog 36 [.v (Enc.int .i64) a0, .v (Enc.int .i64) a1] (.v (Enc.int .i64) r) [] := by
  refine Con.of Try.func36 rfl Try.ntmps36 rfl ?_
  intro S w hF
  unfold m_ref_Pick at h
  refine W.seq ?_
  refine W.reg (σ' := ⟨[(0, .v (Enc.int .i64) a0), (1, .v (Enc.int .i64) a1)], []⟩) (J.cons (.none rfl) (JO.assign rfl) rfl rfl (J.fin (Sw.Sub.mk id (.cons rfl (.of_eq rfl) (.cons rfl (.of_eq rfl) .nil)) .nil rfl))) ?_
  refine W.seq ?_
  refine W.seq ?_
  refine W.reg (σ' := ⟨[(0, .v (Enc.int .i64) a0), (1, .v (Enc.int .i64) a1), (6, .v Enc.bool (cm .lss a0 (0 : Int)))], []⟩) (J.cons (.none rfl) (JO.move rfl) rfl rfl (J.cons (.none rfl) (JO.cmp rfl rfl rfl) rfl rfl (J.fin (Sw.Sub.mk id (.cons rfl (.of_eq rfl) (.cons rfl (.of_eq rfl) (.cons rfl (.of_eq rfl) .nil))) .nil rfl)))) ?_
  obtain ⟨k2, hk2, h⟩ := jp_elim h
  refine W.jn (fun x3 : Int => ⟨[(0, .v (Enc.int .i64) x3), (1, .v (Enc.int .i64) a1)], []⟩) (fun x => k2 x = some r) rfl ?_ ?_ ?_
  · intro x3 h
    rw [hk2] at h
    refine W.seq ?_
    obtain ⟨u4, hu4, h⟩ := bind_e h
    refine W.reg (σ' := ⟨[(4, .v (Enc.int .i64) (ar .rem .i64 x3 a1))], []⟩) (J.cons (.none rfl) (JO.move rfl) rfl rfl (J.cons (.none rfl) (JO.move rfl) rfl rfl (J.cons (.none rfl) (JO.div (.inr rfl) (nz_some hu4) rfl rfl) rfl rfl (J.cons (.none rfl) (JO.assign rfl) rfl rfl (J.fin (Sw.Sub.mk id (.cons rfl (.of_eq rfl) .nil) .nil rfl)))))) ?_
    refine W.ret ?_
    obtain rfl := Option.some.inj h
    exact XQ.sub (σ' := ⟨[(4, .v (Enc.int .i64) (ar .rem .i64 x3 a1))], []⟩) (Sw.Sub.mk id (.cons rfl (.of_eq rfl) .nil) .nil rfl) (XQ.ret1 hF noR rfl (RV.tmp rfl) .nil rfl)
  · intro hc1
    replace h := cond_t hc1 h
    refine W.reg (σ' := ⟨[(0, .v (Enc.int .i64) (IntKind.wrap .i64 (0 - (ar .add .i64 a0 (1 : Int))))), (1, .v (Enc.int .i64) a1)], []⟩) (J.cons (.none rfl) (JO.move rfl) rfl rfl (J.cons (.none rfl) (JO.arith rfl rfl rfl) rfl rfl (J.cons (.none rfl) (JO.neg rfl) rfl rfl (J.cons (.none rfl) (JO.assign rfl) rfl rfl (J.fin (Sw.Sub.mk id (.cons rfl (.of_eq rfl) (.cons rfl (.of_eq rfl) .nil)) .nil rfl)))))) ?_
    exact W.jfall h (Sw.Sub.mk id (.cons rfl (.of_eq rfl) (.cons rfl (.of_eq rfl) .nil)) .nil rfl)
  · intro hc1
    replace h := cond_f hc1 h
    refine W.skip ?_
    exact W.jfall h (Sw.Sub.mk id (.cons rfl (.of_eq rfl) (.cons rfl (.of_eq rfl) .nil)) .nil rfl)
set_option maxRecDepth 100000 in
set_option maxHeartbeats 4000000 in
theorem con_ref_Raw {a0 : (List Int)} {a1 : Int} {r : Int} (h : m_ref_Raw a0 a1 = some r) :
    Con Try.prog 58 [.v (Enc.sl (Enc.int .i64)) a0, .v (Enc.int .i64) a1] (.v (Enc.int .i64) r) [] := by
  refine Con.of Try.func58 rfl Try.ntmps58 rfl ?_
  intro S w hF
  unfold m_ref_Raw at h
  refine W.seq ?_
  refine W.reg (σ' := ⟨[(0, .v (Enc.sl (Enc.int .i64)) a0), (1, .v (Enc.int .i64) a1)], []⟩) (J.cons (.none rfl) (JO.assign rfl) rfl rfl (J.fin (Sw.Sub.mk id (.cons rfl (.of_eq rfl) (.cons rfl (.of_eq rfl) .nil)) .nil rfl))) ?_
  refine W.seq ?_
  refine W.seq ?_
  refine W.reg (σ' := ⟨[(0, .v (Enc.sl (Enc.int .i64)) a0), (1, .v (Enc.int .i64) a1), (7, .v Enc.bool (cm .eql (a0.length : Int) (0 : Int)))], []⟩) (J.cons (.none rfl) (JO.move rfl) rfl rfl (J.cons (.none rfl) (JO.len rfl Try.runUnderlying36) rfl rfl (J.cons (.none rfl) (JO.cmp rfl rfl rfl) rfl rfl (J.fin (Sw.Sub.mk id (.cons rfl (.of_eq rfl) (.cons rfl (.of_eq rfl) (.cons rfl (.of_eq rfl) .nil))) .nil rfl))))) ?_
  rcases Bool.eq_false_or_eq_true (cm .eql (a0.length : Int) (0 : Int)) with hc1 | hc1
  · replace h := cond_t hc1 h
    refine W.condT rfl hc1 ?_
    refine W.seq ?_
    refine W.reg (σ' := ⟨[(4, .v (Enc.int .i64) (ar .mul .i64 a1 (31 : Int)))], []⟩) (J.cons (.none rfl) (JO.move rfl) rfl rfl (J.cons (.none rfl) (JO.arith rfl rfl rfl) rfl rfl (J.cons (.none rfl) (JO.assign rfl) rfl rfl (J.fin (Sw.Sub.mk id (.cons rfl (.of_eq rfl) .nil) .nil rfl))))) ?_
    refine W.ret ?_
    obtain rfl := Option.some.inj h
    exact XQ.sub (σ' := ⟨[(4, .v (Enc.int .i64) (ar .mul .i64 a1 (31 : Int)))], []⟩) (Sw.Sub.mk id (.cons rfl (.of_eq rfl) .nil) .nil rfl) (XQ.ret1 hF noR rfl (RV.tmp rfl) .nil rfl)
  · replace h := cond_f hc1 h
    refine W.condF rfl hc1 ?_
    refine W.skip ?_
    refine W.seq ?_
    obtain ⟨u2, hu2, h⟩ := bind_e h
    obtain ⟨z3, hz3, h⟩ := bind_e h
    obtain ⟨v4, hv4, h⟩ := bind_e h
    obtain ⟨u5, hu5, h⟩ := bind_e h
    refine W.dr2 (σ' := ⟨[(4, .v (Enc.int .i64) (ar .add .i64 v4 (ar .mul .i64 (ar .quo .i64 a1 (a0.length : Int)) (7919 : Int))))], []⟩) 15 [0, 0, 0, 4, 14, 31, 63, 127, 0, 0, 512, 1792, 3840, 8191, 16383] mixed (by exact (.cons (.none rfl) (JO.move rfl) rfl rfl (.cons (.none rfl) (JO.move rfl) rfl rfl (.cons (.none rfl) (JO.move rfl) rfl rfl (.cons (.none rfl) (JO.len rfl Try.runUnderlying36) rfl rfl (.cons (.none rfl) (JO.div (.inr rfl) (nz_some hu2) rfl rfl) rfl rfl (.cons (.none rfl) (JO.idx hz3 rfl rfl Try.runUnderlying36 Try.sizeOf3) rfl rfl (.cons (.none rfl) (JO.loadPst rfl Try.isAgg3 Try.sizeOf3) rfl rfl (.cons (.none rfl) (JO.call0 (con_ref_Pick hv4) Try.call36 (.cons (.dir rfl) (.cons (.dir rfl) .nil))) rfl rfl (.cons (.none rfl) (JO.move rfl) rfl rfl (.cons (.none rfl) (JO.move rfl) rfl rfl (.cons (.none rfl) (JO.len rfl Try.runUnderlying36) rfl rfl (.cons (.none rfl) (JO.div (.inl rfl) (nz_some hu5) rfl rfl) rfl rfl (.cons (.none rfl) (JO.arith rfl rfl rfl) rfl rfl (.cons (.none rfl) (JO.arith rfl rfl rfl) rfl rfl (.cons (.none rfl) (JO.assign rfl) rfl rfl .nil)))))))))))))))) (by exact (J.fin (Sw.Sub.mk id (.cons rfl (.of_eq rfl) .nil) .nil rfl))) rfl (by decide +kernel) (by decide +kernel) (by decide +kernel) (by kernel_rfl) ?_
    refine W.ret ?_
    obtain rfl := Option.some.inj h
    exact XQ.sub (σ' := ⟨[(4, .v (Enc.int .i64) (ar .add .i64 v4 (ar .mul .i64 (ar .quo .i64 a1 (a0.length : Int)) (7919 : Int))))], []⟩) (Sw.Sub.mk id (.cons rfl (.of_eq rfl) .nil) .nil rfl) (XQ.ret1 hF noR rfl (RV.tmp rfl) .nil rfl)
set_option maxRecDepth 100000 in
set_option maxHeartbeats 4000000 in
theorem con_ref_BlockFrom {a0 : (List Int)} {a1 : Int} {r : Blk} (h : m_ref_BlockFrom a0 a1 = some r) :
    Con Try.prog 57 [.v (Enc.sl (Enc.int .i64)) a0, .v (Enc.int .i64) a1] (.v eBlk r) [] := by
  refine Con.of Try.func57 rfl Try.ntmps57 rfl ?_
  intro S w hF
  unfold m_ref_BlockFrom at h
  refine W.seq ?_
  refine W.reg (σ' := ⟨[(0, .v (Enc.sl (Enc.int .i64)) a0), (1, .v (Enc.int .i64) a1), (4, .ptr 101 0)], [(101, .box 24 [.v eBlk zblk])]⟩) (J.cons (.none rfl) (JO.alloc 101 Try.zeroValue24 rfl (.cons (Z.arr 8 (Z.int .u8)) .nil) rfl) rfl rfl (J.fin (Sw.Sub.mk id (.cons rfl (.of_eq rfl) (.cons rfl (.of_eq rfl) (.cons rfl (.of_eq rfl) .nil))) (.box rfl (.cons (.of_eq rfl) .nil) .nil) rfl))) ?_
  refine W.seq ?_
  refine W.reg (σ' := ⟨[(0, .v (Enc.sl (Enc.int .i64)) a0), (1, .v (Enc.int .i64) a1), (4, .ptr 101 0), (5, .ptr 102 0)], [(101, .box 24 [.v eBlk zblk]), (102, .box 24 [.v eBlk zblk])]⟩) (J.cons (.none rfl) (JO.zeroArr (e := eBlk) (v := zblk) Try.typeInfo24 Try.runUnderlying24 Try.typeInfo5 rfl rfl (Z.arr 8 (Z.int .u8))) rfl rfl (J.cons (.none rfl) (JO.alloc 102 Try.zeroValue24 rfl (.cons (Z.arr 8 (Z.int .u8)) .nil) rfl) rfl rfl (J.mut (.none rfl) (JM.store rfl rfl rfl rfl rfl rfl rfl Try.sizeOf24) (J.fin (Sw.Sub.mk id (.cons rfl (.of_eq rfl) (.cons rfl (.of_eq rfl) (.cons rfl (.of_eq rfl) (.cons rfl (.of_eq rfl) .nil)))) (.box rfl (.cons (.of_eq rfl) .nil) (.box rfl (.cons (.of_eq rfl) .nil) .nil)) rfl))))) ?_
  refine W.seq ?_
  obtain ⟨v1, hv1, h⟩ := bind_e h
  refine W.reg (σ' := ⟨[(0, .v (Enc.sl (Enc.int .i64)) a0), (1, .v (Enc.int .i64) a1), (4, .ptr 101 0), (5, .ptr 102 0), (6, .v (Enc.int .i64) v1)], [(101, .box 24 [.v eBlk zblk]), (102, .box 24 [.v eBlk zblk])]⟩) (J.cons (.none rfl) (JO.move rfl) rfl rfl (J.cons (.none rfl) (JO.move rfl) rfl rfl (J.cons (.none rfl) (JO.call0 (con_ref_Raw hv1) Try.call58 (.cons (.dir rfl) (.cons (.dir rfl) .nil))) rfl rfl (J.cons (.none rfl) (JO.assign rfl) rfl rfl (J.fin (Sw.Sub.mk id (.cons rfl (.of_eq rfl) (.cons rfl (.of_eq rfl) (.cons rfl (.of_eq rfl) (.cons rfl (.of_eq rfl) (.cons rfl (.of_eq rfl) .nil))))) (.box rfl (.cons (.of_eq rfl) .nil) (.box rfl (.cons (.of_eq rfl) .nil) .nil)) rfl)))))) ?_
  refine W.seq ?_
  refine W.seq ?_
  refine W.reg (σ' := ⟨[(0, .v (Enc.sl (Enc.int .i64)) a0), (1, .v (Enc.int .i64) a1), (4, .ptr 101 0), (5, .ptr 102 0), (6, .v (Enc.int .i64) v1), (14, .v Enc.bool (cm .eql (ar .rem .i64 v1 (3 : Int)) (0 : Int)))], [(101, .box 24 [.v eBlk zblk]), (102, .box 24 [.v eBlk zblk])]⟩) (J.cons (.none rfl) (JO.move rfl) rfl rfl (J.cons (.none rfl) (JO.div (.inr rfl) (by decide) rfl rfl) rfl rfl (J.cons (.none rfl) (JO.cmp rfl rfl rfl) rfl rfl (J.fin (Sw.Sub.mk id (.cons rfl (.of_eq rfl) (.cons rfl (.of_eq rfl) (.cons rfl (.of_eq rfl) (.cons rfl (.of_eq rfl) (.cons rfl (.of_eq rfl) (.cons rfl (.of_eq rfl) .nil)))))) (.box rfl (.cons (.of_eq rfl) .nil) (.box rfl (.cons (.of_eq rfl) .nil) .nil)) rfl))))) ?_
  rcases Bool.eq_false_or_eq_true (cm .eql (ar .rem .i64 v1 (3 : Int)) (0 : Int)) with hc2 | hc2
  · replace h := cond_t hc2 h
    refine W.condT rfl hc2 ?_
    refine W.seq ?_
    refine W.reg (σ' := ⟨[(4, .ptr 101 0)], [(101, .box 24 [.v eBlk zblk])]⟩) (J.cons (.none rfl) (JO.load rfl rfl rfl Try.isAgg24 Try.sizeOf24) rfl rfl (J.mut (.none rfl) (JM.store rfl rfl rfl rfl rfl rfl rfl Try.sizeOf24) (J.fin (Sw.Sub.mk id (.cons rfl (.of_eq rfl) .nil) (.box rfl (.cons (.of_eq rfl) .nil) .nil) rfl)))) ?_
    refine W.ret ?_
    obtain rfl := Option.some.inj h
    exact XQ.sub (σ' := ⟨[(4, .ptr 90 0)], [(90, .box 24 [.v eBlk zblk])]⟩) (Sw.Sub.mk (rn [(90, 101)]) (.cons rfl (.of_eq rfl) .nil) (.box rfl (.cons (.of_eq rfl) .nil) .nil) rfl) (XQ.ret1 hF noR rfl (RV.cellAt rfl rfl rfl Try.isAgg24 Try.sizeOf24) .nil rfl)
  · replace h := cond_f hc2 h
    refine W.condF rfl hc2 ?_
    refine W.skip ?_
    refine W.seq ?_
    obtain ⟨z3, hz3, h⟩ := bind_e h
    refine W.reg (σ' := ⟨[(0, .v (Enc.sl (Enc.int .i64)) a0), (1, .v (Enc.int .i64) a1), (4, .ptr 101 0), (5, .ptr 102 0), (6, .v (Enc.int .i64) v1)], [(101, .box 24 [.v eBlk zblk]), (102, .box 24 [.v eBlk (List.set zblk (Int.toNat (0 : Int)) (IntKind.wrap .u8 (ar .add .i64 (1 : Int) (ar .rem .i64 (ar .quo .i64 v1 (3 : Int)) (5 : Int)))))])]⟩) (J.cons (.none rfl) (JO.move rfl) rfl rfl (J.cons (.none rfl) (JO.div (.inl rfl) (by decide) rfl rfl) rfl rfl (J.cons (.none rfl) (JO.div (.inr rfl) (by decide) rfl rfl) rfl rfl (J.cons (.none rfl) (JO.arith rfl rfl rfl) rfl rfl (J.cons (.none rfl) (JO.conv Try.runUnderlying3 Try.runUnderlying5 rfl) rfl rfl (J.cons (.none rfl) (JO.idxBox hz3 rfl rfl rfl rfl Try.runUnderlying24 Try.sizeOf5) rfl rfl (J.mut (.none rfl) (JM.storePel (idx_some hz3).2.2 rfl rfl rfl rfl Try.sizeOf5) (J.fin (Sw.Sub.mk id (.cons rfl (.of_eq rfl) (.cons rfl (.of_eq rfl) (.cons rfl (.of_eq rfl) (.cons rfl (.of_eq rfl) (.cons rfl (.of_eq rfl) .nil))))) (.box rfl (.cons (.of_eq rfl) .nil) (.box rfl (.cons (.of_eq rfl) .nil) .nil)) rfl))))))))) ?_
    refine W.seq ?_
    refine W.seq ?_
    refine W.reg (σ' := ⟨[(0, .v (Enc.sl (Enc.int .i64)) a0), (1, .v (Enc.int .i64) a1), (4, .ptr 101 0), (5, .ptr 102 0), (24, .v Enc.bool (cm .eql (ar .rem .i64 v1 (3 : Int)) (2 : Int)))], [(101, .box 24 [.v eBlk zblk]), (102, .box 24 [.v eBlk (List.set zblk (Int.toNat (0 : Int)) (IntKind.wrap .u8 (ar .add .i64 (1 : Int) (ar .rem .i64 (ar .quo .i64 v1 (3 : Int)) (5 : Int)))))])]⟩) (J.cons (.none rfl) (JO.move rfl) rfl rfl (J.cons (.none rfl) (JO.div (.inr rfl) (by decide) rfl rfl) rfl rfl (J.cons (.none rfl) (JO.cmp rfl rfl rfl) rfl rfl (J.fin (Sw.Sub.mk id (.cons rfl (.of_eq rfl) (.cons rfl (.of_eq rfl) (.cons rfl (.of_eq rfl) (.cons rfl (.of_eq rfl) (.cons rfl (.of_eq rfl) .nil))))) (.box rfl (.cons (.of_eq rfl) .nil) (.box rfl (.cons (.of_eq rfl) .nil) .nil)) rfl))))) ?_
    obtain ⟨k22, hk22, h⟩ := jp_elim h
    refine W.jn (fun x23 : Blk => ⟨[(4, .ptr 101 0), (5, .ptr 102 0)], [(101, .box 24 [.v eBlk zblk]), (102, .box 24 [.v eBlk x23])]⟩) (fun x => k22 x = some r) rfl ?_ ?_ ?_
    · intro x23 h
      rw [hk22] at h
      refine W.seq ?_
      refine W.reg (σ' := ⟨[(4, .ptr 101 0)], [(101, .box 24 [.v eBlk x23])]⟩) (J.cons (.none rfl) (JO.load rfl rfl rfl Try.isAgg24 Try.sizeOf24) rfl rfl (J.mut (.none rfl) (JM.store rfl rfl rfl rfl rfl rfl rfl Try.sizeOf24) (J.fin (Sw.Sub.mk id (.cons rfl (.of_eq rfl) .nil) (.box rfl (.cons (.of_eq rfl) .nil) .nil) rfl)))) ?_
      refine W.ret ?_
      obtain rfl := Option.some.inj h
      exact XQ.sub (σ' := ⟨[(4, .ptr 90 0)], [(90, .box 24 [.v eBlk x23])]⟩) (Sw.Sub.mk (rn [(90, 101)]) (.cons rfl (.of_eq rfl) .nil) (.box rfl (.cons (.of_eq rfl) .nil) .nil) rfl) (XQ.ret1 hF noR rfl (RV.cellAt rfl rfl rfl Try.isAgg24 Try.sizeOf24) .nil rfl)
    · intro hc4
      replace h := cond_t hc4 h
      refine W.seq ?_
      refine W.reg (σ' := ⟨[(0, .v (Enc.sl (Enc.int .i64)) a0), (1, .v (Enc.int .i64) a1), (4, .ptr 101 0), (5, .ptr 102 0), (7, .v (Enc.int .i64) (1 : Int))], [(101, .box 24 [.v eBlk zblk]), (102, .box 24 [.v eBlk (List.set zblk (Int.toNat (0 : Int)) (IntKind.wrap .u8 (ar .add .i64 (1 : Int) (ar .rem .i64 (ar .quo .i64 v1 (3 : Int)) (5 : Int)))))])]⟩) (J.cons (.none rfl) (JO.assign rfl) rfl rfl (J.fin (Sw.Sub.mk id (.cons rfl (.of_eq rfl) (.cons rfl (.of_eq rfl) (.cons rfl (.of_eq rfl) (.cons rfl (.of_eq rfl) (.cons rfl (.of_eq rfl) .nil))))) (.box rfl (.cons (.of_eq rfl) .nil) (.box rfl (.cons (.of_eq rfl) .nil) .nil)) rfl))) ?_
      obtain ⟨o36, ho36, hb36, hr36⟩ := lp_elim h
      refine W.lp (σs := fun s32 : Int × Blk => ⟨[(0, .v (Enc.sl (Enc.int .i64)) a0), (1, .v (Enc.int .i64) a1), (4, .ptr 101 0), (5, .ptr 102 0), (7, .v (Enc.int .i64) s32.1)], [(101, .box 24 [.v eBlk zblk]), (102, .box 24 [.v eBlk s32.2])]⟩) (fun x37 : Blk => ⟨[(4, .ptr 101 0), (5, .ptr 102 0)], [(101, .box 24 [.v eBlk zblk]), (102, .box 24 [.v eBlk x37])]⟩) ho36 (Sw.Sub.mk id (.cons rfl (.of_eq rfl) (.cons rfl (.of_eq rfl) (.cons rfl (.of_eq rfl) (.cons rfl (.of_eq rfl) (.cons rfl (.of_eq rfl) .nil))))) (.box rfl (.cons (.of_eq rfl) .nil) (.box rfl (.cons (.of_eq rfl) .nil) .nil)) rfl) ?_ ?_
      · intro x37 hy
        have h := hb36 _ hy
        exact W.jfall h (Sw.Sub.mk id (.cons rfl (.of_eq rfl) (.cons rfl (.of_eq rfl) .nil)) (.box rfl (.cons (.of_eq rfl) .nil) (.box rfl (.cons (.of_eq rfl) .nil) .nil)) rfl)
      intro s32 r36 h
      refine W.seq ?_
      refine W.seq ?_
      refine W.reg (σ' := ⟨[(0, .v (Enc.sl (Enc.int .i64)) a0), (1, .v (Enc.int .i64) a1), (4, .ptr 101 0), (5, .ptr 102 0), (7, .v (Enc.int .i64) s32.1), (26, .v Enc.bool (cm .lss s32.1 (8 : Int)))], [(101, .box 24 [.v eBlk zblk]), (102, .box 24 [.v eBlk s32.2])]⟩) (J.cons (.none rfl) (JO.move rfl) rfl rfl (J.cons (.none rfl) (JO.cmp rfl rfl rfl) rfl rfl (J.fin (Sw.Sub.mk id (.cons rfl (.of_eq rfl) (.cons rfl (.of_eq rfl) (.cons rfl (.of_eq rfl) (.cons rfl (.of_eq rfl) (.cons rfl (.of_eq rfl) (.cons rfl (.of_eq rfl) .nil)))))) (.box rfl (.cons (.of_eq rfl) .nil) (.box rfl (.cons (.of_eq rfl) .nil) .nil)) rfl)))) ?_
      rcases Bool.eq_false_or_eq_true (cm .lss s32.1 (8 : Int)) with hc38 | hc38
      · replace h := cond_t hc38 h
        refine W.condT rfl hc38 ?_
        refine W.skip ?_
        refine W.seq ?_
        refine W.block ?_
        obtain ⟨v39, hv39, h⟩ := bind_e h
        obtain ⟨z40, hz40, h⟩ := bind_e h
        refine W.reg (σ' := ⟨[(0, .v (Enc.sl (Enc.int .i64)) a0), (1, .v (Enc.int .i64) a1), (4, .ptr 101 0), (5, .ptr 102 0), (7, .v (Enc.int .i64) s32.1)], [(101, .box 24 [.v eBlk zblk]), (102, .box 24 [.v eBlk (List.set s32.2 (Int.toNat s32.1) (IntKind.wrap .u8 (ar .quo .i64 v39 (7 : Int))))])]⟩) (J.cons (.none rfl) (JO.move rfl) rfl rfl (J.cons (.none rfl) (JO.move rfl) rfl rfl (J.cons (.none rfl) (JO.move rfl) rfl rfl (J.cons (.none rfl) (JO.move rfl) rfl rfl (J.cons (.none rfl) (JO.arith rfl rfl rfl) rfl rfl (J.cons (.none rfl) (JO.call0 (con_ref_Raw hv39) Try.call58 (.cons (.dir rfl) (.cons (.dir rfl) .nil))) rfl rfl (J.cons (.none rfl) (JO.div (.inl rfl) (by decide) rfl rfl) rfl rfl (J.cons (.none rfl) (JO.conv Try.runUnderlying3 Try.runUnderlying5 rfl) rfl rfl (J.cons (.none rfl) (JO.idxBox hz40 rfl rfl rfl rfl Try.runUnderlying24 Try.sizeOf5) rfl rfl (J.mut (.none rfl) (JM.storePel (idx_some hz40).2.2 rfl rfl rfl rfl Try.sizeOf5) (J.fin (Sw.Sub.mk id (.cons rfl (.of_eq rfl) (.cons rfl (.of_eq rfl) (.cons rfl (.of_eq rfl) (.cons rfl (.of_eq rfl) (.cons rfl (.of_eq rfl) .nil))))) (.box rfl (.cons (.of_eq rfl) .nil) (.box rfl (.cons (.of_eq rfl) .nil) .nil)) rfl)))))))))))) ?_
        refine W.fall ?_
        refine W.reg (σ' := ⟨[(0, .v (Enc.sl (Enc.int .i64)) a0), (1, .v (Enc.int .i64) a1), (4, .ptr 101 0), (5, .ptr 102 0), (7, .v (Enc.int .i64) (ar .add .i64 s32.1 (1 : Int)))], [(101, .box 24 [.v eBlk zblk]), (102, .box 24 [.v eBlk (List.set s32.2 (Int.toNat s32.1) (IntKind.wrap .u8 (ar .quo .i64 v39 (7 : Int))))])]⟩) (J.cons (.none rfl) (JO.move rfl) rfl rfl (J.cons (.none rfl) (JO.arith rfl rfl rfl) rfl rfl (J.cons (.none rfl) (JO.assign rfl) rfl rfl (J.fin (Sw.Sub.mk id (.cons rfl (.of_eq rfl) (.cons rfl (.of_eq rfl) (.cons rfl (.of_eq rfl) (.cons rfl (.of_eq rfl) (.cons rfl (.of_eq rfl) .nil))))) (.box rfl (.cons (.of_eq rfl) .nil) (.box rfl (.cons (.of_eq rfl) .nil) .nil)) rfl))))) ?_
        obtain rfl := Option.some.inj h
        exact W.next (Sw.Sub.mk id (.cons rfl (.of_eq rfl) (.cons rfl (.of_eq rfl) (.cons rfl (.of_eq rfl) (.cons rfl (.of_eq rfl) (.cons rfl (.of_eq rfl) .nil))))) (.box rfl (.cons (.of_eq rfl) .nil) (.box rfl (.cons (.of_eq rfl) .nil) .nil)) rfl)
      · replace h := cond_f hc38 h
        refine W.condF rfl hc38 ?_
        refine W.exit ?_
        obtain rfl := Option.some.inj h
        exact XQ.brk (Sw.Sub.mk id (.cons rfl (.of_eq rfl) (.cons rfl (.of_eq rfl) .nil)) (.box rfl (.cons (.of_eq rfl) .nil) (.box rfl (.cons (.of_eq rfl) .nil) .nil)) rfl)
    · intro hc4
      replace h := cond_f hc4 h
      refine W.skip ?_
      exact W.jfall h (Sw.Sub.mk id (.cons rfl (.of_eq rfl) (.cons rfl (.of_eq rfl) .nil)) (.box rfl (.cons (.of_eq rfl) .nil) (.box rfl (.cons (.of_eq rfl) .nil) .nil)) rfl)
set_option maxRecDepth 100000 in
set_option maxHeartbeats 4000000 in
theorem con_ref_BlocksFrom {a0 : (List Int)} {a1 : Int} {a2 : Int} {r : (List Blk)} (h : m_ref_BlocksFrom a0 a1 a2 = some r) :
    Con Try.prog 56 [.v (Enc.sl (Enc.int .i64)) a0, .v (Enc.int .i64) a1, .v (Enc.int .i64) a2] (.v (Enc.sl eBlk) r) [] := by
  refine Con.of Try.func56 rfl Try.ntmps56 rfl ?_
  intro S w hF
  unfold m_ref_BlocksFrom at h
  refine W.seq ?_
  refine W.reg (σ' := ⟨[(0, .v (Enc.sl (Enc.int .i64)) a0), (1, .v (Enc.int .i64) a1), (2, .v (Enc.int .i64) a2)], []⟩) (J.cons (.none rfl) (JO.assignNilR 101 24 eBlk) rfl rfl (J.fin (Sw.Sub.mk id (.cons rfl (.of_eq rfl) (.cons rfl (.of_eq rfl) (.cons rfl (.of_eq rfl) .nil))) .nil rfl))) ?_
  refine W.seq ?_
  refine W.reg (σ' := ⟨[(0, .v (Enc.sl (Enc.int .i64)) a0), (1, .v (Enc.int .i64) a1), (2, .v (Enc.int .i64) a2), (7, .ref 102)], [(102, .arr 24 eBlk ([] : (List Blk)))]⟩) (J.cons (.none rfl) (JO.assignNilR 102 24 eBlk) rfl rfl (J.fin (Sw.Sub.mk id (.cons rfl (.of_eq rfl) (.cons rfl (.of_eq rfl) (.cons rfl (.of_eq rfl) (.cons rfl (.of_eq rfl) .nil)))) (.arr rfl .nil) rfl))) ?_
  refine W.seq ?_
  refine W.seq ?_
  refine W.reg (σ' := ⟨[(0, .v (Enc.sl (Enc.int .i64)) a0), (1, .v (Enc.int .i64) a1), (2, .v (Enc.int .i64) a2), (7, .ref 102), (8, .v (Enc.int .i64) (0 : Int))], [(102, .arr 24 eBlk ([] : (List Blk)))]⟩) (J.cons (.none rfl) (JO.assign rfl) rfl rfl (J.fin (Sw.Sub.mk id (.cons rfl (.of_eq rfl) (.cons rfl (.of_eq rfl) (.cons rfl (.of_eq rfl) (.cons rfl (.of_eq rfl) (.cons rfl (.of_eq rfl) .nil))))) (.arr rfl .nil) rfl))) ?_
  obtain ⟨o13, ho13, hb13, hr13⟩ := lp_elim h
  refine W.lp (σs := fun s9 : Int × (List Blk) => ⟨[(0, .v (Enc.sl (Enc.int .i64)) a0), (1, .v (Enc.int .i64) a1), (2, .v (Enc.int .i64) a2), (7, .ref 110), (8, .v (Enc.int .i64) s9.1)], [(110, .arr 24 eBlk s9.2)]⟩) (fun x14 : (List Blk) => ⟨[(7, .ref 110)], [(110, .arr 24 eBlk x14)]⟩) ho13 (Sw.Sub.mk (rn [(110, 102)]) (.cons rfl (.of_eq rfl) (.cons rfl (.of_eq rfl) (.cons rfl (.of_eq rfl) (.cons rfl (.of_eq rfl) (.cons rfl (.of_eq rfl) .nil))))) (.arr rfl .nil) rfl) ?_ ?_
  · intro x14 hy
    have h := hb13 _ hy
    refine W.seq ?_
    refine W.reg (σ' := ⟨[(6, .ref 110)], [(110, .arr 24 eBlk x14)]⟩) (J.cons (.none rfl) (JO.move rfl) rfl rfl (J.cons (.none rfl) (JO.assign rfl) rfl rfl (J.fin (Sw.Sub.mk id (.cons rfl (.of_eq rfl) .nil) (.arr rfl .nil) rfl)))) ?_
    refine W.ret ?_
    obtain rfl := Option.some.inj h
    exact XQ.sub (σ' := ⟨[(6, .v (Enc.sl eBlk) x14)], []⟩) (Sw.Sub.mk id (.cons rfl (.frz rfl rfl) .nil) .nil rfl) (XQ.ret1 hF noR rfl (RV.tmp rfl) .nil rfl)
  intro s9 r13 h
  refine W.seq ?_
  refine W.seq ?_
  refine W.reg (σ' := ⟨[(0, .v (Enc.sl (Enc.int .i64)) a0), (1, .v (Enc.int .i64) a1), (2, .v (Enc.int .i64) a2), (7, .ref 110), (8, .v (Enc.int .i64) s9.1), (11, .v Enc.bool (cm .lss s9.1 a2))], [(110, .arr 24 eBlk s9.2)]⟩) (J.cons (.none rfl) (JO.move rfl) rfl rfl (J.cons (.none rfl) (JO.move rfl) rfl rfl (J.cons (.none rfl) (JO.cmp rfl rfl rfl) rfl rfl (J.fin (Sw.Sub.mk id (.cons rfl (.of_eq rfl) (.cons rfl (.of_eq rfl) (.cons rfl (.of_eq rfl) (.cons rfl (.of_eq rfl) (.cons rfl (.of_eq rfl) (.cons rfl (.of_eq rfl) .nil)))))) (.arr rfl .nil) rfl))))) ?_
  rcases Bool.eq_false_or_eq_true (cm .lss s9.1 a2) with hc15 | hc15
  · replace h := cond_t hc15 h
    refine W.condT rfl hc15 ?_
    refine W.skip ?_
    refine W.seq ?_
    refine W.block ?_
    obtain ⟨v16, hv16, h⟩ := bind_e h
    obtain ⟨v17, hv17, h⟩ := bind_e h
    refine W.reg (σ' := ⟨[(0, .v (Enc.sl (Enc.int .i64)) a0), (1, .v (Enc.int .i64) a1), (2, .v (Enc.int .i64) a2), (7, .ref 114), (8, .v (Enc.int .i64) s9.1)], [(114, .arr 24 eBlk v17)]⟩) (J.cons (.none rfl) (JO.move rfl) rfl rfl (J.cons (.none rfl) (JO.move rfl) rfl rfl (J.cons (.none rfl) (JO.move rfl) rfl rfl (J.cons (.none rfl) (JO.move rfl) rfl rfl (J.cons (.none rfl) (JO.arith rfl rfl rfl) rfl rfl (J.cons (.none rfl) (JO.arith rfl rfl rfl) rfl rfl (J.cons (.none rfl) (JO.call0 (con_ref_BlockFrom hv16) Try.call57 (.cons (.dir rfl) (.cons (.dir rfl) .nil))) rfl rfl (J.cons (.none rfl) (JO.lit (e := eBlk) Try.runUnderlying22 Try.sizeOf24 Try.zeroValue24 rfl rfl rfl rfl (.cons (.dir rfl) .nil)) rfl rfl (J.mut (.none rfl) (JM.append 114 hv17 rfl rfl (.sl rfl) Try.runUnderlying22 Try.typeInfo24 Try.sizeOf24 rfl rfl rfl rfl rfl) (J.cons (.none rfl) (JO.assign rfl) rfl rfl (J.fin (Sw.Sub.mk id (.cons rfl (.of_eq rfl) (.cons rfl (.of_eq rfl) (.cons rfl (.of_eq rfl) (.cons rfl (.of_eq rfl) (.cons rfl (.of_eq rfl) .nil))))) (.arr rfl .nil) rfl)))))))))))) ?_
    refine W.fall ?_
    refine W.reg (σ' := ⟨[(0, .v (Enc.sl (Enc.int .i64)) a0), (1, .v (Enc.int .i64) a1), (2, .v (Enc.int .i64) a2), (7, .ref 114), (8, .v (Enc.int .i64) (ar .add .i64 s9.1 (1 : Int)))], [(114, .arr 24 eBlk v17)]⟩) (J.cons (.none rfl) (JO.move rfl) rfl rfl (J.cons (.none rfl) (JO.arith rfl rfl rfl) rfl rfl (J.cons (.none rfl) (JO.assign rfl) rfl rfl (J.fin (Sw.Sub.mk id (.cons rfl (.of_eq rfl) (.cons rfl (.of_eq rfl) (.cons rfl (.of_eq rfl) (.cons rfl (.of_eq rfl) (.cons rfl (.of_eq rfl) .nil))))) (.arr rfl .nil) rfl))))) ?_
    obtain rfl := Option.some.inj h
    exact W.next (Sw.Sub.mk (rn [(110, 114)]) (.cons rfl (.of_eq rfl) (.cons rfl (.of_eq rfl) (.cons rfl (.of_eq rfl) (.cons rfl (.of_eq rfl) (.cons rfl (.of_eq rfl) .nil))))) (.arr rfl .nil) rfl)
  · replace h := cond_f hc15 h
    refine W.condF rfl hc15 ?_
    refine W.exit ?_
    obtain rfl := Option.some.inj h
    exact XQ.brk (Sw.Sub.mk id (.cons rfl (.of_eq rfl) .nil) (.arr rfl .nil) rfl)
set_option maxRecDepth 100000 in
set_option maxHeartbeats 4000000 in
theorem con_ref_OwnBlocks {a0 : (List Blk)} {r : (List Blk)} (h : m_ref_OwnBlocks a0 = some r) :
    Con Try.prog 48 [.v (Enc.sl eBlk) a0] (.ref 0) [(0, .arr 24 eBlk r)] := by
  refine Con.of Try.func48 rfl Try.ntmps48 rfl ?_
  intro S w hF
  unfold m_ref_OwnBlocks at h
  refine W.seq ?_
  refine W.reg (σ' := ⟨[(0, .v (Enc.sl eBlk) a0)], []⟩) (J.cons (.none rfl) (JO.assignNilR 101 24 eBlk) rfl rfl (J.fin (Sw.Sub.mk id (.cons rfl (.of_eq rfl) .nil) .nil rfl))) ?_
  refine W.seq ?_
  obtain ⟨v1, hv1, h⟩ := bind_e h
  refine W.reg (σ' := ⟨[(2, .ref 103)], [(103, .arr 24 eBlk v1)]⟩) (J.cons (.none rfl) (JO.litR (e := eBlk) 102 Try.runUnderlying22 Try.sizeOf24 Try.zeroValue24 rfl rfl rfl rfl .nil) rfl rfl (J.cons (.none rfl) (JO.move rfl) rfl rfl (J.mut (.none rfl) (JM.append 103 hv1 rfl rfl (.sl rfl) Try.runUnderlying22 Try.typeInfo24 Try.sizeOf24 rfl rfl rfl rfl rfl) (J.cons (.none rfl) (JO.assign rfl) rfl rfl (J.fin (Sw.Sub.mk id (.cons rfl (.of_eq rfl) .nil) (.arr rfl .nil) rfl)))))) ?_
  refine W.ret ?_
  obtain rfl := Option.some.inj h
  exact XQ.sub (σ' := ⟨[(2, .ref 0)], [(0, .arr 24 eBlk v1)]⟩) (Sw.Sub.mk (rn [(0, 103)]) (.cons rfl (.of_eq rfl) .nil) (.arr rfl .nil) rfl) (XQ.ret1 hF noR rfl (RV.tmp rfl) (.cons rfl .nil) rfl)
set_option maxRecDepth 100000 in
set_option maxHeartbeats 4000000 in
theorem con_top_clash {a0 : ((List (List Int)))} {a1 : ((List (List Int)))} {a2 : (List Blk)} {a3 : (List Blk)} {r : Bool} (h : m_top_clash a0 a1 a2 a3 = some r) :
    Con Try.prog 59 [.v (Enc.one1 (Enc.sl (Enc.sl (Enc.int .u64)))) a0, .v (Enc.one1 (Enc.sl (Enc.sl (Enc.int .u64)))) a1, .v (Enc.sl eBlk) a2, .v (Enc.sl eBlk) a3] (.v Enc.bool r) [] := by
  refine Con.of Try.func59 rfl Try.ntmps59 rfl ?_
  intro S w hF
  unfold m_top_clash at h
  refine W.seq ?_
  refine W.reg (σ' := ⟨[(2, .v (Enc.sl eBlk) a2), (3, .v (Enc.sl eBlk) a3), (4, .ptr 101 0), (5, .ptr 102 0)], [(101, .box 71 [.v (Enc.sl (Enc.sl (Enc.int .u64))) a0]), (102, .box 71 [.v (Enc.sl (Enc.sl (Enc.int .u64))) a1])]⟩) (J.cons (.none rfl) (JO.box 101 rfl (.one1 (.one _ _)) rfl) rfl rfl (J.cons (.none rfl) (JO.box 102 rfl (.one1 (.one _ _)) rfl) rfl rfl (J.cons (.none rfl) (JO.assign rfl) rfl rfl (J.fin (Sw.Sub.mk id (.cons rfl (.of_eq rfl) (.cons rfl (.of_eq rfl) (.cons rfl (.of_eq rfl) (.cons rfl (.of_eq rfl) .nil)))) (.box rfl (.cons (.of_eq rfl) .nil) (.box rfl (.cons (.of_eq rfl) .nil) .nil)) rfl))))) ?_
  refine W.seq ?_
  refine W.seq ?_
  refine W.reg (σ' := ⟨[(2, .v (Enc.sl eBlk) a2), (3, .v (Enc.sl eBlk) a3), (4, .ptr 101 0), (5, .ptr 102 0), (9, .v (Enc.int .i64) (0 : Int))], [(101, .box 71 [.v (Enc.sl (Enc.sl (Enc.int .u64))) a0]), (102, .box 71 [.v (Enc.sl (Enc.sl (Enc.int .u64))) a1])]⟩) (J.cons (.none rfl) (JO.assign rfl) rfl rfl (J.fin (Sw.Sub.mk id (.cons rfl (.of_eq rfl) (.cons rfl (.of_eq rfl) (.cons rfl (.of_eq rfl) (.cons rfl (.of_eq rfl) (.cons rfl (.of_eq rfl) .nil))))) (.box rfl (.cons (.of_eq rfl) .nil) (.box rfl (.cons (.of_eq rfl) .nil) .nil)) rfl))) ?_
  obtain ⟨o1852, ho1852, hb1852, hr1852⟩ := lp_elim h
  refine W.lp (σs := fun s1235 : Int => ⟨[(2, .v (Enc.sl eBlk) a2), (3, .v (Enc.sl eBlk) a3), (4, .ptr 101 0), (5, .ptr 102 0), (9, .v (Enc.int .i64) s1235)], [(101, .box 71 [.v (Enc.sl (Enc.sl (Enc.int .u64))) a0]), (102, .box 71 [.v (Enc.sl (Enc.sl (Enc.int .u64))) a1])]⟩) (fun x1853 : Unit => ⟨[], []⟩) ho1852 (Sw.Sub.mk id (.cons rfl (.of_eq rfl) (.cons rfl (.of_eq rfl) (.cons rfl (.of_eq rfl) (.cons rfl (.of_eq rfl) (.cons rfl (.of_eq rfl) .nil))))) (.box rfl (.cons (.of_eq rfl) .nil) (.box rfl (.cons (.of_eq rfl) .nil) .nil)) rfl) ?_ ?_
  · intro x1853 hy
    have h := hb1852 _ hy
    refine W.seq ?_
    refine W.reg (σ' := ⟨[(8, .v Enc.bool false)], []⟩) (J.cons (.none rfl) (JO.assign rfl) rfl rfl (J.fin (Sw.Sub.mk id (.cons rfl (.of_eq rfl) .nil) .nil rfl))) ?_
    refine W.ret ?_
    obtain rfl := Option.some.inj h
    exact XQ.sub (σ' := ⟨[(8, .v Enc.bool false)], []⟩) (Sw.Sub.mk id (.cons rfl (.of_eq rfl) .nil) .nil rfl) (XQ.ret1 hF noR rfl (RV.tmp rfl) .nil rfl)
  intro s1235 r1852 h
  refine W.seq ?_
  refine W.seq ?_
  refine W.reg (σ' := ⟨[(2, .v (Enc.sl eBlk) a2), (3, .v (Enc.sl eBlk) a3), (4, .ptr 101 0), (5, .ptr 102 0), (9, .v (Enc.int .i64) s1235), (16, .v Enc.bool (cm .lss s1235 (a0.length : Int)))], [(101, .box 71 [.v (Enc.sl (Enc.sl (Enc.int .u64))) a0]), (102, .box 71 [.v (Enc.sl (Enc.sl (Enc.int .u64))) a1])]⟩) (J.cons (.none rfl) (JO.move rfl) rfl rfl (J.cons (.none rfl) (JO.fieldPtr 0 rfl Try.runUnderlying71 rfl Try.sizeOf69 rfl rfl) rfl rfl (J.cons (.none rfl) (JO.load rfl rfl rfl Try.isAgg69 Try.sizeOf69) rfl rfl (J.cons (.none rfl) (JO.len rfl Try.runUnderlying69) rfl rfl (J.cons (.none rfl) (JO.cmp rfl rfl rfl) rfl rfl (J.fin (Sw.Sub.mk id (.cons rfl (.of_eq rfl) (.cons rfl (.of_eq rfl) (.cons rfl (.of_eq rfl) (.cons rfl (.of_eq rfl) (.cons rfl (.of_eq rfl) (.cons rfl (.of_eq rfl) .nil)))))) (.box rfl (.cons (.of_eq rfl) .nil) (.box rfl (.cons (.of_eq rfl) .nil) .nil)) rfl))))))) ?_
  rcases Bool.eq_false_or_eq_true (cm .lss s1235 (a0.length : Int)) with hc1854 | hc1854
  · replace h := cond_t hc1854 h
    refine W.condT rfl hc1854 ?_
    refine W.skip ?_
    refine W.seq ?_
    refine W.block ?_
    refine W.seq ?_
    refine W.reg (σ' := ⟨[(2, .v (Enc.sl eBlk) a2), (3, .v (Enc.sl eBlk) a3), (4, .ptr 101 0), (5, .ptr 102 0), (9, .v (Enc.int .i64) s1235), (10, .v (Enc.int .i64) (0 : Int))], [(101, .box 71 [.v (Enc.sl (Enc.sl (Enc.int .u64))) a0]), (102, .box 71 [.v (Enc.sl (Enc.sl (Enc.int .u64))) a1])]⟩) (J.cons (.none rfl) (JO.assign rfl) rfl rfl (J.fin (Sw.Sub.mk id (.cons rfl (.of_eq rfl) (.cons rfl (.of_eq rfl) (.cons rfl (.of_eq rfl) (.cons rfl (.of_eq rfl) (.cons rfl (.of_eq rfl) (.cons rfl (.of_eq rfl) .nil)))))) (.box rfl (.cons (.of_eq rfl) .nil) (.box rfl (.cons (.of_eq rfl) .nil) .nil)) rfl))) ?_
    obtain ⟨o2314, ho2314, hb2314, hr2314⟩ := lp_elim h
    refine W.lp (σs := fun s2161 : Int => ⟨[(2, .v (Enc.sl eBlk) a2), (3, .v (Enc.sl eBlk) a3), (4, .ptr 101 0), (5, .ptr 102 0), (9, .v (Enc.int .i64) s1235), (10, .v (Enc.int .i64) s2161)], [(101, .box 71 [.v (Enc.sl (Enc.sl (Enc.int .u64))) a0]), (102, .box 71 [.v (Enc.sl (Enc.sl (Enc.int .u64))) a1])]⟩) (fun x2315 : Unit => ⟨[(2, .v (Enc.sl eBlk) a2), (3, .v (Enc.sl eBlk) a3), (4, .ptr 101 0), (5, .ptr 102 0), (9, .v (Enc.int .i64) s1235)], [(101, .box 71 [.v (Enc.sl (Enc.sl (Enc.int .u64))) a0]), (102, .box 71 [.v (Enc.sl (Enc.sl (Enc.int .u64))) a1])]⟩) ho2314 (Sw.Sub.mk id (.cons rfl (.of_eq rfl) (.cons rfl (.of_eq rfl) (.cons rfl (.of_eq rfl) (.cons rfl (.of_eq rfl) (.cons rfl (.of_eq rfl) (.cons rfl (.of_eq rfl) .nil)))))) (.box rfl (.cons (.of_eq rfl) .nil) (.box rfl (.cons (.of_eq rfl) .nil) .nil)) rfl) ?_ ?_
    · intro x2315 hy
      have h := hb2314 _ hy
      refine W.fall ?_
      refine W.reg (σ' := ⟨[(2, .v (Enc.sl eBlk) a2), (3, .v (Enc.sl eBlk) a3), (4, .ptr 101 0), (5, .ptr 102 0), (9, .v (Enc.int .i64) (ar .add .i64 s1235 (1 : Int)))], [(101, .box 71 [.v (Enc.sl (Enc.sl (Enc.int .u64))) a0]), (102, .box 71 [.v (Enc.sl (Enc.sl (Enc.int .u64))) a1])]⟩) (J.cons (.none rfl) (JO.move rfl) rfl rfl (J.cons (.none rfl) (JO.arith rfl rfl rfl) rfl rfl (J.cons (.none rfl) (JO.assign rfl) rfl rfl (J.fin (Sw.Sub.mk id (.cons rfl (.of_eq rfl) (.cons rfl (.of_eq rfl) (.cons rfl (.of_eq rfl) (.cons rfl (.of_eq rfl) (.cons rfl (.of_eq rfl) .nil))))) (.box rfl (.cons (.of_eq rfl) .nil) (.box rfl (.cons (.of_eq rfl) .nil) .nil)) rfl))))) ?_
      obtain rfl := Option.some.inj h
      exact W.next (Sw.Sub.mk id (.cons rfl (.of_eq rfl) (.cons rfl (.of_eq rfl) (.cons rfl (.of_eq rfl) (.cons rfl (.of_eq rfl) (.cons rfl (.of_eq rfl) .nil))))) (.box rfl (.cons (.of_eq rfl) .nil) (.box rfl (.cons (.of_eq rfl) .nil) .nil)) rfl)
    intro s2161 r2314 h
    refine W.seq ?_
    refine W.seq ?_
    obtain ⟨x2319, hx, h⟩ := bind_e h
    refine W.reg (σ' := ⟨[(2, .v (Enc.sl eBlk) a2), (3, .v (Enc.sl eBlk) a3), (4, .ptr 101 0), (5, .ptr 102 0), (9, .v (Enc.int .i64) s1235), (10, .v (Enc.int .i64) s2161), (36, .v Enc.bool x2319)], [(101, .box 71 [.v (Enc.sl (Enc.sl (Enc.int .u64))) a0]), (102, .box 71 [.v (Enc.sl (Enc.sl (Enc.int .u64))) a1])]⟩) ?_ ?_
    · obtain ⟨z2320, hz2320, hx⟩ := bind_e hx
      rcases Bool.eq_false_or_eq_true (cm .lss s2161 (z2320.length : Int)) with hc2321 | hc2321
      · replace hx := cond_t hc2321 hx
        obtain ⟨z2322, hz2322, hx⟩ := bind_e hx
        obtain rfl := Option.some.inj hx
        exact (J.cons (.none rfl) (JO.move rfl) rfl rfl (J.cons (.none rfl) (JO.fieldPtr 0 rfl Try.runUnderlying71 rfl Try.sizeOf69 rfl rfl) rfl rfl (J.cons (.none rfl) (JO.load rfl rfl rfl Try.isAgg69 Try.sizeOf69) rfl rfl (J.cons (.none rfl) (JO.move rfl) rfl rfl (J.cons (.none rfl) (JO.idx hz2320 rfl rfl Try.runUnderlying69 Try.sizeOf95) rfl rfl (J.cons (.none rfl) (JO.loadPst rfl Try.isAgg95 Try.sizeOf95) rfl rfl (J.cons (.none rfl) (JO.len rfl Try.runUnderlying95) rfl rfl (J.cons (.none rfl) (JO.cmp rfl rfl rfl) rfl rfl (J.cons (.none rfl) (JO.move rfl) rfl rfl (J.cons (GK.met 27 rfl rfl rfl hc2321) (JO.move rfl) rfl rfl (J.cons (GK.met 27 rfl rfl rfl hc2321) (JO.fieldPtr 0 rfl Try.runUnderlying71 rfl Try.sizeOf69 rfl rfl) rfl rfl (J.cons (GK.met 27 rfl rfl rfl hc2321) (JO.load rfl rfl rfl Try.isAgg69 Try.sizeOf69) rfl rfl (J.cons (GK.met 27 rfl rfl rfl hc2321) (JO.move rfl) rfl rfl (J.cons (GK.met 27 rfl rfl rfl hc2321) (JO.idx hz2322 rfl rfl Try.runUnderlying69 Try.sizeOf95) rfl rfl (J.cons (GK.met 27 rfl rfl rfl hc2321) (JO.loadPst rfl Try.isAgg95 Try.sizeOf95) rfl rfl (J.cons (GK.met 27 rfl rfl rfl hc2321) (JO.len rfl Try.runUnderlying95) rfl rfl (J.cons (GK.met 27 rfl rfl rfl hc2321) (JO.cmp rfl rfl rfl) rfl rfl (J.cons (.none rfl) (JO.pT hc2321 rfl rfl) rfl rfl (J.fin (Sw.Sub.mk id (.cons rfl (.of_eq rfl) (.cons rfl (.of_eq rfl) (.cons rfl (.of_eq rfl) (.cons rfl (.of_eq rfl) (.cons rfl (.of_eq rfl) (.cons rfl (.of_eq rfl) (.cons rfl (.of_eq rfl) .nil))))))) (.box rfl (.cons (.of_eq rfl) .nil) (.box rfl (.cons (.of_eq rfl) .nil) .nil)) rfl))))))))))))))))))))
      · replace hx := cond_f hc2321 hx
        obtain rfl := Option.some.inj hx
        exact (J.cons (.none rfl) (JO.move rfl) rfl rfl (J.cons (.none rfl) (JO.fieldPtr 0 rfl Try.runUnderlying71 rfl Try.sizeOf69 rfl rfl) rfl rfl (J.cons (.none rfl) (JO.load rfl rfl rfl Try.isAgg69 Try.sizeOf69) rfl rfl (J.cons (.none rfl) (JO.move rfl) rfl rfl (J.cons (.none rfl) (JO.idx hz2320 rfl rfl Try.runUnderlying69 Try.sizeOf95) rfl rfl (J.cons (.none rfl) (JO.loadPst rfl Try.isAgg95 Try.sizeOf95) rfl rfl (J.cons (.none rfl) (JO.len rfl Try.runUnderlying95) rfl rfl (J.cons (.none rfl) (JO.cmp rfl rfl rfl) rfl rfl (J.cons (.none rfl) (JO.move rfl) rfl rfl (J.left (GK.unmet 27 rfl rfl rfl hc2321) rfl (J.left (GK.unmet 27 rfl rfl rfl hc2321) rfl (J.left (GK.unmet 27 rfl rfl rfl hc2321) rfl (J.left (GK.unmet 27 rfl rfl rfl hc2321) rfl (J.left (GK.unmet 27 rfl rfl rfl hc2321) rfl (J.left (GK.unmet 27 rfl rfl rfl hc2321) rfl (J.left (GK.unmet 27 rfl rfl rfl hc2321) rfl (J.left (GK.unmet 27 rfl rfl rfl hc2321) rfl (J.cons (.none rfl) (JO.pF hc2321 rfl rfl) rfl rfl (J.fin (Sw.Sub.mk id (.cons rfl (.of_eq rfl) (.cons rfl (.of_eq rfl) (.cons rfl (.of_eq rfl) (.cons rfl (.of_eq rfl) (.cons rfl (.of_eq rfl) (.cons rfl (.of_eq rfl) (.cons rfl (.of_eq rfl) .nil))))))) (.box rfl (.cons (.of_eq rfl) .nil) (.box rfl (.cons (.of_eq rfl) .nil) .nil)) rfl))))))))))))))))))))
    rcases Bool.eq_false_or_eq_true x2319 with hc2323 | hc2323
    · replace h := cond_t hc2323 h
      refine W.condT rfl hc2323 ?_
      refine W.skip ?_
      refine W.seq ?_
      obtain ⟨k2395, hk2395, h⟩ := jp_elim h
      refine W.bj (fun x2396 : Unit => ⟨[(2, .v (Enc.sl eBlk) a2), (3, .v (Enc.sl eBlk) a3), (4, .ptr 101 0), (5, .ptr 102 0), (9, .v (Enc.int .i64) s1235), (10, .v (Enc.int .i64) s2161)], [(101, .box 71 [.v (Enc.sl (Enc.sl (Enc.int .u64))) a0]), (102, .box 71 [.v (Enc.sl (Enc.sl (Enc.int .u64))) a1])]⟩) (fun x => k2395 x = some r2314) ?_ ?_
      · intro x2396 h
        rw [hk2395] at h
        refine W.reg (σ' := ⟨[(2, .v (Enc.sl eBlk) a2), (3, .v (Enc.sl eBlk) a3), (4, .ptr 101 0), (5, .ptr 102 0), (9, .v (Enc.int .i64) s1235), (10, .v (Enc.int .i64) (ar .add .i64 s2161 (1 : Int)))], [(101, .box 71 [.v (Enc.sl (Enc.sl (Enc.int .u64))) a0]), (102, .box 71 [.v (Enc.sl (Enc.sl (Enc.int .u64))) a1])]⟩) (J.cons (.none rfl) (JO.move rfl) rfl rfl (J.cons (.none rfl) (JO.arith rfl rfl rfl) rfl rfl (J.cons (.none rfl) (JO.assign rfl) rfl rfl (J.fin (Sw.Sub.mk id (.cons rfl (.of_eq rfl) (.cons rfl (.of_eq rfl) (.cons rfl (.of_eq rfl) (.cons rfl (.of_eq rfl) (.cons rfl (.of_eq rfl) (.cons rfl (.of_eq rfl) .nil)))))) (.box rfl (.cons (.of_eq rfl) .nil) (.box rfl (.cons (.of_eq rfl) .nil) .nil)) rfl))))) ?_
        obtain rfl := Option.some.inj h
        exact W.next (Sw.Sub.mk id (.cons rfl (.of_eq rfl) (.cons rfl (.of_eq rfl) (.cons rfl (.of_eq rfl) (.cons rfl (.of_eq rfl) (.cons rfl (.of_eq rfl) (.cons rfl (.of_eq rfl) .nil)))))) (.box rfl (.cons (.of_eq rfl) .nil) (.box rfl (.cons (.of_eq rfl) .nil) .nil)) rfl)
      refine W.seq ?_
      refine W.seq ?_
      obtain ⟨z2397, hz2397, h⟩ := bind_e h
      obtain ⟨z2398, hz2398, h⟩ := bind_e h
      obtain ⟨z2399, hz2399, h⟩ := bind_e h
      obtain ⟨z2400, hz2400, h⟩ := bind_e h
      refine W.dr2 (σ' := ⟨[(2, .v (Enc.sl eBlk) a2), (3, .v (Enc.sl eBlk) a3), (4, .ptr 101 0), (5, .ptr 102 0), (9, .v (Enc.int .i64) s1235), (10, .v (Enc.int .i64) s2161), (55, .v Enc.bool (cm .neq z2398 z2400))], [(101, .box 71 [.v (Enc.sl (Enc.sl (Enc.int .u64))) a0]), (102, .box 71 [.v (Enc.sl (Enc.sl (Enc.int .u64))) a1])]⟩) 17 [0, 1, 0, 7, 15, 0, 63, 127, 0, 256, 0, 1792, 3840, 0, 16128, 32512, 65535] mixed (by exact (.cons (.none rfl) (JO.fieldPtr 0 rfl Try.runUnderlying71 rfl Try.sizeOf69 rfl rfl) rfl rfl (.cons (.none rfl) (JO.load rfl rfl rfl Try.isAgg69 Try.sizeOf69) rfl rfl (.cons (.none rfl) (JO.move rfl) rfl rfl (.cons (.none rfl) (JO.idx hz2397 rfl rfl Try.runUnderlying69 Try.sizeOf95) rfl rfl (.cons (.none rfl) (JO.loadPst rfl Try.isAgg95 Try.sizeOf95) rfl rfl (.cons (.none rfl) (JO.move rfl) rfl rfl (.cons (.none rfl) (JO.idx hz2398 rfl rfl Try.runUnderlying95 Try.sizeOf67) rfl rfl (.cons (.none rfl) (JO.loadPst rfl Try.isAgg67 Try.sizeOf67) rfl rfl (.cons (.none rfl) (JO.fieldPtr 0 rfl Try.runUnderlying71 rfl Try.sizeOf69 rfl rfl) rfl rfl (.cons (.none rfl) (JO.load rfl rfl rfl Try.isAgg69 Try.sizeOf69) rfl rfl (.cons (.none rfl) (JO.move rfl) rfl rfl (.cons (.none rfl) (JO.idx hz2399 rfl rfl Try.runUnderlying69 Try.sizeOf95) rfl rfl (.cons (.none rfl) (JO.loadPst rfl Try.isAgg95 Try.sizeOf95) rfl rfl (.cons (.none rfl) (JO.move rfl) rfl rfl (.cons (.none rfl) (JO.idx hz2400 rfl rfl Try.runUnderlying95 Try.sizeOf67) rfl rfl (.cons (.none rfl) (JO.loadPst rfl Try.isAgg67 Try.sizeOf67) rfl rfl (.cons (.none rfl) (JO.cmp rfl rfl rfl) rfl rfl .nil)))))))))))))))))) (by exact (J.fin (Sw.Sub.mk id (.cons rfl (.of_eq rfl) (.cons rfl (.of_eq rfl) (.cons rfl (.of_eq rfl) (.cons rfl (.of_eq rfl) (.cons rfl (.of_eq rfl) (.cons rfl (.of_eq rfl) (.cons rfl (.of_eq rfl) .nil))))))) (.box rfl (.cons (.of_eq rfl) .nil) (.box rfl (.cons (.of_eq rfl) .nil) .nil)) rfl))) rfl (by decide +kernel) (by decide +kernel) (by decide +kernel) (by kernel_rfl) ?_
      rcases Bool.eq_false_or_eq_true (cm .neq z2398 z2400) with hc2401 | hc2401
      · replace h := cond_t hc2401 h
        refine W.condT rfl hc2401 ?_
        refine W.exit ?_
        exact XQ.bhit h (Sw.Sub.mk id (.cons rfl (.of_eq rfl) (.cons rfl (.of_eq rfl) (.cons rfl (.of_eq rfl) (.cons rfl (.of_eq rfl) (.cons rfl (.of_eq rfl) (.cons rfl (.of_eq rfl) .nil)))))) (.box rfl (.cons (.of_eq rfl) .nil) (.box rfl (.cons (.of_eq rfl) .nil) .nil)) rfl)
      · replace h := cond_f hc2401 h
        refine W.condF rfl hc2401 ?_
        refine W.skip ?_
        refine W.seq ?_
        refine W.seq ?_
        obtain ⟨x2405, hx, h⟩ := bind_e h
        refine W.mg (σ' := ⟨[(2, .v (Enc.sl eBlk) a2), (3, .v (Enc.sl eBlk) a3), (4, .ptr 101 0), (5, .ptr 102 0), (9, .v (Enc.int .i64) s1235), (10, .v (Enc.int .i64) s2161), (68, .v Enc.bool x2405)], [(101, .box 71 [.v (Enc.sl (Enc.sl (Enc.int .u64))) a0]), (102, .box 71 [.v (Enc.sl (Enc.sl (Enc.int .u64))) a1])]⟩) ?_ ?_
        · intro hk
          rcases Bool.eq_false_or_eq_true (cm .eql s1235 (0 : Int)) with hc2406 | hc2406
          · replace hx := cond_t hc2406 hx
            obtain ⟨z2407, hz2407, hx⟩ := bind_e hx
            obtain ⟨z2408, hz2408, hx⟩ := bind_e hx
            obtain rfl := Option.some.inj hx
            exact W.dr2 (σ' := ⟨[(2, .v (Enc.sl eBlk) a2), (3, .v (Enc.sl eBlk) a3), (4, .ptr 101 0), (5, .ptr 102 0), (9, .v (Enc.int .i64) s1235), (10, .v (Enc.int .i64) s2161), (68, .v Enc.bool (!decide (z2407 = z2408)))], [(101, .box 71 [.v (Enc.sl (Enc.sl (Enc.int .u64))) a0]), (102, .box 71 [.v (Enc.sl (Enc.sl (Enc.int .u64))) a1])]⟩) 13 [0, 1, 3, 7, 7, 31, 63, 7, 7, 391, 903, 2047, 4095] mixed (by exact (.cons (.none rfl) (JO.move rfl) rfl rfl (.cons (.none rfl) (JO.cmp rfl rfl rfl) rfl rfl (.cons (.none rfl) (JO.move rfl) rfl rfl (.cons (GK.met 58 rfl rfl rfl hc2406) (JO.move rfl) rfl rfl (.cons (GK.met 58 rfl rfl rfl hc2406) (JO.move rfl) rfl rfl (.cons (GK.met 58 rfl rfl rfl hc2406) (JO.idx hz2407 rfl rfl Try.runUnderlying22 Try.sizeOf24) rfl rfl (.cons (GK.met 58 rfl rfl rfl hc2406) (JO.loadPst rfl Try.isAgg24 Try.sizeOf24) rfl rfl (.cons (GK.met 58 rfl rfl rfl hc2406) (JO.move rfl) rfl rfl (.cons (GK.met 58 rfl rfl rfl hc2406) (JO.move rfl) rfl rfl (.cons (GK.met 58 rfl rfl rfl hc2406) (JO.idx hz2408 rfl rfl Try.runUnderlying22 Try.sizeOf24) rfl rfl (.cons (GK.met 58 rfl rfl rfl hc2406) (JO.loadPst rfl Try.isAgg24 Try.sizeOf24) rfl rfl (.cons (GK.met 58 rfl rfl rfl hc2406) (JO.neV eq24 rfl rfl Try.eqGuardType24 rfl rfl) rfl rfl (.cons (.none rfl) (JO.pT hc2406 rfl rfl) rfl rfl .nil)))))))))))))) (by exact (J.fin (Sw.Sub.mk id (.cons rfl (.of_eq rfl) (.cons rfl (.of_eq rfl) (.cons rfl (.of_eq rfl) (.cons rfl (.of_eq rfl) (.cons rfl (.of_eq rfl) (.cons rfl (.of_eq rfl) (.cons rfl (.of_eq rfl) .nil))))))) (.box rfl (.cons (.of_eq rfl) .nil) (.box rfl (.cons (.of_eq rfl) .nil) .nil)) rfl))) rfl (by decide +kernel) (by decide +kernel) (by decide +kernel) (by kernel_rfl) hk
          · replace hx := cond_f hc2406 hx
            obtain rfl := Option.some.inj hx
            exact W.dr2 (σ' := ⟨[(2, .v (Enc.sl eBlk) a2), (3, .v (Enc.sl eBlk) a3), (4, .ptr 101 0), (5, .ptr 102 0), (9, .v (Enc.int .i64) s1235), (10, .v (Enc.int .i64) s2161), (68, .v Enc.bool false)], [(101, .box 71 [.v (Enc.sl (Enc.sl (Enc.int .u64))) a0]), (102, .box 71 [.v (Enc.sl (Enc.sl (Enc.int .u64))) a1])]⟩) 13 [0, 1, 3, 7, 7, 31, 63, 7, 7, 391, 903, 2047, 4095] mixed (by exact (.cons (.none rfl) (JO.move rfl) rfl rfl (.cons (.none rfl) (JO.cmp rfl rfl rfl) rfl rfl (.cons (.none rfl) (JO.move rfl) rfl rfl (.left (GK.unmet 58 rfl rfl rfl hc2406) rfl (.left (GK.unmet 58 rfl rfl rfl hc2406) rfl (.left (GK.unmet 58 rfl rfl rfl hc2406) rfl (.left (GK.unmet 58 rfl rfl rfl hc2406) rfl (.left (GK.unmet 58 rfl rfl rfl hc2406) rfl (.left (GK.unmet 58 rfl rfl rfl hc2406) rfl (.left (GK.unmet 58 rfl rfl rfl hc2406) rfl (.left (GK.unmet 58 rfl rfl rfl hc2406) rfl (.left (GK.unmet 58 rfl rfl rfl hc2406) rfl (.cons (.none rfl) (JO.pF hc2406 rfl rfl) rfl rfl .nil)))))))))))))) (by exact (J.fin (Sw.Sub.mk id (.cons rfl (.of_eq rfl) (.cons rfl (.of_eq rfl) (.cons rfl (.of_eq rfl) (.cons rfl (.of_eq rfl) (.cons rfl (.of_eq rfl) (.cons rfl (.of_eq rfl) (.cons rfl (.of_eq rfl) .nil))))))) (.box rfl (.cons (.of_eq rfl) .nil) (.box rfl (.cons (.of_eq rfl) .nil) .nil)) rfl))) rfl (by decide +kernel) (by decide +kernel) (by decide +kernel) (by kernel_rfl) hk
        rcases Bool.eq_false_or_eq_true x2405 with hc2409 | hc2409
        · replace h := cond_t hc2409 h
          refine W.condT rfl hc2409 ?_
          refine W.seq ?_
          refine W.reg (σ' := ⟨[(8, .v Enc.bool true)], []⟩) (J.cons (.none rfl) (JO.assign rfl) rfl rfl (J.fin (Sw.Sub.mk id (.cons rfl (.of_eq rfl) .nil) .nil rfl))) ?_
          refine W.ret ?_
          refine XQ.bret ?_
          obtain rfl := Option.some.inj h
          refine XQ.lret fun ho => ?_
          obtain rfl := hr2314 _ ho
          refine XQ.ret ?_
          refine XQ.lret fun ho => ?_
          obtain rfl := hr1852 _ ho
          exact XQ.sub (σ' := ⟨[(8, .v Enc.bool true)], []⟩) (Sw.Sub.mk id (.cons rfl (.of_eq rfl) .nil) .nil rfl) (XQ.ret1 hF noR rfl (RV.tmp rfl) .nil rfl)
        · replace h := cond_f hc2409 h
          refine W.condF rfl hc2409 ?_
          refine W.skip ?_
          refine W.seq ?_
          refine W.reg (σ' := ⟨[(2, .v (Enc.sl eBlk) a2), (3, .v (Enc.sl eBlk) a3), (4, .ptr 101 0), (5, .ptr 102 0), (9, .v (Enc.int .i64) s1235), (10, .v (Enc.int .i64) s2161), (11, .v (Enc.int .i64) (ar .mul .i64 s2161 (4 : Int)))], [(101, .box 71 [.v (Enc.sl (Enc.sl (Enc.int .u64))) a0]), (102, .box 71 [.v (Enc.sl (Enc.sl (Enc.int .u64))) a1])]⟩) (J.cons (.none rfl) (JO.move rfl) rfl rfl (J.cons (.none rfl) (JO.arith rfl rfl rfl) rfl rfl (J.cons (.none rfl) (JO.assign rfl) rfl rfl (J.fin (Sw.Sub.mk id (.cons rfl (.of_eq rfl) (.cons rfl (.of_eq rfl) (.cons rfl (.of_eq rfl) (.cons rfl (.of_eq rfl) (.cons rfl (.of_eq rfl) (.cons rfl (.of_eq rfl) (.cons rfl (.of_eq rfl) .nil))))))) (.box rfl (.cons (.of_eq rfl) .nil) (.box rfl (.cons (.of_eq rfl) .nil) .nil)) rfl))))) ?_
          obtain ⟨o2452, ho2452, hb2452, hr2452⟩ := lp_elim h
          refine W.lp (σs := fun s2438 : Int => ⟨[(2, .v (Enc.sl eBlk) a2), (3, .v (Enc.sl eBlk) a3), (4, .ptr 101 0), (5, .ptr 102 0), (9, .v (Enc.int .i64) s1235), (10, .v (Enc.int .i64) s2161), (11, .v (Enc.int .i64) s2438)], [(101, .box 71 [.v (Enc.sl (Enc.sl (Enc.int .u64))) a0]), (102, .box 71 [.v (Enc.sl (Enc.sl (Enc.int .u64))) a1])]⟩) (fun x2453 : Unit => ⟨[(2, .v (Enc.sl eBlk) a2), (3, .v (Enc.sl eBlk) a3), (4, .ptr 101 0), (5, .ptr 102 0), (9, .v (Enc.int .i64) s1235), (10, .v (Enc.int .i64) s2161)], [(101, .box 71 [.v (Enc.sl (Enc.sl (Enc.int .u64))) a0]), (102, .box 71 [.v (Enc.sl (Enc.sl (Enc.int .u64))) a1])]⟩) ho2452 (Sw.Sub.mk id (.cons rfl (.of_eq rfl) (.cons rfl (.of_eq rfl) (.cons rfl (.of_eq rfl) (.cons rfl (.of_eq rfl) (.cons rfl (.of_eq rfl) (.cons rfl (.of_eq rfl) (.cons rfl (.of_eq rfl) .nil))))))) (.box rfl (.cons (.of_eq rfl) .nil) (.box rfl (.cons (.of_eq rfl) .nil) .nil)) rfl) ?_ ?_
          · intro x2453 hy
            have h := hb2452 _ hy
            exact W.bfall h (Sw.Sub.mk id (.cons rfl (.of_eq rfl) (.cons rfl (.of_eq rfl) (.cons rfl (.of_eq rfl) (.cons rfl (.of_eq rfl) (.cons rfl (.of_eq rfl) (.cons rfl (.of_eq rfl) .nil)))))) (.box rfl (.cons (.of_eq rfl) .nil) (.box rfl (.cons (.of_eq rfl) .nil) .nil)) rfl)
          intro s2438 r2452 h
          refine W.seq ?_
          refine W.seq ?_
          obtain ⟨x2457, hx, h⟩ := bind_e h
          refine W.reg (σ' := ⟨[(2, .v (Enc.sl eBlk) a2), (3, .v (Enc.sl eBlk) a3), (4, .ptr 101 0), (5, .ptr 102 0), (9, .v (Enc.int .i64) s1235), (10, .v (Enc.int .i64) s2161), (11, .v (Enc.int .i64) s2438), (90, .v Enc.bool x2457)], [(101, .box 71 [.v (Enc.sl (Enc.sl (Enc.int .u64))) a0]), (102, .box 71 [.v (Enc.sl (Enc.sl (Enc.int .u64))) a1])]⟩) ?_ ?_
          · rcases Bool.eq_false_or_eq_true (cm .gtr s1235 (0 : Int)) with hc2458 | hc2458
            · replace hx := cond_t hc2458 hx
              rcases Bool.eq_false_or_eq_true (cm .lss s2438 (ar .add .i64 (ar .mul .i64 s2161 (4 : Int)) (4 : Int))) with hc2459 | hc2459
              · replace hx := cond_t hc2459 hx
                obtain ⟨z2460, hz2460, hx⟩ := bind_e hx
                obtain rfl := Option.some.inj hx
                exact (J.cons (.none rfl) (JO.move rfl) rfl rfl (J.cons (.none rfl) (JO.cmp rfl rfl rfl) rfl rfl (J.cons (.none rfl) (JO.move rfl) rfl rfl (J.cons (GK.met 73 rfl rfl rfl hc2458) (JO.move rfl) rfl rfl (J.cons (GK.met 73 rfl rfl rfl hc2458) (JO.move rfl) rfl rfl (J.cons (GK.met 73 rfl rfl rfl hc2458) (JO.arith rfl rfl rfl) rfl rfl (J.cons (GK.met 73 rfl rfl rfl hc2458) (JO.arith rfl rfl rfl) rfl rfl (J.cons (GK.met 73 rfl rfl rfl hc2458) (JO.cmp rfl rfl rfl) rfl rfl (J.cons (.none rfl) (JO.pT hc2458 rfl rfl) rfl rfl (J.cons (.none rfl) (JO.move rfl) rfl rfl (J.cons (GK.met 80 rfl rfl rfl hc2459) (JO.move rfl) rfl rfl (J.cons (GK.met 80 rfl rfl rfl hc2459) (JO.fieldPtr 0 rfl Try.runUnderlying71 rfl Try.sizeOf69 rfl rfl) rfl rfl (J.cons (GK.met 80 rfl rfl rfl hc2459) (JO.load rfl rfl rfl Try.isAgg69 Try.sizeOf69) rfl rfl (J.cons (GK.met 80 rfl rfl rfl hc2459) (JO.move rfl) rfl rfl (J.cons (GK.met 80 rfl rfl rfl hc2459) (JO.arith rfl rfl rfl) rfl rfl (J.cons (GK.met 80 rfl rfl rfl hc2459) (JO.idx hz2460 rfl rfl Try.runUnderlying69 Try.sizeOf95) rfl rfl (J.cons (GK.met 80 rfl rfl rfl hc2459) (JO.loadPst rfl Try.isAgg95 Try.sizeOf95) rfl rfl (J.cons (GK.met 80 rfl rfl rfl hc2459) (JO.len rfl Try.runUnderlying95) rfl rfl (J.cons (GK.met 80 rfl rfl rfl hc2459) (JO.cmp rfl rfl rfl) rfl rfl (J.cons (.none rfl) (JO.pT hc2459 rfl rfl) rfl rfl (J.fin (Sw.Sub.mk id (.cons rfl (.of_eq rfl) (.cons rfl (.of_eq rfl) (.cons rfl (.of_eq rfl) (.cons rfl (.of_eq rfl) (.cons rfl (.of_eq rfl) (.cons rfl (.of_eq rfl) (.cons rfl (.of_eq rfl) (.cons rfl (.of_eq rfl) .nil)))))))) (.box rfl (.cons (.of_eq rfl) .nil) (.box rfl (.cons (.of_eq rfl) .nil) .nil)) rfl))))))))))))))))))))))
              · replace hx := cond_f hc2459 hx
                obtain rfl := Option.some.inj hx
                exact (J.cons (.none rfl) (JO.move rfl) rfl rfl (J.cons (.none rfl) (JO.cmp rfl rfl rfl) rfl rfl (J.cons (.none rfl) (JO.move rfl) rfl rfl (J.cons (GK.met 73 rfl rfl rfl hc2458) (JO.move rfl) rfl rfl (J.cons (GK.met 73 rfl rfl rfl hc2458) (JO.move rfl) rfl rfl (J.cons (GK.met 73 rfl rfl rfl hc2458) (JO.arith rfl rfl rfl) rfl rfl (J.cons (GK.met 73 rfl rfl rfl hc2458) (JO.arith rfl rfl rfl) rfl rfl (J.cons (GK.met 73 rfl rfl rfl hc2458) (JO.cmp rfl rfl rfl) rfl rfl (J.cons (.none rfl) (JO.pT hc2458 rfl rfl) rfl rfl (J.cons (.none rfl) (JO.move rfl) rfl rfl (J.left (GK.unmet 80 rfl rfl rfl hc2459) rfl (J.left (GK.unmet 80 rfl rfl rfl hc2459) rfl (J.left (GK.unmet 80 rfl rfl rfl hc2459) rfl (J.left (GK.unmet 80 rfl rfl rfl hc2459) rfl (J.left (GK.unmet 80 rfl rfl rfl hc2459) rfl (J.left (GK.unmet 80 rfl rfl rfl hc2459) rfl (J.left (GK.unmet 80 rfl rfl rfl hc2459) rfl (J.left (GK.unmet 80 rfl rfl rfl hc2459) rfl (J.left (GK.unmet 80 rfl rfl rfl hc2459) rfl (J.cons (.none rfl) (JO.pF hc2459 rfl rfl) rfl rfl (J.fin (Sw.Sub.mk id (.cons rfl (.of_eq rfl) (.cons rfl (.of_eq rfl) (.cons rfl (.of_eq rfl) (.cons rfl (.of_eq rfl) (.cons rfl (.of_eq rfl) (.cons rfl (.of_eq rfl) (.cons rfl (.of_eq rfl) (.cons rfl (.of_eq rfl) .nil)))))))) (.box rfl (.cons (.of_eq rfl) .nil) (.box rfl (.cons (.of_eq rfl) .nil) .nil)) rfl))))))))))))))))))))))
            · replace hx := cond_f hc2458 hx
              obtain rfl := Option.some.inj hx
              exact (J.cons (.none rfl) (JO.move rfl) rfl rfl (J.cons (.none rfl) (JO.cmp rfl rfl rfl) rfl rfl (J.cons (.none rfl) (JO.move rfl) rfl rfl (J.left (GK.unmet 73 rfl rfl rfl hc2458) rfl (J.left (GK.unmet 73 rfl rfl rfl hc2458) rfl (J.left (GK.unmet 73 rfl rfl rfl hc2458) rfl (J.left (GK.unmet 73 rfl rfl rfl hc2458) rfl (J.left (GK.unmet 73 rfl rfl rfl hc2458) rfl (J.cons (.none rfl) (JO.pF hc2458 rfl rfl) rfl rfl (J.cons (.none rfl) (JO.move rfl) rfl rfl (J.left (GK.unmet 80 rfl rfl rfl rfl) rfl (J.left (GK.unmet 80 rfl rfl rfl rfl) rfl (J.left (GK.unmet 80 rfl rfl rfl rfl) rfl (J.left (GK.unmet 80 rfl rfl rfl rfl) rfl (J.left (GK.unmet 80 rfl rfl rfl rfl) rfl (J.left (GK.unmet 80 rfl rfl rfl rfl) rfl (J.left (GK.unmet 80 rfl rfl rfl rfl) rfl (J.left (GK.unmet 80 rfl rfl rfl rfl) rfl (J.left (GK.unmet 80 rfl rfl rfl rfl) rfl (J.cons (.none rfl) (JO.pF rfl rfl rfl) rfl rfl (J.fin (Sw.Sub.mk id (.cons rfl (.of_eq rfl) (.cons rfl (.of_eq rfl) (.cons rfl (.of_eq rfl) (.cons rfl (.of_eq rfl) (.cons rfl (.of_eq rfl) (.cons rfl (.of_eq rfl) (.cons rfl (.of_eq rfl) (.cons rfl (.of_eq rfl) .nil)))))))) (.box rfl (.cons (.of_eq rfl) .nil) (.box rfl (.cons (.of_eq rfl) .nil) .nil)) rfl))))))))))))))))))))))
          rcases Bool.eq_false_or_eq_true x2457 with hc2461 | hc2461
          · replace h := cond_t hc2461 h
            refine W.condT rfl hc2461 ?_
            refine W.skip ?_
            refine W.seq ?_
            refine W.block ?_
            refine W.seq ?_
            obtain ⟨z2462, hz2462, h⟩ := bind_e h
            obtain ⟨z2463, hz2463, h⟩ := bind_e h
            obtain ⟨z2464, hz2464, h⟩ := bind_e h
            obtain ⟨z2465, hz2465, h⟩ := bind_e h
            refine W.dr2 (σ' := ⟨[(2, .v (Enc.sl eBlk) a2), (3, .v (Enc.sl eBlk) a3), (4, .ptr 101 0), (5, .ptr 102 0), (9, .v (Enc.int .i64) s1235), (10, .v (Enc.int .i64) s2161), (11, .v (Enc.int .i64) s2438), (111, .v Enc.bool (cm .neq z2463 z2465))], [(101, .box 71 [.v (Enc.sl (Enc.sl (Enc.int .u64))) a0]), (102, .box 71 [.v (Enc.sl (Enc.sl (Enc.int .u64))) a1])]⟩) 19 [0, 1, 0, 4, 15, 31, 0, 127, 255, 0, 512, 0, 2048, 7680, 15872, 0, 65024, 130560, 262143] mixed (by exact (.cons (.none rfl) (JO.fieldPtr 0 rfl Try.runUnderlying71 rfl Try.sizeOf69 rfl rfl) rfl rfl (.cons (.none rfl) (JO.load rfl rfl rfl Try.isAgg69 Try.sizeOf69) rfl rfl (.cons (.none rfl) (JO.move rfl) rfl rfl (.cons (.none rfl) (JO.arith rfl rfl rfl) rfl rfl (.cons (.none rfl) (JO.idx hz2462 rfl rfl Try.runUnderlying69 Try.sizeOf95) rfl rfl (.cons (.none rfl) (JO.loadPst rfl Try.isAgg95 Try.sizeOf95) rfl rfl (.cons (.none rfl) (JO.move rfl) rfl rfl (.cons (.none rfl) (JO.idx hz2463 rfl rfl Try.runUnderlying95 Try.sizeOf67) rfl rfl (.cons (.none rfl) (JO.loadPst rfl Try.isAgg67 Try.sizeOf67) rfl rfl (.cons (.none rfl) (JO.fieldPtr 0 rfl Try.runUnderlying71 rfl Try.sizeOf69 rfl rfl) rfl rfl (.cons (.none rfl) (JO.load rfl rfl rfl Try.isAgg69 Try.sizeOf69) rfl rfl (.cons (.none rfl) (JO.move rfl) rfl rfl (.cons (.none rfl) (JO.arith rfl rfl rfl) rfl rfl (.cons (.none rfl) (JO.idx hz2464 rfl rfl Try.runUnderlying69 Try.sizeOf95) rfl rfl (.cons (.none rfl) (JO.loadPst rfl Try.isAgg95 Try.sizeOf95) rfl rfl (.cons (.none rfl) (JO.move rfl) rfl rfl (.cons (.none rfl) (JO.idx hz2465 rfl rfl Try.runUnderlying95 Try.sizeOf67) rfl rfl (.cons (.none rfl) (JO.loadPst rfl Try.isAgg67 Try.sizeOf67) rfl rfl (.cons (.none rfl) (JO.cmp rfl rfl rfl) rfl rfl .nil)))))))))))))))))))) (by exact (J.fin (Sw.Sub.mk id (.cons rfl (.of_eq rfl) (.cons rfl (.of_eq rfl) (.cons rfl (.of_eq rfl) (.cons rfl (.of_eq rfl) (.cons rfl (.of_eq rfl) (.cons rfl (.of_eq rfl) (.cons rfl (.of_eq rfl) (.cons rfl (.of_eq rfl) .nil)))))))) (.box rfl (.cons (.of_eq rfl) .nil) (.box rfl (.cons (.of_eq rfl) .nil) .nil)) rfl))) rfl (by decide +kernel) (by decide +kernel) (by decide +kernel) (by kernel_rfl) ?_
            rcases Bool.eq_false_or_eq_true (cm .neq z2463 z2465) with hc2466 | hc2466
            · replace h := cond_t hc2466 h
              refine W.condT rfl hc2466 ?_
              refine W.seq ?_
              refine W.reg (σ' := ⟨[(8, .v Enc.bool true)], []⟩) (J.cons (.none rfl) (JO.assign rfl) rfl rfl (J.fin (Sw.Sub.mk id (.cons rfl (.of_eq rfl) .nil) .nil rfl))) ?_
              refine W.ret ?_
              refine XQ.ret ?_
              obtain rfl := Option.some.inj h
              refine XQ.lret fun ho => ?_
              obtain rfl := hr2452 _ ho
              refine XQ.bret ?_
              refine XQ.lret fun ho => ?_
              obtain rfl := hr2314 _ ho
              refine XQ.ret ?_
              refine XQ.lret fun ho => ?_
              obtain rfl := hr1852 _ ho
              exact XQ.sub (σ' := ⟨[(8, .v Enc.bool true)], []⟩) (Sw.Sub.mk id (.cons rfl (.of_eq rfl) .nil) .nil rfl) (XQ.ret1 hF noR rfl (RV.tmp rfl) .nil rfl)
            · replace h := cond_f hc2466 h
              refine W.condF rfl hc2466 ?_
              refine W.skip ?_
              refine W.fall ?_
              refine W.reg (σ' := ⟨[(2, .v (Enc.sl eBlk) a2), (3, .v (Enc.sl eBlk) a3), (4, .ptr 101 0), (5, .ptr 102 0), (9, .v (Enc.int .i64) s1235), (10, .v (Enc.int .i64) s2161), (11, .v (Enc.int .i64) (ar .add .i64 s2438 (1 : Int)))], [(101, .box 71 [.v (Enc.sl (Enc.sl (Enc.int .u64))) a0]), (102, .box 71 [.v (Enc.sl (Enc.sl (Enc.int .u64))) a1])]⟩) (J.cons (.none rfl) (JO.move rfl) rfl rfl (J.cons (.none rfl) (JO.arith rfl rfl rfl) rfl rfl (J.cons (.none rfl) (JO.assign rfl) rfl rfl (J.fin (Sw.Sub.mk id (.cons rfl (.of_eq rfl) (.cons rfl (.of_eq rfl) (.cons rfl (.of_eq rfl) (.cons rfl (.of_eq rfl) (.cons rfl (.of_eq rfl) (.cons rfl (.of_eq rfl) (.cons rfl (.of_eq rfl) .nil))))))) (.box rfl (.cons (.of_eq rfl) .nil) (.box rfl (.cons (.of_eq rfl) .nil) .nil)) rfl))))) ?_
              obtain rfl := Option.some.inj h
              exact W.next (Sw.Sub.mk id (.cons rfl (.of_eq rfl) (.cons rfl (.of_eq rfl) (.cons rfl (.of_eq rfl) (.cons rfl (.of_eq rfl) (.cons rfl (.of_eq rfl) (.cons rfl (.of_eq rfl) (.cons rfl (.of_eq rfl) .nil))))))) (.box rfl (.cons (.of_eq rfl) .nil) (.box rfl (.cons (.of_eq rfl) .nil) .nil)) rfl)
          · replace h := cond_f hc2461 h
            refine W.condF rfl hc2461 ?_
            refine W.exit ?_
            obtain rfl := Option.some.inj h
            exact XQ.brk (Sw.Sub.mk id (.cons rfl (.of_eq rfl) (.cons rfl (.of_eq rfl) (.cons rfl (.of_eq rfl) (.cons rfl (.of_eq rfl) (.cons rfl (.of_eq rfl) (.cons rfl (.of_eq rfl) .nil)))))) (.box rfl (.cons (.of_eq rfl) .nil) (.box rfl (.cons (.of_eq rfl) .nil) .nil)) rfl)
    · replace h := cond_f hc2323 h
      refine W.condF rfl hc2323 ?_
      refine W.exit ?_
      obtain rfl := Option.some.inj h
      exact XQ.brk (Sw.Sub.mk id (.cons rfl (.of_eq rfl) (.cons rfl (.of_eq rfl) (.cons rfl (.of_eq rfl) (.cons rfl (.of_eq rfl) (.cons rfl (.of_eq rfl) .nil))))) (.box rfl (.cons (.of_eq rfl) .nil) (.box rfl (.cons (.of_eq rfl) .nil) .nil)) rfl)
  · replace h := cond_f hc1854 h
    refine W.condF rfl hc1854 ?_
    refine W.exit ?_
    obtain rfl := Option.some.inj h
    exact XQ.brk (Sw.Sub.mk id .nil .nil rfl)
set_option maxRecDepth 100000 in
set_option maxHeartbeats 4000000 in
theorem con_top_TopDiff {a0 : (List Int)} {a1 : Int} {a2 : Int} {a3 : Int} {r : Bool} (h : m_top_TopDiff a0 a1 a2 a3 = some r) :
    Con Try.prog 12 [.v (Enc.sl (Enc.int .i64)) a0, .v (Enc.int .i64) a1, .v (Enc.int .i64) a2, .v (Enc.int .i64) a3] (.v Enc.bool r) [] := by
  refine Con.of Try.func12 rfl Try.ntmps12 rfl ?_
  intro S w hF
  unfold m_top_TopDiff at h
  refine W.seq ?_
  refine W.reg (σ' := ⟨[(0, .v (Enc.sl (Enc.int .i64)) a0), (1, .v (Enc.int .i64) a1), (2, .v (Enc.int .i64) a2), (3, .v (Enc.int .i64) a3)], []⟩) (J.cons (.none rfl) (JO.assign rfl) rfl rfl (J.fin (Sw.Sub.mk id (.cons rfl (.of_eq rfl) (.cons rfl (.of_eq rfl) (.cons rfl (.of_eq rfl) (.cons rfl (.of_eq rfl) .nil)))) .nil rfl))) ?_
  refine W.seq ?_
  refine W.seq ?_
  refine W.reg (σ' := ⟨[(0, .v (Enc.sl (Enc.int .i64)) a0), (1, .v (Enc.int .i64) a1), (2, .v (Enc.int .i64) a2), (3, .v (Enc.int .i64) a3), (23, .v Enc.bool (cm .gtr (a0.length : Int) (128 : Int)))], []⟩) (J.cons (.none rfl) (JO.move rfl) rfl rfl (J.cons (.none rfl) (JO.len rfl Try.runUnderlying36) rfl rfl (J.cons (.none rfl) (JO.cmp rfl rfl rfl) rfl rfl (J.fin (Sw.Sub.mk id (.cons rfl (.of_eq rfl) (.cons rfl (.of_eq rfl) (.cons rfl (.of_eq rfl) (.cons rfl (.of_eq rfl) (.cons rfl (.of_eq rfl) .nil))))) .nil rfl))))) ?_
  rcases Bool.eq_false_or_eq_true (cm .gtr (a0.length : Int) (128 : Int)) with hc1 | hc1
  · replace h := cond_t hc1 h
    refine W.condT rfl hc1 ?_
    refine W.seq ?_
    refine W.reg (σ' := ⟨[(8, .v Enc.bool true)], []⟩) (J.cons (.none rfl) (JO.assign rfl) rfl rfl (J.fin (Sw.Sub.mk id (.cons rfl (.of_eq rfl) .nil) .nil rfl))) ?_
    refine W.ret ?_
    obtain rfl := Option.some.inj h
    exact XQ.sub (σ' := ⟨[(8, .v Enc.bool true)], []⟩) (Sw.Sub.mk id (.cons rfl (.of_eq rfl) .nil) .nil rfl) (XQ.ret1 hF noR rfl (RV.tmp rfl) .nil rfl)
  · replace h := cond_f hc1 h
    refine W.condF rfl hc1 ?_
    refine W.skip ?_
    refine W.seq ?_
    obtain ⟨v2, hv2, h⟩ := bind_e h
    refine W.reg (σ' := ⟨[(0, .v (Enc.sl (Enc.int .i64)) a0), (1, .v (Enc.int .i64) (ar .add .i64 (1 : Int) v2)), (2, .v (Enc.int .i64) a2), (3, .v (Enc.int .i64) a3)], []⟩) (J.cons (.none rfl) (JO.move rfl) rfl rfl (J.cons (.none rfl) (JO.call0 (con_ref_Pick hv2) Try.call36 (.cons (.dir rfl) (.cons (.dir rfl) .nil))) rfl rfl (J.cons (.none rfl) (JO.arith rfl rfl rfl) rfl rfl (J.cons (.none rfl) (JO.assign rfl) rfl rfl (J.fin (Sw.Sub.mk id (.cons rfl (.of_eq rfl) (.cons rfl (.of_eq rfl) (.cons rfl (.of_eq rfl) (.cons rfl (.of_eq rfl) .nil)))) .nil rfl)))))) ?_
    refine W.seq ?_
    obtain ⟨v3, hv3, h⟩ := bind_e h
    obtain ⟨v4, hv4, h⟩ := bind_e h
    refine W.reg (σ' := ⟨[(0, .v (Enc.sl (Enc.int .i64)) a0), (1, .v (Enc.int .i64) (ar .add .i64 (1 : Int) v2)), (3, .v (Enc.int .i64) a3), (9, .v (Enc.sl eBlk) v4)], []⟩) (J.cons (.none rfl) (JO.move rfl) rfl rfl (J.cons (.none rfl) (JO.move rfl) rfl rfl (J.cons (.none rfl) (JO.call0 (con_ref_Pick hv3) Try.call36 (.cons (.dir rfl) (.cons (.dir rfl) .nil))) rfl rfl (J.cons (.none rfl) (JO.move rfl) rfl rfl (J.cons (.none rfl) (JO.call0 (con_ref_BlocksFrom hv4) Try.call56 (.cons (.dir rfl) (.cons (.dir rfl) (.cons (.dir rfl) .nil)))) rfl rfl (J.cons (.none rfl) (JO.assign rfl) rfl rfl (J.fin (Sw.Sub.mk id (.cons rfl (.of_eq rfl) (.cons rfl (.of_eq rfl) (.cons rfl (.of_eq rfl) (.cons rfl (.of_eq rfl) .nil)))) .nil rfl)))))))) ?_
    refine W.seq ?_
    obtain ⟨v5, hv5, h⟩ := bind_e h
    refine W.reg (σ' := ⟨[(0, .v (Enc.sl (Enc.int .i64)) a0), (1, .v (Enc.int .i64) (ar .add .i64 (1 : Int) v2)), (3, .v (Enc.int .i64) a3), (9, .v (Enc.sl eBlk) v4), (10, .ref 104000)], [(104000, .arr 24 eBlk v5)]⟩) (J.cons (.none rfl) (JO.move rfl) rfl rfl (J.cons (.none rfl) (JO.call 104000 (con_ref_OwnBlocks hv5) Try.call48 (.cons (.dir rfl) .nil) rfl) rfl rfl (J.cons (.none rfl) (JO.assign rfl) rfl rfl (J.fin (Sw.Sub.mk id (.cons rfl (.of_eq rfl) (.cons rfl (.of_eq rfl) (.cons rfl (.of_eq rfl) (.cons rfl (.of_eq rfl) (.cons rfl (.of_eq rfl) .nil))))) (.arr rfl .nil) rfl))))) ?_
    refine W.seq ?_
    refine W.seq ?_
    refine W.reg (σ' := ⟨[(0, .v (Enc.sl (Enc.int .i64)) a0), (1, .v (Enc.int .i64) (ar .add .i64 (1 : Int) v2)), (3, .v (Enc.int .i64) a3), (9, .v (Enc.sl eBlk) v4), (10, .ref 104000), (11, .v (Enc.int .i64) (0 : Int))], [(104000, .arr 24 eBlk v5)]⟩) (J.cons (.none rfl) (JO.assign rfl) rfl rfl (J.fin (Sw.Sub.mk id (.cons rfl (.of_eq rfl) (.cons rfl (.of_eq rfl) (.cons rfl (.of_eq rfl) (.cons rfl (.of_eq rfl) (.cons rfl (.of_eq rfl) (.cons rfl (.of_eq rfl) .nil)))))) (.arr rfl .nil) rfl))) ?_
    obtain ⟨o27, ho27, hb27, hr27⟩ := lp_elim h
    refine W.lp (σs := fun s20 : Int × (List Blk) => ⟨[(0, .v (Enc.sl (Enc.int .i64)) a0), (1, .v (Enc.int .i64) (ar .add .i64 (1 : Int) v2)), (3, .v (Enc.int .i64) a3), (9, .v (Enc.sl eBlk) v4), (10, .ref 104000), (11, .v (Enc.int .i64) s20.1)], [(104000, .arr 24 eBlk s20.2)]⟩) (fun x28 : (List Blk) => ⟨[(1, .v (Enc.int .i64) (ar .add .i64 (1 : Int) v2)), (9, .v (Enc.sl eBlk) v4), (10, .ref 104000)], [(104000, .arr 24 eBlk x28)]⟩) ho27 (Sw.Sub.mk id (.cons rfl (.of_eq rfl) (.cons rfl (.of_eq rfl) (.cons rfl (.of_eq rfl) (.cons rfl (.of_eq rfl) (.cons rfl (.of_eq rfl) (.cons rfl (.of_eq rfl) .nil)))))) (.arr rfl .nil) rfl) ?_ ?_
    · intro x28 hy
      have h := hb27 _ hy
      refine W.seq ?_
      obtain ⟨v35, hv35, h⟩ := bind_e h
      refine W.reg (σ' := ⟨[(1, .v (Enc.int .i64) (ar .add .i64 (1 : Int) v2)), (9, .v (Enc.sl eBlk) v4), (10, .ref 104000), (12, .ptr 122 0), (13, .v (Enc.err ET) v35.2)], [(104000, .arr 24 eBlk x28), (122, .box 71 [.v (Enc.sl (Enc.sl (Enc.int .u64))) v35.1])]⟩) (J.cons (.none rfl) (JO.move rfl) rfl rfl (J.cons (.none rfl) (JO.call0 (con_tree_Of hv35) Try.call39 (.cons (.dir rfl) .nil)) rfl rfl (J.cons (.none rfl) (JO.move rfl) rfl rfl (J.cons (.none rfl) (JO.extract rfl rfl) rfl rfl (J.cons (.none rfl) (JO.extract rfl rfl) rfl rfl (J.cons (.none rfl) (JO.alloc 122 Try.zeroValue71 rfl (.cons (Z.sl (Enc.sl (Enc.int .u64))) .nil) rfl) rfl rfl (J.mut (.none rfl) (JM.storeAll rfl rfl rfl rfl (.one1 (.one _ _)) Try.sizeOf71) (J.cons (.none rfl) (JO.assign rfl) rfl rfl (J.fin (Sw.Sub.mk id (.cons rfl (.of_eq rfl) (.cons rfl (.of_eq rfl) (.cons rfl (.of_eq rfl) (.cons rfl (.of_eq rfl) (.cons rfl (.of_eq rfl) .nil))))) (.arr rfl (.box rfl (.cons (.of_eq rfl) .nil) .nil)) rfl)))))))))) ?_
      refine W.seq ?_
      obtain ⟨v37, hv37, h⟩ := bind_e h
      refine W.reg (σ' := ⟨[(1, .v (Enc.int .i64) (ar .add .i64 (1 : Int) v2)), (9, .v (Enc.sl eBlk) v4), (10, .v (Enc.sl eBlk) x28), (12, .ptr 122 0), (13, .v (Enc.err ET) v35.2), (14, .ptr 125 0), (15, .v (Enc.err ET) v37.2)], [(122, .box 71 [.v (Enc.sl (Enc.sl (Enc.int .u64))) v35.1]), (125, .box 71 [.v (Enc.sl (Enc.sl (Enc.int .u64))) v37.1])]⟩) (J.cons (.none rfl) (JO.move rfl) rfl rfl (J.sub (σ' := ⟨[(1, .v (Enc.int .i64) (ar .add .i64 (1 : Int) v2)), (9, .v (Enc.sl eBlk) v4), (10, .v (Enc.sl eBlk) x28), (12, .ptr 122 0), (13, .v (Enc.err ET) v35.2), (58, .v (Enc.sl eBlk) x28)], [(122, .box 71 [.v (Enc.sl (Enc.sl (Enc.int .u64))) v35.1])]⟩) (Sw.Sub.mk id (.cons rfl (.of_eq rfl) (.cons rfl (.of_eq rfl) (.cons rfl (.frz rfl rfl) (.cons rfl (.of_eq rfl) (.cons rfl (.of_eq rfl) (.cons rfl (.frz rfl rfl) .nil)))))) (.box rfl (.cons (.of_eq rfl) .nil) .nil) rfl) (J.cons (.none rfl) (JO.call0 (con_tree_Of hv37) Try.call39 (.cons (.dir rfl) .nil)) rfl rfl (J.cons (.none rfl) (JO.move rfl) rfl rfl (J.cons (.none rfl) (JO.extract rfl rfl) rfl rfl (J.cons (.none rfl) (JO.extract rfl rfl) rfl rfl (J.cons (.none rfl) (JO.alloc 125 Try.zeroValue71 rfl (.cons (Z.sl (Enc.sl (Enc.int .u64))) .nil) rfl) rfl rfl (J.mut (.none rfl) (JM.storeAll rfl rfl rfl rfl (.one1 (.one _ _)) Try.sizeOf71) (J.cons (.none rfl) (JO.assign rfl) rfl rfl (J.fin (Sw.Sub.mk id (.cons rfl (.of_eq rfl) (.cons rfl (.of_eq rfl) (.cons rfl (.of_eq rfl) (.cons rfl (.of_eq rfl) (.cons rfl (.of_eq rfl) (.cons rfl (.of_eq rfl) (.cons rfl (.of_eq rfl) .nil))))))) (.box rfl (.cons (.of_eq rfl) .nil) (.box rfl (.cons (.of_eq rfl) .nil) .nil)) rfl))))))))))) ?_
      refine W.seq ?_
      refine W.seq ?_
      obtain ⟨x41, hx, h⟩ := bind_e h
      refine W.reg (σ' := ⟨[(1, .v (Enc.int .i64) (ar .add .i64 (1 : Int) v2)), (9, .v (Enc.sl eBlk) v4), (10, .v (Enc.sl eBlk) x28), (12, .ptr 122 0), (14, .ptr 125 0), (82, .v Enc.bool x41)], [(122, .box 71 [.v (Enc.sl (Enc.sl (Enc.int .u64))) v35.1]), (125, .box 71 [.v (Enc.sl (Enc.sl (Enc.int .u64))) v37.1])]⟩) ?_ ?_
      · rcases Bool.eq_false_or_eq_true (Option.isSome v35.2) with hc42 | hc42
        · replace hx := cond_t hc42 hx
          obtain rfl := Option.some.inj hx
          exact (J.cons (.none rfl) (JO.move rfl) rfl rfl (J.cons (.none rfl) (JO.errNe Try.runUnderlying29 rfl) rfl rfl (J.cons (.none rfl) (JO.move rfl) rfl rfl (J.left (GK.unmet 64 rfl rfl rfl hc42) rfl (J.left (GK.unmet 64 rfl rfl rfl hc42) rfl (J.cons (.none rfl) (JO.pT hc42 rfl rfl) rfl rfl (J.cons (.none rfl) (JO.move rfl) rfl rfl (J.left (GK.unmet 68 rfl rfl rfl rfl) rfl (J.left (GK.unmet 68 rfl rfl rfl rfl) rfl (J.left (GK.unmet 68 rfl rfl rfl rfl) rfl (J.left (GK.unmet 68 rfl rfl rfl rfl) rfl (J.cons (.none rfl) (JO.pT rfl rfl rfl) rfl rfl (J.cons (.none rfl) (JO.move rfl) rfl rfl (J.left (GK.unmet 74 rfl rfl rfl rfl) rfl (J.left (GK.unmet 74 rfl rfl rfl rfl) rfl (J.left (GK.unmet 74 rfl rfl rfl rfl) rfl (J.left (GK.unmet 74 rfl rfl rfl rfl) rfl (J.left (GK.unmet 74 rfl rfl rfl rfl) rfl (J.left (GK.unmet 74 rfl rfl rfl rfl) rfl (J.left (GK.unmet 74 rfl rfl rfl rfl) rfl (J.cons (.none rfl) (JO.pT rfl rfl rfl) rfl rfl (J.fin (Sw.Sub.mk id (.cons rfl (.of_eq rfl) (.cons rfl (.of_eq rfl) (.cons rfl (.of_eq rfl) (.cons rfl (.of_eq rfl) (.cons rfl (.of_eq rfl) (.cons rfl (.of_eq rfl) .nil)))))) (.box rfl (.cons (.of_eq rfl) .nil) (.box rfl (.cons (.of_eq rfl) .nil) .nil)) rfl)))))))))))))))))))))))
        · replace hx := cond_f hc42 hx
          rcases Bool.eq_false_or_eq_true (Option.isSome v37.2) with hc43 | hc43
          · replace hx := cond_t hc43 hx
            obtain rfl := Option.some.inj hx
            exact (J.cons (.none rfl) (JO.move rfl) rfl rfl (J.cons (.none rfl) (JO.errNe Try.runUnderlying29 rfl) rfl rfl (J.cons (.none rfl) (JO.move rfl) rfl rfl (J.cons (GK.met 64 rfl rfl rfl hc42) (JO.move rfl) rfl rfl (J.cons (GK.met 64 rfl rfl rfl hc42) (JO.errNe Try.runUnderlying29 rfl) rfl rfl (J.cons (.none rfl) (JO.pF hc42 rfl rfl) rfl rfl (J.cons (.none rfl) (JO.move rfl) rfl rfl (J.left (GK.unmet 68 rfl rfl rfl hc43) rfl (J.left (GK.unmet 68 rfl rfl rfl hc43) rfl (J.left (GK.unmet 68 rfl rfl rfl hc43) rfl (J.left (GK.unmet 68 rfl rfl rfl hc43) rfl (J.cons (.none rfl) (JO.pT hc43 rfl rfl) rfl rfl (J.cons (.none rfl) (JO.move rfl) rfl rfl (J.left (GK.unmet 74 rfl rfl rfl rfl) rfl (J.left (GK.unmet 74 rfl rfl rfl rfl) rfl (J.left (GK.unmet 74 rfl rfl rfl rfl) rfl (J.left (GK.unmet 74 rfl rfl rfl rfl) rfl (J.left (GK.unmet 74 rfl rfl rfl rfl) rfl (J.left (GK.unmet 74 rfl rfl rfl rfl) rfl (J.left (GK.unmet 74 rfl rfl rfl rfl) rfl (J.cons (.none rfl) (JO.pT rfl rfl rfl) rfl rfl (J.fin (Sw.Sub.mk id (.cons rfl (.of_eq rfl) (.cons rfl (.of_eq rfl) (.cons rfl (.of_eq rfl) (.cons rfl (.of_eq rfl) (.cons rfl (.of_eq rfl) (.cons rfl (.of_eq rfl) .nil)))))) (.box rfl (.cons (.of_eq rfl) .nil) (.box rfl (.cons (.of_eq rfl) .nil) .nil)) rfl)))))))))))))))))))))))
          · replace hx := cond_f hc43 hx
            rcases Bool.eq_false_or_eq_true (cm .eql (v35.1.length : Int) (0 : Int)) with hc44 | hc44
            · replace hx := cond_t hc44 hx
              obtain rfl := Option.some.inj hx
              exact (J.cons (.none rfl) (JO.move rfl) rfl rfl (J.cons (.none rfl) (JO.errNe Try.runUnderlying29 rfl) rfl rfl (J.cons (.none rfl) (JO.move rfl) rfl rfl (J.cons (GK.met 64 rfl rfl rfl hc42) (JO.move rfl) rfl rfl (J.cons (GK.met 64 rfl rfl rfl hc42) (JO.errNe Try.runUnderlying29 rfl) rfl rfl (J.cons (.none rfl) (JO.pF hc42 rfl rfl) rfl rfl (J.cons (.none rfl) (JO.move rfl) rfl rfl (J.cons (GK.met 68 rfl rfl rfl hc43) (JO.fieldPtr 0 rfl Try.runUnderlying71 rfl Try.sizeOf69 rfl rfl) rfl rfl (J.cons (GK.met 68 rfl rfl rfl hc43) (JO.load rfl rfl rfl Try.isAgg69 Try.sizeOf69) rfl rfl (J.cons (GK.met 68 rfl rfl rfl hc43) (JO.len rfl Try.runUnderlying69) rfl rfl (J.cons (GK.met 68 rfl rfl rfl hc43) (JO.cmp rfl rfl rfl) rfl rfl (J.cons (.none rfl) (JO.pF hc43 rfl rfl) rfl rfl (J.cons (.none rfl) (JO.move rfl) rfl rfl (J.left (GK.unmet 74 rfl rfl rfl hc44) rfl (J.left (GK.unmet 74 rfl rfl rfl hc44) rfl (J.left (GK.unmet 74 rfl rfl rfl hc44) rfl (J.left (GK.unmet 74 rfl rfl rfl hc44) rfl (J.left (GK.unmet 74 rfl rfl rfl hc44) rfl (J.left (GK.unmet 74 rfl rfl rfl hc44) rfl (J.left (GK.unmet 74 rfl rfl rfl hc44) rfl (J.cons (.none rfl) (JO.pT hc44 rfl rfl) rfl rfl (J.fin (Sw.Sub.mk id (.cons rfl (.of_eq rfl) (.cons rfl (.of_eq rfl) (.cons rfl (.of_eq rfl) (.cons rfl (.of_eq rfl) (.cons rfl (.of_eq rfl) (.cons rfl (.of_eq rfl) .nil)))))) (.box rfl (.cons (.of_eq rfl) .nil) (.box rfl (.cons (.of_eq rfl) .nil) .nil)) rfl)))))))))))))))))))))))
            · replace hx := cond_f hc44 hx
              obtain rfl := Option.some.inj hx
              exact (J.cons (.none rfl) (JO.move rfl) rfl rfl (J.cons (.none rfl) (JO.errNe Try.runUnderlying29 rfl) rfl rfl (J.cons (.none rfl) (JO.move rfl) rfl rfl (J.cons (GK.met 64 rfl rfl rfl hc42) (JO.move rfl) rfl rfl (J.cons (GK.met 64 rfl rfl rfl hc42) (JO.errNe Try.runUnderlying29 rfl) rfl rfl (J.cons (.none rfl) (JO.pF hc42 rfl rfl) rfl rfl (J.cons (.none rfl) (JO.move rfl) rfl rfl (J.cons (GK.met 68 rfl rfl rfl hc43) (JO.fieldPtr 0 rfl Try.runUnderlying71 rfl Try.sizeOf69 rfl rfl) rfl rfl (J.cons (GK.met 68 rfl rfl rfl hc43) (JO.load rfl rfl rfl Try.isAgg69 Try.sizeOf69) rfl rfl (J.cons (GK.met 68 rfl rfl rfl hc43) (JO.len rfl Try.runUnderlying69) rfl rfl (J.cons (GK.met 68 rfl rfl rfl hc43) (JO.cmp rfl rfl rfl) rfl rfl (J.cons (.none rfl) (JO.pF hc43 rfl rfl) rfl rfl (J.cons (.none rfl) (JO.move rfl) rfl rfl (J.cons (GK.met 74 rfl rfl rfl hc44) (JO.fieldPtr 0 rfl Try.runUnderlying71 rfl Try.sizeOf69 rfl rfl) rfl rfl (J.cons (GK.met 74 rfl rfl rfl hc44) (JO.load rfl rfl rfl Try.isAgg69 Try.sizeOf69) rfl rfl (J.cons (GK.met 74 rfl rfl rfl hc44) (JO.len rfl Try.runUnderlying69) rfl rfl (J.cons (GK.met 74 rfl rfl rfl hc44) (JO.fieldPtr 0 rfl Try.runUnderlying71 rfl Try.sizeOf69 rfl rfl) rfl rfl (J.cons (GK.met 74 rfl rfl rfl hc44) (JO.load rfl rfl rfl Try.isAgg69 Try.sizeOf69) rfl rfl (J.cons (GK.met 74 rfl rfl rfl hc44) (JO.len rfl Try.runUnderlying69) rfl rfl (J.cons (GK.met 74 rfl rfl rfl hc44) (JO.cmp rfl rfl rfl) rfl rfl (J.cons (.none rfl) (JO.pF hc44 rfl rfl) rfl rfl (J.fin (Sw.Sub.mk id (.cons rfl (.of_eq rfl) (.cons rfl (.of_eq rfl) (.cons rfl (.of_eq rfl) (.cons rfl (.of_eq rfl) (.cons rfl (.of_eq rfl) (.cons rfl (.of_eq rfl) .nil)))))) (.box rfl (.cons (.of_eq rfl) .nil) (.box rfl (.cons (.of_eq rfl) .nil) .nil)) rfl)))))))))))))))))))))))
      rcases Bool.eq_false_or_eq_true x41 with hc45 | hc45
      · replace h := cond_t hc45 h
        refine W.condT rfl hc45 ?_
        refine W.seq ?_
        refine W.reg (σ' := ⟨[(8, .v Enc.bool false)], []⟩) (J.cons (.none rfl) (JO.assign rfl) rfl rfl (J.fin (Sw.Sub.mk id (.cons rfl (.of_eq rfl) .nil) .nil rfl))) ?_
        refine W.ret ?_
        obtain rfl := Option.some.inj h
        exact XQ.sub (σ' := ⟨[(8, .v Enc.bool false)], []⟩) (Sw.Sub.mk id (.cons rfl (.of_eq rfl) .nil) .nil rfl) (XQ.ret1 hF noR rfl (RV.tmp rfl) .nil rfl)
      · replace h := cond_f hc45 h
        refine W.condF rfl hc45 ?_
        refine W.skip ?_
        refine W.seq ?_
        obtain ⟨v46, hv46, h⟩ := bind_e h
        refine W.reg (σ' := ⟨[(1, .v (Enc.int .i64) (ar .add .i64 (1 : Int) v2)), (9, .v (Enc.sl eBlk) v4), (10, .v (Enc.sl eBlk) x28), (12, .ptr 122 0), (14, .ptr 125 0), (16, .v (Enc.sl (Enc.int .i64)) v46.1), (17, .v (Enc.int .i64) v46.2.1), (18, .v (Enc.err ET) v46.2.2)], [(122, .box 71 [.v (Enc.sl (Enc.sl (Enc.int .u64))) v35.1]), (125, .box 71 [.v (Enc.sl (Enc.sl (Enc.int .u64))) v37.1])]⟩) (J.cons (.none rfl) (JO.loadAll rfl rfl (.one1 (.one _ _)) Try.isAgg71 Try.sizeOf71) rfl rfl (J.cons (.none rfl) (JO.loadAll rfl rfl (.one1 (.one _ _)) Try.isAgg71 Try.sizeOf71) rfl rfl (J.cons (.none rfl) (JO.call0 (con_tree_Diff hv46) Try.call53 (.cons (.dir rfl) (.cons (.dir rfl) .nil))) rfl rfl (J.cons (.none rfl) (JO.move rfl) rfl rfl (J.cons (.none rfl) (JO.extract rfl rfl) rfl rfl (J.cons (.none rfl) (JO.extract rfl rfl) rfl rfl (J.cons (.none rfl) (JO.extract rfl rfl) rfl rfl (J.cons (.none rfl) (JO.assign rfl) rfl rfl (J.cons (.none rfl) (JO.assign rfl) rfl rfl (J.cons (.none rfl) (JO.assign rfl) rfl rfl (J.fin (Sw.Sub.mk id (.cons rfl (.of_eq rfl) (.cons rfl (.of_eq rfl) (.cons rfl (.of_eq rfl) (.cons rfl (.of_eq rfl) (.cons rfl (.of_eq rfl) (.cons rfl (.of_eq rfl) (.cons rfl (.of_eq rfl) (.cons rfl (.of_eq rfl) .nil)))))))) (.box rfl (.cons (.of_eq rfl) .nil) (.box rfl (.cons (.of_eq rfl) .nil) .nil)) rfl)))))))))))) ?_
        refine W.seq ?_
        refine W.seq ?_
        obtain ⟨x49, hx, h⟩ := bind_e h
        refine W.reg (σ' := ⟨[(1, .v (Enc.int .i64) (ar .add .i64 (1 : Int) v2)), (9, .v (Enc.sl eBlk) v4), (10, .v (Enc.sl eBlk) x28), (12, .ptr 122 0), (14, .ptr 125 0), (16, .v (Enc.sl (Enc.int .i64)) v46.1), (107, .v Enc.bool x49)], [(122, .box 71 [.v (Enc.sl (Enc.sl (Enc.int .u64))) v35.1]), (125, .box 71 [.v (Enc.sl (Enc.sl (Enc.int .u64))) v37.1])]⟩) ?_ ?_
        · rcases Bool.eq_false_or_eq_true (Option.isSome v46.2.2) with hc50 | hc50
          · replace hx := cond_t hc50 hx
            obtain rfl := Option.some.inj hx
            exact (J.cons (.none rfl) (JO.move rfl) rfl rfl (J.cons (.none rfl) (JO.errNe Try.runUnderlying29 rfl) rfl rfl (J.cons (.none rfl) (JO.move rfl) rfl rfl (J.left (GK.unmet 92 rfl rfl rfl hc50) rfl (J.left (GK.unmet 92 rfl rfl rfl hc50) rfl (J.cons (.none rfl) (JO.pT hc50 rfl rfl) rfl rfl (J.cons (.none rfl) (JO.move rfl) rfl rfl (J.left (GK.unmet 96 rfl rfl rfl rfl) rfl (J.left (GK.unmet 96 rfl rfl rfl rfl) rfl (J.left (GK.unmet 96 rfl rfl rfl rfl) rfl (J.left (GK.unmet 96 rfl rfl rfl rfl) rfl (J.left (GK.unmet 96 rfl rfl rfl rfl) rfl (J.left (GK.unmet 96 rfl rfl rfl rfl) rfl (J.left (GK.unmet 96 rfl rfl rfl rfl) rfl (J.left (GK.unmet 96 rfl rfl rfl rfl) rfl (J.left (GK.unmet 96 rfl rfl rfl rfl) rfl (J.left (GK.unmet 96 rfl rfl rfl rfl) rfl (J.cons (.none rfl) (JO.pT rfl rfl rfl) rfl rfl (J.fin (Sw.Sub.mk id (.cons rfl (.of_eq rfl) (.cons rfl (.of_eq rfl) (.cons rfl (.of_eq rfl) (.cons rfl (.of_eq rfl) (.cons rfl (.of_eq rfl) (.cons rfl (.of_eq rfl) (.cons rfl (.of_eq rfl) .nil))))))) (.box rfl (.cons (.of_eq rfl) .nil) (.box rfl (.cons (.of_eq rfl) .nil) .nil)) rfl))))))))))))))))))))
          · replace hx := cond_f hc50 hx
            rcases Bool.eq_false_or_eq_true (cm .lss v46.2.1 (1 : Int)) with hc51 | hc51
            · replace hx := cond_t hc51 hx
              obtain rfl := Option.some.inj hx
              exact (J.cons (.none rfl) (JO.move rfl) rfl rfl (J.cons (.none rfl) (JO.errNe Try.runUnderlying29 rfl) rfl rfl (J.cons (.none rfl) (JO.move rfl) rfl rfl (J.cons (GK.met 92 rfl rfl rfl hc50) (JO.move rfl) rfl rfl (J.cons (GK.met 92 rfl rfl rfl hc50) (JO.cmp rfl rfl rfl) rfl rfl (J.cons (.none rfl) (JO.pF hc50 rfl rfl) rfl rfl (J.cons (.none rfl) (JO.move rfl) rfl rfl (J.left (GK.unmet 96 rfl rfl rfl hc51) rfl (J.left (GK.unmet 96 rfl rfl rfl hc51) rfl (J.left (GK.unmet 96 rfl rfl rfl hc51) rfl (J.left (GK.unmet 96 rfl rfl rfl hc51) rfl (J.left (GK.unmet 96 rfl rfl rfl hc51) rfl (J.left (GK.unmet 96 rfl rfl rfl hc51) rfl (J.left (GK.unmet 96 rfl rfl rfl hc51) rfl (J.left (GK.unmet 96 rfl rfl rfl hc51) rfl (J.left (GK.unmet 96 rfl rfl rfl hc51) rfl (J.left (GK.unmet 96 rfl rfl rfl hc51) rfl (J.cons (.none rfl) (JO.pT hc51 rfl rfl) rfl rfl (J.fin (Sw.Sub.mk id (.cons rfl (.of_eq rfl) (.cons rfl (.of_eq rfl) (.cons rfl (.of_eq rfl) (.cons rfl (.of_eq rfl) (.cons rfl (.of_eq rfl) (.cons rfl (.of_eq rfl) (.cons rfl (.of_eq rfl) .nil))))))) (.box rfl (.cons (.of_eq rfl) .nil) (.box rfl (.cons (.of_eq rfl) .nil) .nil)) rfl))))))))))))))))))))
            · replace hx := cond_f hc51 hx
              obtain rfl := Option.some.inj hx
              exact (J.cons (.none rfl) (JO.move rfl) rfl rfl (J.cons (.none rfl) (JO.errNe Try.runUnderlying29 rfl) rfl rfl (J.cons (.none rfl) (JO.move rfl) rfl rfl (J.cons (GK.met 92 rfl rfl rfl hc50) (JO.move rfl) rfl rfl (J.cons (GK.met 92 rfl rfl rfl hc50) (JO.cmp rfl rfl rfl) rfl rfl (J.cons (.none rfl) (JO.pF hc50 rfl rfl) rfl rfl (J.cons (.none rfl) (JO.move rfl) rfl rfl (J.cons (GK.met 96 rfl rfl rfl hc51) (JO.move rfl) rfl rfl (J.cons (GK.met 96 rfl rfl rfl hc51) (JO.move rfl) rfl rfl (J.cons (GK.met 96 rfl rfl rfl hc51) (JO.len rfl Try.runUnderlying36) rfl rfl (J.cons (GK.met 96 rfl rfl rfl hc51) (JO.arith rfl rfl rfl) rfl rfl (J.cons (GK.met 96 rfl rfl rfl hc51) (JO.fieldPtr 0 rfl Try.runUnderlying71 rfl Try.sizeOf69 rfl rfl) rfl rfl (J.cons (GK.met 96 rfl rfl rfl hc51) (JO.load rfl rfl rfl Try.isAgg69 Try.sizeOf69) rfl rfl (J.cons (GK.met 96 rfl rfl rfl hc51) (JO.len rfl Try.runUnderlying69) rfl rfl (J.cons (GK.met 96 rfl rfl rfl hc51) (JO.arith rfl rfl rfl) rfl rfl (J.cons (GK.met 96 rfl rfl rfl hc51) (JO.arith rfl rfl rfl) rfl rfl (J.cons (GK.met 96 rfl rfl rfl hc51) (JO.cmp rfl rfl rfl) rfl rfl (J.cons (.none rfl) (JO.pF hc51 rfl rfl) rfl rfl (J.fin (Sw.Sub.mk id (.cons rfl (.of_eq rfl) (.cons rfl (.of_eq rfl) (.cons rfl (.of_eq rfl) (.cons rfl (.of_eq rfl) (.cons rfl (.of_eq rfl) (.cons rfl (.of_eq rfl) (.cons rfl (.of_eq rfl) .nil))))))) (.box rfl (.cons (.of_eq rfl) .nil) (.box rfl (.cons (.of_eq rfl) .nil) .nil)) rfl))))))))))))))))))))
        rcases Bool.eq_false_or_eq_true x49 with hc52 | hc52
        · replace h := cond_t hc52 h
          refine W.condT rfl hc52 ?_
          refine W.seq ?_
          refine W.reg (σ' := ⟨[(8, .v Enc.bool false)], []⟩) (J.cons (.none rfl) (JO.assign rfl) rfl rfl (J.fin (Sw.Sub.mk id (.cons rfl (.of_eq rfl) .nil) .nil rfl))) ?_
          refine W.ret ?_
          obtain rfl := Option.some.inj h
          exact XQ.sub (σ' := ⟨[(8, .v Enc.bool false)], []⟩) (Sw.Sub.mk id (.cons rfl (.of_eq rfl) .nil) .nil rfl) (XQ.ret1 hF noR rfl (RV.tmp rfl) .nil rfl)
        · replace h := cond_f hc52 h
          refine W.condF rfl hc52 ?_
          refine W.skip ?_
          refine W.seq ?_
          refine W.reg (σ' := ⟨[(1, .v (Enc.int .i64) (ar .add .i64 (1 : Int) v2)), (9, .v (Enc.sl eBlk) v4), (10, .v (Enc.sl eBlk) x28), (12, .ptr 122 0), (14, .ptr 125 0), (16, .v (Enc.sl (Enc.int .i64)) v46.1), (19, .v (Enc.int .i64) (0 : Int))], [(122, .box 71 [.v (Enc.sl (Enc.sl (Enc.int .u64))) v35.1]), (125, .box 71 [.v (Enc.sl (Enc.sl (Enc.int .u64))) v37.1])]⟩) (J.cons (.none rfl) (JO.assign rfl) rfl rfl (J.fin (Sw.Sub.mk id (.cons rfl (.of_eq rfl) (.cons rfl (.of_eq rfl) (.cons rfl (.of_eq rfl) (.cons rfl (.of_eq rfl) (.cons rfl (.of_eq rfl) (.cons rfl (.of_eq rfl) (.cons rfl (.of_eq rfl) .nil))))))) (.box rfl (.cons (.of_eq rfl) .nil) (.box rfl (.cons (.of_eq rfl) .nil) .nil)) rfl))) ?_
          refine W.seq ?_
          refine W.seq ?_
          refine W.reg (σ' := ⟨[(1, .v (Enc.int .i64) (ar .add .i64 (1 : Int) v2)), (9, .v (Enc.sl eBlk) v4), (10, .v (Enc.sl eBlk) x28), (12, .ptr 122 0), (14, .ptr 125 0), (16, .v (Enc.sl (Enc.int .i64)) v46.1), (19, .v (Enc.int .i64) (0 : Int)), (20, .v (Enc.int .i64) (0 : Int))], [(122, .box 71 [.v (Enc.sl (Enc.sl (Enc.int .u64))) v35.1]), (125, .box 71 [.v (Enc.sl (Enc.sl (Enc.int .u64))) v37.1])]⟩) (J.cons (.none rfl) (JO.assign rfl) rfl rfl (J.fin (Sw.Sub.mk id (.cons rfl (.of_eq rfl) (.cons rfl (.of_eq rfl) (.cons rfl (.of_eq rfl) (.cons rfl (.of_eq rfl) (.cons rfl (.of_eq rfl) (.cons rfl (.of_eq rfl) (.cons rfl (.of_eq rfl) (.cons rfl (.of_eq rfl) .nil)))))))) (.box rfl (.cons (.of_eq rfl) .nil) (.box rfl (.cons (.of_eq rfl) .nil) .nil)) rfl))) ?_
          obtain ⟨o179, ho179, hb179, hr179⟩ := lp_elim h
          refine W.lp (σs := fun s137 : Int × Int => ⟨[(1, .v (Enc.int .i64) (ar .add .i64 (1 : Int) v2)), (9, .v (Enc.sl eBlk) v4), (10, .v (Enc.sl eBlk) x28), (12, .ptr 122 0), (14, .ptr 125 0), (16, .v (Enc.sl (Enc.int .i64)) v46.1), (19, .v (Enc.int .i64) s137.1), (20, .v (Enc.int .i64) s137.2)], [(122, .box 71 [.v (Enc.sl (Enc.sl (Enc.int .u64))) v35.1]), (125, .box 71 [.v (Enc.sl (Enc.sl (Enc.int .u64))) v37.1])]⟩) (fun x180 : Int => ⟨[(16, .v (Enc.sl (Enc.int .i64)) v46.1), (19, .v (Enc.int .i64) x180)], []⟩) ho179 (Sw.Sub.mk id (.cons rfl (.of_eq rfl) (.cons rfl (.of_eq rfl) (.cons rfl (.of_eq rfl) (.cons rfl (.of_eq rfl) (.cons rfl (.of_eq rfl) (.cons rfl (.of_eq rfl) (.cons rfl (.of_eq rfl) (.cons rfl (.of_eq rfl) .nil)))))))) (.box rfl (.cons (.of_eq rfl) .nil) (.box rfl (.cons (.of_eq rfl) .nil) .nil)) rfl) ?_ ?_
          · intro x180 hy
            have h := hb179 _ hy
            refine W.seq ?_
            refine W.reg (σ' := ⟨[(8, .v Enc.bool (cm .eql x180 (v46.1.length : Int)))], []⟩) (J.cons (.none rfl) (JO.move rfl) rfl rfl (J.cons (.none rfl) (JO.move rfl) rfl rfl (J.cons (.none rfl) (JO.len rfl Try.runUnderlying36) rfl rfl (J.cons (.none rfl) (JO.cmp rfl rfl rfl) rfl rfl (J.cons (.none rfl) (JO.assign rfl) rfl rfl (J.fin (Sw.Sub.mk id (.cons rfl (.of_eq rfl) .nil) .nil rfl))))))) ?_
            refine W.ret ?_
            obtain rfl := Option.some.inj h
            exact XQ.sub (σ' := ⟨[(8, .v Enc.bool (cm .eql x180 (v46.1.length : Int)))], []⟩) (Sw.Sub.mk id (.cons rfl (.of_eq rfl) .nil) .nil rfl) (XQ.ret1 hF noR rfl (RV.tmp rfl) .nil rfl)
          intro s137 r179 h
          refine W.seq ?_
          refine W.seq ?_
          refine W.reg (σ' := ⟨[(1, .v (Enc.int .i64) (ar .add .i64 (1 : Int) v2)), (9, .v (Enc.sl eBlk) v4), (10, .v (Enc.sl eBlk) x28), (12, .ptr 122 0), (14, .ptr 125 0), (16, .v (Enc.sl (Enc.int .i64)) v46.1), (19, .v (Enc.int .i64) s137.1), (20, .v (Enc.int .i64) s137.2), (110, .v Enc.bool (cm .lss s137.2 (ar .add .i64 (1 : Int) v2)))], [(122, .box 71 [.v (Enc.sl (Enc.sl (Enc.int .u64))) v35.1]), (125, .box 71 [.v (Enc.sl (Enc.sl (Enc.int .u64))) v37.1])]⟩) (J.cons (.none rfl) (JO.move rfl) rfl rfl (J.cons (.none rfl) (JO.move rfl) rfl rfl (J.cons (.none rfl) (JO.cmp rfl rfl rfl) rfl rfl (J.fin (Sw.Sub.mk id (.cons rfl (.of_eq rfl) (.cons rfl (.of_eq rfl) (.cons rfl (.of_eq rfl) (.cons rfl (.of_eq rfl) (.cons rfl (.of_eq rfl) (.cons rfl (.of_eq rfl) (.cons rfl (.of_eq rfl) (.cons rfl (.of_eq rfl) (.cons rfl (.of_eq rfl) .nil))))))))) (.box rfl (.cons (.of_eq rfl) .nil) (.box rfl (.cons (.of_eq rfl) .nil) .nil)) rfl))))) ?_
          rcases Bool.eq_false_or_eq_true (cm .lss s137.2 (ar .add .i64 (1 : Int) v2)) with hc181 | hc181
          · replace h := cond_t hc181 h
            refine W.condT rfl hc181 ?_
            refine W.skip ?_
            refine W.seq ?_
            obtain ⟨k201, hk201, h⟩ := jp_elim h
            refine W.bj (fun x202 : Int => ⟨[(1, .v (Enc.int .i64) (ar .add .i64 (1 : Int) v2)), (9, .v (Enc.sl eBlk) v4), (10, .v (Enc.sl eBlk) x28), (12, .ptr 122 0), (14, .ptr 125 0), (16, .v (Enc.sl (Enc.int .i64)) v46.1), (19, .v (Enc.int .i64) x202), (20, .v (Enc.int .i64) s137.2)], [(122, .box 71 [.v (Enc.sl (Enc.sl (Enc.int .u64))) v35.1]), (125, .box 71 [.v (Enc.sl (Enc.sl (Enc.int .u64))) v37.1])]⟩) (fun x => k201 x = some r179) ?_ ?_
            · intro x202 h
              rw [hk201] at h
              refine W.reg (σ' := ⟨[(1, .v (Enc.int .i64) (ar .add .i64 (1 : Int) v2)), (9, .v (Enc.sl eBlk) v4), (10, .v (Enc.sl eBlk) x28), (12, .ptr 122 0), (14, .ptr 125 0), (16, .v (Enc.sl (Enc.int .i64)) v46.1), (19, .v (Enc.int .i64) x202), (20, .v (Enc.int .i64) (ar .add .i64 s137.2 (1 : Int)))], [(122, .box 71 [.v (Enc.sl (Enc.sl (Enc.int .u64))) v35.1]), (125, .box 71 [.v (Enc.sl (Enc.sl (Enc.int .u64))) v37.1])]⟩) (J.cons (.none rfl) (JO.move rfl) rfl rfl (J.cons (.none rfl) (JO.arith rfl rfl rfl) rfl rfl (J.cons (.none rfl) (JO.assign rfl) rfl rfl (J.fin (Sw.Sub.mk id (.cons rfl (.of_eq rfl) (.cons rfl (.of_eq rfl) (.cons rfl (.of_eq rfl) (.cons rfl (.of_eq rfl) (.cons rfl (.of_eq rfl) (.cons rfl (.of_eq rfl) (.cons rfl (.of_eq rfl) (.cons rfl (.of_eq rfl) .nil)))))))) (.box rfl (.cons (.of_eq rfl) .nil) (.box rfl (.cons (.of_eq rfl) .nil) .nil)) rfl))))) ?_
              obtain rfl := Option.some.inj h
              exact W.next (Sw.Sub.mk id (.cons rfl (.of_eq rfl) (.cons rfl (.of_eq rfl) (.cons rfl (.of_eq rfl) (.cons rfl (.of_eq rfl) (.cons rfl (.of_eq rfl) (.cons rfl (.of_eq rfl) (.cons rfl (.of_eq rfl) (.cons rfl (.of_eq rfl) .nil)))))))) (.box rfl (.cons (.of_eq rfl) .nil) (.box rfl (.cons (.of_eq rfl) .nil) .nil)) rfl)
            refine W.seq ?_
            refine W.seq ?_
            obtain ⟨x205, hx, h⟩ := bind_e h
            refine W.reg (σ' := ⟨[(1, .v (Enc.int .i64) (ar .add .i64 (1 : Int) v2)), (9, .v (Enc.sl eBlk) v4), (10, .v (Enc.sl eBlk) x28), (12, .ptr 122 0), (14, .ptr 125 0), (16, .v (Enc.sl (Enc.int .i64)) v46.1), (19, .v (Enc.int .i64) s137.1), (20, .v (Enc.int .i64) s137.2), (124, .v Enc.bool x205)], [(122, .box 71 [.v (Enc.sl (Enc.sl (Enc.int .u64))) v35.1]), (125, .box 71 [.v (Enc.sl (Enc.sl (Enc.int .u64))) v37.1])]⟩) ?_ ?_
            · rcases Bool.eq_false_or_eq_true (cm .lss s137.1 (v46.1.length : Int)) with hc206 | hc206
              · replace hx := cond_t hc206 hx
                obtain ⟨z207, hz207, hx⟩ := bind_e hx
                obtain rfl := Option.some.inj hx
                exact (J.cons (.none rfl) (JO.move rfl) rfl rfl (J.cons (.none rfl) (JO.move rfl) rfl rfl (J.cons (.none rfl) (JO.len rfl Try.runUnderlying36) rfl rfl (J.cons (.none rfl) (JO.cmp rfl rfl rfl) rfl rfl (J.cons (.none rfl) (JO.move rfl) rfl rfl (J.cons (GK.met 117 rfl rfl rfl hc206) (JO.move rfl) rfl rfl (J.cons (GK.met 117 rfl rfl rfl hc206) (JO.move rfl) rfl rfl (J.cons (GK.met 117 rfl rfl rfl hc206) (JO.idx hz207 rfl rfl Try.runUnderlying36 Try.sizeOf3) rfl rfl (J.cons (GK.met 117 rfl rfl rfl hc206) (JO.loadPst rfl Try.isAgg3 Try.sizeOf3) rfl rfl (J.cons (GK.met 117 rfl rfl rfl hc206) (JO.move rfl) rfl rfl (J.cons (GK.met 117 rfl rfl rfl hc206) (JO.cmp rfl rfl rfl) rfl rfl (J.cons (.none rfl) (JO.pT hc206 rfl rfl) rfl rfl (J.fin (Sw.Sub.mk id (.cons rfl (.of_eq rfl) (.cons rfl (.of_eq rfl) (.cons rfl (.of_eq rfl) (.cons rfl (.of_eq rfl) (.cons rfl (.of_eq rfl) (.cons rfl (.of_eq rfl) (.cons rfl (.of_eq rfl) (.cons rfl (.of_eq rfl) (.cons rfl (.of_eq rfl) .nil))))))))) (.box rfl (.cons (.of_eq rfl) .nil) (.box rfl (.cons (.of_eq rfl) .nil) .nil)) rfl))))))))))))))
              · replace hx := cond_f hc206 hx
                obtain rfl := Option.some.inj hx
                exact (J.cons (.none rfl) (JO.move rfl) rfl rfl (J.cons (.none rfl) (JO.move rfl) rfl rfl (J.cons (.none rfl) (JO.len rfl Try.runUnderlying36) rfl rfl (J.cons (.none rfl) (JO.cmp rfl rfl rfl) rfl rfl (J.cons (.none rfl) (JO.move rfl) rfl rfl (J.left (GK.unmet 117 rfl rfl rfl hc206) rfl (J.left (GK.unmet 117 rfl rfl rfl hc206) rfl (J.left (GK.unmet 117 rfl rfl rfl hc206) rfl (J.left (GK.unmet 117 rfl rfl rfl hc206) rfl (J.left (GK.unmet 117 rfl rfl rfl hc206) rfl (J.left (GK.unmet 117 rfl rfl rfl hc206) rfl (J.cons (.none rfl) (JO.pF hc206 rfl rfl) rfl rfl (J.fin (Sw.Sub.mk id (.cons rfl (.of_eq rfl) (.cons rfl (.of_eq rfl) (.cons rfl (.of_eq rfl) (.cons rfl (.of_eq rfl) (.cons rfl (.of_eq rfl) (.cons rfl (.of_eq rfl) (.cons rfl (.of_eq rfl) (.cons rfl (.of_eq rfl) (.cons rfl (.of_eq rfl) .nil))))))))) (.box rfl (.cons (.of_eq rfl) .nil) (.box rfl (.cons (.of_eq rfl) .nil) .nil)) rfl))))))))))))))
            rcases Bool.eq_false_or_eq_true x205 with hc208 | hc208
            · replace h := cond_t hc208 h
              refine W.condT rfl hc208 ?_
              refine W.seq ?_
              refine W.seq ?_
              obtain ⟨z209, hz209, h⟩ := bind_e h
              obtain ⟨z210, hz210, h⟩ := bind_e h
              refine W.dr2 (σ' := ⟨[(1, .v (Enc.int .i64) (ar .add .i64 (1 : Int) v2)), (9, .v (Enc.sl eBlk) v4), (10, .v (Enc.sl eBlk) x28), (12, .ptr 122 0), (14, .ptr 125 0), (16, .v (Enc.sl (Enc.int .i64)) v46.1), (19, .v (Enc.int .i64) s137.1), (20, .v (Enc.int .i64) s137.2), (133, .v Enc.bool (decide (z209 = z210)))], [(122, .box 71 [.v (Enc.sl (Enc.sl (Enc.int .u64))) v35.1]), (125, .box 71 [.v (Enc.sl (Enc.sl (Enc.int .u64))) v37.1])]⟩) 9 [0, 0, 3, 7, 0, 0, 48, 112, 255] mixed (by exact (.cons (.none rfl) (JO.move rfl) rfl rfl (.cons (.none rfl) (JO.move rfl) rfl rfl (.cons (.none rfl) (JO.idx hz209 rfl rfl Try.runUnderlying22 Try.sizeOf24) rfl rfl (.cons (.none rfl) (JO.loadPst rfl Try.isAgg24 Try.sizeOf24) rfl rfl (.cons (.none rfl) (JO.move rfl) rfl rfl (.cons (.none rfl) (JO.move rfl) rfl rfl (.cons (.none rfl) (JO.idx hz210 rfl rfl Try.runUnderlying22 Try.sizeOf24) rfl rfl (.cons (.none rfl) (JO.loadPst rfl Try.isAgg24 Try.sizeOf24) rfl rfl (.cons (.none rfl) (JO.eqV eq24 rfl rfl Try.eqGuardType24 rfl rfl) rfl rfl .nil)))))))))) (by exact (J.fin (Sw.Sub.mk id (.cons rfl (.of_eq rfl) (.cons rfl (.of_eq rfl) (.cons rfl (.of_eq rfl) (.cons rfl (.of_eq rfl) (.cons rfl (.of_eq rfl) (.cons rfl (.of_eq rfl) (.cons rfl (.of_eq rfl) (.cons rfl (.of_eq rfl) (.cons rfl (.of_eq rfl) .nil))))))))) (.box rfl (.cons (.of_eq rfl) .nil) (.box rfl (.cons (.of_eq rfl) .nil) .nil)) rfl))) rfl (by decide +kernel) (by decide +kernel) (by decide +kernel) (by kernel_rfl) ?_
              rcases Bool.eq_false_or_eq_true (decide (z209 = z210)) with hc211 | hc211
              · replace h := cond_t hc211 h
                refine W.condT rfl hc211 ?_
                refine W.seq ?_
                refine W.reg (σ' := ⟨[(8, .v Enc.bool false)], []⟩) (J.cons (.none rfl) (JO.assign rfl) rfl rfl (J.fin (Sw.Sub.mk id (.cons rfl (.of_eq rfl) .nil) .nil rfl))) ?_
                refine W.ret ?_
                refine XQ.bret ?_
                obtain rfl := Option.some.inj h
                refine XQ.lret fun ho => ?_
                obtain rfl := hr179 _ ho
                exact XQ.sub (σ' := ⟨[(8, .v Enc.bool false)], []⟩) (Sw.Sub.mk id (.cons rfl (.of_eq rfl) .nil) .nil rfl) (XQ.ret1 hF noR rfl (RV.tmp rfl) .nil rfl)
              · replace h := cond_f hc211 h
                refine W.condF rfl hc211 ?_
                refine W.skip ?_
                refine W.seq ?_
                refine W.reg (σ' := ⟨[(1, .v (Enc.int .i64) (ar .add .i64 (1 : Int) v2)), (9, .v (Enc.sl eBlk) v4), (10, .v (Enc.sl eBlk) x28), (12, .ptr 122 0), (14, .ptr 125 0), (16, .v (Enc.sl (Enc.int .i64)) v46.1), (19, .v (Enc.int .i64) (ar .add .i64 s137.1 (1 : Int))), (20, .v (Enc.int .i64) s137.2)], [(122, .box 71 [.v (Enc.sl (Enc.sl (Enc.int .u64))) v35.1]), (125, .box 71 [.v (Enc.sl (Enc.sl (Enc.int .u64))) v37.1])]⟩) (J.cons (.none rfl) (JO.move rfl) rfl rfl (J.cons (.none rfl) (JO.arith rfl rfl rfl) rfl rfl (J.cons (.none rfl) (JO.assign rfl) rfl rfl (J.fin (Sw.Sub.mk id (.cons rfl (.of_eq rfl) (.cons rfl (.of_eq rfl) (.cons rfl (.of_eq rfl) (.cons rfl (.of_eq rfl) (.cons rfl (.of_eq rfl) (.cons rfl (.of_eq rfl) (.cons rfl (.of_eq rfl) (.cons rfl (.of_eq rfl) .nil)))))))) (.box rfl (.cons (.of_eq rfl) .nil) (.box rfl (.cons (.of_eq rfl) .nil) .nil)) rfl))))) ?_
                refine W.exit ?_
                exact XQ.bhit h (Sw.Sub.mk id (.cons rfl (.of_eq rfl) (.cons rfl (.of_eq rfl) (.cons rfl (.of_eq rfl) (.cons rfl (.of_eq rfl) (.cons rfl (.of_eq rfl) (.cons rfl (.of_eq rfl) (.cons rfl (.of_eq rfl) (.cons rfl (.of_eq rfl) .nil)))))))) (.box rfl (.cons (.of_eq rfl) .nil) (.box rfl (.cons (.of_eq rfl) .nil) .nil)) rfl)
            · replace h := cond_f hc208 h
              refine W.condF rfl hc208 ?_
              refine W.skip ?_
              refine W.seq ?_
              obtain ⟨x216, hx, h⟩ := bind_e h
              refine W.mg (σ' := ⟨[(1, .v (Enc.int .i64) (ar .add .i64 (1 : Int) v2)), (9, .v (Enc.sl eBlk) v4), (10, .v (Enc.sl eBlk) x28), (12, .ptr 122 0), (14, .ptr 125 0), (16, .v (Enc.sl (Enc.int .i64)) v46.1), (19, .v (Enc.int .i64) s137.1), (20, .v (Enc.int .i64) s137.2), (152, .v Enc.bool x216)], [(122, .box 71 [.v (Enc.sl (Enc.sl (Enc.int .u64))) v35.1]), (125, .box 71 [.v (Enc.sl (Enc.sl (Enc.int .u64))) v37.1])]⟩) ?_ ?_
              · intro hk
                obtain ⟨z217, hz217, hx⟩ := bind_e hx
                obtain ⟨z218, hz218, hx⟩ := bind_e hx
                rcases Bool.eq_false_or_eq_true (!decide (z217 = z218)) with hc219 | hc219
                · replace hx := cond_t hc219 hx
                  obtain ⟨v220, hv220, hx⟩ := bind_e hx
                  obtain rfl := Option.some.inj hx
                  exact W.dr2 (σ' := ⟨[(1, .v (Enc.int .i64) (ar .add .i64 (1 : Int) v2)), (9, .v (Enc.sl eBlk) v4), (10, .v (Enc.sl eBlk) x28), (12, .ptr 122 0), (14, .ptr 125 0), (16, .v (Enc.sl (Enc.int .i64)) v46.1), (19, .v (Enc.int .i64) s137.1), (20, .v (Enc.int .i64) s137.2), (152, .v Enc.bool (!v220))], [(122, .box 71 [.v (Enc.sl (Enc.sl (Enc.int .u64))) v35.1]), (125, .box 71 [.v (Enc.sl (Enc.sl (Enc.int .u64))) v37.1])]⟩) 17 [0, 0, 3, 7, 0, 0, 48, 112, 255, 511, 1023, 1023, 1023, 1023, 16383, 32767, 65535] mixed (by exact (.cons (.none rfl) (JO.move rfl) rfl rfl (.cons (.none rfl) (JO.move rfl) rfl rfl (.cons (.none rfl) (JO.idx hz217 rfl rfl Try.runUnderlying22 Try.sizeOf24) rfl rfl (.cons (.none rfl) (JO.loadPst rfl Try.isAgg24 Try.sizeOf24) rfl rfl (.cons (.none rfl) (JO.move rfl) rfl rfl (.cons (.none rfl) (JO.move rfl) rfl rfl (.cons (.none rfl) (JO.idx hz218 rfl rfl Try.runUnderlying22 Try.sizeOf24) rfl rfl (.cons (.none rfl) (JO.loadPst rfl Try.isAgg24 Try.sizeOf24) rfl rfl (.cons (.none rfl) (JO.neV eq24 rfl rfl Try.eqGuardType24 rfl rfl) rfl rfl (.cons (.none rfl) (JO.move rfl) rfl rfl (.cons (GK.met 145 rfl rfl rfl hc219) (JO.loadAll rfl rfl (.one1 (.one _ _)) Try.isAgg71 Try.sizeOf71) rfl rfl (.cons (GK.met 145 rfl rfl rfl hc219) (JO.loadAll rfl rfl (.one1 (.one _ _)) Try.isAgg71 Try.sizeOf71) rfl rfl (.cons (GK.met 145 rfl rfl rfl hc219) (JO.move rfl) rfl rfl (.cons (GK.met 145 rfl rfl rfl hc219) (JO.move rfl) rfl rfl (.cons (GK.met 145 rfl rfl rfl hc219) (JO.call0 (con_top_clash hv220) Try.call59 (.cons (.dir rfl) (.cons (.dir rfl) (.cons (.dir rfl) (.cons (.dir rfl) .nil))))) rfl rfl (.cons (GK.met 145 rfl rfl rfl hc219) (JO.not rfl) rfl rfl (.cons (.none rfl) (JO.pT hc219 rfl rfl) rfl rfl .nil)))))))))))))))))) (by exact (J.fin (Sw.Sub.mk id (.cons rfl (.of_eq rfl) (.cons rfl (.of_eq rfl) (.cons rfl (.of_eq rfl) (.cons rfl (.of_eq rfl) (.cons rfl (.of_eq rfl) (.cons rfl (.of_eq rfl) (.cons rfl (.of_eq rfl) (.cons rfl (.of_eq rfl) (.cons rfl (.of_eq rfl) .nil))))))))) (.box rfl (.cons (.of_eq rfl) .nil) (.box rfl (.cons (.of_eq rfl) .nil) .nil)) rfl))) rfl (by decide +kernel) (by decide +kernel) (by decide +kernel) (by kernel_rfl) hk
                · replace hx := cond_f hc219 hx
                  obtain rfl := Option.some.inj hx
                  exact W.dr2 (σ' := ⟨[(1, .v (Enc.int .i64) (ar .add .i64 (1 : Int) v2)), (9, .v (Enc.sl eBlk) v4), (10, .v (Enc.sl eBlk) x28), (12, .ptr 122 0), (14, .ptr 125 0), (16, .v (Enc.sl (Enc.int .i64)) v46.1), (19, .v (Enc.int .i64) s137.1), (20, .v (Enc.int .i64) s137.2), (152, .v Enc.bool false)], [(122, .box 71 [.v (Enc.sl (Enc.sl (Enc.int .u64))) v35.1]), (125, .box 71 [.v (Enc.sl (Enc.sl (Enc.int .u64))) v37.1])]⟩) 17 [0, 0, 3, 7, 0, 0, 48, 112, 255, 511, 1023, 1023, 1023, 1023, 16383, 32767, 65535] mixed (by exact (.cons (.none rfl) (JO.move rfl) rfl rfl (.cons (.none rfl) (JO.move rfl) rfl rfl (.cons (.none rfl) (JO.idx hz217 rfl rfl Try.runUnderlying22 Try.sizeOf24) rfl rfl (.cons (.none rfl) (JO.loadPst rfl Try.isAgg24 Try.sizeOf24) rfl rfl (.cons (.none rfl) (JO.move rfl) rfl rfl (.cons (.none rfl) (JO.move rfl) rfl rfl (.cons (.none rfl) (JO.idx hz218 rfl rfl Try.runUnderlying22 Try.sizeOf24) rfl rfl (.cons (.none rfl) (JO.loadPst rfl Try.isAgg24 Try.sizeOf24) rfl rfl (.cons (.none rfl) (JO.neV eq24 rfl rfl Try.eqGuardType24 rfl rfl) rfl rfl (.cons (.none rfl) (JO.move rfl) rfl rfl (.left (GK.unmet 145 rfl rfl rfl hc219) rfl (.left (GK.unmet 145 rfl rfl rfl hc219) rfl (.left (GK.unmet 145 rfl rfl rfl hc219) rfl (.left (GK.unmet 145 rfl rfl rfl hc219) rfl (.left (GK.unmet 145 rfl rfl rfl hc219) rfl (.left (GK.unmet 145 rfl rfl rfl hc219) rfl (.cons (.none rfl) (JO.pF hc219 rfl rfl) rfl rfl .nil)))))))))))))))))) (by exact (J.fin (Sw.Sub.mk id (.cons rfl (.of_eq rfl) (.cons rfl (.of_eq rfl) (.cons rfl (.of_eq rfl) (.cons rfl (.of_eq rfl) (.cons rfl (.of_eq rfl) (.cons rfl (.of_eq rfl) (.cons rfl (.of_eq rfl) (.cons rfl (.of_eq rfl) (.cons rfl (.of_eq rfl) .nil))))))))) (.box rfl (.cons (.of_eq rfl) .nil) (.box rfl (.cons (.of_eq rfl) .nil) .nil)) rfl))) rfl (by decide +kernel) (by decide +kernel) (by decide +kernel) (by kernel_rfl) hk
              rcases Bool.eq_false_or_eq_true x216 with hc221 | hc221
              · replace h := cond_t hc221 h
                refine W.condT rfl hc221 ?_
                refine W.seq ?_
                refine W.reg (σ' := ⟨[(8, .v Enc.bool false)], []⟩) (J.cons (.none rfl) (JO.assign rfl) rfl rfl (J.fin (Sw.Sub.mk id (.cons rfl (.of_eq rfl) .nil) .nil rfl))) ?_
                refine W.ret ?_
                refine XQ.bret ?_
                obtain rfl := Option.some.inj h
                refine XQ.lret fun ho => ?_
                obtain rfl := hr179 _ ho
                exact XQ.sub (σ' := ⟨[(8, .v Enc.bool false)], []⟩) (Sw.Sub.mk id (.cons rfl (.of_eq rfl) .nil) .nil rfl) (XQ.ret1 hF noR rfl (RV.tmp rfl) .nil rfl)
              · replace h := cond_f hc221 h
                refine W.condF rfl hc221 ?_
                refine W.skip ?_
                exact W.bfall h (Sw.Sub.mk id (.cons rfl (.of_eq rfl) (.cons rfl (.of_eq rfl) (.cons rfl (.of_eq rfl) (.cons rfl (.of_eq rfl) (.cons rfl (.of_eq rfl) (.cons rfl (.of_eq rfl) (.cons rfl (.of_eq rfl) (.cons rfl (.of_eq rfl) .nil)))))))) (.box rfl (.cons (.of_eq rfl) .nil) (.box rfl (.cons (.of_eq rfl) .nil) .nil)) rfl)
          · replace h := cond_f hc181 h
            refine W.condF rfl hc181 ?_
            refine W.exit ?_
            obtain rfl := Option.some.inj h
            exact XQ.brk (Sw.Sub.mk id (.cons rfl (.of_eq rfl) (.cons rfl (.of_eq rfl) .nil)) .nil rfl)
    intro s20 r27 h
    refine W.seq ?_
    refine W.seq ?_
    obtain ⟨v29, hv29, h⟩ := bind_e h
    refine W.reg (σ' := ⟨[(0, .v (Enc.sl (Enc.int .i64)) a0), (1, .v (Enc.int .i64) (ar .add .i64 (1 : Int) v2)), (3, .v (Enc.int .i64) a3), (9, .v (Enc.sl eBlk) v4), (10, .ref 104000), (11, .v (Enc.int .i64) s20.1), (37, .v Enc.bool (cm .lss s20.1 v29))], [(104000, .arr 24 eBlk s20.2)]⟩) (J.cons (.none rfl) (JO.move rfl) rfl rfl (J.cons (.none rfl) (JO.move rfl) rfl rfl (J.cons (.none rfl) (JO.call0 (con_ref_Pick hv29) Try.call36 (.cons (.dir rfl) (.cons (.dir rfl) .nil))) rfl rfl (J.cons (.none rfl) (JO.cmp rfl rfl rfl) rfl rfl (J.fin (Sw.Sub.mk id (.cons rfl (.of_eq rfl) (.cons rfl (.of_eq rfl) (.cons rfl (.of_eq rfl) (.cons rfl (.of_eq rfl) (.cons rfl (.of_eq rfl) (.cons rfl (.of_eq rfl) (.cons rfl (.of_eq rfl) .nil))))))) (.arr rfl .nil) rfl)))))) ?_
    rcases Bool.eq_false_or_eq_true (cm .lss s20.1 v29) with hc30 | hc30
    · replace h := cond_t hc30 h
      refine W.condT rfl hc30 ?_
      refine W.skip ?_
      refine W.seq ?_
      refine W.block ?_
      obtain ⟨v31, hv31, h⟩ := bind_e h
      obtain ⟨v32, hv32, h⟩ := bind_e h
      obtain ⟨v33, hv33, h⟩ := bind_e h
      obtain ⟨z34, hz34, h⟩ := bind_e h
      refine W.reg (σ' := ⟨[(0, .v (Enc.sl (Enc.int .i64)) a0), (1, .v (Enc.int .i64) (ar .add .i64 (1 : Int) v2)), (3, .v (Enc.int .i64) a3), (9, .v (Enc.sl eBlk) v4), (10, .ref 104000), (11, .v (Enc.int .i64) s20.1)], [(104000, .arr 24 eBlk (List.set s20.2 (Int.toNat v32) v33))]⟩) (J.cons (.none rfl) (JO.move rfl) rfl rfl (J.cons (.none rfl) (JO.move rfl) rfl rfl (J.cons (.none rfl) (JO.move rfl) rfl rfl (J.cons (.none rfl) (JO.arith rfl rfl rfl) rfl rfl (J.cons (.none rfl) (JO.call0 (con_ref_Raw hv31) Try.call58 (.cons (.dir rfl) (.cons (.dir rfl) .nil))) rfl rfl (J.cons (.none rfl) (JO.move rfl) rfl rfl (J.cons (.none rfl) (JO.call0 (con_ref_Pick hv32) Try.call36 (.cons (.dir rfl) (.cons (.dir rfl) .nil))) rfl rfl (J.cons (.none rfl) (JO.move rfl) rfl rfl (J.cons (.none rfl) (JO.move rfl) rfl rfl (J.cons (.none rfl) (JO.arith rfl rfl rfl) rfl rfl (J.cons (.none rfl) (JO.call0 (con_ref_BlockFrom hv33) Try.call57 (.cons (.dir rfl) (.cons (.dir rfl) .nil))) rfl rfl (J.cons (.none rfl) (JO.idxR hz34 rfl rfl rfl Try.runUnderlying22 Try.sizeOf24) rfl rfl (J.mut (.none rfl) (JM.storeEl (idx_some hz34).2.2 rfl rfl rfl Try.sizeOf24) (J.fin (Sw.Sub.mk id (.cons rfl (.of_eq rfl) (.cons rfl (.of_eq rfl) (.cons rfl (.of_eq rfl) (.cons rfl (.of_eq rfl) (.cons rfl (.of_eq rfl) (.cons rfl (.of_eq rfl) .nil)))))) (.arr rfl .nil) rfl))))))))))))))) ?_
      refine W.fall ?_
      refine W.reg (σ' := ⟨[(0, .v (Enc.sl (Enc.int .i64)) a0), (1, .v (Enc.int .i64) (ar .add .i64 (1 : Int) v2)), (3, .v (Enc.int .i64) a3), (9, .v (Enc.sl eBlk) v4), (10, .ref 104000), (11, .v (Enc.int .i64) (ar .add .i64 s20.1 (1 : Int)))], [(104000, .arr 24 eBlk (List.set s20.2 (Int.toNat v32) v33))]⟩) (J.cons (.none rfl) (JO.move rfl) rfl rfl (J.cons (.none rfl) (JO.arith rfl rfl rfl) rfl rfl (J.cons (.none rfl) (JO.assign rfl) rfl rfl (J.fin (Sw.Sub.mk id (.cons rfl (.of_eq rfl) (.cons rfl (.of_eq rfl) (.cons rfl (.of_eq rfl) (.cons rfl (.of_eq rfl) (.cons rfl (.of_eq rfl) (.cons rfl (.of_eq rfl) .nil)))))) (.arr rfl .nil) rfl))))) ?_
      obtain rfl := Option.some.inj h
      exact W.next (Sw.Sub.mk id (.cons rfl (.of_eq rfl) (.cons rfl (.of_eq rfl) (.cons rfl (.of_eq rfl) (.cons rfl (.of_eq rfl) (.cons rfl (.of_eq rfl) (.cons rfl (.of_eq rfl) .nil)))))) (.arr rfl .nil) rfl)
    · replace h := cond_f hc30 h
      refine W.condF rfl hc30 ?_
      refine W.exit ?_
      obtain rfl := Option.some.inj h
      exact XQ.brk (Sw.Sub.mk id (.cons rfl (.of_eq rfl) (.cons rfl (.of_eq rfl) (.cons rfl (.of_eq rfl) .nil))) (.arr rfl .nil) rfl)
end Go.Cn
