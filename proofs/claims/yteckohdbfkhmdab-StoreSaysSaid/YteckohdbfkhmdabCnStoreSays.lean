/- The functions that this law reaches come to what their models come to. Conditions: none. -/
import Derived.Test.YteckohdbfkhmdabCnAStoreSays
set_option linter.unusedVariables false
set_option linter.unusedSimpArgs false
namespace Go.Cn
open Go Go.Sw Go.Mo Go.Proofs
set_option maxRecDepth 100000 in
set_option maxHeartbeats 4000000 in
theorem con_law_StoreSays {a0 : Int} {a1 : (List (Int × Blk))} {a2 : (List (Int × Blk))} {a3 : Int} {a4 : Int} {r : Bool} (h : m_law_StoreSays a0 a1 a2 a3 a4 = some r) :
  Con Try.prog 10 [.v Q0 a0, .v Q2 a1, .v Q2 a2, .v Q0 a3, .v Q0 a4] (.v Enc.bool r) [] := by
 refine Con.of Try.func10 rfl Try.ntmps10 rfl ?_
 intro S w hF
 unfold m_law_StoreSays at h
 refine W.seq ?_
 refine W.reg (σ' := ⟨[(0, .v Q0 a0), (1, .v Q2 a1), (2, .v Q2 a2), (3, .v Q0 a3), (4, .v Q0 a4)], []⟩) (J.k (JO.assign rfl) (J.fin (Sw.Sub.mk id (.c rfl (.c rfl (.c rfl (.c rfl (.c rfl .nil))))) .nil rfl))) ?_
 refine W.seq ?_
 refine W.seq ?_
 obtain ⟨x2, hx, h⟩ := bind_e h
 refine W.reg (σ' := ⟨[(0, .v Q0 a0), (1, .v Q2 a1), (2, .v Q2 a2), (3, .v Q0 a3), (4, .v Q0 a4), (38, .v Enc.bool x2)], []⟩) ?_ ?_
 ·rcases Bool.eq_false_or_eq_true (cm .gtr (a1.length : Int) (40 : Int)) with hc3 | hc3
  ·replace hx := cond_t hc3 hx
   obtain rfl := Option.some.inj hx
   exact (J.mv rfl (J.k (JO.len rfl Try.runUnderlying76) (J.k (JO.cmp rfl rfl rfl) (J.mv rfl (J.u 34 hc3 (J.u 34 hc3 (J.u 34 hc3 (J.k (JO.pT hc3 rfl rfl) (J.fin (Sw.Sub.mk id (.c rfl (.c rfl (.c rfl (.c rfl (.c rfl (.c rfl .nil)))))) .nil rfl))))))))))
  ·replace hx := cond_f hc3 hx
   obtain rfl := Option.some.inj hx
   exact (J.mv rfl (J.k (JO.len rfl Try.runUnderlying76) (J.k (JO.cmp rfl rfl rfl) (J.mv rfl (J.m 34 hc3 (JO.move rfl) (J.m 34 hc3 (JO.len rfl Try.runUnderlying76) (J.m 34 hc3 (JO.cmp rfl rfl rfl) (J.k (JO.pF hc3 rfl rfl) (J.fin (Sw.Sub.mk id (.c rfl (.c rfl (.c rfl (.c rfl (.c rfl (.c rfl .nil)))))) .nil rfl))))))))))
 rcases Bool.eq_false_or_eq_true x2 with hc4 | hc4
 ·replace h := cond_t hc4 h
  refine W.condT rfl hc4 ?_
  refine W.seq ?_
  refine W.reg (σ' := ⟨[(10, .v Enc.bool true)], []⟩) (J.k (JO.assign rfl) (J.fin (Sw.Sub.mk id (.c rfl .nil) .nil rfl))) ?_
  refine W.ret ?_
  obtain rfl := Option.some.inj h
  exact XQ.sub (σ' := ⟨[(10, .v Enc.bool true)], []⟩) (Sw.Sub.mk id (.c rfl .nil) .nil rfl) (XQ.ret1 hF noR rfl (RV.tmp rfl) .nil rfl)
 ·replace h := cond_f hc4 h
  refine W.condF rfl hc4 ?_
  refine W.skip ?_
  refine W.seq ?_
  obtain ⟨v5, hv5, h⟩ := bind_e h
  refine W.reg (σ' := ⟨[(0, .v Q0 a0), (1, .v Q2 a1), (2, .v Q2 a2), (3, .v Q0 a3), (4, .v Q0 a4), (11, .v Q0 v5.1), (12, .v (Enc.err ET) v5.2)], []⟩) (J.mv rfl (J.k (JO.call0 (con_store_Need hv5) Try.call49 (.cons (.dir rfl) .nil)) (J.mv rfl (J.k (JO.extract rfl rfl) (J.k (JO.extract rfl rfl) (J.k (JO.assign rfl) (J.k (JO.assign rfl) (J.fin (Sw.Sub.mk id (.c rfl (.c rfl (.c rfl (.c rfl (.c rfl (.c rfl (.c rfl .nil))))))) .nil rfl))))))))) ?_
  refine W.seq ?_
  obtain ⟨v6, hv6, h⟩ := bind_e h
  refine W.reg (σ' := ⟨[(0, .v Q0 a0), (1, .v Q2 a1), (2, .v Q2 a2), (3, .v Q0 a3), (4, .v Q0 a4), (11, .v Q0 v5.1), (12, .v (Enc.err ET) v5.2), (13, .ptr 103 0), (14, .v (Enc.err ET) v6.2)], [(103, .box 99 [.v Q4 v6.1.1, .v Q2 v6.1.2.1, .v Q0 v6.1.2.2])]⟩) (J.mv rfl (J.k (JO.call0 (con_store_Format hv6) Try.call50 (.cons (.dir rfl) .nil)) (J.mv rfl (J.k (JO.extract rfl rfl) (J.k (JO.extract rfl rfl) (J.k (JO.alloc 103 Try.zeroValue99 rfl (.cons (Z.sl eBlk) (.cons (Z.sl (Enc.pr Q0 eBlk)) (.cons (Z.int .i64) .nil))) rfl) (J.t (JM.storeAll rfl rfl rfl rfl (.prm (.one _ _) (.prm (.one _ _) (.one _ _))) Try.sizeOf99) (J.k (JO.assign rfl) (J.fin (Sw.Sub.mk id (.c rfl (.c rfl (.c rfl (.c rfl (.c rfl (.c rfl (.c rfl (.c rfl (.c rfl .nil))))))))) (.box rfl (.c rfl (.c rfl (.c rfl .nil))) .nil) rfl)))))))))) ?_
  refine W.seq ?_
  refine W.seq ?_
  obtain ⟨x8, hx, h⟩ := bind_e h
  refine W.reg (σ' := ⟨[(0, .v Q0 a0), (1, .v Q2 a1), (2, .v Q2 a2), (3, .v Q0 a3), (4, .v Q0 a4), (11, .v Q0 v5.1), (12, .v (Enc.err ET) v5.2), (13, .ptr 103 0), (14, .v (Enc.err ET) v6.2), (54, .v Enc.bool x8)], [(103, .box 99 [.v Q4 v6.1.1, .v Q2 v6.1.2.1, .v Q0 v6.1.2.2])]⟩) ?_ ?_
  ·rcases Bool.eq_false_or_eq_true (cm .lss a0 (1 : Int)) with hc9 | hc9
   ·replace hx := cond_t hc9 hx
    obtain rfl := Option.some.inj hx
    exact (J.mv rfl (J.k (JO.cmp rfl rfl rfl) (J.mv rfl (J.u 51 hc9 (J.u 51 hc9 (J.k (JO.pT hc9 rfl rfl) (J.fin (Sw.Sub.mk id (.c rfl (.c rfl (.c rfl (.c rfl (.c rfl (.c rfl (.c rfl (.c rfl (.c rfl (.c rfl .nil)))))))))) (.box rfl (.c rfl (.c rfl (.c rfl .nil))) .nil) rfl))))))))
   ·replace hx := cond_f hc9 hx
    obtain rfl := Option.some.inj hx
    exact (J.mv rfl (J.k (JO.cmp rfl rfl rfl) (J.mv rfl (J.m 51 hc9 (JO.move rfl) (J.m 51 hc9 (JO.cmp rfl rfl rfl) (J.k (JO.pF hc9 rfl rfl) (J.fin (Sw.Sub.mk id (.c rfl (.c rfl (.c rfl (.c rfl (.c rfl (.c rfl (.c rfl (.c rfl (.c rfl (.c rfl .nil)))))))))) (.box rfl (.c rfl (.c rfl (.c rfl .nil))) .nil) rfl))))))))
  rcases Bool.eq_false_or_eq_true x8 with hc10 | hc10
  ·replace h := cond_t hc10 h
   refine W.condT rfl hc10 ?_
   refine W.seq ?_
   obtain ⟨v11, hv11, h⟩ := bind_e h
   obtain ⟨v12, hv12, h⟩ := bind_e h
   rcases hz13 : v12.1 with _ | z13
   ·replace h := ocase_n hz13 h
    refine W.reg (σ' := ⟨[(11, .v Q0 v5.1), (12, .v (Enc.err ET) v5.2), (13, .ptr 103 0), (14, .v (Enc.err ET) v6.2), (16, .v (Enc.err ET) v12.2)], [(103, .box 99 [.v Q4 v6.1.1, .v Q2 v6.1.2.1, .v Q0 v6.1.2.2])]⟩) (J.k (JO.mkR 105 hv11 rfl rfl Try.runUnderlying26 Try.typeInfo56 Try.sizeOf56 rfl rfl (Z.arr 8 (Z.int .u8))) (J.k (JO.build built99 (.cons (Z.sl eBlk) (.cons (Z.sl (Enc.pr Q0 eBlk)) (.cons (Z.int .i64) .nil))) (.cons rfl (.dir rfl) rfl rfl rfl rfl (.cons rfl (.dir rfl) rfl rfl rfl rfl .nil))) (J.mv rfl (J.sub (σ' := ⟨[(0, .v Q0 a0), (1, .v Q2 a1), (2, .v Q2 a2), (3, .v Q0 a3), (4, .v Q0 a4), (11, .v Q0 v5.1), (12, .v (Enc.err ET) v5.2), (13, .ptr 103 0), (14, .v (Enc.err ET) v6.2), (54, .v Enc.bool x8), (56, .v Q4 v11), (57, .agg [.v Q4 v11, .v Q2 ([] : (List (Int × Blk))), .v Q0 (-1 : Int)]), (58, .v Q0 a0)], [(103, .box 99 [.v Q4 v6.1.1, .v Q2 v6.1.2.1, .v Q0 v6.1.2.2])]⟩) (Sw.Sub.mk id (.c rfl (.c rfl (.c rfl (.c rfl (.c rfl (.c rfl (.c rfl (.c rfl (.c rfl (.c rfl (.cons rfl (.frz rfl rfl) (.cons rfl (.agg (.cons (.frz rfl rfl) (.c rfl (.c rfl .nil)))) (.c rfl .nil))))))))))))) (.box rfl (.c rfl (.c rfl (.c rfl .nil))) .nil) rfl) (J.k (JO.call0 (con_store_Open_n hz13 hv12) Try.call51 (.cons (.agg rfl (.same (.same (.same .nil))) (.prm (.one _ _) (.prm (.one _ _) (.one _ _))) rfl) (.cons (.dir rfl) .nil))) (J.mv rfl (J.k (JO.extract rfl rfl) (J.k (JO.extract rfl rfl) (J.k (JO.assign rfl) (J.k (JO.assign rfl) (J.fin (Sw.Sub.mk id (.c rfl (.c rfl (.c rfl (.c rfl (.c rfl .nil))))) (.box rfl (.c rfl (.c rfl (.c rfl .nil))) .nil) rfl)))))))))))) ?_
    refine W.seq ?_
    obtain ⟨x19, hx, h⟩ := bind_e h
    refine W.reg (σ' := ⟨[(10, .v Enc.bool x19)], []⟩) ?_ ?_
    ·rcases Bool.eq_false_or_eq_true (v5.2 == (some (1 : Int))) with hc20 | hc20
     ·replace hx := cond_t hc20 hx
      rcases Bool.eq_false_or_eq_true (v6.2 == (some (1 : Int))) with hc21 | hc21
      ·replace hx := cond_t hc21 hx
       rcases Bool.eq_false_or_eq_true (v12.2 == (some (1 : Int))) with hc22 | hc22
       ·replace hx := cond_t hc22 hx
        rcases Bool.eq_false_or_eq_true (cm .eql v5.1 (0 : Int)) with hc23 | hc23
        ·replace hx := cond_t hc23 hx
         obtain ⟨v24, hv24, hx⟩ := bind_e hx
         obtain rfl := Option.some.inj hx
         exact (J.mv rfl (J.k (JO.mkErr Try.runUnderlying29 rfl) (J.k (JO.errEq2 Try.runUnderlying33 Try.runUnderlying29 Try.typeInfo29 rfl rfl rfl) (J.mv rfl (J.m 65 hc20 (JO.move rfl) (J.m 65 hc20 (JO.mkErr Try.runUnderlying29 rfl) (J.m 65 hc20 (JO.errEq2 Try.runUnderlying33 Try.runUnderlying29 Try.typeInfo29 rfl rfl rfl) (J.k (JO.pT hc20 rfl rfl) (J.mv rfl (J.m 70 hc21 (JO.move rfl) (J.m 70 hc21 (JO.mkErr Try.runUnderlying29 rfl) (J.m 70 hc21 (JO.errEq2 Try.runUnderlying33 Try.runUnderlying29 Try.typeInfo29 rfl rfl rfl) (J.k (JO.pT hc21 rfl rfl) (J.mv rfl (J.m 75 hc22 (JO.move rfl) (J.m 75 hc22 (JO.cmp rfl rfl rfl) (J.k (JO.pT hc22 rfl rfl) (J.mv rfl (J.m 79 hc23 (JO.loadAll rfl rfl (.prm (.one _ _) (.prm (.one _ _) (.one _ _))) Try.isAgg99 Try.sizeOf99) (J.m 79 hc23 (JO.build built99 (.cons (Z.sl eBlk) (.cons (Z.sl (Enc.pr Q0 eBlk)) (.cons (Z.int .i64) .nil))) .nil) (J.m 79 hc23 (JO.call0 (con_ref_SameDisk hv24) Try.call52 (.cons (.dir rfl) (.cons (.agg rfl (.same (.same (.same .nil))) (.prm (.one _ _) (.prm (.one _ _) (.one _ _))) rfl) .nil))) (J.k (JO.pT hc23 rfl rfl) (J.k (JO.assign rfl) (J.fin (Sw.Sub.mk id (.c rfl .nil) .nil rfl)))))))))))))))))))))))))
        ·replace hx := cond_f hc23 hx
         obtain rfl := Option.some.inj hx
         exact (J.mv rfl (J.k (JO.mkErr Try.runUnderlying29 rfl) (J.k (JO.errEq2 Try.runUnderlying33 Try.runUnderlying29 Try.typeInfo29 rfl rfl rfl) (J.mv rfl (J.m 65 hc20 (JO.move rfl) (J.m 65 hc20 (JO.mkErr Try.runUnderlying29 rfl) (J.m 65 hc20 (JO.errEq2 Try.runUnderlying33 Try.runUnderlying29 Try.typeInfo29 rfl rfl rfl) (J.k (JO.pT hc20 rfl rfl) (J.mv rfl (J.m 70 hc21 (JO.move rfl) (J.m 70 hc21 (JO.mkErr Try.runUnderlying29 rfl) (J.m 70 hc21 (JO.errEq2 Try.runUnderlying33 Try.runUnderlying29 Try.typeInfo29 rfl rfl rfl) (J.k (JO.pT hc21 rfl rfl) (J.mv rfl (J.m 75 hc22 (JO.move rfl) (J.m 75 hc22 (JO.cmp rfl rfl rfl) (J.k (JO.pT hc22 rfl rfl) (J.mv rfl (J.u 79 hc23 (J.u 79 hc23 (J.u 79 hc23 (J.k (JO.pF hc23 rfl rfl) (J.k (JO.assign rfl) (J.fin (Sw.Sub.mk id (.c rfl .nil) .nil rfl)))))))))))))))))))))))))
       ·replace hx := cond_f hc22 hx
        obtain rfl := Option.some.inj hx
        exact (J.mv rfl (J.k (JO.mkErr Try.runUnderlying29 rfl) (J.k (JO.errEq2 Try.runUnderlying33 Try.runUnderlying29 Try.typeInfo29 rfl rfl rfl) (J.mv rfl (J.m 65 hc20 (JO.move rfl) (J.m 65 hc20 (JO.mkErr Try.runUnderlying29 rfl) (J.m 65 hc20 (JO.errEq2 Try.runUnderlying33 Try.runUnderlying29 Try.typeInfo29 rfl rfl rfl) (J.k (JO.pT hc20 rfl rfl) (J.mv rfl (J.m 70 hc21 (JO.move rfl) (J.m 70 hc21 (JO.mkErr Try.runUnderlying29 rfl) (J.m 70 hc21 (JO.errEq2 Try.runUnderlying33 Try.runUnderlying29 Try.typeInfo29 rfl rfl rfl) (J.k (JO.pT hc21 rfl rfl) (J.mv rfl (J.u 75 hc22 (J.u 75 hc22 (J.k (JO.pF hc22 rfl rfl) (J.mv rfl (J.u 79 rfl (J.u 79 rfl (J.u 79 rfl (J.k (JO.pF rfl rfl rfl) (J.k (JO.assign rfl) (J.fin (Sw.Sub.mk id (.c rfl .nil) .nil rfl)))))))))))))))))))))))))
      ·replace hx := cond_f hc21 hx
       obtain rfl := Option.some.inj hx
       exact (J.mv rfl (J.k (JO.mkErr Try.runUnderlying29 rfl) (J.k (JO.errEq2 Try.runUnderlying33 Try.runUnderlying29 Try.typeInfo29 rfl rfl rfl) (J.mv rfl (J.m 65 hc20 (JO.move rfl) (J.m 65 hc20 (JO.mkErr Try.runUnderlying29 rfl) (J.m 65 hc20 (JO.errEq2 Try.runUnderlying33 Try.runUnderlying29 Try.typeInfo29 rfl rfl rfl) (J.k (JO.pT hc20 rfl rfl) (J.mv rfl (J.u 70 hc21 (J.u 70 hc21 (J.u 70 hc21 (J.k (JO.pF hc21 rfl rfl) (J.mv rfl (J.u 75 rfl (J.u 75 rfl (J.k (JO.pF rfl rfl rfl) (J.mv rfl (J.u 79 rfl (J.u 79 rfl (J.u 79 rfl (J.k (JO.pF rfl rfl rfl) (J.k (JO.assign rfl) (J.fin (Sw.Sub.mk id (.c rfl .nil) .nil rfl)))))))))))))))))))))))))
     ·replace hx := cond_f hc20 hx
      obtain rfl := Option.some.inj hx
      exact (J.mv rfl (J.k (JO.mkErr Try.runUnderlying29 rfl) (J.k (JO.errEq2 Try.runUnderlying33 Try.runUnderlying29 Try.typeInfo29 rfl rfl rfl) (J.mv rfl (J.u 65 hc20 (J.u 65 hc20 (J.u 65 hc20 (J.k (JO.pF hc20 rfl rfl) (J.mv rfl (J.u 70 rfl (J.u 70 rfl (J.u 70 rfl (J.k (JO.pF rfl rfl rfl) (J.mv rfl (J.u 75 rfl (J.u 75 rfl (J.k (JO.pF rfl rfl rfl) (J.mv rfl (J.u 79 rfl (J.u 79 rfl (J.u 79 rfl (J.k (JO.pF rfl rfl rfl) (J.k (JO.assign rfl) (J.fin (Sw.Sub.mk id (.c rfl .nil) .nil rfl)))))))))))))))))))))))))
    refine W.ret ?_
    obtain rfl := Option.some.inj h
    exact XQ.sub (σ' := ⟨[(10, .v Enc.bool x19)], []⟩) (Sw.Sub.mk id (.c rfl .nil) .nil rfl) (XQ.ret1 hF noR rfl (RV.tmp rfl) .nil rfl)
   ·replace h := ocase_s hz13 h
    refine W.reg (σ' := ⟨[(11, .v Q0 v5.1), (12, .v (Enc.err ET) v5.2), (13, .ptr 103 0), (14, .v (Enc.err ET) v6.2), (16, .v (Enc.err ET) v12.2)], [(103, .box 99 [.v Q4 v6.1.1, .v Q2 v6.1.2.1, .v Q0 v6.1.2.2])]⟩) (J.k (JO.mkR 110 hv11 rfl rfl Try.runUnderlying26 Try.typeInfo56 Try.sizeOf56 rfl rfl (Z.arr 8 (Z.int .u8))) (J.k (JO.build built99 (.cons (Z.sl eBlk) (.cons (Z.sl (Enc.pr Q0 eBlk)) (.cons (Z.int .i64) .nil))) (.cons rfl (.dir rfl) rfl rfl rfl rfl (.cons rfl (.dir rfl) rfl rfl rfl rfl .nil))) (J.mv rfl (J.sub (σ' := ⟨[(0, .v Q0 a0), (1, .v Q2 a1), (2, .v Q2 a2), (3, .v Q0 a3), (4, .v Q0 a4), (11, .v Q0 v5.1), (12, .v (Enc.err ET) v5.2), (13, .ptr 103 0), (14, .v (Enc.err ET) v6.2), (54, .v Enc.bool x8), (56, .v Q4 v11), (57, .agg [.v Q4 v11, .v Q2 ([] : (List (Int × Blk))), .v Q0 (-1 : Int)]), (58, .v Q0 a0)], [(103, .box 99 [.v Q4 v6.1.1, .v Q2 v6.1.2.1, .v Q0 v6.1.2.2])]⟩) (Sw.Sub.mk id (.c rfl (.c rfl (.c rfl (.c rfl (.c rfl (.c rfl (.c rfl (.c rfl (.c rfl (.c rfl (.cons rfl (.frz rfl rfl) (.cons rfl (.agg (.cons (.frz rfl rfl) (.c rfl (.c rfl .nil)))) (.c rfl .nil))))))))))))) (.box rfl (.c rfl (.c rfl (.c rfl .nil))) .nil) rfl) (J.k (JO.call 112000 (con_store_Open_s hz13 hv12) Try.call51 (.cons (.agg rfl (.same (.same (.same .nil))) (.prm (.one _ _) (.prm (.one _ _) (.one _ _))) rfl) (.cons (.dir rfl) .nil)) rfl) (J.mv rfl (J.k (JO.extract rfl rfl) (J.k (JO.extract rfl rfl) (J.k (JO.assign rfl) (J.k (JO.assign rfl) (J.fin (Sw.Sub.mk id (.c rfl (.c rfl (.c rfl (.c rfl (.c rfl .nil))))) (.box rfl (.c rfl (.c rfl (.c rfl .nil))) .nil) rfl)))))))))))) ?_
    refine W.seq ?_
    obtain ⟨x30, hx, h⟩ := bind_e h
    refine W.reg (σ' := ⟨[(10, .v Enc.bool x30)], []⟩) ?_ ?_
    ·rcases Bool.eq_false_or_eq_true (v5.2 == (some (1 : Int))) with hc31 | hc31
     ·replace hx := cond_t hc31 hx
      rcases Bool.eq_false_or_eq_true (v6.2 == (some (1 : Int))) with hc32 | hc32
      ·replace hx := cond_t hc32 hx
       rcases Bool.eq_false_or_eq_true (v12.2 == (some (1 : Int))) with hc33 | hc33
       ·replace hx := cond_t hc33 hx
        rcases Bool.eq_false_or_eq_true (cm .eql v5.1 (0 : Int)) with hc34 | hc34
        ·replace hx := cond_t hc34 hx
         obtain ⟨v35, hv35, hx⟩ := bind_e hx
         obtain rfl := Option.some.inj hx
         exact (J.mv rfl (J.k (JO.mkErr Try.runUnderlying29 rfl) (J.k (JO.errEq2 Try.runUnderlying33 Try.runUnderlying29 Try.typeInfo29 rfl rfl rfl) (J.mv rfl (J.m 65 hc31 (JO.move rfl) (J.m 65 hc31 (JO.mkErr Try.runUnderlying29 rfl) (J.m 65 hc31 (JO.errEq2 Try.runUnderlying33 Try.runUnderlying29 Try.typeInfo29 rfl rfl rfl) (J.k (JO.pT hc31 rfl rfl) (J.mv rfl (J.m 70 hc32 (JO.move rfl) (J.m 70 hc32 (JO.mkErr Try.runUnderlying29 rfl) (J.m 70 hc32 (JO.errEq2 Try.runUnderlying33 Try.runUnderlying29 Try.typeInfo29 rfl rfl rfl) (J.k (JO.pT hc32 rfl rfl) (J.mv rfl (J.m 75 hc33 (JO.move rfl) (J.m 75 hc33 (JO.cmp rfl rfl rfl) (J.k (JO.pT hc33 rfl rfl) (J.mv rfl (J.m 79 hc34 (JO.loadAll rfl rfl (.prm (.one _ _) (.prm (.one _ _) (.one _ _))) Try.isAgg99 Try.sizeOf99) (J.m 79 hc34 (JO.build built99 (.cons (Z.sl eBlk) (.cons (Z.sl (Enc.pr Q0 eBlk)) (.cons (Z.int .i64) .nil))) .nil) (J.m 79 hc34 (JO.call0 (con_ref_SameDisk hv35) Try.call52 (.cons (.dir rfl) (.cons (.agg rfl (.same (.same (.same .nil))) (.prm (.one _ _) (.prm (.one _ _) (.one _ _))) rfl) .nil))) (J.k (JO.pT hc34 rfl rfl) (J.k (JO.assign rfl) (J.fin (Sw.Sub.mk id (.c rfl .nil) .nil rfl)))))))))))))))))))))))))
        ·replace hx := cond_f hc34 hx
         obtain rfl := Option.some.inj hx
         exact (J.mv rfl (J.k (JO.mkErr Try.runUnderlying29 rfl) (J.k (JO.errEq2 Try.runUnderlying33 Try.runUnderlying29 Try.typeInfo29 rfl rfl rfl) (J.mv rfl (J.m 65 hc31 (JO.move rfl) (J.m 65 hc31 (JO.mkErr Try.runUnderlying29 rfl) (J.m 65 hc31 (JO.errEq2 Try.runUnderlying33 Try.runUnderlying29 Try.typeInfo29 rfl rfl rfl) (J.k (JO.pT hc31 rfl rfl) (J.mv rfl (J.m 70 hc32 (JO.move rfl) (J.m 70 hc32 (JO.mkErr Try.runUnderlying29 rfl) (J.m 70 hc32 (JO.errEq2 Try.runUnderlying33 Try.runUnderlying29 Try.typeInfo29 rfl rfl rfl) (J.k (JO.pT hc32 rfl rfl) (J.mv rfl (J.m 75 hc33 (JO.move rfl) (J.m 75 hc33 (JO.cmp rfl rfl rfl) (J.k (JO.pT hc33 rfl rfl) (J.mv rfl (J.u 79 hc34 (J.u 79 hc34 (J.u 79 hc34 (J.k (JO.pF hc34 rfl rfl) (J.k (JO.assign rfl) (J.fin (Sw.Sub.mk id (.c rfl .nil) .nil rfl)))))))))))))))))))))))))
       ·replace hx := cond_f hc33 hx
        obtain rfl := Option.some.inj hx
        exact (J.mv rfl (J.k (JO.mkErr Try.runUnderlying29 rfl) (J.k (JO.errEq2 Try.runUnderlying33 Try.runUnderlying29 Try.typeInfo29 rfl rfl rfl) (J.mv rfl (J.m 65 hc31 (JO.move rfl) (J.m 65 hc31 (JO.mkErr Try.runUnderlying29 rfl) (J.m 65 hc31 (JO.errEq2 Try.runUnderlying33 Try.runUnderlying29 Try.typeInfo29 rfl rfl rfl) (J.k (JO.pT hc31 rfl rfl) (J.mv rfl (J.m 70 hc32 (JO.move rfl) (J.m 70 hc32 (JO.mkErr Try.runUnderlying29 rfl) (J.m 70 hc32 (JO.errEq2 Try.runUnderlying33 Try.runUnderlying29 Try.typeInfo29 rfl rfl rfl) (J.k (JO.pT hc32 rfl rfl) (J.mv rfl (J.u 75 hc33 (J.u 75 hc33 (J.k (JO.pF hc33 rfl rfl) (J.mv rfl (J.u 79 rfl (J.u 79 rfl (J.u 79 rfl (J.k (JO.pF rfl rfl rfl) (J.k (JO.assign rfl) (J.fin (Sw.Sub.mk id (.c rfl .nil) .nil rfl)))))))))))))))))))))))))
      ·replace hx := cond_f hc32 hx
       obtain rfl := Option.some.inj hx
       exact (J.mv rfl (J.k (JO.mkErr Try.runUnderlying29 rfl) (J.k (JO.errEq2 Try.runUnderlying33 Try.runUnderlying29 Try.typeInfo29 rfl rfl rfl) (J.mv rfl (J.m 65 hc31 (JO.move rfl) (J.m 65 hc31 (JO.mkErr Try.runUnderlying29 rfl) (J.m 65 hc31 (JO.errEq2 Try.runUnderlying33 Try.runUnderlying29 Try.typeInfo29 rfl rfl rfl) (J.k (JO.pT hc31 rfl rfl) (J.mv rfl (J.u 70 hc32 (J.u 70 hc32 (J.u 70 hc32 (J.k (JO.pF hc32 rfl rfl) (J.mv rfl (J.u 75 rfl (J.u 75 rfl (J.k (JO.pF rfl rfl rfl) (J.mv rfl (J.u 79 rfl (J.u 79 rfl (J.u 79 rfl (J.k (JO.pF rfl rfl rfl) (J.k (JO.assign rfl) (J.fin (Sw.Sub.mk id (.c rfl .nil) .nil rfl)))))))))))))))))))))))))
     ·replace hx := cond_f hc31 hx
      obtain rfl := Option.some.inj hx
      exact (J.mv rfl (J.k (JO.mkErr Try.runUnderlying29 rfl) (J.k (JO.errEq2 Try.runUnderlying33 Try.runUnderlying29 Try.typeInfo29 rfl rfl rfl) (J.mv rfl (J.u 65 hc31 (J.u 65 hc31 (J.u 65 hc31 (J.k (JO.pF hc31 rfl rfl) (J.mv rfl (J.u 70 rfl (J.u 70 rfl (J.u 70 rfl (J.k (JO.pF rfl rfl rfl) (J.mv rfl (J.u 75 rfl (J.u 75 rfl (J.k (JO.pF rfl rfl rfl) (J.mv rfl (J.u 79 rfl (J.u 79 rfl (J.u 79 rfl (J.k (JO.pF rfl rfl rfl) (J.k (JO.assign rfl) (J.fin (Sw.Sub.mk id (.c rfl .nil) .nil rfl)))))))))))))))))))))))))
    refine W.ret ?_
    obtain rfl := Option.some.inj h
    exact XQ.sub (σ' := ⟨[(10, .v Enc.bool x30)], []⟩) (Sw.Sub.mk id (.c rfl .nil) .nil rfl) (XQ.ret1 hF noR rfl (RV.tmp rfl) .nil rfl)
  ·replace h := cond_f hc10 h
   refine W.condF rfl hc10 ?_
   refine W.skip ?_
   refine W.seq ?_
   refine W.seq ?_
   obtain ⟨x42, hx, h⟩ := bind_e h
   refine W.reg (σ' := ⟨[(0, .v Q0 a0), (1, .v Q2 a1), (2, .v Q2 a2), (3, .v Q0 a3), (4, .v Q0 a4), (11, .v Q0 v5.1), (13, .ptr 103 0), (115, .v Enc.bool x42)], [(103, .box 99 [.v Q4 v6.1.1, .v Q2 v6.1.2.1, .v Q0 v6.1.2.2])]⟩) ?_ ?_
   ·rcases Bool.eq_false_or_eq_true (Option.isSome v5.2) with hc43 | hc43
    ·replace hx := cond_t hc43 hx
     obtain rfl := Option.some.inj hx
     exact (J.mv rfl (J.k (JO.errNe Try.runUnderlying33 rfl) (J.mv rfl (J.u 86 hc43 (J.u 86 hc43 (J.k (JO.pT hc43 rfl rfl) (J.mv rfl (J.u 90 rfl (J.u 90 rfl (J.k (JO.pT rfl rfl rfl) (J.mv rfl (J.u 94 rfl (J.u 94 rfl (J.k (JO.pT rfl rfl rfl) (J.mv rfl (J.u 98 rfl (J.u 98 rfl (J.u 98 rfl (J.u 98 rfl (J.u 98 rfl (J.k (JO.pT rfl rfl rfl) (J.mv rfl (J.u 105 rfl (J.u 105 rfl (J.u 105 rfl (J.u 105 rfl (J.k (JO.pT rfl rfl rfl) (J.mv rfl (J.u 111 rfl (J.u 111 rfl (J.u 111 rfl (J.k (JO.pT rfl rfl rfl) (J.fin (Sw.Sub.mk id (.c rfl (.c rfl (.c rfl (.c rfl (.c rfl (.c rfl (.c rfl (.c rfl .nil)))))))) (.box rfl (.c rfl (.c rfl (.c rfl .nil))) .nil) rfl))))))))))))))))))))))))))))))))))
    ·replace hx := cond_f hc43 hx
     rcases Bool.eq_false_or_eq_true (Option.isSome v6.2) with hc44 | hc44
     ·replace hx := cond_t hc44 hx
      obtain rfl := Option.some.inj hx
      exact (J.mv rfl (J.k (JO.errNe Try.runUnderlying33 rfl) (J.mv rfl (J.m 86 hc43 (JO.move rfl) (J.m 86 hc43 (JO.errNe Try.runUnderlying33 rfl) (J.k (JO.pF hc43 rfl rfl) (J.mv rfl (J.u 90 hc44 (J.u 90 hc44 (J.k (JO.pT hc44 rfl rfl) (J.mv rfl (J.u 94 rfl (J.u 94 rfl (J.k (JO.pT rfl rfl rfl) (J.mv rfl (J.u 98 rfl (J.u 98 rfl (J.u 98 rfl (J.u 98 rfl (J.u 98 rfl (J.k (JO.pT rfl rfl rfl) (J.mv rfl (J.u 105 rfl (J.u 105 rfl (J.u 105 rfl (J.u 105 rfl (J.k (JO.pT rfl rfl rfl) (J.mv rfl (J.u 111 rfl (J.u 111 rfl (J.u 111 rfl (J.k (JO.pT rfl rfl rfl) (J.fin (Sw.Sub.mk id (.c rfl (.c rfl (.c rfl (.c rfl (.c rfl (.c rfl (.c rfl (.c rfl .nil)))))))) (.box rfl (.c rfl (.c rfl (.c rfl .nil))) .nil) rfl))))))))))))))))))))))))))))))))))
     ·replace hx := cond_f hc44 hx
      rcases Bool.eq_false_or_eq_true (cm .lss v5.1 (1 : Int)) with hc45 | hc45
      ·replace hx := cond_t hc45 hx
       obtain rfl := Option.some.inj hx
       exact (J.mv rfl (J.k (JO.errNe Try.runUnderlying33 rfl) (J.mv rfl (J.m 86 hc43 (JO.move rfl) (J.m 86 hc43 (JO.errNe Try.runUnderlying33 rfl) (J.k (JO.pF hc43 rfl rfl) (J.mv rfl (J.m 90 hc44 (JO.move rfl) (J.m 90 hc44 (JO.cmp rfl rfl rfl) (J.k (JO.pF hc44 rfl rfl) (J.mv rfl (J.u 94 hc45 (J.u 94 hc45 (J.k (JO.pT hc45 rfl rfl) (J.mv rfl (J.u 98 rfl (J.u 98 rfl (J.u 98 rfl (J.u 98 rfl (J.u 98 rfl (J.k (JO.pT rfl rfl rfl) (J.mv rfl (J.u 105 rfl (J.u 105 rfl (J.u 105 rfl (J.u 105 rfl (J.k (JO.pT rfl rfl rfl) (J.mv rfl (J.u 111 rfl (J.u 111 rfl (J.u 111 rfl (J.k (JO.pT rfl rfl rfl) (J.fin (Sw.Sub.mk id (.c rfl (.c rfl (.c rfl (.c rfl (.c rfl (.c rfl (.c rfl (.c rfl .nil)))))))) (.box rfl (.c rfl (.c rfl (.c rfl .nil))) .nil) rfl))))))))))))))))))))))))))))))))))
      ·replace hx := cond_f hc45 hx
       rcases Bool.eq_false_or_eq_true (cm .gtr v5.1 (200 : Int)) with hc46 | hc46
       ·replace hx := cond_t hc46 hx
        obtain rfl := Option.some.inj hx
        exact (J.mv rfl (J.k (JO.errNe Try.runUnderlying33 rfl) (J.mv rfl (J.m 86 hc43 (JO.move rfl) (J.m 86 hc43 (JO.errNe Try.runUnderlying33 rfl) (J.k (JO.pF hc43 rfl rfl) (J.mv rfl (J.m 90 hc44 (JO.move rfl) (J.m 90 hc44 (JO.cmp rfl rfl rfl) (J.k (JO.pF hc44 rfl rfl) (J.mv rfl (J.m 94 hc45 (JO.move rfl) (J.m 94 hc45 (JO.cmp rfl rfl rfl) (J.k (JO.pF hc45 rfl rfl) (J.mv rfl (J.u 98 hc46 (J.u 98 hc46 (J.u 98 hc46 (J.u 98 hc46 (J.u 98 hc46 (J.k (JO.pT hc46 rfl rfl) (J.mv rfl (J.u 105 rfl (J.u 105 rfl (J.u 105 rfl (J.u 105 rfl (J.k (JO.pT rfl rfl rfl) (J.mv rfl (J.u 111 rfl (J.u 111 rfl (J.u 111 rfl (J.k (JO.pT rfl rfl rfl) (J.fin (Sw.Sub.mk id (.c rfl (.c rfl (.c rfl (.c rfl (.c rfl (.c rfl (.c rfl (.c rfl .nil)))))))) (.box rfl (.c rfl (.c rfl (.c rfl .nil))) .nil) rfl))))))))))))))))))))))))))))))))))
       ·replace hx := cond_f hc46 hx
        rcases Bool.eq_false_or_eq_true (cm .neq (v6.1.1.length : Int) v5.1) with hc47 | hc47
        ·replace hx := cond_t hc47 hx
         obtain rfl := Option.some.inj hx
         exact (J.mv rfl (J.k (JO.errNe Try.runUnderlying33 rfl) (J.mv rfl (J.m 86 hc43 (JO.move rfl) (J.m 86 hc43 (JO.errNe Try.runUnderlying33 rfl) (J.k (JO.pF hc43 rfl rfl) (J.mv rfl (J.m 90 hc44 (JO.move rfl) (J.m 90 hc44 (JO.cmp rfl rfl rfl) (J.k (JO.pF hc44 rfl rfl) (J.mv rfl (J.m 94 hc45 (JO.move rfl) (J.m 94 hc45 (JO.cmp rfl rfl rfl) (J.k (JO.pF hc45 rfl rfl) (J.mv rfl (J.m 98 hc46 (JO.fieldPtr 0 rfl Try.runUnderlying99 rfl Try.sizeOf26 rfl rfl) (J.m 98 hc46 (JO.load rfl rfl rfl Try.isAgg26 Try.sizeOf26) (J.m 98 hc46 (JO.len rfl Try.runUnderlying26) (J.m 98 hc46 (JO.move rfl) (J.m 98 hc46 (JO.cmp rfl rfl rfl) (J.k (JO.pF hc46 rfl rfl) (J.mv rfl (J.u 105 hc47 (J.u 105 hc47 (J.u 105 hc47 (J.u 105 hc47 (J.k (JO.pT hc47 rfl rfl) (J.mv rfl (J.u 111 rfl (J.u 111 rfl (J.u 111 rfl (J.k (JO.pT rfl rfl rfl) (J.fin (Sw.Sub.mk id (.c rfl (.c rfl (.c rfl (.c rfl (.c rfl (.c rfl (.c rfl (.c rfl .nil)))))))) (.box rfl (.c rfl (.c rfl (.c rfl .nil))) .nil) rfl))))))))))))))))))))))))))))))))))
        ·replace hx := cond_f hc47 hx
         rcases Bool.eq_false_or_eq_true (cm .gtr (v6.1.2.1.length : Int) (0 : Int)) with hc48 | hc48
         ·replace hx := cond_t hc48 hx
          obtain rfl := Option.some.inj hx
          exact (J.mv rfl (J.k (JO.errNe Try.runUnderlying33 rfl) (J.mv rfl (J.m 86 hc43 (JO.move rfl) (J.m 86 hc43 (JO.errNe Try.runUnderlying33 rfl) (J.k (JO.pF hc43 rfl rfl) (J.mv rfl (J.m 90 hc44 (JO.move rfl) (J.m 90 hc44 (JO.cmp rfl rfl rfl) (J.k (JO.pF hc44 rfl rfl) (J.mv rfl (J.m 94 hc45 (JO.move rfl) (J.m 94 hc45 (JO.cmp rfl rfl rfl) (J.k (JO.pF hc45 rfl rfl) (J.mv rfl (J.m 98 hc46 (JO.fieldPtr 0 rfl Try.runUnderlying99 rfl Try.sizeOf26 rfl rfl) (J.m 98 hc46 (JO.load rfl rfl rfl Try.isAgg26 Try.sizeOf26) (J.m 98 hc46 (JO.len rfl Try.runUnderlying26) (J.m 98 hc46 (JO.move rfl) (J.m 98 hc46 (JO.cmp rfl rfl rfl) (J.k (JO.pF hc46 rfl rfl) (J.mv rfl (J.m 105 hc47 (JO.fieldPtr 1 rfl Try.runUnderlying99 rfl Try.sizeOf76 rfl rfl) (J.m 105 hc47 (JO.load rfl rfl rfl Try.isAgg76 Try.sizeOf76) (J.m 105 hc47 (JO.len rfl Try.runUnderlying76) (J.m 105 hc47 (JO.cmp rfl rfl rfl) (J.k (JO.pF hc47 rfl rfl) (J.mv rfl (J.u 111 hc48 (J.u 111 hc48 (J.u 111 hc48 (J.k (JO.pT hc48 rfl rfl) (J.fin (Sw.Sub.mk id (.c rfl (.c rfl (.c rfl (.c rfl (.c rfl (.c rfl (.c rfl (.c rfl .nil)))))))) (.box rfl (.c rfl (.c rfl (.c rfl .nil))) .nil) rfl))))))))))))))))))))))))))))))))))
         ·replace hx := cond_f hc48 hx
          obtain rfl := Option.some.inj hx
          exact (J.mv rfl (J.k (JO.errNe Try.runUnderlying33 rfl) (J.mv rfl (J.m 86 hc43 (JO.move rfl) (J.m 86 hc43 (JO.errNe Try.runUnderlying33 rfl) (J.k (JO.pF hc43 rfl rfl) (J.mv rfl (J.m 90 hc44 (JO.move rfl) (J.m 90 hc44 (JO.cmp rfl rfl rfl) (J.k (JO.pF hc44 rfl rfl) (J.mv rfl (J.m 94 hc45 (JO.move rfl) (J.m 94 hc45 (JO.cmp rfl rfl rfl) (J.k (JO.pF hc45 rfl rfl) (J.mv rfl (J.m 98 hc46 (JO.fieldPtr 0 rfl Try.runUnderlying99 rfl Try.sizeOf26 rfl rfl) (J.m 98 hc46 (JO.load rfl rfl rfl Try.isAgg26 Try.sizeOf26) (J.m 98 hc46 (JO.len rfl Try.runUnderlying26) (J.m 98 hc46 (JO.move rfl) (J.m 98 hc46 (JO.cmp rfl rfl rfl) (J.k (JO.pF hc46 rfl rfl) (J.mv rfl (J.m 105 hc47 (JO.fieldPtr 1 rfl Try.runUnderlying99 rfl Try.sizeOf76 rfl rfl) (J.m 105 hc47 (JO.load rfl rfl rfl Try.isAgg76 Try.sizeOf76) (J.m 105 hc47 (JO.len rfl Try.runUnderlying76) (J.m 105 hc47 (JO.cmp rfl rfl rfl) (J.k (JO.pF hc47 rfl rfl) (J.mv rfl (J.m 111 hc48 (JO.fieldPtr 2 rfl Try.runUnderlying99 rfl Try.sizeOf3 rfl rfl) (J.m 111 hc48 (JO.load rfl rfl rfl Try.isAgg3 Try.sizeOf3) (J.m 111 hc48 (JO.cmp rfl rfl rfl) (J.k (JO.pF hc48 rfl rfl) (J.fin (Sw.Sub.mk id (.c rfl (.c rfl (.c rfl (.c rfl (.c rfl (.c rfl (.c rfl (.c rfl .nil)))))))) (.box rfl (.c rfl (.c rfl (.c rfl .nil))) .nil) rfl))))))))))))))))))))))))))))))))))
   rcases Bool.eq_false_or_eq_true x42 with hc49 | hc49
   ·replace h := cond_t hc49 h
    refine W.condT rfl hc49 ?_
    refine W.seq ?_
    refine W.reg (σ' := ⟨[(10, .v Enc.bool false)], []⟩) (J.k (JO.assign rfl) (J.fin (Sw.Sub.mk id (.c rfl .nil) .nil rfl))) ?_
    refine W.ret ?_
    obtain rfl := Option.some.inj h
    exact XQ.sub (σ' := ⟨[(10, .v Enc.bool false)], []⟩) (Sw.Sub.mk id (.c rfl .nil) .nil rfl) (XQ.ret1 hF noR rfl (RV.tmp rfl) .nil rfl)
   ·replace h := cond_f hc49 h
    refine W.condF rfl hc49 ?_
    refine W.skip ?_
    refine W.seq ?_
    obtain ⟨v50, hv50, h⟩ := bind_e h
    obtain ⟨v51, hv51, h⟩ := bind_e h
    rcases hz52 : v51.1 with _ | z52
    ·replace h := ocase_n hz52 h
     refine W.reg (σ' := ⟨[(0, .v Q0 a0), (1, .v Q2 a1), (2, .v Q2 a2), (3, .v Q0 a3), (4, .v Q0 a4), (13, .ptr 103 0), (18, .v (Enc.err ET) v51.2)], [(103, .box 99 [.v Q4 v6.1.1, .v Q2 v6.1.2.1, .v Q0 v6.1.2.2])]⟩) (J.mv rfl (J.k (JO.arith rfl rfl rfl) (J.k (JO.mkR 116 hv50 rfl rfl Try.runUnderlying26 Try.typeInfo56 Try.sizeOf56 rfl rfl (Z.arr 8 (Z.int .u8))) (J.k (JO.build built99 (.cons (Z.sl eBlk) (.cons (Z.sl (Enc.pr Q0 eBlk)) (.cons (Z.int .i64) .nil))) (.cons rfl (.dir rfl) rfl rfl rfl rfl (.cons rfl (.dir rfl) rfl rfl rfl rfl .nil))) (J.mv rfl (J.sub (σ' := ⟨[(0, .v Q0 a0), (1, .v Q2 a1), (2, .v Q2 a2), (3, .v Q0 a3), (4, .v Q0 a4), (11, .v Q0 v5.1), (13, .ptr 103 0), (115, .v Enc.bool x42), (117, .v Q0 v5.1), (118, .v Q0 (ar .add .i64 v5.1 (1 : Int))), (119, .v Q4 v50), (120, .agg [.v Q4 v50, .v Q2 ([] : (List (Int × Blk))), .v Q0 (-1 : Int)]), (121, .v Q0 a0)], [(103, .box 99 [.v Q4 v6.1.1, .v Q2 v6.1.2.1, .v Q0 v6.1.2.2])]⟩) (Sw.Sub.mk id (.c rfl (.c rfl (.c rfl (.c rfl (.c rfl (.c rfl (.c rfl (.c rfl (.c rfl (.c rfl (.cons rfl (.frz rfl rfl) (.cons rfl (.agg (.cons (.frz rfl rfl) (.c rfl (.c rfl .nil)))) (.c rfl .nil))))))))))))) (.box rfl (.c rfl (.c rfl (.c rfl .nil))) .nil) rfl) (J.k (JO.call0 (con_store_Open_n hz52 hv51) Try.call51 (.cons (.agg rfl (.same (.same (.same .nil))) (.prm (.one _ _) (.prm (.one _ _) (.one _ _))) rfl) (.cons (.dir rfl) .nil))) (J.mv rfl (J.k (JO.extract rfl rfl) (J.k (JO.extract rfl rfl) (J.k (JO.assign rfl) (J.k (JO.assign rfl) (J.fin (Sw.Sub.mk id (.c rfl (.c rfl (.c rfl (.c rfl (.c rfl (.c rfl (.c rfl .nil))))))) (.box rfl (.c rfl (.c rfl (.c rfl .nil))) .nil) rfl)))))))))))))) ?_
     refine W.seq ?_
     obtain ⟨v53, hv53, h⟩ := bind_e h
     rcases hz54 : v53.1 with _ | z54
     ·replace h := ocase_n hz54 h
      refine W.reg (σ' := ⟨[(0, .v Q0 a0), (1, .v Q2 a1), (2, .v Q2 a2), (3, .v Q0 a3), (4, .v Q0 a4), (13, .ptr 103 0), (18, .v (Enc.err ET) v51.2), (20, .v (Enc.err ET) v53.2)], [(103, .box 99 [.v Q4 v6.1.1, .v Q2 v6.1.2.1, .v Q0 v6.1.2.2])]⟩) (J.k (JO.fieldPtr 0 rfl Try.runUnderlying99 rfl Try.sizeOf26 rfl rfl) (J.k (JO.load rfl rfl rfl Try.isAgg26 Try.sizeOf26) (J.k (JO.build built85 (.cons (Z.int .i64) (.cons (Z.arr 8 (Z.int .u8)) .nil)) (.cons rfl (.dir rfl) rfl rfl rfl rfl .nil)) (J.k (JO.lit (e := (Enc.pr Q0 eBlk)) Try.runUnderlying76 Try.sizeOf85 Try.zeroValue85 rfl rfl rfl rfl (.cons (.agg rfl (.same (.same .nil)) (.prm (.one _ _) (.one _ _)) rfl) .nil)) (J.k (JO.build built99 (.cons (Z.sl eBlk) (.cons (Z.sl (Enc.pr Q0 eBlk)) (.cons (Z.int .i64) .nil))) (.cons rfl (.dir rfl) rfl rfl rfl rfl (.cons rfl (.dir rfl) rfl rfl rfl rfl (.cons rfl (.dir rfl) rfl rfl rfl rfl .nil)))) (J.mv rfl (J.k (JO.call0 (con_store_Open_n hz54 hv53) Try.call51 (.cons (.agg rfl (.same (.same (.same .nil))) (.prm (.one _ _) (.prm (.one _ _) (.one _ _))) rfl) (.cons (.dir rfl) .nil))) (J.mv rfl (J.k (JO.extract rfl rfl) (J.k (JO.extract rfl rfl) (J.k (JO.assign rfl) (J.k (JO.assign rfl) (J.fin (Sw.Sub.mk id (.c rfl (.c rfl (.c rfl (.c rfl (.c rfl (.c rfl (.c rfl (.c rfl .nil)))))))) (.box rfl (.c rfl (.c rfl (.c rfl .nil))) .nil) rfl)))))))))))))) ?_
      refine W.seq ?_
      obtain ⟨v55, hv55, h⟩ := bind_e h
      rcases hz56 : v55.1 with _ | z56
      ·replace h := ocase_n hz56 h
       refine W.reg (σ' := ⟨[(0, .v Q0 a0), (1, .v Q2 a1), (2, .v Q2 a2), (3, .v Q0 a3), (4, .v Q0 a4), (12, .v (Enc.err ET) v55.2), (18, .v (Enc.err ET) v51.2), (20, .v (Enc.err ET) v53.2), (21, .v (Enc.ptN (Enc.pr Q0 Q1)) (none : (Option (Int × Q3))))], []⟩) (J.k (JO.loadAll rfl rfl (.prm (.one _ _) (.prm (.one _ _) (.one _ _))) Try.isAgg99 Try.sizeOf99) (J.mv rfl (J.k (JO.call0 (con_store_Open_n hz56 hv55) Try.call51 (.cons (.dir rfl) (.cons (.dir rfl) .nil))) (J.mv rfl (J.k (JO.extract rfl rfl) (J.k (JO.extract rfl rfl) (J.k (JO.assign rfl) (J.k (JO.assign rfl) (J.fin (Sw.Sub.mk id (.c rfl (.c rfl (.c rfl (.c rfl (.c rfl (.c rfl (.c rfl (.c rfl (.c rfl .nil))))))))) .nil rfl)))))))))) ?_
       refine W.seq ?_
       refine W.seq ?_
       obtain ⟨x60, hx, h⟩ := bind_e h
       refine W.reg (σ' := ⟨[(0, .v Q0 a0), (1, .v Q2 a1), (2, .v Q2 a2), (3, .v Q0 a3), (4, .v Q0 a4), (21, .v (Enc.ptN (Enc.pr Q0 Q1)) (none : (Option (Int × Q3)))), (156, .v Enc.bool true)], []⟩) ?_ ?_
       ·rcases Bool.eq_false_or_eq_true (!(v51.2 == (some (5 : Int)))) with hc61 | hc61
        ·replace hx := cond_t hc61 hx
         obtain rfl := Option.some.inj hx
         exact (J.mv rfl (J.k (JO.mkErr Try.runUnderlying29 rfl) (J.k (JO.errNe2 Try.runUnderlying33 Try.runUnderlying29 Try.typeInfo29 rfl rfl rfl) (J.mv rfl (J.u 144 hc61 (J.u 144 hc61 (J.u 144 hc61 (J.k (JO.pT hc61 rfl rfl) (J.mv rfl (J.u 149 rfl (J.u 149 rfl (J.k (JO.pT rfl rfl rfl) (J.mv rfl (J.u 153 rfl (J.u 153 rfl (J.k (JO.pT rfl rfl rfl) (J.fin (Sw.Sub.mk id (.c rfl (.c rfl (.c rfl (.c rfl (.c rfl (.c rfl (.c rfl .nil))))))) .nil rfl))))))))))))))))))
        ·replace hx := cond_f hc61 hx
         rcases Bool.eq_false_or_eq_true (!(v53.2 == (some (5 : Int)))) with hc62 | hc62
         ·replace hx := cond_t hc62 hx
          obtain rfl := Option.some.inj hx
          exact (J.mv rfl (J.k (JO.mkErr Try.runUnderlying29 rfl) (J.k (JO.errNe2 Try.runUnderlying33 Try.runUnderlying29 Try.typeInfo29 rfl rfl rfl) (J.mv rfl (J.m 144 hc61 (JO.move rfl) (J.m 144 hc61 (JO.mkErr Try.runUnderlying29 rfl) (J.m 144 hc61 (JO.errNe2 Try.runUnderlying33 Try.runUnderlying29 Try.typeInfo29 rfl rfl rfl) (J.k (JO.pF hc61 rfl rfl) (J.mv rfl (J.u 149 hc62 (J.u 149 hc62 (J.k (JO.pT hc62 rfl rfl) (J.mv rfl (J.u 153 rfl (J.u 153 rfl (J.k (JO.pT rfl rfl rfl) (J.fin (Sw.Sub.mk id (.c rfl (.c rfl (.c rfl (.c rfl (.c rfl (.c rfl (.c rfl .nil))))))) .nil rfl))))))))))))))))))
         ·replace hx := cond_f hc62 hx
          rcases Bool.eq_false_or_eq_true (Option.isSome v55.2) with hc63 | hc63
          ·replace hx := cond_t hc63 hx
           obtain rfl := Option.some.inj hx
           exact (J.mv rfl (J.k (JO.mkErr Try.runUnderlying29 rfl) (J.k (JO.errNe2 Try.runUnderlying33 Try.runUnderlying29 Try.typeInfo29 rfl rfl rfl) (J.mv rfl (J.m 144 hc61 (JO.move rfl) (J.m 144 hc61 (JO.mkErr Try.runUnderlying29 rfl) (J.m 144 hc61 (JO.errNe2 Try.runUnderlying33 Try.runUnderlying29 Try.typeInfo29 rfl rfl rfl) (J.k (JO.pF hc61 rfl rfl) (J.mv rfl (J.m 149 hc62 (JO.move rfl) (J.m 149 hc62 (JO.errNe Try.runUnderlying33 rfl) (J.k (JO.pF hc62 rfl rfl) (J.mv rfl (J.u 153 hc63 (J.u 153 hc63 (J.k (JO.pT hc63 rfl rfl) (J.fin (Sw.Sub.mk id (.c rfl (.c rfl (.c rfl (.c rfl (.c rfl (.c rfl (.c rfl .nil))))))) .nil rfl))))))))))))))))))
          ·replace hx := cond_f hc63 hx
           obtain rfl := Option.some.inj hx
           exact (J.mv rfl (J.k (JO.mkErr Try.runUnderlying29 rfl) (J.k (JO.errNe2 Try.runUnderlying33 Try.runUnderlying29 Try.typeInfo29 rfl rfl rfl) (J.mv rfl (J.m 144 hc61 (JO.move rfl) (J.m 144 hc61 (JO.mkErr Try.runUnderlying29 rfl) (J.m 144 hc61 (JO.errNe2 Try.runUnderlying33 Try.runUnderlying29 Try.typeInfo29 rfl rfl rfl) (J.k (JO.pF hc61 rfl rfl) (J.mv rfl (J.m 149 hc62 (JO.move rfl) (J.m 149 hc62 (JO.errNe Try.runUnderlying33 rfl) (J.k (JO.pF hc62 rfl rfl) (J.mv rfl (J.m 153 hc63 (JO.move rfl) (J.m 153 hc63 (JO.ptEq rfl Try.runUnderlying102) (J.k (JO.pF hc63 rfl rfl) (J.fin (Sw.Sub.mk id (.c rfl (.c rfl (.c rfl (.c rfl (.c rfl (.c rfl (.c rfl .nil))))))) .nil rfl))))))))))))))))))
       refine W.condT rfl rfl ?_
       refine W.seq ?_
       refine W.reg (σ' := ⟨[(10, .v Enc.bool false)], []⟩) (J.k (JO.assign rfl) (J.fin (Sw.Sub.mk id (.c rfl .nil) .nil rfl))) ?_
       refine W.ret ?_
       obtain rfl := Option.some.inj h
       exact XQ.sub (σ' := ⟨[(10, .v Enc.bool false)], []⟩) (Sw.Sub.mk id (.c rfl .nil) .nil rfl) (XQ.ret1 hF noR rfl (RV.tmp rfl) .nil rfl)
      ·replace h := ocase_s hz56 h
       refine W.reg (σ' := ⟨[(0, .v Q0 a0), (1, .v Q2 a1), (2, .v Q2 a2), (3, .v Q0 a3), (4, .v Q0 a4), (12, .v (Enc.err ET) v55.2), (18, .v (Enc.err ET) v51.2), (20, .v (Enc.err ET) v53.2), (21, .ptr 121000 0)], [(121000, .box 172 [.v Q0 z56.1, .v Q1 z56.2])]⟩) (J.k (JO.loadAll rfl rfl (.prm (.one _ _) (.prm (.one _ _) (.one _ _))) Try.isAgg99 Try.sizeOf99) (J.mv rfl (J.k (JO.call 121000 (con_store_Open_s hz56 hv55) Try.call51 (.cons (.dir rfl) (.cons (.dir rfl) .nil)) rfl) (J.mv rfl (J.k (JO.extract rfl rfl) (J.k (JO.extract rfl rfl) (J.k (JO.assign rfl) (J.k (JO.assign rfl) (J.fin (Sw.Sub.mk id (.c rfl (.c rfl (.c rfl (.c rfl (.c rfl (.c rfl (.c rfl (.c rfl (.c rfl .nil))))))))) (.box rfl (.c rfl (.c rfl .nil)) .nil) rfl)))))))))) ?_
       refine W.seq ?_
       refine W.seq ?_
       obtain ⟨x68, hx, h⟩ := bind_e h
       refine W.reg (σ' := ⟨[(0, .v Q0 a0), (1, .v Q2 a1), (2, .v Q2 a2), (3, .v Q0 a3), (4, .v Q0 a4), (21, .ptr 121000 0), (156, .v Enc.bool x68)], [(121000, .box 172 [.v Q0 z56.1, .v Q1 z56.2])]⟩) ?_ ?_
       ·rcases Bool.eq_false_or_eq_true (!(v51.2 == (some (5 : Int)))) with hc69 | hc69
        ·replace hx := cond_t hc69 hx
         obtain rfl := Option.some.inj hx
         exact (J.mv rfl (J.k (JO.mkErr Try.runUnderlying29 rfl) (J.k (JO.errNe2 Try.runUnderlying33 Try.runUnderlying29 Try.typeInfo29 rfl rfl rfl) (J.mv rfl (J.u 144 hc69 (J.u 144 hc69 (J.u 144 hc69 (J.k (JO.pT hc69 rfl rfl) (J.mv rfl (J.u 149 rfl (J.u 149 rfl (J.k (JO.pT rfl rfl rfl) (J.mv rfl (J.u 153 rfl (J.u 153 rfl (J.k (JO.pT rfl rfl rfl) (J.fin (Sw.Sub.mk id (.c rfl (.c rfl (.c rfl (.c rfl (.c rfl (.c rfl (.c rfl .nil))))))) (.box rfl (.c rfl (.c rfl .nil)) .nil) rfl))))))))))))))))))
        ·replace hx := cond_f hc69 hx
         rcases Bool.eq_false_or_eq_true (!(v53.2 == (some (5 : Int)))) with hc70 | hc70
         ·replace hx := cond_t hc70 hx
          obtain rfl := Option.some.inj hx
          exact (J.mv rfl (J.k (JO.mkErr Try.runUnderlying29 rfl) (J.k (JO.errNe2 Try.runUnderlying33 Try.runUnderlying29 Try.typeInfo29 rfl rfl rfl) (J.mv rfl (J.m 144 hc69 (JO.move rfl) (J.m 144 hc69 (JO.mkErr Try.runUnderlying29 rfl) (J.m 144 hc69 (JO.errNe2 Try.runUnderlying33 Try.runUnderlying29 Try.typeInfo29 rfl rfl rfl) (J.k (JO.pF hc69 rfl rfl) (J.mv rfl (J.u 149 hc70 (J.u 149 hc70 (J.k (JO.pT hc70 rfl rfl) (J.mv rfl (J.u 153 rfl (J.u 153 rfl (J.k (JO.pT rfl rfl rfl) (J.fin (Sw.Sub.mk id (.c rfl (.c rfl (.c rfl (.c rfl (.c rfl (.c rfl (.c rfl .nil))))))) (.box rfl (.c rfl (.c rfl .nil)) .nil) rfl))))))))))))))))))
         ·replace hx := cond_f hc70 hx
          rcases Bool.eq_false_or_eq_true (Option.isSome v55.2) with hc71 | hc71
          ·replace hx := cond_t hc71 hx
           obtain rfl := Option.some.inj hx
           exact (J.mv rfl (J.k (JO.mkErr Try.runUnderlying29 rfl) (J.k (JO.errNe2 Try.runUnderlying33 Try.runUnderlying29 Try.typeInfo29 rfl rfl rfl) (J.mv rfl (J.m 144 hc69 (JO.move rfl) (J.m 144 hc69 (JO.mkErr Try.runUnderlying29 rfl) (J.m 144 hc69 (JO.errNe2 Try.runUnderlying33 Try.runUnderlying29 Try.typeInfo29 rfl rfl rfl) (J.k (JO.pF hc69 rfl rfl) (J.mv rfl (J.m 149 hc70 (JO.move rfl) (J.m 149 hc70 (JO.errNe Try.runUnderlying33 rfl) (J.k (JO.pF hc70 rfl rfl) (J.mv rfl (J.u 153 hc71 (J.u 153 hc71 (J.k (JO.pT hc71 rfl rfl) (J.fin (Sw.Sub.mk id (.c rfl (.c rfl (.c rfl (.c rfl (.c rfl (.c rfl (.c rfl .nil))))))) (.box rfl (.c rfl (.c rfl .nil)) .nil) rfl))))))))))))))))))
          ·replace hx := cond_f hc71 hx
           obtain rfl := Option.some.inj hx
           exact (J.mv rfl (J.k (JO.mkErr Try.runUnderlying29 rfl) (J.k (JO.errNe2 Try.runUnderlying33 Try.runUnderlying29 Try.typeInfo29 rfl rfl rfl) (J.mv rfl (J.m 144 hc69 (JO.move rfl) (J.m 144 hc69 (JO.mkErr Try.runUnderlying29 rfl) (J.m 144 hc69 (JO.errNe2 Try.runUnderlying33 Try.runUnderlying29 Try.typeInfo29 rfl rfl rfl) (J.k (JO.pF hc69 rfl rfl) (J.mv rfl (J.m 149 hc70 (JO.move rfl) (J.m 149 hc70 (JO.errNe Try.runUnderlying33 rfl) (J.k (JO.pF hc70 rfl rfl) (J.mv rfl (J.m 153 hc71 (JO.move rfl) (J.m 153 hc71 (JO.ptrEqN rfl Try.runUnderlying102) (J.k (JO.pF hc71 rfl rfl) (J.fin (Sw.Sub.mk id (.c rfl (.c rfl (.c rfl (.c rfl (.c rfl (.c rfl (.c rfl .nil))))))) (.box rfl (.c rfl (.c rfl .nil)) .nil) rfl))))))))))))))))))
       rcases Bool.eq_false_or_eq_true x68 with hc72 | hc72
       ·replace h := cond_t hc72 h
        refine W.condT rfl hc72 ?_
        refine W.seq ?_
        refine W.reg (σ' := ⟨[(10, .v Enc.bool false)], []⟩) (J.k (JO.assign rfl) (J.fin (Sw.Sub.mk id (.c rfl .nil) .nil rfl))) ?_
        refine W.ret ?_
        obtain rfl := Option.some.inj h
        exact XQ.sub (σ' := ⟨[(10, .v Enc.bool false)], []⟩) (Sw.Sub.mk id (.c rfl .nil) .nil rfl) (XQ.ret1 hF noR rfl (RV.tmp rfl) .nil rfl)
       ·replace h := cond_f hc72 h
        refine W.condF rfl hc72 ?_
        refine W.skip ?_
        refine W.seq ?_
        obtain ⟨v73, hv73, h⟩ := bind_e h
        refine W.reg (σ' := ⟨[(0, .v Q0 a0), (1, .v Q2 a1), (2, .v Q2 a2), (3, .v Q0 a3), (4, .v Q0 a4), (21, .ptr 121000 0), (22, .ref 122)], [(121000, .box 172 [.v Q0 z56.1, .v Q1 z56.2]), (122, .arr 56 eBlk v73)]⟩) (J.mv rfl (J.k (JO.mkR 122 hv73 rfl rfl Try.runUnderlying26 Try.typeInfo56 Try.sizeOf56 rfl rfl (Z.arr 8 (Z.int .u8))) (J.k (JO.assign rfl) (J.fin (Sw.Sub.mk id (.c rfl (.c rfl (.c rfl (.c rfl (.c rfl (.c rfl (.c rfl .nil))))))) (.box rfl (.c rfl (.c rfl .nil)) (.arr rfl .nil)) rfl))))) ?_
        refine W.seq ?_
        refine W.reg (σ' := ⟨[(0, .v Q0 a0), (1, .v Q2 a1), (2, .v Q2 a2), (3, .v Q0 a3), (4, .v Q0 a4), (21, .ptr 121000 0), (22, .ref 122), (23, .v Q0 (0 : Int))], [(121000, .box 172 [.v Q0 z56.1, .v Q1 z56.2]), (122, .arr 56 eBlk v73)]⟩) (J.k (JO.assign rfl) (J.fin (Sw.Sub.mk id (.c rfl (.c rfl (.c rfl (.c rfl (.c rfl (.c rfl (.c rfl (.c rfl .nil)))))))) (.box rfl (.c rfl (.c rfl .nil)) (.arr rfl .nil)) rfl))) ?_
        refine W.seq ?_
        refine W.reg (σ' := ⟨[(0, .v Q0 a0), (1, .v Q2 a1), (2, .v Q2 a2), (3, .v Q0 a3), (4, .v Q0 a4), (21, .ptr 121000 0), (22, .ref 122), (23, .v Q0 (0 : Int)), (24, .v Q0 (0 : Int))], [(121000, .box 172 [.v Q0 z56.1, .v Q1 z56.2]), (122, .arr 56 eBlk v73)]⟩) (J.k (JO.assign rfl) (J.fin (Sw.Sub.mk id (.c rfl (.c rfl (.c rfl (.c rfl (.c rfl (.c rfl (.c rfl (.c rfl (.c rfl .nil))))))))) (.box rfl (.c rfl (.c rfl .nil)) (.arr rfl .nil)) rfl))) ?_
        refine W.seq ?_
        refine W.seq ?_
        obtain ⟨v74, hv74, h⟩ := bind_e h
        refine W.reg (σ' := ⟨[(0, .v Q0 a0), (1, .v Q2 a1), (2, .v Q2 a2), (3, .v Q0 a3), (4, .v Q0 a4), (21, .ptr 121000 0), (22, .ref 122), (23, .v Q0 (0 : Int)), (24, .v Q0 (0 : Int)), (164, .v Enc.bool (!v74))], [(121000, .box 172 [.v Q0 z56.1, .v Q1 z56.2]), (122, .arr 56 eBlk v73)]⟩) (J.mv rfl (J.mv rfl (J.mv rfl (J.mv rfl (J.k (JO.callL0 (con_law_sees hv74) Try.call53 (.cons (.lendP rfl rfl (.prm (.one _ _) (.one _ _))) (.cons (.ref rfl rfl) (.cons (.dir rfl) (.cons (.dir rfl) .nil)))) FlatS.v) (J.k (JO.not rfl) (J.fin (Sw.Sub.mk id (.c rfl (.c rfl (.c rfl (.c rfl (.c rfl (.c rfl (.c rfl (.c rfl (.c rfl (.c rfl .nil)))))))))) (.box rfl (.c rfl (.c rfl .nil)) (.arr rfl .nil)) rfl)))))))) ?_
        rcases Bool.eq_false_or_eq_true (!v74) with hc75 | hc75
        ·replace h := cond_t hc75 h
         refine W.condT rfl hc75 ?_
         refine W.seq ?_
         refine W.reg (σ' := ⟨[(10, .v Enc.bool false)], []⟩) (J.k (JO.assign rfl) (J.fin (Sw.Sub.mk id (.c rfl .nil) .nil rfl))) ?_
         refine W.ret ?_
         obtain rfl := Option.some.inj h
         exact XQ.sub (σ' := ⟨[(10, .v Enc.bool false)], []⟩) (Sw.Sub.mk id (.c rfl .nil) .nil rfl) (XQ.ret1 hF noR rfl (RV.tmp rfl) .nil rfl)
        ·replace h := cond_f hc75 h
         refine W.condF rfl hc75 ?_
         refine W.skip ?_
         refine W.seq ?_
         refine W.seq ?_
         refine W.reg (σ' := ⟨[(0, .v Q0 a0), (1, .v Q2 a1), (2, .v Q2 a2), (3, .v Q0 a3), (4, .v Q0 a4), (21, .ptr 121000 0), (22, .ref 122), (23, .v Q0 (0 : Int)), (24, .v Q0 (0 : Int)), (25, .v Q0 (0 : Int))], [(121000, .box 172 [.v Q0 z56.1, .v Q1 z56.2]), (122, .arr 56 eBlk v73)]⟩) (J.k (JO.assign rfl) (J.fin (Sw.Sub.mk id (.c rfl (.c rfl (.c rfl (.c rfl (.c rfl (.c rfl (.c rfl (.c rfl (.c rfl (.c rfl .nil)))))))))) (.box rfl (.c rfl (.c rfl .nil)) (.arr rfl .nil)) rfl))) ?_
         obtain ⟨o445, ho445, hb445, hr445⟩ := lp_elim h
         refine W.lp (σs := fun s322 : Int × Int × Int × Int × Int × Int × Q3 × (List Blk) => ⟨[(0, .v Q0 a0), (1, .v Q2 a1), (2, .v Q2 a2), (3, .v Q0 s322.1), (4, .v Q0 s322.2.1), (21, .ptr 121000 0), (22, .ref 122), (23, .v Q0 s322.2.2.1), (24, .v Q0 s322.2.2.2.1), (25, .v Q0 s322.2.2.2.2.1)], [(121000, .box 172 [.v Q0 s322.2.2.2.2.2.1, .v Q1 s322.2.2.2.2.2.2.1]), (122, .arr 56 eBlk s322.2.2.2.2.2.2.2)]⟩) (fun x446 : Int × Int × Int × Q3 × (List Blk) => ⟨[(0, .v Q0 a0), (21, .ptr 121000 0), (22, .ref 122), (23, .v Q0 x446.1), (24, .v Q0 x446.2.1)], [(121000, .box 172 [.v Q0 x446.2.2.1, .v Q1 x446.2.2.2.1]), (122, .arr 56 eBlk x446.2.2.2.2)]⟩) ho445 (Sw.Sub.mk id (.c rfl (.c rfl (.c rfl (.c rfl (.c rfl (.c rfl (.c rfl (.c rfl (.c rfl (.c rfl .nil)))))))))) (.box rfl (.c rfl (.c rfl .nil)) (.arr rfl .nil)) rfl) ?_ ?_
         ·intro x446 hy
          have h := hb445 _ hy
          refine W.seq ?_
          obtain ⟨v569, hv569, h⟩ := bind_e h
          obtain ⟨v570, hv570, h⟩ := bind_e h
          rcases hz571 : v570.1 with _ | z571
          ·replace h := ocase_n hz571 h
           refine W.reg (σ' := ⟨[(12, .v (Enc.err ET) v570.2), (22, .ref 122), (23, .v Q0 x446.1), (24, .v Q0 x446.2.1), (30, .v (Enc.ptN (Enc.pr Q0 Q1)) (none : (Option (Int × Q3))))], [(122, .arr 56 eBlk x446.2.2.2.2)]⟩) (J.mv rfl (J.k (JO.callL 133000 (con_store_Store_Disk hv569) Try.call55 (.cons (.lendP rfl rfl (.prm (.one _ _) (.one _ _))) .nil) rfl (FlatS.agg (.ref (.ref (.v .nil)))) (FlatN.arr (FlatN.arr FlatN.nil))) (J.mv rfl (J.sub (σ' := ⟨[(0, .v Q0 a0), (21, .ptr 121000 0), (22, .ref 122), (23, .v Q0 x446.1), (24, .v Q0 x446.2.1), (259, .ptr 121000 0), (260, .agg [.v Q4 v569.1, .v Q2 v569.2.1, .v Q0 v569.2.2]), (261, .v Q0 a0)], [(121000, .box 172 [.v Q0 x446.2.2.1, .v Q1 x446.2.2.2.1]), (122, .arr 56 eBlk x446.2.2.2.2)]⟩) (Sw.Sub.mk id (.c rfl (.c rfl (.c rfl (.c rfl (.c rfl (.c rfl (.cons rfl (.agg (.cons (.frz rfl rfl) (.cons (.frz rfl rfl) (.c rfl .nil)))) (.c rfl .nil)))))))) (.box rfl (.c rfl (.c rfl .nil)) (.arr rfl .nil)) rfl) (J.k (JO.call0 (con_store_Open_n hz571 hv570) Try.call51 (.cons (.agg rfl (.same (.same (.same .nil))) (.prm (.one _ _) (.prm (.one _ _) (.one _ _))) rfl) (.cons (.dir rfl) .nil))) (J.mv rfl (J.k (JO.extract rfl rfl) (J.k (JO.extract rfl rfl) (J.k (JO.assign rfl) (J.k (JO.assign rfl) (J.fin (Sw.Sub.mk id (.c rfl (.c rfl (.c rfl (.c rfl (.c rfl .nil))))) (.arr rfl .nil) rfl)))))))))))) ?_
           refine W.seq ?_
           obtain ⟨x573, hx, h⟩ := bind_e h
           refine W.reg (σ' := ⟨[(10, .v Enc.bool false)], []⟩) ?_ ?_
           ·rcases Bool.eq_false_or_eq_true (Option.isNone v570.2) with hc574 | hc574
            ·replace hx := cond_t hc574 hx
             obtain rfl := Option.some.inj hx
             exact (J.mv rfl (J.k (JO.errEq Try.runUnderlying33 rfl) (J.mv rfl (J.m 267 hc574 (JO.move rfl) (J.m 267 hc574 (JO.ptNe rfl Try.runUnderlying102) (J.k (JO.pT hc574 rfl rfl) (J.mv rfl (J.u 271 rfl (J.u 271 rfl (J.u 271 rfl (J.u 271 rfl (J.u 271 rfl (J.k (JO.pF rfl rfl rfl) (J.k (JO.assign rfl) (J.fin (Sw.Sub.mk id (.c rfl .nil) .nil rfl))))))))))))))))
            ·replace hx := cond_f hc574 hx
             obtain rfl := Option.some.inj hx
             exact (J.mv rfl (J.k (JO.errEq Try.runUnderlying33 rfl) (J.mv rfl (J.u 267 hc574 (J.u 267 hc574 (J.k (JO.pF hc574 rfl rfl) (J.mv rfl (J.u 271 rfl (J.u 271 rfl (J.u 271 rfl (J.u 271 rfl (J.u 271 rfl (J.k (JO.pF rfl rfl rfl) (J.k (JO.assign rfl) (J.fin (Sw.Sub.mk id (.c rfl .nil) .nil rfl))))))))))))))))
           refine W.ret ?_
           obtain rfl := Option.some.inj h
           exact XQ.sub (σ' := ⟨[(10, .v Enc.bool false)], []⟩) (Sw.Sub.mk id (.c rfl .nil) .nil rfl) (XQ.ret1 hF noR rfl (RV.tmp rfl) .nil rfl)
          ·replace h := ocase_s hz571 h
           refine W.reg (σ' := ⟨[(12, .v (Enc.err ET) v570.2), (22, .ref 122), (23, .v Q0 x446.1), (24, .v Q0 x446.2.1), (30, .ptr 138000 0)], [(122, .arr 56 eBlk x446.2.2.2.2), (138000, .box 172 [.v Q0 z571.1, .v Q1 z571.2])]⟩) (J.mv rfl (J.k (JO.callL 136000 (con_store_Store_Disk hv569) Try.call55 (.cons (.lendP rfl rfl (.prm (.one _ _) (.one _ _))) .nil) rfl (FlatS.agg (.ref (.ref (.v .nil)))) (FlatN.arr (FlatN.arr FlatN.nil))) (J.mv rfl (J.sub (σ' := ⟨[(0, .v Q0 a0), (21, .ptr 121000 0), (22, .ref 122), (23, .v Q0 x446.1), (24, .v Q0 x446.2.1), (259, .ptr 121000 0), (260, .agg [.v Q4 v569.1, .v Q2 v569.2.1, .v Q0 v569.2.2]), (261, .v Q0 a0)], [(121000, .box 172 [.v Q0 x446.2.2.1, .v Q1 x446.2.2.2.1]), (122, .arr 56 eBlk x446.2.2.2.2)]⟩) (Sw.Sub.mk id (.c rfl (.c rfl (.c rfl (.c rfl (.c rfl (.c rfl (.cons rfl (.agg (.cons (.frz rfl rfl) (.cons (.frz rfl rfl) (.c rfl .nil)))) (.c rfl .nil)))))))) (.box rfl (.c rfl (.c rfl .nil)) (.arr rfl .nil)) rfl) (J.k (JO.call 138000 (con_store_Open_s hz571 hv570) Try.call51 (.cons (.agg rfl (.same (.same (.same .nil))) (.prm (.one _ _) (.prm (.one _ _) (.one _ _))) rfl) (.cons (.dir rfl) .nil)) rfl) (J.mv rfl (J.k (JO.extract rfl rfl) (J.k (JO.extract rfl rfl) (J.k (JO.assign rfl) (J.k (JO.assign rfl) (J.fin (Sw.Sub.mk id (.c rfl (.c rfl (.c rfl (.c rfl (.c rfl .nil))))) (.arr rfl (.box rfl (.c rfl (.c rfl .nil)) .nil)) rfl)))))))))))) ?_
           refine W.seq ?_
           obtain ⟨x577, hx, h⟩ := bind_e h
           refine W.reg (σ' := ⟨[(10, .v Enc.bool x577)], []⟩) ?_ ?_
           ·rcases Bool.eq_false_or_eq_true (Option.isNone v570.2) with hc578 | hc578
            ·replace hx := cond_t hc578 hx
             obtain ⟨v579, hv579, hx⟩ := bind_e hx
             obtain rfl := Option.some.inj hx
             exact (J.mv rfl (J.k (JO.errEq Try.runUnderlying33 rfl) (J.mv rfl (J.m 267 hc578 (JO.move rfl) (J.m 267 hc578 (JO.ptrNeN rfl Try.runUnderlying102) (J.k (JO.pT hc578 rfl rfl) (J.mv rfl (J.m 271 rfl (JO.move rfl) (J.m 271 rfl (JO.move rfl) (J.m 271 rfl (JO.move rfl) (J.m 271 rfl (JO.move rfl) (J.m 271 rfl (JO.callL0 (con_law_sees hv579) Try.call53 (.cons (.lendP rfl rfl (.prm (.one _ _) (.one _ _))) (.cons (.ref rfl rfl) (.cons (.dir rfl) (.cons (.dir rfl) .nil)))) FlatS.v) (J.k (JO.pT rfl rfl rfl) (J.k (JO.assign rfl) (J.fin (Sw.Sub.mk id (.c rfl .nil) .nil rfl))))))))))))))))
            ·replace hx := cond_f hc578 hx
             obtain rfl := Option.some.inj hx
             exact (J.mv rfl (J.k (JO.errEq Try.runUnderlying33 rfl) (J.mv rfl (J.u 267 hc578 (J.u 267 hc578 (J.k (JO.pF hc578 rfl rfl) (J.mv rfl (J.u 271 rfl (J.u 271 rfl (J.u 271 rfl (J.u 271 rfl (J.u 271 rfl (J.k (JO.pF rfl rfl rfl) (J.k (JO.assign rfl) (J.fin (Sw.Sub.mk id (.c rfl .nil) .nil rfl))))))))))))))))
           refine W.ret ?_
           obtain rfl := Option.some.inj h
           exact XQ.sub (σ' := ⟨[(10, .v Enc.bool x577)], []⟩) (Sw.Sub.mk id (.c rfl .nil) .nil rfl) (XQ.ret1 hF noR rfl (RV.tmp rfl) .nil rfl)
         intro s322 r445 h
         refine W.seq ?_
         refine W.seq ?_
         refine W.reg (σ' := ⟨[(0, .v Q0 a0), (1, .v Q2 a1), (2, .v Q2 a2), (3, .v Q0 s322.1), (4, .v Q0 s322.2.1), (21, .ptr 121000 0), (22, .ref 122), (23, .v Q0 s322.2.2.1), (24, .v Q0 s322.2.2.2.1), (25, .v Q0 s322.2.2.2.2.1), (166, .v Enc.bool (cm .lss s322.2.2.2.2.1 (2 : Int)))], [(121000, .box 172 [.v Q0 s322.2.2.2.2.2.1, .v Q1 s322.2.2.2.2.2.2.1]), (122, .arr 56 eBlk s322.2.2.2.2.2.2.2)]⟩) (J.mv rfl (J.k (JO.cmp rfl rfl rfl) (J.fin (Sw.Sub.mk id (.c rfl (.c rfl (.c rfl (.c rfl (.c rfl (.c rfl (.c rfl (.c rfl (.c rfl (.c rfl (.c rfl .nil))))))))))) (.box rfl (.c rfl (.c rfl .nil)) (.arr rfl .nil)) rfl)))) ?_
         rcases Bool.eq_false_or_eq_true (cm .lss s322.2.2.2.2.1 (2 : Int)) with hc447 | hc447
         ·replace h := cond_t hc447 h
          refine W.condT rfl hc447 ?_
          refine W.skip ?_
          refine W.seq ?_
          refine W.block ?_
          refine W.seq ?_
          refine W.reg (σ' := ⟨[(0, .v Q0 a0), (1, .v Q2 a1), (2, .v Q2 a2), (3, .v Q0 s322.1), (4, .v Q0 s322.2.1), (21, .ptr 121000 0), (22, .ref 122), (23, .v Q0 s322.2.2.1), (24, .v Q0 s322.2.2.2.1), (25, .v Q0 s322.2.2.2.2.1), (26, .v Q2 a1)], [(121000, .box 172 [.v Q0 s322.2.2.2.2.2.1, .v Q1 s322.2.2.2.2.2.2.1]), (122, .arr 56 eBlk s322.2.2.2.2.2.2.2)]⟩) (J.mv rfl (J.k (JO.assign rfl) (J.fin (Sw.Sub.mk id (.c rfl (.c rfl (.c rfl (.c rfl (.c rfl (.c rfl (.c rfl (.c rfl (.c rfl (.c rfl (.c rfl .nil))))))))))) (.box rfl (.c rfl (.c rfl .nil)) (.arr rfl .nil)) rfl)))) ?_
          refine W.seq ?_
          refine W.seq ?_
          refine W.reg (σ' := ⟨[(0, .v Q0 a0), (1, .v Q2 a1), (2, .v Q2 a2), (3, .v Q0 s322.1), (4, .v Q0 s322.2.1), (21, .ptr 121000 0), (22, .ref 122), (23, .v Q0 s322.2.2.1), (24, .v Q0 s322.2.2.2.1), (25, .v Q0 s322.2.2.2.2.1), (26, .v Q2 a1), (171, .v Enc.bool (cm .eql s322.2.2.2.2.1 (1 : Int)))], [(121000, .box 172 [.v Q0 s322.2.2.2.2.2.1, .v Q1 s322.2.2.2.2.2.2.1]), (122, .arr 56 eBlk s322.2.2.2.2.2.2.2)]⟩) (J.mv rfl (J.k (JO.cmp rfl rfl rfl) (J.fin (Sw.Sub.mk id (.c rfl (.c rfl (.c rfl (.c rfl (.c rfl (.c rfl (.c rfl (.c rfl (.c rfl (.c rfl (.c rfl (.c rfl .nil)))))))))))) (.box rfl (.c rfl (.c rfl .nil)) (.arr rfl .nil)) rfl)))) ?_
          obtain ⟨k449, hk449, h⟩ := jp_elim h
          refine W.jn (fun x450 : (List (Int × Blk)) => ⟨[(0, .v Q0 a0), (1, .v Q2 a1), (2, .v Q2 a2), (3, .v Q0 s322.1), (4, .v Q0 s322.2.1), (21, .ptr 121000 0), (22, .ref 122), (23, .v Q0 s322.2.2.1), (24, .v Q0 s322.2.2.2.1), (25, .v Q0 s322.2.2.2.2.1), (26, .v Q2 x450)], [(121000, .box 172 [.v Q0 s322.2.2.2.2.2.1, .v Q1 s322.2.2.2.2.2.2.1]), (122, .arr 56 eBlk s322.2.2.2.2.2.2.2)]⟩) (fun x => k449 x = some r445) rfl ?_ ?_ ?_
          ·intro x450 h
           rw [hk449] at h
           refine W.seq ?_
           refine W.reg (σ' := ⟨[(0, .v Q0 a0), (1, .v Q2 a1), (2, .v Q2 a2), (3, .v Q0 s322.1), (4, .v Q0 s322.2.1), (21, .ptr 121000 0), (22, .ref 122), (23, .v Q0 s322.2.2.1), (24, .v Q0 s322.2.2.2.1), (25, .v Q0 s322.2.2.2.2.1), (26, .v Q2 x450), (27, .v Q0 (0 : Int))], [(121000, .box 172 [.v Q0 s322.2.2.2.2.2.1, .v Q1 s322.2.2.2.2.2.2.1]), (122, .arr 56 eBlk s322.2.2.2.2.2.2.2)]⟩) (J.k (JO.assign rfl) (J.fin (Sw.Sub.mk id (.c rfl (.c rfl (.c rfl (.c rfl (.c rfl (.c rfl (.c rfl (.c rfl (.c rfl (.c rfl (.c rfl (.c rfl .nil)))))))))))) (.box rfl (.c rfl (.c rfl .nil)) (.arr rfl .nil)) rfl))) ?_
           refine W.seq ?_
           refine W.seq ?_
           refine W.reg (σ' := ⟨[(0, .v Q0 a0), (1, .v Q2 a1), (2, .v Q2 a2), (3, .v Q0 s322.1), (4, .v Q0 s322.2.1), (21, .ptr 121000 0), (22, .ref 122), (23, .v Q0 s322.2.2.1), (24, .v Q0 s322.2.2.2.1), (25, .v Q0 s322.2.2.2.2.1), (26, .v Q2 x450), (27, .v Q0 (0 : Int)), (176, .v Enc.bool (cm .gtr (x450.length : Int) a0))], [(121000, .box 172 [.v Q0 s322.2.2.2.2.2.1, .v Q1 s322.2.2.2.2.2.2.1]), (122, .arr 56 eBlk s322.2.2.2.2.2.2.2)]⟩) (J.mv rfl (J.k (JO.len rfl Try.runUnderlying76) (J.mv rfl (J.k (JO.cmp rfl rfl rfl) (J.fin (Sw.Sub.mk id (.c rfl (.c rfl (.c rfl (.c rfl (.c rfl (.c rfl (.c rfl (.c rfl (.c rfl (.c rfl (.c rfl (.c rfl (.c rfl .nil))))))))))))) (.box rfl (.c rfl (.c rfl .nil)) (.arr rfl .nil)) rfl)))))) ?_
           obtain ⟨k452, hk452, h⟩ := jp_elim h
           refine W.jn (fun x453 : Int => ⟨[(0, .v Q0 a0), (1, .v Q2 a1), (2, .v Q2 a2), (3, .v Q0 s322.1), (4, .v Q0 s322.2.1), (21, .ptr 121000 0), (22, .ref 122), (23, .v Q0 s322.2.2.1), (24, .v Q0 s322.2.2.2.1), (25, .v Q0 s322.2.2.2.2.1), (26, .v Q2 x450), (27, .v Q0 x453)], [(121000, .box 172 [.v Q0 s322.2.2.2.2.2.1, .v Q1 s322.2.2.2.2.2.2.1]), (122, .arr 56 eBlk s322.2.2.2.2.2.2.2)]⟩) (fun x => k452 x = some r445) rfl ?_ ?_ ?_
           ·intro x453 h
            rw [hk452] at h
            refine W.seq ?_
            refine W.seq ?_
            obtain ⟨x458, hx, h⟩ := bind_e h
            refine W.reg (σ' := ⟨[(0, .v Q0 a0), (1, .v Q2 a1), (2, .v Q2 a2), (3, .v Q0 s322.1), (4, .v Q0 s322.2.1), (21, .ptr 121000 0), (22, .ref 122), (23, .v Q0 s322.2.2.1), (24, .v Q0 s322.2.2.2.1), (25, .v Q0 s322.2.2.2.2.1), (26, .v Q2 x450), (27, .v Q0 x453), (194, .v Enc.bool x458)], [(121000, .box 172 [.v Q0 s322.2.2.2.2.2.1, .v Q1 s322.2.2.2.2.2.2.1]), (122, .arr 56 eBlk s322.2.2.2.2.2.2.2)]⟩) ?_ ?_
            ·rcases Bool.eq_false_or_eq_true (cm .eql x453 (0 : Int)) with hc459 | hc459
             ·replace hx := cond_t hc459 hx
              rcases Bool.eq_false_or_eq_true (cm .lss s322.1 (0 : Int)) with hc460 | hc460
              ·replace hx := cond_t hc460 hx
               obtain rfl := Option.some.inj hx
               exact (J.mv rfl (J.k (JO.cmp rfl rfl rfl) (J.mv rfl (J.m 179 hc459 (JO.move rfl) (J.m 179 hc459 (JO.cmp rfl rfl rfl) (J.m 179 hc459 (JO.move rfl) (J.u 182 hc460 (J.u 182 hc460 (J.m 179 hc459 (JO.pT hc460 rfl rfl) (J.m 179 hc459 (JO.move rfl) (J.u 186 rfl (J.u 186 rfl (J.m 179 hc459 (JO.pT rfl rfl rfl) (J.m 179 hc459 (JO.move rfl) (J.u 190 rfl (J.u 190 rfl (J.m 179 hc459 (JO.pT rfl rfl rfl) (J.k (JO.pT hc459 rfl rfl) (J.fin (Sw.Sub.mk id (.c rfl (.c rfl (.c rfl (.c rfl (.c rfl (.c rfl (.c rfl (.c rfl (.c rfl (.c rfl (.c rfl (.c rfl (.c rfl .nil))))))))))))) (.box rfl (.c rfl (.c rfl .nil)) (.arr rfl .nil)) rfl))))))))))))))))))))
              ·replace hx := cond_f hc460 hx
               rcases Bool.eq_false_or_eq_true (cm .gtr s322.1 (2147483647 : Int)) with hc461 | hc461
               ·replace hx := cond_t hc461 hx
                obtain rfl := Option.some.inj hx
                exact (J.mv rfl (J.k (JO.cmp rfl rfl rfl) (J.mv rfl (J.m 179 hc459 (JO.move rfl) (J.m 179 hc459 (JO.cmp rfl rfl rfl) (J.m 179 hc459 (JO.move rfl) (J.m 182 hc460 (JO.move rfl) (J.m 182 hc460 (JO.cmp rfl rfl rfl) (J.m 179 hc459 (JO.pF hc460 rfl rfl) (J.m 179 hc459 (JO.move rfl) (J.u 186 hc461 (J.u 186 hc461 (J.m 179 hc459 (JO.pT hc461 rfl rfl) (J.m 179 hc459 (JO.move rfl) (J.u 190 rfl (J.u 190 rfl (J.m 179 hc459 (JO.pT rfl rfl rfl) (J.k (JO.pT hc459 rfl rfl) (J.fin (Sw.Sub.mk id (.c rfl (.c rfl (.c rfl (.c rfl (.c rfl (.c rfl (.c rfl (.c rfl (.c rfl (.c rfl (.c rfl (.c rfl (.c rfl .nil))))))))))))) (.box rfl (.c rfl (.c rfl .nil)) (.arr rfl .nil)) rfl))))))))))))))))))))
               ·replace hx := cond_f hc461 hx
                rcases Bool.eq_false_or_eq_true (cm .lss s322.2.1 (0 : Int)) with hc462 | hc462
                ·replace hx := cond_t hc462 hx
                 obtain rfl := Option.some.inj hx
                 exact (J.mv rfl (J.k (JO.cmp rfl rfl rfl) (J.mv rfl (J.m 179 hc459 (JO.move rfl) (J.m 179 hc459 (JO.cmp rfl rfl rfl) (J.m 179 hc459 (JO.move rfl) (J.m 182 hc460 (JO.move rfl) (J.m 182 hc460 (JO.cmp rfl rfl rfl) (J.m 179 hc459 (JO.pF hc460 rfl rfl) (J.m 179 hc459 (JO.move rfl) (J.m 186 hc461 (JO.move rfl) (J.m 186 hc461 (JO.cmp rfl rfl rfl) (J.m 179 hc459 (JO.pF hc461 rfl rfl) (J.m 179 hc459 (JO.move rfl) (J.u 190 hc462 (J.u 190 hc462 (J.m 179 hc459 (JO.pT hc462 rfl rfl) (J.k (JO.pT hc459 rfl rfl) (J.fin (Sw.Sub.mk id (.c rfl (.c rfl (.c rfl (.c rfl (.c rfl (.c rfl (.c rfl (.c rfl (.c rfl (.c rfl (.c rfl (.c rfl (.c rfl .nil))))))))))))) (.box rfl (.c rfl (.c rfl .nil)) (.arr rfl .nil)) rfl))))))))))))))))))))
                ·replace hx := cond_f hc462 hx
                 obtain rfl := Option.some.inj hx
                 exact (J.mv rfl (J.k (JO.cmp rfl rfl rfl) (J.mv rfl (J.m 179 hc459 (JO.move rfl) (J.m 179 hc459 (JO.cmp rfl rfl rfl) (J.m 179 hc459 (JO.move rfl) (J.m 182 hc460 (JO.move rfl) (J.m 182 hc460 (JO.cmp rfl rfl rfl) (J.m 179 hc459 (JO.pF hc460 rfl rfl) (J.m 179 hc459 (JO.move rfl) (J.m 186 hc461 (JO.move rfl) (J.m 186 hc461 (JO.cmp rfl rfl rfl) (J.m 179 hc459 (JO.pF hc461 rfl rfl) (J.m 179 hc459 (JO.move rfl) (J.m 190 hc462 (JO.move rfl) (J.m 190 hc462 (JO.cmp rfl rfl rfl) (J.m 179 hc459 (JO.pF hc462 rfl rfl) (J.k (JO.pT hc459 rfl rfl) (J.fin (Sw.Sub.mk id (.c rfl (.c rfl (.c rfl (.c rfl (.c rfl (.c rfl (.c rfl (.c rfl (.c rfl (.c rfl (.c rfl (.c rfl (.c rfl .nil))))))))))))) (.box rfl (.c rfl (.c rfl .nil)) (.arr rfl .nil)) rfl))))))))))))))))))))
             ·replace hx := cond_f hc459 hx
              obtain rfl := Option.some.inj hx
              exact (J.mv rfl (J.k (JO.cmp rfl rfl rfl) (J.mv rfl (J.u 179 hc459 (J.u 179 hc459 (J.u 179 hc459 (J.left (GK.und 182 rfl rfl rfl) rfl (J.left (GK.und 182 rfl rfl rfl) rfl (J.u 179 hc459 (J.u 179 hc459 (J.left (GK.und 186 rfl rfl rfl) rfl (J.left (GK.und 186 rfl rfl rfl) rfl (J.u 179 hc459 (J.u 179 hc459 (J.left (GK.und 190 rfl rfl rfl) rfl (J.left (GK.und 190 rfl rfl rfl) rfl (J.u 179 hc459 (J.k (JO.pF hc459 rfl rfl) (J.fin (Sw.Sub.mk id (.c rfl (.c rfl (.c rfl (.c rfl (.c rfl (.c rfl (.c rfl (.c rfl (.c rfl (.c rfl (.c rfl (.c rfl (.c rfl .nil))))))))))))) (.box rfl (.c rfl (.c rfl .nil)) (.arr rfl .nil)) rfl))))))))))))))))))))
            obtain ⟨k464, hk464, h⟩ := jp_elim h
            refine W.jn (fun x465 : Int => ⟨[(0, .v Q0 a0), (1, .v Q2 a1), (2, .v Q2 a2), (3, .v Q0 s322.1), (4, .v Q0 s322.2.1), (21, .ptr 121000 0), (22, .ref 122), (23, .v Q0 s322.2.2.1), (24, .v Q0 s322.2.2.2.1), (25, .v Q0 s322.2.2.2.2.1), (26, .v Q2 x450), (27, .v Q0 x465)], [(121000, .box 172 [.v Q0 s322.2.2.2.2.2.1, .v Q1 s322.2.2.2.2.2.2.1]), (122, .arr 56 eBlk s322.2.2.2.2.2.2.2)]⟩) (fun x => k464 x = some r445) rfl ?_ ?_ ?_
            ·intro x465 h
             rw [hk464] at h
             refine W.seq ?_
             refine W.seq ?_
             refine W.reg (σ' := ⟨[(0, .v Q0 a0), (1, .v Q2 a1), (2, .v Q2 a2), (3, .v Q0 s322.1), (4, .v Q0 s322.2.1), (21, .ptr 121000 0), (22, .ref 122), (23, .v Q0 s322.2.2.1), (24, .v Q0 s322.2.2.2.1), (25, .v Q0 s322.2.2.2.2.1), (26, .v Q2 x450), (27, .v Q0 x465), (28, .v Q0 (0 : Int))], [(121000, .box 172 [.v Q0 s322.2.2.2.2.2.1, .v Q1 s322.2.2.2.2.2.2.1]), (122, .arr 56 eBlk s322.2.2.2.2.2.2.2)]⟩) (J.k (JO.assign rfl) (J.fin (Sw.Sub.mk id (.c rfl (.c rfl (.c rfl (.c rfl (.c rfl (.c rfl (.c rfl (.c rfl (.c rfl (.c rfl (.c rfl (.c rfl (.c rfl .nil))))))))))))) (.box rfl (.c rfl (.c rfl .nil)) (.arr rfl .nil)) rfl))) ?_
             obtain ⟨o505, ho505, hb505, hr505⟩ := lp_elim h
             refine W.lp (σs := fun s492 : Int × Int => ⟨[(0, .v Q0 a0), (1, .v Q2 a1), (2, .v Q2 a2), (3, .v Q0 s322.1), (4, .v Q0 s322.2.1), (21, .ptr 121000 0), (22, .ref 122), (23, .v Q0 s322.2.2.1), (24, .v Q0 s322.2.2.2.1), (25, .v Q0 s322.2.2.2.2.1), (26, .v Q2 x450), (27, .v Q0 s492.1), (28, .v Q0 s492.2)], [(121000, .box 172 [.v Q0 s322.2.2.2.2.2.1, .v Q1 s322.2.2.2.2.2.2.1]), (122, .arr 56 eBlk s322.2.2.2.2.2.2.2)]⟩) (fun x506 : Int => ⟨[(0, .v Q0 a0), (1, .v Q2 a1), (2, .v Q2 a2), (3, .v Q0 s322.1), (4, .v Q0 s322.2.1), (21, .ptr 121000 0), (22, .ref 122), (23, .v Q0 s322.2.2.1), (24, .v Q0 s322.2.2.2.1), (25, .v Q0 s322.2.2.2.2.1), (26, .v Q2 x450), (27, .v Q0 x506)], [(121000, .box 172 [.v Q0 s322.2.2.2.2.2.1, .v Q1 s322.2.2.2.2.2.2.1]), (122, .arr 56 eBlk s322.2.2.2.2.2.2.2)]⟩) ho505 (Sw.Sub.mk id (.c rfl (.c rfl (.c rfl (.c rfl (.c rfl (.c rfl (.c rfl (.c rfl (.c rfl (.c rfl (.c rfl (.c rfl (.c rfl .nil))))))))))))) (.box rfl (.c rfl (.c rfl .nil)) (.arr rfl .nil)) rfl) ?_ ?_
             ·intro x506 hy
              have h := hb505 _ hy
              refine W.seq ?_
              refine W.seq ?_
              obtain ⟨v519, hv519, h⟩ := bind_e h
              obtain ⟨v520, hv520, h⟩ := bind_e h
              refine W.reg (σ' := ⟨[(0, .v Q0 a0), (1, .v Q2 a1), (2, .v Q2 a2), (3, .v Q0 s322.1), (4, .v Q0 s322.2.1), (21, .ptr 121000 0), (22, .ref 122), (23, .v Q0 s322.2.2.1), (24, .v Q0 s322.2.2.2.1), (25, .v Q0 s322.2.2.2.2.1), (26, .v Q2 x450), (27, .v Q0 x506), (227, .v Enc.bool (!v520))], [(121000, .box 172 [.v Q0 v519.2.1, .v Q1 v519.2.2]), (122, .arr 56 eBlk s322.2.2.2.2.2.2.2)]⟩) (J.mv rfl (J.mv rfl (J.mv rfl (J.mv rfl (J.t (JM.callM (H := [121000]) (K := [121000]) (swp [(9000, 121000)]) (swp_inj _) (fun A => con_store_Store_Commit_io A hv519) Try.call54 (.cons (.dir rfl) (.cons (.dir rfl) (.cons (.dir rfl) (.cons (.dir rfl) .nil)))) (fun A => (.box rfl .nil)) (fun A => (.box rfl .nil rfl)) (fun _ => rfl) rfl rfl (fun _ => rfl) rfl rfl) (J.mv rfl (J.k (JO.call0 (con_ref_Is hv520) Try.call14 (.cons (.dir rfl) (.cons (.dir rfl) .nil))) (J.k (JO.not rfl) (J.fin (Sw.Sub.mk id (.c rfl (.c rfl (.c rfl (.c rfl (.c rfl (.c rfl (.c rfl (.c rfl (.c rfl (.c rfl (.c rfl (.c rfl (.c rfl .nil))))))))))))) (.box rfl (.c rfl (.c rfl .nil)) (.arr rfl .nil)) rfl)))))))))) ?_
              rcases Bool.eq_false_or_eq_true (!v520) with hc521 | hc521
              ·replace h := cond_t hc521 h
               refine W.condT rfl hc521 ?_
               refine W.seq ?_
               refine W.reg (σ' := ⟨[(10, .v Enc.bool false)], []⟩) (J.k (JO.assign rfl) (J.fin (Sw.Sub.mk id (.c rfl .nil) .nil rfl))) ?_
               refine W.ret ?_
               refine XQ.ret ?_
               obtain rfl := Option.some.inj h
               refine XQ.lret fun ho => ?_
               obtain rfl := hr445 _ ho
               exact XQ.sub (σ' := ⟨[(10, .v Enc.bool false)], []⟩) (Sw.Sub.mk id (.c rfl .nil) .nil rfl) (XQ.ret1 hF noR rfl (RV.tmp rfl) .nil rfl)
              ·replace h := cond_f hc521 h
               refine W.condF rfl hc521 ?_
               refine W.skip ?_
               refine W.seq ?_
               refine W.seq ?_
               refine W.reg (σ' := ⟨[(0, .v Q0 a0), (1, .v Q2 a1), (2, .v Q2 a2), (3, .v Q0 s322.1), (4, .v Q0 s322.2.1), (21, .ptr 121000 0), (22, .ref 122), (23, .v Q0 s322.2.2.1), (24, .v Q0 s322.2.2.2.1), (25, .v Q0 s322.2.2.2.2.1), (26, .v Q2 x450), (229, .v Enc.bool (cm .eql x506 (0 : Int)))], [(121000, .box 172 [.v Q0 v519.2.1, .v Q1 v519.2.2]), (122, .arr 56 eBlk s322.2.2.2.2.2.2.2)]⟩) (J.mv rfl (J.k (JO.cmp rfl rfl rfl) (J.fin (Sw.Sub.mk id (.c rfl (.c rfl (.c rfl (.c rfl (.c rfl (.c rfl (.c rfl (.c rfl (.c rfl (.c rfl (.c rfl (.c rfl .nil)))))))))))) (.box rfl (.c rfl (.c rfl .nil)) (.arr rfl .nil)) rfl)))) ?_
               obtain ⟨k544, hk544, h⟩ := jp_elim h
               refine W.jn (fun x545 : Int × Int × (List Blk) => ⟨[(0, .v Q0 a0), (1, .v Q2 a1), (2, .v Q2 a2), (3, .v Q0 s322.1), (4, .v Q0 s322.2.1), (21, .ptr 121000 0), (22, .ref 122), (23, .v Q0 x545.1), (24, .v Q0 x545.2.1), (25, .v Q0 s322.2.2.2.2.1)], [(121000, .box 172 [.v Q0 v519.2.1, .v Q1 v519.2.2]), (122, .arr 56 eBlk x545.2.2)]⟩) (fun x => k544 x = some r445) rfl ?_ ?_ ?_
               ·intro x545 h
                rw [hk544] at h
                refine W.seq ?_
                refine W.seq ?_
                obtain ⟨v567, hv567, h⟩ := bind_e h
                refine W.reg (σ' := ⟨[(0, .v Q0 a0), (1, .v Q2 a1), (2, .v Q2 a2), (3, .v Q0 s322.1), (4, .v Q0 s322.2.1), (21, .ptr 121000 0), (22, .ref 122), (23, .v Q0 x545.1), (24, .v Q0 x545.2.1), (25, .v Q0 s322.2.2.2.2.1), (255, .v Enc.bool (!v567))], [(121000, .box 172 [.v Q0 v519.2.1, .v Q1 v519.2.2]), (122, .arr 56 eBlk x545.2.2)]⟩) (J.mv rfl (J.mv rfl (J.mv rfl (J.mv rfl (J.k (JO.callL0 (con_law_sees hv567) Try.call53 (.cons (.lendP rfl rfl (.prm (.one _ _) (.one _ _))) (.cons (.ref rfl rfl) (.cons (.dir rfl) (.cons (.dir rfl) .nil)))) FlatS.v) (J.k (JO.not rfl) (J.fin (Sw.Sub.mk id (.c rfl (.c rfl (.c rfl (.c rfl (.c rfl (.c rfl (.c rfl (.c rfl (.c rfl (.c rfl (.c rfl .nil))))))))))) (.box rfl (.c rfl (.c rfl .nil)) (.arr rfl .nil)) rfl)))))))) ?_
                rcases Bool.eq_false_or_eq_true (!v567) with hc568 | hc568
                ·replace h := cond_t hc568 h
                 refine W.condT rfl hc568 ?_
                 refine W.seq ?_
                 refine W.reg (σ' := ⟨[(10, .v Enc.bool false)], []⟩) (J.k (JO.assign rfl) (J.fin (Sw.Sub.mk id (.c rfl .nil) .nil rfl))) ?_
                 refine W.ret ?_
                 refine XQ.ret ?_
                 obtain rfl := Option.some.inj h
                 refine XQ.lret fun ho => ?_
                 obtain rfl := hr445 _ ho
                 exact XQ.sub (σ' := ⟨[(10, .v Enc.bool false)], []⟩) (Sw.Sub.mk id (.c rfl .nil) .nil rfl) (XQ.ret1 hF noR rfl (RV.tmp rfl) .nil rfl)
                ·replace h := cond_f hc568 h
                 refine W.condF rfl hc568 ?_
                 refine W.skip ?_
                 refine W.reg (σ' := ⟨[(0, .v Q0 a0), (1, .v Q2 a1), (2, .v Q2 a2), (3, .v Q0 s322.2.1), (4, .v Q0 s322.1), (21, .ptr 121000 0), (22, .ref 122), (23, .v Q0 x545.1), (24, .v Q0 x545.2.1), (25, .v Q0 s322.2.2.2.2.1)], [(121000, .box 172 [.v Q0 v519.2.1, .v Q1 v519.2.2]), (122, .arr 56 eBlk x545.2.2)]⟩) (J.mv rfl (J.mv rfl (J.k (JO.assign rfl) (J.k (JO.assign rfl) (J.fin (Sw.Sub.mk id (.c rfl (.c rfl (.c rfl (.c rfl (.c rfl (.c rfl (.c rfl (.c rfl (.c rfl (.c rfl .nil)))))))))) (.box rfl (.c rfl (.c rfl .nil)) (.arr rfl .nil)) rfl)))))) ?_
                 refine W.fall ?_
                 refine W.reg (σ' := ⟨[(0, .v Q0 a0), (1, .v Q2 a1), (2, .v Q2 a2), (3, .v Q0 s322.2.1), (4, .v Q0 s322.1), (21, .ptr 121000 0), (22, .ref 122), (23, .v Q0 x545.1), (24, .v Q0 x545.2.1), (25, .v Q0 (ar .add .i64 s322.2.2.2.2.1 (1 : Int)))], [(121000, .box 172 [.v Q0 v519.2.1, .v Q1 v519.2.2]), (122, .arr 56 eBlk x545.2.2)]⟩) (J.mv rfl (J.k (JO.arith rfl rfl rfl) (J.k (JO.assign rfl) (J.fin (Sw.Sub.mk id (.c rfl (.c rfl (.c rfl (.c rfl (.c rfl (.c rfl (.c rfl (.c rfl (.c rfl (.c rfl .nil)))))))))) (.box rfl (.c rfl (.c rfl .nil)) (.arr rfl .nil)) rfl))))) ?_
                 obtain rfl := Option.some.inj h
                 exact W.next (Sw.Sub.mk id (.c rfl (.c rfl (.c rfl (.c rfl (.c rfl (.c rfl (.c rfl (.c rfl (.c rfl (.c rfl .nil)))))))))) (.box rfl (.c rfl (.c rfl .nil)) (.arr rfl .nil)) rfl)
               ·intro hc522
                replace h := cond_t hc522 h
                refine W.seq ?_
                refine W.seq ?_
                refine W.reg (σ' := ⟨[(0, .v Q0 a0), (1, .v Q2 a1), (2, .v Q2 a2), (3, .v Q0 s322.1), (4, .v Q0 s322.2.1), (21, .ptr 121000 0), (22, .ref 122), (25, .v Q0 s322.2.2.2.2.1), (26, .v Q2 x450), (29, .v Q0 (0 : Int))], [(121000, .box 172 [.v Q0 v519.2.1, .v Q1 v519.2.2]), (122, .arr 56 eBlk s322.2.2.2.2.2.2.2)]⟩) (J.k (JO.assign rfl) (J.fin (Sw.Sub.mk id (.c rfl (.c rfl (.c rfl (.c rfl (.c rfl (.c rfl (.c rfl (.c rfl (.c rfl (.c rfl .nil)))))))))) (.box rfl (.c rfl (.c rfl .nil)) (.arr rfl .nil)) rfl))) ?_
                obtain ⟨o561, ho561, hb561, hr561⟩ := lp_elim h
                refine W.lp (σs := fun s556 : Int × (List Blk) => ⟨[(0, .v Q0 a0), (1, .v Q2 a1), (2, .v Q2 a2), (3, .v Q0 s322.1), (4, .v Q0 s322.2.1), (21, .ptr 121000 0), (22, .ref 122), (25, .v Q0 s322.2.2.2.2.1), (26, .v Q2 x450), (29, .v Q0 s556.1)], [(121000, .box 172 [.v Q0 v519.2.1, .v Q1 v519.2.2]), (122, .arr 56 eBlk s556.2)]⟩) (fun x562 : (List Blk) => ⟨[(0, .v Q0 a0), (1, .v Q2 a1), (2, .v Q2 a2), (3, .v Q0 s322.1), (4, .v Q0 s322.2.1), (21, .ptr 121000 0), (22, .ref 122), (25, .v Q0 s322.2.2.2.2.1)], [(121000, .box 172 [.v Q0 v519.2.1, .v Q1 v519.2.2]), (122, .arr 56 eBlk x562)]⟩) ho561 (Sw.Sub.mk id (.c rfl (.c rfl (.c rfl (.c rfl (.c rfl (.c rfl (.c rfl (.c rfl (.c rfl (.c rfl .nil)))))))))) (.box rfl (.c rfl (.c rfl .nil)) (.arr rfl .nil)) rfl) ?_ ?_
                ·intro x562 hy
                 have h := hb561 _ hy
                 refine W.seq ?_
                 refine W.reg (σ' := ⟨[(0, .v Q0 a0), (1, .v Q2 a1), (2, .v Q2 a2), (3, .v Q0 s322.1), (4, .v Q0 s322.2.1), (21, .ptr 121000 0), (22, .ref 122), (23, .v Q0 s322.1), (25, .v Q0 s322.2.2.2.2.1)], [(121000, .box 172 [.v Q0 v519.2.1, .v Q1 v519.2.2]), (122, .arr 56 eBlk x562)]⟩) (J.mv rfl (J.k (JO.assign rfl) (J.fin (Sw.Sub.mk id (.c rfl (.c rfl (.c rfl (.c rfl (.c rfl (.c rfl (.c rfl (.c rfl (.c rfl .nil))))))))) (.box rfl (.c rfl (.c rfl .nil)) (.arr rfl .nil)) rfl)))) ?_
                 refine W.reg (σ' := ⟨[(0, .v Q0 a0), (1, .v Q2 a1), (2, .v Q2 a2), (3, .v Q0 s322.1), (4, .v Q0 s322.2.1), (21, .ptr 121000 0), (22, .ref 122), (23, .v Q0 s322.1), (24, .v Q0 s322.2.1), (25, .v Q0 s322.2.2.2.2.1)], [(121000, .box 172 [.v Q0 v519.2.1, .v Q1 v519.2.2]), (122, .arr 56 eBlk x562)]⟩) (J.mv rfl (J.k (JO.assign rfl) (J.fin (Sw.Sub.mk id (.c rfl (.c rfl (.c rfl (.c rfl (.c rfl (.c rfl (.c rfl (.c rfl (.c rfl (.c rfl .nil)))))))))) (.box rfl (.c rfl (.c rfl .nil)) (.arr rfl .nil)) rfl)))) ?_
                 exact W.jfall h (Sw.Sub.mk id (.c rfl (.c rfl (.c rfl (.c rfl (.c rfl (.c rfl (.c rfl (.c rfl (.c rfl (.c rfl .nil)))))))))) (.box rfl (.c rfl (.c rfl .nil)) (.arr rfl .nil)) rfl)
                intro s556 r561 h
                refine W.seq ?_
                refine W.seq ?_
                refine W.reg (σ' := ⟨[(0, .v Q0 a0), (1, .v Q2 a1), (2, .v Q2 a2), (3, .v Q0 s322.1), (4, .v Q0 s322.2.1), (21, .ptr 121000 0), (22, .ref 122), (25, .v Q0 s322.2.2.2.2.1), (26, .v Q2 x450), (29, .v Q0 s556.1), (233, .v Enc.bool (cm .lss s556.1 (x450.length : Int)))], [(121000, .box 172 [.v Q0 v519.2.1, .v Q1 v519.2.2]), (122, .arr 56 eBlk s556.2)]⟩) (J.mv rfl (J.mv rfl (J.k (JO.len rfl Try.runUnderlying76) (J.k (JO.cmp rfl rfl rfl) (J.fin (Sw.Sub.mk id (.c rfl (.c rfl (.c rfl (.c rfl (.c rfl (.c rfl (.c rfl (.c rfl (.c rfl (.c rfl (.c rfl .nil))))))))))) (.box rfl (.c rfl (.c rfl .nil)) (.arr rfl .nil)) rfl)))))) ?_
                rcases Bool.eq_false_or_eq_true (cm .lss s556.1 (x450.length : Int)) with hc563 | hc563
                ·replace h := cond_t hc563 h
                 refine W.condT rfl hc563 ?_
                 refine W.skip ?_
                 refine W.seq ?_
                 refine W.block ?_
                 obtain ⟨z564, hz564, h⟩ := bind_e h
                 obtain ⟨z565, hz565, h⟩ := bind_e h
                 obtain ⟨z566, hz566, h⟩ := bind_e h
                 refine W.dr2 (σ' := ⟨[(0, .v Q0 a0), (1, .v Q2 a1), (2, .v Q2 a2), (3, .v Q0 s322.1), (4, .v Q0 s322.2.1), (21, .ptr 121000 0), (22, .ref 122), (25, .v Q0 s322.2.2.2.2.1), (26, .v Q2 x450), (29, .v Q0 s556.1)], [(121000, .box 172 [.v Q0 v519.2.1, .v Q1 v519.2.2]), (122, .arr 56 eBlk (List.set s556.2 (Int.toNat z564.1) z565.2))]⟩) 12 [0, 0, 0, 6, 14, 30, 0, 0, 192, 448, 960, 2047, 4095] mixed (by exact (.cons (.none rfl) (JO.move rfl) rfl rfl (.cons (.none rfl) (JO.move rfl) rfl rfl (.cons (.none rfl) (JO.move rfl) rfl rfl (.cons (.none rfl) (JO.idx hz564 rfl rfl Try.runUnderlying76 Try.sizeOf85) rfl rfl (.cons (.none rfl) (JO.fieldPst rfl Try.runUnderlying85 rfl Try.sizeOf3 rfl (.fst .here) rfl) rfl rfl (.cons (.none rfl) (JO.loadPst rfl Try.isAgg3 Try.sizeOf3) rfl rfl (.cons (.none rfl) (JO.move rfl) rfl rfl (.cons (.none rfl) (JO.move rfl) rfl rfl (.cons (.none rfl) (JO.idx hz565 rfl rfl Try.runUnderlying76 Try.sizeOf85) rfl rfl (.cons (.none rfl) (JO.fieldPst rfl Try.runUnderlying85 rfl Try.sizeOf56 rfl (.snd .here) rfl) rfl rfl (.cons (.none rfl) (JO.loadPst rfl Try.isAgg56 Try.sizeOf56) rfl rfl (.cons (.none rfl) (JO.idxR hz566 rfl rfl rfl Try.runUnderlying26 Try.sizeOf56) rfl rfl .nil))))))))))))) (by exact (J.t (JM.storeEl (idx_some hz566).2.2 rfl rfl rfl Try.sizeOf56) (J.fin (Sw.Sub.mk id (.c rfl (.c rfl (.c rfl (.c rfl (.c rfl (.c rfl (.c rfl (.c rfl (.c rfl (.c rfl .nil)))))))))) (.box rfl (.c rfl (.c rfl .nil)) (.arr rfl .nil)) rfl)))) rfl (by decide +kernel) (by decide +kernel) (by decide +kernel) (by kernel_rfl) ?_
                 refine W.fall ?_
                 refine W.reg (σ' := ⟨[(0, .v Q0 a0), (1, .v Q2 a1), (2, .v Q2 a2), (3, .v Q0 s322.1), (4, .v Q0 s322.2.1), (21, .ptr 121000 0), (22, .ref 122), (25, .v Q0 s322.2.2.2.2.1), (26, .v Q2 x450), (29, .v Q0 (ar .add .i64 s556.1 (1 : Int)))], [(121000, .box 172 [.v Q0 v519.2.1, .v Q1 v519.2.2]), (122, .arr 56 eBlk (List.set s556.2 (Int.toNat z564.1) z565.2))]⟩) (J.mv rfl (J.k (JO.arith rfl rfl rfl) (J.k (JO.assign rfl) (J.fin (Sw.Sub.mk id (.c rfl (.c rfl (.c rfl (.c rfl (.c rfl (.c rfl (.c rfl (.c rfl (.c rfl (.c rfl .nil)))))))))) (.box rfl (.c rfl (.c rfl .nil)) (.arr rfl .nil)) rfl))))) ?_
                 obtain rfl := Option.some.inj h
                 exact W.next (Sw.Sub.mk id (.c rfl (.c rfl (.c rfl (.c rfl (.c rfl (.c rfl (.c rfl (.c rfl (.c rfl (.c rfl .nil)))))))))) (.box rfl (.c rfl (.c rfl .nil)) (.arr rfl .nil)) rfl)
                ·replace h := cond_f hc563 h
                 refine W.condF rfl hc563 ?_
                 refine W.exit ?_
                 obtain rfl := Option.some.inj h
                 exact XQ.brk (Sw.Sub.mk id (.c rfl (.c rfl (.c rfl (.c rfl (.c rfl (.c rfl (.c rfl (.c rfl .nil)))))))) (.box rfl (.c rfl (.c rfl .nil)) (.arr rfl .nil)) rfl)
               ·intro hc522
                replace h := cond_f hc522 h
                refine W.skip ?_
                exact W.jfall h (Sw.Sub.mk id (.c rfl (.c rfl (.c rfl (.c rfl (.c rfl (.c rfl (.c rfl (.c rfl (.c rfl (.c rfl .nil)))))))))) (.box rfl (.c rfl (.c rfl .nil)) (.arr rfl .nil)) rfl)
             intro s492 r505 h
             refine W.seq ?_
             refine W.seq ?_
             obtain ⟨x508, hx, h⟩ := bind_e h
             refine W.reg (σ' := ⟨[(0, .v Q0 a0), (1, .v Q2 a1), (2, .v Q2 a2), (3, .v Q0 s322.1), (4, .v Q0 s322.2.1), (21, .ptr 121000 0), (22, .ref 122), (23, .v Q0 s322.2.2.1), (24, .v Q0 s322.2.2.2.1), (25, .v Q0 s322.2.2.2.2.1), (26, .v Q2 x450), (27, .v Q0 s492.1), (28, .v Q0 s492.2), (202, .v Enc.bool x508)], [(121000, .box 172 [.v Q0 s322.2.2.2.2.2.1, .v Q1 s322.2.2.2.2.2.2.1]), (122, .arr 56 eBlk s322.2.2.2.2.2.2.2)]⟩) ?_ ?_
             ·rcases Bool.eq_false_or_eq_true (cm .lss s492.2 (x450.length : Int)) with hc509 | hc509
              ·replace hx := cond_t hc509 hx
               obtain rfl := Option.some.inj hx
               exact (J.mv rfl (J.mv rfl (J.k (JO.len rfl Try.runUnderlying76) (J.k (JO.cmp rfl rfl rfl) (J.mv rfl (J.m 199 hc509 (JO.move rfl) (J.m 199 hc509 (JO.cmp rfl rfl rfl) (J.k (JO.pT hc509 rfl rfl) (J.fin (Sw.Sub.mk id (.c rfl (.c rfl (.c rfl (.c rfl (.c rfl (.c rfl (.c rfl (.c rfl (.c rfl (.c rfl (.c rfl (.c rfl (.c rfl (.c rfl .nil)))))))))))))) (.box rfl (.c rfl (.c rfl .nil)) (.arr rfl .nil)) rfl))))))))))
              ·replace hx := cond_f hc509 hx
               obtain rfl := Option.some.inj hx
               exact (J.mv rfl (J.mv rfl (J.k (JO.len rfl Try.runUnderlying76) (J.k (JO.cmp rfl rfl rfl) (J.mv rfl (J.u 199 hc509 (J.u 199 hc509 (J.k (JO.pF hc509 rfl rfl) (J.fin (Sw.Sub.mk id (.c rfl (.c rfl (.c rfl (.c rfl (.c rfl (.c rfl (.c rfl (.c rfl (.c rfl (.c rfl (.c rfl (.c rfl (.c rfl (.c rfl .nil)))))))))))))) (.box rfl (.c rfl (.c rfl .nil)) (.arr rfl .nil)) rfl))))))))))
             rcases Bool.eq_false_or_eq_true x508 with hc510 | hc510
             ·replace h := cond_t hc510 h
              refine W.condT rfl hc510 ?_
              refine W.skip ?_
              refine W.seq ?_
              refine W.block ?_
              refine W.seq ?_
              obtain ⟨x514, hx, h⟩ := bind_e h
              refine W.reg (σ' := ⟨[(0, .v Q0 a0), (1, .v Q2 a1), (2, .v Q2 a2), (3, .v Q0 s322.1), (4, .v Q0 s322.2.1), (21, .ptr 121000 0), (22, .ref 122), (23, .v Q0 s322.2.2.1), (24, .v Q0 s322.2.2.2.1), (25, .v Q0 s322.2.2.2.2.1), (26, .v Q2 x450), (27, .v Q0 s492.1), (28, .v Q0 s492.2), (219, .v Enc.bool x514)], [(121000, .box 172 [.v Q0 s322.2.2.2.2.2.1, .v Q1 s322.2.2.2.2.2.2.1]), (122, .arr 56 eBlk s322.2.2.2.2.2.2.2)]⟩) ?_ ?_
              ·obtain ⟨z515, hz515, hx⟩ := bind_e hx
               rcases Bool.eq_false_or_eq_true (cm .lss z515.1 (0 : Int)) with hc516 | hc516
               ·replace hx := cond_t hc516 hx
                obtain rfl := Option.some.inj hx
                exact (J.mv rfl (J.mv rfl (J.k (JO.idx hz515 rfl rfl Try.runUnderlying76 Try.sizeOf85) (J.k (JO.fieldPst rfl Try.runUnderlying85 rfl Try.sizeOf3 rfl (.fst .here) rfl) (J.k (JO.loadPst rfl Try.isAgg3 Try.sizeOf3) (J.k (JO.cmp rfl rfl rfl) (J.mv rfl (J.u 211 hc516 (J.u 211 hc516 (J.u 211 hc516 (J.u 211 hc516 (J.u 211 hc516 (J.u 211 hc516 (J.u 211 hc516 (J.k (JO.pT hc516 rfl rfl) (J.fin (Sw.Sub.mk id (.c rfl (.c rfl (.c rfl (.c rfl (.c rfl (.c rfl (.c rfl (.c rfl (.c rfl (.c rfl (.c rfl (.c rfl (.c rfl (.c rfl .nil)))))))))))))) (.box rfl (.c rfl (.c rfl .nil)) (.arr rfl .nil)) rfl)))))))))))))))))
               ·replace hx := cond_f hc516 hx
                obtain ⟨z517, hz517, hx⟩ := bind_e hx
                obtain rfl := Option.some.inj hx
                exact (J.mv rfl (J.mv rfl (J.k (JO.idx hz515 rfl rfl Try.runUnderlying76 Try.sizeOf85) (J.k (JO.fieldPst rfl Try.runUnderlying85 rfl Try.sizeOf3 rfl (.fst .here) rfl) (J.k (JO.loadPst rfl Try.isAgg3 Try.sizeOf3) (J.k (JO.cmp rfl rfl rfl) (J.mv rfl (J.m 211 hc516 (JO.move rfl) (J.m 211 hc516 (JO.move rfl) (J.m 211 hc516 (JO.idx hz517 rfl rfl Try.runUnderlying76 Try.sizeOf85) (J.m 211 hc516 (JO.fieldPst rfl Try.runUnderlying85 rfl Try.sizeOf3 rfl (.fst .here) rfl) (J.m 211 hc516 (JO.loadPst rfl Try.isAgg3 Try.sizeOf3) (J.m 211 hc516 (JO.move rfl) (J.m 211 hc516 (JO.cmp rfl rfl rfl) (J.k (JO.pF hc516 rfl rfl) (J.fin (Sw.Sub.mk id (.c rfl (.c rfl (.c rfl (.c rfl (.c rfl (.c rfl (.c rfl (.c rfl (.c rfl (.c rfl (.c rfl (.c rfl (.c rfl (.c rfl .nil)))))))))))))) (.box rfl (.c rfl (.c rfl .nil)) (.arr rfl .nil)) rfl)))))))))))))))))
              rcases Bool.eq_false_or_eq_true x514 with hc518 | hc518
              ·replace h := cond_t hc518 h
               refine W.condT rfl hc518 ?_
               refine W.reg (σ' := ⟨[(0, .v Q0 a0), (1, .v Q2 a1), (2, .v Q2 a2), (3, .v Q0 s322.1), (4, .v Q0 s322.2.1), (21, .ptr 121000 0), (22, .ref 122), (23, .v Q0 s322.2.2.1), (24, .v Q0 s322.2.2.2.1), (25, .v Q0 s322.2.2.2.2.1), (26, .v Q2 x450), (27, .v Q0 (1 : Int)), (28, .v Q0 s492.2)], [(121000, .box 172 [.v Q0 s322.2.2.2.2.2.1, .v Q1 s322.2.2.2.2.2.2.1]), (122, .arr 56 eBlk s322.2.2.2.2.2.2.2)]⟩) (J.k (JO.assign rfl) (J.fin (Sw.Sub.mk id (.c rfl (.c rfl (.c rfl (.c rfl (.c rfl (.c rfl (.c rfl (.c rfl (.c rfl (.c rfl (.c rfl (.c rfl (.c rfl .nil))))))))))))) (.box rfl (.c rfl (.c rfl .nil)) (.arr rfl .nil)) rfl))) ?_
               refine W.fall ?_
               refine W.reg (σ' := ⟨[(0, .v Q0 a0), (1, .v Q2 a1), (2, .v Q2 a2), (3, .v Q0 s322.1), (4, .v Q0 s322.2.1), (21, .ptr 121000 0), (22, .ref 122), (23, .v Q0 s322.2.2.1), (24, .v Q0 s322.2.2.2.1), (25, .v Q0 s322.2.2.2.2.1), (26, .v Q2 x450), (27, .v Q0 (1 : Int)), (28, .v Q0 (ar .add .i64 s492.2 (1 : Int)))], [(121000, .box 172 [.v Q0 s322.2.2.2.2.2.1, .v Q1 s322.2.2.2.2.2.2.1]), (122, .arr 56 eBlk s322.2.2.2.2.2.2.2)]⟩) (J.mv rfl (J.k (JO.arith rfl rfl rfl) (J.k (JO.assign rfl) (J.fin (Sw.Sub.mk id (.c rfl (.c rfl (.c rfl (.c rfl (.c rfl (.c rfl (.c rfl (.c rfl (.c rfl (.c rfl (.c rfl (.c rfl (.c rfl .nil))))))))))))) (.box rfl (.c rfl (.c rfl .nil)) (.arr rfl .nil)) rfl))))) ?_
               obtain rfl := Option.some.inj h
               exact W.next (Sw.Sub.mk id (.c rfl (.c rfl (.c rfl (.c rfl (.c rfl (.c rfl (.c rfl (.c rfl (.c rfl (.c rfl (.c rfl (.c rfl (.c rfl .nil))))))))))))) (.box rfl (.c rfl (.c rfl .nil)) (.arr rfl .nil)) rfl)
              ·replace h := cond_f hc518 h
               refine W.condF rfl hc518 ?_
               refine W.skip ?_
               refine W.fall ?_
               refine W.reg (σ' := ⟨[(0, .v Q0 a0), (1, .v Q2 a1), (2, .v Q2 a2), (3, .v Q0 s322.1), (4, .v Q0 s322.2.1), (21, .ptr 121000 0), (22, .ref 122), (23, .v Q0 s322.2.2.1), (24, .v Q0 s322.2.2.2.1), (25, .v Q0 s322.2.2.2.2.1), (26, .v Q2 x450), (27, .v Q0 s492.1), (28, .v Q0 (ar .add .i64 s492.2 (1 : Int)))], [(121000, .box 172 [.v Q0 s322.2.2.2.2.2.1, .v Q1 s322.2.2.2.2.2.2.1]), (122, .arr 56 eBlk s322.2.2.2.2.2.2.2)]⟩) (J.mv rfl (J.k (JO.arith rfl rfl rfl) (J.k (JO.assign rfl) (J.fin (Sw.Sub.mk id (.c rfl (.c rfl (.c rfl (.c rfl (.c rfl (.c rfl (.c rfl (.c rfl (.c rfl (.c rfl (.c rfl (.c rfl (.c rfl .nil))))))))))))) (.box rfl (.c rfl (.c rfl .nil)) (.arr rfl .nil)) rfl))))) ?_
               obtain rfl := Option.some.inj h
               exact W.next (Sw.Sub.mk id (.c rfl (.c rfl (.c rfl (.c rfl (.c rfl (.c rfl (.c rfl (.c rfl (.c rfl (.c rfl (.c rfl (.c rfl (.c rfl .nil))))))))))))) (.box rfl (.c rfl (.c rfl .nil)) (.arr rfl .nil)) rfl)
             ·replace h := cond_f hc510 h
              refine W.condF rfl hc510 ?_
              refine W.exit ?_
              obtain rfl := Option.some.inj h
              exact XQ.brk (Sw.Sub.mk id (.c rfl (.c rfl (.c rfl (.c rfl (.c rfl (.c rfl (.c rfl (.c rfl (.c rfl (.c rfl (.c rfl (.c rfl .nil)))))))))))) (.box rfl (.c rfl (.c rfl .nil)) (.arr rfl .nil)) rfl)
            ·intro hc463
             replace h := cond_t hc463 h
             refine W.reg (σ' := ⟨[(0, .v Q0 a0), (1, .v Q2 a1), (2, .v Q2 a2), (3, .v Q0 s322.1), (4, .v Q0 s322.2.1), (21, .ptr 121000 0), (22, .ref 122), (23, .v Q0 s322.2.2.1), (24, .v Q0 s322.2.2.2.1), (25, .v Q0 s322.2.2.2.2.1), (26, .v Q2 x450), (27, .v Q0 (1 : Int))], [(121000, .box 172 [.v Q0 s322.2.2.2.2.2.1, .v Q1 s322.2.2.2.2.2.2.1]), (122, .arr 56 eBlk s322.2.2.2.2.2.2.2)]⟩) (J.k (JO.assign rfl) (J.fin (Sw.Sub.mk id (.c rfl (.c rfl (.c rfl (.c rfl (.c rfl (.c rfl (.c rfl (.c rfl (.c rfl (.c rfl (.c rfl (.c rfl .nil)))))))))))) (.box rfl (.c rfl (.c rfl .nil)) (.arr rfl .nil)) rfl))) ?_
             exact W.jfall h (Sw.Sub.mk id (.c rfl (.c rfl (.c rfl (.c rfl (.c rfl (.c rfl (.c rfl (.c rfl (.c rfl (.c rfl (.c rfl (.c rfl .nil)))))))))))) (.box rfl (.c rfl (.c rfl .nil)) (.arr rfl .nil)) rfl)
            ·intro hc463
             replace h := cond_f hc463 h
             refine W.skip ?_
             exact W.jfall h (Sw.Sub.mk id (.c rfl (.c rfl (.c rfl (.c rfl (.c rfl (.c rfl (.c rfl (.c rfl (.c rfl (.c rfl (.c rfl (.c rfl .nil)))))))))))) (.box rfl (.c rfl (.c rfl .nil)) (.arr rfl .nil)) rfl)
           ·intro hc451
            replace h := cond_t hc451 h
            refine W.reg (σ' := ⟨[(0, .v Q0 a0), (1, .v Q2 a1), (2, .v Q2 a2), (3, .v Q0 s322.1), (4, .v Q0 s322.2.1), (21, .ptr 121000 0), (22, .ref 122), (23, .v Q0 s322.2.2.1), (24, .v Q0 s322.2.2.2.1), (25, .v Q0 s322.2.2.2.2.1), (26, .v Q2 x450), (27, .v Q0 (2 : Int))], [(121000, .box 172 [.v Q0 s322.2.2.2.2.2.1, .v Q1 s322.2.2.2.2.2.2.1]), (122, .arr 56 eBlk s322.2.2.2.2.2.2.2)]⟩) (J.k (JO.assign rfl) (J.fin (Sw.Sub.mk id (.c rfl (.c rfl (.c rfl (.c rfl (.c rfl (.c rfl (.c rfl (.c rfl (.c rfl (.c rfl (.c rfl (.c rfl .nil)))))))))))) (.box rfl (.c rfl (.c rfl .nil)) (.arr rfl .nil)) rfl))) ?_
            exact W.jfall h (Sw.Sub.mk id (.c rfl (.c rfl (.c rfl (.c rfl (.c rfl (.c rfl (.c rfl (.c rfl (.c rfl (.c rfl (.c rfl (.c rfl .nil)))))))))))) (.box rfl (.c rfl (.c rfl .nil)) (.arr rfl .nil)) rfl)
           ·intro hc451
            replace h := cond_f hc451 h
            refine W.skip ?_
            exact W.jfall h (Sw.Sub.mk id (.c rfl (.c rfl (.c rfl (.c rfl (.c rfl (.c rfl (.c rfl (.c rfl (.c rfl (.c rfl (.c rfl (.c rfl .nil)))))))))))) (.box rfl (.c rfl (.c rfl .nil)) (.arr rfl .nil)) rfl)
          ·intro hc448
           replace h := cond_t hc448 h
           refine W.reg (σ' := ⟨[(0, .v Q0 a0), (1, .v Q2 a1), (2, .v Q2 a2), (3, .v Q0 s322.1), (4, .v Q0 s322.2.1), (21, .ptr 121000 0), (22, .ref 122), (23, .v Q0 s322.2.2.1), (24, .v Q0 s322.2.2.2.1), (25, .v Q0 s322.2.2.2.2.1), (26, .v Q2 a2)], [(121000, .box 172 [.v Q0 s322.2.2.2.2.2.1, .v Q1 s322.2.2.2.2.2.2.1]), (122, .arr 56 eBlk s322.2.2.2.2.2.2.2)]⟩) (J.mv rfl (J.k (JO.assign rfl) (J.fin (Sw.Sub.mk id (.c rfl (.c rfl (.c rfl (.c rfl (.c rfl (.c rfl (.c rfl (.c rfl (.c rfl (.c rfl (.c rfl .nil))))))))))) (.box rfl (.c rfl (.c rfl .nil)) (.arr rfl .nil)) rfl)))) ?_
           exact W.jfall h (Sw.Sub.mk id (.c rfl (.c rfl (.c rfl (.c rfl (.c rfl (.c rfl (.c rfl (.c rfl (.c rfl (.c rfl (.c rfl .nil))))))))))) (.box rfl (.c rfl (.c rfl .nil)) (.arr rfl .nil)) rfl)
          ·intro hc448
           replace h := cond_f hc448 h
           refine W.skip ?_
           exact W.jfall h (Sw.Sub.mk id (.c rfl (.c rfl (.c rfl (.c rfl (.c rfl (.c rfl (.c rfl (.c rfl (.c rfl (.c rfl (.c rfl .nil))))))))))) (.box rfl (.c rfl (.c rfl .nil)) (.arr rfl .nil)) rfl)
         ·replace h := cond_f hc447 h
          refine W.condF rfl hc447 ?_
          refine W.exit ?_
          obtain rfl := Option.some.inj h
          exact XQ.brk (Sw.Sub.mk id (.c rfl (.c rfl (.c rfl (.c rfl (.c rfl .nil))))) (.box rfl (.c rfl (.c rfl .nil)) (.arr rfl .nil)) rfl)
     ·replace h := ocase_s hz54 h
      refine W.reg (σ' := ⟨[(0, .v Q0 a0), (1, .v Q2 a1), (2, .v Q2 a2), (3, .v Q0 a3), (4, .v Q0 a4), (13, .ptr 103 0), (18, .v (Enc.err ET) v51.2), (20, .v (Enc.err ET) v53.2)], [(103, .box 99 [.v Q4 v6.1.1, .v Q2 v6.1.2.1, .v Q0 v6.1.2.2])]⟩) (J.k (JO.fieldPtr 0 rfl Try.runUnderlying99 rfl Try.sizeOf26 rfl rfl) (J.k (JO.load rfl rfl rfl Try.isAgg26 Try.sizeOf26) (J.k (JO.build built85 (.cons (Z.int .i64) (.cons (Z.arr 8 (Z.int .u8)) .nil)) (.cons rfl (.dir rfl) rfl rfl rfl rfl .nil)) (J.k (JO.lit (e := (Enc.pr Q0 eBlk)) Try.runUnderlying76 Try.sizeOf85 Try.zeroValue85 rfl rfl rfl rfl (.cons (.agg rfl (.same (.same .nil)) (.prm (.one _ _) (.one _ _)) rfl) .nil)) (J.k (JO.build built99 (.cons (Z.sl eBlk) (.cons (Z.sl (Enc.pr Q0 eBlk)) (.cons (Z.int .i64) .nil))) (.cons rfl (.dir rfl) rfl rfl rfl rfl (.cons rfl (.dir rfl) rfl rfl rfl rfl (.cons rfl (.dir rfl) rfl rfl rfl rfl .nil)))) (J.mv rfl (J.k (JO.call 141000 (con_store_Open_s hz54 hv53) Try.call51 (.cons (.agg rfl (.same (.same (.same .nil))) (.prm (.one _ _) (.prm (.one _ _) (.one _ _))) rfl) (.cons (.dir rfl) .nil)) rfl) (J.mv rfl (J.k (JO.extract rfl rfl) (J.k (JO.extract rfl rfl) (J.k (JO.assign rfl) (J.k (JO.assign rfl) (J.fin (Sw.Sub.mk id (.c rfl (.c rfl (.c rfl (.c rfl (.c rfl (.c rfl (.c rfl (.c rfl .nil)))))))) (.box rfl (.c rfl (.c rfl (.c rfl .nil))) .nil) rfl)))))))))))))) ?_
      refine W.seq ?_
      obtain ⟨v580, hv580, h⟩ := bind_e h
      rcases hz581 : v580.1 with _ | z581
      ·replace h := ocase_n hz581 h
       refine W.reg (σ' := ⟨[(0, .v Q0 a0), (1, .v Q2 a1), (2, .v Q2 a2), (3, .v Q0 a3), (4, .v Q0 a4), (12, .v (Enc.err ET) v580.2), (18, .v (Enc.err ET) v51.2), (20, .v (Enc.err ET) v53.2), (21, .v (Enc.ptN (Enc.pr Q0 Q1)) (none : (Option (Int × Q3))))], []⟩) (J.k (JO.loadAll rfl rfl (.prm (.one _ _) (.prm (.one _ _) (.one _ _))) Try.isAgg99 Try.sizeOf99) (J.mv rfl (J.k (JO.call0 (con_store_Open_n hz581 hv580) Try.call51 (.cons (.dir rfl) (.cons (.dir rfl) .nil))) (J.mv rfl (J.k (JO.extract rfl rfl) (J.k (JO.extract rfl rfl) (J.k (JO.assign rfl) (J.k (JO.assign rfl) (J.fin (Sw.Sub.mk id (.c rfl (.c rfl (.c rfl (.c rfl (.c rfl (.c rfl (.c rfl (.c rfl (.c rfl .nil))))))))) .nil rfl)))))))))) ?_
       refine W.seq ?_
       refine W.seq ?_
       obtain ⟨x585, hx, h⟩ := bind_e h
       refine W.reg (σ' := ⟨[(0, .v Q0 a0), (1, .v Q2 a1), (2, .v Q2 a2), (3, .v Q0 a3), (4, .v Q0 a4), (21, .v (Enc.ptN (Enc.pr Q0 Q1)) (none : (Option (Int × Q3)))), (156, .v Enc.bool true)], []⟩) ?_ ?_
       ·rcases Bool.eq_false_or_eq_true (!(v51.2 == (some (5 : Int)))) with hc586 | hc586
        ·replace hx := cond_t hc586 hx
         obtain rfl := Option.some.inj hx
         exact (J.mv rfl (J.k (JO.mkErr Try.runUnderlying29 rfl) (J.k (JO.errNe2 Try.runUnderlying33 Try.runUnderlying29 Try.typeInfo29 rfl rfl rfl) (J.mv rfl (J.u 144 hc586 (J.u 144 hc586 (J.u 144 hc586 (J.k (JO.pT hc586 rfl rfl) (J.mv rfl (J.u 149 rfl (J.u 149 rfl (J.k (JO.pT rfl rfl rfl) (J.mv rfl (J.u 153 rfl (J.u 153 rfl (J.k (JO.pT rfl rfl rfl) (J.fin (Sw.Sub.mk id (.c rfl (.c rfl (.c rfl (.c rfl (.c rfl (.c rfl (.c rfl .nil))))))) .nil rfl))))))))))))))))))
        ·replace hx := cond_f hc586 hx
         rcases Bool.eq_false_or_eq_true (!(v53.2 == (some (5 : Int)))) with hc587 | hc587
         ·replace hx := cond_t hc587 hx
          obtain rfl := Option.some.inj hx
          exact (J.mv rfl (J.k (JO.mkErr Try.runUnderlying29 rfl) (J.k (JO.errNe2 Try.runUnderlying33 Try.runUnderlying29 Try.typeInfo29 rfl rfl rfl) (J.mv rfl (J.m 144 hc586 (JO.move rfl) (J.m 144 hc586 (JO.mkErr Try.runUnderlying29 rfl) (J.m 144 hc586 (JO.errNe2 Try.runUnderlying33 Try.runUnderlying29 Try.typeInfo29 rfl rfl rfl) (J.k (JO.pF hc586 rfl rfl) (J.mv rfl (J.u 149 hc587 (J.u 149 hc587 (J.k (JO.pT hc587 rfl rfl) (J.mv rfl (J.u 153 rfl (J.u 153 rfl (J.k (JO.pT rfl rfl rfl) (J.fin (Sw.Sub.mk id (.c rfl (.c rfl (.c rfl (.c rfl (.c rfl (.c rfl (.c rfl .nil))))))) .nil rfl))))))))))))))))))
         ·replace hx := cond_f hc587 hx
          rcases Bool.eq_false_or_eq_true (Option.isSome v580.2) with hc588 | hc588
          ·replace hx := cond_t hc588 hx
           obtain rfl := Option.some.inj hx
           exact (J.mv rfl (J.k (JO.mkErr Try.runUnderlying29 rfl) (J.k (JO.errNe2 Try.runUnderlying33 Try.runUnderlying29 Try.typeInfo29 rfl rfl rfl) (J.mv rfl (J.m 144 hc586 (JO.move rfl) (J.m 144 hc586 (JO.mkErr Try.runUnderlying29 rfl) (J.m 144 hc586 (JO.errNe2 Try.runUnderlying33 Try.runUnderlying29 Try.typeInfo29 rfl rfl rfl) (J.k (JO.pF hc586 rfl rfl) (J.mv rfl (J.m 149 hc587 (JO.move rfl) (J.m 149 hc587 (JO.errNe Try.runUnderlying33 rfl) (J.k (JO.pF hc587 rfl rfl) (J.mv rfl (J.u 153 hc588 (J.u 153 hc588 (J.k (JO.pT hc588 rfl rfl) (J.fin (Sw.Sub.mk id (.c rfl (.c rfl (.c rfl (.c rfl (.c rfl (.c rfl (.c rfl .nil))))))) .nil rfl))))))))))))))))))
          ·replace hx := cond_f hc588 hx
           obtain rfl := Option.some.inj hx
           exact (J.mv rfl (J.k (JO.mkErr Try.runUnderlying29 rfl) (J.k (JO.errNe2 Try.runUnderlying33 Try.runUnderlying29 Try.typeInfo29 rfl rfl rfl) (J.mv rfl (J.m 144 hc586 (JO.move rfl) (J.m 144 hc586 (JO.mkErr Try.runUnderlying29 rfl) (J.m 144 hc586 (JO.errNe2 Try.runUnderlying33 Try.runUnderlying29 Try.typeInfo29 rfl rfl rfl) (J.k (JO.pF hc586 rfl rfl) (J.mv rfl (J.m 149 hc587 (JO.move rfl) (J.m 149 hc587 (JO.errNe Try.runUnderlying33 rfl) (J.k (JO.pF hc587 rfl rfl) (J.mv rfl (J.m 153 hc588 (JO.move rfl) (J.m 153 hc588 (JO.ptEq rfl Try.runUnderlying102) (J.k (JO.pF hc588 rfl rfl) (J.fin (Sw.Sub.mk id (.c rfl (.c rfl (.c rfl (.c rfl (.c rfl (.c rfl (.c rfl .nil))))))) .nil rfl))))))))))))))))))
       refine W.condT rfl rfl ?_
       refine W.seq ?_
       refine W.reg (σ' := ⟨[(10, .v Enc.bool false)], []⟩) (J.k (JO.assign rfl) (J.fin (Sw.Sub.mk id (.c rfl .nil) .nil rfl))) ?_
       refine W.ret ?_
       obtain rfl := Option.some.inj h
       exact XQ.sub (σ' := ⟨[(10, .v Enc.bool false)], []⟩) (Sw.Sub.mk id (.c rfl .nil) .nil rfl) (XQ.ret1 hF noR rfl (RV.tmp rfl) .nil rfl)
      ·replace h := ocase_s hz581 h
       refine W.reg (σ' := ⟨[(0, .v Q0 a0), (1, .v Q2 a1), (2, .v Q2 a2), (3, .v Q0 a3), (4, .v Q0 a4), (12, .v (Enc.err ET) v580.2), (18, .v (Enc.err ET) v51.2), (20, .v (Enc.err ET) v53.2), (21, .ptr 143000 0)], [(143000, .box 172 [.v Q0 z581.1, .v Q1 z581.2])]⟩) (J.k (JO.loadAll rfl rfl (.prm (.one _ _) (.prm (.one _ _) (.one _ _))) Try.isAgg99 Try.sizeOf99) (J.mv rfl (J.k (JO.call 143000 (con_store_Open_s hz581 hv580) Try.call51 (.cons (.dir rfl) (.cons (.dir rfl) .nil)) rfl) (J.mv rfl (J.k (JO.extract rfl rfl) (J.k (JO.extract rfl rfl) (J.k (JO.assign rfl) (J.k (JO.assign rfl) (J.fin (Sw.Sub.mk id (.c rfl (.c rfl (.c rfl (.c rfl (.c rfl (.c rfl (.c rfl (.c rfl (.c rfl .nil))))))))) (.box rfl (.c rfl (.c rfl .nil)) .nil) rfl)))))))))) ?_
       refine W.seq ?_
       refine W.seq ?_
       obtain ⟨x593, hx, h⟩ := bind_e h
       refine W.reg (σ' := ⟨[(0, .v Q0 a0), (1, .v Q2 a1), (2, .v Q2 a2), (3, .v Q0 a3), (4, .v Q0 a4), (21, .ptr 143000 0), (156, .v Enc.bool x593)], [(143000, .box 172 [.v Q0 z581.1, .v Q1 z581.2])]⟩) ?_ ?_
       ·rcases Bool.eq_false_or_eq_true (!(v51.2 == (some (5 : Int)))) with hc594 | hc594
        ·replace hx := cond_t hc594 hx
         obtain rfl := Option.some.inj hx
         exact (J.mv rfl (J.k (JO.mkErr Try.runUnderlying29 rfl) (J.k (JO.errNe2 Try.runUnderlying33 Try.runUnderlying29 Try.typeInfo29 rfl rfl rfl) (J.mv rfl (J.u 144 hc594 (J.u 144 hc594 (J.u 144 hc594 (J.k (JO.pT hc594 rfl rfl) (J.mv rfl (J.u 149 rfl (J.u 149 rfl (J.k (JO.pT rfl rfl rfl) (J.mv rfl (J.u 153 rfl (J.u 153 rfl (J.k (JO.pT rfl rfl rfl) (J.fin (Sw.Sub.mk id (.c rfl (.c rfl (.c rfl (.c rfl (.c rfl (.c rfl (.c rfl .nil))))))) (.box rfl (.c rfl (.c rfl .nil)) .nil) rfl))))))))))))))))))
        ·replace hx := cond_f hc594 hx
         rcases Bool.eq_false_or_eq_true (!(v53.2 == (some (5 : Int)))) with hc595 | hc595
         ·replace hx := cond_t hc595 hx
          obtain rfl := Option.some.inj hx
          exact (J.mv rfl (J.k (JO.mkErr Try.runUnderlying29 rfl) (J.k (JO.errNe2 Try.runUnderlying33 Try.runUnderlying29 Try.typeInfo29 rfl rfl rfl) (J.mv rfl (J.m 144 hc594 (JO.move rfl) (J.m 144 hc594 (JO.mkErr Try.runUnderlying29 rfl) (J.m 144 hc594 (JO.errNe2 Try.runUnderlying33 Try.runUnderlying29 Try.typeInfo29 rfl rfl rfl) (J.k (JO.pF hc594 rfl rfl) (J.mv rfl (J.u 149 hc595 (J.u 149 hc595 (J.k (JO.pT hc595 rfl rfl) (J.mv rfl (J.u 153 rfl (J.u 153 rfl (J.k (JO.pT rfl rfl rfl) (J.fin (Sw.Sub.mk id (.c rfl (.c rfl (.c rfl (.c rfl (.c rfl (.c rfl (.c rfl .nil))))))) (.box rfl (.c rfl (.c rfl .nil)) .nil) rfl))))))))))))))))))
         ·replace hx := cond_f hc595 hx
          rcases Bool.eq_false_or_eq_true (Option.isSome v580.2) with hc596 | hc596
          ·replace hx := cond_t hc596 hx
           obtain rfl := Option.some.inj hx
           exact (J.mv rfl (J.k (JO.mkErr Try.runUnderlying29 rfl) (J.k (JO.errNe2 Try.runUnderlying33 Try.runUnderlying29 Try.typeInfo29 rfl rfl rfl) (J.mv rfl (J.m 144 hc594 (JO.move rfl) (J.m 144 hc594 (JO.mkErr Try.runUnderlying29 rfl) (J.m 144 hc594 (JO.errNe2 Try.runUnderlying33 Try.runUnderlying29 Try.typeInfo29 rfl rfl rfl) (J.k (JO.pF hc594 rfl rfl) (J.mv rfl (J.m 149 hc595 (JO.move rfl) (J.m 149 hc595 (JO.errNe Try.runUnderlying33 rfl) (J.k (JO.pF hc595 rfl rfl) (J.mv rfl (J.u 153 hc596 (J.u 153 hc596 (J.k (JO.pT hc596 rfl rfl) (J.fin (Sw.Sub.mk id (.c rfl (.c rfl (.c rfl (.c rfl (.c rfl (.c rfl (.c rfl .nil))))))) (.box rfl (.c rfl (.c rfl .nil)) .nil) rfl))))))))))))))))))
          ·replace hx := cond_f hc596 hx
           obtain rfl := Option.some.inj hx
           exact (J.mv rfl (J.k (JO.mkErr Try.runUnderlying29 rfl) (J.k (JO.errNe2 Try.runUnderlying33 Try.runUnderlying29 Try.typeInfo29 rfl rfl rfl) (J.mv rfl (J.m 144 hc594 (JO.move rfl) (J.m 144 hc594 (JO.mkErr Try.runUnderlying29 rfl) (J.m 144 hc594 (JO.errNe2 Try.runUnderlying33 Try.runUnderlying29 Try.typeInfo29 rfl rfl rfl) (J.k (JO.pF hc594 rfl rfl) (J.mv rfl (J.m 149 hc595 (JO.move rfl) (J.m 149 hc595 (JO.errNe Try.runUnderlying33 rfl) (J.k (JO.pF hc595 rfl rfl) (J.mv rfl (J.m 153 hc596 (JO.move rfl) (J.m 153 hc596 (JO.ptrEqN rfl Try.runUnderlying102) (J.k (JO.pF hc596 rfl rfl) (J.fin (Sw.Sub.mk id (.c rfl (.c rfl (.c rfl (.c rfl (.c rfl (.c rfl (.c rfl .nil))))))) (.box rfl (.c rfl (.c rfl .nil)) .nil) rfl))))))))))))))))))
       rcases Bool.eq_false_or_eq_true x593 with hc597 | hc597
       ·replace h := cond_t hc597 h
        refine W.condT rfl hc597 ?_
        refine W.seq ?_
        refine W.reg (σ' := ⟨[(10, .v Enc.bool false)], []⟩) (J.k (JO.assign rfl) (J.fin (Sw.Sub.mk id (.c rfl .nil) .nil rfl))) ?_
        refine W.ret ?_
        obtain rfl := Option.some.inj h
        exact XQ.sub (σ' := ⟨[(10, .v Enc.bool false)], []⟩) (Sw.Sub.mk id (.c rfl .nil) .nil rfl) (XQ.ret1 hF noR rfl (RV.tmp rfl) .nil rfl)
       ·replace h := cond_f hc597 h
        refine W.condF rfl hc597 ?_
        refine W.skip ?_
        refine W.seq ?_
        obtain ⟨v598, hv598, h⟩ := bind_e h
        refine W.reg (σ' := ⟨[(0, .v Q0 a0), (1, .v Q2 a1), (2, .v Q2 a2), (3, .v Q0 a3), (4, .v Q0 a4), (21, .ptr 143000 0), (22, .ref 144)], [(143000, .box 172 [.v Q0 z581.1, .v Q1 z581.2]), (144, .arr 56 eBlk v598)]⟩) (J.mv rfl (J.k (JO.mkR 144 hv598 rfl rfl Try.runUnderlying26 Try.typeInfo56 Try.sizeOf56 rfl rfl (Z.arr 8 (Z.int .u8))) (J.k (JO.assign rfl) (J.fin (Sw.Sub.mk id (.c rfl (.c rfl (.c rfl (.c rfl (.c rfl (.c rfl (.c rfl .nil))))))) (.box rfl (.c rfl (.c rfl .nil)) (.arr rfl .nil)) rfl))))) ?_
        refine W.seq ?_
        refine W.reg (σ' := ⟨[(0, .v Q0 a0), (1, .v Q2 a1), (2, .v Q2 a2), (3, .v Q0 a3), (4, .v Q0 a4), (21, .ptr 143000 0), (22, .ref 144), (23, .v Q0 (0 : Int))], [(143000, .box 172 [.v Q0 z581.1, .v Q1 z581.2]), (144, .arr 56 eBlk v598)]⟩) (J.k (JO.assign rfl) (J.fin (Sw.Sub.mk id (.c rfl (.c rfl (.c rfl (.c rfl (.c rfl (.c rfl (.c rfl (.c rfl .nil)))))))) (.box rfl (.c rfl (.c rfl .nil)) (.arr rfl .nil)) rfl))) ?_
        refine W.seq ?_
        refine W.reg (σ' := ⟨[(0, .v Q0 a0), (1, .v Q2 a1), (2, .v Q2 a2), (3, .v Q0 a3), (4, .v Q0 a4), (21, .ptr 143000 0), (22, .ref 144), (23, .v Q0 (0 : Int)), (24, .v Q0 (0 : Int))], [(143000, .box 172 [.v Q0 z581.1, .v Q1 z581.2]), (144, .arr 56 eBlk v598)]⟩) (J.k (JO.assign rfl) (J.fin (Sw.Sub.mk id (.c rfl (.c rfl (.c rfl (.c rfl (.c rfl (.c rfl (.c rfl (.c rfl (.c rfl .nil))))))))) (.box rfl (.c rfl (.c rfl .nil)) (.arr rfl .nil)) rfl))) ?_
        refine W.seq ?_
        refine W.seq ?_
        obtain ⟨v599, hv599, h⟩ := bind_e h
        refine W.reg (σ' := ⟨[(0, .v Q0 a0), (1, .v Q2 a1), (2, .v Q2 a2), (3, .v Q0 a3), (4, .v Q0 a4), (21, .ptr 143000 0), (22, .ref 144), (23, .v Q0 (0 : Int)), (24, .v Q0 (0 : Int)), (164, .v Enc.bool (!v599))], [(143000, .box 172 [.v Q0 z581.1, .v Q1 z581.2]), (144, .arr 56 eBlk v598)]⟩) (J.mv rfl (J.mv rfl (J.mv rfl (J.mv rfl (J.k (JO.callL0 (con_law_sees hv599) Try.call53 (.cons (.lendP rfl rfl (.prm (.one _ _) (.one _ _))) (.cons (.ref rfl rfl) (.cons (.dir rfl) (.cons (.dir rfl) .nil)))) FlatS.v) (J.k (JO.not rfl) (J.fin (Sw.Sub.mk id (.c rfl (.c rfl (.c rfl (.c rfl (.c rfl (.c rfl (.c rfl (.c rfl (.c rfl (.c rfl .nil)))))))))) (.box rfl (.c rfl (.c rfl .nil)) (.arr rfl .nil)) rfl)))))))) ?_
        rcases Bool.eq_false_or_eq_true (!v599) with hc600 | hc600
        ·replace h := cond_t hc600 h
         refine W.condT rfl hc600 ?_
         refine W.seq ?_
         refine W.reg (σ' := ⟨[(10, .v Enc.bool false)], []⟩) (J.k (JO.assign rfl) (J.fin (Sw.Sub.mk id (.c rfl .nil) .nil rfl))) ?_
         refine W.ret ?_
         obtain rfl := Option.some.inj h
         exact XQ.sub (σ' := ⟨[(10, .v Enc.bool false)], []⟩) (Sw.Sub.mk id (.c rfl .nil) .nil rfl) (XQ.ret1 hF noR rfl (RV.tmp rfl) .nil rfl)
        ·replace h := cond_f hc600 h
         refine W.condF rfl hc600 ?_
         refine W.skip ?_
         refine W.seq ?_
         refine W.seq ?_
         refine W.reg (σ' := ⟨[(0, .v Q0 a0), (1, .v Q2 a1), (2, .v Q2 a2), (3, .v Q0 a3), (4, .v Q0 a4), (21, .ptr 143000 0), (22, .ref 144), (23, .v Q0 (0 : Int)), (24, .v Q0 (0 : Int)), (25, .v Q0 (0 : Int))], [(143000, .box 172 [.v Q0 z581.1, .v Q1 z581.2]), (144, .arr 56 eBlk v598)]⟩) (J.k (JO.assign rfl) (J.fin (Sw.Sub.mk id (.c rfl (.c rfl (.c rfl (.c rfl (.c rfl (.c rfl (.c rfl (.c rfl (.c rfl (.c rfl .nil)))))))))) (.box rfl (.c rfl (.c rfl .nil)) (.arr rfl .nil)) rfl))) ?_
         obtain ⟨o970, ho970, hb970, hr970⟩ := lp_elim h
         refine W.lp (σs := fun s847 : Int × Int × Int × Int × Int × Int × Q3 × (List Blk) => ⟨[(0, .v Q0 a0), (1, .v Q2 a1), (2, .v Q2 a2), (3, .v Q0 s847.1), (4, .v Q0 s847.2.1), (21, .ptr 143000 0), (22, .ref 144), (23, .v Q0 s847.2.2.1), (24, .v Q0 s847.2.2.2.1), (25, .v Q0 s847.2.2.2.2.1)], [(143000, .box 172 [.v Q0 s847.2.2.2.2.2.1, .v Q1 s847.2.2.2.2.2.2.1]), (144, .arr 56 eBlk s847.2.2.2.2.2.2.2)]⟩) (fun x971 : Int × Int × Int × Q3 × (List Blk) => ⟨[(0, .v Q0 a0), (21, .ptr 143000 0), (22, .ref 144), (23, .v Q0 x971.1), (24, .v Q0 x971.2.1)], [(143000, .box 172 [.v Q0 x971.2.2.1, .v Q1 x971.2.2.2.1]), (144, .arr 56 eBlk x971.2.2.2.2)]⟩) ho970 (Sw.Sub.mk id (.c rfl (.c rfl (.c rfl (.c rfl (.c rfl (.c rfl (.c rfl (.c rfl (.c rfl (.c rfl .nil)))))))))) (.box rfl (.c rfl (.c rfl .nil)) (.arr rfl .nil)) rfl) ?_ ?_
         ·intro x971 hy
          have h := hb970 _ hy
          refine W.seq ?_
          obtain ⟨v1094, hv1094, h⟩ := bind_e h
          obtain ⟨v1095, hv1095, h⟩ := bind_e h
          rcases hz1096 : v1095.1 with _ | z1096
          ·replace h := ocase_n hz1096 h
           refine W.reg (σ' := ⟨[(12, .v (Enc.err ET) v1095.2), (22, .ref 144), (23, .v Q0 x971.1), (24, .v Q0 x971.2.1), (30, .v (Enc.ptN (Enc.pr Q0 Q1)) (none : (Option (Int × Q3))))], [(144, .arr 56 eBlk x971.2.2.2.2)]⟩) (J.mv rfl (J.k (JO.callL 155000 (con_store_Store_Disk hv1094) Try.call55 (.cons (.lendP rfl rfl (.prm (.one _ _) (.one _ _))) .nil) rfl (FlatS.agg (.ref (.ref (.v .nil)))) (FlatN.arr (FlatN.arr FlatN.nil))) (J.mv rfl (J.sub (σ' := ⟨[(0, .v Q0 a0), (21, .ptr 143000 0), (22, .ref 144), (23, .v Q0 x971.1), (24, .v Q0 x971.2.1), (259, .ptr 143000 0), (260, .agg [.v Q4 v1094.1, .v Q2 v1094.2.1, .v Q0 v1094.2.2]), (261, .v Q0 a0)], [(143000, .box 172 [.v Q0 x971.2.2.1, .v Q1 x971.2.2.2.1]), (144, .arr 56 eBlk x971.2.2.2.2)]⟩) (Sw.Sub.mk id (.c rfl (.c rfl (.c rfl (.c rfl (.c rfl (.c rfl (.cons rfl (.agg (.cons (.frz rfl rfl) (.cons (.frz rfl rfl) (.c rfl .nil)))) (.c rfl .nil)))))))) (.box rfl (.c rfl (.c rfl .nil)) (.arr rfl .nil)) rfl) (J.k (JO.call0 (con_store_Open_n hz1096 hv1095) Try.call51 (.cons (.agg rfl (.same (.same (.same .nil))) (.prm (.one _ _) (.prm (.one _ _) (.one _ _))) rfl) (.cons (.dir rfl) .nil))) (J.mv rfl (J.k (JO.extract rfl rfl) (J.k (JO.extract rfl rfl) (J.k (JO.assign rfl) (J.k (JO.assign rfl) (J.fin (Sw.Sub.mk id (.c rfl (.c rfl (.c rfl (.c rfl (.c rfl .nil))))) (.arr rfl .nil) rfl)))))))))))) ?_
           refine W.seq ?_
           obtain ⟨x1098, hx, h⟩ := bind_e h
           refine W.reg (σ' := ⟨[(10, .v Enc.bool false)], []⟩) ?_ ?_
           ·rcases Bool.eq_false_or_eq_true (Option.isNone v1095.2) with hc1099 | hc1099
            ·replace hx := cond_t hc1099 hx
             obtain rfl := Option.some.inj hx
             exact (J.mv rfl (J.k (JO.errEq Try.runUnderlying33 rfl) (J.mv rfl (J.m 267 hc1099 (JO.move rfl) (J.m 267 hc1099 (JO.ptNe rfl Try.runUnderlying102) (J.k (JO.pT hc1099 rfl rfl) (J.mv rfl (J.u 271 rfl (J.u 271 rfl (J.u 271 rfl (J.u 271 rfl (J.u 271 rfl (J.k (JO.pF rfl rfl rfl) (J.k (JO.assign rfl) (J.fin (Sw.Sub.mk id (.c rfl .nil) .nil rfl))))))))))))))))
            ·replace hx := cond_f hc1099 hx
             obtain rfl := Option.some.inj hx
             exact (J.mv rfl (J.k (JO.errEq Try.runUnderlying33 rfl) (J.mv rfl (J.u 267 hc1099 (J.u 267 hc1099 (J.k (JO.pF hc1099 rfl rfl) (J.mv rfl (J.u 271 rfl (J.u 271 rfl (J.u 271 rfl (J.u 271 rfl (J.u 271 rfl (J.k (JO.pF rfl rfl rfl) (J.k (JO.assign rfl) (J.fin (Sw.Sub.mk id (.c rfl .nil) .nil rfl))))))))))))))))
           refine W.ret ?_
           obtain rfl := Option.some.inj h
           exact XQ.sub (σ' := ⟨[(10, .v Enc.bool false)], []⟩) (Sw.Sub.mk id (.c rfl .nil) .nil rfl) (XQ.ret1 hF noR rfl (RV.tmp rfl) .nil rfl)
          ·replace h := ocase_s hz1096 h
           refine W.reg (σ' := ⟨[(12, .v (Enc.err ET) v1095.2), (22, .ref 144), (23, .v Q0 x971.1), (24, .v Q0 x971.2.1), (30, .ptr 160000 0)], [(144, .arr 56 eBlk x971.2.2.2.2), (160000, .box 172 [.v Q0 z1096.1, .v Q1 z1096.2])]⟩) (J.mv rfl (J.k (JO.callL 158000 (con_store_Store_Disk hv1094) Try.call55 (.cons (.lendP rfl rfl (.prm (.one _ _) (.one _ _))) .nil) rfl (FlatS.agg (.ref (.ref (.v .nil)))) (FlatN.arr (FlatN.arr FlatN.nil))) (J.mv rfl (J.sub (σ' := ⟨[(0, .v Q0 a0), (21, .ptr 143000 0), (22, .ref 144), (23, .v Q0 x971.1), (24, .v Q0 x971.2.1), (259, .ptr 143000 0), (260, .agg [.v Q4 v1094.1, .v Q2 v1094.2.1, .v Q0 v1094.2.2]), (261, .v Q0 a0)], [(143000, .box 172 [.v Q0 x971.2.2.1, .v Q1 x971.2.2.2.1]), (144, .arr 56 eBlk x971.2.2.2.2)]⟩) (Sw.Sub.mk id (.c rfl (.c rfl (.c rfl (.c rfl (.c rfl (.c rfl (.cons rfl (.agg (.cons (.frz rfl rfl) (.cons (.frz rfl rfl) (.c rfl .nil)))) (.c rfl .nil)))))))) (.box rfl (.c rfl (.c rfl .nil)) (.arr rfl .nil)) rfl) (J.k (JO.call 160000 (con_store_Open_s hz1096 hv1095) Try.call51 (.cons (.agg rfl (.same (.same (.same .nil))) (.prm (.one _ _) (.prm (.one _ _) (.one _ _))) rfl) (.cons (.dir rfl) .nil)) rfl) (J.mv rfl (J.k (JO.extract rfl rfl) (J.k (JO.extract rfl rfl) (J.k (JO.assign rfl) (J.k (JO.assign rfl) (J.fin (Sw.Sub.mk id (.c rfl (.c rfl (.c rfl (.c rfl (.c rfl .nil))))) (.arr rfl (.box rfl (.c rfl (.c rfl .nil)) .nil)) rfl)))))))))))) ?_
           refine W.seq ?_
           obtain ⟨x1102, hx, h⟩ := bind_e h
           refine W.reg (σ' := ⟨[(10, .v Enc.bool x1102)], []⟩) ?_ ?_
           ·rcases Bool.eq_false_or_eq_true (Option.isNone v1095.2) with hc1103 | hc1103
            ·replace hx := cond_t hc1103 hx
             obtain ⟨v1104, hv1104, hx⟩ := bind_e hx
             obtain rfl := Option.some.inj hx
             exact (J.mv rfl (J.k (JO.errEq Try.runUnderlying33 rfl) (J.mv rfl (J.m 267 hc1103 (JO.move rfl) (J.m 267 hc1103 (JO.ptrNeN rfl Try.runUnderlying102) (J.k (JO.pT hc1103 rfl rfl) (J.mv rfl (J.m 271 rfl (JO.move rfl) (J.m 271 rfl (JO.move rfl) (J.m 271 rfl (JO.move rfl) (J.m 271 rfl (JO.move rfl) (J.m 271 rfl (JO.callL0 (con_law_sees hv1104) Try.call53 (.cons (.lendP rfl rfl (.prm (.one _ _) (.one _ _))) (.cons (.ref rfl rfl) (.cons (.dir rfl) (.cons (.dir rfl) .nil)))) FlatS.v) (J.k (JO.pT rfl rfl rfl) (J.k (JO.assign rfl) (J.fin (Sw.Sub.mk id (.c rfl .nil) .nil rfl))))))))))))))))
            ·replace hx := cond_f hc1103 hx
             obtain rfl := Option.some.inj hx
             exact (J.mv rfl (J.k (JO.errEq Try.runUnderlying33 rfl) (J.mv rfl (J.u 267 hc1103 (J.u 267 hc1103 (J.k (JO.pF hc1103 rfl rfl) (J.mv rfl (J.u 271 rfl (J.u 271 rfl (J.u 271 rfl (J.u 271 rfl (J.u 271 rfl (J.k (JO.pF rfl rfl rfl) (J.k (JO.assign rfl) (J.fin (Sw.Sub.mk id (.c rfl .nil) .nil rfl))))))))))))))))
           refine W.ret ?_
           obtain rfl := Option.some.inj h
           exact XQ.sub (σ' := ⟨[(10, .v Enc.bool x1102)], []⟩) (Sw.Sub.mk id (.c rfl .nil) .nil rfl) (XQ.ret1 hF noR rfl (RV.tmp rfl) .nil rfl)
         intro s847 r970 h
         refine W.seq ?_
         refine W.seq ?_
         refine W.reg (σ' := ⟨[(0, .v Q0 a0), (1, .v Q2 a1), (2, .v Q2 a2), (3, .v Q0 s847.1), (4, .v Q0 s847.2.1), (21, .ptr 143000 0), (22, .ref 144), (23, .v Q0 s847.2.2.1), (24, .v Q0 s847.2.2.2.1), (25, .v Q0 s847.2.2.2.2.1), (166, .v Enc.bool (cm .lss s847.2.2.2.2.1 (2 : Int)))], [(143000, .box 172 [.v Q0 s847.2.2.2.2.2.1, .v Q1 s847.2.2.2.2.2.2.1]), (144, .arr 56 eBlk s847.2.2.2.2.2.2.2)]⟩) (J.mv rfl (J.k (JO.cmp rfl rfl rfl) (J.fin (Sw.Sub.mk id (.c rfl (.c rfl (.c rfl (.c rfl (.c rfl (.c rfl (.c rfl (.c rfl (.c rfl (.c rfl (.c rfl .nil))))))))))) (.box rfl (.c rfl (.c rfl .nil)) (.arr rfl .nil)) rfl)))) ?_
         rcases Bool.eq_false_or_eq_true (cm .lss s847.2.2.2.2.1 (2 : Int)) with hc972 | hc972
         ·replace h := cond_t hc972 h
          refine W.condT rfl hc972 ?_
          refine W.skip ?_
          refine W.seq ?_
          refine W.block ?_
          refine W.seq ?_
          refine W.reg (σ' := ⟨[(0, .v Q0 a0), (1, .v Q2 a1), (2, .v Q2 a2), (3, .v Q0 s847.1), (4, .v Q0 s847.2.1), (21, .ptr 143000 0), (22, .ref 144), (23, .v Q0 s847.2.2.1), (24, .v Q0 s847.2.2.2.1), (25, .v Q0 s847.2.2.2.2.1), (26, .v Q2 a1)], [(143000, .box 172 [.v Q0 s847.2.2.2.2.2.1, .v Q1 s847.2.2.2.2.2.2.1]), (144, .arr 56 eBlk s847.2.2.2.2.2.2.2)]⟩) (J.mv rfl (J.k (JO.assign rfl) (J.fin (Sw.Sub.mk id (.c rfl (.c rfl (.c rfl (.c rfl (.c rfl (.c rfl (.c rfl (.c rfl (.c rfl (.c rfl (.c rfl .nil))))))))))) (.box rfl (.c rfl (.c rfl .nil)) (.arr rfl .nil)) rfl)))) ?_
          refine W.seq ?_
          refine W.seq ?_
          refine W.reg (σ' := ⟨[(0, .v Q0 a0), (1, .v Q2 a1), (2, .v Q2 a2), (3, .v Q0 s847.1), (4, .v Q0 s847.2.1), (21, .ptr 143000 0), (22, .ref 144), (23, .v Q0 s847.2.2.1), (24, .v Q0 s847.2.2.2.1), (25, .v Q0 s847.2.2.2.2.1), (26, .v Q2 a1), (171, .v Enc.bool (cm .eql s847.2.2.2.2.1 (1 : Int)))], [(143000, .box 172 [.v Q0 s847.2.2.2.2.2.1, .v Q1 s847.2.2.2.2.2.2.1]), (144, .arr 56 eBlk s847.2.2.2.2.2.2.2)]⟩) (J.mv rfl (J.k (JO.cmp rfl rfl rfl) (J.fin (Sw.Sub.mk id (.c rfl (.c rfl (.c rfl (.c rfl (.c rfl (.c rfl (.c rfl (.c rfl (.c rfl (.c rfl (.c rfl (.c rfl .nil)))))))))))) (.box rfl (.c rfl (.c rfl .nil)) (.arr rfl .nil)) rfl)))) ?_
          obtain ⟨k974, hk974, h⟩ := jp_elim h
          refine W.jn (fun x975 : (List (Int × Blk)) => ⟨[(0, .v Q0 a0), (1, .v Q2 a1), (2, .v Q2 a2), (3, .v Q0 s847.1), (4, .v Q0 s847.2.1), (21, .ptr 143000 0), (22, .ref 144), (23, .v Q0 s847.2.2.1), (24, .v Q0 s847.2.2.2.1), (25, .v Q0 s847.2.2.2.2.1), (26, .v Q2 x975)], [(143000, .box 172 [.v Q0 s847.2.2.2.2.2.1, .v Q1 s847.2.2.2.2.2.2.1]), (144, .arr 56 eBlk s847.2.2.2.2.2.2.2)]⟩) (fun x => k974 x = some r970) rfl ?_ ?_ ?_
          ·intro x975 h
           rw [hk974] at h
           refine W.seq ?_
           refine W.reg (σ' := ⟨[(0, .v Q0 a0), (1, .v Q2 a1), (2, .v Q2 a2), (3, .v Q0 s847.1), (4, .v Q0 s847.2.1), (21, .ptr 143000 0), (22, .ref 144), (23, .v Q0 s847.2.2.1), (24, .v Q0 s847.2.2.2.1), (25, .v Q0 s847.2.2.2.2.1), (26, .v Q2 x975), (27, .v Q0 (0 : Int))], [(143000, .box 172 [.v Q0 s847.2.2.2.2.2.1, .v Q1 s847.2.2.2.2.2.2.1]), (144, .arr 56 eBlk s847.2.2.2.2.2.2.2)]⟩) (J.k (JO.assign rfl) (J.fin (Sw.Sub.mk id (.c rfl (.c rfl (.c rfl (.c rfl (.c rfl (.c rfl (.c rfl (.c rfl (.c rfl (.c rfl (.c rfl (.c rfl .nil)))))))))))) (.box rfl (.c rfl (.c rfl .nil)) (.arr rfl .nil)) rfl))) ?_
           refine W.seq ?_
           refine W.seq ?_
           refine W.reg (σ' := ⟨[(0, .v Q0 a0), (1, .v Q2 a1), (2, .v Q2 a2), (3, .v Q0 s847.1), (4, .v Q0 s847.2.1), (21, .ptr 143000 0), (22, .ref 144), (23, .v Q0 s847.2.2.1), (24, .v Q0 s847.2.2.2.1), (25, .v Q0 s847.2.2.2.2.1), (26, .v Q2 x975), (27, .v Q0 (0 : Int)), (176, .v Enc.bool (cm .gtr (x975.length : Int) a0))], [(143000, .box 172 [.v Q0 s847.2.2.2.2.2.1, .v Q1 s847.2.2.2.2.2.2.1]), (144, .arr 56 eBlk s847.2.2.2.2.2.2.2)]⟩) (J.mv rfl (J.k (JO.len rfl Try.runUnderlying76) (J.mv rfl (J.k (JO.cmp rfl rfl rfl) (J.fin (Sw.Sub.mk id (.c rfl (.c rfl (.c rfl (.c rfl (.c rfl (.c rfl (.c rfl (.c rfl (.c rfl (.c rfl (.c rfl (.c rfl (.c rfl .nil))))))))))))) (.box rfl (.c rfl (.c rfl .nil)) (.arr rfl .nil)) rfl)))))) ?_
           obtain ⟨k977, hk977, h⟩ := jp_elim h
           refine W.jn (fun x978 : Int => ⟨[(0, .v Q0 a0), (1, .v Q2 a1), (2, .v Q2 a2), (3, .v Q0 s847.1), (4, .v Q0 s847.2.1), (21, .ptr 143000 0), (22, .ref 144), (23, .v Q0 s847.2.2.1), (24, .v Q0 s847.2.2.2.1), (25, .v Q0 s847.2.2.2.2.1), (26, .v Q2 x975), (27, .v Q0 x978)], [(143000, .box 172 [.v Q0 s847.2.2.2.2.2.1, .v Q1 s847.2.2.2.2.2.2.1]), (144, .arr 56 eBlk s847.2.2.2.2.2.2.2)]⟩) (fun x => k977 x = some r970) rfl ?_ ?_ ?_
           ·intro x978 h
            rw [hk977] at h
            refine W.seq ?_
            refine W.seq ?_
            obtain ⟨x983, hx, h⟩ := bind_e h
            refine W.reg (σ' := ⟨[(0, .v Q0 a0), (1, .v Q2 a1), (2, .v Q2 a2), (3, .v Q0 s847.1), (4, .v Q0 s847.2.1), (21, .ptr 143000 0), (22, .ref 144), (23, .v Q0 s847.2.2.1), (24, .v Q0 s847.2.2.2.1), (25, .v Q0 s847.2.2.2.2.1), (26, .v Q2 x975), (27, .v Q0 x978), (194, .v Enc.bool x983)], [(143000, .box 172 [.v Q0 s847.2.2.2.2.2.1, .v Q1 s847.2.2.2.2.2.2.1]), (144, .arr 56 eBlk s847.2.2.2.2.2.2.2)]⟩) ?_ ?_
            ·rcases Bool.eq_false_or_eq_true (cm .eql x978 (0 : Int)) with hc984 | hc984
             ·replace hx := cond_t hc984 hx
              rcases Bool.eq_false_or_eq_true (cm .lss s847.1 (0 : Int)) with hc985 | hc985
              ·replace hx := cond_t hc985 hx
               obtain rfl := Option.some.inj hx
               exact (J.mv rfl (J.k (JO.cmp rfl rfl rfl) (J.mv rfl (J.m 179 hc984 (JO.move rfl) (J.m 179 hc984 (JO.cmp rfl rfl rfl) (J.m 179 hc984 (JO.move rfl) (J.u 182 hc985 (J.u 182 hc985 (J.m 179 hc984 (JO.pT hc985 rfl rfl) (J.m 179 hc984 (JO.move rfl) (J.u 186 rfl (J.u 186 rfl (J.m 179 hc984 (JO.pT rfl rfl rfl) (J.m 179 hc984 (JO.move rfl) (J.u 190 rfl (J.u 190 rfl (J.m 179 hc984 (JO.pT rfl rfl rfl) (J.k (JO.pT hc984 rfl rfl) (J.fin (Sw.Sub.mk id (.c rfl (.c rfl (.c rfl (.c rfl (.c rfl (.c rfl (.c rfl (.c rfl (.c rfl (.c rfl (.c rfl (.c rfl (.c rfl .nil))))))))))))) (.box rfl (.c rfl (.c rfl .nil)) (.arr rfl .nil)) rfl))))))))))))))))))))
              ·replace hx := cond_f hc985 hx
               rcases Bool.eq_false_or_eq_true (cm .gtr s847.1 (2147483647 : Int)) with hc986 | hc986
               ·replace hx := cond_t hc986 hx
                obtain rfl := Option.some.inj hx
                exact (J.mv rfl (J.k (JO.cmp rfl rfl rfl) (J.mv rfl (J.m 179 hc984 (JO.move rfl) (J.m 179 hc984 (JO.cmp rfl rfl rfl) (J.m 179 hc984 (JO.move rfl) (J.m 182 hc985 (JO.move rfl) (J.m 182 hc985 (JO.cmp rfl rfl rfl) (J.m 179 hc984 (JO.pF hc985 rfl rfl) (J.m 179 hc984 (JO.move rfl) (J.u 186 hc986 (J.u 186 hc986 (J.m 179 hc984 (JO.pT hc986 rfl rfl) (J.m 179 hc984 (JO.move rfl) (J.u 190 rfl (J.u 190 rfl (J.m 179 hc984 (JO.pT rfl rfl rfl) (J.k (JO.pT hc984 rfl rfl) (J.fin (Sw.Sub.mk id (.c rfl (.c rfl (.c rfl (.c rfl (.c rfl (.c rfl (.c rfl (.c rfl (.c rfl (.c rfl (.c rfl (.c rfl (.c rfl .nil))))))))))))) (.box rfl (.c rfl (.c rfl .nil)) (.arr rfl .nil)) rfl))))))))))))))))))))
               ·replace hx := cond_f hc986 hx
                rcases Bool.eq_false_or_eq_true (cm .lss s847.2.1 (0 : Int)) with hc987 | hc987
                ·replace hx := cond_t hc987 hx
                 obtain rfl := Option.some.inj hx
                 exact (J.mv rfl (J.k (JO.cmp rfl rfl rfl) (J.mv rfl (J.m 179 hc984 (JO.move rfl) (J.m 179 hc984 (JO.cmp rfl rfl rfl) (J.m 179 hc984 (JO.move rfl) (J.m 182 hc985 (JO.move rfl) (J.m 182 hc985 (JO.cmp rfl rfl rfl) (J.m 179 hc984 (JO.pF hc985 rfl rfl) (J.m 179 hc984 (JO.move rfl) (J.m 186 hc986 (JO.move rfl) (J.m 186 hc986 (JO.cmp rfl rfl rfl) (J.m 179 hc984 (JO.pF hc986 rfl rfl) (J.m 179 hc984 (JO.move rfl) (J.u 190 hc987 (J.u 190 hc987 (J.m 179 hc984 (JO.pT hc987 rfl rfl) (J.k (JO.pT hc984 rfl rfl) (J.fin (Sw.Sub.mk id (.c rfl (.c rfl (.c rfl (.c rfl (.c rfl (.c rfl (.c rfl (.c rfl (.c rfl (.c rfl (.c rfl (.c rfl (.c rfl .nil))))))))))))) (.box rfl (.c rfl (.c rfl .nil)) (.arr rfl .nil)) rfl))))))))))))))))))))
                ·replace hx := cond_f hc987 hx
                 obtain rfl := Option.some.inj hx
                 exact (J.mv rfl (J.k (JO.cmp rfl rfl rfl) (J.mv rfl (J.m 179 hc984 (JO.move rfl) (J.m 179 hc984 (JO.cmp rfl rfl rfl) (J.m 179 hc984 (JO.move rfl) (J.m 182 hc985 (JO.move rfl) (J.m 182 hc985 (JO.cmp rfl rfl rfl) (J.m 179 hc984 (JO.pF hc985 rfl rfl) (J.m 179 hc984 (JO.move rfl) (J.m 186 hc986 (JO.move rfl) (J.m 186 hc986 (JO.cmp rfl rfl rfl) (J.m 179 hc984 (JO.pF hc986 rfl rfl) (J.m 179 hc984 (JO.move rfl) (J.m 190 hc987 (JO.move rfl) (J.m 190 hc987 (JO.cmp rfl rfl rfl) (J.m 179 hc984 (JO.pF hc987 rfl rfl) (J.k (JO.pT hc984 rfl rfl) (J.fin (Sw.Sub.mk id (.c rfl (.c rfl (.c rfl (.c rfl (.c rfl (.c rfl (.c rfl (.c rfl (.c rfl (.c rfl (.c rfl (.c rfl (.c rfl .nil))))))))))))) (.box rfl (.c rfl (.c rfl .nil)) (.arr rfl .nil)) rfl))))))))))))))))))))
             ·replace hx := cond_f hc984 hx
              obtain rfl := Option.some.inj hx
              exact (J.mv rfl (J.k (JO.cmp rfl rfl rfl) (J.mv rfl (J.u 179 hc984 (J.u 179 hc984 (J.u 179 hc984 (J.left (GK.und 182 rfl rfl rfl) rfl (J.left (GK.und 182 rfl rfl rfl) rfl (J.u 179 hc984 (J.u 179 hc984 (J.left (GK.und 186 rfl rfl rfl) rfl (J.left (GK.und 186 rfl rfl rfl) rfl (J.u 179 hc984 (J.u 179 hc984 (J.left (GK.und 190 rfl rfl rfl) rfl (J.left (GK.und 190 rfl rfl rfl) rfl (J.u 179 hc984 (J.k (JO.pF hc984 rfl rfl) (J.fin (Sw.Sub.mk id (.c rfl (.c rfl (.c rfl (.c rfl (.c rfl (.c rfl (.c rfl (.c rfl (.c rfl (.c rfl (.c rfl (.c rfl (.c rfl .nil))))))))))))) (.box rfl (.c rfl (.c rfl .nil)) (.arr rfl .nil)) rfl))))))))))))))))))))
            obtain ⟨k989, hk989, h⟩ := jp_elim h
            refine W.jn (fun x990 : Int => ⟨[(0, .v Q0 a0), (1, .v Q2 a1), (2, .v Q2 a2), (3, .v Q0 s847.1), (4, .v Q0 s847.2.1), (21, .ptr 143000 0), (22, .ref 144), (23, .v Q0 s847.2.2.1), (24, .v Q0 s847.2.2.2.1), (25, .v Q0 s847.2.2.2.2.1), (26, .v Q2 x975), (27, .v Q0 x990)], [(143000, .box 172 [.v Q0 s847.2.2.2.2.2.1, .v Q1 s847.2.2.2.2.2.2.1]), (144, .arr 56 eBlk s847.2.2.2.2.2.2.2)]⟩) (fun x => k989 x = some r970) rfl ?_ ?_ ?_
            ·intro x990 h
             rw [hk989] at h
             refine W.seq ?_
             refine W.seq ?_
             refine W.reg (σ' := ⟨[(0, .v Q0 a0), (1, .v Q2 a1), (2, .v Q2 a2), (3, .v Q0 s847.1), (4, .v Q0 s847.2.1), (21, .ptr 143000 0), (22, .ref 144), (23, .v Q0 s847.2.2.1), (24, .v Q0 s847.2.2.2.1), (25, .v Q0 s847.2.2.2.2.1), (26, .v Q2 x975), (27, .v Q0 x990), (28, .v Q0 (0 : Int))], [(143000, .box 172 [.v Q0 s847.2.2.2.2.2.1, .v Q1 s847.2.2.2.2.2.2.1]), (144, .arr 56 eBlk s847.2.2.2.2.2.2.2)]⟩) (J.k (JO.assign rfl) (J.fin (Sw.Sub.mk id (.c rfl (.c rfl (.c rfl (.c rfl (.c rfl (.c rfl (.c rfl (.c rfl (.c rfl (.c rfl (.c rfl (.c rfl (.c rfl .nil))))))))))))) (.box rfl (.c rfl (.c rfl .nil)) (.arr rfl .nil)) rfl))) ?_
             obtain ⟨o1030, ho1030, hb1030, hr1030⟩ := lp_elim h
             refine W.lp (σs := fun s1017 : Int × Int => ⟨[(0, .v Q0 a0), (1, .v Q2 a1), (2, .v Q2 a2), (3, .v Q0 s847.1), (4, .v Q0 s847.2.1), (21, .ptr 143000 0), (22, .ref 144), (23, .v Q0 s847.2.2.1), (24, .v Q0 s847.2.2.2.1), (25, .v Q0 s847.2.2.2.2.1), (26, .v Q2 x975), (27, .v Q0 s1017.1), (28, .v Q0 s1017.2)], [(143000, .box 172 [.v Q0 s847.2.2.2.2.2.1, .v Q1 s847.2.2.2.2.2.2.1]), (144, .arr 56 eBlk s847.2.2.2.2.2.2.2)]⟩) (fun x1031 : Int => ⟨[(0, .v Q0 a0), (1, .v Q2 a1), (2, .v Q2 a2), (3, .v Q0 s847.1), (4, .v Q0 s847.2.1), (21, .ptr 143000 0), (22, .ref 144), (23, .v Q0 s847.2.2.1), (24, .v Q0 s847.2.2.2.1), (25, .v Q0 s847.2.2.2.2.1), (26, .v Q2 x975), (27, .v Q0 x1031)], [(143000, .box 172 [.v Q0 s847.2.2.2.2.2.1, .v Q1 s847.2.2.2.2.2.2.1]), (144, .arr 56 eBlk s847.2.2.2.2.2.2.2)]⟩) ho1030 (Sw.Sub.mk id (.c rfl (.c rfl (.c rfl (.c rfl (.c rfl (.c rfl (.c rfl (.c rfl (.c rfl (.c rfl (.c rfl (.c rfl (.c rfl .nil))))))))))))) (.box rfl (.c rfl (.c rfl .nil)) (.arr rfl .nil)) rfl) ?_ ?_
             ·intro x1031 hy
              have h := hb1030 _ hy
              refine W.seq ?_
              refine W.seq ?_
              obtain ⟨v1044, hv1044, h⟩ := bind_e h
              obtain ⟨v1045, hv1045, h⟩ := bind_e h
              refine W.reg (σ' := ⟨[(0, .v Q0 a0), (1, .v Q2 a1), (2, .v Q2 a2), (3, .v Q0 s847.1), (4, .v Q0 s847.2.1), (21, .ptr 143000 0), (22, .ref 144), (23, .v Q0 s847.2.2.1), (24, .v Q0 s847.2.2.2.1), (25, .v Q0 s847.2.2.2.2.1), (26, .v Q2 x975), (27, .v Q0 x1031), (227, .v Enc.bool (!v1045))], [(143000, .box 172 [.v Q0 v1044.2.1, .v Q1 v1044.2.2]), (144, .arr 56 eBlk s847.2.2.2.2.2.2.2)]⟩) (J.mv rfl (J.mv rfl (J.mv rfl (J.mv rfl (J.t (JM.callM (H := [143000]) (K := [143000]) (swp [(9000, 143000)]) (swp_inj _) (fun A => con_store_Store_Commit_io A hv1044) Try.call54 (.cons (.dir rfl) (.cons (.dir rfl) (.cons (.dir rfl) (.cons (.dir rfl) .nil)))) (fun A => (.box rfl .nil)) (fun A => (.box rfl .nil rfl)) (fun _ => rfl) rfl rfl (fun _ => rfl) rfl rfl) (J.mv rfl (J.k (JO.call0 (con_ref_Is hv1045) Try.call14 (.cons (.dir rfl) (.cons (.dir rfl) .nil))) (J.k (JO.not rfl) (J.fin (Sw.Sub.mk id (.c rfl (.c rfl (.c rfl (.c rfl (.c rfl (.c rfl (.c rfl (.c rfl (.c rfl (.c rfl (.c rfl (.c rfl (.c rfl .nil))))))))))))) (.box rfl (.c rfl (.c rfl .nil)) (.arr rfl .nil)) rfl)))))))))) ?_
              rcases Bool.eq_false_or_eq_true (!v1045) with hc1046 | hc1046
              ·replace h := cond_t hc1046 h
               refine W.condT rfl hc1046 ?_
               refine W.seq ?_
               refine W.reg (σ' := ⟨[(10, .v Enc.bool false)], []⟩) (J.k (JO.assign rfl) (J.fin (Sw.Sub.mk id (.c rfl .nil) .nil rfl))) ?_
               refine W.ret ?_
               refine XQ.ret ?_
               obtain rfl := Option.some.inj h
               refine XQ.lret fun ho => ?_
               obtain rfl := hr970 _ ho
               exact XQ.sub (σ' := ⟨[(10, .v Enc.bool false)], []⟩) (Sw.Sub.mk id (.c rfl .nil) .nil rfl) (XQ.ret1 hF noR rfl (RV.tmp rfl) .nil rfl)
              ·replace h := cond_f hc1046 h
               refine W.condF rfl hc1046 ?_
               refine W.skip ?_
               refine W.seq ?_
               refine W.seq ?_
               refine W.reg (σ' := ⟨[(0, .v Q0 a0), (1, .v Q2 a1), (2, .v Q2 a2), (3, .v Q0 s847.1), (4, .v Q0 s847.2.1), (21, .ptr 143000 0), (22, .ref 144), (23, .v Q0 s847.2.2.1), (24, .v Q0 s847.2.2.2.1), (25, .v Q0 s847.2.2.2.2.1), (26, .v Q2 x975), (229, .v Enc.bool (cm .eql x1031 (0 : Int)))], [(143000, .box 172 [.v Q0 v1044.2.1, .v Q1 v1044.2.2]), (144, .arr 56 eBlk s847.2.2.2.2.2.2.2)]⟩) (J.mv rfl (J.k (JO.cmp rfl rfl rfl) (J.fin (Sw.Sub.mk id (.c rfl (.c rfl (.c rfl (.c rfl (.c rfl (.c rfl (.c rfl (.c rfl (.c rfl (.c rfl (.c rfl (.c rfl .nil)))))))))))) (.box rfl (.c rfl (.c rfl .nil)) (.arr rfl .nil)) rfl)))) ?_
               obtain ⟨k1069, hk1069, h⟩ := jp_elim h
               refine W.jn (fun x1070 : Int × Int × (List Blk) => ⟨[(0, .v Q0 a0), (1, .v Q2 a1), (2, .v Q2 a2), (3, .v Q0 s847.1), (4, .v Q0 s847.2.1), (21, .ptr 143000 0), (22, .ref 144), (23, .v Q0 x1070.1), (24, .v Q0 x1070.2.1), (25, .v Q0 s847.2.2.2.2.1)], [(143000, .box 172 [.v Q0 v1044.2.1, .v Q1 v1044.2.2]), (144, .arr 56 eBlk x1070.2.2)]⟩) (fun x => k1069 x = some r970) rfl ?_ ?_ ?_
               ·intro x1070 h
                rw [hk1069] at h
                refine W.seq ?_
                refine W.seq ?_
                obtain ⟨v1092, hv1092, h⟩ := bind_e h
                refine W.reg (σ' := ⟨[(0, .v Q0 a0), (1, .v Q2 a1), (2, .v Q2 a2), (3, .v Q0 s847.1), (4, .v Q0 s847.2.1), (21, .ptr 143000 0), (22, .ref 144), (23, .v Q0 x1070.1), (24, .v Q0 x1070.2.1), (25, .v Q0 s847.2.2.2.2.1), (255, .v Enc.bool (!v1092))], [(143000, .box 172 [.v Q0 v1044.2.1, .v Q1 v1044.2.2]), (144, .arr 56 eBlk x1070.2.2)]⟩) (J.mv rfl (J.mv rfl (J.mv rfl (J.mv rfl (J.k (JO.callL0 (con_law_sees hv1092) Try.call53 (.cons (.lendP rfl rfl (.prm (.one _ _) (.one _ _))) (.cons (.ref rfl rfl) (.cons (.dir rfl) (.cons (.dir rfl) .nil)))) FlatS.v) (J.k (JO.not rfl) (J.fin (Sw.Sub.mk id (.c rfl (.c rfl (.c rfl (.c rfl (.c rfl (.c rfl (.c rfl (.c rfl (.c rfl (.c rfl (.c rfl .nil))))))))))) (.box rfl (.c rfl (.c rfl .nil)) (.arr rfl .nil)) rfl)))))))) ?_
                rcases Bool.eq_false_or_eq_true (!v1092) with hc1093 | hc1093
                ·replace h := cond_t hc1093 h
                 refine W.condT rfl hc1093 ?_
                 refine W.seq ?_
                 refine W.reg (σ' := ⟨[(10, .v Enc.bool false)], []⟩) (J.k (JO.assign rfl) (J.fin (Sw.Sub.mk id (.c rfl .nil) .nil rfl))) ?_
                 refine W.ret ?_
                 refine XQ.ret ?_
                 obtain rfl := Option.some.inj h
                 refine XQ.lret fun ho => ?_
                 obtain rfl := hr970 _ ho
                 exact XQ.sub (σ' := ⟨[(10, .v Enc.bool false)], []⟩) (Sw.Sub.mk id (.c rfl .nil) .nil rfl) (XQ.ret1 hF noR rfl (RV.tmp rfl) .nil rfl)
                ·replace h := cond_f hc1093 h
                 refine W.condF rfl hc1093 ?_
                 refine W.skip ?_
                 refine W.reg (σ' := ⟨[(0, .v Q0 a0), (1, .v Q2 a1), (2, .v Q2 a2), (3, .v Q0 s847.2.1), (4, .v Q0 s847.1), (21, .ptr 143000 0), (22, .ref 144), (23, .v Q0 x1070.1), (24, .v Q0 x1070.2.1), (25, .v Q0 s847.2.2.2.2.1)], [(143000, .box 172 [.v Q0 v1044.2.1, .v Q1 v1044.2.2]), (144, .arr 56 eBlk x1070.2.2)]⟩) (J.mv rfl (J.mv rfl (J.k (JO.assign rfl) (J.k (JO.assign rfl) (J.fin (Sw.Sub.mk id (.c rfl (.c rfl (.c rfl (.c rfl (.c rfl (.c rfl (.c rfl (.c rfl (.c rfl (.c rfl .nil)))))))))) (.box rfl (.c rfl (.c rfl .nil)) (.arr rfl .nil)) rfl)))))) ?_
                 refine W.fall ?_
                 refine W.reg (σ' := ⟨[(0, .v Q0 a0), (1, .v Q2 a1), (2, .v Q2 a2), (3, .v Q0 s847.2.1), (4, .v Q0 s847.1), (21, .ptr 143000 0), (22, .ref 144), (23, .v Q0 x1070.1), (24, .v Q0 x1070.2.1), (25, .v Q0 (ar .add .i64 s847.2.2.2.2.1 (1 : Int)))], [(143000, .box 172 [.v Q0 v1044.2.1, .v Q1 v1044.2.2]), (144, .arr 56 eBlk x1070.2.2)]⟩) (J.mv rfl (J.k (JO.arith rfl rfl rfl) (J.k (JO.assign rfl) (J.fin (Sw.Sub.mk id (.c rfl (.c rfl (.c rfl (.c rfl (.c rfl (.c rfl (.c rfl (.c rfl (.c rfl (.c rfl .nil)))))))))) (.box rfl (.c rfl (.c rfl .nil)) (.arr rfl .nil)) rfl))))) ?_
                 obtain rfl := Option.some.inj h
                 exact W.next (Sw.Sub.mk id (.c rfl (.c rfl (.c rfl (.c rfl (.c rfl (.c rfl (.c rfl (.c rfl (.c rfl (.c rfl .nil)))))))))) (.box rfl (.c rfl (.c rfl .nil)) (.arr rfl .nil)) rfl)
               ·intro hc1047
                replace h := cond_t hc1047 h
                refine W.seq ?_
                refine W.seq ?_
                refine W.reg (σ' := ⟨[(0, .v Q0 a0), (1, .v Q2 a1), (2, .v Q2 a2), (3, .v Q0 s847.1), (4, .v Q0 s847.2.1), (21, .ptr 143000 0), (22, .ref 144), (25, .v Q0 s847.2.2.2.2.1), (26, .v Q2 x975), (29, .v Q0 (0 : Int))], [(143000, .box 172 [.v Q0 v1044.2.1, .v Q1 v1044.2.2]), (144, .arr 56 eBlk s847.2.2.2.2.2.2.2)]⟩) (J.k (JO.assign rfl) (J.fin (Sw.Sub.mk id (.c rfl (.c rfl (.c rfl (.c rfl (.c rfl (.c rfl (.c rfl (.c rfl (.c rfl (.c rfl .nil)))))))))) (.box rfl (.c rfl (.c rfl .nil)) (.arr rfl .nil)) rfl))) ?_
                obtain ⟨o1086, ho1086, hb1086, hr1086⟩ := lp_elim h
                refine W.lp (σs := fun s1081 : Int × (List Blk) => ⟨[(0, .v Q0 a0), (1, .v Q2 a1), (2, .v Q2 a2), (3, .v Q0 s847.1), (4, .v Q0 s847.2.1), (21, .ptr 143000 0), (22, .ref 144), (25, .v Q0 s847.2.2.2.2.1), (26, .v Q2 x975), (29, .v Q0 s1081.1)], [(143000, .box 172 [.v Q0 v1044.2.1, .v Q1 v1044.2.2]), (144, .arr 56 eBlk s1081.2)]⟩) (fun x1087 : (List Blk) => ⟨[(0, .v Q0 a0), (1, .v Q2 a1), (2, .v Q2 a2), (3, .v Q0 s847.1), (4, .v Q0 s847.2.1), (21, .ptr 143000 0), (22, .ref 144), (25, .v Q0 s847.2.2.2.2.1)], [(143000, .box 172 [.v Q0 v1044.2.1, .v Q1 v1044.2.2]), (144, .arr 56 eBlk x1087)]⟩) ho1086 (Sw.Sub.mk id (.c rfl (.c rfl (.c rfl (.c rfl (.c rfl (.c rfl (.c rfl (.c rfl (.c rfl (.c rfl .nil)))))))))) (.box rfl (.c rfl (.c rfl .nil)) (.arr rfl .nil)) rfl) ?_ ?_
                ·intro x1087 hy
                 have h := hb1086 _ hy
                 refine W.seq ?_
                 refine W.reg (σ' := ⟨[(0, .v Q0 a0), (1, .v Q2 a1), (2, .v Q2 a2), (3, .v Q0 s847.1), (4, .v Q0 s847.2.1), (21, .ptr 143000 0), (22, .ref 144), (23, .v Q0 s847.1), (25, .v Q0 s847.2.2.2.2.1)], [(143000, .box 172 [.v Q0 v1044.2.1, .v Q1 v1044.2.2]), (144, .arr 56 eBlk x1087)]⟩) (J.mv rfl (J.k (JO.assign rfl) (J.fin (Sw.Sub.mk id (.c rfl (.c rfl (.c rfl (.c rfl (.c rfl (.c rfl (.c rfl (.c rfl (.c rfl .nil))))))))) (.box rfl (.c rfl (.c rfl .nil)) (.arr rfl .nil)) rfl)))) ?_
                 refine W.reg (σ' := ⟨[(0, .v Q0 a0), (1, .v Q2 a1), (2, .v Q2 a2), (3, .v Q0 s847.1), (4, .v Q0 s847.2.1), (21, .ptr 143000 0), (22, .ref 144), (23, .v Q0 s847.1), (24, .v Q0 s847.2.1), (25, .v Q0 s847.2.2.2.2.1)], [(143000, .box 172 [.v Q0 v1044.2.1, .v Q1 v1044.2.2]), (144, .arr 56 eBlk x1087)]⟩) (J.mv rfl (J.k (JO.assign rfl) (J.fin (Sw.Sub.mk id (.c rfl (.c rfl (.c rfl (.c rfl (.c rfl (.c rfl (.c rfl (.c rfl (.c rfl (.c rfl .nil)))))))))) (.box rfl (.c rfl (.c rfl .nil)) (.arr rfl .nil)) rfl)))) ?_
                 exact W.jfall h (Sw.Sub.mk id (.c rfl (.c rfl (.c rfl (.c rfl (.c rfl (.c rfl (.c rfl (.c rfl (.c rfl (.c rfl .nil)))))))))) (.box rfl (.c rfl (.c rfl .nil)) (.arr rfl .nil)) rfl)
                intro s1081 r1086 h
                refine W.seq ?_
                refine W.seq ?_
                refine W.reg (σ' := ⟨[(0, .v Q0 a0), (1, .v Q2 a1), (2, .v Q2 a2), (3, .v Q0 s847.1), (4, .v Q0 s847.2.1), (21, .ptr 143000 0), (22, .ref 144), (25, .v Q0 s847.2.2.2.2.1), (26, .v Q2 x975), (29, .v Q0 s1081.1), (233, .v Enc.bool (cm .lss s1081.1 (x975.length : Int)))], [(143000, .box 172 [.v Q0 v1044.2.1, .v Q1 v1044.2.2]), (144, .arr 56 eBlk s1081.2)]⟩) (J.mv rfl (J.mv rfl (J.k (JO.len rfl Try.runUnderlying76) (J.k (JO.cmp rfl rfl rfl) (J.fin (Sw.Sub.mk id (.c rfl (.c rfl (.c rfl (.c rfl (.c rfl (.c rfl (.c rfl (.c rfl (.c rfl (.c rfl (.c rfl .nil))))))))))) (.box rfl (.c rfl (.c rfl .nil)) (.arr rfl .nil)) rfl)))))) ?_
                rcases Bool.eq_false_or_eq_true (cm .lss s1081.1 (x975.length : Int)) with hc1088 | hc1088
                ·replace h := cond_t hc1088 h
                 refine W.condT rfl hc1088 ?_
                 refine W.skip ?_
                 refine W.seq ?_
                 refine W.block ?_
                 obtain ⟨z1089, hz1089, h⟩ := bind_e h
                 obtain ⟨z1090, hz1090, h⟩ := bind_e h
                 obtain ⟨z1091, hz1091, h⟩ := bind_e h
                 refine W.dr2 (σ' := ⟨[(0, .v Q0 a0), (1, .v Q2 a1), (2, .v Q2 a2), (3, .v Q0 s847.1), (4, .v Q0 s847.2.1), (21, .ptr 143000 0), (22, .ref 144), (25, .v Q0 s847.2.2.2.2.1), (26, .v Q2 x975), (29, .v Q0 s1081.1)], [(143000, .box 172 [.v Q0 v1044.2.1, .v Q1 v1044.2.2]), (144, .arr 56 eBlk (List.set s1081.2 (Int.toNat z1089.1) z1090.2))]⟩) 12 [0, 0, 0, 6, 14, 30, 0, 0, 192, 448, 960, 2047, 4095] mixed (by exact (.cons (.none rfl) (JO.move rfl) rfl rfl (.cons (.none rfl) (JO.move rfl) rfl rfl (.cons (.none rfl) (JO.move rfl) rfl rfl (.cons (.none rfl) (JO.idx hz1089 rfl rfl Try.runUnderlying76 Try.sizeOf85) rfl rfl (.cons (.none rfl) (JO.fieldPst rfl Try.runUnderlying85 rfl Try.sizeOf3 rfl (.fst .here) rfl) rfl rfl (.cons (.none rfl) (JO.loadPst rfl Try.isAgg3 Try.sizeOf3) rfl rfl (.cons (.none rfl) (JO.move rfl) rfl rfl (.cons (.none rfl) (JO.move rfl) rfl rfl (.cons (.none rfl) (JO.idx hz1090 rfl rfl Try.runUnderlying76 Try.sizeOf85) rfl rfl (.cons (.none rfl) (JO.fieldPst rfl Try.runUnderlying85 rfl Try.sizeOf56 rfl (.snd .here) rfl) rfl rfl (.cons (.none rfl) (JO.loadPst rfl Try.isAgg56 Try.sizeOf56) rfl rfl (.cons (.none rfl) (JO.idxR hz1091 rfl rfl rfl Try.runUnderlying26 Try.sizeOf56) rfl rfl .nil))))))))))))) (by exact (J.t (JM.storeEl (idx_some hz1091).2.2 rfl rfl rfl Try.sizeOf56) (J.fin (Sw.Sub.mk id (.c rfl (.c rfl (.c rfl (.c rfl (.c rfl (.c rfl (.c rfl (.c rfl (.c rfl (.c rfl .nil)))))))))) (.box rfl (.c rfl (.c rfl .nil)) (.arr rfl .nil)) rfl)))) rfl (by decide +kernel) (by decide +kernel) (by decide +kernel) (by kernel_rfl) ?_
                 refine W.fall ?_
                 refine W.reg (σ' := ⟨[(0, .v Q0 a0), (1, .v Q2 a1), (2, .v Q2 a2), (3, .v Q0 s847.1), (4, .v Q0 s847.2.1), (21, .ptr 143000 0), (22, .ref 144), (25, .v Q0 s847.2.2.2.2.1), (26, .v Q2 x975), (29, .v Q0 (ar .add .i64 s1081.1 (1 : Int)))], [(143000, .box 172 [.v Q0 v1044.2.1, .v Q1 v1044.2.2]), (144, .arr 56 eBlk (List.set s1081.2 (Int.toNat z1089.1) z1090.2))]⟩) (J.mv rfl (J.k (JO.arith rfl rfl rfl) (J.k (JO.assign rfl) (J.fin (Sw.Sub.mk id (.c rfl (.c rfl (.c rfl (.c rfl (.c rfl (.c rfl (.c rfl (.c rfl (.c rfl (.c rfl .nil)))))))))) (.box rfl (.c rfl (.c rfl .nil)) (.arr rfl .nil)) rfl))))) ?_
                 obtain rfl := Option.some.inj h
                 exact W.next (Sw.Sub.mk id (.c rfl (.c rfl (.c rfl (.c rfl (.c rfl (.c rfl (.c rfl (.c rfl (.c rfl (.c rfl .nil)))))))))) (.box rfl (.c rfl (.c rfl .nil)) (.arr rfl .nil)) rfl)
                ·replace h := cond_f hc1088 h
                 refine W.condF rfl hc1088 ?_
                 refine W.exit ?_
                 obtain rfl := Option.some.inj h
                 exact XQ.brk (Sw.Sub.mk id (.c rfl (.c rfl (.c rfl (.c rfl (.c rfl (.c rfl (.c rfl (.c rfl .nil)))))))) (.box rfl (.c rfl (.c rfl .nil)) (.arr rfl .nil)) rfl)
               ·intro hc1047
                replace h := cond_f hc1047 h
                refine W.skip ?_
                exact W.jfall h (Sw.Sub.mk id (.c rfl (.c rfl (.c rfl (.c rfl (.c rfl (.c rfl (.c rfl (.c rfl (.c rfl (.c rfl .nil)))))))))) (.box rfl (.c rfl (.c rfl .nil)) (.arr rfl .nil)) rfl)
             intro s1017 r1030 h
             refine W.seq ?_
             refine W.seq ?_
             obtain ⟨x1033, hx, h⟩ := bind_e h
             refine W.reg (σ' := ⟨[(0, .v Q0 a0), (1, .v Q2 a1), (2, .v Q2 a2), (3, .v Q0 s847.1), (4, .v Q0 s847.2.1), (21, .ptr 143000 0), (22, .ref 144), (23, .v Q0 s847.2.2.1), (24, .v Q0 s847.2.2.2.1), (25, .v Q0 s847.2.2.2.2.1), (26, .v Q2 x975), (27, .v Q0 s1017.1), (28, .v Q0 s1017.2), (202, .v Enc.bool x1033)], [(143000, .box 172 [.v Q0 s847.2.2.2.2.2.1, .v Q1 s847.2.2.2.2.2.2.1]), (144, .arr 56 eBlk s847.2.2.2.2.2.2.2)]⟩) ?_ ?_
             ·rcases Bool.eq_false_or_eq_true (cm .lss s1017.2 (x975.length : Int)) with hc1034 | hc1034
              ·replace hx := cond_t hc1034 hx
               obtain rfl := Option.some.inj hx
               exact (J.mv rfl (J.mv rfl (J.k (JO.len rfl Try.runUnderlying76) (J.k (JO.cmp rfl rfl rfl) (J.mv rfl (J.m 199 hc1034 (JO.move rfl) (J.m 199 hc1034 (JO.cmp rfl rfl rfl) (J.k (JO.pT hc1034 rfl rfl) (J.fin (Sw.Sub.mk id (.c rfl (.c rfl (.c rfl (.c rfl (.c rfl (.c rfl (.c rfl (.c rfl (.c rfl (.c rfl (.c rfl (.c rfl (.c rfl (.c rfl .nil)))))))))))))) (.box rfl (.c rfl (.c rfl .nil)) (.arr rfl .nil)) rfl))))))))))
              ·replace hx := cond_f hc1034 hx
               obtain rfl := Option.some.inj hx
               exact (J.mv rfl (J.mv rfl (J.k (JO.len rfl Try.runUnderlying76) (J.k (JO.cmp rfl rfl rfl) (J.mv rfl (J.u 199 hc1034 (J.u 199 hc1034 (J.k (JO.pF hc1034 rfl rfl) (J.fin (Sw.Sub.mk id (.c rfl (.c rfl (.c rfl (.c rfl (.c rfl (.c rfl (.c rfl (.c rfl (.c rfl (.c rfl (.c rfl (.c rfl (.c rfl (.c rfl .nil)))))))))))))) (.box rfl (.c rfl (.c rfl .nil)) (.arr rfl .nil)) rfl))))))))))
             rcases Bool.eq_false_or_eq_true x1033 with hc1035 | hc1035
             ·replace h := cond_t hc1035 h
              refine W.condT rfl hc1035 ?_
              refine W.skip ?_
              refine W.seq ?_
              refine W.block ?_
              refine W.seq ?_
              obtain ⟨x1039, hx, h⟩ := bind_e h
              refine W.reg (σ' := ⟨[(0, .v Q0 a0), (1, .v Q2 a1), (2, .v Q2 a2), (3, .v Q0 s847.1), (4, .v Q0 s847.2.1), (21, .ptr 143000 0), (22, .ref 144), (23, .v Q0 s847.2.2.1), (24, .v Q0 s847.2.2.2.1), (25, .v Q0 s847.2.2.2.2.1), (26, .v Q2 x975), (27, .v Q0 s1017.1), (28, .v Q0 s1017.2), (219, .v Enc.bool x1039)], [(143000, .box 172 [.v Q0 s847.2.2.2.2.2.1, .v Q1 s847.2.2.2.2.2.2.1]), (144, .arr 56 eBlk s847.2.2.2.2.2.2.2)]⟩) ?_ ?_
              ·obtain ⟨z1040, hz1040, hx⟩ := bind_e hx
               rcases Bool.eq_false_or_eq_true (cm .lss z1040.1 (0 : Int)) with hc1041 | hc1041
               ·replace hx := cond_t hc1041 hx
                obtain rfl := Option.some.inj hx
                exact (J.mv rfl (J.mv rfl (J.k (JO.idx hz1040 rfl rfl Try.runUnderlying76 Try.sizeOf85) (J.k (JO.fieldPst rfl Try.runUnderlying85 rfl Try.sizeOf3 rfl (.fst .here) rfl) (J.k (JO.loadPst rfl Try.isAgg3 Try.sizeOf3) (J.k (JO.cmp rfl rfl rfl) (J.mv rfl (J.u 211 hc1041 (J.u 211 hc1041 (J.u 211 hc1041 (J.u 211 hc1041 (J.u 211 hc1041 (J.u 211 hc1041 (J.u 211 hc1041 (J.k (JO.pT hc1041 rfl rfl) (J.fin (Sw.Sub.mk id (.c rfl (.c rfl (.c rfl (.c rfl (.c rfl (.c rfl (.c rfl (.c rfl (.c rfl (.c rfl (.c rfl (.c rfl (.c rfl (.c rfl .nil)))))))))))))) (.box rfl (.c rfl (.c rfl .nil)) (.arr rfl .nil)) rfl)))))))))))))))))
               ·replace hx := cond_f hc1041 hx
                obtain ⟨z1042, hz1042, hx⟩ := bind_e hx
                obtain rfl := Option.some.inj hx
                exact (J.mv rfl (J.mv rfl (J.k (JO.idx hz1040 rfl rfl Try.runUnderlying76 Try.sizeOf85) (J.k (JO.fieldPst rfl Try.runUnderlying85 rfl Try.sizeOf3 rfl (.fst .here) rfl) (J.k (JO.loadPst rfl Try.isAgg3 Try.sizeOf3) (J.k (JO.cmp rfl rfl rfl) (J.mv rfl (J.m 211 hc1041 (JO.move rfl) (J.m 211 hc1041 (JO.move rfl) (J.m 211 hc1041 (JO.idx hz1042 rfl rfl Try.runUnderlying76 Try.sizeOf85) (J.m 211 hc1041 (JO.fieldPst rfl Try.runUnderlying85 rfl Try.sizeOf3 rfl (.fst .here) rfl) (J.m 211 hc1041 (JO.loadPst rfl Try.isAgg3 Try.sizeOf3) (J.m 211 hc1041 (JO.move rfl) (J.m 211 hc1041 (JO.cmp rfl rfl rfl) (J.k (JO.pF hc1041 rfl rfl) (J.fin (Sw.Sub.mk id (.c rfl (.c rfl (.c rfl (.c rfl (.c rfl (.c rfl (.c rfl (.c rfl (.c rfl (.c rfl (.c rfl (.c rfl (.c rfl (.c rfl .nil)))))))))))))) (.box rfl (.c rfl (.c rfl .nil)) (.arr rfl .nil)) rfl)))))))))))))))))
              rcases Bool.eq_false_or_eq_true x1039 with hc1043 | hc1043
              ·replace h := cond_t hc1043 h
               refine W.condT rfl hc1043 ?_
               refine W.reg (σ' := ⟨[(0, .v Q0 a0), (1, .v Q2 a1), (2, .v Q2 a2), (3, .v Q0 s847.1), (4, .v Q0 s847.2.1), (21, .ptr 143000 0), (22, .ref 144), (23, .v Q0 s847.2.2.1), (24, .v Q0 s847.2.2.2.1), (25, .v Q0 s847.2.2.2.2.1), (26, .v Q2 x975), (27, .v Q0 (1 : Int)), (28, .v Q0 s1017.2)], [(143000, .box 172 [.v Q0 s847.2.2.2.2.2.1, .v Q1 s847.2.2.2.2.2.2.1]), (144, .arr 56 eBlk s847.2.2.2.2.2.2.2)]⟩) (J.k (JO.assign rfl) (J.fin (Sw.Sub.mk id (.c rfl (.c rfl (.c rfl (.c rfl (.c rfl (.c rfl (.c rfl (.c rfl (.c rfl (.c rfl (.c rfl (.c rfl (.c rfl .nil))))))))))))) (.box rfl (.c rfl (.c rfl .nil)) (.arr rfl .nil)) rfl))) ?_
               refine W.fall ?_
               refine W.reg (σ' := ⟨[(0, .v Q0 a0), (1, .v Q2 a1), (2, .v Q2 a2), (3, .v Q0 s847.1), (4, .v Q0 s847.2.1), (21, .ptr 143000 0), (22, .ref 144), (23, .v Q0 s847.2.2.1), (24, .v Q0 s847.2.2.2.1), (25, .v Q0 s847.2.2.2.2.1), (26, .v Q2 x975), (27, .v Q0 (1 : Int)), (28, .v Q0 (ar .add .i64 s1017.2 (1 : Int)))], [(143000, .box 172 [.v Q0 s847.2.2.2.2.2.1, .v Q1 s847.2.2.2.2.2.2.1]), (144, .arr 56 eBlk s847.2.2.2.2.2.2.2)]⟩) (J.mv rfl (J.k (JO.arith rfl rfl rfl) (J.k (JO.assign rfl) (J.fin (Sw.Sub.mk id (.c rfl (.c rfl (.c rfl (.c rfl (.c rfl (.c rfl (.c rfl (.c rfl (.c rfl (.c rfl (.c rfl (.c rfl (.c rfl .nil))))))))))))) (.box rfl (.c rfl (.c rfl .nil)) (.arr rfl .nil)) rfl))))) ?_
               obtain rfl := Option.some.inj h
               exact W.next (Sw.Sub.mk id (.c rfl (.c rfl (.c rfl (.c rfl (.c rfl (.c rfl (.c rfl (.c rfl (.c rfl (.c rfl (.c rfl (.c rfl (.c rfl .nil))))))))))))) (.box rfl (.c rfl (.c rfl .nil)) (.arr rfl .nil)) rfl)
              ·replace h := cond_f hc1043 h
               refine W.condF rfl hc1043 ?_
               refine W.skip ?_
               refine W.fall ?_
               refine W.reg (σ' := ⟨[(0, .v Q0 a0), (1, .v Q2 a1), (2, .v Q2 a2), (3, .v Q0 s847.1), (4, .v Q0 s847.2.1), (21, .ptr 143000 0), (22, .ref 144), (23, .v Q0 s847.2.2.1), (24, .v Q0 s847.2.2.2.1), (25, .v Q0 s847.2.2.2.2.1), (26, .v Q2 x975), (27, .v Q0 s1017.1), (28, .v Q0 (ar .add .i64 s1017.2 (1 : Int)))], [(143000, .box 172 [.v Q0 s847.2.2.2.2.2.1, .v Q1 s847.2.2.2.2.2.2.1]), (144, .arr 56 eBlk s847.2.2.2.2.2.2.2)]⟩) (J.mv rfl (J.k (JO.arith rfl rfl rfl) (J.k (JO.assign rfl) (J.fin (Sw.Sub.mk id (.c rfl (.c rfl (.c rfl (.c rfl (.c rfl (.c rfl (.c rfl (.c rfl (.c rfl (.c rfl (.c rfl (.c rfl (.c rfl .nil))))))))))))) (.box rfl (.c rfl (.c rfl .nil)) (.arr rfl .nil)) rfl))))) ?_
               obtain rfl := Option.some.inj h
               exact W.next (Sw.Sub.mk id (.c rfl (.c rfl (.c rfl (.c rfl (.c rfl (.c rfl (.c rfl (.c rfl (.c rfl (.c rfl (.c rfl (.c rfl (.c rfl .nil))))))))))))) (.box rfl (.c rfl (.c rfl .nil)) (.arr rfl .nil)) rfl)
             ·replace h := cond_f hc1035 h
              refine W.condF rfl hc1035 ?_
              refine W.exit ?_
              obtain rfl := Option.some.inj h
              exact XQ.brk (Sw.Sub.mk id (.c rfl (.c rfl (.c rfl (.c rfl (.c rfl (.c rfl (.c rfl (.c rfl (.c rfl (.c rfl (.c rfl (.c rfl .nil)))))))))))) (.box rfl (.c rfl (.c rfl .nil)) (.arr rfl .nil)) rfl)
            ·intro hc988
             replace h := cond_t hc988 h
             refine W.reg (σ' := ⟨[(0, .v Q0 a0), (1, .v Q2 a1), (2, .v Q2 a2), (3, .v Q0 s847.1), (4, .v Q0 s847.2.1), (21, .ptr 143000 0), (22, .ref 144), (23, .v Q0 s847.2.2.1), (24, .v Q0 s847.2.2.2.1), (25, .v Q0 s847.2.2.2.2.1), (26, .v Q2 x975), (27, .v Q0 (1 : Int))], [(143000, .box 172 [.v Q0 s847.2.2.2.2.2.1, .v Q1 s847.2.2.2.2.2.2.1]), (144, .arr 56 eBlk s847.2.2.2.2.2.2.2)]⟩) (J.k (JO.assign rfl) (J.fin (Sw.Sub.mk id (.c rfl (.c rfl (.c rfl (.c rfl (.c rfl (.c rfl (.c rfl (.c rfl (.c rfl (.c rfl (.c rfl (.c rfl .nil)))))))))))) (.box rfl (.c rfl (.c rfl .nil)) (.arr rfl .nil)) rfl))) ?_
             exact W.jfall h (Sw.Sub.mk id (.c rfl (.c rfl (.c rfl (.c rfl (.c rfl (.c rfl (.c rfl (.c rfl (.c rfl (.c rfl (.c rfl (.c rfl .nil)))))))))))) (.box rfl (.c rfl (.c rfl .nil)) (.arr rfl .nil)) rfl)
            ·intro hc988
             replace h := cond_f hc988 h
             refine W.skip ?_
             exact W.jfall h (Sw.Sub.mk id (.c rfl (.c rfl (.c rfl (.c rfl (.c rfl (.c rfl (.c rfl (.c rfl (.c rfl (.c rfl (.c rfl (.c rfl .nil)))))))))))) (.box rfl (.c rfl (.c rfl .nil)) (.arr rfl .nil)) rfl)
           ·intro hc976
            replace h := cond_t hc976 h
            refine W.reg (σ' := ⟨[(0, .v Q0 a0), (1, .v Q2 a1), (2, .v Q2 a2), (3, .v Q0 s847.1), (4, .v Q0 s847.2.1), (21, .ptr 143000 0), (22, .ref 144), (23, .v Q0 s847.2.2.1), (24, .v Q0 s847.2.2.2.1), (25, .v Q0 s847.2.2.2.2.1), (26, .v Q2 x975), (27, .v Q0 (2 : Int))], [(143000, .box 172 [.v Q0 s847.2.2.2.2.2.1, .v Q1 s847.2.2.2.2.2.2.1]), (144, .arr 56 eBlk s847.2.2.2.2.2.2.2)]⟩) (J.k (JO.assign rfl) (J.fin (Sw.Sub.mk id (.c rfl (.c rfl (.c rfl (.c rfl (.c rfl (.c rfl (.c rfl (.c rfl (.c rfl (.c rfl (.c rfl (.c rfl .nil)))))))))))) (.box rfl (.c rfl (.c rfl .nil)) (.arr rfl .nil)) rfl))) ?_
            exact W.jfall h (Sw.Sub.mk id (.c rfl (.c rfl (.c rfl (.c rfl (.c rfl (.c rfl (.c rfl (.c rfl (.c rfl (.c rfl (.c rfl (.c rfl .nil)))))))))))) (.box rfl (.c rfl (.c rfl .nil)) (.arr rfl .nil)) rfl)
           ·intro hc976
            replace h := cond_f hc976 h
            refine W.skip ?_
            exact W.jfall h (Sw.Sub.mk id (.c rfl (.c rfl (.c rfl (.c rfl (.c rfl (.c rfl (.c rfl (.c rfl (.c rfl (.c rfl (.c rfl (.c rfl .nil)))))))))))) (.box rfl (.c rfl (.c rfl .nil)) (.arr rfl .nil)) rfl)
          ·intro hc973
           replace h := cond_t hc973 h
           refine W.reg (σ' := ⟨[(0, .v Q0 a0), (1, .v Q2 a1), (2, .v Q2 a2), (3, .v Q0 s847.1), (4, .v Q0 s847.2.1), (21, .ptr 143000 0), (22, .ref 144), (23, .v Q0 s847.2.2.1), (24, .v Q0 s847.2.2.2.1), (25, .v Q0 s847.2.2.2.2.1), (26, .v Q2 a2)], [(143000, .box 172 [.v Q0 s847.2.2.2.2.2.1, .v Q1 s847.2.2.2.2.2.2.1]), (144, .arr 56 eBlk s847.2.2.2.2.2.2.2)]⟩) (J.mv rfl (J.k (JO.assign rfl) (J.fin (Sw.Sub.mk id (.c rfl (.c rfl (.c rfl (.c rfl (.c rfl (.c rfl (.c rfl (.c rfl (.c rfl (.c rfl (.c rfl .nil))))))))))) (.box rfl (.c rfl (.c rfl .nil)) (.arr rfl .nil)) rfl)))) ?_
           exact W.jfall h (Sw.Sub.mk id (.c rfl (.c rfl (.c rfl (.c rfl (.c rfl (.c rfl (.c rfl (.c rfl (.c rfl (.c rfl (.c rfl .nil))))))))))) (.box rfl (.c rfl (.c rfl .nil)) (.arr rfl .nil)) rfl)
          ·intro hc973
           replace h := cond_f hc973 h
           refine W.skip ?_
           exact W.jfall h (Sw.Sub.mk id (.c rfl (.c rfl (.c rfl (.c rfl (.c rfl (.c rfl (.c rfl (.c rfl (.c rfl (.c rfl (.c rfl .nil))))))))))) (.box rfl (.c rfl (.c rfl .nil)) (.arr rfl .nil)) rfl)
         ·replace h := cond_f hc972 h
          refine W.condF rfl hc972 ?_
          refine W.exit ?_
          obtain rfl := Option.some.inj h
          exact XQ.brk (Sw.Sub.mk id (.c rfl (.c rfl (.c rfl (.c rfl (.c rfl .nil))))) (.box rfl (.c rfl (.c rfl .nil)) (.arr rfl .nil)) rfl)
    ·replace h := ocase_s hz52 h
     refine W.reg (σ' := ⟨[(0, .v Q0 a0), (1, .v Q2 a1), (2, .v Q2 a2), (3, .v Q0 a3), (4, .v Q0 a4), (13, .ptr 103 0), (18, .v (Enc.err ET) v51.2)], [(103, .box 99 [.v Q4 v6.1.1, .v Q2 v6.1.2.1, .v Q0 v6.1.2.2])]⟩) (J.mv rfl (J.k (JO.arith rfl rfl rfl) (J.k (JO.mkR 163 hv50 rfl rfl Try.runUnderlying26 Try.typeInfo56 Try.sizeOf56 rfl rfl (Z.arr 8 (Z.int .u8))) (J.k (JO.build built99 (.cons (Z.sl eBlk) (.cons (Z.sl (Enc.pr Q0 eBlk)) (.cons (Z.int .i64) .nil))) (.cons rfl (.dir rfl) rfl rfl rfl rfl (.cons rfl (.dir rfl) rfl rfl rfl rfl .nil))) (J.mv rfl (J.sub (σ' := ⟨[(0, .v Q0 a0), (1, .v Q2 a1), (2, .v Q2 a2), (3, .v Q0 a3), (4, .v Q0 a4), (11, .v Q0 v5.1), (13, .ptr 103 0), (115, .v Enc.bool x42), (117, .v Q0 v5.1), (118, .v Q0 (ar .add .i64 v5.1 (1 : Int))), (119, .v Q4 v50), (120, .agg [.v Q4 v50, .v Q2 ([] : (List (Int × Blk))), .v Q0 (-1 : Int)]), (121, .v Q0 a0)], [(103, .box 99 [.v Q4 v6.1.1, .v Q2 v6.1.2.1, .v Q0 v6.1.2.2])]⟩) (Sw.Sub.mk id (.c rfl (.c rfl (.c rfl (.c rfl (.c rfl (.c rfl (.c rfl (.c rfl (.c rfl (.c rfl (.cons rfl (.frz rfl rfl) (.cons rfl (.agg (.cons (.frz rfl rfl) (.c rfl (.c rfl .nil)))) (.c rfl .nil))))))))))))) (.box rfl (.c rfl (.c rfl (.c rfl .nil))) .nil) rfl) (J.k (JO.call 165000 (con_store_Open_s hz52 hv51) Try.call51 (.cons (.agg rfl (.same (.same (.same .nil))) (.prm (.one _ _) (.prm (.one _ _) (.one _ _))) rfl) (.cons (.dir rfl) .nil)) rfl) (J.mv rfl (J.k (JO.extract rfl rfl) (J.k (JO.extract rfl rfl) (J.k (JO.assign rfl) (J.k (JO.assign rfl) (J.fin (Sw.Sub.mk id (.c rfl (.c rfl (.c rfl (.c rfl (.c rfl (.c rfl (.c rfl .nil))))))) (.box rfl (.c rfl (.c rfl (.c rfl .nil))) .nil) rfl)))))))))))))) ?_
     refine W.seq ?_
     obtain ⟨v1105, hv1105, h⟩ := bind_e h
     rcases hz1106 : v1105.1 with _ | z1106
     ·replace h := ocase_n hz1106 h
      refine W.reg (σ' := ⟨[(0, .v Q0 a0), (1, .v Q2 a1), (2, .v Q2 a2), (3, .v Q0 a3), (4, .v Q0 a4), (13, .ptr 103 0), (18, .v (Enc.err ET) v51.2), (20, .v (Enc.err ET) v1105.2)], [(103, .box 99 [.v Q4 v6.1.1, .v Q2 v6.1.2.1, .v Q0 v6.1.2.2])]⟩) (J.k (JO.fieldPtr 0 rfl Try.runUnderlying99 rfl Try.sizeOf26 rfl rfl) (J.k (JO.load rfl rfl rfl Try.isAgg26 Try.sizeOf26) (J.k (JO.build built85 (.cons (Z.int .i64) (.cons (Z.arr 8 (Z.int .u8)) .nil)) (.cons rfl (.dir rfl) rfl rfl rfl rfl .nil)) (J.k (JO.lit (e := (Enc.pr Q0 eBlk)) Try.runUnderlying76 Try.sizeOf85 Try.zeroValue85 rfl rfl rfl rfl (.cons (.agg rfl (.same (.same .nil)) (.prm (.one _ _) (.one _ _)) rfl) .nil)) (J.k (JO.build built99 (.cons (Z.sl eBlk) (.cons (Z.sl (Enc.pr Q0 eBlk)) (.cons (Z.int .i64) .nil))) (.cons rfl (.dir rfl) rfl rfl rfl rfl (.cons rfl (.dir rfl) rfl rfl rfl rfl (.cons rfl (.dir rfl) rfl rfl rfl rfl .nil)))) (J.mv rfl (J.k (JO.call0 (con_store_Open_n hz1106 hv1105) Try.call51 (.cons (.agg rfl (.same (.same (.same .nil))) (.prm (.one _ _) (.prm (.one _ _) (.one _ _))) rfl) (.cons (.dir rfl) .nil))) (J.mv rfl (J.k (JO.extract rfl rfl) (J.k (JO.extract rfl rfl) (J.k (JO.assign rfl) (J.k (JO.assign rfl) (J.fin (Sw.Sub.mk id (.c rfl (.c rfl (.c rfl (.c rfl (.c rfl (.c rfl (.c rfl (.c rfl .nil)))))))) (.box rfl (.c rfl (.c rfl (.c rfl .nil))) .nil) rfl)))))))))))))) ?_
      refine W.seq ?_
      obtain ⟨v1107, hv1107, h⟩ := bind_e h
      rcases hz1108 : v1107.1 with _ | z1108
      ·replace h := ocase_n hz1108 h
       refine W.reg (σ' := ⟨[(0, .v Q0 a0), (1, .v Q2 a1), (2, .v Q2 a2), (3, .v Q0 a3), (4, .v Q0 a4), (12, .v (Enc.err ET) v1107.2), (18, .v (Enc.err ET) v51.2), (20, .v (Enc.err ET) v1105.2), (21, .v (Enc.ptN (Enc.pr Q0 Q1)) (none : (Option (Int × Q3))))], []⟩) (J.k (JO.loadAll rfl rfl (.prm (.one _ _) (.prm (.one _ _) (.one _ _))) Try.isAgg99 Try.sizeOf99) (J.mv rfl (J.k (JO.call0 (con_store_Open_n hz1108 hv1107) Try.call51 (.cons (.dir rfl) (.cons (.dir rfl) .nil))) (J.mv rfl (J.k (JO.extract rfl rfl) (J.k (JO.extract rfl rfl) (J.k (JO.assign rfl) (J.k (JO.assign rfl) (J.fin (Sw.Sub.mk id (.c rfl (.c rfl (.c rfl (.c rfl (.c rfl (.c rfl (.c rfl (.c rfl (.c rfl .nil))))))))) .nil rfl)))))))))) ?_
       refine W.seq ?_
       refine W.seq ?_
       obtain ⟨x1112, hx, h⟩ := bind_e h
       refine W.reg (σ' := ⟨[(0, .v Q0 a0), (1, .v Q2 a1), (2, .v Q2 a2), (3, .v Q0 a3), (4, .v Q0 a4), (21, .v (Enc.ptN (Enc.pr Q0 Q1)) (none : (Option (Int × Q3)))), (156, .v Enc.bool true)], []⟩) ?_ ?_
       ·rcases Bool.eq_false_or_eq_true (!(v51.2 == (some (5 : Int)))) with hc1113 | hc1113
        ·replace hx := cond_t hc1113 hx
         obtain rfl := Option.some.inj hx
         exact (J.mv rfl (J.k (JO.mkErr Try.runUnderlying29 rfl) (J.k (JO.errNe2 Try.runUnderlying33 Try.runUnderlying29 Try.typeInfo29 rfl rfl rfl) (J.mv rfl (J.u 144 hc1113 (J.u 144 hc1113 (J.u 144 hc1113 (J.k (JO.pT hc1113 rfl rfl) (J.mv rfl (J.u 149 rfl (J.u 149 rfl (J.k (JO.pT rfl rfl rfl) (J.mv rfl (J.u 153 rfl (J.u 153 rfl (J.k (JO.pT rfl rfl rfl) (J.fin (Sw.Sub.mk id (.c rfl (.c rfl (.c rfl (.c rfl (.c rfl (.c rfl (.c rfl .nil))))))) .nil rfl))))))))))))))))))
        ·replace hx := cond_f hc1113 hx
         rcases Bool.eq_false_or_eq_true (!(v1105.2 == (some (5 : Int)))) with hc1114 | hc1114
         ·replace hx := cond_t hc1114 hx
          obtain rfl := Option.some.inj hx
          exact (J.mv rfl (J.k (JO.mkErr Try.runUnderlying29 rfl) (J.k (JO.errNe2 Try.runUnderlying33 Try.runUnderlying29 Try.typeInfo29 rfl rfl rfl) (J.mv rfl (J.m 144 hc1113 (JO.move rfl) (J.m 144 hc1113 (JO.mkErr Try.runUnderlying29 rfl) (J.m 144 hc1113 (JO.errNe2 Try.runUnderlying33 Try.runUnderlying29 Try.typeInfo29 rfl rfl rfl) (J.k (JO.pF hc1113 rfl rfl) (J.mv rfl (J.u 149 hc1114 (J.u 149 hc1114 (J.k (JO.pT hc1114 rfl rfl) (J.mv rfl (J.u 153 rfl (J.u 153 rfl (J.k (JO.pT rfl rfl rfl) (J.fin (Sw.Sub.mk id (.c rfl (.c rfl (.c rfl (.c rfl (.c rfl (.c rfl (.c rfl .nil))))))) .nil rfl))))))))))))))))))
         ·replace hx := cond_f hc1114 hx
          rcases Bool.eq_false_or_eq_true (Option.isSome v1107.2) with hc1115 | hc1115
          ·replace hx := cond_t hc1115 hx
           obtain rfl := Option.some.inj hx
           exact (J.mv rfl (J.k (JO.mkErr Try.runUnderlying29 rfl) (J.k (JO.errNe2 Try.runUnderlying33 Try.runUnderlying29 Try.typeInfo29 rfl rfl rfl) (J.mv rfl (J.m 144 hc1113 (JO.move rfl) (J.m 144 hc1113 (JO.mkErr Try.runUnderlying29 rfl) (J.m 144 hc1113 (JO.errNe2 Try.runUnderlying33 Try.runUnderlying29 Try.typeInfo29 rfl rfl rfl) (J.k (JO.pF hc1113 rfl rfl) (J.mv rfl (J.m 149 hc1114 (JO.move rfl) (J.m 149 hc1114 (JO.errNe Try.runUnderlying33 rfl) (J.k (JO.pF hc1114 rfl rfl) (J.mv rfl (J.u 153 hc1115 (J.u 153 hc1115 (J.k (JO.pT hc1115 rfl rfl) (J.fin (Sw.Sub.mk id (.c rfl (.c rfl (.c rfl (.c rfl (.c rfl (.c rfl (.c rfl .nil))))))) .nil rfl))))))))))))))))))
          ·replace hx := cond_f hc1115 hx
           obtain rfl := Option.some.inj hx
           exact (J.mv rfl (J.k (JO.mkErr Try.runUnderlying29 rfl) (J.k (JO.errNe2 Try.runUnderlying33 Try.runUnderlying29 Try.typeInfo29 rfl rfl rfl) (J.mv rfl (J.m 144 hc1113 (JO.move rfl) (J.m 144 hc1113 (JO.mkErr Try.runUnderlying29 rfl) (J.m 144 hc1113 (JO.errNe2 Try.runUnderlying33 Try.runUnderlying29 Try.typeInfo29 rfl rfl rfl) (J.k (JO.pF hc1113 rfl rfl) (J.mv rfl (J.m 149 hc1114 (JO.move rfl) (J.m 149 hc1114 (JO.errNe Try.runUnderlying33 rfl) (J.k (JO.pF hc1114 rfl rfl) (J.mv rfl (J.m 153 hc1115 (JO.move rfl) (J.m 153 hc1115 (JO.ptEq rfl Try.runUnderlying102) (J.k (JO.pF hc1115 rfl rfl) (J.fin (Sw.Sub.mk id (.c rfl (.c rfl (.c rfl (.c rfl (.c rfl (.c rfl (.c rfl .nil))))))) .nil rfl))))))))))))))))))
       refine W.condT rfl rfl ?_
       refine W.seq ?_
       refine W.reg (σ' := ⟨[(10, .v Enc.bool false)], []⟩) (J.k (JO.assign rfl) (J.fin (Sw.Sub.mk id (.c rfl .nil) .nil rfl))) ?_
       refine W.ret ?_
       obtain rfl := Option.some.inj h
       exact XQ.sub (σ' := ⟨[(10, .v Enc.bool false)], []⟩) (Sw.Sub.mk id (.c rfl .nil) .nil rfl) (XQ.ret1 hF noR rfl (RV.tmp rfl) .nil rfl)
      ·replace h := ocase_s hz1108 h
       refine W.reg (σ' := ⟨[(0, .v Q0 a0), (1, .v Q2 a1), (2, .v Q2 a2), (3, .v Q0 a3), (4, .v Q0 a4), (12, .v (Enc.err ET) v1107.2), (18, .v (Enc.err ET) v51.2), (20, .v (Enc.err ET) v1105.2), (21, .ptr 168000 0)], [(168000, .box 172 [.v Q0 z1108.1, .v Q1 z1108.2])]⟩) (J.k (JO.loadAll rfl rfl (.prm (.one _ _) (.prm (.one _ _) (.one _ _))) Try.isAgg99 Try.sizeOf99) (J.mv rfl (J.k (JO.call 168000 (con_store_Open_s hz1108 hv1107) Try.call51 (.cons (.dir rfl) (.cons (.dir rfl) .nil)) rfl) (J.mv rfl (J.k (JO.extract rfl rfl) (J.k (JO.extract rfl rfl) (J.k (JO.assign rfl) (J.k (JO.assign rfl) (J.fin (Sw.Sub.mk id (.c rfl (.c rfl (.c rfl (.c rfl (.c rfl (.c rfl (.c rfl (.c rfl (.c rfl .nil))))))))) (.box rfl (.c rfl (.c rfl .nil)) .nil) rfl)))))))))) ?_
       refine W.seq ?_
       refine W.seq ?_
       obtain ⟨x1120, hx, h⟩ := bind_e h
       refine W.reg (σ' := ⟨[(0, .v Q0 a0), (1, .v Q2 a1), (2, .v Q2 a2), (3, .v Q0 a3), (4, .v Q0 a4), (21, .ptr 168000 0), (156, .v Enc.bool x1120)], [(168000, .box 172 [.v Q0 z1108.1, .v Q1 z1108.2])]⟩) ?_ ?_
       ·rcases Bool.eq_false_or_eq_true (!(v51.2 == (some (5 : Int)))) with hc1121 | hc1121
        ·replace hx := cond_t hc1121 hx
         obtain rfl := Option.some.inj hx
         exact (J.mv rfl (J.k (JO.mkErr Try.runUnderlying29 rfl) (J.k (JO.errNe2 Try.runUnderlying33 Try.runUnderlying29 Try.typeInfo29 rfl rfl rfl) (J.mv rfl (J.u 144 hc1121 (J.u 144 hc1121 (J.u 144 hc1121 (J.k (JO.pT hc1121 rfl rfl) (J.mv rfl (J.u 149 rfl (J.u 149 rfl (J.k (JO.pT rfl rfl rfl) (J.mv rfl (J.u 153 rfl (J.u 153 rfl (J.k (JO.pT rfl rfl rfl) (J.fin (Sw.Sub.mk id (.c rfl (.c rfl (.c rfl (.c rfl (.c rfl (.c rfl (.c rfl .nil))))))) (.box rfl (.c rfl (.c rfl .nil)) .nil) rfl))))))))))))))))))
        ·replace hx := cond_f hc1121 hx
         rcases Bool.eq_false_or_eq_true (!(v1105.2 == (some (5 : Int)))) with hc1122 | hc1122
         ·replace hx := cond_t hc1122 hx
          obtain rfl := Option.some.inj hx
          exact (J.mv rfl (J.k (JO.mkErr Try.runUnderlying29 rfl) (J.k (JO.errNe2 Try.runUnderlying33 Try.runUnderlying29 Try.typeInfo29 rfl rfl rfl) (J.mv rfl (J.m 144 hc1121 (JO.move rfl) (J.m 144 hc1121 (JO.mkErr Try.runUnderlying29 rfl) (J.m 144 hc1121 (JO.errNe2 Try.runUnderlying33 Try.runUnderlying29 Try.typeInfo29 rfl rfl rfl) (J.k (JO.pF hc1121 rfl rfl) (J.mv rfl (J.u 149 hc1122 (J.u 149 hc1122 (J.k (JO.pT hc1122 rfl rfl) (J.mv rfl (J.u 153 rfl (J.u 153 rfl (J.k (JO.pT rfl rfl rfl) (J.fin (Sw.Sub.mk id (.c rfl (.c rfl (.c rfl (.c rfl (.c rfl (.c rfl (.c rfl .nil))))))) (.box rfl (.c rfl (.c rfl .nil)) .nil) rfl))))))))))))))))))
         ·replace hx := cond_f hc1122 hx
          rcases Bool.eq_false_or_eq_true (Option.isSome v1107.2) with hc1123 | hc1123
          ·replace hx := cond_t hc1123 hx
           obtain rfl := Option.some.inj hx
           exact (J.mv rfl (J.k (JO.mkErr Try.runUnderlying29 rfl) (J.k (JO.errNe2 Try.runUnderlying33 Try.runUnderlying29 Try.typeInfo29 rfl rfl rfl) (J.mv rfl (J.m 144 hc1121 (JO.move rfl) (J.m 144 hc1121 (JO.mkErr Try.runUnderlying29 rfl) (J.m 144 hc1121 (JO.errNe2 Try.runUnderlying33 Try.runUnderlying29 Try.typeInfo29 rfl rfl rfl) (J.k (JO.pF hc1121 rfl rfl) (J.mv rfl (J.m 149 hc1122 (JO.move rfl) (J.m 149 hc1122 (JO.errNe Try.runUnderlying33 rfl) (J.k (JO.pF hc1122 rfl rfl) (J.mv rfl (J.u 153 hc1123 (J.u 153 hc1123 (J.k (JO.pT hc1123 rfl rfl) (J.fin (Sw.Sub.mk id (.c rfl (.c rfl (.c rfl (.c rfl (.c rfl (.c rfl (.c rfl .nil))))))) (.box rfl (.c rfl (.c rfl .nil)) .nil) rfl))))))))))))))))))
          ·replace hx := cond_f hc1123 hx
           obtain rfl := Option.some.inj hx
           exact (J.mv rfl (J.k (JO.mkErr Try.runUnderlying29 rfl) (J.k (JO.errNe2 Try.runUnderlying33 Try.runUnderlying29 Try.typeInfo29 rfl rfl rfl) (J.mv rfl (J.m 144 hc1121 (JO.move rfl) (J.m 144 hc1121 (JO.mkErr Try.runUnderlying29 rfl) (J.m 144 hc1121 (JO.errNe2 Try.runUnderlying33 Try.runUnderlying29 Try.typeInfo29 rfl rfl rfl) (J.k (JO.pF hc1121 rfl rfl) (J.mv rfl (J.m 149 hc1122 (JO.move rfl) (J.m 149 hc1122 (JO.errNe Try.runUnderlying33 rfl) (J.k (JO.pF hc1122 rfl rfl) (J.mv rfl (J.m 153 hc1123 (JO.move rfl) (J.m 153 hc1123 (JO.ptrEqN rfl Try.runUnderlying102) (J.k (JO.pF hc1123 rfl rfl) (J.fin (Sw.Sub.mk id (.c rfl (.c rfl (.c rfl (.c rfl (.c rfl (.c rfl (.c rfl .nil))))))) (.box rfl (.c rfl (.c rfl .nil)) .nil) rfl))))))))))))))))))
       rcases Bool.eq_false_or_eq_true x1120 with hc1124 | hc1124
       ·replace h := cond_t hc1124 h
        refine W.condT rfl hc1124 ?_
        refine W.seq ?_
        refine W.reg (σ' := ⟨[(10, .v Enc.bool false)], []⟩) (J.k (JO.assign rfl) (J.fin (Sw.Sub.mk id (.c rfl .nil) .nil rfl))) ?_
        refine W.ret ?_
        obtain rfl := Option.some.inj h
        exact XQ.sub (σ' := ⟨[(10, .v Enc.bool false)], []⟩) (Sw.Sub.mk id (.c rfl .nil) .nil rfl) (XQ.ret1 hF noR rfl (RV.tmp rfl) .nil rfl)
       ·replace h := cond_f hc1124 h
        refine W.condF rfl hc1124 ?_
        refine W.skip ?_
        refine W.seq ?_
        obtain ⟨v1125, hv1125, h⟩ := bind_e h
        refine W.reg (σ' := ⟨[(0, .v Q0 a0), (1, .v Q2 a1), (2, .v Q2 a2), (3, .v Q0 a3), (4, .v Q0 a4), (21, .ptr 168000 0), (22, .ref 169)], [(168000, .box 172 [.v Q0 z1108.1, .v Q1 z1108.2]), (169, .arr 56 eBlk v1125)]⟩) (J.mv rfl (J.k (JO.mkR 169 hv1125 rfl rfl Try.runUnderlying26 Try.typeInfo56 Try.sizeOf56 rfl rfl (Z.arr 8 (Z.int .u8))) (J.k (JO.assign rfl) (J.fin (Sw.Sub.mk id (.c rfl (.c rfl (.c rfl (.c rfl (.c rfl (.c rfl (.c rfl .nil))))))) (.box rfl (.c rfl (.c rfl .nil)) (.arr rfl .nil)) rfl))))) ?_
        refine W.seq ?_
        refine W.reg (σ' := ⟨[(0, .v Q0 a0), (1, .v Q2 a1), (2, .v Q2 a2), (3, .v Q0 a3), (4, .v Q0 a4), (21, .ptr 168000 0), (22, .ref 169), (23, .v Q0 (0 : Int))], [(168000, .box 172 [.v Q0 z1108.1, .v Q1 z1108.2]), (169, .arr 56 eBlk v1125)]⟩) (J.k (JO.assign rfl) (J.fin (Sw.Sub.mk id (.c rfl (.c rfl (.c rfl (.c rfl (.c rfl (.c rfl (.c rfl (.c rfl .nil)))))))) (.box rfl (.c rfl (.c rfl .nil)) (.arr rfl .nil)) rfl))) ?_
        refine W.seq ?_
        refine W.reg (σ' := ⟨[(0, .v Q0 a0), (1, .v Q2 a1), (2, .v Q2 a2), (3, .v Q0 a3), (4, .v Q0 a4), (21, .ptr 168000 0), (22, .ref 169), (23, .v Q0 (0 : Int)), (24, .v Q0 (0 : Int))], [(168000, .box 172 [.v Q0 z1108.1, .v Q1 z1108.2]), (169, .arr 56 eBlk v1125)]⟩) (J.k (JO.assign rfl) (J.fin (Sw.Sub.mk id (.c rfl (.c rfl (.c rfl (.c rfl (.c rfl (.c rfl (.c rfl (.c rfl (.c rfl .nil))))))))) (.box rfl (.c rfl (.c rfl .nil)) (.arr rfl .nil)) rfl))) ?_
        refine W.seq ?_
        refine W.seq ?_
        obtain ⟨v1126, hv1126, h⟩ := bind_e h
        refine W.reg (σ' := ⟨[(0, .v Q0 a0), (1, .v Q2 a1), (2, .v Q2 a2), (3, .v Q0 a3), (4, .v Q0 a4), (21, .ptr 168000 0), (22, .ref 169), (23, .v Q0 (0 : Int)), (24, .v Q0 (0 : Int)), (164, .v Enc.bool (!v1126))], [(168000, .box 172 [.v Q0 z1108.1, .v Q1 z1108.2]), (169, .arr 56 eBlk v1125)]⟩) (J.mv rfl (J.mv rfl (J.mv rfl (J.mv rfl (J.k (JO.callL0 (con_law_sees hv1126) Try.call53 (.cons (.lendP rfl rfl (.prm (.one _ _) (.one _ _))) (.cons (.ref rfl rfl) (.cons (.dir rfl) (.cons (.dir rfl) .nil)))) FlatS.v) (J.k (JO.not rfl) (J.fin (Sw.Sub.mk id (.c rfl (.c rfl (.c rfl (.c rfl (.c rfl (.c rfl (.c rfl (.c rfl (.c rfl (.c rfl .nil)))))))))) (.box rfl (.c rfl (.c rfl .nil)) (.arr rfl .nil)) rfl)))))))) ?_
        rcases Bool.eq_false_or_eq_true (!v1126) with hc1127 | hc1127
        ·replace h := cond_t hc1127 h
         refine W.condT rfl hc1127 ?_
         refine W.seq ?_
         refine W.reg (σ' := ⟨[(10, .v Enc.bool false)], []⟩) (J.k (JO.assign rfl) (J.fin (Sw.Sub.mk id (.c rfl .nil) .nil rfl))) ?_
         refine W.ret ?_
         obtain rfl := Option.some.inj h
         exact XQ.sub (σ' := ⟨[(10, .v Enc.bool false)], []⟩) (Sw.Sub.mk id (.c rfl .nil) .nil rfl) (XQ.ret1 hF noR rfl (RV.tmp rfl) .nil rfl)
        ·replace h := cond_f hc1127 h
         refine W.condF rfl hc1127 ?_
         refine W.skip ?_
         refine W.seq ?_
         refine W.seq ?_
         refine W.reg (σ' := ⟨[(0, .v Q0 a0), (1, .v Q2 a1), (2, .v Q2 a2), (3, .v Q0 a3), (4, .v Q0 a4), (21, .ptr 168000 0), (22, .ref 169), (23, .v Q0 (0 : Int)), (24, .v Q0 (0 : Int)), (25, .v Q0 (0 : Int))], [(168000, .box 172 [.v Q0 z1108.1, .v Q1 z1108.2]), (169, .arr 56 eBlk v1125)]⟩) (J.k (JO.assign rfl) (J.fin (Sw.Sub.mk id (.c rfl (.c rfl (.c rfl (.c rfl (.c rfl (.c rfl (.c rfl (.c rfl (.c rfl (.c rfl .nil)))))))))) (.box rfl (.c rfl (.c rfl .nil)) (.arr rfl .nil)) rfl))) ?_
         obtain ⟨o1497, ho1497, hb1497, hr1497⟩ := lp_elim h
         refine W.lp (σs := fun s1374 : Int × Int × Int × Int × Int × Int × Q3 × (List Blk) => ⟨[(0, .v Q0 a0), (1, .v Q2 a1), (2, .v Q2 a2), (3, .v Q0 s1374.1), (4, .v Q0 s1374.2.1), (21, .ptr 168000 0), (22, .ref 169), (23, .v Q0 s1374.2.2.1), (24, .v Q0 s1374.2.2.2.1), (25, .v Q0 s1374.2.2.2.2.1)], [(168000, .box 172 [.v Q0 s1374.2.2.2.2.2.1, .v Q1 s1374.2.2.2.2.2.2.1]), (169, .arr 56 eBlk s1374.2.2.2.2.2.2.2)]⟩) (fun x1498 : Int × Int × Int × Q3 × (List Blk) => ⟨[(0, .v Q0 a0), (21, .ptr 168000 0), (22, .ref 169), (23, .v Q0 x1498.1), (24, .v Q0 x1498.2.1)], [(168000, .box 172 [.v Q0 x1498.2.2.1, .v Q1 x1498.2.2.2.1]), (169, .arr 56 eBlk x1498.2.2.2.2)]⟩) ho1497 (Sw.Sub.mk id (.c rfl (.c rfl (.c rfl (.c rfl (.c rfl (.c rfl (.c rfl (.c rfl (.c rfl (.c rfl .nil)))))))))) (.box rfl (.c rfl (.c rfl .nil)) (.arr rfl .nil)) rfl) ?_ ?_
         ·intro x1498 hy
          have h := hb1497 _ hy
          refine W.seq ?_
          obtain ⟨v1621, hv1621, h⟩ := bind_e h
          obtain ⟨v1622, hv1622, h⟩ := bind_e h
          rcases hz1623 : v1622.1 with _ | z1623
          ·replace h := ocase_n hz1623 h
           refine W.reg (σ' := ⟨[(12, .v (Enc.err ET) v1622.2), (22, .ref 169), (23, .v Q0 x1498.1), (24, .v Q0 x1498.2.1), (30, .v (Enc.ptN (Enc.pr Q0 Q1)) (none : (Option (Int × Q3))))], [(169, .arr 56 eBlk x1498.2.2.2.2)]⟩) (J.mv rfl (J.k (JO.callL 180000 (con_store_Store_Disk hv1621) Try.call55 (.cons (.lendP rfl rfl (.prm (.one _ _) (.one _ _))) .nil) rfl (FlatS.agg (.ref (.ref (.v .nil)))) (FlatN.arr (FlatN.arr FlatN.nil))) (J.mv rfl (J.sub (σ' := ⟨[(0, .v Q0 a0), (21, .ptr 168000 0), (22, .ref 169), (23, .v Q0 x1498.1), (24, .v Q0 x1498.2.1), (259, .ptr 168000 0), (260, .agg [.v Q4 v1621.1, .v Q2 v1621.2.1, .v Q0 v1621.2.2]), (261, .v Q0 a0)], [(168000, .box 172 [.v Q0 x1498.2.2.1, .v Q1 x1498.2.2.2.1]), (169, .arr 56 eBlk x1498.2.2.2.2)]⟩) (Sw.Sub.mk id (.c rfl (.c rfl (.c rfl (.c rfl (.c rfl (.c rfl (.cons rfl (.agg (.cons (.frz rfl rfl) (.cons (.frz rfl rfl) (.c rfl .nil)))) (.c rfl .nil)))))))) (.box rfl (.c rfl (.c rfl .nil)) (.arr rfl .nil)) rfl) (J.k (JO.call0 (con_store_Open_n hz1623 hv1622) Try.call51 (.cons (.agg rfl (.same (.same (.same .nil))) (.prm (.one _ _) (.prm (.one _ _) (.one _ _))) rfl) (.cons (.dir rfl) .nil))) (J.mv rfl (J.k (JO.extract rfl rfl) (J.k (JO.extract rfl rfl) (J.k (JO.assign rfl) (J.k (JO.assign rfl) (J.fin (Sw.Sub.mk id (.c rfl (.c rfl (.c rfl (.c rfl (.c rfl .nil))))) (.arr rfl .nil) rfl)))))))))))) ?_
           refine W.seq ?_
           obtain ⟨x1625, hx, h⟩ := bind_e h
           refine W.reg (σ' := ⟨[(10, .v Enc.bool false)], []⟩) ?_ ?_
           ·rcases Bool.eq_false_or_eq_true (Option.isNone v1622.2) with hc1626 | hc1626
            ·replace hx := cond_t hc1626 hx
             obtain rfl := Option.some.inj hx
             exact (J.mv rfl (J.k (JO.errEq Try.runUnderlying33 rfl) (J.mv rfl (J.m 267 hc1626 (JO.move rfl) (J.m 267 hc1626 (JO.ptNe rfl Try.runUnderlying102) (J.k (JO.pT hc1626 rfl rfl) (J.mv rfl (J.u 271 rfl (J.u 271 rfl (J.u 271 rfl (J.u 271 rfl (J.u 271 rfl (J.k (JO.pF rfl rfl rfl) (J.k (JO.assign rfl) (J.fin (Sw.Sub.mk id (.c rfl .nil) .nil rfl))))))))))))))))
            ·replace hx := cond_f hc1626 hx
             obtain rfl := Option.some.inj hx
             exact (J.mv rfl (J.k (JO.errEq Try.runUnderlying33 rfl) (J.mv rfl (J.u 267 hc1626 (J.u 267 hc1626 (J.k (JO.pF hc1626 rfl rfl) (J.mv rfl (J.u 271 rfl (J.u 271 rfl (J.u 271 rfl (J.u 271 rfl (J.u 271 rfl (J.k (JO.pF rfl rfl rfl) (J.k (JO.assign rfl) (J.fin (Sw.Sub.mk id (.c rfl .nil) .nil rfl))))))))))))))))
           refine W.ret ?_
           obtain rfl := Option.some.inj h
           exact XQ.sub (σ' := ⟨[(10, .v Enc.bool false)], []⟩) (Sw.Sub.mk id (.c rfl .nil) .nil rfl) (XQ.ret1 hF noR rfl (RV.tmp rfl) .nil rfl)
          ·replace h := ocase_s hz1623 h
           refine W.reg (σ' := ⟨[(12, .v (Enc.err ET) v1622.2), (22, .ref 169), (23, .v Q0 x1498.1), (24, .v Q0 x1498.2.1), (30, .ptr 185000 0)], [(169, .arr 56 eBlk x1498.2.2.2.2), (185000, .box 172 [.v Q0 z1623.1, .v Q1 z1623.2])]⟩) (J.mv rfl (J.k (JO.callL 183000 (con_store_Store_Disk hv1621) Try.call55 (.cons (.lendP rfl rfl (.prm (.one _ _) (.one _ _))) .nil) rfl (FlatS.agg (.ref (.ref (.v .nil)))) (FlatN.arr (FlatN.arr FlatN.nil))) (J.mv rfl (J.sub (σ' := ⟨[(0, .v Q0 a0), (21, .ptr 168000 0), (22, .ref 169), (23, .v Q0 x1498.1), (24, .v Q0 x1498.2.1), (259, .ptr 168000 0), (260, .agg [.v Q4 v1621.1, .v Q2 v1621.2.1, .v Q0 v1621.2.2]), (261, .v Q0 a0)], [(168000, .box 172 [.v Q0 x1498.2.2.1, .v Q1 x1498.2.2.2.1]), (169, .arr 56 eBlk x1498.2.2.2.2)]⟩) (Sw.Sub.mk id (.c rfl (.c rfl (.c rfl (.c rfl (.c rfl (.c rfl (.cons rfl (.agg (.cons (.frz rfl rfl) (.cons (.frz rfl rfl) (.c rfl .nil)))) (.c rfl .nil)))))))) (.box rfl (.c rfl (.c rfl .nil)) (.arr rfl .nil)) rfl) (J.k (JO.call 185000 (con_store_Open_s hz1623 hv1622) Try.call51 (.cons (.agg rfl (.same (.same (.same .nil))) (.prm (.one _ _) (.prm (.one _ _) (.one _ _))) rfl) (.cons (.dir rfl) .nil)) rfl) (J.mv rfl (J.k (JO.extract rfl rfl) (J.k (JO.extract rfl rfl) (J.k (JO.assign rfl) (J.k (JO.assign rfl) (J.fin (Sw.Sub.mk id (.c rfl (.c rfl (.c rfl (.c rfl (.c rfl .nil))))) (.arr rfl (.box rfl (.c rfl (.c rfl .nil)) .nil)) rfl)))))))))))) ?_
           refine W.seq ?_
           obtain ⟨x1629, hx, h⟩ := bind_e h
           refine W.reg (σ' := ⟨[(10, .v Enc.bool x1629)], []⟩) ?_ ?_
           ·rcases Bool.eq_false_or_eq_true (Option.isNone v1622.2) with hc1630 | hc1630
            ·replace hx := cond_t hc1630 hx
             obtain ⟨v1631, hv1631, hx⟩ := bind_e hx
             obtain rfl := Option.some.inj hx
             exact (J.mv rfl (J.k (JO.errEq Try.runUnderlying33 rfl) (J.mv rfl (J.m 267 hc1630 (JO.move rfl) (J.m 267 hc1630 (JO.ptrNeN rfl Try.runUnderlying102) (J.k (JO.pT hc1630 rfl rfl) (J.mv rfl (J.m 271 rfl (JO.move rfl) (J.m 271 rfl (JO.move rfl) (J.m 271 rfl (JO.move rfl) (J.m 271 rfl (JO.move rfl) (J.m 271 rfl (JO.callL0 (con_law_sees hv1631) Try.call53 (.cons (.lendP rfl rfl (.prm (.one _ _) (.one _ _))) (.cons (.ref rfl rfl) (.cons (.dir rfl) (.cons (.dir rfl) .nil)))) FlatS.v) (J.k (JO.pT rfl rfl rfl) (J.k (JO.assign rfl) (J.fin (Sw.Sub.mk id (.c rfl .nil) .nil rfl))))))))))))))))
            ·replace hx := cond_f hc1630 hx
             obtain rfl := Option.some.inj hx
             exact (J.mv rfl (J.k (JO.errEq Try.runUnderlying33 rfl) (J.mv rfl (J.u 267 hc1630 (J.u 267 hc1630 (J.k (JO.pF hc1630 rfl rfl) (J.mv rfl (J.u 271 rfl (J.u 271 rfl (J.u 271 rfl (J.u 271 rfl (J.u 271 rfl (J.k (JO.pF rfl rfl rfl) (J.k (JO.assign rfl) (J.fin (Sw.Sub.mk id (.c rfl .nil) .nil rfl))))))))))))))))
           refine W.ret ?_
           obtain rfl := Option.some.inj h
           exact XQ.sub (σ' := ⟨[(10, .v Enc.bool x1629)], []⟩) (Sw.Sub.mk id (.c rfl .nil) .nil rfl) (XQ.ret1 hF noR rfl (RV.tmp rfl) .nil rfl)
         intro s1374 r1497 h
         refine W.seq ?_
         refine W.seq ?_
         refine W.reg (σ' := ⟨[(0, .v Q0 a0), (1, .v Q2 a1), (2, .v Q2 a2), (3, .v Q0 s1374.1), (4, .v Q0 s1374.2.1), (21, .ptr 168000 0), (22, .ref 169), (23, .v Q0 s1374.2.2.1), (24, .v Q0 s1374.2.2.2.1), (25, .v Q0 s1374.2.2.2.2.1), (166, .v Enc.bool (cm .lss s1374.2.2.2.2.1 (2 : Int)))], [(168000, .box 172 [.v Q0 s1374.2.2.2.2.2.1, .v Q1 s1374.2.2.2.2.2.2.1]), (169, .arr 56 eBlk s1374.2.2.2.2.2.2.2)]⟩) (J.mv rfl (J.k (JO.cmp rfl rfl rfl) (J.fin (Sw.Sub.mk id (.c rfl (.c rfl (.c rfl (.c rfl (.c rfl (.c rfl (.c rfl (.c rfl (.c rfl (.c rfl (.c rfl .nil))))))))))) (.box rfl (.c rfl (.c rfl .nil)) (.arr rfl .nil)) rfl)))) ?_
         rcases Bool.eq_false_or_eq_true (cm .lss s1374.2.2.2.2.1 (2 : Int)) with hc1499 | hc1499
         ·replace h := cond_t hc1499 h
          refine W.condT rfl hc1499 ?_
          refine W.skip ?_
          refine W.seq ?_
          refine W.block ?_
          refine W.seq ?_
          refine W.reg (σ' := ⟨[(0, .v Q0 a0), (1, .v Q2 a1), (2, .v Q2 a2), (3, .v Q0 s1374.1), (4, .v Q0 s1374.2.1), (21, .ptr 168000 0), (22, .ref 169), (23, .v Q0 s1374.2.2.1), (24, .v Q0 s1374.2.2.2.1), (25, .v Q0 s1374.2.2.2.2.1), (26, .v Q2 a1)], [(168000, .box 172 [.v Q0 s1374.2.2.2.2.2.1, .v Q1 s1374.2.2.2.2.2.2.1]), (169, .arr 56 eBlk s1374.2.2.2.2.2.2.2)]⟩) (J.mv rfl (J.k (JO.assign rfl) (J.fin (Sw.Sub.mk id (.c rfl (.c rfl (.c rfl (.c rfl (.c rfl (.c rfl (.c rfl (.c rfl (.c rfl (.c rfl (.c rfl .nil))))))))))) (.box rfl (.c rfl (.c rfl .nil)) (.arr rfl .nil)) rfl)))) ?_
          refine W.seq ?_
          refine W.seq ?_
          refine W.reg (σ' := ⟨[(0, .v Q0 a0), (1, .v Q2 a1), (2, .v Q2 a2), (3, .v Q0 s1374.1), (4, .v Q0 s1374.2.1), (21, .ptr 168000 0), (22, .ref 169), (23, .v Q0 s1374.2.2.1), (24, .v Q0 s1374.2.2.2.1), (25, .v Q0 s1374.2.2.2.2.1), (26, .v Q2 a1), (171, .v Enc.bool (cm .eql s1374.2.2.2.2.1 (1 : Int)))], [(168000, .box 172 [.v Q0 s1374.2.2.2.2.2.1, .v Q1 s1374.2.2.2.2.2.2.1]), (169, .arr 56 eBlk s1374.2.2.2.2.2.2.2)]⟩) (J.mv rfl (J.k (JO.cmp rfl rfl rfl) (J.fin (Sw.Sub.mk id (.c rfl (.c rfl (.c rfl (.c rfl (.c rfl (.c rfl (.c rfl (.c rfl (.c rfl (.c rfl (.c rfl (.c rfl .nil)))))))))))) (.box rfl (.c rfl (.c rfl .nil)) (.arr rfl .nil)) rfl)))) ?_
          obtain ⟨k1501, hk1501, h⟩ := jp_elim h
          refine W.jn (fun x1502 : (List (Int × Blk)) => ⟨[(0, .v Q0 a0), (1, .v Q2 a1), (2, .v Q2 a2), (3, .v Q0 s1374.1), (4, .v Q0 s1374.2.1), (21, .ptr 168000 0), (22, .ref 169), (23, .v Q0 s1374.2.2.1), (24, .v Q0 s1374.2.2.2.1), (25, .v Q0 s1374.2.2.2.2.1), (26, .v Q2 x1502)], [(168000, .box 172 [.v Q0 s1374.2.2.2.2.2.1, .v Q1 s1374.2.2.2.2.2.2.1]), (169, .arr 56 eBlk s1374.2.2.2.2.2.2.2)]⟩) (fun x => k1501 x = some r1497) rfl ?_ ?_ ?_
          ·intro x1502 h
           rw [hk1501] at h
           refine W.seq ?_
           refine W.reg (σ' := ⟨[(0, .v Q0 a0), (1, .v Q2 a1), (2, .v Q2 a2), (3, .v Q0 s1374.1), (4, .v Q0 s1374.2.1), (21, .ptr 168000 0), (22, .ref 169), (23, .v Q0 s1374.2.2.1), (24, .v Q0 s1374.2.2.2.1), (25, .v Q0 s1374.2.2.2.2.1), (26, .v Q2 x1502), (27, .v Q0 (0 : Int))], [(168000, .box 172 [.v Q0 s1374.2.2.2.2.2.1, .v Q1 s1374.2.2.2.2.2.2.1]), (169, .arr 56 eBlk s1374.2.2.2.2.2.2.2)]⟩) (J.k (JO.assign rfl) (J.fin (Sw.Sub.mk id (.c rfl (.c rfl (.c rfl (.c rfl (.c rfl (.c rfl (.c rfl (.c rfl (.c rfl (.c rfl (.c rfl (.c rfl .nil)))))))))))) (.box rfl (.c rfl (.c rfl .nil)) (.arr rfl .nil)) rfl))) ?_
           refine W.seq ?_
           refine W.seq ?_
           refine W.reg (σ' := ⟨[(0, .v Q0 a0), (1, .v Q2 a1), (2, .v Q2 a2), (3, .v Q0 s1374.1), (4, .v Q0 s1374.2.1), (21, .ptr 168000 0), (22, .ref 169), (23, .v Q0 s1374.2.2.1), (24, .v Q0 s1374.2.2.2.1), (25, .v Q0 s1374.2.2.2.2.1), (26, .v Q2 x1502), (27, .v Q0 (0 : Int)), (176, .v Enc.bool (cm .gtr (x1502.length : Int) a0))], [(168000, .box 172 [.v Q0 s1374.2.2.2.2.2.1, .v Q1 s1374.2.2.2.2.2.2.1]), (169, .arr 56 eBlk s1374.2.2.2.2.2.2.2)]⟩) (J.mv rfl (J.k (JO.len rfl Try.runUnderlying76) (J.mv rfl (J.k (JO.cmp rfl rfl rfl) (J.fin (Sw.Sub.mk id (.c rfl (.c rfl (.c rfl (.c rfl (.c rfl (.c rfl (.c rfl (.c rfl (.c rfl (.c rfl (.c rfl (.c rfl (.c rfl .nil))))))))))))) (.box rfl (.c rfl (.c rfl .nil)) (.arr rfl .nil)) rfl)))))) ?_
           obtain ⟨k1504, hk1504, h⟩ := jp_elim h
           refine W.jn (fun x1505 : Int => ⟨[(0, .v Q0 a0), (1, .v Q2 a1), (2, .v Q2 a2), (3, .v Q0 s1374.1), (4, .v Q0 s1374.2.1), (21, .ptr 168000 0), (22, .ref 169), (23, .v Q0 s1374.2.2.1), (24, .v Q0 s1374.2.2.2.1), (25, .v Q0 s1374.2.2.2.2.1), (26, .v Q2 x1502), (27, .v Q0 x1505)], [(168000, .box 172 [.v Q0 s1374.2.2.2.2.2.1, .v Q1 s1374.2.2.2.2.2.2.1]), (169, .arr 56 eBlk s1374.2.2.2.2.2.2.2)]⟩) (fun x => k1504 x = some r1497) rfl ?_ ?_ ?_
           ·intro x1505 h
            rw [hk1504] at h
            refine W.seq ?_
            refine W.seq ?_
            obtain ⟨x1510, hx, h⟩ := bind_e h
            refine W.reg (σ' := ⟨[(0, .v Q0 a0), (1, .v Q2 a1), (2, .v Q2 a2), (3, .v Q0 s1374.1), (4, .v Q0 s1374.2.1), (21, .ptr 168000 0), (22, .ref 169), (23, .v Q0 s1374.2.2.1), (24, .v Q0 s1374.2.2.2.1), (25, .v Q0 s1374.2.2.2.2.1), (26, .v Q2 x1502), (27, .v Q0 x1505), (194, .v Enc.bool x1510)], [(168000, .box 172 [.v Q0 s1374.2.2.2.2.2.1, .v Q1 s1374.2.2.2.2.2.2.1]), (169, .arr 56 eBlk s1374.2.2.2.2.2.2.2)]⟩) ?_ ?_
            ·rcases Bool.eq_false_or_eq_true (cm .eql x1505 (0 : Int)) with hc1511 | hc1511
             ·replace hx := cond_t hc1511 hx
              rcases Bool.eq_false_or_eq_true (cm .lss s1374.1 (0 : Int)) with hc1512 | hc1512
              ·replace hx := cond_t hc1512 hx
               obtain rfl := Option.some.inj hx
               exact (J.mv rfl (J.k (JO.cmp rfl rfl rfl) (J.mv rfl (J.m 179 hc1511 (JO.move rfl) (J.m 179 hc1511 (JO.cmp rfl rfl rfl) (J.m 179 hc1511 (JO.move rfl) (J.u 182 hc1512 (J.u 182 hc1512 (J.m 179 hc1511 (JO.pT hc1512 rfl rfl) (J.m 179 hc1511 (JO.move rfl) (J.u 186 rfl (J.u 186 rfl (J.m 179 hc1511 (JO.pT rfl rfl rfl) (J.m 179 hc1511 (JO.move rfl) (J.u 190 rfl (J.u 190 rfl (J.m 179 hc1511 (JO.pT rfl rfl rfl) (J.k (JO.pT hc1511 rfl rfl) (J.fin (Sw.Sub.mk id (.c rfl (.c rfl (.c rfl (.c rfl (.c rfl (.c rfl (.c rfl (.c rfl (.c rfl (.c rfl (.c rfl (.c rfl (.c rfl .nil))))))))))))) (.box rfl (.c rfl (.c rfl .nil)) (.arr rfl .nil)) rfl))))))))))))))))))))
              ·replace hx := cond_f hc1512 hx
               rcases Bool.eq_false_or_eq_true (cm .gtr s1374.1 (2147483647 : Int)) with hc1513 | hc1513
               ·replace hx := cond_t hc1513 hx
                obtain rfl := Option.some.inj hx
                exact (J.mv rfl (J.k (JO.cmp rfl rfl rfl) (J.mv rfl (J.m 179 hc1511 (JO.move rfl) (J.m 179 hc1511 (JO.cmp rfl rfl rfl) (J.m 179 hc1511 (JO.move rfl) (J.m 182 hc1512 (JO.move rfl) (J.m 182 hc1512 (JO.cmp rfl rfl rfl) (J.m 179 hc1511 (JO.pF hc1512 rfl rfl) (J.m 179 hc1511 (JO.move rfl) (J.u 186 hc1513 (J.u 186 hc1513 (J.m 179 hc1511 (JO.pT hc1513 rfl rfl) (J.m 179 hc1511 (JO.move rfl) (J.u 190 rfl (J.u 190 rfl (J.m 179 hc1511 (JO.pT rfl rfl rfl) (J.k (JO.pT hc1511 rfl rfl) (J.fin (Sw.Sub.mk id (.c rfl (.c rfl (.c rfl (.c rfl (.c rfl (.c rfl (.c rfl (.c rfl (.c rfl (.c rfl (.c rfl (.c rfl (.c rfl .nil))))))))))))) (.box rfl (.c rfl (.c rfl .nil)) (.arr rfl .nil)) rfl))))))))))))))))))))
               ·replace hx := cond_f hc1513 hx
                rcases Bool.eq_false_or_eq_true (cm .lss s1374.2.1 (0 : Int)) with hc1514 | hc1514
                ·replace hx := cond_t hc1514 hx
                 obtain rfl := Option.some.inj hx
                 exact (J.mv rfl (J.k (JO.cmp rfl rfl rfl) (J.mv rfl (J.m 179 hc1511 (JO.move rfl) (J.m 179 hc1511 (JO.cmp rfl rfl rfl) (J.m 179 hc1511 (JO.move rfl) (J.m 182 hc1512 (JO.move rfl) (J.m 182 hc1512 (JO.cmp rfl rfl rfl) (J.m 179 hc1511 (JO.pF hc1512 rfl rfl) (J.m 179 hc1511 (JO.move rfl) (J.m 186 hc1513 (JO.move rfl) (J.m 186 hc1513 (JO.cmp rfl rfl rfl) (J.m 179 hc1511 (JO.pF hc1513 rfl rfl) (J.m 179 hc1511 (JO.move rfl) (J.u 190 hc1514 (J.u 190 hc1514 (J.m 179 hc1511 (JO.pT hc1514 rfl rfl) (J.k (JO.pT hc1511 rfl rfl) (J.fin (Sw.Sub.mk id (.c rfl (.c rfl (.c rfl (.c rfl (.c rfl (.c rfl (.c rfl (.c rfl (.c rfl (.c rfl (.c rfl (.c rfl (.c rfl .nil))))))))))))) (.box rfl (.c rfl (.c rfl .nil)) (.arr rfl .nil)) rfl))))))))))))))))))))
                ·replace hx := cond_f hc1514 hx
                 obtain rfl := Option.some.inj hx
                 exact (J.mv rfl (J.k (JO.cmp rfl rfl rfl) (J.mv rfl (J.m 179 hc1511 (JO.move rfl) (J.m 179 hc1511 (JO.cmp rfl rfl rfl) (J.m 179 hc1511 (JO.move rfl) (J.m 182 hc1512 (JO.move rfl) (J.m 182 hc1512 (JO.cmp rfl rfl rfl) (J.m 179 hc1511 (JO.pF hc1512 rfl rfl) (J.m 179 hc1511 (JO.move rfl) (J.m 186 hc1513 (JO.move rfl) (J.m 186 hc1513 (JO.cmp rfl rfl rfl) (J.m 179 hc1511 (JO.pF hc1513 rfl rfl) (J.m 179 hc1511 (JO.move rfl) (J.m 190 hc1514 (JO.move rfl) (J.m 190 hc1514 (JO.cmp rfl rfl rfl) (J.m 179 hc1511 (JO.pF hc1514 rfl rfl) (J.k (JO.pT hc1511 rfl rfl) (J.fin (Sw.Sub.mk id (.c rfl (.c rfl (.c rfl (.c rfl (.c rfl (.c rfl (.c rfl (.c rfl (.c rfl (.c rfl (.c rfl (.c rfl (.c rfl .nil))))))))))))) (.box rfl (.c rfl (.c rfl .nil)) (.arr rfl .nil)) rfl))))))))))))))))))))
             ·replace hx := cond_f hc1511 hx
              obtain rfl := Option.some.inj hx
              exact (J.mv rfl (J.k (JO.cmp rfl rfl rfl) (J.mv rfl (J.u 179 hc1511 (J.u 179 hc1511 (J.u 179 hc1511 (J.left (GK.und 182 rfl rfl rfl) rfl (J.left (GK.und 182 rfl rfl rfl) rfl (J.u 179 hc1511 (J.u 179 hc1511 (J.left (GK.und 186 rfl rfl rfl) rfl (J.left (GK.und 186 rfl rfl rfl) rfl (J.u 179 hc1511 (J.u 179 hc1511 (J.left (GK.und 190 rfl rfl rfl) rfl (J.left (GK.und 190 rfl rfl rfl) rfl (J.u 179 hc1511 (J.k (JO.pF hc1511 rfl rfl) (J.fin (Sw.Sub.mk id (.c rfl (.c rfl (.c rfl (.c rfl (.c rfl (.c rfl (.c rfl (.c rfl (.c rfl (.c rfl (.c rfl (.c rfl (.c rfl .nil))))))))))))) (.box rfl (.c rfl (.c rfl .nil)) (.arr rfl .nil)) rfl))))))))))))))))))))
            obtain ⟨k1516, hk1516, h⟩ := jp_elim h
            refine W.jn (fun x1517 : Int => ⟨[(0, .v Q0 a0), (1, .v Q2 a1), (2, .v Q2 a2), (3, .v Q0 s1374.1), (4, .v Q0 s1374.2.1), (21, .ptr 168000 0), (22, .ref 169), (23, .v Q0 s1374.2.2.1), (24, .v Q0 s1374.2.2.2.1), (25, .v Q0 s1374.2.2.2.2.1), (26, .v Q2 x1502), (27, .v Q0 x1517)], [(168000, .box 172 [.v Q0 s1374.2.2.2.2.2.1, .v Q1 s1374.2.2.2.2.2.2.1]), (169, .arr 56 eBlk s1374.2.2.2.2.2.2.2)]⟩) (fun x => k1516 x = some r1497) rfl ?_ ?_ ?_
            ·intro x1517 h
             rw [hk1516] at h
             refine W.seq ?_
             refine W.seq ?_
             refine W.reg (σ' := ⟨[(0, .v Q0 a0), (1, .v Q2 a1), (2, .v Q2 a2), (3, .v Q0 s1374.1), (4, .v Q0 s1374.2.1), (21, .ptr 168000 0), (22, .ref 169), (23, .v Q0 s1374.2.2.1), (24, .v Q0 s1374.2.2.2.1), (25, .v Q0 s1374.2.2.2.2.1), (26, .v Q2 x1502), (27, .v Q0 x1517), (28, .v Q0 (0 : Int))], [(168000, .box 172 [.v Q0 s1374.2.2.2.2.2.1, .v Q1 s1374.2.2.2.2.2.2.1]), (169, .arr 56 eBlk s1374.2.2.2.2.2.2.2)]⟩) (J.k (JO.assign rfl) (J.fin (Sw.Sub.mk id (.c rfl (.c rfl (.c rfl (.c rfl (.c rfl (.c rfl (.c rfl (.c rfl (.c rfl (.c rfl (.c rfl (.c rfl (.c rfl .nil))))))))))))) (.box rfl (.c rfl (.c rfl .nil)) (.arr rfl .nil)) rfl))) ?_
             obtain ⟨o1557, ho1557, hb1557, hr1557⟩ := lp_elim h
             refine W.lp (σs := fun s1544 : Int × Int => ⟨[(0, .v Q0 a0), (1, .v Q2 a1), (2, .v Q2 a2), (3, .v Q0 s1374.1), (4, .v Q0 s1374.2.1), (21, .ptr 168000 0), (22, .ref 169), (23, .v Q0 s1374.2.2.1), (24, .v Q0 s1374.2.2.2.1), (25, .v Q0 s1374.2.2.2.2.1), (26, .v Q2 x1502), (27, .v Q0 s1544.1), (28, .v Q0 s1544.2)], [(168000, .box 172 [.v Q0 s1374.2.2.2.2.2.1, .v Q1 s1374.2.2.2.2.2.2.1]), (169, .arr 56 eBlk s1374.2.2.2.2.2.2.2)]⟩) (fun x1558 : Int => ⟨[(0, .v Q0 a0), (1, .v Q2 a1), (2, .v Q2 a2), (3, .v Q0 s1374.1), (4, .v Q0 s1374.2.1), (21, .ptr 168000 0), (22, .ref 169), (23, .v Q0 s1374.2.2.1), (24, .v Q0 s1374.2.2.2.1), (25, .v Q0 s1374.2.2.2.2.1), (26, .v Q2 x1502), (27, .v Q0 x1558)], [(168000, .box 172 [.v Q0 s1374.2.2.2.2.2.1, .v Q1 s1374.2.2.2.2.2.2.1]), (169, .arr 56 eBlk s1374.2.2.2.2.2.2.2)]⟩) ho1557 (Sw.Sub.mk id (.c rfl (.c rfl (.c rfl (.c rfl (.c rfl (.c rfl (.c rfl (.c rfl (.c rfl (.c rfl (.c rfl (.c rfl (.c rfl .nil))))))))))))) (.box rfl (.c rfl (.c rfl .nil)) (.arr rfl .nil)) rfl) ?_ ?_
             ·intro x1558 hy
              have h := hb1557 _ hy
              refine W.seq ?_
              refine W.seq ?_
              obtain ⟨v1571, hv1571, h⟩ := bind_e h
              obtain ⟨v1572, hv1572, h⟩ := bind_e h
              refine W.reg (σ' := ⟨[(0, .v Q0 a0), (1, .v Q2 a1), (2, .v Q2 a2), (3, .v Q0 s1374.1), (4, .v Q0 s1374.2.1), (21, .ptr 168000 0), (22, .ref 169), (23, .v Q0 s1374.2.2.1), (24, .v Q0 s1374.2.2.2.1), (25, .v Q0 s1374.2.2.2.2.1), (26, .v Q2 x1502), (27, .v Q0 x1558), (227, .v Enc.bool (!v1572))], [(168000, .box 172 [.v Q0 v1571.2.1, .v Q1 v1571.2.2]), (169, .arr 56 eBlk s1374.2.2.2.2.2.2.2)]⟩) (J.mv rfl (J.mv rfl (J.mv rfl (J.mv rfl (J.t (JM.callM (H := [168000]) (K := [168000]) (swp [(9000, 168000)]) (swp_inj _) (fun A => con_store_Store_Commit_io A hv1571) Try.call54 (.cons (.dir rfl) (.cons (.dir rfl) (.cons (.dir rfl) (.cons (.dir rfl) .nil)))) (fun A => (.box rfl .nil)) (fun A => (.box rfl .nil rfl)) (fun _ => rfl) rfl rfl (fun _ => rfl) rfl rfl) (J.mv rfl (J.k (JO.call0 (con_ref_Is hv1572) Try.call14 (.cons (.dir rfl) (.cons (.dir rfl) .nil))) (J.k (JO.not rfl) (J.fin (Sw.Sub.mk id (.c rfl (.c rfl (.c rfl (.c rfl (.c rfl (.c rfl (.c rfl (.c rfl (.c rfl (.c rfl (.c rfl (.c rfl (.c rfl .nil))))))))))))) (.box rfl (.c rfl (.c rfl .nil)) (.arr rfl .nil)) rfl)))))))))) ?_
              rcases Bool.eq_false_or_eq_true (!v1572) with hc1573 | hc1573
              ·replace h := cond_t hc1573 h
               refine W.condT rfl hc1573 ?_
               refine W.seq ?_
               refine W.reg (σ' := ⟨[(10, .v Enc.bool false)], []⟩) (J.k (JO.assign rfl) (J.fin (Sw.Sub.mk id (.c rfl .nil) .nil rfl))) ?_
               refine W.ret ?_
               refine XQ.ret ?_
               obtain rfl := Option.some.inj h
               refine XQ.lret fun ho => ?_
               obtain rfl := hr1497 _ ho
               exact XQ.sub (σ' := ⟨[(10, .v Enc.bool false)], []⟩) (Sw.Sub.mk id (.c rfl .nil) .nil rfl) (XQ.ret1 hF noR rfl (RV.tmp rfl) .nil rfl)
              ·replace h := cond_f hc1573 h
               refine W.condF rfl hc1573 ?_
               refine W.skip ?_
               refine W.seq ?_
               refine W.seq ?_
               refine W.reg (σ' := ⟨[(0, .v Q0 a0), (1, .v Q2 a1), (2, .v Q2 a2), (3, .v Q0 s1374.1), (4, .v Q0 s1374.2.1), (21, .ptr 168000 0), (22, .ref 169), (23, .v Q0 s1374.2.2.1), (24, .v Q0 s1374.2.2.2.1), (25, .v Q0 s1374.2.2.2.2.1), (26, .v Q2 x1502), (229, .v Enc.bool (cm .eql x1558 (0 : Int)))], [(168000, .box 172 [.v Q0 v1571.2.1, .v Q1 v1571.2.2]), (169, .arr 56 eBlk s1374.2.2.2.2.2.2.2)]⟩) (J.mv rfl (J.k (JO.cmp rfl rfl rfl) (J.fin (Sw.Sub.mk id (.c rfl (.c rfl (.c rfl (.c rfl (.c rfl (.c rfl (.c rfl (.c rfl (.c rfl (.c rfl (.c rfl (.c rfl .nil)))))))))))) (.box rfl (.c rfl (.c rfl .nil)) (.arr rfl .nil)) rfl)))) ?_
               obtain ⟨k1596, hk1596, h⟩ := jp_elim h
               refine W.jn (fun x1597 : Int × Int × (List Blk) => ⟨[(0, .v Q0 a0), (1, .v Q2 a1), (2, .v Q2 a2), (3, .v Q0 s1374.1), (4, .v Q0 s1374.2.1), (21, .ptr 168000 0), (22, .ref 169), (23, .v Q0 x1597.1), (24, .v Q0 x1597.2.1), (25, .v Q0 s1374.2.2.2.2.1)], [(168000, .box 172 [.v Q0 v1571.2.1, .v Q1 v1571.2.2]), (169, .arr 56 eBlk x1597.2.2)]⟩) (fun x => k1596 x = some r1497) rfl ?_ ?_ ?_
               ·intro x1597 h
                rw [hk1596] at h
                refine W.seq ?_
                refine W.seq ?_
                obtain ⟨v1619, hv1619, h⟩ := bind_e h
                refine W.reg (σ' := ⟨[(0, .v Q0 a0), (1, .v Q2 a1), (2, .v Q2 a2), (3, .v Q0 s1374.1), (4, .v Q0 s1374.2.1), (21, .ptr 168000 0), (22, .ref 169), (23, .v Q0 x1597.1), (24, .v Q0 x1597.2.1), (25, .v Q0 s1374.2.2.2.2.1), (255, .v Enc.bool (!v1619))], [(168000, .box 172 [.v Q0 v1571.2.1, .v Q1 v1571.2.2]), (169, .arr 56 eBlk x1597.2.2)]⟩) (J.mv rfl (J.mv rfl (J.mv rfl (J.mv rfl (J.k (JO.callL0 (con_law_sees hv1619) Try.call53 (.cons (.lendP rfl rfl (.prm (.one _ _) (.one _ _))) (.cons (.ref rfl rfl) (.cons (.dir rfl) (.cons (.dir rfl) .nil)))) FlatS.v) (J.k (JO.not rfl) (J.fin (Sw.Sub.mk id (.c rfl (.c rfl (.c rfl (.c rfl (.c rfl (.c rfl (.c rfl (.c rfl (.c rfl (.c rfl (.c rfl .nil))))))))))) (.box rfl (.c rfl (.c rfl .nil)) (.arr rfl .nil)) rfl)))))))) ?_
                rcases Bool.eq_false_or_eq_true (!v1619) with hc1620 | hc1620
                ·replace h := cond_t hc1620 h
                 refine W.condT rfl hc1620 ?_
                 refine W.seq ?_
                 refine W.reg (σ' := ⟨[(10, .v Enc.bool false)], []⟩) (J.k (JO.assign rfl) (J.fin (Sw.Sub.mk id (.c rfl .nil) .nil rfl))) ?_
                 refine W.ret ?_
                 refine XQ.ret ?_
                 obtain rfl := Option.some.inj h
                 refine XQ.lret fun ho => ?_
                 obtain rfl := hr1497 _ ho
                 exact XQ.sub (σ' := ⟨[(10, .v Enc.bool false)], []⟩) (Sw.Sub.mk id (.c rfl .nil) .nil rfl) (XQ.ret1 hF noR rfl (RV.tmp rfl) .nil rfl)
                ·replace h := cond_f hc1620 h
                 refine W.condF rfl hc1620 ?_
                 refine W.skip ?_
                 refine W.reg (σ' := ⟨[(0, .v Q0 a0), (1, .v Q2 a1), (2, .v Q2 a2), (3, .v Q0 s1374.2.1), (4, .v Q0 s1374.1), (21, .ptr 168000 0), (22, .ref 169), (23, .v Q0 x1597.1), (24, .v Q0 x1597.2.1), (25, .v Q0 s1374.2.2.2.2.1)], [(168000, .box 172 [.v Q0 v1571.2.1, .v Q1 v1571.2.2]), (169, .arr 56 eBlk x1597.2.2)]⟩) (J.mv rfl (J.mv rfl (J.k (JO.assign rfl) (J.k (JO.assign rfl) (J.fin (Sw.Sub.mk id (.c rfl (.c rfl (.c rfl (.c rfl (.c rfl (.c rfl (.c rfl (.c rfl (.c rfl (.c rfl .nil)))))))))) (.box rfl (.c rfl (.c rfl .nil)) (.arr rfl .nil)) rfl)))))) ?_
                 refine W.fall ?_
                 refine W.reg (σ' := ⟨[(0, .v Q0 a0), (1, .v Q2 a1), (2, .v Q2 a2), (3, .v Q0 s1374.2.1), (4, .v Q0 s1374.1), (21, .ptr 168000 0), (22, .ref 169), (23, .v Q0 x1597.1), (24, .v Q0 x1597.2.1), (25, .v Q0 (ar .add .i64 s1374.2.2.2.2.1 (1 : Int)))], [(168000, .box 172 [.v Q0 v1571.2.1, .v Q1 v1571.2.2]), (169, .arr 56 eBlk x1597.2.2)]⟩) (J.mv rfl (J.k (JO.arith rfl rfl rfl) (J.k (JO.assign rfl) (J.fin (Sw.Sub.mk id (.c rfl (.c rfl (.c rfl (.c rfl (.c rfl (.c rfl (.c rfl (.c rfl (.c rfl (.c rfl .nil)))))))))) (.box rfl (.c rfl (.c rfl .nil)) (.arr rfl .nil)) rfl))))) ?_
                 obtain rfl := Option.some.inj h
                 exact W.next (Sw.Sub.mk id (.c rfl (.c rfl (.c rfl (.c rfl (.c rfl (.c rfl (.c rfl (.c rfl (.c rfl (.c rfl .nil)))))))))) (.box rfl (.c rfl (.c rfl .nil)) (.arr rfl .nil)) rfl)
               ·intro hc1574
                replace h := cond_t hc1574 h
                refine W.seq ?_
                refine W.seq ?_
                refine W.reg (σ' := ⟨[(0, .v Q0 a0), (1, .v Q2 a1), (2, .v Q2 a2), (3, .v Q0 s1374.1), (4, .v Q0 s1374.2.1), (21, .ptr 168000 0), (22, .ref 169), (25, .v Q0 s1374.2.2.2.2.1), (26, .v Q2 x1502), (29, .v Q0 (0 : Int))], [(168000, .box 172 [.v Q0 v1571.2.1, .v Q1 v1571.2.2]), (169, .arr 56 eBlk s1374.2.2.2.2.2.2.2)]⟩) (J.k (JO.assign rfl) (J.fin (Sw.Sub.mk id (.c rfl (.c rfl (.c rfl (.c rfl (.c rfl (.c rfl (.c rfl (.c rfl (.c rfl (.c rfl .nil)))))))))) (.box rfl (.c rfl (.c rfl .nil)) (.arr rfl .nil)) rfl))) ?_
                obtain ⟨o1613, ho1613, hb1613, hr1613⟩ := lp_elim h
                refine W.lp (σs := fun s1608 : Int × (List Blk) => ⟨[(0, .v Q0 a0), (1, .v Q2 a1), (2, .v Q2 a2), (3, .v Q0 s1374.1), (4, .v Q0 s1374.2.1), (21, .ptr 168000 0), (22, .ref 169), (25, .v Q0 s1374.2.2.2.2.1), (26, .v Q2 x1502), (29, .v Q0 s1608.1)], [(168000, .box 172 [.v Q0 v1571.2.1, .v Q1 v1571.2.2]), (169, .arr 56 eBlk s1608.2)]⟩) (fun x1614 : (List Blk) => ⟨[(0, .v Q0 a0), (1, .v Q2 a1), (2, .v Q2 a2), (3, .v Q0 s1374.1), (4, .v Q0 s1374.2.1), (21, .ptr 168000 0), (22, .ref 169), (25, .v Q0 s1374.2.2.2.2.1)], [(168000, .box 172 [.v Q0 v1571.2.1, .v Q1 v1571.2.2]), (169, .arr 56 eBlk x1614)]⟩) ho1613 (Sw.Sub.mk id (.c rfl (.c rfl (.c rfl (.c rfl (.c rfl (.c rfl (.c rfl (.c rfl (.c rfl (.c rfl .nil)))))))))) (.box rfl (.c rfl (.c rfl .nil)) (.arr rfl .nil)) rfl) ?_ ?_
                ·intro x1614 hy
                 have h := hb1613 _ hy
                 refine W.seq ?_
                 refine W.reg (σ' := ⟨[(0, .v Q0 a0), (1, .v Q2 a1), (2, .v Q2 a2), (3, .v Q0 s1374.1), (4, .v Q0 s1374.2.1), (21, .ptr 168000 0), (22, .ref 169), (23, .v Q0 s1374.1), (25, .v Q0 s1374.2.2.2.2.1)], [(168000, .box 172 [.v Q0 v1571.2.1, .v Q1 v1571.2.2]), (169, .arr 56 eBlk x1614)]⟩) (J.mv rfl (J.k (JO.assign rfl) (J.fin (Sw.Sub.mk id (.c rfl (.c rfl (.c rfl (.c rfl (.c rfl (.c rfl (.c rfl (.c rfl (.c rfl .nil))))))))) (.box rfl (.c rfl (.c rfl .nil)) (.arr rfl .nil)) rfl)))) ?_
                 refine W.reg (σ' := ⟨[(0, .v Q0 a0), (1, .v Q2 a1), (2, .v Q2 a2), (3, .v Q0 s1374.1), (4, .v Q0 s1374.2.1), (21, .ptr 168000 0), (22, .ref 169), (23, .v Q0 s1374.1), (24, .v Q0 s1374.2.1), (25, .v Q0 s1374.2.2.2.2.1)], [(168000, .box 172 [.v Q0 v1571.2.1, .v Q1 v1571.2.2]), (169, .arr 56 eBlk x1614)]⟩) (J.mv rfl (J.k (JO.assign rfl) (J.fin (Sw.Sub.mk id (.c rfl (.c rfl (.c rfl (.c rfl (.c rfl (.c rfl (.c rfl (.c rfl (.c rfl (.c rfl .nil)))))))))) (.box rfl (.c rfl (.c rfl .nil)) (.arr rfl .nil)) rfl)))) ?_
                 exact W.jfall h (Sw.Sub.mk id (.c rfl (.c rfl (.c rfl (.c rfl (.c rfl (.c rfl (.c rfl (.c rfl (.c rfl (.c rfl .nil)))))))))) (.box rfl (.c rfl (.c rfl .nil)) (.arr rfl .nil)) rfl)
                intro s1608 r1613 h
                refine W.seq ?_
                refine W.seq ?_
                refine W.reg (σ' := ⟨[(0, .v Q0 a0), (1, .v Q2 a1), (2, .v Q2 a2), (3, .v Q0 s1374.1), (4, .v Q0 s1374.2.1), (21, .ptr 168000 0), (22, .ref 169), (25, .v Q0 s1374.2.2.2.2.1), (26, .v Q2 x1502), (29, .v Q0 s1608.1), (233, .v Enc.bool (cm .lss s1608.1 (x1502.length : Int)))], [(168000, .box 172 [.v Q0 v1571.2.1, .v Q1 v1571.2.2]), (169, .arr 56 eBlk s1608.2)]⟩) (J.mv rfl (J.mv rfl (J.k (JO.len rfl Try.runUnderlying76) (J.k (JO.cmp rfl rfl rfl) (J.fin (Sw.Sub.mk id (.c rfl (.c rfl (.c rfl (.c rfl (.c rfl (.c rfl (.c rfl (.c rfl (.c rfl (.c rfl (.c rfl .nil))))))))))) (.box rfl (.c rfl (.c rfl .nil)) (.arr rfl .nil)) rfl)))))) ?_
                rcases Bool.eq_false_or_eq_true (cm .lss s1608.1 (x1502.length : Int)) with hc1615 | hc1615
                ·replace h := cond_t hc1615 h
                 refine W.condT rfl hc1615 ?_
                 refine W.skip ?_
                 refine W.seq ?_
                 refine W.block ?_
                 obtain ⟨z1616, hz1616, h⟩ := bind_e h
                 obtain ⟨z1617, hz1617, h⟩ := bind_e h
                 obtain ⟨z1618, hz1618, h⟩ := bind_e h
                 refine W.dr2 (σ' := ⟨[(0, .v Q0 a0), (1, .v Q2 a1), (2, .v Q2 a2), (3, .v Q0 s1374.1), (4, .v Q0 s1374.2.1), (21, .ptr 168000 0), (22, .ref 169), (25, .v Q0 s1374.2.2.2.2.1), (26, .v Q2 x1502), (29, .v Q0 s1608.1)], [(168000, .box 172 [.v Q0 v1571.2.1, .v Q1 v1571.2.2]), (169, .arr 56 eBlk (List.set s1608.2 (Int.toNat z1616.1) z1617.2))]⟩) 12 [0, 0, 0, 6, 14, 30, 0, 0, 192, 448, 960, 2047, 4095] mixed (by exact (.cons (.none rfl) (JO.move rfl) rfl rfl (.cons (.none rfl) (JO.move rfl) rfl rfl (.cons (.none rfl) (JO.move rfl) rfl rfl (.cons (.none rfl) (JO.idx hz1616 rfl rfl Try.runUnderlying76 Try.sizeOf85) rfl rfl (.cons (.none rfl) (JO.fieldPst rfl Try.runUnderlying85 rfl Try.sizeOf3 rfl (.fst .here) rfl) rfl rfl (.cons (.none rfl) (JO.loadPst rfl Try.isAgg3 Try.sizeOf3) rfl rfl (.cons (.none rfl) (JO.move rfl) rfl rfl (.cons (.none rfl) (JO.move rfl) rfl rfl (.cons (.none rfl) (JO.idx hz1617 rfl rfl Try.runUnderlying76 Try.sizeOf85) rfl rfl (.cons (.none rfl) (JO.fieldPst rfl Try.runUnderlying85 rfl Try.sizeOf56 rfl (.snd .here) rfl) rfl rfl (.cons (.none rfl) (JO.loadPst rfl Try.isAgg56 Try.sizeOf56) rfl rfl (.cons (.none rfl) (JO.idxR hz1618 rfl rfl rfl Try.runUnderlying26 Try.sizeOf56) rfl rfl .nil))))))))))))) (by exact (J.t (JM.storeEl (idx_some hz1618).2.2 rfl rfl rfl Try.sizeOf56) (J.fin (Sw.Sub.mk id (.c rfl (.c rfl (.c rfl (.c rfl (.c rfl (.c rfl (.c rfl (.c rfl (.c rfl (.c rfl .nil)))))))))) (.box rfl (.c rfl (.c rfl .nil)) (.arr rfl .nil)) rfl)))) rfl (by decide +kernel) (by decide +kernel) (by decide +kernel) (by kernel_rfl) ?_
                 refine W.fall ?_
                 refine W.reg (σ' := ⟨[(0, .v Q0 a0), (1, .v Q2 a1), (2, .v Q2 a2), (3, .v Q0 s1374.1), (4, .v Q0 s1374.2.1), (21, .ptr 168000 0), (22, .ref 169), (25, .v Q0 s1374.2.2.2.2.1), (26, .v Q2 x1502), (29, .v Q0 (ar .add .i64 s1608.1 (1 : Int)))], [(168000, .box 172 [.v Q0 v1571.2.1, .v Q1 v1571.2.2]), (169, .arr 56 eBlk (List.set s1608.2 (Int.toNat z1616.1) z1617.2))]⟩) (J.mv rfl (J.k (JO.arith rfl rfl rfl) (J.k (JO.assign rfl) (J.fin (Sw.Sub.mk id (.c rfl (.c rfl (.c rfl (.c rfl (.c rfl (.c rfl (.c rfl (.c rfl (.c rfl (.c rfl .nil)))))))))) (.box rfl (.c rfl (.c rfl .nil)) (.arr rfl .nil)) rfl))))) ?_
                 obtain rfl := Option.some.inj h
                 exact W.next (Sw.Sub.mk id (.c rfl (.c rfl (.c rfl (.c rfl (.c rfl (.c rfl (.c rfl (.c rfl (.c rfl (.c rfl .nil)))))))))) (.box rfl (.c rfl (.c rfl .nil)) (.arr rfl .nil)) rfl)
                ·replace h := cond_f hc1615 h
                 refine W.condF rfl hc1615 ?_
                 refine W.exit ?_
                 obtain rfl := Option.some.inj h
                 exact XQ.brk (Sw.Sub.mk id (.c rfl (.c rfl (.c rfl (.c rfl (.c rfl (.c rfl (.c rfl (.c rfl .nil)))))))) (.box rfl (.c rfl (.c rfl .nil)) (.arr rfl .nil)) rfl)
               ·intro hc1574
                replace h := cond_f hc1574 h
                refine W.skip ?_
                exact W.jfall h (Sw.Sub.mk id (.c rfl (.c rfl (.c rfl (.c rfl (.c rfl (.c rfl (.c rfl (.c rfl (.c rfl (.c rfl .nil)))))))))) (.box rfl (.c rfl (.c rfl .nil)) (.arr rfl .nil)) rfl)
             intro s1544 r1557 h
             refine W.seq ?_
             refine W.seq ?_
             obtain ⟨x1560, hx, h⟩ := bind_e h
             refine W.reg (σ' := ⟨[(0, .v Q0 a0), (1, .v Q2 a1), (2, .v Q2 a2), (3, .v Q0 s1374.1), (4, .v Q0 s1374.2.1), (21, .ptr 168000 0), (22, .ref 169), (23, .v Q0 s1374.2.2.1), (24, .v Q0 s1374.2.2.2.1), (25, .v Q0 s1374.2.2.2.2.1), (26, .v Q2 x1502), (27, .v Q0 s1544.1), (28, .v Q0 s1544.2), (202, .v Enc.bool x1560)], [(168000, .box 172 [.v Q0 s1374.2.2.2.2.2.1, .v Q1 s1374.2.2.2.2.2.2.1]), (169, .arr 56 eBlk s1374.2.2.2.2.2.2.2)]⟩) ?_ ?_
             ·rcases Bool.eq_false_or_eq_true (cm .lss s1544.2 (x1502.length : Int)) with hc1561 | hc1561
              ·replace hx := cond_t hc1561 hx
               obtain rfl := Option.some.inj hx
               exact (J.mv rfl (J.mv rfl (J.k (JO.len rfl Try.runUnderlying76) (J.k (JO.cmp rfl rfl rfl) (J.mv rfl (J.m 199 hc1561 (JO.move rfl) (J.m 199 hc1561 (JO.cmp rfl rfl rfl) (J.k (JO.pT hc1561 rfl rfl) (J.fin (Sw.Sub.mk id (.c rfl (.c rfl (.c rfl (.c rfl (.c rfl (.c rfl (.c rfl (.c rfl (.c rfl (.c rfl (.c rfl (.c rfl (.c rfl (.c rfl .nil)))))))))))))) (.box rfl (.c rfl (.c rfl .nil)) (.arr rfl .nil)) rfl))))))))))
              ·replace hx := cond_f hc1561 hx
               obtain rfl := Option.some.inj hx
               exact (J.mv rfl (J.mv rfl (J.k (JO.len rfl Try.runUnderlying76) (J.k (JO.cmp rfl rfl rfl) (J.mv rfl (J.u 199 hc1561 (J.u 199 hc1561 (J.k (JO.pF hc1561 rfl rfl) (J.fin (Sw.Sub.mk id (.c rfl (.c rfl (.c rfl (.c rfl (.c rfl (.c rfl (.c rfl (.c rfl (.c rfl (.c rfl (.c rfl (.c rfl (.c rfl (.c rfl .nil)))))))))))))) (.box rfl (.c rfl (.c rfl .nil)) (.arr rfl .nil)) rfl))))))))))
             rcases Bool.eq_false_or_eq_true x1560 with hc1562 | hc1562
             ·replace h := cond_t hc1562 h
              refine W.condT rfl hc1562 ?_
              refine W.skip ?_
              refine W.seq ?_
              refine W.block ?_
              refine W.seq ?_
              obtain ⟨x1566, hx, h⟩ := bind_e h
              refine W.reg (σ' := ⟨[(0, .v Q0 a0), (1, .v Q2 a1), (2, .v Q2 a2), (3, .v Q0 s1374.1), (4, .v Q0 s1374.2.1), (21, .ptr 168000 0), (22, .ref 169), (23, .v Q0 s1374.2.2.1), (24, .v Q0 s1374.2.2.2.1), (25, .v Q0 s1374.2.2.2.2.1), (26, .v Q2 x1502), (27, .v Q0 s1544.1), (28, .v Q0 s1544.2), (219, .v Enc.bool x1566)], [(168000, .box 172 [.v Q0 s1374.2.2.2.2.2.1, .v Q1 s1374.2.2.2.2.2.2.1]), (169, .arr 56 eBlk s1374.2.2.2.2.2.2.2)]⟩) ?_ ?_
              ·obtain ⟨z1567, hz1567, hx⟩ := bind_e hx
               rcases Bool.eq_false_or_eq_true (cm .lss z1567.1 (0 : Int)) with hc1568 | hc1568
               ·replace hx := cond_t hc1568 hx
                obtain rfl := Option.some.inj hx
                exact (J.mv rfl (J.mv rfl (J.k (JO.idx hz1567 rfl rfl Try.runUnderlying76 Try.sizeOf85) (J.k (JO.fieldPst rfl Try.runUnderlying85 rfl Try.sizeOf3 rfl (.fst .here) rfl) (J.k (JO.loadPst rfl Try.isAgg3 Try.sizeOf3) (J.k (JO.cmp rfl rfl rfl) (J.mv rfl (J.u 211 hc1568 (J.u 211 hc1568 (J.u 211 hc1568 (J.u 211 hc1568 (J.u 211 hc1568 (J.u 211 hc1568 (J.u 211 hc1568 (J.k (JO.pT hc1568 rfl rfl) (J.fin (Sw.Sub.mk id (.c rfl (.c rfl (.c rfl (.c rfl (.c rfl (.c rfl (.c rfl (.c rfl (.c rfl (.c rfl (.c rfl (.c rfl (.c rfl (.c rfl .nil)))))))))))))) (.box rfl (.c rfl (.c rfl .nil)) (.arr rfl .nil)) rfl)))))))))))))))))
               ·replace hx := cond_f hc1568 hx
                obtain ⟨z1569, hz1569, hx⟩ := bind_e hx
                obtain rfl := Option.some.inj hx
                exact (J.mv rfl (J.mv rfl (J.k (JO.idx hz1567 rfl rfl Try.runUnderlying76 Try.sizeOf85) (J.k (JO.fieldPst rfl Try.runUnderlying85 rfl Try.sizeOf3 rfl (.fst .here) rfl) (J.k (JO.loadPst rfl Try.isAgg3 Try.sizeOf3) (J.k (JO.cmp rfl rfl rfl) (J.mv rfl (J.m 211 hc1568 (JO.move rfl) (J.m 211 hc1568 (JO.move rfl) (J.m 211 hc1568 (JO.idx hz1569 rfl rfl Try.runUnderlying76 Try.sizeOf85) (J.m 211 hc1568 (JO.fieldPst rfl Try.runUnderlying85 rfl Try.sizeOf3 rfl (.fst .here) rfl) (J.m 211 hc1568 (JO.loadPst rfl Try.isAgg3 Try.sizeOf3) (J.m 211 hc1568 (JO.move rfl) (J.m 211 hc1568 (JO.cmp rfl rfl rfl) (J.k (JO.pF hc1568 rfl rfl) (J.fin (Sw.Sub.mk id (.c rfl (.c rfl (.c rfl (.c rfl (.c rfl (.c rfl (.c rfl (.c rfl (.c rfl (.c rfl (.c rfl (.c rfl (.c rfl (.c rfl .nil)))))))))))))) (.box rfl (.c rfl (.c rfl .nil)) (.arr rfl .nil)) rfl)))))))))))))))))
              rcases Bool.eq_false_or_eq_true x1566 with hc1570 | hc1570
              ·replace h := cond_t hc1570 h
               refine W.condT rfl hc1570 ?_
               refine W.reg (σ' := ⟨[(0, .v Q0 a0), (1, .v Q2 a1), (2, .v Q2 a2), (3, .v Q0 s1374.1), (4, .v Q0 s1374.2.1), (21, .ptr 168000 0), (22, .ref 169), (23, .v Q0 s1374.2.2.1), (24, .v Q0 s1374.2.2.2.1), (25, .v Q0 s1374.2.2.2.2.1), (26, .v Q2 x1502), (27, .v Q0 (1 : Int)), (28, .v Q0 s1544.2)], [(168000, .box 172 [.v Q0 s1374.2.2.2.2.2.1, .v Q1 s1374.2.2.2.2.2.2.1]), (169, .arr 56 eBlk s1374.2.2.2.2.2.2.2)]⟩) (J.k (JO.assign rfl) (J.fin (Sw.Sub.mk id (.c rfl (.c rfl (.c rfl (.c rfl (.c rfl (.c rfl (.c rfl (.c rfl (.c rfl (.c rfl (.c rfl (.c rfl (.c rfl .nil))))))))))))) (.box rfl (.c rfl (.c rfl .nil)) (.arr rfl .nil)) rfl))) ?_
               refine W.fall ?_
               refine W.reg (σ' := ⟨[(0, .v Q0 a0), (1, .v Q2 a1), (2, .v Q2 a2), (3, .v Q0 s1374.1), (4, .v Q0 s1374.2.1), (21, .ptr 168000 0), (22, .ref 169), (23, .v Q0 s1374.2.2.1), (24, .v Q0 s1374.2.2.2.1), (25, .v Q0 s1374.2.2.2.2.1), (26, .v Q2 x1502), (27, .v Q0 (1 : Int)), (28, .v Q0 (ar .add .i64 s1544.2 (1 : Int)))], [(168000, .box 172 [.v Q0 s1374.2.2.2.2.2.1, .v Q1 s1374.2.2.2.2.2.2.1]), (169, .arr 56 eBlk s1374.2.2.2.2.2.2.2)]⟩) (J.mv rfl (J.k (JO.arith rfl rfl rfl) (J.k (JO.assign rfl) (J.fin (Sw.Sub.mk id (.c rfl (.c rfl (.c rfl (.c rfl (.c rfl (.c rfl (.c rfl (.c rfl (.c rfl (.c rfl (.c rfl (.c rfl (.c rfl .nil))))))))))))) (.box rfl (.c rfl (.c rfl .nil)) (.arr rfl .nil)) rfl))))) ?_
               obtain rfl := Option.some.inj h
               exact W.next (Sw.Sub.mk id (.c rfl (.c rfl (.c rfl (.c rfl (.c rfl (.c rfl (.c rfl (.c rfl (.c rfl (.c rfl (.c rfl (.c rfl (.c rfl .nil))))))))))))) (.box rfl (.c rfl (.c rfl .nil)) (.arr rfl .nil)) rfl)
              ·replace h := cond_f hc1570 h
               refine W.condF rfl hc1570 ?_
               refine W.skip ?_
               refine W.fall ?_
               refine W.reg (σ' := ⟨[(0, .v Q0 a0), (1, .v Q2 a1), (2, .v Q2 a2), (3, .v Q0 s1374.1), (4, .v Q0 s1374.2.1), (21, .ptr 168000 0), (22, .ref 169), (23, .v Q0 s1374.2.2.1), (24, .v Q0 s1374.2.2.2.1), (25, .v Q0 s1374.2.2.2.2.1), (26, .v Q2 x1502), (27, .v Q0 s1544.1), (28, .v Q0 (ar .add .i64 s1544.2 (1 : Int)))], [(168000, .box 172 [.v Q0 s1374.2.2.2.2.2.1, .v Q1 s1374.2.2.2.2.2.2.1]), (169, .arr 56 eBlk s1374.2.2.2.2.2.2.2)]⟩) (J.mv rfl (J.k (JO.arith rfl rfl rfl) (J.k (JO.assign rfl) (J.fin (Sw.Sub.mk id (.c rfl (.c rfl (.c rfl (.c rfl (.c rfl (.c rfl (.c rfl (.c rfl (.c rfl (.c rfl (.c rfl (.c rfl (.c rfl .nil))))))))))))) (.box rfl (.c rfl (.c rfl .nil)) (.arr rfl .nil)) rfl))))) ?_
               obtain rfl := Option.some.inj h
               exact W.next (Sw.Sub.mk id (.c rfl (.c rfl (.c rfl (.c rfl (.c rfl (.c rfl (.c rfl (.c rfl (.c rfl (.c rfl (.c rfl (.c rfl (.c rfl .nil))))))))))))) (.box rfl (.c rfl (.c rfl .nil)) (.arr rfl .nil)) rfl)
             ·replace h := cond_f hc1562 h
              refine W.condF rfl hc1562 ?_
              refine W.exit ?_
              obtain rfl := Option.some.inj h
              exact XQ.brk (Sw.Sub.mk id (.c rfl (.c rfl (.c rfl (.c rfl (.c rfl (.c rfl (.c rfl (.c rfl (.c rfl (.c rfl (.c rfl (.c rfl .nil)))))))))))) (.box rfl (.c rfl (.c rfl .nil)) (.arr rfl .nil)) rfl)
            ·intro hc1515
             replace h := cond_t hc1515 h
             refine W.reg (σ' := ⟨[(0, .v Q0 a0), (1, .v Q2 a1), (2, .v Q2 a2), (3, .v Q0 s1374.1), (4, .v Q0 s1374.2.1), (21, .ptr 168000 0), (22, .ref 169), (23, .v Q0 s1374.2.2.1), (24, .v Q0 s1374.2.2.2.1), (25, .v Q0 s1374.2.2.2.2.1), (26, .v Q2 x1502), (27, .v Q0 (1 : Int))], [(168000, .box 172 [.v Q0 s1374.2.2.2.2.2.1, .v Q1 s1374.2.2.2.2.2.2.1]), (169, .arr 56 eBlk s1374.2.2.2.2.2.2.2)]⟩) (J.k (JO.assign rfl) (J.fin (Sw.Sub.mk id (.c rfl (.c rfl (.c rfl (.c rfl (.c rfl (.c rfl (.c rfl (.c rfl (.c rfl (.c rfl (.c rfl (.c rfl .nil)))))))))))) (.box rfl (.c rfl (.c rfl .nil)) (.arr rfl .nil)) rfl))) ?_
             exact W.jfall h (Sw.Sub.mk id (.c rfl (.c rfl (.c rfl (.c rfl (.c rfl (.c rfl (.c rfl (.c rfl (.c rfl (.c rfl (.c rfl (.c rfl .nil)))))))))))) (.box rfl (.c rfl (.c rfl .nil)) (.arr rfl .nil)) rfl)
            ·intro hc1515
             replace h := cond_f hc1515 h
             refine W.skip ?_
             exact W.jfall h (Sw.Sub.mk id (.c rfl (.c rfl (.c rfl (.c rfl (.c rfl (.c rfl (.c rfl (.c rfl (.c rfl (.c rfl (.c rfl (.c rfl .nil)))))))))))) (.box rfl (.c rfl (.c rfl .nil)) (.arr rfl .nil)) rfl)
           ·intro hc1503
            replace h := cond_t hc1503 h
            refine W.reg (σ' := ⟨[(0, .v Q0 a0), (1, .v Q2 a1), (2, .v Q2 a2), (3, .v Q0 s1374.1), (4, .v Q0 s1374.2.1), (21, .ptr 168000 0), (22, .ref 169), (23, .v Q0 s1374.2.2.1), (24, .v Q0 s1374.2.2.2.1), (25, .v Q0 s1374.2.2.2.2.1), (26, .v Q2 x1502), (27, .v Q0 (2 : Int))], [(168000, .box 172 [.v Q0 s1374.2.2.2.2.2.1, .v Q1 s1374.2.2.2.2.2.2.1]), (169, .arr 56 eBlk s1374.2.2.2.2.2.2.2)]⟩) (J.k (JO.assign rfl) (J.fin (Sw.Sub.mk id (.c rfl (.c rfl (.c rfl (.c rfl (.c rfl (.c rfl (.c rfl (.c rfl (.c rfl (.c rfl (.c rfl (.c rfl .nil)))))))))))) (.box rfl (.c rfl (.c rfl .nil)) (.arr rfl .nil)) rfl))) ?_
            exact W.jfall h (Sw.Sub.mk id (.c rfl (.c rfl (.c rfl (.c rfl (.c rfl (.c rfl (.c rfl (.c rfl (.c rfl (.c rfl (.c rfl (.c rfl .nil)))))))))))) (.box rfl (.c rfl (.c rfl .nil)) (.arr rfl .nil)) rfl)
           ·intro hc1503
            replace h := cond_f hc1503 h
            refine W.skip ?_
            exact W.jfall h (Sw.Sub.mk id (.c rfl (.c rfl (.c rfl (.c rfl (.c rfl (.c rfl (.c rfl (.c rfl (.c rfl (.c rfl (.c rfl (.c rfl .nil)))))))))))) (.box rfl (.c rfl (.c rfl .nil)) (.arr rfl .nil)) rfl)
          ·intro hc1500
           replace h := cond_t hc1500 h
           refine W.reg (σ' := ⟨[(0, .v Q0 a0), (1, .v Q2 a1), (2, .v Q2 a2), (3, .v Q0 s1374.1), (4, .v Q0 s1374.2.1), (21, .ptr 168000 0), (22, .ref 169), (23, .v Q0 s1374.2.2.1), (24, .v Q0 s1374.2.2.2.1), (25, .v Q0 s1374.2.2.2.2.1), (26, .v Q2 a2)], [(168000, .box 172 [.v Q0 s1374.2.2.2.2.2.1, .v Q1 s1374.2.2.2.2.2.2.1]), (169, .arr 56 eBlk s1374.2.2.2.2.2.2.2)]⟩) (J.mv rfl (J.k (JO.assign rfl) (J.fin (Sw.Sub.mk id (.c rfl (.c rfl (.c rfl (.c rfl (.c rfl (.c rfl (.c rfl (.c rfl (.c rfl (.c rfl (.c rfl .nil))))))))))) (.box rfl (.c rfl (.c rfl .nil)) (.arr rfl .nil)) rfl)))) ?_
           exact W.jfall h (Sw.Sub.mk id (.c rfl (.c rfl (.c rfl (.c rfl (.c rfl (.c rfl (.c rfl (.c rfl (.c rfl (.c rfl (.c rfl .nil))))))))))) (.box rfl (.c rfl (.c rfl .nil)) (.arr rfl .nil)) rfl)
          ·intro hc1500
           replace h := cond_f hc1500 h
           refine W.skip ?_
           exact W.jfall h (Sw.Sub.mk id (.c rfl (.c rfl (.c rfl (.c rfl (.c rfl (.c rfl (.c rfl (.c rfl (.c rfl (.c rfl (.c rfl .nil))))))))))) (.box rfl (.c rfl (.c rfl .nil)) (.arr rfl .nil)) rfl)
         ·replace h := cond_f hc1499 h
          refine W.condF rfl hc1499 ?_
          refine W.exit ?_
          obtain rfl := Option.some.inj h
          exact XQ.brk (Sw.Sub.mk id (.c rfl (.c rfl (.c rfl (.c rfl (.c rfl .nil))))) (.box rfl (.c rfl (.c rfl .nil)) (.arr rfl .nil)) rfl)
     ·replace h := ocase_s hz1106 h
      refine W.reg (σ' := ⟨[(0, .v Q0 a0), (1, .v Q2 a1), (2, .v Q2 a2), (3, .v Q0 a3), (4, .v Q0 a4), (13, .ptr 103 0), (18, .v (Enc.err ET) v51.2), (20, .v (Enc.err ET) v1105.2)], [(103, .box 99 [.v Q4 v6.1.1, .v Q2 v6.1.2.1, .v Q0 v6.1.2.2])]⟩) (J.k (JO.fieldPtr 0 rfl Try.runUnderlying99 rfl Try.sizeOf26 rfl rfl) (J.k (JO.load rfl rfl rfl Try.isAgg26 Try.sizeOf26) (J.k (JO.build built85 (.cons (Z.int .i64) (.cons (Z.arr 8 (Z.int .u8)) .nil)) (.cons rfl (.dir rfl) rfl rfl rfl rfl .nil)) (J.k (JO.lit (e := (Enc.pr Q0 eBlk)) Try.runUnderlying76 Try.sizeOf85 Try.zeroValue85 rfl rfl rfl rfl (.cons (.agg rfl (.same (.same .nil)) (.prm (.one _ _) (.one _ _)) rfl) .nil)) (J.k (JO.build built99 (.cons (Z.sl eBlk) (.cons (Z.sl (Enc.pr Q0 eBlk)) (.cons (Z.int .i64) .nil))) (.cons rfl (.dir rfl) rfl rfl rfl rfl (.cons rfl (.dir rfl) rfl rfl rfl rfl (.cons rfl (.dir rfl) rfl rfl rfl rfl .nil)))) (J.mv rfl (J.k (JO.call 188000 (con_store_Open_s hz1106 hv1105) Try.call51 (.cons (.agg rfl (.same (.same (.same .nil))) (.prm (.one _ _) (.prm (.one _ _) (.one _ _))) rfl) (.cons (.dir rfl) .nil)) rfl) (J.mv rfl (J.k (JO.extract rfl rfl) (J.k (JO.extract rfl rfl) (J.k (JO.assign rfl) (J.k (JO.assign rfl) (J.fin (Sw.Sub.mk id (.c rfl (.c rfl (.c rfl (.c rfl (.c rfl (.c rfl (.c rfl (.c rfl .nil)))))))) (.box rfl (.c rfl (.c rfl (.c rfl .nil))) .nil) rfl)))))))))))))) ?_
      refine W.seq ?_
      obtain ⟨v1632, hv1632, h⟩ := bind_e h
      rcases hz1633 : v1632.1 with _ | z1633
      ·replace h := ocase_n hz1633 h
       refine W.reg (σ' := ⟨[(0, .v Q0 a0), (1, .v Q2 a1), (2, .v Q2 a2), (3, .v Q0 a3), (4, .v Q0 a4), (12, .v (Enc.err ET) v1632.2), (18, .v (Enc.err ET) v51.2), (20, .v (Enc.err ET) v1105.2), (21, .v (Enc.ptN (Enc.pr Q0 Q1)) (none : (Option (Int × Q3))))], []⟩) (J.k (JO.loadAll rfl rfl (.prm (.one _ _) (.prm (.one _ _) (.one _ _))) Try.isAgg99 Try.sizeOf99) (J.mv rfl (J.k (JO.call0 (con_store_Open_n hz1633 hv1632) Try.call51 (.cons (.dir rfl) (.cons (.dir rfl) .nil))) (J.mv rfl (J.k (JO.extract rfl rfl) (J.k (JO.extract rfl rfl) (J.k (JO.assign rfl) (J.k (JO.assign rfl) (J.fin (Sw.Sub.mk id (.c rfl (.c rfl (.c rfl (.c rfl (.c rfl (.c rfl (.c rfl (.c rfl (.c rfl .nil))))))))) .nil rfl)))))))))) ?_
       refine W.seq ?_
       refine W.seq ?_
       obtain ⟨x1637, hx, h⟩ := bind_e h
       refine W.reg (σ' := ⟨[(0, .v Q0 a0), (1, .v Q2 a1), (2, .v Q2 a2), (3, .v Q0 a3), (4, .v Q0 a4), (21, .v (Enc.ptN (Enc.pr Q0 Q1)) (none : (Option (Int × Q3)))), (156, .v Enc.bool true)], []⟩) ?_ ?_
       ·rcases Bool.eq_false_or_eq_true (!(v51.2 == (some (5 : Int)))) with hc1638 | hc1638
        ·replace hx := cond_t hc1638 hx
         obtain rfl := Option.some.inj hx
         exact (J.mv rfl (J.k (JO.mkErr Try.runUnderlying29 rfl) (J.k (JO.errNe2 Try.runUnderlying33 Try.runUnderlying29 Try.typeInfo29 rfl rfl rfl) (J.mv rfl (J.u 144 hc1638 (J.u 144 hc1638 (J.u 144 hc1638 (J.k (JO.pT hc1638 rfl rfl) (J.mv rfl (J.u 149 rfl (J.u 149 rfl (J.k (JO.pT rfl rfl rfl) (J.mv rfl (J.u 153 rfl (J.u 153 rfl (J.k (JO.pT rfl rfl rfl) (J.fin (Sw.Sub.mk id (.c rfl (.c rfl (.c rfl (.c rfl (.c rfl (.c rfl (.c rfl .nil))))))) .nil rfl))))))))))))))))))
        ·replace hx := cond_f hc1638 hx
         rcases Bool.eq_false_or_eq_true (!(v1105.2 == (some (5 : Int)))) with hc1639 | hc1639
         ·replace hx := cond_t hc1639 hx
          obtain rfl := Option.some.inj hx
          exact (J.mv rfl (J.k (JO.mkErr Try.runUnderlying29 rfl) (J.k (JO.errNe2 Try.runUnderlying33 Try.runUnderlying29 Try.typeInfo29 rfl rfl rfl) (J.mv rfl (J.m 144 hc1638 (JO.move rfl) (J.m 144 hc1638 (JO.mkErr Try.runUnderlying29 rfl) (J.m 144 hc1638 (JO.errNe2 Try.runUnderlying33 Try.runUnderlying29 Try.typeInfo29 rfl rfl rfl) (J.k (JO.pF hc1638 rfl rfl) (J.mv rfl (J.u 149 hc1639 (J.u 149 hc1639 (J.k (JO.pT hc1639 rfl rfl) (J.mv rfl (J.u 153 rfl (J.u 153 rfl (J.k (JO.pT rfl rfl rfl) (J.fin (Sw.Sub.mk id (.c rfl (.c rfl (.c rfl (.c rfl (.c rfl (.c rfl (.c rfl .nil))))))) .nil rfl))))))))))))))))))
         ·replace hx := cond_f hc1639 hx
          rcases Bool.eq_false_or_eq_true (Option.isSome v1632.2) with hc1640 | hc1640
          ·replace hx := cond_t hc1640 hx
           obtain rfl := Option.some.inj hx
           exact (J.mv rfl (J.k (JO.mkErr Try.runUnderlying29 rfl) (J.k (JO.errNe2 Try.runUnderlying33 Try.runUnderlying29 Try.typeInfo29 rfl rfl rfl) (J.mv rfl (J.m 144 hc1638 (JO.move rfl) (J.m 144 hc1638 (JO.mkErr Try.runUnderlying29 rfl) (J.m 144 hc1638 (JO.errNe2 Try.runUnderlying33 Try.runUnderlying29 Try.typeInfo29 rfl rfl rfl) (J.k (JO.pF hc1638 rfl rfl) (J.mv rfl (J.m 149 hc1639 (JO.move rfl) (J.m 149 hc1639 (JO.errNe Try.runUnderlying33 rfl) (J.k (JO.pF hc1639 rfl rfl) (J.mv rfl (J.u 153 hc1640 (J.u 153 hc1640 (J.k (JO.pT hc1640 rfl rfl) (J.fin (Sw.Sub.mk id (.c rfl (.c rfl (.c rfl (.c rfl (.c rfl (.c rfl (.c rfl .nil))))))) .nil rfl))))))))))))))))))
          ·replace hx := cond_f hc1640 hx
           obtain rfl := Option.some.inj hx
           exact (J.mv rfl (J.k (JO.mkErr Try.runUnderlying29 rfl) (J.k (JO.errNe2 Try.runUnderlying33 Try.runUnderlying29 Try.typeInfo29 rfl rfl rfl) (J.mv rfl (J.m 144 hc1638 (JO.move rfl) (J.m 144 hc1638 (JO.mkErr Try.runUnderlying29 rfl) (J.m 144 hc1638 (JO.errNe2 Try.runUnderlying33 Try.runUnderlying29 Try.typeInfo29 rfl rfl rfl) (J.k (JO.pF hc1638 rfl rfl) (J.mv rfl (J.m 149 hc1639 (JO.move rfl) (J.m 149 hc1639 (JO.errNe Try.runUnderlying33 rfl) (J.k (JO.pF hc1639 rfl rfl) (J.mv rfl (J.m 153 hc1640 (JO.move rfl) (J.m 153 hc1640 (JO.ptEq rfl Try.runUnderlying102) (J.k (JO.pF hc1640 rfl rfl) (J.fin (Sw.Sub.mk id (.c rfl (.c rfl (.c rfl (.c rfl (.c rfl (.c rfl (.c rfl .nil))))))) .nil rfl))))))))))))))))))
       refine W.condT rfl rfl ?_
       refine W.seq ?_
       refine W.reg (σ' := ⟨[(10, .v Enc.bool false)], []⟩) (J.k (JO.assign rfl) (J.fin (Sw.Sub.mk id (.c rfl .nil) .nil rfl))) ?_
       refine W.ret ?_
       obtain rfl := Option.some.inj h
       exact XQ.sub (σ' := ⟨[(10, .v Enc.bool false)], []⟩) (Sw.Sub.mk id (.c rfl .nil) .nil rfl) (XQ.ret1 hF noR rfl (RV.tmp rfl) .nil rfl)
      ·replace h := ocase_s hz1633 h
       refine W.reg (σ' := ⟨[(0, .v Q0 a0), (1, .v Q2 a1), (2, .v Q2 a2), (3, .v Q0 a3), (4, .v Q0 a4), (12, .v (Enc.err ET) v1632.2), (18, .v (Enc.err ET) v51.2), (20, .v (Enc.err ET) v1105.2), (21, .ptr 190000 0)], [(190000, .box 172 [.v Q0 z1633.1, .v Q1 z1633.2])]⟩) (J.k (JO.loadAll rfl rfl (.prm (.one _ _) (.prm (.one _ _) (.one _ _))) Try.isAgg99 Try.sizeOf99) (J.mv rfl (J.k (JO.call 190000 (con_store_Open_s hz1633 hv1632) Try.call51 (.cons (.dir rfl) (.cons (.dir rfl) .nil)) rfl) (J.mv rfl (J.k (JO.extract rfl rfl) (J.k (JO.extract rfl rfl) (J.k (JO.assign rfl) (J.k (JO.assign rfl) (J.fin (Sw.Sub.mk id (.c rfl (.c rfl (.c rfl (.c rfl (.c rfl (.c rfl (.c rfl (.c rfl (.c rfl .nil))))))))) (.box rfl (.c rfl (.c rfl .nil)) .nil) rfl)))))))))) ?_
       refine W.seq ?_
       refine W.seq ?_
       obtain ⟨x1645, hx, h⟩ := bind_e h
       refine W.reg (σ' := ⟨[(0, .v Q0 a0), (1, .v Q2 a1), (2, .v Q2 a2), (3, .v Q0 a3), (4, .v Q0 a4), (21, .ptr 190000 0), (156, .v Enc.bool x1645)], [(190000, .box 172 [.v Q0 z1633.1, .v Q1 z1633.2])]⟩) ?_ ?_
       ·rcases Bool.eq_false_or_eq_true (!(v51.2 == (some (5 : Int)))) with hc1646 | hc1646
        ·replace hx := cond_t hc1646 hx
         obtain rfl := Option.some.inj hx
         exact (J.mv rfl (J.k (JO.mkErr Try.runUnderlying29 rfl) (J.k (JO.errNe2 Try.runUnderlying33 Try.runUnderlying29 Try.typeInfo29 rfl rfl rfl) (J.mv rfl (J.u 144 hc1646 (J.u 144 hc1646 (J.u 144 hc1646 (J.k (JO.pT hc1646 rfl rfl) (J.mv rfl (J.u 149 rfl (J.u 149 rfl (J.k (JO.pT rfl rfl rfl) (J.mv rfl (J.u 153 rfl (J.u 153 rfl (J.k (JO.pT rfl rfl rfl) (J.fin (Sw.Sub.mk id (.c rfl (.c rfl (.c rfl (.c rfl (.c rfl (.c rfl (.c rfl .nil))))))) (.box rfl (.c rfl (.c rfl .nil)) .nil) rfl))))))))))))))))))
        ·replace hx := cond_f hc1646 hx
         rcases Bool.eq_false_or_eq_true (!(v1105.2 == (some (5 : Int)))) with hc1647 | hc1647
         ·replace hx := cond_t hc1647 hx
          obtain rfl := Option.some.inj hx
          exact (J.mv rfl (J.k (JO.mkErr Try.runUnderlying29 rfl) (J.k (JO.errNe2 Try.runUnderlying33 Try.runUnderlying29 Try.typeInfo29 rfl rfl rfl) (J.mv rfl (J.m 144 hc1646 (JO.move rfl) (J.m 144 hc1646 (JO.mkErr Try.runUnderlying29 rfl) (J.m 144 hc1646 (JO.errNe2 Try.runUnderlying33 Try.runUnderlying29 Try.typeInfo29 rfl rfl rfl) (J.k (JO.pF hc1646 rfl rfl) (J.mv rfl (J.u 149 hc1647 (J.u 149 hc1647 (J.k (JO.pT hc1647 rfl rfl) (J.mv rfl (J.u 153 rfl (J.u 153 rfl (J.k (JO.pT rfl rfl rfl) (J.fin (Sw.Sub.mk id (.c rfl (.c rfl (.c rfl (.c rfl (.c rfl (.c rfl (.c rfl .nil))))))) (.box rfl (.c rfl (.c rfl .nil)) .nil) rfl))))))))))))))))))
         ·replace hx := cond_f hc1647 hx
          rcases Bool.eq_false_or_eq_true (Option.isSome v1632.2) with hc1648 | hc1648
          ·replace hx := cond_t hc1648 hx
           obtain rfl := Option.some.inj hx
           exact (J.mv rfl (J.k (JO.mkErr Try.runUnderlying29 rfl) (J.k (JO.errNe2 Try.runUnderlying33 Try.runUnderlying29 Try.typeInfo29 rfl rfl rfl) (J.mv rfl (J.m 144 hc1646 (JO.move rfl) (J.m 144 hc1646 (JO.mkErr Try.runUnderlying29 rfl) (J.m 144 hc1646 (JO.errNe2 Try.runUnderlying33 Try.runUnderlying29 Try.typeInfo29 rfl rfl rfl) (J.k (JO.pF hc1646 rfl rfl) (J.mv rfl (J.m 149 hc1647 (JO.move rfl) (J.m 149 hc1647 (JO.errNe Try.runUnderlying33 rfl) (J.k (JO.pF hc1647 rfl rfl) (J.mv rfl (J.u 153 hc1648 (J.u 153 hc1648 (J.k (JO.pT hc1648 rfl rfl) (J.fin (Sw.Sub.mk id (.c rfl (.c rfl (.c rfl (.c rfl (.c rfl (.c rfl (.c rfl .nil))))))) (.box rfl (.c rfl (.c rfl .nil)) .nil) rfl))))))))))))))))))
          ·replace hx := cond_f hc1648 hx
           obtain rfl := Option.some.inj hx
           exact (J.mv rfl (J.k (JO.mkErr Try.runUnderlying29 rfl) (J.k (JO.errNe2 Try.runUnderlying33 Try.runUnderlying29 Try.typeInfo29 rfl rfl rfl) (J.mv rfl (J.m 144 hc1646 (JO.move rfl) (J.m 144 hc1646 (JO.mkErr Try.runUnderlying29 rfl) (J.m 144 hc1646 (JO.errNe2 Try.runUnderlying33 Try.runUnderlying29 Try.typeInfo29 rfl rfl rfl) (J.k (JO.pF hc1646 rfl rfl) (J.mv rfl (J.m 149 hc1647 (JO.move rfl) (J.m 149 hc1647 (JO.errNe Try.runUnderlying33 rfl) (J.k (JO.pF hc1647 rfl rfl) (J.mv rfl (J.m 153 hc1648 (JO.move rfl) (J.m 153 hc1648 (JO.ptrEqN rfl Try.runUnderlying102) (J.k (JO.pF hc1648 rfl rfl) (J.fin (Sw.Sub.mk id (.c rfl (.c rfl (.c rfl (.c rfl (.c rfl (.c rfl (.c rfl .nil))))))) (.box rfl (.c rfl (.c rfl .nil)) .nil) rfl))))))))))))))))))
       rcases Bool.eq_false_or_eq_true x1645 with hc1649 | hc1649
       ·replace h := cond_t hc1649 h
        refine W.condT rfl hc1649 ?_
        refine W.seq ?_
        refine W.reg (σ' := ⟨[(10, .v Enc.bool false)], []⟩) (J.k (JO.assign rfl) (J.fin (Sw.Sub.mk id (.c rfl .nil) .nil rfl))) ?_
        refine W.ret ?_
        obtain rfl := Option.some.inj h
        exact XQ.sub (σ' := ⟨[(10, .v Enc.bool false)], []⟩) (Sw.Sub.mk id (.c rfl .nil) .nil rfl) (XQ.ret1 hF noR rfl (RV.tmp rfl) .nil rfl)
       ·replace h := cond_f hc1649 h
        refine W.condF rfl hc1649 ?_
        refine W.skip ?_
        refine W.seq ?_
        obtain ⟨v1650, hv1650, h⟩ := bind_e h
        refine W.reg (σ' := ⟨[(0, .v Q0 a0), (1, .v Q2 a1), (2, .v Q2 a2), (3, .v Q0 a3), (4, .v Q0 a4), (21, .ptr 190000 0), (22, .ref 191)], [(190000, .box 172 [.v Q0 z1633.1, .v Q1 z1633.2]), (191, .arr 56 eBlk v1650)]⟩) (J.mv rfl (J.k (JO.mkR 191 hv1650 rfl rfl Try.runUnderlying26 Try.typeInfo56 Try.sizeOf56 rfl rfl (Z.arr 8 (Z.int .u8))) (J.k (JO.assign rfl) (J.fin (Sw.Sub.mk id (.c rfl (.c rfl (.c rfl (.c rfl (.c rfl (.c rfl (.c rfl .nil))))))) (.box rfl (.c rfl (.c rfl .nil)) (.arr rfl .nil)) rfl))))) ?_
        refine W.seq ?_
        refine W.reg (σ' := ⟨[(0, .v Q0 a0), (1, .v Q2 a1), (2, .v Q2 a2), (3, .v Q0 a3), (4, .v Q0 a4), (21, .ptr 190000 0), (22, .ref 191), (23, .v Q0 (0 : Int))], [(190000, .box 172 [.v Q0 z1633.1, .v Q1 z1633.2]), (191, .arr 56 eBlk v1650)]⟩) (J.k (JO.assign rfl) (J.fin (Sw.Sub.mk id (.c rfl (.c rfl (.c rfl (.c rfl (.c rfl (.c rfl (.c rfl (.c rfl .nil)))))))) (.box rfl (.c rfl (.c rfl .nil)) (.arr rfl .nil)) rfl))) ?_
        refine W.seq ?_
        refine W.reg (σ' := ⟨[(0, .v Q0 a0), (1, .v Q2 a1), (2, .v Q2 a2), (3, .v Q0 a3), (4, .v Q0 a4), (21, .ptr 190000 0), (22, .ref 191), (23, .v Q0 (0 : Int)), (24, .v Q0 (0 : Int))], [(190000, .box 172 [.v Q0 z1633.1, .v Q1 z1633.2]), (191, .arr 56 eBlk v1650)]⟩) (J.k (JO.assign rfl) (J.fin (Sw.Sub.mk id (.c rfl (.c rfl (.c rfl (.c rfl (.c rfl (.c rfl (.c rfl (.c rfl (.c rfl .nil))))))))) (.box rfl (.c rfl (.c rfl .nil)) (.arr rfl .nil)) rfl))) ?_
        refine W.seq ?_
        refine W.seq ?_
        obtain ⟨v1651, hv1651, h⟩ := bind_e h
        refine W.reg (σ' := ⟨[(0, .v Q0 a0), (1, .v Q2 a1), (2, .v Q2 a2), (3, .v Q0 a3), (4, .v Q0 a4), (21, .ptr 190000 0), (22, .ref 191), (23, .v Q0 (0 : Int)), (24, .v Q0 (0 : Int)), (164, .v Enc.bool (!v1651))], [(190000, .box 172 [.v Q0 z1633.1, .v Q1 z1633.2]), (191, .arr 56 eBlk v1650)]⟩) (J.mv rfl (J.mv rfl (J.mv rfl (J.mv rfl (J.k (JO.callL0 (con_law_sees hv1651) Try.call53 (.cons (.lendP rfl rfl (.prm (.one _ _) (.one _ _))) (.cons (.ref rfl rfl) (.cons (.dir rfl) (.cons (.dir rfl) .nil)))) FlatS.v) (J.k (JO.not rfl) (J.fin (Sw.Sub.mk id (.c rfl (.c rfl (.c rfl (.c rfl (.c rfl (.c rfl (.c rfl (.c rfl (.c rfl (.c rfl .nil)))))))))) (.box rfl (.c rfl (.c rfl .nil)) (.arr rfl .nil)) rfl)))))))) ?_
        rcases Bool.eq_false_or_eq_true (!v1651) with hc1652 | hc1652
        ·replace h := cond_t hc1652 h
         refine W.condT rfl hc1652 ?_
         refine W.seq ?_
         refine W.reg (σ' := ⟨[(10, .v Enc.bool false)], []⟩) (J.k (JO.assign rfl) (J.fin (Sw.Sub.mk id (.c rfl .nil) .nil rfl))) ?_
         refine W.ret ?_
         obtain rfl := Option.some.inj h
         exact XQ.sub (σ' := ⟨[(10, .v Enc.bool false)], []⟩) (Sw.Sub.mk id (.c rfl .nil) .nil rfl) (XQ.ret1 hF noR rfl (RV.tmp rfl) .nil rfl)
        ·replace h := cond_f hc1652 h
         refine W.condF rfl hc1652 ?_
         refine W.skip ?_
         refine W.seq ?_
         refine W.seq ?_
         refine W.reg (σ' := ⟨[(0, .v Q0 a0), (1, .v Q2 a1), (2, .v Q2 a2), (3, .v Q0 a3), (4, .v Q0 a4), (21, .ptr 190000 0), (22, .ref 191), (23, .v Q0 (0 : Int)), (24, .v Q0 (0 : Int)), (25, .v Q0 (0 : Int))], [(190000, .box 172 [.v Q0 z1633.1, .v Q1 z1633.2]), (191, .arr 56 eBlk v1650)]⟩) (J.k (JO.assign rfl) (J.fin (Sw.Sub.mk id (.c rfl (.c rfl (.c rfl (.c rfl (.c rfl (.c rfl (.c rfl (.c rfl (.c rfl (.c rfl .nil)))))))))) (.box rfl (.c rfl (.c rfl .nil)) (.arr rfl .nil)) rfl))) ?_
         obtain ⟨o2022, ho2022, hb2022, hr2022⟩ := lp_elim h
         refine W.lp (σs := fun s1899 : Int × Int × Int × Int × Int × Int × Q3 × (List Blk) => ⟨[(0, .v Q0 a0), (1, .v Q2 a1), (2, .v Q2 a2), (3, .v Q0 s1899.1), (4, .v Q0 s1899.2.1), (21, .ptr 190000 0), (22, .ref 191), (23, .v Q0 s1899.2.2.1), (24, .v Q0 s1899.2.2.2.1), (25, .v Q0 s1899.2.2.2.2.1)], [(190000, .box 172 [.v Q0 s1899.2.2.2.2.2.1, .v Q1 s1899.2.2.2.2.2.2.1]), (191, .arr 56 eBlk s1899.2.2.2.2.2.2.2)]⟩) (fun x2023 : Int × Int × Int × Q3 × (List Blk) => ⟨[(0, .v Q0 a0), (21, .ptr 190000 0), (22, .ref 191), (23, .v Q0 x2023.1), (24, .v Q0 x2023.2.1)], [(190000, .box 172 [.v Q0 x2023.2.2.1, .v Q1 x2023.2.2.2.1]), (191, .arr 56 eBlk x2023.2.2.2.2)]⟩) ho2022 (Sw.Sub.mk id (.c rfl (.c rfl (.c rfl (.c rfl (.c rfl (.c rfl (.c rfl (.c rfl (.c rfl (.c rfl .nil)))))))))) (.box rfl (.c rfl (.c rfl .nil)) (.arr rfl .nil)) rfl) ?_ ?_
         ·intro x2023 hy
          have h := hb2022 _ hy
          refine W.seq ?_
          obtain ⟨v2146, hv2146, h⟩ := bind_e h
          obtain ⟨v2147, hv2147, h⟩ := bind_e h
          rcases hz2148 : v2147.1 with _ | z2148
          ·replace h := ocase_n hz2148 h
           refine W.reg (σ' := ⟨[(12, .v (Enc.err ET) v2147.2), (22, .ref 191), (23, .v Q0 x2023.1), (24, .v Q0 x2023.2.1), (30, .v (Enc.ptN (Enc.pr Q0 Q1)) (none : (Option (Int × Q3))))], [(191, .arr 56 eBlk x2023.2.2.2.2)]⟩) (J.mv rfl (J.k (JO.callL 202000 (con_store_Store_Disk hv2146) Try.call55 (.cons (.lendP rfl rfl (.prm (.one _ _) (.one _ _))) .nil) rfl (FlatS.agg (.ref (.ref (.v .nil)))) (FlatN.arr (FlatN.arr FlatN.nil))) (J.mv rfl (J.sub (σ' := ⟨[(0, .v Q0 a0), (21, .ptr 190000 0), (22, .ref 191), (23, .v Q0 x2023.1), (24, .v Q0 x2023.2.1), (259, .ptr 190000 0), (260, .agg [.v Q4 v2146.1, .v Q2 v2146.2.1, .v Q0 v2146.2.2]), (261, .v Q0 a0)], [(190000, .box 172 [.v Q0 x2023.2.2.1, .v Q1 x2023.2.2.2.1]), (191, .arr 56 eBlk x2023.2.2.2.2)]⟩) (Sw.Sub.mk id (.c rfl (.c rfl (.c rfl (.c rfl (.c rfl (.c rfl (.cons rfl (.agg (.cons (.frz rfl rfl) (.cons (.frz rfl rfl) (.c rfl .nil)))) (.c rfl .nil)))))))) (.box rfl (.c rfl (.c rfl .nil)) (.arr rfl .nil)) rfl) (J.k (JO.call0 (con_store_Open_n hz2148 hv2147) Try.call51 (.cons (.agg rfl (.same (.same (.same .nil))) (.prm (.one _ _) (.prm (.one _ _) (.one _ _))) rfl) (.cons (.dir rfl) .nil))) (J.mv rfl (J.k (JO.extract rfl rfl) (J.k (JO.extract rfl rfl) (J.k (JO.assign rfl) (J.k (JO.assign rfl) (J.fin (Sw.Sub.mk id (.c rfl (.c rfl (.c rfl (.c rfl (.c rfl .nil))))) (.arr rfl .nil) rfl)))))))))))) ?_
           refine W.seq ?_
           obtain ⟨x2150, hx, h⟩ := bind_e h
           refine W.reg (σ' := ⟨[(10, .v Enc.bool false)], []⟩) ?_ ?_
           ·rcases Bool.eq_false_or_eq_true (Option.isNone v2147.2) with hc2151 | hc2151
            ·replace hx := cond_t hc2151 hx
             obtain rfl := Option.some.inj hx
             exact (J.mv rfl (J.k (JO.errEq Try.runUnderlying33 rfl) (J.mv rfl (J.m 267 hc2151 (JO.move rfl) (J.m 267 hc2151 (JO.ptNe rfl Try.runUnderlying102) (J.k (JO.pT hc2151 rfl rfl) (J.mv rfl (J.u 271 rfl (J.u 271 rfl (J.u 271 rfl (J.u 271 rfl (J.u 271 rfl (J.k (JO.pF rfl rfl rfl) (J.k (JO.assign rfl) (J.fin (Sw.Sub.mk id (.c rfl .nil) .nil rfl))))))))))))))))
            ·replace hx := cond_f hc2151 hx
             obtain rfl := Option.some.inj hx
             exact (J.mv rfl (J.k (JO.errEq Try.runUnderlying33 rfl) (J.mv rfl (J.u 267 hc2151 (J.u 267 hc2151 (J.k (JO.pF hc2151 rfl rfl) (J.mv rfl (J.u 271 rfl (J.u 271 rfl (J.u 271 rfl (J.u 271 rfl (J.u 271 rfl (J.k (JO.pF rfl rfl rfl) (J.k (JO.assign rfl) (J.fin (Sw.Sub.mk id (.c rfl .nil) .nil rfl))))))))))))))))
           refine W.ret ?_
           obtain rfl := Option.some.inj h
           exact XQ.sub (σ' := ⟨[(10, .v Enc.bool false)], []⟩) (Sw.Sub.mk id (.c rfl .nil) .nil rfl) (XQ.ret1 hF noR rfl (RV.tmp rfl) .nil rfl)
          ·replace h := ocase_s hz2148 h
           refine W.reg (σ' := ⟨[(12, .v (Enc.err ET) v2147.2), (22, .ref 191), (23, .v Q0 x2023.1), (24, .v Q0 x2023.2.1), (30, .ptr 207000 0)], [(191, .arr 56 eBlk x2023.2.2.2.2), (207000, .box 172 [.v Q0 z2148.1, .v Q1 z2148.2])]⟩) (J.mv rfl (J.k (JO.callL 205000 (con_store_Store_Disk hv2146) Try.call55 (.cons (.lendP rfl rfl (.prm (.one _ _) (.one _ _))) .nil) rfl (FlatS.agg (.ref (.ref (.v .nil)))) (FlatN.arr (FlatN.arr FlatN.nil))) (J.mv rfl (J.sub (σ' := ⟨[(0, .v Q0 a0), (21, .ptr 190000 0), (22, .ref 191), (23, .v Q0 x2023.1), (24, .v Q0 x2023.2.1), (259, .ptr 190000 0), (260, .agg [.v Q4 v2146.1, .v Q2 v2146.2.1, .v Q0 v2146.2.2]), (261, .v Q0 a0)], [(190000, .box 172 [.v Q0 x2023.2.2.1, .v Q1 x2023.2.2.2.1]), (191, .arr 56 eBlk x2023.2.2.2.2)]⟩) (Sw.Sub.mk id (.c rfl (.c rfl (.c rfl (.c rfl (.c rfl (.c rfl (.cons rfl (.agg (.cons (.frz rfl rfl) (.cons (.frz rfl rfl) (.c rfl .nil)))) (.c rfl .nil)))))))) (.box rfl (.c rfl (.c rfl .nil)) (.arr rfl .nil)) rfl) (J.k (JO.call 207000 (con_store_Open_s hz2148 hv2147) Try.call51 (.cons (.agg rfl (.same (.same (.same .nil))) (.prm (.one _ _) (.prm (.one _ _) (.one _ _))) rfl) (.cons (.dir rfl) .nil)) rfl) (J.mv rfl (J.k (JO.extract rfl rfl) (J.k (JO.extract rfl rfl) (J.k (JO.assign rfl) (J.k (JO.assign rfl) (J.fin (Sw.Sub.mk id (.c rfl (.c rfl (.c rfl (.c rfl (.c rfl .nil))))) (.arr rfl (.box rfl (.c rfl (.c rfl .nil)) .nil)) rfl)))))))))))) ?_
           refine W.seq ?_
           obtain ⟨x2154, hx, h⟩ := bind_e h
           refine W.reg (σ' := ⟨[(10, .v Enc.bool x2154)], []⟩) ?_ ?_
           ·rcases Bool.eq_false_or_eq_true (Option.isNone v2147.2) with hc2155 | hc2155
            ·replace hx := cond_t hc2155 hx
             obtain ⟨v2156, hv2156, hx⟩ := bind_e hx
             obtain rfl := Option.some.inj hx
             exact (J.mv rfl (J.k (JO.errEq Try.runUnderlying33 rfl) (J.mv rfl (J.m 267 hc2155 (JO.move rfl) (J.m 267 hc2155 (JO.ptrNeN rfl Try.runUnderlying102) (J.k (JO.pT hc2155 rfl rfl) (J.mv rfl (J.m 271 rfl (JO.move rfl) (J.m 271 rfl (JO.move rfl) (J.m 271 rfl (JO.move rfl) (J.m 271 rfl (JO.move rfl) (J.m 271 rfl (JO.callL0 (con_law_sees hv2156) Try.call53 (.cons (.lendP rfl rfl (.prm (.one _ _) (.one _ _))) (.cons (.ref rfl rfl) (.cons (.dir rfl) (.cons (.dir rfl) .nil)))) FlatS.v) (J.k (JO.pT rfl rfl rfl) (J.k (JO.assign rfl) (J.fin (Sw.Sub.mk id (.c rfl .nil) .nil rfl))))))))))))))))
            ·replace hx := cond_f hc2155 hx
             obtain rfl := Option.some.inj hx
             exact (J.mv rfl (J.k (JO.errEq Try.runUnderlying33 rfl) (J.mv rfl (J.u 267 hc2155 (J.u 267 hc2155 (J.k (JO.pF hc2155 rfl rfl) (J.mv rfl (J.u 271 rfl (J.u 271 rfl (J.u 271 rfl (J.u 271 rfl (J.u 271 rfl (J.k (JO.pF rfl rfl rfl) (J.k (JO.assign rfl) (J.fin (Sw.Sub.mk id (.c rfl .nil) .nil rfl))))))))))))))))
           refine W.ret ?_
           obtain rfl := Option.some.inj h
           exact XQ.sub (σ' := ⟨[(10, .v Enc.bool x2154)], []⟩) (Sw.Sub.mk id (.c rfl .nil) .nil rfl) (XQ.ret1 hF noR rfl (RV.tmp rfl) .nil rfl)
         intro s1899 r2022 h
         refine W.seq ?_
         refine W.seq ?_
         refine W.reg (σ' := ⟨[(0, .v Q0 a0), (1, .v Q2 a1), (2, .v Q2 a2), (3, .v Q0 s1899.1), (4, .v Q0 s1899.2.1), (21, .ptr 190000 0), (22, .ref 191), (23, .v Q0 s1899.2.2.1), (24, .v Q0 s1899.2.2.2.1), (25, .v Q0 s1899.2.2.2.2.1), (166, .v Enc.bool (cm .lss s1899.2.2.2.2.1 (2 : Int)))], [(190000, .box 172 [.v Q0 s1899.2.2.2.2.2.1, .v Q1 s1899.2.2.2.2.2.2.1]), (191, .arr 56 eBlk s1899.2.2.2.2.2.2.2)]⟩) (J.mv rfl (J.k (JO.cmp rfl rfl rfl) (J.fin (Sw.Sub.mk id (.c rfl (.c rfl (.c rfl (.c rfl (.c rfl (.c rfl (.c rfl (.c rfl (.c rfl (.c rfl (.c rfl .nil))))))))))) (.box rfl (.c rfl (.c rfl .nil)) (.arr rfl .nil)) rfl)))) ?_
         rcases Bool.eq_false_or_eq_true (cm .lss s1899.2.2.2.2.1 (2 : Int)) with hc2024 | hc2024
         ·replace h := cond_t hc2024 h
          refine W.condT rfl hc2024 ?_
          refine W.skip ?_
          refine W.seq ?_
          refine W.block ?_
          refine W.seq ?_
          refine W.reg (σ' := ⟨[(0, .v Q0 a0), (1, .v Q2 a1), (2, .v Q2 a2), (3, .v Q0 s1899.1), (4, .v Q0 s1899.2.1), (21, .ptr 190000 0), (22, .ref 191), (23, .v Q0 s1899.2.2.1), (24, .v Q0 s1899.2.2.2.1), (25, .v Q0 s1899.2.2.2.2.1), (26, .v Q2 a1)], [(190000, .box 172 [.v Q0 s1899.2.2.2.2.2.1, .v Q1 s1899.2.2.2.2.2.2.1]), (191, .arr 56 eBlk s1899.2.2.2.2.2.2.2)]⟩) (J.mv rfl (J.k (JO.assign rfl) (J.fin (Sw.Sub.mk id (.c rfl (.c rfl (.c rfl (.c rfl (.c rfl (.c rfl (.c rfl (.c rfl (.c rfl (.c rfl (.c rfl .nil))))))))))) (.box rfl (.c rfl (.c rfl .nil)) (.arr rfl .nil)) rfl)))) ?_
          refine W.seq ?_
          refine W.seq ?_
          refine W.reg (σ' := ⟨[(0, .v Q0 a0), (1, .v Q2 a1), (2, .v Q2 a2), (3, .v Q0 s1899.1), (4, .v Q0 s1899.2.1), (21, .ptr 190000 0), (22, .ref 191), (23, .v Q0 s1899.2.2.1), (24, .v Q0 s1899.2.2.2.1), (25, .v Q0 s1899.2.2.2.2.1), (26, .v Q2 a1), (171, .v Enc.bool (cm .eql s1899.2.2.2.2.1 (1 : Int)))], [(190000, .box 172 [.v Q0 s1899.2.2.2.2.2.1, .v Q1 s1899.2.2.2.2.2.2.1]), (191, .arr 56 eBlk s1899.2.2.2.2.2.2.2)]⟩) (J.mv rfl (J.k (JO.cmp rfl rfl rfl) (J.fin (Sw.Sub.mk id (.c rfl (.c rfl (.c rfl (.c rfl (.c rfl (.c rfl (.c rfl (.c rfl (.c rfl (.c rfl (.c rfl (.c rfl .nil)))))))))))) (.box rfl (.c rfl (.c rfl .nil)) (.arr rfl .nil)) rfl)))) ?_
          obtain ⟨k2026, hk2026, h⟩ := jp_elim h
          refine W.jn (fun x2027 : (List (Int × Blk)) => ⟨[(0, .v Q0 a0), (1, .v Q2 a1), (2, .v Q2 a2), (3, .v Q0 s1899.1), (4, .v Q0 s1899.2.1), (21, .ptr 190000 0), (22, .ref 191), (23, .v Q0 s1899.2.2.1), (24, .v Q0 s1899.2.2.2.1), (25, .v Q0 s1899.2.2.2.2.1), (26, .v Q2 x2027)], [(190000, .box 172 [.v Q0 s1899.2.2.2.2.2.1, .v Q1 s1899.2.2.2.2.2.2.1]), (191, .arr 56 eBlk s1899.2.2.2.2.2.2.2)]⟩) (fun x => k2026 x = some r2022) rfl ?_ ?_ ?_
          ·intro x2027 h
           rw [hk2026] at h
           refine W.seq ?_
           refine W.reg (σ' := ⟨[(0, .v Q0 a0), (1, .v Q2 a1), (2, .v Q2 a2), (3, .v Q0 s1899.1), (4, .v Q0 s1899.2.1), (21, .ptr 190000 0), (22, .ref 191), (23, .v Q0 s1899.2.2.1), (24, .v Q0 s1899.2.2.2.1), (25, .v Q0 s1899.2.2.2.2.1), (26, .v Q2 x2027), (27, .v Q0 (0 : Int))], [(190000, .box 172 [.v Q0 s1899.2.2.2.2.2.1, .v Q1 s1899.2.2.2.2.2.2.1]), (191, .arr 56 eBlk s1899.2.2.2.2.2.2.2)]⟩) (J.k (JO.assign rfl) (J.fin (Sw.Sub.mk id (.c rfl (.c rfl (.c rfl (.c rfl (.c rfl (.c rfl (.c rfl (.c rfl (.c rfl (.c rfl (.c rfl (.c rfl .nil)))))))))))) (.box rfl (.c rfl (.c rfl .nil)) (.arr rfl .nil)) rfl))) ?_
           refine W.seq ?_
           refine W.seq ?_
           refine W.reg (σ' := ⟨[(0, .v Q0 a0), (1, .v Q2 a1), (2, .v Q2 a2), (3, .v Q0 s1899.1), (4, .v Q0 s1899.2.1), (21, .ptr 190000 0), (22, .ref 191), (23, .v Q0 s1899.2.2.1), (24, .v Q0 s1899.2.2.2.1), (25, .v Q0 s1899.2.2.2.2.1), (26, .v Q2 x2027), (27, .v Q0 (0 : Int)), (176, .v Enc.bool (cm .gtr (x2027.length : Int) a0))], [(190000, .box 172 [.v Q0 s1899.2.2.2.2.2.1, .v Q1 s1899.2.2.2.2.2.2.1]), (191, .arr 56 eBlk s1899.2.2.2.2.2.2.2)]⟩) (J.mv rfl (J.k (JO.len rfl Try.runUnderlying76) (J.mv rfl (J.k (JO.cmp rfl rfl rfl) (J.fin (Sw.Sub.mk id (.c rfl (.c rfl (.c rfl (.c rfl (.c rfl (.c rfl (.c rfl (.c rfl (.c rfl (.c rfl (.c rfl (.c rfl (.c rfl .nil))))))))))))) (.box rfl (.c rfl (.c rfl .nil)) (.arr rfl .nil)) rfl)))))) ?_
           obtain ⟨k2029, hk2029, h⟩ := jp_elim h
           refine W.jn (fun x2030 : Int => ⟨[(0, .v Q0 a0), (1, .v Q2 a1), (2, .v Q2 a2), (3, .v Q0 s1899.1), (4, .v Q0 s1899.2.1), (21, .ptr 190000 0), (22, .ref 191), (23, .v Q0 s1899.2.2.1), (24, .v Q0 s1899.2.2.2.1), (25, .v Q0 s1899.2.2.2.2.1), (26, .v Q2 x2027), (27, .v Q0 x2030)], [(190000, .box 172 [.v Q0 s1899.2.2.2.2.2.1, .v Q1 s1899.2.2.2.2.2.2.1]), (191, .arr 56 eBlk s1899.2.2.2.2.2.2.2)]⟩) (fun x => k2029 x = some r2022) rfl ?_ ?_ ?_
           ·intro x2030 h
            rw [hk2029] at h
            refine W.seq ?_
            refine W.seq ?_
            obtain ⟨x2035, hx, h⟩ := bind_e h
            refine W.reg (σ' := ⟨[(0, .v Q0 a0), (1, .v Q2 a1), (2, .v Q2 a2), (3, .v Q0 s1899.1), (4, .v Q0 s1899.2.1), (21, .ptr 190000 0), (22, .ref 191), (23, .v Q0 s1899.2.2.1), (24, .v Q0 s1899.2.2.2.1), (25, .v Q0 s1899.2.2.2.2.1), (26, .v Q2 x2027), (27, .v Q0 x2030), (194, .v Enc.bool x2035)], [(190000, .box 172 [.v Q0 s1899.2.2.2.2.2.1, .v Q1 s1899.2.2.2.2.2.2.1]), (191, .arr 56 eBlk s1899.2.2.2.2.2.2.2)]⟩) ?_ ?_
            ·rcases Bool.eq_false_or_eq_true (cm .eql x2030 (0 : Int)) with hc2036 | hc2036
             ·replace hx := cond_t hc2036 hx
              rcases Bool.eq_false_or_eq_true (cm .lss s1899.1 (0 : Int)) with hc2037 | hc2037
              ·replace hx := cond_t hc2037 hx
               obtain rfl := Option.some.inj hx
               exact (J.mv rfl (J.k (JO.cmp rfl rfl rfl) (J.mv rfl (J.m 179 hc2036 (JO.move rfl) (J.m 179 hc2036 (JO.cmp rfl rfl rfl) (J.m 179 hc2036 (JO.move rfl) (J.u 182 hc2037 (J.u 182 hc2037 (J.m 179 hc2036 (JO.pT hc2037 rfl rfl) (J.m 179 hc2036 (JO.move rfl) (J.u 186 rfl (J.u 186 rfl (J.m 179 hc2036 (JO.pT rfl rfl rfl) (J.m 179 hc2036 (JO.move rfl) (J.u 190 rfl (J.u 190 rfl (J.m 179 hc2036 (JO.pT rfl rfl rfl) (J.k (JO.pT hc2036 rfl rfl) (J.fin (Sw.Sub.mk id (.c rfl (.c rfl (.c rfl (.c rfl (.c rfl (.c rfl (.c rfl (.c rfl (.c rfl (.c rfl (.c rfl (.c rfl (.c rfl .nil))))))))))))) (.box rfl (.c rfl (.c rfl .nil)) (.arr rfl .nil)) rfl))))))))))))))))))))
              ·replace hx := cond_f hc2037 hx
               rcases Bool.eq_false_or_eq_true (cm .gtr s1899.1 (2147483647 : Int)) with hc2038 | hc2038
               ·replace hx := cond_t hc2038 hx
                obtain rfl := Option.some.inj hx
                exact (J.mv rfl (J.k (JO.cmp rfl rfl rfl) (J.mv rfl (J.m 179 hc2036 (JO.move rfl) (J.m 179 hc2036 (JO.cmp rfl rfl rfl) (J.m 179 hc2036 (JO.move rfl) (J.m 182 hc2037 (JO.move rfl) (J.m 182 hc2037 (JO.cmp rfl rfl rfl) (J.m 179 hc2036 (JO.pF hc2037 rfl rfl) (J.m 179 hc2036 (JO.move rfl) (J.u 186 hc2038 (J.u 186 hc2038 (J.m 179 hc2036 (JO.pT hc2038 rfl rfl) (J.m 179 hc2036 (JO.move rfl) (J.u 190 rfl (J.u 190 rfl (J.m 179 hc2036 (JO.pT rfl rfl rfl) (J.k (JO.pT hc2036 rfl rfl) (J.fin (Sw.Sub.mk id (.c rfl (.c rfl (.c rfl (.c rfl (.c rfl (.c rfl (.c rfl (.c rfl (.c rfl (.c rfl (.c rfl (.c rfl (.c rfl .nil))))))))))))) (.box rfl (.c rfl (.c rfl .nil)) (.arr rfl .nil)) rfl))))))))))))))))))))
               ·replace hx := cond_f hc2038 hx
                rcases Bool.eq_false_or_eq_true (cm .lss s1899.2.1 (0 : Int)) with hc2039 | hc2039
                ·replace hx := cond_t hc2039 hx
                 obtain rfl := Option.some.inj hx
                 exact (J.mv rfl (J.k (JO.cmp rfl rfl rfl) (J.mv rfl (J.m 179 hc2036 (JO.move rfl) (J.m 179 hc2036 (JO.cmp rfl rfl rfl) (J.m 179 hc2036 (JO.move rfl) (J.m 182 hc2037 (JO.move rfl) (J.m 182 hc2037 (JO.cmp rfl rfl rfl) (J.m 179 hc2036 (JO.pF hc2037 rfl rfl) (J.m 179 hc2036 (JO.move rfl) (J.m 186 hc2038 (JO.move rfl) (J.m 186 hc2038 (JO.cmp rfl rfl rfl) (J.m 179 hc2036 (JO.pF hc2038 rfl rfl) (J.m 179 hc2036 (JO.move rfl) (J.u 190 hc2039 (J.u 190 hc2039 (J.m 179 hc2036 (JO.pT hc2039 rfl rfl) (J.k (JO.pT hc2036 rfl rfl) (J.fin (Sw.Sub.mk id (.c rfl (.c rfl (.c rfl (.c rfl (.c rfl (.c rfl (.c rfl (.c rfl (.c rfl (.c rfl (.c rfl (.c rfl (.c rfl .nil))))))))))))) (.box rfl (.c rfl (.c rfl .nil)) (.arr rfl .nil)) rfl))))))))))))))))))))
                ·replace hx := cond_f hc2039 hx
                 obtain rfl := Option.some.inj hx
                 exact (J.mv rfl (J.k (JO.cmp rfl rfl rfl) (J.mv rfl (J.m 179 hc2036 (JO.move rfl) (J.m 179 hc2036 (JO.cmp rfl rfl rfl) (J.m 179 hc2036 (JO.move rfl) (J.m 182 hc2037 (JO.move rfl) (J.m 182 hc2037 (JO.cmp rfl rfl rfl) (J.m 179 hc2036 (JO.pF hc2037 rfl rfl) (J.m 179 hc2036 (JO.move rfl) (J.m 186 hc2038 (JO.move rfl) (J.m 186 hc2038 (JO.cmp rfl rfl rfl) (J.m 179 hc2036 (JO.pF hc2038 rfl rfl) (J.m 179 hc2036 (JO.move rfl) (J.m 190 hc2039 (JO.move rfl) (J.m 190 hc2039 (JO.cmp rfl rfl rfl) (J.m 179 hc2036 (JO.pF hc2039 rfl rfl) (J.k (JO.pT hc2036 rfl rfl) (J.fin (Sw.Sub.mk id (.c rfl (.c rfl (.c rfl (.c rfl (.c rfl (.c rfl (.c rfl (.c rfl (.c rfl (.c rfl (.c rfl (.c rfl (.c rfl .nil))))))))))))) (.box rfl (.c rfl (.c rfl .nil)) (.arr rfl .nil)) rfl))))))))))))))))))))
             ·replace hx := cond_f hc2036 hx
              obtain rfl := Option.some.inj hx
              exact (J.mv rfl (J.k (JO.cmp rfl rfl rfl) (J.mv rfl (J.u 179 hc2036 (J.u 179 hc2036 (J.u 179 hc2036 (J.left (GK.und 182 rfl rfl rfl) rfl (J.left (GK.und 182 rfl rfl rfl) rfl (J.u 179 hc2036 (J.u 179 hc2036 (J.left (GK.und 186 rfl rfl rfl) rfl (J.left (GK.und 186 rfl rfl rfl) rfl (J.u 179 hc2036 (J.u 179 hc2036 (J.left (GK.und 190 rfl rfl rfl) rfl (J.left (GK.und 190 rfl rfl rfl) rfl (J.u 179 hc2036 (J.k (JO.pF hc2036 rfl rfl) (J.fin (Sw.Sub.mk id (.c rfl (.c rfl (.c rfl (.c rfl (.c rfl (.c rfl (.c rfl (.c rfl (.c rfl (.c rfl (.c rfl (.c rfl (.c rfl .nil))))))))))))) (.box rfl (.c rfl (.c rfl .nil)) (.arr rfl .nil)) rfl))))))))))))))))))))
            obtain ⟨k2041, hk2041, h⟩ := jp_elim h
            refine W.jn (fun x2042 : Int => ⟨[(0, .v Q0 a0), (1, .v Q2 a1), (2, .v Q2 a2), (3, .v Q0 s1899.1), (4, .v Q0 s1899.2.1), (21, .ptr 190000 0), (22, .ref 191), (23, .v Q0 s1899.2.2.1), (24, .v Q0 s1899.2.2.2.1), (25, .v Q0 s1899.2.2.2.2.1), (26, .v Q2 x2027), (27, .v Q0 x2042)], [(190000, .box 172 [.v Q0 s1899.2.2.2.2.2.1, .v Q1 s1899.2.2.2.2.2.2.1]), (191, .arr 56 eBlk s1899.2.2.2.2.2.2.2)]⟩) (fun x => k2041 x = some r2022) rfl ?_ ?_ ?_
            ·intro x2042 h
             rw [hk2041] at h
             refine W.seq ?_
             refine W.seq ?_
             refine W.reg (σ' := ⟨[(0, .v Q0 a0), (1, .v Q2 a1), (2, .v Q2 a2), (3, .v Q0 s1899.1), (4, .v Q0 s1899.2.1), (21, .ptr 190000 0), (22, .ref 191), (23, .v Q0 s1899.2.2.1), (24, .v Q0 s1899.2.2.2.1), (25, .v Q0 s1899.2.2.2.2.1), (26, .v Q2 x2027), (27, .v Q0 x2042), (28, .v Q0 (0 : Int))], [(190000, .box 172 [.v Q0 s1899.2.2.2.2.2.1, .v Q1 s1899.2.2.2.2.2.2.1]), (191, .arr 56 eBlk s1899.2.2.2.2.2.2.2)]⟩) (J.k (JO.assign rfl) (J.fin (Sw.Sub.mk id (.c rfl (.c rfl (.c rfl (.c rfl (.c rfl (.c rfl (.c rfl (.c rfl (.c rfl (.c rfl (.c rfl (.c rfl (.c rfl .nil))))))))))))) (.box rfl (.c rfl (.c rfl .nil)) (.arr rfl .nil)) rfl))) ?_
             obtain ⟨o2082, ho2082, hb2082, hr2082⟩ := lp_elim h
             refine W.lp (σs := fun s2069 : Int × Int => ⟨[(0, .v Q0 a0), (1, .v Q2 a1), (2, .v Q2 a2), (3, .v Q0 s1899.1), (4, .v Q0 s1899.2.1), (21, .ptr 190000 0), (22, .ref 191), (23, .v Q0 s1899.2.2.1), (24, .v Q0 s1899.2.2.2.1), (25, .v Q0 s1899.2.2.2.2.1), (26, .v Q2 x2027), (27, .v Q0 s2069.1), (28, .v Q0 s2069.2)], [(190000, .box 172 [.v Q0 s1899.2.2.2.2.2.1, .v Q1 s1899.2.2.2.2.2.2.1]), (191, .arr 56 eBlk s1899.2.2.2.2.2.2.2)]⟩) (fun x2083 : Int => ⟨[(0, .v Q0 a0), (1, .v Q2 a1), (2, .v Q2 a2), (3, .v Q0 s1899.1), (4, .v Q0 s1899.2.1), (21, .ptr 190000 0), (22, .ref 191), (23, .v Q0 s1899.2.2.1), (24, .v Q0 s1899.2.2.2.1), (25, .v Q0 s1899.2.2.2.2.1), (26, .v Q2 x2027), (27, .v Q0 x2083)], [(190000, .box 172 [.v Q0 s1899.2.2.2.2.2.1, .v Q1 s1899.2.2.2.2.2.2.1]), (191, .arr 56 eBlk s1899.2.2.2.2.2.2.2)]⟩) ho2082 (Sw.Sub.mk id (.c rfl (.c rfl (.c rfl (.c rfl (.c rfl (.c rfl (.c rfl (.c rfl (.c rfl (.c rfl (.c rfl (.c rfl (.c rfl .nil))))))))))))) (.box rfl (.c rfl (.c rfl .nil)) (.arr rfl .nil)) rfl) ?_ ?_
             ·intro x2083 hy
              have h := hb2082 _ hy
              refine W.seq ?_
              refine W.seq ?_
              obtain ⟨v2096, hv2096, h⟩ := bind_e h
              obtain ⟨v2097, hv2097, h⟩ := bind_e h
              refine W.reg (σ' := ⟨[(0, .v Q0 a0), (1, .v Q2 a1), (2, .v Q2 a2), (3, .v Q0 s1899.1), (4, .v Q0 s1899.2.1), (21, .ptr 190000 0), (22, .ref 191), (23, .v Q0 s1899.2.2.1), (24, .v Q0 s1899.2.2.2.1), (25, .v Q0 s1899.2.2.2.2.1), (26, .v Q2 x2027), (27, .v Q0 x2083), (227, .v Enc.bool (!v2097))], [(190000, .box 172 [.v Q0 v2096.2.1, .v Q1 v2096.2.2]), (191, .arr 56 eBlk s1899.2.2.2.2.2.2.2)]⟩) (J.mv rfl (J.mv rfl (J.mv rfl (J.mv rfl (J.t (JM.callM (H := [190000]) (K := [190000]) (swp [(9000, 190000)]) (swp_inj _) (fun A => con_store_Store_Commit_io A hv2096) Try.call54 (.cons (.dir rfl) (.cons (.dir rfl) (.cons (.dir rfl) (.cons (.dir rfl) .nil)))) (fun A => (.box rfl .nil)) (fun A => (.box rfl .nil rfl)) (fun _ => rfl) rfl rfl (fun _ => rfl) rfl rfl) (J.mv rfl (J.k (JO.call0 (con_ref_Is hv2097) Try.call14 (.cons (.dir rfl) (.cons (.dir rfl) .nil))) (J.k (JO.not rfl) (J.fin (Sw.Sub.mk id (.c rfl (.c rfl (.c rfl (.c rfl (.c rfl (.c rfl (.c rfl (.c rfl (.c rfl (.c rfl (.c rfl (.c rfl (.c rfl .nil))))))))))))) (.box rfl (.c rfl (.c rfl .nil)) (.arr rfl .nil)) rfl)))))))))) ?_
              rcases Bool.eq_false_or_eq_true (!v2097) with hc2098 | hc2098
              ·replace h := cond_t hc2098 h
               refine W.condT rfl hc2098 ?_
               refine W.seq ?_
               refine W.reg (σ' := ⟨[(10, .v Enc.bool false)], []⟩) (J.k (JO.assign rfl) (J.fin (Sw.Sub.mk id (.c rfl .nil) .nil rfl))) ?_
               refine W.ret ?_
               refine XQ.ret ?_
               obtain rfl := Option.some.inj h
               refine XQ.lret fun ho => ?_
               obtain rfl := hr2022 _ ho
               exact XQ.sub (σ' := ⟨[(10, .v Enc.bool false)], []⟩) (Sw.Sub.mk id (.c rfl .nil) .nil rfl) (XQ.ret1 hF noR rfl (RV.tmp rfl) .nil rfl)
              ·replace h := cond_f hc2098 h
               refine W.condF rfl hc2098 ?_
               refine W.skip ?_
               refine W.seq ?_
               refine W.seq ?_
               refine W.reg (σ' := ⟨[(0, .v Q0 a0), (1, .v Q2 a1), (2, .v Q2 a2), (3, .v Q0 s1899.1), (4, .v Q0 s1899.2.1), (21, .ptr 190000 0), (22, .ref 191), (23, .v Q0 s1899.2.2.1), (24, .v Q0 s1899.2.2.2.1), (25, .v Q0 s1899.2.2.2.2.1), (26, .v Q2 x2027), (229, .v Enc.bool (cm .eql x2083 (0 : Int)))], [(190000, .box 172 [.v Q0 v2096.2.1, .v Q1 v2096.2.2]), (191, .arr 56 eBlk s1899.2.2.2.2.2.2.2)]⟩) (J.mv rfl (J.k (JO.cmp rfl rfl rfl) (J.fin (Sw.Sub.mk id (.c rfl (.c rfl (.c rfl (.c rfl (.c rfl (.c rfl (.c rfl (.c rfl (.c rfl (.c rfl (.c rfl (.c rfl .nil)))))))))))) (.box rfl (.c rfl (.c rfl .nil)) (.arr rfl .nil)) rfl)))) ?_
               obtain ⟨k2121, hk2121, h⟩ := jp_elim h
               refine W.jn (fun x2122 : Int × Int × (List Blk) => ⟨[(0, .v Q0 a0), (1, .v Q2 a1), (2, .v Q2 a2), (3, .v Q0 s1899.1), (4, .v Q0 s1899.2.1), (21, .ptr 190000 0), (22, .ref 191), (23, .v Q0 x2122.1), (24, .v Q0 x2122.2.1), (25, .v Q0 s1899.2.2.2.2.1)], [(190000, .box 172 [.v Q0 v2096.2.1, .v Q1 v2096.2.2]), (191, .arr 56 eBlk x2122.2.2)]⟩) (fun x => k2121 x = some r2022) rfl ?_ ?_ ?_
               ·intro x2122 h
                rw [hk2121] at h
                refine W.seq ?_
                refine W.seq ?_
                obtain ⟨v2144, hv2144, h⟩ := bind_e h
                refine W.reg (σ' := ⟨[(0, .v Q0 a0), (1, .v Q2 a1), (2, .v Q2 a2), (3, .v Q0 s1899.1), (4, .v Q0 s1899.2.1), (21, .ptr 190000 0), (22, .ref 191), (23, .v Q0 x2122.1), (24, .v Q0 x2122.2.1), (25, .v Q0 s1899.2.2.2.2.1), (255, .v Enc.bool (!v2144))], [(190000, .box 172 [.v Q0 v2096.2.1, .v Q1 v2096.2.2]), (191, .arr 56 eBlk x2122.2.2)]⟩) (J.mv rfl (J.mv rfl (J.mv rfl (J.mv rfl (J.k (JO.callL0 (con_law_sees hv2144) Try.call53 (.cons (.lendP rfl rfl (.prm (.one _ _) (.one _ _))) (.cons (.ref rfl rfl) (.cons (.dir rfl) (.cons (.dir rfl) .nil)))) FlatS.v) (J.k (JO.not rfl) (J.fin (Sw.Sub.mk id (.c rfl (.c rfl (.c rfl (.c rfl (.c rfl (.c rfl (.c rfl (.c rfl (.c rfl (.c rfl (.c rfl .nil))))))))))) (.box rfl (.c rfl (.c rfl .nil)) (.arr rfl .nil)) rfl)))))))) ?_
                rcases Bool.eq_false_or_eq_true (!v2144) with hc2145 | hc2145
                ·replace h := cond_t hc2145 h
                 refine W.condT rfl hc2145 ?_
                 refine W.seq ?_
                 refine W.reg (σ' := ⟨[(10, .v Enc.bool false)], []⟩) (J.k (JO.assign rfl) (J.fin (Sw.Sub.mk id (.c rfl .nil) .nil rfl))) ?_
                 refine W.ret ?_
                 refine XQ.ret ?_
                 obtain rfl := Option.some.inj h
                 refine XQ.lret fun ho => ?_
                 obtain rfl := hr2022 _ ho
                 exact XQ.sub (σ' := ⟨[(10, .v Enc.bool false)], []⟩) (Sw.Sub.mk id (.c rfl .nil) .nil rfl) (XQ.ret1 hF noR rfl (RV.tmp rfl) .nil rfl)
                ·replace h := cond_f hc2145 h
                 refine W.condF rfl hc2145 ?_
                 refine W.skip ?_
                 refine W.reg (σ' := ⟨[(0, .v Q0 a0), (1, .v Q2 a1), (2, .v Q2 a2), (3, .v Q0 s1899.2.1), (4, .v Q0 s1899.1), (21, .ptr 190000 0), (22, .ref 191), (23, .v Q0 x2122.1), (24, .v Q0 x2122.2.1), (25, .v Q0 s1899.2.2.2.2.1)], [(190000, .box 172 [.v Q0 v2096.2.1, .v Q1 v2096.2.2]), (191, .arr 56 eBlk x2122.2.2)]⟩) (J.mv rfl (J.mv rfl (J.k (JO.assign rfl) (J.k (JO.assign rfl) (J.fin (Sw.Sub.mk id (.c rfl (.c rfl (.c rfl (.c rfl (.c rfl (.c rfl (.c rfl (.c rfl (.c rfl (.c rfl .nil)))))))))) (.box rfl (.c rfl (.c rfl .nil)) (.arr rfl .nil)) rfl)))))) ?_
                 refine W.fall ?_
                 refine W.reg (σ' := ⟨[(0, .v Q0 a0), (1, .v Q2 a1), (2, .v Q2 a2), (3, .v Q0 s1899.2.1), (4, .v Q0 s1899.1), (21, .ptr 190000 0), (22, .ref 191), (23, .v Q0 x2122.1), (24, .v Q0 x2122.2.1), (25, .v Q0 (ar .add .i64 s1899.2.2.2.2.1 (1 : Int)))], [(190000, .box 172 [.v Q0 v2096.2.1, .v Q1 v2096.2.2]), (191, .arr 56 eBlk x2122.2.2)]⟩) (J.mv rfl (J.k (JO.arith rfl rfl rfl) (J.k (JO.assign rfl) (J.fin (Sw.Sub.mk id (.c rfl (.c rfl (.c rfl (.c rfl (.c rfl (.c rfl (.c rfl (.c rfl (.c rfl (.c rfl .nil)))))))))) (.box rfl (.c rfl (.c rfl .nil)) (.arr rfl .nil)) rfl))))) ?_
                 obtain rfl := Option.some.inj h
                 exact W.next (Sw.Sub.mk id (.c rfl (.c rfl (.c rfl (.c rfl (.c rfl (.c rfl (.c rfl (.c rfl (.c rfl (.c rfl .nil)))))))))) (.box rfl (.c rfl (.c rfl .nil)) (.arr rfl .nil)) rfl)
               ·intro hc2099
                replace h := cond_t hc2099 h
                refine W.seq ?_
                refine W.seq ?_
                refine W.reg (σ' := ⟨[(0, .v Q0 a0), (1, .v Q2 a1), (2, .v Q2 a2), (3, .v Q0 s1899.1), (4, .v Q0 s1899.2.1), (21, .ptr 190000 0), (22, .ref 191), (25, .v Q0 s1899.2.2.2.2.1), (26, .v Q2 x2027), (29, .v Q0 (0 : Int))], [(190000, .box 172 [.v Q0 v2096.2.1, .v Q1 v2096.2.2]), (191, .arr 56 eBlk s1899.2.2.2.2.2.2.2)]⟩) (J.k (JO.assign rfl) (J.fin (Sw.Sub.mk id (.c rfl (.c rfl (.c rfl (.c rfl (.c rfl (.c rfl (.c rfl (.c rfl (.c rfl (.c rfl .nil)))))))))) (.box rfl (.c rfl (.c rfl .nil)) (.arr rfl .nil)) rfl))) ?_
                obtain ⟨o2138, ho2138, hb2138, hr2138⟩ := lp_elim h
                refine W.lp (σs := fun s2133 : Int × (List Blk) => ⟨[(0, .v Q0 a0), (1, .v Q2 a1), (2, .v Q2 a2), (3, .v Q0 s1899.1), (4, .v Q0 s1899.2.1), (21, .ptr 190000 0), (22, .ref 191), (25, .v Q0 s1899.2.2.2.2.1), (26, .v Q2 x2027), (29, .v Q0 s2133.1)], [(190000, .box 172 [.v Q0 v2096.2.1, .v Q1 v2096.2.2]), (191, .arr 56 eBlk s2133.2)]⟩) (fun x2139 : (List Blk) => ⟨[(0, .v Q0 a0), (1, .v Q2 a1), (2, .v Q2 a2), (3, .v Q0 s1899.1), (4, .v Q0 s1899.2.1), (21, .ptr 190000 0), (22, .ref 191), (25, .v Q0 s1899.2.2.2.2.1)], [(190000, .box 172 [.v Q0 v2096.2.1, .v Q1 v2096.2.2]), (191, .arr 56 eBlk x2139)]⟩) ho2138 (Sw.Sub.mk id (.c rfl (.c rfl (.c rfl (.c rfl (.c rfl (.c rfl (.c rfl (.c rfl (.c rfl (.c rfl .nil)))))))))) (.box rfl (.c rfl (.c rfl .nil)) (.arr rfl .nil)) rfl) ?_ ?_
                ·intro x2139 hy
                 have h := hb2138 _ hy
                 refine W.seq ?_
                 refine W.reg (σ' := ⟨[(0, .v Q0 a0), (1, .v Q2 a1), (2, .v Q2 a2), (3, .v Q0 s1899.1), (4, .v Q0 s1899.2.1), (21, .ptr 190000 0), (22, .ref 191), (23, .v Q0 s1899.1), (25, .v Q0 s1899.2.2.2.2.1)], [(190000, .box 172 [.v Q0 v2096.2.1, .v Q1 v2096.2.2]), (191, .arr 56 eBlk x2139)]⟩) (J.mv rfl (J.k (JO.assign rfl) (J.fin (Sw.Sub.mk id (.c rfl (.c rfl (.c rfl (.c rfl (.c rfl (.c rfl (.c rfl (.c rfl (.c rfl .nil))))))))) (.box rfl (.c rfl (.c rfl .nil)) (.arr rfl .nil)) rfl)))) ?_
                 refine W.reg (σ' := ⟨[(0, .v Q0 a0), (1, .v Q2 a1), (2, .v Q2 a2), (3, .v Q0 s1899.1), (4, .v Q0 s1899.2.1), (21, .ptr 190000 0), (22, .ref 191), (23, .v Q0 s1899.1), (24, .v Q0 s1899.2.1), (25, .v Q0 s1899.2.2.2.2.1)], [(190000, .box 172 [.v Q0 v2096.2.1, .v Q1 v2096.2.2]), (191, .arr 56 eBlk x2139)]⟩) (J.mv rfl (J.k (JO.assign rfl) (J.fin (Sw.Sub.mk id (.c rfl (.c rfl (.c rfl (.c rfl (.c rfl (.c rfl (.c rfl (.c rfl (.c rfl (.c rfl .nil)))))))))) (.box rfl (.c rfl (.c rfl .nil)) (.arr rfl .nil)) rfl)))) ?_
                 exact W.jfall h (Sw.Sub.mk id (.c rfl (.c rfl (.c rfl (.c rfl (.c rfl (.c rfl (.c rfl (.c rfl (.c rfl (.c rfl .nil)))))))))) (.box rfl (.c rfl (.c rfl .nil)) (.arr rfl .nil)) rfl)
                intro s2133 r2138 h
                refine W.seq ?_
                refine W.seq ?_
                refine W.reg (σ' := ⟨[(0, .v Q0 a0), (1, .v Q2 a1), (2, .v Q2 a2), (3, .v Q0 s1899.1), (4, .v Q0 s1899.2.1), (21, .ptr 190000 0), (22, .ref 191), (25, .v Q0 s1899.2.2.2.2.1), (26, .v Q2 x2027), (29, .v Q0 s2133.1), (233, .v Enc.bool (cm .lss s2133.1 (x2027.length : Int)))], [(190000, .box 172 [.v Q0 v2096.2.1, .v Q1 v2096.2.2]), (191, .arr 56 eBlk s2133.2)]⟩) (J.mv rfl (J.mv rfl (J.k (JO.len rfl Try.runUnderlying76) (J.k (JO.cmp rfl rfl rfl) (J.fin (Sw.Sub.mk id (.c rfl (.c rfl (.c rfl (.c rfl (.c rfl (.c rfl (.c rfl (.c rfl (.c rfl (.c rfl (.c rfl .nil))))))))))) (.box rfl (.c rfl (.c rfl .nil)) (.arr rfl .nil)) rfl)))))) ?_
                rcases Bool.eq_false_or_eq_true (cm .lss s2133.1 (x2027.length : Int)) with hc2140 | hc2140
                ·replace h := cond_t hc2140 h
                 refine W.condT rfl hc2140 ?_
                 refine W.skip ?_
                 refine W.seq ?_
                 refine W.block ?_
                 obtain ⟨z2141, hz2141, h⟩ := bind_e h
                 obtain ⟨z2142, hz2142, h⟩ := bind_e h
                 obtain ⟨z2143, hz2143, h⟩ := bind_e h
                 refine W.dr2 (σ' := ⟨[(0, .v Q0 a0), (1, .v Q2 a1), (2, .v Q2 a2), (3, .v Q0 s1899.1), (4, .v Q0 s1899.2.1), (21, .ptr 190000 0), (22, .ref 191), (25, .v Q0 s1899.2.2.2.2.1), (26, .v Q2 x2027), (29, .v Q0 s2133.1)], [(190000, .box 172 [.v Q0 v2096.2.1, .v Q1 v2096.2.2]), (191, .arr 56 eBlk (List.set s2133.2 (Int.toNat z2141.1) z2142.2))]⟩) 12 [0, 0, 0, 6, 14, 30, 0, 0, 192, 448, 960, 2047, 4095] mixed (by exact (.cons (.none rfl) (JO.move rfl) rfl rfl (.cons (.none rfl) (JO.move rfl) rfl rfl (.cons (.none rfl) (JO.move rfl) rfl rfl (.cons (.none rfl) (JO.idx hz2141 rfl rfl Try.runUnderlying76 Try.sizeOf85) rfl rfl (.cons (.none rfl) (JO.fieldPst rfl Try.runUnderlying85 rfl Try.sizeOf3 rfl (.fst .here) rfl) rfl rfl (.cons (.none rfl) (JO.loadPst rfl Try.isAgg3 Try.sizeOf3) rfl rfl (.cons (.none rfl) (JO.move rfl) rfl rfl (.cons (.none rfl) (JO.move rfl) rfl rfl (.cons (.none rfl) (JO.idx hz2142 rfl rfl Try.runUnderlying76 Try.sizeOf85) rfl rfl (.cons (.none rfl) (JO.fieldPst rfl Try.runUnderlying85 rfl Try.sizeOf56 rfl (.snd .here) rfl) rfl rfl (.cons (.none rfl) (JO.loadPst rfl Try.isAgg56 Try.sizeOf56) rfl rfl (.cons (.none rfl) (JO.idxR hz2143 rfl rfl rfl Try.runUnderlying26 Try.sizeOf56) rfl rfl .nil))))))))))))) (by exact (J.t (JM.storeEl (idx_some hz2143).2.2 rfl rfl rfl Try.sizeOf56) (J.fin (Sw.Sub.mk id (.c rfl (.c rfl (.c rfl (.c rfl (.c rfl (.c rfl (.c rfl (.c rfl (.c rfl (.c rfl .nil)))))))))) (.box rfl (.c rfl (.c rfl .nil)) (.arr rfl .nil)) rfl)))) rfl (by decide +kernel) (by decide +kernel) (by decide +kernel) (by kernel_rfl) ?_
                 refine W.fall ?_
                 refine W.reg (σ' := ⟨[(0, .v Q0 a0), (1, .v Q2 a1), (2, .v Q2 a2), (3, .v Q0 s1899.1), (4, .v Q0 s1899.2.1), (21, .ptr 190000 0), (22, .ref 191), (25, .v Q0 s1899.2.2.2.2.1), (26, .v Q2 x2027), (29, .v Q0 (ar .add .i64 s2133.1 (1 : Int)))], [(190000, .box 172 [.v Q0 v2096.2.1, .v Q1 v2096.2.2]), (191, .arr 56 eBlk (List.set s2133.2 (Int.toNat z2141.1) z2142.2))]⟩) (J.mv rfl (J.k (JO.arith rfl rfl rfl) (J.k (JO.assign rfl) (J.fin (Sw.Sub.mk id (.c rfl (.c rfl (.c rfl (.c rfl (.c rfl (.c rfl (.c rfl (.c rfl (.c rfl (.c rfl .nil)))))))))) (.box rfl (.c rfl (.c rfl .nil)) (.arr rfl .nil)) rfl))))) ?_
                 obtain rfl := Option.some.inj h
                 exact W.next (Sw.Sub.mk id (.c rfl (.c rfl (.c rfl (.c rfl (.c rfl (.c rfl (.c rfl (.c rfl (.c rfl (.c rfl .nil)))))))))) (.box rfl (.c rfl (.c rfl .nil)) (.arr rfl .nil)) rfl)
                ·replace h := cond_f hc2140 h
                 refine W.condF rfl hc2140 ?_
                 refine W.exit ?_
                 obtain rfl := Option.some.inj h
                 exact XQ.brk (Sw.Sub.mk id (.c rfl (.c rfl (.c rfl (.c rfl (.c rfl (.c rfl (.c rfl (.c rfl .nil)))))))) (.box rfl (.c rfl (.c rfl .nil)) (.arr rfl .nil)) rfl)
               ·intro hc2099
                replace h := cond_f hc2099 h
                refine W.skip ?_
                exact W.jfall h (Sw.Sub.mk id (.c rfl (.c rfl (.c rfl (.c rfl (.c rfl (.c rfl (.c rfl (.c rfl (.c rfl (.c rfl .nil)))))))))) (.box rfl (.c rfl (.c rfl .nil)) (.arr rfl .nil)) rfl)
             intro s2069 r2082 h
             refine W.seq ?_
             refine W.seq ?_
             obtain ⟨x2085, hx, h⟩ := bind_e h
             refine W.reg (σ' := ⟨[(0, .v Q0 a0), (1, .v Q2 a1), (2, .v Q2 a2), (3, .v Q0 s1899.1), (4, .v Q0 s1899.2.1), (21, .ptr 190000 0), (22, .ref 191), (23, .v Q0 s1899.2.2.1), (24, .v Q0 s1899.2.2.2.1), (25, .v Q0 s1899.2.2.2.2.1), (26, .v Q2 x2027), (27, .v Q0 s2069.1), (28, .v Q0 s2069.2), (202, .v Enc.bool x2085)], [(190000, .box 172 [.v Q0 s1899.2.2.2.2.2.1, .v Q1 s1899.2.2.2.2.2.2.1]), (191, .arr 56 eBlk s1899.2.2.2.2.2.2.2)]⟩) ?_ ?_
             ·rcases Bool.eq_false_or_eq_true (cm .lss s2069.2 (x2027.length : Int)) with hc2086 | hc2086
              ·replace hx := cond_t hc2086 hx
               obtain rfl := Option.some.inj hx
               exact (J.mv rfl (J.mv rfl (J.k (JO.len rfl Try.runUnderlying76) (J.k (JO.cmp rfl rfl rfl) (J.mv rfl (J.m 199 hc2086 (JO.move rfl) (J.m 199 hc2086 (JO.cmp rfl rfl rfl) (J.k (JO.pT hc2086 rfl rfl) (J.fin (Sw.Sub.mk id (.c rfl (.c rfl (.c rfl (.c rfl (.c rfl (.c rfl (.c rfl (.c rfl (.c rfl (.c rfl (.c rfl (.c rfl (.c rfl (.c rfl .nil)))))))))))))) (.box rfl (.c rfl (.c rfl .nil)) (.arr rfl .nil)) rfl))))))))))
              ·replace hx := cond_f hc2086 hx
               obtain rfl := Option.some.inj hx
               exact (J.mv rfl (J.mv rfl (J.k (JO.len rfl Try.runUnderlying76) (J.k (JO.cmp rfl rfl rfl) (J.mv rfl (J.u 199 hc2086 (J.u 199 hc2086 (J.k (JO.pF hc2086 rfl rfl) (J.fin (Sw.Sub.mk id (.c rfl (.c rfl (.c rfl (.c rfl (.c rfl (.c rfl (.c rfl (.c rfl (.c rfl (.c rfl (.c rfl (.c rfl (.c rfl (.c rfl .nil)))))))))))))) (.box rfl (.c rfl (.c rfl .nil)) (.arr rfl .nil)) rfl))))))))))
             rcases Bool.eq_false_or_eq_true x2085 with hc2087 | hc2087
             ·replace h := cond_t hc2087 h
              refine W.condT rfl hc2087 ?_
              refine W.skip ?_
              refine W.seq ?_
              refine W.block ?_
              refine W.seq ?_
              obtain ⟨x2091, hx, h⟩ := bind_e h
              refine W.reg (σ' := ⟨[(0, .v Q0 a0), (1, .v Q2 a1), (2, .v Q2 a2), (3, .v Q0 s1899.1), (4, .v Q0 s1899.2.1), (21, .ptr 190000 0), (22, .ref 191), (23, .v Q0 s1899.2.2.1), (24, .v Q0 s1899.2.2.2.1), (25, .v Q0 s1899.2.2.2.2.1), (26, .v Q2 x2027), (27, .v Q0 s2069.1), (28, .v Q0 s2069.2), (219, .v Enc.bool x2091)], [(190000, .box 172 [.v Q0 s1899.2.2.2.2.2.1, .v Q1 s1899.2.2.2.2.2.2.1]), (191, .arr 56 eBlk s1899.2.2.2.2.2.2.2)]⟩) ?_ ?_
              ·obtain ⟨z2092, hz2092, hx⟩ := bind_e hx
               rcases Bool.eq_false_or_eq_true (cm .lss z2092.1 (0 : Int)) with hc2093 | hc2093
               ·replace hx := cond_t hc2093 hx
                obtain rfl := Option.some.inj hx
                exact (J.mv rfl (J.mv rfl (J.k (JO.idx hz2092 rfl rfl Try.runUnderlying76 Try.sizeOf85) (J.k (JO.fieldPst rfl Try.runUnderlying85 rfl Try.sizeOf3 rfl (.fst .here) rfl) (J.k (JO.loadPst rfl Try.isAgg3 Try.sizeOf3) (J.k (JO.cmp rfl rfl rfl) (J.mv rfl (J.u 211 hc2093 (J.u 211 hc2093 (J.u 211 hc2093 (J.u 211 hc2093 (J.u 211 hc2093 (J.u 211 hc2093 (J.u 211 hc2093 (J.k (JO.pT hc2093 rfl rfl) (J.fin (Sw.Sub.mk id (.c rfl (.c rfl (.c rfl (.c rfl (.c rfl (.c rfl (.c rfl (.c rfl (.c rfl (.c rfl (.c rfl (.c rfl (.c rfl (.c rfl .nil)))))))))))))) (.box rfl (.c rfl (.c rfl .nil)) (.arr rfl .nil)) rfl)))))))))))))))))
               ·replace hx := cond_f hc2093 hx
                obtain ⟨z2094, hz2094, hx⟩ := bind_e hx
                obtain rfl := Option.some.inj hx
                exact (J.mv rfl (J.mv rfl (J.k (JO.idx hz2092 rfl rfl Try.runUnderlying76 Try.sizeOf85) (J.k (JO.fieldPst rfl Try.runUnderlying85 rfl Try.sizeOf3 rfl (.fst .here) rfl) (J.k (JO.loadPst rfl Try.isAgg3 Try.sizeOf3) (J.k (JO.cmp rfl rfl rfl) (J.mv rfl (J.m 211 hc2093 (JO.move rfl) (J.m 211 hc2093 (JO.move rfl) (J.m 211 hc2093 (JO.idx hz2094 rfl rfl Try.runUnderlying76 Try.sizeOf85) (J.m 211 hc2093 (JO.fieldPst rfl Try.runUnderlying85 rfl Try.sizeOf3 rfl (.fst .here) rfl) (J.m 211 hc2093 (JO.loadPst rfl Try.isAgg3 Try.sizeOf3) (J.m 211 hc2093 (JO.move rfl) (J.m 211 hc2093 (JO.cmp rfl rfl rfl) (J.k (JO.pF hc2093 rfl rfl) (J.fin (Sw.Sub.mk id (.c rfl (.c rfl (.c rfl (.c rfl (.c rfl (.c rfl (.c rfl (.c rfl (.c rfl (.c rfl (.c rfl (.c rfl (.c rfl (.c rfl .nil)))))))))))))) (.box rfl (.c rfl (.c rfl .nil)) (.arr rfl .nil)) rfl)))))))))))))))))
              rcases Bool.eq_false_or_eq_true x2091 with hc2095 | hc2095
              ·replace h := cond_t hc2095 h
               refine W.condT rfl hc2095 ?_
               refine W.reg (σ' := ⟨[(0, .v Q0 a0), (1, .v Q2 a1), (2, .v Q2 a2), (3, .v Q0 s1899.1), (4, .v Q0 s1899.2.1), (21, .ptr 190000 0), (22, .ref 191), (23, .v Q0 s1899.2.2.1), (24, .v Q0 s1899.2.2.2.1), (25, .v Q0 s1899.2.2.2.2.1), (26, .v Q2 x2027), (27, .v Q0 (1 : Int)), (28, .v Q0 s2069.2)], [(190000, .box 172 [.v Q0 s1899.2.2.2.2.2.1, .v Q1 s1899.2.2.2.2.2.2.1]), (191, .arr 56 eBlk s1899.2.2.2.2.2.2.2)]⟩) (J.k (JO.assign rfl) (J.fin (Sw.Sub.mk id (.c rfl (.c rfl (.c rfl (.c rfl (.c rfl (.c rfl (.c rfl (.c rfl (.c rfl (.c rfl (.c rfl (.c rfl (.c rfl .nil))))))))))))) (.box rfl (.c rfl (.c rfl .nil)) (.arr rfl .nil)) rfl))) ?_
               refine W.fall ?_
               refine W.reg (σ' := ⟨[(0, .v Q0 a0), (1, .v Q2 a1), (2, .v Q2 a2), (3, .v Q0 s1899.1), (4, .v Q0 s1899.2.1), (21, .ptr 190000 0), (22, .ref 191), (23, .v Q0 s1899.2.2.1), (24, .v Q0 s1899.2.2.2.1), (25, .v Q0 s1899.2.2.2.2.1), (26, .v Q2 x2027), (27, .v Q0 (1 : Int)), (28, .v Q0 (ar .add .i64 s2069.2 (1 : Int)))], [(190000, .box 172 [.v Q0 s1899.2.2.2.2.2.1, .v Q1 s1899.2.2.2.2.2.2.1]), (191, .arr 56 eBlk s1899.2.2.2.2.2.2.2)]⟩) (J.mv rfl (J.k (JO.arith rfl rfl rfl) (J.k (JO.assign rfl) (J.fin (Sw.Sub.mk id (.c rfl (.c rfl (.c rfl (.c rfl (.c rfl (.c rfl (.c rfl (.c rfl (.c rfl (.c rfl (.c rfl (.c rfl (.c rfl .nil))))))))))))) (.box rfl (.c rfl (.c rfl .nil)) (.arr rfl .nil)) rfl))))) ?_
               obtain rfl := Option.some.inj h
               exact W.next (Sw.Sub.mk id (.c rfl (.c rfl (.c rfl (.c rfl (.c rfl (.c rfl (.c rfl (.c rfl (.c rfl (.c rfl (.c rfl (.c rfl (.c rfl .nil))))))))))))) (.box rfl (.c rfl (.c rfl .nil)) (.arr rfl .nil)) rfl)
              ·replace h := cond_f hc2095 h
               refine W.condF rfl hc2095 ?_
               refine W.skip ?_
               refine W.fall ?_
               refine W.reg (σ' := ⟨[(0, .v Q0 a0), (1, .v Q2 a1), (2, .v Q2 a2), (3, .v Q0 s1899.1), (4, .v Q0 s1899.2.1), (21, .ptr 190000 0), (22, .ref 191), (23, .v Q0 s1899.2.2.1), (24, .v Q0 s1899.2.2.2.1), (25, .v Q0 s1899.2.2.2.2.1), (26, .v Q2 x2027), (27, .v Q0 s2069.1), (28, .v Q0 (ar .add .i64 s2069.2 (1 : Int)))], [(190000, .box 172 [.v Q0 s1899.2.2.2.2.2.1, .v Q1 s1899.2.2.2.2.2.2.1]), (191, .arr 56 eBlk s1899.2.2.2.2.2.2.2)]⟩) (J.mv rfl (J.k (JO.arith rfl rfl rfl) (J.k (JO.assign rfl) (J.fin (Sw.Sub.mk id (.c rfl (.c rfl (.c rfl (.c rfl (.c rfl (.c rfl (.c rfl (.c rfl (.c rfl (.c rfl (.c rfl (.c rfl (.c rfl .nil))))))))))))) (.box rfl (.c rfl (.c rfl .nil)) (.arr rfl .nil)) rfl))))) ?_
               obtain rfl := Option.some.inj h
               exact W.next (Sw.Sub.mk id (.c rfl (.c rfl (.c rfl (.c rfl (.c rfl (.c rfl (.c rfl (.c rfl (.c rfl (.c rfl (.c rfl (.c rfl (.c rfl .nil))))))))))))) (.box rfl (.c rfl (.c rfl .nil)) (.arr rfl .nil)) rfl)
             ·replace h := cond_f hc2087 h
              refine W.condF rfl hc2087 ?_
              refine W.exit ?_
              obtain rfl := Option.some.inj h
              exact XQ.brk (Sw.Sub.mk id (.c rfl (.c rfl (.c rfl (.c rfl (.c rfl (.c rfl (.c rfl (.c rfl (.c rfl (.c rfl (.c rfl (.c rfl .nil)))))))))))) (.box rfl (.c rfl (.c rfl .nil)) (.arr rfl .nil)) rfl)
            ·intro hc2040
             replace h := cond_t hc2040 h
             refine W.reg (σ' := ⟨[(0, .v Q0 a0), (1, .v Q2 a1), (2, .v Q2 a2), (3, .v Q0 s1899.1), (4, .v Q0 s1899.2.1), (21, .ptr 190000 0), (22, .ref 191), (23, .v Q0 s1899.2.2.1), (24, .v Q0 s1899.2.2.2.1), (25, .v Q0 s1899.2.2.2.2.1), (26, .v Q2 x2027), (27, .v Q0 (1 : Int))], [(190000, .box 172 [.v Q0 s1899.2.2.2.2.2.1, .v Q1 s1899.2.2.2.2.2.2.1]), (191, .arr 56 eBlk s1899.2.2.2.2.2.2.2)]⟩) (J.k (JO.assign rfl) (J.fin (Sw.Sub.mk id (.c rfl (.c rfl (.c rfl (.c rfl (.c rfl (.c rfl (.c rfl (.c rfl (.c rfl (.c rfl (.c rfl (.c rfl .nil)))))))))))) (.box rfl (.c rfl (.c rfl .nil)) (.arr rfl .nil)) rfl))) ?_
             exact W.jfall h (Sw.Sub.mk id (.c rfl (.c rfl (.c rfl (.c rfl (.c rfl (.c rfl (.c rfl (.c rfl (.c rfl (.c rfl (.c rfl (.c rfl .nil)))))))))))) (.box rfl (.c rfl (.c rfl .nil)) (.arr rfl .nil)) rfl)
            ·intro hc2040
             replace h := cond_f hc2040 h
             refine W.skip ?_
             exact W.jfall h (Sw.Sub.mk id (.c rfl (.c rfl (.c rfl (.c rfl (.c rfl (.c rfl (.c rfl (.c rfl (.c rfl (.c rfl (.c rfl (.c rfl .nil)))))))))))) (.box rfl (.c rfl (.c rfl .nil)) (.arr rfl .nil)) rfl)
           ·intro hc2028
            replace h := cond_t hc2028 h
            refine W.reg (σ' := ⟨[(0, .v Q0 a0), (1, .v Q2 a1), (2, .v Q2 a2), (3, .v Q0 s1899.1), (4, .v Q0 s1899.2.1), (21, .ptr 190000 0), (22, .ref 191), (23, .v Q0 s1899.2.2.1), (24, .v Q0 s1899.2.2.2.1), (25, .v Q0 s1899.2.2.2.2.1), (26, .v Q2 x2027), (27, .v Q0 (2 : Int))], [(190000, .box 172 [.v Q0 s1899.2.2.2.2.2.1, .v Q1 s1899.2.2.2.2.2.2.1]), (191, .arr 56 eBlk s1899.2.2.2.2.2.2.2)]⟩) (J.k (JO.assign rfl) (J.fin (Sw.Sub.mk id (.c rfl (.c rfl (.c rfl (.c rfl (.c rfl (.c rfl (.c rfl (.c rfl (.c rfl (.c rfl (.c rfl (.c rfl .nil)))))))))))) (.box rfl (.c rfl (.c rfl .nil)) (.arr rfl .nil)) rfl))) ?_
            exact W.jfall h (Sw.Sub.mk id (.c rfl (.c rfl (.c rfl (.c rfl (.c rfl (.c rfl (.c rfl (.c rfl (.c rfl (.c rfl (.c rfl (.c rfl .nil)))))))))))) (.box rfl (.c rfl (.c rfl .nil)) (.arr rfl .nil)) rfl)
           ·intro hc2028
            replace h := cond_f hc2028 h
            refine W.skip ?_
            exact W.jfall h (Sw.Sub.mk id (.c rfl (.c rfl (.c rfl (.c rfl (.c rfl (.c rfl (.c rfl (.c rfl (.c rfl (.c rfl (.c rfl (.c rfl .nil)))))))))))) (.box rfl (.c rfl (.c rfl .nil)) (.arr rfl .nil)) rfl)
          ·intro hc2025
           replace h := cond_t hc2025 h
           refine W.reg (σ' := ⟨[(0, .v Q0 a0), (1, .v Q2 a1), (2, .v Q2 a2), (3, .v Q0 s1899.1), (4, .v Q0 s1899.2.1), (21, .ptr 190000 0), (22, .ref 191), (23, .v Q0 s1899.2.2.1), (24, .v Q0 s1899.2.2.2.1), (25, .v Q0 s1899.2.2.2.2.1), (26, .v Q2 a2)], [(190000, .box 172 [.v Q0 s1899.2.2.2.2.2.1, .v Q1 s1899.2.2.2.2.2.2.1]), (191, .arr 56 eBlk s1899.2.2.2.2.2.2.2)]⟩) (J.mv rfl (J.k (JO.assign rfl) (J.fin (Sw.Sub.mk id (.c rfl (.c rfl (.c rfl (.c rfl (.c rfl (.c rfl (.c rfl (.c rfl (.c rfl (.c rfl (.c rfl .nil))))))))))) (.box rfl (.c rfl (.c rfl .nil)) (.arr rfl .nil)) rfl)))) ?_
           exact W.jfall h (Sw.Sub.mk id (.c rfl (.c rfl (.c rfl (.c rfl (.c rfl (.c rfl (.c rfl (.c rfl (.c rfl (.c rfl (.c rfl .nil))))))))))) (.box rfl (.c rfl (.c rfl .nil)) (.arr rfl .nil)) rfl)
          ·intro hc2025
           replace h := cond_f hc2025 h
           refine W.skip ?_
           exact W.jfall h (Sw.Sub.mk id (.c rfl (.c rfl (.c rfl (.c rfl (.c rfl (.c rfl (.c rfl (.c rfl (.c rfl (.c rfl (.c rfl .nil))))))))))) (.box rfl (.c rfl (.c rfl .nil)) (.arr rfl .nil)) rfl)
         ·replace h := cond_f hc2024 h
          refine W.condF rfl hc2024 ?_
          refine W.exit ?_
          obtain rfl := Option.some.inj h
          exact XQ.brk (Sw.Sub.mk id (.c rfl (.c rfl (.c rfl (.c rfl (.c rfl .nil))))) (.box rfl (.c rfl (.c rfl .nil)) (.arr rfl .nil)) rfl)
end Go.Cn
