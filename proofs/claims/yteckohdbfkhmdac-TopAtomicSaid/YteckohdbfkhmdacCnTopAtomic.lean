/- The functions that this law reaches come to what their models come to. Conditions: none. -/
import Derived.Test.YteckohdbfkhmdacCnATopAtomic
set_option linter.unusedVariables false
set_option linter.unusedSimpArgs false
namespace Go.Cn
open Go Go.Sw Go.Mo Go.Proofs
set_option maxRecDepth 100000 in
set_option maxHeartbeats 4000000 in
theorem con_top_as {a0 : (Int × Q3)} {a1 : (List Blk)} {a2 : Int} {r : Bool} (h : m_top_as a0 a1 a2 = some r) :
  Con Try.prog 31 [.pst (Enc.pr Q0 Q1) a0, .v Q4 a1, .v Q0 a2] (.v Enc.bool r) [] := by
 refine Con.of Try.func31 rfl Try.ntmps31 rfl ?_
 intro S w hF
 unfold m_top_as at h
 refine W.seq ?_
 refine W.reg (σ' := ⟨[(0, .pst (Enc.pr Q0 Q1) a0), (1, .v Q4 a1), (2, .v Q0 a2)], []⟩) (J.k (JO.assign rfl) (J.fin (Sw.Sub.mk id (.c rfl (.c rfl (.c rfl .nil))) .nil rfl))) ?_
 refine W.seq ?_
 obtain ⟨v1, hv1, h⟩ := bind_e h
 refine W.reg (σ' := ⟨[(0, .pst (Enc.pr Q0 Q1) a0), (1, .v Q4 a1), (2, .v Q0 a2), (7, .v Q4 v1.1), (8, .v (Enc.err ET) v1.2)], []⟩) (J.mv rfl (J.k (JO.call0 (con_store_Store_All hv1) Try.call69 (.cons (.dir rfl) .nil)) (J.mv rfl (J.k (JO.extract rfl rfl) (J.k (JO.extract rfl rfl) (J.k (JO.assign rfl) (J.k (JO.assign rfl) (J.fin (Sw.Sub.mk id (.c rfl (.c rfl (.c rfl (.c rfl (.c rfl .nil))))) .nil rfl))))))))) ?_
 refine W.seq ?_
 obtain ⟨v2, hv2, h⟩ := bind_e h
 refine W.reg (σ' := ⟨[(1, .v Q4 a1), (2, .v Q0 a2), (7, .v Q4 v1.1), (8, .v (Enc.err ET) v1.2), (9, .v Q0 v2.1), (10, .v Q0 v2.2.1), (11, .v (Enc.err ET) v2.2.2)], []⟩) (J.mv rfl (J.k (JO.call0 (con_store_Store_Numbers hv2) Try.call70 (.cons (.dir rfl) .nil)) (J.mv rfl (J.k (JO.extract rfl rfl) (J.k (JO.extract rfl rfl) (J.k (JO.extract rfl rfl) (J.k (JO.assign rfl) (J.k (JO.assign rfl) (J.k (JO.assign rfl) (J.fin (Sw.Sub.mk id (.c rfl (.c rfl (.c rfl (.c rfl (.c rfl (.c rfl (.c rfl .nil))))))) .nil rfl))))))))))) ?_
 refine W.seq ?_
 obtain ⟨x8, hx, h⟩ := bind_e h
 refine W.reg (σ' := ⟨[(6, .v Enc.bool x8)], []⟩) ?_ ?_
 ·rcases Bool.eq_false_or_eq_true (Option.isNone v1.2) with hc9 | hc9
  ·replace hx := cond_t hc9 hx
   rcases Bool.eq_false_or_eq_true (Option.isNone v2.2.2) with hc10 | hc10
   ·replace hx := cond_t hc10 hx
    obtain ⟨v11, hv11, hx⟩ := bind_e hx
    rcases Bool.eq_false_or_eq_true v11 with hc12 | hc12
    ·replace hx := cond_t hc12 hx
     rcases Bool.eq_false_or_eq_true (cm .eql v2.1 a2) with hc13 | hc13
     ·replace hx := cond_t hc13 hx
      obtain rfl := Option.some.inj hx
      exact (J.mv rfl (J.k (JO.errEq Try.runUnderlying34 rfl) (J.mv rfl (J.m 25 hc9 (JO.move rfl) (J.m 25 hc9 (JO.errEq Try.runUnderlying34 rfl) (J.k (JO.pT hc9 rfl rfl) (J.mv rfl (J.m 29 hc10 (JO.move rfl) (J.m 29 hc10 (JO.move rfl) (J.m 29 hc10 (JO.call0 (con_ref_SameBlocks hv11) Try.call16 (.cons (.dir rfl) (.cons (.dir rfl) .nil))) (J.k (JO.pT hc10 rfl rfl) (J.mv rfl (J.m 34 hc12 (JO.move rfl) (J.m 34 hc12 (JO.move rfl) (J.m 34 hc12 (JO.cmp rfl rfl rfl) (J.k (JO.pT hc12 rfl rfl) (J.mv rfl (J.m 39 hc13 (JO.move rfl) (J.m 39 hc13 (JO.move rfl) (J.m 39 hc13 (JO.cmp rfl rfl rfl) (J.k (JO.pT hc13 rfl rfl) (J.k (JO.assign rfl) (J.fin (Sw.Sub.mk id (.c rfl .nil) .nil rfl))))))))))))))))))))))))
     ·replace hx := cond_f hc13 hx
      obtain rfl := Option.some.inj hx
      exact (J.mv rfl (J.k (JO.errEq Try.runUnderlying34 rfl) (J.mv rfl (J.m 25 hc9 (JO.move rfl) (J.m 25 hc9 (JO.errEq Try.runUnderlying34 rfl) (J.k (JO.pT hc9 rfl rfl) (J.mv rfl (J.m 29 hc10 (JO.move rfl) (J.m 29 hc10 (JO.move rfl) (J.m 29 hc10 (JO.call0 (con_ref_SameBlocks hv11) Try.call16 (.cons (.dir rfl) (.cons (.dir rfl) .nil))) (J.k (JO.pT hc10 rfl rfl) (J.mv rfl (J.m 34 hc12 (JO.move rfl) (J.m 34 hc12 (JO.move rfl) (J.m 34 hc12 (JO.cmp rfl rfl rfl) (J.k (JO.pT hc12 rfl rfl) (J.mv rfl (J.u 39 hc13 (J.u 39 hc13 (J.u 39 hc13 (J.k (JO.pF hc13 rfl rfl) (J.k (JO.assign rfl) (J.fin (Sw.Sub.mk id (.c rfl .nil) .nil rfl))))))))))))))))))))))))
    ·replace hx := cond_f hc12 hx
     obtain rfl := Option.some.inj hx
     exact (J.mv rfl (J.k (JO.errEq Try.runUnderlying34 rfl) (J.mv rfl (J.m 25 hc9 (JO.move rfl) (J.m 25 hc9 (JO.errEq Try.runUnderlying34 rfl) (J.k (JO.pT hc9 rfl rfl) (J.mv rfl (J.m 29 hc10 (JO.move rfl) (J.m 29 hc10 (JO.move rfl) (J.m 29 hc10 (JO.call0 (con_ref_SameBlocks hv11) Try.call16 (.cons (.dir rfl) (.cons (.dir rfl) .nil))) (J.k (JO.pT hc10 rfl rfl) (J.mv rfl (J.u 34 hc12 (J.u 34 hc12 (J.u 34 hc12 (J.k (JO.pF hc12 rfl rfl) (J.mv rfl (J.u 39 rfl (J.u 39 rfl (J.u 39 rfl (J.k (JO.pF rfl rfl rfl) (J.k (JO.assign rfl) (J.fin (Sw.Sub.mk id (.c rfl .nil) .nil rfl))))))))))))))))))))))))
   ·replace hx := cond_f hc10 hx
    obtain rfl := Option.some.inj hx
    exact (J.mv rfl (J.k (JO.errEq Try.runUnderlying34 rfl) (J.mv rfl (J.m 25 hc9 (JO.move rfl) (J.m 25 hc9 (JO.errEq Try.runUnderlying34 rfl) (J.k (JO.pT hc9 rfl rfl) (J.mv rfl (J.u 29 hc10 (J.u 29 hc10 (J.u 29 hc10 (J.k (JO.pF hc10 rfl rfl) (J.mv rfl (J.u 34 rfl (J.u 34 rfl (J.u 34 rfl (J.k (JO.pF rfl rfl rfl) (J.mv rfl (J.u 39 rfl (J.u 39 rfl (J.u 39 rfl (J.k (JO.pF rfl rfl rfl) (J.k (JO.assign rfl) (J.fin (Sw.Sub.mk id (.c rfl .nil) .nil rfl))))))))))))))))))))))))
  ·replace hx := cond_f hc9 hx
   obtain rfl := Option.some.inj hx
   exact (J.mv rfl (J.k (JO.errEq Try.runUnderlying34 rfl) (J.mv rfl (J.u 25 hc9 (J.u 25 hc9 (J.k (JO.pF hc9 rfl rfl) (J.mv rfl (J.u 29 rfl (J.u 29 rfl (J.u 29 rfl (J.k (JO.pF rfl rfl rfl) (J.mv rfl (J.u 34 rfl (J.u 34 rfl (J.u 34 rfl (J.k (JO.pF rfl rfl rfl) (J.mv rfl (J.u 39 rfl (J.u 39 rfl (J.u 39 rfl (J.k (JO.pF rfl rfl rfl) (J.k (JO.assign rfl) (J.fin (Sw.Sub.mk id (.c rfl .nil) .nil rfl))))))))))))))))))))))))
 refine W.ret ?_
 obtain rfl := Option.some.inj h
 exact XQ.sub (σ' := ⟨[(6, .v Enc.bool x8)], []⟩) (Sw.Sub.mk id (.c rfl .nil) .nil rfl) (XQ.ret1 hF noR rfl (RV.tmp rfl) .nil rfl)
set_option maxRecDepth 100000 in
set_option maxHeartbeats 4000000 in
theorem con_top_TopAtomic {a0 : (List Int)} {a1 : Int} {a2 : Int} {a3 : (List Int)} {r : Bool} (h : m_top_TopAtomic a0 a1 a2 a3 = some r) :
  Con Try.prog 7 [.v Q5 a0, .v Q0 a1, .v Q0 a2, .v Q5 a3] (.v Enc.bool r) [] := by
 refine Con.of Try.func7 rfl Try.ntmps7 rfl ?_
 intro S w hF
 unfold m_top_TopAtomic at h
 refine W.seq ?_
 refine W.reg (σ' := ⟨[(0, .v Q5 a0), (1, .v Q0 a1), (2, .v Q0 a2), (3, .v Q5 a3)], []⟩) (J.k (JO.assign rfl) (J.fin (Sw.Sub.mk id (.c rfl (.c rfl (.c rfl (.c rfl .nil)))) .nil rfl))) ?_
 refine W.seq ?_
 refine W.seq ?_
 obtain ⟨x2, hx, h⟩ := bind_e h
 refine W.reg (σ' := ⟨[(0, .v Q5 a0), (1, .v Q0 a1), (2, .v Q0 a2), (3, .v Q5 a3), (32, .v Enc.bool x2)], []⟩) ?_ ?_
 ·rcases Bool.eq_false_or_eq_true (cm .gtr (a0.length : Int) (128 : Int)) with hc3 | hc3
  ·replace hx := cond_t hc3 hx
   obtain rfl := Option.some.inj hx
   exact (J.mv rfl (J.k (JO.len rfl Try.runUnderlying22) (J.k (JO.cmp rfl rfl rfl) (J.mv rfl (J.u 28 hc3 (J.u 28 hc3 (J.u 28 hc3 (J.k (JO.pT hc3 rfl rfl) (J.fin (Sw.Sub.mk id (.c rfl (.c rfl (.c rfl (.c rfl (.c rfl .nil))))) .nil rfl))))))))))
  ·replace hx := cond_f hc3 hx
   obtain rfl := Option.some.inj hx
   exact (J.mv rfl (J.k (JO.len rfl Try.runUnderlying22) (J.k (JO.cmp rfl rfl rfl) (J.mv rfl (J.m 28 hc3 (JO.move rfl) (J.m 28 hc3 (JO.len rfl Try.runUnderlying22) (J.m 28 hc3 (JO.cmp rfl rfl rfl) (J.k (JO.pF hc3 rfl rfl) (J.fin (Sw.Sub.mk id (.c rfl (.c rfl (.c rfl (.c rfl (.c rfl .nil))))) .nil rfl))))))))))
 rcases Bool.eq_false_or_eq_true x2 with hc4 | hc4
 ·replace h := cond_t hc4 h
  refine W.condT rfl hc4 ?_
  refine W.seq ?_
  refine W.reg (σ' := ⟨[(8, .v Enc.bool true)], []⟩) (J.k (JO.assign rfl) (J.fin (Sw.Sub.mk id (.c rfl .nil) .nil rfl))) ?_
  refine W.ret ?_
  obtain rfl := Option.some.inj h
  exact XQ.sub (σ' := ⟨[(8, .v Enc.bool true)], []⟩) (Sw.Sub.mk id (.c rfl .nil) .nil rfl) (XQ.ret1 hF noR rfl (RV.tmp rfl) .nil rfl)
 ·replace h := cond_f hc4 h
  refine W.condF rfl hc4 ?_
  refine W.skip ?_
  refine W.seq ?_
  obtain ⟨v5, hv5, h⟩ := bind_e h
  refine W.reg (σ' := ⟨[(0, .v Q5 a0), (1, .v Q0 (ar .add .i64 (1 : Int) v5)), (2, .v Q0 a2), (3, .v Q5 a3)], []⟩) (J.mv rfl (J.k (JO.call0 (con_ref_Pick hv5) Try.call8 (.cons (.dir rfl) (.cons (.dir rfl) .nil))) (J.k (JO.arith rfl rfl rfl) (J.k (JO.assign rfl) (J.fin (Sw.Sub.mk id (.c rfl (.c rfl (.c rfl (.c rfl .nil)))) .nil rfl)))))) ?_
  refine W.seq ?_
  obtain ⟨v6, hv6, h⟩ := bind_e h
  refine W.reg (σ' := ⟨[(0, .v Q5 a0), (1, .v Q0 (ar .add .i64 (1 : Int) v5)), (2, .v Q0 v6), (3, .v Q5 a3)], []⟩) (J.mv rfl (J.k (JO.call0 (con_ref_Pick hv6) Try.call8 (.cons (.dir rfl) (.cons (.dir rfl) .nil))) (J.k (JO.assign rfl) (J.fin (Sw.Sub.mk id (.c rfl (.c rfl (.c rfl (.c rfl .nil)))) .nil rfl))))) ?_
  refine W.seq ?_
  obtain ⟨v7, hv7, h⟩ := bind_e h
  refine W.reg (σ' := ⟨[(0, .v Q5 a0), (1, .v Q0 (ar .add .i64 (1 : Int) v5)), (2, .v Q0 v6), (3, .v Q5 a3), (9, .ptr 104 0), (10, .v (Enc.err ET) v7.2)], [(104, .box 80 [.v Q4 v7.1.1, .v Q2 v7.1.2.1, .v Q0 v7.1.2.2])]⟩) (J.mv rfl (J.k (JO.call0 (con_store_Format hv7) Try.call26 (.cons (.dir rfl) .nil)) (J.mv rfl (J.k (JO.extract rfl rfl) (J.k (JO.extract rfl rfl) (J.k (JO.alloc 104 Try.zeroValue80 rfl (.cons (Z.sl eBlk) (.cons (Z.sl Q6) (.cons (Z.int .i64) .nil))) rfl) (J.t (JM.storeAll rfl rfl rfl rfl (.prm (.one _ _) (.prm (.one _ _) (.one _ _))) Try.sizeOf80) (J.k (JO.assign rfl) (J.fin (Sw.Sub.mk id (.c rfl (.c rfl (.c rfl (.c rfl (.c rfl (.c rfl .nil)))))) (.box rfl (.c rfl (.c rfl (.c rfl .nil))) .nil) rfl)))))))))) ?_
  refine W.seq ?_
  refine W.seq ?_
  refine W.reg (σ' := ⟨[(0, .v Q5 a0), (1, .v Q0 (ar .add .i64 (1 : Int) v5)), (2, .v Q0 v6), (3, .v Q5 a3), (9, .ptr 104 0), (44, .v Enc.bool (Option.isSome v7.2))], [(104, .box 80 [.v Q4 v7.1.1, .v Q2 v7.1.2.1, .v Q0 v7.1.2.2])]⟩) (J.mv rfl (J.k (JO.errNe Try.runUnderlying34 rfl) (J.fin (Sw.Sub.mk id (.c rfl (.c rfl (.c rfl (.c rfl (.c rfl (.c rfl .nil)))))) (.box rfl (.c rfl (.c rfl (.c rfl .nil))) .nil) rfl)))) ?_
  rcases Bool.eq_false_or_eq_true (Option.isSome v7.2) with hc8 | hc8
  ·replace h := cond_t hc8 h
   refine W.condT rfl hc8 ?_
   refine W.seq ?_
   refine W.reg (σ' := ⟨[(8, .v Enc.bool false)], []⟩) (J.k (JO.assign rfl) (J.fin (Sw.Sub.mk id (.c rfl .nil) .nil rfl))) ?_
   refine W.ret ?_
   obtain rfl := Option.some.inj h
   exact XQ.sub (σ' := ⟨[(8, .v Enc.bool false)], []⟩) (Sw.Sub.mk id (.c rfl .nil) .nil rfl) (XQ.ret1 hF noR rfl (RV.tmp rfl) .nil rfl)
  ·replace h := cond_f hc8 h
   refine W.condF rfl hc8 ?_
   refine W.skip ?_
   refine W.seq ?_
   obtain ⟨v9, hv9, h⟩ := bind_e h
   refine W.reg (σ' := ⟨[(0, .v Q5 a0), (1, .v Q0 (ar .add .i64 (1 : Int) v5)), (2, .v Q0 v6), (3, .v Q5 a3), (9, .ptr 104 0), (11, .ref 105)], [(104, .box 80 [.v Q4 v7.1.1, .v Q2 v7.1.2.1, .v Q0 v7.1.2.2]), (105, .arr 29 eBlk v9)]⟩) (J.mv rfl (J.k (JO.mkR 105 hv9 rfl rfl Try.runUnderlying24 Try.typeInfo29 Try.sizeOf29 rfl rfl (Z.arr 8 (Z.int .u8))) (J.k (JO.assign rfl) (J.fin (Sw.Sub.mk id (.c rfl (.c rfl (.c rfl (.c rfl (.c rfl (.c rfl .nil)))))) (.box rfl (.c rfl (.c rfl (.c rfl .nil))) (.arr rfl .nil)) rfl))))) ?_
   refine W.seq ?_
   refine W.reg (σ' := ⟨[(0, .v Q5 a0), (1, .v Q0 (ar .add .i64 (1 : Int) v5)), (2, .v Q0 v6), (3, .v Q5 a3), (9, .ptr 104 0), (11, .ref 105), (12, .v Q0 (0 : Int))], [(104, .box 80 [.v Q4 v7.1.1, .v Q2 v7.1.2.1, .v Q0 v7.1.2.2]), (105, .arr 29 eBlk v9)]⟩) (J.k (JO.assign rfl) (J.fin (Sw.Sub.mk id (.c rfl (.c rfl (.c rfl (.c rfl (.c rfl (.c rfl (.c rfl .nil))))))) (.box rfl (.c rfl (.c rfl (.c rfl .nil))) (.arr rfl .nil)) rfl))) ?_
   refine W.seq ?_
   refine W.seq ?_
   refine W.reg (σ' := ⟨[(0, .v Q5 a0), (1, .v Q0 (ar .add .i64 (1 : Int) v5)), (2, .v Q0 v6), (3, .v Q5 a3), (9, .ptr 104 0), (11, .ref 105), (12, .v Q0 (0 : Int)), (13, .v Q0 (0 : Int))], [(104, .box 80 [.v Q4 v7.1.1, .v Q2 v7.1.2.1, .v Q0 v7.1.2.2]), (105, .arr 29 eBlk v9)]⟩) (J.k (JO.assign rfl) (J.fin (Sw.Sub.mk id (.c rfl (.c rfl (.c rfl (.c rfl (.c rfl (.c rfl (.c rfl (.c rfl .nil)))))))) (.box rfl (.c rfl (.c rfl (.c rfl .nil))) (.arr rfl .nil)) rfl))) ?_
   obtain ⟨o703, ho703, hb703, hr703⟩ := lp_elim h
   refine W.lp (σs := fun s472 : Int × Int × (List Blk) × Q7 × Int × (List Blk) => ⟨[(0, .v Q5 a0), (1, .v Q0 (ar .add .i64 (1 : Int) v5)), (2, .v Q0 v6), (3, .v Q5 a3), (9, .ptr 104 0), (11, .ref 243), (12, .v Q0 s472.1), (13, .v Q0 s472.2.1)], [(104, .box 80 [.v Q4 s472.2.2.1, .v Q2 s472.2.2.2.1, .v Q0 s472.2.2.2.2.1]), (243, .arr 29 eBlk s472.2.2.2.2.2)]⟩) (fun x704 : Unit => ⟨[], []⟩) ho703 (Sw.Sub.mk (rn [(104, 104), (243, 105)]) (.c rfl (.c rfl (.c rfl (.c rfl (.c rfl (.c rfl (.c rfl (.c rfl .nil)))))))) (.box rfl (.c rfl (.c rfl (.c rfl .nil))) (.arr rfl .nil)) rfl) ?_ ?_
   ·intro x704 hy
    have h := hb703 _ hy
    refine W.seq ?_
    refine W.reg (σ' := ⟨[(8, .v Enc.bool true)], []⟩) (J.k (JO.assign rfl) (J.fin (Sw.Sub.mk id (.c rfl .nil) .nil rfl))) ?_
    refine W.ret ?_
    obtain rfl := Option.some.inj h
    exact XQ.sub (σ' := ⟨[(8, .v Enc.bool true)], []⟩) (Sw.Sub.mk id (.c rfl .nil) .nil rfl) (XQ.ret1 hF noR rfl (RV.tmp rfl) .nil rfl)
   intro s472 r703 h
   refine W.seq ?_
   refine W.seq ?_
   refine W.reg (σ' := ⟨[(0, .v Q5 a0), (1, .v Q0 (ar .add .i64 (1 : Int) v5)), (2, .v Q0 v6), (3, .v Q5 a3), (9, .ptr 104 0), (11, .ref 243), (12, .v Q0 s472.1), (13, .v Q0 s472.2.1), (50, .v Enc.bool (cm .lss s472.2.1 (a3.length : Int)))], [(104, .box 80 [.v Q4 s472.2.2.1, .v Q2 s472.2.2.2.1, .v Q0 s472.2.2.2.2.1]), (243, .arr 29 eBlk s472.2.2.2.2.2)]⟩) (J.mv rfl (J.mv rfl (J.k (JO.len rfl Try.runUnderlying22) (J.k (JO.cmp rfl rfl rfl) (J.fin (Sw.Sub.mk id (.c rfl (.c rfl (.c rfl (.c rfl (.c rfl (.c rfl (.c rfl (.c rfl (.c rfl .nil))))))))) (.box rfl (.c rfl (.c rfl (.c rfl .nil))) (.arr rfl .nil)) rfl)))))) ?_
   rcases Bool.eq_false_or_eq_true (cm .lss s472.2.1 (a3.length : Int)) with hc705 | hc705
   ·replace h := cond_t hc705 h
    refine W.condT rfl hc705 ?_
    refine W.skip ?_
    refine W.seq ?_
    refine W.block ?_
    refine W.seq ?_
    obtain ⟨z706, hz706, h⟩ := bind_e h
    obtain ⟨v707, hv707, h⟩ := bind_e h
    refine W.reg (σ' := ⟨[(0, .v Q5 a0), (1, .v Q0 (ar .add .i64 (1 : Int) v5)), (2, .v Q0 v6), (3, .v Q5 a3), (9, .ptr 104 0), (11, .ref 243), (12, .v Q0 s472.1), (13, .v Q0 s472.2.1), (14, .v Q0 v707)], [(104, .box 80 [.v Q4 s472.2.2.1, .v Q2 s472.2.2.2.1, .v Q0 s472.2.2.2.2.1]), (243, .arr 29 eBlk s472.2.2.2.2.2)]⟩) (J.mv rfl (J.mv rfl (J.k (JO.idx hz706 rfl rfl Try.runUnderlying22 Try.sizeOf3) (J.k (JO.loadPst rfl Try.isAgg3 Try.sizeOf3) (J.k (JO.call0 (con_ref_Pick hv707) Try.call8 (.cons (.dir rfl) (.cons (.dir rfl) .nil))) (J.k (JO.assign rfl) (J.fin (Sw.Sub.mk id (.c rfl (.c rfl (.c rfl (.c rfl (.c rfl (.c rfl (.c rfl (.c rfl (.c rfl .nil))))))))) (.box rfl (.c rfl (.c rfl (.c rfl .nil))) (.arr rfl .nil)) rfl)))))))) ?_
    refine W.seq ?_
    refine W.reg (σ' := ⟨[(0, .v Q5 a0), (1, .v Q0 (ar .add .i64 (1 : Int) v5)), (2, .v Q0 v6), (3, .v Q5 a3), (9, .ptr 104 0), (11, .ref 243), (12, .v Q0 s472.1), (13, .v Q0 s472.2.1)], [(104, .box 80 [.v Q4 s472.2.2.1, .v Q2 s472.2.2.2.1, .v Q0 v707]), (243, .arr 29 eBlk s472.2.2.2.2.2)]⟩) (J.mv rfl (J.k (JO.fieldPtr 2 rfl Try.runUnderlying80 rfl Try.sizeOf3 rfl rfl) (J.t (JM.store rfl rfl rfl rfl rfl rfl rfl Try.sizeOf3) (J.fin (Sw.Sub.mk id (.c rfl (.c rfl (.c rfl (.c rfl (.c rfl (.c rfl (.c rfl (.c rfl .nil)))))))) (.box rfl (.c rfl (.c rfl (.c rfl .nil))) (.arr rfl .nil)) rfl))))) ?_
    refine W.seq ?_
    obtain ⟨v708, hv708, h⟩ := bind_e h
    rcases hz709 : v708.1 with _ | z709
    ·replace h := ocase_n hz709 h
     refine W.reg (σ' := ⟨[(0, .v Q5 a0), (1, .v Q0 (ar .add .i64 (1 : Int) v5)), (2, .v Q0 v6), (3, .v Q5 a3), (9, .ptr 104 0), (11, .ref 243), (12, .v Q0 s472.1), (13, .v Q0 s472.2.1), (15, .v (Enc.ptN (Enc.pr Q0 Q1)) (none : (Option (Int × Q3)))), (16, .v (Enc.err ET) v708.2)], [(104, .box 80 [.v Q4 s472.2.2.1, .v Q2 s472.2.2.2.1, .v Q0 v707]), (243, .arr 29 eBlk s472.2.2.2.2.2)]⟩) (J.k (JO.loadAll rfl rfl (.prm (.one _ _) (.prm (.one _ _) (.one _ _))) Try.isAgg80 Try.sizeOf80) (J.mv rfl (J.k (JO.call0 (con_store_Open_n hz709 hv708) Try.call27 (.cons (.dir rfl) (.cons (.dir rfl) .nil))) (J.mv rfl (J.k (JO.extract rfl rfl) (J.k (JO.extract rfl rfl) (J.k (JO.assign rfl) (J.k (JO.assign rfl) (J.fin (Sw.Sub.mk id (.c rfl (.c rfl (.c rfl (.c rfl (.c rfl (.c rfl (.c rfl (.c rfl (.c rfl (.c rfl .nil)))))))))) (.box rfl (.c rfl (.c rfl (.c rfl .nil))) (.arr rfl .nil)) rfl)))))))))) ?_
     refine W.seq ?_
     refine W.seq ?_
     refine W.reg (σ' := ⟨[(0, .v Q5 a0), (1, .v Q0 (ar .add .i64 (1 : Int) v5)), (2, .v Q0 v6), (3, .v Q5 a3), (9, .ptr 104 0), (11, .ref 243), (12, .v Q0 s472.1), (13, .v Q0 s472.2.1), (15, .v (Enc.ptN (Enc.pr Q0 Q1)) (none : (Option (Int × Q3)))), (16, .v (Enc.err ET) v708.2), (68, .v Enc.bool (v708.2 == (some (4 : Int))))], [(104, .box 80 [.v Q4 s472.2.2.1, .v Q2 s472.2.2.2.1, .v Q0 v707]), (243, .arr 29 eBlk s472.2.2.2.2.2)]⟩) (J.mv rfl (J.k (JO.mkErr Try.runUnderlying86 rfl) (J.k (JO.errEq2 Try.runUnderlying34 Try.runUnderlying86 Try.typeInfo86 rfl rfl rfl) (J.fin (Sw.Sub.mk id (.c rfl (.c rfl (.c rfl (.c rfl (.c rfl (.c rfl (.c rfl (.c rfl (.c rfl (.c rfl (.c rfl .nil))))))))))) (.box rfl (.c rfl (.c rfl (.c rfl .nil))) (.arr rfl .nil)) rfl))))) ?_
     rcases Bool.eq_false_or_eq_true (v708.2 == (some (4 : Int))) with hc710 | hc710
     ·replace h := cond_t hc710 h
      refine W.condT rfl hc710 ?_
      refine W.seq ?_
      obtain ⟨v715, hv715, h⟩ := bind_e h
      refine W.reg (σ' := ⟨[(0, .v Q5 a0), (1, .v Q0 (ar .add .i64 (1 : Int) v5)), (2, .v Q0 v6), (3, .v Q5 a3), (9, .ptr 104 0), (11, .ref 243), (12, .v Q0 s472.1), (13, .v Q0 s472.2.1), (17, .ptr 318 0), (18, .v (Enc.err ET) v715.2)], [(104, .box 80 [.v Q4 s472.2.2.1, .v Q2 s472.2.2.2.1, .v Q0 v707]), (243, .arr 29 eBlk s472.2.2.2.2.2), (318, .box 80 [.v Q4 v715.1.1, .v Q2 v715.1.2.1, .v Q0 v715.1.2.2])]⟩) (J.k (JO.loadAll rfl rfl (.prm (.one _ _) (.prm (.one _ _) (.one _ _))) Try.isAgg80 Try.sizeOf80) (J.mv rfl (J.k (JO.call0 (con_disk_Crash hv715) Try.call28 (.cons (.dir rfl) (.cons (.dir rfl) .nil))) (J.mv rfl (J.k (JO.extract rfl rfl) (J.k (JO.extract rfl rfl) (J.k (JO.alloc 318 Try.zeroValue80 rfl (.cons (Z.sl eBlk) (.cons (Z.sl Q6) (.cons (Z.int .i64) .nil))) rfl) (J.t (JM.storeAll rfl rfl rfl rfl (.prm (.one _ _) (.prm (.one _ _) (.one _ _))) Try.sizeOf80) (J.k (JO.assign rfl) (J.fin (Sw.Sub.mk id (.c rfl (.c rfl (.c rfl (.c rfl (.c rfl (.c rfl (.c rfl (.c rfl (.c rfl (.c rfl .nil)))))))))) (.box rfl (.c rfl (.c rfl (.c rfl .nil))) (.arr rfl (.box rfl (.c rfl (.c rfl (.c rfl .nil))) .nil))) rfl))))))))))) ?_
      refine W.seq ?_
      refine W.seq ?_
      refine W.reg (σ' := ⟨[(0, .v Q5 a0), (1, .v Q0 (ar .add .i64 (1 : Int) v5)), (2, .v Q0 v6), (3, .v Q5 a3), (9, .ptr 104 0), (11, .ref 243), (12, .v Q0 s472.1), (13, .v Q0 s472.2.1), (17, .ptr 318 0), (76, .v Enc.bool (Option.isSome v715.2))], [(104, .box 80 [.v Q4 s472.2.2.1, .v Q2 s472.2.2.2.1, .v Q0 v707]), (243, .arr 29 eBlk s472.2.2.2.2.2), (318, .box 80 [.v Q4 v715.1.1, .v Q2 v715.1.2.1, .v Q0 v715.1.2.2])]⟩) (J.mv rfl (J.k (JO.errNe Try.runUnderlying34 rfl) (J.fin (Sw.Sub.mk id (.c rfl (.c rfl (.c rfl (.c rfl (.c rfl (.c rfl (.c rfl (.c rfl (.c rfl (.c rfl .nil)))))))))) (.box rfl (.c rfl (.c rfl (.c rfl .nil))) (.arr rfl (.box rfl (.c rfl (.c rfl (.c rfl .nil))) .nil))) rfl)))) ?_
      rcases Bool.eq_false_or_eq_true (Option.isSome v715.2) with hc716 | hc716
      ·replace h := cond_t hc716 h
       refine W.condT rfl hc716 ?_
       refine W.seq ?_
       refine W.reg (σ' := ⟨[(8, .v Enc.bool false)], []⟩) (J.k (JO.assign rfl) (J.fin (Sw.Sub.mk id (.c rfl .nil) .nil rfl))) ?_
       refine W.ret ?_
       refine XQ.ret ?_
       obtain rfl := Option.some.inj h
       refine XQ.lret fun ho => ?_
       obtain rfl := hr703 _ ho
       exact XQ.sub (σ' := ⟨[(8, .v Enc.bool false)], []⟩) (Sw.Sub.mk id (.c rfl .nil) .nil rfl) (XQ.ret1 hF noR rfl (RV.tmp rfl) .nil rfl)
      ·replace h := cond_f hc716 h
       refine W.condF rfl hc716 ?_
       refine W.skip ?_
       refine W.seq ?_
       refine W.reg (σ' := ⟨[(0, .v Q5 a0), (1, .v Q0 (ar .add .i64 (1 : Int) v5)), (2, .v Q0 v6), (3, .v Q5 a3), (9, .ptr 104 0), (11, .ref 243), (12, .v Q0 s472.1), (13, .v Q0 s472.2.1)], [(104, .box 80 [.v Q4 v715.1.1, .v Q2 v715.1.2.1, .v Q0 v715.1.2.2]), (243, .arr 29 eBlk s472.2.2.2.2.2)]⟩) (J.k (JO.loadAll rfl rfl (.prm (.one _ _) (.prm (.one _ _) (.one _ _))) Try.isAgg80 Try.sizeOf80) (J.t (JM.storeAll rfl rfl rfl rfl (.prm (.one _ _) (.prm (.one _ _) (.one _ _))) Try.sizeOf80) (J.fin (Sw.Sub.mk id (.c rfl (.c rfl (.c rfl (.c rfl (.c rfl (.c rfl (.c rfl (.c rfl .nil)))))))) (.box rfl (.c rfl (.c rfl (.c rfl .nil))) (.arr rfl .nil)) rfl)))) ?_
       obtain ⟨v717, hv717, h⟩ := bind_e h
       rcases hz718 : v717.1 with _ | z718
       ·replace h := ocase_n hz718 h
        refine W.reg (σ' := ⟨[(0, .v Q5 a0), (1, .v Q0 (ar .add .i64 (1 : Int) v5)), (2, .v Q0 v6), (3, .v Q5 a3), (9, .ptr 104 0), (11, .ref 243), (12, .v Q0 s472.1), (13, .v Q0 s472.2.1), (15, .v (Enc.ptN (Enc.pr Q0 Q1)) (none : (Option (Int × Q3)))), (16, .v (Enc.err ET) v717.2)], [(104, .box 80 [.v Q4 v715.1.1, .v Q2 v715.1.2.1, .v Q0 v715.1.2.2]), (243, .arr 29 eBlk s472.2.2.2.2.2)]⟩) (J.k (JO.loadAll rfl rfl (.prm (.one _ _) (.prm (.one _ _) (.one _ _))) Try.isAgg80 Try.sizeOf80) (J.mv rfl (J.k (JO.call0 (con_store_Open_n hz718 hv717) Try.call27 (.cons (.dir rfl) (.cons (.dir rfl) .nil))) (J.mv rfl (J.k (JO.extract rfl rfl) (J.k (JO.extract rfl rfl) (J.k (JO.assign rfl) (J.k (JO.assign rfl) (J.fin (Sw.Sub.mk id (.c rfl (.c rfl (.c rfl (.c rfl (.c rfl (.c rfl (.c rfl (.c rfl (.c rfl (.c rfl .nil)))))))))) (.box rfl (.c rfl (.c rfl (.c rfl .nil))) (.arr rfl .nil)) rfl)))))))))) ?_
        refine W.seq ?_
        refine W.seq ?_
        obtain ⟨x720, hx, h⟩ := bind_e h
        refine W.reg (σ' := ⟨[(0, .v Q5 a0), (1, .v Q0 (ar .add .i64 (1 : Int) v5)), (2, .v Q0 v6), (3, .v Q5 a3), (9, .ptr 104 0), (11, .ref 243), (12, .v Q0 s472.1), (13, .v Q0 s472.2.1), (15, .v (Enc.ptN (Enc.pr Q0 Q1)) (none : (Option (Int × Q3)))), (89, .v Enc.bool true)], [(104, .box 80 [.v Q4 v715.1.1, .v Q2 v715.1.2.1, .v Q0 v715.1.2.2]), (243, .arr 29 eBlk s472.2.2.2.2.2)]⟩) ?_ ?_
        ·rcases Bool.eq_false_or_eq_true (Option.isSome v717.2) with hc721 | hc721
         ·replace hx := cond_t hc721 hx
          obtain rfl := Option.some.inj hx
          exact (J.mv rfl (J.k (JO.errNe Try.runUnderlying34 rfl) (J.mv rfl (J.u 86 hc721 (J.u 86 hc721 (J.k (JO.pT hc721 rfl rfl) (J.fin (Sw.Sub.mk id (.c rfl (.c rfl (.c rfl (.c rfl (.c rfl (.c rfl (.c rfl (.c rfl (.c rfl (.c rfl .nil)))))))))) (.box rfl (.c rfl (.c rfl (.c rfl .nil))) (.arr rfl .nil)) rfl))))))))
         ·replace hx := cond_f hc721 hx
          obtain rfl := Option.some.inj hx
          exact (J.mv rfl (J.k (JO.errNe Try.runUnderlying34 rfl) (J.mv rfl (J.m 86 hc721 (JO.move rfl) (J.m 86 hc721 (JO.ptEq rfl Try.runUnderlying83) (J.k (JO.pF hc721 rfl rfl) (J.fin (Sw.Sub.mk id (.c rfl (.c rfl (.c rfl (.c rfl (.c rfl (.c rfl (.c rfl (.c rfl (.c rfl (.c rfl .nil)))))))))) (.box rfl (.c rfl (.c rfl (.c rfl .nil))) (.arr rfl .nil)) rfl))))))))
        refine W.condT rfl rfl ?_
        refine W.seq ?_
        refine W.reg (σ' := ⟨[(8, .v Enc.bool false)], []⟩) (J.k (JO.assign rfl) (J.fin (Sw.Sub.mk id (.c rfl .nil) .nil rfl))) ?_
        refine W.ret ?_
        refine XQ.ret ?_
        obtain rfl := Option.some.inj h
        refine XQ.lret fun ho => ?_
        obtain rfl := hr703 _ ho
        exact XQ.sub (σ' := ⟨[(8, .v Enc.bool false)], []⟩) (Sw.Sub.mk id (.c rfl .nil) .nil rfl) (XQ.ret1 hF noR rfl (RV.tmp rfl) .nil rfl)
       ·replace h := ocase_s hz718 h
        refine W.reg (σ' := ⟨[(0, .v Q5 a0), (1, .v Q0 (ar .add .i64 (1 : Int) v5)), (2, .v Q0 v6), (3, .v Q5 a3), (9, .ptr 104 0), (11, .ref 243), (12, .v Q0 s472.1), (13, .v Q0 s472.2.1), (15, .ptr 320000 0), (16, .v (Enc.err ET) v717.2)], [(104, .box 80 [.v Q4 v715.1.1, .v Q2 v715.1.2.1, .v Q0 v715.1.2.2]), (243, .arr 29 eBlk s472.2.2.2.2.2), (320000, .box 134 [.v Q0 z718.1, .v Q1 z718.2])]⟩) (J.k (JO.loadAll rfl rfl (.prm (.one _ _) (.prm (.one _ _) (.one _ _))) Try.isAgg80 Try.sizeOf80) (J.mv rfl (J.k (JO.call 320000 (con_store_Open_s hz718 hv717) Try.call27 (.cons (.dir rfl) (.cons (.dir rfl) .nil)) rfl) (J.mv rfl (J.k (JO.extract rfl rfl) (J.k (JO.extract rfl rfl) (J.k (JO.assign rfl) (J.k (JO.assign rfl) (J.fin (Sw.Sub.mk id (.c rfl (.c rfl (.c rfl (.c rfl (.c rfl (.c rfl (.c rfl (.c rfl (.c rfl (.c rfl .nil)))))))))) (.box rfl (.c rfl (.c rfl (.c rfl .nil))) (.arr rfl (.box rfl (.c rfl (.c rfl .nil)) .nil))) rfl)))))))))) ?_
        refine W.seq ?_
        refine W.seq ?_
        obtain ⟨x724, hx, h⟩ := bind_e h
        refine W.reg (σ' := ⟨[(0, .v Q5 a0), (1, .v Q0 (ar .add .i64 (1 : Int) v5)), (2, .v Q0 v6), (3, .v Q5 a3), (9, .ptr 104 0), (11, .ref 243), (12, .v Q0 s472.1), (13, .v Q0 s472.2.1), (15, .ptr 320000 0), (89, .v Enc.bool x724)], [(104, .box 80 [.v Q4 v715.1.1, .v Q2 v715.1.2.1, .v Q0 v715.1.2.2]), (243, .arr 29 eBlk s472.2.2.2.2.2), (320000, .box 134 [.v Q0 z718.1, .v Q1 z718.2])]⟩) ?_ ?_
        ·rcases Bool.eq_false_or_eq_true (Option.isSome v717.2) with hc725 | hc725
         ·replace hx := cond_t hc725 hx
          obtain rfl := Option.some.inj hx
          exact (J.mv rfl (J.k (JO.errNe Try.runUnderlying34 rfl) (J.mv rfl (J.u 86 hc725 (J.u 86 hc725 (J.k (JO.pT hc725 rfl rfl) (J.fin (Sw.Sub.mk id (.c rfl (.c rfl (.c rfl (.c rfl (.c rfl (.c rfl (.c rfl (.c rfl (.c rfl (.c rfl .nil)))))))))) (.box rfl (.c rfl (.c rfl (.c rfl .nil))) (.arr rfl (.box rfl (.c rfl (.c rfl .nil)) .nil))) rfl))))))))
         ·replace hx := cond_f hc725 hx
          obtain rfl := Option.some.inj hx
          exact (J.mv rfl (J.k (JO.errNe Try.runUnderlying34 rfl) (J.mv rfl (J.m 86 hc725 (JO.move rfl) (J.m 86 hc725 (JO.ptrEqN rfl Try.runUnderlying83) (J.k (JO.pF hc725 rfl rfl) (J.fin (Sw.Sub.mk id (.c rfl (.c rfl (.c rfl (.c rfl (.c rfl (.c rfl (.c rfl (.c rfl (.c rfl (.c rfl .nil)))))))))) (.box rfl (.c rfl (.c rfl (.c rfl .nil))) (.arr rfl (.box rfl (.c rfl (.c rfl .nil)) .nil))) rfl))))))))
        rcases Bool.eq_false_or_eq_true x724 with hc726 | hc726
        ·replace h := cond_t hc726 h
         refine W.condT rfl hc726 ?_
         refine W.seq ?_
         refine W.reg (σ' := ⟨[(8, .v Enc.bool false)], []⟩) (J.k (JO.assign rfl) (J.fin (Sw.Sub.mk id (.c rfl .nil) .nil rfl))) ?_
         refine W.ret ?_
         refine XQ.ret ?_
         obtain rfl := Option.some.inj h
         refine XQ.lret fun ho => ?_
         obtain rfl := hr703 _ ho
         exact XQ.sub (σ' := ⟨[(8, .v Enc.bool false)], []⟩) (Sw.Sub.mk id (.c rfl .nil) .nil rfl) (XQ.ret1 hF noR rfl (RV.tmp rfl) .nil rfl)
        ·replace h := cond_f hc726 h
         refine W.condF rfl hc726 ?_
         refine W.skip ?_
         refine W.seq ?_
         obtain ⟨v727, hv727, h⟩ := bind_e h
         refine W.reg (σ' := ⟨[(0, .v Q5 a0), (1, .v Q0 (ar .add .i64 (1 : Int) v5)), (2, .v Q0 v6), (3, .v Q5 a3), (9, .ptr 104 0), (11, .ref 243), (12, .v Q0 s472.1), (13, .v Q0 s472.2.1), (15, .ptr 320000 0), (19, .v Q2 v727)], [(104, .box 80 [.v Q4 v715.1.1, .v Q2 v715.1.2.1, .v Q0 v715.1.2.2]), (243, .arr 29 eBlk s472.2.2.2.2.2), (320000, .box 134 [.v Q0 z718.1, .v Q1 z718.2])]⟩) (J.mv rfl (J.mv rfl (J.mv rfl (J.k (JO.arith rfl rfl rfl) (J.mv rfl (J.k (JO.call0 (con_ref_PutsFrom hv727) Try.call10 (.cons (.dir rfl) (.cons (.dir rfl) (.cons (.dir rfl) .nil)))) (J.k (JO.assign rfl) (J.fin (Sw.Sub.mk id (.c rfl (.c rfl (.c rfl (.c rfl (.c rfl (.c rfl (.c rfl (.c rfl (.c rfl (.c rfl .nil)))))))))) (.box rfl (.c rfl (.c rfl (.c rfl .nil))) (.arr rfl (.box rfl (.c rfl (.c rfl .nil)) .nil))) rfl))))))))) ?_
         refine W.seq ?_
         obtain ⟨v728, hv728, h⟩ := bind_e h
         refine W.reg (σ' := ⟨[(0, .v Q5 a0), (1, .v Q0 (ar .add .i64 (1 : Int) v5)), (2, .v Q0 v6), (3, .v Q5 a3), (9, .ptr 104 0), (11, .ref 243), (12, .v Q0 s472.1), (13, .v Q0 s472.2.1), (15, .ptr 320000 0), (19, .v Q2 v727), (20, .ref 322000)], [(104, .box 80 [.v Q4 v715.1.1, .v Q2 v715.1.2.1, .v Q0 v715.1.2.2]), (243, .arr 29 eBlk s472.2.2.2.2.2), (320000, .box 134 [.v Q0 z718.1, .v Q1 z718.2]), (322000, .arr 29 eBlk v728)]⟩) (J.mv rfl (J.k (JO.callL 322000 (con_ref_OwnBlocks hv728) Try.call15 (.cons (.ref rfl rfl) .nil) rfl FlatS.ref (FlatN.arr FlatN.nil)) (J.k (JO.assign rfl) (J.fin (Sw.Sub.mk id (.c rfl (.c rfl (.c rfl (.c rfl (.c rfl (.c rfl (.c rfl (.c rfl (.c rfl (.c rfl (.c rfl .nil))))))))))) (.box rfl (.c rfl (.c rfl (.c rfl .nil))) (.arr rfl (.box rfl (.c rfl (.c rfl .nil)) (.arr rfl .nil)))) rfl))))) ?_
         refine W.seq ?_
         refine W.seq ?_
         refine W.reg (σ' := ⟨[(0, .v Q5 a0), (1, .v Q0 (ar .add .i64 (1 : Int) v5)), (2, .v Q0 v6), (3, .v Q5 a3), (9, .ptr 104 0), (11, .ref 243), (12, .v Q0 s472.1), (13, .v Q0 s472.2.1), (15, .ptr 320000 0), (19, .v Q2 v727), (20, .ref 322000), (21, .v Q0 (0 : Int))], [(104, .box 80 [.v Q4 v715.1.1, .v Q2 v715.1.2.1, .v Q0 v715.1.2.2]), (243, .arr 29 eBlk s472.2.2.2.2.2), (320000, .box 134 [.v Q0 z718.1, .v Q1 z718.2]), (322000, .arr 29 eBlk v728)]⟩) (J.k (JO.assign rfl) (J.fin (Sw.Sub.mk id (.c rfl (.c rfl (.c rfl (.c rfl (.c rfl (.c rfl (.c rfl (.c rfl (.c rfl (.c rfl (.c rfl (.c rfl .nil)))))))))))) (.box rfl (.c rfl (.c rfl (.c rfl .nil))) (.arr rfl (.box rfl (.c rfl (.c rfl .nil)) (.arr rfl .nil)))) rfl))) ?_
         obtain ⟨o744, ho744, hb744, hr744⟩ := lp_elim h
         refine W.lp (σs := fun s739 : Int × (List Blk) => ⟨[(0, .v Q5 a0), (1, .v Q0 (ar .add .i64 (1 : Int) v5)), (2, .v Q0 v6), (3, .v Q5 a3), (9, .ptr 104 0), (11, .ref 243), (12, .v Q0 s472.1), (13, .v Q0 s472.2.1), (15, .ptr 320000 0), (19, .v Q2 v727), (20, .ref 322000), (21, .v Q0 s739.1)], [(104, .box 80 [.v Q4 v715.1.1, .v Q2 v715.1.2.1, .v Q0 v715.1.2.2]), (243, .arr 29 eBlk s472.2.2.2.2.2), (320000, .box 134 [.v Q0 z718.1, .v Q1 z718.2]), (322000, .arr 29 eBlk s739.2)]⟩) (fun x745 : (List Blk) => ⟨[(0, .v Q5 a0), (1, .v Q0 (ar .add .i64 (1 : Int) v5)), (2, .v Q0 v6), (3, .v Q5 a3), (9, .ptr 104 0), (11, .ref 243), (12, .v Q0 s472.1), (13, .v Q0 s472.2.1), (15, .ptr 320000 0), (19, .v Q2 v727), (20, .ref 322000)], [(104, .box 80 [.v Q4 v715.1.1, .v Q2 v715.1.2.1, .v Q0 v715.1.2.2]), (243, .arr 29 eBlk s472.2.2.2.2.2), (320000, .box 134 [.v Q0 z718.1, .v Q1 z718.2]), (322000, .arr 29 eBlk x745)]⟩) ho744 (Sw.Sub.mk id (.c rfl (.c rfl (.c rfl (.c rfl (.c rfl (.c rfl (.c rfl (.c rfl (.c rfl (.c rfl (.c rfl (.c rfl .nil)))))))))))) (.box rfl (.c rfl (.c rfl (.c rfl .nil))) (.arr rfl (.box rfl (.c rfl (.c rfl .nil)) (.arr rfl .nil)))) rfl) ?_ ?_
         ·intro x745 hy
          have h := hb744 _ hy
          refine W.seq ?_
          obtain ⟨v750, hv750, h⟩ := bind_e h
          refine W.reg (σ' := ⟨[(0, .v Q5 a0), (1, .v Q0 (ar .add .i64 (1 : Int) v5)), (2, .v Q0 v6), (3, .v Q5 a3), (9, .ptr 104 0), (11, .ref 243), (12, .v Q0 s472.1), (13, .v Q0 s472.2.1), (15, .ptr 320000 0), (16, .v (Enc.err ET) v750.1), (20, .ref 322000)], [(104, .box 80 [.v Q4 v715.1.1, .v Q2 v715.1.2.1, .v Q0 v715.1.2.2]), (243, .arr 29 eBlk s472.2.2.2.2.2), (320000, .box 134 [.v Q0 v750.2.1, .v Q1 v750.2.2]), (322000, .arr 29 eBlk x745)]⟩) (J.mv rfl (J.mv rfl (J.mv rfl (J.k (JO.arith rfl rfl rfl) (J.mv rfl (J.k (JO.arith rfl rfl rfl) (J.t (JM.callM (H := [320000]) (K := [320000]) (swp [(9000, 320000)]) (swp_inj _) (fun A => con_store_Store_Commit_io A hv750) Try.call29 (.cons (.dir rfl) (.cons (.dir rfl) (.cons (.dir rfl) (.cons (.dir rfl) .nil)))) (fun A => (.box rfl .nil)) (fun A => (.box rfl .nil rfl)) (fun _ => rfl) rfl rfl (fun _ => rfl) rfl rfl) (J.k (JO.assign rfl) (J.fin (Sw.Sub.mk id (.c rfl (.c rfl (.c rfl (.c rfl (.c rfl (.c rfl (.c rfl (.c rfl (.c rfl (.c rfl (.c rfl .nil))))))))))) (.box rfl (.c rfl (.c rfl (.c rfl .nil))) (.arr rfl (.box rfl (.c rfl (.c rfl .nil)) (.arr rfl .nil)))) rfl)))))))))) ?_
          refine W.seq ?_
          refine W.seq ?_
          obtain ⟨x752, hx, h⟩ := bind_e h
          refine W.reg (σ' := ⟨[(0, .v Q5 a0), (1, .v Q0 (ar .add .i64 (1 : Int) v5)), (2, .v Q0 v6), (3, .v Q5 a3), (9, .ptr 104 0), (11, .ref 243), (12, .v Q0 s472.1), (13, .v Q0 s472.2.1), (15, .ptr 320000 0), (16, .v (Enc.err ET) v750.1), (20, .ref 322000), (129, .v Enc.bool x752)], [(104, .box 80 [.v Q4 v715.1.1, .v Q2 v715.1.2.1, .v Q0 v715.1.2.2]), (243, .arr 29 eBlk s472.2.2.2.2.2), (320000, .box 134 [.v Q0 v750.2.1, .v Q1 v750.2.2]), (322000, .arr 29 eBlk x745)]⟩) ?_ ?_
          ·rcases Bool.eq_false_or_eq_true (Option.isSome v750.1) with hc753 | hc753
           ·replace hx := cond_t hc753 hx
            obtain rfl := Option.some.inj hx
            exact (J.mv rfl (J.k (JO.errNe Try.runUnderlying34 rfl) (J.mv rfl (J.m 125 hc753 (JO.move rfl) (J.m 125 hc753 (JO.mkErr Try.runUnderlying86 rfl) (J.m 125 hc753 (JO.errNe2 Try.runUnderlying34 Try.runUnderlying86 Try.typeInfo86 rfl rfl rfl) (J.k (JO.pT hc753 rfl rfl) (J.fin (Sw.Sub.mk id (.c rfl (.c rfl (.c rfl (.c rfl (.c rfl (.c rfl (.c rfl (.c rfl (.c rfl (.c rfl (.c rfl (.c rfl .nil)))))))))))) (.box rfl (.c rfl (.c rfl (.c rfl .nil))) (.arr rfl (.box rfl (.c rfl (.c rfl .nil)) (.arr rfl .nil)))) rfl)))))))))
           ·replace hx := cond_f hc753 hx
            obtain rfl := Option.some.inj hx
            exact (J.mv rfl (J.k (JO.errNe Try.runUnderlying34 rfl) (J.mv rfl (J.u 125 hc753 (J.u 125 hc753 (J.u 125 hc753 (J.k (JO.pF hc753 rfl rfl) (J.fin (Sw.Sub.mk id (.c rfl (.c rfl (.c rfl (.c rfl (.c rfl (.c rfl (.c rfl (.c rfl (.c rfl (.c rfl (.c rfl (.c rfl .nil)))))))))))) (.box rfl (.c rfl (.c rfl (.c rfl .nil))) (.arr rfl (.box rfl (.c rfl (.c rfl .nil)) (.arr rfl .nil)))) rfl)))))))))
          rcases Bool.eq_false_or_eq_true x752 with hc754 | hc754
          ·replace h := cond_t hc754 h
           refine W.condT rfl hc754 ?_
           refine W.seq ?_
           refine W.reg (σ' := ⟨[(8, .v Enc.bool false)], []⟩) (J.k (JO.assign rfl) (J.fin (Sw.Sub.mk id (.c rfl .nil) .nil rfl))) ?_
           refine W.ret ?_
           refine XQ.ret ?_
           obtain rfl := Option.some.inj h
           refine XQ.lret fun ho => ?_
           obtain rfl := hr703 _ ho
           exact XQ.sub (σ' := ⟨[(8, .v Enc.bool false)], []⟩) (Sw.Sub.mk id (.c rfl .nil) .nil rfl) (XQ.ret1 hF noR rfl (RV.tmp rfl) .nil rfl)
          ·replace h := cond_f hc754 h
           refine W.condF rfl hc754 ?_
           refine W.skip ?_
           refine W.seq ?_
           obtain ⟨v755, hv755, h⟩ := bind_e h
           obtain ⟨v756, hv756, h⟩ := bind_e h
           obtain ⟨v757, hv757, h⟩ := bind_e h
           obtain ⟨v759, hv759, h⟩ := bind_e h
           refine W.reg (σ' := ⟨[(0, .v Q5 a0), (1, .v Q0 (ar .add .i64 (1 : Int) v5)), (2, .v Q0 v6), (3, .v Q5 a3), (9, .ptr 104 0), (11, .ref 243), (12, .v Q0 s472.1), (13, .v Q0 s472.2.1), (16, .v (Enc.err ET) v750.1), (20, .ref 322000), (22, .ptr 327 0), (23, .v (Enc.err ET) v759.2)], [(104, .box 80 [.v Q4 v715.1.1, .v Q2 v715.1.2.1, .v Q0 v715.1.2.2]), (243, .arr 29 eBlk s472.2.2.2.2.2), (322000, .arr 29 eBlk x745), (327, .box 80 [.v Q4 v759.1.1, .v Q2 v759.1.2.1, .v Q0 v759.1.2.2])]⟩) (J.mv rfl (J.k (JO.callL 323000 (con_store_Store_Disk hv755) Try.call30 (.cons (.lendP rfl rfl (.prm (.one _ _) (.one _ _))) .nil) rfl (FlatS.agg (.ref (.ref (.v .nil)))) (FlatN.arr (FlatN.arr FlatN.nil))) (J.mv rfl (J.mv rfl (J.mv rfl (J.k (JO.arith rfl rfl rfl) (J.mv rfl (J.k (JO.len rfl Try.runUnderlying22) (J.k (JO.arith rfl rfl rfl) (J.k (JO.call0 (con_ref_Pick hv756) Try.call8 (.cons (.dir rfl) (.cons (.dir rfl) .nil))) (J.k (JO.slLo hv757 rfl rfl Try.runUnderlying22 Try.sizeOf3) (J.sub (σ' := ⟨[(0, .v Q5 a0), (1, .v Q0 (ar .add .i64 (1 : Int) v5)), (2, .v Q0 v6), (3, .v Q5 a3), (9, .ptr 104 0), (11, .ref 243), (12, .v Q0 s472.1), (13, .v Q0 s472.2.1), (15, .ptr 320000 0), (16, .v (Enc.err ET) v750.1), (20, .ref 322000), (129, .v Enc.bool x752), (131, .ptr 320000 0), (132, .agg [.v Q4 v755.1, .v Q2 v755.2.1, .v Q0 v755.2.2]), (133, .v Q5 a0), (134, .v Q0 v6), (135, .v Q0 s472.2.1), (136, .v Q0 (ar .add .i64 v6 s472.2.1)), (137, .v Q5 a0), (138, .v Q0 (a0.length : Int)), (139, .v Q0 (ar .add .i64 (a0.length : Int) (1 : Int))), (140, .v Q0 v756), (141, .v Q5 v757)], [(104, .box 80 [.v Q4 v715.1.1, .v Q2 v715.1.2.1, .v Q0 v715.1.2.2]), (243, .arr 29 eBlk s472.2.2.2.2.2), (320000, .box 134 [.v Q0 v750.2.1, .v Q1 v750.2.2]), (322000, .arr 29 eBlk x745)]⟩) (Sw.Sub.mk id (.c rfl (.c rfl (.c rfl (.c rfl (.c rfl (.c rfl (.c rfl (.c rfl (.c rfl (.c rfl (.c rfl (.c rfl (.c rfl (.cons rfl (.agg (.cons (.frz rfl rfl) (.cons (.frz rfl rfl) (.c rfl .nil)))) (.c rfl (.c rfl (.c rfl (.c rfl (.c rfl (.c rfl (.c rfl (.c rfl (.c rfl .nil))))))))))))))))))))))) (.box rfl (.c rfl (.c rfl (.c rfl .nil))) (.arr rfl (.box rfl (.c rfl (.c rfl .nil)) (.arr rfl .nil)))) rfl) (J.k (JO.call0 (con_disk_Crash hv759) Try.call28 (.cons (.agg rfl (.same (.same (.same .nil))) (.prm (.one _ _) (.prm (.one _ _) (.one _ _))) rfl) (.cons (.dir rfl) .nil))) (J.mv rfl (J.k (JO.extract rfl rfl) (J.k (JO.extract rfl rfl) (J.k (JO.alloc 327 Try.zeroValue80 rfl (.cons (Z.sl eBlk) (.cons (Z.sl Q6) (.cons (Z.int .i64) .nil))) rfl) (J.t (JM.storeAll rfl rfl rfl rfl (.prm (.one _ _) (.prm (.one _ _) (.one _ _))) Try.sizeOf80) (J.k (JO.assign rfl) (J.fin (Sw.Sub.mk id (.c rfl (.c rfl (.c rfl (.c rfl (.c rfl (.c rfl (.c rfl (.c rfl (.c rfl (.c rfl (.c rfl (.c rfl .nil)))))))))))) (.box rfl (.c rfl (.c rfl (.c rfl .nil))) (.arr rfl (.arr rfl (.box rfl (.c rfl (.c rfl (.c rfl .nil))) .nil)))) rfl))))))))))))))))))))) ?_
           refine W.seq ?_
           refine W.seq ?_
           refine W.reg (σ' := ⟨[(0, .v Q5 a0), (1, .v Q0 (ar .add .i64 (1 : Int) v5)), (2, .v Q0 v6), (3, .v Q5 a3), (9, .ptr 104 0), (11, .ref 243), (12, .v Q0 s472.1), (13, .v Q0 s472.2.1), (16, .v (Enc.err ET) v750.1), (20, .ref 322000), (22, .ptr 327 0), (146, .v Enc.bool (Option.isSome v759.2))], [(104, .box 80 [.v Q4 v715.1.1, .v Q2 v715.1.2.1, .v Q0 v715.1.2.2]), (243, .arr 29 eBlk s472.2.2.2.2.2), (322000, .arr 29 eBlk x745), (327, .box 80 [.v Q4 v759.1.1, .v Q2 v759.1.2.1, .v Q0 v759.1.2.2])]⟩) (J.mv rfl (J.k (JO.errNe Try.runUnderlying34 rfl) (J.fin (Sw.Sub.mk id (.c rfl (.c rfl (.c rfl (.c rfl (.c rfl (.c rfl (.c rfl (.c rfl (.c rfl (.c rfl (.c rfl (.c rfl .nil)))))))))))) (.box rfl (.c rfl (.c rfl (.c rfl .nil))) (.arr rfl (.arr rfl (.box rfl (.c rfl (.c rfl (.c rfl .nil))) .nil)))) rfl)))) ?_
           rcases Bool.eq_false_or_eq_true (Option.isSome v759.2) with hc760 | hc760
           ·replace h := cond_t hc760 h
            refine W.condT rfl hc760 ?_
            refine W.seq ?_
            refine W.reg (σ' := ⟨[(8, .v Enc.bool false)], []⟩) (J.k (JO.assign rfl) (J.fin (Sw.Sub.mk id (.c rfl .nil) .nil rfl))) ?_
            refine W.ret ?_
            refine XQ.ret ?_
            obtain rfl := Option.some.inj h
            refine XQ.lret fun ho => ?_
            obtain rfl := hr703 _ ho
            exact XQ.sub (σ' := ⟨[(8, .v Enc.bool false)], []⟩) (Sw.Sub.mk id (.c rfl .nil) .nil rfl) (XQ.ret1 hF noR rfl (RV.tmp rfl) .nil rfl)
           ·replace h := cond_f hc760 h
            refine W.condF rfl hc760 ?_
            refine W.skip ?_
            refine W.seq ?_
            refine W.reg (σ' := ⟨[(0, .v Q5 a0), (1, .v Q0 (ar .add .i64 (1 : Int) v5)), (2, .v Q0 v6), (3, .v Q5 a3), (9, .ptr 104 0), (11, .ref 243), (12, .v Q0 s472.1), (13, .v Q0 s472.2.1), (16, .v (Enc.err ET) v750.1), (20, .ref 322000)], [(104, .box 80 [.v Q4 v759.1.1, .v Q2 v759.1.2.1, .v Q0 v759.1.2.2]), (243, .arr 29 eBlk s472.2.2.2.2.2), (322000, .arr 29 eBlk x745)]⟩) (J.k (JO.loadAll rfl rfl (.prm (.one _ _) (.prm (.one _ _) (.one _ _))) Try.isAgg80 Try.sizeOf80) (J.t (JM.storeAll rfl rfl rfl rfl (.prm (.one _ _) (.prm (.one _ _) (.one _ _))) Try.sizeOf80) (J.fin (Sw.Sub.mk id (.c rfl (.c rfl (.c rfl (.c rfl (.c rfl (.c rfl (.c rfl (.c rfl (.c rfl (.c rfl .nil)))))))))) (.box rfl (.c rfl (.c rfl (.c rfl .nil))) (.arr rfl (.arr rfl .nil))) rfl)))) ?_
            refine W.seq ?_
            obtain ⟨v761, hv761, h⟩ := bind_e h
            rcases hz762 : v761.1 with _ | z762
            ·replace h := ocase_n hz762 h
             refine W.reg (σ' := ⟨[(0, .v Q5 a0), (1, .v Q0 (ar .add .i64 (1 : Int) v5)), (2, .v Q0 v6), (3, .v Q5 a3), (9, .ptr 104 0), (11, .ref 243), (12, .v Q0 s472.1), (13, .v Q0 s472.2.1), (16, .v (Enc.err ET) v750.1), (20, .ref 322000), (23, .v (Enc.err ET) v761.2), (24, .v (Enc.ptN (Enc.pr Q0 Q1)) (none : (Option (Int × Q3))))], [(104, .box 80 [.v Q4 v759.1.1, .v Q2 v759.1.2.1, .v Q0 v759.1.2.2]), (243, .arr 29 eBlk s472.2.2.2.2.2), (322000, .arr 29 eBlk x745)]⟩) (J.k (JO.loadAll rfl rfl (.prm (.one _ _) (.prm (.one _ _) (.one _ _))) Try.isAgg80 Try.sizeOf80) (J.mv rfl (J.k (JO.call0 (con_store_Open_n hz762 hv761) Try.call27 (.cons (.dir rfl) (.cons (.dir rfl) .nil))) (J.mv rfl (J.k (JO.extract rfl rfl) (J.k (JO.extract rfl rfl) (J.k (JO.assign rfl) (J.k (JO.assign rfl) (J.fin (Sw.Sub.mk id (.c rfl (.c rfl (.c rfl (.c rfl (.c rfl (.c rfl (.c rfl (.c rfl (.c rfl (.c rfl (.c rfl (.c rfl .nil)))))))))))) (.box rfl (.c rfl (.c rfl (.c rfl .nil))) (.arr rfl (.arr rfl .nil))) rfl)))))))))) ?_
             refine W.seq ?_
             refine W.seq ?_
             obtain ⟨x764, hx, h⟩ := bind_e h
             refine W.reg (σ' := ⟨[(0, .v Q5 a0), (1, .v Q0 (ar .add .i64 (1 : Int) v5)), (2, .v Q0 v6), (3, .v Q5 a3), (9, .ptr 104 0), (11, .ref 243), (12, .v Q0 s472.1), (13, .v Q0 s472.2.1), (16, .v (Enc.err ET) v750.1), (20, .ref 322000), (24, .v (Enc.ptN (Enc.pr Q0 Q1)) (none : (Option (Int × Q3)))), (159, .v Enc.bool true)], [(104, .box 80 [.v Q4 v759.1.1, .v Q2 v759.1.2.1, .v Q0 v759.1.2.2]), (243, .arr 29 eBlk s472.2.2.2.2.2), (322000, .arr 29 eBlk x745)]⟩) ?_ ?_
             ·rcases Bool.eq_false_or_eq_true (Option.isSome v761.2) with hc765 | hc765
              ·replace hx := cond_t hc765 hx
               obtain rfl := Option.some.inj hx
               exact (J.mv rfl (J.k (JO.errNe Try.runUnderlying34 rfl) (J.mv rfl (J.u 156 hc765 (J.u 156 hc765 (J.k (JO.pT hc765 rfl rfl) (J.fin (Sw.Sub.mk id (.c rfl (.c rfl (.c rfl (.c rfl (.c rfl (.c rfl (.c rfl (.c rfl (.c rfl (.c rfl (.c rfl (.c rfl .nil)))))))))))) (.box rfl (.c rfl (.c rfl (.c rfl .nil))) (.arr rfl (.arr rfl .nil))) rfl))))))))
              ·replace hx := cond_f hc765 hx
               obtain rfl := Option.some.inj hx
               exact (J.mv rfl (J.k (JO.errNe Try.runUnderlying34 rfl) (J.mv rfl (J.m 156 hc765 (JO.move rfl) (J.m 156 hc765 (JO.ptEq rfl Try.runUnderlying83) (J.k (JO.pF hc765 rfl rfl) (J.fin (Sw.Sub.mk id (.c rfl (.c rfl (.c rfl (.c rfl (.c rfl (.c rfl (.c rfl (.c rfl (.c rfl (.c rfl (.c rfl (.c rfl .nil)))))))))))) (.box rfl (.c rfl (.c rfl (.c rfl .nil))) (.arr rfl (.arr rfl .nil))) rfl))))))))
             refine W.condT rfl rfl ?_
             refine W.seq ?_
             refine W.reg (σ' := ⟨[(8, .v Enc.bool false)], []⟩) (J.k (JO.assign rfl) (J.fin (Sw.Sub.mk id (.c rfl .nil) .nil rfl))) ?_
             refine W.ret ?_
             refine XQ.ret ?_
             obtain rfl := Option.some.inj h
             refine XQ.lret fun ho => ?_
             obtain rfl := hr703 _ ho
             exact XQ.sub (σ' := ⟨[(8, .v Enc.bool false)], []⟩) (Sw.Sub.mk id (.c rfl .nil) .nil rfl) (XQ.ret1 hF noR rfl (RV.tmp rfl) .nil rfl)
            ·replace h := ocase_s hz762 h
             refine W.reg (σ' := ⟨[(0, .v Q5 a0), (1, .v Q0 (ar .add .i64 (1 : Int) v5)), (2, .v Q0 v6), (3, .v Q5 a3), (9, .ptr 104 0), (11, .ref 243), (12, .v Q0 s472.1), (13, .v Q0 s472.2.1), (16, .v (Enc.err ET) v750.1), (20, .ref 322000), (23, .v (Enc.err ET) v761.2), (24, .ptr 329000 0)], [(104, .box 80 [.v Q4 v759.1.1, .v Q2 v759.1.2.1, .v Q0 v759.1.2.2]), (243, .arr 29 eBlk s472.2.2.2.2.2), (322000, .arr 29 eBlk x745), (329000, .box 134 [.v Q0 z762.1, .v Q1 z762.2])]⟩) (J.k (JO.loadAll rfl rfl (.prm (.one _ _) (.prm (.one _ _) (.one _ _))) Try.isAgg80 Try.sizeOf80) (J.mv rfl (J.k (JO.call 329000 (con_store_Open_s hz762 hv761) Try.call27 (.cons (.dir rfl) (.cons (.dir rfl) .nil)) rfl) (J.mv rfl (J.k (JO.extract rfl rfl) (J.k (JO.extract rfl rfl) (J.k (JO.assign rfl) (J.k (JO.assign rfl) (J.fin (Sw.Sub.mk id (.c rfl (.c rfl (.c rfl (.c rfl (.c rfl (.c rfl (.c rfl (.c rfl (.c rfl (.c rfl (.c rfl (.c rfl .nil)))))))))))) (.box rfl (.c rfl (.c rfl (.c rfl .nil))) (.arr rfl (.arr rfl (.box rfl (.c rfl (.c rfl .nil)) .nil)))) rfl)))))))))) ?_
             refine W.seq ?_
             refine W.seq ?_
             obtain ⟨x768, hx, h⟩ := bind_e h
             refine W.reg (σ' := ⟨[(0, .v Q5 a0), (1, .v Q0 (ar .add .i64 (1 : Int) v5)), (2, .v Q0 v6), (3, .v Q5 a3), (9, .ptr 104 0), (11, .ref 243), (12, .v Q0 s472.1), (13, .v Q0 s472.2.1), (16, .v (Enc.err ET) v750.1), (20, .ref 322000), (24, .ptr 329000 0), (159, .v Enc.bool x768)], [(104, .box 80 [.v Q4 v759.1.1, .v Q2 v759.1.2.1, .v Q0 v759.1.2.2]), (243, .arr 29 eBlk s472.2.2.2.2.2), (322000, .arr 29 eBlk x745), (329000, .box 134 [.v Q0 z762.1, .v Q1 z762.2])]⟩) ?_ ?_
             ·rcases Bool.eq_false_or_eq_true (Option.isSome v761.2) with hc769 | hc769
              ·replace hx := cond_t hc769 hx
               obtain rfl := Option.some.inj hx
               exact (J.mv rfl (J.k (JO.errNe Try.runUnderlying34 rfl) (J.mv rfl (J.u 156 hc769 (J.u 156 hc769 (J.k (JO.pT hc769 rfl rfl) (J.fin (Sw.Sub.mk id (.c rfl (.c rfl (.c rfl (.c rfl (.c rfl (.c rfl (.c rfl (.c rfl (.c rfl (.c rfl (.c rfl (.c rfl .nil)))))))))))) (.box rfl (.c rfl (.c rfl (.c rfl .nil))) (.arr rfl (.arr rfl (.box rfl (.c rfl (.c rfl .nil)) .nil)))) rfl))))))))
              ·replace hx := cond_f hc769 hx
               obtain rfl := Option.some.inj hx
               exact (J.mv rfl (J.k (JO.errNe Try.runUnderlying34 rfl) (J.mv rfl (J.m 156 hc769 (JO.move rfl) (J.m 156 hc769 (JO.ptrEqN rfl Try.runUnderlying83) (J.k (JO.pF hc769 rfl rfl) (J.fin (Sw.Sub.mk id (.c rfl (.c rfl (.c rfl (.c rfl (.c rfl (.c rfl (.c rfl (.c rfl (.c rfl (.c rfl (.c rfl (.c rfl .nil)))))))))))) (.box rfl (.c rfl (.c rfl (.c rfl .nil))) (.arr rfl (.arr rfl (.box rfl (.c rfl (.c rfl .nil)) .nil)))) rfl))))))))
             rcases Bool.eq_false_or_eq_true x768 with hc770 | hc770
             ·replace h := cond_t hc770 h
              refine W.condT rfl hc770 ?_
              refine W.seq ?_
              refine W.reg (σ' := ⟨[(8, .v Enc.bool false)], []⟩) (J.k (JO.assign rfl) (J.fin (Sw.Sub.mk id (.c rfl .nil) .nil rfl))) ?_
              refine W.ret ?_
              refine XQ.ret ?_
              obtain rfl := Option.some.inj h
              refine XQ.lret fun ho => ?_
              obtain rfl := hr703 _ ho
              exact XQ.sub (σ' := ⟨[(8, .v Enc.bool false)], []⟩) (Sw.Sub.mk id (.c rfl .nil) .nil rfl) (XQ.ret1 hF noR rfl (RV.tmp rfl) .nil rfl)
             ·replace h := cond_f hc770 h
              refine W.condF rfl hc770 ?_
              refine W.skip ?_
              refine W.seq ?_
              refine W.seq ?_
              obtain ⟨v771, hv771, h⟩ := bind_e h
              refine W.reg (σ' := ⟨[(0, .v Q5 a0), (1, .v Q0 (ar .add .i64 (1 : Int) v5)), (2, .v Q0 v6), (3, .v Q5 a3), (9, .ptr 104 0), (11, .ref 243), (12, .v Q0 s472.1), (13, .v Q0 s472.2.1), (16, .v (Enc.err ET) v750.1), (20, .ref 322000), (24, .ptr 329000 0), (164, .v Enc.bool v771)], [(104, .box 80 [.v Q4 v759.1.1, .v Q2 v759.1.2.1, .v Q0 v759.1.2.2]), (243, .arr 29 eBlk s472.2.2.2.2.2), (322000, .arr 29 eBlk x745), (329000, .box 134 [.v Q0 z762.1, .v Q1 z762.2])]⟩) (J.mv rfl (J.mv rfl (J.mv rfl (J.k (JO.arith rfl rfl rfl) (J.k (JO.callL0 (con_top_as hv771) Try.call31 (.cons (.lendP rfl rfl (.prm (.one _ _) (.one _ _))) (.cons (.ref rfl rfl) (.cons (.dir rfl) .nil))) FlatS.v) (J.fin (Sw.Sub.mk id (.c rfl (.c rfl (.c rfl (.c rfl (.c rfl (.c rfl (.c rfl (.c rfl (.c rfl (.c rfl (.c rfl (.c rfl .nil)))))))))))) (.box rfl (.c rfl (.c rfl (.c rfl .nil))) (.arr rfl (.arr rfl (.box rfl (.c rfl (.c rfl .nil)) .nil)))) rfl))))))) ?_
              obtain ⟨k779, hk779, h⟩ := jp_elim h
              refine W.jn (fun x780 : Int × (List Blk) => ⟨[(0, .v Q5 a0), (1, .v Q0 (ar .add .i64 (1 : Int) v5)), (2, .v Q0 v6), (3, .v Q5 a3), (9, .ptr 104 0), (11, .ref 333), (12, .v Q0 x780.1), (13, .v Q0 s472.2.1), (24, .ptr 329000 0)], [(104, .box 80 [.v Q4 v759.1.1, .v Q2 v759.1.2.1, .v Q0 v759.1.2.2]), (333, .arr 29 eBlk x780.2), (329000, .box 134 [.v Q0 z762.1, .v Q1 z762.2])]⟩) (fun x => k779 x = some r703) rfl ?_ ?_ ?_
              ·intro x780 h
               rw [hk779] at h
               obtain ⟨v787, hv787, h⟩ := bind_e h
               refine W.reg (σ' := ⟨[(0, .v Q5 a0), (1, .v Q0 (ar .add .i64 (1 : Int) v5)), (2, .v Q0 v6), (3, .v Q5 a3), (9, .ptr 104 0), (11, .ref 333), (12, .v Q0 x780.1), (13, .v Q0 s472.2.1)], [(104, .box 80 [.ref 336000, .ref 336001, .v Q0 v787.2.2]), (333, .arr 29 eBlk x780.2), (336000, .arr 29 eBlk v787.1), (336001, .arr 41 Q6 v787.2.1)]⟩) (J.mv rfl (J.k (JO.callL 336000 (con_store_Store_Disk hv787) Try.call30 (.cons (.lendP rfl rfl (.prm (.one _ _) (.one _ _))) .nil) rfl (FlatS.agg (.ref (.ref (.v .nil)))) (FlatN.arr (FlatN.arr FlatN.nil))) (J.t (JM.storeAgg rfl rfl rfl rfl rfl rfl Try.sizeOf80) (J.fin (Sw.Sub.mk id (.c rfl (.c rfl (.c rfl (.c rfl (.c rfl (.c rfl (.c rfl (.c rfl .nil)))))))) (.box rfl (.c rfl (.c rfl (.c rfl .nil))) (.arr rfl (.arr rfl (.arr rfl .nil)))) rfl))))) ?_
               refine W.fall ?_
               refine W.reg (σ' := ⟨[(0, .v Q5 a0), (1, .v Q0 (ar .add .i64 (1 : Int) v5)), (2, .v Q0 v6), (3, .v Q5 a3), (9, .ptr 104 0), (11, .ref 333), (12, .v Q0 x780.1), (13, .v Q0 (ar .add .i64 s472.2.1 (1 : Int)))], [(104, .box 80 [.ref 336000, .ref 336001, .v Q0 v787.2.2]), (333, .arr 29 eBlk x780.2), (336000, .arr 29 eBlk v787.1), (336001, .arr 41 Q6 v787.2.1)]⟩) (J.mv rfl (J.k (JO.arith rfl rfl rfl) (J.k (JO.assign rfl) (J.fin (Sw.Sub.mk id (.c rfl (.c rfl (.c rfl (.c rfl (.c rfl (.c rfl (.c rfl (.c rfl .nil)))))))) (.box rfl (.c rfl (.c rfl (.c rfl .nil))) (.arr rfl (.arr rfl (.arr rfl .nil)))) rfl))))) ?_
               obtain rfl := Option.some.inj h
               exact W.next (Sw.Sub.mk (rn [(104, 104), (243, 333)]) (.c rfl (.c rfl (.c rfl (.c rfl (.c rfl (.c rfl (.c rfl (.c rfl .nil)))))))) (.box rfl (.cons (.frz rfl rfl) (.cons (.frz rfl rfl) (.c rfl .nil))) (.arr rfl .nil)) rfl)
              ·intro hc772
               replace h := cond_t hc772 h
               refine W.seq ?_
               refine W.reg (σ' := ⟨[(0, .v Q5 a0), (1, .v Q0 (ar .add .i64 (1 : Int) v5)), (2, .v Q0 v6), (3, .v Q5 a3), (9, .ptr 104 0), (11, .ref 322000), (13, .v Q0 s472.2.1), (24, .ptr 329000 0)], [(104, .box 80 [.v Q4 v759.1.1, .v Q2 v759.1.2.1, .v Q0 v759.1.2.2]), (322000, .arr 29 eBlk x745), (329000, .box 134 [.v Q0 z762.1, .v Q1 z762.2])]⟩) (J.mv rfl (J.k (JO.assign rfl) (J.fin (Sw.Sub.mk id (.c rfl (.c rfl (.c rfl (.c rfl (.c rfl (.c rfl (.c rfl (.c rfl .nil)))))))) (.box rfl (.c rfl (.c rfl (.c rfl .nil))) (.arr rfl (.box rfl (.c rfl (.c rfl .nil)) .nil))) rfl)))) ?_
               refine W.reg (σ' := ⟨[(0, .v Q5 a0), (1, .v Q0 (ar .add .i64 (1 : Int) v5)), (2, .v Q0 v6), (3, .v Q5 a3), (9, .ptr 104 0), (11, .ref 322000), (12, .v Q0 (ar .add .i64 s472.2.1 (1 : Int))), (13, .v Q0 s472.2.1), (24, .ptr 329000 0)], [(104, .box 80 [.v Q4 v759.1.1, .v Q2 v759.1.2.1, .v Q0 v759.1.2.2]), (322000, .arr 29 eBlk x745), (329000, .box 134 [.v Q0 z762.1, .v Q1 z762.2])]⟩) (J.mv rfl (J.k (JO.arith rfl rfl rfl) (J.k (JO.assign rfl) (J.fin (Sw.Sub.mk id (.c rfl (.c rfl (.c rfl (.c rfl (.c rfl (.c rfl (.c rfl (.c rfl (.c rfl .nil))))))))) (.box rfl (.c rfl (.c rfl (.c rfl .nil))) (.arr rfl (.box rfl (.c rfl (.c rfl .nil)) .nil))) rfl))))) ?_
               exact W.jfall h (Sw.Sub.mk (rn [(104, 104), (333, 322000), (329000, 329000)]) (.c rfl (.c rfl (.c rfl (.c rfl (.c rfl (.c rfl (.c rfl (.c rfl (.c rfl .nil))))))))) (.box rfl (.c rfl (.c rfl (.c rfl .nil))) (.arr rfl (.box rfl (.c rfl (.c rfl .nil)) .nil))) rfl)
              ·intro hc772
               replace h := cond_f hc772 h
               refine W.seq ?_
               obtain ⟨x783, hx, h⟩ := bind_e h
               refine W.reg (σ' := ⟨[(0, .v Q5 a0), (1, .v Q0 (ar .add .i64 (1 : Int) v5)), (2, .v Q0 v6), (3, .v Q5 a3), (9, .ptr 104 0), (11, .ref 243), (12, .v Q0 s472.1), (13, .v Q0 s472.2.1), (24, .ptr 329000 0), (176, .v Enc.bool x783)], [(104, .box 80 [.v Q4 v759.1.1, .v Q2 v759.1.2.1, .v Q0 v759.1.2.2]), (243, .arr 29 eBlk s472.2.2.2.2.2), (329000, .box 134 [.v Q0 z762.1, .v Q1 z762.2])]⟩) ?_ ?_
               ·rcases Bool.eq_false_or_eq_true (Option.isNone v750.1) with hc784 | hc784
                ·replace hx := cond_t hc784 hx
                 obtain rfl := Option.some.inj hx
                 exact (J.mv rfl (J.k (JO.errEq Try.runUnderlying34 rfl) (J.mv rfl (J.u 170 hc784 (J.u 170 hc784 (J.u 170 hc784 (J.u 170 hc784 (J.u 170 hc784 (J.k (JO.pT hc784 rfl rfl) (J.fin (Sw.Sub.mk id (.c rfl (.c rfl (.c rfl (.c rfl (.c rfl (.c rfl (.c rfl (.c rfl (.c rfl (.c rfl .nil)))))))))) (.box rfl (.c rfl (.c rfl (.c rfl .nil))) (.arr rfl (.box rfl (.c rfl (.c rfl .nil)) .nil))) rfl)))))))))))
                ·replace hx := cond_f hc784 hx
                 obtain ⟨v785, hv785, hx⟩ := bind_e hx
                 obtain rfl := Option.some.inj hx
                 exact (J.mv rfl (J.k (JO.errEq Try.runUnderlying34 rfl) (J.mv rfl (J.m 170 hc784 (JO.move rfl) (J.m 170 hc784 (JO.move rfl) (J.m 170 hc784 (JO.move rfl) (J.m 170 hc784 (JO.callL0 (con_top_as hv785) Try.call31 (.cons (.lendP rfl rfl (.prm (.one _ _) (.one _ _))) (.cons (.ref rfl rfl) (.cons (.dir rfl) .nil))) FlatS.v) (J.m 170 hc784 (JO.not rfl) (J.k (JO.pF hc784 rfl rfl) (J.fin (Sw.Sub.mk id (.c rfl (.c rfl (.c rfl (.c rfl (.c rfl (.c rfl (.c rfl (.c rfl (.c rfl (.c rfl .nil)))))))))) (.box rfl (.c rfl (.c rfl (.c rfl .nil))) (.arr rfl (.box rfl (.c rfl (.c rfl .nil)) .nil))) rfl)))))))))))
               rcases Bool.eq_false_or_eq_true x783 with hc786 | hc786
               ·replace h := cond_t hc786 h
                refine W.condT rfl hc786 ?_
                refine W.seq ?_
                refine W.reg (σ' := ⟨[(8, .v Enc.bool false)], []⟩) (J.k (JO.assign rfl) (J.fin (Sw.Sub.mk id (.c rfl .nil) .nil rfl))) ?_
                refine W.ret ?_
                refine XQ.jret ?_
                refine XQ.ret ?_
                obtain rfl := Option.some.inj h
                refine XQ.lret fun ho => ?_
                obtain rfl := hr703 _ ho
                exact XQ.sub (σ' := ⟨[(8, .v Enc.bool false)], []⟩) (Sw.Sub.mk id (.c rfl .nil) .nil rfl) (XQ.ret1 hF noR rfl (RV.tmp rfl) .nil rfl)
               ·replace h := cond_f hc786 h
                refine W.condF rfl hc786 ?_
                refine W.skip ?_
                exact W.jfall h (Sw.Sub.mk (rn [(104, 104), (333, 243), (329000, 329000)]) (.c rfl (.c rfl (.c rfl (.c rfl (.c rfl (.c rfl (.c rfl (.c rfl (.c rfl .nil))))))))) (.box rfl (.c rfl (.c rfl (.c rfl .nil))) (.arr rfl (.box rfl (.c rfl (.c rfl .nil)) .nil))) rfl)
         intro s739 r744 h
         refine W.seq ?_
         refine W.seq ?_
         refine W.reg (σ' := ⟨[(0, .v Q5 a0), (1, .v Q0 (ar .add .i64 (1 : Int) v5)), (2, .v Q0 v6), (3, .v Q5 a3), (9, .ptr 104 0), (11, .ref 243), (12, .v Q0 s472.1), (13, .v Q0 s472.2.1), (15, .ptr 320000 0), (19, .v Q2 v727), (20, .ref 322000), (21, .v Q0 s739.1), (101, .v Enc.bool (cm .lss s739.1 (v727.length : Int)))], [(104, .box 80 [.v Q4 v715.1.1, .v Q2 v715.1.2.1, .v Q0 v715.1.2.2]), (243, .arr 29 eBlk s472.2.2.2.2.2), (320000, .box 134 [.v Q0 z718.1, .v Q1 z718.2]), (322000, .arr 29 eBlk s739.2)]⟩) (J.mv rfl (J.mv rfl (J.k (JO.len rfl Try.runUnderlying26) (J.k (JO.cmp rfl rfl rfl) (J.fin (Sw.Sub.mk id (.c rfl (.c rfl (.c rfl (.c rfl (.c rfl (.c rfl (.c rfl (.c rfl (.c rfl (.c rfl (.c rfl (.c rfl (.c rfl .nil))))))))))))) (.box rfl (.c rfl (.c rfl (.c rfl .nil))) (.arr rfl (.box rfl (.c rfl (.c rfl .nil)) (.arr rfl .nil)))) rfl)))))) ?_
         rcases Bool.eq_false_or_eq_true (cm .lss s739.1 (v727.length : Int)) with hc746 | hc746
         ·replace h := cond_t hc746 h
          refine W.condT rfl hc746 ?_
          refine W.skip ?_
          refine W.seq ?_
          refine W.block ?_
          obtain ⟨z747, hz747, h⟩ := bind_e h
          obtain ⟨z748, hz748, h⟩ := bind_e h
          obtain ⟨z749, hz749, h⟩ := bind_e h
          refine W.dr2 (σ' := ⟨[(0, .v Q5 a0), (1, .v Q0 (ar .add .i64 (1 : Int) v5)), (2, .v Q0 v6), (3, .v Q5 a3), (9, .ptr 104 0), (11, .ref 243), (12, .v Q0 s472.1), (13, .v Q0 s472.2.1), (15, .ptr 320000 0), (19, .v Q2 v727), (20, .ref 322000), (21, .v Q0 s739.1)], [(104, .box 80 [.v Q4 v715.1.1, .v Q2 v715.1.2.1, .v Q0 v715.1.2.2]), (243, .arr 29 eBlk s472.2.2.2.2.2), (320000, .box 134 [.v Q0 z718.1, .v Q1 z718.2]), (322000, .arr 29 eBlk (List.set s739.2 (Int.toNat z747.1) z748.2))]⟩) 12 [0, 0, 0, 6, 14, 30, 0, 0, 192, 448, 960, 2047, 4095] mixed (by exact (.cons (.none rfl) (JO.move rfl) rfl rfl (.cons (.none rfl) (JO.move rfl) rfl rfl (.cons (.none rfl) (JO.move rfl) rfl rfl (.cons (.none rfl) (JO.idx hz747 rfl rfl Try.runUnderlying26 Try.sizeOf41) rfl rfl (.cons (.none rfl) (JO.fieldPst rfl Try.runUnderlying41 rfl Try.sizeOf3 rfl (.fst .here) rfl) rfl rfl (.cons (.none rfl) (JO.loadPst rfl Try.isAgg3 Try.sizeOf3) rfl rfl (.cons (.none rfl) (JO.move rfl) rfl rfl (.cons (.none rfl) (JO.move rfl) rfl rfl (.cons (.none rfl) (JO.idx hz748 rfl rfl Try.runUnderlying26 Try.sizeOf41) rfl rfl (.cons (.none rfl) (JO.fieldPst rfl Try.runUnderlying41 rfl Try.sizeOf29 rfl (.snd .here) rfl) rfl rfl (.cons (.none rfl) (JO.loadPst rfl Try.isAgg29 Try.sizeOf29) rfl rfl (.cons (.none rfl) (JO.idxR hz749 rfl rfl rfl Try.runUnderlying24 Try.sizeOf29) rfl rfl .nil))))))))))))) (by exact (J.t (JM.storeEl (idx_some hz749).2.2 rfl rfl rfl Try.sizeOf29) (J.fin (Sw.Sub.mk id (.c rfl (.c rfl (.c rfl (.c rfl (.c rfl (.c rfl (.c rfl (.c rfl (.c rfl (.c rfl (.c rfl (.c rfl .nil)))))))))))) (.box rfl (.c rfl (.c rfl (.c rfl .nil))) (.arr rfl (.box rfl (.c rfl (.c rfl .nil)) (.arr rfl .nil)))) rfl)))) rfl (by decide +kernel) (by decide +kernel) (by decide +kernel) (by kernel_rfl) ?_
          refine W.fall ?_
          refine W.reg (σ' := ⟨[(0, .v Q5 a0), (1, .v Q0 (ar .add .i64 (1 : Int) v5)), (2, .v Q0 v6), (3, .v Q5 a3), (9, .ptr 104 0), (11, .ref 243), (12, .v Q0 s472.1), (13, .v Q0 s472.2.1), (15, .ptr 320000 0), (19, .v Q2 v727), (20, .ref 322000), (21, .v Q0 (ar .add .i64 s739.1 (1 : Int)))], [(104, .box 80 [.v Q4 v715.1.1, .v Q2 v715.1.2.1, .v Q0 v715.1.2.2]), (243, .arr 29 eBlk s472.2.2.2.2.2), (320000, .box 134 [.v Q0 z718.1, .v Q1 z718.2]), (322000, .arr 29 eBlk (List.set s739.2 (Int.toNat z747.1) z748.2))]⟩) (J.mv rfl (J.k (JO.arith rfl rfl rfl) (J.k (JO.assign rfl) (J.fin (Sw.Sub.mk id (.c rfl (.c rfl (.c rfl (.c rfl (.c rfl (.c rfl (.c rfl (.c rfl (.c rfl (.c rfl (.c rfl (.c rfl .nil)))))))))))) (.box rfl (.c rfl (.c rfl (.c rfl .nil))) (.arr rfl (.box rfl (.c rfl (.c rfl .nil)) (.arr rfl .nil)))) rfl))))) ?_
          obtain rfl := Option.some.inj h
          exact W.next (Sw.Sub.mk id (.c rfl (.c rfl (.c rfl (.c rfl (.c rfl (.c rfl (.c rfl (.c rfl (.c rfl (.c rfl (.c rfl (.c rfl .nil)))))))))))) (.box rfl (.c rfl (.c rfl (.c rfl .nil))) (.arr rfl (.box rfl (.c rfl (.c rfl .nil)) (.arr rfl .nil)))) rfl)
         ·replace h := cond_f hc746 h
          refine W.condF rfl hc746 ?_
          refine W.exit ?_
          obtain rfl := Option.some.inj h
          exact XQ.brk (Sw.Sub.mk id (.c rfl (.c rfl (.c rfl (.c rfl (.c rfl (.c rfl (.c rfl (.c rfl (.c rfl (.c rfl (.c rfl .nil))))))))))) (.box rfl (.c rfl (.c rfl (.c rfl .nil))) (.arr rfl (.box rfl (.c rfl (.c rfl .nil)) (.arr rfl .nil)))) rfl)
     ·replace h := cond_f hc710 h
      refine W.condF rfl hc710 ?_
      refine W.skip ?_
      refine W.seq ?_
      refine W.seq ?_
      obtain ⟨x789, hx, h⟩ := bind_e h
      refine W.reg (σ' := ⟨[(0, .v Q5 a0), (1, .v Q0 (ar .add .i64 (1 : Int) v5)), (2, .v Q0 v6), (3, .v Q5 a3), (9, .ptr 104 0), (11, .ref 243), (12, .v Q0 s472.1), (13, .v Q0 s472.2.1), (15, .v (Enc.ptN (Enc.pr Q0 Q1)) (none : (Option (Int × Q3)))), (89, .v Enc.bool true)], [(104, .box 80 [.v Q4 s472.2.2.1, .v Q2 s472.2.2.2.1, .v Q0 v707]), (243, .arr 29 eBlk s472.2.2.2.2.2)]⟩) ?_ ?_
      ·rcases Bool.eq_false_or_eq_true (Option.isSome v708.2) with hc790 | hc790
       ·replace hx := cond_t hc790 hx
        obtain rfl := Option.some.inj hx
        exact (J.mv rfl (J.k (JO.errNe Try.runUnderlying34 rfl) (J.mv rfl (J.u 86 hc790 (J.u 86 hc790 (J.k (JO.pT hc790 rfl rfl) (J.fin (Sw.Sub.mk id (.c rfl (.c rfl (.c rfl (.c rfl (.c rfl (.c rfl (.c rfl (.c rfl (.c rfl (.c rfl .nil)))))))))) (.box rfl (.c rfl (.c rfl (.c rfl .nil))) (.arr rfl .nil)) rfl))))))))
       ·replace hx := cond_f hc790 hx
        obtain rfl := Option.some.inj hx
        exact (J.mv rfl (J.k (JO.errNe Try.runUnderlying34 rfl) (J.mv rfl (J.m 86 hc790 (JO.move rfl) (J.m 86 hc790 (JO.ptEq rfl Try.runUnderlying83) (J.k (JO.pF hc790 rfl rfl) (J.fin (Sw.Sub.mk id (.c rfl (.c rfl (.c rfl (.c rfl (.c rfl (.c rfl (.c rfl (.c rfl (.c rfl (.c rfl .nil)))))))))) (.box rfl (.c rfl (.c rfl (.c rfl .nil))) (.arr rfl .nil)) rfl))))))))
      refine W.condT rfl rfl ?_
      refine W.seq ?_
      refine W.reg (σ' := ⟨[(8, .v Enc.bool false)], []⟩) (J.k (JO.assign rfl) (J.fin (Sw.Sub.mk id (.c rfl .nil) .nil rfl))) ?_
      refine W.ret ?_
      refine XQ.ret ?_
      obtain rfl := Option.some.inj h
      refine XQ.lret fun ho => ?_
      obtain rfl := hr703 _ ho
      exact XQ.sub (σ' := ⟨[(8, .v Enc.bool false)], []⟩) (Sw.Sub.mk id (.c rfl .nil) .nil rfl) (XQ.ret1 hF noR rfl (RV.tmp rfl) .nil rfl)
    ·replace h := ocase_s hz709 h
     refine W.reg (σ' := ⟨[(0, .v Q5 a0), (1, .v Q0 (ar .add .i64 (1 : Int) v5)), (2, .v Q0 v6), (3, .v Q5 a3), (9, .ptr 104 0), (11, .ref 243), (12, .v Q0 s472.1), (13, .v Q0 s472.2.1), (15, .ptr 337000 0), (16, .v (Enc.err ET) v708.2)], [(104, .box 80 [.v Q4 s472.2.2.1, .v Q2 s472.2.2.2.1, .v Q0 v707]), (243, .arr 29 eBlk s472.2.2.2.2.2), (337000, .box 134 [.v Q0 z709.1, .v Q1 z709.2])]⟩) (J.k (JO.loadAll rfl rfl (.prm (.one _ _) (.prm (.one _ _) (.one _ _))) Try.isAgg80 Try.sizeOf80) (J.mv rfl (J.k (JO.call 337000 (con_store_Open_s hz709 hv708) Try.call27 (.cons (.dir rfl) (.cons (.dir rfl) .nil)) rfl) (J.mv rfl (J.k (JO.extract rfl rfl) (J.k (JO.extract rfl rfl) (J.k (JO.assign rfl) (J.k (JO.assign rfl) (J.fin (Sw.Sub.mk id (.c rfl (.c rfl (.c rfl (.c rfl (.c rfl (.c rfl (.c rfl (.c rfl (.c rfl (.c rfl .nil)))))))))) (.box rfl (.c rfl (.c rfl (.c rfl .nil))) (.arr rfl (.box rfl (.c rfl (.c rfl .nil)) .nil))) rfl)))))))))) ?_
     refine W.seq ?_
     refine W.seq ?_
     refine W.reg (σ' := ⟨[(0, .v Q5 a0), (1, .v Q0 (ar .add .i64 (1 : Int) v5)), (2, .v Q0 v6), (3, .v Q5 a3), (9, .ptr 104 0), (11, .ref 243), (12, .v Q0 s472.1), (13, .v Q0 s472.2.1), (15, .ptr 337000 0), (16, .v (Enc.err ET) v708.2), (68, .v Enc.bool (v708.2 == (some (4 : Int))))], [(104, .box 80 [.v Q4 s472.2.2.1, .v Q2 s472.2.2.2.1, .v Q0 v707]), (243, .arr 29 eBlk s472.2.2.2.2.2), (337000, .box 134 [.v Q0 z709.1, .v Q1 z709.2])]⟩) (J.mv rfl (J.k (JO.mkErr Try.runUnderlying86 rfl) (J.k (JO.errEq2 Try.runUnderlying34 Try.runUnderlying86 Try.typeInfo86 rfl rfl rfl) (J.fin (Sw.Sub.mk id (.c rfl (.c rfl (.c rfl (.c rfl (.c rfl (.c rfl (.c rfl (.c rfl (.c rfl (.c rfl (.c rfl .nil))))))))))) (.box rfl (.c rfl (.c rfl (.c rfl .nil))) (.arr rfl (.box rfl (.c rfl (.c rfl .nil)) .nil))) rfl))))) ?_
     rcases Bool.eq_false_or_eq_true (v708.2 == (some (4 : Int))) with hc792 | hc792
     ·replace h := cond_t hc792 h
      refine W.condT rfl hc792 ?_
      refine W.seq ?_
      obtain ⟨v797, hv797, h⟩ := bind_e h
      refine W.reg (σ' := ⟨[(0, .v Q5 a0), (1, .v Q0 (ar .add .i64 (1 : Int) v5)), (2, .v Q0 v6), (3, .v Q5 a3), (9, .ptr 104 0), (11, .ref 243), (12, .v Q0 s472.1), (13, .v Q0 s472.2.1), (17, .ptr 343 0), (18, .v (Enc.err ET) v797.2)], [(104, .box 80 [.v Q4 s472.2.2.1, .v Q2 s472.2.2.2.1, .v Q0 v707]), (243, .arr 29 eBlk s472.2.2.2.2.2), (343, .box 80 [.v Q4 v797.1.1, .v Q2 v797.1.2.1, .v Q0 v797.1.2.2])]⟩) (J.k (JO.loadAll rfl rfl (.prm (.one _ _) (.prm (.one _ _) (.one _ _))) Try.isAgg80 Try.sizeOf80) (J.mv rfl (J.k (JO.call0 (con_disk_Crash hv797) Try.call28 (.cons (.dir rfl) (.cons (.dir rfl) .nil))) (J.mv rfl (J.k (JO.extract rfl rfl) (J.k (JO.extract rfl rfl) (J.k (JO.alloc 343 Try.zeroValue80 rfl (.cons (Z.sl eBlk) (.cons (Z.sl Q6) (.cons (Z.int .i64) .nil))) rfl) (J.t (JM.storeAll rfl rfl rfl rfl (.prm (.one _ _) (.prm (.one _ _) (.one _ _))) Try.sizeOf80) (J.k (JO.assign rfl) (J.fin (Sw.Sub.mk id (.c rfl (.c rfl (.c rfl (.c rfl (.c rfl (.c rfl (.c rfl (.c rfl (.c rfl (.c rfl .nil)))))))))) (.box rfl (.c rfl (.c rfl (.c rfl .nil))) (.arr rfl (.box rfl (.c rfl (.c rfl (.c rfl .nil))) .nil))) rfl))))))))))) ?_
      refine W.seq ?_
      refine W.seq ?_
      refine W.reg (σ' := ⟨[(0, .v Q5 a0), (1, .v Q0 (ar .add .i64 (1 : Int) v5)), (2, .v Q0 v6), (3, .v Q5 a3), (9, .ptr 104 0), (11, .ref 243), (12, .v Q0 s472.1), (13, .v Q0 s472.2.1), (17, .ptr 343 0), (76, .v Enc.bool (Option.isSome v797.2))], [(104, .box 80 [.v Q4 s472.2.2.1, .v Q2 s472.2.2.2.1, .v Q0 v707]), (243, .arr 29 eBlk s472.2.2.2.2.2), (343, .box 80 [.v Q4 v797.1.1, .v Q2 v797.1.2.1, .v Q0 v797.1.2.2])]⟩) (J.mv rfl (J.k (JO.errNe Try.runUnderlying34 rfl) (J.fin (Sw.Sub.mk id (.c rfl (.c rfl (.c rfl (.c rfl (.c rfl (.c rfl (.c rfl (.c rfl (.c rfl (.c rfl .nil)))))))))) (.box rfl (.c rfl (.c rfl (.c rfl .nil))) (.arr rfl (.box rfl (.c rfl (.c rfl (.c rfl .nil))) .nil))) rfl)))) ?_
      rcases Bool.eq_false_or_eq_true (Option.isSome v797.2) with hc798 | hc798
      ·replace h := cond_t hc798 h
       refine W.condT rfl hc798 ?_
       refine W.seq ?_
       refine W.reg (σ' := ⟨[(8, .v Enc.bool false)], []⟩) (J.k (JO.assign rfl) (J.fin (Sw.Sub.mk id (.c rfl .nil) .nil rfl))) ?_
       refine W.ret ?_
       refine XQ.ret ?_
       obtain rfl := Option.some.inj h
       refine XQ.lret fun ho => ?_
       obtain rfl := hr703 _ ho
       exact XQ.sub (σ' := ⟨[(8, .v Enc.bool false)], []⟩) (Sw.Sub.mk id (.c rfl .nil) .nil rfl) (XQ.ret1 hF noR rfl (RV.tmp rfl) .nil rfl)
      ·replace h := cond_f hc798 h
       refine W.condF rfl hc798 ?_
       refine W.skip ?_
       refine W.seq ?_
       refine W.reg (σ' := ⟨[(0, .v Q5 a0), (1, .v Q0 (ar .add .i64 (1 : Int) v5)), (2, .v Q0 v6), (3, .v Q5 a3), (9, .ptr 104 0), (11, .ref 243), (12, .v Q0 s472.1), (13, .v Q0 s472.2.1)], [(104, .box 80 [.v Q4 v797.1.1, .v Q2 v797.1.2.1, .v Q0 v797.1.2.2]), (243, .arr 29 eBlk s472.2.2.2.2.2)]⟩) (J.k (JO.loadAll rfl rfl (.prm (.one _ _) (.prm (.one _ _) (.one _ _))) Try.isAgg80 Try.sizeOf80) (J.t (JM.storeAll rfl rfl rfl rfl (.prm (.one _ _) (.prm (.one _ _) (.one _ _))) Try.sizeOf80) (J.fin (Sw.Sub.mk id (.c rfl (.c rfl (.c rfl (.c rfl (.c rfl (.c rfl (.c rfl (.c rfl .nil)))))))) (.box rfl (.c rfl (.c rfl (.c rfl .nil))) (.arr rfl .nil)) rfl)))) ?_
       obtain ⟨v799, hv799, h⟩ := bind_e h
       rcases hz800 : v799.1 with _ | z800
       ·replace h := ocase_n hz800 h
        refine W.reg (σ' := ⟨[(0, .v Q5 a0), (1, .v Q0 (ar .add .i64 (1 : Int) v5)), (2, .v Q0 v6), (3, .v Q5 a3), (9, .ptr 104 0), (11, .ref 243), (12, .v Q0 s472.1), (13, .v Q0 s472.2.1), (15, .v (Enc.ptN (Enc.pr Q0 Q1)) (none : (Option (Int × Q3)))), (16, .v (Enc.err ET) v799.2)], [(104, .box 80 [.v Q4 v797.1.1, .v Q2 v797.1.2.1, .v Q0 v797.1.2.2]), (243, .arr 29 eBlk s472.2.2.2.2.2)]⟩) (J.k (JO.loadAll rfl rfl (.prm (.one _ _) (.prm (.one _ _) (.one _ _))) Try.isAgg80 Try.sizeOf80) (J.mv rfl (J.k (JO.call0 (con_store_Open_n hz800 hv799) Try.call27 (.cons (.dir rfl) (.cons (.dir rfl) .nil))) (J.mv rfl (J.k (JO.extract rfl rfl) (J.k (JO.extract rfl rfl) (J.k (JO.assign rfl) (J.k (JO.assign rfl) (J.fin (Sw.Sub.mk id (.c rfl (.c rfl (.c rfl (.c rfl (.c rfl (.c rfl (.c rfl (.c rfl (.c rfl (.c rfl .nil)))))))))) (.box rfl (.c rfl (.c rfl (.c rfl .nil))) (.arr rfl .nil)) rfl)))))))))) ?_
        refine W.seq ?_
        refine W.seq ?_
        obtain ⟨x802, hx, h⟩ := bind_e h
        refine W.reg (σ' := ⟨[(0, .v Q5 a0), (1, .v Q0 (ar .add .i64 (1 : Int) v5)), (2, .v Q0 v6), (3, .v Q5 a3), (9, .ptr 104 0), (11, .ref 243), (12, .v Q0 s472.1), (13, .v Q0 s472.2.1), (15, .v (Enc.ptN (Enc.pr Q0 Q1)) (none : (Option (Int × Q3)))), (89, .v Enc.bool true)], [(104, .box 80 [.v Q4 v797.1.1, .v Q2 v797.1.2.1, .v Q0 v797.1.2.2]), (243, .arr 29 eBlk s472.2.2.2.2.2)]⟩) ?_ ?_
        ·rcases Bool.eq_false_or_eq_true (Option.isSome v799.2) with hc803 | hc803
         ·replace hx := cond_t hc803 hx
          obtain rfl := Option.some.inj hx
          exact (J.mv rfl (J.k (JO.errNe Try.runUnderlying34 rfl) (J.mv rfl (J.u 86 hc803 (J.u 86 hc803 (J.k (JO.pT hc803 rfl rfl) (J.fin (Sw.Sub.mk id (.c rfl (.c rfl (.c rfl (.c rfl (.c rfl (.c rfl (.c rfl (.c rfl (.c rfl (.c rfl .nil)))))))))) (.box rfl (.c rfl (.c rfl (.c rfl .nil))) (.arr rfl .nil)) rfl))))))))
         ·replace hx := cond_f hc803 hx
          obtain rfl := Option.some.inj hx
          exact (J.mv rfl (J.k (JO.errNe Try.runUnderlying34 rfl) (J.mv rfl (J.m 86 hc803 (JO.move rfl) (J.m 86 hc803 (JO.ptEq rfl Try.runUnderlying83) (J.k (JO.pF hc803 rfl rfl) (J.fin (Sw.Sub.mk id (.c rfl (.c rfl (.c rfl (.c rfl (.c rfl (.c rfl (.c rfl (.c rfl (.c rfl (.c rfl .nil)))))))))) (.box rfl (.c rfl (.c rfl (.c rfl .nil))) (.arr rfl .nil)) rfl))))))))
        refine W.condT rfl rfl ?_
        refine W.seq ?_
        refine W.reg (σ' := ⟨[(8, .v Enc.bool false)], []⟩) (J.k (JO.assign rfl) (J.fin (Sw.Sub.mk id (.c rfl .nil) .nil rfl))) ?_
        refine W.ret ?_
        refine XQ.ret ?_
        obtain rfl := Option.some.inj h
        refine XQ.lret fun ho => ?_
        obtain rfl := hr703 _ ho
        exact XQ.sub (σ' := ⟨[(8, .v Enc.bool false)], []⟩) (Sw.Sub.mk id (.c rfl .nil) .nil rfl) (XQ.ret1 hF noR rfl (RV.tmp rfl) .nil rfl)
       ·replace h := ocase_s hz800 h
        refine W.reg (σ' := ⟨[(0, .v Q5 a0), (1, .v Q0 (ar .add .i64 (1 : Int) v5)), (2, .v Q0 v6), (3, .v Q5 a3), (9, .ptr 104 0), (11, .ref 243), (12, .v Q0 s472.1), (13, .v Q0 s472.2.1), (15, .ptr 345000 0), (16, .v (Enc.err ET) v799.2)], [(104, .box 80 [.v Q4 v797.1.1, .v Q2 v797.1.2.1, .v Q0 v797.1.2.2]), (243, .arr 29 eBlk s472.2.2.2.2.2), (345000, .box 134 [.v Q0 z800.1, .v Q1 z800.2])]⟩) (J.k (JO.loadAll rfl rfl (.prm (.one _ _) (.prm (.one _ _) (.one _ _))) Try.isAgg80 Try.sizeOf80) (J.mv rfl (J.k (JO.call 345000 (con_store_Open_s hz800 hv799) Try.call27 (.cons (.dir rfl) (.cons (.dir rfl) .nil)) rfl) (J.mv rfl (J.k (JO.extract rfl rfl) (J.k (JO.extract rfl rfl) (J.k (JO.assign rfl) (J.k (JO.assign rfl) (J.fin (Sw.Sub.mk id (.c rfl (.c rfl (.c rfl (.c rfl (.c rfl (.c rfl (.c rfl (.c rfl (.c rfl (.c rfl .nil)))))))))) (.box rfl (.c rfl (.c rfl (.c rfl .nil))) (.arr rfl (.box rfl (.c rfl (.c rfl .nil)) .nil))) rfl)))))))))) ?_
        refine W.seq ?_
        refine W.seq ?_
        obtain ⟨x806, hx, h⟩ := bind_e h
        refine W.reg (σ' := ⟨[(0, .v Q5 a0), (1, .v Q0 (ar .add .i64 (1 : Int) v5)), (2, .v Q0 v6), (3, .v Q5 a3), (9, .ptr 104 0), (11, .ref 243), (12, .v Q0 s472.1), (13, .v Q0 s472.2.1), (15, .ptr 345000 0), (89, .v Enc.bool x806)], [(104, .box 80 [.v Q4 v797.1.1, .v Q2 v797.1.2.1, .v Q0 v797.1.2.2]), (243, .arr 29 eBlk s472.2.2.2.2.2), (345000, .box 134 [.v Q0 z800.1, .v Q1 z800.2])]⟩) ?_ ?_
        ·rcases Bool.eq_false_or_eq_true (Option.isSome v799.2) with hc807 | hc807
         ·replace hx := cond_t hc807 hx
          obtain rfl := Option.some.inj hx
          exact (J.mv rfl (J.k (JO.errNe Try.runUnderlying34 rfl) (J.mv rfl (J.u 86 hc807 (J.u 86 hc807 (J.k (JO.pT hc807 rfl rfl) (J.fin (Sw.Sub.mk id (.c rfl (.c rfl (.c rfl (.c rfl (.c rfl (.c rfl (.c rfl (.c rfl (.c rfl (.c rfl .nil)))))))))) (.box rfl (.c rfl (.c rfl (.c rfl .nil))) (.arr rfl (.box rfl (.c rfl (.c rfl .nil)) .nil))) rfl))))))))
         ·replace hx := cond_f hc807 hx
          obtain rfl := Option.some.inj hx
          exact (J.mv rfl (J.k (JO.errNe Try.runUnderlying34 rfl) (J.mv rfl (J.m 86 hc807 (JO.move rfl) (J.m 86 hc807 (JO.ptrEqN rfl Try.runUnderlying83) (J.k (JO.pF hc807 rfl rfl) (J.fin (Sw.Sub.mk id (.c rfl (.c rfl (.c rfl (.c rfl (.c rfl (.c rfl (.c rfl (.c rfl (.c rfl (.c rfl .nil)))))))))) (.box rfl (.c rfl (.c rfl (.c rfl .nil))) (.arr rfl (.box rfl (.c rfl (.c rfl .nil)) .nil))) rfl))))))))
        rcases Bool.eq_false_or_eq_true x806 with hc808 | hc808
        ·replace h := cond_t hc808 h
         refine W.condT rfl hc808 ?_
         refine W.seq ?_
         refine W.reg (σ' := ⟨[(8, .v Enc.bool false)], []⟩) (J.k (JO.assign rfl) (J.fin (Sw.Sub.mk id (.c rfl .nil) .nil rfl))) ?_
         refine W.ret ?_
         refine XQ.ret ?_
         obtain rfl := Option.some.inj h
         refine XQ.lret fun ho => ?_
         obtain rfl := hr703 _ ho
         exact XQ.sub (σ' := ⟨[(8, .v Enc.bool false)], []⟩) (Sw.Sub.mk id (.c rfl .nil) .nil rfl) (XQ.ret1 hF noR rfl (RV.tmp rfl) .nil rfl)
        ·replace h := cond_f hc808 h
         refine W.condF rfl hc808 ?_
         refine W.skip ?_
         refine W.seq ?_
         obtain ⟨v809, hv809, h⟩ := bind_e h
         refine W.reg (σ' := ⟨[(0, .v Q5 a0), (1, .v Q0 (ar .add .i64 (1 : Int) v5)), (2, .v Q0 v6), (3, .v Q5 a3), (9, .ptr 104 0), (11, .ref 243), (12, .v Q0 s472.1), (13, .v Q0 s472.2.1), (15, .ptr 345000 0), (19, .v Q2 v809)], [(104, .box 80 [.v Q4 v797.1.1, .v Q2 v797.1.2.1, .v Q0 v797.1.2.2]), (243, .arr 29 eBlk s472.2.2.2.2.2), (345000, .box 134 [.v Q0 z800.1, .v Q1 z800.2])]⟩) (J.mv rfl (J.mv rfl (J.mv rfl (J.k (JO.arith rfl rfl rfl) (J.mv rfl (J.k (JO.call0 (con_ref_PutsFrom hv809) Try.call10 (.cons (.dir rfl) (.cons (.dir rfl) (.cons (.dir rfl) .nil)))) (J.k (JO.assign rfl) (J.fin (Sw.Sub.mk id (.c rfl (.c rfl (.c rfl (.c rfl (.c rfl (.c rfl (.c rfl (.c rfl (.c rfl (.c rfl .nil)))))))))) (.box rfl (.c rfl (.c rfl (.c rfl .nil))) (.arr rfl (.box rfl (.c rfl (.c rfl .nil)) .nil))) rfl))))))))) ?_
         refine W.seq ?_
         obtain ⟨v810, hv810, h⟩ := bind_e h
         refine W.reg (σ' := ⟨[(0, .v Q5 a0), (1, .v Q0 (ar .add .i64 (1 : Int) v5)), (2, .v Q0 v6), (3, .v Q5 a3), (9, .ptr 104 0), (11, .ref 243), (12, .v Q0 s472.1), (13, .v Q0 s472.2.1), (15, .ptr 345000 0), (19, .v Q2 v809), (20, .ref 347000)], [(104, .box 80 [.v Q4 v797.1.1, .v Q2 v797.1.2.1, .v Q0 v797.1.2.2]), (243, .arr 29 eBlk s472.2.2.2.2.2), (345000, .box 134 [.v Q0 z800.1, .v Q1 z800.2]), (347000, .arr 29 eBlk v810)]⟩) (J.mv rfl (J.k (JO.callL 347000 (con_ref_OwnBlocks hv810) Try.call15 (.cons (.ref rfl rfl) .nil) rfl FlatS.ref (FlatN.arr FlatN.nil)) (J.k (JO.assign rfl) (J.fin (Sw.Sub.mk id (.c rfl (.c rfl (.c rfl (.c rfl (.c rfl (.c rfl (.c rfl (.c rfl (.c rfl (.c rfl (.c rfl .nil))))))))))) (.box rfl (.c rfl (.c rfl (.c rfl .nil))) (.arr rfl (.box rfl (.c rfl (.c rfl .nil)) (.arr rfl .nil)))) rfl))))) ?_
         refine W.seq ?_
         refine W.seq ?_
         refine W.reg (σ' := ⟨[(0, .v Q5 a0), (1, .v Q0 (ar .add .i64 (1 : Int) v5)), (2, .v Q0 v6), (3, .v Q5 a3), (9, .ptr 104 0), (11, .ref 243), (12, .v Q0 s472.1), (13, .v Q0 s472.2.1), (15, .ptr 345000 0), (19, .v Q2 v809), (20, .ref 347000), (21, .v Q0 (0 : Int))], [(104, .box 80 [.v Q4 v797.1.1, .v Q2 v797.1.2.1, .v Q0 v797.1.2.2]), (243, .arr 29 eBlk s472.2.2.2.2.2), (345000, .box 134 [.v Q0 z800.1, .v Q1 z800.2]), (347000, .arr 29 eBlk v810)]⟩) (J.k (JO.assign rfl) (J.fin (Sw.Sub.mk id (.c rfl (.c rfl (.c rfl (.c rfl (.c rfl (.c rfl (.c rfl (.c rfl (.c rfl (.c rfl (.c rfl (.c rfl .nil)))))))))))) (.box rfl (.c rfl (.c rfl (.c rfl .nil))) (.arr rfl (.box rfl (.c rfl (.c rfl .nil)) (.arr rfl .nil)))) rfl))) ?_
         obtain ⟨o826, ho826, hb826, hr826⟩ := lp_elim h
         refine W.lp (σs := fun s821 : Int × (List Blk) => ⟨[(0, .v Q5 a0), (1, .v Q0 (ar .add .i64 (1 : Int) v5)), (2, .v Q0 v6), (3, .v Q5 a3), (9, .ptr 104 0), (11, .ref 243), (12, .v Q0 s472.1), (13, .v Q0 s472.2.1), (15, .ptr 345000 0), (19, .v Q2 v809), (20, .ref 347000), (21, .v Q0 s821.1)], [(104, .box 80 [.v Q4 v797.1.1, .v Q2 v797.1.2.1, .v Q0 v797.1.2.2]), (243, .arr 29 eBlk s472.2.2.2.2.2), (345000, .box 134 [.v Q0 z800.1, .v Q1 z800.2]), (347000, .arr 29 eBlk s821.2)]⟩) (fun x827 : (List Blk) => ⟨[(0, .v Q5 a0), (1, .v Q0 (ar .add .i64 (1 : Int) v5)), (2, .v Q0 v6), (3, .v Q5 a3), (9, .ptr 104 0), (11, .ref 243), (12, .v Q0 s472.1), (13, .v Q0 s472.2.1), (15, .ptr 345000 0), (19, .v Q2 v809), (20, .ref 347000)], [(104, .box 80 [.v Q4 v797.1.1, .v Q2 v797.1.2.1, .v Q0 v797.1.2.2]), (243, .arr 29 eBlk s472.2.2.2.2.2), (345000, .box 134 [.v Q0 z800.1, .v Q1 z800.2]), (347000, .arr 29 eBlk x827)]⟩) ho826 (Sw.Sub.mk id (.c rfl (.c rfl (.c rfl (.c rfl (.c rfl (.c rfl (.c rfl (.c rfl (.c rfl (.c rfl (.c rfl (.c rfl .nil)))))))))))) (.box rfl (.c rfl (.c rfl (.c rfl .nil))) (.arr rfl (.box rfl (.c rfl (.c rfl .nil)) (.arr rfl .nil)))) rfl) ?_ ?_
         ·intro x827 hy
          have h := hb826 _ hy
          refine W.seq ?_
          obtain ⟨v832, hv832, h⟩ := bind_e h
          refine W.reg (σ' := ⟨[(0, .v Q5 a0), (1, .v Q0 (ar .add .i64 (1 : Int) v5)), (2, .v Q0 v6), (3, .v Q5 a3), (9, .ptr 104 0), (11, .ref 243), (12, .v Q0 s472.1), (13, .v Q0 s472.2.1), (15, .ptr 345000 0), (16, .v (Enc.err ET) v832.1), (20, .ref 347000)], [(104, .box 80 [.v Q4 v797.1.1, .v Q2 v797.1.2.1, .v Q0 v797.1.2.2]), (243, .arr 29 eBlk s472.2.2.2.2.2), (345000, .box 134 [.v Q0 v832.2.1, .v Q1 v832.2.2]), (347000, .arr 29 eBlk x827)]⟩) (J.mv rfl (J.mv rfl (J.mv rfl (J.k (JO.arith rfl rfl rfl) (J.mv rfl (J.k (JO.arith rfl rfl rfl) (J.t (JM.callM (H := [345000]) (K := [345000]) (swp [(9000, 345000)]) (swp_inj _) (fun A => con_store_Store_Commit_io A hv832) Try.call29 (.cons (.dir rfl) (.cons (.dir rfl) (.cons (.dir rfl) (.cons (.dir rfl) .nil)))) (fun A => (.box rfl .nil)) (fun A => (.box rfl .nil rfl)) (fun _ => rfl) rfl rfl (fun _ => rfl) rfl rfl) (J.k (JO.assign rfl) (J.fin (Sw.Sub.mk id (.c rfl (.c rfl (.c rfl (.c rfl (.c rfl (.c rfl (.c rfl (.c rfl (.c rfl (.c rfl (.c rfl .nil))))))))))) (.box rfl (.c rfl (.c rfl (.c rfl .nil))) (.arr rfl (.box rfl (.c rfl (.c rfl .nil)) (.arr rfl .nil)))) rfl)))))))))) ?_
          refine W.seq ?_
          refine W.seq ?_
          obtain ⟨x834, hx, h⟩ := bind_e h
          refine W.reg (σ' := ⟨[(0, .v Q5 a0), (1, .v Q0 (ar .add .i64 (1 : Int) v5)), (2, .v Q0 v6), (3, .v Q5 a3), (9, .ptr 104 0), (11, .ref 243), (12, .v Q0 s472.1), (13, .v Q0 s472.2.1), (15, .ptr 345000 0), (16, .v (Enc.err ET) v832.1), (20, .ref 347000), (129, .v Enc.bool x834)], [(104, .box 80 [.v Q4 v797.1.1, .v Q2 v797.1.2.1, .v Q0 v797.1.2.2]), (243, .arr 29 eBlk s472.2.2.2.2.2), (345000, .box 134 [.v Q0 v832.2.1, .v Q1 v832.2.2]), (347000, .arr 29 eBlk x827)]⟩) ?_ ?_
          ·rcases Bool.eq_false_or_eq_true (Option.isSome v832.1) with hc835 | hc835
           ·replace hx := cond_t hc835 hx
            obtain rfl := Option.some.inj hx
            exact (J.mv rfl (J.k (JO.errNe Try.runUnderlying34 rfl) (J.mv rfl (J.m 125 hc835 (JO.move rfl) (J.m 125 hc835 (JO.mkErr Try.runUnderlying86 rfl) (J.m 125 hc835 (JO.errNe2 Try.runUnderlying34 Try.runUnderlying86 Try.typeInfo86 rfl rfl rfl) (J.k (JO.pT hc835 rfl rfl) (J.fin (Sw.Sub.mk id (.c rfl (.c rfl (.c rfl (.c rfl (.c rfl (.c rfl (.c rfl (.c rfl (.c rfl (.c rfl (.c rfl (.c rfl .nil)))))))))))) (.box rfl (.c rfl (.c rfl (.c rfl .nil))) (.arr rfl (.box rfl (.c rfl (.c rfl .nil)) (.arr rfl .nil)))) rfl)))))))))
           ·replace hx := cond_f hc835 hx
            obtain rfl := Option.some.inj hx
            exact (J.mv rfl (J.k (JO.errNe Try.runUnderlying34 rfl) (J.mv rfl (J.u 125 hc835 (J.u 125 hc835 (J.u 125 hc835 (J.k (JO.pF hc835 rfl rfl) (J.fin (Sw.Sub.mk id (.c rfl (.c rfl (.c rfl (.c rfl (.c rfl (.c rfl (.c rfl (.c rfl (.c rfl (.c rfl (.c rfl (.c rfl .nil)))))))))))) (.box rfl (.c rfl (.c rfl (.c rfl .nil))) (.arr rfl (.box rfl (.c rfl (.c rfl .nil)) (.arr rfl .nil)))) rfl)))))))))
          rcases Bool.eq_false_or_eq_true x834 with hc836 | hc836
          ·replace h := cond_t hc836 h
           refine W.condT rfl hc836 ?_
           refine W.seq ?_
           refine W.reg (σ' := ⟨[(8, .v Enc.bool false)], []⟩) (J.k (JO.assign rfl) (J.fin (Sw.Sub.mk id (.c rfl .nil) .nil rfl))) ?_
           refine W.ret ?_
           refine XQ.ret ?_
           obtain rfl := Option.some.inj h
           refine XQ.lret fun ho => ?_
           obtain rfl := hr703 _ ho
           exact XQ.sub (σ' := ⟨[(8, .v Enc.bool false)], []⟩) (Sw.Sub.mk id (.c rfl .nil) .nil rfl) (XQ.ret1 hF noR rfl (RV.tmp rfl) .nil rfl)
          ·replace h := cond_f hc836 h
           refine W.condF rfl hc836 ?_
           refine W.skip ?_
           refine W.seq ?_
           obtain ⟨v837, hv837, h⟩ := bind_e h
           obtain ⟨v838, hv838, h⟩ := bind_e h
           obtain ⟨v839, hv839, h⟩ := bind_e h
           obtain ⟨v841, hv841, h⟩ := bind_e h
           refine W.reg (σ' := ⟨[(0, .v Q5 a0), (1, .v Q0 (ar .add .i64 (1 : Int) v5)), (2, .v Q0 v6), (3, .v Q5 a3), (9, .ptr 104 0), (11, .ref 243), (12, .v Q0 s472.1), (13, .v Q0 s472.2.1), (16, .v (Enc.err ET) v832.1), (20, .ref 347000), (22, .ptr 352 0), (23, .v (Enc.err ET) v841.2)], [(104, .box 80 [.v Q4 v797.1.1, .v Q2 v797.1.2.1, .v Q0 v797.1.2.2]), (243, .arr 29 eBlk s472.2.2.2.2.2), (347000, .arr 29 eBlk x827), (352, .box 80 [.v Q4 v841.1.1, .v Q2 v841.1.2.1, .v Q0 v841.1.2.2])]⟩) (J.mv rfl (J.k (JO.callL 348000 (con_store_Store_Disk hv837) Try.call30 (.cons (.lendP rfl rfl (.prm (.one _ _) (.one _ _))) .nil) rfl (FlatS.agg (.ref (.ref (.v .nil)))) (FlatN.arr (FlatN.arr FlatN.nil))) (J.mv rfl (J.mv rfl (J.mv rfl (J.k (JO.arith rfl rfl rfl) (J.mv rfl (J.k (JO.len rfl Try.runUnderlying22) (J.k (JO.arith rfl rfl rfl) (J.k (JO.call0 (con_ref_Pick hv838) Try.call8 (.cons (.dir rfl) (.cons (.dir rfl) .nil))) (J.k (JO.slLo hv839 rfl rfl Try.runUnderlying22 Try.sizeOf3) (J.sub (σ' := ⟨[(0, .v Q5 a0), (1, .v Q0 (ar .add .i64 (1 : Int) v5)), (2, .v Q0 v6), (3, .v Q5 a3), (9, .ptr 104 0), (11, .ref 243), (12, .v Q0 s472.1), (13, .v Q0 s472.2.1), (15, .ptr 345000 0), (16, .v (Enc.err ET) v832.1), (20, .ref 347000), (129, .v Enc.bool x834), (131, .ptr 345000 0), (132, .agg [.v Q4 v837.1, .v Q2 v837.2.1, .v Q0 v837.2.2]), (133, .v Q5 a0), (134, .v Q0 v6), (135, .v Q0 s472.2.1), (136, .v Q0 (ar .add .i64 v6 s472.2.1)), (137, .v Q5 a0), (138, .v Q0 (a0.length : Int)), (139, .v Q0 (ar .add .i64 (a0.length : Int) (1 : Int))), (140, .v Q0 v838), (141, .v Q5 v839)], [(104, .box 80 [.v Q4 v797.1.1, .v Q2 v797.1.2.1, .v Q0 v797.1.2.2]), (243, .arr 29 eBlk s472.2.2.2.2.2), (345000, .box 134 [.v Q0 v832.2.1, .v Q1 v832.2.2]), (347000, .arr 29 eBlk x827)]⟩) (Sw.Sub.mk id (.c rfl (.c rfl (.c rfl (.c rfl (.c rfl (.c rfl (.c rfl (.c rfl (.c rfl (.c rfl (.c rfl (.c rfl (.c rfl (.cons rfl (.agg (.cons (.frz rfl rfl) (.cons (.frz rfl rfl) (.c rfl .nil)))) (.c rfl (.c rfl (.c rfl (.c rfl (.c rfl (.c rfl (.c rfl (.c rfl (.c rfl .nil))))))))))))))))))))))) (.box rfl (.c rfl (.c rfl (.c rfl .nil))) (.arr rfl (.box rfl (.c rfl (.c rfl .nil)) (.arr rfl .nil)))) rfl) (J.k (JO.call0 (con_disk_Crash hv841) Try.call28 (.cons (.agg rfl (.same (.same (.same .nil))) (.prm (.one _ _) (.prm (.one _ _) (.one _ _))) rfl) (.cons (.dir rfl) .nil))) (J.mv rfl (J.k (JO.extract rfl rfl) (J.k (JO.extract rfl rfl) (J.k (JO.alloc 352 Try.zeroValue80 rfl (.cons (Z.sl eBlk) (.cons (Z.sl Q6) (.cons (Z.int .i64) .nil))) rfl) (J.t (JM.storeAll rfl rfl rfl rfl (.prm (.one _ _) (.prm (.one _ _) (.one _ _))) Try.sizeOf80) (J.k (JO.assign rfl) (J.fin (Sw.Sub.mk id (.c rfl (.c rfl (.c rfl (.c rfl (.c rfl (.c rfl (.c rfl (.c rfl (.c rfl (.c rfl (.c rfl (.c rfl .nil)))))))))))) (.box rfl (.c rfl (.c rfl (.c rfl .nil))) (.arr rfl (.arr rfl (.box rfl (.c rfl (.c rfl (.c rfl .nil))) .nil)))) rfl))))))))))))))))))))) ?_
           refine W.seq ?_
           refine W.seq ?_
           refine W.reg (σ' := ⟨[(0, .v Q5 a0), (1, .v Q0 (ar .add .i64 (1 : Int) v5)), (2, .v Q0 v6), (3, .v Q5 a3), (9, .ptr 104 0), (11, .ref 243), (12, .v Q0 s472.1), (13, .v Q0 s472.2.1), (16, .v (Enc.err ET) v832.1), (20, .ref 347000), (22, .ptr 352 0), (146, .v Enc.bool (Option.isSome v841.2))], [(104, .box 80 [.v Q4 v797.1.1, .v Q2 v797.1.2.1, .v Q0 v797.1.2.2]), (243, .arr 29 eBlk s472.2.2.2.2.2), (347000, .arr 29 eBlk x827), (352, .box 80 [.v Q4 v841.1.1, .v Q2 v841.1.2.1, .v Q0 v841.1.2.2])]⟩) (J.mv rfl (J.k (JO.errNe Try.runUnderlying34 rfl) (J.fin (Sw.Sub.mk id (.c rfl (.c rfl (.c rfl (.c rfl (.c rfl (.c rfl (.c rfl (.c rfl (.c rfl (.c rfl (.c rfl (.c rfl .nil)))))))))))) (.box rfl (.c rfl (.c rfl (.c rfl .nil))) (.arr rfl (.arr rfl (.box rfl (.c rfl (.c rfl (.c rfl .nil))) .nil)))) rfl)))) ?_
           rcases Bool.eq_false_or_eq_true (Option.isSome v841.2) with hc842 | hc842
           ·replace h := cond_t hc842 h
            refine W.condT rfl hc842 ?_
            refine W.seq ?_
            refine W.reg (σ' := ⟨[(8, .v Enc.bool false)], []⟩) (J.k (JO.assign rfl) (J.fin (Sw.Sub.mk id (.c rfl .nil) .nil rfl))) ?_
            refine W.ret ?_
            refine XQ.ret ?_
            obtain rfl := Option.some.inj h
            refine XQ.lret fun ho => ?_
            obtain rfl := hr703 _ ho
            exact XQ.sub (σ' := ⟨[(8, .v Enc.bool false)], []⟩) (Sw.Sub.mk id (.c rfl .nil) .nil rfl) (XQ.ret1 hF noR rfl (RV.tmp rfl) .nil rfl)
           ·replace h := cond_f hc842 h
            refine W.condF rfl hc842 ?_
            refine W.skip ?_
            refine W.seq ?_
            refine W.reg (σ' := ⟨[(0, .v Q5 a0), (1, .v Q0 (ar .add .i64 (1 : Int) v5)), (2, .v Q0 v6), (3, .v Q5 a3), (9, .ptr 104 0), (11, .ref 243), (12, .v Q0 s472.1), (13, .v Q0 s472.2.1), (16, .v (Enc.err ET) v832.1), (20, .ref 347000)], [(104, .box 80 [.v Q4 v841.1.1, .v Q2 v841.1.2.1, .v Q0 v841.1.2.2]), (243, .arr 29 eBlk s472.2.2.2.2.2), (347000, .arr 29 eBlk x827)]⟩) (J.k (JO.loadAll rfl rfl (.prm (.one _ _) (.prm (.one _ _) (.one _ _))) Try.isAgg80 Try.sizeOf80) (J.t (JM.storeAll rfl rfl rfl rfl (.prm (.one _ _) (.prm (.one _ _) (.one _ _))) Try.sizeOf80) (J.fin (Sw.Sub.mk id (.c rfl (.c rfl (.c rfl (.c rfl (.c rfl (.c rfl (.c rfl (.c rfl (.c rfl (.c rfl .nil)))))))))) (.box rfl (.c rfl (.c rfl (.c rfl .nil))) (.arr rfl (.arr rfl .nil))) rfl)))) ?_
            refine W.seq ?_
            obtain ⟨v843, hv843, h⟩ := bind_e h
            rcases hz844 : v843.1 with _ | z844
            ·replace h := ocase_n hz844 h
             refine W.reg (σ' := ⟨[(0, .v Q5 a0), (1, .v Q0 (ar .add .i64 (1 : Int) v5)), (2, .v Q0 v6), (3, .v Q5 a3), (9, .ptr 104 0), (11, .ref 243), (12, .v Q0 s472.1), (13, .v Q0 s472.2.1), (16, .v (Enc.err ET) v832.1), (20, .ref 347000), (23, .v (Enc.err ET) v843.2), (24, .v (Enc.ptN (Enc.pr Q0 Q1)) (none : (Option (Int × Q3))))], [(104, .box 80 [.v Q4 v841.1.1, .v Q2 v841.1.2.1, .v Q0 v841.1.2.2]), (243, .arr 29 eBlk s472.2.2.2.2.2), (347000, .arr 29 eBlk x827)]⟩) (J.k (JO.loadAll rfl rfl (.prm (.one _ _) (.prm (.one _ _) (.one _ _))) Try.isAgg80 Try.sizeOf80) (J.mv rfl (J.k (JO.call0 (con_store_Open_n hz844 hv843) Try.call27 (.cons (.dir rfl) (.cons (.dir rfl) .nil))) (J.mv rfl (J.k (JO.extract rfl rfl) (J.k (JO.extract rfl rfl) (J.k (JO.assign rfl) (J.k (JO.assign rfl) (J.fin (Sw.Sub.mk id (.c rfl (.c rfl (.c rfl (.c rfl (.c rfl (.c rfl (.c rfl (.c rfl (.c rfl (.c rfl (.c rfl (.c rfl .nil)))))))))))) (.box rfl (.c rfl (.c rfl (.c rfl .nil))) (.arr rfl (.arr rfl .nil))) rfl)))))))))) ?_
             refine W.seq ?_
             refine W.seq ?_
             obtain ⟨x846, hx, h⟩ := bind_e h
             refine W.reg (σ' := ⟨[(0, .v Q5 a0), (1, .v Q0 (ar .add .i64 (1 : Int) v5)), (2, .v Q0 v6), (3, .v Q5 a3), (9, .ptr 104 0), (11, .ref 243), (12, .v Q0 s472.1), (13, .v Q0 s472.2.1), (16, .v (Enc.err ET) v832.1), (20, .ref 347000), (24, .v (Enc.ptN (Enc.pr Q0 Q1)) (none : (Option (Int × Q3)))), (159, .v Enc.bool true)], [(104, .box 80 [.v Q4 v841.1.1, .v Q2 v841.1.2.1, .v Q0 v841.1.2.2]), (243, .arr 29 eBlk s472.2.2.2.2.2), (347000, .arr 29 eBlk x827)]⟩) ?_ ?_
             ·rcases Bool.eq_false_or_eq_true (Option.isSome v843.2) with hc847 | hc847
              ·replace hx := cond_t hc847 hx
               obtain rfl := Option.some.inj hx
               exact (J.mv rfl (J.k (JO.errNe Try.runUnderlying34 rfl) (J.mv rfl (J.u 156 hc847 (J.u 156 hc847 (J.k (JO.pT hc847 rfl rfl) (J.fin (Sw.Sub.mk id (.c rfl (.c rfl (.c rfl (.c rfl (.c rfl (.c rfl (.c rfl (.c rfl (.c rfl (.c rfl (.c rfl (.c rfl .nil)))))))))))) (.box rfl (.c rfl (.c rfl (.c rfl .nil))) (.arr rfl (.arr rfl .nil))) rfl))))))))
              ·replace hx := cond_f hc847 hx
               obtain rfl := Option.some.inj hx
               exact (J.mv rfl (J.k (JO.errNe Try.runUnderlying34 rfl) (J.mv rfl (J.m 156 hc847 (JO.move rfl) (J.m 156 hc847 (JO.ptEq rfl Try.runUnderlying83) (J.k (JO.pF hc847 rfl rfl) (J.fin (Sw.Sub.mk id (.c rfl (.c rfl (.c rfl (.c rfl (.c rfl (.c rfl (.c rfl (.c rfl (.c rfl (.c rfl (.c rfl (.c rfl .nil)))))))))))) (.box rfl (.c rfl (.c rfl (.c rfl .nil))) (.arr rfl (.arr rfl .nil))) rfl))))))))
             refine W.condT rfl rfl ?_
             refine W.seq ?_
             refine W.reg (σ' := ⟨[(8, .v Enc.bool false)], []⟩) (J.k (JO.assign rfl) (J.fin (Sw.Sub.mk id (.c rfl .nil) .nil rfl))) ?_
             refine W.ret ?_
             refine XQ.ret ?_
             obtain rfl := Option.some.inj h
             refine XQ.lret fun ho => ?_
             obtain rfl := hr703 _ ho
             exact XQ.sub (σ' := ⟨[(8, .v Enc.bool false)], []⟩) (Sw.Sub.mk id (.c rfl .nil) .nil rfl) (XQ.ret1 hF noR rfl (RV.tmp rfl) .nil rfl)
            ·replace h := ocase_s hz844 h
             refine W.reg (σ' := ⟨[(0, .v Q5 a0), (1, .v Q0 (ar .add .i64 (1 : Int) v5)), (2, .v Q0 v6), (3, .v Q5 a3), (9, .ptr 104 0), (11, .ref 243), (12, .v Q0 s472.1), (13, .v Q0 s472.2.1), (16, .v (Enc.err ET) v832.1), (20, .ref 347000), (23, .v (Enc.err ET) v843.2), (24, .ptr 354000 0)], [(104, .box 80 [.v Q4 v841.1.1, .v Q2 v841.1.2.1, .v Q0 v841.1.2.2]), (243, .arr 29 eBlk s472.2.2.2.2.2), (347000, .arr 29 eBlk x827), (354000, .box 134 [.v Q0 z844.1, .v Q1 z844.2])]⟩) (J.k (JO.loadAll rfl rfl (.prm (.one _ _) (.prm (.one _ _) (.one _ _))) Try.isAgg80 Try.sizeOf80) (J.mv rfl (J.k (JO.call 354000 (con_store_Open_s hz844 hv843) Try.call27 (.cons (.dir rfl) (.cons (.dir rfl) .nil)) rfl) (J.mv rfl (J.k (JO.extract rfl rfl) (J.k (JO.extract rfl rfl) (J.k (JO.assign rfl) (J.k (JO.assign rfl) (J.fin (Sw.Sub.mk id (.c rfl (.c rfl (.c rfl (.c rfl (.c rfl (.c rfl (.c rfl (.c rfl (.c rfl (.c rfl (.c rfl (.c rfl .nil)))))))))))) (.box rfl (.c rfl (.c rfl (.c rfl .nil))) (.arr rfl (.arr rfl (.box rfl (.c rfl (.c rfl .nil)) .nil)))) rfl)))))))))) ?_
             refine W.seq ?_
             refine W.seq ?_
             obtain ⟨x850, hx, h⟩ := bind_e h
             refine W.reg (σ' := ⟨[(0, .v Q5 a0), (1, .v Q0 (ar .add .i64 (1 : Int) v5)), (2, .v Q0 v6), (3, .v Q5 a3), (9, .ptr 104 0), (11, .ref 243), (12, .v Q0 s472.1), (13, .v Q0 s472.2.1), (16, .v (Enc.err ET) v832.1), (20, .ref 347000), (24, .ptr 354000 0), (159, .v Enc.bool x850)], [(104, .box 80 [.v Q4 v841.1.1, .v Q2 v841.1.2.1, .v Q0 v841.1.2.2]), (243, .arr 29 eBlk s472.2.2.2.2.2), (347000, .arr 29 eBlk x827), (354000, .box 134 [.v Q0 z844.1, .v Q1 z844.2])]⟩) ?_ ?_
             ·rcases Bool.eq_false_or_eq_true (Option.isSome v843.2) with hc851 | hc851
              ·replace hx := cond_t hc851 hx
               obtain rfl := Option.some.inj hx
               exact (J.mv rfl (J.k (JO.errNe Try.runUnderlying34 rfl) (J.mv rfl (J.u 156 hc851 (J.u 156 hc851 (J.k (JO.pT hc851 rfl rfl) (J.fin (Sw.Sub.mk id (.c rfl (.c rfl (.c rfl (.c rfl (.c rfl (.c rfl (.c rfl (.c rfl (.c rfl (.c rfl (.c rfl (.c rfl .nil)))))))))))) (.box rfl (.c rfl (.c rfl (.c rfl .nil))) (.arr rfl (.arr rfl (.box rfl (.c rfl (.c rfl .nil)) .nil)))) rfl))))))))
              ·replace hx := cond_f hc851 hx
               obtain rfl := Option.some.inj hx
               exact (J.mv rfl (J.k (JO.errNe Try.runUnderlying34 rfl) (J.mv rfl (J.m 156 hc851 (JO.move rfl) (J.m 156 hc851 (JO.ptrEqN rfl Try.runUnderlying83) (J.k (JO.pF hc851 rfl rfl) (J.fin (Sw.Sub.mk id (.c rfl (.c rfl (.c rfl (.c rfl (.c rfl (.c rfl (.c rfl (.c rfl (.c rfl (.c rfl (.c rfl (.c rfl .nil)))))))))))) (.box rfl (.c rfl (.c rfl (.c rfl .nil))) (.arr rfl (.arr rfl (.box rfl (.c rfl (.c rfl .nil)) .nil)))) rfl))))))))
             rcases Bool.eq_false_or_eq_true x850 with hc852 | hc852
             ·replace h := cond_t hc852 h
              refine W.condT rfl hc852 ?_
              refine W.seq ?_
              refine W.reg (σ' := ⟨[(8, .v Enc.bool false)], []⟩) (J.k (JO.assign rfl) (J.fin (Sw.Sub.mk id (.c rfl .nil) .nil rfl))) ?_
              refine W.ret ?_
              refine XQ.ret ?_
              obtain rfl := Option.some.inj h
              refine XQ.lret fun ho => ?_
              obtain rfl := hr703 _ ho
              exact XQ.sub (σ' := ⟨[(8, .v Enc.bool false)], []⟩) (Sw.Sub.mk id (.c rfl .nil) .nil rfl) (XQ.ret1 hF noR rfl (RV.tmp rfl) .nil rfl)
             ·replace h := cond_f hc852 h
              refine W.condF rfl hc852 ?_
              refine W.skip ?_
              refine W.seq ?_
              refine W.seq ?_
              obtain ⟨v853, hv853, h⟩ := bind_e h
              refine W.reg (σ' := ⟨[(0, .v Q5 a0), (1, .v Q0 (ar .add .i64 (1 : Int) v5)), (2, .v Q0 v6), (3, .v Q5 a3), (9, .ptr 104 0), (11, .ref 243), (12, .v Q0 s472.1), (13, .v Q0 s472.2.1), (16, .v (Enc.err ET) v832.1), (20, .ref 347000), (24, .ptr 354000 0), (164, .v Enc.bool v853)], [(104, .box 80 [.v Q4 v841.1.1, .v Q2 v841.1.2.1, .v Q0 v841.1.2.2]), (243, .arr 29 eBlk s472.2.2.2.2.2), (347000, .arr 29 eBlk x827), (354000, .box 134 [.v Q0 z844.1, .v Q1 z844.2])]⟩) (J.mv rfl (J.mv rfl (J.mv rfl (J.k (JO.arith rfl rfl rfl) (J.k (JO.callL0 (con_top_as hv853) Try.call31 (.cons (.lendP rfl rfl (.prm (.one _ _) (.one _ _))) (.cons (.ref rfl rfl) (.cons (.dir rfl) .nil))) FlatS.v) (J.fin (Sw.Sub.mk id (.c rfl (.c rfl (.c rfl (.c rfl (.c rfl (.c rfl (.c rfl (.c rfl (.c rfl (.c rfl (.c rfl (.c rfl .nil)))))))))))) (.box rfl (.c rfl (.c rfl (.c rfl .nil))) (.arr rfl (.arr rfl (.box rfl (.c rfl (.c rfl .nil)) .nil)))) rfl))))))) ?_
              obtain ⟨k861, hk861, h⟩ := jp_elim h
              refine W.jn (fun x862 : Int × (List Blk) => ⟨[(0, .v Q5 a0), (1, .v Q0 (ar .add .i64 (1 : Int) v5)), (2, .v Q0 v6), (3, .v Q5 a3), (9, .ptr 104 0), (11, .ref 358), (12, .v Q0 x862.1), (13, .v Q0 s472.2.1), (24, .ptr 354000 0)], [(104, .box 80 [.v Q4 v841.1.1, .v Q2 v841.1.2.1, .v Q0 v841.1.2.2]), (358, .arr 29 eBlk x862.2), (354000, .box 134 [.v Q0 z844.1, .v Q1 z844.2])]⟩) (fun x => k861 x = some r703) rfl ?_ ?_ ?_
              ·intro x862 h
               rw [hk861] at h
               obtain ⟨v869, hv869, h⟩ := bind_e h
               refine W.reg (σ' := ⟨[(0, .v Q5 a0), (1, .v Q0 (ar .add .i64 (1 : Int) v5)), (2, .v Q0 v6), (3, .v Q5 a3), (9, .ptr 104 0), (11, .ref 358), (12, .v Q0 x862.1), (13, .v Q0 s472.2.1)], [(104, .box 80 [.ref 361000, .ref 361001, .v Q0 v869.2.2]), (358, .arr 29 eBlk x862.2), (361000, .arr 29 eBlk v869.1), (361001, .arr 41 Q6 v869.2.1)]⟩) (J.mv rfl (J.k (JO.callL 361000 (con_store_Store_Disk hv869) Try.call30 (.cons (.lendP rfl rfl (.prm (.one _ _) (.one _ _))) .nil) rfl (FlatS.agg (.ref (.ref (.v .nil)))) (FlatN.arr (FlatN.arr FlatN.nil))) (J.t (JM.storeAgg rfl rfl rfl rfl rfl rfl Try.sizeOf80) (J.fin (Sw.Sub.mk id (.c rfl (.c rfl (.c rfl (.c rfl (.c rfl (.c rfl (.c rfl (.c rfl .nil)))))))) (.box rfl (.c rfl (.c rfl (.c rfl .nil))) (.arr rfl (.arr rfl (.arr rfl .nil)))) rfl))))) ?_
               refine W.fall ?_
               refine W.reg (σ' := ⟨[(0, .v Q5 a0), (1, .v Q0 (ar .add .i64 (1 : Int) v5)), (2, .v Q0 v6), (3, .v Q5 a3), (9, .ptr 104 0), (11, .ref 358), (12, .v Q0 x862.1), (13, .v Q0 (ar .add .i64 s472.2.1 (1 : Int)))], [(104, .box 80 [.ref 361000, .ref 361001, .v Q0 v869.2.2]), (358, .arr 29 eBlk x862.2), (361000, .arr 29 eBlk v869.1), (361001, .arr 41 Q6 v869.2.1)]⟩) (J.mv rfl (J.k (JO.arith rfl rfl rfl) (J.k (JO.assign rfl) (J.fin (Sw.Sub.mk id (.c rfl (.c rfl (.c rfl (.c rfl (.c rfl (.c rfl (.c rfl (.c rfl .nil)))))))) (.box rfl (.c rfl (.c rfl (.c rfl .nil))) (.arr rfl (.arr rfl (.arr rfl .nil)))) rfl))))) ?_
               obtain rfl := Option.some.inj h
               exact W.next (Sw.Sub.mk (rn [(104, 104), (243, 358)]) (.c rfl (.c rfl (.c rfl (.c rfl (.c rfl (.c rfl (.c rfl (.c rfl .nil)))))))) (.box rfl (.cons (.frz rfl rfl) (.cons (.frz rfl rfl) (.c rfl .nil))) (.arr rfl .nil)) rfl)
              ·intro hc854
               replace h := cond_t hc854 h
               refine W.seq ?_
               refine W.reg (σ' := ⟨[(0, .v Q5 a0), (1, .v Q0 (ar .add .i64 (1 : Int) v5)), (2, .v Q0 v6), (3, .v Q5 a3), (9, .ptr 104 0), (11, .ref 347000), (13, .v Q0 s472.2.1), (24, .ptr 354000 0)], [(104, .box 80 [.v Q4 v841.1.1, .v Q2 v841.1.2.1, .v Q0 v841.1.2.2]), (347000, .arr 29 eBlk x827), (354000, .box 134 [.v Q0 z844.1, .v Q1 z844.2])]⟩) (J.mv rfl (J.k (JO.assign rfl) (J.fin (Sw.Sub.mk id (.c rfl (.c rfl (.c rfl (.c rfl (.c rfl (.c rfl (.c rfl (.c rfl .nil)))))))) (.box rfl (.c rfl (.c rfl (.c rfl .nil))) (.arr rfl (.box rfl (.c rfl (.c rfl .nil)) .nil))) rfl)))) ?_
               refine W.reg (σ' := ⟨[(0, .v Q5 a0), (1, .v Q0 (ar .add .i64 (1 : Int) v5)), (2, .v Q0 v6), (3, .v Q5 a3), (9, .ptr 104 0), (11, .ref 347000), (12, .v Q0 (ar .add .i64 s472.2.1 (1 : Int))), (13, .v Q0 s472.2.1), (24, .ptr 354000 0)], [(104, .box 80 [.v Q4 v841.1.1, .v Q2 v841.1.2.1, .v Q0 v841.1.2.2]), (347000, .arr 29 eBlk x827), (354000, .box 134 [.v Q0 z844.1, .v Q1 z844.2])]⟩) (J.mv rfl (J.k (JO.arith rfl rfl rfl) (J.k (JO.assign rfl) (J.fin (Sw.Sub.mk id (.c rfl (.c rfl (.c rfl (.c rfl (.c rfl (.c rfl (.c rfl (.c rfl (.c rfl .nil))))))))) (.box rfl (.c rfl (.c rfl (.c rfl .nil))) (.arr rfl (.box rfl (.c rfl (.c rfl .nil)) .nil))) rfl))))) ?_
               exact W.jfall h (Sw.Sub.mk (rn [(104, 104), (358, 347000), (354000, 354000)]) (.c rfl (.c rfl (.c rfl (.c rfl (.c rfl (.c rfl (.c rfl (.c rfl (.c rfl .nil))))))))) (.box rfl (.c rfl (.c rfl (.c rfl .nil))) (.arr rfl (.box rfl (.c rfl (.c rfl .nil)) .nil))) rfl)
              ·intro hc854
               replace h := cond_f hc854 h
               refine W.seq ?_
               obtain ⟨x865, hx, h⟩ := bind_e h
               refine W.reg (σ' := ⟨[(0, .v Q5 a0), (1, .v Q0 (ar .add .i64 (1 : Int) v5)), (2, .v Q0 v6), (3, .v Q5 a3), (9, .ptr 104 0), (11, .ref 243), (12, .v Q0 s472.1), (13, .v Q0 s472.2.1), (24, .ptr 354000 0), (176, .v Enc.bool x865)], [(104, .box 80 [.v Q4 v841.1.1, .v Q2 v841.1.2.1, .v Q0 v841.1.2.2]), (243, .arr 29 eBlk s472.2.2.2.2.2), (354000, .box 134 [.v Q0 z844.1, .v Q1 z844.2])]⟩) ?_ ?_
               ·rcases Bool.eq_false_or_eq_true (Option.isNone v832.1) with hc866 | hc866
                ·replace hx := cond_t hc866 hx
                 obtain rfl := Option.some.inj hx
                 exact (J.mv rfl (J.k (JO.errEq Try.runUnderlying34 rfl) (J.mv rfl (J.u 170 hc866 (J.u 170 hc866 (J.u 170 hc866 (J.u 170 hc866 (J.u 170 hc866 (J.k (JO.pT hc866 rfl rfl) (J.fin (Sw.Sub.mk id (.c rfl (.c rfl (.c rfl (.c rfl (.c rfl (.c rfl (.c rfl (.c rfl (.c rfl (.c rfl .nil)))))))))) (.box rfl (.c rfl (.c rfl (.c rfl .nil))) (.arr rfl (.box rfl (.c rfl (.c rfl .nil)) .nil))) rfl)))))))))))
                ·replace hx := cond_f hc866 hx
                 obtain ⟨v867, hv867, hx⟩ := bind_e hx
                 obtain rfl := Option.some.inj hx
                 exact (J.mv rfl (J.k (JO.errEq Try.runUnderlying34 rfl) (J.mv rfl (J.m 170 hc866 (JO.move rfl) (J.m 170 hc866 (JO.move rfl) (J.m 170 hc866 (JO.move rfl) (J.m 170 hc866 (JO.callL0 (con_top_as hv867) Try.call31 (.cons (.lendP rfl rfl (.prm (.one _ _) (.one _ _))) (.cons (.ref rfl rfl) (.cons (.dir rfl) .nil))) FlatS.v) (J.m 170 hc866 (JO.not rfl) (J.k (JO.pF hc866 rfl rfl) (J.fin (Sw.Sub.mk id (.c rfl (.c rfl (.c rfl (.c rfl (.c rfl (.c rfl (.c rfl (.c rfl (.c rfl (.c rfl .nil)))))))))) (.box rfl (.c rfl (.c rfl (.c rfl .nil))) (.arr rfl (.box rfl (.c rfl (.c rfl .nil)) .nil))) rfl)))))))))))
               rcases Bool.eq_false_or_eq_true x865 with hc868 | hc868
               ·replace h := cond_t hc868 h
                refine W.condT rfl hc868 ?_
                refine W.seq ?_
                refine W.reg (σ' := ⟨[(8, .v Enc.bool false)], []⟩) (J.k (JO.assign rfl) (J.fin (Sw.Sub.mk id (.c rfl .nil) .nil rfl))) ?_
                refine W.ret ?_
                refine XQ.jret ?_
                refine XQ.ret ?_
                obtain rfl := Option.some.inj h
                refine XQ.lret fun ho => ?_
                obtain rfl := hr703 _ ho
                exact XQ.sub (σ' := ⟨[(8, .v Enc.bool false)], []⟩) (Sw.Sub.mk id (.c rfl .nil) .nil rfl) (XQ.ret1 hF noR rfl (RV.tmp rfl) .nil rfl)
               ·replace h := cond_f hc868 h
                refine W.condF rfl hc868 ?_
                refine W.skip ?_
                exact W.jfall h (Sw.Sub.mk (rn [(104, 104), (358, 243), (354000, 354000)]) (.c rfl (.c rfl (.c rfl (.c rfl (.c rfl (.c rfl (.c rfl (.c rfl (.c rfl .nil))))))))) (.box rfl (.c rfl (.c rfl (.c rfl .nil))) (.arr rfl (.box rfl (.c rfl (.c rfl .nil)) .nil))) rfl)
         intro s821 r826 h
         refine W.seq ?_
         refine W.seq ?_
         refine W.reg (σ' := ⟨[(0, .v Q5 a0), (1, .v Q0 (ar .add .i64 (1 : Int) v5)), (2, .v Q0 v6), (3, .v Q5 a3), (9, .ptr 104 0), (11, .ref 243), (12, .v Q0 s472.1), (13, .v Q0 s472.2.1), (15, .ptr 345000 0), (19, .v Q2 v809), (20, .ref 347000), (21, .v Q0 s821.1), (101, .v Enc.bool (cm .lss s821.1 (v809.length : Int)))], [(104, .box 80 [.v Q4 v797.1.1, .v Q2 v797.1.2.1, .v Q0 v797.1.2.2]), (243, .arr 29 eBlk s472.2.2.2.2.2), (345000, .box 134 [.v Q0 z800.1, .v Q1 z800.2]), (347000, .arr 29 eBlk s821.2)]⟩) (J.mv rfl (J.mv rfl (J.k (JO.len rfl Try.runUnderlying26) (J.k (JO.cmp rfl rfl rfl) (J.fin (Sw.Sub.mk id (.c rfl (.c rfl (.c rfl (.c rfl (.c rfl (.c rfl (.c rfl (.c rfl (.c rfl (.c rfl (.c rfl (.c rfl (.c rfl .nil))))))))))))) (.box rfl (.c rfl (.c rfl (.c rfl .nil))) (.arr rfl (.box rfl (.c rfl (.c rfl .nil)) (.arr rfl .nil)))) rfl)))))) ?_
         rcases Bool.eq_false_or_eq_true (cm .lss s821.1 (v809.length : Int)) with hc828 | hc828
         ·replace h := cond_t hc828 h
          refine W.condT rfl hc828 ?_
          refine W.skip ?_
          refine W.seq ?_
          refine W.block ?_
          obtain ⟨z829, hz829, h⟩ := bind_e h
          obtain ⟨z830, hz830, h⟩ := bind_e h
          obtain ⟨z831, hz831, h⟩ := bind_e h
          refine W.dr2 (σ' := ⟨[(0, .v Q5 a0), (1, .v Q0 (ar .add .i64 (1 : Int) v5)), (2, .v Q0 v6), (3, .v Q5 a3), (9, .ptr 104 0), (11, .ref 243), (12, .v Q0 s472.1), (13, .v Q0 s472.2.1), (15, .ptr 345000 0), (19, .v Q2 v809), (20, .ref 347000), (21, .v Q0 s821.1)], [(104, .box 80 [.v Q4 v797.1.1, .v Q2 v797.1.2.1, .v Q0 v797.1.2.2]), (243, .arr 29 eBlk s472.2.2.2.2.2), (345000, .box 134 [.v Q0 z800.1, .v Q1 z800.2]), (347000, .arr 29 eBlk (List.set s821.2 (Int.toNat z829.1) z830.2))]⟩) 12 [0, 0, 0, 6, 14, 30, 0, 0, 192, 448, 960, 2047, 4095] mixed (by exact (.cons (.none rfl) (JO.move rfl) rfl rfl (.cons (.none rfl) (JO.move rfl) rfl rfl (.cons (.none rfl) (JO.move rfl) rfl rfl (.cons (.none rfl) (JO.idx hz829 rfl rfl Try.runUnderlying26 Try.sizeOf41) rfl rfl (.cons (.none rfl) (JO.fieldPst rfl Try.runUnderlying41 rfl Try.sizeOf3 rfl (.fst .here) rfl) rfl rfl (.cons (.none rfl) (JO.loadPst rfl Try.isAgg3 Try.sizeOf3) rfl rfl (.cons (.none rfl) (JO.move rfl) rfl rfl (.cons (.none rfl) (JO.move rfl) rfl rfl (.cons (.none rfl) (JO.idx hz830 rfl rfl Try.runUnderlying26 Try.sizeOf41) rfl rfl (.cons (.none rfl) (JO.fieldPst rfl Try.runUnderlying41 rfl Try.sizeOf29 rfl (.snd .here) rfl) rfl rfl (.cons (.none rfl) (JO.loadPst rfl Try.isAgg29 Try.sizeOf29) rfl rfl (.cons (.none rfl) (JO.idxR hz831 rfl rfl rfl Try.runUnderlying24 Try.sizeOf29) rfl rfl .nil))))))))))))) (by exact (J.t (JM.storeEl (idx_some hz831).2.2 rfl rfl rfl Try.sizeOf29) (J.fin (Sw.Sub.mk id (.c rfl (.c rfl (.c rfl (.c rfl (.c rfl (.c rfl (.c rfl (.c rfl (.c rfl (.c rfl (.c rfl (.c rfl .nil)))))))))))) (.box rfl (.c rfl (.c rfl (.c rfl .nil))) (.arr rfl (.box rfl (.c rfl (.c rfl .nil)) (.arr rfl .nil)))) rfl)))) rfl (by decide +kernel) (by decide +kernel) (by decide +kernel) (by kernel_rfl) ?_
          refine W.fall ?_
          refine W.reg (σ' := ⟨[(0, .v Q5 a0), (1, .v Q0 (ar .add .i64 (1 : Int) v5)), (2, .v Q0 v6), (3, .v Q5 a3), (9, .ptr 104 0), (11, .ref 243), (12, .v Q0 s472.1), (13, .v Q0 s472.2.1), (15, .ptr 345000 0), (19, .v Q2 v809), (20, .ref 347000), (21, .v Q0 (ar .add .i64 s821.1 (1 : Int)))], [(104, .box 80 [.v Q4 v797.1.1, .v Q2 v797.1.2.1, .v Q0 v797.1.2.2]), (243, .arr 29 eBlk s472.2.2.2.2.2), (345000, .box 134 [.v Q0 z800.1, .v Q1 z800.2]), (347000, .arr 29 eBlk (List.set s821.2 (Int.toNat z829.1) z830.2))]⟩) (J.mv rfl (J.k (JO.arith rfl rfl rfl) (J.k (JO.assign rfl) (J.fin (Sw.Sub.mk id (.c rfl (.c rfl (.c rfl (.c rfl (.c rfl (.c rfl (.c rfl (.c rfl (.c rfl (.c rfl (.c rfl (.c rfl .nil)))))))))))) (.box rfl (.c rfl (.c rfl (.c rfl .nil))) (.arr rfl (.box rfl (.c rfl (.c rfl .nil)) (.arr rfl .nil)))) rfl))))) ?_
          obtain rfl := Option.some.inj h
          exact W.next (Sw.Sub.mk id (.c rfl (.c rfl (.c rfl (.c rfl (.c rfl (.c rfl (.c rfl (.c rfl (.c rfl (.c rfl (.c rfl (.c rfl .nil)))))))))))) (.box rfl (.c rfl (.c rfl (.c rfl .nil))) (.arr rfl (.box rfl (.c rfl (.c rfl .nil)) (.arr rfl .nil)))) rfl)
         ·replace h := cond_f hc828 h
          refine W.condF rfl hc828 ?_
          refine W.exit ?_
          obtain rfl := Option.some.inj h
          exact XQ.brk (Sw.Sub.mk id (.c rfl (.c rfl (.c rfl (.c rfl (.c rfl (.c rfl (.c rfl (.c rfl (.c rfl (.c rfl (.c rfl .nil))))))))))) (.box rfl (.c rfl (.c rfl (.c rfl .nil))) (.arr rfl (.box rfl (.c rfl (.c rfl .nil)) (.arr rfl .nil)))) rfl)
     ·replace h := cond_f hc792 h
      refine W.condF rfl hc792 ?_
      refine W.skip ?_
      refine W.seq ?_
      refine W.seq ?_
      obtain ⟨x871, hx, h⟩ := bind_e h
      refine W.reg (σ' := ⟨[(0, .v Q5 a0), (1, .v Q0 (ar .add .i64 (1 : Int) v5)), (2, .v Q0 v6), (3, .v Q5 a3), (9, .ptr 104 0), (11, .ref 243), (12, .v Q0 s472.1), (13, .v Q0 s472.2.1), (15, .ptr 337000 0), (89, .v Enc.bool x871)], [(104, .box 80 [.v Q4 s472.2.2.1, .v Q2 s472.2.2.2.1, .v Q0 v707]), (243, .arr 29 eBlk s472.2.2.2.2.2), (337000, .box 134 [.v Q0 z709.1, .v Q1 z709.2])]⟩) ?_ ?_
      ·rcases Bool.eq_false_or_eq_true (Option.isSome v708.2) with hc872 | hc872
       ·replace hx := cond_t hc872 hx
        obtain rfl := Option.some.inj hx
        exact (J.mv rfl (J.k (JO.errNe Try.runUnderlying34 rfl) (J.mv rfl (J.u 86 hc872 (J.u 86 hc872 (J.k (JO.pT hc872 rfl rfl) (J.fin (Sw.Sub.mk id (.c rfl (.c rfl (.c rfl (.c rfl (.c rfl (.c rfl (.c rfl (.c rfl (.c rfl (.c rfl .nil)))))))))) (.box rfl (.c rfl (.c rfl (.c rfl .nil))) (.arr rfl (.box rfl (.c rfl (.c rfl .nil)) .nil))) rfl))))))))
       ·replace hx := cond_f hc872 hx
        obtain rfl := Option.some.inj hx
        exact (J.mv rfl (J.k (JO.errNe Try.runUnderlying34 rfl) (J.mv rfl (J.m 86 hc872 (JO.move rfl) (J.m 86 hc872 (JO.ptrEqN rfl Try.runUnderlying83) (J.k (JO.pF hc872 rfl rfl) (J.fin (Sw.Sub.mk id (.c rfl (.c rfl (.c rfl (.c rfl (.c rfl (.c rfl (.c rfl (.c rfl (.c rfl (.c rfl .nil)))))))))) (.box rfl (.c rfl (.c rfl (.c rfl .nil))) (.arr rfl (.box rfl (.c rfl (.c rfl .nil)) .nil))) rfl))))))))
      rcases Bool.eq_false_or_eq_true x871 with hc873 | hc873
      ·replace h := cond_t hc873 h
       refine W.condT rfl hc873 ?_
       refine W.seq ?_
       refine W.reg (σ' := ⟨[(8, .v Enc.bool false)], []⟩) (J.k (JO.assign rfl) (J.fin (Sw.Sub.mk id (.c rfl .nil) .nil rfl))) ?_
       refine W.ret ?_
       refine XQ.ret ?_
       obtain rfl := Option.some.inj h
       refine XQ.lret fun ho => ?_
       obtain rfl := hr703 _ ho
       exact XQ.sub (σ' := ⟨[(8, .v Enc.bool false)], []⟩) (Sw.Sub.mk id (.c rfl .nil) .nil rfl) (XQ.ret1 hF noR rfl (RV.tmp rfl) .nil rfl)
      ·replace h := cond_f hc873 h
       refine W.condF rfl hc873 ?_
       refine W.skip ?_
       refine W.seq ?_
       obtain ⟨v874, hv874, h⟩ := bind_e h
       refine W.reg (σ' := ⟨[(0, .v Q5 a0), (1, .v Q0 (ar .add .i64 (1 : Int) v5)), (2, .v Q0 v6), (3, .v Q5 a3), (9, .ptr 104 0), (11, .ref 243), (12, .v Q0 s472.1), (13, .v Q0 s472.2.1), (15, .ptr 337000 0), (19, .v Q2 v874)], [(104, .box 80 [.v Q4 s472.2.2.1, .v Q2 s472.2.2.2.1, .v Q0 v707]), (243, .arr 29 eBlk s472.2.2.2.2.2), (337000, .box 134 [.v Q0 z709.1, .v Q1 z709.2])]⟩) (J.mv rfl (J.mv rfl (J.mv rfl (J.k (JO.arith rfl rfl rfl) (J.mv rfl (J.k (JO.call0 (con_ref_PutsFrom hv874) Try.call10 (.cons (.dir rfl) (.cons (.dir rfl) (.cons (.dir rfl) .nil)))) (J.k (JO.assign rfl) (J.fin (Sw.Sub.mk id (.c rfl (.c rfl (.c rfl (.c rfl (.c rfl (.c rfl (.c rfl (.c rfl (.c rfl (.c rfl .nil)))))))))) (.box rfl (.c rfl (.c rfl (.c rfl .nil))) (.arr rfl (.box rfl (.c rfl (.c rfl .nil)) .nil))) rfl))))))))) ?_
       refine W.seq ?_
       obtain ⟨v875, hv875, h⟩ := bind_e h
       refine W.reg (σ' := ⟨[(0, .v Q5 a0), (1, .v Q0 (ar .add .i64 (1 : Int) v5)), (2, .v Q0 v6), (3, .v Q5 a3), (9, .ptr 104 0), (11, .ref 243), (12, .v Q0 s472.1), (13, .v Q0 s472.2.1), (15, .ptr 337000 0), (19, .v Q2 v874), (20, .ref 363000)], [(104, .box 80 [.v Q4 s472.2.2.1, .v Q2 s472.2.2.2.1, .v Q0 v707]), (243, .arr 29 eBlk s472.2.2.2.2.2), (337000, .box 134 [.v Q0 z709.1, .v Q1 z709.2]), (363000, .arr 29 eBlk v875)]⟩) (J.mv rfl (J.k (JO.callL 363000 (con_ref_OwnBlocks hv875) Try.call15 (.cons (.ref rfl rfl) .nil) rfl FlatS.ref (FlatN.arr FlatN.nil)) (J.k (JO.assign rfl) (J.fin (Sw.Sub.mk id (.c rfl (.c rfl (.c rfl (.c rfl (.c rfl (.c rfl (.c rfl (.c rfl (.c rfl (.c rfl (.c rfl .nil))))))))))) (.box rfl (.c rfl (.c rfl (.c rfl .nil))) (.arr rfl (.box rfl (.c rfl (.c rfl .nil)) (.arr rfl .nil)))) rfl))))) ?_
       refine W.seq ?_
       refine W.seq ?_
       refine W.reg (σ' := ⟨[(0, .v Q5 a0), (1, .v Q0 (ar .add .i64 (1 : Int) v5)), (2, .v Q0 v6), (3, .v Q5 a3), (9, .ptr 104 0), (11, .ref 243), (12, .v Q0 s472.1), (13, .v Q0 s472.2.1), (15, .ptr 337000 0), (19, .v Q2 v874), (20, .ref 363000), (21, .v Q0 (0 : Int))], [(104, .box 80 [.v Q4 s472.2.2.1, .v Q2 s472.2.2.2.1, .v Q0 v707]), (243, .arr 29 eBlk s472.2.2.2.2.2), (337000, .box 134 [.v Q0 z709.1, .v Q1 z709.2]), (363000, .arr 29 eBlk v875)]⟩) (J.k (JO.assign rfl) (J.fin (Sw.Sub.mk id (.c rfl (.c rfl (.c rfl (.c rfl (.c rfl (.c rfl (.c rfl (.c rfl (.c rfl (.c rfl (.c rfl (.c rfl .nil)))))))))))) (.box rfl (.c rfl (.c rfl (.c rfl .nil))) (.arr rfl (.box rfl (.c rfl (.c rfl .nil)) (.arr rfl .nil)))) rfl))) ?_
       obtain ⟨o891, ho891, hb891, hr891⟩ := lp_elim h
       refine W.lp (σs := fun s886 : Int × (List Blk) => ⟨[(0, .v Q5 a0), (1, .v Q0 (ar .add .i64 (1 : Int) v5)), (2, .v Q0 v6), (3, .v Q5 a3), (9, .ptr 104 0), (11, .ref 243), (12, .v Q0 s472.1), (13, .v Q0 s472.2.1), (15, .ptr 337000 0), (19, .v Q2 v874), (20, .ref 363000), (21, .v Q0 s886.1)], [(104, .box 80 [.v Q4 s472.2.2.1, .v Q2 s472.2.2.2.1, .v Q0 v707]), (243, .arr 29 eBlk s472.2.2.2.2.2), (337000, .box 134 [.v Q0 z709.1, .v Q1 z709.2]), (363000, .arr 29 eBlk s886.2)]⟩) (fun x892 : (List Blk) => ⟨[(0, .v Q5 a0), (1, .v Q0 (ar .add .i64 (1 : Int) v5)), (2, .v Q0 v6), (3, .v Q5 a3), (9, .ptr 104 0), (11, .ref 243), (12, .v Q0 s472.1), (13, .v Q0 s472.2.1), (15, .ptr 337000 0), (19, .v Q2 v874), (20, .ref 363000)], [(104, .box 80 [.v Q4 s472.2.2.1, .v Q2 s472.2.2.2.1, .v Q0 v707]), (243, .arr 29 eBlk s472.2.2.2.2.2), (337000, .box 134 [.v Q0 z709.1, .v Q1 z709.2]), (363000, .arr 29 eBlk x892)]⟩) ho891 (Sw.Sub.mk id (.c rfl (.c rfl (.c rfl (.c rfl (.c rfl (.c rfl (.c rfl (.c rfl (.c rfl (.c rfl (.c rfl (.c rfl .nil)))))))))))) (.box rfl (.c rfl (.c rfl (.c rfl .nil))) (.arr rfl (.box rfl (.c rfl (.c rfl .nil)) (.arr rfl .nil)))) rfl) ?_ ?_
       ·intro x892 hy
        have h := hb891 _ hy
        refine W.seq ?_
        obtain ⟨v897, hv897, h⟩ := bind_e h
        refine W.reg (σ' := ⟨[(0, .v Q5 a0), (1, .v Q0 (ar .add .i64 (1 : Int) v5)), (2, .v Q0 v6), (3, .v Q5 a3), (9, .ptr 104 0), (11, .ref 243), (12, .v Q0 s472.1), (13, .v Q0 s472.2.1), (15, .ptr 337000 0), (16, .v (Enc.err ET) v897.1), (20, .ref 363000)], [(104, .box 80 [.v Q4 s472.2.2.1, .v Q2 s472.2.2.2.1, .v Q0 v707]), (243, .arr 29 eBlk s472.2.2.2.2.2), (337000, .box 134 [.v Q0 v897.2.1, .v Q1 v897.2.2]), (363000, .arr 29 eBlk x892)]⟩) (J.mv rfl (J.mv rfl (J.mv rfl (J.k (JO.arith rfl rfl rfl) (J.mv rfl (J.k (JO.arith rfl rfl rfl) (J.t (JM.callM (H := [337000]) (K := [337000]) (swp [(9000, 337000)]) (swp_inj _) (fun A => con_store_Store_Commit_io A hv897) Try.call29 (.cons (.dir rfl) (.cons (.dir rfl) (.cons (.dir rfl) (.cons (.dir rfl) .nil)))) (fun A => (.box rfl .nil)) (fun A => (.box rfl .nil rfl)) (fun _ => rfl) rfl rfl (fun _ => rfl) rfl rfl) (J.k (JO.assign rfl) (J.fin (Sw.Sub.mk id (.c rfl (.c rfl (.c rfl (.c rfl (.c rfl (.c rfl (.c rfl (.c rfl (.c rfl (.c rfl (.c rfl .nil))))))))))) (.box rfl (.c rfl (.c rfl (.c rfl .nil))) (.arr rfl (.box rfl (.c rfl (.c rfl .nil)) (.arr rfl .nil)))) rfl)))))))))) ?_
        refine W.seq ?_
        refine W.seq ?_
        obtain ⟨x899, hx, h⟩ := bind_e h
        refine W.reg (σ' := ⟨[(0, .v Q5 a0), (1, .v Q0 (ar .add .i64 (1 : Int) v5)), (2, .v Q0 v6), (3, .v Q5 a3), (9, .ptr 104 0), (11, .ref 243), (12, .v Q0 s472.1), (13, .v Q0 s472.2.1), (15, .ptr 337000 0), (16, .v (Enc.err ET) v897.1), (20, .ref 363000), (129, .v Enc.bool x899)], [(104, .box 80 [.v Q4 s472.2.2.1, .v Q2 s472.2.2.2.1, .v Q0 v707]), (243, .arr 29 eBlk s472.2.2.2.2.2), (337000, .box 134 [.v Q0 v897.2.1, .v Q1 v897.2.2]), (363000, .arr 29 eBlk x892)]⟩) ?_ ?_
        ·rcases Bool.eq_false_or_eq_true (Option.isSome v897.1) with hc900 | hc900
         ·replace hx := cond_t hc900 hx
          obtain rfl := Option.some.inj hx
          exact (J.mv rfl (J.k (JO.errNe Try.runUnderlying34 rfl) (J.mv rfl (J.m 125 hc900 (JO.move rfl) (J.m 125 hc900 (JO.mkErr Try.runUnderlying86 rfl) (J.m 125 hc900 (JO.errNe2 Try.runUnderlying34 Try.runUnderlying86 Try.typeInfo86 rfl rfl rfl) (J.k (JO.pT hc900 rfl rfl) (J.fin (Sw.Sub.mk id (.c rfl (.c rfl (.c rfl (.c rfl (.c rfl (.c rfl (.c rfl (.c rfl (.c rfl (.c rfl (.c rfl (.c rfl .nil)))))))))))) (.box rfl (.c rfl (.c rfl (.c rfl .nil))) (.arr rfl (.box rfl (.c rfl (.c rfl .nil)) (.arr rfl .nil)))) rfl)))))))))
         ·replace hx := cond_f hc900 hx
          obtain rfl := Option.some.inj hx
          exact (J.mv rfl (J.k (JO.errNe Try.runUnderlying34 rfl) (J.mv rfl (J.u 125 hc900 (J.u 125 hc900 (J.u 125 hc900 (J.k (JO.pF hc900 rfl rfl) (J.fin (Sw.Sub.mk id (.c rfl (.c rfl (.c rfl (.c rfl (.c rfl (.c rfl (.c rfl (.c rfl (.c rfl (.c rfl (.c rfl (.c rfl .nil)))))))))))) (.box rfl (.c rfl (.c rfl (.c rfl .nil))) (.arr rfl (.box rfl (.c rfl (.c rfl .nil)) (.arr rfl .nil)))) rfl)))))))))
        rcases Bool.eq_false_or_eq_true x899 with hc901 | hc901
        ·replace h := cond_t hc901 h
         refine W.condT rfl hc901 ?_
         refine W.seq ?_
         refine W.reg (σ' := ⟨[(8, .v Enc.bool false)], []⟩) (J.k (JO.assign rfl) (J.fin (Sw.Sub.mk id (.c rfl .nil) .nil rfl))) ?_
         refine W.ret ?_
         refine XQ.ret ?_
         obtain rfl := Option.some.inj h
         refine XQ.lret fun ho => ?_
         obtain rfl := hr703 _ ho
         exact XQ.sub (σ' := ⟨[(8, .v Enc.bool false)], []⟩) (Sw.Sub.mk id (.c rfl .nil) .nil rfl) (XQ.ret1 hF noR rfl (RV.tmp rfl) .nil rfl)
        ·replace h := cond_f hc901 h
         refine W.condF rfl hc901 ?_
         refine W.skip ?_
         refine W.seq ?_
         obtain ⟨v902, hv902, h⟩ := bind_e h
         obtain ⟨v903, hv903, h⟩ := bind_e h
         obtain ⟨v904, hv904, h⟩ := bind_e h
         obtain ⟨v906, hv906, h⟩ := bind_e h
         refine W.reg (σ' := ⟨[(0, .v Q5 a0), (1, .v Q0 (ar .add .i64 (1 : Int) v5)), (2, .v Q0 v6), (3, .v Q5 a3), (9, .ptr 104 0), (11, .ref 243), (12, .v Q0 s472.1), (13, .v Q0 s472.2.1), (16, .v (Enc.err ET) v897.1), (20, .ref 363000), (22, .ptr 368 0), (23, .v (Enc.err ET) v906.2)], [(104, .box 80 [.v Q4 s472.2.2.1, .v Q2 s472.2.2.2.1, .v Q0 v707]), (243, .arr 29 eBlk s472.2.2.2.2.2), (363000, .arr 29 eBlk x892), (368, .box 80 [.v Q4 v906.1.1, .v Q2 v906.1.2.1, .v Q0 v906.1.2.2])]⟩) (J.mv rfl (J.k (JO.callL 364000 (con_store_Store_Disk hv902) Try.call30 (.cons (.lendP rfl rfl (.prm (.one _ _) (.one _ _))) .nil) rfl (FlatS.agg (.ref (.ref (.v .nil)))) (FlatN.arr (FlatN.arr FlatN.nil))) (J.mv rfl (J.mv rfl (J.mv rfl (J.k (JO.arith rfl rfl rfl) (J.mv rfl (J.k (JO.len rfl Try.runUnderlying22) (J.k (JO.arith rfl rfl rfl) (J.k (JO.call0 (con_ref_Pick hv903) Try.call8 (.cons (.dir rfl) (.cons (.dir rfl) .nil))) (J.k (JO.slLo hv904 rfl rfl Try.runUnderlying22 Try.sizeOf3) (J.sub (σ' := ⟨[(0, .v Q5 a0), (1, .v Q0 (ar .add .i64 (1 : Int) v5)), (2, .v Q0 v6), (3, .v Q5 a3), (9, .ptr 104 0), (11, .ref 243), (12, .v Q0 s472.1), (13, .v Q0 s472.2.1), (15, .ptr 337000 0), (16, .v (Enc.err ET) v897.1), (20, .ref 363000), (129, .v Enc.bool x899), (131, .ptr 337000 0), (132, .agg [.v Q4 v902.1, .v Q2 v902.2.1, .v Q0 v902.2.2]), (133, .v Q5 a0), (134, .v Q0 v6), (135, .v Q0 s472.2.1), (136, .v Q0 (ar .add .i64 v6 s472.2.1)), (137, .v Q5 a0), (138, .v Q0 (a0.length : Int)), (139, .v Q0 (ar .add .i64 (a0.length : Int) (1 : Int))), (140, .v Q0 v903), (141, .v Q5 v904)], [(104, .box 80 [.v Q4 s472.2.2.1, .v Q2 s472.2.2.2.1, .v Q0 v707]), (243, .arr 29 eBlk s472.2.2.2.2.2), (337000, .box 134 [.v Q0 v897.2.1, .v Q1 v897.2.2]), (363000, .arr 29 eBlk x892)]⟩) (Sw.Sub.mk id (.c rfl (.c rfl (.c rfl (.c rfl (.c rfl (.c rfl (.c rfl (.c rfl (.c rfl (.c rfl (.c rfl (.c rfl (.c rfl (.cons rfl (.agg (.cons (.frz rfl rfl) (.cons (.frz rfl rfl) (.c rfl .nil)))) (.c rfl (.c rfl (.c rfl (.c rfl (.c rfl (.c rfl (.c rfl (.c rfl (.c rfl .nil))))))))))))))))))))))) (.box rfl (.c rfl (.c rfl (.c rfl .nil))) (.arr rfl (.box rfl (.c rfl (.c rfl .nil)) (.arr rfl .nil)))) rfl) (J.k (JO.call0 (con_disk_Crash hv906) Try.call28 (.cons (.agg rfl (.same (.same (.same .nil))) (.prm (.one _ _) (.prm (.one _ _) (.one _ _))) rfl) (.cons (.dir rfl) .nil))) (J.mv rfl (J.k (JO.extract rfl rfl) (J.k (JO.extract rfl rfl) (J.k (JO.alloc 368 Try.zeroValue80 rfl (.cons (Z.sl eBlk) (.cons (Z.sl Q6) (.cons (Z.int .i64) .nil))) rfl) (J.t (JM.storeAll rfl rfl rfl rfl (.prm (.one _ _) (.prm (.one _ _) (.one _ _))) Try.sizeOf80) (J.k (JO.assign rfl) (J.fin (Sw.Sub.mk id (.c rfl (.c rfl (.c rfl (.c rfl (.c rfl (.c rfl (.c rfl (.c rfl (.c rfl (.c rfl (.c rfl (.c rfl .nil)))))))))))) (.box rfl (.c rfl (.c rfl (.c rfl .nil))) (.arr rfl (.arr rfl (.box rfl (.c rfl (.c rfl (.c rfl .nil))) .nil)))) rfl))))))))))))))))))))) ?_
         refine W.seq ?_
         refine W.seq ?_
         refine W.reg (σ' := ⟨[(0, .v Q5 a0), (1, .v Q0 (ar .add .i64 (1 : Int) v5)), (2, .v Q0 v6), (3, .v Q5 a3), (9, .ptr 104 0), (11, .ref 243), (12, .v Q0 s472.1), (13, .v Q0 s472.2.1), (16, .v (Enc.err ET) v897.1), (20, .ref 363000), (22, .ptr 368 0), (146, .v Enc.bool (Option.isSome v906.2))], [(104, .box 80 [.v Q4 s472.2.2.1, .v Q2 s472.2.2.2.1, .v Q0 v707]), (243, .arr 29 eBlk s472.2.2.2.2.2), (363000, .arr 29 eBlk x892), (368, .box 80 [.v Q4 v906.1.1, .v Q2 v906.1.2.1, .v Q0 v906.1.2.2])]⟩) (J.mv rfl (J.k (JO.errNe Try.runUnderlying34 rfl) (J.fin (Sw.Sub.mk id (.c rfl (.c rfl (.c rfl (.c rfl (.c rfl (.c rfl (.c rfl (.c rfl (.c rfl (.c rfl (.c rfl (.c rfl .nil)))))))))))) (.box rfl (.c rfl (.c rfl (.c rfl .nil))) (.arr rfl (.arr rfl (.box rfl (.c rfl (.c rfl (.c rfl .nil))) .nil)))) rfl)))) ?_
         rcases Bool.eq_false_or_eq_true (Option.isSome v906.2) with hc907 | hc907
         ·replace h := cond_t hc907 h
          refine W.condT rfl hc907 ?_
          refine W.seq ?_
          refine W.reg (σ' := ⟨[(8, .v Enc.bool false)], []⟩) (J.k (JO.assign rfl) (J.fin (Sw.Sub.mk id (.c rfl .nil) .nil rfl))) ?_
          refine W.ret ?_
          refine XQ.ret ?_
          obtain rfl := Option.some.inj h
          refine XQ.lret fun ho => ?_
          obtain rfl := hr703 _ ho
          exact XQ.sub (σ' := ⟨[(8, .v Enc.bool false)], []⟩) (Sw.Sub.mk id (.c rfl .nil) .nil rfl) (XQ.ret1 hF noR rfl (RV.tmp rfl) .nil rfl)
         ·replace h := cond_f hc907 h
          refine W.condF rfl hc907 ?_
          refine W.skip ?_
          refine W.seq ?_
          refine W.reg (σ' := ⟨[(0, .v Q5 a0), (1, .v Q0 (ar .add .i64 (1 : Int) v5)), (2, .v Q0 v6), (3, .v Q5 a3), (9, .ptr 104 0), (11, .ref 243), (12, .v Q0 s472.1), (13, .v Q0 s472.2.1), (16, .v (Enc.err ET) v897.1), (20, .ref 363000)], [(104, .box 80 [.v Q4 v906.1.1, .v Q2 v906.1.2.1, .v Q0 v906.1.2.2]), (243, .arr 29 eBlk s472.2.2.2.2.2), (363000, .arr 29 eBlk x892)]⟩) (J.k (JO.loadAll rfl rfl (.prm (.one _ _) (.prm (.one _ _) (.one _ _))) Try.isAgg80 Try.sizeOf80) (J.t (JM.storeAll rfl rfl rfl rfl (.prm (.one _ _) (.prm (.one _ _) (.one _ _))) Try.sizeOf80) (J.fin (Sw.Sub.mk id (.c rfl (.c rfl (.c rfl (.c rfl (.c rfl (.c rfl (.c rfl (.c rfl (.c rfl (.c rfl .nil)))))))))) (.box rfl (.c rfl (.c rfl (.c rfl .nil))) (.arr rfl (.arr rfl .nil))) rfl)))) ?_
          refine W.seq ?_
          obtain ⟨v908, hv908, h⟩ := bind_e h
          rcases hz909 : v908.1 with _ | z909
          ·replace h := ocase_n hz909 h
           refine W.reg (σ' := ⟨[(0, .v Q5 a0), (1, .v Q0 (ar .add .i64 (1 : Int) v5)), (2, .v Q0 v6), (3, .v Q5 a3), (9, .ptr 104 0), (11, .ref 243), (12, .v Q0 s472.1), (13, .v Q0 s472.2.1), (16, .v (Enc.err ET) v897.1), (20, .ref 363000), (23, .v (Enc.err ET) v908.2), (24, .v (Enc.ptN (Enc.pr Q0 Q1)) (none : (Option (Int × Q3))))], [(104, .box 80 [.v Q4 v906.1.1, .v Q2 v906.1.2.1, .v Q0 v906.1.2.2]), (243, .arr 29 eBlk s472.2.2.2.2.2), (363000, .arr 29 eBlk x892)]⟩) (J.k (JO.loadAll rfl rfl (.prm (.one _ _) (.prm (.one _ _) (.one _ _))) Try.isAgg80 Try.sizeOf80) (J.mv rfl (J.k (JO.call0 (con_store_Open_n hz909 hv908) Try.call27 (.cons (.dir rfl) (.cons (.dir rfl) .nil))) (J.mv rfl (J.k (JO.extract rfl rfl) (J.k (JO.extract rfl rfl) (J.k (JO.assign rfl) (J.k (JO.assign rfl) (J.fin (Sw.Sub.mk id (.c rfl (.c rfl (.c rfl (.c rfl (.c rfl (.c rfl (.c rfl (.c rfl (.c rfl (.c rfl (.c rfl (.c rfl .nil)))))))))))) (.box rfl (.c rfl (.c rfl (.c rfl .nil))) (.arr rfl (.arr rfl .nil))) rfl)))))))))) ?_
           refine W.seq ?_
           refine W.seq ?_
           obtain ⟨x911, hx, h⟩ := bind_e h
           refine W.reg (σ' := ⟨[(0, .v Q5 a0), (1, .v Q0 (ar .add .i64 (1 : Int) v5)), (2, .v Q0 v6), (3, .v Q5 a3), (9, .ptr 104 0), (11, .ref 243), (12, .v Q0 s472.1), (13, .v Q0 s472.2.1), (16, .v (Enc.err ET) v897.1), (20, .ref 363000), (24, .v (Enc.ptN (Enc.pr Q0 Q1)) (none : (Option (Int × Q3)))), (159, .v Enc.bool true)], [(104, .box 80 [.v Q4 v906.1.1, .v Q2 v906.1.2.1, .v Q0 v906.1.2.2]), (243, .arr 29 eBlk s472.2.2.2.2.2), (363000, .arr 29 eBlk x892)]⟩) ?_ ?_
           ·rcases Bool.eq_false_or_eq_true (Option.isSome v908.2) with hc912 | hc912
            ·replace hx := cond_t hc912 hx
             obtain rfl := Option.some.inj hx
             exact (J.mv rfl (J.k (JO.errNe Try.runUnderlying34 rfl) (J.mv rfl (J.u 156 hc912 (J.u 156 hc912 (J.k (JO.pT hc912 rfl rfl) (J.fin (Sw.Sub.mk id (.c rfl (.c rfl (.c rfl (.c rfl (.c rfl (.c rfl (.c rfl (.c rfl (.c rfl (.c rfl (.c rfl (.c rfl .nil)))))))))))) (.box rfl (.c rfl (.c rfl (.c rfl .nil))) (.arr rfl (.arr rfl .nil))) rfl))))))))
            ·replace hx := cond_f hc912 hx
             obtain rfl := Option.some.inj hx
             exact (J.mv rfl (J.k (JO.errNe Try.runUnderlying34 rfl) (J.mv rfl (J.m 156 hc912 (JO.move rfl) (J.m 156 hc912 (JO.ptEq rfl Try.runUnderlying83) (J.k (JO.pF hc912 rfl rfl) (J.fin (Sw.Sub.mk id (.c rfl (.c rfl (.c rfl (.c rfl (.c rfl (.c rfl (.c rfl (.c rfl (.c rfl (.c rfl (.c rfl (.c rfl .nil)))))))))))) (.box rfl (.c rfl (.c rfl (.c rfl .nil))) (.arr rfl (.arr rfl .nil))) rfl))))))))
           refine W.condT rfl rfl ?_
           refine W.seq ?_
           refine W.reg (σ' := ⟨[(8, .v Enc.bool false)], []⟩) (J.k (JO.assign rfl) (J.fin (Sw.Sub.mk id (.c rfl .nil) .nil rfl))) ?_
           refine W.ret ?_
           refine XQ.ret ?_
           obtain rfl := Option.some.inj h
           refine XQ.lret fun ho => ?_
           obtain rfl := hr703 _ ho
           exact XQ.sub (σ' := ⟨[(8, .v Enc.bool false)], []⟩) (Sw.Sub.mk id (.c rfl .nil) .nil rfl) (XQ.ret1 hF noR rfl (RV.tmp rfl) .nil rfl)
          ·replace h := ocase_s hz909 h
           refine W.reg (σ' := ⟨[(0, .v Q5 a0), (1, .v Q0 (ar .add .i64 (1 : Int) v5)), (2, .v Q0 v6), (3, .v Q5 a3), (9, .ptr 104 0), (11, .ref 243), (12, .v Q0 s472.1), (13, .v Q0 s472.2.1), (16, .v (Enc.err ET) v897.1), (20, .ref 363000), (23, .v (Enc.err ET) v908.2), (24, .ptr 370000 0)], [(104, .box 80 [.v Q4 v906.1.1, .v Q2 v906.1.2.1, .v Q0 v906.1.2.2]), (243, .arr 29 eBlk s472.2.2.2.2.2), (363000, .arr 29 eBlk x892), (370000, .box 134 [.v Q0 z909.1, .v Q1 z909.2])]⟩) (J.k (JO.loadAll rfl rfl (.prm (.one _ _) (.prm (.one _ _) (.one _ _))) Try.isAgg80 Try.sizeOf80) (J.mv rfl (J.k (JO.call 370000 (con_store_Open_s hz909 hv908) Try.call27 (.cons (.dir rfl) (.cons (.dir rfl) .nil)) rfl) (J.mv rfl (J.k (JO.extract rfl rfl) (J.k (JO.extract rfl rfl) (J.k (JO.assign rfl) (J.k (JO.assign rfl) (J.fin (Sw.Sub.mk id (.c rfl (.c rfl (.c rfl (.c rfl (.c rfl (.c rfl (.c rfl (.c rfl (.c rfl (.c rfl (.c rfl (.c rfl .nil)))))))))))) (.box rfl (.c rfl (.c rfl (.c rfl .nil))) (.arr rfl (.arr rfl (.box rfl (.c rfl (.c rfl .nil)) .nil)))) rfl)))))))))) ?_
           refine W.seq ?_
           refine W.seq ?_
           obtain ⟨x915, hx, h⟩ := bind_e h
           refine W.reg (σ' := ⟨[(0, .v Q5 a0), (1, .v Q0 (ar .add .i64 (1 : Int) v5)), (2, .v Q0 v6), (3, .v Q5 a3), (9, .ptr 104 0), (11, .ref 243), (12, .v Q0 s472.1), (13, .v Q0 s472.2.1), (16, .v (Enc.err ET) v897.1), (20, .ref 363000), (24, .ptr 370000 0), (159, .v Enc.bool x915)], [(104, .box 80 [.v Q4 v906.1.1, .v Q2 v906.1.2.1, .v Q0 v906.1.2.2]), (243, .arr 29 eBlk s472.2.2.2.2.2), (363000, .arr 29 eBlk x892), (370000, .box 134 [.v Q0 z909.1, .v Q1 z909.2])]⟩) ?_ ?_
           ·rcases Bool.eq_false_or_eq_true (Option.isSome v908.2) with hc916 | hc916
            ·replace hx := cond_t hc916 hx
             obtain rfl := Option.some.inj hx
             exact (J.mv rfl (J.k (JO.errNe Try.runUnderlying34 rfl) (J.mv rfl (J.u 156 hc916 (J.u 156 hc916 (J.k (JO.pT hc916 rfl rfl) (J.fin (Sw.Sub.mk id (.c rfl (.c rfl (.c rfl (.c rfl (.c rfl (.c rfl (.c rfl (.c rfl (.c rfl (.c rfl (.c rfl (.c rfl .nil)))))))))))) (.box rfl (.c rfl (.c rfl (.c rfl .nil))) (.arr rfl (.arr rfl (.box rfl (.c rfl (.c rfl .nil)) .nil)))) rfl))))))))
            ·replace hx := cond_f hc916 hx
             obtain rfl := Option.some.inj hx
             exact (J.mv rfl (J.k (JO.errNe Try.runUnderlying34 rfl) (J.mv rfl (J.m 156 hc916 (JO.move rfl) (J.m 156 hc916 (JO.ptrEqN rfl Try.runUnderlying83) (J.k (JO.pF hc916 rfl rfl) (J.fin (Sw.Sub.mk id (.c rfl (.c rfl (.c rfl (.c rfl (.c rfl (.c rfl (.c rfl (.c rfl (.c rfl (.c rfl (.c rfl (.c rfl .nil)))))))))))) (.box rfl (.c rfl (.c rfl (.c rfl .nil))) (.arr rfl (.arr rfl (.box rfl (.c rfl (.c rfl .nil)) .nil)))) rfl))))))))
           rcases Bool.eq_false_or_eq_true x915 with hc917 | hc917
           ·replace h := cond_t hc917 h
            refine W.condT rfl hc917 ?_
            refine W.seq ?_
            refine W.reg (σ' := ⟨[(8, .v Enc.bool false)], []⟩) (J.k (JO.assign rfl) (J.fin (Sw.Sub.mk id (.c rfl .nil) .nil rfl))) ?_
            refine W.ret ?_
            refine XQ.ret ?_
            obtain rfl := Option.some.inj h
            refine XQ.lret fun ho => ?_
            obtain rfl := hr703 _ ho
            exact XQ.sub (σ' := ⟨[(8, .v Enc.bool false)], []⟩) (Sw.Sub.mk id (.c rfl .nil) .nil rfl) (XQ.ret1 hF noR rfl (RV.tmp rfl) .nil rfl)
           ·replace h := cond_f hc917 h
            refine W.condF rfl hc917 ?_
            refine W.skip ?_
            refine W.seq ?_
            refine W.seq ?_
            obtain ⟨v918, hv918, h⟩ := bind_e h
            refine W.reg (σ' := ⟨[(0, .v Q5 a0), (1, .v Q0 (ar .add .i64 (1 : Int) v5)), (2, .v Q0 v6), (3, .v Q5 a3), (9, .ptr 104 0), (11, .ref 243), (12, .v Q0 s472.1), (13, .v Q0 s472.2.1), (16, .v (Enc.err ET) v897.1), (20, .ref 363000), (24, .ptr 370000 0), (164, .v Enc.bool v918)], [(104, .box 80 [.v Q4 v906.1.1, .v Q2 v906.1.2.1, .v Q0 v906.1.2.2]), (243, .arr 29 eBlk s472.2.2.2.2.2), (363000, .arr 29 eBlk x892), (370000, .box 134 [.v Q0 z909.1, .v Q1 z909.2])]⟩) (J.mv rfl (J.mv rfl (J.mv rfl (J.k (JO.arith rfl rfl rfl) (J.k (JO.callL0 (con_top_as hv918) Try.call31 (.cons (.lendP rfl rfl (.prm (.one _ _) (.one _ _))) (.cons (.ref rfl rfl) (.cons (.dir rfl) .nil))) FlatS.v) (J.fin (Sw.Sub.mk id (.c rfl (.c rfl (.c rfl (.c rfl (.c rfl (.c rfl (.c rfl (.c rfl (.c rfl (.c rfl (.c rfl (.c rfl .nil)))))))))))) (.box rfl (.c rfl (.c rfl (.c rfl .nil))) (.arr rfl (.arr rfl (.box rfl (.c rfl (.c rfl .nil)) .nil)))) rfl))))))) ?_
            obtain ⟨k926, hk926, h⟩ := jp_elim h
            refine W.jn (fun x927 : Int × (List Blk) => ⟨[(0, .v Q5 a0), (1, .v Q0 (ar .add .i64 (1 : Int) v5)), (2, .v Q0 v6), (3, .v Q5 a3), (9, .ptr 104 0), (11, .ref 374), (12, .v Q0 x927.1), (13, .v Q0 s472.2.1), (24, .ptr 370000 0)], [(104, .box 80 [.v Q4 v906.1.1, .v Q2 v906.1.2.1, .v Q0 v906.1.2.2]), (374, .arr 29 eBlk x927.2), (370000, .box 134 [.v Q0 z909.1, .v Q1 z909.2])]⟩) (fun x => k926 x = some r703) rfl ?_ ?_ ?_
            ·intro x927 h
             rw [hk926] at h
             obtain ⟨v934, hv934, h⟩ := bind_e h
             refine W.reg (σ' := ⟨[(0, .v Q5 a0), (1, .v Q0 (ar .add .i64 (1 : Int) v5)), (2, .v Q0 v6), (3, .v Q5 a3), (9, .ptr 104 0), (11, .ref 374), (12, .v Q0 x927.1), (13, .v Q0 s472.2.1)], [(104, .box 80 [.ref 377000, .ref 377001, .v Q0 v934.2.2]), (374, .arr 29 eBlk x927.2), (377000, .arr 29 eBlk v934.1), (377001, .arr 41 Q6 v934.2.1)]⟩) (J.mv rfl (J.k (JO.callL 377000 (con_store_Store_Disk hv934) Try.call30 (.cons (.lendP rfl rfl (.prm (.one _ _) (.one _ _))) .nil) rfl (FlatS.agg (.ref (.ref (.v .nil)))) (FlatN.arr (FlatN.arr FlatN.nil))) (J.t (JM.storeAgg rfl rfl rfl rfl rfl rfl Try.sizeOf80) (J.fin (Sw.Sub.mk id (.c rfl (.c rfl (.c rfl (.c rfl (.c rfl (.c rfl (.c rfl (.c rfl .nil)))))))) (.box rfl (.c rfl (.c rfl (.c rfl .nil))) (.arr rfl (.arr rfl (.arr rfl .nil)))) rfl))))) ?_
             refine W.fall ?_
             refine W.reg (σ' := ⟨[(0, .v Q5 a0), (1, .v Q0 (ar .add .i64 (1 : Int) v5)), (2, .v Q0 v6), (3, .v Q5 a3), (9, .ptr 104 0), (11, .ref 374), (12, .v Q0 x927.1), (13, .v Q0 (ar .add .i64 s472.2.1 (1 : Int)))], [(104, .box 80 [.ref 377000, .ref 377001, .v Q0 v934.2.2]), (374, .arr 29 eBlk x927.2), (377000, .arr 29 eBlk v934.1), (377001, .arr 41 Q6 v934.2.1)]⟩) (J.mv rfl (J.k (JO.arith rfl rfl rfl) (J.k (JO.assign rfl) (J.fin (Sw.Sub.mk id (.c rfl (.c rfl (.c rfl (.c rfl (.c rfl (.c rfl (.c rfl (.c rfl .nil)))))))) (.box rfl (.c rfl (.c rfl (.c rfl .nil))) (.arr rfl (.arr rfl (.arr rfl .nil)))) rfl))))) ?_
             obtain rfl := Option.some.inj h
             exact W.next (Sw.Sub.mk (rn [(104, 104), (243, 374)]) (.c rfl (.c rfl (.c rfl (.c rfl (.c rfl (.c rfl (.c rfl (.c rfl .nil)))))))) (.box rfl (.cons (.frz rfl rfl) (.cons (.frz rfl rfl) (.c rfl .nil))) (.arr rfl .nil)) rfl)
            ·intro hc919
             replace h := cond_t hc919 h
             refine W.seq ?_
             refine W.reg (σ' := ⟨[(0, .v Q5 a0), (1, .v Q0 (ar .add .i64 (1 : Int) v5)), (2, .v Q0 v6), (3, .v Q5 a3), (9, .ptr 104 0), (11, .ref 363000), (13, .v Q0 s472.2.1), (24, .ptr 370000 0)], [(104, .box 80 [.v Q4 v906.1.1, .v Q2 v906.1.2.1, .v Q0 v906.1.2.2]), (363000, .arr 29 eBlk x892), (370000, .box 134 [.v Q0 z909.1, .v Q1 z909.2])]⟩) (J.mv rfl (J.k (JO.assign rfl) (J.fin (Sw.Sub.mk id (.c rfl (.c rfl (.c rfl (.c rfl (.c rfl (.c rfl (.c rfl (.c rfl .nil)))))))) (.box rfl (.c rfl (.c rfl (.c rfl .nil))) (.arr rfl (.box rfl (.c rfl (.c rfl .nil)) .nil))) rfl)))) ?_
             refine W.reg (σ' := ⟨[(0, .v Q5 a0), (1, .v Q0 (ar .add .i64 (1 : Int) v5)), (2, .v Q0 v6), (3, .v Q5 a3), (9, .ptr 104 0), (11, .ref 363000), (12, .v Q0 (ar .add .i64 s472.2.1 (1 : Int))), (13, .v Q0 s472.2.1), (24, .ptr 370000 0)], [(104, .box 80 [.v Q4 v906.1.1, .v Q2 v906.1.2.1, .v Q0 v906.1.2.2]), (363000, .arr 29 eBlk x892), (370000, .box 134 [.v Q0 z909.1, .v Q1 z909.2])]⟩) (J.mv rfl (J.k (JO.arith rfl rfl rfl) (J.k (JO.assign rfl) (J.fin (Sw.Sub.mk id (.c rfl (.c rfl (.c rfl (.c rfl (.c rfl (.c rfl (.c rfl (.c rfl (.c rfl .nil))))))))) (.box rfl (.c rfl (.c rfl (.c rfl .nil))) (.arr rfl (.box rfl (.c rfl (.c rfl .nil)) .nil))) rfl))))) ?_
             exact W.jfall h (Sw.Sub.mk (rn [(104, 104), (374, 363000), (370000, 370000)]) (.c rfl (.c rfl (.c rfl (.c rfl (.c rfl (.c rfl (.c rfl (.c rfl (.c rfl .nil))))))))) (.box rfl (.c rfl (.c rfl (.c rfl .nil))) (.arr rfl (.box rfl (.c rfl (.c rfl .nil)) .nil))) rfl)
            ·intro hc919
             replace h := cond_f hc919 h
             refine W.seq ?_
             obtain ⟨x930, hx, h⟩ := bind_e h
             refine W.reg (σ' := ⟨[(0, .v Q5 a0), (1, .v Q0 (ar .add .i64 (1 : Int) v5)), (2, .v Q0 v6), (3, .v Q5 a3), (9, .ptr 104 0), (11, .ref 243), (12, .v Q0 s472.1), (13, .v Q0 s472.2.1), (24, .ptr 370000 0), (176, .v Enc.bool x930)], [(104, .box 80 [.v Q4 v906.1.1, .v Q2 v906.1.2.1, .v Q0 v906.1.2.2]), (243, .arr 29 eBlk s472.2.2.2.2.2), (370000, .box 134 [.v Q0 z909.1, .v Q1 z909.2])]⟩) ?_ ?_
             ·rcases Bool.eq_false_or_eq_true (Option.isNone v897.1) with hc931 | hc931
              ·replace hx := cond_t hc931 hx
               obtain rfl := Option.some.inj hx
               exact (J.mv rfl (J.k (JO.errEq Try.runUnderlying34 rfl) (J.mv rfl (J.u 170 hc931 (J.u 170 hc931 (J.u 170 hc931 (J.u 170 hc931 (J.u 170 hc931 (J.k (JO.pT hc931 rfl rfl) (J.fin (Sw.Sub.mk id (.c rfl (.c rfl (.c rfl (.c rfl (.c rfl (.c rfl (.c rfl (.c rfl (.c rfl (.c rfl .nil)))))))))) (.box rfl (.c rfl (.c rfl (.c rfl .nil))) (.arr rfl (.box rfl (.c rfl (.c rfl .nil)) .nil))) rfl)))))))))))
              ·replace hx := cond_f hc931 hx
               obtain ⟨v932, hv932, hx⟩ := bind_e hx
               obtain rfl := Option.some.inj hx
               exact (J.mv rfl (J.k (JO.errEq Try.runUnderlying34 rfl) (J.mv rfl (J.m 170 hc931 (JO.move rfl) (J.m 170 hc931 (JO.move rfl) (J.m 170 hc931 (JO.move rfl) (J.m 170 hc931 (JO.callL0 (con_top_as hv932) Try.call31 (.cons (.lendP rfl rfl (.prm (.one _ _) (.one _ _))) (.cons (.ref rfl rfl) (.cons (.dir rfl) .nil))) FlatS.v) (J.m 170 hc931 (JO.not rfl) (J.k (JO.pF hc931 rfl rfl) (J.fin (Sw.Sub.mk id (.c rfl (.c rfl (.c rfl (.c rfl (.c rfl (.c rfl (.c rfl (.c rfl (.c rfl (.c rfl .nil)))))))))) (.box rfl (.c rfl (.c rfl (.c rfl .nil))) (.arr rfl (.box rfl (.c rfl (.c rfl .nil)) .nil))) rfl)))))))))))
             rcases Bool.eq_false_or_eq_true x930 with hc933 | hc933
             ·replace h := cond_t hc933 h
              refine W.condT rfl hc933 ?_
              refine W.seq ?_
              refine W.reg (σ' := ⟨[(8, .v Enc.bool false)], []⟩) (J.k (JO.assign rfl) (J.fin (Sw.Sub.mk id (.c rfl .nil) .nil rfl))) ?_
              refine W.ret ?_
              refine XQ.jret ?_
              refine XQ.ret ?_
              obtain rfl := Option.some.inj h
              refine XQ.lret fun ho => ?_
              obtain rfl := hr703 _ ho
              exact XQ.sub (σ' := ⟨[(8, .v Enc.bool false)], []⟩) (Sw.Sub.mk id (.c rfl .nil) .nil rfl) (XQ.ret1 hF noR rfl (RV.tmp rfl) .nil rfl)
             ·replace h := cond_f hc933 h
              refine W.condF rfl hc933 ?_
              refine W.skip ?_
              exact W.jfall h (Sw.Sub.mk (rn [(104, 104), (374, 243), (370000, 370000)]) (.c rfl (.c rfl (.c rfl (.c rfl (.c rfl (.c rfl (.c rfl (.c rfl (.c rfl .nil))))))))) (.box rfl (.c rfl (.c rfl (.c rfl .nil))) (.arr rfl (.box rfl (.c rfl (.c rfl .nil)) .nil))) rfl)
       intro s886 r891 h
       refine W.seq ?_
       refine W.seq ?_
       refine W.reg (σ' := ⟨[(0, .v Q5 a0), (1, .v Q0 (ar .add .i64 (1 : Int) v5)), (2, .v Q0 v6), (3, .v Q5 a3), (9, .ptr 104 0), (11, .ref 243), (12, .v Q0 s472.1), (13, .v Q0 s472.2.1), (15, .ptr 337000 0), (19, .v Q2 v874), (20, .ref 363000), (21, .v Q0 s886.1), (101, .v Enc.bool (cm .lss s886.1 (v874.length : Int)))], [(104, .box 80 [.v Q4 s472.2.2.1, .v Q2 s472.2.2.2.1, .v Q0 v707]), (243, .arr 29 eBlk s472.2.2.2.2.2), (337000, .box 134 [.v Q0 z709.1, .v Q1 z709.2]), (363000, .arr 29 eBlk s886.2)]⟩) (J.mv rfl (J.mv rfl (J.k (JO.len rfl Try.runUnderlying26) (J.k (JO.cmp rfl rfl rfl) (J.fin (Sw.Sub.mk id (.c rfl (.c rfl (.c rfl (.c rfl (.c rfl (.c rfl (.c rfl (.c rfl (.c rfl (.c rfl (.c rfl (.c rfl (.c rfl .nil))))))))))))) (.box rfl (.c rfl (.c rfl (.c rfl .nil))) (.arr rfl (.box rfl (.c rfl (.c rfl .nil)) (.arr rfl .nil)))) rfl)))))) ?_
       rcases Bool.eq_false_or_eq_true (cm .lss s886.1 (v874.length : Int)) with hc893 | hc893
       ·replace h := cond_t hc893 h
        refine W.condT rfl hc893 ?_
        refine W.skip ?_
        refine W.seq ?_
        refine W.block ?_
        obtain ⟨z894, hz894, h⟩ := bind_e h
        obtain ⟨z895, hz895, h⟩ := bind_e h
        obtain ⟨z896, hz896, h⟩ := bind_e h
        refine W.dr2 (σ' := ⟨[(0, .v Q5 a0), (1, .v Q0 (ar .add .i64 (1 : Int) v5)), (2, .v Q0 v6), (3, .v Q5 a3), (9, .ptr 104 0), (11, .ref 243), (12, .v Q0 s472.1), (13, .v Q0 s472.2.1), (15, .ptr 337000 0), (19, .v Q2 v874), (20, .ref 363000), (21, .v Q0 s886.1)], [(104, .box 80 [.v Q4 s472.2.2.1, .v Q2 s472.2.2.2.1, .v Q0 v707]), (243, .arr 29 eBlk s472.2.2.2.2.2), (337000, .box 134 [.v Q0 z709.1, .v Q1 z709.2]), (363000, .arr 29 eBlk (List.set s886.2 (Int.toNat z894.1) z895.2))]⟩) 12 [0, 0, 0, 6, 14, 30, 0, 0, 192, 448, 960, 2047, 4095] mixed (by exact (.cons (.none rfl) (JO.move rfl) rfl rfl (.cons (.none rfl) (JO.move rfl) rfl rfl (.cons (.none rfl) (JO.move rfl) rfl rfl (.cons (.none rfl) (JO.idx hz894 rfl rfl Try.runUnderlying26 Try.sizeOf41) rfl rfl (.cons (.none rfl) (JO.fieldPst rfl Try.runUnderlying41 rfl Try.sizeOf3 rfl (.fst .here) rfl) rfl rfl (.cons (.none rfl) (JO.loadPst rfl Try.isAgg3 Try.sizeOf3) rfl rfl (.cons (.none rfl) (JO.move rfl) rfl rfl (.cons (.none rfl) (JO.move rfl) rfl rfl (.cons (.none rfl) (JO.idx hz895 rfl rfl Try.runUnderlying26 Try.sizeOf41) rfl rfl (.cons (.none rfl) (JO.fieldPst rfl Try.runUnderlying41 rfl Try.sizeOf29 rfl (.snd .here) rfl) rfl rfl (.cons (.none rfl) (JO.loadPst rfl Try.isAgg29 Try.sizeOf29) rfl rfl (.cons (.none rfl) (JO.idxR hz896 rfl rfl rfl Try.runUnderlying24 Try.sizeOf29) rfl rfl .nil))))))))))))) (by exact (J.t (JM.storeEl (idx_some hz896).2.2 rfl rfl rfl Try.sizeOf29) (J.fin (Sw.Sub.mk id (.c rfl (.c rfl (.c rfl (.c rfl (.c rfl (.c rfl (.c rfl (.c rfl (.c rfl (.c rfl (.c rfl (.c rfl .nil)))))))))))) (.box rfl (.c rfl (.c rfl (.c rfl .nil))) (.arr rfl (.box rfl (.c rfl (.c rfl .nil)) (.arr rfl .nil)))) rfl)))) rfl (by decide +kernel) (by decide +kernel) (by decide +kernel) (by kernel_rfl) ?_
        refine W.fall ?_
        refine W.reg (σ' := ⟨[(0, .v Q5 a0), (1, .v Q0 (ar .add .i64 (1 : Int) v5)), (2, .v Q0 v6), (3, .v Q5 a3), (9, .ptr 104 0), (11, .ref 243), (12, .v Q0 s472.1), (13, .v Q0 s472.2.1), (15, .ptr 337000 0), (19, .v Q2 v874), (20, .ref 363000), (21, .v Q0 (ar .add .i64 s886.1 (1 : Int)))], [(104, .box 80 [.v Q4 s472.2.2.1, .v Q2 s472.2.2.2.1, .v Q0 v707]), (243, .arr 29 eBlk s472.2.2.2.2.2), (337000, .box 134 [.v Q0 z709.1, .v Q1 z709.2]), (363000, .arr 29 eBlk (List.set s886.2 (Int.toNat z894.1) z895.2))]⟩) (J.mv rfl (J.k (JO.arith rfl rfl rfl) (J.k (JO.assign rfl) (J.fin (Sw.Sub.mk id (.c rfl (.c rfl (.c rfl (.c rfl (.c rfl (.c rfl (.c rfl (.c rfl (.c rfl (.c rfl (.c rfl (.c rfl .nil)))))))))))) (.box rfl (.c rfl (.c rfl (.c rfl .nil))) (.arr rfl (.box rfl (.c rfl (.c rfl .nil)) (.arr rfl .nil)))) rfl))))) ?_
        obtain rfl := Option.some.inj h
        exact W.next (Sw.Sub.mk id (.c rfl (.c rfl (.c rfl (.c rfl (.c rfl (.c rfl (.c rfl (.c rfl (.c rfl (.c rfl (.c rfl (.c rfl .nil)))))))))))) (.box rfl (.c rfl (.c rfl (.c rfl .nil))) (.arr rfl (.box rfl (.c rfl (.c rfl .nil)) (.arr rfl .nil)))) rfl)
       ·replace h := cond_f hc893 h
        refine W.condF rfl hc893 ?_
        refine W.exit ?_
        obtain rfl := Option.some.inj h
        exact XQ.brk (Sw.Sub.mk id (.c rfl (.c rfl (.c rfl (.c rfl (.c rfl (.c rfl (.c rfl (.c rfl (.c rfl (.c rfl (.c rfl .nil))))))))))) (.box rfl (.c rfl (.c rfl (.c rfl .nil))) (.arr rfl (.box rfl (.c rfl (.c rfl .nil)) (.arr rfl .nil)))) rfl)
   ·replace h := cond_f hc705 h
    refine W.condF rfl hc705 ?_
    refine W.exit ?_
    obtain rfl := Option.some.inj h
    exact XQ.brk (Sw.Sub.mk id .nil .nil rfl)
end Go.Cn
