/- The functions that this law reaches come to what their models come to. Conditions: none. -/
import Derived.Test.YteckohdbfkhmdacCnATopHad
set_option linter.unusedVariables false
set_option linter.unusedSimpArgs false
namespace Go.Cn
open Go Go.Sw Go.Mo Go.Proofs
set_option maxRecDepth 100000 in
set_option maxHeartbeats 4000000 in
theorem con_top_TopPlan {a0 : (List Int)} {a1 : Int} {a2 : Int} {a3 : Int} {r : Bool} (h : m_top_TopPlan a0 a1 a2 a3 = some r) :
    Con Try.prog 3 [.v (Enc.sl (Enc.int .i64)) a0, .v (Enc.int .i64) a1, .v (Enc.int .i64) a2, .v (Enc.int .i64) a3] (.v Enc.bool r) [] := by
  refine Con.of Try.func3 rfl Try.ntmps3 rfl ?_
  intro S w hF
  unfold m_top_TopPlan at h
  refine W.seq ?_
  refine W.reg (σ' := ⟨[(0, .v (Enc.sl (Enc.int .i64)) a0), (1, .v (Enc.int .i64) a1), (2, .v (Enc.int .i64) a2), (3, .v (Enc.int .i64) a3)], []⟩) (J.cons (.none rfl) (JO.assign rfl) rfl rfl (J.fin (Sw.Sub.mk id (.cons rfl (.of_eq rfl) (.cons rfl (.of_eq rfl) (.cons rfl (.of_eq rfl) (.cons rfl (.of_eq rfl) .nil)))) .nil rfl))) ?_
  refine W.seq ?_
  refine W.seq ?_
  refine W.reg (σ' := ⟨[(0, .v (Enc.sl (Enc.int .i64)) a0), (1, .v (Enc.int .i64) a1), (2, .v (Enc.int .i64) a2), (3, .v (Enc.int .i64) a3), (25, .v Enc.bool (cm .gtr (a0.length : Int) (128 : Int)))], []⟩) (J.cons (.none rfl) (JO.move rfl) rfl rfl (J.cons (.none rfl) (JO.len rfl Try.runUnderlying22) rfl rfl (J.cons (.none rfl) (JO.cmp rfl rfl rfl) rfl rfl (J.fin (Sw.Sub.mk id (.cons rfl (.of_eq rfl) (.cons rfl (.of_eq rfl) (.cons rfl (.of_eq rfl) (.cons rfl (.of_eq rfl) (.cons rfl (.of_eq rfl) .nil))))) .nil rfl))))) ?_
  rcases Bool.eq_false_or_eq_true (cm .gtr (a0.length : Int) (128 : Int)) with hc1 | hc1
  · replace h := cond_t hc1 h
    refine W.condT rfl hc1 ?_
    refine W.seq ?_
    refine W.reg (σ' := ⟨[(8, .v Enc.bool true)], []⟩) (J.cons (.none rfl) (JO.assign rfl) rfl rfl (J.fin (Sw.Sub.mk id (.cons rfl (.of_eq rfl) .nil) .nil rfl))) ?_
    refine W.ret ?_
    obtain rfl := Option.some.inj h
    exact XQ.sub (σ' := ⟨[(8, .v Enc.bool true)], []⟩) (Sw.Sub.mk id (.cons rfl (.of_eq rfl) .nil) .nil rfl) (XQ.ret1 hF noR rfl (RV.tmp rfl) .nil rfl)
  · replace h := cond_f hc1 h
    refine W.condF rfl hc1 ?_
    refine W.skip ?_
    refine W.seq ?_
    obtain ⟨v2, hv2, h⟩ := bind_e h
    refine W.reg (σ' := ⟨[(0, .v (Enc.sl (Enc.int .i64)) a0), (1, .v (Enc.int .i64) (ar .add .i64 (1 : Int) v2)), (2, .v (Enc.int .i64) a2), (3, .v (Enc.int .i64) a3)], []⟩) (J.cons (.none rfl) (JO.move rfl) rfl rfl (J.cons (.none rfl) (JO.call0 (con_ref_Pick hv2) Try.call8 (.cons (.dir rfl) (.cons (.dir rfl) .nil))) rfl rfl (J.cons (.none rfl) (JO.arith rfl rfl rfl) rfl rfl (J.cons (.none rfl) (JO.assign rfl) rfl rfl (J.fin (Sw.Sub.mk id (.cons rfl (.of_eq rfl) (.cons rfl (.of_eq rfl) (.cons rfl (.of_eq rfl) (.cons rfl (.of_eq rfl) .nil)))) .nil rfl)))))) ?_
    refine W.seq ?_
    obtain ⟨v3, hv3, h⟩ := bind_e h
    refine W.reg (σ' := ⟨[(0, .v (Enc.sl (Enc.int .i64)) a0), (1, .v (Enc.int .i64) (ar .add .i64 (1 : Int) v2)), (2, .v (Enc.int .i64) v3), (3, .v (Enc.int .i64) a3)], []⟩) (J.cons (.none rfl) (JO.move rfl) rfl rfl (J.cons (.none rfl) (JO.call0 (con_ref_Pick hv3) Try.call8 (.cons (.dir rfl) (.cons (.dir rfl) .nil))) rfl rfl (J.cons (.none rfl) (JO.assign rfl) rfl rfl (J.fin (Sw.Sub.mk id (.cons rfl (.of_eq rfl) (.cons rfl (.of_eq rfl) (.cons rfl (.of_eq rfl) (.cons rfl (.of_eq rfl) .nil)))) .nil rfl))))) ?_
    refine W.seq ?_
    obtain ⟨v4, hv4, h⟩ := bind_e h
    refine W.reg (σ' := ⟨[(0, .v (Enc.sl (Enc.int .i64)) a0), (1, .v (Enc.int .i64) (ar .add .i64 (1 : Int) v2)), (2, .v (Enc.int .i64) v3), (3, .v (Enc.int .i64) a3), (9, .v (Enc.sl eBlk) v4)], []⟩) (J.cons (.none rfl) (JO.move rfl) rfl rfl (J.cons (.none rfl) (JO.move rfl) rfl rfl (J.cons (.none rfl) (JO.move rfl) rfl rfl (J.cons (.none rfl) (JO.call0 (con_ref_BlocksFrom hv4) Try.call9 (.cons (.dir rfl) (.cons (.dir rfl) (.cons (.dir rfl) .nil)))) rfl rfl (J.cons (.none rfl) (JO.assign rfl) rfl rfl (J.fin (Sw.Sub.mk id (.cons rfl (.of_eq rfl) (.cons rfl (.of_eq rfl) (.cons rfl (.of_eq rfl) (.cons rfl (.of_eq rfl) (.cons rfl (.of_eq rfl) .nil))))) .nil rfl))))))) ?_
    refine W.seq ?_
    obtain ⟨v5, hv5, h⟩ := bind_e h
    refine W.reg (σ' := ⟨[(0, .v (Enc.sl (Enc.int .i64)) a0), (1, .v (Enc.int .i64) (ar .add .i64 (1 : Int) v2)), (2, .v (Enc.int .i64) v3), (3, .v (Enc.int .i64) a3), (9, .v (Enc.sl eBlk) v4), (10, .v (Enc.sl (Enc.pr (Enc.int .i64) eBlk)) v5)], []⟩) (J.cons (.none rfl) (JO.move rfl) rfl rfl (J.cons (.none rfl) (JO.move rfl) rfl rfl (J.cons (.none rfl) (JO.arith rfl rfl rfl) rfl rfl (J.cons (.none rfl) (JO.move rfl) rfl rfl (J.cons (.none rfl) (JO.call0 (con_ref_PutsFrom hv5) Try.call10 (.cons (.dir rfl) (.cons (.dir rfl) (.cons (.dir rfl) .nil)))) rfl rfl (J.cons (.none rfl) (JO.assign rfl) rfl rfl (J.fin (Sw.Sub.mk id (.cons rfl (.of_eq rfl) (.cons rfl (.of_eq rfl) (.cons rfl (.of_eq rfl) (.cons rfl (.of_eq rfl) (.cons rfl (.of_eq rfl) (.cons rfl (.of_eq rfl) .nil)))))) .nil rfl)))))))) ?_
    refine W.seq ?_
    refine W.reg (σ' := ⟨[(0, .v (Enc.sl (Enc.int .i64)) a0), (1, .v (Enc.int .i64) (ar .add .i64 (1 : Int) v2)), (2, .v (Enc.int .i64) v3), (3, .v (Enc.int .i64) a3), (9, .v (Enc.sl eBlk) v4), (10, .v (Enc.sl (Enc.pr (Enc.int .i64) eBlk)) v5), (11, .ref 105)], [(105, .arr 29 eBlk ([] : (List Blk)))]⟩) (J.cons (.none rfl) (JO.assignNilR 105 29 eBlk) rfl rfl (J.fin (Sw.Sub.mk id (.cons rfl (.of_eq rfl) (.cons rfl (.of_eq rfl) (.cons rfl (.of_eq rfl) (.cons rfl (.of_eq rfl) (.cons rfl (.of_eq rfl) (.cons rfl (.of_eq rfl) (.cons rfl (.of_eq rfl) .nil))))))) (.arr rfl .nil) rfl))) ?_
    refine W.seq ?_
    refine W.seq ?_
    refine W.reg (σ' := ⟨[(0, .v (Enc.sl (Enc.int .i64)) a0), (1, .v (Enc.int .i64) (ar .add .i64 (1 : Int) v2)), (2, .v (Enc.int .i64) v3), (3, .v (Enc.int .i64) a3), (9, .v (Enc.sl eBlk) v4), (10, .v (Enc.sl (Enc.pr (Enc.int .i64) eBlk)) v5), (11, .ref 105), (12, .v (Enc.int .i64) (0 : Int))], [(105, .arr 29 eBlk ([] : (List Blk)))]⟩) (J.cons (.none rfl) (JO.assign rfl) rfl rfl (J.fin (Sw.Sub.mk id (.cons rfl (.of_eq rfl) (.cons rfl (.of_eq rfl) (.cons rfl (.of_eq rfl) (.cons rfl (.of_eq rfl) (.cons rfl (.of_eq rfl) (.cons rfl (.of_eq rfl) (.cons rfl (.of_eq rfl) (.cons rfl (.of_eq rfl) .nil)))))))) (.arr rfl .nil) rfl))) ?_
    obtain ⟨o27, ho27, hb27, hr27⟩ := lp_elim h
    refine W.lp (σs := fun s20 : Int × (List Blk) => ⟨[(0, .v (Enc.sl (Enc.int .i64)) a0), (1, .v (Enc.int .i64) (ar .add .i64 (1 : Int) v2)), (2, .v (Enc.int .i64) v3), (3, .v (Enc.int .i64) a3), (9, .v (Enc.sl eBlk) v4), (10, .v (Enc.sl (Enc.pr (Enc.int .i64) eBlk)) v5), (11, .ref 119), (12, .v (Enc.int .i64) s20.1)], [(119, .arr 29 eBlk s20.2)]⟩) (fun x28 : (List Blk) => ⟨[(1, .v (Enc.int .i64) (ar .add .i64 (1 : Int) v2)), (9, .v (Enc.sl eBlk) v4), (10, .v (Enc.sl (Enc.pr (Enc.int .i64) eBlk)) v5), (11, .ref 119)], [(119, .arr 29 eBlk x28)]⟩) ho27 (Sw.Sub.mk (rn [(119, 105)]) (.cons rfl (.of_eq rfl) (.cons rfl (.of_eq rfl) (.cons rfl (.of_eq rfl) (.cons rfl (.of_eq rfl) (.cons rfl (.of_eq rfl) (.cons rfl (.of_eq rfl) (.cons rfl (.of_eq rfl) (.cons rfl (.of_eq rfl) .nil)))))))) (.arr rfl .nil) rfl) ?_ ?_
    · intro x28 hy
      have h := hb27 _ hy
      refine W.seq ?_
      obtain ⟨v35, hv35, h⟩ := bind_e h
      refine W.reg (σ' := ⟨[(1, .v (Enc.int .i64) (ar .add .i64 (1 : Int) v2)), (9, .v (Enc.sl eBlk) v4), (10, .v (Enc.sl (Enc.pr (Enc.int .i64) eBlk)) v5), (11, .ref 119), (14, .ref 130000), (15, .v (Enc.err ET) v35.2)], [(119, .arr 29 eBlk x28), (130000, .arr 43 (Enc.pr (Enc.int .i64) (Enc.pr (Enc.int .i64) (Enc.pr (Enc.int .i64) eBlk))) v35.1)]⟩) (J.cons (.none rfl) (JO.move rfl) rfl rfl (J.cons (.none rfl) (JO.move rfl) rfl rfl (J.cons (.none rfl) (JO.move rfl) rfl rfl (J.cons (.none rfl) (JO.callL 130000 (con_plan_Packets hv35) Try.call13 (.cons (.dir rfl) (.cons (.dir rfl) (.cons (.ref rfl rfl) .nil))) rfl (FlatS.tup (.ref (.v .nil))) (FlatN.arr FlatN.nil)) rfl rfl (J.cons (.none rfl) (JO.move rfl) rfl rfl (J.cons (.none rfl) (JO.extract rfl rfl) rfl rfl (J.cons (.none rfl) (JO.extract rfl rfl) rfl rfl (J.cons (.none rfl) (JO.assign rfl) rfl rfl (J.cons (.none rfl) (JO.assign rfl) rfl rfl (J.fin (Sw.Sub.mk id (.cons rfl (.of_eq rfl) (.cons rfl (.of_eq rfl) (.cons rfl (.of_eq rfl) (.cons rfl (.of_eq rfl) (.cons rfl (.of_eq rfl) (.cons rfl (.of_eq rfl) .nil)))))) (.arr rfl (.arr rfl .nil)) rfl))))))))))) ?_
      refine W.seq ?_
      refine W.seq ?_
      obtain ⟨x37, hx, h⟩ := bind_e h
      refine W.reg (σ' := ⟨[(1, .v (Enc.int .i64) (ar .add .i64 (1 : Int) v2)), (9, .v (Enc.sl eBlk) v4), (10, .v (Enc.sl (Enc.pr (Enc.int .i64) eBlk)) v5), (11, .ref 119), (14, .ref 130000), (74, .v Enc.bool x37)], [(119, .arr 29 eBlk x28), (130000, .arr 43 (Enc.pr (Enc.int .i64) (Enc.pr (Enc.int .i64) (Enc.pr (Enc.int .i64) eBlk))) v35.1)]⟩) ?_ ?_
      · rcases Bool.eq_false_or_eq_true (Option.isSome v35.2) with hc38 | hc38
        · replace hx := cond_t hc38 hx
          obtain rfl := Option.some.inj hx
          exact (J.cons (.none rfl) (JO.move rfl) rfl rfl (J.cons (.none rfl) (JO.errNe Try.runUnderlying34 rfl) rfl rfl (J.cons (.none rfl) (JO.move rfl) rfl rfl (J.left (GK.unmet 68 rfl rfl rfl hc38) rfl (J.left (GK.unmet 68 rfl rfl rfl hc38) rfl (J.left (GK.unmet 68 rfl rfl rfl hc38) rfl (J.left (GK.unmet 68 rfl rfl rfl hc38) rfl (J.left (GK.unmet 68 rfl rfl rfl hc38) rfl (J.cons (.none rfl) (JO.pT hc38 rfl rfl) rfl rfl (J.fin (Sw.Sub.mk id (.cons rfl (.of_eq rfl) (.cons rfl (.of_eq rfl) (.cons rfl (.of_eq rfl) (.cons rfl (.of_eq rfl) (.cons rfl (.of_eq rfl) (.cons rfl (.of_eq rfl) .nil)))))) (.arr rfl (.arr rfl .nil)) rfl)))))))))))
        · replace hx := cond_f hc38 hx
          obtain rfl := Option.some.inj hx
          exact (J.cons (.none rfl) (JO.move rfl) rfl rfl (J.cons (.none rfl) (JO.errNe Try.runUnderlying34 rfl) rfl rfl (J.cons (.none rfl) (JO.move rfl) rfl rfl (J.cons (GK.met 68 rfl rfl rfl hc38) (JO.move rfl) rfl rfl (J.cons (GK.met 68 rfl rfl rfl hc38) (JO.lenR rfl rfl Try.runUnderlying32) rfl rfl (J.cons (GK.met 68 rfl rfl rfl hc38) (JO.move rfl) rfl rfl (J.cons (GK.met 68 rfl rfl rfl hc38) (JO.len rfl Try.runUnderlying26) rfl rfl (J.cons (GK.met 68 rfl rfl rfl hc38) (JO.cmp rfl rfl rfl) rfl rfl (J.cons (.none rfl) (JO.pF hc38 rfl rfl) rfl rfl (J.fin (Sw.Sub.mk id (.cons rfl (.of_eq rfl) (.cons rfl (.of_eq rfl) (.cons rfl (.of_eq rfl) (.cons rfl (.of_eq rfl) (.cons rfl (.of_eq rfl) (.cons rfl (.of_eq rfl) .nil)))))) (.arr rfl (.arr rfl .nil)) rfl)))))))))))
      rcases Bool.eq_false_or_eq_true x37 with hc39 | hc39
      · replace h := cond_t hc39 h
        refine W.condT rfl hc39 ?_
        refine W.seq ?_
        refine W.reg (σ' := ⟨[(8, .v Enc.bool false)], []⟩) (J.cons (.none rfl) (JO.assign rfl) rfl rfl (J.fin (Sw.Sub.mk id (.cons rfl (.of_eq rfl) .nil) .nil rfl))) ?_
        refine W.ret ?_
        obtain rfl := Option.some.inj h
        exact XQ.sub (σ' := ⟨[(8, .v Enc.bool false)], []⟩) (Sw.Sub.mk id (.cons rfl (.of_eq rfl) .nil) .nil rfl) (XQ.ret1 hF noR rfl (RV.tmp rfl) .nil rfl)
      · replace h := cond_f hc39 h
        refine W.condF rfl hc39 ?_
        refine W.skip ?_
        refine W.seq ?_
        obtain ⟨v40, hv40, h⟩ := bind_e h
        refine W.reg (σ' := ⟨[(1, .v (Enc.int .i64) (ar .add .i64 (1 : Int) v2)), (9, .v (Enc.sl eBlk) v4), (10, .v (Enc.sl (Enc.pr (Enc.int .i64) eBlk)) v5), (11, .ref 119), (14, .ref 130000), (15, .v (Enc.err ET) v40.2.2), (16, .ref 131000), (17, .ref 131001)], [(119, .arr 29 eBlk x28), (130000, .arr 43 (Enc.pr (Enc.int .i64) (Enc.pr (Enc.int .i64) (Enc.pr (Enc.int .i64) eBlk))) v35.1), (131000, .arr 41 (Enc.pr (Enc.int .i64) eBlk) v40.1), (131001, .arr 3 (Enc.int .i64) v40.2.1)]⟩) (J.cons (.none rfl) (JO.move rfl) rfl rfl (J.cons (.none rfl) (JO.move rfl) rfl rfl (J.cons (.none rfl) (JO.move rfl) rfl rfl (J.cons (.none rfl) (JO.callL 131000 (con_plan_Apply hv40) Try.call14 (.cons (.ref rfl rfl) (.cons (.dir rfl) (.cons (.ref rfl rfl) .nil))) rfl (FlatS.tup (.ref (.ref (.v .nil)))) (FlatN.arr (FlatN.arr FlatN.nil))) rfl rfl (J.cons (.none rfl) (JO.move rfl) rfl rfl (J.cons (.none rfl) (JO.extract rfl rfl) rfl rfl (J.cons (.none rfl) (JO.extract rfl rfl) rfl rfl (J.cons (.none rfl) (JO.extract rfl rfl) rfl rfl (J.cons (.none rfl) (JO.assign rfl) rfl rfl (J.cons (.none rfl) (JO.assign rfl) rfl rfl (J.cons (.none rfl) (JO.assign rfl) rfl rfl (J.fin (Sw.Sub.mk id (.cons rfl (.of_eq rfl) (.cons rfl (.of_eq rfl) (.cons rfl (.of_eq rfl) (.cons rfl (.of_eq rfl) (.cons rfl (.of_eq rfl) (.cons rfl (.of_eq rfl) (.cons rfl (.of_eq rfl) (.cons rfl (.of_eq rfl) .nil)))))))) (.arr rfl (.arr rfl (.arr rfl (.arr rfl .nil)))) rfl))))))))))))) ?_
        refine W.seq ?_
        refine W.seq ?_
        obtain ⟨x43, hx, h⟩ := bind_e h
        refine W.reg (σ' := ⟨[(1, .v (Enc.int .i64) (ar .add .i64 (1 : Int) v2)), (9, .v (Enc.sl eBlk) v4), (10, .v (Enc.sl (Enc.pr (Enc.int .i64) eBlk)) v5), (11, .ref 119), (14, .ref 130000), (16, .ref 131000), (96, .v Enc.bool x43)], [(119, .arr 29 eBlk x28), (130000, .arr 43 (Enc.pr (Enc.int .i64) (Enc.pr (Enc.int .i64) (Enc.pr (Enc.int .i64) eBlk))) v35.1), (131000, .arr 41 (Enc.pr (Enc.int .i64) eBlk) v40.1)]⟩) ?_ ?_
        · rcases Bool.eq_false_or_eq_true (Option.isSome v40.2.2) with hc44 | hc44
          · replace hx := cond_t hc44 hx
            obtain rfl := Option.some.inj hx
            exact (J.cons (.none rfl) (JO.move rfl) rfl rfl (J.cons (.none rfl) (JO.errNe Try.runUnderlying34 rfl) rfl rfl (J.cons (.none rfl) (JO.move rfl) rfl rfl (J.left (GK.unmet 85 rfl rfl rfl hc44) rfl (J.left (GK.unmet 85 rfl rfl rfl hc44) rfl (J.left (GK.unmet 85 rfl rfl rfl hc44) rfl (J.cons (.none rfl) (JO.pT hc44 rfl rfl) rfl rfl (J.cons (.none rfl) (JO.move rfl) rfl rfl (J.left (GK.unmet 90 rfl rfl rfl rfl) rfl (J.left (GK.unmet 90 rfl rfl rfl rfl) rfl (J.left (GK.unmet 90 rfl rfl rfl rfl) rfl (J.left (GK.unmet 90 rfl rfl rfl rfl) rfl (J.left (GK.unmet 90 rfl rfl rfl rfl) rfl (J.cons (.none rfl) (JO.pT rfl rfl rfl) rfl rfl (J.fin (Sw.Sub.mk id (.cons rfl (.of_eq rfl) (.cons rfl (.of_eq rfl) (.cons rfl (.of_eq rfl) (.cons rfl (.of_eq rfl) (.cons rfl (.of_eq rfl) (.cons rfl (.of_eq rfl) (.cons rfl (.of_eq rfl) .nil))))))) (.arr rfl (.arr rfl (.arr rfl .nil))) rfl))))))))))))))))
          · replace hx := cond_f hc44 hx
            rcases Bool.eq_false_or_eq_true (cm .gtr (v40.2.1.length : Int) (0 : Int)) with hc45 | hc45
            · replace hx := cond_t hc45 hx
              obtain rfl := Option.some.inj hx
              exact (J.cons (.none rfl) (JO.move rfl) rfl rfl (J.cons (.none rfl) (JO.errNe Try.runUnderlying34 rfl) rfl rfl (J.cons (.none rfl) (JO.move rfl) rfl rfl (J.cons (GK.met 85 rfl rfl rfl hc44) (JO.move rfl) rfl rfl (J.cons (GK.met 85 rfl rfl rfl hc44) (JO.lenR rfl rfl Try.runUnderlying22) rfl rfl (J.cons (GK.met 85 rfl rfl rfl hc44) (JO.cmp rfl rfl rfl) rfl rfl (J.cons (.none rfl) (JO.pF hc44 rfl rfl) rfl rfl (J.cons (.none rfl) (JO.move rfl) rfl rfl (J.left (GK.unmet 90 rfl rfl rfl hc45) rfl (J.left (GK.unmet 90 rfl rfl rfl hc45) rfl (J.left (GK.unmet 90 rfl rfl rfl hc45) rfl (J.left (GK.unmet 90 rfl rfl rfl hc45) rfl (J.left (GK.unmet 90 rfl rfl rfl hc45) rfl (J.cons (.none rfl) (JO.pT hc45 rfl rfl) rfl rfl (J.fin (Sw.Sub.mk id (.cons rfl (.of_eq rfl) (.cons rfl (.of_eq rfl) (.cons rfl (.of_eq rfl) (.cons rfl (.of_eq rfl) (.cons rfl (.of_eq rfl) (.cons rfl (.of_eq rfl) (.cons rfl (.of_eq rfl) .nil))))))) (.arr rfl (.arr rfl (.arr rfl .nil))) rfl))))))))))))))))
            · replace hx := cond_f hc45 hx
              obtain rfl := Option.some.inj hx
              exact (J.cons (.none rfl) (JO.move rfl) rfl rfl (J.cons (.none rfl) (JO.errNe Try.runUnderlying34 rfl) rfl rfl (J.cons (.none rfl) (JO.move rfl) rfl rfl (J.cons (GK.met 85 rfl rfl rfl hc44) (JO.move rfl) rfl rfl (J.cons (GK.met 85 rfl rfl rfl hc44) (JO.lenR rfl rfl Try.runUnderlying22) rfl rfl (J.cons (GK.met 85 rfl rfl rfl hc44) (JO.cmp rfl rfl rfl) rfl rfl (J.cons (.none rfl) (JO.pF hc44 rfl rfl) rfl rfl (J.cons (.none rfl) (JO.move rfl) rfl rfl (J.cons (GK.met 90 rfl rfl rfl hc45) (JO.move rfl) rfl rfl (J.cons (GK.met 90 rfl rfl rfl hc45) (JO.lenR rfl rfl Try.runUnderlying26) rfl rfl (J.cons (GK.met 90 rfl rfl rfl hc45) (JO.move rfl) rfl rfl (J.cons (GK.met 90 rfl rfl rfl hc45) (JO.lenR rfl rfl Try.runUnderlying32) rfl rfl (J.cons (GK.met 90 rfl rfl rfl hc45) (JO.cmp rfl rfl rfl) rfl rfl (J.cons (.none rfl) (JO.pF hc45 rfl rfl) rfl rfl (J.fin (Sw.Sub.mk id (.cons rfl (.of_eq rfl) (.cons rfl (.of_eq rfl) (.cons rfl (.of_eq rfl) (.cons rfl (.of_eq rfl) (.cons rfl (.of_eq rfl) (.cons rfl (.of_eq rfl) (.cons rfl (.of_eq rfl) .nil))))))) (.arr rfl (.arr rfl (.arr rfl .nil))) rfl))))))))))))))))
        rcases Bool.eq_false_or_eq_true x43 with hc46 | hc46
        · replace h := cond_t hc46 h
          refine W.condT rfl hc46 ?_
          refine W.seq ?_
          refine W.reg (σ' := ⟨[(8, .v Enc.bool false)], []⟩) (J.cons (.none rfl) (JO.assign rfl) rfl rfl (J.fin (Sw.Sub.mk id (.cons rfl (.of_eq rfl) .nil) .nil rfl))) ?_
          refine W.ret ?_
          obtain rfl := Option.some.inj h
          exact XQ.sub (σ' := ⟨[(8, .v Enc.bool false)], []⟩) (Sw.Sub.mk id (.cons rfl (.of_eq rfl) .nil) .nil rfl) (XQ.ret1 hF noR rfl (RV.tmp rfl) .nil rfl)
        · replace h := cond_f hc46 h
          refine W.condF rfl hc46 ?_
          refine W.skip ?_
          refine W.seq ?_
          obtain ⟨v47, hv47, h⟩ := bind_e h
          refine W.reg (σ' := ⟨[(1, .v (Enc.int .i64) (ar .add .i64 (1 : Int) v2)), (9, .v (Enc.sl eBlk) v4), (10, .v (Enc.sl (Enc.pr (Enc.int .i64) eBlk)) v5), (11, .ref 119), (14, .ref 130000), (16, .ref 131000), (18, .ref 132000)], [(119, .arr 29 eBlk x28), (130000, .arr 43 (Enc.pr (Enc.int .i64) (Enc.pr (Enc.int .i64) (Enc.pr (Enc.int .i64) eBlk))) v35.1), (131000, .arr 41 (Enc.pr (Enc.int .i64) eBlk) v40.1), (132000, .arr 29 eBlk v47)]⟩) (J.cons (.none rfl) (JO.move rfl) rfl rfl (J.cons (.none rfl) (JO.call 132000 (con_ref_OwnBlocks hv47) Try.call15 (.cons (.dir rfl) .nil) rfl) rfl rfl (J.cons (.none rfl) (JO.assign rfl) rfl rfl (J.fin (Sw.Sub.mk id (.cons rfl (.of_eq rfl) (.cons rfl (.of_eq rfl) (.cons rfl (.of_eq rfl) (.cons rfl (.of_eq rfl) (.cons rfl (.of_eq rfl) (.cons rfl (.of_eq rfl) (.cons rfl (.of_eq rfl) .nil))))))) (.arr rfl (.arr rfl (.arr rfl (.arr rfl .nil)))) rfl))))) ?_
          refine W.seq ?_
          refine W.seq ?_
          refine W.reg (σ' := ⟨[(1, .v (Enc.int .i64) (ar .add .i64 (1 : Int) v2)), (9, .v (Enc.sl eBlk) v4), (10, .v (Enc.sl (Enc.pr (Enc.int .i64) eBlk)) v5), (11, .ref 119), (14, .ref 130000), (16, .ref 131000), (18, .ref 132000), (19, .v (Enc.int .i64) (0 : Int))], [(119, .arr 29 eBlk x28), (130000, .arr 43 (Enc.pr (Enc.int .i64) (Enc.pr (Enc.int .i64) (Enc.pr (Enc.int .i64) eBlk))) v35.1), (131000, .arr 41 (Enc.pr (Enc.int .i64) eBlk) v40.1), (132000, .arr 29 eBlk v47)]⟩) (J.cons (.none rfl) (JO.assign rfl) rfl rfl (J.fin (Sw.Sub.mk id (.cons rfl (.of_eq rfl) (.cons rfl (.of_eq rfl) (.cons rfl (.of_eq rfl) (.cons rfl (.of_eq rfl) (.cons rfl (.of_eq rfl) (.cons rfl (.of_eq rfl) (.cons rfl (.of_eq rfl) (.cons rfl (.of_eq rfl) .nil)))))))) (.arr rfl (.arr rfl (.arr rfl (.arr rfl .nil)))) rfl))) ?_
          obtain ⟨o87, ho87, hb87, hr87⟩ := lp_elim h
          refine W.lp (σs := fun s74 : Int × (List Blk) => ⟨[(1, .v (Enc.int .i64) (ar .add .i64 (1 : Int) v2)), (9, .v (Enc.sl eBlk) v4), (10, .v (Enc.sl (Enc.pr (Enc.int .i64) eBlk)) v5), (11, .ref 119), (14, .ref 130000), (16, .ref 131000), (18, .ref 132000), (19, .v (Enc.int .i64) s74.1)], [(119, .arr 29 eBlk x28), (130000, .arr 43 (Enc.pr (Enc.int .i64) (Enc.pr (Enc.int .i64) (Enc.pr (Enc.int .i64) eBlk))) v35.1), (131000, .arr 41 (Enc.pr (Enc.int .i64) eBlk) v40.1), (132000, .arr 29 eBlk s74.2)]⟩) (fun x88 : (List Blk) => ⟨[(9, .v (Enc.sl eBlk) v4), (10, .v (Enc.sl (Enc.pr (Enc.int .i64) eBlk)) v5), (11, .ref 119), (14, .ref 130000), (18, .ref 132000)], [(119, .arr 29 eBlk x28), (130000, .arr 43 (Enc.pr (Enc.int .i64) (Enc.pr (Enc.int .i64) (Enc.pr (Enc.int .i64) eBlk))) v35.1), (132000, .arr 29 eBlk x88)]⟩) ho87 (Sw.Sub.mk id (.cons rfl (.of_eq rfl) (.cons rfl (.of_eq rfl) (.cons rfl (.of_eq rfl) (.cons rfl (.of_eq rfl) (.cons rfl (.of_eq rfl) (.cons rfl (.of_eq rfl) (.cons rfl (.of_eq rfl) (.cons rfl (.of_eq rfl) .nil)))))))) (.arr rfl (.arr rfl (.arr rfl (.arr rfl .nil)))) rfl) ?_ ?_
          · intro x88 hy
            have h := hb87 _ hy
            refine W.seq ?_
            obtain ⟨v101, hv101, h⟩ := bind_e h
            refine W.reg (σ' := ⟨[(9, .v (Enc.sl eBlk) v4), (10, .v (Enc.sl (Enc.pr (Enc.int .i64) eBlk)) v5), (11, .ref 119), (14, .ref 130000), (18, .ref 132000), (20, .ref 133000)], [(119, .arr 29 eBlk x28), (130000, .arr 43 (Enc.pr (Enc.int .i64) (Enc.pr (Enc.int .i64) (Enc.pr (Enc.int .i64) eBlk))) v35.1), (132000, .arr 29 eBlk x88), (133000, .arr 29 eBlk v101)]⟩) (J.cons (.none rfl) (JO.move rfl) rfl rfl (J.cons (.none rfl) (JO.call 133000 (con_ref_OwnBlocks hv101) Try.call15 (.cons (.dir rfl) .nil) rfl) rfl rfl (J.cons (.none rfl) (JO.assign rfl) rfl rfl (J.fin (Sw.Sub.mk id (.cons rfl (.of_eq rfl) (.cons rfl (.of_eq rfl) (.cons rfl (.of_eq rfl) (.cons rfl (.of_eq rfl) (.cons rfl (.of_eq rfl) (.cons rfl (.of_eq rfl) .nil)))))) (.arr rfl (.arr rfl (.arr rfl (.arr rfl .nil)))) rfl))))) ?_
            refine W.seq ?_
            refine W.seq ?_
            refine W.reg (σ' := ⟨[(9, .v (Enc.sl eBlk) v4), (10, .v (Enc.sl (Enc.pr (Enc.int .i64) eBlk)) v5), (11, .ref 119), (14, .ref 130000), (18, .ref 132000), (20, .ref 133000), (21, .v (Enc.int .i64) (0 : Int))], [(119, .arr 29 eBlk x28), (130000, .arr 43 (Enc.pr (Enc.int .i64) (Enc.pr (Enc.int .i64) (Enc.pr (Enc.int .i64) eBlk))) v35.1), (132000, .arr 29 eBlk x88), (133000, .arr 29 eBlk v101)]⟩) (J.cons (.none rfl) (JO.assign rfl) rfl rfl (J.fin (Sw.Sub.mk id (.cons rfl (.of_eq rfl) (.cons rfl (.of_eq rfl) (.cons rfl (.of_eq rfl) (.cons rfl (.of_eq rfl) (.cons rfl (.of_eq rfl) (.cons rfl (.of_eq rfl) (.cons rfl (.of_eq rfl) .nil))))))) (.arr rfl (.arr rfl (.arr rfl (.arr rfl .nil)))) rfl))) ?_
            obtain ⟨o117, ho117, hb117, hr117⟩ := lp_elim h
            refine W.lp (σs := fun s112 : Int × (List Blk) => ⟨[(9, .v (Enc.sl eBlk) v4), (10, .v (Enc.sl (Enc.pr (Enc.int .i64) eBlk)) v5), (11, .ref 119), (14, .ref 130000), (18, .ref 132000), (20, .ref 133000), (21, .v (Enc.int .i64) s112.1)], [(119, .arr 29 eBlk x28), (130000, .arr 43 (Enc.pr (Enc.int .i64) (Enc.pr (Enc.int .i64) (Enc.pr (Enc.int .i64) eBlk))) v35.1), (132000, .arr 29 eBlk x88), (133000, .arr 29 eBlk s112.2)]⟩) (fun x118 : (List Blk) => ⟨[(9, .v (Enc.sl eBlk) v4), (11, .ref 119), (14, .ref 130000), (18, .ref 132000), (20, .ref 133000)], [(119, .arr 29 eBlk x28), (130000, .arr 43 (Enc.pr (Enc.int .i64) (Enc.pr (Enc.int .i64) (Enc.pr (Enc.int .i64) eBlk))) v35.1), (132000, .arr 29 eBlk x88), (133000, .arr 29 eBlk x118)]⟩) ho117 (Sw.Sub.mk id (.cons rfl (.of_eq rfl) (.cons rfl (.of_eq rfl) (.cons rfl (.of_eq rfl) (.cons rfl (.of_eq rfl) (.cons rfl (.of_eq rfl) (.cons rfl (.of_eq rfl) (.cons rfl (.of_eq rfl) .nil))))))) (.arr rfl (.arr rfl (.arr rfl (.arr rfl .nil)))) rfl) ?_ ?_
            · intro x118 hy
              have h := hb117 _ hy
              refine W.seq ?_
              refine W.seq ?_
              refine W.reg (σ' := ⟨[(9, .v (Enc.sl eBlk) v4), (11, .ref 119), (14, .ref 130000), (18, .ref 132000), (20, .ref 133000), (22, .v (Enc.int .i64) (0 : Int))], [(119, .arr 29 eBlk x28), (130000, .arr 43 (Enc.pr (Enc.int .i64) (Enc.pr (Enc.int .i64) (Enc.pr (Enc.int .i64) eBlk))) v35.1), (132000, .arr 29 eBlk x88), (133000, .arr 29 eBlk x118)]⟩) (J.cons (.none rfl) (JO.assign rfl) rfl rfl (J.fin (Sw.Sub.mk id (.cons rfl (.of_eq rfl) (.cons rfl (.of_eq rfl) (.cons rfl (.of_eq rfl) (.cons rfl (.of_eq rfl) (.cons rfl (.of_eq rfl) (.cons rfl (.of_eq rfl) .nil)))))) (.arr rfl (.arr rfl (.arr rfl (.arr rfl .nil)))) rfl))) ?_
              obtain ⟨o189, ho189, hb189, hr189⟩ := lp_elim h
              refine W.lp (σs := fun s167 : Int => ⟨[(9, .v (Enc.sl eBlk) v4), (11, .ref 119), (14, .ref 130000), (18, .ref 132000), (20, .ref 133000), (22, .v (Enc.int .i64) s167)], [(119, .arr 29 eBlk x28), (130000, .arr 43 (Enc.pr (Enc.int .i64) (Enc.pr (Enc.int .i64) (Enc.pr (Enc.int .i64) eBlk))) v35.1), (132000, .arr 29 eBlk x88), (133000, .arr 29 eBlk x118)]⟩) (fun x190 : Unit => ⟨[(18, .ref 132000), (20, .ref 133000)], [(132000, .arr 29 eBlk x88), (133000, .arr 29 eBlk x118)]⟩) ho189 (Sw.Sub.mk id (.cons rfl (.of_eq rfl) (.cons rfl (.of_eq rfl) (.cons rfl (.of_eq rfl) (.cons rfl (.of_eq rfl) (.cons rfl (.of_eq rfl) (.cons rfl (.of_eq rfl) .nil)))))) (.arr rfl (.arr rfl (.arr rfl (.arr rfl .nil)))) rfl) ?_ ?_
              · intro x190 hy
                have h := hb189 _ hy
                refine W.seq ?_
                obtain ⟨v212, hv212, h⟩ := bind_e h
                refine W.reg (σ' := ⟨[(8, .v Enc.bool v212)], []⟩) (J.cons (.none rfl) (JO.move rfl) rfl rfl (J.cons (.none rfl) (JO.move rfl) rfl rfl (J.cons (.none rfl) (JO.callL0 (con_ref_SameBlocks hv212) Try.call16 (.cons (.ref rfl rfl) (.cons (.ref rfl rfl) .nil)) FlatS.v) rfl rfl (J.cons (.none rfl) (JO.assign rfl) rfl rfl (J.fin (Sw.Sub.mk id (.cons rfl (.of_eq rfl) .nil) .nil rfl)))))) ?_
                refine W.ret ?_
                obtain rfl := Option.some.inj h
                exact XQ.sub (σ' := ⟨[(8, .v Enc.bool v212)], []⟩) (Sw.Sub.mk id (.cons rfl (.of_eq rfl) .nil) .nil rfl) (XQ.ret1 hF noR rfl (RV.tmp rfl) .nil rfl)
              intro s167 r189 h
              refine W.seq ?_
              refine W.seq ?_
              refine W.reg (σ' := ⟨[(9, .v (Enc.sl eBlk) v4), (11, .ref 119), (14, .ref 130000), (18, .ref 132000), (20, .ref 133000), (22, .v (Enc.int .i64) s167), (155, .v Enc.bool (cm .lss s167 (v35.1.length : Int)))], [(119, .arr 29 eBlk x28), (130000, .arr 43 (Enc.pr (Enc.int .i64) (Enc.pr (Enc.int .i64) (Enc.pr (Enc.int .i64) eBlk))) v35.1), (132000, .arr 29 eBlk x88), (133000, .arr 29 eBlk x118)]⟩) (J.cons (.none rfl) (JO.move rfl) rfl rfl (J.cons (.none rfl) (JO.move rfl) rfl rfl (J.cons (.none rfl) (JO.lenR rfl rfl Try.runUnderlying32) rfl rfl (J.cons (.none rfl) (JO.cmp rfl rfl rfl) rfl rfl (J.fin (Sw.Sub.mk id (.cons rfl (.of_eq rfl) (.cons rfl (.of_eq rfl) (.cons rfl (.of_eq rfl) (.cons rfl (.of_eq rfl) (.cons rfl (.of_eq rfl) (.cons rfl (.of_eq rfl) (.cons rfl (.of_eq rfl) .nil))))))) (.arr rfl (.arr rfl (.arr rfl (.arr rfl .nil)))) rfl)))))) ?_
              rcases Bool.eq_false_or_eq_true (cm .lss s167 (v35.1.length : Int)) with hc191 | hc191
              · replace h := cond_t hc191 h
                refine W.condT rfl hc191 ?_
                refine W.skip ?_
                refine W.seq ?_
                refine W.block ?_
                refine W.seq ?_
                obtain ⟨x201, hx, h⟩ := bind_e h
                refine W.reg (σ' := ⟨[(9, .v (Enc.sl eBlk) v4), (11, .ref 119), (14, .ref 130000), (18, .ref 132000), (20, .ref 133000), (22, .v (Enc.int .i64) s167), (192, .v Enc.bool x201)], [(119, .arr 29 eBlk x28), (130000, .arr 43 (Enc.pr (Enc.int .i64) (Enc.pr (Enc.int .i64) (Enc.pr (Enc.int .i64) eBlk))) v35.1), (132000, .arr 29 eBlk x88), (133000, .arr 29 eBlk x118)]⟩) ?_ ?_
                · obtain ⟨z202, hz202, hx⟩ := bind_e hx
                  rcases Bool.eq_false_or_eq_true (cm .eql z202.2.1 (3 : Int)) with hc203 | hc203
                  · replace hx := cond_t hc203 hx
                    obtain ⟨z204, hz204, hx⟩ := bind_e hx
                    rcases Bool.eq_false_or_eq_true (decide (z204.2.2.2 = zblk)) with hc205 | hc205
                    · replace hx := cond_t hc205 hx
                      obtain rfl := Option.some.inj hx
                      exact (J.cons (.none rfl) (JO.move rfl) rfl rfl (J.cons (.none rfl) (JO.move rfl) rfl rfl (J.cons (.none rfl) (JO.idxR hz202 rfl rfl rfl Try.runUnderlying32 Try.sizeOf43) rfl rfl (J.cons (.none rfl) (JO.fieldEl 1 rfl Try.runUnderlying43 rfl Try.sizeOf3 rfl rfl) rfl rfl (J.cons (.none rfl) (JO.loadEl (idx_some hz202).2.2 rfl rfl (.snd (.fst .here)) Try.isAgg3 Try.sizeOf3) rfl rfl (J.cons (.none rfl) (JO.cmp rfl rfl rfl) rfl rfl (J.cons (.none rfl) (JO.move rfl) rfl rfl (J.cons (GK.met 164 rfl rfl rfl hc203) (JO.move rfl) rfl rfl (J.cons (GK.met 164 rfl rfl rfl hc203) (JO.move rfl) rfl rfl (J.cons (GK.met 164 rfl rfl rfl hc203) (JO.idxR hz204 rfl rfl rfl Try.runUnderlying32 Try.sizeOf43) rfl rfl (J.cons (GK.met 164 rfl rfl rfl hc203) (JO.fieldEl 3 rfl Try.runUnderlying43 rfl Try.sizeOf29 rfl rfl) rfl rfl (J.cons (GK.met 164 rfl rfl rfl hc203) (JO.loadEl (idx_some hz204).2.2 rfl rfl (.snd (.snd (.snd .here))) Try.isAgg29 Try.sizeOf29) rfl rfl (J.cons (GK.met 164 rfl rfl rfl hc203) (JO.zeroArr (e := eBlk) (v := zblk) Try.typeInfo29 Try.runUnderlying29 Try.typeInfo5 rfl rfl (Z.arr 8 (Z.int .u8))) rfl rfl (J.cons (GK.met 164 rfl rfl rfl hc203) (JO.eqV eq29 rfl rfl Try.eqGuardType29 rfl rfl) rfl rfl (J.cons (GK.met 164 rfl rfl rfl hc203) (JO.move rfl) rfl rfl (J.left (GK.unmet 172 rfl rfl rfl hc205) rfl (J.left (GK.unmet 172 rfl rfl rfl hc205) rfl (J.left (GK.unmet 172 rfl rfl rfl hc205) rfl (J.left (GK.unmet 172 rfl rfl rfl hc205) rfl (J.left (GK.unmet 172 rfl rfl rfl hc205) rfl (J.left (GK.unmet 172 rfl rfl rfl hc205) rfl (J.left (GK.unmet 172 rfl rfl rfl hc205) rfl (J.left (GK.unmet 172 rfl rfl rfl hc205) rfl (J.cons (GK.met 164 rfl rfl rfl hc203) (JO.pT hc205 rfl rfl) rfl rfl (J.cons (GK.met 164 rfl rfl rfl hc203) (JO.move rfl) rfl rfl (J.left (GK.unmet 182 rfl rfl rfl rfl) rfl (J.left (GK.unmet 182 rfl rfl rfl rfl) rfl (J.left (GK.unmet 182 rfl rfl rfl rfl) rfl (J.left (GK.unmet 182 rfl rfl rfl rfl) rfl (J.left (GK.unmet 182 rfl rfl rfl rfl) rfl (J.left (GK.unmet 182 rfl rfl rfl rfl) rfl (J.left (GK.unmet 182 rfl rfl rfl rfl) rfl (J.left (GK.unmet 182 rfl rfl rfl rfl) rfl (J.cons (GK.met 164 rfl rfl rfl hc203) (JO.pT rfl rfl rfl) rfl rfl (J.cons (.none rfl) (JO.pT hc203 rfl rfl) rfl rfl (J.fin (Sw.Sub.mk id (.cons rfl (.of_eq rfl) (.cons rfl (.of_eq rfl) (.cons rfl (.of_eq rfl) (.cons rfl (.of_eq rfl) (.cons rfl (.of_eq rfl) (.cons rfl (.of_eq rfl) (.cons rfl (.of_eq rfl) .nil))))))) (.arr rfl (.arr rfl (.arr rfl (.arr rfl .nil)))) rfl)))))))))))))))))))))))))))))))))))))
                    · replace hx := cond_f hc205 hx
                      obtain ⟨z206, hz206, hx⟩ := bind_e hx
                      obtain ⟨v207, hv207, hx⟩ := bind_e hx
                      rcases Bool.eq_false_or_eq_true (cm .geq v207 (0 : Int)) with hc208 | hc208
                      · replace hx := cond_t hc208 hx
                        obtain rfl := Option.some.inj hx
                        exact (J.cons (.none rfl) (JO.move rfl) rfl rfl (J.cons (.none rfl) (JO.move rfl) rfl rfl (J.cons (.none rfl) (JO.idxR hz202 rfl rfl rfl Try.runUnderlying32 Try.sizeOf43) rfl rfl (J.cons (.none rfl) (JO.fieldEl 1 rfl Try.runUnderlying43 rfl Try.sizeOf3 rfl rfl) rfl rfl (J.cons (.none rfl) (JO.loadEl (idx_some hz202).2.2 rfl rfl (.snd (.fst .here)) Try.isAgg3 Try.sizeOf3) rfl rfl (J.cons (.none rfl) (JO.cmp rfl rfl rfl) rfl rfl (J.cons (.none rfl) (JO.move rfl) rfl rfl (J.cons (GK.met 164 rfl rfl rfl hc203) (JO.move rfl) rfl rfl (J.cons (GK.met 164 rfl rfl rfl hc203) (JO.move rfl) rfl rfl (J.cons (GK.met 164 rfl rfl rfl hc203) (JO.idxR hz204 rfl rfl rfl Try.runUnderlying32 Try.sizeOf43) rfl rfl (J.cons (GK.met 164 rfl rfl rfl hc203) (JO.fieldEl 3 rfl Try.runUnderlying43 rfl Try.sizeOf29 rfl rfl) rfl rfl (J.cons (GK.met 164 rfl rfl rfl hc203) (JO.loadEl (idx_some hz204).2.2 rfl rfl (.snd (.snd (.snd .here))) Try.isAgg29 Try.sizeOf29) rfl rfl (J.cons (GK.met 164 rfl rfl rfl hc203) (JO.zeroArr (e := eBlk) (v := zblk) Try.typeInfo29 Try.runUnderlying29 Try.typeInfo5 rfl rfl (Z.arr 8 (Z.int .u8))) rfl rfl (J.cons (GK.met 164 rfl rfl rfl hc203) (JO.eqV eq29 rfl rfl Try.eqGuardType29 rfl rfl) rfl rfl (J.cons (GK.met 164 rfl rfl rfl hc203) (JO.move rfl) rfl rfl (J.cons (GK.met 172 rfl rfl rfl hc205) (JO.move rfl) rfl rfl (J.cons (GK.met 172 rfl rfl rfl hc205) (JO.move rfl) rfl rfl (J.cons (GK.met 172 rfl rfl rfl hc205) (JO.move rfl) rfl rfl (J.cons (GK.met 172 rfl rfl rfl hc205) (JO.idxR hz206 rfl rfl rfl Try.runUnderlying32 Try.sizeOf43) rfl rfl (J.cons (GK.met 172 rfl rfl rfl hc205) (JO.fieldEl 3 rfl Try.runUnderlying43 rfl Try.sizeOf29 rfl rfl) rfl rfl (J.cons (GK.met 172 rfl rfl rfl hc205) (JO.loadEl (idx_some hz206).2.2 rfl rfl (.snd (.snd (.snd .here))) Try.isAgg29 Try.sizeOf29) rfl rfl (J.cons (GK.met 172 rfl rfl rfl hc205) (JO.call0 (con_ref_First hv207) Try.call12 (.cons (.dir rfl) (.cons (.dir rfl) .nil))) rfl rfl (J.cons (GK.met 172 rfl rfl rfl hc205) (JO.cmp rfl rfl rfl) rfl rfl (J.cons (GK.met 164 rfl rfl rfl hc203) (JO.pF hc205 rfl rfl) rfl rfl (J.cons (GK.met 164 rfl rfl rfl hc203) (JO.move rfl) rfl rfl (J.left (GK.unmet 182 rfl rfl rfl hc208) rfl (J.left (GK.unmet 182 rfl rfl rfl hc208) rfl (J.left (GK.unmet 182 rfl rfl rfl hc208) rfl (J.left (GK.unmet 182 rfl rfl rfl hc208) rfl (J.left (GK.unmet 182 rfl rfl rfl hc208) rfl (J.left (GK.unmet 182 rfl rfl rfl hc208) rfl (J.left (GK.unmet 182 rfl rfl rfl hc208) rfl (J.left (GK.unmet 182 rfl rfl rfl hc208) rfl (J.cons (GK.met 164 rfl rfl rfl hc203) (JO.pT hc208 rfl rfl) rfl rfl (J.cons (.none rfl) (JO.pT hc203 rfl rfl) rfl rfl (J.fin (Sw.Sub.mk id (.cons rfl (.of_eq rfl) (.cons rfl (.of_eq rfl) (.cons rfl (.of_eq rfl) (.cons rfl (.of_eq rfl) (.cons rfl (.of_eq rfl) (.cons rfl (.of_eq rfl) (.cons rfl (.of_eq rfl) .nil))))))) (.arr rfl (.arr rfl (.arr rfl (.arr rfl .nil)))) rfl)))))))))))))))))))))))))))))))))))))
                      · replace hx := cond_f hc208 hx
                        obtain ⟨z209, hz209, hx⟩ := bind_e hx
                        obtain ⟨v210, hv210, hx⟩ := bind_e hx
                        obtain rfl := Option.some.inj hx
                        exact (J.cons (.none rfl) (JO.move rfl) rfl rfl (J.cons (.none rfl) (JO.move rfl) rfl rfl (J.cons (.none rfl) (JO.idxR hz202 rfl rfl rfl Try.runUnderlying32 Try.sizeOf43) rfl rfl (J.cons (.none rfl) (JO.fieldEl 1 rfl Try.runUnderlying43 rfl Try.sizeOf3 rfl rfl) rfl rfl (J.cons (.none rfl) (JO.loadEl (idx_some hz202).2.2 rfl rfl (.snd (.fst .here)) Try.isAgg3 Try.sizeOf3) rfl rfl (J.cons (.none rfl) (JO.cmp rfl rfl rfl) rfl rfl (J.cons (.none rfl) (JO.move rfl) rfl rfl (J.cons (GK.met 164 rfl rfl rfl hc203) (JO.move rfl) rfl rfl (J.cons (GK.met 164 rfl rfl rfl hc203) (JO.move rfl) rfl rfl (J.cons (GK.met 164 rfl rfl rfl hc203) (JO.idxR hz204 rfl rfl rfl Try.runUnderlying32 Try.sizeOf43) rfl rfl (J.cons (GK.met 164 rfl rfl rfl hc203) (JO.fieldEl 3 rfl Try.runUnderlying43 rfl Try.sizeOf29 rfl rfl) rfl rfl (J.cons (GK.met 164 rfl rfl rfl hc203) (JO.loadEl (idx_some hz204).2.2 rfl rfl (.snd (.snd (.snd .here))) Try.isAgg29 Try.sizeOf29) rfl rfl (J.cons (GK.met 164 rfl rfl rfl hc203) (JO.zeroArr (e := eBlk) (v := zblk) Try.typeInfo29 Try.runUnderlying29 Try.typeInfo5 rfl rfl (Z.arr 8 (Z.int .u8))) rfl rfl (J.cons (GK.met 164 rfl rfl rfl hc203) (JO.eqV eq29 rfl rfl Try.eqGuardType29 rfl rfl) rfl rfl (J.cons (GK.met 164 rfl rfl rfl hc203) (JO.move rfl) rfl rfl (J.cons (GK.met 172 rfl rfl rfl hc205) (JO.move rfl) rfl rfl (J.cons (GK.met 172 rfl rfl rfl hc205) (JO.move rfl) rfl rfl (J.cons (GK.met 172 rfl rfl rfl hc205) (JO.move rfl) rfl rfl (J.cons (GK.met 172 rfl rfl rfl hc205) (JO.idxR hz206 rfl rfl rfl Try.runUnderlying32 Try.sizeOf43) rfl rfl (J.cons (GK.met 172 rfl rfl rfl hc205) (JO.fieldEl 3 rfl Try.runUnderlying43 rfl Try.sizeOf29 rfl rfl) rfl rfl (J.cons (GK.met 172 rfl rfl rfl hc205) (JO.loadEl (idx_some hz206).2.2 rfl rfl (.snd (.snd (.snd .here))) Try.isAgg29 Try.sizeOf29) rfl rfl (J.cons (GK.met 172 rfl rfl rfl hc205) (JO.call0 (con_ref_First hv207) Try.call12 (.cons (.dir rfl) (.cons (.dir rfl) .nil))) rfl rfl (J.cons (GK.met 172 rfl rfl rfl hc205) (JO.cmp rfl rfl rfl) rfl rfl (J.cons (GK.met 164 rfl rfl rfl hc203) (JO.pF hc205 rfl rfl) rfl rfl (J.cons (GK.met 164 rfl rfl rfl hc203) (JO.move rfl) rfl rfl (J.cons (GK.met 182 rfl rfl rfl hc208) (JO.move rfl) rfl rfl (J.cons (GK.met 182 rfl rfl rfl hc208) (JO.move rfl) rfl rfl (J.cons (GK.met 182 rfl rfl rfl hc208) (JO.move rfl) rfl rfl (J.cons (GK.met 182 rfl rfl rfl hc208) (JO.idxR hz209 rfl rfl rfl Try.runUnderlying32 Try.sizeOf43) rfl rfl (J.cons (GK.met 182 rfl rfl rfl hc208) (JO.fieldEl 3 rfl Try.runUnderlying43 rfl Try.sizeOf29 rfl rfl) rfl rfl (J.cons (GK.met 182 rfl rfl rfl hc208) (JO.loadEl (idx_some hz209).2.2 rfl rfl (.snd (.snd (.snd .here))) Try.isAgg29 Try.sizeOf29) rfl rfl (J.cons (GK.met 182 rfl rfl rfl hc208) (JO.callL0 (con_ref_First hv210) Try.call12 (.cons (.ref rfl rfl) (.cons (.dir rfl) .nil)) FlatS.v) rfl rfl (J.cons (GK.met 182 rfl rfl rfl hc208) (JO.cmp rfl rfl rfl) rfl rfl (J.cons (GK.met 164 rfl rfl rfl hc203) (JO.pF hc208 rfl rfl) rfl rfl (J.cons (.none rfl) (JO.pT hc203 rfl rfl) rfl rfl (J.fin (Sw.Sub.mk id (.cons rfl (.of_eq rfl) (.cons rfl (.of_eq rfl) (.cons rfl (.of_eq rfl) (.cons rfl (.of_eq rfl) (.cons rfl (.of_eq rfl) (.cons rfl (.of_eq rfl) (.cons rfl (.of_eq rfl) .nil))))))) (.arr rfl (.arr rfl (.arr rfl (.arr rfl .nil)))) rfl)))))))))))))))))))))))))))))))))))))
                  · replace hx := cond_f hc203 hx
                    obtain rfl := Option.some.inj hx
                    exact (J.cons (.none rfl) (JO.move rfl) rfl rfl (J.cons (.none rfl) (JO.move rfl) rfl rfl (J.cons (.none rfl) (JO.idxR hz202 rfl rfl rfl Try.runUnderlying32 Try.sizeOf43) rfl rfl (J.cons (.none rfl) (JO.fieldEl 1 rfl Try.runUnderlying43 rfl Try.sizeOf3 rfl rfl) rfl rfl (J.cons (.none rfl) (JO.loadEl (idx_some hz202).2.2 rfl rfl (.snd (.fst .here)) Try.isAgg3 Try.sizeOf3) rfl rfl (J.cons (.none rfl) (JO.cmp rfl rfl rfl) rfl rfl (J.cons (.none rfl) (JO.move rfl) rfl rfl (J.left (GK.unmet 164 rfl rfl rfl hc203) rfl (J.left (GK.unmet 164 rfl rfl rfl hc203) rfl (J.left (GK.unmet 164 rfl rfl rfl hc203) rfl (J.left (GK.unmet 164 rfl rfl rfl hc203) rfl (J.left (GK.unmet 164 rfl rfl rfl hc203) rfl (J.left (GK.unmet 164 rfl rfl rfl hc203) rfl (J.left (GK.unmet 164 rfl rfl rfl hc203) rfl (J.left (GK.unmet 164 rfl rfl rfl hc203) rfl (J.left (GK.und 172 rfl rfl rfl) rfl (J.left (GK.und 172 rfl rfl rfl) rfl (J.left (GK.und 172 rfl rfl rfl) rfl (J.left (GK.und 172 rfl rfl rfl) rfl (J.left (GK.und 172 rfl rfl rfl) rfl (J.left (GK.und 172 rfl rfl rfl) rfl (J.left (GK.und 172 rfl rfl rfl) rfl (J.left (GK.und 172 rfl rfl rfl) rfl (J.left (GK.unmet 164 rfl rfl rfl hc203) rfl (J.left (GK.unmet 164 rfl rfl rfl hc203) rfl (J.left (GK.und 182 rfl rfl rfl) rfl (J.left (GK.und 182 rfl rfl rfl) rfl (J.left (GK.und 182 rfl rfl rfl) rfl (J.left (GK.und 182 rfl rfl rfl) rfl (J.left (GK.und 182 rfl rfl rfl) rfl (J.left (GK.und 182 rfl rfl rfl) rfl (J.left (GK.und 182 rfl rfl rfl) rfl (J.left (GK.und 182 rfl rfl rfl) rfl (J.left (GK.unmet 164 rfl rfl rfl hc203) rfl (J.cons (.none rfl) (JO.pF hc203 rfl rfl) rfl rfl (J.fin (Sw.Sub.mk id (.cons rfl (.of_eq rfl) (.cons rfl (.of_eq rfl) (.cons rfl (.of_eq rfl) (.cons rfl (.of_eq rfl) (.cons rfl (.of_eq rfl) (.cons rfl (.of_eq rfl) (.cons rfl (.of_eq rfl) .nil))))))) (.arr rfl (.arr rfl (.arr rfl (.arr rfl .nil)))) rfl)))))))))))))))))))))))))))))))))))))
                rcases Bool.eq_false_or_eq_true x201 with hc211 | hc211
                · replace h := cond_t hc211 h
                  refine W.condT rfl hc211 ?_
                  refine W.seq ?_
                  refine W.reg (σ' := ⟨[(8, .v Enc.bool false)], []⟩) (J.cons (.none rfl) (JO.assign rfl) rfl rfl (J.fin (Sw.Sub.mk id (.cons rfl (.of_eq rfl) .nil) .nil rfl))) ?_
                  refine W.ret ?_
                  refine XQ.ret ?_
                  obtain rfl := Option.some.inj h
                  refine XQ.lret fun ho => ?_
                  obtain rfl := hr189 _ ho
                  exact XQ.sub (σ' := ⟨[(8, .v Enc.bool false)], []⟩) (Sw.Sub.mk id (.cons rfl (.of_eq rfl) .nil) .nil rfl) (XQ.ret1 hF noR rfl (RV.tmp rfl) .nil rfl)
                · replace h := cond_f hc211 h
                  refine W.condF rfl hc211 ?_
                  refine W.skip ?_
                  refine W.fall ?_
                  refine W.reg (σ' := ⟨[(9, .v (Enc.sl eBlk) v4), (11, .ref 119), (14, .ref 130000), (18, .ref 132000), (20, .ref 133000), (22, .v (Enc.int .i64) (ar .add .i64 s167 (1 : Int)))], [(119, .arr 29 eBlk x28), (130000, .arr 43 (Enc.pr (Enc.int .i64) (Enc.pr (Enc.int .i64) (Enc.pr (Enc.int .i64) eBlk))) v35.1), (132000, .arr 29 eBlk x88), (133000, .arr 29 eBlk x118)]⟩) (J.cons (.none rfl) (JO.move rfl) rfl rfl (J.cons (.none rfl) (JO.arith rfl rfl rfl) rfl rfl (J.cons (.none rfl) (JO.assign rfl) rfl rfl (J.fin (Sw.Sub.mk id (.cons rfl (.of_eq rfl) (.cons rfl (.of_eq rfl) (.cons rfl (.of_eq rfl) (.cons rfl (.of_eq rfl) (.cons rfl (.of_eq rfl) (.cons rfl (.of_eq rfl) .nil)))))) (.arr rfl (.arr rfl (.arr rfl (.arr rfl .nil)))) rfl))))) ?_
                  obtain rfl := Option.some.inj h
                  exact W.next (Sw.Sub.mk id (.cons rfl (.of_eq rfl) (.cons rfl (.of_eq rfl) (.cons rfl (.of_eq rfl) (.cons rfl (.of_eq rfl) (.cons rfl (.of_eq rfl) (.cons rfl (.of_eq rfl) .nil)))))) (.arr rfl (.arr rfl (.arr rfl (.arr rfl .nil)))) rfl)
              · replace h := cond_f hc191 h
                refine W.condF rfl hc191 ?_
                refine W.exit ?_
                obtain rfl := Option.some.inj h
                exact XQ.brk (Sw.Sub.mk id (.cons rfl (.of_eq rfl) (.cons rfl (.of_eq rfl) .nil)) (.arr rfl (.arr rfl .nil)) rfl)
            intro s112 r117 h
            refine W.seq ?_
            refine W.seq ?_
            refine W.reg (σ' := ⟨[(9, .v (Enc.sl eBlk) v4), (10, .v (Enc.sl (Enc.pr (Enc.int .i64) eBlk)) v5), (11, .ref 119), (14, .ref 130000), (18, .ref 132000), (20, .ref 133000), (21, .v (Enc.int .i64) s112.1), (137, .v Enc.bool (cm .lss s112.1 (v5.length : Int)))], [(119, .arr 29 eBlk x28), (130000, .arr 43 (Enc.pr (Enc.int .i64) (Enc.pr (Enc.int .i64) (Enc.pr (Enc.int .i64) eBlk))) v35.1), (132000, .arr 29 eBlk x88), (133000, .arr 29 eBlk s112.2)]⟩) (J.cons (.none rfl) (JO.move rfl) rfl rfl (J.cons (.none rfl) (JO.move rfl) rfl rfl (J.cons (.none rfl) (JO.len rfl Try.runUnderlying26) rfl rfl (J.cons (.none rfl) (JO.cmp rfl rfl rfl) rfl rfl (J.fin (Sw.Sub.mk id (.cons rfl (.of_eq rfl) (.cons rfl (.of_eq rfl) (.cons rfl (.of_eq rfl) (.cons rfl (.of_eq rfl) (.cons rfl (.of_eq rfl) (.cons rfl (.of_eq rfl) (.cons rfl (.of_eq rfl) (.cons rfl (.of_eq rfl) .nil)))))))) (.arr rfl (.arr rfl (.arr rfl (.arr rfl .nil)))) rfl)))))) ?_
            rcases Bool.eq_false_or_eq_true (cm .lss s112.1 (v5.length : Int)) with hc119 | hc119
            · replace h := cond_t hc119 h
              refine W.condT rfl hc119 ?_
              refine W.skip ?_
              refine W.seq ?_
              refine W.block ?_
              obtain ⟨z120, hz120, h⟩ := bind_e h
              obtain ⟨z121, hz121, h⟩ := bind_e h
              obtain ⟨z122, hz122, h⟩ := bind_e h
              refine W.dr2 (σ' := ⟨[(9, .v (Enc.sl eBlk) v4), (10, .v (Enc.sl (Enc.pr (Enc.int .i64) eBlk)) v5), (11, .ref 119), (14, .ref 130000), (18, .ref 132000), (20, .ref 133000), (21, .v (Enc.int .i64) s112.1)], [(119, .arr 29 eBlk x28), (130000, .arr 43 (Enc.pr (Enc.int .i64) (Enc.pr (Enc.int .i64) (Enc.pr (Enc.int .i64) eBlk))) v35.1), (132000, .arr 29 eBlk x88), (133000, .arr 29 eBlk (List.set s112.2 (Int.toNat z120.1) z121.2))]⟩) 12 [0, 0, 0, 6, 14, 30, 0, 0, 192, 448, 960, 2047, 4095] mixed (by exact (.cons (.none rfl) (JO.move rfl) rfl rfl (.cons (.none rfl) (JO.move rfl) rfl rfl (.cons (.none rfl) (JO.move rfl) rfl rfl (.cons (.none rfl) (JO.idx hz120 rfl rfl Try.runUnderlying26 Try.sizeOf41) rfl rfl (.cons (.none rfl) (JO.fieldPst rfl Try.runUnderlying41 rfl Try.sizeOf3 rfl (.fst .here) rfl) rfl rfl (.cons (.none rfl) (JO.loadPst rfl Try.isAgg3 Try.sizeOf3) rfl rfl (.cons (.none rfl) (JO.move rfl) rfl rfl (.cons (.none rfl) (JO.move rfl) rfl rfl (.cons (.none rfl) (JO.idx hz121 rfl rfl Try.runUnderlying26 Try.sizeOf41) rfl rfl (.cons (.none rfl) (JO.fieldPst rfl Try.runUnderlying41 rfl Try.sizeOf29 rfl (.snd .here) rfl) rfl rfl (.cons (.none rfl) (JO.loadPst rfl Try.isAgg29 Try.sizeOf29) rfl rfl (.cons (.none rfl) (JO.idxR hz122 rfl rfl rfl Try.runUnderlying24 Try.sizeOf29) rfl rfl .nil))))))))))))) (by exact (J.mut (.none rfl) (JM.storeEl (idx_some hz122).2.2 rfl rfl rfl Try.sizeOf29) (J.fin (Sw.Sub.mk id (.cons rfl (.of_eq rfl) (.cons rfl (.of_eq rfl) (.cons rfl (.of_eq rfl) (.cons rfl (.of_eq rfl) (.cons rfl (.of_eq rfl) (.cons rfl (.of_eq rfl) (.cons rfl (.of_eq rfl) .nil))))))) (.arr rfl (.arr rfl (.arr rfl (.arr rfl .nil)))) rfl)))) rfl (by decide +kernel) (by decide +kernel) (by decide +kernel) (by kernel_rfl) ?_
              refine W.fall ?_
              refine W.reg (σ' := ⟨[(9, .v (Enc.sl eBlk) v4), (10, .v (Enc.sl (Enc.pr (Enc.int .i64) eBlk)) v5), (11, .ref 119), (14, .ref 130000), (18, .ref 132000), (20, .ref 133000), (21, .v (Enc.int .i64) (ar .add .i64 s112.1 (1 : Int)))], [(119, .arr 29 eBlk x28), (130000, .arr 43 (Enc.pr (Enc.int .i64) (Enc.pr (Enc.int .i64) (Enc.pr (Enc.int .i64) eBlk))) v35.1), (132000, .arr 29 eBlk x88), (133000, .arr 29 eBlk (List.set s112.2 (Int.toNat z120.1) z121.2))]⟩) (J.cons (.none rfl) (JO.move rfl) rfl rfl (J.cons (.none rfl) (JO.arith rfl rfl rfl) rfl rfl (J.cons (.none rfl) (JO.assign rfl) rfl rfl (J.fin (Sw.Sub.mk id (.cons rfl (.of_eq rfl) (.cons rfl (.of_eq rfl) (.cons rfl (.of_eq rfl) (.cons rfl (.of_eq rfl) (.cons rfl (.of_eq rfl) (.cons rfl (.of_eq rfl) (.cons rfl (.of_eq rfl) .nil))))))) (.arr rfl (.arr rfl (.arr rfl (.arr rfl .nil)))) rfl))))) ?_
              obtain rfl := Option.some.inj h
              exact W.next (Sw.Sub.mk id (.cons rfl (.of_eq rfl) (.cons rfl (.of_eq rfl) (.cons rfl (.of_eq rfl) (.cons rfl (.of_eq rfl) (.cons rfl (.of_eq rfl) (.cons rfl (.of_eq rfl) (.cons rfl (.of_eq rfl) .nil))))))) (.arr rfl (.arr rfl (.arr rfl (.arr rfl .nil)))) rfl)
            · replace h := cond_f hc119 h
              refine W.condF rfl hc119 ?_
              refine W.exit ?_
              obtain rfl := Option.some.inj h
              exact XQ.brk (Sw.Sub.mk id (.cons rfl (.of_eq rfl) (.cons rfl (.of_eq rfl) (.cons rfl (.of_eq rfl) (.cons rfl (.of_eq rfl) (.cons rfl (.of_eq rfl) .nil))))) (.arr rfl (.arr rfl (.arr rfl (.arr rfl .nil)))) rfl)
          intro s74 r87 h
          refine W.seq ?_
          refine W.seq ?_
          refine W.reg (σ' := ⟨[(1, .v (Enc.int .i64) (ar .add .i64 (1 : Int) v2)), (9, .v (Enc.sl eBlk) v4), (10, .v (Enc.sl (Enc.pr (Enc.int .i64) eBlk)) v5), (11, .ref 119), (14, .ref 130000), (16, .ref 131000), (18, .ref 132000), (19, .v (Enc.int .i64) s74.1), (102, .v Enc.bool (cm .lss s74.1 (v40.1.length : Int)))], [(119, .arr 29 eBlk x28), (130000, .arr 43 (Enc.pr (Enc.int .i64) (Enc.pr (Enc.int .i64) (Enc.pr (Enc.int .i64) eBlk))) v35.1), (131000, .arr 41 (Enc.pr (Enc.int .i64) eBlk) v40.1), (132000, .arr 29 eBlk s74.2)]⟩) (J.cons (.none rfl) (JO.move rfl) rfl rfl (J.cons (.none rfl) (JO.move rfl) rfl rfl (J.cons (.none rfl) (JO.lenR rfl rfl Try.runUnderlying26) rfl rfl (J.cons (.none rfl) (JO.cmp rfl rfl rfl) rfl rfl (J.fin (Sw.Sub.mk id (.cons rfl (.of_eq rfl) (.cons rfl (.of_eq rfl) (.cons rfl (.of_eq rfl) (.cons rfl (.of_eq rfl) (.cons rfl (.of_eq rfl) (.cons rfl (.of_eq rfl) (.cons rfl (.of_eq rfl) (.cons rfl (.of_eq rfl) (.cons rfl (.of_eq rfl) .nil))))))))) (.arr rfl (.arr rfl (.arr rfl (.arr rfl .nil)))) rfl)))))) ?_
          rcases Bool.eq_false_or_eq_true (cm .lss s74.1 (v40.1.length : Int)) with hc89 | hc89
          · replace h := cond_t hc89 h
            refine W.condT rfl hc89 ?_
            refine W.skip ?_
            refine W.seq ?_
            refine W.block ?_
            refine W.seq ?_
            refine W.seq ?_
            obtain ⟨x93, hx, h⟩ := bind_e h
            refine W.reg (σ' := ⟨[(1, .v (Enc.int .i64) (ar .add .i64 (1 : Int) v2)), (9, .v (Enc.sl eBlk) v4), (10, .v (Enc.sl (Enc.pr (Enc.int .i64) eBlk)) v5), (11, .ref 119), (14, .ref 130000), (16, .ref 131000), (18, .ref 132000), (19, .v (Enc.int .i64) s74.1), (119, .v Enc.bool x93)], [(119, .arr 29 eBlk x28), (130000, .arr 43 (Enc.pr (Enc.int .i64) (Enc.pr (Enc.int .i64) (Enc.pr (Enc.int .i64) eBlk))) v35.1), (131000, .arr 41 (Enc.pr (Enc.int .i64) eBlk) v40.1), (132000, .arr 29 eBlk s74.2)]⟩) ?_ ?_
            · obtain ⟨z94, hz94, hx⟩ := bind_e hx
              rcases Bool.eq_false_or_eq_true (cm .lss z94.1 (0 : Int)) with hc95 | hc95
              · replace hx := cond_t hc95 hx
                obtain rfl := Option.some.inj hx
                exact (J.cons (.none rfl) (JO.move rfl) rfl rfl (J.cons (.none rfl) (JO.move rfl) rfl rfl (J.cons (.none rfl) (JO.idxR hz94 rfl rfl rfl Try.runUnderlying26 Try.sizeOf41) rfl rfl (J.cons (.none rfl) (JO.fieldEl 0 rfl Try.runUnderlying41 rfl Try.sizeOf3 rfl rfl) rfl rfl (J.cons (.none rfl) (JO.loadEl (idx_some hz94).2.2 rfl rfl (.fst .here) Try.isAgg3 Try.sizeOf3) rfl rfl (J.cons (.none rfl) (JO.cmp rfl rfl rfl) rfl rfl (J.cons (.none rfl) (JO.move rfl) rfl rfl (J.left (GK.unmet 111 rfl rfl rfl hc95) rfl (J.left (GK.unmet 111 rfl rfl rfl hc95) rfl (J.left (GK.unmet 111 rfl rfl rfl hc95) rfl (J.left (GK.unmet 111 rfl rfl rfl hc95) rfl (J.left (GK.unmet 111 rfl rfl rfl hc95) rfl (J.left (GK.unmet 111 rfl rfl rfl hc95) rfl (J.left (GK.unmet 111 rfl rfl rfl hc95) rfl (J.cons (.none rfl) (JO.pT hc95 rfl rfl) rfl rfl (J.fin (Sw.Sub.mk id (.cons rfl (.of_eq rfl) (.cons rfl (.of_eq rfl) (.cons rfl (.of_eq rfl) (.cons rfl (.of_eq rfl) (.cons rfl (.of_eq rfl) (.cons rfl (.of_eq rfl) (.cons rfl (.of_eq rfl) (.cons rfl (.of_eq rfl) (.cons rfl (.of_eq rfl) .nil))))))))) (.arr rfl (.arr rfl (.arr rfl (.arr rfl .nil)))) rfl)))))))))))))))))
              · replace hx := cond_f hc95 hx
                obtain ⟨z96, hz96, hx⟩ := bind_e hx
                obtain rfl := Option.some.inj hx
                exact (J.cons (.none rfl) (JO.move rfl) rfl rfl (J.cons (.none rfl) (JO.move rfl) rfl rfl (J.cons (.none rfl) (JO.idxR hz94 rfl rfl rfl Try.runUnderlying26 Try.sizeOf41) rfl rfl (J.cons (.none rfl) (JO.fieldEl 0 rfl Try.runUnderlying41 rfl Try.sizeOf3 rfl rfl) rfl rfl (J.cons (.none rfl) (JO.loadEl (idx_some hz94).2.2 rfl rfl (.fst .here) Try.isAgg3 Try.sizeOf3) rfl rfl (J.cons (.none rfl) (JO.cmp rfl rfl rfl) rfl rfl (J.cons (.none rfl) (JO.move rfl) rfl rfl (J.cons (GK.met 111 rfl rfl rfl hc95) (JO.move rfl) rfl rfl (J.cons (GK.met 111 rfl rfl rfl hc95) (JO.move rfl) rfl rfl (J.cons (GK.met 111 rfl rfl rfl hc95) (JO.idxR hz96 rfl rfl rfl Try.runUnderlying26 Try.sizeOf41) rfl rfl (J.cons (GK.met 111 rfl rfl rfl hc95) (JO.fieldEl 0 rfl Try.runUnderlying41 rfl Try.sizeOf3 rfl rfl) rfl rfl (J.cons (GK.met 111 rfl rfl rfl hc95) (JO.loadEl (idx_some hz96).2.2 rfl rfl (.fst .here) Try.isAgg3 Try.sizeOf3) rfl rfl (J.cons (GK.met 111 rfl rfl rfl hc95) (JO.move rfl) rfl rfl (J.cons (GK.met 111 rfl rfl rfl hc95) (JO.cmp rfl rfl rfl) rfl rfl (J.cons (.none rfl) (JO.pF hc95 rfl rfl) rfl rfl (J.fin (Sw.Sub.mk id (.cons rfl (.of_eq rfl) (.cons rfl (.of_eq rfl) (.cons rfl (.of_eq rfl) (.cons rfl (.of_eq rfl) (.cons rfl (.of_eq rfl) (.cons rfl (.of_eq rfl) (.cons rfl (.of_eq rfl) (.cons rfl (.of_eq rfl) (.cons rfl (.of_eq rfl) .nil))))))))) (.arr rfl (.arr rfl (.arr rfl (.arr rfl .nil)))) rfl)))))))))))))))))
            rcases Bool.eq_false_or_eq_true x93 with hc97 | hc97
            · replace h := cond_t hc97 h
              refine W.condT rfl hc97 ?_
              refine W.seq ?_
              refine W.reg (σ' := ⟨[(8, .v Enc.bool false)], []⟩) (J.cons (.none rfl) (JO.assign rfl) rfl rfl (J.fin (Sw.Sub.mk id (.cons rfl (.of_eq rfl) .nil) .nil rfl))) ?_
              refine W.ret ?_
              refine XQ.ret ?_
              obtain rfl := Option.some.inj h
              refine XQ.lret fun ho => ?_
              obtain rfl := hr87 _ ho
              exact XQ.sub (σ' := ⟨[(8, .v Enc.bool false)], []⟩) (Sw.Sub.mk id (.cons rfl (.of_eq rfl) .nil) .nil rfl) (XQ.ret1 hF noR rfl (RV.tmp rfl) .nil rfl)
            · replace h := cond_f hc97 h
              refine W.condF rfl hc97 ?_
              refine W.skip ?_
              obtain ⟨z98, hz98, h⟩ := bind_e h
              obtain ⟨z99, hz99, h⟩ := bind_e h
              obtain ⟨z100, hz100, h⟩ := bind_e h
              refine W.dr2 (σ' := ⟨[(1, .v (Enc.int .i64) (ar .add .i64 (1 : Int) v2)), (9, .v (Enc.sl eBlk) v4), (10, .v (Enc.sl (Enc.pr (Enc.int .i64) eBlk)) v5), (11, .ref 119), (14, .ref 130000), (16, .ref 131000), (18, .ref 132000), (19, .v (Enc.int .i64) s74.1)], [(119, .arr 29 eBlk x28), (130000, .arr 43 (Enc.pr (Enc.int .i64) (Enc.pr (Enc.int .i64) (Enc.pr (Enc.int .i64) eBlk))) v35.1), (131000, .arr 41 (Enc.pr (Enc.int .i64) eBlk) v40.1), (132000, .arr 29 eBlk (List.set s74.2 (Int.toNat z98.1) z99.2))]⟩) 12 [0, 0, 0, 6, 14, 30, 0, 0, 192, 448, 960, 2047, 4095] mixed (by exact (.cons (.none rfl) (JO.move rfl) rfl rfl (.cons (.none rfl) (JO.move rfl) rfl rfl (.cons (.none rfl) (JO.move rfl) rfl rfl (.cons (.none rfl) (JO.idxR hz98 rfl rfl rfl Try.runUnderlying26 Try.sizeOf41) rfl rfl (.cons (.none rfl) (JO.fieldEl 0 rfl Try.runUnderlying41 rfl Try.sizeOf3 rfl rfl) rfl rfl (.cons (.none rfl) (JO.loadEl (idx_some hz98).2.2 rfl rfl (.fst .here) Try.isAgg3 Try.sizeOf3) rfl rfl (.cons (.none rfl) (JO.move rfl) rfl rfl (.cons (.none rfl) (JO.move rfl) rfl rfl (.cons (.none rfl) (JO.idxR hz99 rfl rfl rfl Try.runUnderlying26 Try.sizeOf41) rfl rfl (.cons (.none rfl) (JO.fieldEl 1 rfl Try.runUnderlying41 rfl Try.sizeOf29 rfl rfl) rfl rfl (.cons (.none rfl) (JO.loadEl (idx_some hz99).2.2 rfl rfl (.snd .here) Try.isAgg29 Try.sizeOf29) rfl rfl (.cons (.none rfl) (JO.idxR hz100 rfl rfl rfl Try.runUnderlying24 Try.sizeOf29) rfl rfl .nil))))))))))))) (by exact (J.mut (.none rfl) (JM.storeEl (idx_some hz100).2.2 rfl rfl rfl Try.sizeOf29) (J.fin (Sw.Sub.mk id (.cons rfl (.of_eq rfl) (.cons rfl (.of_eq rfl) (.cons rfl (.of_eq rfl) (.cons rfl (.of_eq rfl) (.cons rfl (.of_eq rfl) (.cons rfl (.of_eq rfl) (.cons rfl (.of_eq rfl) (.cons rfl (.of_eq rfl) .nil)))))))) (.arr rfl (.arr rfl (.arr rfl (.arr rfl .nil)))) rfl)))) rfl (by decide +kernel) (by decide +kernel) (by decide +kernel) (by kernel_rfl) ?_
              refine W.fall ?_
              refine W.reg (σ' := ⟨[(1, .v (Enc.int .i64) (ar .add .i64 (1 : Int) v2)), (9, .v (Enc.sl eBlk) v4), (10, .v (Enc.sl (Enc.pr (Enc.int .i64) eBlk)) v5), (11, .ref 119), (14, .ref 130000), (16, .ref 131000), (18, .ref 132000), (19, .v (Enc.int .i64) (ar .add .i64 s74.1 (1 : Int)))], [(119, .arr 29 eBlk x28), (130000, .arr 43 (Enc.pr (Enc.int .i64) (Enc.pr (Enc.int .i64) (Enc.pr (Enc.int .i64) eBlk))) v35.1), (131000, .arr 41 (Enc.pr (Enc.int .i64) eBlk) v40.1), (132000, .arr 29 eBlk (List.set s74.2 (Int.toNat z98.1) z99.2))]⟩) (J.cons (.none rfl) (JO.move rfl) rfl rfl (J.cons (.none rfl) (JO.arith rfl rfl rfl) rfl rfl (J.cons (.none rfl) (JO.assign rfl) rfl rfl (J.fin (Sw.Sub.mk id (.cons rfl (.of_eq rfl) (.cons rfl (.of_eq rfl) (.cons rfl (.of_eq rfl) (.cons rfl (.of_eq rfl) (.cons rfl (.of_eq rfl) (.cons rfl (.of_eq rfl) (.cons rfl (.of_eq rfl) (.cons rfl (.of_eq rfl) .nil)))))))) (.arr rfl (.arr rfl (.arr rfl (.arr rfl .nil)))) rfl))))) ?_
              obtain rfl := Option.some.inj h
              exact W.next (Sw.Sub.mk id (.cons rfl (.of_eq rfl) (.cons rfl (.of_eq rfl) (.cons rfl (.of_eq rfl) (.cons rfl (.of_eq rfl) (.cons rfl (.of_eq rfl) (.cons rfl (.of_eq rfl) (.cons rfl (.of_eq rfl) (.cons rfl (.of_eq rfl) .nil)))))))) (.arr rfl (.arr rfl (.arr rfl (.arr rfl .nil)))) rfl)
          · replace h := cond_f hc89 h
            refine W.condF rfl hc89 ?_
            refine W.exit ?_
            obtain rfl := Option.some.inj h
            exact XQ.brk (Sw.Sub.mk id (.cons rfl (.of_eq rfl) (.cons rfl (.of_eq rfl) (.cons rfl (.of_eq rfl) (.cons rfl (.of_eq rfl) (.cons rfl (.of_eq rfl) .nil))))) (.arr rfl (.arr rfl (.arr rfl .nil))) rfl)
    intro s20 r27 h
    refine W.seq ?_
    refine W.seq ?_
    obtain ⟨v29, hv29, h⟩ := bind_e h
    refine W.reg (σ' := ⟨[(0, .v (Enc.sl (Enc.int .i64)) a0), (1, .v (Enc.int .i64) (ar .add .i64 (1 : Int) v2)), (2, .v (Enc.int .i64) v3), (3, .v (Enc.int .i64) a3), (9, .v (Enc.sl eBlk) v4), (10, .v (Enc.sl (Enc.pr (Enc.int .i64) eBlk)) v5), (11, .ref 119), (12, .v (Enc.int .i64) s20.1), (43, .v Enc.bool (cm .lss s20.1 v29))], [(119, .arr 29 eBlk s20.2)]⟩) (J.cons (.none rfl) (JO.move rfl) rfl rfl (J.cons (.none rfl) (JO.move rfl) rfl rfl (J.cons (.none rfl) (JO.call0 (con_ref_Pick hv29) Try.call8 (.cons (.dir rfl) (.cons (.dir rfl) .nil))) rfl rfl (J.cons (.none rfl) (JO.cmp rfl rfl rfl) rfl rfl (J.fin (Sw.Sub.mk id (.cons rfl (.of_eq rfl) (.cons rfl (.of_eq rfl) (.cons rfl (.of_eq rfl) (.cons rfl (.of_eq rfl) (.cons rfl (.of_eq rfl) (.cons rfl (.of_eq rfl) (.cons rfl (.of_eq rfl) (.cons rfl (.of_eq rfl) (.cons rfl (.of_eq rfl) .nil))))))))) (.arr rfl .nil) rfl)))))) ?_
    rcases Bool.eq_false_or_eq_true (cm .lss s20.1 v29) with hc30 | hc30
    · replace h := cond_t hc30 h
      refine W.condT rfl hc30 ?_
      refine W.skip ?_
      refine W.seq ?_
      refine W.block ?_
      refine W.seq ?_
      obtain ⟨v31, hv31, h⟩ := bind_e h
      refine W.reg (σ' := ⟨[(0, .v (Enc.sl (Enc.int .i64)) a0), (1, .v (Enc.int .i64) (ar .add .i64 (1 : Int) v2)), (2, .v (Enc.int .i64) v3), (3, .v (Enc.int .i64) a3), (9, .v (Enc.sl eBlk) v4), (10, .v (Enc.sl (Enc.pr (Enc.int .i64) eBlk)) v5), (11, .ref 119), (12, .v (Enc.int .i64) s20.1), (13, .ptr 127 0)], [(119, .arr 29 eBlk s20.2), (127, .box 29 [.v eBlk v31])]⟩) (J.cons (.none rfl) (JO.move rfl) rfl rfl (J.cons (.none rfl) (JO.move rfl) rfl rfl (J.cons (.none rfl) (JO.move rfl) rfl rfl (J.cons (.none rfl) (JO.arith rfl rfl rfl) rfl rfl (J.cons (.none rfl) (JO.call0 (con_ref_BlockFrom hv31) Try.call11 (.cons (.dir rfl) (.cons (.dir rfl) .nil))) rfl rfl (J.cons (.none rfl) (JO.alloc 127 Try.zeroValue29 rfl (.cons (Z.arr 8 (Z.int .u8)) .nil) rfl) rfl rfl (J.mut (.none rfl) (JM.store rfl rfl rfl rfl rfl rfl rfl Try.sizeOf29) (J.fin (Sw.Sub.mk id (.cons rfl (.of_eq rfl) (.cons rfl (.of_eq rfl) (.cons rfl (.of_eq rfl) (.cons rfl (.of_eq rfl) (.cons rfl (.of_eq rfl) (.cons rfl (.of_eq rfl) (.cons rfl (.of_eq rfl) (.cons rfl (.of_eq rfl) (.cons rfl (.of_eq rfl) .nil))))))))) (.arr rfl (.box rfl (.cons (.of_eq rfl) .nil) .nil)) rfl))))))))) ?_
      refine W.seq ?_
      obtain ⟨v32, hv32, h⟩ := bind_e h
      refine W.reg (σ' := ⟨[(0, .v (Enc.sl (Enc.int .i64)) a0), (1, .v (Enc.int .i64) (ar .add .i64 (1 : Int) v2)), (2, .v (Enc.int .i64) v3), (3, .v (Enc.int .i64) a3), (9, .v (Enc.sl eBlk) v4), (10, .v (Enc.sl (Enc.pr (Enc.int .i64) eBlk)) v5), (11, .ref 119), (12, .v (Enc.int .i64) s20.1), (13, .ptr 127 0), (54, .v Enc.bool (cm .lss v32 (0 : Int)))], [(119, .arr 29 eBlk s20.2), (127, .box 29 [.v eBlk v31])]⟩) (J.cons (.none rfl) (JO.move rfl) rfl rfl (J.cons (.none rfl) (JO.load rfl rfl rfl Try.isAgg29 Try.sizeOf29) rfl rfl (J.cons (.none rfl) (JO.callL0 (con_ref_First hv32) Try.call12 (.cons (.ref rfl rfl) (.cons (.dir rfl) .nil)) FlatS.v) rfl rfl (J.cons (.none rfl) (JO.cmp rfl rfl rfl) rfl rfl (J.fin (Sw.Sub.mk id (.cons rfl (.of_eq rfl) (.cons rfl (.of_eq rfl) (.cons rfl (.of_eq rfl) (.cons rfl (.of_eq rfl) (.cons rfl (.of_eq rfl) (.cons rfl (.of_eq rfl) (.cons rfl (.of_eq rfl) (.cons rfl (.of_eq rfl) (.cons rfl (.of_eq rfl) (.cons rfl (.of_eq rfl) .nil)))))))))) (.arr rfl (.box rfl (.cons (.of_eq rfl) .nil) .nil)) rfl)))))) ?_
      rcases Bool.eq_false_or_eq_true (cm .lss v32 (0 : Int)) with hc33 | hc33
      · replace h := cond_t hc33 h
        refine W.condT rfl hc33 ?_
        obtain ⟨v34, hv34, h⟩ := bind_e h
        refine W.reg (σ' := ⟨[(0, .v (Enc.sl (Enc.int .i64)) a0), (1, .v (Enc.int .i64) (ar .add .i64 (1 : Int) v2)), (2, .v (Enc.int .i64) v3), (3, .v (Enc.int .i64) a3), (9, .v (Enc.sl eBlk) v4), (10, .v (Enc.sl (Enc.pr (Enc.int .i64) eBlk)) v5), (11, .ref 129), (12, .v (Enc.int .i64) s20.1)], [(129, .arr 29 eBlk v34)]⟩) (J.cons (.none rfl) (JO.move rfl) rfl rfl (J.cons (.none rfl) (JO.load rfl rfl rfl Try.isAgg29 Try.sizeOf29) rfl rfl (J.cons (.none rfl) (JO.lit (e := eBlk) Try.runUnderlying24 Try.sizeOf29 Try.zeroValue29 rfl rfl rfl rfl (.cons (.dir rfl) .nil)) rfl rfl (J.mut (.none rfl) (JM.append 129 hv34 rfl rfl (.sl rfl) Try.runUnderlying24 Try.typeInfo29 Try.sizeOf29 rfl rfl rfl rfl rfl) (J.cons (.none rfl) (JO.assign rfl) rfl rfl (J.fin (Sw.Sub.mk id (.cons rfl (.of_eq rfl) (.cons rfl (.of_eq rfl) (.cons rfl (.of_eq rfl) (.cons rfl (.of_eq rfl) (.cons rfl (.of_eq rfl) (.cons rfl (.of_eq rfl) (.cons rfl (.of_eq rfl) (.cons rfl (.of_eq rfl) .nil)))))))) (.arr rfl .nil) rfl))))))) ?_
        refine W.fall ?_
        refine W.reg (σ' := ⟨[(0, .v (Enc.sl (Enc.int .i64)) a0), (1, .v (Enc.int .i64) (ar .add .i64 (1 : Int) v2)), (2, .v (Enc.int .i64) v3), (3, .v (Enc.int .i64) a3), (9, .v (Enc.sl eBlk) v4), (10, .v (Enc.sl (Enc.pr (Enc.int .i64) eBlk)) v5), (11, .ref 129), (12, .v (Enc.int .i64) (ar .add .i64 s20.1 (1 : Int)))], [(129, .arr 29 eBlk v34)]⟩) (J.cons (.none rfl) (JO.move rfl) rfl rfl (J.cons (.none rfl) (JO.arith rfl rfl rfl) rfl rfl (J.cons (.none rfl) (JO.assign rfl) rfl rfl (J.fin (Sw.Sub.mk id (.cons rfl (.of_eq rfl) (.cons rfl (.of_eq rfl) (.cons rfl (.of_eq rfl) (.cons rfl (.of_eq rfl) (.cons rfl (.of_eq rfl) (.cons rfl (.of_eq rfl) (.cons rfl (.of_eq rfl) (.cons rfl (.of_eq rfl) .nil)))))))) (.arr rfl .nil) rfl))))) ?_
        obtain rfl := Option.some.inj h
        exact W.next (Sw.Sub.mk (rn [(119, 129)]) (.cons rfl (.of_eq rfl) (.cons rfl (.of_eq rfl) (.cons rfl (.of_eq rfl) (.cons rfl (.of_eq rfl) (.cons rfl (.of_eq rfl) (.cons rfl (.of_eq rfl) (.cons rfl (.of_eq rfl) (.cons rfl (.of_eq rfl) .nil)))))))) (.arr rfl .nil) rfl)
      · replace h := cond_f hc33 h
        refine W.condF rfl hc33 ?_
        refine W.skip ?_
        refine W.fall ?_
        refine W.reg (σ' := ⟨[(0, .v (Enc.sl (Enc.int .i64)) a0), (1, .v (Enc.int .i64) (ar .add .i64 (1 : Int) v2)), (2, .v (Enc.int .i64) v3), (3, .v (Enc.int .i64) a3), (9, .v (Enc.sl eBlk) v4), (10, .v (Enc.sl (Enc.pr (Enc.int .i64) eBlk)) v5), (11, .ref 119), (12, .v (Enc.int .i64) (ar .add .i64 s20.1 (1 : Int)))], [(119, .arr 29 eBlk s20.2)]⟩) (J.cons (.none rfl) (JO.move rfl) rfl rfl (J.cons (.none rfl) (JO.arith rfl rfl rfl) rfl rfl (J.cons (.none rfl) (JO.assign rfl) rfl rfl (J.fin (Sw.Sub.mk id (.cons rfl (.of_eq rfl) (.cons rfl (.of_eq rfl) (.cons rfl (.of_eq rfl) (.cons rfl (.of_eq rfl) (.cons rfl (.of_eq rfl) (.cons rfl (.of_eq rfl) (.cons rfl (.of_eq rfl) (.cons rfl (.of_eq rfl) .nil)))))))) (.arr rfl .nil) rfl))))) ?_
        obtain rfl := Option.some.inj h
        exact W.next (Sw.Sub.mk id (.cons rfl (.of_eq rfl) (.cons rfl (.of_eq rfl) (.cons rfl (.of_eq rfl) (.cons rfl (.of_eq rfl) (.cons rfl (.of_eq rfl) (.cons rfl (.of_eq rfl) (.cons rfl (.of_eq rfl) (.cons rfl (.of_eq rfl) .nil)))))))) (.arr rfl .nil) rfl)
    · replace h := cond_f hc30 h
      refine W.condF rfl hc30 ?_
      refine W.exit ?_
      obtain rfl := Option.some.inj h
      exact XQ.brk (Sw.Sub.mk id (.cons rfl (.of_eq rfl) (.cons rfl (.of_eq rfl) (.cons rfl (.of_eq rfl) (.cons rfl (.of_eq rfl) .nil)))) (.arr rfl .nil) rfl)
set_option maxRecDepth 100000 in
set_option maxHeartbeats 4000000 in
theorem con_cache_Touch {a0 : (List Blk)} {a1 : Blk} {r : (List Blk) × (Option Int)} (h : m_cache_Touch a0 a1 = some r) :
    Con Try.prog 37 [.v (Enc.sl eBlk) a0, .v eBlk a1] (.tup [.v (Enc.sl eBlk) r.1, .v (Enc.err ET) r.2]) [] := by
  refine Con.of Try.func37 rfl Try.ntmps37 rfl ?_
  intro S w hF
  unfold m_cache_Touch at h
  refine W.seq ?_
  refine W.reg (σ' := ⟨[(0, .v (Enc.sl eBlk) a0), (3, .ptr 101 0)], [(101, .box 29 [.v eBlk a1])]⟩) (J.cons (.none rfl) (JO.box 101 rfl (.one _ _) rfl) rfl rfl (J.cons (.none rfl) (JO.assignNilR 102 29 eBlk) rfl rfl (J.cons (.none rfl) (JO.assignNilE ET) rfl rfl (J.fin (Sw.Sub.mk id (.cons rfl (.of_eq rfl) (.cons rfl (.of_eq rfl) .nil)) (.box rfl (.cons (.of_eq rfl) .nil) .nil) rfl))))) ?_
  refine W.seq ?_
  refine W.seq ?_
  obtain ⟨v1, hv1, h⟩ := bind_e h
  refine W.reg (σ' := ⟨[(0, .v (Enc.sl eBlk) a0), (3, .ptr 101 0), (6, .v (Enc.err ET) v1)], [(101, .box 29 [.v eBlk a1])]⟩) (J.cons (.none rfl) (JO.move rfl) rfl rfl (J.cons (.none rfl) (JO.call0 (con_cache_Check hv1) Try.call35 (.cons (.dir rfl) .nil)) rfl rfl (J.cons (.none rfl) (JO.assign rfl) rfl rfl (J.fin (Sw.Sub.mk id (.cons rfl (.of_eq rfl) (.cons rfl (.of_eq rfl) (.cons rfl (.of_eq rfl) .nil))) (.box rfl (.cons (.of_eq rfl) .nil) .nil) rfl))))) ?_
  refine W.seq ?_
  refine W.reg (σ' := ⟨[(0, .v (Enc.sl eBlk) a0), (3, .ptr 101 0), (6, .v (Enc.err ET) v1), (13, .v Enc.bool (Option.isSome v1))], [(101, .box 29 [.v eBlk a1])]⟩) (J.cons (.none rfl) (JO.move rfl) rfl rfl (J.cons (.none rfl) (JO.errNe Try.runUnderlying34 rfl) rfl rfl (J.fin (Sw.Sub.mk id (.cons rfl (.of_eq rfl) (.cons rfl (.of_eq rfl) (.cons rfl (.of_eq rfl) (.cons rfl (.of_eq rfl) .nil)))) (.box rfl (.cons (.of_eq rfl) .nil) .nil) rfl)))) ?_
  rcases Bool.eq_false_or_eq_true (Option.isSome v1) with hc2 | hc2
  · replace h := cond_t hc2 h
    refine W.condT rfl hc2 ?_
    refine W.seq ?_
    refine W.reg (σ' := ⟨[(4, .ref 104), (5, .v (Enc.err ET) v1)], [(104, .arr 29 eBlk ([] : (List Blk)))]⟩) (J.cons (.none rfl) (JO.move rfl) rfl rfl (J.cons (.none rfl) (JO.assignNilR 104 29 eBlk) rfl rfl (J.cons (.none rfl) (JO.assign rfl) rfl rfl (J.fin (Sw.Sub.mk id (.cons rfl (.of_eq rfl) (.cons rfl (.of_eq rfl) .nil)) (.arr rfl .nil) rfl))))) ?_
    refine W.ret ?_
    obtain rfl := Option.some.inj h
    exact XQ.sub (σ' := ⟨[(4, .v (Enc.sl eBlk) ([] : (List Blk))), (5, .v (Enc.err ET) v1)], []⟩) (Sw.Sub.mk id (.cons rfl (.frz rfl rfl) (.cons rfl (.of_eq rfl) .nil)) .nil rfl) (XQ.ret2 hF noR rfl (RV.tmp rfl) (RV.tmp rfl) .nil rfl)
  · replace h := cond_f hc2 h
    refine W.condF rfl hc2 ?_
    refine W.skip ?_
    refine W.seq ?_
    refine W.reg (σ' := ⟨[(0, .v (Enc.sl eBlk) a0), (3, .ptr 101 0), (7, .ref 105)], [(101, .box 29 [.v eBlk a1]), (105, .arr 29 eBlk ([a1] : (List Blk)))]⟩) (J.cons (.none rfl) (JO.load rfl rfl rfl Try.isAgg29 Try.sizeOf29) rfl rfl (J.cons (.none rfl) (JO.litR (e := eBlk) 105 Try.runUnderlying24 Try.sizeOf29 Try.zeroValue29 rfl rfl rfl rfl (.cons (.dir rfl) .nil)) rfl rfl (J.cons (.none rfl) (JO.assign rfl) rfl rfl (J.fin (Sw.Sub.mk id (.cons rfl (.of_eq rfl) (.cons rfl (.of_eq rfl) (.cons rfl (.of_eq rfl) .nil))) (.box rfl (.cons (.of_eq rfl) .nil) (.arr rfl .nil)) rfl))))) ?_
    refine W.seq ?_
    refine W.seq ?_
    refine W.reg (σ' := ⟨[(3, .ptr 101 0), (7, .ref 105), (17, .v (Enc.sl eBlk) a0), (18, .v (Enc.int .i64) (a0.length : Int)), (19, .v (Enc.int .i64) (0 : Int))], [(101, .box 29 [.v eBlk a1]), (105, .arr 29 eBlk ([a1] : (List Blk)))]⟩) (J.cons (.none rfl) (JO.move rfl) rfl rfl (J.cons (.none rfl) (JO.len rfl Try.runUnderlying24) rfl rfl (J.cons (.none rfl) (JO.move rfl) rfl rfl (J.fin (Sw.Sub.mk id (.cons rfl (.of_eq rfl) (.cons rfl (.of_eq rfl) (.cons rfl (.of_eq rfl) (.cons rfl (.of_eq rfl) (.cons rfl (.of_eq rfl) .nil))))) (.box rfl (.cons (.of_eq rfl) .nil) (.arr rfl .nil)) rfl))))) ?_
    obtain ⟨o27, ho27, hb27, hr27⟩ := lp_elim h
    refine W.lp (σs := fun s19 : Int × (List Blk) => ⟨[(3, .ptr 101 0), (7, .ref 113), (17, .v (Enc.sl eBlk) a0), (18, .v (Enc.int .i64) (a0.length : Int)), (19, .v (Enc.int .i64) s19.1)], [(101, .box 29 [.v eBlk a1]), (113, .arr 29 eBlk s19.2)]⟩) (fun x28 : (List Blk) => ⟨[(7, .ref 113)], [(113, .arr 29 eBlk x28)]⟩) ho27 (Sw.Sub.mk (rn [(101, 101), (113, 105)]) (.cons rfl (.of_eq rfl) (.cons rfl (.of_eq rfl) (.cons rfl (.of_eq rfl) (.cons rfl (.of_eq rfl) (.cons rfl (.of_eq rfl) .nil))))) (.box rfl (.cons (.of_eq rfl) .nil) (.arr rfl .nil)) rfl) ?_ ?_
    · intro x28 hy
      have h := hb27 _ hy
      refine W.seq ?_
      refine W.reg (σ' := ⟨[(4, .ref 113), (5, .v (Enc.err ET) (none : Option Int))], [(113, .arr 29 eBlk x28)]⟩) (J.cons (.none rfl) (JO.move rfl) rfl rfl (J.cons (.none rfl) (JO.assign rfl) rfl rfl (J.cons (.none rfl) (JO.assignNilE ET) rfl rfl (J.fin (Sw.Sub.mk id (.cons rfl (.of_eq rfl) (.cons rfl (.of_eq rfl) .nil)) (.arr rfl .nil) rfl))))) ?_
      refine W.ret ?_
      obtain rfl := Option.some.inj h
      exact XQ.sub (σ' := ⟨[(4, .v (Enc.sl eBlk) x28), (5, .v (Enc.err ET) (none : Option Int))], []⟩) (Sw.Sub.mk id (.cons rfl (.frz rfl rfl) (.cons rfl (.of_eq rfl) .nil)) .nil rfl) (XQ.ret2 hF noR rfl (RV.tmp rfl) (RV.tmp rfl) .nil rfl)
    intro s19 r27 h
    refine W.seq ?_
    refine W.reg (σ' := ⟨[(3, .ptr 101 0), (7, .ref 113), (17, .v (Enc.sl eBlk) a0), (18, .v (Enc.int .i64) (a0.length : Int)), (19, .v (Enc.int .i64) s19.1), (20, .v Enc.bool (cm .lss s19.1 (a0.length : Int)))], [(101, .box 29 [.v eBlk a1]), (113, .arr 29 eBlk s19.2)]⟩) (J.cons (.none rfl) (JO.cmp rfl rfl rfl) rfl rfl (J.fin (Sw.Sub.mk id (.cons rfl (.of_eq rfl) (.cons rfl (.of_eq rfl) (.cons rfl (.of_eq rfl) (.cons rfl (.of_eq rfl) (.cons rfl (.of_eq rfl) (.cons rfl (.of_eq rfl) .nil)))))) (.box rfl (.cons (.of_eq rfl) .nil) (.arr rfl .nil)) rfl))) ?_
    refine W.seq ?_
    rcases Bool.eq_false_or_eq_true (cm .lss s19.1 (a0.length : Int)) with hc29 | hc29
    · replace h := cond_t hc29 h
      refine W.condT rfl hc29 ?_
      refine W.skip ?_
      refine W.seq ?_
      refine W.block ?_
      refine W.seq ?_
      obtain ⟨z30, hz30, h⟩ := bind_e h
      refine W.reg (σ' := ⟨[(3, .ptr 101 0), (7, .ref 113), (9, .ptr 116 0), (17, .v (Enc.sl eBlk) a0), (18, .v (Enc.int .i64) (a0.length : Int)), (19, .v (Enc.int .i64) s19.1)], [(101, .box 29 [.v eBlk a1]), (113, .arr 29 eBlk s19.2), (116, .box 29 [.v eBlk z30])]⟩) (J.cons (.none rfl) (JO.idx hz30 rfl rfl Try.runUnderlying24 Try.sizeOf29) rfl rfl (J.cons (.none rfl) (JO.loadPst rfl Try.isAgg29 Try.sizeOf29) rfl rfl (J.cons (.none rfl) (JO.alloc 116 Try.zeroValue29 rfl (.cons (Z.arr 8 (Z.int .u8)) .nil) rfl) rfl rfl (J.mut (.none rfl) (JM.store rfl rfl rfl rfl rfl rfl rfl Try.sizeOf29) (J.fin (Sw.Sub.mk id (.cons rfl (.of_eq rfl) (.cons rfl (.of_eq rfl) (.cons rfl (.of_eq rfl) (.cons rfl (.of_eq rfl) (.cons rfl (.of_eq rfl) (.cons rfl (.of_eq rfl) .nil)))))) (.box rfl (.cons (.of_eq rfl) .nil) (.arr rfl (.box rfl (.cons (.of_eq rfl) .nil) .nil))) rfl)))))) ?_
      refine W.seq ?_
      obtain ⟨x32, hx, h⟩ := bind_e h
      refine W.reg (σ' := ⟨[(3, .ptr 101 0), (7, .ref 113), (9, .ptr 116 0), (17, .v (Enc.sl eBlk) a0), (18, .v (Enc.int .i64) (a0.length : Int)), (19, .v (Enc.int .i64) s19.1), (30, .v Enc.bool x32)], [(101, .box 29 [.v eBlk a1]), (113, .arr 29 eBlk s19.2), (116, .box 29 [.v eBlk z30])]⟩) ?_ ?_
      · rcases Bool.eq_false_or_eq_true (!decide (z30 = a1)) with hc33 | hc33
        · replace hx := cond_t hc33 hx
          obtain rfl := Option.some.inj hx
          exact (J.cons (.none rfl) (JO.load rfl rfl rfl Try.isAgg29 Try.sizeOf29) rfl rfl (J.cons (.none rfl) (JO.load rfl rfl rfl Try.isAgg29 Try.sizeOf29) rfl rfl (J.cons (.none rfl) (JO.neV eq29 rfl rfl Try.eqGuardType29 rfl rfl) rfl rfl (J.cons (.none rfl) (JO.move rfl) rfl rfl (J.cons (GK.met 26 rfl rfl rfl hc33) (JO.move rfl) rfl rfl (J.cons (GK.met 26 rfl rfl rfl hc33) (JO.lenR rfl rfl Try.runUnderlying24) rfl rfl (J.cons (GK.met 26 rfl rfl rfl hc33) (JO.cmp rfl rfl rfl) rfl rfl (J.cons (.none rfl) (JO.pT hc33 rfl rfl) rfl rfl (J.fin (Sw.Sub.mk id (.cons rfl (.of_eq rfl) (.cons rfl (.of_eq rfl) (.cons rfl (.of_eq rfl) (.cons rfl (.of_eq rfl) (.cons rfl (.of_eq rfl) (.cons rfl (.of_eq rfl) (.cons rfl (.of_eq rfl) .nil))))))) (.box rfl (.cons (.of_eq rfl) .nil) (.arr rfl (.box rfl (.cons (.of_eq rfl) .nil) .nil))) rfl))))))))))
        · replace hx := cond_f hc33 hx
          obtain rfl := Option.some.inj hx
          exact (J.cons (.none rfl) (JO.load rfl rfl rfl Try.isAgg29 Try.sizeOf29) rfl rfl (J.cons (.none rfl) (JO.load rfl rfl rfl Try.isAgg29 Try.sizeOf29) rfl rfl (J.cons (.none rfl) (JO.neV eq29 rfl rfl Try.eqGuardType29 rfl rfl) rfl rfl (J.cons (.none rfl) (JO.move rfl) rfl rfl (J.left (GK.unmet 26 rfl rfl rfl hc33) rfl (J.left (GK.unmet 26 rfl rfl rfl hc33) rfl (J.left (GK.unmet 26 rfl rfl rfl hc33) rfl (J.cons (.none rfl) (JO.pF hc33 rfl rfl) rfl rfl (J.fin (Sw.Sub.mk id (.cons rfl (.of_eq rfl) (.cons rfl (.of_eq rfl) (.cons rfl (.of_eq rfl) (.cons rfl (.of_eq rfl) (.cons rfl (.of_eq rfl) (.cons rfl (.of_eq rfl) (.cons rfl (.of_eq rfl) .nil))))))) (.box rfl (.cons (.of_eq rfl) .nil) (.arr rfl (.box rfl (.cons (.of_eq rfl) .nil) .nil))) rfl))))))))))
      rcases Bool.eq_false_or_eq_true x32 with hc34 | hc34
      · replace h := cond_t hc34 h
        refine W.condT rfl hc34 ?_
        obtain ⟨v35, hv35, h⟩ := bind_e h
        refine W.reg (σ' := ⟨[(3, .ptr 101 0), (7, .ref 117), (17, .v (Enc.sl eBlk) a0), (18, .v (Enc.int .i64) (a0.length : Int)), (19, .v (Enc.int .i64) s19.1)], [(101, .box 29 [.v eBlk a1]), (117, .arr 29 eBlk v35)]⟩) (J.cons (.none rfl) (JO.move rfl) rfl rfl (J.cons (.none rfl) (JO.load rfl rfl rfl Try.isAgg29 Try.sizeOf29) rfl rfl (J.cons (.none rfl) (JO.lit (e := eBlk) Try.runUnderlying24 Try.sizeOf29 Try.zeroValue29 rfl rfl rfl rfl (.cons (.dir rfl) .nil)) rfl rfl (J.mut (.none rfl) (JM.append 117 hv35 rfl rfl (.sl rfl) Try.runUnderlying24 Try.typeInfo29 Try.sizeOf29 rfl rfl rfl rfl rfl) (J.cons (.none rfl) (JO.assign rfl) rfl rfl (J.fin (Sw.Sub.mk id (.cons rfl (.of_eq rfl) (.cons rfl (.of_eq rfl) (.cons rfl (.of_eq rfl) (.cons rfl (.of_eq rfl) (.cons rfl (.of_eq rfl) .nil))))) (.box rfl (.cons (.of_eq rfl) .nil) (.arr rfl .nil)) rfl))))))) ?_
        refine W.fall ?_
        refine W.reg (σ' := ⟨[(3, .ptr 101 0), (7, .ref 117), (17, .v (Enc.sl eBlk) a0), (18, .v (Enc.int .i64) (a0.length : Int)), (19, .v (Enc.int .i64) (ar .add .i64 s19.1 (1 : Int)))], [(101, .box 29 [.v eBlk a1]), (117, .arr 29 eBlk v35)]⟩) (J.cons (.none rfl) (JO.arith rfl rfl rfl) rfl rfl (J.cons (.none rfl) (JO.move rfl) rfl rfl (J.fin (Sw.Sub.mk id (.cons rfl (.of_eq rfl) (.cons rfl (.of_eq rfl) (.cons rfl (.of_eq rfl) (.cons rfl (.of_eq rfl) (.cons rfl (.of_eq rfl) .nil))))) (.box rfl (.cons (.of_eq rfl) .nil) (.arr rfl .nil)) rfl)))) ?_
        obtain rfl := Option.some.inj h
        exact W.next (Sw.Sub.mk (rn [(101, 101), (113, 117)]) (.cons rfl (.of_eq rfl) (.cons rfl (.of_eq rfl) (.cons rfl (.of_eq rfl) (.cons rfl (.of_eq rfl) (.cons rfl (.of_eq rfl) .nil))))) (.box rfl (.cons (.of_eq rfl) .nil) (.arr rfl .nil)) rfl)
      · replace h := cond_f hc34 h
        refine W.condF rfl hc34 ?_
        refine W.skip ?_
        refine W.fall ?_
        refine W.reg (σ' := ⟨[(3, .ptr 101 0), (7, .ref 113), (17, .v (Enc.sl eBlk) a0), (18, .v (Enc.int .i64) (a0.length : Int)), (19, .v (Enc.int .i64) (ar .add .i64 s19.1 (1 : Int)))], [(101, .box 29 [.v eBlk a1]), (113, .arr 29 eBlk s19.2)]⟩) (J.cons (.none rfl) (JO.arith rfl rfl rfl) rfl rfl (J.cons (.none rfl) (JO.move rfl) rfl rfl (J.fin (Sw.Sub.mk id (.cons rfl (.of_eq rfl) (.cons rfl (.of_eq rfl) (.cons rfl (.of_eq rfl) (.cons rfl (.of_eq rfl) (.cons rfl (.of_eq rfl) .nil))))) (.box rfl (.cons (.of_eq rfl) .nil) (.arr rfl .nil)) rfl)))) ?_
        obtain rfl := Option.some.inj h
        exact W.next (Sw.Sub.mk id (.cons rfl (.of_eq rfl) (.cons rfl (.of_eq rfl) (.cons rfl (.of_eq rfl) (.cons rfl (.of_eq rfl) (.cons rfl (.of_eq rfl) .nil))))) (.box rfl (.cons (.of_eq rfl) .nil) (.arr rfl .nil)) rfl)
    · replace h := cond_f hc29 h
      refine W.condF rfl hc29 ?_
      refine W.exit ?_
      obtain rfl := Option.some.inj h
      exact XQ.brk (Sw.Sub.mk id (.cons rfl (.of_eq rfl) .nil) (.arr rfl .nil) rfl)
set_option maxRecDepth 100000 in
set_option maxHeartbeats 4000000 in
theorem con_plan_Had {a0 : (List Blk)} {a1 : (List (Int × Int × Int × Blk))} {r : (List Blk) × (Option Int)} (h : m_plan_Had a0 a1 = some r) :
    Con Try.prog 17 [.v (Enc.sl eBlk) a0, .v (Enc.sl (Enc.pr (Enc.int .i64) (Enc.pr (Enc.int .i64) (Enc.pr (Enc.int .i64) eBlk)))) a1] (.tup [.v (Enc.sl eBlk) r.1, .v (Enc.err ET) r.2]) [] := by
  refine Con.of Try.func17 rfl Try.ntmps17 rfl ?_
  intro S w hF
  unfold m_plan_Had at h
  refine W.seq ?_
  refine W.reg (σ' := ⟨[(0, .v (Enc.sl eBlk) a0), (1, .v (Enc.sl (Enc.pr (Enc.int .i64) (Enc.pr (Enc.int .i64) (Enc.pr (Enc.int .i64) eBlk)))) a1)], []⟩) (J.cons (.none rfl) (JO.assignNil eBlk) rfl rfl (J.cons (.none rfl) (JO.assignNilE ET) rfl rfl (J.fin (Sw.Sub.mk id (.cons rfl (.of_eq rfl) (.cons rfl (.of_eq rfl) .nil)) .nil rfl)))) ?_
  refine W.seq ?_
  refine W.seq ?_
  obtain ⟨v1, hv1, h⟩ := bind_e h
  refine W.reg (σ' := ⟨[(0, .v (Enc.sl eBlk) a0), (1, .v (Enc.sl (Enc.pr (Enc.int .i64) (Enc.pr (Enc.int .i64) (Enc.pr (Enc.int .i64) eBlk)))) a1), (6, .v (Enc.err ET) v1)], []⟩) (J.cons (.none rfl) (JO.move rfl) rfl rfl (J.cons (.none rfl) (JO.call0 (con_cache_Check hv1) Try.call35 (.cons (.dir rfl) .nil)) rfl rfl (J.cons (.none rfl) (JO.assign rfl) rfl rfl (J.fin (Sw.Sub.mk id (.cons rfl (.of_eq rfl) (.cons rfl (.of_eq rfl) (.cons rfl (.of_eq rfl) .nil))) .nil rfl))))) ?_
  refine W.seq ?_
  refine W.reg (σ' := ⟨[(0, .v (Enc.sl eBlk) a0), (1, .v (Enc.sl (Enc.pr (Enc.int .i64) (Enc.pr (Enc.int .i64) (Enc.pr (Enc.int .i64) eBlk)))) a1), (6, .v (Enc.err ET) v1), (13, .v Enc.bool (Option.isSome v1))], []⟩) (J.cons (.none rfl) (JO.move rfl) rfl rfl (J.cons (.none rfl) (JO.errNe Try.runUnderlying34 rfl) rfl rfl (J.fin (Sw.Sub.mk id (.cons rfl (.of_eq rfl) (.cons rfl (.of_eq rfl) (.cons rfl (.of_eq rfl) (.cons rfl (.of_eq rfl) .nil)))) .nil rfl)))) ?_
  rcases Bool.eq_false_or_eq_true (Option.isSome v1) with hc2 | hc2
  · replace h := cond_t hc2 h
    refine W.condT rfl hc2 ?_
    refine W.seq ?_
    refine W.reg (σ' := ⟨[(4, .v (Enc.sl eBlk) ([] : (List Blk))), (5, .v (Enc.err ET) v1)], []⟩) (J.cons (.none rfl) (JO.move rfl) rfl rfl (J.cons (.none rfl) (JO.assignNil eBlk) rfl rfl (J.cons (.none rfl) (JO.assign rfl) rfl rfl (J.fin (Sw.Sub.mk id (.cons rfl (.of_eq rfl) (.cons rfl (.of_eq rfl) .nil)) .nil rfl))))) ?_
    refine W.ret ?_
    obtain rfl := Option.some.inj h
    exact XQ.sub (σ' := ⟨[(4, .v (Enc.sl eBlk) ([] : (List Blk))), (5, .v (Enc.err ET) v1)], []⟩) (Sw.Sub.mk id (.cons rfl (.of_eq rfl) (.cons rfl (.of_eq rfl) .nil)) .nil rfl) (XQ.ret2 hF noR rfl (RV.tmp rfl) (RV.tmp rfl) .nil rfl)
  · replace h := cond_f hc2 h
    refine W.condF rfl hc2 ?_
    refine W.skip ?_
    refine W.seq ?_
    obtain ⟨v3, hv3, h⟩ := bind_e h
    refine W.reg (σ' := ⟨[(1, .v (Enc.sl (Enc.pr (Enc.int .i64) (Enc.pr (Enc.int .i64) (Enc.pr (Enc.int .i64) eBlk)))) a1), (7, .ref 102000)], [(102000, .arr 29 eBlk v3)]⟩) (J.cons (.none rfl) (JO.move rfl) rfl rfl (J.cons (.none rfl) (JO.call 102000 (con_slices_Clone_api_Block_api_Block hv3) Try.call36 (.cons (.dir rfl) .nil) rfl) rfl rfl (J.cons (.none rfl) (JO.assign rfl) rfl rfl (J.fin (Sw.Sub.mk id (.cons rfl (.of_eq rfl) (.cons rfl (.of_eq rfl) .nil)) (.arr rfl .nil) rfl))))) ?_
    refine W.seq ?_
    refine W.seq ?_
    refine W.reg (σ' := ⟨[(7, .ref 102000), (17, .v (Enc.sl (Enc.pr (Enc.int .i64) (Enc.pr (Enc.int .i64) (Enc.pr (Enc.int .i64) eBlk)))) a1), (18, .v (Enc.int .i64) (a1.length : Int)), (19, .v (Enc.int .i64) (0 : Int))], [(102000, .arr 29 eBlk v3)]⟩) (J.cons (.none rfl) (JO.move rfl) rfl rfl (J.cons (.none rfl) (JO.len rfl Try.runUnderlying32) rfl rfl (J.cons (.none rfl) (JO.move rfl) rfl rfl (J.fin (Sw.Sub.mk id (.cons rfl (.of_eq rfl) (.cons rfl (.of_eq rfl) (.cons rfl (.of_eq rfl) (.cons rfl (.of_eq rfl) .nil)))) (.arr rfl .nil) rfl))))) ?_
    obtain ⟨o20, ho20, hb20, hr20⟩ := lp_elim h
    refine W.lp (σs := fun s15 : (List Blk) × Int => ⟨[(7, .v (Enc.sl eBlk) s15.1), (17, .v (Enc.sl (Enc.pr (Enc.int .i64) (Enc.pr (Enc.int .i64) (Enc.pr (Enc.int .i64) eBlk)))) a1), (18, .v (Enc.int .i64) (a1.length : Int)), (19, .v (Enc.int .i64) s15.2)], []⟩) (fun x21 : (List Blk) => ⟨[(7, .v (Enc.sl eBlk) x21)], []⟩) ho20 (Sw.Sub.mk id (.cons rfl (.frz rfl rfl) (.cons rfl (.of_eq rfl) (.cons rfl (.of_eq rfl) (.cons rfl (.of_eq rfl) .nil)))) .nil rfl) ?_ ?_
    · intro x21 hy
      have h := hb20 _ hy
      refine W.seq ?_
      refine W.reg (σ' := ⟨[(4, .v (Enc.sl eBlk) x21), (5, .v (Enc.err ET) (none : Option Int))], []⟩) (J.cons (.none rfl) (JO.move rfl) rfl rfl (J.cons (.none rfl) (JO.assign rfl) rfl rfl (J.cons (.none rfl) (JO.assignNilE ET) rfl rfl (J.fin (Sw.Sub.mk id (.cons rfl (.of_eq rfl) (.cons rfl (.of_eq rfl) .nil)) .nil rfl))))) ?_
      refine W.ret ?_
      obtain rfl := Option.some.inj h
      exact XQ.sub (σ' := ⟨[(4, .v (Enc.sl eBlk) x21), (5, .v (Enc.err ET) (none : Option Int))], []⟩) (Sw.Sub.mk id (.cons rfl (.of_eq rfl) (.cons rfl (.of_eq rfl) .nil)) .nil rfl) (XQ.ret2 hF noR rfl (RV.tmp rfl) (RV.tmp rfl) .nil rfl)
    intro s15 r20 h
    refine W.seq ?_
    refine W.reg (σ' := ⟨[(7, .v (Enc.sl eBlk) s15.1), (17, .v (Enc.sl (Enc.pr (Enc.int .i64) (Enc.pr (Enc.int .i64) (Enc.pr (Enc.int .i64) eBlk)))) a1), (18, .v (Enc.int .i64) (a1.length : Int)), (19, .v (Enc.int .i64) s15.2), (20, .v Enc.bool (cm .lss s15.2 (a1.length : Int)))], []⟩) (J.cons (.none rfl) (JO.cmp rfl rfl rfl) rfl rfl (J.fin (Sw.Sub.mk id (.cons rfl (.of_eq rfl) (.cons rfl (.of_eq rfl) (.cons rfl (.of_eq rfl) (.cons rfl (.of_eq rfl) (.cons rfl (.of_eq rfl) .nil))))) .nil rfl))) ?_
    refine W.seq ?_
    rcases Bool.eq_false_or_eq_true (cm .lss s15.2 (a1.length : Int)) with hc22 | hc22
    · replace h := cond_t hc22 h
      refine W.condT rfl hc22 ?_
      refine W.skip ?_
      refine W.seq ?_
      refine W.block ?_
      refine W.seq ?_
      obtain ⟨z23, hz23, h⟩ := bind_e h
      refine W.reg (σ' := ⟨[(7, .v (Enc.sl eBlk) s15.1), (9, .ptr 110 0), (17, .v (Enc.sl (Enc.pr (Enc.int .i64) (Enc.pr (Enc.int .i64) (Enc.pr (Enc.int .i64) eBlk)))) a1), (18, .v (Enc.int .i64) (a1.length : Int)), (19, .v (Enc.int .i64) s15.2)], [(110, .box 43 [.v (Enc.int .i64) z23.1, .v (Enc.int .i64) z23.2.1, .v (Enc.int .i64) z23.2.2.1, .v eBlk z23.2.2.2])]⟩) (J.cons (.none rfl) (JO.idx hz23 rfl rfl Try.runUnderlying32 Try.sizeOf43) rfl rfl (J.cons (.none rfl) (JO.loadPst rfl Try.isAgg43 Try.sizeOf43) rfl rfl (J.cons (.none rfl) (JO.alloc 110 Try.zeroValue43 rfl (.cons (Z.int .i64) (.cons (Z.int .i64) (.cons (Z.int .i64) (.cons (Z.arr 8 (Z.int .u8)) .nil)))) rfl) rfl rfl (J.mut (.none rfl) (JM.storeAll rfl rfl rfl rfl (.prm (.one _ _) (.prm (.one _ _) (.prm (.one _ _) (.one _ _)))) Try.sizeOf43) (J.fin (Sw.Sub.mk id (.cons rfl (.of_eq rfl) (.cons rfl (.of_eq rfl) (.cons rfl (.of_eq rfl) (.cons rfl (.of_eq rfl) (.cons rfl (.of_eq rfl) .nil))))) (.box rfl (.cons (.of_eq rfl) (.cons (.of_eq rfl) (.cons (.of_eq rfl) (.cons (.of_eq rfl) .nil)))) .nil) rfl)))))) ?_
      refine W.seq ?_
      refine W.reg (σ' := ⟨[(7, .v (Enc.sl eBlk) s15.1), (9, .ptr 110 0), (17, .v (Enc.sl (Enc.pr (Enc.int .i64) (Enc.pr (Enc.int .i64) (Enc.pr (Enc.int .i64) eBlk)))) a1), (18, .v (Enc.int .i64) (a1.length : Int)), (19, .v (Enc.int .i64) s15.2), (25, .v Enc.bool (cm .eql z23.2.1 (3 : Int)))], [(110, .box 43 [.v (Enc.int .i64) z23.1, .v (Enc.int .i64) z23.2.1, .v (Enc.int .i64) z23.2.2.1, .v eBlk z23.2.2.2])]⟩) (J.cons (.none rfl) (JO.fieldPtr 1 rfl Try.runUnderlying43 rfl Try.sizeOf3 rfl rfl) rfl rfl (J.cons (.none rfl) (JO.load rfl rfl rfl Try.isAgg3 Try.sizeOf3) rfl rfl (J.cons (.none rfl) (JO.cmp rfl rfl rfl) rfl rfl (J.fin (Sw.Sub.mk id (.cons rfl (.of_eq rfl) (.cons rfl (.of_eq rfl) (.cons rfl (.of_eq rfl) (.cons rfl (.of_eq rfl) (.cons rfl (.of_eq rfl) (.cons rfl (.of_eq rfl) .nil)))))) (.box rfl (.cons (.of_eq rfl) (.cons (.of_eq rfl) (.cons (.of_eq rfl) (.cons (.of_eq rfl) .nil)))) .nil) rfl))))) ?_
      rcases Bool.eq_false_or_eq_true (cm .eql z23.2.1 (3 : Int)) with hc24 | hc24
      · replace h := cond_t hc24 h
        refine W.condT rfl hc24 ?_
        obtain ⟨v25, hv25, h⟩ := bind_e h
        refine W.reg (σ' := ⟨[(7, .v (Enc.sl eBlk) v25.1), (17, .v (Enc.sl (Enc.pr (Enc.int .i64) (Enc.pr (Enc.int .i64) (Enc.pr (Enc.int .i64) eBlk)))) a1), (18, .v (Enc.int .i64) (a1.length : Int)), (19, .v (Enc.int .i64) s15.2)], []⟩) (J.cons (.none rfl) (JO.move rfl) rfl rfl (J.cons (.none rfl) (JO.fieldPtr 3 rfl Try.runUnderlying43 rfl Try.sizeOf29 rfl rfl) rfl rfl (J.cons (.none rfl) (JO.load rfl rfl rfl Try.isAgg29 Try.sizeOf29) rfl rfl (J.cons (.none rfl) (JO.call0 (con_cache_Touch hv25) Try.call37 (.cons (.dir rfl) (.cons (.dir rfl) .nil))) rfl rfl (J.cons (.none rfl) (JO.move rfl) rfl rfl (J.cons (.none rfl) (JO.extract rfl rfl) rfl rfl (J.cons (.none rfl) (JO.extract rfl rfl) rfl rfl (J.cons (.none rfl) (JO.assign rfl) rfl rfl (J.fin (Sw.Sub.mk id (.cons rfl (.of_eq rfl) (.cons rfl (.of_eq rfl) (.cons rfl (.of_eq rfl) (.cons rfl (.of_eq rfl) .nil)))) .nil rfl)))))))))) ?_
        refine W.fall ?_
        refine W.reg (σ' := ⟨[(7, .v (Enc.sl eBlk) v25.1), (17, .v (Enc.sl (Enc.pr (Enc.int .i64) (Enc.pr (Enc.int .i64) (Enc.pr (Enc.int .i64) eBlk)))) a1), (18, .v (Enc.int .i64) (a1.length : Int)), (19, .v (Enc.int .i64) (ar .add .i64 s15.2 (1 : Int)))], []⟩) (J.cons (.none rfl) (JO.arith rfl rfl rfl) rfl rfl (J.cons (.none rfl) (JO.move rfl) rfl rfl (J.fin (Sw.Sub.mk id (.cons rfl (.of_eq rfl) (.cons rfl (.of_eq rfl) (.cons rfl (.of_eq rfl) (.cons rfl (.of_eq rfl) .nil)))) .nil rfl)))) ?_
        obtain rfl := Option.some.inj h
        exact W.next (Sw.Sub.mk id (.cons rfl (.of_eq rfl) (.cons rfl (.of_eq rfl) (.cons rfl (.of_eq rfl) (.cons rfl (.of_eq rfl) .nil)))) .nil rfl)
      · replace h := cond_f hc24 h
        refine W.condF rfl hc24 ?_
        refine W.skip ?_
        refine W.fall ?_
        refine W.reg (σ' := ⟨[(7, .v (Enc.sl eBlk) s15.1), (17, .v (Enc.sl (Enc.pr (Enc.int .i64) (Enc.pr (Enc.int .i64) (Enc.pr (Enc.int .i64) eBlk)))) a1), (18, .v (Enc.int .i64) (a1.length : Int)), (19, .v (Enc.int .i64) (ar .add .i64 s15.2 (1 : Int)))], []⟩) (J.cons (.none rfl) (JO.arith rfl rfl rfl) rfl rfl (J.cons (.none rfl) (JO.move rfl) rfl rfl (J.fin (Sw.Sub.mk id (.cons rfl (.of_eq rfl) (.cons rfl (.of_eq rfl) (.cons rfl (.of_eq rfl) (.cons rfl (.of_eq rfl) .nil)))) .nil rfl)))) ?_
        obtain rfl := Option.some.inj h
        exact W.next (Sw.Sub.mk id (.cons rfl (.of_eq rfl) (.cons rfl (.of_eq rfl) (.cons rfl (.of_eq rfl) (.cons rfl (.of_eq rfl) .nil)))) .nil rfl)
    · replace h := cond_f hc22 h
      refine W.condF rfl hc22 ?_
      refine W.exit ?_
      obtain rfl := Option.some.inj h
      exact XQ.brk (Sw.Sub.mk id (.cons rfl (.of_eq rfl) .nil) .nil rfl)
set_option maxRecDepth 100000 in
set_option maxHeartbeats 4000000 in
theorem con_top_TopHad {a0 : (List Int)} {a1 : Int} {a2 : Int} {a3 : Int} {r : Bool} (h : m_top_TopHad a0 a1 a2 a3 = some r) :
    Con Try.prog 4 [.v (Enc.sl (Enc.int .i64)) a0, .v (Enc.int .i64) a1, .v (Enc.int .i64) a2, .v (Enc.int .i64) a3] (.v Enc.bool r) [] := by
  refine Con.of Try.func4 rfl Try.ntmps4 rfl ?_
  intro S w hF
  unfold m_top_TopHad at h
  refine W.seq ?_
  refine W.reg (σ' := ⟨[(0, .v (Enc.sl (Enc.int .i64)) a0), (1, .v (Enc.int .i64) a1), (2, .v (Enc.int .i64) a2), (3, .v (Enc.int .i64) a3)], []⟩) (J.cons (.none rfl) (JO.assign rfl) rfl rfl (J.fin (Sw.Sub.mk id (.cons rfl (.of_eq rfl) (.cons rfl (.of_eq rfl) (.cons rfl (.of_eq rfl) (.cons rfl (.of_eq rfl) .nil)))) .nil rfl))) ?_
  refine W.seq ?_
  refine W.seq ?_
  refine W.reg (σ' := ⟨[(0, .v (Enc.sl (Enc.int .i64)) a0), (1, .v (Enc.int .i64) a1), (2, .v (Enc.int .i64) a2), (3, .v (Enc.int .i64) a3), (28, .v Enc.bool (cm .gtr (a0.length : Int) (128 : Int)))], []⟩) (J.cons (.none rfl) (JO.move rfl) rfl rfl (J.cons (.none rfl) (JO.len rfl Try.runUnderlying22) rfl rfl (J.cons (.none rfl) (JO.cmp rfl rfl rfl) rfl rfl (J.fin (Sw.Sub.mk id (.cons rfl (.of_eq rfl) (.cons rfl (.of_eq rfl) (.cons rfl (.of_eq rfl) (.cons rfl (.of_eq rfl) (.cons rfl (.of_eq rfl) .nil))))) .nil rfl))))) ?_
  rcases Bool.eq_false_or_eq_true (cm .gtr (a0.length : Int) (128 : Int)) with hc1 | hc1
  · replace h := cond_t hc1 h
    refine W.condT rfl hc1 ?_
    refine W.seq ?_
    refine W.reg (σ' := ⟨[(8, .v Enc.bool true)], []⟩) (J.cons (.none rfl) (JO.assign rfl) rfl rfl (J.fin (Sw.Sub.mk id (.cons rfl (.of_eq rfl) .nil) .nil rfl))) ?_
    refine W.ret ?_
    obtain rfl := Option.some.inj h
    exact XQ.sub (σ' := ⟨[(8, .v Enc.bool true)], []⟩) (Sw.Sub.mk id (.cons rfl (.of_eq rfl) .nil) .nil rfl) (XQ.ret1 hF noR rfl (RV.tmp rfl) .nil rfl)
  · replace h := cond_f hc1 h
    refine W.condF rfl hc1 ?_
    refine W.skip ?_
    refine W.seq ?_
    obtain ⟨v2, hv2, h⟩ := bind_e h
    refine W.reg (σ' := ⟨[(0, .v (Enc.sl (Enc.int .i64)) a0), (1, .v (Enc.int .i64) (ar .add .i64 (1 : Int) v2)), (2, .v (Enc.int .i64) a2), (3, .v (Enc.int .i64) a3)], []⟩) (J.cons (.none rfl) (JO.move rfl) rfl rfl (J.cons (.none rfl) (JO.call0 (con_ref_Pick hv2) Try.call8 (.cons (.dir rfl) (.cons (.dir rfl) .nil))) rfl rfl (J.cons (.none rfl) (JO.arith rfl rfl rfl) rfl rfl (J.cons (.none rfl) (JO.assign rfl) rfl rfl (J.fin (Sw.Sub.mk id (.cons rfl (.of_eq rfl) (.cons rfl (.of_eq rfl) (.cons rfl (.of_eq rfl) (.cons rfl (.of_eq rfl) .nil)))) .nil rfl)))))) ?_
    refine W.seq ?_
    obtain ⟨v3, hv3, h⟩ := bind_e h
    refine W.reg (σ' := ⟨[(0, .v (Enc.sl (Enc.int .i64)) a0), (1, .v (Enc.int .i64) (ar .add .i64 (1 : Int) v2)), (2, .v (Enc.int .i64) v3), (3, .v (Enc.int .i64) a3)], []⟩) (J.cons (.none rfl) (JO.move rfl) rfl rfl (J.cons (.none rfl) (JO.call0 (con_ref_Pick hv3) Try.call8 (.cons (.dir rfl) (.cons (.dir rfl) .nil))) rfl rfl (J.cons (.none rfl) (JO.assign rfl) rfl rfl (J.fin (Sw.Sub.mk id (.cons rfl (.of_eq rfl) (.cons rfl (.of_eq rfl) (.cons rfl (.of_eq rfl) (.cons rfl (.of_eq rfl) .nil)))) .nil rfl))))) ?_
    refine W.seq ?_
    obtain ⟨v4, hv4, h⟩ := bind_e h
    refine W.reg (σ' := ⟨[(0, .v (Enc.sl (Enc.int .i64)) a0), (1, .v (Enc.int .i64) (ar .add .i64 (1 : Int) v2)), (2, .v (Enc.int .i64) v3), (3, .v (Enc.int .i64) a3), (9, .ref 103)], [(103, .arr 29 eBlk v4)]⟩) (J.cons (.none rfl) (JO.move rfl) rfl rfl (J.cons (.none rfl) (JO.mkR 103 hv4 rfl rfl Try.runUnderlying24 Try.typeInfo29 Try.sizeOf29 rfl rfl (Z.arr 8 (Z.int .u8))) rfl rfl (J.cons (.none rfl) (JO.assign rfl) rfl rfl (J.fin (Sw.Sub.mk id (.cons rfl (.of_eq rfl) (.cons rfl (.of_eq rfl) (.cons rfl (.of_eq rfl) (.cons rfl (.of_eq rfl) (.cons rfl (.of_eq rfl) .nil))))) (.arr rfl .nil) rfl))))) ?_
    refine W.seq ?_
    obtain ⟨v5, hv5, h⟩ := bind_e h
    refine W.reg (σ' := ⟨[(0, .v (Enc.sl (Enc.int .i64)) a0), (1, .v (Enc.int .i64) (ar .add .i64 (1 : Int) v2)), (2, .v (Enc.int .i64) v3), (3, .v (Enc.int .i64) a3), (9, .ref 103), (10, .ref 104)], [(103, .arr 29 eBlk v4), (104, .arr 29 eBlk v5)]⟩) (J.cons (.none rfl) (JO.move rfl) rfl rfl (J.cons (.none rfl) (JO.mkR 104 hv5 rfl rfl Try.runUnderlying24 Try.typeInfo29 Try.sizeOf29 rfl rfl (Z.arr 8 (Z.int .u8))) rfl rfl (J.cons (.none rfl) (JO.assign rfl) rfl rfl (J.fin (Sw.Sub.mk id (.cons rfl (.of_eq rfl) (.cons rfl (.of_eq rfl) (.cons rfl (.of_eq rfl) (.cons rfl (.of_eq rfl) (.cons rfl (.of_eq rfl) (.cons rfl (.of_eq rfl) .nil)))))) (.arr rfl (.arr rfl .nil)) rfl))))) ?_
    refine W.seq ?_
    refine W.reg (σ' := ⟨[(0, .v (Enc.sl (Enc.int .i64)) a0), (1, .v (Enc.int .i64) (ar .add .i64 (1 : Int) v2)), (2, .v (Enc.int .i64) v3), (3, .v (Enc.int .i64) a3), (9, .ref 103), (10, .ref 104), (11, .v (Enc.sl eBlk) ([] : (List Blk)))], [(103, .arr 29 eBlk v4), (104, .arr 29 eBlk v5)]⟩) (J.cons (.none rfl) (JO.assignNil eBlk) rfl rfl (J.fin (Sw.Sub.mk id (.cons rfl (.of_eq rfl) (.cons rfl (.of_eq rfl) (.cons rfl (.of_eq rfl) (.cons rfl (.of_eq rfl) (.cons rfl (.of_eq rfl) (.cons rfl (.of_eq rfl) (.cons rfl (.of_eq rfl) .nil))))))) (.arr rfl (.arr rfl .nil)) rfl))) ?_
    refine W.seq ?_
    refine W.reg (σ' := ⟨[(0, .v (Enc.sl (Enc.int .i64)) a0), (1, .v (Enc.int .i64) (ar .add .i64 (1 : Int) v2)), (2, .v (Enc.int .i64) v3), (3, .v (Enc.int .i64) a3), (9, .ref 103), (10, .ref 104), (11, .v (Enc.sl eBlk) ([] : (List Blk))), (12, .v (Enc.sl eBlk) ([] : (List Blk)))], [(103, .arr 29 eBlk v4), (104, .arr 29 eBlk v5)]⟩) (J.cons (.none rfl) (JO.assignNil eBlk) rfl rfl (J.fin (Sw.Sub.mk id (.cons rfl (.of_eq rfl) (.cons rfl (.of_eq rfl) (.cons rfl (.of_eq rfl) (.cons rfl (.of_eq rfl) (.cons rfl (.of_eq rfl) (.cons rfl (.of_eq rfl) (.cons rfl (.of_eq rfl) (.cons rfl (.of_eq rfl) .nil)))))))) (.arr rfl (.arr rfl .nil)) rfl))) ?_
    refine W.seq ?_
    refine W.seq ?_
    refine W.reg (σ' := ⟨[(0, .v (Enc.sl (Enc.int .i64)) a0), (1, .v (Enc.int .i64) (ar .add .i64 (1 : Int) v2)), (2, .v (Enc.int .i64) v3), (3, .v (Enc.int .i64) a3), (9, .ref 103), (10, .ref 104), (11, .v (Enc.sl eBlk) ([] : (List Blk))), (12, .v (Enc.sl eBlk) ([] : (List Blk))), (13, .v (Enc.int .i64) (0 : Int))], [(103, .arr 29 eBlk v4), (104, .arr 29 eBlk v5)]⟩) (J.cons (.none rfl) (JO.assign rfl) rfl rfl (J.fin (Sw.Sub.mk id (.cons rfl (.of_eq rfl) (.cons rfl (.of_eq rfl) (.cons rfl (.of_eq rfl) (.cons rfl (.of_eq rfl) (.cons rfl (.of_eq rfl) (.cons rfl (.of_eq rfl) (.cons rfl (.of_eq rfl) (.cons rfl (.of_eq rfl) (.cons rfl (.of_eq rfl) .nil))))))))) (.arr rfl (.arr rfl .nil)) rfl))) ?_
    obtain ⟨o309, ho309, hb309, hr309⟩ := lp_elim h
    refine W.lp (σs := fun s208 : (List Blk) × (List Blk) × Int × (List Blk) × (List Blk) => ⟨[(0, .v (Enc.sl (Enc.int .i64)) a0), (1, .v (Enc.int .i64) (ar .add .i64 (1 : Int) v2)), (2, .v (Enc.int .i64) v3), (3, .v (Enc.int .i64) a3), (9, .ref 103), (10, .ref 104), (11, .v (Enc.sl eBlk) s208.1), (12, .v (Enc.sl eBlk) s208.2.1), (13, .v (Enc.int .i64) s208.2.2.1)], [(103, .arr 29 eBlk s208.2.2.2.1), (104, .arr 29 eBlk s208.2.2.2.2)]⟩) (fun x310 : Unit => ⟨[], []⟩) ho309 (Sw.Sub.mk id (.cons rfl (.of_eq rfl) (.cons rfl (.of_eq rfl) (.cons rfl (.of_eq rfl) (.cons rfl (.of_eq rfl) (.cons rfl (.of_eq rfl) (.cons rfl (.of_eq rfl) (.cons rfl (.of_eq rfl) (.cons rfl (.of_eq rfl) (.cons rfl (.of_eq rfl) .nil))))))))) (.arr rfl (.arr rfl .nil)) rfl) ?_ ?_
    · intro x310 hy
      have h := hb309 _ hy
      refine W.seq ?_
      refine W.reg (σ' := ⟨[(8, .v Enc.bool true)], []⟩) (J.cons (.none rfl) (JO.assign rfl) rfl rfl (J.fin (Sw.Sub.mk id (.cons rfl (.of_eq rfl) .nil) .nil rfl))) ?_
      refine W.ret ?_
      obtain rfl := Option.some.inj h
      exact XQ.sub (σ' := ⟨[(8, .v Enc.bool true)], []⟩) (Sw.Sub.mk id (.cons rfl (.of_eq rfl) .nil) .nil rfl) (XQ.ret1 hF noR rfl (RV.tmp rfl) .nil rfl)
    intro s208 r309 h
    refine W.seq ?_
    refine W.seq ?_
    obtain ⟨v311, hv311, h⟩ := bind_e h
    refine W.reg (σ' := ⟨[(0, .v (Enc.sl (Enc.int .i64)) a0), (1, .v (Enc.int .i64) (ar .add .i64 (1 : Int) v2)), (2, .v (Enc.int .i64) v3), (3, .v (Enc.int .i64) a3), (9, .ref 103), (10, .ref 104), (11, .v (Enc.sl eBlk) s208.1), (12, .v (Enc.sl eBlk) s208.2.1), (13, .v (Enc.int .i64) s208.2.2.1), (41, .v Enc.bool (cm .lss s208.2.2.1 v311))], [(103, .arr 29 eBlk s208.2.2.2.1), (104, .arr 29 eBlk s208.2.2.2.2)]⟩) (J.cons (.none rfl) (JO.move rfl) rfl rfl (J.cons (.none rfl) (JO.move rfl) rfl rfl (J.cons (.none rfl) (JO.call0 (con_ref_Pick hv311) Try.call8 (.cons (.dir rfl) (.cons (.dir rfl) .nil))) rfl rfl (J.cons (.none rfl) (JO.cmp rfl rfl rfl) rfl rfl (J.fin (Sw.Sub.mk id (.cons rfl (.of_eq rfl) (.cons rfl (.of_eq rfl) (.cons rfl (.of_eq rfl) (.cons rfl (.of_eq rfl) (.cons rfl (.of_eq rfl) (.cons rfl (.of_eq rfl) (.cons rfl (.of_eq rfl) (.cons rfl (.of_eq rfl) (.cons rfl (.of_eq rfl) (.cons rfl (.of_eq rfl) .nil)))))))))) (.arr rfl (.arr rfl .nil)) rfl)))))) ?_
    rcases Bool.eq_false_or_eq_true (cm .lss s208.2.2.1 v311) with hc312 | hc312
    · replace h := cond_t hc312 h
      refine W.condT rfl hc312 ?_
      refine W.skip ?_
      refine W.seq ?_
      refine W.block ?_
      refine W.seq ?_
      obtain ⟨v313, hv313, h⟩ := bind_e h
      refine W.reg (σ' := ⟨[(0, .v (Enc.sl (Enc.int .i64)) a0), (1, .v (Enc.int .i64) (ar .add .i64 (1 : Int) v2)), (2, .v (Enc.int .i64) v3), (3, .v (Enc.int .i64) a3), (9, .ref 103), (10, .ref 104), (11, .v (Enc.sl eBlk) s208.1), (12, .v (Enc.sl eBlk) s208.2.1), (13, .v (Enc.int .i64) s208.2.2.1), (14, .v (Enc.sl (Enc.pr (Enc.int .i64) eBlk)) v313)], [(103, .arr 29 eBlk s208.2.2.2.1), (104, .arr 29 eBlk s208.2.2.2.2)]⟩) (J.cons (.none rfl) (JO.move rfl) rfl rfl (J.cons (.none rfl) (JO.move rfl) rfl rfl (J.cons (.none rfl) (JO.move rfl) rfl rfl (J.cons (.none rfl) (JO.arith rfl rfl rfl) rfl rfl (J.cons (.none rfl) (JO.arith rfl rfl rfl) rfl rfl (J.cons (.none rfl) (JO.move rfl) rfl rfl (J.cons (.none rfl) (JO.call0 (con_ref_PutsFrom hv313) Try.call10 (.cons (.dir rfl) (.cons (.dir rfl) (.cons (.dir rfl) .nil)))) rfl rfl (J.cons (.none rfl) (JO.assign rfl) rfl rfl (J.fin (Sw.Sub.mk id (.cons rfl (.of_eq rfl) (.cons rfl (.of_eq rfl) (.cons rfl (.of_eq rfl) (.cons rfl (.of_eq rfl) (.cons rfl (.of_eq rfl) (.cons rfl (.of_eq rfl) (.cons rfl (.of_eq rfl) (.cons rfl (.of_eq rfl) (.cons rfl (.of_eq rfl) (.cons rfl (.of_eq rfl) .nil)))))))))) (.arr rfl (.arr rfl .nil)) rfl)))))))))) ?_
      refine W.seq ?_
      obtain ⟨v314, hv314, h⟩ := bind_e h
      refine W.reg (σ' := ⟨[(0, .v (Enc.sl (Enc.int .i64)) a0), (1, .v (Enc.int .i64) (ar .add .i64 (1 : Int) v2)), (2, .v (Enc.int .i64) v3), (3, .v (Enc.int .i64) a3), (9, .ref 103), (10, .ref 104), (11, .v (Enc.sl eBlk) s208.1), (12, .v (Enc.sl eBlk) s208.2.1), (13, .v (Enc.int .i64) s208.2.2.1), (14, .v (Enc.sl (Enc.pr (Enc.int .i64) eBlk)) v313), (15, .ref 140000), (16, .v (Enc.err ET) v314.2)], [(103, .arr 29 eBlk s208.2.2.2.1), (104, .arr 29 eBlk s208.2.2.2.2), (140000, .arr 43 (Enc.pr (Enc.int .i64) (Enc.pr (Enc.int .i64) (Enc.pr (Enc.int .i64) eBlk))) v314.1)]⟩) (J.cons (.none rfl) (JO.move rfl) rfl rfl (J.cons (.none rfl) (JO.move rfl) rfl rfl (J.cons (.none rfl) (JO.move rfl) rfl rfl (J.cons (.none rfl) (JO.callL 140000 (con_plan_Packets hv314) Try.call13 (.cons (.dir rfl) (.cons (.ref rfl rfl) (.cons (.dir rfl) .nil))) rfl (FlatS.tup (.ref (.v .nil))) (FlatN.arr FlatN.nil)) rfl rfl (J.cons (.none rfl) (JO.move rfl) rfl rfl (J.cons (.none rfl) (JO.extract rfl rfl) rfl rfl (J.cons (.none rfl) (JO.extract rfl rfl) rfl rfl (J.cons (.none rfl) (JO.assign rfl) rfl rfl (J.cons (.none rfl) (JO.assign rfl) rfl rfl (J.fin (Sw.Sub.mk id (.cons rfl (.of_eq rfl) (.cons rfl (.of_eq rfl) (.cons rfl (.of_eq rfl) (.cons rfl (.of_eq rfl) (.cons rfl (.of_eq rfl) (.cons rfl (.of_eq rfl) (.cons rfl (.of_eq rfl) (.cons rfl (.of_eq rfl) (.cons rfl (.of_eq rfl) (.cons rfl (.of_eq rfl) (.cons rfl (.of_eq rfl) (.cons rfl (.of_eq rfl) .nil)))))))))))) (.arr rfl (.arr rfl (.arr rfl .nil))) rfl))))))))))) ?_
      refine W.seq ?_
      refine W.seq ?_
      refine W.reg (σ' := ⟨[(0, .v (Enc.sl (Enc.int .i64)) a0), (1, .v (Enc.int .i64) (ar .add .i64 (1 : Int) v2)), (2, .v (Enc.int .i64) v3), (3, .v (Enc.int .i64) a3), (9, .ref 103), (10, .ref 104), (11, .v (Enc.sl eBlk) s208.1), (12, .v (Enc.sl eBlk) s208.2.1), (13, .v (Enc.int .i64) s208.2.2.1), (14, .v (Enc.sl (Enc.pr (Enc.int .i64) eBlk)) v313), (15, .ref 140000), (59, .v Enc.bool (Option.isSome v314.2))], [(103, .arr 29 eBlk s208.2.2.2.1), (104, .arr 29 eBlk s208.2.2.2.2), (140000, .arr 43 (Enc.pr (Enc.int .i64) (Enc.pr (Enc.int .i64) (Enc.pr (Enc.int .i64) eBlk))) v314.1)]⟩) (J.cons (.none rfl) (JO.move rfl) rfl rfl (J.cons (.none rfl) (JO.errNe Try.runUnderlying34 rfl) rfl rfl (J.fin (Sw.Sub.mk id (.cons rfl (.of_eq rfl) (.cons rfl (.of_eq rfl) (.cons rfl (.of_eq rfl) (.cons rfl (.of_eq rfl) (.cons rfl (.of_eq rfl) (.cons rfl (.of_eq rfl) (.cons rfl (.of_eq rfl) (.cons rfl (.of_eq rfl) (.cons rfl (.of_eq rfl) (.cons rfl (.of_eq rfl) (.cons rfl (.of_eq rfl) (.cons rfl (.of_eq rfl) .nil)))))))))))) (.arr rfl (.arr rfl (.arr rfl .nil))) rfl)))) ?_
      rcases Bool.eq_false_or_eq_true (Option.isSome v314.2) with hc315 | hc315
      · replace h := cond_t hc315 h
        refine W.condT rfl hc315 ?_
        refine W.seq ?_
        refine W.reg (σ' := ⟨[(8, .v Enc.bool false)], []⟩) (J.cons (.none rfl) (JO.assign rfl) rfl rfl (J.fin (Sw.Sub.mk id (.cons rfl (.of_eq rfl) .nil) .nil rfl))) ?_
        refine W.ret ?_
        refine XQ.ret ?_
        obtain rfl := Option.some.inj h
        refine XQ.lret fun ho => ?_
        obtain rfl := hr309 _ ho
        exact XQ.sub (σ' := ⟨[(8, .v Enc.bool false)], []⟩) (Sw.Sub.mk id (.cons rfl (.of_eq rfl) .nil) .nil rfl) (XQ.ret1 hF noR rfl (RV.tmp rfl) .nil rfl)
      · replace h := cond_f hc315 h
        refine W.condF rfl hc315 ?_
        refine W.skip ?_
        refine W.seq ?_
        refine W.seq ?_
        refine W.reg (σ' := ⟨[(0, .v (Enc.sl (Enc.int .i64)) a0), (1, .v (Enc.int .i64) (ar .add .i64 (1 : Int) v2)), (2, .v (Enc.int .i64) v3), (3, .v (Enc.int .i64) a3), (9, .ref 103), (10, .ref 104), (11, .v (Enc.sl eBlk) s208.1), (12, .v (Enc.sl eBlk) s208.2.1), (13, .v (Enc.int .i64) s208.2.2.1), (14, .v (Enc.sl (Enc.pr (Enc.int .i64) eBlk)) v313), (15, .ref 140000), (17, .v (Enc.int .i64) (0 : Int))], [(103, .arr 29 eBlk s208.2.2.2.1), (104, .arr 29 eBlk s208.2.2.2.2), (140000, .arr 43 (Enc.pr (Enc.int .i64) (Enc.pr (Enc.int .i64) (Enc.pr (Enc.int .i64) eBlk))) v314.1)]⟩) (J.cons (.none rfl) (JO.assign rfl) rfl rfl (J.fin (Sw.Sub.mk id (.cons rfl (.of_eq rfl) (.cons rfl (.of_eq rfl) (.cons rfl (.of_eq rfl) (.cons rfl (.of_eq rfl) (.cons rfl (.of_eq rfl) (.cons rfl (.of_eq rfl) (.cons rfl (.of_eq rfl) (.cons rfl (.of_eq rfl) (.cons rfl (.of_eq rfl) (.cons rfl (.of_eq rfl) (.cons rfl (.of_eq rfl) (.cons rfl (.of_eq rfl) .nil)))))))))))) (.arr rfl (.arr rfl (.arr rfl .nil))) rfl))) ?_
        obtain ⟨o331, ho331, hb331, hr331⟩ := lp_elim h
        refine W.lp (σs := fun s326 : Int × (List Blk) => ⟨[(0, .v (Enc.sl (Enc.int .i64)) a0), (1, .v (Enc.int .i64) (ar .add .i64 (1 : Int) v2)), (2, .v (Enc.int .i64) v3), (3, .v (Enc.int .i64) a3), (9, .ref 103), (10, .ref 104), (11, .v (Enc.sl eBlk) s208.1), (12, .v (Enc.sl eBlk) s208.2.1), (13, .v (Enc.int .i64) s208.2.2.1), (14, .v (Enc.sl (Enc.pr (Enc.int .i64) eBlk)) v313), (15, .ref 140000), (17, .v (Enc.int .i64) s326.1)], [(103, .arr 29 eBlk s326.2), (104, .arr 29 eBlk s208.2.2.2.2), (140000, .arr 43 (Enc.pr (Enc.int .i64) (Enc.pr (Enc.int .i64) (Enc.pr (Enc.int .i64) eBlk))) v314.1)]⟩) (fun x332 : (List Blk) => ⟨[(0, .v (Enc.sl (Enc.int .i64)) a0), (1, .v (Enc.int .i64) (ar .add .i64 (1 : Int) v2)), (2, .v (Enc.int .i64) v3), (3, .v (Enc.int .i64) a3), (9, .ref 103), (10, .ref 104), (11, .v (Enc.sl eBlk) s208.1), (12, .v (Enc.sl eBlk) s208.2.1), (13, .v (Enc.int .i64) s208.2.2.1), (15, .ref 140000)], [(103, .arr 29 eBlk x332), (104, .arr 29 eBlk s208.2.2.2.2), (140000, .arr 43 (Enc.pr (Enc.int .i64) (Enc.pr (Enc.int .i64) (Enc.pr (Enc.int .i64) eBlk))) v314.1)]⟩) ho331 (Sw.Sub.mk id (.cons rfl (.of_eq rfl) (.cons rfl (.of_eq rfl) (.cons rfl (.of_eq rfl) (.cons rfl (.of_eq rfl) (.cons rfl (.of_eq rfl) (.cons rfl (.of_eq rfl) (.cons rfl (.of_eq rfl) (.cons rfl (.of_eq rfl) (.cons rfl (.of_eq rfl) (.cons rfl (.of_eq rfl) (.cons rfl (.of_eq rfl) (.cons rfl (.of_eq rfl) .nil)))))))))))) (.arr rfl (.arr rfl (.arr rfl .nil))) rfl) ?_ ?_
        · intro x332 hy
          have h := hb331 _ hy
          refine W.seq ?_
          obtain ⟨v337, hv337, h⟩ := bind_e h
          refine W.reg (σ' := ⟨[(0, .v (Enc.sl (Enc.int .i64)) a0), (1, .v (Enc.int .i64) (ar .add .i64 (1 : Int) v2)), (2, .v (Enc.int .i64) v3), (3, .v (Enc.int .i64) a3), (9, .ref 103), (10, .ref 104), (11, .v (Enc.sl eBlk) s208.1), (12, .v (Enc.sl eBlk) s208.2.1), (13, .v (Enc.int .i64) s208.2.2.1), (15, .ref 140000), (18, .ref 141000), (19, .ref 141001), (20, .v (Enc.err ET) v337.2.2)], [(103, .arr 29 eBlk x332), (104, .arr 29 eBlk s208.2.2.2.2), (140000, .arr 43 (Enc.pr (Enc.int .i64) (Enc.pr (Enc.int .i64) (Enc.pr (Enc.int .i64) eBlk))) v314.1), (141000, .arr 41 (Enc.pr (Enc.int .i64) eBlk) v337.1), (141001, .arr 3 (Enc.int .i64) v337.2.1)]⟩) (J.cons (.none rfl) (JO.move rfl) rfl rfl (J.cons (.none rfl) (JO.move rfl) rfl rfl (J.cons (.none rfl) (JO.move rfl) rfl rfl (J.cons (.none rfl) (JO.callL 141000 (con_plan_Apply hv337) Try.call14 (.cons (.ref rfl rfl) (.cons (.ref rfl rfl) (.cons (.dir rfl) .nil))) rfl (FlatS.tup (.ref (.ref (.v .nil)))) (FlatN.arr (FlatN.arr FlatN.nil))) rfl rfl (J.cons (.none rfl) (JO.move rfl) rfl rfl (J.cons (.none rfl) (JO.extract rfl rfl) rfl rfl (J.cons (.none rfl) (JO.extract rfl rfl) rfl rfl (J.cons (.none rfl) (JO.extract rfl rfl) rfl rfl (J.cons (.none rfl) (JO.assign rfl) rfl rfl (J.cons (.none rfl) (JO.assign rfl) rfl rfl (J.cons (.none rfl) (JO.assign rfl) rfl rfl (J.fin (Sw.Sub.mk id (.cons rfl (.of_eq rfl) (.cons rfl (.of_eq rfl) (.cons rfl (.of_eq rfl) (.cons rfl (.of_eq rfl) (.cons rfl (.of_eq rfl) (.cons rfl (.of_eq rfl) (.cons rfl (.of_eq rfl) (.cons rfl (.of_eq rfl) (.cons rfl (.of_eq rfl) (.cons rfl (.of_eq rfl) (.cons rfl (.of_eq rfl) (.cons rfl (.of_eq rfl) (.cons rfl (.of_eq rfl) .nil))))))))))))) (.arr rfl (.arr rfl (.arr rfl (.arr rfl (.arr rfl .nil))))) rfl))))))))))))) ?_
          refine W.seq ?_
          refine W.seq ?_
          obtain ⟨x339, hx, h⟩ := bind_e h
          refine W.reg (σ' := ⟨[(0, .v (Enc.sl (Enc.int .i64)) a0), (1, .v (Enc.int .i64) (ar .add .i64 (1 : Int) v2)), (2, .v (Enc.int .i64) v3), (3, .v (Enc.int .i64) a3), (9, .ref 103), (10, .ref 104), (11, .v (Enc.sl eBlk) s208.1), (12, .v (Enc.sl eBlk) s208.2.1), (13, .v (Enc.int .i64) s208.2.2.1), (15, .ref 140000), (18, .ref 141000), (92, .v Enc.bool x339)], [(103, .arr 29 eBlk x332), (104, .arr 29 eBlk s208.2.2.2.2), (140000, .arr 43 (Enc.pr (Enc.int .i64) (Enc.pr (Enc.int .i64) (Enc.pr (Enc.int .i64) eBlk))) v314.1), (141000, .arr 41 (Enc.pr (Enc.int .i64) eBlk) v337.1)]⟩) ?_ ?_
          · rcases Bool.eq_false_or_eq_true (Option.isSome v337.2.2) with hc340 | hc340
            · replace hx := cond_t hc340 hx
              obtain rfl := Option.some.inj hx
              exact (J.cons (.none rfl) (JO.move rfl) rfl rfl (J.cons (.none rfl) (JO.errNe Try.runUnderlying34 rfl) rfl rfl (J.cons (.none rfl) (JO.move rfl) rfl rfl (J.left (GK.unmet 88 rfl rfl rfl hc340) rfl (J.left (GK.unmet 88 rfl rfl rfl hc340) rfl (J.left (GK.unmet 88 rfl rfl rfl hc340) rfl (J.cons (.none rfl) (JO.pT hc340 rfl rfl) rfl rfl (J.fin (Sw.Sub.mk id (.cons rfl (.of_eq rfl) (.cons rfl (.of_eq rfl) (.cons rfl (.of_eq rfl) (.cons rfl (.of_eq rfl) (.cons rfl (.of_eq rfl) (.cons rfl (.of_eq rfl) (.cons rfl (.of_eq rfl) (.cons rfl (.of_eq rfl) (.cons rfl (.of_eq rfl) (.cons rfl (.of_eq rfl) (.cons rfl (.of_eq rfl) (.cons rfl (.of_eq rfl) .nil)))))))))))) (.arr rfl (.arr rfl (.arr rfl (.arr rfl .nil)))) rfl)))))))))
            · replace hx := cond_f hc340 hx
              obtain rfl := Option.some.inj hx
              exact (J.cons (.none rfl) (JO.move rfl) rfl rfl (J.cons (.none rfl) (JO.errNe Try.runUnderlying34 rfl) rfl rfl (J.cons (.none rfl) (JO.move rfl) rfl rfl (J.cons (GK.met 88 rfl rfl rfl hc340) (JO.move rfl) rfl rfl (J.cons (GK.met 88 rfl rfl rfl hc340) (JO.lenR rfl rfl Try.runUnderlying22) rfl rfl (J.cons (GK.met 88 rfl rfl rfl hc340) (JO.cmp rfl rfl rfl) rfl rfl (J.cons (.none rfl) (JO.pF hc340 rfl rfl) rfl rfl (J.fin (Sw.Sub.mk id (.cons rfl (.of_eq rfl) (.cons rfl (.of_eq rfl) (.cons rfl (.of_eq rfl) (.cons rfl (.of_eq rfl) (.cons rfl (.of_eq rfl) (.cons rfl (.of_eq rfl) (.cons rfl (.of_eq rfl) (.cons rfl (.of_eq rfl) (.cons rfl (.of_eq rfl) (.cons rfl (.of_eq rfl) (.cons rfl (.of_eq rfl) (.cons rfl (.of_eq rfl) .nil)))))))))))) (.arr rfl (.arr rfl (.arr rfl (.arr rfl .nil)))) rfl)))))))))
          rcases Bool.eq_false_or_eq_true x339 with hc341 | hc341
          · replace h := cond_t hc341 h
            refine W.condT rfl hc341 ?_
            refine W.seq ?_
            refine W.reg (σ' := ⟨[(8, .v Enc.bool false)], []⟩) (J.cons (.none rfl) (JO.assign rfl) rfl rfl (J.fin (Sw.Sub.mk id (.cons rfl (.of_eq rfl) .nil) .nil rfl))) ?_
            refine W.ret ?_
            refine XQ.ret ?_
            obtain rfl := Option.some.inj h
            refine XQ.lret fun ho => ?_
            obtain rfl := hr309 _ ho
            exact XQ.sub (σ' := ⟨[(8, .v Enc.bool false)], []⟩) (Sw.Sub.mk id (.cons rfl (.of_eq rfl) .nil) .nil rfl) (XQ.ret1 hF noR rfl (RV.tmp rfl) .nil rfl)
          · replace h := cond_f hc341 h
            refine W.condF rfl hc341 ?_
            refine W.skip ?_
            refine W.seq ?_
            refine W.seq ?_
            refine W.reg (σ' := ⟨[(0, .v (Enc.sl (Enc.int .i64)) a0), (1, .v (Enc.int .i64) (ar .add .i64 (1 : Int) v2)), (2, .v (Enc.int .i64) v3), (3, .v (Enc.int .i64) a3), (9, .ref 103), (10, .ref 104), (11, .v (Enc.sl eBlk) s208.1), (12, .v (Enc.sl eBlk) s208.2.1), (13, .v (Enc.int .i64) s208.2.2.1), (15, .ref 140000), (18, .ref 141000), (21, .v (Enc.int .i64) (0 : Int))], [(103, .arr 29 eBlk x332), (104, .arr 29 eBlk s208.2.2.2.2), (140000, .arr 43 (Enc.pr (Enc.int .i64) (Enc.pr (Enc.int .i64) (Enc.pr (Enc.int .i64) eBlk))) v314.1), (141000, .arr 41 (Enc.pr (Enc.int .i64) eBlk) v337.1)]⟩) (J.cons (.none rfl) (JO.assign rfl) rfl rfl (J.fin (Sw.Sub.mk id (.cons rfl (.of_eq rfl) (.cons rfl (.of_eq rfl) (.cons rfl (.of_eq rfl) (.cons rfl (.of_eq rfl) (.cons rfl (.of_eq rfl) (.cons rfl (.of_eq rfl) (.cons rfl (.of_eq rfl) (.cons rfl (.of_eq rfl) (.cons rfl (.of_eq rfl) (.cons rfl (.of_eq rfl) (.cons rfl (.of_eq rfl) (.cons rfl (.of_eq rfl) .nil)))))))))))) (.arr rfl (.arr rfl (.arr rfl (.arr rfl .nil)))) rfl))) ?_
            obtain ⟨o381, ho381, hb381, hr381⟩ := lp_elim h
            refine W.lp (σs := fun s368 : Int × (List Blk) => ⟨[(0, .v (Enc.sl (Enc.int .i64)) a0), (1, .v (Enc.int .i64) (ar .add .i64 (1 : Int) v2)), (2, .v (Enc.int .i64) v3), (3, .v (Enc.int .i64) a3), (9, .ref 103), (10, .ref 104), (11, .v (Enc.sl eBlk) s208.1), (12, .v (Enc.sl eBlk) s208.2.1), (13, .v (Enc.int .i64) s208.2.2.1), (15, .ref 140000), (18, .ref 141000), (21, .v (Enc.int .i64) s368.1)], [(103, .arr 29 eBlk x332), (104, .arr 29 eBlk s368.2), (140000, .arr 43 (Enc.pr (Enc.int .i64) (Enc.pr (Enc.int .i64) (Enc.pr (Enc.int .i64) eBlk))) v314.1), (141000, .arr 41 (Enc.pr (Enc.int .i64) eBlk) v337.1)]⟩) (fun x382 : (List Blk) => ⟨[(0, .v (Enc.sl (Enc.int .i64)) a0), (1, .v (Enc.int .i64) (ar .add .i64 (1 : Int) v2)), (2, .v (Enc.int .i64) v3), (3, .v (Enc.int .i64) a3), (9, .ref 103), (10, .ref 104), (11, .v (Enc.sl eBlk) s208.1), (12, .v (Enc.sl eBlk) s208.2.1), (13, .v (Enc.int .i64) s208.2.2.1), (15, .ref 140000)], [(103, .arr 29 eBlk x332), (104, .arr 29 eBlk x382), (140000, .arr 43 (Enc.pr (Enc.int .i64) (Enc.pr (Enc.int .i64) (Enc.pr (Enc.int .i64) eBlk))) v314.1)]⟩) ho381 (Sw.Sub.mk id (.cons rfl (.of_eq rfl) (.cons rfl (.of_eq rfl) (.cons rfl (.of_eq rfl) (.cons rfl (.of_eq rfl) (.cons rfl (.of_eq rfl) (.cons rfl (.of_eq rfl) (.cons rfl (.of_eq rfl) (.cons rfl (.of_eq rfl) (.cons rfl (.of_eq rfl) (.cons rfl (.of_eq rfl) (.cons rfl (.of_eq rfl) (.cons rfl (.of_eq rfl) .nil)))))))))))) (.arr rfl (.arr rfl (.arr rfl (.arr rfl .nil)))) rfl) ?_ ?_
            · intro x382 hy
              have h := hb381 _ hy
              refine W.seq ?_
              obtain ⟨v396, hv396, h⟩ := bind_e h
              refine W.reg (σ' := ⟨[(0, .v (Enc.sl (Enc.int .i64)) a0), (1, .v (Enc.int .i64) (ar .add .i64 (1 : Int) v2)), (2, .v (Enc.int .i64) v3), (3, .v (Enc.int .i64) a3), (9, .ref 103), (10, .ref 104), (12, .v (Enc.sl eBlk) s208.2.1), (13, .v (Enc.int .i64) s208.2.2.1), (15, .v (Enc.sl (Enc.pr (Enc.int .i64) (Enc.pr (Enc.int .i64) (Enc.pr (Enc.int .i64) eBlk)))) v314.1), (22, .v (Enc.sl eBlk) v396.1), (23, .v (Enc.err ET) v396.2)], [(103, .arr 29 eBlk x332), (104, .arr 29 eBlk x382)]⟩) (J.cons (.none rfl) (JO.move rfl) rfl rfl (J.cons (.none rfl) (JO.move rfl) rfl rfl (J.sub (σ' := ⟨[(0, .v (Enc.sl (Enc.int .i64)) a0), (1, .v (Enc.int .i64) (ar .add .i64 (1 : Int) v2)), (2, .v (Enc.int .i64) v3), (3, .v (Enc.int .i64) a3), (9, .ref 103), (10, .ref 104), (11, .v (Enc.sl eBlk) s208.1), (12, .v (Enc.sl eBlk) s208.2.1), (13, .v (Enc.int .i64) s208.2.2.1), (15, .v (Enc.sl (Enc.pr (Enc.int .i64) (Enc.pr (Enc.int .i64) (Enc.pr (Enc.int .i64) eBlk)))) v314.1), (127, .v (Enc.sl eBlk) s208.1), (128, .v (Enc.sl (Enc.pr (Enc.int .i64) (Enc.pr (Enc.int .i64) (Enc.pr (Enc.int .i64) eBlk)))) v314.1)], [(103, .arr 29 eBlk x332), (104, .arr 29 eBlk x382)]⟩) (Sw.Sub.mk id (.cons rfl (.of_eq rfl) (.cons rfl (.of_eq rfl) (.cons rfl (.of_eq rfl) (.cons rfl (.of_eq rfl) (.cons rfl (.of_eq rfl) (.cons rfl (.of_eq rfl) (.cons rfl (.of_eq rfl) (.cons rfl (.of_eq rfl) (.cons rfl (.of_eq rfl) (.cons rfl (.frz rfl rfl) (.cons rfl (.of_eq rfl) (.cons rfl (.frz rfl rfl) .nil)))))))))))) (.arr rfl (.arr rfl .nil)) rfl) (J.cons (.none rfl) (JO.call0 (con_plan_Had hv396) Try.call17 (.cons (.dir rfl) (.cons (.dir rfl) .nil))) rfl rfl (J.cons (.none rfl) (JO.move rfl) rfl rfl (J.cons (.none rfl) (JO.extract rfl rfl) rfl rfl (J.cons (.none rfl) (JO.extract rfl rfl) rfl rfl (J.cons (.none rfl) (JO.assign rfl) rfl rfl (J.cons (.none rfl) (JO.assign rfl) rfl rfl (J.fin (Sw.Sub.mk id (.cons rfl (.of_eq rfl) (.cons rfl (.of_eq rfl) (.cons rfl (.of_eq rfl) (.cons rfl (.of_eq rfl) (.cons rfl (.of_eq rfl) (.cons rfl (.of_eq rfl) (.cons rfl (.of_eq rfl) (.cons rfl (.of_eq rfl) (.cons rfl (.of_eq rfl) (.cons rfl (.of_eq rfl) (.cons rfl (.of_eq rfl) .nil))))))))))) (.arr rfl (.arr rfl .nil)) rfl))))))))))) ?_
              refine W.seq ?_
              obtain ⟨v397, hv397, h⟩ := bind_e h
              refine W.reg (σ' := ⟨[(0, .v (Enc.sl (Enc.int .i64)) a0), (1, .v (Enc.int .i64) (ar .add .i64 (1 : Int) v2)), (2, .v (Enc.int .i64) v3), (3, .v (Enc.int .i64) a3), (9, .ref 103), (10, .ref 104), (13, .v (Enc.int .i64) s208.2.2.1), (22, .v (Enc.sl eBlk) v396.1), (23, .v (Enc.err ET) v396.2), (24, .v (Enc.sl eBlk) v397.1), (25, .v (Enc.err ET) v397.2)], [(103, .arr 29 eBlk x332), (104, .arr 29 eBlk x382)]⟩) (J.cons (.none rfl) (JO.move rfl) rfl rfl (J.cons (.none rfl) (JO.move rfl) rfl rfl (J.cons (.none rfl) (JO.call0 (con_plan_Had hv397) Try.call17 (.cons (.dir rfl) (.cons (.dir rfl) .nil))) rfl rfl (J.cons (.none rfl) (JO.move rfl) rfl rfl (J.cons (.none rfl) (JO.extract rfl rfl) rfl rfl (J.cons (.none rfl) (JO.extract rfl rfl) rfl rfl (J.cons (.none rfl) (JO.assign rfl) rfl rfl (J.cons (.none rfl) (JO.assign rfl) rfl rfl (J.fin (Sw.Sub.mk id (.cons rfl (.of_eq rfl) (.cons rfl (.of_eq rfl) (.cons rfl (.of_eq rfl) (.cons rfl (.of_eq rfl) (.cons rfl (.of_eq rfl) (.cons rfl (.of_eq rfl) (.cons rfl (.of_eq rfl) (.cons rfl (.of_eq rfl) (.cons rfl (.of_eq rfl) (.cons rfl (.of_eq rfl) (.cons rfl (.of_eq rfl) .nil))))))))))) (.arr rfl (.arr rfl .nil)) rfl)))))))))) ?_
              refine W.seq ?_
              refine W.seq ?_
              obtain ⟨x403, hx, h⟩ := bind_e h
              refine W.reg (σ' := ⟨[(0, .v (Enc.sl (Enc.int .i64)) a0), (1, .v (Enc.int .i64) (ar .add .i64 (1 : Int) v2)), (2, .v (Enc.int .i64) v3), (3, .v (Enc.int .i64) a3), (9, .ref 103), (10, .ref 104), (13, .v (Enc.int .i64) s208.2.2.1), (22, .v (Enc.sl eBlk) v396.1), (24, .v (Enc.sl eBlk) v397.1), (155, .v Enc.bool x403)], [(103, .arr 29 eBlk x332), (104, .arr 29 eBlk x382)]⟩) ?_ ?_
              · rcases Bool.eq_false_or_eq_true (Option.isSome v396.2) with hc404 | hc404
                · replace hx := cond_t hc404 hx
                  obtain rfl := Option.some.inj hx
                  exact (J.cons (.none rfl) (JO.move rfl) rfl rfl (J.cons (.none rfl) (JO.errNe Try.runUnderlying34 rfl) rfl rfl (J.cons (.none rfl) (JO.move rfl) rfl rfl (J.left (GK.unmet 140 rfl rfl rfl hc404) rfl (J.left (GK.unmet 140 rfl rfl rfl hc404) rfl (J.cons (.none rfl) (JO.pT hc404 rfl rfl) rfl rfl (J.cons (.none rfl) (JO.move rfl) rfl rfl (J.left (GK.unmet 144 rfl rfl rfl rfl) rfl (J.left (GK.unmet 144 rfl rfl rfl rfl) rfl (J.left (GK.unmet 144 rfl rfl rfl rfl) rfl (J.left (GK.unmet 144 rfl rfl rfl rfl) rfl (J.cons (.none rfl) (JO.pT rfl rfl rfl) rfl rfl (J.cons (.none rfl) (JO.move rfl) rfl rfl (J.left (GK.unmet 150 rfl rfl rfl rfl) rfl (J.left (GK.unmet 150 rfl rfl rfl rfl) rfl (J.left (GK.unmet 150 rfl rfl rfl rfl) rfl (J.left (GK.unmet 150 rfl rfl rfl rfl) rfl (J.cons (.none rfl) (JO.pT rfl rfl rfl) rfl rfl (J.fin (Sw.Sub.mk id (.cons rfl (.of_eq rfl) (.cons rfl (.of_eq rfl) (.cons rfl (.of_eq rfl) (.cons rfl (.of_eq rfl) (.cons rfl (.of_eq rfl) (.cons rfl (.of_eq rfl) (.cons rfl (.of_eq rfl) (.cons rfl (.of_eq rfl) (.cons rfl (.of_eq rfl) (.cons rfl (.of_eq rfl) .nil)))))))))) (.arr rfl (.arr rfl .nil)) rfl))))))))))))))))))))
                · replace hx := cond_f hc404 hx
                  rcases Bool.eq_false_or_eq_true (Option.isSome v397.2) with hc405 | hc405
                  · replace hx := cond_t hc405 hx
                    obtain rfl := Option.some.inj hx
                    exact (J.cons (.none rfl) (JO.move rfl) rfl rfl (J.cons (.none rfl) (JO.errNe Try.runUnderlying34 rfl) rfl rfl (J.cons (.none rfl) (JO.move rfl) rfl rfl (J.cons (GK.met 140 rfl rfl rfl hc404) (JO.move rfl) rfl rfl (J.cons (GK.met 140 rfl rfl rfl hc404) (JO.errNe Try.runUnderlying34 rfl) rfl rfl (J.cons (.none rfl) (JO.pF hc404 rfl rfl) rfl rfl (J.cons (.none rfl) (JO.move rfl) rfl rfl (J.left (GK.unmet 144 rfl rfl rfl hc405) rfl (J.left (GK.unmet 144 rfl rfl rfl hc405) rfl (J.left (GK.unmet 144 rfl rfl rfl hc405) rfl (J.left (GK.unmet 144 rfl rfl rfl hc405) rfl (J.cons (.none rfl) (JO.pT hc405 rfl rfl) rfl rfl (J.cons (.none rfl) (JO.move rfl) rfl rfl (J.left (GK.unmet 150 rfl rfl rfl rfl) rfl (J.left (GK.unmet 150 rfl rfl rfl rfl) rfl (J.left (GK.unmet 150 rfl rfl rfl rfl) rfl (J.left (GK.unmet 150 rfl rfl rfl rfl) rfl (J.cons (.none rfl) (JO.pT rfl rfl rfl) rfl rfl (J.fin (Sw.Sub.mk id (.cons rfl (.of_eq rfl) (.cons rfl (.of_eq rfl) (.cons rfl (.of_eq rfl) (.cons rfl (.of_eq rfl) (.cons rfl (.of_eq rfl) (.cons rfl (.of_eq rfl) (.cons rfl (.of_eq rfl) (.cons rfl (.of_eq rfl) (.cons rfl (.of_eq rfl) (.cons rfl (.of_eq rfl) .nil)))))))))) (.arr rfl (.arr rfl .nil)) rfl))))))))))))))))))))
                  · replace hx := cond_f hc405 hx
                    obtain ⟨v406, hv406, hx⟩ := bind_e hx
                    rcases Bool.eq_false_or_eq_true (!v406) with hc407 | hc407
                    · replace hx := cond_t hc407 hx
                      obtain rfl := Option.some.inj hx
                      exact (J.cons (.none rfl) (JO.move rfl) rfl rfl (J.cons (.none rfl) (JO.errNe Try.runUnderlying34 rfl) rfl rfl (J.cons (.none rfl) (JO.move rfl) rfl rfl (J.cons (GK.met 140 rfl rfl rfl hc404) (JO.move rfl) rfl rfl (J.cons (GK.met 140 rfl rfl rfl hc404) (JO.errNe Try.runUnderlying34 rfl) rfl rfl (J.cons (.none rfl) (JO.pF hc404 rfl rfl) rfl rfl (J.cons (.none rfl) (JO.move rfl) rfl rfl (J.cons (GK.met 144 rfl rfl rfl hc405) (JO.move rfl) rfl rfl (J.cons (GK.met 144 rfl rfl rfl hc405) (JO.move rfl) rfl rfl (J.cons (GK.met 144 rfl rfl rfl hc405) (JO.call0 (con_ref_SameBlocks hv406) Try.call16 (.cons (.dir rfl) (.cons (.dir rfl) .nil))) rfl rfl (J.cons (GK.met 144 rfl rfl rfl hc405) (JO.not rfl) rfl rfl (J.cons (.none rfl) (JO.pF hc405 rfl rfl) rfl rfl (J.cons (.none rfl) (JO.move rfl) rfl rfl (J.left (GK.unmet 150 rfl rfl rfl hc407) rfl (J.left (GK.unmet 150 rfl rfl rfl hc407) rfl (J.left (GK.unmet 150 rfl rfl rfl hc407) rfl (J.left (GK.unmet 150 rfl rfl rfl hc407) rfl (J.cons (.none rfl) (JO.pT hc407 rfl rfl) rfl rfl (J.fin (Sw.Sub.mk id (.cons rfl (.of_eq rfl) (.cons rfl (.of_eq rfl) (.cons rfl (.of_eq rfl) (.cons rfl (.of_eq rfl) (.cons rfl (.of_eq rfl) (.cons rfl (.of_eq rfl) (.cons rfl (.of_eq rfl) (.cons rfl (.of_eq rfl) (.cons rfl (.of_eq rfl) (.cons rfl (.of_eq rfl) .nil)))))))))) (.arr rfl (.arr rfl .nil)) rfl))))))))))))))))))))
                    · replace hx := cond_f hc407 hx
                      obtain ⟨v408, hv408, hx⟩ := bind_e hx
                      obtain rfl := Option.some.inj hx
                      exact (J.cons (.none rfl) (JO.move rfl) rfl rfl (J.cons (.none rfl) (JO.errNe Try.runUnderlying34 rfl) rfl rfl (J.cons (.none rfl) (JO.move rfl) rfl rfl (J.cons (GK.met 140 rfl rfl rfl hc404) (JO.move rfl) rfl rfl (J.cons (GK.met 140 rfl rfl rfl hc404) (JO.errNe Try.runUnderlying34 rfl) rfl rfl (J.cons (.none rfl) (JO.pF hc404 rfl rfl) rfl rfl (J.cons (.none rfl) (JO.move rfl) rfl rfl (J.cons (GK.met 144 rfl rfl rfl hc405) (JO.move rfl) rfl rfl (J.cons (GK.met 144 rfl rfl rfl hc405) (JO.move rfl) rfl rfl (J.cons (GK.met 144 rfl rfl rfl hc405) (JO.call0 (con_ref_SameBlocks hv406) Try.call16 (.cons (.dir rfl) (.cons (.dir rfl) .nil))) rfl rfl (J.cons (GK.met 144 rfl rfl rfl hc405) (JO.not rfl) rfl rfl (J.cons (.none rfl) (JO.pF hc405 rfl rfl) rfl rfl (J.cons (.none rfl) (JO.move rfl) rfl rfl (J.cons (GK.met 150 rfl rfl rfl hc407) (JO.move rfl) rfl rfl (J.cons (GK.met 150 rfl rfl rfl hc407) (JO.move rfl) rfl rfl (J.cons (GK.met 150 rfl rfl rfl hc407) (JO.callL0 (con_ref_SameBlocks hv408) Try.call16 (.cons (.ref rfl rfl) (.cons (.ref rfl rfl) .nil)) FlatS.v) rfl rfl (J.cons (GK.met 150 rfl rfl rfl hc407) (JO.not rfl) rfl rfl (J.cons (.none rfl) (JO.pF hc407 rfl rfl) rfl rfl (J.fin (Sw.Sub.mk id (.cons rfl (.of_eq rfl) (.cons rfl (.of_eq rfl) (.cons rfl (.of_eq rfl) (.cons rfl (.of_eq rfl) (.cons rfl (.of_eq rfl) (.cons rfl (.of_eq rfl) (.cons rfl (.of_eq rfl) (.cons rfl (.of_eq rfl) (.cons rfl (.of_eq rfl) (.cons rfl (.of_eq rfl) .nil)))))))))) (.arr rfl (.arr rfl .nil)) rfl))))))))))))))))))))
              rcases Bool.eq_false_or_eq_true x403 with hc409 | hc409
              · replace h := cond_t hc409 h
                refine W.condT rfl hc409 ?_
                refine W.seq ?_
                refine W.reg (σ' := ⟨[(8, .v Enc.bool false)], []⟩) (J.cons (.none rfl) (JO.assign rfl) rfl rfl (J.fin (Sw.Sub.mk id (.cons rfl (.of_eq rfl) .nil) .nil rfl))) ?_
                refine W.ret ?_
                refine XQ.ret ?_
                obtain rfl := Option.some.inj h
                refine XQ.lret fun ho => ?_
                obtain rfl := hr309 _ ho
                exact XQ.sub (σ' := ⟨[(8, .v Enc.bool false)], []⟩) (Sw.Sub.mk id (.cons rfl (.of_eq rfl) .nil) .nil rfl) (XQ.ret1 hF noR rfl (RV.tmp rfl) .nil rfl)
              · replace h := cond_f hc409 h
                refine W.condF rfl hc409 ?_
                refine W.skip ?_
                refine W.seq ?_
                refine W.reg (σ' := ⟨[(0, .v (Enc.sl (Enc.int .i64)) a0), (1, .v (Enc.int .i64) (ar .add .i64 (1 : Int) v2)), (2, .v (Enc.int .i64) v3), (3, .v (Enc.int .i64) a3), (9, .ref 103), (10, .ref 104), (11, .v (Enc.sl eBlk) v396.1), (13, .v (Enc.int .i64) s208.2.2.1), (24, .v (Enc.sl eBlk) v397.1)], [(103, .arr 29 eBlk x332), (104, .arr 29 eBlk x382)]⟩) (J.cons (.none rfl) (JO.move rfl) rfl rfl (J.cons (.none rfl) (JO.assign rfl) rfl rfl (J.fin (Sw.Sub.mk id (.cons rfl (.of_eq rfl) (.cons rfl (.of_eq rfl) (.cons rfl (.of_eq rfl) (.cons rfl (.of_eq rfl) (.cons rfl (.of_eq rfl) (.cons rfl (.of_eq rfl) (.cons rfl (.of_eq rfl) (.cons rfl (.of_eq rfl) (.cons rfl (.of_eq rfl) .nil))))))))) (.arr rfl (.arr rfl .nil)) rfl)))) ?_
                refine W.reg (σ' := ⟨[(0, .v (Enc.sl (Enc.int .i64)) a0), (1, .v (Enc.int .i64) (ar .add .i64 (1 : Int) v2)), (2, .v (Enc.int .i64) v3), (3, .v (Enc.int .i64) a3), (9, .ref 103), (10, .ref 104), (11, .v (Enc.sl eBlk) v396.1), (12, .v (Enc.sl eBlk) v397.1), (13, .v (Enc.int .i64) s208.2.2.1)], [(103, .arr 29 eBlk x332), (104, .arr 29 eBlk x382)]⟩) (J.cons (.none rfl) (JO.move rfl) rfl rfl (J.cons (.none rfl) (JO.assign rfl) rfl rfl (J.fin (Sw.Sub.mk id (.cons rfl (.of_eq rfl) (.cons rfl (.of_eq rfl) (.cons rfl (.of_eq rfl) (.cons rfl (.of_eq rfl) (.cons rfl (.of_eq rfl) (.cons rfl (.of_eq rfl) (.cons rfl (.of_eq rfl) (.cons rfl (.of_eq rfl) (.cons rfl (.of_eq rfl) .nil))))))))) (.arr rfl (.arr rfl .nil)) rfl)))) ?_
                refine W.fall ?_
                refine W.reg (σ' := ⟨[(0, .v (Enc.sl (Enc.int .i64)) a0), (1, .v (Enc.int .i64) (ar .add .i64 (1 : Int) v2)), (2, .v (Enc.int .i64) v3), (3, .v (Enc.int .i64) a3), (9, .ref 103), (10, .ref 104), (11, .v (Enc.sl eBlk) v396.1), (12, .v (Enc.sl eBlk) v397.1), (13, .v (Enc.int .i64) (ar .add .i64 s208.2.2.1 (1 : Int)))], [(103, .arr 29 eBlk x332), (104, .arr 29 eBlk x382)]⟩) (J.cons (.none rfl) (JO.move rfl) rfl rfl (J.cons (.none rfl) (JO.arith rfl rfl rfl) rfl rfl (J.cons (.none rfl) (JO.assign rfl) rfl rfl (J.fin (Sw.Sub.mk id (.cons rfl (.of_eq rfl) (.cons rfl (.of_eq rfl) (.cons rfl (.of_eq rfl) (.cons rfl (.of_eq rfl) (.cons rfl (.of_eq rfl) (.cons rfl (.of_eq rfl) (.cons rfl (.of_eq rfl) (.cons rfl (.of_eq rfl) (.cons rfl (.of_eq rfl) .nil))))))))) (.arr rfl (.arr rfl .nil)) rfl))))) ?_
                obtain rfl := Option.some.inj h
                exact W.next (Sw.Sub.mk id (.cons rfl (.of_eq rfl) (.cons rfl (.of_eq rfl) (.cons rfl (.of_eq rfl) (.cons rfl (.of_eq rfl) (.cons rfl (.of_eq rfl) (.cons rfl (.of_eq rfl) (.cons rfl (.of_eq rfl) (.cons rfl (.of_eq rfl) (.cons rfl (.of_eq rfl) .nil))))))))) (.arr rfl (.arr rfl .nil)) rfl)
            intro s368 r381 h
            refine W.seq ?_
            refine W.seq ?_
            refine W.reg (σ' := ⟨[(0, .v (Enc.sl (Enc.int .i64)) a0), (1, .v (Enc.int .i64) (ar .add .i64 (1 : Int) v2)), (2, .v (Enc.int .i64) v3), (3, .v (Enc.int .i64) a3), (9, .ref 103), (10, .ref 104), (11, .v (Enc.sl eBlk) s208.1), (12, .v (Enc.sl eBlk) s208.2.1), (13, .v (Enc.int .i64) s208.2.2.1), (15, .ref 140000), (18, .ref 141000), (21, .v (Enc.int .i64) s368.1), (96, .v Enc.bool (cm .lss s368.1 (v337.1.length : Int)))], [(103, .arr 29 eBlk x332), (104, .arr 29 eBlk s368.2), (140000, .arr 43 (Enc.pr (Enc.int .i64) (Enc.pr (Enc.int .i64) (Enc.pr (Enc.int .i64) eBlk))) v314.1), (141000, .arr 41 (Enc.pr (Enc.int .i64) eBlk) v337.1)]⟩) (J.cons (.none rfl) (JO.move rfl) rfl rfl (J.cons (.none rfl) (JO.move rfl) rfl rfl (J.cons (.none rfl) (JO.lenR rfl rfl Try.runUnderlying26) rfl rfl (J.cons (.none rfl) (JO.cmp rfl rfl rfl) rfl rfl (J.fin (Sw.Sub.mk id (.cons rfl (.of_eq rfl) (.cons rfl (.of_eq rfl) (.cons rfl (.of_eq rfl) (.cons rfl (.of_eq rfl) (.cons rfl (.of_eq rfl) (.cons rfl (.of_eq rfl) (.cons rfl (.of_eq rfl) (.cons rfl (.of_eq rfl) (.cons rfl (.of_eq rfl) (.cons rfl (.of_eq rfl) (.cons rfl (.of_eq rfl) (.cons rfl (.of_eq rfl) (.cons rfl (.of_eq rfl) .nil))))))))))))) (.arr rfl (.arr rfl (.arr rfl (.arr rfl .nil)))) rfl)))))) ?_
            rcases Bool.eq_false_or_eq_true (cm .lss s368.1 (v337.1.length : Int)) with hc383 | hc383
            · replace h := cond_t hc383 h
              refine W.condT rfl hc383 ?_
              refine W.skip ?_
              refine W.seq ?_
              refine W.block ?_
              refine W.seq ?_
              refine W.seq ?_
              obtain ⟨x387, hx, h⟩ := bind_e h
              refine W.reg (σ' := ⟨[(0, .v (Enc.sl (Enc.int .i64)) a0), (1, .v (Enc.int .i64) (ar .add .i64 (1 : Int) v2)), (2, .v (Enc.int .i64) v3), (3, .v (Enc.int .i64) a3), (9, .ref 103), (10, .ref 104), (11, .v (Enc.sl eBlk) s208.1), (12, .v (Enc.sl eBlk) s208.2.1), (13, .v (Enc.int .i64) s208.2.2.1), (15, .ref 140000), (18, .ref 141000), (21, .v (Enc.int .i64) s368.1), (113, .v Enc.bool x387)], [(103, .arr 29 eBlk x332), (104, .arr 29 eBlk s368.2), (140000, .arr 43 (Enc.pr (Enc.int .i64) (Enc.pr (Enc.int .i64) (Enc.pr (Enc.int .i64) eBlk))) v314.1), (141000, .arr 41 (Enc.pr (Enc.int .i64) eBlk) v337.1)]⟩) ?_ ?_
              · obtain ⟨z388, hz388, hx⟩ := bind_e hx
                rcases Bool.eq_false_or_eq_true (cm .lss z388.1 (0 : Int)) with hc389 | hc389
                · replace hx := cond_t hc389 hx
                  obtain rfl := Option.some.inj hx
                  exact (J.cons (.none rfl) (JO.move rfl) rfl rfl (J.cons (.none rfl) (JO.move rfl) rfl rfl (J.cons (.none rfl) (JO.idxR hz388 rfl rfl rfl Try.runUnderlying26 Try.sizeOf41) rfl rfl (J.cons (.none rfl) (JO.fieldEl 0 rfl Try.runUnderlying41 rfl Try.sizeOf3 rfl rfl) rfl rfl (J.cons (.none rfl) (JO.loadEl (idx_some hz388).2.2 rfl rfl (.fst .here) Try.isAgg3 Try.sizeOf3) rfl rfl (J.cons (.none rfl) (JO.cmp rfl rfl rfl) rfl rfl (J.cons (.none rfl) (JO.move rfl) rfl rfl (J.left (GK.unmet 105 rfl rfl rfl hc389) rfl (J.left (GK.unmet 105 rfl rfl rfl hc389) rfl (J.left (GK.unmet 105 rfl rfl rfl hc389) rfl (J.left (GK.unmet 105 rfl rfl rfl hc389) rfl (J.left (GK.unmet 105 rfl rfl rfl hc389) rfl (J.left (GK.unmet 105 rfl rfl rfl hc389) rfl (J.left (GK.unmet 105 rfl rfl rfl hc389) rfl (J.cons (.none rfl) (JO.pT hc389 rfl rfl) rfl rfl (J.fin (Sw.Sub.mk id (.cons rfl (.of_eq rfl) (.cons rfl (.of_eq rfl) (.cons rfl (.of_eq rfl) (.cons rfl (.of_eq rfl) (.cons rfl (.of_eq rfl) (.cons rfl (.of_eq rfl) (.cons rfl (.of_eq rfl) (.cons rfl (.of_eq rfl) (.cons rfl (.of_eq rfl) (.cons rfl (.of_eq rfl) (.cons rfl (.of_eq rfl) (.cons rfl (.of_eq rfl) (.cons rfl (.of_eq rfl) .nil))))))))))))) (.arr rfl (.arr rfl (.arr rfl (.arr rfl .nil)))) rfl)))))))))))))))))
                · replace hx := cond_f hc389 hx
                  obtain ⟨z390, hz390, hx⟩ := bind_e hx
                  obtain rfl := Option.some.inj hx
                  exact (J.cons (.none rfl) (JO.move rfl) rfl rfl (J.cons (.none rfl) (JO.move rfl) rfl rfl (J.cons (.none rfl) (JO.idxR hz388 rfl rfl rfl Try.runUnderlying26 Try.sizeOf41) rfl rfl (J.cons (.none rfl) (JO.fieldEl 0 rfl Try.runUnderlying41 rfl Try.sizeOf3 rfl rfl) rfl rfl (J.cons (.none rfl) (JO.loadEl (idx_some hz388).2.2 rfl rfl (.fst .here) Try.isAgg3 Try.sizeOf3) rfl rfl (J.cons (.none rfl) (JO.cmp rfl rfl rfl) rfl rfl (J.cons (.none rfl) (JO.move rfl) rfl rfl (J.cons (GK.met 105 rfl rfl rfl hc389) (JO.move rfl) rfl rfl (J.cons (GK.met 105 rfl rfl rfl hc389) (JO.move rfl) rfl rfl (J.cons (GK.met 105 rfl rfl rfl hc389) (JO.idxR hz390 rfl rfl rfl Try.runUnderlying26 Try.sizeOf41) rfl rfl (J.cons (GK.met 105 rfl rfl rfl hc389) (JO.fieldEl 0 rfl Try.runUnderlying41 rfl Try.sizeOf3 rfl rfl) rfl rfl (J.cons (GK.met 105 rfl rfl rfl hc389) (JO.loadEl (idx_some hz390).2.2 rfl rfl (.fst .here) Try.isAgg3 Try.sizeOf3) rfl rfl (J.cons (GK.met 105 rfl rfl rfl hc389) (JO.move rfl) rfl rfl (J.cons (GK.met 105 rfl rfl rfl hc389) (JO.cmp rfl rfl rfl) rfl rfl (J.cons (.none rfl) (JO.pF hc389 rfl rfl) rfl rfl (J.fin (Sw.Sub.mk id (.cons rfl (.of_eq rfl) (.cons rfl (.of_eq rfl) (.cons rfl (.of_eq rfl) (.cons rfl (.of_eq rfl) (.cons rfl (.of_eq rfl) (.cons rfl (.of_eq rfl) (.cons rfl (.of_eq rfl) (.cons rfl (.of_eq rfl) (.cons rfl (.of_eq rfl) (.cons rfl (.of_eq rfl) (.cons rfl (.of_eq rfl) (.cons rfl (.of_eq rfl) (.cons rfl (.of_eq rfl) .nil))))))))))))) (.arr rfl (.arr rfl (.arr rfl (.arr rfl .nil)))) rfl)))))))))))))))))
              rcases Bool.eq_false_or_eq_true x387 with hc391 | hc391
              · replace h := cond_t hc391 h
                refine W.condT rfl hc391 ?_
                refine W.seq ?_
                refine W.reg (σ' := ⟨[(8, .v Enc.bool false)], []⟩) (J.cons (.none rfl) (JO.assign rfl) rfl rfl (J.fin (Sw.Sub.mk id (.cons rfl (.of_eq rfl) .nil) .nil rfl))) ?_
                refine W.ret ?_
                refine XQ.ret ?_
                obtain rfl := Option.some.inj h
                refine XQ.lret fun ho => ?_
                obtain rfl := hr381 _ ho
                refine XQ.ret ?_
                refine XQ.lret fun ho => ?_
                obtain rfl := hr309 _ ho
                exact XQ.sub (σ' := ⟨[(8, .v Enc.bool false)], []⟩) (Sw.Sub.mk id (.cons rfl (.of_eq rfl) .nil) .nil rfl) (XQ.ret1 hF noR rfl (RV.tmp rfl) .nil rfl)
              · replace h := cond_f hc391 h
                refine W.condF rfl hc391 ?_
                refine W.skip ?_
                obtain ⟨z392, hz392, h⟩ := bind_e h
                obtain ⟨z393, hz393, h⟩ := bind_e h
                obtain ⟨z394, hz394, h⟩ := bind_e h
                refine W.dr2 (σ' := ⟨[(0, .v (Enc.sl (Enc.int .i64)) a0), (1, .v (Enc.int .i64) (ar .add .i64 (1 : Int) v2)), (2, .v (Enc.int .i64) v3), (3, .v (Enc.int .i64) a3), (9, .ref 103), (10, .ref 104), (11, .v (Enc.sl eBlk) s208.1), (12, .v (Enc.sl eBlk) s208.2.1), (13, .v (Enc.int .i64) s208.2.2.1), (15, .ref 140000), (18, .ref 141000), (21, .v (Enc.int .i64) s368.1)], [(103, .arr 29 eBlk x332), (104, .arr 29 eBlk (List.set s368.2 (Int.toNat z392.1) z393.2)), (140000, .arr 43 (Enc.pr (Enc.int .i64) (Enc.pr (Enc.int .i64) (Enc.pr (Enc.int .i64) eBlk))) v314.1), (141000, .arr 41 (Enc.pr (Enc.int .i64) eBlk) v337.1)]⟩) 12 [0, 0, 0, 6, 14, 30, 0, 0, 192, 448, 960, 2047, 4095] mixed (by exact (.cons (.none rfl) (JO.move rfl) rfl rfl (.cons (.none rfl) (JO.move rfl) rfl rfl (.cons (.none rfl) (JO.move rfl) rfl rfl (.cons (.none rfl) (JO.idxR hz392 rfl rfl rfl Try.runUnderlying26 Try.sizeOf41) rfl rfl (.cons (.none rfl) (JO.fieldEl 0 rfl Try.runUnderlying41 rfl Try.sizeOf3 rfl rfl) rfl rfl (.cons (.none rfl) (JO.loadEl (idx_some hz392).2.2 rfl rfl (.fst .here) Try.isAgg3 Try.sizeOf3) rfl rfl (.cons (.none rfl) (JO.move rfl) rfl rfl (.cons (.none rfl) (JO.move rfl) rfl rfl (.cons (.none rfl) (JO.idxR hz393 rfl rfl rfl Try.runUnderlying26 Try.sizeOf41) rfl rfl (.cons (.none rfl) (JO.fieldEl 1 rfl Try.runUnderlying41 rfl Try.sizeOf29 rfl rfl) rfl rfl (.cons (.none rfl) (JO.loadEl (idx_some hz393).2.2 rfl rfl (.snd .here) Try.isAgg29 Try.sizeOf29) rfl rfl (.cons (.none rfl) (JO.idxR hz394 rfl rfl rfl Try.runUnderlying24 Try.sizeOf29) rfl rfl .nil))))))))))))) (by exact (J.mut (.none rfl) (JM.storeEl (idx_some hz394).2.2 rfl rfl rfl Try.sizeOf29) (J.fin (Sw.Sub.mk id (.cons rfl (.of_eq rfl) (.cons rfl (.of_eq rfl) (.cons rfl (.of_eq rfl) (.cons rfl (.of_eq rfl) (.cons rfl (.of_eq rfl) (.cons rfl (.of_eq rfl) (.cons rfl (.of_eq rfl) (.cons rfl (.of_eq rfl) (.cons rfl (.of_eq rfl) (.cons rfl (.of_eq rfl) (.cons rfl (.of_eq rfl) (.cons rfl (.of_eq rfl) .nil)))))))))))) (.arr rfl (.arr rfl (.arr rfl (.arr rfl .nil)))) rfl)))) rfl (by decide +kernel) (by decide +kernel) (by decide +kernel) (by kernel_rfl) ?_
                refine W.fall ?_
                refine W.reg (σ' := ⟨[(0, .v (Enc.sl (Enc.int .i64)) a0), (1, .v (Enc.int .i64) (ar .add .i64 (1 : Int) v2)), (2, .v (Enc.int .i64) v3), (3, .v (Enc.int .i64) a3), (9, .ref 103), (10, .ref 104), (11, .v (Enc.sl eBlk) s208.1), (12, .v (Enc.sl eBlk) s208.2.1), (13, .v (Enc.int .i64) s208.2.2.1), (15, .ref 140000), (18, .ref 141000), (21, .v (Enc.int .i64) (ar .add .i64 s368.1 (1 : Int)))], [(103, .arr 29 eBlk x332), (104, .arr 29 eBlk (List.set s368.2 (Int.toNat z392.1) z393.2)), (140000, .arr 43 (Enc.pr (Enc.int .i64) (Enc.pr (Enc.int .i64) (Enc.pr (Enc.int .i64) eBlk))) v314.1), (141000, .arr 41 (Enc.pr (Enc.int .i64) eBlk) v337.1)]⟩) (J.cons (.none rfl) (JO.move rfl) rfl rfl (J.cons (.none rfl) (JO.arith rfl rfl rfl) rfl rfl (J.cons (.none rfl) (JO.assign rfl) rfl rfl (J.fin (Sw.Sub.mk id (.cons rfl (.of_eq rfl) (.cons rfl (.of_eq rfl) (.cons rfl (.of_eq rfl) (.cons rfl (.of_eq rfl) (.cons rfl (.of_eq rfl) (.cons rfl (.of_eq rfl) (.cons rfl (.of_eq rfl) (.cons rfl (.of_eq rfl) (.cons rfl (.of_eq rfl) (.cons rfl (.of_eq rfl) (.cons rfl (.of_eq rfl) (.cons rfl (.of_eq rfl) .nil)))))))))))) (.arr rfl (.arr rfl (.arr rfl (.arr rfl .nil)))) rfl))))) ?_
                obtain rfl := Option.some.inj h
                exact W.next (Sw.Sub.mk id (.cons rfl (.of_eq rfl) (.cons rfl (.of_eq rfl) (.cons rfl (.of_eq rfl) (.cons rfl (.of_eq rfl) (.cons rfl (.of_eq rfl) (.cons rfl (.of_eq rfl) (.cons rfl (.of_eq rfl) (.cons rfl (.of_eq rfl) (.cons rfl (.of_eq rfl) (.cons rfl (.of_eq rfl) (.cons rfl (.of_eq rfl) (.cons rfl (.of_eq rfl) .nil)))))))))))) (.arr rfl (.arr rfl (.arr rfl (.arr rfl .nil)))) rfl)
            · replace h := cond_f hc383 h
              refine W.condF rfl hc383 ?_
              refine W.exit ?_
              obtain rfl := Option.some.inj h
              exact XQ.brk (Sw.Sub.mk id (.cons rfl (.of_eq rfl) (.cons rfl (.of_eq rfl) (.cons rfl (.of_eq rfl) (.cons rfl (.of_eq rfl) (.cons rfl (.of_eq rfl) (.cons rfl (.of_eq rfl) (.cons rfl (.of_eq rfl) (.cons rfl (.of_eq rfl) (.cons rfl (.of_eq rfl) (.cons rfl (.of_eq rfl) .nil)))))))))) (.arr rfl (.arr rfl (.arr rfl .nil))) rfl)
        intro s326 r331 h
        refine W.seq ?_
        refine W.seq ?_
        refine W.reg (σ' := ⟨[(0, .v (Enc.sl (Enc.int .i64)) a0), (1, .v (Enc.int .i64) (ar .add .i64 (1 : Int) v2)), (2, .v (Enc.int .i64) v3), (3, .v (Enc.int .i64) a3), (9, .ref 103), (10, .ref 104), (11, .v (Enc.sl eBlk) s208.1), (12, .v (Enc.sl eBlk) s208.2.1), (13, .v (Enc.int .i64) s208.2.2.1), (14, .v (Enc.sl (Enc.pr (Enc.int .i64) eBlk)) v313), (15, .ref 140000), (17, .v (Enc.int .i64) s326.1), (63, .v Enc.bool (cm .lss s326.1 (v313.length : Int)))], [(103, .arr 29 eBlk s326.2), (104, .arr 29 eBlk s208.2.2.2.2), (140000, .arr 43 (Enc.pr (Enc.int .i64) (Enc.pr (Enc.int .i64) (Enc.pr (Enc.int .i64) eBlk))) v314.1)]⟩) (J.cons (.none rfl) (JO.move rfl) rfl rfl (J.cons (.none rfl) (JO.move rfl) rfl rfl (J.cons (.none rfl) (JO.len rfl Try.runUnderlying26) rfl rfl (J.cons (.none rfl) (JO.cmp rfl rfl rfl) rfl rfl (J.fin (Sw.Sub.mk id (.cons rfl (.of_eq rfl) (.cons rfl (.of_eq rfl) (.cons rfl (.of_eq rfl) (.cons rfl (.of_eq rfl) (.cons rfl (.of_eq rfl) (.cons rfl (.of_eq rfl) (.cons rfl (.of_eq rfl) (.cons rfl (.of_eq rfl) (.cons rfl (.of_eq rfl) (.cons rfl (.of_eq rfl) (.cons rfl (.of_eq rfl) (.cons rfl (.of_eq rfl) (.cons rfl (.of_eq rfl) .nil))))))))))))) (.arr rfl (.arr rfl (.arr rfl .nil))) rfl)))))) ?_
        rcases Bool.eq_false_or_eq_true (cm .lss s326.1 (v313.length : Int)) with hc333 | hc333
        · replace h := cond_t hc333 h
          refine W.condT rfl hc333 ?_
          refine W.skip ?_
          refine W.seq ?_
          refine W.block ?_
          obtain ⟨z334, hz334, h⟩ := bind_e h
          obtain ⟨z335, hz335, h⟩ := bind_e h
          obtain ⟨z336, hz336, h⟩ := bind_e h
          refine W.dr2 (σ' := ⟨[(0, .v (Enc.sl (Enc.int .i64)) a0), (1, .v (Enc.int .i64) (ar .add .i64 (1 : Int) v2)), (2, .v (Enc.int .i64) v3), (3, .v (Enc.int .i64) a3), (9, .ref 103), (10, .ref 104), (11, .v (Enc.sl eBlk) s208.1), (12, .v (Enc.sl eBlk) s208.2.1), (13, .v (Enc.int .i64) s208.2.2.1), (14, .v (Enc.sl (Enc.pr (Enc.int .i64) eBlk)) v313), (15, .ref 140000), (17, .v (Enc.int .i64) s326.1)], [(103, .arr 29 eBlk (List.set s326.2 (Int.toNat z334.1) z335.2)), (104, .arr 29 eBlk s208.2.2.2.2), (140000, .arr 43 (Enc.pr (Enc.int .i64) (Enc.pr (Enc.int .i64) (Enc.pr (Enc.int .i64) eBlk))) v314.1)]⟩) 12 [0, 0, 0, 6, 14, 30, 0, 0, 192, 448, 960, 2047, 4095] mixed (by exact (.cons (.none rfl) (JO.move rfl) rfl rfl (.cons (.none rfl) (JO.move rfl) rfl rfl (.cons (.none rfl) (JO.move rfl) rfl rfl (.cons (.none rfl) (JO.idx hz334 rfl rfl Try.runUnderlying26 Try.sizeOf41) rfl rfl (.cons (.none rfl) (JO.fieldPst rfl Try.runUnderlying41 rfl Try.sizeOf3 rfl (.fst .here) rfl) rfl rfl (.cons (.none rfl) (JO.loadPst rfl Try.isAgg3 Try.sizeOf3) rfl rfl (.cons (.none rfl) (JO.move rfl) rfl rfl (.cons (.none rfl) (JO.move rfl) rfl rfl (.cons (.none rfl) (JO.idx hz335 rfl rfl Try.runUnderlying26 Try.sizeOf41) rfl rfl (.cons (.none rfl) (JO.fieldPst rfl Try.runUnderlying41 rfl Try.sizeOf29 rfl (.snd .here) rfl) rfl rfl (.cons (.none rfl) (JO.loadPst rfl Try.isAgg29 Try.sizeOf29) rfl rfl (.cons (.none rfl) (JO.idxR hz336 rfl rfl rfl Try.runUnderlying24 Try.sizeOf29) rfl rfl .nil))))))))))))) (by exact (J.mut (.none rfl) (JM.storeEl (idx_some hz336).2.2 rfl rfl rfl Try.sizeOf29) (J.fin (Sw.Sub.mk id (.cons rfl (.of_eq rfl) (.cons rfl (.of_eq rfl) (.cons rfl (.of_eq rfl) (.cons rfl (.of_eq rfl) (.cons rfl (.of_eq rfl) (.cons rfl (.of_eq rfl) (.cons rfl (.of_eq rfl) (.cons rfl (.of_eq rfl) (.cons rfl (.of_eq rfl) (.cons rfl (.of_eq rfl) (.cons rfl (.of_eq rfl) (.cons rfl (.of_eq rfl) .nil)))))))))))) (.arr rfl (.arr rfl (.arr rfl .nil))) rfl)))) rfl (by decide +kernel) (by decide +kernel) (by decide +kernel) (by kernel_rfl) ?_
          refine W.fall ?_
          refine W.reg (σ' := ⟨[(0, .v (Enc.sl (Enc.int .i64)) a0), (1, .v (Enc.int .i64) (ar .add .i64 (1 : Int) v2)), (2, .v (Enc.int .i64) v3), (3, .v (Enc.int .i64) a3), (9, .ref 103), (10, .ref 104), (11, .v (Enc.sl eBlk) s208.1), (12, .v (Enc.sl eBlk) s208.2.1), (13, .v (Enc.int .i64) s208.2.2.1), (14, .v (Enc.sl (Enc.pr (Enc.int .i64) eBlk)) v313), (15, .ref 140000), (17, .v (Enc.int .i64) (ar .add .i64 s326.1 (1 : Int)))], [(103, .arr 29 eBlk (List.set s326.2 (Int.toNat z334.1) z335.2)), (104, .arr 29 eBlk s208.2.2.2.2), (140000, .arr 43 (Enc.pr (Enc.int .i64) (Enc.pr (Enc.int .i64) (Enc.pr (Enc.int .i64) eBlk))) v314.1)]⟩) (J.cons (.none rfl) (JO.move rfl) rfl rfl (J.cons (.none rfl) (JO.arith rfl rfl rfl) rfl rfl (J.cons (.none rfl) (JO.assign rfl) rfl rfl (J.fin (Sw.Sub.mk id (.cons rfl (.of_eq rfl) (.cons rfl (.of_eq rfl) (.cons rfl (.of_eq rfl) (.cons rfl (.of_eq rfl) (.cons rfl (.of_eq rfl) (.cons rfl (.of_eq rfl) (.cons rfl (.of_eq rfl) (.cons rfl (.of_eq rfl) (.cons rfl (.of_eq rfl) (.cons rfl (.of_eq rfl) (.cons rfl (.of_eq rfl) (.cons rfl (.of_eq rfl) .nil)))))))))))) (.arr rfl (.arr rfl (.arr rfl .nil))) rfl))))) ?_
          obtain rfl := Option.some.inj h
          exact W.next (Sw.Sub.mk id (.cons rfl (.of_eq rfl) (.cons rfl (.of_eq rfl) (.cons rfl (.of_eq rfl) (.cons rfl (.of_eq rfl) (.cons rfl (.of_eq rfl) (.cons rfl (.of_eq rfl) (.cons rfl (.of_eq rfl) (.cons rfl (.of_eq rfl) (.cons rfl (.of_eq rfl) (.cons rfl (.of_eq rfl) (.cons rfl (.of_eq rfl) (.cons rfl (.of_eq rfl) .nil)))))))))))) (.arr rfl (.arr rfl (.arr rfl .nil))) rfl)
        · replace h := cond_f hc333 h
          refine W.condF rfl hc333 ?_
          refine W.exit ?_
          obtain rfl := Option.some.inj h
          exact XQ.brk (Sw.Sub.mk id (.cons rfl (.of_eq rfl) (.cons rfl (.of_eq rfl) (.cons rfl (.of_eq rfl) (.cons rfl (.of_eq rfl) (.cons rfl (.of_eq rfl) (.cons rfl (.of_eq rfl) (.cons rfl (.of_eq rfl) (.cons rfl (.of_eq rfl) (.cons rfl (.of_eq rfl) (.cons rfl (.of_eq rfl) .nil)))))))))) (.arr rfl (.arr rfl (.arr rfl .nil))) rfl)
    · replace h := cond_f hc312 h
      refine W.condF rfl hc312 ?_
      refine W.exit ?_
      obtain rfl := Option.some.inj h
      exact XQ.brk (Sw.Sub.mk id .nil .nil rfl)
end Go.Cn
