/- The functions that this law reaches come to what their models come to. Conditions: none. -/
import Derived.Test.YteckohdbfkhmdaaMoDiskCrash
import Derived.KernelRfl
import Derived.Test.YteckohdbfkhmdaaChecked
namespace Go.Cn
open Go Go.Sw Go.Mo Go.Proofs
abbrev ET : Nat := 25
theorem mixed : Try.prog.follows .mixedOrders = true := Try.checked.mixed
theorem eq24 : EqE 2 Try.prog 24 eBlk := EqE.arr Try.runUnderlying24 Try.sizeOf5 Try.isAgg5 (EqE.int Try.underlying5)
theorem eq85 : EqE 3 Try.prog 85 (Enc.pr (Enc.int .i64) eBlk) := EqE.struct Try.runUnderlying85 Try.stoodInHeld85 rfl (EqFs.cons (by decide) rfl (EqE.up 2 (EqE.int Try.underlying3) rfl) Try.isAgg3 Try.sizeOf3 (EqFs.last (by decide) rfl eq24 Try.isAgg24 Try.sizeOf24))
theorem built49 : ∀ parts, Try.prog.built 49 parts = Instr.fill (([(0, 1), (1, 1), (2, 1)] : List (Nat × Nat)).toArray[·]?) ([.slice none 0 0, .slice none 0 0, .int .i64 0] : List Value).toArray parts := built_struct Try.typeInfo49 Try.runUnderlying49 rfl rfl (.cons rfl (by kernel_rfl) (by kernel_rfl) (.cons rfl (by kernel_rfl) (by kernel_rfl) (.cons rfl (by kernel_rfl) (by kernel_rfl) .nil)))
set_option maxRecDepth 100000 in
set_option maxHeartbeats 4000000 in
theorem con_ref_DiskMay {a0 : ((List Blk) × (List (Int × Blk)) × Int)} {r : Int} (h : m_ref_DiskMay a0 = some r) :
    Con Try.prog 26 [.v (Enc.pr (Enc.sl eBlk) (Enc.pr (Enc.sl (Enc.pr (Enc.int .i64) eBlk)) (Enc.int .i64))) a0] (.v (Enc.int .i64) r) [] := by
  refine Con.of Try.func26 rfl Try.ntmps26 rfl ?_
  intro S w hF
  unfold m_ref_DiskMay at h
  refine W.seq ?_
  refine W.reg (σ' := ⟨[(1, .ptr 101 0)], [(101, .box 49 [.v (Enc.sl eBlk) a0.1, .v (Enc.sl (Enc.pr (Enc.int .i64) eBlk)) a0.2.1, .v (Enc.int .i64) a0.2.2])]⟩) (J.cons (.none rfl) (JO.box 101 rfl (.prm (.one _ _) (.prm (.one _ _) (.one _ _))) rfl) rfl rfl (J.cons (.none rfl) (JO.assign rfl) rfl rfl (J.fin (Sw.Sub.mk id (.cons rfl (.of_eq rfl) .nil) (.box rfl (.cons (.of_eq rfl) (.cons (.of_eq rfl) (.cons (.of_eq rfl) .nil))) .nil) rfl)))) ?_
  refine W.seq ?_
  refine W.seq ?_
  obtain ⟨x3, hx, h⟩ := bind_e h
  refine W.reg (σ' := ⟨[(1, .ptr 101 0), (19, .v Enc.bool x3)], [(101, .box 49 [.v (Enc.sl eBlk) a0.1, .v (Enc.sl (Enc.pr (Enc.int .i64) eBlk)) a0.2.1, .v (Enc.int .i64) a0.2.2])]⟩) ?_ ?_
  · rcases Bool.eq_false_or_eq_true (cm .lss (a0.1.length : Int) (1 : Int)) with hc4 | hc4
    · replace hx := cond_t hc4 hx
      obtain rfl := Option.some.inj hx
      exact (J.cons (.none rfl) (JO.fieldPtr 0 rfl Try.runUnderlying49 rfl Try.sizeOf22 rfl rfl) rfl rfl (J.cons (.none rfl) (JO.load rfl rfl rfl Try.isAgg22 Try.sizeOf22) rfl rfl (J.cons (.none rfl) (JO.len rfl Try.runUnderlying22) rfl rfl (J.cons (.none rfl) (JO.cmp rfl rfl rfl) rfl rfl (J.cons (.none rfl) (JO.move rfl) rfl rfl (J.left (GK.unmet 8 rfl rfl rfl hc4) rfl (J.left (GK.unmet 8 rfl rfl rfl hc4) rfl (J.left (GK.unmet 8 rfl rfl rfl hc4) rfl (J.left (GK.unmet 8 rfl rfl rfl hc4) rfl (J.cons (.none rfl) (JO.pT hc4 rfl rfl) rfl rfl (J.cons (.none rfl) (JO.move rfl) rfl rfl (J.left (GK.unmet 14 rfl rfl rfl rfl) rfl (J.left (GK.unmet 14 rfl rfl rfl rfl) rfl (J.left (GK.unmet 14 rfl rfl rfl rfl) rfl (J.left (GK.unmet 14 rfl rfl rfl rfl) rfl (J.cons (.none rfl) (JO.pT rfl rfl rfl) rfl rfl (J.fin (Sw.Sub.mk id (.cons rfl (.of_eq rfl) (.cons rfl (.of_eq rfl) .nil)) (.box rfl (.cons (.of_eq rfl) (.cons (.of_eq rfl) (.cons (.of_eq rfl) .nil))) .nil) rfl))))))))))))))))))
    · replace hx := cond_f hc4 hx
      rcases Bool.eq_false_or_eq_true (cm .gtr (a0.1.length : Int) (200 : Int)) with hc5 | hc5
      · replace hx := cond_t hc5 hx
        obtain rfl := Option.some.inj hx
        exact (J.cons (.none rfl) (JO.fieldPtr 0 rfl Try.runUnderlying49 rfl Try.sizeOf22 rfl rfl) rfl rfl (J.cons (.none rfl) (JO.load rfl rfl rfl Try.isAgg22 Try.sizeOf22) rfl rfl (J.cons (.none rfl) (JO.len rfl Try.runUnderlying22) rfl rfl (J.cons (.none rfl) (JO.cmp rfl rfl rfl) rfl rfl (J.cons (.none rfl) (JO.move rfl) rfl rfl (J.cons (GK.met 8 rfl rfl rfl hc4) (JO.fieldPtr 0 rfl Try.runUnderlying49 rfl Try.sizeOf22 rfl rfl) rfl rfl (J.cons (GK.met 8 rfl rfl rfl hc4) (JO.load rfl rfl rfl Try.isAgg22 Try.sizeOf22) rfl rfl (J.cons (GK.met 8 rfl rfl rfl hc4) (JO.len rfl Try.runUnderlying22) rfl rfl (J.cons (GK.met 8 rfl rfl rfl hc4) (JO.cmp rfl rfl rfl) rfl rfl (J.cons (.none rfl) (JO.pF hc4 rfl rfl) rfl rfl (J.cons (.none rfl) (JO.move rfl) rfl rfl (J.left (GK.unmet 14 rfl rfl rfl hc5) rfl (J.left (GK.unmet 14 rfl rfl rfl hc5) rfl (J.left (GK.unmet 14 rfl rfl rfl hc5) rfl (J.left (GK.unmet 14 rfl rfl rfl hc5) rfl (J.cons (.none rfl) (JO.pT hc5 rfl rfl) rfl rfl (J.fin (Sw.Sub.mk id (.cons rfl (.of_eq rfl) (.cons rfl (.of_eq rfl) .nil)) (.box rfl (.cons (.of_eq rfl) (.cons (.of_eq rfl) (.cons (.of_eq rfl) .nil))) .nil) rfl))))))))))))))))))
      · replace hx := cond_f hc5 hx
        obtain rfl := Option.some.inj hx
        exact (J.cons (.none rfl) (JO.fieldPtr 0 rfl Try.runUnderlying49 rfl Try.sizeOf22 rfl rfl) rfl rfl (J.cons (.none rfl) (JO.load rfl rfl rfl Try.isAgg22 Try.sizeOf22) rfl rfl (J.cons (.none rfl) (JO.len rfl Try.runUnderlying22) rfl rfl (J.cons (.none rfl) (JO.cmp rfl rfl rfl) rfl rfl (J.cons (.none rfl) (JO.move rfl) rfl rfl (J.cons (GK.met 8 rfl rfl rfl hc4) (JO.fieldPtr 0 rfl Try.runUnderlying49 rfl Try.sizeOf22 rfl rfl) rfl rfl (J.cons (GK.met 8 rfl rfl rfl hc4) (JO.load rfl rfl rfl Try.isAgg22 Try.sizeOf22) rfl rfl (J.cons (GK.met 8 rfl rfl rfl hc4) (JO.len rfl Try.runUnderlying22) rfl rfl (J.cons (GK.met 8 rfl rfl rfl hc4) (JO.cmp rfl rfl rfl) rfl rfl (J.cons (.none rfl) (JO.pF hc4 rfl rfl) rfl rfl (J.cons (.none rfl) (JO.move rfl) rfl rfl (J.cons (GK.met 14 rfl rfl rfl hc5) (JO.fieldPtr 1 rfl Try.runUnderlying49 rfl Try.sizeOf47 rfl rfl) rfl rfl (J.cons (GK.met 14 rfl rfl rfl hc5) (JO.load rfl rfl rfl Try.isAgg47 Try.sizeOf47) rfl rfl (J.cons (GK.met 14 rfl rfl rfl hc5) (JO.len rfl Try.runUnderlying47) rfl rfl (J.cons (GK.met 14 rfl rfl rfl hc5) (JO.cmp rfl rfl rfl) rfl rfl (J.cons (.none rfl) (JO.pF hc5 rfl rfl) rfl rfl (J.fin (Sw.Sub.mk id (.cons rfl (.of_eq rfl) (.cons rfl (.of_eq rfl) .nil)) (.box rfl (.cons (.of_eq rfl) (.cons (.of_eq rfl) (.cons (.of_eq rfl) .nil))) .nil) rfl))))))))))))))))))
  rcases Bool.eq_false_or_eq_true x3 with hc6 | hc6
  · replace h := cond_t hc6 h
    refine W.condT rfl hc6 ?_
    refine W.seq ?_
    refine W.reg (σ' := ⟨[(2, .v (Enc.int .i64) (2 : Int))], []⟩) (J.cons (.none rfl) (JO.assign rfl) rfl rfl (J.fin (Sw.Sub.mk id (.cons rfl (.of_eq rfl) .nil) .nil rfl))) ?_
    refine W.ret ?_
    obtain rfl := Option.some.inj h
    exact XQ.sub (σ' := ⟨[(2, .v (Enc.int .i64) (2 : Int))], []⟩) (Sw.Sub.mk id (.cons rfl (.of_eq rfl) .nil) .nil rfl) (XQ.ret1 hF noR rfl (RV.tmp rfl) .nil rfl)
  · replace h := cond_f hc6 h
    refine W.condF rfl hc6 ?_
    refine W.skip ?_
    refine W.seq ?_
    refine W.seq ?_
    refine W.reg (σ' := ⟨[(1, .ptr 101 0), (3, .v (Enc.int .i64) (0 : Int))], [(101, .box 49 [.v (Enc.sl eBlk) a0.1, .v (Enc.sl (Enc.pr (Enc.int .i64) eBlk)) a0.2.1, .v (Enc.int .i64) a0.2.2])]⟩) (J.cons (.none rfl) (JO.assign rfl) rfl rfl (J.fin (Sw.Sub.mk id (.cons rfl (.of_eq rfl) (.cons rfl (.of_eq rfl) .nil)) (.box rfl (.cons (.of_eq rfl) (.cons (.of_eq rfl) (.cons (.of_eq rfl) .nil))) .nil) rfl))) ?_
    obtain ⟨o37, ho37, hb37, hr37⟩ := lp_elim h
    refine W.lp (σs := fun s27 : Int => ⟨[(1, .ptr 101 0), (3, .v (Enc.int .i64) s27)], [(101, .box 49 [.v (Enc.sl eBlk) a0.1, .v (Enc.sl (Enc.pr (Enc.int .i64) eBlk)) a0.2.1, .v (Enc.int .i64) a0.2.2])]⟩) (fun x38 : Unit => ⟨[], []⟩) ho37 (Sw.Sub.mk id (.cons rfl (.of_eq rfl) (.cons rfl (.of_eq rfl) .nil)) (.box rfl (.cons (.of_eq rfl) (.cons (.of_eq rfl) (.cons (.of_eq rfl) .nil))) .nil) rfl) ?_ ?_
    · intro x38 hy
      have h := hb37 _ hy
      refine W.seq ?_
      refine W.reg (σ' := ⟨[(2, .v (Enc.int .i64) (0 : Int))], []⟩) (J.cons (.none rfl) (JO.assign rfl) rfl rfl (J.fin (Sw.Sub.mk id (.cons rfl (.of_eq rfl) .nil) .nil rfl))) ?_
      refine W.ret ?_
      obtain rfl := Option.some.inj h
      exact XQ.sub (σ' := ⟨[(2, .v (Enc.int .i64) (0 : Int))], []⟩) (Sw.Sub.mk id (.cons rfl (.of_eq rfl) .nil) .nil rfl) (XQ.ret1 hF noR rfl (RV.tmp rfl) .nil rfl)
    intro s27 r37 h
    refine W.seq ?_
    refine W.seq ?_
    refine W.reg (σ' := ⟨[(1, .ptr 101 0), (3, .v (Enc.int .i64) s27), (24, .v Enc.bool (cm .lss s27 (a0.2.1.length : Int)))], [(101, .box 49 [.v (Enc.sl eBlk) a0.1, .v (Enc.sl (Enc.pr (Enc.int .i64) eBlk)) a0.2.1, .v (Enc.int .i64) a0.2.2])]⟩) (J.cons (.none rfl) (JO.move rfl) rfl rfl (J.cons (.none rfl) (JO.fieldPtr 1 rfl Try.runUnderlying49 rfl Try.sizeOf47 rfl rfl) rfl rfl (J.cons (.none rfl) (JO.load rfl rfl rfl Try.isAgg47 Try.sizeOf47) rfl rfl (J.cons (.none rfl) (JO.len rfl Try.runUnderlying47) rfl rfl (J.cons (.none rfl) (JO.cmp rfl rfl rfl) rfl rfl (J.fin (Sw.Sub.mk id (.cons rfl (.of_eq rfl) (.cons rfl (.of_eq rfl) (.cons rfl (.of_eq rfl) .nil))) (.box rfl (.cons (.of_eq rfl) (.cons (.of_eq rfl) (.cons (.of_eq rfl) .nil))) .nil) rfl))))))) ?_
    rcases Bool.eq_false_or_eq_true (cm .lss s27 (a0.2.1.length : Int)) with hc39 | hc39
    · replace h := cond_t hc39 h
      refine W.condT rfl hc39 ?_
      refine W.skip ?_
      refine W.seq ?_
      refine W.block ?_
      refine W.seq ?_
      obtain ⟨x43, hx, h⟩ := bind_e h
      refine W.mg (σ' := ⟨[(1, .ptr 101 0), (3, .v (Enc.int .i64) s27), (45, .v Enc.bool x43)], [(101, .box 49 [.v (Enc.sl eBlk) a0.1, .v (Enc.sl (Enc.pr (Enc.int .i64) eBlk)) a0.2.1, .v (Enc.int .i64) a0.2.2])]⟩) ?_ ?_
      · intro hk
        obtain ⟨z44, hz44, hx⟩ := bind_e hx
        rcases Bool.eq_false_or_eq_true (cm .lss z44.1 (0 : Int)) with hc45 | hc45
        · replace hx := cond_t hc45 hx
          obtain rfl := Option.some.inj hx
          exact W.dr (σ' := ⟨[(1, .ptr 101 0), (3, .v (Enc.int .i64) s27), (45, .v Enc.bool true)], [(101, .box 49 [.v (Enc.sl eBlk) a0.1, .v (Enc.sl (Enc.pr (Enc.int .i64) eBlk)) a0.2.1, .v (Enc.int .i64) a0.2.2])]⟩) 19 mixed (by exact (.cons (.none rfl) (JO.fieldPtr 1 rfl Try.runUnderlying49 rfl Try.sizeOf47 rfl rfl) rfl rfl (.cons (.none rfl) (JO.load rfl rfl rfl Try.isAgg47 Try.sizeOf47) rfl rfl (.cons (.none rfl) (JO.move rfl) rfl rfl (.cons (.none rfl) (JO.idx hz44 rfl rfl Try.runUnderlying47 Try.sizeOf85) rfl rfl (.cons (.none rfl) (JO.fieldPst rfl Try.runUnderlying85 rfl Try.sizeOf3 rfl (.fst .here) rfl) rfl rfl (.cons (.none rfl) (JO.loadPst rfl Try.isAgg3 Try.sizeOf3) rfl rfl (.cons (.none rfl) (JO.cmp rfl rfl rfl) rfl rfl (.cons (.none rfl) (JO.move rfl) rfl rfl (.left (GK.unmet 34 rfl rfl rfl hc45) rfl (.left (GK.unmet 34 rfl rfl rfl hc45) rfl (.left (GK.unmet 34 rfl rfl rfl hc45) rfl (.left (GK.unmet 34 rfl rfl rfl hc45) rfl (.left (GK.unmet 34 rfl rfl rfl hc45) rfl (.left (GK.unmet 34 rfl rfl rfl hc45) rfl (.left (GK.unmet 34 rfl rfl rfl hc45) rfl (.left (GK.unmet 34 rfl rfl rfl hc45) rfl (.left (GK.unmet 34 rfl rfl rfl hc45) rfl (.left (GK.unmet 34 rfl rfl rfl hc45) rfl (.cons (.none rfl) (JO.pT hc45 rfl rfl) rfl rfl .nil)))))))))))))))))))) (by exact (J.fin (Sw.Sub.mk id (.cons rfl (.of_eq rfl) (.cons rfl (.of_eq rfl) (.cons rfl (.of_eq rfl) .nil))) (.box rfl (.cons (.of_eq rfl) (.cons (.of_eq rfl) (.cons (.of_eq rfl) .nil))) .nil) rfl))) (by decide +kernel) (by decide +kernel) (by decide +kernel) hk
        · replace hx := cond_f hc45 hx
          obtain ⟨z46, hz46, hx⟩ := bind_e hx
          obtain rfl := Option.some.inj hx
          exact W.dr (σ' := ⟨[(1, .ptr 101 0), (3, .v (Enc.int .i64) s27), (45, .v Enc.bool (cm .geq z46.1 (a0.1.length : Int)))], [(101, .box 49 [.v (Enc.sl eBlk) a0.1, .v (Enc.sl (Enc.pr (Enc.int .i64) eBlk)) a0.2.1, .v (Enc.int .i64) a0.2.2])]⟩) 19 mixed (by exact (.cons (.none rfl) (JO.fieldPtr 1 rfl Try.runUnderlying49 rfl Try.sizeOf47 rfl rfl) rfl rfl (.cons (.none rfl) (JO.load rfl rfl rfl Try.isAgg47 Try.sizeOf47) rfl rfl (.cons (.none rfl) (JO.move rfl) rfl rfl (.cons (.none rfl) (JO.idx hz44 rfl rfl Try.runUnderlying47 Try.sizeOf85) rfl rfl (.cons (.none rfl) (JO.fieldPst rfl Try.runUnderlying85 rfl Try.sizeOf3 rfl (.fst .here) rfl) rfl rfl (.cons (.none rfl) (JO.loadPst rfl Try.isAgg3 Try.sizeOf3) rfl rfl (.cons (.none rfl) (JO.cmp rfl rfl rfl) rfl rfl (.cons (.none rfl) (JO.move rfl) rfl rfl (.cons (GK.met 34 rfl rfl rfl hc45) (JO.fieldPtr 1 rfl Try.runUnderlying49 rfl Try.sizeOf47 rfl rfl) rfl rfl (.cons (GK.met 34 rfl rfl rfl hc45) (JO.load rfl rfl rfl Try.isAgg47 Try.sizeOf47) rfl rfl (.cons (GK.met 34 rfl rfl rfl hc45) (JO.move rfl) rfl rfl (.cons (GK.met 34 rfl rfl rfl hc45) (JO.idx hz46 rfl rfl Try.runUnderlying47 Try.sizeOf85) rfl rfl (.cons (GK.met 34 rfl rfl rfl hc45) (JO.fieldPst rfl Try.runUnderlying85 rfl Try.sizeOf3 rfl (.fst .here) rfl) rfl rfl (.cons (GK.met 34 rfl rfl rfl hc45) (JO.loadPst rfl Try.isAgg3 Try.sizeOf3) rfl rfl (.cons (GK.met 34 rfl rfl rfl hc45) (JO.fieldPtr 0 rfl Try.runUnderlying49 rfl Try.sizeOf22 rfl rfl) rfl rfl (.cons (GK.met 34 rfl rfl rfl hc45) (JO.load rfl rfl rfl Try.isAgg22 Try.sizeOf22) rfl rfl (.cons (GK.met 34 rfl rfl rfl hc45) (JO.len rfl Try.runUnderlying22) rfl rfl (.cons (GK.met 34 rfl rfl rfl hc45) (JO.cmp rfl rfl rfl) rfl rfl (.cons (.none rfl) (JO.pF hc45 rfl rfl) rfl rfl .nil)))))))))))))))))))) (by exact (J.fin (Sw.Sub.mk id (.cons rfl (.of_eq rfl) (.cons rfl (.of_eq rfl) (.cons rfl (.of_eq rfl) .nil))) (.box rfl (.cons (.of_eq rfl) (.cons (.of_eq rfl) (.cons (.of_eq rfl) .nil))) .nil) rfl))) (by decide +kernel) (by decide +kernel) (by decide +kernel) hk
      rcases Bool.eq_false_or_eq_true x43 with hc47 | hc47
      · replace h := cond_t hc47 h
        refine W.condT rfl hc47 ?_
        refine W.seq ?_
        refine W.reg (σ' := ⟨[(2, .v (Enc.int .i64) (1 : Int))], []⟩) (J.cons (.none rfl) (JO.assign rfl) rfl rfl (J.fin (Sw.Sub.mk id (.cons rfl (.of_eq rfl) .nil) .nil rfl))) ?_
        refine W.ret ?_
        refine XQ.ret ?_
        obtain rfl := Option.some.inj h
        refine XQ.lret fun ho => ?_
        obtain rfl := hr37 _ ho
        exact XQ.sub (σ' := ⟨[(2, .v (Enc.int .i64) (1 : Int))], []⟩) (Sw.Sub.mk id (.cons rfl (.of_eq rfl) .nil) .nil rfl) (XQ.ret1 hF noR rfl (RV.tmp rfl) .nil rfl)
      · replace h := cond_f hc47 h
        refine W.condF rfl hc47 ?_
        refine W.skip ?_
        refine W.fall ?_
        refine W.reg (σ' := ⟨[(1, .ptr 101 0), (3, .v (Enc.int .i64) (ar .add .i64 s27 (1 : Int)))], [(101, .box 49 [.v (Enc.sl eBlk) a0.1, .v (Enc.sl (Enc.pr (Enc.int .i64) eBlk)) a0.2.1, .v (Enc.int .i64) a0.2.2])]⟩) (J.cons (.none rfl) (JO.move rfl) rfl rfl (J.cons (.none rfl) (JO.arith rfl rfl rfl) rfl rfl (J.cons (.none rfl) (JO.assign rfl) rfl rfl (J.fin (Sw.Sub.mk id (.cons rfl (.of_eq rfl) (.cons rfl (.of_eq rfl) .nil)) (.box rfl (.cons (.of_eq rfl) (.cons (.of_eq rfl) (.cons (.of_eq rfl) .nil))) .nil) rfl))))) ?_
        obtain rfl := Option.some.inj h
        exact W.next (Sw.Sub.mk id (.cons rfl (.of_eq rfl) (.cons rfl (.of_eq rfl) .nil)) (.box rfl (.cons (.of_eq rfl) (.cons (.of_eq rfl) (.cons (.of_eq rfl) .nil))) .nil) rfl)
    · replace h := cond_f hc39 h
      refine W.condF rfl hc39 ?_
      refine W.exit ?_
      obtain rfl := Option.some.inj h
      exact XQ.brk (Sw.Sub.mk id .nil .nil rfl)
set_option maxRecDepth 100000 in
set_option maxHeartbeats 4000000 in
theorem con_ref_OwnBlocks {a0 : (List Blk)} {r : (List Blk)} (h : m_ref_OwnBlocks a0 = some r) :
    Con Try.prog 48 [.v (Enc.sl eBlk) a0] (.ref 0) [(0, .arr 24 eBlk r)] := by
  refine Con.of Try.func48 rfl Try.ntmps48 rfl ?_
  intro S w hF
  unfold m_ref_OwnBlocks at h
  refine W.seq ?_
  refine W.reg (σ' := ⟨[(0, .v (Enc.sl eBlk) a0)], []⟩) (J.cons (.none rfl) (JO.assignNilR 101 24 eBlk) rfl rfl (J.fin (Sw.Sub.mk id (.cons rfl (.of_eq rfl) .nil) .nil rfl))) ?_
  refine W.seq ?_
  obtain ⟨v1, hv1, h⟩ := bind_e h
  refine W.reg (σ' := ⟨[(2, .ref 103)], [(103, .arr 24 eBlk v1)]⟩) (J.cons (.none rfl) (JO.litR (e := eBlk) 102 Try.runUnderlying22 Try.sizeOf24 Try.zeroValue24 rfl rfl rfl rfl .nil) rfl rfl (J.cons (.none rfl) (JO.move rfl) rfl rfl (J.mut (.none rfl) (JM.append 103 hv1 rfl rfl (.sl rfl) Try.runUnderlying22 Try.typeInfo24 Try.sizeOf24 rfl rfl rfl rfl rfl) (J.cons (.none rfl) (JO.assign rfl) rfl rfl (J.fin (Sw.Sub.mk id (.cons rfl (.of_eq rfl) .nil) (.arr rfl .nil) rfl)))))) ?_
  refine W.ret ?_
  obtain rfl := Option.some.inj h
  exact XQ.sub (σ' := ⟨[(2, .ref 0)], [(0, .arr 24 eBlk v1)]⟩) (Sw.Sub.mk (rn [(0, 103)]) (.cons rfl (.of_eq rfl) .nil) (.arr rfl .nil) rfl) (XQ.ret1 hF noR rfl (RV.tmp rfl) (.cons rfl .nil) rfl)
set_option maxRecDepth 100000 in
set_option maxHeartbeats 4000000 in
theorem con_ref_OwnDisk {a0 : ((List Blk) × (List (Int × Blk)) × Int)} {r : ((List Blk) × (List (Int × Blk)) × Int)} (h : m_ref_OwnDisk a0 = some r) :
    Con Try.prog 62 [.v (Enc.pr (Enc.sl eBlk) (Enc.pr (Enc.sl (Enc.pr (Enc.int .i64) eBlk)) (Enc.int .i64))) a0] (.agg [.ref 0, .v (Enc.sl (Enc.pr (Enc.int .i64) eBlk)) r.2.1, .v (Enc.int .i64) r.2.2]) [(0, .arr 24 eBlk r.1)] := by
  refine Con.of Try.func62 rfl Try.ntmps62 rfl ?_
  intro S w hF
  unfold m_ref_OwnDisk at h
  refine W.seq ?_
  refine W.reg (σ' := ⟨[(1, .ptr 101 0), (2, .ptr 102 0)], [(101, .box 49 [.v (Enc.sl eBlk) a0.1, .v (Enc.sl (Enc.pr (Enc.int .i64) eBlk)) a0.2.1, .v (Enc.int .i64) a0.2.2]), (102, .box 49 [.v (Enc.sl eBlk) ([] : (List Blk)), .v (Enc.sl (Enc.pr (Enc.int .i64) eBlk)) ([] : (List (Int × Blk))), .v (Enc.int .i64) (0 : Int)])]⟩) (J.cons (.none rfl) (JO.box 101 rfl (.prm (.one _ _) (.prm (.one _ _) (.one _ _))) rfl) rfl rfl (J.cons (.none rfl) (JO.alloc 102 Try.zeroValue49 rfl (.cons (Z.sl eBlk) (.cons (Z.sl (Enc.pr (Enc.int .i64) eBlk)) (.cons (Z.int .i64) .nil))) rfl) rfl rfl (J.fin (Sw.Sub.mk id (.cons rfl (.of_eq rfl) (.cons rfl (.of_eq rfl) .nil)) (.box rfl (.cons (.of_eq rfl) (.cons (.of_eq rfl) (.cons (.of_eq rfl) .nil))) (.box rfl (.cons (.of_eq rfl) (.cons (.of_eq rfl) (.cons (.of_eq rfl) .nil))) .nil)) rfl)))) ?_
  refine W.seq ?_
  obtain ⟨v1, hv1, h⟩ := bind_e h
  obtain ⟨v2, hv2, h⟩ := bind_e h
  refine W.dr (σ' := ⟨[(2, .ptr 102 0)], [(102, .box 49 [.ref 103000, .v (Enc.sl (Enc.pr (Enc.int .i64) eBlk)) v2, .v (Enc.int .i64) a0.2.2]), (103000, .arr 24 eBlk v1)]⟩) 9 mixed (by exact (.cons (.none rfl) (JO.fieldPtr 0 rfl Try.runUnderlying49 rfl Try.sizeOf22 rfl rfl) rfl rfl (.cons (.none rfl) (JO.load rfl rfl rfl Try.isAgg22 Try.sizeOf22) rfl rfl (.cons (.none rfl) (JO.call 103000 (con_ref_OwnBlocks hv1) Try.call48 (.cons (.dir rfl) .nil) rfl) rfl rfl (.cons (.none rfl) (JO.litE (Enc.pr (Enc.int .i64) eBlk) Try.runUnderlying47 Try.sizeOf85 Try.zeroValue85) rfl rfl (.cons (.none rfl) (JO.fieldPtr 1 rfl Try.runUnderlying49 rfl Try.sizeOf47 rfl rfl) rfl rfl (.cons (.none rfl) (JO.load rfl rfl rfl Try.isAgg47 Try.sizeOf47) rfl rfl (.cons (.none rfl) (JO.appE hv2 rfl (.sl rfl) Try.runUnderlying47 Try.typeInfo85 Try.sizeOf85 rfl rfl rfl) rfl rfl (.cons (.none rfl) (JO.fieldPtr 2 rfl Try.runUnderlying49 rfl Try.sizeOf3 rfl rfl) rfl rfl (.cons (.none rfl) (JO.load rfl rfl rfl Try.isAgg3 Try.sizeOf3) rfl rfl .nil)))))))))) (by exact (J.cons (.none rfl) (JO.build built49 (.cons (Z.sl eBlk) (.cons (Z.sl (Enc.pr (Enc.int .i64) eBlk)) (.cons (Z.int .i64) .nil))) (.cons rfl (.dir rfl) rfl rfl rfl rfl (.cons rfl (.dir rfl) rfl rfl rfl rfl (.cons rfl (.dir rfl) rfl rfl rfl rfl .nil)))) rfl rfl (J.mut (.none rfl) (JM.storeAgg rfl rfl rfl rfl rfl rfl Try.sizeOf49) (J.fin (Sw.Sub.mk id (.cons rfl (.of_eq rfl) .nil) (.box rfl (.cons (.of_eq rfl) (.cons (.of_eq rfl) (.cons (.of_eq rfl) .nil))) (.arr rfl .nil)) rfl))))) (by decide +kernel) (by decide +kernel) (by decide +kernel) ?_
  refine W.ret ?_
  obtain rfl := Option.some.inj h
  exact XQ.sub (σ' := ⟨[(2, .ptr 90 0)], [(90, .box 49 [.ref 0, .v (Enc.sl (Enc.pr (Enc.int .i64) eBlk)) v2, .v (Enc.int .i64) a0.2.2]), (0, .arr 24 eBlk v1)]⟩) (Sw.Sub.mk (rn [(90, 102), (0, 103000)]) (.cons rfl (.of_eq rfl) .nil) (.box rfl (.cons (.of_eq rfl) (.cons (.of_eq rfl) (.cons (.of_eq rfl) .nil))) (.arr rfl .nil)) rfl) (XQ.ret1 hF noR rfl (RV.cellAgg rfl rfl rfl Try.isAgg49 Try.sizeOf49) (.cons rfl .nil) rfl)
set_option maxRecDepth 100000 in
set_option maxHeartbeats 4000000 in
theorem con_ref_Pick {a0 : Int} {a1 : Int} {r : Int} (h : m_ref_Pick a0 a1 = some r) :
    Con Try.prog 36 [.v (Enc.int .i64) a0, .v (Enc.int .i64) a1] (.v (Enc.int .i64) r) [] := by
  refine Con.of Try.func36 rfl Try.ntmps36 rfl ?_
  intro S w hF
  unfold m_ref_Pick at h
  refine W.seq ?_
  refine W.reg (σ' := ⟨[(0, .v (Enc.int .i64) a0), (1, .v (Enc.int .i64) a1)], []⟩) (J.cons (.none rfl) (JO.assign rfl) rfl rfl (J.fin (Sw.Sub.mk id (.cons rfl (.of_eq rfl) (.cons rfl (.of_eq rfl) .nil)) .nil rfl))) ?_
  refine W.seq ?_
  refine W.seq ?_
  refine W.reg (σ' := ⟨[(0, .v (Enc.int .i64) a0), (1, .v (Enc.int .i64) a1), (6, .v Enc.bool (cm .lss a0 (0 : Int)))], []⟩) (J.cons (.none rfl) (JO.move rfl) rfl rfl (J.cons (.none rfl) (JO.cmp rfl rfl rfl) rfl rfl (J.fin (Sw.Sub.mk id (.cons rfl (.of_eq rfl) (.cons rfl (.of_eq rfl) (.cons rfl (.of_eq rfl) .nil))) .nil rfl)))) ?_
  obtain ⟨k2, hk2, h⟩ := jp_elim h
  refine W.jn (fun x3 : Int => ⟨[(0, .v (Enc.int .i64) x3), (1, .v (Enc.int .i64) a1)], []⟩) (fun x => k2 x = some r) rfl ?_ ?_ ?_
  · intro x3 h
    rw [hk2] at h
    refine W.seq ?_
    obtain ⟨u4, hu4, h⟩ := bind_e h
    refine W.reg (σ' := ⟨[(4, .v (Enc.int .i64) (ar .rem .i64 x3 a1))], []⟩) (J.cons (.none rfl) (JO.move rfl) rfl rfl (J.cons (.none rfl) (JO.move rfl) rfl rfl (J.cons (.none rfl) (JO.div (.inr rfl) (nz_some hu4) rfl rfl) rfl rfl (J.cons (.none rfl) (JO.assign rfl) rfl rfl (J.fin (Sw.Sub.mk id (.cons rfl (.of_eq rfl) .nil) .nil rfl)))))) ?_
    refine W.ret ?_
    obtain rfl := Option.some.inj h
    exact XQ.sub (σ' := ⟨[(4, .v (Enc.int .i64) (ar .rem .i64 x3 a1))], []⟩) (Sw.Sub.mk id (.cons rfl (.of_eq rfl) .nil) .nil rfl) (XQ.ret1 hF noR rfl (RV.tmp rfl) .nil rfl)
  · intro hc1
    replace h := cond_t hc1 h
    refine W.reg (σ' := ⟨[(0, .v (Enc.int .i64) (IntKind.wrap .i64 (0 - (ar .add .i64 a0 (1 : Int))))), (1, .v (Enc.int .i64) a1)], []⟩) (J.cons (.none rfl) (JO.move rfl) rfl rfl (J.cons (.none rfl) (JO.arith rfl rfl rfl) rfl rfl (J.cons (.none rfl) (JO.neg rfl) rfl rfl (J.cons (.none rfl) (JO.assign rfl) rfl rfl (J.fin (Sw.Sub.mk id (.cons rfl (.of_eq rfl) (.cons rfl (.of_eq rfl) .nil)) .nil rfl)))))) ?_
    exact W.jfall h (Sw.Sub.mk id (.cons rfl (.of_eq rfl) (.cons rfl (.of_eq rfl) .nil)) .nil rfl)
  · intro hc1
    replace h := cond_f hc1 h
    refine W.skip ?_
    exact W.jfall h (Sw.Sub.mk id (.cons rfl (.of_eq rfl) (.cons rfl (.of_eq rfl) .nil)) .nil rfl)
set_option maxRecDepth 100000 in
set_option maxHeartbeats 4000000 in
theorem con_ref_Crashed {a0 : ((List Blk) × (List (Int × Blk)) × Int)} {a1 : (List Int)} {r : ((List Blk) × (List (Int × Blk)) × Int)} (h : m_ref_Crashed a0 a1 = some r) :
    Con Try.prog 27 [.v (Enc.pr (Enc.sl eBlk) (Enc.pr (Enc.sl (Enc.pr (Enc.int .i64) eBlk)) (Enc.int .i64))) a0, .v (Enc.sl (Enc.int .i64)) a1] (.v (Enc.pr (Enc.sl eBlk) (Enc.pr (Enc.sl (Enc.pr (Enc.int .i64) eBlk)) (Enc.int .i64))) r) [] := by
  refine Con.of Try.func27 rfl Try.ntmps27 rfl ?_
  intro S w hF
  unfold m_ref_Crashed at h
  refine W.seq ?_
  refine W.reg (σ' := ⟨[(1, .v (Enc.sl (Enc.int .i64)) a1), (2, .ptr 101 0), (4, .ptr 102 0)], [(101, .box 49 [.v (Enc.sl eBlk) a0.1, .v (Enc.sl (Enc.pr (Enc.int .i64) eBlk)) a0.2.1, .v (Enc.int .i64) a0.2.2]), (102, .box 49 [.v (Enc.sl eBlk) ([] : (List Blk)), .v (Enc.sl (Enc.pr (Enc.int .i64) eBlk)) ([] : (List (Int × Blk))), .v (Enc.int .i64) (0 : Int)])]⟩) (J.cons (.none rfl) (JO.box 101 rfl (.prm (.one _ _) (.prm (.one _ _) (.one _ _))) rfl) rfl rfl (J.cons (.none rfl) (JO.alloc 102 Try.zeroValue49 rfl (.cons (Z.sl eBlk) (.cons (Z.sl (Enc.pr (Enc.int .i64) eBlk)) (.cons (Z.int .i64) .nil))) rfl) rfl rfl (J.fin (Sw.Sub.mk id (.cons rfl (.of_eq rfl) (.cons rfl (.of_eq rfl) (.cons rfl (.of_eq rfl) .nil))) (.box rfl (.cons (.of_eq rfl) (.cons (.of_eq rfl) (.cons (.of_eq rfl) .nil))) (.box rfl (.cons (.of_eq rfl) (.cons (.of_eq rfl) (.cons (.of_eq rfl) .nil))) .nil)) rfl)))) ?_
  refine W.seq ?_
  obtain ⟨v1, hv1, h⟩ := bind_e h
  refine W.reg (σ' := ⟨[(1, .v (Enc.sl (Enc.int .i64)) a1), (2, .ptr 101 0), (4, .ptr 102 0), (5, .ptr 104 0)], [(101, .box 49 [.v (Enc.sl eBlk) a0.1, .v (Enc.sl (Enc.pr (Enc.int .i64) eBlk)) a0.2.1, .v (Enc.int .i64) a0.2.2]), (102, .box 49 [.v (Enc.sl eBlk) ([] : (List Blk)), .v (Enc.sl (Enc.pr (Enc.int .i64) eBlk)) ([] : (List (Int × Blk))), .v (Enc.int .i64) (0 : Int)]), (104, .box 49 [.ref 103000, .v (Enc.sl (Enc.pr (Enc.int .i64) eBlk)) v1.2.1, .v (Enc.int .i64) v1.2.2]), (103000, .arr 24 eBlk v1.1)]⟩) (J.cons (.none rfl) (JO.loadAll rfl rfl (.prm (.one _ _) (.prm (.one _ _) (.one _ _))) Try.isAgg49 Try.sizeOf49) rfl rfl (J.cons (.none rfl) (JO.call 103000 (con_ref_OwnDisk hv1) Try.call62 (.cons (.dir rfl) .nil) rfl) rfl rfl (J.cons (.none rfl) (JO.alloc 104 Try.zeroValue49 rfl (.cons (Z.sl eBlk) (.cons (Z.sl (Enc.pr (Enc.int .i64) eBlk)) (.cons (Z.int .i64) .nil))) rfl) rfl rfl (J.mut (.none rfl) (JM.storeAgg rfl rfl rfl rfl rfl rfl Try.sizeOf49) (J.fin (Sw.Sub.mk id (.cons rfl (.of_eq rfl) (.cons rfl (.of_eq rfl) (.cons rfl (.of_eq rfl) (.cons rfl (.of_eq rfl) .nil)))) (.box rfl (.cons (.of_eq rfl) (.cons (.of_eq rfl) (.cons (.of_eq rfl) .nil))) (.box rfl (.cons (.of_eq rfl) (.cons (.of_eq rfl) (.cons (.of_eq rfl) .nil))) (.box rfl (.cons (.of_eq rfl) (.cons (.of_eq rfl) (.cons (.of_eq rfl) .nil))) (.arr rfl .nil)))) rfl)))))) ?_
  refine W.seq ?_
  refine W.seq ?_
  refine W.reg (σ' := ⟨[(1, .v (Enc.sl (Enc.int .i64)) a1), (2, .ptr 101 0), (4, .ptr 102 0), (5, .ptr 104 0), (6, .v (Enc.int .i64) (0 : Int))], [(101, .box 49 [.v (Enc.sl eBlk) a0.1, .v (Enc.sl (Enc.pr (Enc.int .i64) eBlk)) a0.2.1, .v (Enc.int .i64) a0.2.2]), (102, .box 49 [.v (Enc.sl eBlk) ([] : (List Blk)), .v (Enc.sl (Enc.pr (Enc.int .i64) eBlk)) ([] : (List (Int × Blk))), .v (Enc.int .i64) (0 : Int)]), (104, .box 49 [.ref 103000, .v (Enc.sl (Enc.pr (Enc.int .i64) eBlk)) v1.2.1, .v (Enc.int .i64) v1.2.2]), (103000, .arr 24 eBlk v1.1)]⟩) (J.cons (.none rfl) (JO.assign rfl) rfl rfl (J.fin (Sw.Sub.mk id (.cons rfl (.of_eq rfl) (.cons rfl (.of_eq rfl) (.cons rfl (.of_eq rfl) (.cons rfl (.of_eq rfl) (.cons rfl (.of_eq rfl) .nil))))) (.box rfl (.cons (.of_eq rfl) (.cons (.of_eq rfl) (.cons (.of_eq rfl) .nil))) (.box rfl (.cons (.of_eq rfl) (.cons (.of_eq rfl) (.cons (.of_eq rfl) .nil))) (.box rfl (.cons (.of_eq rfl) (.cons (.of_eq rfl) (.cons (.of_eq rfl) .nil))) (.arr rfl .nil)))) rfl))) ?_
  obtain ⟨o116, ho116, hb116, hr116⟩ := lp_elim h
  refine W.lp (σs := fun s78 : Int × (List Blk) => ⟨[(1, .v (Enc.sl (Enc.int .i64)) a1), (2, .ptr 101 0), (4, .ptr 102 0), (5, .ptr 104 0), (6, .v (Enc.int .i64) s78.1)], [(101, .box 49 [.v (Enc.sl eBlk) a0.1, .v (Enc.sl (Enc.pr (Enc.int .i64) eBlk)) a0.2.1, .v (Enc.int .i64) a0.2.2]), (102, .box 49 [.v (Enc.sl eBlk) ([] : (List Blk)), .v (Enc.sl (Enc.pr (Enc.int .i64) eBlk)) ([] : (List (Int × Blk))), .v (Enc.int .i64) (0 : Int)]), (104, .box 49 [.ref 103000, .v (Enc.sl (Enc.pr (Enc.int .i64) eBlk)) v1.2.1, .v (Enc.int .i64) v1.2.2]), (103000, .arr 24 eBlk s78.2)]⟩) (fun x117 : (List Blk) => ⟨[(4, .ptr 102 0), (5, .ptr 104 0)], [(102, .box 49 [.v (Enc.sl eBlk) ([] : (List Blk)), .v (Enc.sl (Enc.pr (Enc.int .i64) eBlk)) ([] : (List (Int × Blk))), .v (Enc.int .i64) (0 : Int)]), (104, .box 49 [.ref 103000, .v (Enc.sl (Enc.pr (Enc.int .i64) eBlk)) v1.2.1, .v (Enc.int .i64) v1.2.2]), (103000, .arr 24 eBlk x117)]⟩) ho116 (Sw.Sub.mk id (.cons rfl (.of_eq rfl) (.cons rfl (.of_eq rfl) (.cons rfl (.of_eq rfl) (.cons rfl (.of_eq rfl) (.cons rfl (.of_eq rfl) .nil))))) (.box rfl (.cons (.of_eq rfl) (.cons (.of_eq rfl) (.cons (.of_eq rfl) .nil))) (.box rfl (.cons (.of_eq rfl) (.cons (.of_eq rfl) (.cons (.of_eq rfl) .nil))) (.box rfl (.cons (.of_eq rfl) (.cons (.of_eq rfl) (.cons (.of_eq rfl) .nil))) (.arr rfl .nil)))) rfl) ?_ ?_
  · intro x117 hy
    have h := hb116 _ hy
    refine W.seq ?_
    refine W.reg (σ' := ⟨[(4, .ptr 102 0), (5, .ptr 104 0)], [(102, .box 49 [.v (Enc.sl eBlk) ([] : (List Blk)), .v (Enc.sl (Enc.pr (Enc.int .i64) eBlk)) ([] : (List (Int × Blk))), .v (Enc.int .i64) (0 : Int)]), (104, .box 49 [.ref 103000, .v (Enc.sl (Enc.pr (Enc.int .i64) eBlk)) ([] : (List (Int × Blk))), .v (Enc.int .i64) v1.2.2]), (103000, .arr 24 eBlk x117)]⟩) (J.cons (.none rfl) (JO.fieldPtr 1 rfl Try.runUnderlying49 rfl Try.sizeOf47 rfl rfl) rfl rfl (J.mut (.none rfl) (JM.storeA rfl rfl rfl (.nilS (Enc.pr (Enc.int .i64) eBlk)) rfl rfl rfl Try.sizeOf47) (J.fin (Sw.Sub.mk id (.cons rfl (.of_eq rfl) (.cons rfl (.of_eq rfl) .nil)) (.box rfl (.cons (.of_eq rfl) (.cons (.of_eq rfl) (.cons (.of_eq rfl) .nil))) (.box rfl (.cons (.of_eq rfl) (.cons (.of_eq rfl) (.cons (.of_eq rfl) .nil))) (.arr rfl .nil))) rfl)))) ?_
    refine W.seq ?_
    refine W.reg (σ' := ⟨[(4, .ptr 102 0), (5, .ptr 104 0)], [(102, .box 49 [.v (Enc.sl eBlk) ([] : (List Blk)), .v (Enc.sl (Enc.pr (Enc.int .i64) eBlk)) ([] : (List (Int × Blk))), .v (Enc.int .i64) (0 : Int)]), (104, .box 49 [.ref 103000, .v (Enc.sl (Enc.pr (Enc.int .i64) eBlk)) ([] : (List (Int × Blk))), .v (Enc.int .i64) (-1 : Int)]), (103000, .arr 24 eBlk x117)]⟩) (J.cons (.none rfl) (JO.fieldPtr 2 rfl Try.runUnderlying49 rfl Try.sizeOf3 rfl rfl) rfl rfl (J.mut (.none rfl) (JM.store rfl rfl rfl rfl rfl rfl rfl Try.sizeOf3) (J.fin (Sw.Sub.mk id (.cons rfl (.of_eq rfl) (.cons rfl (.of_eq rfl) .nil)) (.box rfl (.cons (.of_eq rfl) (.cons (.of_eq rfl) (.cons (.of_eq rfl) .nil))) (.box rfl (.cons (.of_eq rfl) (.cons (.of_eq rfl) (.cons (.of_eq rfl) .nil))) (.arr rfl .nil))) rfl)))) ?_
    refine W.seq ?_
    refine W.reg (σ' := ⟨[(4, .ptr 102 0)], [(102, .box 49 [.ref 103000, .v (Enc.sl (Enc.pr (Enc.int .i64) eBlk)) ([] : (List (Int × Blk))), .v (Enc.int .i64) (-1 : Int)]), (103000, .arr 24 eBlk x117)]⟩) (J.cons (.none rfl) (JO.loadAgg rfl rfl rfl Try.isAgg49 Try.sizeOf49) rfl rfl (J.mut (.none rfl) (JM.storeAgg rfl rfl rfl rfl rfl rfl Try.sizeOf49) (J.fin (Sw.Sub.mk id (.cons rfl (.of_eq rfl) .nil) (.box rfl (.cons (.of_eq rfl) (.cons (.of_eq rfl) (.cons (.of_eq rfl) .nil))) (.arr rfl .nil)) rfl)))) ?_
    refine W.ret ?_
    obtain rfl := Option.some.inj h
    exact XQ.sub (σ' := ⟨[(4, .ptr 90 0)], [(90, .box 49 [.v (Enc.sl eBlk) x117, .v (Enc.sl (Enc.pr (Enc.int .i64) eBlk)) ([] : (List (Int × Blk))), .v (Enc.int .i64) (-1 : Int)])]⟩) (Sw.Sub.mk (rn [(90, 102)]) (.cons rfl (.of_eq rfl) .nil) (.box rfl (.cons (.frz rfl rfl) (.cons (.of_eq rfl) (.cons (.of_eq rfl) .nil))) .nil) rfl) (XQ.ret1 hF noR rfl (RV.cellAll rfl rfl (.prm (.one _ _) (.prm (.one _ _) (.one _ _))) Try.isAgg49 Try.sizeOf49) .nil rfl)
  intro s78 r116 h
  refine W.seq ?_
  refine W.seq ?_
  refine W.reg (σ' := ⟨[(1, .v (Enc.sl (Enc.int .i64)) a1), (2, .ptr 101 0), (4, .ptr 102 0), (5, .ptr 104 0), (6, .v (Enc.int .i64) s78.1), (15, .v Enc.bool (cm .lss s78.1 (a0.2.1.length : Int)))], [(101, .box 49 [.v (Enc.sl eBlk) a0.1, .v (Enc.sl (Enc.pr (Enc.int .i64) eBlk)) a0.2.1, .v (Enc.int .i64) a0.2.2]), (102, .box 49 [.v (Enc.sl eBlk) ([] : (List Blk)), .v (Enc.sl (Enc.pr (Enc.int .i64) eBlk)) ([] : (List (Int × Blk))), .v (Enc.int .i64) (0 : Int)]), (104, .box 49 [.ref 103000, .v (Enc.sl (Enc.pr (Enc.int .i64) eBlk)) v1.2.1, .v (Enc.int .i64) v1.2.2]), (103000, .arr 24 eBlk s78.2)]⟩) (J.cons (.none rfl) (JO.move rfl) rfl rfl (J.cons (.none rfl) (JO.fieldPtr 1 rfl Try.runUnderlying49 rfl Try.sizeOf47 rfl rfl) rfl rfl (J.cons (.none rfl) (JO.load rfl rfl rfl Try.isAgg47 Try.sizeOf47) rfl rfl (J.cons (.none rfl) (JO.len rfl Try.runUnderlying47) rfl rfl (J.cons (.none rfl) (JO.cmp rfl rfl rfl) rfl rfl (J.fin (Sw.Sub.mk id (.cons rfl (.of_eq rfl) (.cons rfl (.of_eq rfl) (.cons rfl (.of_eq rfl) (.cons rfl (.of_eq rfl) (.cons rfl (.of_eq rfl) (.cons rfl (.of_eq rfl) .nil)))))) (.box rfl (.cons (.of_eq rfl) (.cons (.of_eq rfl) (.cons (.of_eq rfl) .nil))) (.box rfl (.cons (.of_eq rfl) (.cons (.of_eq rfl) (.cons (.of_eq rfl) .nil))) (.box rfl (.cons (.of_eq rfl) (.cons (.of_eq rfl) (.cons (.of_eq rfl) .nil))) (.arr rfl .nil)))) rfl))))))) ?_
  rcases Bool.eq_false_or_eq_true (cm .lss s78.1 (a0.2.1.length : Int)) with hc118 | hc118
  · replace h := cond_t hc118 h
    refine W.condT rfl hc118 ?_
    refine W.skip ?_
    refine W.seq ?_
    refine W.block ?_
    refine W.seq ?_
    refine W.reg (σ' := ⟨[(1, .v (Enc.sl (Enc.int .i64)) a1), (2, .ptr 101 0), (4, .ptr 102 0), (5, .ptr 104 0), (6, .v (Enc.int .i64) s78.1), (7, .v (Enc.int .i64) (0 : Int))], [(101, .box 49 [.v (Enc.sl eBlk) a0.1, .v (Enc.sl (Enc.pr (Enc.int .i64) eBlk)) a0.2.1, .v (Enc.int .i64) a0.2.2]), (102, .box 49 [.v (Enc.sl eBlk) ([] : (List Blk)), .v (Enc.sl (Enc.pr (Enc.int .i64) eBlk)) ([] : (List (Int × Blk))), .v (Enc.int .i64) (0 : Int)]), (104, .box 49 [.ref 103000, .v (Enc.sl (Enc.pr (Enc.int .i64) eBlk)) v1.2.1, .v (Enc.int .i64) v1.2.2]), (103000, .arr 24 eBlk s78.2)]⟩) (J.cons (.none rfl) (JO.assign rfl) rfl rfl (J.fin (Sw.Sub.mk id (.cons rfl (.of_eq rfl) (.cons rfl (.of_eq rfl) (.cons rfl (.of_eq rfl) (.cons rfl (.of_eq rfl) (.cons rfl (.of_eq rfl) (.cons rfl (.of_eq rfl) .nil)))))) (.box rfl (.cons (.of_eq rfl) (.cons (.of_eq rfl) (.cons (.of_eq rfl) .nil))) (.box rfl (.cons (.of_eq rfl) (.cons (.of_eq rfl) (.cons (.of_eq rfl) .nil))) (.box rfl (.cons (.of_eq rfl) (.cons (.of_eq rfl) (.cons (.of_eq rfl) .nil))) (.arr rfl .nil)))) rfl))) ?_
    refine W.seq ?_
    refine W.seq ?_
    refine W.reg (σ' := ⟨[(1, .v (Enc.sl (Enc.int .i64)) a1), (2, .ptr 101 0), (4, .ptr 102 0), (5, .ptr 104 0), (6, .v (Enc.int .i64) s78.1), (7, .v (Enc.int .i64) (0 : Int)), (21, .v Enc.bool (cm .lss s78.1 (a1.length : Int)))], [(101, .box 49 [.v (Enc.sl eBlk) a0.1, .v (Enc.sl (Enc.pr (Enc.int .i64) eBlk)) a0.2.1, .v (Enc.int .i64) a0.2.2]), (102, .box 49 [.v (Enc.sl eBlk) ([] : (List Blk)), .v (Enc.sl (Enc.pr (Enc.int .i64) eBlk)) ([] : (List (Int × Blk))), .v (Enc.int .i64) (0 : Int)]), (104, .box 49 [.ref 103000, .v (Enc.sl (Enc.pr (Enc.int .i64) eBlk)) v1.2.1, .v (Enc.int .i64) v1.2.2]), (103000, .arr 24 eBlk s78.2)]⟩) (J.cons (.none rfl) (JO.move rfl) rfl rfl (J.cons (.none rfl) (JO.move rfl) rfl rfl (J.cons (.none rfl) (JO.len rfl Try.runUnderlying36) rfl rfl (J.cons (.none rfl) (JO.cmp rfl rfl rfl) rfl rfl (J.fin (Sw.Sub.mk id (.cons rfl (.of_eq rfl) (.cons rfl (.of_eq rfl) (.cons rfl (.of_eq rfl) (.cons rfl (.of_eq rfl) (.cons rfl (.of_eq rfl) (.cons rfl (.of_eq rfl) (.cons rfl (.of_eq rfl) .nil))))))) (.box rfl (.cons (.of_eq rfl) (.cons (.of_eq rfl) (.cons (.of_eq rfl) .nil))) (.box rfl (.cons (.of_eq rfl) (.cons (.of_eq rfl) (.cons (.of_eq rfl) .nil))) (.box rfl (.cons (.of_eq rfl) (.cons (.of_eq rfl) (.cons (.of_eq rfl) .nil))) (.arr rfl .nil)))) rfl)))))) ?_
    obtain ⟨k122, hk122, h⟩ := jp_elim h
    refine W.jn (fun x123 : Int => ⟨[(1, .v (Enc.sl (Enc.int .i64)) a1), (2, .ptr 101 0), (4, .ptr 102 0), (5, .ptr 104 0), (6, .v (Enc.int .i64) s78.1), (7, .v (Enc.int .i64) x123)], [(101, .box 49 [.v (Enc.sl eBlk) a0.1, .v (Enc.sl (Enc.pr (Enc.int .i64) eBlk)) a0.2.1, .v (Enc.int .i64) a0.2.2]), (102, .box 49 [.v (Enc.sl eBlk) ([] : (List Blk)), .v (Enc.sl (Enc.pr (Enc.int .i64) eBlk)) ([] : (List (Int × Blk))), .v (Enc.int .i64) (0 : Int)]), (104, .box 49 [.ref 103000, .v (Enc.sl (Enc.pr (Enc.int .i64) eBlk)) v1.2.1, .v (Enc.int .i64) v1.2.2]), (103000, .arr 24 eBlk s78.2)]⟩) (fun x => k122 x = some r116) rfl ?_ ?_ ?_
    · intro x123 h
      rw [hk122] at h
      refine W.seq ?_
      refine W.reg (σ' := ⟨[(1, .v (Enc.sl (Enc.int .i64)) a1), (2, .ptr 101 0), (4, .ptr 102 0), (5, .ptr 104 0), (6, .v (Enc.int .i64) s78.1), (7, .v (Enc.int .i64) x123), (8, .v (Enc.int .i64) (0 : Int))], [(101, .box 49 [.v (Enc.sl eBlk) a0.1, .v (Enc.sl (Enc.pr (Enc.int .i64) eBlk)) a0.2.1, .v (Enc.int .i64) a0.2.2]), (102, .box 49 [.v (Enc.sl eBlk) ([] : (List Blk)), .v (Enc.sl (Enc.pr (Enc.int .i64) eBlk)) ([] : (List (Int × Blk))), .v (Enc.int .i64) (0 : Int)]), (104, .box 49 [.ref 103000, .v (Enc.sl (Enc.pr (Enc.int .i64) eBlk)) v1.2.1, .v (Enc.int .i64) v1.2.2]), (103000, .arr 24 eBlk s78.2)]⟩) (J.cons (.none rfl) (JO.assign rfl) rfl rfl (J.fin (Sw.Sub.mk id (.cons rfl (.of_eq rfl) (.cons rfl (.of_eq rfl) (.cons rfl (.of_eq rfl) (.cons rfl (.of_eq rfl) (.cons rfl (.of_eq rfl) (.cons rfl (.of_eq rfl) (.cons rfl (.of_eq rfl) .nil))))))) (.box rfl (.cons (.of_eq rfl) (.cons (.of_eq rfl) (.cons (.of_eq rfl) .nil))) (.box rfl (.cons (.of_eq rfl) (.cons (.of_eq rfl) (.cons (.of_eq rfl) .nil))) (.box rfl (.cons (.of_eq rfl) (.cons (.of_eq rfl) (.cons (.of_eq rfl) .nil))) (.arr rfl .nil)))) rfl))) ?_
      obtain ⟨o147, ho147, hb147, hr147⟩ := lp_elim h
      refine W.lp (σs := fun s140 : Int × (List Blk) => ⟨[(1, .v (Enc.sl (Enc.int .i64)) a1), (2, .ptr 101 0), (4, .ptr 102 0), (5, .ptr 104 0), (6, .v (Enc.int .i64) s78.1), (7, .v (Enc.int .i64) x123), (8, .v (Enc.int .i64) s140.1)], [(101, .box 49 [.v (Enc.sl eBlk) a0.1, .v (Enc.sl (Enc.pr (Enc.int .i64) eBlk)) a0.2.1, .v (Enc.int .i64) a0.2.2]), (102, .box 49 [.v (Enc.sl eBlk) ([] : (List Blk)), .v (Enc.sl (Enc.pr (Enc.int .i64) eBlk)) ([] : (List (Int × Blk))), .v (Enc.int .i64) (0 : Int)]), (104, .box 49 [.ref 103000, .v (Enc.sl (Enc.pr (Enc.int .i64) eBlk)) v1.2.1, .v (Enc.int .i64) v1.2.2]), (103000, .arr 24 eBlk s140.2)]⟩) (fun x148 : (List Blk) => ⟨[(1, .v (Enc.sl (Enc.int .i64)) a1), (2, .ptr 101 0), (4, .ptr 102 0), (5, .ptr 104 0), (6, .v (Enc.int .i64) s78.1)], [(101, .box 49 [.v (Enc.sl eBlk) a0.1, .v (Enc.sl (Enc.pr (Enc.int .i64) eBlk)) a0.2.1, .v (Enc.int .i64) a0.2.2]), (102, .box 49 [.v (Enc.sl eBlk) ([] : (List Blk)), .v (Enc.sl (Enc.pr (Enc.int .i64) eBlk)) ([] : (List (Int × Blk))), .v (Enc.int .i64) (0 : Int)]), (104, .box 49 [.ref 103000, .v (Enc.sl (Enc.pr (Enc.int .i64) eBlk)) v1.2.1, .v (Enc.int .i64) v1.2.2]), (103000, .arr 24 eBlk x148)]⟩) ho147 (Sw.Sub.mk id (.cons rfl (.of_eq rfl) (.cons rfl (.of_eq rfl) (.cons rfl (.of_eq rfl) (.cons rfl (.of_eq rfl) (.cons rfl (.of_eq rfl) (.cons rfl (.of_eq rfl) (.cons rfl (.of_eq rfl) .nil))))))) (.box rfl (.cons (.of_eq rfl) (.cons (.of_eq rfl) (.cons (.of_eq rfl) .nil))) (.box rfl (.cons (.of_eq rfl) (.cons (.of_eq rfl) (.cons (.of_eq rfl) .nil))) (.box rfl (.cons (.of_eq rfl) (.cons (.of_eq rfl) (.cons (.of_eq rfl) .nil))) (.arr rfl .nil)))) rfl) ?_ ?_
      · intro x148 hy
        have h := hb147 _ hy
        refine W.fall ?_
        refine W.reg (σ' := ⟨[(1, .v (Enc.sl (Enc.int .i64)) a1), (2, .ptr 101 0), (4, .ptr 102 0), (5, .ptr 104 0), (6, .v (Enc.int .i64) (ar .add .i64 s78.1 (1 : Int)))], [(101, .box 49 [.v (Enc.sl eBlk) a0.1, .v (Enc.sl (Enc.pr (Enc.int .i64) eBlk)) a0.2.1, .v (Enc.int .i64) a0.2.2]), (102, .box 49 [.v (Enc.sl eBlk) ([] : (List Blk)), .v (Enc.sl (Enc.pr (Enc.int .i64) eBlk)) ([] : (List (Int × Blk))), .v (Enc.int .i64) (0 : Int)]), (104, .box 49 [.ref 103000, .v (Enc.sl (Enc.pr (Enc.int .i64) eBlk)) v1.2.1, .v (Enc.int .i64) v1.2.2]), (103000, .arr 24 eBlk x148)]⟩) (J.cons (.none rfl) (JO.move rfl) rfl rfl (J.cons (.none rfl) (JO.arith rfl rfl rfl) rfl rfl (J.cons (.none rfl) (JO.assign rfl) rfl rfl (J.fin (Sw.Sub.mk id (.cons rfl (.of_eq rfl) (.cons rfl (.of_eq rfl) (.cons rfl (.of_eq rfl) (.cons rfl (.of_eq rfl) (.cons rfl (.of_eq rfl) .nil))))) (.box rfl (.cons (.of_eq rfl) (.cons (.of_eq rfl) (.cons (.of_eq rfl) .nil))) (.box rfl (.cons (.of_eq rfl) (.cons (.of_eq rfl) (.cons (.of_eq rfl) .nil))) (.box rfl (.cons (.of_eq rfl) (.cons (.of_eq rfl) (.cons (.of_eq rfl) .nil))) (.arr rfl .nil)))) rfl))))) ?_
        obtain rfl := Option.some.inj h
        exact W.next (Sw.Sub.mk id (.cons rfl (.of_eq rfl) (.cons rfl (.of_eq rfl) (.cons rfl (.of_eq rfl) (.cons rfl (.of_eq rfl) (.cons rfl (.of_eq rfl) .nil))))) (.box rfl (.cons (.of_eq rfl) (.cons (.of_eq rfl) (.cons (.of_eq rfl) .nil))) (.box rfl (.cons (.of_eq rfl) (.cons (.of_eq rfl) (.cons (.of_eq rfl) .nil))) (.box rfl (.cons (.of_eq rfl) (.cons (.of_eq rfl) (.cons (.of_eq rfl) .nil))) (.arr rfl .nil)))) rfl)
      intro s140 r147 h
      refine W.seq ?_
      refine W.seq ?_
      refine W.reg (σ' := ⟨[(1, .v (Enc.sl (Enc.int .i64)) a1), (2, .ptr 101 0), (4, .ptr 102 0), (5, .ptr 104 0), (6, .v (Enc.int .i64) s78.1), (7, .v (Enc.int .i64) x123), (8, .v (Enc.int .i64) s140.1), (29, .v Enc.bool (cm .lss s140.1 x123))], [(101, .box 49 [.v (Enc.sl eBlk) a0.1, .v (Enc.sl (Enc.pr (Enc.int .i64) eBlk)) a0.2.1, .v (Enc.int .i64) a0.2.2]), (102, .box 49 [.v (Enc.sl eBlk) ([] : (List Blk)), .v (Enc.sl (Enc.pr (Enc.int .i64) eBlk)) ([] : (List (Int × Blk))), .v (Enc.int .i64) (0 : Int)]), (104, .box 49 [.ref 103000, .v (Enc.sl (Enc.pr (Enc.int .i64) eBlk)) v1.2.1, .v (Enc.int .i64) v1.2.2]), (103000, .arr 24 eBlk s140.2)]⟩) (J.cons (.none rfl) (JO.move rfl) rfl rfl (J.cons (.none rfl) (JO.move rfl) rfl rfl (J.cons (.none rfl) (JO.cmp rfl rfl rfl) rfl rfl (J.fin (Sw.Sub.mk id (.cons rfl (.of_eq rfl) (.cons rfl (.of_eq rfl) (.cons rfl (.of_eq rfl) (.cons rfl (.of_eq rfl) (.cons rfl (.of_eq rfl) (.cons rfl (.of_eq rfl) (.cons rfl (.of_eq rfl) (.cons rfl (.of_eq rfl) .nil)))))))) (.box rfl (.cons (.of_eq rfl) (.cons (.of_eq rfl) (.cons (.of_eq rfl) .nil))) (.box rfl (.cons (.of_eq rfl) (.cons (.of_eq rfl) (.cons (.of_eq rfl) .nil))) (.box rfl (.cons (.of_eq rfl) (.cons (.of_eq rfl) (.cons (.of_eq rfl) .nil))) (.arr rfl .nil)))) rfl))))) ?_
      rcases Bool.eq_false_or_eq_true (cm .lss s140.1 x123) with hc149 | hc149
      · replace h := cond_t hc149 h
        refine W.condT rfl hc149 ?_
        refine W.skip ?_
        refine W.seq ?_
        refine W.block ?_
        obtain ⟨z150, hz150, h⟩ := bind_e h
        obtain ⟨z151, hz151, h⟩ := bind_e h
        obtain ⟨z152, hz152, h⟩ := bind_e h
        obtain ⟨z153, hz153, h⟩ := bind_e h
        obtain ⟨z154, hz154, h⟩ := bind_e h
        refine W.dr (σ' := ⟨[(1, .v (Enc.sl (Enc.int .i64)) a1), (2, .ptr 101 0), (4, .ptr 102 0), (5, .ptr 104 0), (6, .v (Enc.int .i64) s78.1), (7, .v (Enc.int .i64) x123), (8, .v (Enc.int .i64) s140.1)], [(101, .box 49 [.v (Enc.sl eBlk) a0.1, .v (Enc.sl (Enc.pr (Enc.int .i64) eBlk)) a0.2.1, .v (Enc.int .i64) a0.2.2]), (102, .box 49 [.v (Enc.sl eBlk) ([] : (List Blk)), .v (Enc.sl (Enc.pr (Enc.int .i64) eBlk)) ([] : (List (Int × Blk))), .v (Enc.int .i64) (0 : Int)]), (104, .box 49 [.ref 103000, .v (Enc.sl (Enc.pr (Enc.int .i64) eBlk)) v1.2.1, .v (Enc.int .i64) v1.2.2]), (103000, .arr 24 eBlk (List.set s140.2 (Int.toNat z150.1) (List.set z153 (Int.toNat s140.1) z152)))]⟩) 19 mixed (by exact (.cons (.none rfl) (JO.fieldPtr 0 rfl Try.runUnderlying49 rfl Try.sizeOf22 rfl rfl) rfl rfl (.cons (.none rfl) (JO.load rfl rfl rfl Try.isAgg22 Try.sizeOf22) rfl rfl (.cons (.none rfl) (JO.fieldPtr 1 rfl Try.runUnderlying49 rfl Try.sizeOf47 rfl rfl) rfl rfl (.cons (.none rfl) (JO.load rfl rfl rfl Try.isAgg47 Try.sizeOf47) rfl rfl (.cons (.none rfl) (JO.move rfl) rfl rfl (.cons (.none rfl) (JO.idx hz150 rfl rfl Try.runUnderlying47 Try.sizeOf85) rfl rfl (.cons (.none rfl) (JO.fieldPst rfl Try.runUnderlying85 rfl Try.sizeOf3 rfl (.fst .here) rfl) rfl rfl (.cons (.none rfl) (JO.loadPst rfl Try.isAgg3 Try.sizeOf3) rfl rfl (.cons (.none rfl) (JO.move rfl) rfl rfl (.cons (.none rfl) (JO.fieldPtr 1 rfl Try.runUnderlying49 rfl Try.sizeOf47 rfl rfl) rfl rfl (.cons (.none rfl) (JO.load rfl rfl rfl Try.isAgg47 Try.sizeOf47) rfl rfl (.cons (.none rfl) (JO.move rfl) rfl rfl (.cons (.none rfl) (JO.move rfl) rfl rfl (.cons (.none rfl) (JO.idx hz151 rfl rfl Try.runUnderlying47 Try.sizeOf85) rfl rfl (.cons (.none rfl) (JO.fieldPst rfl Try.runUnderlying85 rfl Try.sizeOf24 rfl (.snd .here) rfl) rfl rfl (.cons (.none rfl) (JO.idxPst hz152 rfl rfl Try.runUnderlying24 Try.sizeOf5) rfl rfl (.cons (.none rfl) (JO.loadPst rfl Try.isAgg5 Try.sizeOf5) rfl rfl (.cons (.none rfl) (JO.idxR hz153 rfl rfl rfl Try.runUnderlying22 Try.sizeOf24) rfl rfl (.cons (.none rfl) (JO.idxEl ((Int.toNat s140.1) * 1 + 0) (idx_some hz153).2.2 hz154 rfl rfl .here rfl Try.runUnderlying24 Try.sizeOf5 (Nat.zero_add _)) rfl rfl .nil)))))))))))))))))))) (by exact (J.mut (.none rfl) (JM.storeElP (idx_some hz153).2.2 rfl rfl rfl (.arr (idx_some hz154).2.2 .here) Try.sizeOf5) (J.fin (Sw.Sub.mk id (.cons rfl (.of_eq rfl) (.cons rfl (.of_eq rfl) (.cons rfl (.of_eq rfl) (.cons rfl (.of_eq rfl) (.cons rfl (.of_eq rfl) (.cons rfl (.of_eq rfl) (.cons rfl (.of_eq rfl) .nil))))))) (.box rfl (.cons (.of_eq rfl) (.cons (.of_eq rfl) (.cons (.of_eq rfl) .nil))) (.box rfl (.cons (.of_eq rfl) (.cons (.of_eq rfl) (.cons (.of_eq rfl) .nil))) (.box rfl (.cons (.of_eq rfl) (.cons (.of_eq rfl) (.cons (.of_eq rfl) .nil))) (.arr rfl .nil)))) rfl)))) (by decide +kernel) (by decide +kernel) (by decide +kernel) ?_
        refine W.fall ?_
        refine W.reg (σ' := ⟨[(1, .v (Enc.sl (Enc.int .i64)) a1), (2, .ptr 101 0), (4, .ptr 102 0), (5, .ptr 104 0), (6, .v (Enc.int .i64) s78.1), (7, .v (Enc.int .i64) x123), (8, .v (Enc.int .i64) (ar .add .i64 s140.1 (1 : Int)))], [(101, .box 49 [.v (Enc.sl eBlk) a0.1, .v (Enc.sl (Enc.pr (Enc.int .i64) eBlk)) a0.2.1, .v (Enc.int .i64) a0.2.2]), (102, .box 49 [.v (Enc.sl eBlk) ([] : (List Blk)), .v (Enc.sl (Enc.pr (Enc.int .i64) eBlk)) ([] : (List (Int × Blk))), .v (Enc.int .i64) (0 : Int)]), (104, .box 49 [.ref 103000, .v (Enc.sl (Enc.pr (Enc.int .i64) eBlk)) v1.2.1, .v (Enc.int .i64) v1.2.2]), (103000, .arr 24 eBlk (List.set s140.2 (Int.toNat z150.1) (List.set z153 (Int.toNat s140.1) z152)))]⟩) (J.cons (.none rfl) (JO.move rfl) rfl rfl (J.cons (.none rfl) (JO.arith rfl rfl rfl) rfl rfl (J.cons (.none rfl) (JO.assign rfl) rfl rfl (J.fin (Sw.Sub.mk id (.cons rfl (.of_eq rfl) (.cons rfl (.of_eq rfl) (.cons rfl (.of_eq rfl) (.cons rfl (.of_eq rfl) (.cons rfl (.of_eq rfl) (.cons rfl (.of_eq rfl) (.cons rfl (.of_eq rfl) .nil))))))) (.box rfl (.cons (.of_eq rfl) (.cons (.of_eq rfl) (.cons (.of_eq rfl) .nil))) (.box rfl (.cons (.of_eq rfl) (.cons (.of_eq rfl) (.cons (.of_eq rfl) .nil))) (.box rfl (.cons (.of_eq rfl) (.cons (.of_eq rfl) (.cons (.of_eq rfl) .nil))) (.arr rfl .nil)))) rfl))))) ?_
        obtain rfl := Option.some.inj h
        exact W.next (Sw.Sub.mk id (.cons rfl (.of_eq rfl) (.cons rfl (.of_eq rfl) (.cons rfl (.of_eq rfl) (.cons rfl (.of_eq rfl) (.cons rfl (.of_eq rfl) (.cons rfl (.of_eq rfl) (.cons rfl (.of_eq rfl) .nil))))))) (.box rfl (.cons (.of_eq rfl) (.cons (.of_eq rfl) (.cons (.of_eq rfl) .nil))) (.box rfl (.cons (.of_eq rfl) (.cons (.of_eq rfl) (.cons (.of_eq rfl) .nil))) (.box rfl (.cons (.of_eq rfl) (.cons (.of_eq rfl) (.cons (.of_eq rfl) .nil))) (.arr rfl .nil)))) rfl)
      · replace h := cond_f hc149 h
        refine W.condF rfl hc149 ?_
        refine W.exit ?_
        obtain rfl := Option.some.inj h
        exact XQ.brk (Sw.Sub.mk id (.cons rfl (.of_eq rfl) (.cons rfl (.of_eq rfl) (.cons rfl (.of_eq rfl) (.cons rfl (.of_eq rfl) (.cons rfl (.of_eq rfl) .nil))))) (.box rfl (.cons (.of_eq rfl) (.cons (.of_eq rfl) (.cons (.of_eq rfl) .nil))) (.box rfl (.cons (.of_eq rfl) (.cons (.of_eq rfl) (.cons (.of_eq rfl) .nil))) (.box rfl (.cons (.of_eq rfl) (.cons (.of_eq rfl) (.cons (.of_eq rfl) .nil))) (.arr rfl .nil)))) rfl)
    · intro hc119
      replace h := cond_t hc119 h
      obtain ⟨z124, hz124, h⟩ := bind_e h
      obtain ⟨v125, hv125, h⟩ := bind_e h
      refine W.reg (σ' := ⟨[(1, .v (Enc.sl (Enc.int .i64)) a1), (2, .ptr 101 0), (4, .ptr 102 0), (5, .ptr 104 0), (6, .v (Enc.int .i64) s78.1), (7, .v (Enc.int .i64) v125)], [(101, .box 49 [.v (Enc.sl eBlk) a0.1, .v (Enc.sl (Enc.pr (Enc.int .i64) eBlk)) a0.2.1, .v (Enc.int .i64) a0.2.2]), (102, .box 49 [.v (Enc.sl eBlk) ([] : (List Blk)), .v (Enc.sl (Enc.pr (Enc.int .i64) eBlk)) ([] : (List (Int × Blk))), .v (Enc.int .i64) (0 : Int)]), (104, .box 49 [.ref 103000, .v (Enc.sl (Enc.pr (Enc.int .i64) eBlk)) v1.2.1, .v (Enc.int .i64) v1.2.2]), (103000, .arr 24 eBlk s78.2)]⟩) (J.cons (.none rfl) (JO.move rfl) rfl rfl (J.cons (.none rfl) (JO.move rfl) rfl rfl (J.cons (.none rfl) (JO.idx hz124 rfl rfl Try.runUnderlying36 Try.sizeOf3) rfl rfl (J.cons (.none rfl) (JO.loadPst rfl Try.isAgg3 Try.sizeOf3) rfl rfl (J.cons (.none rfl) (JO.call0 (con_ref_Pick hv125) Try.call36 (.cons (.dir rfl) (.cons (.dir rfl) .nil))) rfl rfl (J.cons (.none rfl) (JO.assign rfl) rfl rfl (J.fin (Sw.Sub.mk id (.cons rfl (.of_eq rfl) (.cons rfl (.of_eq rfl) (.cons rfl (.of_eq rfl) (.cons rfl (.of_eq rfl) (.cons rfl (.of_eq rfl) (.cons rfl (.of_eq rfl) .nil)))))) (.box rfl (.cons (.of_eq rfl) (.cons (.of_eq rfl) (.cons (.of_eq rfl) .nil))) (.box rfl (.cons (.of_eq rfl) (.cons (.of_eq rfl) (.cons (.of_eq rfl) .nil))) (.box rfl (.cons (.of_eq rfl) (.cons (.of_eq rfl) (.cons (.of_eq rfl) .nil))) (.arr rfl .nil)))) rfl)))))))) ?_
      exact W.jfall h (Sw.Sub.mk id (.cons rfl (.of_eq rfl) (.cons rfl (.of_eq rfl) (.cons rfl (.of_eq rfl) (.cons rfl (.of_eq rfl) (.cons rfl (.of_eq rfl) (.cons rfl (.of_eq rfl) .nil)))))) (.box rfl (.cons (.of_eq rfl) (.cons (.of_eq rfl) (.cons (.of_eq rfl) .nil))) (.box rfl (.cons (.of_eq rfl) (.cons (.of_eq rfl) (.cons (.of_eq rfl) .nil))) (.box rfl (.cons (.of_eq rfl) (.cons (.of_eq rfl) (.cons (.of_eq rfl) .nil))) (.arr rfl .nil)))) rfl)
    · intro hc119
      replace h := cond_f hc119 h
      refine W.skip ?_
      exact W.jfall h (Sw.Sub.mk id (.cons rfl (.of_eq rfl) (.cons rfl (.of_eq rfl) (.cons rfl (.of_eq rfl) (.cons rfl (.of_eq rfl) (.cons rfl (.of_eq rfl) (.cons rfl (.of_eq rfl) .nil)))))) (.box rfl (.cons (.of_eq rfl) (.cons (.of_eq rfl) (.cons (.of_eq rfl) .nil))) (.box rfl (.cons (.of_eq rfl) (.cons (.of_eq rfl) (.cons (.of_eq rfl) .nil))) (.box rfl (.cons (.of_eq rfl) (.cons (.of_eq rfl) (.cons (.of_eq rfl) .nil))) (.arr rfl .nil)))) rfl)
  · replace h := cond_f hc118 h
    refine W.condF rfl hc118 ?_
    refine W.exit ?_
    obtain rfl := Option.some.inj h
    exact XQ.brk (Sw.Sub.mk id (.cons rfl (.of_eq rfl) (.cons rfl (.of_eq rfl) .nil)) (.box rfl (.cons (.of_eq rfl) (.cons (.of_eq rfl) (.cons (.of_eq rfl) .nil))) (.box rfl (.cons (.of_eq rfl) (.cons (.of_eq rfl) (.cons (.of_eq rfl) .nil))) (.arr rfl .nil))) rfl)
set_option maxRecDepth 100000 in
set_option maxHeartbeats 4000000 in
theorem con_disk_Check_1 {a0 : (Int × Blk)} {a1 : ((List Blk) × (List (Int × Blk)) × Int)} {r : Bool} (h : m_disk_Check_1 a0 a1 = some r) :
    Con Try.prog 87 [.v (Enc.pr (Enc.int .i64) eBlk) a0, .pst (Enc.pr (Enc.sl eBlk) (Enc.pr (Enc.sl (Enc.pr (Enc.int .i64) eBlk)) (Enc.int .i64))) a1] (.v Enc.bool r) [] := by
  refine Con.of Try.func87 rfl Try.ntmps87 rfl ?_
  intro S w hF
  unfold m_disk_Check_1 at h
  refine W.seq ?_
  refine W.reg (σ' := ⟨[(1, .pst (Enc.pr (Enc.sl eBlk) (Enc.pr (Enc.sl (Enc.pr (Enc.int .i64) eBlk)) (Enc.int .i64))) a1), (2, .ptr 101 0)], [(101, .box 85 [.v (Enc.int .i64) a0.1, .v eBlk a0.2])]⟩) (J.cons (.none rfl) (JO.box 101 rfl (.prm (.one _ _) (.one _ _)) rfl) rfl rfl (J.cons (.none rfl) (JO.assign rfl) rfl rfl (J.fin (Sw.Sub.mk id (.cons rfl (.of_eq rfl) (.cons rfl (.of_eq rfl) .nil)) (.box rfl (.cons (.of_eq rfl) (.cons (.of_eq rfl) .nil)) .nil) rfl)))) ?_
  refine W.seq ?_
  obtain ⟨x2, hx, h⟩ := bind_e h
  refine W.reg (σ' := ⟨[(3, .v Enc.bool x2)], []⟩) ?_ ?_
  · rcases Bool.eq_false_or_eq_true (cm .lss a0.1 (0 : Int)) with hc3 | hc3
    · replace hx := cond_t hc3 hx
      obtain rfl := Option.some.inj hx
      exact (J.cons (.none rfl) (JO.fieldPtr 0 rfl Try.runUnderlying85 rfl Try.sizeOf3 rfl rfl) rfl rfl (J.cons (.none rfl) (JO.load rfl rfl rfl Try.isAgg3 Try.sizeOf3) rfl rfl (J.cons (.none rfl) (JO.cmp rfl rfl rfl) rfl rfl (J.cons (.none rfl) (JO.move rfl) rfl rfl (J.left (GK.unmet 7 rfl rfl rfl hc3) rfl (J.left (GK.unmet 7 rfl rfl rfl hc3) rfl (J.left (GK.unmet 7 rfl rfl rfl hc3) rfl (J.left (GK.unmet 7 rfl rfl rfl hc3) rfl (J.left (GK.unmet 7 rfl rfl rfl hc3) rfl (J.left (GK.unmet 7 rfl rfl rfl hc3) rfl (J.cons (.none rfl) (JO.pT hc3 rfl rfl) rfl rfl (J.cons (.none rfl) (JO.assign rfl) rfl rfl (J.fin (Sw.Sub.mk id (.cons rfl (.of_eq rfl) .nil) .nil rfl))))))))))))))
    · replace hx := cond_f hc3 hx
      obtain rfl := Option.some.inj hx
      exact (J.cons (.none rfl) (JO.fieldPtr 0 rfl Try.runUnderlying85 rfl Try.sizeOf3 rfl rfl) rfl rfl (J.cons (.none rfl) (JO.load rfl rfl rfl Try.isAgg3 Try.sizeOf3) rfl rfl (J.cons (.none rfl) (JO.cmp rfl rfl rfl) rfl rfl (J.cons (.none rfl) (JO.move rfl) rfl rfl (J.cons (GK.met 7 rfl rfl rfl hc3) (JO.fieldPtr 0 rfl Try.runUnderlying85 rfl Try.sizeOf3 rfl rfl) rfl rfl (J.cons (GK.met 7 rfl rfl rfl hc3) (JO.load rfl rfl rfl Try.isAgg3 Try.sizeOf3) rfl rfl (J.cons (GK.met 7 rfl rfl rfl hc3) (JO.fieldPst rfl Try.runUnderlying49 rfl Try.sizeOf22 rfl (.fst .here) rfl) rfl rfl (J.cons (GK.met 7 rfl rfl rfl hc3) (JO.loadPst rfl Try.isAgg22 Try.sizeOf22) rfl rfl (J.cons (GK.met 7 rfl rfl rfl hc3) (JO.len rfl Try.runUnderlying22) rfl rfl (J.cons (GK.met 7 rfl rfl rfl hc3) (JO.cmp rfl rfl rfl) rfl rfl (J.cons (.none rfl) (JO.pF hc3 rfl rfl) rfl rfl (J.cons (.none rfl) (JO.assign rfl) rfl rfl (J.fin (Sw.Sub.mk id (.cons rfl (.of_eq rfl) .nil) .nil rfl))))))))))))))
  refine W.ret ?_
  obtain rfl := Option.some.inj h
  exact XQ.sub (σ' := ⟨[(3, .v Enc.bool x2)], []⟩) (Sw.Sub.mk id (.cons rfl (.of_eq rfl) .nil) .nil rfl) (XQ.ret1 hF noR rfl (RV.tmp rfl) .nil rfl)
set_option maxRecDepth 100000 in
set_option maxHeartbeats 4000000 in
theorem con_slices_IndexFunc_api_Put_api_Put__disk_Check_1 {a0 : (List (Int × Blk))} {a1_0 : ((List Blk) × (List (Int × Blk)) × Int)} {r : Int} (h : m_slices_IndexFunc_api_Put_api_Put__disk_Check_1 a0 a1_0 = some r) :
    Con Try.prog 95 [.v (Enc.sl (Enc.pr (Enc.int .i64) eBlk)) a0, .fnc 87 [.pst (Enc.pr (Enc.sl eBlk) (Enc.pr (Enc.sl (Enc.pr (Enc.int .i64) eBlk)) (Enc.int .i64))) a1_0]] (.v (Enc.int .i64) r) [] := by
  refine Con.of Try.func95 rfl Try.ntmps95 rfl ?_
  intro S w hF
  unfold m_slices_IndexFunc_api_Put_api_Put__disk_Check_1 at h
  refine W.seq ?_
  refine W.reg (σ' := ⟨[(0, .v (Enc.sl (Enc.pr (Enc.int .i64) eBlk)) a0), (1, .fnc 87 [.pst (Enc.pr (Enc.sl eBlk) (Enc.pr (Enc.sl (Enc.pr (Enc.int .i64) eBlk)) (Enc.int .i64))) a1_0])], []⟩) (J.cons (.none rfl) (JO.assign rfl) rfl rfl (J.fin (Sw.Sub.mk id (.cons rfl (.of_eq rfl) (.cons rfl (.of_eq rfl) .nil)) .nil rfl))) ?_
  refine W.seq ?_
  refine W.seq ?_
  refine W.reg (σ' := ⟨[(0, .v (Enc.sl (Enc.pr (Enc.int .i64) eBlk)) a0), (1, .fnc 87 [.pst (Enc.pr (Enc.sl eBlk) (Enc.pr (Enc.sl (Enc.pr (Enc.int .i64) eBlk)) (Enc.int .i64))) a1_0]), (7, .v (Enc.int .i64) (a0.length : Int)), (8, .v (Enc.int .i64) (0 : Int))], []⟩) (J.cons (.none rfl) (JO.move rfl) rfl rfl (J.cons (.none rfl) (JO.len rfl Try.runUnderlying47) rfl rfl (J.cons (.none rfl) (JO.move rfl) rfl rfl (J.fin (Sw.Sub.mk id (.cons rfl (.of_eq rfl) (.cons rfl (.of_eq rfl) (.cons rfl (.of_eq rfl) (.cons rfl (.of_eq rfl) .nil)))) .nil rfl))))) ?_
  obtain ⟨o16, ho16, hb16, hr16⟩ := lp_elim h
  refine W.lp (σs := fun s11 : Int => ⟨[(0, .v (Enc.sl (Enc.pr (Enc.int .i64) eBlk)) a0), (1, .fnc 87 [.pst (Enc.pr (Enc.sl eBlk) (Enc.pr (Enc.sl (Enc.pr (Enc.int .i64) eBlk)) (Enc.int .i64))) a1_0]), (7, .v (Enc.int .i64) (a0.length : Int)), (8, .v (Enc.int .i64) s11)], []⟩) (fun x17 : Unit => ⟨[], []⟩) ho16 (Sw.Sub.mk id (.cons rfl (.of_eq rfl) (.cons rfl (.of_eq rfl) (.cons rfl (.of_eq rfl) (.cons rfl (.of_eq rfl) .nil)))) .nil rfl) ?_ ?_
  · intro x17 hy
    have h := hb16 _ hy
    refine W.seq ?_
    refine W.reg (σ' := ⟨[(4, .v (Enc.int .i64) (-1 : Int))], []⟩) (J.cons (.none rfl) (JO.assign rfl) rfl rfl (J.fin (Sw.Sub.mk id (.cons rfl (.of_eq rfl) .nil) .nil rfl))) ?_
    refine W.ret ?_
    obtain rfl := Option.some.inj h
    exact XQ.sub (σ' := ⟨[(4, .v (Enc.int .i64) (-1 : Int))], []⟩) (Sw.Sub.mk id (.cons rfl (.of_eq rfl) .nil) .nil rfl) (XQ.ret1 hF noR rfl (RV.tmp rfl) .nil rfl)
  intro s11 r16 h
  refine W.seq ?_
  refine W.reg (σ' := ⟨[(0, .v (Enc.sl (Enc.pr (Enc.int .i64) eBlk)) a0), (1, .fnc 87 [.pst (Enc.pr (Enc.sl eBlk) (Enc.pr (Enc.sl (Enc.pr (Enc.int .i64) eBlk)) (Enc.int .i64))) a1_0]), (7, .v (Enc.int .i64) (a0.length : Int)), (8, .v (Enc.int .i64) s11), (9, .v Enc.bool (cm .lss s11 (a0.length : Int)))], []⟩) (J.cons (.none rfl) (JO.cmp rfl rfl rfl) rfl rfl (J.fin (Sw.Sub.mk id (.cons rfl (.of_eq rfl) (.cons rfl (.of_eq rfl) (.cons rfl (.of_eq rfl) (.cons rfl (.of_eq rfl) (.cons rfl (.of_eq rfl) .nil))))) .nil rfl))) ?_
  refine W.seq ?_
  rcases Bool.eq_false_or_eq_true (cm .lss s11 (a0.length : Int)) with hc18 | hc18
  · replace h := cond_t hc18 h
    refine W.condT rfl hc18 ?_
    refine W.skip ?_
    refine W.seq ?_
    refine W.block ?_
    refine W.seq ?_
    refine W.reg (σ' := ⟨[(0, .v (Enc.sl (Enc.pr (Enc.int .i64) eBlk)) a0), (1, .fnc 87 [.pst (Enc.pr (Enc.sl eBlk) (Enc.pr (Enc.sl (Enc.pr (Enc.int .i64) eBlk)) (Enc.int .i64))) a1_0]), (5, .v (Enc.int .i64) s11), (7, .v (Enc.int .i64) (a0.length : Int)), (8, .v (Enc.int .i64) s11)], []⟩) (J.cons (.none rfl) (JO.move rfl) rfl rfl (J.cons (.none rfl) (JO.assign rfl) rfl rfl (J.fin (Sw.Sub.mk id (.cons rfl (.of_eq rfl) (.cons rfl (.of_eq rfl) (.cons rfl (.of_eq rfl) (.cons rfl (.of_eq rfl) (.cons rfl (.of_eq rfl) .nil))))) .nil rfl)))) ?_
    refine W.seq ?_
    obtain ⟨z19, hz19, h⟩ := bind_e h
    obtain ⟨v20, hv20, h⟩ := bind_e h
    refine W.reg (σ' := ⟨[(0, .v (Enc.sl (Enc.pr (Enc.int .i64) eBlk)) a0), (1, .fnc 87 [.pst (Enc.pr (Enc.sl eBlk) (Enc.pr (Enc.sl (Enc.pr (Enc.int .i64) eBlk)) (Enc.int .i64))) a1_0]), (5, .v (Enc.int .i64) s11), (7, .v (Enc.int .i64) (a0.length : Int)), (8, .v (Enc.int .i64) s11), (16, .v Enc.bool v20)], []⟩) (J.cons (.none rfl) (JO.move rfl) rfl rfl (J.cons (.none rfl) (JO.move rfl) rfl rfl (J.cons (.none rfl) (JO.move rfl) rfl rfl (J.cons (.none rfl) (JO.idx hz19 rfl rfl Try.runUnderlying47 Try.sizeOf85) rfl rfl (J.cons (.none rfl) (JO.loadPst rfl Try.isAgg85 Try.sizeOf85) rfl rfl (J.cons (.none rfl) (JO.callF0 rfl (con_disk_Check_1 hv20) Try.call87 (.cons (.dir rfl) .nil)) rfl rfl (J.fin (Sw.Sub.mk id (.cons rfl (.of_eq rfl) (.cons rfl (.of_eq rfl) (.cons rfl (.of_eq rfl) (.cons rfl (.of_eq rfl) (.cons rfl (.of_eq rfl) (.cons rfl (.of_eq rfl) .nil)))))) .nil rfl)))))))) ?_
    rcases Bool.eq_false_or_eq_true v20 with hc21 | hc21
    · replace h := cond_t hc21 h
      refine W.condT rfl hc21 ?_
      refine W.seq ?_
      refine W.reg (σ' := ⟨[(4, .v (Enc.int .i64) s11)], []⟩) (J.cons (.none rfl) (JO.move rfl) rfl rfl (J.cons (.none rfl) (JO.assign rfl) rfl rfl (J.fin (Sw.Sub.mk id (.cons rfl (.of_eq rfl) .nil) .nil rfl)))) ?_
      refine W.ret ?_
      refine XQ.ret ?_
      obtain rfl := Option.some.inj h
      refine XQ.lret fun ho => ?_
      obtain rfl := hr16 _ ho
      exact XQ.sub (σ' := ⟨[(4, .v (Enc.int .i64) s11)], []⟩) (Sw.Sub.mk id (.cons rfl (.of_eq rfl) .nil) .nil rfl) (XQ.ret1 hF noR rfl (RV.tmp rfl) .nil rfl)
    · replace h := cond_f hc21 h
      refine W.condF rfl hc21 ?_
      refine W.skip ?_
      refine W.fall ?_
      refine W.reg (σ' := ⟨[(0, .v (Enc.sl (Enc.pr (Enc.int .i64) eBlk)) a0), (1, .fnc 87 [.pst (Enc.pr (Enc.sl eBlk) (Enc.pr (Enc.sl (Enc.pr (Enc.int .i64) eBlk)) (Enc.int .i64))) a1_0]), (7, .v (Enc.int .i64) (a0.length : Int)), (8, .v (Enc.int .i64) (ar .add .i64 s11 (1 : Int)))], []⟩) (J.cons (.none rfl) (JO.arith rfl rfl rfl) rfl rfl (J.cons (.none rfl) (JO.move rfl) rfl rfl (J.fin (Sw.Sub.mk id (.cons rfl (.of_eq rfl) (.cons rfl (.of_eq rfl) (.cons rfl (.of_eq rfl) (.cons rfl (.of_eq rfl) .nil)))) .nil rfl)))) ?_
      obtain rfl := Option.some.inj h
      exact W.next (Sw.Sub.mk id (.cons rfl (.of_eq rfl) (.cons rfl (.of_eq rfl) (.cons rfl (.of_eq rfl) (.cons rfl (.of_eq rfl) .nil)))) .nil rfl)
  · replace h := cond_f hc18 h
    refine W.condF rfl hc18 ?_
    refine W.exit ?_
    obtain rfl := Option.some.inj h
    exact XQ.brk (Sw.Sub.mk id .nil .nil rfl)
set_option maxRecDepth 100000 in
set_option maxHeartbeats 4000000 in
theorem con_slices_ContainsFunc_api_Put_api_Put__disk_Check_1 {a0 : (List (Int × Blk))} {a1_0 : ((List Blk) × (List (Int × Blk)) × Int)} {r : Bool} (h : m_slices_ContainsFunc_api_Put_api_Put__disk_Check_1 a0 a1_0 = some r) :
    Con Try.prog 86 [.v (Enc.sl (Enc.pr (Enc.int .i64) eBlk)) a0, .fnc 87 [.pst (Enc.pr (Enc.sl eBlk) (Enc.pr (Enc.sl (Enc.pr (Enc.int .i64) eBlk)) (Enc.int .i64))) a1_0]] (.v Enc.bool r) [] := by
  refine Con.of Try.func86 rfl Try.ntmps86 rfl ?_
  intro S w hF
  unfold m_slices_ContainsFunc_api_Put_api_Put__disk_Check_1 at h
  refine W.seq ?_
  refine W.reg (σ' := ⟨[(0, .v (Enc.sl (Enc.pr (Enc.int .i64) eBlk)) a0), (1, .fnc 87 [.pst (Enc.pr (Enc.sl eBlk) (Enc.pr (Enc.sl (Enc.pr (Enc.int .i64) eBlk)) (Enc.int .i64))) a1_0])], []⟩) (J.cons (.none rfl) (JO.assign rfl) rfl rfl (J.fin (Sw.Sub.mk id (.cons rfl (.of_eq rfl) (.cons rfl (.of_eq rfl) .nil)) .nil rfl))) ?_
  refine W.seq ?_
  obtain ⟨v1, hv1, h⟩ := bind_e h
  refine W.reg (σ' := ⟨[(4, .v Enc.bool (cm .geq v1 (0 : Int)))], []⟩) (J.cons (.none rfl) (JO.move rfl) rfl rfl (J.cons (.none rfl) (JO.move rfl) rfl rfl (J.cons (.none rfl) (JO.call0 (con_slices_IndexFunc_api_Put_api_Put__disk_Check_1 hv1) Try.call95 (.cons (.dir rfl) (.cons (.dir rfl) .nil))) rfl rfl (J.cons (.none rfl) (JO.cmp rfl rfl rfl) rfl rfl (J.cons (.none rfl) (JO.assign rfl) rfl rfl (J.fin (Sw.Sub.mk id (.cons rfl (.of_eq rfl) .nil) .nil rfl))))))) ?_
  refine W.ret ?_
  obtain rfl := Option.some.inj h
  exact XQ.sub (σ' := ⟨[(4, .v Enc.bool (cm .geq v1 (0 : Int)))], []⟩) (Sw.Sub.mk id (.cons rfl (.of_eq rfl) .nil) .nil rfl) (XQ.ret1 hF noR rfl (RV.tmp rfl) .nil rfl)
set_option maxRecDepth 100000 in
set_option maxHeartbeats 4000000 in
theorem con_disk_Check {a0 : ((List Blk) × (List (Int × Blk)) × Int)} {r : (Option Int)} (h : m_disk_Check a0 = some r) :
    Con Try.prog 60 [.v (Enc.pr (Enc.sl eBlk) (Enc.pr (Enc.sl (Enc.pr (Enc.int .i64) eBlk)) (Enc.int .i64))) a0] (.v (Enc.err ET) r) [] := by
  refine Con.of Try.func60 rfl Try.ntmps60 rfl ?_
  intro S w hF
  unfold m_disk_Check at h
  refine W.seq ?_
  refine W.reg (σ' := ⟨[(1, .ptr 101 0)], [(101, .box 49 [.v (Enc.sl eBlk) a0.1, .v (Enc.sl (Enc.pr (Enc.int .i64) eBlk)) a0.2.1, .v (Enc.int .i64) a0.2.2])]⟩) (J.cons (.none rfl) (JO.box 101 rfl (.prm (.one _ _) (.prm (.one _ _) (.one _ _))) rfl) rfl rfl (J.cons (.none rfl) (JO.assignNilE ET) rfl rfl (J.fin (Sw.Sub.mk id (.cons rfl (.of_eq rfl) .nil) (.box rfl (.cons (.of_eq rfl) (.cons (.of_eq rfl) (.cons (.of_eq rfl) .nil))) .nil) rfl)))) ?_
  refine W.seq ?_
  refine W.seq ?_
  obtain ⟨x3, hx, h⟩ := bind_e h
  refine W.reg (σ' := ⟨[(1, .ptr 101 0), (18, .v Enc.bool x3)], [(101, .box 49 [.v (Enc.sl eBlk) a0.1, .v (Enc.sl (Enc.pr (Enc.int .i64) eBlk)) a0.2.1, .v (Enc.int .i64) a0.2.2])]⟩) ?_ ?_
  · rcases Bool.eq_false_or_eq_true (cm .lss (a0.1.length : Int) (1 : Int)) with hc4 | hc4
    · replace hx := cond_t hc4 hx
      obtain rfl := Option.some.inj hx
      exact (J.cons (.none rfl) (JO.fieldPtr 0 rfl Try.runUnderlying49 rfl Try.sizeOf22 rfl rfl) rfl rfl (J.cons (.none rfl) (JO.load rfl rfl rfl Try.isAgg22 Try.sizeOf22) rfl rfl (J.cons (.none rfl) (JO.len rfl Try.runUnderlying22) rfl rfl (J.cons (.none rfl) (JO.cmp rfl rfl rfl) rfl rfl (J.cons (.none rfl) (JO.move rfl) rfl rfl (J.left (GK.unmet 7 rfl rfl rfl hc4) rfl (J.left (GK.unmet 7 rfl rfl rfl hc4) rfl (J.left (GK.unmet 7 rfl rfl rfl hc4) rfl (J.left (GK.unmet 7 rfl rfl rfl hc4) rfl (J.cons (.none rfl) (JO.pT hc4 rfl rfl) rfl rfl (J.cons (.none rfl) (JO.move rfl) rfl rfl (J.left (GK.unmet 13 rfl rfl rfl rfl) rfl (J.left (GK.unmet 13 rfl rfl rfl rfl) rfl (J.left (GK.unmet 13 rfl rfl rfl rfl) rfl (J.left (GK.unmet 13 rfl rfl rfl rfl) rfl (J.cons (.none rfl) (JO.pT rfl rfl rfl) rfl rfl (J.fin (Sw.Sub.mk id (.cons rfl (.of_eq rfl) (.cons rfl (.of_eq rfl) .nil)) (.box rfl (.cons (.of_eq rfl) (.cons (.of_eq rfl) (.cons (.of_eq rfl) .nil))) .nil) rfl))))))))))))))))))
    · replace hx := cond_f hc4 hx
      rcases Bool.eq_false_or_eq_true (cm .gtr (a0.1.length : Int) (200 : Int)) with hc5 | hc5
      · replace hx := cond_t hc5 hx
        obtain rfl := Option.some.inj hx
        exact (J.cons (.none rfl) (JO.fieldPtr 0 rfl Try.runUnderlying49 rfl Try.sizeOf22 rfl rfl) rfl rfl (J.cons (.none rfl) (JO.load rfl rfl rfl Try.isAgg22 Try.sizeOf22) rfl rfl (J.cons (.none rfl) (JO.len rfl Try.runUnderlying22) rfl rfl (J.cons (.none rfl) (JO.cmp rfl rfl rfl) rfl rfl (J.cons (.none rfl) (JO.move rfl) rfl rfl (J.cons (GK.met 7 rfl rfl rfl hc4) (JO.fieldPtr 0 rfl Try.runUnderlying49 rfl Try.sizeOf22 rfl rfl) rfl rfl (J.cons (GK.met 7 rfl rfl rfl hc4) (JO.load rfl rfl rfl Try.isAgg22 Try.sizeOf22) rfl rfl (J.cons (GK.met 7 rfl rfl rfl hc4) (JO.len rfl Try.runUnderlying22) rfl rfl (J.cons (GK.met 7 rfl rfl rfl hc4) (JO.cmp rfl rfl rfl) rfl rfl (J.cons (.none rfl) (JO.pF hc4 rfl rfl) rfl rfl (J.cons (.none rfl) (JO.move rfl) rfl rfl (J.left (GK.unmet 13 rfl rfl rfl hc5) rfl (J.left (GK.unmet 13 rfl rfl rfl hc5) rfl (J.left (GK.unmet 13 rfl rfl rfl hc5) rfl (J.left (GK.unmet 13 rfl rfl rfl hc5) rfl (J.cons (.none rfl) (JO.pT hc5 rfl rfl) rfl rfl (J.fin (Sw.Sub.mk id (.cons rfl (.of_eq rfl) (.cons rfl (.of_eq rfl) .nil)) (.box rfl (.cons (.of_eq rfl) (.cons (.of_eq rfl) (.cons (.of_eq rfl) .nil))) .nil) rfl))))))))))))))))))
      · replace hx := cond_f hc5 hx
        obtain rfl := Option.some.inj hx
        exact (J.cons (.none rfl) (JO.fieldPtr 0 rfl Try.runUnderlying49 rfl Try.sizeOf22 rfl rfl) rfl rfl (J.cons (.none rfl) (JO.load rfl rfl rfl Try.isAgg22 Try.sizeOf22) rfl rfl (J.cons (.none rfl) (JO.len rfl Try.runUnderlying22) rfl rfl (J.cons (.none rfl) (JO.cmp rfl rfl rfl) rfl rfl (J.cons (.none rfl) (JO.move rfl) rfl rfl (J.cons (GK.met 7 rfl rfl rfl hc4) (JO.fieldPtr 0 rfl Try.runUnderlying49 rfl Try.sizeOf22 rfl rfl) rfl rfl (J.cons (GK.met 7 rfl rfl rfl hc4) (JO.load rfl rfl rfl Try.isAgg22 Try.sizeOf22) rfl rfl (J.cons (GK.met 7 rfl rfl rfl hc4) (JO.len rfl Try.runUnderlying22) rfl rfl (J.cons (GK.met 7 rfl rfl rfl hc4) (JO.cmp rfl rfl rfl) rfl rfl (J.cons (.none rfl) (JO.pF hc4 rfl rfl) rfl rfl (J.cons (.none rfl) (JO.move rfl) rfl rfl (J.cons (GK.met 13 rfl rfl rfl hc5) (JO.fieldPtr 1 rfl Try.runUnderlying49 rfl Try.sizeOf47 rfl rfl) rfl rfl (J.cons (GK.met 13 rfl rfl rfl hc5) (JO.load rfl rfl rfl Try.isAgg47 Try.sizeOf47) rfl rfl (J.cons (GK.met 13 rfl rfl rfl hc5) (JO.len rfl Try.runUnderlying47) rfl rfl (J.cons (GK.met 13 rfl rfl rfl hc5) (JO.cmp rfl rfl rfl) rfl rfl (J.cons (.none rfl) (JO.pF hc5 rfl rfl) rfl rfl (J.fin (Sw.Sub.mk id (.cons rfl (.of_eq rfl) (.cons rfl (.of_eq rfl) .nil)) (.box rfl (.cons (.of_eq rfl) (.cons (.of_eq rfl) (.cons (.of_eq rfl) .nil))) .nil) rfl))))))))))))))))))
  rcases Bool.eq_false_or_eq_true x3 with hc6 | hc6
  · replace h := cond_t hc6 h
    refine W.condT rfl hc6 ?_
    refine W.seq ?_
    refine W.reg (σ' := ⟨[(2, .v (Enc.err ET) (some (2 : Int)))], []⟩) (J.cons (.none rfl) (JO.mkErr Try.runUnderlying25 rfl) rfl rfl (J.cons (.none rfl) (JO.assign rfl) rfl rfl (J.fin (Sw.Sub.mk id (.cons rfl (.of_eq rfl) .nil) .nil rfl)))) ?_
    refine W.ret ?_
    obtain rfl := Option.some.inj h
    exact XQ.sub (σ' := ⟨[(2, .v (Enc.err ET) (some (2 : Int)))], []⟩) (Sw.Sub.mk id (.cons rfl (.of_eq rfl) .nil) .nil rfl) (XQ.ret1 hF noR rfl (RV.tmp rfl) .nil rfl)
  · replace h := cond_f hc6 h
    refine W.condF rfl hc6 ?_
    refine W.skip ?_
    refine W.seq ?_
    refine W.seq ?_
    obtain ⟨v7, hv7, h⟩ := bind_e h
    refine W.reg (σ' := ⟨[(23, .v Enc.bool v7)], []⟩) (J.cons (.none rfl) (JO.fieldPtr 1 rfl Try.runUnderlying49 rfl Try.sizeOf47 rfl rfl) rfl rfl (J.cons (.none rfl) (JO.load rfl rfl rfl Try.isAgg47 Try.sizeOf47) rfl rfl (J.cons (.none rfl) (JO.makeFunc (.cons (.dir rfl) .nil)) rfl rfl (J.cons (.none rfl) (JO.callL0 (con_slices_ContainsFunc_api_Put_api_Put__disk_Check_1 hv7) Try.call86 (.cons (.dir rfl) (.cons (.lendF rfl (.ptr rfl (.prm (.one _ _) (.prm (.one _ _) (.one _ _))) .nil)) .nil)) FlatS.v) rfl rfl (J.fin (Sw.Sub.mk id (.cons rfl (.of_eq rfl) .nil) .nil rfl)))))) ?_
    rcases Bool.eq_false_or_eq_true v7 with hc8 | hc8
    · replace h := cond_t hc8 h
      refine W.condT rfl hc8 ?_
      refine W.seq ?_
      refine W.reg (σ' := ⟨[(2, .v (Enc.err ET) (some (1 : Int)))], []⟩) (J.cons (.none rfl) (JO.mkErr Try.runUnderlying25 rfl) rfl rfl (J.cons (.none rfl) (JO.assign rfl) rfl rfl (J.fin (Sw.Sub.mk id (.cons rfl (.of_eq rfl) .nil) .nil rfl)))) ?_
      refine W.ret ?_
      obtain rfl := Option.some.inj h
      exact XQ.sub (σ' := ⟨[(2, .v (Enc.err ET) (some (1 : Int)))], []⟩) (Sw.Sub.mk id (.cons rfl (.of_eq rfl) .nil) .nil rfl) (XQ.ret1 hF noR rfl (RV.tmp rfl) .nil rfl)
    · replace h := cond_f hc8 h
      refine W.condF rfl hc8 ?_
      refine W.skip ?_
      refine W.seq ?_
      refine W.reg (σ' := ⟨[(2, .v (Enc.err ET) (none : Option Int))], []⟩) (J.cons (.none rfl) (JO.assignNilE ET) rfl rfl (J.fin (Sw.Sub.mk id (.cons rfl (.of_eq rfl) .nil) .nil rfl))) ?_
      refine W.ret ?_
      obtain rfl := Option.some.inj h
      exact XQ.sub (σ' := ⟨[(2, .v (Enc.err ET) (none : Option Int))], []⟩) (Sw.Sub.mk id (.cons rfl (.of_eq rfl) .nil) .nil rfl) (XQ.ret1 hF noR rfl (RV.tmp rfl) .nil rfl)
set_option maxRecDepth 100000 in
set_option maxHeartbeats 4000000 in
theorem con_slices_Clone_api_Block_api_Block_nil {a0 : (Bool × (List Blk))} {r : (List Blk)} (h : m_slices_Clone_api_Block_api_Block_nil a0 = some r) :
    Con Try.prog 82 [.v (Enc.slN eBlk) a0] (.ref 0) [(0, .arr 24 eBlk r)] := by
  refine Con.of Try.func82 rfl Try.ntmps82 rfl ?_
  intro S w hF
  unfold m_slices_Clone_api_Block_api_Block_nil at h
  refine W.seq ?_
  refine W.reg (σ' := ⟨[(0, .v (Enc.slN eBlk) a0)], []⟩) (J.cons (.none rfl) (JO.assignNilR 101 24 eBlk) rfl rfl (J.fin (Sw.Sub.mk id (.cons rfl (.of_eq rfl) .nil) .nil rfl))) ?_
  refine W.seq ?_
  refine W.seq ?_
  refine W.reg (σ' := ⟨[(0, .v (Enc.slN eBlk) a0), (4, .v Enc.bool a0.1)], []⟩) (J.cons (.none rfl) (JO.move rfl) rfl rfl (J.cons (.none rfl) (JO.eqNilS rfl Try.runUnderlying22) rfl rfl (J.fin (Sw.Sub.mk id (.cons rfl (.of_eq rfl) (.cons rfl (.of_eq rfl) .nil)) .nil rfl)))) ?_
  rcases Bool.eq_false_or_eq_true a0.1 with hc1 | hc1
  · replace h := cond_t hc1 h
    refine W.condT rfl hc1 ?_
    refine W.seq ?_
    refine W.reg (σ' := ⟨[(2, .ref 102)], [(102, .arr 24 eBlk ([] : (List Blk)))]⟩) (J.cons (.none rfl) (JO.assignNilR 102 24 eBlk) rfl rfl (J.fin (Sw.Sub.mk id (.cons rfl (.of_eq rfl) .nil) (.arr rfl .nil) rfl))) ?_
    refine W.ret ?_
    obtain rfl := Option.some.inj h
    exact XQ.sub (σ' := ⟨[(2, .ref 0)], [(0, .arr 24 eBlk ([] : (List Blk)))]⟩) (Sw.Sub.mk (rn [(0, 102)]) (.cons rfl (.of_eq rfl) .nil) (.arr rfl .nil) rfl) (XQ.ret1 hF noR rfl (RV.tmp rfl) (.cons rfl .nil) rfl)
  · replace h := cond_f hc1 h
    refine W.condF rfl hc1 ?_
    refine W.skip ?_
    refine W.seq ?_
    obtain ⟨v2, hv2, h⟩ := bind_e h
    refine W.reg (σ' := ⟨[(2, .ref 104)], [(104, .arr 24 eBlk v2)]⟩) (J.cons (.none rfl) (JO.litR (e := eBlk) 103 Try.runUnderlying22 Try.sizeOf24 Try.zeroValue24 rfl rfl rfl rfl .nil) rfl rfl (J.cons (.none rfl) (JO.move rfl) rfl rfl (J.mut (.none rfl) (JM.append 104 hv2 rfl rfl (.slN rfl) Try.runUnderlying22 Try.typeInfo24 Try.sizeOf24 rfl rfl rfl rfl rfl) (J.cons (.none rfl) (JO.assign rfl) rfl rfl (J.fin (Sw.Sub.mk id (.cons rfl (.of_eq rfl) .nil) (.arr rfl .nil) rfl)))))) ?_
    refine W.ret ?_
    obtain rfl := Option.some.inj h
    exact XQ.sub (σ' := ⟨[(2, .ref 0)], [(0, .arr 24 eBlk v2)]⟩) (Sw.Sub.mk (rn [(0, 104)]) (.cons rfl (.of_eq rfl) .nil) (.arr rfl .nil) rfl) (XQ.ret1 hF noR rfl (RV.tmp rfl) (.cons rfl .nil) rfl)
theorem con_slices_Clone_api_Block_api_Block {a0 : (List Blk)} {r : (List Blk)} (h : m_slices_Clone_api_Block_api_Block a0 = some r) :
    Con Try.prog 82 [.v (Enc.sl eBlk) a0] (.ref 0) [(0, .arr 24 eBlk r)] :=
  Con.nilCases fun b hb => con_slices_Clone_api_Block_api_Block_nil (by cases b with | true => rw [hb rfl] at h ⊢; exact h | false => exact clone_f h)
set_option maxRecDepth 100000 in
set_option maxHeartbeats 4000000 in
theorem con_slices_Clone_api_Put_api_Put_nil {a0 : (Bool × (List (Int × Blk)))} {r : (List (Int × Blk))} (h : m_slices_Clone_api_Put_api_Put_nil a0 = some r) :
    Con Try.prog 92 [.v (Enc.slN (Enc.pr (Enc.int .i64) eBlk)) a0] (.ref 0) [(0, .arr 85 (Enc.pr (Enc.int .i64) eBlk) r)] := by
  refine Con.of Try.func92 rfl Try.ntmps92 rfl ?_
  intro S w hF
  unfold m_slices_Clone_api_Put_api_Put_nil at h
  refine W.seq ?_
  refine W.reg (σ' := ⟨[(0, .v (Enc.slN (Enc.pr (Enc.int .i64) eBlk)) a0)], []⟩) (J.cons (.none rfl) (JO.assignNilR 101 85 (Enc.pr (Enc.int .i64) eBlk)) rfl rfl (J.fin (Sw.Sub.mk id (.cons rfl (.of_eq rfl) .nil) .nil rfl))) ?_
  refine W.seq ?_
  refine W.seq ?_
  refine W.reg (σ' := ⟨[(0, .v (Enc.slN (Enc.pr (Enc.int .i64) eBlk)) a0), (4, .v Enc.bool a0.1)], []⟩) (J.cons (.none rfl) (JO.move rfl) rfl rfl (J.cons (.none rfl) (JO.eqNilS rfl Try.runUnderlying47) rfl rfl (J.fin (Sw.Sub.mk id (.cons rfl (.of_eq rfl) (.cons rfl (.of_eq rfl) .nil)) .nil rfl)))) ?_
  rcases Bool.eq_false_or_eq_true a0.1 with hc1 | hc1
  · replace h := cond_t hc1 h
    refine W.condT rfl hc1 ?_
    refine W.seq ?_
    refine W.reg (σ' := ⟨[(2, .ref 102)], [(102, .arr 85 (Enc.pr (Enc.int .i64) eBlk) ([] : (List (Int × Blk))))]⟩) (J.cons (.none rfl) (JO.assignNilR 102 85 (Enc.pr (Enc.int .i64) eBlk)) rfl rfl (J.fin (Sw.Sub.mk id (.cons rfl (.of_eq rfl) .nil) (.arr rfl .nil) rfl))) ?_
    refine W.ret ?_
    obtain rfl := Option.some.inj h
    exact XQ.sub (σ' := ⟨[(2, .ref 0)], [(0, .arr 85 (Enc.pr (Enc.int .i64) eBlk) ([] : (List (Int × Blk))))]⟩) (Sw.Sub.mk (rn [(0, 102)]) (.cons rfl (.of_eq rfl) .nil) (.arr rfl .nil) rfl) (XQ.ret1 hF noR rfl (RV.tmp rfl) (.cons rfl .nil) rfl)
  · replace h := cond_f hc1 h
    refine W.condF rfl hc1 ?_
    refine W.skip ?_
    refine W.seq ?_
    obtain ⟨v2, hv2, h⟩ := bind_e h
    refine W.reg (σ' := ⟨[(2, .ref 104)], [(104, .arr 85 (Enc.pr (Enc.int .i64) eBlk) v2)]⟩) (J.cons (.none rfl) (JO.litR (e := (Enc.pr (Enc.int .i64) eBlk)) 103 Try.runUnderlying47 Try.sizeOf85 Try.zeroValue85 rfl rfl rfl rfl .nil) rfl rfl (J.cons (.none rfl) (JO.move rfl) rfl rfl (J.mut (.none rfl) (JM.append 104 hv2 rfl rfl (.slN rfl) Try.runUnderlying47 Try.typeInfo85 Try.sizeOf85 rfl rfl rfl rfl rfl) (J.cons (.none rfl) (JO.assign rfl) rfl rfl (J.fin (Sw.Sub.mk id (.cons rfl (.of_eq rfl) .nil) (.arr rfl .nil) rfl)))))) ?_
    refine W.ret ?_
    obtain rfl := Option.some.inj h
    exact XQ.sub (σ' := ⟨[(2, .ref 0)], [(0, .arr 85 (Enc.pr (Enc.int .i64) eBlk) v2)]⟩) (Sw.Sub.mk (rn [(0, 104)]) (.cons rfl (.of_eq rfl) .nil) (.arr rfl .nil) rfl) (XQ.ret1 hF noR rfl (RV.tmp rfl) (.cons rfl .nil) rfl)
theorem con_slices_Clone_api_Put_api_Put {a0 : (List (Int × Blk))} {r : (List (Int × Blk))} (h : m_slices_Clone_api_Put_api_Put a0 = some r) :
    Con Try.prog 92 [.v (Enc.sl (Enc.pr (Enc.int .i64) eBlk)) a0] (.ref 0) [(0, .arr 85 (Enc.pr (Enc.int .i64) eBlk) r)] :=
  Con.nilCases fun b hb => con_slices_Clone_api_Put_api_Put_nil (by cases b with | true => rw [hb rfl] at h ⊢; exact h | false => exact clone_f h)
set_option maxRecDepth 100000 in
set_option maxHeartbeats 4000000 in
theorem con_disk_clone {a0 : ((List Blk) × (List (Int × Blk)) × Int)} {r : ((List Blk) × (List (Int × Blk)) × Int)} (h : m_disk_clone a0 = some r) :
    Con Try.prog 71 [.v (Enc.pr (Enc.sl eBlk) (Enc.pr (Enc.sl (Enc.pr (Enc.int .i64) eBlk)) (Enc.int .i64))) a0] (.agg [.ref 0, .ref 1, .v (Enc.int .i64) r.2.2]) [(0, .arr 24 eBlk r.1), (1, .arr 85 (Enc.pr (Enc.int .i64) eBlk) r.2.1)] := by
  refine Con.of Try.func71 rfl Try.ntmps71 rfl ?_
  intro S w hF
  unfold m_disk_clone at h
  refine W.seq ?_
  refine W.reg (σ' := ⟨[(1, .ptr 101 0), (2, .ptr 102 0)], [(101, .box 49 [.v (Enc.sl eBlk) a0.1, .v (Enc.sl (Enc.pr (Enc.int .i64) eBlk)) a0.2.1, .v (Enc.int .i64) a0.2.2]), (102, .box 49 [.v (Enc.sl eBlk) ([] : (List Blk)), .v (Enc.sl (Enc.pr (Enc.int .i64) eBlk)) ([] : (List (Int × Blk))), .v (Enc.int .i64) (0 : Int)])]⟩) (J.cons (.none rfl) (JO.box 101 rfl (.prm (.one _ _) (.prm (.one _ _) (.one _ _))) rfl) rfl rfl (J.cons (.none rfl) (JO.alloc 102 Try.zeroValue49 rfl (.cons (Z.sl eBlk) (.cons (Z.sl (Enc.pr (Enc.int .i64) eBlk)) (.cons (Z.int .i64) .nil))) rfl) rfl rfl (J.fin (Sw.Sub.mk id (.cons rfl (.of_eq rfl) (.cons rfl (.of_eq rfl) .nil)) (.box rfl (.cons (.of_eq rfl) (.cons (.of_eq rfl) (.cons (.of_eq rfl) .nil))) (.box rfl (.cons (.of_eq rfl) (.cons (.of_eq rfl) (.cons (.of_eq rfl) .nil))) .nil)) rfl)))) ?_
  refine W.seq ?_
  obtain ⟨v1, hv1, h⟩ := bind_e h
  obtain ⟨v2, hv2, h⟩ := bind_e h
  refine W.dr (σ' := ⟨[(1, .ptr 101 0), (2, .ptr 102 0)], [(101, .box 49 [.ref 103000, .ref 104000, .v (Enc.int .i64) a0.2.2]), (102, .box 49 [.v (Enc.sl eBlk) ([] : (List Blk)), .v (Enc.sl (Enc.pr (Enc.int .i64) eBlk)) ([] : (List (Int × Blk))), .v (Enc.int .i64) (0 : Int)]), (103000, .arr 24 eBlk v1), (104000, .arr 85 (Enc.pr (Enc.int .i64) eBlk) v2)]⟩) 7 mixed (by exact (.cons (.none rfl) (JO.fieldPtr 0 rfl Try.runUnderlying49 rfl Try.sizeOf22 rfl rfl) rfl rfl (.cons (.none rfl) (JO.load rfl rfl rfl Try.isAgg22 Try.sizeOf22) rfl rfl (.cons (.none rfl) (JO.call 103000 (con_slices_Clone_api_Block_api_Block hv1) Try.call82 (.cons (.dir rfl) .nil) rfl) rfl rfl (.cons (.none rfl) (JO.fieldPtr 1 rfl Try.runUnderlying49 rfl Try.sizeOf47 rfl rfl) rfl rfl (.cons (.none rfl) (JO.load rfl rfl rfl Try.isAgg47 Try.sizeOf47) rfl rfl (.cons (.none rfl) (JO.call 104000 (con_slices_Clone_api_Put_api_Put hv2) Try.call92 (.cons (.dir rfl) .nil) rfl) rfl rfl (.cons (.none rfl) (JO.fieldPtr 0 rfl Try.runUnderlying49 rfl Try.sizeOf22 rfl rfl) rfl rfl .nil)))))))) (by exact (J.mut (.none rfl) (JM.store rfl rfl rfl rfl rfl rfl rfl Try.sizeOf22) (J.cons (.none rfl) (JO.fieldPtr 1 rfl Try.runUnderlying49 rfl Try.sizeOf47 rfl rfl) rfl rfl (J.mut (.none rfl) (JM.store rfl rfl rfl rfl rfl rfl rfl Try.sizeOf47) (J.fin (Sw.Sub.mk id (.cons rfl (.of_eq rfl) (.cons rfl (.of_eq rfl) .nil)) (.box rfl (.cons (.of_eq rfl) (.cons (.of_eq rfl) (.cons (.of_eq rfl) .nil))) (.box rfl (.cons (.of_eq rfl) (.cons (.of_eq rfl) (.cons (.of_eq rfl) .nil))) (.arr rfl (.arr rfl .nil)))) rfl)))))) (by decide +kernel) (by decide +kernel) (by decide +kernel) ?_
  refine W.seq ?_
  refine W.reg (σ' := ⟨[(2, .ptr 102 0)], [(102, .box 49 [.ref 103000, .ref 104000, .v (Enc.int .i64) a0.2.2]), (103000, .arr 24 eBlk v1), (104000, .arr 85 (Enc.pr (Enc.int .i64) eBlk) v2)]⟩) (J.cons (.none rfl) (JO.loadAgg rfl rfl rfl Try.isAgg49 Try.sizeOf49) rfl rfl (J.mut (.none rfl) (JM.storeAgg rfl rfl rfl rfl rfl rfl Try.sizeOf49) (J.fin (Sw.Sub.mk id (.cons rfl (.of_eq rfl) .nil) (.box rfl (.cons (.of_eq rfl) (.cons (.of_eq rfl) (.cons (.of_eq rfl) .nil))) (.arr rfl (.arr rfl .nil))) rfl)))) ?_
  refine W.ret ?_
  obtain rfl := Option.some.inj h
  exact XQ.sub (σ' := ⟨[(2, .ptr 90 0)], [(90, .box 49 [.ref 0, .ref 1, .v (Enc.int .i64) a0.2.2]), (1, .arr 85 (Enc.pr (Enc.int .i64) eBlk) v2), (0, .arr 24 eBlk v1)]⟩) (Sw.Sub.mk (rn [(90, 102), (1, 104000), (0, 103000)]) (.cons rfl (.of_eq rfl) .nil) (.box rfl (.cons (.of_eq rfl) (.cons (.of_eq rfl) (.cons (.of_eq rfl) .nil))) (.arr rfl (.arr rfl .nil))) rfl) (XQ.ret1 hF noR rfl (RV.cellAgg rfl rfl rfl Try.isAgg49 Try.sizeOf49) (.cons rfl (.cons rfl .nil)) rfl)
set_option maxRecDepth 100000 in
set_option maxHeartbeats 4000000 in
theorem con_disk_Crash {a0 : ((List Blk) × (List (Int × Blk)) × Int)} {a1 : (List Int)} {r : ((List Blk) × (List (Int × Blk)) × Int) × (Option Int)} (h : m_disk_Crash a0 a1 = some r) :
    Con Try.prog 28 [.v (Enc.pr (Enc.sl eBlk) (Enc.pr (Enc.sl (Enc.pr (Enc.int .i64) eBlk)) (Enc.int .i64))) a0, .v (Enc.sl (Enc.int .i64)) a1] (.tup [.v (Enc.pr (Enc.sl eBlk) (Enc.pr (Enc.sl (Enc.pr (Enc.int .i64) eBlk)) (Enc.int .i64))) r.1, .v (Enc.err ET) r.2]) [] := by
  refine Con.of Try.func28 rfl Try.ntmps28 rfl ?_
  intro S w hF
  unfold m_disk_Crash at h
  refine W.seq ?_
  refine W.reg (σ' := ⟨[(1, .v (Enc.sl (Enc.int .i64)) a1), (2, .ptr 101 0), (4, .ptr 102 0)], [(101, .box 49 [.v (Enc.sl eBlk) a0.1, .v (Enc.sl (Enc.pr (Enc.int .i64) eBlk)) a0.2.1, .v (Enc.int .i64) a0.2.2]), (102, .box 49 [.v (Enc.sl eBlk) ([] : (List Blk)), .v (Enc.sl (Enc.pr (Enc.int .i64) eBlk)) ([] : (List (Int × Blk))), .v (Enc.int .i64) (0 : Int)])]⟩) (J.cons (.none rfl) (JO.box 101 rfl (.prm (.one _ _) (.prm (.one _ _) (.one _ _))) rfl) rfl rfl (J.cons (.none rfl) (JO.alloc 102 Try.zeroValue49 rfl (.cons (Z.sl eBlk) (.cons (Z.sl (Enc.pr (Enc.int .i64) eBlk)) (.cons (Z.int .i64) .nil))) rfl) rfl rfl (J.cons (.none rfl) (JO.assignNilE ET) rfl rfl (J.fin (Sw.Sub.mk id (.cons rfl (.of_eq rfl) (.cons rfl (.of_eq rfl) (.cons rfl (.of_eq rfl) .nil))) (.box rfl (.cons (.of_eq rfl) (.cons (.of_eq rfl) (.cons (.of_eq rfl) .nil))) (.box rfl (.cons (.of_eq rfl) (.cons (.of_eq rfl) (.cons (.of_eq rfl) .nil))) .nil)) rfl))))) ?_
  refine W.seq ?_
  refine W.seq ?_
  obtain ⟨v1, hv1, h⟩ := bind_e h
  refine W.reg (σ' := ⟨[(1, .v (Enc.sl (Enc.int .i64)) a1), (2, .ptr 101 0), (4, .ptr 102 0), (6, .v (Enc.err ET) v1)], [(101, .box 49 [.v (Enc.sl eBlk) a0.1, .v (Enc.sl (Enc.pr (Enc.int .i64) eBlk)) a0.2.1, .v (Enc.int .i64) a0.2.2]), (102, .box 49 [.v (Enc.sl eBlk) ([] : (List Blk)), .v (Enc.sl (Enc.pr (Enc.int .i64) eBlk)) ([] : (List (Int × Blk))), .v (Enc.int .i64) (0 : Int)])]⟩) (J.cons (.none rfl) (JO.loadAll rfl rfl (.prm (.one _ _) (.prm (.one _ _) (.one _ _))) Try.isAgg49 Try.sizeOf49) rfl rfl (J.cons (.none rfl) (JO.call0 (con_disk_Check hv1) Try.call60 (.cons (.dir rfl) .nil)) rfl rfl (J.cons (.none rfl) (JO.assign rfl) rfl rfl (J.fin (Sw.Sub.mk id (.cons rfl (.of_eq rfl) (.cons rfl (.of_eq rfl) (.cons rfl (.of_eq rfl) (.cons rfl (.of_eq rfl) .nil)))) (.box rfl (.cons (.of_eq rfl) (.cons (.of_eq rfl) (.cons (.of_eq rfl) .nil))) (.box rfl (.cons (.of_eq rfl) (.cons (.of_eq rfl) (.cons (.of_eq rfl) .nil))) .nil)) rfl))))) ?_
  refine W.seq ?_
  refine W.reg (σ' := ⟨[(1, .v (Enc.sl (Enc.int .i64)) a1), (2, .ptr 101 0), (4, .ptr 102 0), (6, .v (Enc.err ET) v1), (13, .v Enc.bool (Option.isSome v1))], [(101, .box 49 [.v (Enc.sl eBlk) a0.1, .v (Enc.sl (Enc.pr (Enc.int .i64) eBlk)) a0.2.1, .v (Enc.int .i64) a0.2.2]), (102, .box 49 [.v (Enc.sl eBlk) ([] : (List Blk)), .v (Enc.sl (Enc.pr (Enc.int .i64) eBlk)) ([] : (List (Int × Blk))), .v (Enc.int .i64) (0 : Int)])]⟩) (J.cons (.none rfl) (JO.move rfl) rfl rfl (J.cons (.none rfl) (JO.errNe Try.runUnderlying29 rfl) rfl rfl (J.fin (Sw.Sub.mk id (.cons rfl (.of_eq rfl) (.cons rfl (.of_eq rfl) (.cons rfl (.of_eq rfl) (.cons rfl (.of_eq rfl) (.cons rfl (.of_eq rfl) .nil))))) (.box rfl (.cons (.of_eq rfl) (.cons (.of_eq rfl) (.cons (.of_eq rfl) .nil))) (.box rfl (.cons (.of_eq rfl) (.cons (.of_eq rfl) (.cons (.of_eq rfl) .nil))) .nil)) rfl)))) ?_
  rcases Bool.eq_false_or_eq_true (Option.isSome v1) with hc2 | hc2
  · replace h := cond_t hc2 h
    refine W.condT rfl hc2 ?_
    refine W.seq ?_
    refine W.reg (σ' := ⟨[(4, .ptr 102 0), (5, .v (Enc.err ET) v1)], [(102, .box 49 [.v (Enc.sl eBlk) ([] : (List Blk)), .v (Enc.sl (Enc.pr (Enc.int .i64) eBlk)) ([] : (List (Int × Blk))), .v (Enc.int .i64) (0 : Int)])]⟩) (J.cons (.none rfl) (JO.build built49 (.cons (Z.sl eBlk) (.cons (Z.sl (Enc.pr (Enc.int .i64) eBlk)) (.cons (Z.int .i64) .nil))) .nil) rfl rfl (J.cons (.none rfl) (JO.move rfl) rfl rfl (J.mut (.none rfl) (JM.storeAgg rfl rfl rfl rfl rfl rfl Try.sizeOf49) (J.cons (.none rfl) (JO.assign rfl) rfl rfl (J.fin (Sw.Sub.mk id (.cons rfl (.of_eq rfl) (.cons rfl (.of_eq rfl) .nil)) (.box rfl (.cons (.of_eq rfl) (.cons (.of_eq rfl) (.cons (.of_eq rfl) .nil))) .nil) rfl)))))) ?_
    refine W.ret ?_
    obtain rfl := Option.some.inj h
    exact XQ.sub (σ' := ⟨[(4, .ptr 90 0), (5, .v (Enc.err ET) v1)], [(90, .box 49 [.v (Enc.sl eBlk) ([] : (List Blk)), .v (Enc.sl (Enc.pr (Enc.int .i64) eBlk)) ([] : (List (Int × Blk))), .v (Enc.int .i64) (0 : Int)])]⟩) (Sw.Sub.mk (rn [(90, 102)]) (.cons rfl (.of_eq rfl) (.cons rfl (.of_eq rfl) .nil)) (.box rfl (.cons (.of_eq rfl) (.cons (.of_eq rfl) (.cons (.of_eq rfl) .nil))) .nil) rfl) (XQ.ret2 hF noR rfl (RV.cellAll rfl rfl (.prm (.one _ _) (.prm (.one _ _) (.one _ _))) Try.isAgg49 Try.sizeOf49) (RV.tmp rfl) .nil rfl)
  · replace h := cond_f hc2 h
    refine W.condF rfl hc2 ?_
    refine W.skip ?_
    refine W.seq ?_
    obtain ⟨v3, hv3, h⟩ := bind_e h
    refine W.reg (σ' := ⟨[(1, .v (Enc.sl (Enc.int .i64)) a1), (2, .ptr 101 0), (4, .ptr 102 0)], [(101, .box 49 [.ref 104000, .ref 104001, .v (Enc.int .i64) v3.2.2]), (102, .box 49 [.v (Enc.sl eBlk) ([] : (List Blk)), .v (Enc.sl (Enc.pr (Enc.int .i64) eBlk)) ([] : (List (Int × Blk))), .v (Enc.int .i64) (0 : Int)]), (104000, .arr 24 eBlk v3.1), (104001, .arr 85 (Enc.pr (Enc.int .i64) eBlk) v3.2.1)]⟩) (J.cons (.none rfl) (JO.loadAll rfl rfl (.prm (.one _ _) (.prm (.one _ _) (.one _ _))) Try.isAgg49 Try.sizeOf49) rfl rfl (J.cons (.none rfl) (JO.call 104000 (con_disk_clone hv3) Try.call71 (.cons (.dir rfl) .nil) rfl) rfl rfl (J.mut (.none rfl) (JM.storeAgg rfl rfl rfl rfl rfl rfl Try.sizeOf49) (J.fin (Sw.Sub.mk id (.cons rfl (.of_eq rfl) (.cons rfl (.of_eq rfl) (.cons rfl (.of_eq rfl) .nil))) (.box rfl (.cons (.of_eq rfl) (.cons (.of_eq rfl) (.cons (.of_eq rfl) .nil))) (.box rfl (.cons (.of_eq rfl) (.cons (.of_eq rfl) (.cons (.of_eq rfl) .nil))) (.arr rfl (.arr rfl .nil)))) rfl))))) ?_
    refine W.seq ?_
    refine W.seq ?_
    refine W.reg (σ' := ⟨[(1, .v (Enc.sl (Enc.int .i64)) a1), (2, .ptr 101 0), (4, .ptr 102 0), (19, .ref 104001), (20, .v (Enc.int .i64) (v3.2.1.length : Int)), (21, .v (Enc.int .i64) (0 : Int))], [(101, .box 49 [.ref 104000, .ref 104001, .v (Enc.int .i64) v3.2.2]), (102, .box 49 [.v (Enc.sl eBlk) ([] : (List Blk)), .v (Enc.sl (Enc.pr (Enc.int .i64) eBlk)) ([] : (List (Int × Blk))), .v (Enc.int .i64) (0 : Int)]), (104001, .arr 85 (Enc.pr (Enc.int .i64) eBlk) v3.2.1), (104000, .arr 24 eBlk v3.1)]⟩) (J.cons (.none rfl) (JO.fieldPtr 1 rfl Try.runUnderlying49 rfl Try.sizeOf47 rfl rfl) rfl rfl (J.cons (.none rfl) (JO.load rfl rfl rfl Try.isAgg47 Try.sizeOf47) rfl rfl (J.cons (.none rfl) (JO.lenR rfl rfl Try.runUnderlying47) rfl rfl (J.cons (.none rfl) (JO.move rfl) rfl rfl (J.fin (Sw.Sub.mk id (.cons rfl (.of_eq rfl) (.cons rfl (.of_eq rfl) (.cons rfl (.of_eq rfl) (.cons rfl (.of_eq rfl) (.cons rfl (.of_eq rfl) (.cons rfl (.of_eq rfl) .nil)))))) (.box rfl (.cons (.of_eq rfl) (.cons (.of_eq rfl) (.cons (.of_eq rfl) .nil))) (.box rfl (.cons (.of_eq rfl) (.cons (.of_eq rfl) (.cons (.of_eq rfl) .nil))) (.arr rfl (.arr rfl .nil)))) rfl)))))) ?_
    obtain ⟨o43, ho43, hb43, hr43⟩ := lp_elim h
    refine W.lp (σs := fun s30 : Int × (List Blk) => ⟨[(1, .v (Enc.sl (Enc.int .i64)) a1), (2, .ptr 101 0), (4, .ptr 102 0), (19, .ref 104001), (20, .v (Enc.int .i64) (v3.2.1.length : Int)), (21, .v (Enc.int .i64) s30.1)], [(101, .box 49 [.ref 104000, .ref 104001, .v (Enc.int .i64) v3.2.2]), (102, .box 49 [.v (Enc.sl eBlk) ([] : (List Blk)), .v (Enc.sl (Enc.pr (Enc.int .i64) eBlk)) ([] : (List (Int × Blk))), .v (Enc.int .i64) (0 : Int)]), (104001, .arr 85 (Enc.pr (Enc.int .i64) eBlk) v3.2.1), (104000, .arr 24 eBlk s30.2)]⟩) (fun x44 : (List Blk) => ⟨[(2, .ptr 101 0), (4, .ptr 102 0)], [(101, .box 49 [.ref 104000, .ref 104001, .v (Enc.int .i64) v3.2.2]), (102, .box 49 [.v (Enc.sl eBlk) ([] : (List Blk)), .v (Enc.sl (Enc.pr (Enc.int .i64) eBlk)) ([] : (List (Int × Blk))), .v (Enc.int .i64) (0 : Int)]), (104000, .arr 24 eBlk x44), (104001, .arr 85 (Enc.pr (Enc.int .i64) eBlk) v3.2.1)]⟩) ho43 (Sw.Sub.mk id (.cons rfl (.of_eq rfl) (.cons rfl (.of_eq rfl) (.cons rfl (.of_eq rfl) (.cons rfl (.of_eq rfl) (.cons rfl (.of_eq rfl) (.cons rfl (.of_eq rfl) .nil)))))) (.box rfl (.cons (.of_eq rfl) (.cons (.of_eq rfl) (.cons (.of_eq rfl) .nil))) (.box rfl (.cons (.of_eq rfl) (.cons (.of_eq rfl) (.cons (.of_eq rfl) .nil))) (.arr rfl (.arr rfl .nil)))) rfl) ?_ ?_
    · intro x44 hy
      have h := hb43 _ hy
      refine W.seq ?_
      refine W.reg (σ' := ⟨[(2, .ptr 101 0), (4, .ptr 102 0)], [(101, .box 49 [.ref 104000, .v (Enc.sl (Enc.pr (Enc.int .i64) eBlk)) ([] : (List (Int × Blk))), .v (Enc.int .i64) (-1 : Int)]), (102, .box 49 [.v (Enc.sl eBlk) ([] : (List Blk)), .v (Enc.sl (Enc.pr (Enc.int .i64) eBlk)) ([] : (List (Int × Blk))), .v (Enc.int .i64) (0 : Int)]), (104000, .arr 24 eBlk x44)]⟩) (J.cons (.none rfl) (JO.fieldPtr 1 rfl Try.runUnderlying49 rfl Try.sizeOf47 rfl rfl) rfl rfl (J.mut (.none rfl) (JM.storeA rfl rfl rfl (.nilS (Enc.pr (Enc.int .i64) eBlk)) rfl rfl rfl Try.sizeOf47) (J.cons (.none rfl) (JO.fieldPtr 2 rfl Try.runUnderlying49 rfl Try.sizeOf3 rfl rfl) rfl rfl (J.mut (.none rfl) (JM.store rfl rfl rfl rfl rfl rfl rfl Try.sizeOf3) (J.fin (Sw.Sub.mk id (.cons rfl (.of_eq rfl) (.cons rfl (.of_eq rfl) .nil)) (.box rfl (.cons (.of_eq rfl) (.cons (.of_eq rfl) (.cons (.of_eq rfl) .nil))) (.box rfl (.cons (.of_eq rfl) (.cons (.of_eq rfl) (.cons (.of_eq rfl) .nil))) (.arr rfl .nil))) rfl)))))) ?_
      refine W.seq ?_
      refine W.reg (σ' := ⟨[(4, .ptr 102 0), (5, .v (Enc.err ET) (none : Option Int))], [(102, .box 49 [.ref 104000, .v (Enc.sl (Enc.pr (Enc.int .i64) eBlk)) ([] : (List (Int × Blk))), .v (Enc.int .i64) (-1 : Int)]), (104000, .arr 24 eBlk x44)]⟩) (J.cons (.none rfl) (JO.loadAgg rfl rfl rfl Try.isAgg49 Try.sizeOf49) rfl rfl (J.mut (.none rfl) (JM.storeAgg rfl rfl rfl rfl rfl rfl Try.sizeOf49) (J.cons (.none rfl) (JO.assignNilE ET) rfl rfl (J.fin (Sw.Sub.mk id (.cons rfl (.of_eq rfl) (.cons rfl (.of_eq rfl) .nil)) (.box rfl (.cons (.of_eq rfl) (.cons (.of_eq rfl) (.cons (.of_eq rfl) .nil))) (.arr rfl .nil)) rfl))))) ?_
      refine W.ret ?_
      obtain rfl := Option.some.inj h
      exact XQ.sub (σ' := ⟨[(4, .ptr 90 0), (5, .v (Enc.err ET) (none : Option Int))], [(90, .box 49 [.v (Enc.sl eBlk) x44, .v (Enc.sl (Enc.pr (Enc.int .i64) eBlk)) ([] : (List (Int × Blk))), .v (Enc.int .i64) (-1 : Int)])]⟩) (Sw.Sub.mk (rn [(90, 102)]) (.cons rfl (.of_eq rfl) (.cons rfl (.of_eq rfl) .nil)) (.box rfl (.cons (.frz rfl rfl) (.cons (.of_eq rfl) (.cons (.of_eq rfl) .nil))) .nil) rfl) (XQ.ret2 hF noR rfl (RV.cellAll rfl rfl (.prm (.one _ _) (.prm (.one _ _) (.one _ _))) Try.isAgg49 Try.sizeOf49) (RV.tmp rfl) .nil rfl)
    intro s30 r43 h
    refine W.seq ?_
    refine W.reg (σ' := ⟨[(1, .v (Enc.sl (Enc.int .i64)) a1), (2, .ptr 101 0), (4, .ptr 102 0), (19, .ref 104001), (20, .v (Enc.int .i64) (v3.2.1.length : Int)), (21, .v (Enc.int .i64) s30.1), (22, .v Enc.bool (cm .lss s30.1 (v3.2.1.length : Int)))], [(101, .box 49 [.ref 104000, .ref 104001, .v (Enc.int .i64) v3.2.2]), (102, .box 49 [.v (Enc.sl eBlk) ([] : (List Blk)), .v (Enc.sl (Enc.pr (Enc.int .i64) eBlk)) ([] : (List (Int × Blk))), .v (Enc.int .i64) (0 : Int)]), (104001, .arr 85 (Enc.pr (Enc.int .i64) eBlk) v3.2.1), (104000, .arr 24 eBlk s30.2)]⟩) (J.cons (.none rfl) (JO.cmp rfl rfl rfl) rfl rfl (J.fin (Sw.Sub.mk id (.cons rfl (.of_eq rfl) (.cons rfl (.of_eq rfl) (.cons rfl (.of_eq rfl) (.cons rfl (.of_eq rfl) (.cons rfl (.of_eq rfl) (.cons rfl (.of_eq rfl) (.cons rfl (.of_eq rfl) .nil))))))) (.box rfl (.cons (.of_eq rfl) (.cons (.of_eq rfl) (.cons (.of_eq rfl) .nil))) (.box rfl (.cons (.of_eq rfl) (.cons (.of_eq rfl) (.cons (.of_eq rfl) .nil))) (.arr rfl (.arr rfl .nil)))) rfl))) ?_
    refine W.seq ?_
    rcases Bool.eq_false_or_eq_true (cm .lss s30.1 (v3.2.1.length : Int)) with hc45 | hc45
    · replace h := cond_t hc45 h
      refine W.condT rfl hc45 ?_
      refine W.skip ?_
      refine W.seq ?_
      refine W.block ?_
      refine W.seq ?_
      obtain ⟨z46, hz46, h⟩ := bind_e h
      refine W.reg (σ' := ⟨[(1, .v (Enc.sl (Enc.int .i64)) a1), (2, .ptr 101 0), (4, .ptr 102 0), (7, .v (Enc.int .i64) s30.1), (8, .ptr 108 0), (19, .ref 104001), (20, .v (Enc.int .i64) (v3.2.1.length : Int)), (21, .v (Enc.int .i64) s30.1)], [(101, .box 49 [.ref 104000, .ref 104001, .v (Enc.int .i64) v3.2.2]), (102, .box 49 [.v (Enc.sl eBlk) ([] : (List Blk)), .v (Enc.sl (Enc.pr (Enc.int .i64) eBlk)) ([] : (List (Int × Blk))), .v (Enc.int .i64) (0 : Int)]), (108, .box 85 [.v (Enc.int .i64) z46.1, .v eBlk z46.2]), (104001, .arr 85 (Enc.pr (Enc.int .i64) eBlk) v3.2.1), (104000, .arr 24 eBlk s30.2)]⟩) (J.cons (.none rfl) (JO.move rfl) rfl rfl (J.cons (.none rfl) (JO.idxR hz46 rfl rfl rfl Try.runUnderlying47 Try.sizeOf85) rfl rfl (J.cons (.none rfl) (JO.loadEl (idx_some hz46).2.2 rfl rfl .here Try.isAgg85 Try.sizeOf85) rfl rfl (J.cons (.none rfl) (JO.alloc 108 Try.zeroValue85 rfl (.cons (Z.int .i64) (.cons (Z.arr 8 (Z.int .u8)) .nil)) rfl) rfl rfl (J.cons (.none rfl) (JO.assign rfl) rfl rfl (J.mut (.none rfl) (JM.storeAll rfl rfl rfl rfl (.prm (.one _ _) (.one _ _)) Try.sizeOf85) (J.fin (Sw.Sub.mk id (.cons rfl (.of_eq rfl) (.cons rfl (.of_eq rfl) (.cons rfl (.of_eq rfl) (.cons rfl (.of_eq rfl) (.cons rfl (.of_eq rfl) (.cons rfl (.of_eq rfl) (.cons rfl (.of_eq rfl) (.cons rfl (.of_eq rfl) .nil)))))))) (.box rfl (.cons (.of_eq rfl) (.cons (.of_eq rfl) (.cons (.of_eq rfl) .nil))) (.box rfl (.cons (.of_eq rfl) (.cons (.of_eq rfl) (.cons (.of_eq rfl) .nil))) (.box rfl (.cons (.of_eq rfl) (.cons (.of_eq rfl) .nil)) (.arr rfl (.arr rfl .nil))))) rfl)))))))) ?_
      refine W.seq ?_
      refine W.reg (σ' := ⟨[(1, .v (Enc.sl (Enc.int .i64)) a1), (2, .ptr 101 0), (4, .ptr 102 0), (7, .v (Enc.int .i64) s30.1), (8, .ptr 108 0), (9, .v (Enc.int .i64) (0 : Int)), (19, .ref 104001), (20, .v (Enc.int .i64) (v3.2.1.length : Int)), (21, .v (Enc.int .i64) s30.1)], [(101, .box 49 [.ref 104000, .ref 104001, .v (Enc.int .i64) v3.2.2]), (102, .box 49 [.v (Enc.sl eBlk) ([] : (List Blk)), .v (Enc.sl (Enc.pr (Enc.int .i64) eBlk)) ([] : (List (Int × Blk))), .v (Enc.int .i64) (0 : Int)]), (108, .box 85 [.v (Enc.int .i64) z46.1, .v eBlk z46.2]), (104001, .arr 85 (Enc.pr (Enc.int .i64) eBlk) v3.2.1), (104000, .arr 24 eBlk s30.2)]⟩) (J.cons (.none rfl) (JO.assign rfl) rfl rfl (J.fin (Sw.Sub.mk id (.cons rfl (.of_eq rfl) (.cons rfl (.of_eq rfl) (.cons rfl (.of_eq rfl) (.cons rfl (.of_eq rfl) (.cons rfl (.of_eq rfl) (.cons rfl (.of_eq rfl) (.cons rfl (.of_eq rfl) (.cons rfl (.of_eq rfl) (.cons rfl (.of_eq rfl) .nil))))))))) (.box rfl (.cons (.of_eq rfl) (.cons (.of_eq rfl) (.cons (.of_eq rfl) .nil))) (.box rfl (.cons (.of_eq rfl) (.cons (.of_eq rfl) (.cons (.of_eq rfl) .nil))) (.box rfl (.cons (.of_eq rfl) (.cons (.of_eq rfl) .nil)) (.arr rfl (.arr rfl .nil))))) rfl))) ?_
      refine W.seq ?_
      refine W.seq ?_
      refine W.reg (σ' := ⟨[(1, .v (Enc.sl (Enc.int .i64)) a1), (2, .ptr 101 0), (4, .ptr 102 0), (7, .v (Enc.int .i64) s30.1), (8, .ptr 108 0), (9, .v (Enc.int .i64) (0 : Int)), (19, .ref 104001), (20, .v (Enc.int .i64) (v3.2.1.length : Int)), (21, .v (Enc.int .i64) s30.1), (29, .v Enc.bool (cm .lss s30.1 (a1.length : Int)))], [(101, .box 49 [.ref 104000, .ref 104001, .v (Enc.int .i64) v3.2.2]), (102, .box 49 [.v (Enc.sl eBlk) ([] : (List Blk)), .v (Enc.sl (Enc.pr (Enc.int .i64) eBlk)) ([] : (List (Int × Blk))), .v (Enc.int .i64) (0 : Int)]), (108, .box 85 [.v (Enc.int .i64) z46.1, .v eBlk z46.2]), (104001, .arr 85 (Enc.pr (Enc.int .i64) eBlk) v3.2.1), (104000, .arr 24 eBlk s30.2)]⟩) (J.cons (.none rfl) (JO.move rfl) rfl rfl (J.cons (.none rfl) (JO.move rfl) rfl rfl (J.cons (.none rfl) (JO.len rfl Try.runUnderlying36) rfl rfl (J.cons (.none rfl) (JO.cmp rfl rfl rfl) rfl rfl (J.fin (Sw.Sub.mk id (.cons rfl (.of_eq rfl) (.cons rfl (.of_eq rfl) (.cons rfl (.of_eq rfl) (.cons rfl (.of_eq rfl) (.cons rfl (.of_eq rfl) (.cons rfl (.of_eq rfl) (.cons rfl (.of_eq rfl) (.cons rfl (.of_eq rfl) (.cons rfl (.of_eq rfl) (.cons rfl (.of_eq rfl) .nil)))))))))) (.box rfl (.cons (.of_eq rfl) (.cons (.of_eq rfl) (.cons (.of_eq rfl) .nil))) (.box rfl (.cons (.of_eq rfl) (.cons (.of_eq rfl) (.cons (.of_eq rfl) .nil))) (.box rfl (.cons (.of_eq rfl) (.cons (.of_eq rfl) .nil)) (.arr rfl (.arr rfl .nil))))) rfl)))))) ?_
      obtain ⟨k50, hk50, h⟩ := jp_elim h
      refine W.jn (fun x51 : Int => ⟨[(1, .v (Enc.sl (Enc.int .i64)) a1), (2, .ptr 101 0), (4, .ptr 102 0), (8, .ptr 108 0), (9, .v (Enc.int .i64) x51), (19, .ref 104001), (20, .v (Enc.int .i64) (v3.2.1.length : Int)), (21, .v (Enc.int .i64) s30.1)], [(101, .box 49 [.ref 104000, .ref 104001, .v (Enc.int .i64) v3.2.2]), (102, .box 49 [.v (Enc.sl eBlk) ([] : (List Blk)), .v (Enc.sl (Enc.pr (Enc.int .i64) eBlk)) ([] : (List (Int × Blk))), .v (Enc.int .i64) (0 : Int)]), (108, .box 85 [.v (Enc.int .i64) z46.1, .v eBlk z46.2]), (104001, .arr 85 (Enc.pr (Enc.int .i64) eBlk) v3.2.1), (104000, .arr 24 eBlk s30.2)]⟩) (fun x => k50 x = some r43) rfl ?_ ?_ ?_
      · intro x51 h
        rw [hk50] at h
        obtain ⟨z54, hz54, h⟩ := bind_e h
        obtain ⟨v55, hv55, h⟩ := bind_e h
        obtain ⟨v56, hv56, h⟩ := bind_e h
        refine W.dr (σ' := ⟨[(1, .v (Enc.sl (Enc.int .i64)) a1), (2, .ptr 101 0), (4, .ptr 102 0), (19, .ref 104001), (20, .v (Enc.int .i64) (v3.2.1.length : Int)), (21, .v (Enc.int .i64) s30.1)], [(101, .box 49 [.ref 104000, .ref 104001, .v (Enc.int .i64) v3.2.2]), (102, .box 49 [.v (Enc.sl eBlk) ([] : (List Blk)), .v (Enc.sl (Enc.pr (Enc.int .i64) eBlk)) ([] : (List (Int × Blk))), .v (Enc.int .i64) (0 : Int)]), (104001, .arr 85 (Enc.pr (Enc.int .i64) eBlk) v3.2.1), (104000, .arr 24 eBlk (List.set s30.2 (Int.toNat z46.1) (Sw.cpy (Int.toNat x51) (List.take (Int.toNat x51) z46.2) z54)))]⟩) 10 mixed (by exact (.cons (.none rfl) (JO.fieldPtr 0 rfl Try.runUnderlying49 rfl Try.sizeOf22 rfl rfl) rfl rfl (.cons (.none rfl) (JO.load rfl rfl rfl Try.isAgg22 Try.sizeOf22) rfl rfl (.cons (.none rfl) (JO.fieldPtr 0 rfl Try.runUnderlying85 rfl Try.sizeOf3 rfl rfl) rfl rfl (.cons (.none rfl) (JO.load rfl rfl rfl Try.isAgg3 Try.sizeOf3) rfl rfl (.cons (.none rfl) (JO.idxR hz54 rfl rfl rfl Try.runUnderlying22 Try.sizeOf24) rfl rfl (.cons (.none rfl) (JO.move rfl) rfl rfl (.cons (.none rfl) (JO.slElH hv55 rfl rfl rfl Try.runUnderlying24 Try.sizeOf5) rfl rfl (.cons (.none rfl) (JO.fieldPtr 1 rfl Try.runUnderlying85 rfl Try.sizeOf24 rfl rfl) rfl rfl (.cons (.none rfl) (JO.move rfl) rfl rfl (.cons (.none rfl) (JO.aslH hv56 rfl rfl rfl rfl Try.runUnderlying24 Try.sizeOf5) rfl rfl .nil))))))))))) (by exact (J.mut (.none rfl) (JM.copyEl (idx_some hz54).2.2 (Int.toNat_le.2 (upto_some hv55).2) rfl rfl (.aslH rfl rfl rfl rfl (Int.toNat_le.2 (upto_some hv56).2)) Try.runUnderlying40 Try.sizeOf5 (by rw [List.length_take]; exact Nat.le_trans (Nat.min_le_left _ _) (Int.toNat_le.2 (upto_some hv56).2)) rfl rfl) (J.fin (Sw.Sub.mk id (.cons rfl (.of_eq rfl) (.cons rfl (.of_eq rfl) (.cons rfl (.of_eq rfl) (.cons rfl (.of_eq rfl) (.cons rfl (.of_eq rfl) (.cons rfl (.of_eq rfl) .nil)))))) (.box rfl (.cons (.of_eq rfl) (.cons (.of_eq rfl) (.cons (.of_eq rfl) .nil))) (.box rfl (.cons (.of_eq rfl) (.cons (.of_eq rfl) (.cons (.of_eq rfl) .nil))) (.arr rfl (.arr rfl .nil)))) rfl)))) (by decide +kernel) (by decide +kernel) (by decide +kernel) ?_
        refine W.fall ?_
        refine W.reg (σ' := ⟨[(1, .v (Enc.sl (Enc.int .i64)) a1), (2, .ptr 101 0), (4, .ptr 102 0), (19, .ref 104001), (20, .v (Enc.int .i64) (v3.2.1.length : Int)), (21, .v (Enc.int .i64) (ar .add .i64 s30.1 (1 : Int)))], [(101, .box 49 [.ref 104000, .ref 104001, .v (Enc.int .i64) v3.2.2]), (102, .box 49 [.v (Enc.sl eBlk) ([] : (List Blk)), .v (Enc.sl (Enc.pr (Enc.int .i64) eBlk)) ([] : (List (Int × Blk))), .v (Enc.int .i64) (0 : Int)]), (104001, .arr 85 (Enc.pr (Enc.int .i64) eBlk) v3.2.1), (104000, .arr 24 eBlk (List.set s30.2 (Int.toNat z46.1) (Sw.cpy (Int.toNat x51) (List.take (Int.toNat x51) z46.2) z54)))]⟩) (J.cons (.none rfl) (JO.arith rfl rfl rfl) rfl rfl (J.cons (.none rfl) (JO.move rfl) rfl rfl (J.fin (Sw.Sub.mk id (.cons rfl (.of_eq rfl) (.cons rfl (.of_eq rfl) (.cons rfl (.of_eq rfl) (.cons rfl (.of_eq rfl) (.cons rfl (.of_eq rfl) (.cons rfl (.of_eq rfl) .nil)))))) (.box rfl (.cons (.of_eq rfl) (.cons (.of_eq rfl) (.cons (.of_eq rfl) .nil))) (.box rfl (.cons (.of_eq rfl) (.cons (.of_eq rfl) (.cons (.of_eq rfl) .nil))) (.arr rfl (.arr rfl .nil)))) rfl)))) ?_
        obtain rfl := Option.some.inj h
        exact W.next (Sw.Sub.mk id (.cons rfl (.of_eq rfl) (.cons rfl (.of_eq rfl) (.cons rfl (.of_eq rfl) (.cons rfl (.of_eq rfl) (.cons rfl (.of_eq rfl) (.cons rfl (.of_eq rfl) .nil)))))) (.box rfl (.cons (.of_eq rfl) (.cons (.of_eq rfl) (.cons (.of_eq rfl) .nil))) (.box rfl (.cons (.of_eq rfl) (.cons (.of_eq rfl) (.cons (.of_eq rfl) .nil))) (.arr rfl (.arr rfl .nil)))) rfl)
      · intro hc47
        replace h := cond_t hc47 h
        obtain ⟨z52, hz52, h⟩ := bind_e h
        obtain ⟨z53, hz53, h⟩ := bind_e h
        refine W.dr (σ' := ⟨[(1, .v (Enc.sl (Enc.int .i64)) a1), (2, .ptr 101 0), (4, .ptr 102 0), (8, .ptr 108 0), (9, .v (Enc.int .i64) (ar .rem .i64 (max z52 (IntKind.wrap .i64 (0 - (ar .add .i64 z53 (1 : Int))))) (9 : Int))), (19, .ref 104001), (20, .v (Enc.int .i64) (v3.2.1.length : Int)), (21, .v (Enc.int .i64) s30.1)], [(101, .box 49 [.ref 104000, .ref 104001, .v (Enc.int .i64) v3.2.2]), (102, .box 49 [.v (Enc.sl eBlk) ([] : (List Blk)), .v (Enc.sl (Enc.pr (Enc.int .i64) eBlk)) ([] : (List (Int × Blk))), .v (Enc.int .i64) (0 : Int)]), (108, .box 85 [.v (Enc.int .i64) z46.1, .v eBlk z46.2]), (104001, .arr 85 (Enc.pr (Enc.int .i64) eBlk) v3.2.1), (104000, .arr 24 eBlk s30.2)]⟩) 13 mixed (by exact (.cons (.none rfl) (JO.move rfl) rfl rfl (.cons (.none rfl) (JO.move rfl) rfl rfl (.cons (.none rfl) (JO.idx hz52 rfl rfl Try.runUnderlying36 Try.sizeOf3) rfl rfl (.cons (.none rfl) (JO.loadPst rfl Try.isAgg3 Try.sizeOf3) rfl rfl (.cons (.none rfl) (JO.move rfl) rfl rfl (.cons (.none rfl) (JO.move rfl) rfl rfl (.cons (.none rfl) (JO.idx hz53 rfl rfl Try.runUnderlying36 Try.sizeOf3) rfl rfl (.cons (.none rfl) (JO.loadPst rfl Try.isAgg3 Try.sizeOf3) rfl rfl (.cons (.none rfl) (JO.arith rfl rfl rfl) rfl rfl (.cons (.none rfl) (JO.neg rfl) rfl rfl (.cons (.none rfl) (JO.gmax rfl rfl) rfl rfl (.cons (.none rfl) (JO.div (.inr rfl) (by decide) rfl rfl) rfl rfl (.cons (.none rfl) (JO.assign rfl) rfl rfl .nil)))))))))))))) (by exact (J.fin (Sw.Sub.mk id (.cons rfl (.of_eq rfl) (.cons rfl (.of_eq rfl) (.cons rfl (.of_eq rfl) (.cons rfl (.of_eq rfl) (.cons rfl (.of_eq rfl) (.cons rfl (.of_eq rfl) (.cons rfl (.of_eq rfl) (.cons rfl (.of_eq rfl) .nil)))))))) (.box rfl (.cons (.of_eq rfl) (.cons (.of_eq rfl) (.cons (.of_eq rfl) .nil))) (.box rfl (.cons (.of_eq rfl) (.cons (.of_eq rfl) (.cons (.of_eq rfl) .nil))) (.box rfl (.cons (.of_eq rfl) (.cons (.of_eq rfl) .nil)) (.arr rfl (.arr rfl .nil))))) rfl))) (by decide +kernel) (by decide +kernel) (by decide +kernel) ?_
        exact W.jfall h (Sw.Sub.mk id (.cons rfl (.of_eq rfl) (.cons rfl (.of_eq rfl) (.cons rfl (.of_eq rfl) (.cons rfl (.of_eq rfl) (.cons rfl (.of_eq rfl) (.cons rfl (.of_eq rfl) (.cons rfl (.of_eq rfl) (.cons rfl (.of_eq rfl) .nil)))))))) (.box rfl (.cons (.of_eq rfl) (.cons (.of_eq rfl) (.cons (.of_eq rfl) .nil))) (.box rfl (.cons (.of_eq rfl) (.cons (.of_eq rfl) (.cons (.of_eq rfl) .nil))) (.box rfl (.cons (.of_eq rfl) (.cons (.of_eq rfl) .nil)) (.arr rfl (.arr rfl .nil))))) rfl)
      · intro hc47
        replace h := cond_f hc47 h
        refine W.skip ?_
        exact W.jfall h (Sw.Sub.mk id (.cons rfl (.of_eq rfl) (.cons rfl (.of_eq rfl) (.cons rfl (.of_eq rfl) (.cons rfl (.of_eq rfl) (.cons rfl (.of_eq rfl) (.cons rfl (.of_eq rfl) (.cons rfl (.of_eq rfl) (.cons rfl (.of_eq rfl) .nil)))))))) (.box rfl (.cons (.of_eq rfl) (.cons (.of_eq rfl) (.cons (.of_eq rfl) .nil))) (.box rfl (.cons (.of_eq rfl) (.cons (.of_eq rfl) (.cons (.of_eq rfl) .nil))) (.box rfl (.cons (.of_eq rfl) (.cons (.of_eq rfl) .nil)) (.arr rfl (.arr rfl .nil))))) rfl)
    · replace h := cond_f hc45 h
      refine W.condF rfl hc45 ?_
      refine W.exit ?_
      obtain rfl := Option.some.inj h
      exact XQ.brk (Sw.Sub.mk id (.cons rfl (.of_eq rfl) (.cons rfl (.of_eq rfl) .nil)) (.box rfl (.cons (.of_eq rfl) (.cons (.of_eq rfl) (.cons (.of_eq rfl) .nil))) (.box rfl (.cons (.of_eq rfl) (.cons (.of_eq rfl) (.cons (.of_eq rfl) .nil))) (.arr rfl (.arr rfl .nil)))) rfl)
set_option maxRecDepth 100000 in
set_option maxHeartbeats 4000000 in
theorem con_ref_Is {a0 : (Option Int)} {a1 : Int} {r : Bool} (h : m_ref_Is a0 a1 = some r) :
    Con Try.prog 18 [.v (Enc.err ET) a0, .v (Enc.int .i64) a1] (.v Enc.bool r) [] := by
  refine Con.of Try.func18 rfl Try.ntmps18 rfl ?_
  intro S w hF
  unfold m_ref_Is at h
  refine W.seq ?_
  refine W.reg (σ' := ⟨[(0, .v (Enc.err ET) a0), (1, .v (Enc.int .i64) a1)], []⟩) (J.cons (.none rfl) (JO.assign rfl) rfl rfl (J.fin (Sw.Sub.mk id (.cons rfl (.of_eq rfl) (.cons rfl (.of_eq rfl) .nil)) .nil rfl))) ?_
  refine W.seq ?_
  refine W.seq ?_
  refine W.reg (σ' := ⟨[(0, .v (Enc.err ET) a0), (1, .v (Enc.int .i64) a1), (6, .v Enc.bool (Option.isNone a0))], []⟩) (J.cons (.none rfl) (JO.move rfl) rfl rfl (J.cons (.none rfl) (JO.errEq Try.runUnderlying29 rfl) rfl rfl (J.fin (Sw.Sub.mk id (.cons rfl (.of_eq rfl) (.cons rfl (.of_eq rfl) (.cons rfl (.of_eq rfl) .nil))) .nil rfl)))) ?_
  rcases Bool.eq_false_or_eq_true (Option.isNone a0) with hc1 | hc1
  · replace h := cond_t hc1 h
    refine W.condT rfl hc1 ?_
    refine W.seq ?_
    refine W.reg (σ' := ⟨[(4, .v Enc.bool (cm .eql a1 (0 : Int)))], []⟩) (J.cons (.none rfl) (JO.move rfl) rfl rfl (J.cons (.none rfl) (JO.cmp rfl rfl rfl) rfl rfl (J.cons (.none rfl) (JO.assign rfl) rfl rfl (J.fin (Sw.Sub.mk id (.cons rfl (.of_eq rfl) .nil) .nil rfl))))) ?_
    refine W.ret ?_
    obtain rfl := Option.some.inj h
    exact XQ.sub (σ' := ⟨[(4, .v Enc.bool (cm .eql a1 (0 : Int)))], []⟩) (Sw.Sub.mk id (.cons rfl (.of_eq rfl) .nil) .nil rfl) (XQ.ret1 hF noR rfl (RV.tmp rfl) .nil rfl)
  · replace h := cond_f hc1 h
    refine W.condF rfl hc1 ?_
    refine W.skip ?_
    refine W.seq ?_
    obtain ⟨x3, hx, h⟩ := bind_e h
    refine W.reg (σ' := ⟨[(4, .v Enc.bool x3)], []⟩) ?_ ?_
    · rcases Bool.eq_false_or_eq_true (cm .neq a1 (0 : Int)) with hc4 | hc4
      · replace hx := cond_t hc4 hx
        obtain rfl := Option.some.inj hx
        exact (J.cons (.none rfl) (JO.move rfl) rfl rfl (J.cons (.none rfl) (JO.cmp rfl rfl rfl) rfl rfl (J.cons (.none rfl) (JO.move rfl) rfl rfl (J.cons (GK.met 11 rfl rfl rfl hc4) (JO.move rfl) rfl rfl (J.cons (GK.met 11 rfl rfl rfl hc4) (JO.move rfl) rfl rfl (J.cons (GK.met 11 rfl rfl rfl hc4) (JO.mkErr Try.runUnderlying25 rfl) rfl rfl (J.cons (GK.met 11 rfl rfl rfl hc4) (JO.errEq2 Try.runUnderlying29 Try.runUnderlying25 Try.typeInfo25 rfl rfl rfl) rfl rfl (J.cons (.none rfl) (JO.pT hc4 rfl rfl) rfl rfl (J.cons (.none rfl) (JO.assign rfl) rfl rfl (J.fin (Sw.Sub.mk id (.cons rfl (.of_eq rfl) .nil) .nil rfl)))))))))))
      · replace hx := cond_f hc4 hx
        obtain rfl := Option.some.inj hx
        exact (J.cons (.none rfl) (JO.move rfl) rfl rfl (J.cons (.none rfl) (JO.cmp rfl rfl rfl) rfl rfl (J.cons (.none rfl) (JO.move rfl) rfl rfl (J.left (GK.unmet 11 rfl rfl rfl hc4) rfl (J.left (GK.unmet 11 rfl rfl rfl hc4) rfl (J.left (GK.unmet 11 rfl rfl rfl hc4) rfl (J.left (GK.unmet 11 rfl rfl rfl hc4) rfl (J.cons (.none rfl) (JO.pF hc4 rfl rfl) rfl rfl (J.cons (.none rfl) (JO.assign rfl) rfl rfl (J.fin (Sw.Sub.mk id (.cons rfl (.of_eq rfl) .nil) .nil rfl)))))))))))
    refine W.ret ?_
    obtain rfl := Option.some.inj h
    exact XQ.sub (σ' := ⟨[(4, .v Enc.bool x3)], []⟩) (Sw.Sub.mk id (.cons rfl (.of_eq rfl) .nil) .nil rfl) (XQ.ret1 hF noR rfl (RV.tmp rfl) .nil rfl)
set_option maxRecDepth 100000 in
set_option maxHeartbeats 4000000 in
theorem con_ref_SameBlocks {a0 : (List Blk)} {a1 : (List Blk)} {r : Bool} (h : m_ref_SameBlocks a0 a1 = some r) :
    Con Try.prog 20 [.v (Enc.sl eBlk) a0, .v (Enc.sl eBlk) a1] (.v Enc.bool r) [] := by
  refine Con.of Try.func20 rfl Try.ntmps20 rfl ?_
  intro S w hF
  unfold m_ref_SameBlocks at h
  refine W.seq ?_
  refine W.reg (σ' := ⟨[(0, .v (Enc.sl eBlk) a0), (1, .v (Enc.sl eBlk) a1)], []⟩) (J.cons (.none rfl) (JO.assign rfl) rfl rfl (J.fin (Sw.Sub.mk id (.cons rfl (.of_eq rfl) (.cons rfl (.of_eq rfl) .nil)) .nil rfl))) ?_
  refine W.seq ?_
  refine W.seq ?_
  refine W.reg (σ' := ⟨[(0, .v (Enc.sl eBlk) a0), (1, .v (Enc.sl eBlk) a1), (10, .v Enc.bool (cm .neq (a0.length : Int) (a1.length : Int)))], []⟩) (J.cons (.none rfl) (JO.move rfl) rfl rfl (J.cons (.none rfl) (JO.len rfl Try.runUnderlying22) rfl rfl (J.cons (.none rfl) (JO.move rfl) rfl rfl (J.cons (.none rfl) (JO.len rfl Try.runUnderlying22) rfl rfl (J.cons (.none rfl) (JO.cmp rfl rfl rfl) rfl rfl (J.fin (Sw.Sub.mk id (.cons rfl (.of_eq rfl) (.cons rfl (.of_eq rfl) (.cons rfl (.of_eq rfl) .nil))) .nil rfl))))))) ?_
  rcases Bool.eq_false_or_eq_true (cm .neq (a0.length : Int) (a1.length : Int)) with hc1 | hc1
  · replace h := cond_t hc1 h
    refine W.condT rfl hc1 ?_
    refine W.seq ?_
    refine W.reg (σ' := ⟨[(4, .v Enc.bool false)], []⟩) (J.cons (.none rfl) (JO.assign rfl) rfl rfl (J.fin (Sw.Sub.mk id (.cons rfl (.of_eq rfl) .nil) .nil rfl))) ?_
    refine W.ret ?_
    obtain rfl := Option.some.inj h
    exact XQ.sub (σ' := ⟨[(4, .v Enc.bool false)], []⟩) (Sw.Sub.mk id (.cons rfl (.of_eq rfl) .nil) .nil rfl) (XQ.ret1 hF noR rfl (RV.tmp rfl) .nil rfl)
  · replace h := cond_f hc1 h
    refine W.condF rfl hc1 ?_
    refine W.skip ?_
    refine W.seq ?_
    refine W.seq ?_
    refine W.reg (σ' := ⟨[(0, .v (Enc.sl eBlk) a0), (1, .v (Enc.sl eBlk) a1), (5, .v (Enc.int .i64) (0 : Int))], []⟩) (J.cons (.none rfl) (JO.assign rfl) rfl rfl (J.fin (Sw.Sub.mk id (.cons rfl (.of_eq rfl) (.cons rfl (.of_eq rfl) (.cons rfl (.of_eq rfl) .nil))) .nil rfl))) ?_
    obtain ⟨o17, ho17, hb17, hr17⟩ := lp_elim h
    refine W.lp (σs := fun s12 : Int => ⟨[(0, .v (Enc.sl eBlk) a0), (1, .v (Enc.sl eBlk) a1), (5, .v (Enc.int .i64) s12)], []⟩) (fun x18 : Unit => ⟨[], []⟩) ho17 (Sw.Sub.mk id (.cons rfl (.of_eq rfl) (.cons rfl (.of_eq rfl) (.cons rfl (.of_eq rfl) .nil))) .nil rfl) ?_ ?_
    · intro x18 hy
      have h := hb17 _ hy
      refine W.seq ?_
      refine W.reg (σ' := ⟨[(4, .v Enc.bool true)], []⟩) (J.cons (.none rfl) (JO.assign rfl) rfl rfl (J.fin (Sw.Sub.mk id (.cons rfl (.of_eq rfl) .nil) .nil rfl))) ?_
      refine W.ret ?_
      obtain rfl := Option.some.inj h
      exact XQ.sub (σ' := ⟨[(4, .v Enc.bool true)], []⟩) (Sw.Sub.mk id (.cons rfl (.of_eq rfl) .nil) .nil rfl) (XQ.ret1 hF noR rfl (RV.tmp rfl) .nil rfl)
    intro s12 r17 h
    refine W.seq ?_
    refine W.seq ?_
    refine W.reg (σ' := ⟨[(0, .v (Enc.sl eBlk) a0), (1, .v (Enc.sl eBlk) a1), (5, .v (Enc.int .i64) s12), (14, .v Enc.bool (cm .lss s12 (a0.length : Int)))], []⟩) (J.cons (.none rfl) (JO.move rfl) rfl rfl (J.cons (.none rfl) (JO.move rfl) rfl rfl (J.cons (.none rfl) (JO.len rfl Try.runUnderlying22) rfl rfl (J.cons (.none rfl) (JO.cmp rfl rfl rfl) rfl rfl (J.fin (Sw.Sub.mk id (.cons rfl (.of_eq rfl) (.cons rfl (.of_eq rfl) (.cons rfl (.of_eq rfl) (.cons rfl (.of_eq rfl) .nil)))) .nil rfl)))))) ?_
    rcases Bool.eq_false_or_eq_true (cm .lss s12 (a0.length : Int)) with hc19 | hc19
    · replace h := cond_t hc19 h
      refine W.condT rfl hc19 ?_
      refine W.skip ?_
      refine W.seq ?_
      refine W.block ?_
      refine W.seq ?_
      obtain ⟨z20, hz20, h⟩ := bind_e h
      obtain ⟨z21, hz21, h⟩ := bind_e h
      refine W.dr (σ' := ⟨[(0, .v (Enc.sl eBlk) a0), (1, .v (Enc.sl eBlk) a1), (5, .v (Enc.int .i64) s12), (25, .v Enc.bool (!decide (z20 = z21)))], []⟩) 9 mixed (by exact (.cons (.none rfl) (JO.move rfl) rfl rfl (.cons (.none rfl) (JO.move rfl) rfl rfl (.cons (.none rfl) (JO.idx hz20 rfl rfl Try.runUnderlying22 Try.sizeOf24) rfl rfl (.cons (.none rfl) (JO.loadPst rfl Try.isAgg24 Try.sizeOf24) rfl rfl (.cons (.none rfl) (JO.move rfl) rfl rfl (.cons (.none rfl) (JO.move rfl) rfl rfl (.cons (.none rfl) (JO.idx hz21 rfl rfl Try.runUnderlying22 Try.sizeOf24) rfl rfl (.cons (.none rfl) (JO.loadPst rfl Try.isAgg24 Try.sizeOf24) rfl rfl (.cons (.none rfl) (JO.neV eq24 rfl rfl Try.eqGuardType24 rfl rfl) rfl rfl .nil)))))))))) (by exact (J.fin (Sw.Sub.mk id (.cons rfl (.of_eq rfl) (.cons rfl (.of_eq rfl) (.cons rfl (.of_eq rfl) (.cons rfl (.of_eq rfl) .nil)))) .nil rfl))) (by decide +kernel) (by decide +kernel) (by decide +kernel) ?_
      rcases Bool.eq_false_or_eq_true (!decide (z20 = z21)) with hc22 | hc22
      · replace h := cond_t hc22 h
        refine W.condT rfl hc22 ?_
        refine W.seq ?_
        refine W.reg (σ' := ⟨[(4, .v Enc.bool false)], []⟩) (J.cons (.none rfl) (JO.assign rfl) rfl rfl (J.fin (Sw.Sub.mk id (.cons rfl (.of_eq rfl) .nil) .nil rfl))) ?_
        refine W.ret ?_
        refine XQ.ret ?_
        obtain rfl := Option.some.inj h
        refine XQ.lret fun ho => ?_
        obtain rfl := hr17 _ ho
        exact XQ.sub (σ' := ⟨[(4, .v Enc.bool false)], []⟩) (Sw.Sub.mk id (.cons rfl (.of_eq rfl) .nil) .nil rfl) (XQ.ret1 hF noR rfl (RV.tmp rfl) .nil rfl)
      · replace h := cond_f hc22 h
        refine W.condF rfl hc22 ?_
        refine W.skip ?_
        refine W.fall ?_
        refine W.reg (σ' := ⟨[(0, .v (Enc.sl eBlk) a0), (1, .v (Enc.sl eBlk) a1), (5, .v (Enc.int .i64) (ar .add .i64 s12 (1 : Int)))], []⟩) (J.cons (.none rfl) (JO.move rfl) rfl rfl (J.cons (.none rfl) (JO.arith rfl rfl rfl) rfl rfl (J.cons (.none rfl) (JO.assign rfl) rfl rfl (J.fin (Sw.Sub.mk id (.cons rfl (.of_eq rfl) (.cons rfl (.of_eq rfl) (.cons rfl (.of_eq rfl) .nil))) .nil rfl))))) ?_
        obtain rfl := Option.some.inj h
        exact W.next (Sw.Sub.mk id (.cons rfl (.of_eq rfl) (.cons rfl (.of_eq rfl) (.cons rfl (.of_eq rfl) .nil))) .nil rfl)
    · replace h := cond_f hc19 h
      refine W.condF rfl hc19 ?_
      refine W.exit ?_
      obtain rfl := Option.some.inj h
      exact XQ.brk (Sw.Sub.mk id .nil .nil rfl)
set_option maxRecDepth 100000 in
set_option maxHeartbeats 4000000 in
theorem con_ref_SamePuts {a0 : (List (Int × Blk))} {a1 : (List (Int × Blk))} {r : Bool} (h : m_ref_SamePuts a0 a1 = some r) :
    Con Try.prog 46 [.v (Enc.sl (Enc.pr (Enc.int .i64) eBlk)) a0, .v (Enc.sl (Enc.pr (Enc.int .i64) eBlk)) a1] (.v Enc.bool r) [] := by
  refine Con.of Try.func46 rfl Try.ntmps46 rfl ?_
  intro S w hF
  unfold m_ref_SamePuts at h
  refine W.seq ?_
  refine W.reg (σ' := ⟨[(0, .v (Enc.sl (Enc.pr (Enc.int .i64) eBlk)) a0), (1, .v (Enc.sl (Enc.pr (Enc.int .i64) eBlk)) a1)], []⟩) (J.cons (.none rfl) (JO.assign rfl) rfl rfl (J.fin (Sw.Sub.mk id (.cons rfl (.of_eq rfl) (.cons rfl (.of_eq rfl) .nil)) .nil rfl))) ?_
  refine W.seq ?_
  refine W.seq ?_
  refine W.reg (σ' := ⟨[(0, .v (Enc.sl (Enc.pr (Enc.int .i64) eBlk)) a0), (1, .v (Enc.sl (Enc.pr (Enc.int .i64) eBlk)) a1), (10, .v Enc.bool (cm .neq (a0.length : Int) (a1.length : Int)))], []⟩) (J.cons (.none rfl) (JO.move rfl) rfl rfl (J.cons (.none rfl) (JO.len rfl Try.runUnderlying47) rfl rfl (J.cons (.none rfl) (JO.move rfl) rfl rfl (J.cons (.none rfl) (JO.len rfl Try.runUnderlying47) rfl rfl (J.cons (.none rfl) (JO.cmp rfl rfl rfl) rfl rfl (J.fin (Sw.Sub.mk id (.cons rfl (.of_eq rfl) (.cons rfl (.of_eq rfl) (.cons rfl (.of_eq rfl) .nil))) .nil rfl))))))) ?_
  rcases Bool.eq_false_or_eq_true (cm .neq (a0.length : Int) (a1.length : Int)) with hc1 | hc1
  · replace h := cond_t hc1 h
    refine W.condT rfl hc1 ?_
    refine W.seq ?_
    refine W.reg (σ' := ⟨[(4, .v Enc.bool false)], []⟩) (J.cons (.none rfl) (JO.assign rfl) rfl rfl (J.fin (Sw.Sub.mk id (.cons rfl (.of_eq rfl) .nil) .nil rfl))) ?_
    refine W.ret ?_
    obtain rfl := Option.some.inj h
    exact XQ.sub (σ' := ⟨[(4, .v Enc.bool false)], []⟩) (Sw.Sub.mk id (.cons rfl (.of_eq rfl) .nil) .nil rfl) (XQ.ret1 hF noR rfl (RV.tmp rfl) .nil rfl)
  · replace h := cond_f hc1 h
    refine W.condF rfl hc1 ?_
    refine W.skip ?_
    refine W.seq ?_
    refine W.seq ?_
    refine W.reg (σ' := ⟨[(0, .v (Enc.sl (Enc.pr (Enc.int .i64) eBlk)) a0), (1, .v (Enc.sl (Enc.pr (Enc.int .i64) eBlk)) a1), (5, .v (Enc.int .i64) (0 : Int))], []⟩) (J.cons (.none rfl) (JO.assign rfl) rfl rfl (J.fin (Sw.Sub.mk id (.cons rfl (.of_eq rfl) (.cons rfl (.of_eq rfl) (.cons rfl (.of_eq rfl) .nil))) .nil rfl))) ?_
    obtain ⟨o17, ho17, hb17, hr17⟩ := lp_elim h
    refine W.lp (σs := fun s12 : Int => ⟨[(0, .v (Enc.sl (Enc.pr (Enc.int .i64) eBlk)) a0), (1, .v (Enc.sl (Enc.pr (Enc.int .i64) eBlk)) a1), (5, .v (Enc.int .i64) s12)], []⟩) (fun x18 : Unit => ⟨[], []⟩) ho17 (Sw.Sub.mk id (.cons rfl (.of_eq rfl) (.cons rfl (.of_eq rfl) (.cons rfl (.of_eq rfl) .nil))) .nil rfl) ?_ ?_
    · intro x18 hy
      have h := hb17 _ hy
      refine W.seq ?_
      refine W.reg (σ' := ⟨[(4, .v Enc.bool true)], []⟩) (J.cons (.none rfl) (JO.assign rfl) rfl rfl (J.fin (Sw.Sub.mk id (.cons rfl (.of_eq rfl) .nil) .nil rfl))) ?_
      refine W.ret ?_
      obtain rfl := Option.some.inj h
      exact XQ.sub (σ' := ⟨[(4, .v Enc.bool true)], []⟩) (Sw.Sub.mk id (.cons rfl (.of_eq rfl) .nil) .nil rfl) (XQ.ret1 hF noR rfl (RV.tmp rfl) .nil rfl)
    intro s12 r17 h
    refine W.seq ?_
    refine W.seq ?_
    refine W.reg (σ' := ⟨[(0, .v (Enc.sl (Enc.pr (Enc.int .i64) eBlk)) a0), (1, .v (Enc.sl (Enc.pr (Enc.int .i64) eBlk)) a1), (5, .v (Enc.int .i64) s12), (14, .v Enc.bool (cm .lss s12 (a0.length : Int)))], []⟩) (J.cons (.none rfl) (JO.move rfl) rfl rfl (J.cons (.none rfl) (JO.move rfl) rfl rfl (J.cons (.none rfl) (JO.len rfl Try.runUnderlying47) rfl rfl (J.cons (.none rfl) (JO.cmp rfl rfl rfl) rfl rfl (J.fin (Sw.Sub.mk id (.cons rfl (.of_eq rfl) (.cons rfl (.of_eq rfl) (.cons rfl (.of_eq rfl) (.cons rfl (.of_eq rfl) .nil)))) .nil rfl)))))) ?_
    rcases Bool.eq_false_or_eq_true (cm .lss s12 (a0.length : Int)) with hc19 | hc19
    · replace h := cond_t hc19 h
      refine W.condT rfl hc19 ?_
      refine W.skip ?_
      refine W.seq ?_
      refine W.block ?_
      refine W.seq ?_
      obtain ⟨z20, hz20, h⟩ := bind_e h
      obtain ⟨z21, hz21, h⟩ := bind_e h
      refine W.dr (σ' := ⟨[(0, .v (Enc.sl (Enc.pr (Enc.int .i64) eBlk)) a0), (1, .v (Enc.sl (Enc.pr (Enc.int .i64) eBlk)) a1), (5, .v (Enc.int .i64) s12), (25, .v Enc.bool (!decide (z20 = z21)))], []⟩) 9 mixed (by exact (.cons (.none rfl) (JO.move rfl) rfl rfl (.cons (.none rfl) (JO.move rfl) rfl rfl (.cons (.none rfl) (JO.idx hz20 rfl rfl Try.runUnderlying47 Try.sizeOf85) rfl rfl (.cons (.none rfl) (JO.loadPst rfl Try.isAgg85 Try.sizeOf85) rfl rfl (.cons (.none rfl) (JO.move rfl) rfl rfl (.cons (.none rfl) (JO.move rfl) rfl rfl (.cons (.none rfl) (JO.idx hz21 rfl rfl Try.runUnderlying47 Try.sizeOf85) rfl rfl (.cons (.none rfl) (JO.loadPst rfl Try.isAgg85 Try.sizeOf85) rfl rfl (.cons (.none rfl) (JO.neV eq85 rfl rfl Try.eqGuardType85 rfl rfl) rfl rfl .nil)))))))))) (by exact (J.fin (Sw.Sub.mk id (.cons rfl (.of_eq rfl) (.cons rfl (.of_eq rfl) (.cons rfl (.of_eq rfl) (.cons rfl (.of_eq rfl) .nil)))) .nil rfl))) (by decide +kernel) (by decide +kernel) (by decide +kernel) ?_
      rcases Bool.eq_false_or_eq_true (!decide (z20 = z21)) with hc22 | hc22
      · replace h := cond_t hc22 h
        refine W.condT rfl hc22 ?_
        refine W.seq ?_
        refine W.reg (σ' := ⟨[(4, .v Enc.bool false)], []⟩) (J.cons (.none rfl) (JO.assign rfl) rfl rfl (J.fin (Sw.Sub.mk id (.cons rfl (.of_eq rfl) .nil) .nil rfl))) ?_
        refine W.ret ?_
        refine XQ.ret ?_
        obtain rfl := Option.some.inj h
        refine XQ.lret fun ho => ?_
        obtain rfl := hr17 _ ho
        exact XQ.sub (σ' := ⟨[(4, .v Enc.bool false)], []⟩) (Sw.Sub.mk id (.cons rfl (.of_eq rfl) .nil) .nil rfl) (XQ.ret1 hF noR rfl (RV.tmp rfl) .nil rfl)
      · replace h := cond_f hc22 h
        refine W.condF rfl hc22 ?_
        refine W.skip ?_
        refine W.fall ?_
        refine W.reg (σ' := ⟨[(0, .v (Enc.sl (Enc.pr (Enc.int .i64) eBlk)) a0), (1, .v (Enc.sl (Enc.pr (Enc.int .i64) eBlk)) a1), (5, .v (Enc.int .i64) (ar .add .i64 s12 (1 : Int)))], []⟩) (J.cons (.none rfl) (JO.move rfl) rfl rfl (J.cons (.none rfl) (JO.arith rfl rfl rfl) rfl rfl (J.cons (.none rfl) (JO.assign rfl) rfl rfl (J.fin (Sw.Sub.mk id (.cons rfl (.of_eq rfl) (.cons rfl (.of_eq rfl) (.cons rfl (.of_eq rfl) .nil))) .nil rfl))))) ?_
        obtain rfl := Option.some.inj h
        exact W.next (Sw.Sub.mk id (.cons rfl (.of_eq rfl) (.cons rfl (.of_eq rfl) (.cons rfl (.of_eq rfl) .nil))) .nil rfl)
    · replace h := cond_f hc19 h
      refine W.condF rfl hc19 ?_
      refine W.exit ?_
      obtain rfl := Option.some.inj h
      exact XQ.brk (Sw.Sub.mk id .nil .nil rfl)
set_option maxRecDepth 100000 in
set_option maxHeartbeats 4000000 in
theorem con_ref_SameDisk {a0 : ((List Blk) × (List (Int × Blk)) × Int)} {a1 : ((List Blk) × (List (Int × Blk)) × Int)} {r : Bool} (h : m_ref_SameDisk a0 a1 = some r) :
    Con Try.prog 29 [.v (Enc.pr (Enc.sl eBlk) (Enc.pr (Enc.sl (Enc.pr (Enc.int .i64) eBlk)) (Enc.int .i64))) a0, .v (Enc.pr (Enc.sl eBlk) (Enc.pr (Enc.sl (Enc.pr (Enc.int .i64) eBlk)) (Enc.int .i64))) a1] (.v Enc.bool r) [] := by
  refine Con.of Try.func29 rfl Try.ntmps29 rfl ?_
  intro S w hF
  unfold m_ref_SameDisk at h
  refine W.seq ?_
  refine W.reg (σ' := ⟨[(2, .ptr 101 0), (3, .ptr 102 0)], [(101, .box 49 [.v (Enc.sl eBlk) a0.1, .v (Enc.sl (Enc.pr (Enc.int .i64) eBlk)) a0.2.1, .v (Enc.int .i64) a0.2.2]), (102, .box 49 [.v (Enc.sl eBlk) a1.1, .v (Enc.sl (Enc.pr (Enc.int .i64) eBlk)) a1.2.1, .v (Enc.int .i64) a1.2.2])]⟩) (J.cons (.none rfl) (JO.box 101 rfl (.prm (.one _ _) (.prm (.one _ _) (.one _ _))) rfl) rfl rfl (J.cons (.none rfl) (JO.box 102 rfl (.prm (.one _ _) (.prm (.one _ _) (.one _ _))) rfl) rfl rfl (J.cons (.none rfl) (JO.assign rfl) rfl rfl (J.fin (Sw.Sub.mk id (.cons rfl (.of_eq rfl) (.cons rfl (.of_eq rfl) .nil)) (.box rfl (.cons (.of_eq rfl) (.cons (.of_eq rfl) (.cons (.of_eq rfl) .nil))) (.box rfl (.cons (.of_eq rfl) (.cons (.of_eq rfl) (.cons (.of_eq rfl) .nil))) .nil)) rfl))))) ?_
  refine W.seq ?_
  obtain ⟨x5, hx, h⟩ := bind_e h
  refine W.reg (σ' := ⟨[(4, .v Enc.bool x5)], []⟩) ?_ ?_
  · rcases Bool.eq_false_or_eq_true (cm .eql a0.2.2 a1.2.2) with hc6 | hc6
    · replace hx := cond_t hc6 hx
      obtain ⟨v7, hv7, hx⟩ := bind_e hx
      rcases Bool.eq_false_or_eq_true v7 with hc8 | hc8
      · replace hx := cond_t hc8 hx
        obtain ⟨v9, hv9, hx⟩ := bind_e hx
        obtain rfl := Option.some.inj hx
        exact (J.cons (.none rfl) (JO.fieldPtr 2 rfl Try.runUnderlying49 rfl Try.sizeOf3 rfl rfl) rfl rfl (J.cons (.none rfl) (JO.load rfl rfl rfl Try.isAgg3 Try.sizeOf3) rfl rfl (J.cons (.none rfl) (JO.fieldPtr 2 rfl Try.runUnderlying49 rfl Try.sizeOf3 rfl rfl) rfl rfl (J.cons (.none rfl) (JO.load rfl rfl rfl Try.isAgg3 Try.sizeOf3) rfl rfl (J.cons (.none rfl) (JO.cmp rfl rfl rfl) rfl rfl (J.cons (.none rfl) (JO.move rfl) rfl rfl (J.cons (GK.met 10 rfl rfl rfl hc6) (JO.fieldPtr 0 rfl Try.runUnderlying49 rfl Try.sizeOf22 rfl rfl) rfl rfl (J.cons (GK.met 10 rfl rfl rfl hc6) (JO.load rfl rfl rfl Try.isAgg22 Try.sizeOf22) rfl rfl (J.cons (GK.met 10 rfl rfl rfl hc6) (JO.fieldPtr 0 rfl Try.runUnderlying49 rfl Try.sizeOf22 rfl rfl) rfl rfl (J.cons (GK.met 10 rfl rfl rfl hc6) (JO.load rfl rfl rfl Try.isAgg22 Try.sizeOf22) rfl rfl (J.cons (GK.met 10 rfl rfl rfl hc6) (JO.call0 (con_ref_SameBlocks hv7) Try.call20 (.cons (.dir rfl) (.cons (.dir rfl) .nil))) rfl rfl (J.cons (.none rfl) (JO.pT hc6 rfl rfl) rfl rfl (J.cons (.none rfl) (JO.move rfl) rfl rfl (J.cons (GK.met 17 rfl rfl rfl hc8) (JO.fieldPtr 1 rfl Try.runUnderlying49 rfl Try.sizeOf47 rfl rfl) rfl rfl (J.cons (GK.met 17 rfl rfl rfl hc8) (JO.load rfl rfl rfl Try.isAgg47 Try.sizeOf47) rfl rfl (J.cons (GK.met 17 rfl rfl rfl hc8) (JO.fieldPtr 1 rfl Try.runUnderlying49 rfl Try.sizeOf47 rfl rfl) rfl rfl (J.cons (GK.met 17 rfl rfl rfl hc8) (JO.load rfl rfl rfl Try.isAgg47 Try.sizeOf47) rfl rfl (J.cons (GK.met 17 rfl rfl rfl hc8) (JO.call0 (con_ref_SamePuts hv9) Try.call46 (.cons (.dir rfl) (.cons (.dir rfl) .nil))) rfl rfl (J.cons (.none rfl) (JO.pT hc8 rfl rfl) rfl rfl (J.cons (.none rfl) (JO.assign rfl) rfl rfl (J.fin (Sw.Sub.mk id (.cons rfl (.of_eq rfl) .nil) .nil rfl))))))))))))))))))))))
      · replace hx := cond_f hc8 hx
        obtain rfl := Option.some.inj hx
        exact (J.cons (.none rfl) (JO.fieldPtr 2 rfl Try.runUnderlying49 rfl Try.sizeOf3 rfl rfl) rfl rfl (J.cons (.none rfl) (JO.load rfl rfl rfl Try.isAgg3 Try.sizeOf3) rfl rfl (J.cons (.none rfl) (JO.fieldPtr 2 rfl Try.runUnderlying49 rfl Try.sizeOf3 rfl rfl) rfl rfl (J.cons (.none rfl) (JO.load rfl rfl rfl Try.isAgg3 Try.sizeOf3) rfl rfl (J.cons (.none rfl) (JO.cmp rfl rfl rfl) rfl rfl (J.cons (.none rfl) (JO.move rfl) rfl rfl (J.cons (GK.met 10 rfl rfl rfl hc6) (JO.fieldPtr 0 rfl Try.runUnderlying49 rfl Try.sizeOf22 rfl rfl) rfl rfl (J.cons (GK.met 10 rfl rfl rfl hc6) (JO.load rfl rfl rfl Try.isAgg22 Try.sizeOf22) rfl rfl (J.cons (GK.met 10 rfl rfl rfl hc6) (JO.fieldPtr 0 rfl Try.runUnderlying49 rfl Try.sizeOf22 rfl rfl) rfl rfl (J.cons (GK.met 10 rfl rfl rfl hc6) (JO.load rfl rfl rfl Try.isAgg22 Try.sizeOf22) rfl rfl (J.cons (GK.met 10 rfl rfl rfl hc6) (JO.call0 (con_ref_SameBlocks hv7) Try.call20 (.cons (.dir rfl) (.cons (.dir rfl) .nil))) rfl rfl (J.cons (.none rfl) (JO.pT hc6 rfl rfl) rfl rfl (J.cons (.none rfl) (JO.move rfl) rfl rfl (J.left (GK.unmet 17 rfl rfl rfl hc8) rfl (J.left (GK.unmet 17 rfl rfl rfl hc8) rfl (J.left (GK.unmet 17 rfl rfl rfl hc8) rfl (J.left (GK.unmet 17 rfl rfl rfl hc8) rfl (J.left (GK.unmet 17 rfl rfl rfl hc8) rfl (J.cons (.none rfl) (JO.pF hc8 rfl rfl) rfl rfl (J.cons (.none rfl) (JO.assign rfl) rfl rfl (J.fin (Sw.Sub.mk id (.cons rfl (.of_eq rfl) .nil) .nil rfl))))))))))))))))))))))
    · replace hx := cond_f hc6 hx
      obtain rfl := Option.some.inj hx
      exact (J.cons (.none rfl) (JO.fieldPtr 2 rfl Try.runUnderlying49 rfl Try.sizeOf3 rfl rfl) rfl rfl (J.cons (.none rfl) (JO.load rfl rfl rfl Try.isAgg3 Try.sizeOf3) rfl rfl (J.cons (.none rfl) (JO.fieldPtr 2 rfl Try.runUnderlying49 rfl Try.sizeOf3 rfl rfl) rfl rfl (J.cons (.none rfl) (JO.load rfl rfl rfl Try.isAgg3 Try.sizeOf3) rfl rfl (J.cons (.none rfl) (JO.cmp rfl rfl rfl) rfl rfl (J.cons (.none rfl) (JO.move rfl) rfl rfl (J.left (GK.unmet 10 rfl rfl rfl hc6) rfl (J.left (GK.unmet 10 rfl rfl rfl hc6) rfl (J.left (GK.unmet 10 rfl rfl rfl hc6) rfl (J.left (GK.unmet 10 rfl rfl rfl hc6) rfl (J.left (GK.unmet 10 rfl rfl rfl hc6) rfl (J.cons (.none rfl) (JO.pF hc6 rfl rfl) rfl rfl (J.cons (.none rfl) (JO.move rfl) rfl rfl (J.left (GK.unmet 17 rfl rfl rfl rfl) rfl (J.left (GK.unmet 17 rfl rfl rfl rfl) rfl (J.left (GK.unmet 17 rfl rfl rfl rfl) rfl (J.left (GK.unmet 17 rfl rfl rfl rfl) rfl (J.left (GK.unmet 17 rfl rfl rfl rfl) rfl (J.cons (.none rfl) (JO.pF rfl rfl rfl) rfl rfl (J.cons (.none rfl) (JO.assign rfl) rfl rfl (J.fin (Sw.Sub.mk id (.cons rfl (.of_eq rfl) .nil) .nil rfl))))))))))))))))))))))
  refine W.ret ?_
  obtain rfl := Option.some.inj h
  exact XQ.sub (σ' := ⟨[(4, .v Enc.bool x5)], []⟩) (Sw.Sub.mk id (.cons rfl (.of_eq rfl) .nil) .nil rfl) (XQ.ret1 hF noR rfl (RV.tmp rfl) .nil rfl)
set_option maxRecDepth 100000 in
set_option maxHeartbeats 4000000 in
theorem con_disk_New {a0 : Int} {r : ((List Blk) × (List (Int × Blk)) × Int) × (Option Int)} (h : m_disk_New a0 = some r) :
    Con Try.prog 30 [.v (Enc.int .i64) a0] (.tup [.v (Enc.pr (Enc.sl eBlk) (Enc.pr (Enc.sl (Enc.pr (Enc.int .i64) eBlk)) (Enc.int .i64))) r.1, .v (Enc.err ET) r.2]) [] := by
  refine Con.of Try.func30 rfl Try.ntmps30 rfl ?_
  intro S w hF
  unfold m_disk_New at h
  refine W.seq ?_
  refine W.reg (σ' := ⟨[(0, .v (Enc.int .i64) a0), (2, .ptr 101 0)], [(101, .box 49 [.v (Enc.sl eBlk) ([] : (List Blk)), .v (Enc.sl (Enc.pr (Enc.int .i64) eBlk)) ([] : (List (Int × Blk))), .v (Enc.int .i64) (0 : Int)])]⟩) (J.cons (.none rfl) (JO.alloc 101 Try.zeroValue49 rfl (.cons (Z.sl eBlk) (.cons (Z.sl (Enc.pr (Enc.int .i64) eBlk)) (.cons (Z.int .i64) .nil))) rfl) rfl rfl (J.cons (.none rfl) (JO.assignNilE ET) rfl rfl (J.fin (Sw.Sub.mk id (.cons rfl (.of_eq rfl) (.cons rfl (.of_eq rfl) .nil)) (.box rfl (.cons (.of_eq rfl) (.cons (.of_eq rfl) (.cons (.of_eq rfl) .nil))) .nil) rfl)))) ?_
  refine W.seq ?_
  refine W.seq ?_
  obtain ⟨x2, hx, h⟩ := bind_e h
  refine W.reg (σ' := ⟨[(0, .v (Enc.int .i64) a0), (2, .ptr 101 0), (9, .v Enc.bool x2)], [(101, .box 49 [.v (Enc.sl eBlk) ([] : (List Blk)), .v (Enc.sl (Enc.pr (Enc.int .i64) eBlk)) ([] : (List (Int × Blk))), .v (Enc.int .i64) (0 : Int)])]⟩) ?_ ?_
  · rcases Bool.eq_false_or_eq_true (cm .lss a0 (1 : Int)) with hc3 | hc3
    · replace hx := cond_t hc3 hx
      obtain rfl := Option.some.inj hx
      exact (J.cons (.none rfl) (JO.move rfl) rfl rfl (J.cons (.none rfl) (JO.cmp rfl rfl rfl) rfl rfl (J.cons (.none rfl) (JO.move rfl) rfl rfl (J.left (GK.unmet 6 rfl rfl rfl hc3) rfl (J.left (GK.unmet 6 rfl rfl rfl hc3) rfl (J.cons (.none rfl) (JO.pT hc3 rfl rfl) rfl rfl (J.fin (Sw.Sub.mk id (.cons rfl (.of_eq rfl) (.cons rfl (.of_eq rfl) (.cons rfl (.of_eq rfl) .nil))) (.box rfl (.cons (.of_eq rfl) (.cons (.of_eq rfl) (.cons (.of_eq rfl) .nil))) .nil) rfl))))))))
    · replace hx := cond_f hc3 hx
      obtain rfl := Option.some.inj hx
      exact (J.cons (.none rfl) (JO.move rfl) rfl rfl (J.cons (.none rfl) (JO.cmp rfl rfl rfl) rfl rfl (J.cons (.none rfl) (JO.move rfl) rfl rfl (J.cons (GK.met 6 rfl rfl rfl hc3) (JO.move rfl) rfl rfl (J.cons (GK.met 6 rfl rfl rfl hc3) (JO.cmp rfl rfl rfl) rfl rfl (J.cons (.none rfl) (JO.pF hc3 rfl rfl) rfl rfl (J.fin (Sw.Sub.mk id (.cons rfl (.of_eq rfl) (.cons rfl (.of_eq rfl) (.cons rfl (.of_eq rfl) .nil))) (.box rfl (.cons (.of_eq rfl) (.cons (.of_eq rfl) (.cons (.of_eq rfl) .nil))) .nil) rfl))))))))
  rcases Bool.eq_false_or_eq_true x2 with hc4 | hc4
  · replace h := cond_t hc4 h
    refine W.condT rfl hc4 ?_
    refine W.seq ?_
    refine W.reg (σ' := ⟨[(2, .ptr 101 0), (3, .v (Enc.err ET) (some (1 : Int)))], [(101, .box 49 [.v (Enc.sl eBlk) ([] : (List Blk)), .v (Enc.sl (Enc.pr (Enc.int .i64) eBlk)) ([] : (List (Int × Blk))), .v (Enc.int .i64) (0 : Int)])]⟩) (J.cons (.none rfl) (JO.build built49 (.cons (Z.sl eBlk) (.cons (Z.sl (Enc.pr (Enc.int .i64) eBlk)) (.cons (Z.int .i64) .nil))) .nil) rfl rfl (J.cons (.none rfl) (JO.mkErr Try.runUnderlying25 rfl) rfl rfl (J.mut (.none rfl) (JM.storeAgg rfl rfl rfl rfl rfl rfl Try.sizeOf49) (J.cons (.none rfl) (JO.assign rfl) rfl rfl (J.fin (Sw.Sub.mk id (.cons rfl (.of_eq rfl) (.cons rfl (.of_eq rfl) .nil)) (.box rfl (.cons (.of_eq rfl) (.cons (.of_eq rfl) (.cons (.of_eq rfl) .nil))) .nil) rfl)))))) ?_
    refine W.ret ?_
    obtain rfl := Option.some.inj h
    exact XQ.sub (σ' := ⟨[(2, .ptr 90 0), (3, .v (Enc.err ET) (some (1 : Int)))], [(90, .box 49 [.v (Enc.sl eBlk) ([] : (List Blk)), .v (Enc.sl (Enc.pr (Enc.int .i64) eBlk)) ([] : (List (Int × Blk))), .v (Enc.int .i64) (0 : Int)])]⟩) (Sw.Sub.mk (rn [(90, 101)]) (.cons rfl (.of_eq rfl) (.cons rfl (.of_eq rfl) .nil)) (.box rfl (.cons (.of_eq rfl) (.cons (.of_eq rfl) (.cons (.of_eq rfl) .nil))) .nil) rfl) (XQ.ret2 hF noR rfl (RV.cellAll rfl rfl (.prm (.one _ _) (.prm (.one _ _) (.one _ _))) Try.isAgg49 Try.sizeOf49) (RV.tmp rfl) .nil rfl)
  · replace h := cond_f hc4 h
    refine W.condF rfl hc4 ?_
    refine W.skip ?_
    refine W.seq ?_
    obtain ⟨v5, hv5, h⟩ := bind_e h
    refine W.reg (σ' := ⟨[(2, .ptr 101 0), (3, .v (Enc.err ET) (none : Option Int))], [(101, .box 49 [.ref 102, .v (Enc.sl (Enc.pr (Enc.int .i64) eBlk)) ([] : (List (Int × Blk))), .v (Enc.int .i64) (-1 : Int)]), (102, .arr 24 eBlk v5)]⟩) (J.cons (.none rfl) (JO.move rfl) rfl rfl (J.cons (.none rfl) (JO.mkR 102 hv5 rfl rfl Try.runUnderlying22 Try.typeInfo24 Try.sizeOf24 rfl rfl (Z.arr 8 (Z.int .u8))) rfl rfl (J.cons (.none rfl) (JO.build built49 (.cons (Z.sl eBlk) (.cons (Z.sl (Enc.pr (Enc.int .i64) eBlk)) (.cons (Z.int .i64) .nil))) (.cons rfl (.dir rfl) rfl rfl rfl rfl (.cons rfl (.dir rfl) rfl rfl rfl rfl .nil))) rfl rfl (J.mut (.none rfl) (JM.storeAgg rfl rfl rfl rfl rfl rfl Try.sizeOf49) (J.cons (.none rfl) (JO.assignNilE ET) rfl rfl (J.fin (Sw.Sub.mk id (.cons rfl (.of_eq rfl) (.cons rfl (.of_eq rfl) .nil)) (.box rfl (.cons (.of_eq rfl) (.cons (.of_eq rfl) (.cons (.of_eq rfl) .nil))) (.arr rfl .nil)) rfl))))))) ?_
    refine W.ret ?_
    obtain rfl := Option.some.inj h
    exact XQ.sub (σ' := ⟨[(2, .ptr 90 0), (3, .v (Enc.err ET) (none : Option Int))], [(90, .box 49 [.v (Enc.sl eBlk) v5, .v (Enc.sl (Enc.pr (Enc.int .i64) eBlk)) ([] : (List (Int × Blk))), .v (Enc.int .i64) (-1 : Int)])]⟩) (Sw.Sub.mk (rn [(90, 101)]) (.cons rfl (.of_eq rfl) (.cons rfl (.of_eq rfl) .nil)) (.box rfl (.cons (.frz rfl rfl) (.cons (.of_eq rfl) (.cons (.of_eq rfl) .nil))) .nil) rfl) (XQ.ret2 hF noR rfl (RV.cellAll rfl rfl (.prm (.one _ _) (.prm (.one _ _) (.one _ _))) Try.isAgg49 Try.sizeOf49) (RV.tmp rfl) .nil rfl)
set_option maxRecDepth 100000 in
set_option maxHeartbeats 4000000 in
theorem con_law_DiskCrash {a0 : ((List Blk) × (List (Int × Blk)) × Int)} {a1 : (List Int)} {a2 : Int} {r : Bool} (h : m_law_DiskCrash a0 a1 a2 = some r) :
    Con Try.prog 5 [.v (Enc.pr (Enc.sl eBlk) (Enc.pr (Enc.sl (Enc.pr (Enc.int .i64) eBlk)) (Enc.int .i64))) a0, .v (Enc.sl (Enc.int .i64)) a1, .v (Enc.int .i64) a2] (.v Enc.bool r) [] := by
  refine Con.of Try.func5 rfl Try.ntmps5 rfl ?_
  intro S w hF
  unfold m_law_DiskCrash at h
  refine W.seq ?_
  refine W.reg (σ' := ⟨[(1, .v (Enc.sl (Enc.int .i64)) a1), (2, .v (Enc.int .i64) a2), (3, .ptr 101 0)], [(101, .box 49 [.v (Enc.sl eBlk) a0.1, .v (Enc.sl (Enc.pr (Enc.int .i64) eBlk)) a0.2.1, .v (Enc.int .i64) a0.2.2])]⟩) (J.cons (.none rfl) (JO.box 101 rfl (.prm (.one _ _) (.prm (.one _ _) (.one _ _))) rfl) rfl rfl (J.cons (.none rfl) (JO.assign rfl) rfl rfl (J.fin (Sw.Sub.mk id (.cons rfl (.of_eq rfl) (.cons rfl (.of_eq rfl) (.cons rfl (.of_eq rfl) .nil))) (.box rfl (.cons (.of_eq rfl) (.cons (.of_eq rfl) (.cons (.of_eq rfl) .nil))) .nil) rfl)))) ?_
  refine W.seq ?_
  refine W.seq ?_
  obtain ⟨x3, hx, h⟩ := bind_e h
  refine W.reg (σ' := ⟨[(1, .v (Enc.sl (Enc.int .i64)) a1), (2, .v (Enc.int .i64) a2), (3, .ptr 101 0), (26, .v Enc.bool x3)], [(101, .box 49 [.v (Enc.sl eBlk) a0.1, .v (Enc.sl (Enc.pr (Enc.int .i64) eBlk)) a0.2.1, .v (Enc.int .i64) a0.2.2])]⟩) ?_ ?_
  · rcases Bool.eq_false_or_eq_true (cm .gtr (a0.1.length : Int) (300 : Int)) with hc4 | hc4
    · replace hx := cond_t hc4 hx
      obtain rfl := Option.some.inj hx
      exact (J.cons (.none rfl) (JO.fieldPtr 0 rfl Try.runUnderlying49 rfl Try.sizeOf22 rfl rfl) rfl rfl (J.cons (.none rfl) (JO.load rfl rfl rfl Try.isAgg22 Try.sizeOf22) rfl rfl (J.cons (.none rfl) (JO.len rfl Try.runUnderlying22) rfl rfl (J.cons (.none rfl) (JO.cmp rfl rfl rfl) rfl rfl (J.cons (.none rfl) (JO.move rfl) rfl rfl (J.left (GK.unmet 16 rfl rfl rfl hc4) rfl (J.left (GK.unmet 16 rfl rfl rfl hc4) rfl (J.left (GK.unmet 16 rfl rfl rfl hc4) rfl (J.left (GK.unmet 16 rfl rfl rfl hc4) rfl (J.cons (.none rfl) (JO.pT hc4 rfl rfl) rfl rfl (J.cons (.none rfl) (JO.move rfl) rfl rfl (J.left (GK.unmet 22 rfl rfl rfl rfl) rfl (J.left (GK.unmet 22 rfl rfl rfl rfl) rfl (J.left (GK.unmet 22 rfl rfl rfl rfl) rfl (J.cons (.none rfl) (JO.pT rfl rfl rfl) rfl rfl (J.fin (Sw.Sub.mk id (.cons rfl (.of_eq rfl) (.cons rfl (.of_eq rfl) (.cons rfl (.of_eq rfl) (.cons rfl (.of_eq rfl) .nil)))) (.box rfl (.cons (.of_eq rfl) (.cons (.of_eq rfl) (.cons (.of_eq rfl) .nil))) .nil) rfl)))))))))))))))))
    · replace hx := cond_f hc4 hx
      rcases Bool.eq_false_or_eq_true (cm .gtr (a0.2.1.length : Int) (900 : Int)) with hc5 | hc5
      · replace hx := cond_t hc5 hx
        obtain rfl := Option.some.inj hx
        exact (J.cons (.none rfl) (JO.fieldPtr 0 rfl Try.runUnderlying49 rfl Try.sizeOf22 rfl rfl) rfl rfl (J.cons (.none rfl) (JO.load rfl rfl rfl Try.isAgg22 Try.sizeOf22) rfl rfl (J.cons (.none rfl) (JO.len rfl Try.runUnderlying22) rfl rfl (J.cons (.none rfl) (JO.cmp rfl rfl rfl) rfl rfl (J.cons (.none rfl) (JO.move rfl) rfl rfl (J.cons (GK.met 16 rfl rfl rfl hc4) (JO.fieldPtr 1 rfl Try.runUnderlying49 rfl Try.sizeOf47 rfl rfl) rfl rfl (J.cons (GK.met 16 rfl rfl rfl hc4) (JO.load rfl rfl rfl Try.isAgg47 Try.sizeOf47) rfl rfl (J.cons (GK.met 16 rfl rfl rfl hc4) (JO.len rfl Try.runUnderlying47) rfl rfl (J.cons (GK.met 16 rfl rfl rfl hc4) (JO.cmp rfl rfl rfl) rfl rfl (J.cons (.none rfl) (JO.pF hc4 rfl rfl) rfl rfl (J.cons (.none rfl) (JO.move rfl) rfl rfl (J.left (GK.unmet 22 rfl rfl rfl hc5) rfl (J.left (GK.unmet 22 rfl rfl rfl hc5) rfl (J.left (GK.unmet 22 rfl rfl rfl hc5) rfl (J.cons (.none rfl) (JO.pT hc5 rfl rfl) rfl rfl (J.fin (Sw.Sub.mk id (.cons rfl (.of_eq rfl) (.cons rfl (.of_eq rfl) (.cons rfl (.of_eq rfl) (.cons rfl (.of_eq rfl) .nil)))) (.box rfl (.cons (.of_eq rfl) (.cons (.of_eq rfl) (.cons (.of_eq rfl) .nil))) .nil) rfl)))))))))))))))))
      · replace hx := cond_f hc5 hx
        obtain rfl := Option.some.inj hx
        exact (J.cons (.none rfl) (JO.fieldPtr 0 rfl Try.runUnderlying49 rfl Try.sizeOf22 rfl rfl) rfl rfl (J.cons (.none rfl) (JO.load rfl rfl rfl Try.isAgg22 Try.sizeOf22) rfl rfl (J.cons (.none rfl) (JO.len rfl Try.runUnderlying22) rfl rfl (J.cons (.none rfl) (JO.cmp rfl rfl rfl) rfl rfl (J.cons (.none rfl) (JO.move rfl) rfl rfl (J.cons (GK.met 16 rfl rfl rfl hc4) (JO.fieldPtr 1 rfl Try.runUnderlying49 rfl Try.sizeOf47 rfl rfl) rfl rfl (J.cons (GK.met 16 rfl rfl rfl hc4) (JO.load rfl rfl rfl Try.isAgg47 Try.sizeOf47) rfl rfl (J.cons (GK.met 16 rfl rfl rfl hc4) (JO.len rfl Try.runUnderlying47) rfl rfl (J.cons (GK.met 16 rfl rfl rfl hc4) (JO.cmp rfl rfl rfl) rfl rfl (J.cons (.none rfl) (JO.pF hc4 rfl rfl) rfl rfl (J.cons (.none rfl) (JO.move rfl) rfl rfl (J.cons (GK.met 22 rfl rfl rfl hc5) (JO.move rfl) rfl rfl (J.cons (GK.met 22 rfl rfl rfl hc5) (JO.len rfl Try.runUnderlying36) rfl rfl (J.cons (GK.met 22 rfl rfl rfl hc5) (JO.cmp rfl rfl rfl) rfl rfl (J.cons (.none rfl) (JO.pF hc5 rfl rfl) rfl rfl (J.fin (Sw.Sub.mk id (.cons rfl (.of_eq rfl) (.cons rfl (.of_eq rfl) (.cons rfl (.of_eq rfl) (.cons rfl (.of_eq rfl) .nil)))) (.box rfl (.cons (.of_eq rfl) (.cons (.of_eq rfl) (.cons (.of_eq rfl) .nil))) .nil) rfl)))))))))))))))))
  rcases Bool.eq_false_or_eq_true x3 with hc6 | hc6
  · replace h := cond_t hc6 h
    refine W.condT rfl hc6 ?_
    refine W.seq ?_
    refine W.reg (σ' := ⟨[(6, .v Enc.bool true)], []⟩) (J.cons (.none rfl) (JO.assign rfl) rfl rfl (J.fin (Sw.Sub.mk id (.cons rfl (.of_eq rfl) .nil) .nil rfl))) ?_
    refine W.ret ?_
    obtain rfl := Option.some.inj h
    exact XQ.sub (σ' := ⟨[(6, .v Enc.bool true)], []⟩) (Sw.Sub.mk id (.cons rfl (.of_eq rfl) .nil) .nil rfl) (XQ.ret1 hF noR rfl (RV.tmp rfl) .nil rfl)
  · replace h := cond_f hc6 h
    refine W.condF rfl hc6 ?_
    refine W.skip ?_
    refine W.seq ?_
    obtain ⟨v7, hv7, h⟩ := bind_e h
    refine W.reg (σ' := ⟨[(1, .v (Enc.sl (Enc.int .i64)) a1), (2, .v (Enc.int .i64) a2), (3, .ptr 101 0), (7, .v (Enc.int .i64) v7)], [(101, .box 49 [.v (Enc.sl eBlk) a0.1, .v (Enc.sl (Enc.pr (Enc.int .i64) eBlk)) a0.2.1, .v (Enc.int .i64) a0.2.2])]⟩) (J.cons (.none rfl) (JO.loadAll rfl rfl (.prm (.one _ _) (.prm (.one _ _) (.one _ _))) Try.isAgg49 Try.sizeOf49) rfl rfl (J.cons (.none rfl) (JO.call0 (con_ref_DiskMay hv7) Try.call26 (.cons (.dir rfl) .nil)) rfl rfl (J.cons (.none rfl) (JO.assign rfl) rfl rfl (J.fin (Sw.Sub.mk id (.cons rfl (.of_eq rfl) (.cons rfl (.of_eq rfl) (.cons rfl (.of_eq rfl) (.cons rfl (.of_eq rfl) .nil)))) (.box rfl (.cons (.of_eq rfl) (.cons (.of_eq rfl) (.cons (.of_eq rfl) .nil))) .nil) rfl))))) ?_
    refine W.seq ?_
    refine W.reg (σ' := ⟨[(1, .v (Enc.sl (Enc.int .i64)) a1), (2, .v (Enc.int .i64) a2), (3, .ptr 101 0), (7, .v (Enc.int .i64) v7), (8, .ptr 103 0)], [(101, .box 49 [.v (Enc.sl eBlk) a0.1, .v (Enc.sl (Enc.pr (Enc.int .i64) eBlk)) a0.2.1, .v (Enc.int .i64) a0.2.2]), (103, .box 49 [.v (Enc.sl eBlk) ([] : (List Blk)), .v (Enc.sl (Enc.pr (Enc.int .i64) eBlk)) ([] : (List (Int × Blk))), .v (Enc.int .i64) (0 : Int)])]⟩) (J.cons (.none rfl) (JO.build built49 (.cons (Z.sl eBlk) (.cons (Z.sl (Enc.pr (Enc.int .i64) eBlk)) (.cons (Z.int .i64) .nil))) .nil) rfl rfl (J.cons (.none rfl) (JO.alloc 103 Try.zeroValue49 rfl (.cons (Z.sl eBlk) (.cons (Z.sl (Enc.pr (Enc.int .i64) eBlk)) (.cons (Z.int .i64) .nil))) rfl) rfl rfl (J.mut (.none rfl) (JM.storeAgg rfl rfl rfl rfl rfl rfl Try.sizeOf49) (J.fin (Sw.Sub.mk id (.cons rfl (.of_eq rfl) (.cons rfl (.of_eq rfl) (.cons rfl (.of_eq rfl) (.cons rfl (.of_eq rfl) (.cons rfl (.of_eq rfl) .nil))))) (.box rfl (.cons (.of_eq rfl) (.cons (.of_eq rfl) (.cons (.of_eq rfl) .nil))) (.box rfl (.cons (.of_eq rfl) (.cons (.of_eq rfl) (.cons (.of_eq rfl) .nil))) .nil)) rfl))))) ?_
    refine W.seq ?_
    refine W.seq ?_
    refine W.reg (σ' := ⟨[(1, .v (Enc.sl (Enc.int .i64)) a1), (2, .v (Enc.int .i64) a2), (3, .ptr 101 0), (7, .v (Enc.int .i64) v7), (8, .ptr 103 0), (31, .v Enc.bool (cm .eql v7 (0 : Int)))], [(101, .box 49 [.v (Enc.sl eBlk) a0.1, .v (Enc.sl (Enc.pr (Enc.int .i64) eBlk)) a0.2.1, .v (Enc.int .i64) a0.2.2]), (103, .box 49 [.v (Enc.sl eBlk) ([] : (List Blk)), .v (Enc.sl (Enc.pr (Enc.int .i64) eBlk)) ([] : (List (Int × Blk))), .v (Enc.int .i64) (0 : Int)])]⟩) (J.cons (.none rfl) (JO.move rfl) rfl rfl (J.cons (.none rfl) (JO.cmp rfl rfl rfl) rfl rfl (J.fin (Sw.Sub.mk id (.cons rfl (.of_eq rfl) (.cons rfl (.of_eq rfl) (.cons rfl (.of_eq rfl) (.cons rfl (.of_eq rfl) (.cons rfl (.of_eq rfl) (.cons rfl (.of_eq rfl) .nil)))))) (.box rfl (.cons (.of_eq rfl) (.cons (.of_eq rfl) (.cons (.of_eq rfl) .nil))) (.box rfl (.cons (.of_eq rfl) (.cons (.of_eq rfl) (.cons (.of_eq rfl) .nil))) .nil)) rfl)))) ?_
    obtain ⟨k10, hk10, h⟩ := jp_elim h
    refine W.jn (fun x11 : (List Blk) × (List (Int × Blk)) × Int => ⟨[(1, .v (Enc.sl (Enc.int .i64)) a1), (2, .v (Enc.int .i64) a2), (3, .ptr 101 0), (7, .v (Enc.int .i64) v7), (8, .ptr 103 0)], [(101, .box 49 [.v (Enc.sl eBlk) a0.1, .v (Enc.sl (Enc.pr (Enc.int .i64) eBlk)) a0.2.1, .v (Enc.int .i64) a0.2.2]), (103, .box 49 [.v (Enc.sl eBlk) x11.1, .v (Enc.sl (Enc.pr (Enc.int .i64) eBlk)) x11.2.1, .v (Enc.int .i64) x11.2.2])]⟩) (fun x => k10 x = some r) rfl ?_ ?_ ?_
    · intro x11 h
      rw [hk10] at h
      refine W.seq ?_
      obtain ⟨v13, hv13, h⟩ := bind_e h
      refine W.reg (σ' := ⟨[(2, .v (Enc.int .i64) a2), (7, .v (Enc.int .i64) v7), (8, .ptr 103 0), (9, .ptr 107 0), (10, .v (Enc.err ET) v13.2)], [(103, .box 49 [.v (Enc.sl eBlk) x11.1, .v (Enc.sl (Enc.pr (Enc.int .i64) eBlk)) x11.2.1, .v (Enc.int .i64) x11.2.2]), (107, .box 49 [.v (Enc.sl eBlk) v13.1.1, .v (Enc.sl (Enc.pr (Enc.int .i64) eBlk)) v13.1.2.1, .v (Enc.int .i64) v13.1.2.2])]⟩) (J.cons (.none rfl) (JO.loadAll rfl rfl (.prm (.one _ _) (.prm (.one _ _) (.one _ _))) Try.isAgg49 Try.sizeOf49) rfl rfl (J.cons (.none rfl) (JO.move rfl) rfl rfl (J.cons (.none rfl) (JO.call0 (con_disk_Crash hv13) Try.call28 (.cons (.dir rfl) (.cons (.dir rfl) .nil))) rfl rfl (J.cons (.none rfl) (JO.move rfl) rfl rfl (J.cons (.none rfl) (JO.extract rfl rfl) rfl rfl (J.cons (.none rfl) (JO.extract rfl rfl) rfl rfl (J.cons (.none rfl) (JO.alloc 107 Try.zeroValue49 rfl (.cons (Z.sl eBlk) (.cons (Z.sl (Enc.pr (Enc.int .i64) eBlk)) (.cons (Z.int .i64) .nil))) rfl) rfl rfl (J.mut (.none rfl) (JM.storeAll rfl rfl rfl rfl (.prm (.one _ _) (.prm (.one _ _) (.one _ _))) Try.sizeOf49) (J.cons (.none rfl) (JO.assign rfl) rfl rfl (J.fin (Sw.Sub.mk id (.cons rfl (.of_eq rfl) (.cons rfl (.of_eq rfl) (.cons rfl (.of_eq rfl) (.cons rfl (.of_eq rfl) (.cons rfl (.of_eq rfl) .nil))))) (.box rfl (.cons (.of_eq rfl) (.cons (.of_eq rfl) (.cons (.of_eq rfl) .nil))) (.box rfl (.cons (.of_eq rfl) (.cons (.of_eq rfl) (.cons (.of_eq rfl) .nil))) .nil)) rfl))))))))))) ?_
      refine W.seq ?_
      refine W.seq ?_
      obtain ⟨x17, hx, h⟩ := bind_e h
      refine W.reg (σ' := ⟨[(2, .v (Enc.int .i64) a2), (50, .v Enc.bool x17)], []⟩) ?_ ?_
      · obtain ⟨v18, hv18, hx⟩ := bind_e hx
        rcases Bool.eq_false_or_eq_true (!v18) with hc19 | hc19
        · replace hx := cond_t hc19 hx
          obtain rfl := Option.some.inj hx
          exact (J.cons (.none rfl) (JO.move rfl) rfl rfl (J.cons (.none rfl) (JO.move rfl) rfl rfl (J.cons (.none rfl) (JO.call0 (con_ref_Is hv18) Try.call18 (.cons (.dir rfl) (.cons (.dir rfl) .nil))) rfl rfl (J.cons (.none rfl) (JO.not rfl) rfl rfl (J.cons (.none rfl) (JO.move rfl) rfl rfl (J.left (GK.unmet 45 rfl rfl rfl hc19) rfl (J.left (GK.unmet 45 rfl rfl rfl hc19) rfl (J.left (GK.unmet 45 rfl rfl rfl hc19) rfl (J.left (GK.unmet 45 rfl rfl rfl hc19) rfl (J.cons (.none rfl) (JO.pT hc19 rfl rfl) rfl rfl (J.fin (Sw.Sub.mk id (.cons rfl (.of_eq rfl) (.cons rfl (.of_eq rfl) .nil)) .nil rfl))))))))))))
        · replace hx := cond_f hc19 hx
          obtain ⟨v20, hv20, hx⟩ := bind_e hx
          obtain rfl := Option.some.inj hx
          exact (J.cons (.none rfl) (JO.move rfl) rfl rfl (J.cons (.none rfl) (JO.move rfl) rfl rfl (J.cons (.none rfl) (JO.call0 (con_ref_Is hv18) Try.call18 (.cons (.dir rfl) (.cons (.dir rfl) .nil))) rfl rfl (J.cons (.none rfl) (JO.not rfl) rfl rfl (J.cons (.none rfl) (JO.move rfl) rfl rfl (J.cons (GK.met 45 rfl rfl rfl hc19) (JO.loadAll rfl rfl (.prm (.one _ _) (.prm (.one _ _) (.one _ _))) Try.isAgg49 Try.sizeOf49) rfl rfl (J.cons (GK.met 45 rfl rfl rfl hc19) (JO.loadAll rfl rfl (.prm (.one _ _) (.prm (.one _ _) (.one _ _))) Try.isAgg49 Try.sizeOf49) rfl rfl (J.cons (GK.met 45 rfl rfl rfl hc19) (JO.call0 (con_ref_SameDisk hv20) Try.call29 (.cons (.dir rfl) (.cons (.dir rfl) .nil))) rfl rfl (J.cons (GK.met 45 rfl rfl rfl hc19) (JO.not rfl) rfl rfl (J.cons (.none rfl) (JO.pF hc19 rfl rfl) rfl rfl (J.fin (Sw.Sub.mk id (.cons rfl (.of_eq rfl) (.cons rfl (.of_eq rfl) .nil)) .nil rfl))))))))))))
      rcases Bool.eq_false_or_eq_true x17 with hc21 | hc21
      · replace h := cond_t hc21 h
        refine W.condT rfl hc21 ?_
        refine W.seq ?_
        refine W.reg (σ' := ⟨[(6, .v Enc.bool false)], []⟩) (J.cons (.none rfl) (JO.assign rfl) rfl rfl (J.fin (Sw.Sub.mk id (.cons rfl (.of_eq rfl) .nil) .nil rfl))) ?_
        refine W.ret ?_
        obtain rfl := Option.some.inj h
        exact XQ.sub (σ' := ⟨[(6, .v Enc.bool false)], []⟩) (Sw.Sub.mk id (.cons rfl (.of_eq rfl) .nil) .nil rfl) (XQ.ret1 hF noR rfl (RV.tmp rfl) .nil rfl)
      · replace h := cond_f hc21 h
        refine W.condF rfl hc21 ?_
        refine W.skip ?_
        refine W.seq ?_
        obtain ⟨v22, hv22, h⟩ := bind_e h
        refine W.reg (σ' := ⟨[(2, .v (Enc.int .i64) a2), (10, .v (Enc.err ET) v22.2), (11, .ptr 113 0)], [(113, .box 49 [.v (Enc.sl eBlk) v22.1.1, .v (Enc.sl (Enc.pr (Enc.int .i64) eBlk)) v22.1.2.1, .v (Enc.int .i64) v22.1.2.2])]⟩) (J.cons (.none rfl) (JO.move rfl) rfl rfl (J.cons (.none rfl) (JO.call0 (con_disk_New hv22) Try.call30 (.cons (.dir rfl) .nil)) rfl rfl (J.cons (.none rfl) (JO.move rfl) rfl rfl (J.cons (.none rfl) (JO.extract rfl rfl) rfl rfl (J.cons (.none rfl) (JO.extract rfl rfl) rfl rfl (J.cons (.none rfl) (JO.alloc 113 Try.zeroValue49 rfl (.cons (Z.sl eBlk) (.cons (Z.sl (Enc.pr (Enc.int .i64) eBlk)) (.cons (Z.int .i64) .nil))) rfl) rfl rfl (J.mut (.none rfl) (JM.storeAll rfl rfl rfl rfl (.prm (.one _ _) (.prm (.one _ _) (.one _ _))) Try.sizeOf49) (J.cons (.none rfl) (JO.assign rfl) rfl rfl (J.fin (Sw.Sub.mk id (.cons rfl (.of_eq rfl) (.cons rfl (.of_eq rfl) (.cons rfl (.of_eq rfl) .nil))) (.box rfl (.cons (.of_eq rfl) (.cons (.of_eq rfl) (.cons (.of_eq rfl) .nil))) .nil) rfl)))))))))) ?_
        refine W.seq ?_
        refine W.seq ?_
        obtain ⟨x24, hx, h⟩ := bind_e h
        refine W.reg (σ' := ⟨[(2, .v (Enc.int .i64) a2), (10, .v (Enc.err ET) v22.2), (11, .ptr 113 0), (61, .v Enc.bool x24)], [(113, .box 49 [.v (Enc.sl eBlk) v22.1.1, .v (Enc.sl (Enc.pr (Enc.int .i64) eBlk)) v22.1.2.1, .v (Enc.int .i64) v22.1.2.2])]⟩) ?_ ?_
        · rcases Bool.eq_false_or_eq_true (cm .lss a2 (1 : Int)) with hc25 | hc25
          · replace hx := cond_t hc25 hx
            obtain rfl := Option.some.inj hx
            exact (J.cons (.none rfl) (JO.move rfl) rfl rfl (J.cons (.none rfl) (JO.cmp rfl rfl rfl) rfl rfl (J.cons (.none rfl) (JO.move rfl) rfl rfl (J.left (GK.unmet 58 rfl rfl rfl hc25) rfl (J.left (GK.unmet 58 rfl rfl rfl hc25) rfl (J.cons (.none rfl) (JO.pT hc25 rfl rfl) rfl rfl (J.fin (Sw.Sub.mk id (.cons rfl (.of_eq rfl) (.cons rfl (.of_eq rfl) (.cons rfl (.of_eq rfl) (.cons rfl (.of_eq rfl) .nil)))) (.box rfl (.cons (.of_eq rfl) (.cons (.of_eq rfl) (.cons (.of_eq rfl) .nil))) .nil) rfl))))))))
          · replace hx := cond_f hc25 hx
            obtain rfl := Option.some.inj hx
            exact (J.cons (.none rfl) (JO.move rfl) rfl rfl (J.cons (.none rfl) (JO.cmp rfl rfl rfl) rfl rfl (J.cons (.none rfl) (JO.move rfl) rfl rfl (J.cons (GK.met 58 rfl rfl rfl hc25) (JO.move rfl) rfl rfl (J.cons (GK.met 58 rfl rfl rfl hc25) (JO.cmp rfl rfl rfl) rfl rfl (J.cons (.none rfl) (JO.pF hc25 rfl rfl) rfl rfl (J.fin (Sw.Sub.mk id (.cons rfl (.of_eq rfl) (.cons rfl (.of_eq rfl) (.cons rfl (.of_eq rfl) (.cons rfl (.of_eq rfl) .nil)))) (.box rfl (.cons (.of_eq rfl) (.cons (.of_eq rfl) (.cons (.of_eq rfl) .nil))) .nil) rfl))))))))
        rcases Bool.eq_false_or_eq_true x24 with hc26 | hc26
        · replace h := cond_t hc26 h
          refine W.condT rfl hc26 ?_
          refine W.seq ?_
          obtain ⟨x29, hx, h⟩ := bind_e h
          refine W.reg (σ' := ⟨[(6, .v Enc.bool x29)], []⟩) ?_ ?_
          · rcases Bool.eq_false_or_eq_true (v22.2 == (some (1 : Int))) with hc30 | hc30
            · replace hx := cond_t hc30 hx
              obtain ⟨v31, hv31, hx⟩ := bind_e hx
              obtain rfl := Option.some.inj hx
              exact (J.cons (.none rfl) (JO.move rfl) rfl rfl (J.cons (.none rfl) (JO.mkErr Try.runUnderlying25 rfl) rfl rfl (J.cons (.none rfl) (JO.errEq2 Try.runUnderlying29 Try.runUnderlying25 Try.typeInfo25 rfl rfl rfl) rfl rfl (J.cons (.none rfl) (JO.move rfl) rfl rfl (J.cons (GK.met 65 rfl rfl rfl hc30) (JO.loadAll rfl rfl (.prm (.one _ _) (.prm (.one _ _) (.one _ _))) Try.isAgg49 Try.sizeOf49) rfl rfl (J.cons (GK.met 65 rfl rfl rfl hc30) (JO.build built49 (.cons (Z.sl eBlk) (.cons (Z.sl (Enc.pr (Enc.int .i64) eBlk)) (.cons (Z.int .i64) .nil))) .nil) rfl rfl (J.cons (GK.met 65 rfl rfl rfl hc30) (JO.call0 (con_ref_SameDisk hv31) Try.call29 (.cons (.dir rfl) (.cons (.agg rfl (.same (.same (.same .nil))) (.prm (.one _ _) (.prm (.one _ _) (.one _ _))) rfl) .nil))) rfl rfl (J.cons (.none rfl) (JO.pT hc30 rfl rfl) rfl rfl (J.cons (.none rfl) (JO.assign rfl) rfl rfl (J.fin (Sw.Sub.mk id (.cons rfl (.of_eq rfl) .nil) .nil rfl)))))))))))
            · replace hx := cond_f hc30 hx
              obtain rfl := Option.some.inj hx
              exact (J.cons (.none rfl) (JO.move rfl) rfl rfl (J.cons (.none rfl) (JO.mkErr Try.runUnderlying25 rfl) rfl rfl (J.cons (.none rfl) (JO.errEq2 Try.runUnderlying29 Try.runUnderlying25 Try.typeInfo25 rfl rfl rfl) rfl rfl (J.cons (.none rfl) (JO.move rfl) rfl rfl (J.left (GK.unmet 65 rfl rfl rfl hc30) rfl (J.left (GK.unmet 65 rfl rfl rfl hc30) rfl (J.left (GK.unmet 65 rfl rfl rfl hc30) rfl (J.cons (.none rfl) (JO.pF hc30 rfl rfl) rfl rfl (J.cons (.none rfl) (JO.assign rfl) rfl rfl (J.fin (Sw.Sub.mk id (.cons rfl (.of_eq rfl) .nil) .nil rfl)))))))))))
          refine W.ret ?_
          obtain rfl := Option.some.inj h
          exact XQ.sub (σ' := ⟨[(6, .v Enc.bool x29)], []⟩) (Sw.Sub.mk id (.cons rfl (.of_eq rfl) .nil) .nil rfl) (XQ.ret1 hF noR rfl (RV.tmp rfl) .nil rfl)
        · replace h := cond_f hc26 h
          refine W.condF rfl hc26 ?_
          refine W.skip ?_
          refine W.seq ?_
          obtain ⟨x35, hx, h⟩ := bind_e h
          refine W.mg (σ' := ⟨[(6, .v Enc.bool x35)], []⟩) ?_ ?_
          · intro hk
            rcases Bool.eq_false_or_eq_true (Option.isNone v22.2) with hc36 | hc36
            · replace hx := cond_t hc36 hx
              obtain ⟨v37, hv37, hx⟩ := bind_e hx
              obtain ⟨v38, hv38, hx⟩ := bind_e hx
              obtain rfl := Option.some.inj hx
              exact W.dr (σ' := ⟨[(6, .v Enc.bool v38)], []⟩) 10 mixed (by exact (.cons (.none rfl) (JO.move rfl) rfl rfl (.cons (.none rfl) (JO.errEq Try.runUnderlying29 rfl) rfl rfl (.cons (.none rfl) (JO.move rfl) rfl rfl (.cons (GK.met 72 rfl rfl rfl hc36) (JO.loadAll rfl rfl (.prm (.one _ _) (.prm (.one _ _) (.one _ _))) Try.isAgg49 Try.sizeOf49) rfl rfl (.cons (GK.met 72 rfl rfl rfl hc36) (JO.move rfl) rfl rfl (.cons (GK.met 72 rfl rfl rfl hc36) (JO.mk hv37 rfl rfl Try.runUnderlying22 Try.typeInfo24 Try.sizeOf24 rfl rfl (Z.arr 8 (Z.int .u8))) rfl rfl (.cons (GK.met 72 rfl rfl rfl hc36) (JO.build built49 (.cons (Z.sl eBlk) (.cons (Z.sl (Enc.pr (Enc.int .i64) eBlk)) (.cons (Z.int .i64) .nil))) (.cons rfl (.dir rfl) rfl rfl rfl rfl (.cons rfl (.dir rfl) rfl rfl rfl rfl .nil))) rfl rfl (.cons (GK.met 72 rfl rfl rfl hc36) (JO.call0 (con_ref_SameDisk hv38) Try.call29 (.cons (.dir rfl) (.cons (.agg rfl (.same (.same (.same .nil))) (.prm (.one _ _) (.prm (.one _ _) (.one _ _))) rfl) .nil))) rfl rfl (.cons (.none rfl) (JO.pT hc36 rfl rfl) rfl rfl (.cons (.none rfl) (JO.assign rfl) rfl rfl .nil))))))))))) (by exact (J.fin (Sw.Sub.mk id (.cons rfl (.of_eq rfl) .nil) .nil rfl))) (by decide +kernel) (by decide +kernel) (by decide +kernel) hk
            · replace hx := cond_f hc36 hx
              obtain rfl := Option.some.inj hx
              exact W.dr (σ' := ⟨[(6, .v Enc.bool false)], []⟩) 10 mixed (by exact (.cons (.none rfl) (JO.move rfl) rfl rfl (.cons (.none rfl) (JO.errEq Try.runUnderlying29 rfl) rfl rfl (.cons (.none rfl) (JO.move rfl) rfl rfl (.left (GK.unmet 72 rfl rfl rfl hc36) rfl (.left (GK.unmet 72 rfl rfl rfl hc36) rfl (.left (GK.unmet 72 rfl rfl rfl hc36) rfl (.left (GK.unmet 72 rfl rfl rfl hc36) rfl (.left (GK.unmet 72 rfl rfl rfl hc36) rfl (.cons (.none rfl) (JO.pF hc36 rfl rfl) rfl rfl (.cons (.none rfl) (JO.assign rfl) rfl rfl .nil))))))))))) (by exact (J.fin (Sw.Sub.mk id (.cons rfl (.of_eq rfl) .nil) .nil rfl))) (by decide +kernel) (by decide +kernel) (by decide +kernel) hk
          refine W.ret ?_
          obtain rfl := Option.some.inj h
          exact XQ.sub (σ' := ⟨[(6, .v Enc.bool x35)], []⟩) (Sw.Sub.mk id (.cons rfl (.of_eq rfl) .nil) .nil rfl) (XQ.ret1 hF noR rfl (RV.tmp rfl) .nil rfl)
    · intro hc8
      replace h := cond_t hc8 h
      obtain ⟨v12, hv12, h⟩ := bind_e h
      refine W.reg (σ' := ⟨[(1, .v (Enc.sl (Enc.int .i64)) a1), (2, .v (Enc.int .i64) a2), (3, .ptr 101 0), (7, .v (Enc.int .i64) v7), (8, .ptr 103 0)], [(101, .box 49 [.v (Enc.sl eBlk) a0.1, .v (Enc.sl (Enc.pr (Enc.int .i64) eBlk)) a0.2.1, .v (Enc.int .i64) a0.2.2]), (103, .box 49 [.v (Enc.sl eBlk) v12.1, .v (Enc.sl (Enc.pr (Enc.int .i64) eBlk)) v12.2.1, .v (Enc.int .i64) v12.2.2])]⟩) (J.cons (.none rfl) (JO.loadAll rfl rfl (.prm (.one _ _) (.prm (.one _ _) (.one _ _))) Try.isAgg49 Try.sizeOf49) rfl rfl (J.cons (.none rfl) (JO.move rfl) rfl rfl (J.cons (.none rfl) (JO.call0 (con_ref_Crashed hv12) Try.call27 (.cons (.dir rfl) (.cons (.dir rfl) .nil))) rfl rfl (J.mut (.none rfl) (JM.storeAll rfl rfl rfl rfl (.prm (.one _ _) (.prm (.one _ _) (.one _ _))) Try.sizeOf49) (J.fin (Sw.Sub.mk id (.cons rfl (.of_eq rfl) (.cons rfl (.of_eq rfl) (.cons rfl (.of_eq rfl) (.cons rfl (.of_eq rfl) (.cons rfl (.of_eq rfl) .nil))))) (.box rfl (.cons (.of_eq rfl) (.cons (.of_eq rfl) (.cons (.of_eq rfl) .nil))) (.box rfl (.cons (.of_eq rfl) (.cons (.of_eq rfl) (.cons (.of_eq rfl) .nil))) .nil)) rfl)))))) ?_
      exact W.jfall h (Sw.Sub.mk id (.cons rfl (.of_eq rfl) (.cons rfl (.of_eq rfl) (.cons rfl (.of_eq rfl) (.cons rfl (.of_eq rfl) (.cons rfl (.of_eq rfl) .nil))))) (.box rfl (.cons (.of_eq rfl) (.cons (.of_eq rfl) (.cons (.of_eq rfl) .nil))) (.box rfl (.cons (.of_eq rfl) (.cons (.of_eq rfl) (.cons (.of_eq rfl) .nil))) .nil)) rfl)
    · intro hc8
      replace h := cond_f hc8 h
      refine W.skip ?_
      exact W.jfall h (Sw.Sub.mk id (.cons rfl (.of_eq rfl) (.cons rfl (.of_eq rfl) (.cons rfl (.of_eq rfl) (.cons rfl (.of_eq rfl) (.cons rfl (.of_eq rfl) .nil))))) (.box rfl (.cons (.of_eq rfl) (.cons (.of_eq rfl) (.cons (.of_eq rfl) .nil))) (.box rfl (.cons (.of_eq rfl) (.cons (.of_eq rfl) (.cons (.of_eq rfl) .nil))) .nil)) rfl)
end Go.Cn
