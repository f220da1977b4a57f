/- The functions that this law reaches come to what their models come to. Conditions: none. -/
import Derived.Test.YteckohdbfkhmdaaMoDiskSays
import Derived.KernelRfl
import Derived.Test.YteckohdbfkhmdaaChecked
namespace Go.Cn
open Go Go.Sw Go.Mo Go.Proofs
abbrev ET : Nat := 25
theorem mixed : Try.prog.follows .mixedOrders = true := Try.checked.mixed
theorem eq24 : EqE 2 Try.prog 24 eBlk := EqE.arr Try.runUnderlying24 Try.sizeOf5 Try.isAgg5 (EqE.int Try.underlying5)
theorem eq85 : EqE 3 Try.prog 85 (Enc.pr (Enc.int .i64) eBlk) := EqE.struct Try.runUnderlying85 Try.stoodInHeld85 rfl (EqFs.cons (by decide) rfl (EqE.up 2 (EqE.int Try.underlying3) rfl) Try.isAgg3 Try.sizeOf3 (EqFs.last (by decide) rfl eq24 Try.isAgg24 Try.sizeOf24))
theorem built49 : ∀ parts, Try.prog.built 49 parts = Instr.fill (([(0, 1), (1, 1), (2, 1)] : List (Nat × Nat)).toArray[·]?) ([.slice none 0 0, .slice none 0 0, .int .i64 0] : List Value).toArray parts := built_struct Try.typeInfo49 Try.runUnderlying49 rfl rfl (.cons rfl (by kernel_rfl) (by kernel_rfl) (.cons rfl (by kernel_rfl) (by kernel_rfl) (.cons rfl (by kernel_rfl) (by kernel_rfl) .nil)))
theorem built85 : ∀ parts, Try.prog.built 85 parts = Instr.fill (([(0, 1), (1, 8)] : List (Nat × Nat)).toArray[·]?) ([.int .i64 0, .int .u8 0, .int .u8 0, .int .u8 0, .int .u8 0, .int .u8 0, .int .u8 0, .int .u8 0, .int .u8 0] : List Value).toArray parts := built_struct Try.typeInfo85 Try.runUnderlying85 rfl rfl (.cons rfl (by kernel_rfl) (by kernel_rfl) (.cons rfl (by kernel_rfl) (by kernel_rfl) .nil))
set_option maxRecDepth 100000 in
set_option maxHeartbeats 4000000 in
theorem con_ref_DiskMay {a0 : ((List Blk) × (List (Int × Blk)) × Int)} {r : Int} (h : m_ref_DiskMay a0 = some r) :
    Con Try.prog 26 [.v (Enc.pr (Enc.sl eBlk) (Enc.pr (Enc.sl (Enc.pr (Enc.int .i64) eBlk)) (Enc.int .i64))) a0] (.v (Enc.int .i64) r) [] := by
  refine Con.of Try.func26 rfl Try.ntmps26 rfl ?_
  intro S w hF
  unfold m_ref_DiskMay at h
  refine W.seq ?_
  refine W.reg (σ' := ⟨[(1, .ptr 101 0)], [(101, .box 49 [.v (Enc.sl eBlk) a0.1, .v (Enc.sl (Enc.pr (Enc.int .i64) eBlk)) a0.2.1, .v (Enc.int .i64) a0.2.2])]⟩) (J.cons (.none rfl) (JO.box 101 rfl (.prm (.one _ _) (.prm (.one _ _) (.one _ _))) rfl) rfl rfl (J.cons (.none rfl) (JO.assign rfl) rfl rfl (J.fin (Sw.Sub.mk id (.cons rfl (.of_eq rfl) .nil) (.box rfl (.cons (.of_eq rfl) (.cons (.of_eq rfl) (.cons (.of_eq rfl) .nil))) .nil) rfl)))) ?_
  refine W.seq ?_
  refine W.seq ?_
  obtain ⟨x3, hx, h⟩ := bind_e h
  refine W.reg (σ' := ⟨[(1, .ptr 101 0), (19, .v Enc.bool x3)], [(101, .box 49 [.v (Enc.sl eBlk) a0.1, .v (Enc.sl (Enc.pr (Enc.int .i64) eBlk)) a0.2.1, .v (Enc.int .i64) a0.2.2])]⟩) ?_ ?_
  · rcases Bool.eq_false_or_eq_true (cm .lss (a0.1.length : Int) (1 : Int)) with hc4 | hc4
    · replace hx := cond_t hc4 hx
      obtain rfl := Option.some.inj hx
      exact (J.cons (.none rfl) (JO.fieldPtr 0 rfl Try.runUnderlying49 rfl Try.sizeOf22 rfl rfl) rfl rfl (J.cons (.none rfl) (JO.load rfl rfl rfl Try.isAgg22 Try.sizeOf22) rfl rfl (J.cons (.none rfl) (JO.len rfl Try.runUnderlying22) rfl rfl (J.cons (.none rfl) (JO.cmp rfl rfl rfl) rfl rfl (J.cons (.none rfl) (JO.move rfl) rfl rfl (J.left (GK.unmet 8 rfl rfl rfl hc4) rfl (J.left (GK.unmet 8 rfl rfl rfl hc4) rfl (J.left (GK.unmet 8 rfl rfl rfl hc4) rfl (J.left (GK.unmet 8 rfl rfl rfl hc4) rfl (J.cons (.none rfl) (JO.pT hc4 rfl rfl) rfl rfl (J.cons (.none rfl) (JO.move rfl) rfl rfl (J.left (GK.unmet 14 rfl rfl rfl rfl) rfl (J.left (GK.unmet 14 rfl rfl rfl rfl) rfl (J.left (GK.unmet 14 rfl rfl rfl rfl) rfl (J.left (GK.unmet 14 rfl rfl rfl rfl) rfl (J.cons (.none rfl) (JO.pT rfl rfl rfl) rfl rfl (J.fin (Sw.Sub.mk id (.cons rfl (.of_eq rfl) (.cons rfl (.of_eq rfl) .nil)) (.box rfl (.cons (.of_eq rfl) (.cons (.of_eq rfl) (.cons (.of_eq rfl) .nil))) .nil) rfl))))))))))))))))))
    · replace hx := cond_f hc4 hx
      rcases Bool.eq_false_or_eq_true (cm .gtr (a0.1.length : Int) (200 : Int)) with hc5 | hc5
      · replace hx := cond_t hc5 hx
        obtain rfl := Option.some.inj hx
        exact (J.cons (.none rfl) (JO.fieldPtr 0 rfl Try.runUnderlying49 rfl Try.sizeOf22 rfl rfl) rfl rfl (J.cons (.none rfl) (JO.load rfl rfl rfl Try.isAgg22 Try.sizeOf22) rfl rfl (J.cons (.none rfl) (JO.len rfl Try.runUnderlying22) rfl rfl (J.cons (.none rfl) (JO.cmp rfl rfl rfl) rfl rfl (J.cons (.none rfl) (JO.move rfl) rfl rfl (J.cons (GK.met 8 rfl rfl rfl hc4) (JO.fieldPtr 0 rfl Try.runUnderlying49 rfl Try.sizeOf22 rfl rfl) rfl rfl (J.cons (GK.met 8 rfl rfl rfl hc4) (JO.load rfl rfl rfl Try.isAgg22 Try.sizeOf22) rfl rfl (J.cons (GK.met 8 rfl rfl rfl hc4) (JO.len rfl Try.runUnderlying22) rfl rfl (J.cons (GK.met 8 rfl rfl rfl hc4) (JO.cmp rfl rfl rfl) rfl rfl (J.cons (.none rfl) (JO.pF hc4 rfl rfl) rfl rfl (J.cons (.none rfl) (JO.move rfl) rfl rfl (J.left (GK.unmet 14 rfl rfl rfl hc5) rfl (J.left (GK.unmet 14 rfl rfl rfl hc5) rfl (J.left (GK.unmet 14 rfl rfl rfl hc5) rfl (J.left (GK.unmet 14 rfl rfl rfl hc5) rfl (J.cons (.none rfl) (JO.pT hc5 rfl rfl) rfl rfl (J.fin (Sw.Sub.mk id (.cons rfl (.of_eq rfl) (.cons rfl (.of_eq rfl) .nil)) (.box rfl (.cons (.of_eq rfl) (.cons (.of_eq rfl) (.cons (.of_eq rfl) .nil))) .nil) rfl))))))))))))))))))
      · replace hx := cond_f hc5 hx
        obtain rfl := Option.some.inj hx
        exact (J.cons (.none rfl) (JO.fieldPtr 0 rfl Try.runUnderlying49 rfl Try.sizeOf22 rfl rfl) rfl rfl (J.cons (.none rfl) (JO.load rfl rfl rfl Try.isAgg22 Try.sizeOf22) rfl rfl (J.cons (.none rfl) (JO.len rfl Try.runUnderlying22) rfl rfl (J.cons (.none rfl) (JO.cmp rfl rfl rfl) rfl rfl (J.cons (.none rfl) (JO.move rfl) rfl rfl (J.cons (GK.met 8 rfl rfl rfl hc4) (JO.fieldPtr 0 rfl Try.runUnderlying49 rfl Try.sizeOf22 rfl rfl) rfl rfl (J.cons (GK.met 8 rfl rfl rfl hc4) (JO.load rfl rfl rfl Try.isAgg22 Try.sizeOf22) rfl rfl (J.cons (GK.met 8 rfl rfl rfl hc4) (JO.len rfl Try.runUnderlying22) rfl rfl (J.cons (GK.met 8 rfl rfl rfl hc4) (JO.cmp rfl rfl rfl) rfl rfl (J.cons (.none rfl) (JO.pF hc4 rfl rfl) rfl rfl (J.cons (.none rfl) (JO.move rfl) rfl rfl (J.cons (GK.met 14 rfl rfl rfl hc5) (JO.fieldPtr 1 rfl Try.runUnderlying49 rfl Try.sizeOf47 rfl rfl) rfl rfl (J.cons (GK.met 14 rfl rfl rfl hc5) (JO.load rfl rfl rfl Try.isAgg47 Try.sizeOf47) rfl rfl (J.cons (GK.met 14 rfl rfl rfl hc5) (JO.len rfl Try.runUnderlying47) rfl rfl (J.cons (GK.met 14 rfl rfl rfl hc5) (JO.cmp rfl rfl rfl) rfl rfl (J.cons (.none rfl) (JO.pF hc5 rfl rfl) rfl rfl (J.fin (Sw.Sub.mk id (.cons rfl (.of_eq rfl) (.cons rfl (.of_eq rfl) .nil)) (.box rfl (.cons (.of_eq rfl) (.cons (.of_eq rfl) (.cons (.of_eq rfl) .nil))) .nil) rfl))))))))))))))))))
  rcases Bool.eq_false_or_eq_true x3 with hc6 | hc6
  · replace h := cond_t hc6 h
    refine W.condT rfl hc6 ?_
    refine W.seq ?_
    refine W.reg (σ' := ⟨[(2, .v (Enc.int .i64) (2 : Int))], []⟩) (J.cons (.none rfl) (JO.assign rfl) rfl rfl (J.fin (Sw.Sub.mk id (.cons rfl (.of_eq rfl) .nil) .nil rfl))) ?_
    refine W.ret ?_
    obtain rfl := Option.some.inj h
    exact XQ.sub (σ' := ⟨[(2, .v (Enc.int .i64) (2 : Int))], []⟩) (Sw.Sub.mk id (.cons rfl (.of_eq rfl) .nil) .nil rfl) (XQ.ret1 hF noR rfl (RV.tmp rfl) .nil rfl)
  · replace h := cond_f hc6 h
    refine W.condF rfl hc6 ?_
    refine W.skip ?_
    refine W.seq ?_
    refine W.seq ?_
    refine W.reg (σ' := ⟨[(1, .ptr 101 0), (3, .v (Enc.int .i64) (0 : Int))], [(101, .box 49 [.v (Enc.sl eBlk) a0.1, .v (Enc.sl (Enc.pr (Enc.int .i64) eBlk)) a0.2.1, .v (Enc.int .i64) a0.2.2])]⟩) (J.cons (.none rfl) (JO.assign rfl) rfl rfl (J.fin (Sw.Sub.mk id (.cons rfl (.of_eq rfl) (.cons rfl (.of_eq rfl) .nil)) (.box rfl (.cons (.of_eq rfl) (.cons (.of_eq rfl) (.cons (.of_eq rfl) .nil))) .nil) rfl))) ?_
    obtain ⟨o37, ho37, hb37, hr37⟩ := lp_elim h
    refine W.lp (σs := fun s27 : Int => ⟨[(1, .ptr 101 0), (3, .v (Enc.int .i64) s27)], [(101, .box 49 [.v (Enc.sl eBlk) a0.1, .v (Enc.sl (Enc.pr (Enc.int .i64) eBlk)) a0.2.1, .v (Enc.int .i64) a0.2.2])]⟩) (fun x38 : Unit => ⟨[], []⟩) ho37 (Sw.Sub.mk id (.cons rfl (.of_eq rfl) (.cons rfl (.of_eq rfl) .nil)) (.box rfl (.cons (.of_eq rfl) (.cons (.of_eq rfl) (.cons (.of_eq rfl) .nil))) .nil) rfl) ?_ ?_
    · intro x38 hy
      have h := hb37 _ hy
      refine W.seq ?_
      refine W.reg (σ' := ⟨[(2, .v (Enc.int .i64) (0 : Int))], []⟩) (J.cons (.none rfl) (JO.assign rfl) rfl rfl (J.fin (Sw.Sub.mk id (.cons rfl (.of_eq rfl) .nil) .nil rfl))) ?_
      refine W.ret ?_
      obtain rfl := Option.some.inj h
      exact XQ.sub (σ' := ⟨[(2, .v (Enc.int .i64) (0 : Int))], []⟩) (Sw.Sub.mk id (.cons rfl (.of_eq rfl) .nil) .nil rfl) (XQ.ret1 hF noR rfl (RV.tmp rfl) .nil rfl)
    intro s27 r37 h
    refine W.seq ?_
    refine W.seq ?_
    refine W.reg (σ' := ⟨[(1, .ptr 101 0), (3, .v (Enc.int .i64) s27), (24, .v Enc.bool (cm .lss s27 (a0.2.1.length : Int)))], [(101, .box 49 [.v (Enc.sl eBlk) a0.1, .v (Enc.sl (Enc.pr (Enc.int .i64) eBlk)) a0.2.1, .v (Enc.int .i64) a0.2.2])]⟩) (J.cons (.none rfl) (JO.move rfl) rfl rfl (J.cons (.none rfl) (JO.fieldPtr 1 rfl Try.runUnderlying49 rfl Try.sizeOf47 rfl rfl) rfl rfl (J.cons (.none rfl) (JO.load rfl rfl rfl Try.isAgg47 Try.sizeOf47) rfl rfl (J.cons (.none rfl) (JO.len rfl Try.runUnderlying47) rfl rfl (J.cons (.none rfl) (JO.cmp rfl rfl rfl) rfl rfl (J.fin (Sw.Sub.mk id (.cons rfl (.of_eq rfl) (.cons rfl (.of_eq rfl) (.cons rfl (.of_eq rfl) .nil))) (.box rfl (.cons (.of_eq rfl) (.cons (.of_eq rfl) (.cons (.of_eq rfl) .nil))) .nil) rfl))))))) ?_
    rcases Bool.eq_false_or_eq_true (cm .lss s27 (a0.2.1.length : Int)) with hc39 | hc39
    · replace h := cond_t hc39 h
      refine W.condT rfl hc39 ?_
      refine W.skip ?_
      refine W.seq ?_
      refine W.block ?_
      refine W.seq ?_
      obtain ⟨x43, hx, h⟩ := bind_e h
      refine W.mg (σ' := ⟨[(1, .ptr 101 0), (3, .v (Enc.int .i64) s27), (45, .v Enc.bool x43)], [(101, .box 49 [.v (Enc.sl eBlk) a0.1, .v (Enc.sl (Enc.pr (Enc.int .i64) eBlk)) a0.2.1, .v (Enc.int .i64) a0.2.2])]⟩) ?_ ?_
      · intro hk
        obtain ⟨z44, hz44, hx⟩ := bind_e hx
        rcases Bool.eq_false_or_eq_true (cm .lss z44.1 (0 : Int)) with hc45 | hc45
        · replace hx := cond_t hc45 hx
          obtain rfl := Option.some.inj hx
          exact W.dr (σ' := ⟨[(1, .ptr 101 0), (3, .v (Enc.int .i64) s27), (45, .v Enc.bool true)], [(101, .box 49 [.v (Enc.sl eBlk) a0.1, .v (Enc.sl (Enc.pr (Enc.int .i64) eBlk)) a0.2.1, .v (Enc.int .i64) a0.2.2])]⟩) 19 mixed (by exact (.cons (.none rfl) (JO.fieldPtr 1 rfl Try.runUnderlying49 rfl Try.sizeOf47 rfl rfl) rfl rfl (.cons (.none rfl) (JO.load rfl rfl rfl Try.isAgg47 Try.sizeOf47) rfl rfl (.cons (.none rfl) (JO.move rfl) rfl rfl (.cons (.none rfl) (JO.idx hz44 rfl rfl Try.runUnderlying47 Try.sizeOf85) rfl rfl (.cons (.none rfl) (JO.fieldPst rfl Try.runUnderlying85 rfl Try.sizeOf3 rfl (.fst .here) rfl) rfl rfl (.cons (.none rfl) (JO.loadPst rfl Try.isAgg3 Try.sizeOf3) rfl rfl (.cons (.none rfl) (JO.cmp rfl rfl rfl) rfl rfl (.cons (.none rfl) (JO.move rfl) rfl rfl (.left (GK.unmet 34 rfl rfl rfl hc45) rfl (.left (GK.unmet 34 rfl rfl rfl hc45) rfl (.left (GK.unmet 34 rfl rfl rfl hc45) rfl (.left (GK.unmet 34 rfl rfl rfl hc45) rfl (.left (GK.unmet 34 rfl rfl rfl hc45) rfl (.left (GK.unmet 34 rfl rfl rfl hc45) rfl (.left (GK.unmet 34 rfl rfl rfl hc45) rfl (.left (GK.unmet 34 rfl rfl rfl hc45) rfl (.left (GK.unmet 34 rfl rfl rfl hc45) rfl (.left (GK.unmet 34 rfl rfl rfl hc45) rfl (.cons (.none rfl) (JO.pT hc45 rfl rfl) rfl rfl .nil)))))))))))))))))))) (by exact (J.fin (Sw.Sub.mk id (.cons rfl (.of_eq rfl) (.cons rfl (.of_eq rfl) (.cons rfl (.of_eq rfl) .nil))) (.box rfl (.cons (.of_eq rfl) (.cons (.of_eq rfl) (.cons (.of_eq rfl) .nil))) .nil) rfl))) (by decide +kernel) (by decide +kernel) (by decide +kernel) hk
        · replace hx := cond_f hc45 hx
          obtain ⟨z46, hz46, hx⟩ := bind_e hx
          obtain rfl := Option.some.inj hx
          exact W.dr (σ' := ⟨[(1, .ptr 101 0), (3, .v (Enc.int .i64) s27), (45, .v Enc.bool (cm .geq z46.1 (a0.1.length : Int)))], [(101, .box 49 [.v (Enc.sl eBlk) a0.1, .v (Enc.sl (Enc.pr (Enc.int .i64) eBlk)) a0.2.1, .v (Enc.int .i64) a0.2.2])]⟩) 19 mixed (by exact (.cons (.none rfl) (JO.fieldPtr 1 rfl Try.runUnderlying49 rfl Try.sizeOf47 rfl rfl) rfl rfl (.cons (.none rfl) (JO.load rfl rfl rfl Try.isAgg47 Try.sizeOf47) rfl rfl (.cons (.none rfl) (JO.move rfl) rfl rfl (.cons (.none rfl) (JO.idx hz44 rfl rfl Try.runUnderlying47 Try.sizeOf85) rfl rfl (.cons (.none rfl) (JO.fieldPst rfl Try.runUnderlying85 rfl Try.sizeOf3 rfl (.fst .here) rfl) rfl rfl (.cons (.none rfl) (JO.loadPst rfl Try.isAgg3 Try.sizeOf3) rfl rfl (.cons (.none rfl) (JO.cmp rfl rfl rfl) rfl rfl (.cons (.none rfl) (JO.move rfl) rfl rfl (.cons (GK.met 34 rfl rfl rfl hc45) (JO.fieldPtr 1 rfl Try.runUnderlying49 rfl Try.sizeOf47 rfl rfl) rfl rfl (.cons (GK.met 34 rfl rfl rfl hc45) (JO.load rfl rfl rfl Try.isAgg47 Try.sizeOf47) rfl rfl (.cons (GK.met 34 rfl rfl rfl hc45) (JO.move rfl) rfl rfl (.cons (GK.met 34 rfl rfl rfl hc45) (JO.idx hz46 rfl rfl Try.runUnderlying47 Try.sizeOf85) rfl rfl (.cons (GK.met 34 rfl rfl rfl hc45) (JO.fieldPst rfl Try.runUnderlying85 rfl Try.sizeOf3 rfl (.fst .here) rfl) rfl rfl (.cons (GK.met 34 rfl rfl rfl hc45) (JO.loadPst rfl Try.isAgg3 Try.sizeOf3) rfl rfl (.cons (GK.met 34 rfl rfl rfl hc45) (JO.fieldPtr 0 rfl Try.runUnderlying49 rfl Try.sizeOf22 rfl rfl) rfl rfl (.cons (GK.met 34 rfl rfl rfl hc45) (JO.load rfl rfl rfl Try.isAgg22 Try.sizeOf22) rfl rfl (.cons (GK.met 34 rfl rfl rfl hc45) (JO.len rfl Try.runUnderlying22) rfl rfl (.cons (GK.met 34 rfl rfl rfl hc45) (JO.cmp rfl rfl rfl) rfl rfl (.cons (.none rfl) (JO.pF hc45 rfl rfl) rfl rfl .nil)))))))))))))))))))) (by exact (J.fin (Sw.Sub.mk id (.cons rfl (.of_eq rfl) (.cons rfl (.of_eq rfl) (.cons rfl (.of_eq rfl) .nil))) (.box rfl (.cons (.of_eq rfl) (.cons (.of_eq rfl) (.cons (.of_eq rfl) .nil))) .nil) rfl))) (by decide +kernel) (by decide +kernel) (by decide +kernel) hk
      rcases Bool.eq_false_or_eq_true x43 with hc47 | hc47
      · replace h := cond_t hc47 h
        refine W.condT rfl hc47 ?_
        refine W.seq ?_
        refine W.reg (σ' := ⟨[(2, .v (Enc.int .i64) (1 : Int))], []⟩) (J.cons (.none rfl) (JO.assign rfl) rfl rfl (J.fin (Sw.Sub.mk id (.cons rfl (.of_eq rfl) .nil) .nil rfl))) ?_
        refine W.ret ?_
        refine XQ.ret ?_
        obtain rfl := Option.some.inj h
        refine XQ.lret fun ho => ?_
        obtain rfl := hr37 _ ho
        exact XQ.sub (σ' := ⟨[(2, .v (Enc.int .i64) (1 : Int))], []⟩) (Sw.Sub.mk id (.cons rfl (.of_eq rfl) .nil) .nil rfl) (XQ.ret1 hF noR rfl (RV.tmp rfl) .nil rfl)
      · replace h := cond_f hc47 h
        refine W.condF rfl hc47 ?_
        refine W.skip ?_
        refine W.fall ?_
        refine W.reg (σ' := ⟨[(1, .ptr 101 0), (3, .v (Enc.int .i64) (ar .add .i64 s27 (1 : Int)))], [(101, .box 49 [.v (Enc.sl eBlk) a0.1, .v (Enc.sl (Enc.pr (Enc.int .i64) eBlk)) a0.2.1, .v (Enc.int .i64) a0.2.2])]⟩) (J.cons (.none rfl) (JO.move rfl) rfl rfl (J.cons (.none rfl) (JO.arith rfl rfl rfl) rfl rfl (J.cons (.none rfl) (JO.assign rfl) rfl rfl (J.fin (Sw.Sub.mk id (.cons rfl (.of_eq rfl) (.cons rfl (.of_eq rfl) .nil)) (.box rfl (.cons (.of_eq rfl) (.cons (.of_eq rfl) (.cons (.of_eq rfl) .nil))) .nil) rfl))))) ?_
        obtain rfl := Option.some.inj h
        exact W.next (Sw.Sub.mk id (.cons rfl (.of_eq rfl) (.cons rfl (.of_eq rfl) .nil)) (.box rfl (.cons (.of_eq rfl) (.cons (.of_eq rfl) (.cons (.of_eq rfl) .nil))) .nil) rfl)
    · replace h := cond_f hc39 h
      refine W.condF rfl hc39 ?_
      refine W.exit ?_
      obtain rfl := Option.some.inj h
      exact XQ.brk (Sw.Sub.mk id .nil .nil rfl)
set_option maxRecDepth 100000 in
set_option maxHeartbeats 4000000 in
theorem con_disk_Check_1 {a0 : (Int × Blk)} {a1 : ((List Blk) × (List (Int × Blk)) × Int)} {r : Bool} (h : m_disk_Check_1 a0 a1 = some r) :
    Con Try.prog 87 [.v (Enc.pr (Enc.int .i64) eBlk) a0, .pst (Enc.pr (Enc.sl eBlk) (Enc.pr (Enc.sl (Enc.pr (Enc.int .i64) eBlk)) (Enc.int .i64))) a1] (.v Enc.bool r) [] := by
  refine Con.of Try.func87 rfl Try.ntmps87 rfl ?_
  intro S w hF
  unfold m_disk_Check_1 at h
  refine W.seq ?_
  refine W.reg (σ' := ⟨[(1, .pst (Enc.pr (Enc.sl eBlk) (Enc.pr (Enc.sl (Enc.pr (Enc.int .i64) eBlk)) (Enc.int .i64))) a1), (2, .ptr 101 0)], [(101, .box 85 [.v (Enc.int .i64) a0.1, .v eBlk a0.2])]⟩) (J.cons (.none rfl) (JO.box 101 rfl (.prm (.one _ _) (.one _ _)) rfl) rfl rfl (J.cons (.none rfl) (JO.assign rfl) rfl rfl (J.fin (Sw.Sub.mk id (.cons rfl (.of_eq rfl) (.cons rfl (.of_eq rfl) .nil)) (.box rfl (.cons (.of_eq rfl) (.cons (.of_eq rfl) .nil)) .nil) rfl)))) ?_
  refine W.seq ?_
  obtain ⟨x2, hx, h⟩ := bind_e h
  refine W.reg (σ' := ⟨[(3, .v Enc.bool x2)], []⟩) ?_ ?_
  · rcases Bool.eq_false_or_eq_true (cm .lss a0.1 (0 : Int)) with hc3 | hc3
    · replace hx := cond_t hc3 hx
      obtain rfl := Option.some.inj hx
      exact (J.cons (.none rfl) (JO.fieldPtr 0 rfl Try.runUnderlying85 rfl Try.sizeOf3 rfl rfl) rfl rfl (J.cons (.none rfl) (JO.load rfl rfl rfl Try.isAgg3 Try.sizeOf3) rfl rfl (J.cons (.none rfl) (JO.cmp rfl rfl rfl) rfl rfl (J.cons (.none rfl) (JO.move rfl) rfl rfl (J.left (GK.unmet 7 rfl rfl rfl hc3) rfl (J.left (GK.unmet 7 rfl rfl rfl hc3) rfl (J.left (GK.unmet 7 rfl rfl rfl hc3) rfl (J.left (GK.unmet 7 rfl rfl rfl hc3) rfl (J.left (GK.unmet 7 rfl rfl rfl hc3) rfl (J.left (GK.unmet 7 rfl rfl rfl hc3) rfl (J.cons (.none rfl) (JO.pT hc3 rfl rfl) rfl rfl (J.cons (.none rfl) (JO.assign rfl) rfl rfl (J.fin (Sw.Sub.mk id (.cons rfl (.of_eq rfl) .nil) .nil rfl))))))))))))))
    · replace hx := cond_f hc3 hx
      obtain rfl := Option.some.inj hx
      exact (J.cons (.none rfl) (JO.fieldPtr 0 rfl Try.runUnderlying85 rfl Try.sizeOf3 rfl rfl) rfl rfl (J.cons (.none rfl) (JO.load rfl rfl rfl Try.isAgg3 Try.sizeOf3) rfl rfl (J.cons (.none rfl) (JO.cmp rfl rfl rfl) rfl rfl (J.cons (.none rfl) (JO.move rfl) rfl rfl (J.cons (GK.met 7 rfl rfl rfl hc3) (JO.fieldPtr 0 rfl Try.runUnderlying85 rfl Try.sizeOf3 rfl rfl) rfl rfl (J.cons (GK.met 7 rfl rfl rfl hc3) (JO.load rfl rfl rfl Try.isAgg3 Try.sizeOf3) rfl rfl (J.cons (GK.met 7 rfl rfl rfl hc3) (JO.fieldPst rfl Try.runUnderlying49 rfl Try.sizeOf22 rfl (.fst .here) rfl) rfl rfl (J.cons (GK.met 7 rfl rfl rfl hc3) (JO.loadPst rfl Try.isAgg22 Try.sizeOf22) rfl rfl (J.cons (GK.met 7 rfl rfl rfl hc3) (JO.len rfl Try.runUnderlying22) rfl rfl (J.cons (GK.met 7 rfl rfl rfl hc3) (JO.cmp rfl rfl rfl) rfl rfl (J.cons (.none rfl) (JO.pF hc3 rfl rfl) rfl rfl (J.cons (.none rfl) (JO.assign rfl) rfl rfl (J.fin (Sw.Sub.mk id (.cons rfl (.of_eq rfl) .nil) .nil rfl))))))))))))))
  refine W.ret ?_
  obtain rfl := Option.some.inj h
  exact XQ.sub (σ' := ⟨[(3, .v Enc.bool x2)], []⟩) (Sw.Sub.mk id (.cons rfl (.of_eq rfl) .nil) .nil rfl) (XQ.ret1 hF noR rfl (RV.tmp rfl) .nil rfl)
set_option maxRecDepth 100000 in
set_option maxHeartbeats 4000000 in
theorem con_slices_IndexFunc_api_Put_api_Put__disk_Check_1 {a0 : (List (Int × Blk))} {a1_0 : ((List Blk) × (List (Int × Blk)) × Int)} {r : Int} (h : m_slices_IndexFunc_api_Put_api_Put__disk_Check_1 a0 a1_0 = some r) :
    Con Try.prog 95 [.v (Enc.sl (Enc.pr (Enc.int .i64) eBlk)) a0, .fnc 87 [.pst (Enc.pr (Enc.sl eBlk) (Enc.pr (Enc.sl (Enc.pr (Enc.int .i64) eBlk)) (Enc.int .i64))) a1_0]] (.v (Enc.int .i64) r) [] := by
  refine Con.of Try.func95 rfl Try.ntmps95 rfl ?_
  intro S w hF
  unfold m_slices_IndexFunc_api_Put_api_Put__disk_Check_1 at h
  refine W.seq ?_
  refine W.reg (σ' := ⟨[(0, .v (Enc.sl (Enc.pr (Enc.int .i64) eBlk)) a0), (1, .fnc 87 [.pst (Enc.pr (Enc.sl eBlk) (Enc.pr (Enc.sl (Enc.pr (Enc.int .i64) eBlk)) (Enc.int .i64))) a1_0])], []⟩) (J.cons (.none rfl) (JO.assign rfl) rfl rfl (J.fin (Sw.Sub.mk id (.cons rfl (.of_eq rfl) (.cons rfl (.of_eq rfl) .nil)) .nil rfl))) ?_
  refine W.seq ?_
  refine W.seq ?_
  refine W.reg (σ' := ⟨[(0, .v (Enc.sl (Enc.pr (Enc.int .i64) eBlk)) a0), (1, .fnc 87 [.pst (Enc.pr (Enc.sl eBlk) (Enc.pr (Enc.sl (Enc.pr (Enc.int .i64) eBlk)) (Enc.int .i64))) a1_0]), (7, .v (Enc.int .i64) (a0.length : Int)), (8, .v (Enc.int .i64) (0 : Int))], []⟩) (J.cons (.none rfl) (JO.move rfl) rfl rfl (J.cons (.none rfl) (JO.len rfl Try.runUnderlying47) rfl rfl (J.cons (.none rfl) (JO.move rfl) rfl rfl (J.fin (Sw.Sub.mk id (.cons rfl (.of_eq rfl) (.cons rfl (.of_eq rfl) (.cons rfl (.of_eq rfl) (.cons rfl (.of_eq rfl) .nil)))) .nil rfl))))) ?_
  obtain ⟨o16, ho16, hb16, hr16⟩ := lp_elim h
  refine W.lp (σs := fun s11 : Int => ⟨[(0, .v (Enc.sl (Enc.pr (Enc.int .i64) eBlk)) a0), (1, .fnc 87 [.pst (Enc.pr (Enc.sl eBlk) (Enc.pr (Enc.sl (Enc.pr (Enc.int .i64) eBlk)) (Enc.int .i64))) a1_0]), (7, .v (Enc.int .i64) (a0.length : Int)), (8, .v (Enc.int .i64) s11)], []⟩) (fun x17 : Unit => ⟨[], []⟩) ho16 (Sw.Sub.mk id (.cons rfl (.of_eq rfl) (.cons rfl (.of_eq rfl) (.cons rfl (.of_eq rfl) (.cons rfl (.of_eq rfl) .nil)))) .nil rfl) ?_ ?_
  · intro x17 hy
    have h := hb16 _ hy
    refine W.seq ?_
    refine W.reg (σ' := ⟨[(4, .v (Enc.int .i64) (-1 : Int))], []⟩) (J.cons (.none rfl) (JO.assign rfl) rfl rfl (J.fin (Sw.Sub.mk id (.cons rfl (.of_eq rfl) .nil) .nil rfl))) ?_
    refine W.ret ?_
    obtain rfl := Option.some.inj h
    exact XQ.sub (σ' := ⟨[(4, .v (Enc.int .i64) (-1 : Int))], []⟩) (Sw.Sub.mk id (.cons rfl (.of_eq rfl) .nil) .nil rfl) (XQ.ret1 hF noR rfl (RV.tmp rfl) .nil rfl)
  intro s11 r16 h
  refine W.seq ?_
  refine W.reg (σ' := ⟨[(0, .v (Enc.sl (Enc.pr (Enc.int .i64) eBlk)) a0), (1, .fnc 87 [.pst (Enc.pr (Enc.sl eBlk) (Enc.pr (Enc.sl (Enc.pr (Enc.int .i64) eBlk)) (Enc.int .i64))) a1_0]), (7, .v (Enc.int .i64) (a0.length : Int)), (8, .v (Enc.int .i64) s11), (9, .v Enc.bool (cm .lss s11 (a0.length : Int)))], []⟩) (J.cons (.none rfl) (JO.cmp rfl rfl rfl) rfl rfl (J.fin (Sw.Sub.mk id (.cons rfl (.of_eq rfl) (.cons rfl (.of_eq rfl) (.cons rfl (.of_eq rfl) (.cons rfl (.of_eq rfl) (.cons rfl (.of_eq rfl) .nil))))) .nil rfl))) ?_
  refine W.seq ?_
  rcases Bool.eq_false_or_eq_true (cm .lss s11 (a0.length : Int)) with hc18 | hc18
  · replace h := cond_t hc18 h
    refine W.condT rfl hc18 ?_
    refine W.skip ?_
    refine W.seq ?_
    refine W.block ?_
    refine W.seq ?_
    refine W.reg (σ' := ⟨[(0, .v (Enc.sl (Enc.pr (Enc.int .i64) eBlk)) a0), (1, .fnc 87 [.pst (Enc.pr (Enc.sl eBlk) (Enc.pr (Enc.sl (Enc.pr (Enc.int .i64) eBlk)) (Enc.int .i64))) a1_0]), (5, .v (Enc.int .i64) s11), (7, .v (Enc.int .i64) (a0.length : Int)), (8, .v (Enc.int .i64) s11)], []⟩) (J.cons (.none rfl) (JO.move rfl) rfl rfl (J.cons (.none rfl) (JO.assign rfl) rfl rfl (J.fin (Sw.Sub.mk id (.cons rfl (.of_eq rfl) (.cons rfl (.of_eq rfl) (.cons rfl (.of_eq rfl) (.cons rfl (.of_eq rfl) (.cons rfl (.of_eq rfl) .nil))))) .nil rfl)))) ?_
    refine W.seq ?_
    obtain ⟨z19, hz19, h⟩ := bind_e h
    obtain ⟨v20, hv20, h⟩ := bind_e h
    refine W.reg (σ' := ⟨[(0, .v (Enc.sl (Enc.pr (Enc.int .i64) eBlk)) a0), (1, .fnc 87 [.pst (Enc.pr (Enc.sl eBlk) (Enc.pr (Enc.sl (Enc.pr (Enc.int .i64) eBlk)) (Enc.int .i64))) a1_0]), (5, .v (Enc.int .i64) s11), (7, .v (Enc.int .i64) (a0.length : Int)), (8, .v (Enc.int .i64) s11), (16, .v Enc.bool v20)], []⟩) (J.cons (.none rfl) (JO.move rfl) rfl rfl (J.cons (.none rfl) (JO.move rfl) rfl rfl (J.cons (.none rfl) (JO.move rfl) rfl rfl (J.cons (.none rfl) (JO.idx hz19 rfl rfl Try.runUnderlying47 Try.sizeOf85) rfl rfl (J.cons (.none rfl) (JO.loadPst rfl Try.isAgg85 Try.sizeOf85) rfl rfl (J.cons (.none rfl) (JO.callF0 rfl (con_disk_Check_1 hv20) Try.call87 (.cons (.dir rfl) .nil)) rfl rfl (J.fin (Sw.Sub.mk id (.cons rfl (.of_eq rfl) (.cons rfl (.of_eq rfl) (.cons rfl (.of_eq rfl) (.cons rfl (.of_eq rfl) (.cons rfl (.of_eq rfl) (.cons rfl (.of_eq rfl) .nil)))))) .nil rfl)))))))) ?_
    rcases Bool.eq_false_or_eq_true v20 with hc21 | hc21
    · replace h := cond_t hc21 h
      refine W.condT rfl hc21 ?_
      refine W.seq ?_
      refine W.reg (σ' := ⟨[(4, .v (Enc.int .i64) s11)], []⟩) (J.cons (.none rfl) (JO.move rfl) rfl rfl (J.cons (.none rfl) (JO.assign rfl) rfl rfl (J.fin (Sw.Sub.mk id (.cons rfl (.of_eq rfl) .nil) .nil rfl)))) ?_
      refine W.ret ?_
      refine XQ.ret ?_
      obtain rfl := Option.some.inj h
      refine XQ.lret fun ho => ?_
      obtain rfl := hr16 _ ho
      exact XQ.sub (σ' := ⟨[(4, .v (Enc.int .i64) s11)], []⟩) (Sw.Sub.mk id (.cons rfl (.of_eq rfl) .nil) .nil rfl) (XQ.ret1 hF noR rfl (RV.tmp rfl) .nil rfl)
    · replace h := cond_f hc21 h
      refine W.condF rfl hc21 ?_
      refine W.skip ?_
      refine W.fall ?_
      refine W.reg (σ' := ⟨[(0, .v (Enc.sl (Enc.pr (Enc.int .i64) eBlk)) a0), (1, .fnc 87 [.pst (Enc.pr (Enc.sl eBlk) (Enc.pr (Enc.sl (Enc.pr (Enc.int .i64) eBlk)) (Enc.int .i64))) a1_0]), (7, .v (Enc.int .i64) (a0.length : Int)), (8, .v (Enc.int .i64) (ar .add .i64 s11 (1 : Int)))], []⟩) (J.cons (.none rfl) (JO.arith rfl rfl rfl) rfl rfl (J.cons (.none rfl) (JO.move rfl) rfl rfl (J.fin (Sw.Sub.mk id (.cons rfl (.of_eq rfl) (.cons rfl (.of_eq rfl) (.cons rfl (.of_eq rfl) (.cons rfl (.of_eq rfl) .nil)))) .nil rfl)))) ?_
      obtain rfl := Option.some.inj h
      exact W.next (Sw.Sub.mk id (.cons rfl (.of_eq rfl) (.cons rfl (.of_eq rfl) (.cons rfl (.of_eq rfl) (.cons rfl (.of_eq rfl) .nil)))) .nil rfl)
  · replace h := cond_f hc18 h
    refine W.condF rfl hc18 ?_
    refine W.exit ?_
    obtain rfl := Option.some.inj h
    exact XQ.brk (Sw.Sub.mk id .nil .nil rfl)
set_option maxRecDepth 100000 in
set_option maxHeartbeats 4000000 in
theorem con_slices_ContainsFunc_api_Put_api_Put__disk_Check_1 {a0 : (List (Int × Blk))} {a1_0 : ((List Blk) × (List (Int × Blk)) × Int)} {r : Bool} (h : m_slices_ContainsFunc_api_Put_api_Put__disk_Check_1 a0 a1_0 = some r) :
    Con Try.prog 86 [.v (Enc.sl (Enc.pr (Enc.int .i64) eBlk)) a0, .fnc 87 [.pst (Enc.pr (Enc.sl eBlk) (Enc.pr (Enc.sl (Enc.pr (Enc.int .i64) eBlk)) (Enc.int .i64))) a1_0]] (.v Enc.bool r) [] := by
  refine Con.of Try.func86 rfl Try.ntmps86 rfl ?_
  intro S w hF
  unfold m_slices_ContainsFunc_api_Put_api_Put__disk_Check_1 at h
  refine W.seq ?_
  refine W.reg (σ' := ⟨[(0, .v (Enc.sl (Enc.pr (Enc.int .i64) eBlk)) a0), (1, .fnc 87 [.pst (Enc.pr (Enc.sl eBlk) (Enc.pr (Enc.sl (Enc.pr (Enc.int .i64) eBlk)) (Enc.int .i64))) a1_0])], []⟩) (J.cons (.none rfl) (JO.assign rfl) rfl rfl (J.fin (Sw.Sub.mk id (.cons rfl (.of_eq rfl) (.cons rfl (.of_eq rfl) .nil)) .nil rfl))) ?_
  refine W.seq ?_
  obtain ⟨v1, hv1, h⟩ := bind_e h
  refine W.reg (σ' := ⟨[(4, .v Enc.bool (cm .geq v1 (0 : Int)))], []⟩) (J.cons (.none rfl) (JO.move rfl) rfl rfl (J.cons (.none rfl) (JO.move rfl) rfl rfl (J.cons (.none rfl) (JO.call0 (con_slices_IndexFunc_api_Put_api_Put__disk_Check_1 hv1) Try.call95 (.cons (.dir rfl) (.cons (.dir rfl) .nil))) rfl rfl (J.cons (.none rfl) (JO.cmp rfl rfl rfl) rfl rfl (J.cons (.none rfl) (JO.assign rfl) rfl rfl (J.fin (Sw.Sub.mk id (.cons rfl (.of_eq rfl) .nil) .nil rfl))))))) ?_
  refine W.ret ?_
  obtain rfl := Option.some.inj h
  exact XQ.sub (σ' := ⟨[(4, .v Enc.bool (cm .geq v1 (0 : Int)))], []⟩) (Sw.Sub.mk id (.cons rfl (.of_eq rfl) .nil) .nil rfl) (XQ.ret1 hF noR rfl (RV.tmp rfl) .nil rfl)
set_option maxRecDepth 100000 in
set_option maxHeartbeats 4000000 in
theorem con_disk_Check {a0 : ((List Blk) × (List (Int × Blk)) × Int)} {r : (Option Int)} (h : m_disk_Check a0 = some r) :
    Con Try.prog 60 [.v (Enc.pr (Enc.sl eBlk) (Enc.pr (Enc.sl (Enc.pr (Enc.int .i64) eBlk)) (Enc.int .i64))) a0] (.v (Enc.err ET) r) [] := by
  refine Con.of Try.func60 rfl Try.ntmps60 rfl ?_
  intro S w hF
  unfold m_disk_Check at h
  refine W.seq ?_
  refine W.reg (σ' := ⟨[(1, .ptr 101 0)], [(101, .box 49 [.v (Enc.sl eBlk) a0.1, .v (Enc.sl (Enc.pr (Enc.int .i64) eBlk)) a0.2.1, .v (Enc.int .i64) a0.2.2])]⟩) (J.cons (.none rfl) (JO.box 101 rfl (.prm (.one _ _) (.prm (.one _ _) (.one _ _))) rfl) rfl rfl (J.cons (.none rfl) (JO.assignNilE ET) rfl rfl (J.fin (Sw.Sub.mk id (.cons rfl (.of_eq rfl) .nil) (.box rfl (.cons (.of_eq rfl) (.cons (.of_eq rfl) (.cons (.of_eq rfl) .nil))) .nil) rfl)))) ?_
  refine W.seq ?_
  refine W.seq ?_
  obtain ⟨x3, hx, h⟩ := bind_e h
  refine W.reg (σ' := ⟨[(1, .ptr 101 0), (18, .v Enc.bool x3)], [(101, .box 49 [.v (Enc.sl eBlk) a0.1, .v (Enc.sl (Enc.pr (Enc.int .i64) eBlk)) a0.2.1, .v (Enc.int .i64) a0.2.2])]⟩) ?_ ?_
  · rcases Bool.eq_false_or_eq_true (cm .lss (a0.1.length : Int) (1 : Int)) with hc4 | hc4
    · replace hx := cond_t hc4 hx
      obtain rfl := Option.some.inj hx
      exact (J.cons (.none rfl) (JO.fieldPtr 0 rfl Try.runUnderlying49 rfl Try.sizeOf22 rfl rfl) rfl rfl (J.cons (.none rfl) (JO.load rfl rfl rfl Try.isAgg22 Try.sizeOf22) rfl rfl (J.cons (.none rfl) (JO.len rfl Try.runUnderlying22) rfl rfl (J.cons (.none rfl) (JO.cmp rfl rfl rfl) rfl rfl (J.cons (.none rfl) (JO.move rfl) rfl rfl (J.left (GK.unmet 7 rfl rfl rfl hc4) rfl (J.left (GK.unmet 7 rfl rfl rfl hc4) rfl (J.left (GK.unmet 7 rfl rfl rfl hc4) rfl (J.left (GK.unmet 7 rfl rfl rfl hc4) rfl (J.cons (.none rfl) (JO.pT hc4 rfl rfl) rfl rfl (J.cons (.none rfl) (JO.move rfl) rfl rfl (J.left (GK.unmet 13 rfl rfl rfl rfl) rfl (J.left (GK.unmet 13 rfl rfl rfl rfl) rfl (J.left (GK.unmet 13 rfl rfl rfl rfl) rfl (J.left (GK.unmet 13 rfl rfl rfl rfl) rfl (J.cons (.none rfl) (JO.pT rfl rfl rfl) rfl rfl (J.fin (Sw.Sub.mk id (.cons rfl (.of_eq rfl) (.cons rfl (.of_eq rfl) .nil)) (.box rfl (.cons (.of_eq rfl) (.cons (.of_eq rfl) (.cons (.of_eq rfl) .nil))) .nil) rfl))))))))))))))))))
    · replace hx := cond_f hc4 hx
      rcases Bool.eq_false_or_eq_true (cm .gtr (a0.1.length : Int) (200 : Int)) with hc5 | hc5
      · replace hx := cond_t hc5 hx
        obtain rfl := Option.some.inj hx
        exact (J.cons (.none rfl) (JO.fieldPtr 0 rfl Try.runUnderlying49 rfl Try.sizeOf22 rfl rfl) rfl rfl (J.cons (.none rfl) (JO.load rfl rfl rfl Try.isAgg22 Try.sizeOf22) rfl rfl (J.cons (.none rfl) (JO.len rfl Try.runUnderlying22) rfl rfl (J.cons (.none rfl) (JO.cmp rfl rfl rfl) rfl rfl (J.cons (.none rfl) (JO.move rfl) rfl rfl (J.cons (GK.met 7 rfl rfl rfl hc4) (JO.fieldPtr 0 rfl Try.runUnderlying49 rfl Try.sizeOf22 rfl rfl) rfl rfl (J.cons (GK.met 7 rfl rfl rfl hc4) (JO.load rfl rfl rfl Try.isAgg22 Try.sizeOf22) rfl rfl (J.cons (GK.met 7 rfl rfl rfl hc4) (JO.len rfl Try.runUnderlying22) rfl rfl (J.cons (GK.met 7 rfl rfl rfl hc4) (JO.cmp rfl rfl rfl) rfl rfl (J.cons (.none rfl) (JO.pF hc4 rfl rfl) rfl rfl (J.cons (.none rfl) (JO.move rfl) rfl rfl (J.left (GK.unmet 13 rfl rfl rfl hc5) rfl (J.left (GK.unmet 13 rfl rfl rfl hc5) rfl (J.left (GK.unmet 13 rfl rfl rfl hc5) rfl (J.left (GK.unmet 13 rfl rfl rfl hc5) rfl (J.cons (.none rfl) (JO.pT hc5 rfl rfl) rfl rfl (J.fin (Sw.Sub.mk id (.cons rfl (.of_eq rfl) (.cons rfl (.of_eq rfl) .nil)) (.box rfl (.cons (.of_eq rfl) (.cons (.of_eq rfl) (.cons (.of_eq rfl) .nil))) .nil) rfl))))))))))))))))))
      · replace hx := cond_f hc5 hx
        obtain rfl := Option.some.inj hx
        exact (J.cons (.none rfl) (JO.fieldPtr 0 rfl Try.runUnderlying49 rfl Try.sizeOf22 rfl rfl) rfl rfl (J.cons (.none rfl) (JO.load rfl rfl rfl Try.isAgg22 Try.sizeOf22) rfl rfl (J.cons (.none rfl) (JO.len rfl Try.runUnderlying22) rfl rfl (J.cons (.none rfl) (JO.cmp rfl rfl rfl) rfl rfl (J.cons (.none rfl) (JO.move rfl) rfl rfl (J.cons (GK.met 7 rfl rfl rfl hc4) (JO.fieldPtr 0 rfl Try.runUnderlying49 rfl Try.sizeOf22 rfl rfl) rfl rfl (J.cons (GK.met 7 rfl rfl rfl hc4) (JO.load rfl rfl rfl Try.isAgg22 Try.sizeOf22) rfl rfl (J.cons (GK.met 7 rfl rfl rfl hc4) (JO.len rfl Try.runUnderlying22) rfl rfl (J.cons (GK.met 7 rfl rfl rfl hc4) (JO.cmp rfl rfl rfl) rfl rfl (J.cons (.none rfl) (JO.pF hc4 rfl rfl) rfl rfl (J.cons (.none rfl) (JO.move rfl) rfl rfl (J.cons (GK.met 13 rfl rfl rfl hc5) (JO.fieldPtr 1 rfl Try.runUnderlying49 rfl Try.sizeOf47 rfl rfl) rfl rfl (J.cons (GK.met 13 rfl rfl rfl hc5) (JO.load rfl rfl rfl Try.isAgg47 Try.sizeOf47) rfl rfl (J.cons (GK.met 13 rfl rfl rfl hc5) (JO.len rfl Try.runUnderlying47) rfl rfl (J.cons (GK.met 13 rfl rfl rfl hc5) (JO.cmp rfl rfl rfl) rfl rfl (J.cons (.none rfl) (JO.pF hc5 rfl rfl) rfl rfl (J.fin (Sw.Sub.mk id (.cons rfl (.of_eq rfl) (.cons rfl (.of_eq rfl) .nil)) (.box rfl (.cons (.of_eq rfl) (.cons (.of_eq rfl) (.cons (.of_eq rfl) .nil))) .nil) rfl))))))))))))))))))
  rcases Bool.eq_false_or_eq_true x3 with hc6 | hc6
  · replace h := cond_t hc6 h
    refine W.condT rfl hc6 ?_
    refine W.seq ?_
    refine W.reg (σ' := ⟨[(2, .v (Enc.err ET) (some (2 : Int)))], []⟩) (J.cons (.none rfl) (JO.mkErr Try.runUnderlying25 rfl) rfl rfl (J.cons (.none rfl) (JO.assign rfl) rfl rfl (J.fin (Sw.Sub.mk id (.cons rfl (.of_eq rfl) .nil) .nil rfl)))) ?_
    refine W.ret ?_
    obtain rfl := Option.some.inj h
    exact XQ.sub (σ' := ⟨[(2, .v (Enc.err ET) (some (2 : Int)))], []⟩) (Sw.Sub.mk id (.cons rfl (.of_eq rfl) .nil) .nil rfl) (XQ.ret1 hF noR rfl (RV.tmp rfl) .nil rfl)
  · replace h := cond_f hc6 h
    refine W.condF rfl hc6 ?_
    refine W.skip ?_
    refine W.seq ?_
    refine W.seq ?_
    obtain ⟨v7, hv7, h⟩ := bind_e h
    refine W.reg (σ' := ⟨[(23, .v Enc.bool v7)], []⟩) (J.cons (.none rfl) (JO.fieldPtr 1 rfl Try.runUnderlying49 rfl Try.sizeOf47 rfl rfl) rfl rfl (J.cons (.none rfl) (JO.load rfl rfl rfl Try.isAgg47 Try.sizeOf47) rfl rfl (J.cons (.none rfl) (JO.makeFunc (.cons (.dir rfl) .nil)) rfl rfl (J.cons (.none rfl) (JO.callL0 (con_slices_ContainsFunc_api_Put_api_Put__disk_Check_1 hv7) Try.call86 (.cons (.dir rfl) (.cons (.lendF rfl (.ptr rfl (.prm (.one _ _) (.prm (.one _ _) (.one _ _))) .nil)) .nil)) FlatS.v) rfl rfl (J.fin (Sw.Sub.mk id (.cons rfl (.of_eq rfl) .nil) .nil rfl)))))) ?_
    rcases Bool.eq_false_or_eq_true v7 with hc8 | hc8
    · replace h := cond_t hc8 h
      refine W.condT rfl hc8 ?_
      refine W.seq ?_
      refine W.reg (σ' := ⟨[(2, .v (Enc.err ET) (some (1 : Int)))], []⟩) (J.cons (.none rfl) (JO.mkErr Try.runUnderlying25 rfl) rfl rfl (J.cons (.none rfl) (JO.assign rfl) rfl rfl (J.fin (Sw.Sub.mk id (.cons rfl (.of_eq rfl) .nil) .nil rfl)))) ?_
      refine W.ret ?_
      obtain rfl := Option.some.inj h
      exact XQ.sub (σ' := ⟨[(2, .v (Enc.err ET) (some (1 : Int)))], []⟩) (Sw.Sub.mk id (.cons rfl (.of_eq rfl) .nil) .nil rfl) (XQ.ret1 hF noR rfl (RV.tmp rfl) .nil rfl)
    · replace h := cond_f hc8 h
      refine W.condF rfl hc8 ?_
      refine W.skip ?_
      refine W.seq ?_
      refine W.reg (σ' := ⟨[(2, .v (Enc.err ET) (none : Option Int))], []⟩) (J.cons (.none rfl) (JO.assignNilE ET) rfl rfl (J.fin (Sw.Sub.mk id (.cons rfl (.of_eq rfl) .nil) .nil rfl))) ?_
      refine W.ret ?_
      obtain rfl := Option.some.inj h
      exact XQ.sub (σ' := ⟨[(2, .v (Enc.err ET) (none : Option Int))], []⟩) (Sw.Sub.mk id (.cons rfl (.of_eq rfl) .nil) .nil rfl) (XQ.ret1 hF noR rfl (RV.tmp rfl) .nil rfl)
set_option maxRecDepth 100000 in
set_option maxHeartbeats 4000000 in
theorem con_ref_Is {a0 : (Option Int)} {a1 : Int} {r : Bool} (h : m_ref_Is a0 a1 = some r) :
    Con Try.prog 18 [.v (Enc.err ET) a0, .v (Enc.int .i64) a1] (.v Enc.bool r) [] := by
  refine Con.of Try.func18 rfl Try.ntmps18 rfl ?_
  intro S w hF
  unfold m_ref_Is at h
  refine W.seq ?_
  refine W.reg (σ' := ⟨[(0, .v (Enc.err ET) a0), (1, .v (Enc.int .i64) a1)], []⟩) (J.cons (.none rfl) (JO.assign rfl) rfl rfl (J.fin (Sw.Sub.mk id (.cons rfl (.of_eq rfl) (.cons rfl (.of_eq rfl) .nil)) .nil rfl))) ?_
  refine W.seq ?_
  refine W.seq ?_
  refine W.reg (σ' := ⟨[(0, .v (Enc.err ET) a0), (1, .v (Enc.int .i64) a1), (6, .v Enc.bool (Option.isNone a0))], []⟩) (J.cons (.none rfl) (JO.move rfl) rfl rfl (J.cons (.none rfl) (JO.errEq Try.runUnderlying29 rfl) rfl rfl (J.fin (Sw.Sub.mk id (.cons rfl (.of_eq rfl) (.cons rfl (.of_eq rfl) (.cons rfl (.of_eq rfl) .nil))) .nil rfl)))) ?_
  rcases Bool.eq_false_or_eq_true (Option.isNone a0) with hc1 | hc1
  · replace h := cond_t hc1 h
    refine W.condT rfl hc1 ?_
    refine W.seq ?_
    refine W.reg (σ' := ⟨[(4, .v Enc.bool (cm .eql a1 (0 : Int)))], []⟩) (J.cons (.none rfl) (JO.move rfl) rfl rfl (J.cons (.none rfl) (JO.cmp rfl rfl rfl) rfl rfl (J.cons (.none rfl) (JO.assign rfl) rfl rfl (J.fin (Sw.Sub.mk id (.cons rfl (.of_eq rfl) .nil) .nil rfl))))) ?_
    refine W.ret ?_
    obtain rfl := Option.some.inj h
    exact XQ.sub (σ' := ⟨[(4, .v Enc.bool (cm .eql a1 (0 : Int)))], []⟩) (Sw.Sub.mk id (.cons rfl (.of_eq rfl) .nil) .nil rfl) (XQ.ret1 hF noR rfl (RV.tmp rfl) .nil rfl)
  · replace h := cond_f hc1 h
    refine W.condF rfl hc1 ?_
    refine W.skip ?_
    refine W.seq ?_
    obtain ⟨x3, hx, h⟩ := bind_e h
    refine W.reg (σ' := ⟨[(4, .v Enc.bool x3)], []⟩) ?_ ?_
    · rcases Bool.eq_false_or_eq_true (cm .neq a1 (0 : Int)) with hc4 | hc4
      · replace hx := cond_t hc4 hx
        obtain rfl := Option.some.inj hx
        exact (J.cons (.none rfl) (JO.move rfl) rfl rfl (J.cons (.none rfl) (JO.cmp rfl rfl rfl) rfl rfl (J.cons (.none rfl) (JO.move rfl) rfl rfl (J.cons (GK.met 11 rfl rfl rfl hc4) (JO.move rfl) rfl rfl (J.cons (GK.met 11 rfl rfl rfl hc4) (JO.move rfl) rfl rfl (J.cons (GK.met 11 rfl rfl rfl hc4) (JO.mkErr Try.runUnderlying25 rfl) rfl rfl (J.cons (GK.met 11 rfl rfl rfl hc4) (JO.errEq2 Try.runUnderlying29 Try.runUnderlying25 Try.typeInfo25 rfl rfl rfl) rfl rfl (J.cons (.none rfl) (JO.pT hc4 rfl rfl) rfl rfl (J.cons (.none rfl) (JO.assign rfl) rfl rfl (J.fin (Sw.Sub.mk id (.cons rfl (.of_eq rfl) .nil) .nil rfl)))))))))))
      · replace hx := cond_f hc4 hx
        obtain rfl := Option.some.inj hx
        exact (J.cons (.none rfl) (JO.move rfl) rfl rfl (J.cons (.none rfl) (JO.cmp rfl rfl rfl) rfl rfl (J.cons (.none rfl) (JO.move rfl) rfl rfl (J.left (GK.unmet 11 rfl rfl rfl hc4) rfl (J.left (GK.unmet 11 rfl rfl rfl hc4) rfl (J.left (GK.unmet 11 rfl rfl rfl hc4) rfl (J.left (GK.unmet 11 rfl rfl rfl hc4) rfl (J.cons (.none rfl) (JO.pF hc4 rfl rfl) rfl rfl (J.cons (.none rfl) (JO.assign rfl) rfl rfl (J.fin (Sw.Sub.mk id (.cons rfl (.of_eq rfl) .nil) .nil rfl)))))))))))
    refine W.ret ?_
    obtain rfl := Option.some.inj h
    exact XQ.sub (σ' := ⟨[(4, .v Enc.bool x3)], []⟩) (Sw.Sub.mk id (.cons rfl (.of_eq rfl) .nil) .nil rfl) (XQ.ret1 hF noR rfl (RV.tmp rfl) .nil rfl)
set_option maxRecDepth 100000 in
set_option maxHeartbeats 4000000 in
theorem con_slices_Backward_api_Put_api_Put {a0 : (List (Int × Blk))} {r : (List (Int × Blk))} (h : m_slices_Backward_api_Put_api_Put a0 = some r) :
    Con Try.prog 88 [.v (Enc.sl (Enc.pr (Enc.int .i64) eBlk)) a0] (.fnc 96 [.pst (Enc.sl (Enc.pr (Enc.int .i64) eBlk)) r]) [] := by
  refine Con.of Try.func88 rfl Try.ntmps88 rfl ?_
  intro S w hF
  unfold m_slices_Backward_api_Put_api_Put at h
  refine W.seq ?_
  refine W.reg (σ' := ⟨[(1, .ptr 101 0)], [(101, .box 47 [.v (Enc.sl (Enc.pr (Enc.int .i64) eBlk)) a0])]⟩) (J.cons (.none rfl) (JO.box 101 rfl (.one _ _) rfl) rfl rfl (J.cons (.none rfl) (JO.assignCst rfl) rfl rfl (J.fin (Sw.Sub.mk id (.cons rfl (.of_eq rfl) .nil) (.box rfl (.cons (.of_eq rfl) .nil) .nil) rfl)))) ?_
  refine W.seq ?_
  refine W.reg (σ' := ⟨[(2, .fnc 96 [.ptr 101 0])], [(101, .box 47 [.v (Enc.sl (Enc.pr (Enc.int .i64) eBlk)) a0])]⟩) (J.cons (.none rfl) (JO.makeFunc (.cons (.dir rfl) .nil)) rfl rfl (J.cons (.none rfl) (JO.assign rfl) rfl rfl (J.fin (Sw.Sub.mk id (.cons rfl (.of_eq rfl) .nil) (.box rfl (.cons (.of_eq rfl) .nil) .nil) rfl)))) ?_
  refine W.ret ?_
  obtain rfl := Option.some.inj h
  exact XQ.sub (σ' := ⟨[(2, .fnc 96 [.pst (Enc.sl (Enc.pr (Enc.int .i64) eBlk)) a0])], []⟩) (Sw.Sub.mk id (.cons rfl (.fnc (.cons (.frzP rfl rfl (.cons (.of_eq rfl) .nil) (.one _ _)) .nil)) .nil) .nil rfl) (XQ.ret1 hF noR rfl (RV.tmp rfl) .nil rfl)
set_option maxRecDepth 100000 in
set_option maxHeartbeats 4000000 in
theorem it_96 {xs : List (Int × Blk)} (hlen : (xs.length : Int) ≤ 4294967296) :
    IterC Try.prog 96 [.pst (Enc.sl (Enc.pr (Enc.int .i64) eBlk)) xs] ((backs xs).map fun c => [.v (Enc.int .i64) c.1, .v (Enc.pr (Enc.int .i64) eBlk) c.2]) := by
  refine IterC.of1 Try.func96 rfl Try.ntmps96 rfl ?_
  intro S w ρ l Jp Jx b off I hJ0 h1
  have hs0 := back_sub0 hlen
  refine W.seq ?_
  refine W.reg (σ' := ⟨[(0, .v (Enc.cst (.func (.yield l) #[] #[]) rfl) ()), (1, .v (Enc.cp b off (Enc.sl (Enc.pr (Enc.int .i64) eBlk))) xs), (3, .v (Enc.int .i64) ((xs.length : Int) - 1 - (0 : Nat)))], []⟩) (J.cons (.none rfl) (JO.loadCp rfl Try.isAgg47 Try.sizeOf47) rfl rfl (J.cons (.none rfl) (JO.len rfl Try.runUnderlying47) rfl rfl (J.cons (.none rfl) (JO.arith rfl rfl rfl) rfl rfl (J.cons (.none rfl) (JO.assign rfl) rfl rfl (J.fin (Sub.keepE (by rfl) (by exact (.cons rfl (.cons rfl (.cons (by rw [← hs0]; rfl) .nil)))))))))) ?_
  refine W.block ?_
  refine W.iloop I (fun k => [(0, .v (Enc.cst (.func (.yield l) #[] #[]) rfl) ()), (1, .v (Enc.cp b off (Enc.sl (Enc.pr (Enc.int .i64) eBlk))) xs), (3, .v (Enc.int .i64) ((xs.length : Int) - 1 - (k : Nat)))]) (fun k => (.cons (@Again.flat _ _ ⟨fun h => h⟩ _ _ _ _) (.cons h1 (.cons .flat .nil)))) (fun _ _ h => h) hJ0 ?_
  intro k V hJ hk
  have hm : ((backs xs).map fun c => ([.v (Enc.int .i64) c.1, .v (Enc.pr (Enc.int .i64) eBlk) c.2] : List Slot)).length = xs.length := by rw [List.length_map, backs_len]
  rw [hm] at hk
  have hsub := back_sub hlen hk
  refine W.seq (W.seq ?_)
  refine W.reg (σ' := ⟨[(0, .v (Enc.cst (.func (.yield l) #[] #[]) rfl) ()), (1, .v (Enc.cp b off (Enc.sl (Enc.pr (Enc.int .i64) eBlk))) xs), (3, .v (Enc.int .i64) ((xs.length : Int) - 1 - (k : Nat))), (8, .v Enc.bool (cm .geq ((xs.length : Int) - 1 - (k : Nat)) 0))], []⟩) (J.cons (.none rfl) (JO.move rfl) rfl rfl (J.cons (.none rfl) (JO.cmp rfl rfl rfl) rfl rfl (J.fin (Sub.keepE (by rfl) (by exact (.cons rfl (.cons rfl (.cons rfl (.cons rfl .nil))))))))) ?_
  refine W.cond rfl (fun hc => ?_) (fun hc => ?_)
  · refine W.skip ?_
    have hlt : (xs.length : Int) - 1 - (k : Nat) ≥ 0 := by simpa [cm] using hc
    have hkm : k < xs.length := by omega
    obtain ⟨x, hg, hi⟩ := back_get hkm
    refine W.seq ?_
    refine W.block ?_
    refine W.seq ?_
    refine W.iyield (σ1 := ⟨[(11, .v (Enc.cst (.func (.yield l) #[] #[]) rfl) ()), (12, .v (Enc.int .i64) ((xs.length : Int) - 1 - (k : Nat))), (16, .v (Enc.pr (Enc.int .i64) eBlk) x), (0, .v (Enc.cst (.func (.yield l) #[] #[]) rfl) ()), (1, .v (Enc.cp b off (Enc.sl (Enc.pr (Enc.int .i64) eBlk))) xs), (3, .v (Enc.int .i64) ((xs.length : Int) - 1 - (k : Nat)))], []⟩) (g2 := [(0, .v (Enc.cst (.func (.yield l) #[] #[]) rfl) ()), (1, .v (Enc.cp b off (Enc.sl (Enc.pr (Enc.int .i64) eBlk))) xs), (3, .v (Enc.int .i64) ((xs.length : Int) - 1 - (k : Nat)))]) (pre := [_, _, _, _, _, _]) I hJ (item := [.v (Enc.int .i64) ((xs.length : Int) - 1 - (k : Nat)), .v (Enc.pr (Enc.int .i64) eBlk) x]) (by rw [List.getElem?_map, hg]; rfl)
      (J.cons (.none rfl) (JO.move rfl) rfl rfl (J.cons (.none rfl) (JO.move rfl) rfl rfl (J.cons (.none rfl) (JO.loadCp rfl Try.isAgg47 Try.sizeOf47) rfl rfl (J.cons (.none rfl) (JO.move rfl) rfl rfl (J.cons (.none rfl) (JO.idx hi rfl rfl Try.runUnderlying47 Try.sizeOf85) rfl rfl (J.cons (.none rfl) (JO.loadPst rfl Try.isAgg85 Try.sizeOf85) rfl rfl (J.fin (Sub.keepE (by rfl) (by exact (.cons rfl (.cons rfl (.cons rfl (.cons rfl (.cons rfl (.cons rfl .nil)))))))))))))))
      rfl (.cons (.dir rfl) (.cons (.dir rfl) .nil)) rfl rfl rfl rfl (.cons (@Again.flat _ _ ⟨fun h => h⟩ _ _ _ _) (.cons h1 (.cons .flat .nil))) (.cons rfl (.cons rfl (.cons rfl .nil))) (fun V' hJ' => ?_) (fun V' hJx => ?_)
    · refine W.condF rfl rfl (W.skip (W.fall ?_))
      refine W.reg (σ' := ⟨[(0, .v (Enc.cst (.func (.yield l) #[] #[]) rfl) ()), (1, .v (Enc.cp b off (Enc.sl (Enc.pr (Enc.int .i64) eBlk))) xs), (3, .v (Enc.int .i64) (ar .sub .i64 ((xs.length : Int) - 1 - (k : Nat)) 1))], []⟩) (J.cons (.none rfl) (JO.move rfl) rfl rfl (J.cons (.none rfl) (JO.arith rfl rfl rfl) rfl rfl (J.cons (.none rfl) (JO.assign rfl) rfl rfl (J.fin (Sub.keepE (by rfl) (by exact (.cons rfl (.cons rfl (.cons rfl .nil))))))))) ?_
      exact W.inext I hJ' (by rw [hm]; exact hkm) (by rw [hsub]; exact fun _ _ h => h)
    · refine W.condT rfl rfl (W.ret (W.istop (fn := Try.f96) I rfl hJx fun a V' h => h))
  · refine W.exit (W.iend (fn := Try.f96) I rfl hJ ?_ (fun a V' h => ?_))
    · have hge : ¬ (xs.length : Int) - 1 - (k : Nat) ≥ 0 := by simpa [cm] using hc
      rw [hm]; omega
    · simp only [Exit.inBlock, if_true]; exact h

set_option maxRecDepth 100000 in
set_option maxHeartbeats 4000000 in
theorem con_disk_Read {a0 : ((List Blk) × (List (Int × Blk)) × Int)} {a1 : Int} {r : Blk × (Option Int)} (h : m_disk_Read a0 a1 = some r) :
    Con Try.prog 61 [.v (Enc.pr (Enc.sl eBlk) (Enc.pr (Enc.sl (Enc.pr (Enc.int .i64) eBlk)) (Enc.int .i64))) a0, .v (Enc.int .i64) a1] (.tup [.v eBlk r.1, .v (Enc.err ET) r.2]) [] := by
  refine Con.of Try.func61 rfl Try.ntmps61 rfl ?_
  intro S w hF
  unfold m_disk_Read at h
  refine W.seq ?_
  refine W.reg (σ' := ⟨[(2, .ptr 101 0), (3, .ptr 102 0), (4, .ptr 103 0), (5, .ptr 104 0)], [(101, .box 49 [.v (Enc.sl eBlk) a0.1, .v (Enc.sl (Enc.pr (Enc.int .i64) eBlk)) a0.2.1, .v (Enc.int .i64) a0.2.2]), (102, .box 3 [.v (Enc.int .i64) a1]), (103, .box 24 [.v eBlk zblk]), (104, .box 29 [.v (Enc.err ET) (none : Option Int)])]⟩) (J.cons (.none rfl) (JO.box 101 rfl (.prm (.one _ _) (.prm (.one _ _) (.one _ _))) rfl) rfl rfl (J.cons (.none rfl) (JO.box 102 rfl (.one _ _) rfl) rfl rfl (J.cons (.none rfl) (JO.alloc 103 Try.zeroValue24 rfl (.cons (Z.arr 8 (Z.int .u8)) .nil) rfl) rfl rfl (J.cons (.none rfl) (JO.alloc 104 Try.zeroValue29 rfl (.cons (Z.err ET) .nil) rfl) rfl rfl (J.fin (Sw.Sub.mk id (.cons rfl (.of_eq rfl) (.cons rfl (.of_eq rfl) (.cons rfl (.of_eq rfl) (.cons rfl (.of_eq rfl) .nil)))) (.box rfl (.cons (.of_eq rfl) (.cons (.of_eq rfl) (.cons (.of_eq rfl) .nil))) (.box rfl (.cons (.of_eq rfl) .nil) (.box rfl (.cons (.of_eq rfl) .nil) (.box rfl (.cons (.of_eq rfl) .nil) .nil)))) rfl)))))) ?_
  refine W.seq ?_
  refine W.seq ?_
  obtain ⟨v1, hv1, h⟩ := bind_e h
  refine W.reg (σ' := ⟨[(2, .ptr 101 0), (3, .ptr 102 0), (4, .ptr 103 0), (5, .ptr 104 0), (6, .v (Enc.err ET) v1)], [(101, .box 49 [.v (Enc.sl eBlk) a0.1, .v (Enc.sl (Enc.pr (Enc.int .i64) eBlk)) a0.2.1, .v (Enc.int .i64) a0.2.2]), (102, .box 3 [.v (Enc.int .i64) a1]), (103, .box 24 [.v eBlk zblk]), (104, .box 29 [.v (Enc.err ET) (none : Option Int)])]⟩) (J.cons (.none rfl) (JO.loadAll rfl rfl (.prm (.one _ _) (.prm (.one _ _) (.one _ _))) Try.isAgg49 Try.sizeOf49) rfl rfl (J.cons (.none rfl) (JO.call0 (con_disk_Check hv1) Try.call60 (.cons (.dir rfl) .nil)) rfl rfl (J.cons (.none rfl) (JO.assign rfl) rfl rfl (J.fin (Sw.Sub.mk id (.cons rfl (.of_eq rfl) (.cons rfl (.of_eq rfl) (.cons rfl (.of_eq rfl) (.cons rfl (.of_eq rfl) (.cons rfl (.of_eq rfl) .nil))))) (.box rfl (.cons (.of_eq rfl) (.cons (.of_eq rfl) (.cons (.of_eq rfl) .nil))) (.box rfl (.cons (.of_eq rfl) .nil) (.box rfl (.cons (.of_eq rfl) .nil) (.box rfl (.cons (.of_eq rfl) .nil) .nil)))) rfl))))) ?_
  refine W.seq ?_
  refine W.reg (σ' := ⟨[(2, .ptr 101 0), (3, .ptr 102 0), (4, .ptr 103 0), (5, .ptr 104 0), (6, .v (Enc.err ET) v1), (12, .v Enc.bool (Option.isSome v1))], [(101, .box 49 [.v (Enc.sl eBlk) a0.1, .v (Enc.sl (Enc.pr (Enc.int .i64) eBlk)) a0.2.1, .v (Enc.int .i64) a0.2.2]), (102, .box 3 [.v (Enc.int .i64) a1]), (103, .box 24 [.v eBlk zblk]), (104, .box 29 [.v (Enc.err ET) (none : Option Int)])]⟩) (J.cons (.none rfl) (JO.move rfl) rfl rfl (J.cons (.none rfl) (JO.errNe Try.runUnderlying29 rfl) rfl rfl (J.fin (Sw.Sub.mk id (.cons rfl (.of_eq rfl) (.cons rfl (.of_eq rfl) (.cons rfl (.of_eq rfl) (.cons rfl (.of_eq rfl) (.cons rfl (.of_eq rfl) (.cons rfl (.of_eq rfl) .nil)))))) (.box rfl (.cons (.of_eq rfl) (.cons (.of_eq rfl) (.cons (.of_eq rfl) .nil))) (.box rfl (.cons (.of_eq rfl) .nil) (.box rfl (.cons (.of_eq rfl) .nil) (.box rfl (.cons (.of_eq rfl) .nil) .nil)))) rfl)))) ?_
  rcases Bool.eq_false_or_eq_true (Option.isSome v1) with hc2 | hc2
  · replace h := cond_t hc2 h
    refine W.condT rfl hc2 ?_
    refine W.seq ?_
    refine W.reg (σ' := ⟨[(4, .ptr 103 0), (5, .ptr 104 0)], [(103, .box 24 [.v eBlk zblk]), (104, .box 29 [.v (Enc.err ET) v1])]⟩) (J.cons (.none rfl) (JO.zeroArr (e := eBlk) (v := zblk) Try.typeInfo24 Try.runUnderlying24 Try.typeInfo5 rfl rfl (Z.arr 8 (Z.int .u8))) rfl rfl (J.cons (.none rfl) (JO.move rfl) rfl rfl (J.mut (.none rfl) (JM.store rfl rfl rfl rfl rfl rfl rfl Try.sizeOf24) (J.mut (.none rfl) (JM.store rfl rfl rfl rfl rfl rfl rfl Try.sizeOf29) (J.fin (Sw.Sub.mk id (.cons rfl (.of_eq rfl) (.cons rfl (.of_eq rfl) .nil)) (.box rfl (.cons (.of_eq rfl) .nil) (.box rfl (.cons (.of_eq rfl) .nil) .nil)) rfl)))))) ?_
    refine W.ret ?_
    obtain rfl := Option.some.inj h
    exact XQ.sub (σ' := ⟨[(4, .ptr 90 0), (5, .ptr 91 0)], [(91, .box 29 [.v (Enc.err ET) v1]), (90, .box 24 [.v eBlk zblk])]⟩) (Sw.Sub.mk (rn [(90, 103), (91, 104)]) (.cons rfl (.of_eq rfl) (.cons rfl (.of_eq rfl) .nil)) (.box rfl (.cons (.of_eq rfl) .nil) (.box rfl (.cons (.of_eq rfl) .nil) .nil)) rfl) (XQ.ret2 hF noR rfl (RV.cellAt rfl rfl rfl Try.isAgg24 Try.sizeOf24) (RV.cellAt rfl rfl rfl Try.isAgg29 Try.sizeOf29) .nil rfl)
  · replace h := cond_f hc2 h
    refine W.condF rfl hc2 ?_
    refine W.skip ?_
    refine W.seq ?_
    refine W.seq ?_
    obtain ⟨x4, hx, h⟩ := bind_e h
    refine W.reg (σ' := ⟨[(2, .ptr 101 0), (3, .ptr 102 0), (4, .ptr 103 0), (5, .ptr 104 0), (23, .v Enc.bool x4)], [(101, .box 49 [.v (Enc.sl eBlk) a0.1, .v (Enc.sl (Enc.pr (Enc.int .i64) eBlk)) a0.2.1, .v (Enc.int .i64) a0.2.2]), (102, .box 3 [.v (Enc.int .i64) a1]), (103, .box 24 [.v eBlk zblk]), (104, .box 29 [.v (Enc.err ET) (none : Option Int)])]⟩) ?_ ?_
    · rcases Bool.eq_false_or_eq_true (cm .lss a1 (0 : Int)) with hc5 | hc5
      · replace hx := cond_t hc5 hx
        obtain rfl := Option.some.inj hx
        exact (J.cons (.none rfl) (JO.load rfl rfl rfl Try.isAgg3 Try.sizeOf3) rfl rfl (J.cons (.none rfl) (JO.cmp rfl rfl rfl) rfl rfl (J.cons (.none rfl) (JO.move rfl) rfl rfl (J.left (GK.unmet 17 rfl rfl rfl hc5) rfl (J.left (GK.unmet 17 rfl rfl rfl hc5) rfl (J.left (GK.unmet 17 rfl rfl rfl hc5) rfl (J.left (GK.unmet 17 rfl rfl rfl hc5) rfl (J.left (GK.unmet 17 rfl rfl rfl hc5) rfl (J.cons (.none rfl) (JO.pT hc5 rfl rfl) rfl rfl (J.fin (Sw.Sub.mk id (.cons rfl (.of_eq rfl) (.cons rfl (.of_eq rfl) (.cons rfl (.of_eq rfl) (.cons rfl (.of_eq rfl) (.cons rfl (.of_eq rfl) .nil))))) (.box rfl (.cons (.of_eq rfl) (.cons (.of_eq rfl) (.cons (.of_eq rfl) .nil))) (.box rfl (.cons (.of_eq rfl) .nil) (.box rfl (.cons (.of_eq rfl) .nil) (.box rfl (.cons (.of_eq rfl) .nil) .nil)))) rfl)))))))))))
      · replace hx := cond_f hc5 hx
        obtain rfl := Option.some.inj hx
        exact (J.cons (.none rfl) (JO.load rfl rfl rfl Try.isAgg3 Try.sizeOf3) rfl rfl (J.cons (.none rfl) (JO.cmp rfl rfl rfl) rfl rfl (J.cons (.none rfl) (JO.move rfl) rfl rfl (J.cons (GK.met 17 rfl rfl rfl hc5) (JO.load rfl rfl rfl Try.isAgg3 Try.sizeOf3) rfl rfl (J.cons (GK.met 17 rfl rfl rfl hc5) (JO.fieldPtr 0 rfl Try.runUnderlying49 rfl Try.sizeOf22 rfl rfl) rfl rfl (J.cons (GK.met 17 rfl rfl rfl hc5) (JO.load rfl rfl rfl Try.isAgg22 Try.sizeOf22) rfl rfl (J.cons (GK.met 17 rfl rfl rfl hc5) (JO.len rfl Try.runUnderlying22) rfl rfl (J.cons (GK.met 17 rfl rfl rfl hc5) (JO.cmp rfl rfl rfl) rfl rfl (J.cons (.none rfl) (JO.pF hc5 rfl rfl) rfl rfl (J.fin (Sw.Sub.mk id (.cons rfl (.of_eq rfl) (.cons rfl (.of_eq rfl) (.cons rfl (.of_eq rfl) (.cons rfl (.of_eq rfl) (.cons rfl (.of_eq rfl) .nil))))) (.box rfl (.cons (.of_eq rfl) (.cons (.of_eq rfl) (.cons (.of_eq rfl) .nil))) (.box rfl (.cons (.of_eq rfl) .nil) (.box rfl (.cons (.of_eq rfl) .nil) (.box rfl (.cons (.of_eq rfl) .nil) .nil)))) rfl)))))))))))
    rcases Bool.eq_false_or_eq_true x4 with hc6 | hc6
    · replace h := cond_t hc6 h
      refine W.condT rfl hc6 ?_
      refine W.seq ?_
      refine W.reg (σ' := ⟨[(4, .ptr 103 0), (5, .ptr 104 0)], [(103, .box 24 [.v eBlk zblk]), (104, .box 29 [.v (Enc.err ET) (some (1 : Int))])]⟩) (J.cons (.none rfl) (JO.zeroArr (e := eBlk) (v := zblk) Try.typeInfo24 Try.runUnderlying24 Try.typeInfo5 rfl rfl (Z.arr 8 (Z.int .u8))) rfl rfl (J.cons (.none rfl) (JO.mkErr Try.runUnderlying25 rfl) rfl rfl (J.mut (.none rfl) (JM.store rfl rfl rfl rfl rfl rfl rfl Try.sizeOf24) (J.mut (.none rfl) (JM.store rfl rfl rfl rfl rfl rfl rfl Try.sizeOf29) (J.fin (Sw.Sub.mk id (.cons rfl (.of_eq rfl) (.cons rfl (.of_eq rfl) .nil)) (.box rfl (.cons (.of_eq rfl) .nil) (.box rfl (.cons (.of_eq rfl) .nil) .nil)) rfl)))))) ?_
      refine W.ret ?_
      obtain rfl := Option.some.inj h
      exact XQ.sub (σ' := ⟨[(4, .ptr 90 0), (5, .ptr 91 0)], [(91, .box 29 [.v (Enc.err ET) (some (1 : Int))]), (90, .box 24 [.v eBlk zblk])]⟩) (Sw.Sub.mk (rn [(90, 103), (91, 104)]) (.cons rfl (.of_eq rfl) (.cons rfl (.of_eq rfl) .nil)) (.box rfl (.cons (.of_eq rfl) .nil) (.box rfl (.cons (.of_eq rfl) .nil) .nil)) rfl) (XQ.ret2 hF noR rfl (RV.cellAt rfl rfl rfl Try.isAgg24 Try.sizeOf24) (RV.cellAt rfl rfl rfl Try.isAgg29 Try.sizeOf29) .nil rfl)
    · replace h := cond_f hc6 h
      refine W.condF rfl hc6 ?_
      refine W.skip ?_
      refine W.seq ?_
      refine W.seq ?_
      refine W.reg (σ' := ⟨[(2, .ptr 101 0), (3, .ptr 102 0), (4, .ptr 103 0), (5, .ptr 104 0), (28, .v Enc.bool (cm .eql a0.2.2 (0 : Int)))], [(101, .box 49 [.v (Enc.sl eBlk) a0.1, .v (Enc.sl (Enc.pr (Enc.int .i64) eBlk)) a0.2.1, .v (Enc.int .i64) a0.2.2]), (102, .box 3 [.v (Enc.int .i64) a1]), (103, .box 24 [.v eBlk zblk]), (104, .box 29 [.v (Enc.err ET) (none : Option Int)])]⟩) (J.cons (.none rfl) (JO.fieldPtr 2 rfl Try.runUnderlying49 rfl Try.sizeOf3 rfl rfl) rfl rfl (J.cons (.none rfl) (JO.load rfl rfl rfl Try.isAgg3 Try.sizeOf3) rfl rfl (J.cons (.none rfl) (JO.cmp rfl rfl rfl) rfl rfl (J.fin (Sw.Sub.mk id (.cons rfl (.of_eq rfl) (.cons rfl (.of_eq rfl) (.cons rfl (.of_eq rfl) (.cons rfl (.of_eq rfl) (.cons rfl (.of_eq rfl) .nil))))) (.box rfl (.cons (.of_eq rfl) (.cons (.of_eq rfl) (.cons (.of_eq rfl) .nil))) (.box rfl (.cons (.of_eq rfl) .nil) (.box rfl (.cons (.of_eq rfl) .nil) (.box rfl (.cons (.of_eq rfl) .nil) .nil)))) rfl))))) ?_
      rcases Bool.eq_false_or_eq_true (cm .eql a0.2.2 (0 : Int)) with hc7 | hc7
      · replace h := cond_t hc7 h
        refine W.condT rfl hc7 ?_
        refine W.seq ?_
        refine W.reg (σ' := ⟨[(4, .ptr 103 0), (5, .ptr 104 0)], [(103, .box 24 [.v eBlk zblk]), (104, .box 29 [.v (Enc.err ET) (some (4 : Int))])]⟩) (J.cons (.none rfl) (JO.zeroArr (e := eBlk) (v := zblk) Try.typeInfo24 Try.runUnderlying24 Try.typeInfo5 rfl rfl (Z.arr 8 (Z.int .u8))) rfl rfl (J.cons (.none rfl) (JO.mkErr Try.runUnderlying25 rfl) rfl rfl (J.mut (.none rfl) (JM.store rfl rfl rfl rfl rfl rfl rfl Try.sizeOf24) (J.mut (.none rfl) (JM.store rfl rfl rfl rfl rfl rfl rfl Try.sizeOf29) (J.fin (Sw.Sub.mk id (.cons rfl (.of_eq rfl) (.cons rfl (.of_eq rfl) .nil)) (.box rfl (.cons (.of_eq rfl) .nil) (.box rfl (.cons (.of_eq rfl) .nil) .nil)) rfl)))))) ?_
        refine W.ret ?_
        obtain rfl := Option.some.inj h
        exact XQ.sub (σ' := ⟨[(4, .ptr 90 0), (5, .ptr 91 0)], [(91, .box 29 [.v (Enc.err ET) (some (4 : Int))]), (90, .box 24 [.v eBlk zblk])]⟩) (Sw.Sub.mk (rn [(90, 103), (91, 104)]) (.cons rfl (.of_eq rfl) (.cons rfl (.of_eq rfl) .nil)) (.box rfl (.cons (.of_eq rfl) .nil) (.box rfl (.cons (.of_eq rfl) .nil) .nil)) rfl) (XQ.ret2 hF noR rfl (RV.cellAt rfl rfl rfl Try.isAgg24 Try.sizeOf24) (RV.cellAt rfl rfl rfl Try.isAgg29 Try.sizeOf29) .nil rfl)
      · replace h := cond_f hc7 h
        refine W.condF rfl hc7 ?_
        refine W.skip ?_
        refine W.seq ?_
        refine W.seq ?_
        obtain ⟨v8, hv8, h⟩ := bind_e h
        refine W.reg (σ' := ⟨[(2, .ptr 101 0), (3, .ptr 102 0), (4, .ptr 103 0), (5, .ptr 104 0), (33, .fnc 96 [.pst (Enc.sl (Enc.pr (Enc.int .i64) eBlk)) v8])], [(101, .box 49 [.v (Enc.sl eBlk) a0.1, .v (Enc.sl (Enc.pr (Enc.int .i64) eBlk)) a0.2.1, .v (Enc.int .i64) a0.2.2]), (102, .box 3 [.v (Enc.int .i64) a1]), (103, .box 24 [.v eBlk zblk]), (104, .box 29 [.v (Enc.err ET) (none : Option Int)])]⟩) (J.cons (.none rfl) (JO.fieldPtr 1 rfl Try.runUnderlying49 rfl Try.sizeOf47 rfl rfl) rfl rfl (J.cons (.none rfl) (JO.load rfl rfl rfl Try.isAgg47 Try.sizeOf47) rfl rfl (J.cons (.none rfl) (JO.call0 (con_slices_Backward_api_Put_api_Put hv8) Try.call88 (.cons (.dir rfl) .nil)) rfl rfl (J.fin (Sw.Sub.mk id (.cons rfl (.of_eq rfl) (.cons rfl (.of_eq rfl) (.cons rfl (.of_eq rfl) (.cons rfl (.of_eq rfl) (.cons rfl (.of_eq rfl) .nil))))) (.box rfl (.cons (.of_eq rfl) (.cons (.of_eq rfl) (.cons (.of_eq rfl) .nil))) (.box rfl (.cons (.of_eq rfl) .nil) (.box rfl (.cons (.of_eq rfl) .nil) (.box rfl (.cons (.of_eq rfl) .nil) .nil)))) rfl))))) ?_
        refine W.block ?_
        obtain ⟨u17, hu17, h⟩ := bind_e h
        obtain ⟨o9, ho9, hb9, hx9⟩ := rg_elim h
        refine W.range (g := [(2, .ptr 101 0), (3, .ptr 102 0), (4, .ptr 103 0), (5, .ptr 104 0), (33, .fnc 96 [.pst (Enc.sl (Enc.pr (Enc.int .i64) eBlk)) v8])]) (ds0 := [(101, .box 49 [.v (Enc.sl eBlk) a0.1, .v (Enc.sl (Enc.pr (Enc.int .i64) eBlk)) a0.2.1, .v (Enc.int .i64) a0.2.2]), (102, .box 3 [.v (Enc.int .i64) a1]), (103, .box 24 [.v eBlk zblk]), (104, .box 29 [.v (Enc.err ET) (none : Option Int)])]) (L := [101, 102, 103, 104]) (fun z10 : (Int × (Int × Blk)) => [.v (Enc.int .i64) z10.1, .v (Enc.pr (Enc.int .i64) eBlk) z10.2]) (fun A9 (s13 : Unit) => [(101, .box 49 [.v (Enc.sl eBlk) a0.1, .v (Enc.sl (Enc.pr (Enc.int .i64) eBlk)) a0.2.1, .v (Enc.int .i64) a0.2.2] (some (A9 101))), (102, .box 3 [.v (Enc.int .i64) a1] (some (A9 102))), (103, .box 24 [.v eBlk zblk] (some (A9 103))), (104, .box 29 [.v (Enc.err ET) (none : Option Int)] (some (A9 104)))]) (fun A9 (z18 : Blk) => [(101, .box 49 [.v (Enc.sl eBlk) a0.1, .v (Enc.sl (Enc.pr (Enc.int .i64) eBlk)) a0.2.1, .v (Enc.int .i64) a0.2.2] (some (A9 101))), (102, .box 3 [.v (Enc.int .i64) a1] (some (A9 102))), (103, .box 24 [.v eBlk z18] (some (A9 103))), (104, .box 29 [.v (Enc.err ET) (none : Option Int)] (some (A9 104)))]) (fun A9 z10 s13 => ⟨[(2, .ptr 101 0), (3, .ptr 102 0), (4, .ptr 103 0), (5, .ptr 104 0), (8, .ptr 108 0), (33, .fnc 96 [.pst (Enc.sl (Enc.pr (Enc.int .i64) eBlk)) v8])], [(101, .box 49 [.v (Enc.sl eBlk) a0.1, .v (Enc.sl (Enc.pr (Enc.int .i64) eBlk)) a0.2.1, .v (Enc.int .i64) a0.2.2] (some (A9 101))), (102, .box 3 [.v (Enc.int .i64) a1] (some (A9 102))), (103, .box 24 [.v eBlk zblk] (some (A9 103))), (104, .box 29 [.v (Enc.err ET) (none : Option Int)] (some (A9 104))), (108, .box 85 [.v (Enc.int .i64) z10.2.1, .v eBlk z10.2.2])]⟩) hF rfl ho9 (Sw.Sub.mk id (.cons rfl (.of_eq rfl) (.cons rfl (.of_eq rfl) (.cons rfl (.of_eq rfl) (.cons rfl (.of_eq rfl) (.cons rfl (.of_eq rfl) .nil))))) (.box rfl (.cons (.of_eq rfl) (.cons (.of_eq rfl) (.cons (.of_eq rfl) .nil))) (.box rfl (.cons (.of_eq rfl) .nil) (.box rfl (.cons (.of_eq rfl) .nil) (.box rfl (.cons (.of_eq rfl) .nil) .nil)))) rfl) (fun _ => rfl) rfl (it_96 (small_some hu17)) Try.call96 (fun _ => rfl) rfl (fun _ => rfl) rfl (fun _ _ => (.cons rfl (.cons rfl (.cons rfl (.cons rfl .nil))))) (fun _ _ => (.cons rfl (.cons rfl (.cons rfl (.cons rfl .nil))))) ?_ ?_ ?_ ?_
        · intro A9 S w R l z10 s13
          refine W.reg (σ' := ⟨[(2, .ptr 101 0), (3, .ptr 102 0), (4, .ptr 103 0), (5, .ptr 104 0), (8, .ptr 109 0), (33, .fnc 96 [.pst (Enc.sl (Enc.pr (Enc.int .i64) eBlk)) v8])], [(101, .box 49 [.v (Enc.sl eBlk) a0.1, .v (Enc.sl (Enc.pr (Enc.int .i64) eBlk)) a0.2.1, .v (Enc.int .i64) a0.2.2] (some (A9 101))), (102, .box 3 [.v (Enc.int .i64) a1] (some (A9 102))), (103, .box 24 [.v eBlk zblk] (some (A9 103))), (104, .box 29 [.v (Enc.err ET) (none : Option Int)] (some (A9 104))), (109, .box 85 [.v (Enc.int .i64) z10.2.1, .v eBlk z10.2.2])]⟩) (J.cons (.none rfl) (JO.alloc 109 Try.zeroValue85 rfl (.cons (Z.int .i64) (.cons (Z.arr 8 (Z.int .u8)) .nil)) rfl) rfl rfl (J.mut (.none rfl) (JM.storeAll rfl rfl rfl rfl (.prm (.one _ _) (.one _ _)) Try.sizeOf85) (J.fin (Sw.Sub.mk id (.cons rfl (.of_eq rfl) (.cons rfl (.of_eq rfl) (.cons rfl (.of_eq rfl) (.cons rfl (.of_eq rfl) (.cons rfl (.of_eq rfl) (.cons rfl (.of_eq rfl) .nil)))))) (.box rfl (.cons (.of_eq rfl) (.cons (.of_eq rfl) (.cons (.of_eq rfl) .nil))) (.box rfl (.cons (.of_eq rfl) .nil) (.box rfl (.cons (.of_eq rfl) .nil) (.box rfl (.cons (.of_eq rfl) .nil) (.box rfl (.cons (.of_eq rfl) (.cons (.of_eq rfl) .nil)) .nil))))) rfl)))) ?_
          exact W.aq (Sw.Sub.mk (rn [(101, 101), (102, 102), (103, 103), (104, 104), (108, 109)]) (.cons rfl (.of_eq rfl) (.cons rfl (.of_eq rfl) (.cons rfl (.of_eq rfl) (.cons rfl (.of_eq rfl) (.cons rfl (.of_eq rfl) (.cons rfl (.of_eq rfl) .nil)))))) (.box rfl (.cons (.of_eq rfl) (.cons (.of_eq rfl) (.cons (.of_eq rfl) .nil))) (.box rfl (.cons (.of_eq rfl) .nil) (.box rfl (.cons (.of_eq rfl) .nil) (.box rfl (.cons (.of_eq rfl) .nil) (.box rfl (.cons (.of_eq rfl) (.cons (.of_eq rfl) .nil)) .nil))))) rfl)
        · intro A9 S w R l z10 s13 r9 h
          refine W.block ?_
          refine W.seq ?_
          refine W.reg (σ' := ⟨[(2, .ptr 101 0), (3, .ptr 102 0), (4, .ptr 103 0), (5, .ptr 104 0), (8, .ptr 108 0), (33, .fnc 96 [.pst (Enc.sl (Enc.pr (Enc.int .i64) eBlk)) v8]), (39, .v Enc.bool (cm .eql z10.2.1 a1))], [(101, .box 49 [.v (Enc.sl eBlk) a0.1, .v (Enc.sl (Enc.pr (Enc.int .i64) eBlk)) a0.2.1, .v (Enc.int .i64) a0.2.2] (some (A9 101))), (102, .box 3 [.v (Enc.int .i64) a1] (some (A9 102))), (103, .box 24 [.v eBlk zblk] (some (A9 103))), (104, .box 29 [.v (Enc.err ET) (none : Option Int)] (some (A9 104))), (108, .box 85 [.v (Enc.int .i64) z10.2.1, .v eBlk z10.2.2])]⟩) (J.cons (.none rfl) (JO.fieldPtr 0 rfl Try.runUnderlying85 rfl Try.sizeOf3 rfl rfl) rfl rfl (J.cons (.none rfl) (JO.load rfl rfl rfl Try.isAgg3 Try.sizeOf3) rfl rfl (J.cons (.none rfl) (JO.load rfl rfl rfl Try.isAgg3 Try.sizeOf3) rfl rfl (J.cons (.none rfl) (JO.cmp rfl rfl rfl) rfl rfl (J.fin (Sw.Sub.mk id (.cons rfl (.of_eq rfl) (.cons rfl (.of_eq rfl) (.cons rfl (.of_eq rfl) (.cons rfl (.of_eq rfl) (.cons rfl (.of_eq rfl) (.cons rfl (.of_eq rfl) (.cons rfl (.of_eq rfl) .nil))))))) (.box rfl (.cons (.of_eq rfl) (.cons (.of_eq rfl) (.cons (.of_eq rfl) .nil))) (.box rfl (.cons (.of_eq rfl) .nil) (.box rfl (.cons (.of_eq rfl) .nil) (.box rfl (.cons (.of_eq rfl) .nil) (.box rfl (.cons (.of_eq rfl) (.cons (.of_eq rfl) .nil)) .nil))))) rfl)))))) ?_
          rcases Bool.eq_false_or_eq_true (cm .eql z10.2.1 a1) with hc14 | hc14
          · replace h := cond_t hc14 h
            refine W.condT rfl hc14 ?_
            refine W.seq ?_
            refine W.reg (σ' := ⟨[(2, .ptr 101 0), (3, .ptr 102 0), (4, .ptr 103 0), (5, .ptr 104 0), (33, .fnc 96 [.pst (Enc.sl (Enc.pr (Enc.int .i64) eBlk)) v8])], [(101, .box 49 [.v (Enc.sl eBlk) a0.1, .v (Enc.sl (Enc.pr (Enc.int .i64) eBlk)) a0.2.1, .v (Enc.int .i64) a0.2.2] (some (A9 101))), (102, .box 3 [.v (Enc.int .i64) a1] (some (A9 102))), (103, .box 24 [.v eBlk z10.2.2] (some (A9 103))), (104, .box 29 [.v (Enc.err ET) (none : Option Int)] (some (A9 104)))]⟩) (J.cons (.none rfl) (JO.fieldPtr 1 rfl Try.runUnderlying85 rfl Try.sizeOf24 rfl rfl) rfl rfl (J.cons (.none rfl) (JO.load rfl rfl rfl Try.isAgg24 Try.sizeOf24) rfl rfl (J.mut (.none rfl) (JM.store rfl rfl rfl rfl rfl rfl rfl Try.sizeOf24) (J.mut (.none rfl) (JM.storeA rfl rfl rfl (.nilE ET) rfl rfl rfl Try.sizeOf29) (J.fin (Sw.Sub.mk id (.cons rfl (.of_eq rfl) (.cons rfl (.of_eq rfl) (.cons rfl (.of_eq rfl) (.cons rfl (.of_eq rfl) (.cons rfl (.of_eq rfl) .nil))))) (.box rfl (.cons (.of_eq rfl) (.cons (.of_eq rfl) (.cons (.of_eq rfl) .nil))) (.box rfl (.cons (.of_eq rfl) .nil) (.box rfl (.cons (.of_eq rfl) .nil) (.box rfl (.cons (.of_eq rfl) .nil) .nil)))) rfl)))))) ?_
            refine W.ret ?_
            refine XQ.ret ?_
            obtain rfl := Option.some.inj h
            exact XQ.rdone (Sw.Sub.mk id .nil (.box rfl (.cons (.of_eq rfl) (.cons (.of_eq rfl) (.cons (.of_eq rfl) .nil))) (.box rfl (.cons (.of_eq rfl) .nil) (.box rfl (.cons (.of_eq rfl) .nil) (.box rfl (.cons (.of_eq rfl) .nil) .nil)))) rfl)
          · replace h := cond_f hc14 h
            refine W.condF rfl hc14 ?_
            refine W.skip ?_
            refine W.fall ?_
            obtain rfl := Option.some.inj h
            exact W.rnext (Sw.Sub.mk id .nil (.box rfl (.cons (.of_eq rfl) (.cons (.of_eq rfl) (.cons (.of_eq rfl) .nil))) (.box rfl (.cons (.of_eq rfl) .nil) (.box rfl (.cons (.of_eq rfl) .nil) (.box rfl (.cons (.of_eq rfl) .nil) .nil)))) rfl)
        · intro A9 x15 hy S w R df hF
          have h := hb9 _ hy
          refine W.fall ?_
          refine W.seq ?_
          obtain ⟨z16, hz16, h⟩ := bind_e h
          refine W.reg (σ' := ⟨[(4, .ptr 103 0), (5, .ptr 104 0)], [(103, .box 24 [.v eBlk z16] (some (A9 103))), (104, .box 29 [.v (Enc.err ET) (none : Option Int)] (some (A9 104)))]⟩) (J.cons (.none rfl) (JO.fieldPtr 0 rfl Try.runUnderlying49 rfl Try.sizeOf22 rfl rfl) rfl rfl (J.cons (.none rfl) (JO.load rfl rfl rfl Try.isAgg22 Try.sizeOf22) rfl rfl (J.cons (.none rfl) (JO.load rfl rfl rfl Try.isAgg3 Try.sizeOf3) rfl rfl (J.cons (.none rfl) (JO.idx hz16 rfl rfl Try.runUnderlying22 Try.sizeOf24) rfl rfl (J.cons (.none rfl) (JO.loadPst rfl Try.isAgg24 Try.sizeOf24) rfl rfl (J.mut (.none rfl) (JM.store rfl rfl rfl rfl rfl rfl rfl Try.sizeOf24) (J.mut (.none rfl) (JM.storeA rfl rfl rfl (.nilE ET) rfl rfl rfl Try.sizeOf29) (J.fin (Sw.Sub.mk id (.cons rfl (.of_eq rfl) (.cons rfl (.of_eq rfl) .nil)) (.box rfl (.cons (.of_eq rfl) .nil) (.box rfl (.cons (.of_eq rfl) .nil) .nil)) rfl))))))))) ?_
          refine W.ret ?_
          obtain rfl := Option.some.inj h
          exact XQ.sub (σ' := ⟨[(4, .ptr 90 0), (5, .ptr 91 0)], [(91, .box 29 [.v (Enc.err ET) (none : Option Int)]), (90, .box 24 [.v eBlk z16])]⟩) (Sw.Sub.mk (rn [(90, 103), (91, 104)]) (.cons rfl (.of_eq rfl) (.cons rfl (.of_eq rfl) .nil)) (.boxU rfl (.cons (.of_eq rfl) .nil) (.boxU rfl (.cons (.of_eq rfl) .nil) .nil)) rfl) (XQ.ret2 hF noR rfl (RV.cellAt rfl rfl rfl Try.isAgg24 Try.sizeOf24) (RV.cellAt rfl rfl rfl Try.isAgg29 Try.sizeOf29) .nil rfl)
        · intro A9 z18 hz S w R df hF
          have h := hx9 _ hz
          refine XQ.ret ?_
          obtain rfl := Option.some.inj h
          exact XQ.sub (σ' := ⟨[(4, .ptr 90 0), (5, .ptr 91 0)], [(91, .box 29 [.v (Enc.err ET) (none : Option Int)]), (90, .box 24 [.v eBlk z18])]⟩) (Sw.Sub.mk (rn [(90, 103), (91, 104)]) (.cons rfl (.of_eq rfl) (.cons rfl (.of_eq rfl) .nil)) (.boxU rfl (.cons (.of_eq rfl) .nil) (.boxU rfl (.cons (.of_eq rfl) .nil) .nil)) rfl) (XQ.ret2 hF noR rfl (RV.cellAt rfl rfl rfl Try.isAgg24 Try.sizeOf24) (RV.cellAt rfl rfl rfl Try.isAgg29 Try.sizeOf29) .nil rfl)
set_option maxRecDepth 100000 in
set_option maxHeartbeats 4000000 in
theorem con_ref_OwnBlocks {a0 : (List Blk)} {r : (List Blk)} (h : m_ref_OwnBlocks a0 = some r) :
    Con Try.prog 48 [.v (Enc.sl eBlk) a0] (.ref 0) [(0, .arr 24 eBlk r)] := by
  refine Con.of Try.func48 rfl Try.ntmps48 rfl ?_
  intro S w hF
  unfold m_ref_OwnBlocks at h
  refine W.seq ?_
  refine W.reg (σ' := ⟨[(0, .v (Enc.sl eBlk) a0)], []⟩) (J.cons (.none rfl) (JO.assignNilR 101 24 eBlk) rfl rfl (J.fin (Sw.Sub.mk id (.cons rfl (.of_eq rfl) .nil) .nil rfl))) ?_
  refine W.seq ?_
  obtain ⟨v1, hv1, h⟩ := bind_e h
  refine W.reg (σ' := ⟨[(2, .ref 103)], [(103, .arr 24 eBlk v1)]⟩) (J.cons (.none rfl) (JO.litR (e := eBlk) 102 Try.runUnderlying22 Try.sizeOf24 Try.zeroValue24 rfl rfl rfl rfl .nil) rfl rfl (J.cons (.none rfl) (JO.move rfl) rfl rfl (J.mut (.none rfl) (JM.append 103 hv1 rfl rfl (.sl rfl) Try.runUnderlying22 Try.typeInfo24 Try.sizeOf24 rfl rfl rfl rfl rfl) (J.cons (.none rfl) (JO.assign rfl) rfl rfl (J.fin (Sw.Sub.mk id (.cons rfl (.of_eq rfl) .nil) (.arr rfl .nil) rfl)))))) ?_
  refine W.ret ?_
  obtain rfl := Option.some.inj h
  exact XQ.sub (σ' := ⟨[(2, .ref 0)], [(0, .arr 24 eBlk v1)]⟩) (Sw.Sub.mk (rn [(0, 103)]) (.cons rfl (.of_eq rfl) .nil) (.arr rfl .nil) rfl) (XQ.ret1 hF noR rfl (RV.tmp rfl) (.cons rfl .nil) rfl)
set_option maxRecDepth 100000 in
set_option maxHeartbeats 4000000 in
theorem con_ref_OwnDisk {a0 : ((List Blk) × (List (Int × Blk)) × Int)} (hz : a0.2.1 ≠ []) {r : ((List Blk) × (List (Int × Blk)) × Int)} (h : m_ref_OwnDisk a0 = some r) :
    Con Try.prog 62 [.v (Enc.pr (Enc.sl eBlk) (Enc.pr (Enc.sl (Enc.pr (Enc.int .i64) eBlk)) (Enc.int .i64))) a0] (.agg [.ref 0, .ref 1, .v (Enc.int .i64) r.2.2]) [(0, .arr 24 eBlk r.1), (1, .arr 85 (Enc.pr (Enc.int .i64) eBlk) r.2.1)] := by
  refine Con.of Try.func62 rfl Try.ntmps62 rfl ?_
  intro S w hF
  unfold m_ref_OwnDisk at h
  refine W.seq ?_
  refine W.reg (σ' := ⟨[(1, .ptr 101 0), (2, .ptr 102 0)], [(101, .box 49 [.v (Enc.sl eBlk) a0.1, .v (Enc.sl (Enc.pr (Enc.int .i64) eBlk)) a0.2.1, .v (Enc.int .i64) a0.2.2]), (102, .box 49 [.v (Enc.sl eBlk) ([] : (List Blk)), .v (Enc.sl (Enc.pr (Enc.int .i64) eBlk)) ([] : (List (Int × Blk))), .v (Enc.int .i64) (0 : Int)])]⟩) (J.cons (.none rfl) (JO.box 101 rfl (.prm (.one _ _) (.prm (.one _ _) (.one _ _))) rfl) rfl rfl (J.cons (.none rfl) (JO.alloc 102 Try.zeroValue49 rfl (.cons (Z.sl eBlk) (.cons (Z.sl (Enc.pr (Enc.int .i64) eBlk)) (.cons (Z.int .i64) .nil))) rfl) rfl rfl (J.fin (Sw.Sub.mk id (.cons rfl (.of_eq rfl) (.cons rfl (.of_eq rfl) .nil)) (.box rfl (.cons (.of_eq rfl) (.cons (.of_eq rfl) (.cons (.of_eq rfl) .nil))) (.box rfl (.cons (.of_eq rfl) (.cons (.of_eq rfl) (.cons (.of_eq rfl) .nil))) .nil)) rfl)))) ?_
  refine W.seq ?_
  obtain ⟨v1, hv1, h⟩ := bind_e h
  obtain ⟨v2, hv2, h⟩ := bind_e h
  refine W.dr (σ' := ⟨[(2, .ptr 102 0)], [(102, .box 49 [.ref 103000, .ref 104, .v (Enc.int .i64) a0.2.2]), (103000, .arr 24 eBlk v1), (104, .arr 85 (Enc.pr (Enc.int .i64) eBlk) v2)]⟩) 9 mixed (by exact (.cons (.none rfl) (JO.fieldPtr 0 rfl Try.runUnderlying49 rfl Try.sizeOf22 rfl rfl) rfl rfl (.cons (.none rfl) (JO.load rfl rfl rfl Try.isAgg22 Try.sizeOf22) rfl rfl (.cons (.none rfl) (JO.call 103000 (con_ref_OwnBlocks hv1) Try.call48 (.cons (.dir rfl) .nil) rfl) rfl rfl (.cons (.none rfl) (JO.litE (Enc.pr (Enc.int .i64) eBlk) Try.runUnderlying47 Try.sizeOf85 Try.zeroValue85) rfl rfl (.cons (.none rfl) (JO.fieldPtr 1 rfl Try.runUnderlying49 rfl Try.sizeOf47 rfl rfl) rfl rfl (.cons (.none rfl) (JO.load rfl rfl rfl Try.isAgg47 Try.sizeOf47) rfl rfl (.cons (.none rfl) (JO.appER 104 hz hv2 rfl (.sl rfl) Try.runUnderlying47 Try.typeInfo85 Try.sizeOf85 rfl rfl rfl) rfl rfl (.cons (.none rfl) (JO.fieldPtr 2 rfl Try.runUnderlying49 rfl Try.sizeOf3 rfl rfl) rfl rfl (.cons (.none rfl) (JO.load rfl rfl rfl Try.isAgg3 Try.sizeOf3) rfl rfl .nil)))))))))) (by exact (J.cons (.none rfl) (JO.build built49 (.cons (Z.sl eBlk) (.cons (Z.sl (Enc.pr (Enc.int .i64) eBlk)) (.cons (Z.int .i64) .nil))) (.cons rfl (.dir rfl) rfl rfl rfl rfl (.cons rfl (.dir rfl) rfl rfl rfl rfl (.cons rfl (.dir rfl) rfl rfl rfl rfl .nil)))) rfl rfl (J.mut (.none rfl) (JM.storeAgg rfl rfl rfl rfl rfl rfl Try.sizeOf49) (J.fin (Sw.Sub.mk id (.cons rfl (.of_eq rfl) .nil) (.box rfl (.cons (.of_eq rfl) (.cons (.of_eq rfl) (.cons (.of_eq rfl) .nil))) (.arr rfl (.arr rfl .nil))) rfl))))) (by decide +kernel) (by decide +kernel) (by decide +kernel) ?_
  refine W.ret ?_
  obtain rfl := Option.some.inj h
  exact XQ.sub (σ' := ⟨[(2, .ptr 90 0)], [(90, .box 49 [.ref 0, .ref 1, .v (Enc.int .i64) a0.2.2]), (1, .arr 85 (Enc.pr (Enc.int .i64) eBlk) v2), (0, .arr 24 eBlk v1)]⟩) (Sw.Sub.mk (rn [(90, 102), (1, 104), (0, 103000)]) (.cons rfl (.of_eq rfl) .nil) (.box rfl (.cons (.of_eq rfl) (.cons (.of_eq rfl) (.cons (.of_eq rfl) .nil))) (.arr rfl (.arr rfl .nil))) rfl) (XQ.ret1 hF noR rfl (RV.cellAgg rfl rfl rfl Try.isAgg49 Try.sizeOf49) (.cons rfl (.cons rfl .nil)) rfl)
set_option maxRecDepth 100000 in
set_option maxHeartbeats 4000000 in
theorem con_slices_Clone_api_Block_api_Block_nil {a0 : (Bool × (List Blk))} {r : (List Blk)} (h : m_slices_Clone_api_Block_api_Block_nil a0 = some r) :
    Con Try.prog 82 [.v (Enc.slN eBlk) a0] (.ref 0) [(0, .arr 24 eBlk r)] := by
  refine Con.of Try.func82 rfl Try.ntmps82 rfl ?_
  intro S w hF
  unfold m_slices_Clone_api_Block_api_Block_nil at h
  refine W.seq ?_
  refine W.reg (σ' := ⟨[(0, .v (Enc.slN eBlk) a0)], []⟩) (J.cons (.none rfl) (JO.assignNilR 101 24 eBlk) rfl rfl (J.fin (Sw.Sub.mk id (.cons rfl (.of_eq rfl) .nil) .nil rfl))) ?_
  refine W.seq ?_
  refine W.seq ?_
  refine W.reg (σ' := ⟨[(0, .v (Enc.slN eBlk) a0), (4, .v Enc.bool a0.1)], []⟩) (J.cons (.none rfl) (JO.move rfl) rfl rfl (J.cons (.none rfl) (JO.eqNilS rfl Try.runUnderlying22) rfl rfl (J.fin (Sw.Sub.mk id (.cons rfl (.of_eq rfl) (.cons rfl (.of_eq rfl) .nil)) .nil rfl)))) ?_
  rcases Bool.eq_false_or_eq_true a0.1 with hc1 | hc1
  · replace h := cond_t hc1 h
    refine W.condT rfl hc1 ?_
    refine W.seq ?_
    refine W.reg (σ' := ⟨[(2, .ref 102)], [(102, .arr 24 eBlk ([] : (List Blk)))]⟩) (J.cons (.none rfl) (JO.assignNilR 102 24 eBlk) rfl rfl (J.fin (Sw.Sub.mk id (.cons rfl (.of_eq rfl) .nil) (.arr rfl .nil) rfl))) ?_
    refine W.ret ?_
    obtain rfl := Option.some.inj h
    exact XQ.sub (σ' := ⟨[(2, .ref 0)], [(0, .arr 24 eBlk ([] : (List Blk)))]⟩) (Sw.Sub.mk (rn [(0, 102)]) (.cons rfl (.of_eq rfl) .nil) (.arr rfl .nil) rfl) (XQ.ret1 hF noR rfl (RV.tmp rfl) (.cons rfl .nil) rfl)
  · replace h := cond_f hc1 h
    refine W.condF rfl hc1 ?_
    refine W.skip ?_
    refine W.seq ?_
    obtain ⟨v2, hv2, h⟩ := bind_e h
    refine W.reg (σ' := ⟨[(2, .ref 104)], [(104, .arr 24 eBlk v2)]⟩) (J.cons (.none rfl) (JO.litR (e := eBlk) 103 Try.runUnderlying22 Try.sizeOf24 Try.zeroValue24 rfl rfl rfl rfl .nil) rfl rfl (J.cons (.none rfl) (JO.move rfl) rfl rfl (J.mut (.none rfl) (JM.append 104 hv2 rfl rfl (.slN rfl) Try.runUnderlying22 Try.typeInfo24 Try.sizeOf24 rfl rfl rfl rfl rfl) (J.cons (.none rfl) (JO.assign rfl) rfl rfl (J.fin (Sw.Sub.mk id (.cons rfl (.of_eq rfl) .nil) (.arr rfl .nil) rfl)))))) ?_
    refine W.ret ?_
    obtain rfl := Option.some.inj h
    exact XQ.sub (σ' := ⟨[(2, .ref 0)], [(0, .arr 24 eBlk v2)]⟩) (Sw.Sub.mk (rn [(0, 104)]) (.cons rfl (.of_eq rfl) .nil) (.arr rfl .nil) rfl) (XQ.ret1 hF noR rfl (RV.tmp rfl) (.cons rfl .nil) rfl)
theorem con_slices_Clone_api_Block_api_Block {a0 : (List Blk)} {r : (List Blk)} (h : m_slices_Clone_api_Block_api_Block a0 = some r) :
    Con Try.prog 82 [.v (Enc.sl eBlk) a0] (.ref 0) [(0, .arr 24 eBlk r)] :=
  Con.nilCases fun b hb => con_slices_Clone_api_Block_api_Block_nil (by cases b with | true => rw [hb rfl] at h ⊢; exact h | false => exact clone_f h)
set_option maxRecDepth 100000 in
set_option maxHeartbeats 4000000 in
theorem con_slices_Clone_api_Put_api_Put_nil {a0 : (Bool × (List (Int × Blk)))} {r : (List (Int × Blk))} (h : m_slices_Clone_api_Put_api_Put_nil a0 = some r) :
    Con Try.prog 92 [.v (Enc.slN (Enc.pr (Enc.int .i64) eBlk)) a0] (.ref 0) [(0, .arr 85 (Enc.pr (Enc.int .i64) eBlk) r)] := by
  refine Con.of Try.func92 rfl Try.ntmps92 rfl ?_
  intro S w hF
  unfold m_slices_Clone_api_Put_api_Put_nil at h
  refine W.seq ?_
  refine W.reg (σ' := ⟨[(0, .v (Enc.slN (Enc.pr (Enc.int .i64) eBlk)) a0)], []⟩) (J.cons (.none rfl) (JO.assignNilR 101 85 (Enc.pr (Enc.int .i64) eBlk)) rfl rfl (J.fin (Sw.Sub.mk id (.cons rfl (.of_eq rfl) .nil) .nil rfl))) ?_
  refine W.seq ?_
  refine W.seq ?_
  refine W.reg (σ' := ⟨[(0, .v (Enc.slN (Enc.pr (Enc.int .i64) eBlk)) a0), (4, .v Enc.bool a0.1)], []⟩) (J.cons (.none rfl) (JO.move rfl) rfl rfl (J.cons (.none rfl) (JO.eqNilS rfl Try.runUnderlying47) rfl rfl (J.fin (Sw.Sub.mk id (.cons rfl (.of_eq rfl) (.cons rfl (.of_eq rfl) .nil)) .nil rfl)))) ?_
  rcases Bool.eq_false_or_eq_true a0.1 with hc1 | hc1
  · replace h := cond_t hc1 h
    refine W.condT rfl hc1 ?_
    refine W.seq ?_
    refine W.reg (σ' := ⟨[(2, .ref 102)], [(102, .arr 85 (Enc.pr (Enc.int .i64) eBlk) ([] : (List (Int × Blk))))]⟩) (J.cons (.none rfl) (JO.assignNilR 102 85 (Enc.pr (Enc.int .i64) eBlk)) rfl rfl (J.fin (Sw.Sub.mk id (.cons rfl (.of_eq rfl) .nil) (.arr rfl .nil) rfl))) ?_
    refine W.ret ?_
    obtain rfl := Option.some.inj h
    exact XQ.sub (σ' := ⟨[(2, .ref 0)], [(0, .arr 85 (Enc.pr (Enc.int .i64) eBlk) ([] : (List (Int × Blk))))]⟩) (Sw.Sub.mk (rn [(0, 102)]) (.cons rfl (.of_eq rfl) .nil) (.arr rfl .nil) rfl) (XQ.ret1 hF noR rfl (RV.tmp rfl) (.cons rfl .nil) rfl)
  · replace h := cond_f hc1 h
    refine W.condF rfl hc1 ?_
    refine W.skip ?_
    refine W.seq ?_
    obtain ⟨v2, hv2, h⟩ := bind_e h
    refine W.reg (σ' := ⟨[(2, .ref 104)], [(104, .arr 85 (Enc.pr (Enc.int .i64) eBlk) v2)]⟩) (J.cons (.none rfl) (JO.litR (e := (Enc.pr (Enc.int .i64) eBlk)) 103 Try.runUnderlying47 Try.sizeOf85 Try.zeroValue85 rfl rfl rfl rfl .nil) rfl rfl (J.cons (.none rfl) (JO.move rfl) rfl rfl (J.mut (.none rfl) (JM.append 104 hv2 rfl rfl (.slN rfl) Try.runUnderlying47 Try.typeInfo85 Try.sizeOf85 rfl rfl rfl rfl rfl) (J.cons (.none rfl) (JO.assign rfl) rfl rfl (J.fin (Sw.Sub.mk id (.cons rfl (.of_eq rfl) .nil) (.arr rfl .nil) rfl)))))) ?_
    refine W.ret ?_
    obtain rfl := Option.some.inj h
    exact XQ.sub (σ' := ⟨[(2, .ref 0)], [(0, .arr 85 (Enc.pr (Enc.int .i64) eBlk) v2)]⟩) (Sw.Sub.mk (rn [(0, 104)]) (.cons rfl (.of_eq rfl) .nil) (.arr rfl .nil) rfl) (XQ.ret1 hF noR rfl (RV.tmp rfl) (.cons rfl .nil) rfl)
theorem con_slices_Clone_api_Put_api_Put {a0 : (List (Int × Blk))} {r : (List (Int × Blk))} (h : m_slices_Clone_api_Put_api_Put a0 = some r) :
    Con Try.prog 92 [.v (Enc.sl (Enc.pr (Enc.int .i64) eBlk)) a0] (.ref 0) [(0, .arr 85 (Enc.pr (Enc.int .i64) eBlk) r)] :=
  Con.nilCases fun b hb => con_slices_Clone_api_Put_api_Put_nil (by cases b with | true => rw [hb rfl] at h ⊢; exact h | false => exact clone_f h)
set_option maxRecDepth 100000 in
set_option maxHeartbeats 4000000 in
theorem con_disk_clone {a0 : ((List Blk) × (List (Int × Blk)) × Int)} {r : ((List Blk) × (List (Int × Blk)) × Int)} (h : m_disk_clone a0 = some r) :
    Con Try.prog 71 [.v (Enc.pr (Enc.sl eBlk) (Enc.pr (Enc.sl (Enc.pr (Enc.int .i64) eBlk)) (Enc.int .i64))) a0] (.agg [.ref 0, .ref 1, .v (Enc.int .i64) r.2.2]) [(0, .arr 24 eBlk r.1), (1, .arr 85 (Enc.pr (Enc.int .i64) eBlk) r.2.1)] := by
  refine Con.of Try.func71 rfl Try.ntmps71 rfl ?_
  intro S w hF
  unfold m_disk_clone at h
  refine W.seq ?_
  refine W.reg (σ' := ⟨[(1, .ptr 101 0), (2, .ptr 102 0)], [(101, .box 49 [.v (Enc.sl eBlk) a0.1, .v (Enc.sl (Enc.pr (Enc.int .i64) eBlk)) a0.2.1, .v (Enc.int .i64) a0.2.2]), (102, .box 49 [.v (Enc.sl eBlk) ([] : (List Blk)), .v (Enc.sl (Enc.pr (Enc.int .i64) eBlk)) ([] : (List (Int × Blk))), .v (Enc.int .i64) (0 : Int)])]⟩) (J.cons (.none rfl) (JO.box 101 rfl (.prm (.one _ _) (.prm (.one _ _) (.one _ _))) rfl) rfl rfl (J.cons (.none rfl) (JO.alloc 102 Try.zeroValue49 rfl (.cons (Z.sl eBlk) (.cons (Z.sl (Enc.pr (Enc.int .i64) eBlk)) (.cons (Z.int .i64) .nil))) rfl) rfl rfl (J.fin (Sw.Sub.mk id (.cons rfl (.of_eq rfl) (.cons rfl (.of_eq rfl) .nil)) (.box rfl (.cons (.of_eq rfl) (.cons (.of_eq rfl) (.cons (.of_eq rfl) .nil))) (.box rfl (.cons (.of_eq rfl) (.cons (.of_eq rfl) (.cons (.of_eq rfl) .nil))) .nil)) rfl)))) ?_
  refine W.seq ?_
  obtain ⟨v1, hv1, h⟩ := bind_e h
  obtain ⟨v2, hv2, h⟩ := bind_e h
  refine W.dr (σ' := ⟨[(1, .ptr 101 0), (2, .ptr 102 0)], [(101, .box 49 [.ref 103000, .ref 104000, .v (Enc.int .i64) a0.2.2]), (102, .box 49 [.v (Enc.sl eBlk) ([] : (List Blk)), .v (Enc.sl (Enc.pr (Enc.int .i64) eBlk)) ([] : (List (Int × Blk))), .v (Enc.int .i64) (0 : Int)]), (103000, .arr 24 eBlk v1), (104000, .arr 85 (Enc.pr (Enc.int .i64) eBlk) v2)]⟩) 7 mixed (by exact (.cons (.none rfl) (JO.fieldPtr 0 rfl Try.runUnderlying49 rfl Try.sizeOf22 rfl rfl) rfl rfl (.cons (.none rfl) (JO.load rfl rfl rfl Try.isAgg22 Try.sizeOf22) rfl rfl (.cons (.none rfl) (JO.call 103000 (con_slices_Clone_api_Block_api_Block hv1) Try.call82 (.cons (.dir rfl) .nil) rfl) rfl rfl (.cons (.none rfl) (JO.fieldPtr 1 rfl Try.runUnderlying49 rfl Try.sizeOf47 rfl rfl) rfl rfl (.cons (.none rfl) (JO.load rfl rfl rfl Try.isAgg47 Try.sizeOf47) rfl rfl (.cons (.none rfl) (JO.call 104000 (con_slices_Clone_api_Put_api_Put hv2) Try.call92 (.cons (.dir rfl) .nil) rfl) rfl rfl (.cons (.none rfl) (JO.fieldPtr 0 rfl Try.runUnderlying49 rfl Try.sizeOf22 rfl rfl) rfl rfl .nil)))))))) (by exact (J.mut (.none rfl) (JM.store rfl rfl rfl rfl rfl rfl rfl Try.sizeOf22) (J.cons (.none rfl) (JO.fieldPtr 1 rfl Try.runUnderlying49 rfl Try.sizeOf47 rfl rfl) rfl rfl (J.mut (.none rfl) (JM.store rfl rfl rfl rfl rfl rfl rfl Try.sizeOf47) (J.fin (Sw.Sub.mk id (.cons rfl (.of_eq rfl) (.cons rfl (.of_eq rfl) .nil)) (.box rfl (.cons (.of_eq rfl) (.cons (.of_eq rfl) (.cons (.of_eq rfl) .nil))) (.box rfl (.cons (.of_eq rfl) (.cons (.of_eq rfl) (.cons (.of_eq rfl) .nil))) (.arr rfl (.arr rfl .nil)))) rfl)))))) (by decide +kernel) (by decide +kernel) (by decide +kernel) ?_
  refine W.seq ?_
  refine W.reg (σ' := ⟨[(2, .ptr 102 0)], [(102, .box 49 [.ref 103000, .ref 104000, .v (Enc.int .i64) a0.2.2]), (103000, .arr 24 eBlk v1), (104000, .arr 85 (Enc.pr (Enc.int .i64) eBlk) v2)]⟩) (J.cons (.none rfl) (JO.loadAgg rfl rfl rfl Try.isAgg49 Try.sizeOf49) rfl rfl (J.mut (.none rfl) (JM.storeAgg rfl rfl rfl rfl rfl rfl Try.sizeOf49) (J.fin (Sw.Sub.mk id (.cons rfl (.of_eq rfl) .nil) (.box rfl (.cons (.of_eq rfl) (.cons (.of_eq rfl) (.cons (.of_eq rfl) .nil))) (.arr rfl (.arr rfl .nil))) rfl)))) ?_
  refine W.ret ?_
  obtain rfl := Option.some.inj h
  exact XQ.sub (σ' := ⟨[(2, .ptr 90 0)], [(90, .box 49 [.ref 0, .ref 1, .v (Enc.int .i64) a0.2.2]), (1, .arr 85 (Enc.pr (Enc.int .i64) eBlk) v2), (0, .arr 24 eBlk v1)]⟩) (Sw.Sub.mk (rn [(90, 102), (1, 104000), (0, 103000)]) (.cons rfl (.of_eq rfl) .nil) (.box rfl (.cons (.of_eq rfl) (.cons (.of_eq rfl) (.cons (.of_eq rfl) .nil))) (.arr rfl (.arr rfl .nil))) rfl) (XQ.ret1 hF noR rfl (RV.cellAgg rfl rfl rfl Try.isAgg49 Try.sizeOf49) (.cons rfl (.cons rfl .nil)) rfl)
set_option maxRecDepth 100000 in
set_option maxHeartbeats 4000000 in
theorem con_disk_Disk_step_io (A : Nat → Nat) {a0_0 : (List Blk)} {a0_1 : (List (Int × Blk))} {a0_2 : Int} {r : (Option Int) × (List Blk) × (List (Int × Blk)) × Int} (h : m_disk_Disk_step_io a0_0 a0_1 a0_2 = some r) :
    ConM Try.prog 89 [.ptr 9000 0] [(9000, .box 49 [.ref 8950, .ref 8951, .v (Enc.int .i64) a0_2] (some (A 9000))), (8950, .arr 24 eBlk a0_0), (8951, .arr 85 (Enc.pr (Enc.int .i64) eBlk) a0_1)] (.v (Enc.err ET) r.1) [(9000, .box 49 [.ref 8910, .ref 8911, .v (Enc.int .i64) r.2.2.2] (some (A 9000))), (8910, .arr 24 eBlk r.2.1), (8911, .arr 85 (Enc.pr (Enc.int .i64) eBlk) r.2.2.1)] := by
  refine ConM.of Try.func89 rfl Try.ntmps89 rfl ?_
  intro S w R hF
  unfold m_disk_Disk_step_io at h
  refine W.seq ?_
  refine W.reg (σ' := ⟨[(0, .ptr 9000 0)], [(9000, .box 49 [.ref 8950, .ref 8951, .v (Enc.int .i64) a0_2] (some (A 9000))), (8950, .arr 24 eBlk a0_0), (8951, .arr 85 (Enc.pr (Enc.int .i64) eBlk) a0_1)]⟩) (J.cons (.none rfl) (JO.assignNilE ET) rfl rfl (J.fin (Sw.Sub.mk id (.cons rfl (.of_eq rfl) .nil) (.box rfl (.cons (.of_eq rfl) (.cons (.of_eq rfl) (.cons (.of_eq rfl) .nil))) (.arr rfl (.arr rfl .nil))) rfl))) ?_
  refine W.seq ?_
  refine W.seq ?_
  refine W.reg (σ' := ⟨[(0, .ptr 9000 0), (7, .v Enc.bool (cm .eql a0_2 (0 : Int)))], [(9000, .box 49 [.ref 8950, .ref 8951, .v (Enc.int .i64) a0_2] (some (A 9000))), (8950, .arr 24 eBlk a0_0), (8951, .arr 85 (Enc.pr (Enc.int .i64) eBlk) a0_1)]⟩) (J.cons (.none rfl) (JO.move rfl) rfl rfl (J.cons (.none rfl) (JO.nilPtr rfl) rfl rfl (J.cons (.none rfl) (JO.fieldPtr 2 rfl Try.runUnderlying49 rfl Try.sizeOf3 rfl rfl) rfl rfl (J.cons (.none rfl) (JO.load rfl rfl rfl Try.isAgg3 Try.sizeOf3) rfl rfl (J.cons (.none rfl) (JO.cmp rfl rfl rfl) rfl rfl (J.fin (Sw.Sub.mk id (.cons rfl (.of_eq rfl) (.cons rfl (.of_eq rfl) .nil)) (.box rfl (.cons (.of_eq rfl) (.cons (.of_eq rfl) (.cons (.of_eq rfl) .nil))) (.arr rfl (.arr rfl .nil))) rfl))))))) ?_
  rcases Bool.eq_false_or_eq_true (cm .eql a0_2 (0 : Int)) with hc1 | hc1
  · replace h := cond_t hc1 h
    refine W.condT rfl hc1 ?_
    refine W.seq ?_
    refine W.reg (σ' := ⟨[(0, .ptr 9000 0), (2, .v (Enc.err ET) (some (4 : Int)))], [(9000, .box 49 [.ref 8950, .ref 8951, .v (Enc.int .i64) a0_2] (some (A 9000))), (8950, .arr 24 eBlk a0_0), (8951, .arr 85 (Enc.pr (Enc.int .i64) eBlk) a0_1)]⟩) (J.cons (.none rfl) (JO.mkErr Try.runUnderlying25 rfl) rfl rfl (J.cons (.none rfl) (JO.assign rfl) rfl rfl (J.fin (Sw.Sub.mk id (.cons rfl (.of_eq rfl) (.cons rfl (.of_eq rfl) .nil)) (.box rfl (.cons (.of_eq rfl) (.cons (.of_eq rfl) (.cons (.of_eq rfl) .nil))) (.arr rfl (.arr rfl .nil))) rfl)))) ?_
    refine W.ret ?_
    obtain rfl := Option.some.inj h
    exact XQ.sub (σ' := ⟨[(0, .ptr 9000 0), (2, .v (Enc.err ET) (some (4 : Int)))], [(9000, .box 49 [.ref 8910, .ref 8911, .v (Enc.int .i64) a0_2] (some (A 9000))), (8911, .arr 85 (Enc.pr (Enc.int .i64) eBlk) a0_1), (8910, .arr 24 eBlk a0_0)]⟩) (Sw.Sub.mk (rn [(9000, 9000), (8911, 8951), (8910, 8950)]) (.cons rfl (.of_eq rfl) (.cons rfl (.of_eq rfl) .nil)) (.box rfl (.cons (.of_eq rfl) (.cons (.of_eq rfl) (.cons (.of_eq rfl) .nil))) (.arr rfl (.arr rfl .nil))) rfl) (XQ.retM1 hF rfl (RV.tmp rfl) (.cons rfl (.cons rfl (.cons rfl .nil))))
  · replace h := cond_f hc1 h
    refine W.condF rfl hc1 ?_
    refine W.skip ?_
    refine W.seq ?_
    refine W.seq ?_
    refine W.reg (σ' := ⟨[(0, .ptr 9000 0), (13, .v Enc.bool (cm .gtr a0_2 (0 : Int)))], [(9000, .box 49 [.ref 8950, .ref 8951, .v (Enc.int .i64) a0_2] (some (A 9000))), (8950, .arr 24 eBlk a0_0), (8951, .arr 85 (Enc.pr (Enc.int .i64) eBlk) a0_1)]⟩) (J.cons (.none rfl) (JO.move rfl) rfl rfl (J.cons (.none rfl) (JO.nilPtr rfl) rfl rfl (J.cons (.none rfl) (JO.fieldPtr 2 rfl Try.runUnderlying49 rfl Try.sizeOf3 rfl rfl) rfl rfl (J.cons (.none rfl) (JO.load rfl rfl rfl Try.isAgg3 Try.sizeOf3) rfl rfl (J.cons (.none rfl) (JO.cmp rfl rfl rfl) rfl rfl (J.fin (Sw.Sub.mk id (.cons rfl (.of_eq rfl) (.cons rfl (.of_eq rfl) .nil)) (.box rfl (.cons (.of_eq rfl) (.cons (.of_eq rfl) (.cons (.of_eq rfl) .nil))) (.arr rfl (.arr rfl .nil))) rfl))))))) ?_
    obtain ⟨k3, hk3, h⟩ := jp_elim h
    refine W.jn (fun x4 : Int => ⟨[(0, .ptr 9000 0)], [(9000, .box 49 [.ref 8950, .ref 8951, .v (Enc.int .i64) x4] (some (A 9000))), (8950, .arr 24 eBlk a0_0), (8951, .arr 85 (Enc.pr (Enc.int .i64) eBlk) a0_1)]⟩) (fun x => k3 x = some r) rfl ?_ ?_ ?_
    · intro x4 h
      rw [hk3] at h
      refine W.seq ?_
      refine W.reg (σ' := ⟨[(0, .ptr 9000 0), (2, .v (Enc.err ET) (none : Option Int))], [(9000, .box 49 [.ref 8950, .ref 8951, .v (Enc.int .i64) x4] (some (A 9000))), (8950, .arr 24 eBlk a0_0), (8951, .arr 85 (Enc.pr (Enc.int .i64) eBlk) a0_1)]⟩) (J.cons (.none rfl) (JO.assignNilE ET) rfl rfl (J.fin (Sw.Sub.mk id (.cons rfl (.of_eq rfl) (.cons rfl (.of_eq rfl) .nil)) (.box rfl (.cons (.of_eq rfl) (.cons (.of_eq rfl) (.cons (.of_eq rfl) .nil))) (.arr rfl (.arr rfl .nil))) rfl))) ?_
      refine W.ret ?_
      obtain rfl := Option.some.inj h
      exact XQ.sub (σ' := ⟨[(0, .ptr 9000 0), (2, .v (Enc.err ET) (none : Option Int))], [(9000, .box 49 [.ref 8910, .ref 8911, .v (Enc.int .i64) x4] (some (A 9000))), (8911, .arr 85 (Enc.pr (Enc.int .i64) eBlk) a0_1), (8910, .arr 24 eBlk a0_0)]⟩) (Sw.Sub.mk (rn [(9000, 9000), (8911, 8951), (8910, 8950)]) (.cons rfl (.of_eq rfl) (.cons rfl (.of_eq rfl) .nil)) (.box rfl (.cons (.of_eq rfl) (.cons (.of_eq rfl) (.cons (.of_eq rfl) .nil))) (.arr rfl (.arr rfl .nil))) rfl) (XQ.retM1 hF rfl (RV.tmp rfl) (.cons rfl (.cons rfl (.cons rfl .nil))))
    · intro hc2
      replace h := cond_t hc2 h
      refine W.reg (σ' := ⟨[(0, .ptr 9000 0)], [(9000, .box 49 [.ref 8950, .ref 8951, .v (Enc.int .i64) (ar .sub .i64 a0_2 (1 : Int))] (some (A 9000))), (8950, .arr 24 eBlk a0_0), (8951, .arr 85 (Enc.pr (Enc.int .i64) eBlk) a0_1)]⟩) (J.cons (.none rfl) (JO.move rfl) rfl rfl (J.cons (.none rfl) (JO.nilPtr rfl) rfl rfl (J.cons (.none rfl) (JO.fieldPtr 2 rfl Try.runUnderlying49 rfl Try.sizeOf3 rfl rfl) rfl rfl (J.cons (.none rfl) (JO.load rfl rfl rfl Try.isAgg3 Try.sizeOf3) rfl rfl (J.cons (.none rfl) (JO.arith rfl rfl rfl) rfl rfl (J.cons (.none rfl) (JO.nilPtr rfl) rfl rfl (J.cons (.none rfl) (JO.fieldPtr 2 rfl Try.runUnderlying49 rfl Try.sizeOf3 rfl rfl) rfl rfl (J.mut (.none rfl) (JM.store rfl rfl rfl rfl rfl rfl rfl Try.sizeOf3) (J.fin (Sw.Sub.mk id (.cons rfl (.of_eq rfl) .nil) (.box rfl (.cons (.of_eq rfl) (.cons (.of_eq rfl) (.cons (.of_eq rfl) .nil))) (.arr rfl (.arr rfl .nil))) rfl)))))))))) ?_
      exact W.jfall h (Sw.Sub.mk id (.cons rfl (.of_eq rfl) .nil) (.box rfl (.cons (.of_eq rfl) (.cons (.of_eq rfl) (.cons (.of_eq rfl) .nil))) (.arr rfl (.arr rfl .nil))) rfl)
    · intro hc2
      replace h := cond_f hc2 h
      refine W.skip ?_
      exact W.jfall h (Sw.Sub.mk id (.cons rfl (.of_eq rfl) .nil) (.box rfl (.cons (.of_eq rfl) (.cons (.of_eq rfl) (.cons (.of_eq rfl) .nil))) (.arr rfl (.arr rfl .nil))) rfl)
set_option maxRecDepth 100000 in
set_option maxHeartbeats 4000000 in
theorem con_disk_Write {a0 : ((List Blk) × (List (Int × Blk)) × Int)} {a1 : Int} {a2 : Blk} {r : ((List Blk) × (List (Int × Blk)) × Int) × (Option Int)} (h : m_disk_Write a0 a1 a2 = some r) :
    Con Try.prog 63 [.v (Enc.pr (Enc.sl eBlk) (Enc.pr (Enc.sl (Enc.pr (Enc.int .i64) eBlk)) (Enc.int .i64))) a0, .v (Enc.int .i64) a1, .v eBlk a2] (.tup [.v (Enc.pr (Enc.sl eBlk) (Enc.pr (Enc.sl (Enc.pr (Enc.int .i64) eBlk)) (Enc.int .i64))) r.1, .v (Enc.err ET) r.2]) [] := by
  refine Con.of Try.func63 rfl Try.ntmps63 rfl ?_
  intro S w hF
  unfold m_disk_Write at h
  refine W.seq ?_
  refine W.reg (σ' := ⟨[(1, .v (Enc.int .i64) a1), (3, .ptr 101 0), (5, .ptr 102 0), (6, .ptr 103 0)], [(101, .box 49 [.v (Enc.sl eBlk) a0.1, .v (Enc.sl (Enc.pr (Enc.int .i64) eBlk)) a0.2.1, .v (Enc.int .i64) a0.2.2]), (102, .box 24 [.v eBlk a2]), (103, .box 49 [.v (Enc.sl eBlk) ([] : (List Blk)), .v (Enc.sl (Enc.pr (Enc.int .i64) eBlk)) ([] : (List (Int × Blk))), .v (Enc.int .i64) (0 : Int)])]⟩) (J.cons (.none rfl) (JO.box 101 rfl (.prm (.one _ _) (.prm (.one _ _) (.one _ _))) rfl) rfl rfl (J.cons (.none rfl) (JO.box 102 rfl (.one _ _) rfl) rfl rfl (J.cons (.none rfl) (JO.alloc 103 Try.zeroValue49 rfl (.cons (Z.sl eBlk) (.cons (Z.sl (Enc.pr (Enc.int .i64) eBlk)) (.cons (Z.int .i64) .nil))) rfl) rfl rfl (J.cons (.none rfl) (JO.assignNilE ET) rfl rfl (J.fin (Sw.Sub.mk id (.cons rfl (.of_eq rfl) (.cons rfl (.of_eq rfl) (.cons rfl (.of_eq rfl) (.cons rfl (.of_eq rfl) .nil)))) (.box rfl (.cons (.of_eq rfl) (.cons (.of_eq rfl) (.cons (.of_eq rfl) .nil))) (.box rfl (.cons (.of_eq rfl) .nil) (.box rfl (.cons (.of_eq rfl) (.cons (.of_eq rfl) (.cons (.of_eq rfl) .nil))) .nil))) rfl)))))) ?_
  refine W.seq ?_
  refine W.seq ?_
  obtain ⟨v1, hv1, h⟩ := bind_e h
  refine W.reg (σ' := ⟨[(1, .v (Enc.int .i64) a1), (3, .ptr 101 0), (5, .ptr 102 0), (6, .ptr 103 0), (8, .v (Enc.err ET) v1)], [(101, .box 49 [.v (Enc.sl eBlk) a0.1, .v (Enc.sl (Enc.pr (Enc.int .i64) eBlk)) a0.2.1, .v (Enc.int .i64) a0.2.2]), (102, .box 24 [.v eBlk a2]), (103, .box 49 [.v (Enc.sl eBlk) ([] : (List Blk)), .v (Enc.sl (Enc.pr (Enc.int .i64) eBlk)) ([] : (List (Int × Blk))), .v (Enc.int .i64) (0 : Int)])]⟩) (J.cons (.none rfl) (JO.loadAll rfl rfl (.prm (.one _ _) (.prm (.one _ _) (.one _ _))) Try.isAgg49 Try.sizeOf49) rfl rfl (J.cons (.none rfl) (JO.call0 (con_disk_Check hv1) Try.call60 (.cons (.dir rfl) .nil)) rfl rfl (J.cons (.none rfl) (JO.assign rfl) rfl rfl (J.fin (Sw.Sub.mk id (.cons rfl (.of_eq rfl) (.cons rfl (.of_eq rfl) (.cons rfl (.of_eq rfl) (.cons rfl (.of_eq rfl) (.cons rfl (.of_eq rfl) .nil))))) (.box rfl (.cons (.of_eq rfl) (.cons (.of_eq rfl) (.cons (.of_eq rfl) .nil))) (.box rfl (.cons (.of_eq rfl) .nil) (.box rfl (.cons (.of_eq rfl) (.cons (.of_eq rfl) (.cons (.of_eq rfl) .nil))) .nil))) rfl))))) ?_
  refine W.seq ?_
  refine W.reg (σ' := ⟨[(1, .v (Enc.int .i64) a1), (3, .ptr 101 0), (5, .ptr 102 0), (6, .ptr 103 0), (8, .v (Enc.err ET) v1), (13, .v Enc.bool (Option.isSome v1))], [(101, .box 49 [.v (Enc.sl eBlk) a0.1, .v (Enc.sl (Enc.pr (Enc.int .i64) eBlk)) a0.2.1, .v (Enc.int .i64) a0.2.2]), (102, .box 24 [.v eBlk a2]), (103, .box 49 [.v (Enc.sl eBlk) ([] : (List Blk)), .v (Enc.sl (Enc.pr (Enc.int .i64) eBlk)) ([] : (List (Int × Blk))), .v (Enc.int .i64) (0 : Int)])]⟩) (J.cons (.none rfl) (JO.move rfl) rfl rfl (J.cons (.none rfl) (JO.errNe Try.runUnderlying29 rfl) rfl rfl (J.fin (Sw.Sub.mk id (.cons rfl (.of_eq rfl) (.cons rfl (.of_eq rfl) (.cons rfl (.of_eq rfl) (.cons rfl (.of_eq rfl) (.cons rfl (.of_eq rfl) (.cons rfl (.of_eq rfl) .nil)))))) (.box rfl (.cons (.of_eq rfl) (.cons (.of_eq rfl) (.cons (.of_eq rfl) .nil))) (.box rfl (.cons (.of_eq rfl) .nil) (.box rfl (.cons (.of_eq rfl) (.cons (.of_eq rfl) (.cons (.of_eq rfl) .nil))) .nil))) rfl)))) ?_
  rcases Bool.eq_false_or_eq_true (Option.isSome v1) with hc2 | hc2
  · replace h := cond_t hc2 h
    refine W.condT rfl hc2 ?_
    refine W.seq ?_
    refine W.reg (σ' := ⟨[(6, .ptr 103 0), (7, .v (Enc.err ET) v1)], [(103, .box 49 [.v (Enc.sl eBlk) ([] : (List Blk)), .ref 105, .v (Enc.int .i64) (0 : Int)]), (105, .arr 85 (Enc.pr (Enc.int .i64) eBlk) ([] : (List (Int × Blk))))]⟩) (J.cons (.none rfl) (JO.buildN (new := [(105, .arr 85 (Enc.pr (Enc.int .i64) eBlk) ([] : (List (Int × Blk))))]) built49 (.cons (Z.sl eBlk) (.ref 105 rfl (.cons (Z.int .i64) .nil))) (.cons .nil) rfl .nil) rfl rfl (J.cons (.none rfl) (JO.move rfl) rfl rfl (J.mut (.none rfl) (JM.storeAgg rfl rfl rfl rfl rfl rfl Try.sizeOf49) (J.cons (.none rfl) (JO.assign rfl) rfl rfl (J.fin (Sw.Sub.mk id (.cons rfl (.of_eq rfl) (.cons rfl (.of_eq rfl) .nil)) (.box rfl (.cons (.of_eq rfl) (.cons (.of_eq rfl) (.cons (.of_eq rfl) .nil))) (.arr rfl .nil)) rfl)))))) ?_
    refine W.ret ?_
    obtain rfl := Option.some.inj h
    exact XQ.sub (σ' := ⟨[(6, .ptr 90 0), (7, .v (Enc.err ET) v1)], [(90, .box 49 [.v (Enc.sl eBlk) ([] : (List Blk)), .v (Enc.sl (Enc.pr (Enc.int .i64) eBlk)) ([] : (List (Int × Blk))), .v (Enc.int .i64) (0 : Int)])]⟩) (Sw.Sub.mk (rn [(90, 103)]) (.cons rfl (.of_eq rfl) (.cons rfl (.of_eq rfl) .nil)) (.box rfl (.cons (.of_eq rfl) (.cons (.frz rfl rfl) (.cons (.of_eq rfl) .nil))) .nil) rfl) (XQ.ret2 hF noR rfl (RV.cellAll rfl rfl (.prm (.one _ _) (.prm (.one _ _) (.one _ _))) Try.isAgg49 Try.sizeOf49) (RV.tmp rfl) .nil rfl)
  · replace h := cond_f hc2 h
    refine W.condF rfl hc2 ?_
    refine W.skip ?_
    refine W.seq ?_
    refine W.seq ?_
    obtain ⟨x4, hx, h⟩ := bind_e h
    refine W.reg (σ' := ⟨[(1, .v (Enc.int .i64) a1), (3, .ptr 101 0), (5, .ptr 102 0), (6, .ptr 103 0), (24, .v Enc.bool x4)], [(101, .box 49 [.v (Enc.sl eBlk) a0.1, .v (Enc.sl (Enc.pr (Enc.int .i64) eBlk)) a0.2.1, .v (Enc.int .i64) a0.2.2]), (102, .box 24 [.v eBlk a2]), (103, .box 49 [.v (Enc.sl eBlk) ([] : (List Blk)), .v (Enc.sl (Enc.pr (Enc.int .i64) eBlk)) ([] : (List (Int × Blk))), .v (Enc.int .i64) (0 : Int)])]⟩) ?_ ?_
    · rcases Bool.eq_false_or_eq_true (cm .lss a1 (0 : Int)) with hc5 | hc5
      · replace hx := cond_t hc5 hx
        obtain rfl := Option.some.inj hx
        exact (J.cons (.none rfl) (JO.move rfl) rfl rfl (J.cons (.none rfl) (JO.cmp rfl rfl rfl) rfl rfl (J.cons (.none rfl) (JO.move rfl) rfl rfl (J.left (GK.unmet 18 rfl rfl rfl hc5) rfl (J.left (GK.unmet 18 rfl rfl rfl hc5) rfl (J.left (GK.unmet 18 rfl rfl rfl hc5) rfl (J.left (GK.unmet 18 rfl rfl rfl hc5) rfl (J.left (GK.unmet 18 rfl rfl rfl hc5) rfl (J.cons (.none rfl) (JO.pT hc5 rfl rfl) rfl rfl (J.fin (Sw.Sub.mk id (.cons rfl (.of_eq rfl) (.cons rfl (.of_eq rfl) (.cons rfl (.of_eq rfl) (.cons rfl (.of_eq rfl) (.cons rfl (.of_eq rfl) .nil))))) (.box rfl (.cons (.of_eq rfl) (.cons (.of_eq rfl) (.cons (.of_eq rfl) .nil))) (.box rfl (.cons (.of_eq rfl) .nil) (.box rfl (.cons (.of_eq rfl) (.cons (.of_eq rfl) (.cons (.of_eq rfl) .nil))) .nil))) rfl)))))))))))
      · replace hx := cond_f hc5 hx
        obtain rfl := Option.some.inj hx
        exact (J.cons (.none rfl) (JO.move rfl) rfl rfl (J.cons (.none rfl) (JO.cmp rfl rfl rfl) rfl rfl (J.cons (.none rfl) (JO.move rfl) rfl rfl (J.cons (GK.met 18 rfl rfl rfl hc5) (JO.move rfl) rfl rfl (J.cons (GK.met 18 rfl rfl rfl hc5) (JO.fieldPtr 0 rfl Try.runUnderlying49 rfl Try.sizeOf22 rfl rfl) rfl rfl (J.cons (GK.met 18 rfl rfl rfl hc5) (JO.load rfl rfl rfl Try.isAgg22 Try.sizeOf22) rfl rfl (J.cons (GK.met 18 rfl rfl rfl hc5) (JO.len rfl Try.runUnderlying22) rfl rfl (J.cons (GK.met 18 rfl rfl rfl hc5) (JO.cmp rfl rfl rfl) rfl rfl (J.cons (.none rfl) (JO.pF hc5 rfl rfl) rfl rfl (J.fin (Sw.Sub.mk id (.cons rfl (.of_eq rfl) (.cons rfl (.of_eq rfl) (.cons rfl (.of_eq rfl) (.cons rfl (.of_eq rfl) (.cons rfl (.of_eq rfl) .nil))))) (.box rfl (.cons (.of_eq rfl) (.cons (.of_eq rfl) (.cons (.of_eq rfl) .nil))) (.box rfl (.cons (.of_eq rfl) .nil) (.box rfl (.cons (.of_eq rfl) (.cons (.of_eq rfl) (.cons (.of_eq rfl) .nil))) .nil))) rfl)))))))))))
    rcases Bool.eq_false_or_eq_true x4 with hc6 | hc6
    · replace h := cond_t hc6 h
      refine W.condT rfl hc6 ?_
      refine W.seq ?_
      refine W.reg (σ' := ⟨[(6, .ptr 103 0), (7, .v (Enc.err ET) (some (1 : Int)))], [(103, .box 49 [.v (Enc.sl eBlk) ([] : (List Blk)), .ref 106, .v (Enc.int .i64) (0 : Int)]), (106, .arr 85 (Enc.pr (Enc.int .i64) eBlk) ([] : (List (Int × Blk))))]⟩) (J.cons (.none rfl) (JO.buildN (new := [(106, .arr 85 (Enc.pr (Enc.int .i64) eBlk) ([] : (List (Int × Blk))))]) built49 (.cons (Z.sl eBlk) (.ref 106 rfl (.cons (Z.int .i64) .nil))) (.cons .nil) rfl .nil) rfl rfl (J.cons (.none rfl) (JO.mkErr Try.runUnderlying25 rfl) rfl rfl (J.mut (.none rfl) (JM.storeAgg rfl rfl rfl rfl rfl rfl Try.sizeOf49) (J.cons (.none rfl) (JO.assign rfl) rfl rfl (J.fin (Sw.Sub.mk id (.cons rfl (.of_eq rfl) (.cons rfl (.of_eq rfl) .nil)) (.box rfl (.cons (.of_eq rfl) (.cons (.of_eq rfl) (.cons (.of_eq rfl) .nil))) (.arr rfl .nil)) rfl)))))) ?_
      refine W.ret ?_
      obtain rfl := Option.some.inj h
      exact XQ.sub (σ' := ⟨[(6, .ptr 90 0), (7, .v (Enc.err ET) (some (1 : Int)))], [(90, .box 49 [.v (Enc.sl eBlk) ([] : (List Blk)), .v (Enc.sl (Enc.pr (Enc.int .i64) eBlk)) ([] : (List (Int × Blk))), .v (Enc.int .i64) (0 : Int)])]⟩) (Sw.Sub.mk (rn [(90, 103)]) (.cons rfl (.of_eq rfl) (.cons rfl (.of_eq rfl) .nil)) (.box rfl (.cons (.of_eq rfl) (.cons (.frz rfl rfl) (.cons (.of_eq rfl) .nil))) .nil) rfl) (XQ.ret2 hF noR rfl (RV.cellAll rfl rfl (.prm (.one _ _) (.prm (.one _ _) (.one _ _))) Try.isAgg49 Try.sizeOf49) (RV.tmp rfl) .nil rfl)
    · replace h := cond_f hc6 h
      refine W.condF rfl hc6 ?_
      refine W.skip ?_
      refine W.seq ?_
      refine W.seq ?_
      refine W.reg (σ' := ⟨[(1, .v (Enc.int .i64) a1), (3, .ptr 101 0), (5, .ptr 102 0), (6, .ptr 103 0), (30, .v Enc.bool (cm .eql (a0.2.1.length : Int) (800 : Int)))], [(101, .box 49 [.v (Enc.sl eBlk) a0.1, .v (Enc.sl (Enc.pr (Enc.int .i64) eBlk)) a0.2.1, .v (Enc.int .i64) a0.2.2]), (102, .box 24 [.v eBlk a2]), (103, .box 49 [.v (Enc.sl eBlk) ([] : (List Blk)), .v (Enc.sl (Enc.pr (Enc.int .i64) eBlk)) ([] : (List (Int × Blk))), .v (Enc.int .i64) (0 : Int)])]⟩) (J.cons (.none rfl) (JO.fieldPtr 1 rfl Try.runUnderlying49 rfl Try.sizeOf47 rfl rfl) rfl rfl (J.cons (.none rfl) (JO.load rfl rfl rfl Try.isAgg47 Try.sizeOf47) rfl rfl (J.cons (.none rfl) (JO.len rfl Try.runUnderlying47) rfl rfl (J.cons (.none rfl) (JO.cmp rfl rfl rfl) rfl rfl (J.fin (Sw.Sub.mk id (.cons rfl (.of_eq rfl) (.cons rfl (.of_eq rfl) (.cons rfl (.of_eq rfl) (.cons rfl (.of_eq rfl) (.cons rfl (.of_eq rfl) .nil))))) (.box rfl (.cons (.of_eq rfl) (.cons (.of_eq rfl) (.cons (.of_eq rfl) .nil))) (.box rfl (.cons (.of_eq rfl) .nil) (.box rfl (.cons (.of_eq rfl) (.cons (.of_eq rfl) (.cons (.of_eq rfl) .nil))) .nil))) rfl)))))) ?_
      rcases Bool.eq_false_or_eq_true (cm .eql (a0.2.1.length : Int) (800 : Int)) with hc7 | hc7
      · replace h := cond_t hc7 h
        refine W.condT rfl hc7 ?_
        refine W.seq ?_
        refine W.reg (σ' := ⟨[(6, .ptr 103 0), (7, .v (Enc.err ET) (some (2 : Int)))], [(103, .box 49 [.v (Enc.sl eBlk) ([] : (List Blk)), .ref 107, .v (Enc.int .i64) (0 : Int)]), (107, .arr 85 (Enc.pr (Enc.int .i64) eBlk) ([] : (List (Int × Blk))))]⟩) (J.cons (.none rfl) (JO.buildN (new := [(107, .arr 85 (Enc.pr (Enc.int .i64) eBlk) ([] : (List (Int × Blk))))]) built49 (.cons (Z.sl eBlk) (.ref 107 rfl (.cons (Z.int .i64) .nil))) (.cons .nil) rfl .nil) rfl rfl (J.cons (.none rfl) (JO.mkErr Try.runUnderlying25 rfl) rfl rfl (J.mut (.none rfl) (JM.storeAgg rfl rfl rfl rfl rfl rfl Try.sizeOf49) (J.cons (.none rfl) (JO.assign rfl) rfl rfl (J.fin (Sw.Sub.mk id (.cons rfl (.of_eq rfl) (.cons rfl (.of_eq rfl) .nil)) (.box rfl (.cons (.of_eq rfl) (.cons (.of_eq rfl) (.cons (.of_eq rfl) .nil))) (.arr rfl .nil)) rfl)))))) ?_
        refine W.ret ?_
        obtain rfl := Option.some.inj h
        exact XQ.sub (σ' := ⟨[(6, .ptr 90 0), (7, .v (Enc.err ET) (some (2 : Int)))], [(90, .box 49 [.v (Enc.sl eBlk) ([] : (List Blk)), .v (Enc.sl (Enc.pr (Enc.int .i64) eBlk)) ([] : (List (Int × Blk))), .v (Enc.int .i64) (0 : Int)])]⟩) (Sw.Sub.mk (rn [(90, 103)]) (.cons rfl (.of_eq rfl) (.cons rfl (.of_eq rfl) .nil)) (.box rfl (.cons (.of_eq rfl) (.cons (.frz rfl rfl) (.cons (.of_eq rfl) .nil))) .nil) rfl) (XQ.ret2 hF noR rfl (RV.cellAll rfl rfl (.prm (.one _ _) (.prm (.one _ _) (.one _ _))) Try.isAgg49 Try.sizeOf49) (RV.tmp rfl) .nil rfl)
      · replace h := cond_f hc7 h
        refine W.condF rfl hc7 ?_
        refine W.skip ?_
        refine W.seq ?_
        obtain ⟨v8, hv8, h⟩ := bind_e h
        refine W.reg (σ' := ⟨[(1, .v (Enc.int .i64) a1), (3, .ptr 101 0), (5, .ptr 102 0), (6, .ptr 103 0)], [(101, .box 49 [.ref 108000, .ref 108001, .v (Enc.int .i64) v8.2.2]), (102, .box 24 [.v eBlk a2]), (103, .box 49 [.v (Enc.sl eBlk) ([] : (List Blk)), .v (Enc.sl (Enc.pr (Enc.int .i64) eBlk)) ([] : (List (Int × Blk))), .v (Enc.int .i64) (0 : Int)]), (108000, .arr 24 eBlk v8.1), (108001, .arr 85 (Enc.pr (Enc.int .i64) eBlk) v8.2.1)]⟩) (J.cons (.none rfl) (JO.loadAll rfl rfl (.prm (.one _ _) (.prm (.one _ _) (.one _ _))) Try.isAgg49 Try.sizeOf49) rfl rfl (J.cons (.none rfl) (JO.call 108000 (con_disk_clone hv8) Try.call71 (.cons (.dir rfl) .nil) rfl) rfl rfl (J.mut (.none rfl) (JM.storeAgg rfl rfl rfl rfl rfl rfl Try.sizeOf49) (J.fin (Sw.Sub.mk id (.cons rfl (.of_eq rfl) (.cons rfl (.of_eq rfl) (.cons rfl (.of_eq rfl) (.cons rfl (.of_eq rfl) .nil)))) (.box rfl (.cons (.of_eq rfl) (.cons (.of_eq rfl) (.cons (.of_eq rfl) .nil))) (.box rfl (.cons (.of_eq rfl) .nil) (.box rfl (.cons (.of_eq rfl) (.cons (.of_eq rfl) (.cons (.of_eq rfl) .nil))) (.arr rfl (.arr rfl .nil))))) rfl))))) ?_
        refine W.seq ?_
        refine W.seq ?_
        obtain ⟨v9, hv9, h⟩ := bind_e h
        refine W.reg (σ' := ⟨[(1, .v (Enc.int .i64) a1), (3, .ptr 101 0), (5, .ptr 102 0), (6, .ptr 103 0), (9, .v (Enc.err ET) v9.1)], [(101, .box 49 [.ref 109, .ref 110, .v (Enc.int .i64) v9.2.2.2]), (102, .box 24 [.v eBlk a2]), (103, .box 49 [.v (Enc.sl eBlk) ([] : (List Blk)), .v (Enc.sl (Enc.pr (Enc.int .i64) eBlk)) ([] : (List (Int × Blk))), .v (Enc.int .i64) (0 : Int)]), (109, .arr 24 eBlk v9.2.1), (110, .arr 85 (Enc.pr (Enc.int .i64) eBlk) v9.2.2.1)]⟩) (J.mut (.none rfl) (JM.callM (H := [101, 108000, 108001]) (K := [101]) (swp [(9000, 101), (8950, 108000), (8951, 108001), (8910, 109), (8911, 110)]) (swp_inj _) (fun A => con_disk_Disk_step_io A hv9) Try.call89 (.cons (.dir rfl) .nil) (fun A => (.box rfl (.arr rfl (.arr rfl .nil)))) (fun A => (.box rfl (.arr (.arr .nil rfl) rfl) rfl)) (fun _ => rfl) rfl rfl (fun _ => rfl) rfl rfl) (J.cons (.none rfl) (JO.assign rfl) rfl rfl (J.fin (Sw.Sub.mk id (.cons rfl (.of_eq rfl) (.cons rfl (.of_eq rfl) (.cons rfl (.of_eq rfl) (.cons rfl (.of_eq rfl) (.cons rfl (.of_eq rfl) .nil))))) (.box rfl (.cons (.of_eq rfl) (.cons (.of_eq rfl) (.cons (.of_eq rfl) .nil))) (.box rfl (.cons (.of_eq rfl) .nil) (.box rfl (.cons (.of_eq rfl) (.cons (.of_eq rfl) (.cons (.of_eq rfl) .nil))) (.arr rfl (.arr rfl .nil))))) rfl)))) ?_
        refine W.seq ?_
        refine W.reg (σ' := ⟨[(1, .v (Enc.int .i64) a1), (3, .ptr 101 0), (5, .ptr 102 0), (6, .ptr 103 0), (9, .v (Enc.err ET) v9.1), (37, .v Enc.bool (Option.isSome v9.1))], [(101, .box 49 [.ref 109, .ref 110, .v (Enc.int .i64) v9.2.2.2]), (102, .box 24 [.v eBlk a2]), (103, .box 49 [.v (Enc.sl eBlk) ([] : (List Blk)), .v (Enc.sl (Enc.pr (Enc.int .i64) eBlk)) ([] : (List (Int × Blk))), .v (Enc.int .i64) (0 : Int)]), (109, .arr 24 eBlk v9.2.1), (110, .arr 85 (Enc.pr (Enc.int .i64) eBlk) v9.2.2.1)]⟩) (J.cons (.none rfl) (JO.move rfl) rfl rfl (J.cons (.none rfl) (JO.errNe Try.runUnderlying29 rfl) rfl rfl (J.fin (Sw.Sub.mk id (.cons rfl (.of_eq rfl) (.cons rfl (.of_eq rfl) (.cons rfl (.of_eq rfl) (.cons rfl (.of_eq rfl) (.cons rfl (.of_eq rfl) (.cons rfl (.of_eq rfl) .nil)))))) (.box rfl (.cons (.of_eq rfl) (.cons (.of_eq rfl) (.cons (.of_eq rfl) .nil))) (.box rfl (.cons (.of_eq rfl) .nil) (.box rfl (.cons (.of_eq rfl) (.cons (.of_eq rfl) (.cons (.of_eq rfl) .nil))) (.arr rfl (.arr rfl .nil))))) rfl)))) ?_
        rcases Bool.eq_false_or_eq_true (Option.isSome v9.1) with hc10 | hc10
        · replace h := cond_t hc10 h
          refine W.condT rfl hc10 ?_
          refine W.seq ?_
          refine W.reg (σ' := ⟨[(6, .ptr 103 0), (7, .v (Enc.err ET) v9.1)], [(103, .box 49 [.v (Enc.sl eBlk) ([] : (List Blk)), .ref 111, .v (Enc.int .i64) (0 : Int)]), (111, .arr 85 (Enc.pr (Enc.int .i64) eBlk) ([] : (List (Int × Blk))))]⟩) (J.cons (.none rfl) (JO.buildN (new := [(111, .arr 85 (Enc.pr (Enc.int .i64) eBlk) ([] : (List (Int × Blk))))]) built49 (.cons (Z.sl eBlk) (.ref 111 rfl (.cons (Z.int .i64) .nil))) (.cons .nil) rfl .nil) rfl rfl (J.cons (.none rfl) (JO.move rfl) rfl rfl (J.mut (.none rfl) (JM.storeAgg rfl rfl rfl rfl rfl rfl Try.sizeOf49) (J.cons (.none rfl) (JO.assign rfl) rfl rfl (J.fin (Sw.Sub.mk id (.cons rfl (.of_eq rfl) (.cons rfl (.of_eq rfl) .nil)) (.box rfl (.cons (.of_eq rfl) (.cons (.of_eq rfl) (.cons (.of_eq rfl) .nil))) (.arr rfl .nil)) rfl)))))) ?_
          refine W.ret ?_
          obtain rfl := Option.some.inj h
          exact XQ.sub (σ' := ⟨[(6, .ptr 90 0), (7, .v (Enc.err ET) v9.1)], [(90, .box 49 [.v (Enc.sl eBlk) ([] : (List Blk)), .v (Enc.sl (Enc.pr (Enc.int .i64) eBlk)) ([] : (List (Int × Blk))), .v (Enc.int .i64) (0 : Int)])]⟩) (Sw.Sub.mk (rn [(90, 103)]) (.cons rfl (.of_eq rfl) (.cons rfl (.of_eq rfl) .nil)) (.box rfl (.cons (.of_eq rfl) (.cons (.frz rfl rfl) (.cons (.of_eq rfl) .nil))) .nil) rfl) (XQ.ret2 hF noR rfl (RV.cellAll rfl rfl (.prm (.one _ _) (.prm (.one _ _) (.one _ _))) Try.isAgg49 Try.sizeOf49) (RV.tmp rfl) .nil rfl)
        · replace h := cond_f hc10 h
          refine W.condF rfl hc10 ?_
          refine W.skip ?_
          refine W.seq ?_
          obtain ⟨v11, hv11, h⟩ := bind_e h
          refine W.reg (σ' := ⟨[(3, .ptr 101 0), (6, .ptr 103 0)], [(101, .box 49 [.ref 109, .ref 112, .v (Enc.int .i64) v9.2.2.2]), (103, .box 49 [.v (Enc.sl eBlk) ([] : (List Blk)), .v (Enc.sl (Enc.pr (Enc.int .i64) eBlk)) ([] : (List (Int × Blk))), .v (Enc.int .i64) (0 : Int)]), (109, .arr 24 eBlk v9.2.1), (112, .arr 85 (Enc.pr (Enc.int .i64) eBlk) v11)]⟩) (J.cons (.none rfl) (JO.fieldPtr 1 rfl Try.runUnderlying49 rfl Try.sizeOf47 rfl rfl) rfl rfl (J.cons (.none rfl) (JO.load rfl rfl rfl Try.isAgg47 Try.sizeOf47) rfl rfl (J.cons (.none rfl) (JO.move rfl) rfl rfl (J.cons (.none rfl) (JO.load rfl rfl rfl Try.isAgg24 Try.sizeOf24) rfl rfl (J.cons (.none rfl) (JO.build built85 (.cons (Z.int .i64) (.cons (Z.arr 8 (Z.int .u8)) .nil)) (.cons rfl (.dir rfl) rfl rfl rfl rfl (.cons rfl (.dir rfl) rfl rfl rfl rfl .nil))) rfl rfl (J.cons (.none rfl) (JO.lit (e := (Enc.pr (Enc.int .i64) eBlk)) Try.runUnderlying47 Try.sizeOf85 Try.zeroValue85 rfl rfl rfl rfl (.cons (.agg rfl (.same (.same .nil)) (.prm (.one _ _) (.one _ _)) rfl) .nil)) rfl rfl (J.mut (.none rfl) (JM.append 112 hv11 rfl rfl (.sl rfl) Try.runUnderlying47 Try.typeInfo85 Try.sizeOf85 rfl rfl rfl rfl rfl) (J.cons (.none rfl) (JO.fieldPtr 1 rfl Try.runUnderlying49 rfl Try.sizeOf47 rfl rfl) rfl rfl (J.mut (.none rfl) (JM.store rfl rfl rfl rfl rfl rfl rfl Try.sizeOf47) (J.fin (Sw.Sub.mk id (.cons rfl (.of_eq rfl) (.cons rfl (.of_eq rfl) .nil)) (.box rfl (.cons (.of_eq rfl) (.cons (.of_eq rfl) (.cons (.of_eq rfl) .nil))) (.box rfl (.cons (.of_eq rfl) (.cons (.of_eq rfl) (.cons (.of_eq rfl) .nil))) (.arr rfl (.arr rfl .nil)))) rfl))))))))))) ?_
          refine W.seq ?_
          refine W.reg (σ' := ⟨[(6, .ptr 103 0), (7, .v (Enc.err ET) (none : Option Int))], [(103, .box 49 [.ref 109, .ref 112, .v (Enc.int .i64) v9.2.2.2]), (109, .arr 24 eBlk v9.2.1), (112, .arr 85 (Enc.pr (Enc.int .i64) eBlk) v11)]⟩) (J.cons (.none rfl) (JO.loadAgg rfl rfl rfl Try.isAgg49 Try.sizeOf49) rfl rfl (J.mut (.none rfl) (JM.storeAgg rfl rfl rfl rfl rfl rfl Try.sizeOf49) (J.cons (.none rfl) (JO.assignNilE ET) rfl rfl (J.fin (Sw.Sub.mk id (.cons rfl (.of_eq rfl) (.cons rfl (.of_eq rfl) .nil)) (.box rfl (.cons (.of_eq rfl) (.cons (.of_eq rfl) (.cons (.of_eq rfl) .nil))) (.arr rfl (.arr rfl .nil))) rfl))))) ?_
          refine W.ret ?_
          obtain rfl := Option.some.inj h
          exact XQ.sub (σ' := ⟨[(6, .ptr 90 0), (7, .v (Enc.err ET) (none : Option Int))], [(90, .box 49 [.v (Enc.sl eBlk) v9.2.1, .v (Enc.sl (Enc.pr (Enc.int .i64) eBlk)) v11, .v (Enc.int .i64) v9.2.2.2])]⟩) (Sw.Sub.mk (rn [(90, 103)]) (.cons rfl (.of_eq rfl) (.cons rfl (.of_eq rfl) .nil)) (.box rfl (.cons (.frz rfl rfl) (.cons (.frz rfl rfl) (.cons (.of_eq rfl) .nil))) .nil) rfl) (XQ.ret2 hF noR rfl (RV.cellAll rfl rfl (.prm (.one _ _) (.prm (.one _ _) (.one _ _))) Try.isAgg49 Try.sizeOf49) (RV.tmp rfl) .nil rfl)
set_option maxRecDepth 100000 in
set_option maxHeartbeats 4000000 in
theorem con_disk_Flush {a0 : ((List Blk) × (List (Int × Blk)) × Int)} {r : ((List Blk) × (List (Int × Blk)) × Int) × (Option Int)} (h : m_disk_Flush a0 = some r) :
    Con Try.prog 64 [.v (Enc.pr (Enc.sl eBlk) (Enc.pr (Enc.sl (Enc.pr (Enc.int .i64) eBlk)) (Enc.int .i64))) a0] (.tup [.v (Enc.pr (Enc.sl eBlk) (Enc.pr (Enc.sl (Enc.pr (Enc.int .i64) eBlk)) (Enc.int .i64))) r.1, .v (Enc.err ET) r.2]) [] := by
  refine Con.of Try.func64 rfl Try.ntmps64 rfl ?_
  intro S w hF
  unfold m_disk_Flush at h
  refine W.seq ?_
  refine W.reg (σ' := ⟨[(1, .ptr 101 0), (2, .ptr 102 0)], [(101, .box 49 [.v (Enc.sl eBlk) a0.1, .v (Enc.sl (Enc.pr (Enc.int .i64) eBlk)) a0.2.1, .v (Enc.int .i64) a0.2.2]), (102, .box 49 [.v (Enc.sl eBlk) ([] : (List Blk)), .v (Enc.sl (Enc.pr (Enc.int .i64) eBlk)) ([] : (List (Int × Blk))), .v (Enc.int .i64) (0 : Int)])]⟩) (J.cons (.none rfl) (JO.box 101 rfl (.prm (.one _ _) (.prm (.one _ _) (.one _ _))) rfl) rfl rfl (J.cons (.none rfl) (JO.alloc 102 Try.zeroValue49 rfl (.cons (Z.sl eBlk) (.cons (Z.sl (Enc.pr (Enc.int .i64) eBlk)) (.cons (Z.int .i64) .nil))) rfl) rfl rfl (J.cons (.none rfl) (JO.assignNilE ET) rfl rfl (J.fin (Sw.Sub.mk id (.cons rfl (.of_eq rfl) (.cons rfl (.of_eq rfl) .nil)) (.box rfl (.cons (.of_eq rfl) (.cons (.of_eq rfl) (.cons (.of_eq rfl) .nil))) (.box rfl (.cons (.of_eq rfl) (.cons (.of_eq rfl) (.cons (.of_eq rfl) .nil))) .nil)) rfl))))) ?_
  refine W.seq ?_
  refine W.seq ?_
  obtain ⟨v1, hv1, h⟩ := bind_e h
  refine W.reg (σ' := ⟨[(1, .ptr 101 0), (2, .ptr 102 0), (4, .v (Enc.err ET) v1)], [(101, .box 49 [.v (Enc.sl eBlk) a0.1, .v (Enc.sl (Enc.pr (Enc.int .i64) eBlk)) a0.2.1, .v (Enc.int .i64) a0.2.2]), (102, .box 49 [.v (Enc.sl eBlk) ([] : (List Blk)), .v (Enc.sl (Enc.pr (Enc.int .i64) eBlk)) ([] : (List (Int × Blk))), .v (Enc.int .i64) (0 : Int)])]⟩) (J.cons (.none rfl) (JO.loadAll rfl rfl (.prm (.one _ _) (.prm (.one _ _) (.one _ _))) Try.isAgg49 Try.sizeOf49) rfl rfl (J.cons (.none rfl) (JO.call0 (con_disk_Check hv1) Try.call60 (.cons (.dir rfl) .nil)) rfl rfl (J.cons (.none rfl) (JO.assign rfl) rfl rfl (J.fin (Sw.Sub.mk id (.cons rfl (.of_eq rfl) (.cons rfl (.of_eq rfl) (.cons rfl (.of_eq rfl) .nil))) (.box rfl (.cons (.of_eq rfl) (.cons (.of_eq rfl) (.cons (.of_eq rfl) .nil))) (.box rfl (.cons (.of_eq rfl) (.cons (.of_eq rfl) (.cons (.of_eq rfl) .nil))) .nil)) rfl))))) ?_
  refine W.seq ?_
  refine W.reg (σ' := ⟨[(1, .ptr 101 0), (2, .ptr 102 0), (4, .v (Enc.err ET) v1), (11, .v Enc.bool (Option.isSome v1))], [(101, .box 49 [.v (Enc.sl eBlk) a0.1, .v (Enc.sl (Enc.pr (Enc.int .i64) eBlk)) a0.2.1, .v (Enc.int .i64) a0.2.2]), (102, .box 49 [.v (Enc.sl eBlk) ([] : (List Blk)), .v (Enc.sl (Enc.pr (Enc.int .i64) eBlk)) ([] : (List (Int × Blk))), .v (Enc.int .i64) (0 : Int)])]⟩) (J.cons (.none rfl) (JO.move rfl) rfl rfl (J.cons (.none rfl) (JO.errNe Try.runUnderlying29 rfl) rfl rfl (J.fin (Sw.Sub.mk id (.cons rfl (.of_eq rfl) (.cons rfl (.of_eq rfl) (.cons rfl (.of_eq rfl) (.cons rfl (.of_eq rfl) .nil)))) (.box rfl (.cons (.of_eq rfl) (.cons (.of_eq rfl) (.cons (.of_eq rfl) .nil))) (.box rfl (.cons (.of_eq rfl) (.cons (.of_eq rfl) (.cons (.of_eq rfl) .nil))) .nil)) rfl)))) ?_
  rcases Bool.eq_false_or_eq_true (Option.isSome v1) with hc2 | hc2
  · replace h := cond_t hc2 h
    refine W.condT rfl hc2 ?_
    refine W.seq ?_
    refine W.reg (σ' := ⟨[(2, .ptr 102 0), (3, .v (Enc.err ET) v1)], [(102, .box 49 [.v (Enc.sl eBlk) ([] : (List Blk)), .v (Enc.sl (Enc.pr (Enc.int .i64) eBlk)) ([] : (List (Int × Blk))), .v (Enc.int .i64) (0 : Int)])]⟩) (J.cons (.none rfl) (JO.build built49 (.cons (Z.sl eBlk) (.cons (Z.sl (Enc.pr (Enc.int .i64) eBlk)) (.cons (Z.int .i64) .nil))) .nil) rfl rfl (J.cons (.none rfl) (JO.move rfl) rfl rfl (J.mut (.none rfl) (JM.storeAgg rfl rfl rfl rfl rfl rfl Try.sizeOf49) (J.cons (.none rfl) (JO.assign rfl) rfl rfl (J.fin (Sw.Sub.mk id (.cons rfl (.of_eq rfl) (.cons rfl (.of_eq rfl) .nil)) (.box rfl (.cons (.of_eq rfl) (.cons (.of_eq rfl) (.cons (.of_eq rfl) .nil))) .nil) rfl)))))) ?_
    refine W.ret ?_
    obtain rfl := Option.some.inj h
    exact XQ.sub (σ' := ⟨[(2, .ptr 90 0), (3, .v (Enc.err ET) v1)], [(90, .box 49 [.v (Enc.sl eBlk) ([] : (List Blk)), .v (Enc.sl (Enc.pr (Enc.int .i64) eBlk)) ([] : (List (Int × Blk))), .v (Enc.int .i64) (0 : Int)])]⟩) (Sw.Sub.mk (rn [(90, 102)]) (.cons rfl (.of_eq rfl) (.cons rfl (.of_eq rfl) .nil)) (.box rfl (.cons (.of_eq rfl) (.cons (.of_eq rfl) (.cons (.of_eq rfl) .nil))) .nil) rfl) (XQ.ret2 hF noR rfl (RV.cellAll rfl rfl (.prm (.one _ _) (.prm (.one _ _) (.one _ _))) Try.isAgg49 Try.sizeOf49) (RV.tmp rfl) .nil rfl)
  · replace h := cond_f hc2 h
    refine W.condF rfl hc2 ?_
    refine W.skip ?_
    refine W.seq ?_
    obtain ⟨v3, hv3, h⟩ := bind_e h
    refine W.reg (σ' := ⟨[(1, .ptr 101 0), (2, .ptr 102 0)], [(101, .box 49 [.ref 104000, .ref 104001, .v (Enc.int .i64) v3.2.2]), (102, .box 49 [.v (Enc.sl eBlk) ([] : (List Blk)), .v (Enc.sl (Enc.pr (Enc.int .i64) eBlk)) ([] : (List (Int × Blk))), .v (Enc.int .i64) (0 : Int)]), (104000, .arr 24 eBlk v3.1), (104001, .arr 85 (Enc.pr (Enc.int .i64) eBlk) v3.2.1)]⟩) (J.cons (.none rfl) (JO.loadAll rfl rfl (.prm (.one _ _) (.prm (.one _ _) (.one _ _))) Try.isAgg49 Try.sizeOf49) rfl rfl (J.cons (.none rfl) (JO.call 104000 (con_disk_clone hv3) Try.call71 (.cons (.dir rfl) .nil) rfl) rfl rfl (J.mut (.none rfl) (JM.storeAgg rfl rfl rfl rfl rfl rfl Try.sizeOf49) (J.fin (Sw.Sub.mk id (.cons rfl (.of_eq rfl) (.cons rfl (.of_eq rfl) .nil)) (.box rfl (.cons (.of_eq rfl) (.cons (.of_eq rfl) (.cons (.of_eq rfl) .nil))) (.box rfl (.cons (.of_eq rfl) (.cons (.of_eq rfl) (.cons (.of_eq rfl) .nil))) (.arr rfl (.arr rfl .nil)))) rfl))))) ?_
    refine W.seq ?_
    refine W.seq ?_
    obtain ⟨v4, hv4, h⟩ := bind_e h
    refine W.reg (σ' := ⟨[(1, .ptr 101 0), (2, .ptr 102 0), (5, .v (Enc.err ET) v4.1)], [(101, .box 49 [.ref 105, .ref 106, .v (Enc.int .i64) v4.2.2.2]), (102, .box 49 [.v (Enc.sl eBlk) ([] : (List Blk)), .v (Enc.sl (Enc.pr (Enc.int .i64) eBlk)) ([] : (List (Int × Blk))), .v (Enc.int .i64) (0 : Int)]), (105, .arr 24 eBlk v4.2.1), (106, .arr 85 (Enc.pr (Enc.int .i64) eBlk) v4.2.2.1)]⟩) (J.mut (.none rfl) (JM.callM (H := [101, 104000, 104001]) (K := [101]) (swp [(9000, 101), (8950, 104000), (8951, 104001), (8910, 105), (8911, 106)]) (swp_inj _) (fun A => con_disk_Disk_step_io A hv4) Try.call89 (.cons (.dir rfl) .nil) (fun A => (.box rfl (.arr rfl (.arr rfl .nil)))) (fun A => (.box rfl (.arr (.arr .nil rfl) rfl) rfl)) (fun _ => rfl) rfl rfl (fun _ => rfl) rfl rfl) (J.cons (.none rfl) (JO.assign rfl) rfl rfl (J.fin (Sw.Sub.mk id (.cons rfl (.of_eq rfl) (.cons rfl (.of_eq rfl) (.cons rfl (.of_eq rfl) .nil))) (.box rfl (.cons (.of_eq rfl) (.cons (.of_eq rfl) (.cons (.of_eq rfl) .nil))) (.box rfl (.cons (.of_eq rfl) (.cons (.of_eq rfl) (.cons (.of_eq rfl) .nil))) (.arr rfl (.arr rfl .nil)))) rfl)))) ?_
    refine W.seq ?_
    refine W.reg (σ' := ⟨[(1, .ptr 101 0), (2, .ptr 102 0), (5, .v (Enc.err ET) v4.1), (18, .v Enc.bool (Option.isSome v4.1))], [(101, .box 49 [.ref 105, .ref 106, .v (Enc.int .i64) v4.2.2.2]), (102, .box 49 [.v (Enc.sl eBlk) ([] : (List Blk)), .v (Enc.sl (Enc.pr (Enc.int .i64) eBlk)) ([] : (List (Int × Blk))), .v (Enc.int .i64) (0 : Int)]), (105, .arr 24 eBlk v4.2.1), (106, .arr 85 (Enc.pr (Enc.int .i64) eBlk) v4.2.2.1)]⟩) (J.cons (.none rfl) (JO.move rfl) rfl rfl (J.cons (.none rfl) (JO.errNe Try.runUnderlying29 rfl) rfl rfl (J.fin (Sw.Sub.mk id (.cons rfl (.of_eq rfl) (.cons rfl (.of_eq rfl) (.cons rfl (.of_eq rfl) (.cons rfl (.of_eq rfl) .nil)))) (.box rfl (.cons (.of_eq rfl) (.cons (.of_eq rfl) (.cons (.of_eq rfl) .nil))) (.box rfl (.cons (.of_eq rfl) (.cons (.of_eq rfl) (.cons (.of_eq rfl) .nil))) (.arr rfl (.arr rfl .nil)))) rfl)))) ?_
    rcases Bool.eq_false_or_eq_true (Option.isSome v4.1) with hc5 | hc5
    · replace h := cond_t hc5 h
      refine W.condT rfl hc5 ?_
      refine W.seq ?_
      refine W.reg (σ' := ⟨[(2, .ptr 102 0), (3, .v (Enc.err ET) v4.1)], [(102, .box 49 [.v (Enc.sl eBlk) ([] : (List Blk)), .v (Enc.sl (Enc.pr (Enc.int .i64) eBlk)) ([] : (List (Int × Blk))), .v (Enc.int .i64) (0 : Int)])]⟩) (J.cons (.none rfl) (JO.build built49 (.cons (Z.sl eBlk) (.cons (Z.sl (Enc.pr (Enc.int .i64) eBlk)) (.cons (Z.int .i64) .nil))) .nil) rfl rfl (J.cons (.none rfl) (JO.move rfl) rfl rfl (J.mut (.none rfl) (JM.storeAgg rfl rfl rfl rfl rfl rfl Try.sizeOf49) (J.cons (.none rfl) (JO.assign rfl) rfl rfl (J.fin (Sw.Sub.mk id (.cons rfl (.of_eq rfl) (.cons rfl (.of_eq rfl) .nil)) (.box rfl (.cons (.of_eq rfl) (.cons (.of_eq rfl) (.cons (.of_eq rfl) .nil))) .nil) rfl)))))) ?_
      refine W.ret ?_
      obtain rfl := Option.some.inj h
      exact XQ.sub (σ' := ⟨[(2, .ptr 90 0), (3, .v (Enc.err ET) v4.1)], [(90, .box 49 [.v (Enc.sl eBlk) ([] : (List Blk)), .v (Enc.sl (Enc.pr (Enc.int .i64) eBlk)) ([] : (List (Int × Blk))), .v (Enc.int .i64) (0 : Int)])]⟩) (Sw.Sub.mk (rn [(90, 102)]) (.cons rfl (.of_eq rfl) (.cons rfl (.of_eq rfl) .nil)) (.box rfl (.cons (.of_eq rfl) (.cons (.of_eq rfl) (.cons (.of_eq rfl) .nil))) .nil) rfl) (XQ.ret2 hF noR rfl (RV.cellAll rfl rfl (.prm (.one _ _) (.prm (.one _ _) (.one _ _))) Try.isAgg49 Try.sizeOf49) (RV.tmp rfl) .nil rfl)
    · replace h := cond_f hc5 h
      refine W.condF rfl hc5 ?_
      refine W.skip ?_
      refine W.seq ?_
      refine W.seq ?_
      refine W.reg (σ' := ⟨[(1, .ptr 101 0), (2, .ptr 102 0), (22, .ref 106), (23, .v (Enc.int .i64) (v4.2.2.1.length : Int)), (24, .v (Enc.int .i64) (0 : Int))], [(101, .box 49 [.ref 105, .ref 106, .v (Enc.int .i64) v4.2.2.2]), (102, .box 49 [.v (Enc.sl eBlk) ([] : (List Blk)), .v (Enc.sl (Enc.pr (Enc.int .i64) eBlk)) ([] : (List (Int × Blk))), .v (Enc.int .i64) (0 : Int)]), (106, .arr 85 (Enc.pr (Enc.int .i64) eBlk) v4.2.2.1), (105, .arr 24 eBlk v4.2.1)]⟩) (J.cons (.none rfl) (JO.fieldPtr 1 rfl Try.runUnderlying49 rfl Try.sizeOf47 rfl rfl) rfl rfl (J.cons (.none rfl) (JO.load rfl rfl rfl Try.isAgg47 Try.sizeOf47) rfl rfl (J.cons (.none rfl) (JO.lenR rfl rfl Try.runUnderlying47) rfl rfl (J.cons (.none rfl) (JO.move rfl) rfl rfl (J.fin (Sw.Sub.mk id (.cons rfl (.of_eq rfl) (.cons rfl (.of_eq rfl) (.cons rfl (.of_eq rfl) (.cons rfl (.of_eq rfl) (.cons rfl (.of_eq rfl) .nil))))) (.box rfl (.cons (.of_eq rfl) (.cons (.of_eq rfl) (.cons (.of_eq rfl) .nil))) (.box rfl (.cons (.of_eq rfl) (.cons (.of_eq rfl) (.cons (.of_eq rfl) .nil))) (.arr rfl (.arr rfl .nil)))) rfl)))))) ?_
      obtain ⟨o18, ho18, hb18, hr18⟩ := lp_elim h
      refine W.lp (σs := fun s14 : Int × (List Blk) => ⟨[(1, .ptr 101 0), (2, .ptr 102 0), (22, .ref 106), (23, .v (Enc.int .i64) (v4.2.2.1.length : Int)), (24, .v (Enc.int .i64) s14.1)], [(101, .box 49 [.ref 105, .ref 106, .v (Enc.int .i64) v4.2.2.2]), (102, .box 49 [.v (Enc.sl eBlk) ([] : (List Blk)), .v (Enc.sl (Enc.pr (Enc.int .i64) eBlk)) ([] : (List (Int × Blk))), .v (Enc.int .i64) (0 : Int)]), (106, .arr 85 (Enc.pr (Enc.int .i64) eBlk) v4.2.2.1), (105, .arr 24 eBlk s14.2)]⟩) (fun x19 : (List Blk) => ⟨[(1, .ptr 101 0), (2, .ptr 102 0)], [(101, .box 49 [.ref 105, .ref 106, .v (Enc.int .i64) v4.2.2.2]), (102, .box 49 [.v (Enc.sl eBlk) ([] : (List Blk)), .v (Enc.sl (Enc.pr (Enc.int .i64) eBlk)) ([] : (List (Int × Blk))), .v (Enc.int .i64) (0 : Int)]), (105, .arr 24 eBlk x19), (106, .arr 85 (Enc.pr (Enc.int .i64) eBlk) v4.2.2.1)]⟩) ho18 (Sw.Sub.mk id (.cons rfl (.of_eq rfl) (.cons rfl (.of_eq rfl) (.cons rfl (.of_eq rfl) (.cons rfl (.of_eq rfl) (.cons rfl (.of_eq rfl) .nil))))) (.box rfl (.cons (.of_eq rfl) (.cons (.of_eq rfl) (.cons (.of_eq rfl) .nil))) (.box rfl (.cons (.of_eq rfl) (.cons (.of_eq rfl) (.cons (.of_eq rfl) .nil))) (.arr rfl (.arr rfl .nil)))) rfl) ?_ ?_
      · intro x19 hy
        have h := hb18 _ hy
        refine W.seq ?_
        refine W.reg (σ' := ⟨[(1, .ptr 101 0), (2, .ptr 102 0)], [(101, .box 49 [.ref 105, .v (Enc.sl (Enc.pr (Enc.int .i64) eBlk)) ([] : (List (Int × Blk))), .v (Enc.int .i64) v4.2.2.2]), (102, .box 49 [.v (Enc.sl eBlk) ([] : (List Blk)), .v (Enc.sl (Enc.pr (Enc.int .i64) eBlk)) ([] : (List (Int × Blk))), .v (Enc.int .i64) (0 : Int)]), (105, .arr 24 eBlk x19)]⟩) (J.cons (.none rfl) (JO.fieldPtr 1 rfl Try.runUnderlying49 rfl Try.sizeOf47 rfl rfl) rfl rfl (J.mut (.none rfl) (JM.storeA rfl rfl rfl (.nilS (Enc.pr (Enc.int .i64) eBlk)) rfl rfl rfl Try.sizeOf47) (J.fin (Sw.Sub.mk id (.cons rfl (.of_eq rfl) (.cons rfl (.of_eq rfl) .nil)) (.box rfl (.cons (.of_eq rfl) (.cons (.of_eq rfl) (.cons (.of_eq rfl) .nil))) (.box rfl (.cons (.of_eq rfl) (.cons (.of_eq rfl) (.cons (.of_eq rfl) .nil))) (.arr rfl .nil))) rfl)))) ?_
        refine W.seq ?_
        refine W.reg (σ' := ⟨[(2, .ptr 102 0), (3, .v (Enc.err ET) (none : Option Int))], [(102, .box 49 [.ref 105, .v (Enc.sl (Enc.pr (Enc.int .i64) eBlk)) ([] : (List (Int × Blk))), .v (Enc.int .i64) v4.2.2.2]), (105, .arr 24 eBlk x19)]⟩) (J.cons (.none rfl) (JO.loadAgg rfl rfl rfl Try.isAgg49 Try.sizeOf49) rfl rfl (J.mut (.none rfl) (JM.storeAgg rfl rfl rfl rfl rfl rfl Try.sizeOf49) (J.cons (.none rfl) (JO.assignNilE ET) rfl rfl (J.fin (Sw.Sub.mk id (.cons rfl (.of_eq rfl) (.cons rfl (.of_eq rfl) .nil)) (.box rfl (.cons (.of_eq rfl) (.cons (.of_eq rfl) (.cons (.of_eq rfl) .nil))) (.arr rfl .nil)) rfl))))) ?_
        refine W.ret ?_
        obtain rfl := Option.some.inj h
        exact XQ.sub (σ' := ⟨[(2, .ptr 90 0), (3, .v (Enc.err ET) (none : Option Int))], [(90, .box 49 [.v (Enc.sl eBlk) x19, .v (Enc.sl (Enc.pr (Enc.int .i64) eBlk)) ([] : (List (Int × Blk))), .v (Enc.int .i64) v4.2.2.2])]⟩) (Sw.Sub.mk (rn [(90, 102)]) (.cons rfl (.of_eq rfl) (.cons rfl (.of_eq rfl) .nil)) (.box rfl (.cons (.frz rfl rfl) (.cons (.of_eq rfl) (.cons (.of_eq rfl) .nil))) .nil) rfl) (XQ.ret2 hF noR rfl (RV.cellAll rfl rfl (.prm (.one _ _) (.prm (.one _ _) (.one _ _))) Try.isAgg49 Try.sizeOf49) (RV.tmp rfl) .nil rfl)
      intro s14 r18 h
      refine W.seq ?_
      refine W.reg (σ' := ⟨[(1, .ptr 101 0), (2, .ptr 102 0), (22, .ref 106), (23, .v (Enc.int .i64) (v4.2.2.1.length : Int)), (24, .v (Enc.int .i64) s14.1), (25, .v Enc.bool (cm .lss s14.1 (v4.2.2.1.length : Int)))], [(101, .box 49 [.ref 105, .ref 106, .v (Enc.int .i64) v4.2.2.2]), (102, .box 49 [.v (Enc.sl eBlk) ([] : (List Blk)), .v (Enc.sl (Enc.pr (Enc.int .i64) eBlk)) ([] : (List (Int × Blk))), .v (Enc.int .i64) (0 : Int)]), (106, .arr 85 (Enc.pr (Enc.int .i64) eBlk) v4.2.2.1), (105, .arr 24 eBlk s14.2)]⟩) (J.cons (.none rfl) (JO.cmp rfl rfl rfl) rfl rfl (J.fin (Sw.Sub.mk id (.cons rfl (.of_eq rfl) (.cons rfl (.of_eq rfl) (.cons rfl (.of_eq rfl) (.cons rfl (.of_eq rfl) (.cons rfl (.of_eq rfl) (.cons rfl (.of_eq rfl) .nil)))))) (.box rfl (.cons (.of_eq rfl) (.cons (.of_eq rfl) (.cons (.of_eq rfl) .nil))) (.box rfl (.cons (.of_eq rfl) (.cons (.of_eq rfl) (.cons (.of_eq rfl) .nil))) (.arr rfl (.arr rfl .nil)))) rfl))) ?_
      refine W.seq ?_
      rcases Bool.eq_false_or_eq_true (cm .lss s14.1 (v4.2.2.1.length : Int)) with hc20 | hc20
      · replace h := cond_t hc20 h
        refine W.condT rfl hc20 ?_
        refine W.skip ?_
        refine W.seq ?_
        refine W.block ?_
        refine W.seq ?_
        obtain ⟨z21, hz21, h⟩ := bind_e h
        refine W.reg (σ' := ⟨[(1, .ptr 101 0), (2, .ptr 102 0), (7, .ptr 110 0), (22, .ref 106), (23, .v (Enc.int .i64) (v4.2.2.1.length : Int)), (24, .v (Enc.int .i64) s14.1)], [(101, .box 49 [.ref 105, .ref 106, .v (Enc.int .i64) v4.2.2.2]), (102, .box 49 [.v (Enc.sl eBlk) ([] : (List Blk)), .v (Enc.sl (Enc.pr (Enc.int .i64) eBlk)) ([] : (List (Int × Blk))), .v (Enc.int .i64) (0 : Int)]), (110, .box 85 [.v (Enc.int .i64) z21.1, .v eBlk z21.2]), (106, .arr 85 (Enc.pr (Enc.int .i64) eBlk) v4.2.2.1), (105, .arr 24 eBlk s14.2)]⟩) (J.cons (.none rfl) (JO.idxR hz21 rfl rfl rfl Try.runUnderlying47 Try.sizeOf85) rfl rfl (J.cons (.none rfl) (JO.loadEl (idx_some hz21).2.2 rfl rfl .here Try.isAgg85 Try.sizeOf85) rfl rfl (J.cons (.none rfl) (JO.alloc 110 Try.zeroValue85 rfl (.cons (Z.int .i64) (.cons (Z.arr 8 (Z.int .u8)) .nil)) rfl) rfl rfl (J.mut (.none rfl) (JM.storeAll rfl rfl rfl rfl (.prm (.one _ _) (.one _ _)) Try.sizeOf85) (J.fin (Sw.Sub.mk id (.cons rfl (.of_eq rfl) (.cons rfl (.of_eq rfl) (.cons rfl (.of_eq rfl) (.cons rfl (.of_eq rfl) (.cons rfl (.of_eq rfl) (.cons rfl (.of_eq rfl) .nil)))))) (.box rfl (.cons (.of_eq rfl) (.cons (.of_eq rfl) (.cons (.of_eq rfl) .nil))) (.box rfl (.cons (.of_eq rfl) (.cons (.of_eq rfl) (.cons (.of_eq rfl) .nil))) (.box rfl (.cons (.of_eq rfl) (.cons (.of_eq rfl) .nil)) (.arr rfl (.arr rfl .nil))))) rfl)))))) ?_
        obtain ⟨z22, hz22, h⟩ := bind_e h
        refine W.reg (σ' := ⟨[(1, .ptr 101 0), (2, .ptr 102 0), (22, .ref 106), (23, .v (Enc.int .i64) (v4.2.2.1.length : Int)), (24, .v (Enc.int .i64) s14.1)], [(101, .box 49 [.ref 105, .ref 106, .v (Enc.int .i64) v4.2.2.2]), (102, .box 49 [.v (Enc.sl eBlk) ([] : (List Blk)), .v (Enc.sl (Enc.pr (Enc.int .i64) eBlk)) ([] : (List (Int × Blk))), .v (Enc.int .i64) (0 : Int)]), (106, .arr 85 (Enc.pr (Enc.int .i64) eBlk) v4.2.2.1), (105, .arr 24 eBlk (List.set s14.2 (Int.toNat z21.1) z21.2))]⟩) (J.cons (.none rfl) (JO.fieldPtr 0 rfl Try.runUnderlying49 rfl Try.sizeOf22 rfl rfl) rfl rfl (J.cons (.none rfl) (JO.load rfl rfl rfl Try.isAgg22 Try.sizeOf22) rfl rfl (J.cons (.none rfl) (JO.fieldPtr 0 rfl Try.runUnderlying85 rfl Try.sizeOf3 rfl rfl) rfl rfl (J.cons (.none rfl) (JO.load rfl rfl rfl Try.isAgg3 Try.sizeOf3) rfl rfl (J.cons (.none rfl) (JO.fieldPtr 1 rfl Try.runUnderlying85 rfl Try.sizeOf24 rfl rfl) rfl rfl (J.cons (.none rfl) (JO.load rfl rfl rfl Try.isAgg24 Try.sizeOf24) rfl rfl (J.cons (.none rfl) (JO.idxR hz22 rfl rfl rfl Try.runUnderlying22 Try.sizeOf24) rfl rfl (J.mut (.none rfl) (JM.storeEl (idx_some hz22).2.2 rfl rfl rfl Try.sizeOf24) (J.fin (Sw.Sub.mk id (.cons rfl (.of_eq rfl) (.cons rfl (.of_eq rfl) (.cons rfl (.of_eq rfl) (.cons rfl (.of_eq rfl) (.cons rfl (.of_eq rfl) .nil))))) (.box rfl (.cons (.of_eq rfl) (.cons (.of_eq rfl) (.cons (.of_eq rfl) .nil))) (.box rfl (.cons (.of_eq rfl) (.cons (.of_eq rfl) (.cons (.of_eq rfl) .nil))) (.arr rfl (.arr rfl .nil)))) rfl)))))))))) ?_
        refine W.fall ?_
        refine W.reg (σ' := ⟨[(1, .ptr 101 0), (2, .ptr 102 0), (22, .ref 106), (23, .v (Enc.int .i64) (v4.2.2.1.length : Int)), (24, .v (Enc.int .i64) (ar .add .i64 s14.1 (1 : Int)))], [(101, .box 49 [.ref 105, .ref 106, .v (Enc.int .i64) v4.2.2.2]), (102, .box 49 [.v (Enc.sl eBlk) ([] : (List Blk)), .v (Enc.sl (Enc.pr (Enc.int .i64) eBlk)) ([] : (List (Int × Blk))), .v (Enc.int .i64) (0 : Int)]), (106, .arr 85 (Enc.pr (Enc.int .i64) eBlk) v4.2.2.1), (105, .arr 24 eBlk (List.set s14.2 (Int.toNat z21.1) z21.2))]⟩) (J.cons (.none rfl) (JO.arith rfl rfl rfl) rfl rfl (J.cons (.none rfl) (JO.move rfl) rfl rfl (J.fin (Sw.Sub.mk id (.cons rfl (.of_eq rfl) (.cons rfl (.of_eq rfl) (.cons rfl (.of_eq rfl) (.cons rfl (.of_eq rfl) (.cons rfl (.of_eq rfl) .nil))))) (.box rfl (.cons (.of_eq rfl) (.cons (.of_eq rfl) (.cons (.of_eq rfl) .nil))) (.box rfl (.cons (.of_eq rfl) (.cons (.of_eq rfl) (.cons (.of_eq rfl) .nil))) (.arr rfl (.arr rfl .nil)))) rfl)))) ?_
        obtain rfl := Option.some.inj h
        exact W.next (Sw.Sub.mk id (.cons rfl (.of_eq rfl) (.cons rfl (.of_eq rfl) (.cons rfl (.of_eq rfl) (.cons rfl (.of_eq rfl) (.cons rfl (.of_eq rfl) .nil))))) (.box rfl (.cons (.of_eq rfl) (.cons (.of_eq rfl) (.cons (.of_eq rfl) .nil))) (.box rfl (.cons (.of_eq rfl) (.cons (.of_eq rfl) (.cons (.of_eq rfl) .nil))) (.arr rfl (.arr rfl .nil)))) rfl)
      · replace h := cond_f hc20 h
        refine W.condF rfl hc20 ?_
        refine W.exit ?_
        obtain rfl := Option.some.inj h
        exact XQ.brk (Sw.Sub.mk id (.cons rfl (.of_eq rfl) (.cons rfl (.of_eq rfl) .nil)) (.box rfl (.cons (.of_eq rfl) (.cons (.of_eq rfl) (.cons (.of_eq rfl) .nil))) (.box rfl (.cons (.of_eq rfl) (.cons (.of_eq rfl) (.cons (.of_eq rfl) .nil))) (.arr rfl (.arr rfl .nil)))) rfl)
set_option maxRecDepth 100000 in
set_option maxHeartbeats 4000000 in
theorem con_ref_SameBlocks {a0 : (List Blk)} {a1 : (List Blk)} {r : Bool} (h : m_ref_SameBlocks a0 a1 = some r) :
    Con Try.prog 20 [.v (Enc.sl eBlk) a0, .v (Enc.sl eBlk) a1] (.v Enc.bool r) [] := by
  refine Con.of Try.func20 rfl Try.ntmps20 rfl ?_
  intro S w hF
  unfold m_ref_SameBlocks at h
  refine W.seq ?_
  refine W.reg (σ' := ⟨[(0, .v (Enc.sl eBlk) a0), (1, .v (Enc.sl eBlk) a1)], []⟩) (J.cons (.none rfl) (JO.assign rfl) rfl rfl (J.fin (Sw.Sub.mk id (.cons rfl (.of_eq rfl) (.cons rfl (.of_eq rfl) .nil)) .nil rfl))) ?_
  refine W.seq ?_
  refine W.seq ?_
  refine W.reg (σ' := ⟨[(0, .v (Enc.sl eBlk) a0), (1, .v (Enc.sl eBlk) a1), (10, .v Enc.bool (cm .neq (a0.length : Int) (a1.length : Int)))], []⟩) (J.cons (.none rfl) (JO.move rfl) rfl rfl (J.cons (.none rfl) (JO.len rfl Try.runUnderlying22) rfl rfl (J.cons (.none rfl) (JO.move rfl) rfl rfl (J.cons (.none rfl) (JO.len rfl Try.runUnderlying22) rfl rfl (J.cons (.none rfl) (JO.cmp rfl rfl rfl) rfl rfl (J.fin (Sw.Sub.mk id (.cons rfl (.of_eq rfl) (.cons rfl (.of_eq rfl) (.cons rfl (.of_eq rfl) .nil))) .nil rfl))))))) ?_
  rcases Bool.eq_false_or_eq_true (cm .neq (a0.length : Int) (a1.length : Int)) with hc1 | hc1
  · replace h := cond_t hc1 h
    refine W.condT rfl hc1 ?_
    refine W.seq ?_
    refine W.reg (σ' := ⟨[(4, .v Enc.bool false)], []⟩) (J.cons (.none rfl) (JO.assign rfl) rfl rfl (J.fin (Sw.Sub.mk id (.cons rfl (.of_eq rfl) .nil) .nil rfl))) ?_
    refine W.ret ?_
    obtain rfl := Option.some.inj h
    exact XQ.sub (σ' := ⟨[(4, .v Enc.bool false)], []⟩) (Sw.Sub.mk id (.cons rfl (.of_eq rfl) .nil) .nil rfl) (XQ.ret1 hF noR rfl (RV.tmp rfl) .nil rfl)
  · replace h := cond_f hc1 h
    refine W.condF rfl hc1 ?_
    refine W.skip ?_
    refine W.seq ?_
    refine W.seq ?_
    refine W.reg (σ' := ⟨[(0, .v (Enc.sl eBlk) a0), (1, .v (Enc.sl eBlk) a1), (5, .v (Enc.int .i64) (0 : Int))], []⟩) (J.cons (.none rfl) (JO.assign rfl) rfl rfl (J.fin (Sw.Sub.mk id (.cons rfl (.of_eq rfl) (.cons rfl (.of_eq rfl) (.cons rfl (.of_eq rfl) .nil))) .nil rfl))) ?_
    obtain ⟨o17, ho17, hb17, hr17⟩ := lp_elim h
    refine W.lp (σs := fun s12 : Int => ⟨[(0, .v (Enc.sl eBlk) a0), (1, .v (Enc.sl eBlk) a1), (5, .v (Enc.int .i64) s12)], []⟩) (fun x18 : Unit => ⟨[], []⟩) ho17 (Sw.Sub.mk id (.cons rfl (.of_eq rfl) (.cons rfl (.of_eq rfl) (.cons rfl (.of_eq rfl) .nil))) .nil rfl) ?_ ?_
    · intro x18 hy
      have h := hb17 _ hy
      refine W.seq ?_
      refine W.reg (σ' := ⟨[(4, .v Enc.bool true)], []⟩) (J.cons (.none rfl) (JO.assign rfl) rfl rfl (J.fin (Sw.Sub.mk id (.cons rfl (.of_eq rfl) .nil) .nil rfl))) ?_
      refine W.ret ?_
      obtain rfl := Option.some.inj h
      exact XQ.sub (σ' := ⟨[(4, .v Enc.bool true)], []⟩) (Sw.Sub.mk id (.cons rfl (.of_eq rfl) .nil) .nil rfl) (XQ.ret1 hF noR rfl (RV.tmp rfl) .nil rfl)
    intro s12 r17 h
    refine W.seq ?_
    refine W.seq ?_
    refine W.reg (σ' := ⟨[(0, .v (Enc.sl eBlk) a0), (1, .v (Enc.sl eBlk) a1), (5, .v (Enc.int .i64) s12), (14, .v Enc.bool (cm .lss s12 (a0.length : Int)))], []⟩) (J.cons (.none rfl) (JO.move rfl) rfl rfl (J.cons (.none rfl) (JO.move rfl) rfl rfl (J.cons (.none rfl) (JO.len rfl Try.runUnderlying22) rfl rfl (J.cons (.none rfl) (JO.cmp rfl rfl rfl) rfl rfl (J.fin (Sw.Sub.mk id (.cons rfl (.of_eq rfl) (.cons rfl (.of_eq rfl) (.cons rfl (.of_eq rfl) (.cons rfl (.of_eq rfl) .nil)))) .nil rfl)))))) ?_
    rcases Bool.eq_false_or_eq_true (cm .lss s12 (a0.length : Int)) with hc19 | hc19
    · replace h := cond_t hc19 h
      refine W.condT rfl hc19 ?_
      refine W.skip ?_
      refine W.seq ?_
      refine W.block ?_
      refine W.seq ?_
      obtain ⟨z20, hz20, h⟩ := bind_e h
      obtain ⟨z21, hz21, h⟩ := bind_e h
      refine W.dr (σ' := ⟨[(0, .v (Enc.sl eBlk) a0), (1, .v (Enc.sl eBlk) a1), (5, .v (Enc.int .i64) s12), (25, .v Enc.bool (!decide (z20 = z21)))], []⟩) 9 mixed (by exact (.cons (.none rfl) (JO.move rfl) rfl rfl (.cons (.none rfl) (JO.move rfl) rfl rfl (.cons (.none rfl) (JO.idx hz20 rfl rfl Try.runUnderlying22 Try.sizeOf24) rfl rfl (.cons (.none rfl) (JO.loadPst rfl Try.isAgg24 Try.sizeOf24) rfl rfl (.cons (.none rfl) (JO.move rfl) rfl rfl (.cons (.none rfl) (JO.move rfl) rfl rfl (.cons (.none rfl) (JO.idx hz21 rfl rfl Try.runUnderlying22 Try.sizeOf24) rfl rfl (.cons (.none rfl) (JO.loadPst rfl Try.isAgg24 Try.sizeOf24) rfl rfl (.cons (.none rfl) (JO.neV eq24 rfl rfl Try.eqGuardType24 rfl rfl) rfl rfl .nil)))))))))) (by exact (J.fin (Sw.Sub.mk id (.cons rfl (.of_eq rfl) (.cons rfl (.of_eq rfl) (.cons rfl (.of_eq rfl) (.cons rfl (.of_eq rfl) .nil)))) .nil rfl))) (by decide +kernel) (by decide +kernel) (by decide +kernel) ?_
      rcases Bool.eq_false_or_eq_true (!decide (z20 = z21)) with hc22 | hc22
      · replace h := cond_t hc22 h
        refine W.condT rfl hc22 ?_
        refine W.seq ?_
        refine W.reg (σ' := ⟨[(4, .v Enc.bool false)], []⟩) (J.cons (.none rfl) (JO.assign rfl) rfl rfl (J.fin (Sw.Sub.mk id (.cons rfl (.of_eq rfl) .nil) .nil rfl))) ?_
        refine W.ret ?_
        refine XQ.ret ?_
        obtain rfl := Option.some.inj h
        refine XQ.lret fun ho => ?_
        obtain rfl := hr17 _ ho
        exact XQ.sub (σ' := ⟨[(4, .v Enc.bool false)], []⟩) (Sw.Sub.mk id (.cons rfl (.of_eq rfl) .nil) .nil rfl) (XQ.ret1 hF noR rfl (RV.tmp rfl) .nil rfl)
      · replace h := cond_f hc22 h
        refine W.condF rfl hc22 ?_
        refine W.skip ?_
        refine W.fall ?_
        refine W.reg (σ' := ⟨[(0, .v (Enc.sl eBlk) a0), (1, .v (Enc.sl eBlk) a1), (5, .v (Enc.int .i64) (ar .add .i64 s12 (1 : Int)))], []⟩) (J.cons (.none rfl) (JO.move rfl) rfl rfl (J.cons (.none rfl) (JO.arith rfl rfl rfl) rfl rfl (J.cons (.none rfl) (JO.assign rfl) rfl rfl (J.fin (Sw.Sub.mk id (.cons rfl (.of_eq rfl) (.cons rfl (.of_eq rfl) (.cons rfl (.of_eq rfl) .nil))) .nil rfl))))) ?_
        obtain rfl := Option.some.inj h
        exact W.next (Sw.Sub.mk id (.cons rfl (.of_eq rfl) (.cons rfl (.of_eq rfl) (.cons rfl (.of_eq rfl) .nil))) .nil rfl)
    · replace h := cond_f hc19 h
      refine W.condF rfl hc19 ?_
      refine W.exit ?_
      obtain rfl := Option.some.inj h
      exact XQ.brk (Sw.Sub.mk id .nil .nil rfl)
set_option maxRecDepth 100000 in
set_option maxHeartbeats 4000000 in
theorem con_ref_SamePuts {a0 : (List (Int × Blk))} {a1 : (List (Int × Blk))} {r : Bool} (h : m_ref_SamePuts a0 a1 = some r) :
    Con Try.prog 46 [.v (Enc.sl (Enc.pr (Enc.int .i64) eBlk)) a0, .v (Enc.sl (Enc.pr (Enc.int .i64) eBlk)) a1] (.v Enc.bool r) [] := by
  refine Con.of Try.func46 rfl Try.ntmps46 rfl ?_
  intro S w hF
  unfold m_ref_SamePuts at h
  refine W.seq ?_
  refine W.reg (σ' := ⟨[(0, .v (Enc.sl (Enc.pr (Enc.int .i64) eBlk)) a0), (1, .v (Enc.sl (Enc.pr (Enc.int .i64) eBlk)) a1)], []⟩) (J.cons (.none rfl) (JO.assign rfl) rfl rfl (J.fin (Sw.Sub.mk id (.cons rfl (.of_eq rfl) (.cons rfl (.of_eq rfl) .nil)) .nil rfl))) ?_
  refine W.seq ?_
  refine W.seq ?_
  refine W.reg (σ' := ⟨[(0, .v (Enc.sl (Enc.pr (Enc.int .i64) eBlk)) a0), (1, .v (Enc.sl (Enc.pr (Enc.int .i64) eBlk)) a1), (10, .v Enc.bool (cm .neq (a0.length : Int) (a1.length : Int)))], []⟩) (J.cons (.none rfl) (JO.move rfl) rfl rfl (J.cons (.none rfl) (JO.len rfl Try.runUnderlying47) rfl rfl (J.cons (.none rfl) (JO.move rfl) rfl rfl (J.cons (.none rfl) (JO.len rfl Try.runUnderlying47) rfl rfl (J.cons (.none rfl) (JO.cmp rfl rfl rfl) rfl rfl (J.fin (Sw.Sub.mk id (.cons rfl (.of_eq rfl) (.cons rfl (.of_eq rfl) (.cons rfl (.of_eq rfl) .nil))) .nil rfl))))))) ?_
  rcases Bool.eq_false_or_eq_true (cm .neq (a0.length : Int) (a1.length : Int)) with hc1 | hc1
  · replace h := cond_t hc1 h
    refine W.condT rfl hc1 ?_
    refine W.seq ?_
    refine W.reg (σ' := ⟨[(4, .v Enc.bool false)], []⟩) (J.cons (.none rfl) (JO.assign rfl) rfl rfl (J.fin (Sw.Sub.mk id (.cons rfl (.of_eq rfl) .nil) .nil rfl))) ?_
    refine W.ret ?_
    obtain rfl := Option.some.inj h
    exact XQ.sub (σ' := ⟨[(4, .v Enc.bool false)], []⟩) (Sw.Sub.mk id (.cons rfl (.of_eq rfl) .nil) .nil rfl) (XQ.ret1 hF noR rfl (RV.tmp rfl) .nil rfl)
  · replace h := cond_f hc1 h
    refine W.condF rfl hc1 ?_
    refine W.skip ?_
    refine W.seq ?_
    refine W.seq ?_
    refine W.reg (σ' := ⟨[(0, .v (Enc.sl (Enc.pr (Enc.int .i64) eBlk)) a0), (1, .v (Enc.sl (Enc.pr (Enc.int .i64) eBlk)) a1), (5, .v (Enc.int .i64) (0 : Int))], []⟩) (J.cons (.none rfl) (JO.assign rfl) rfl rfl (J.fin (Sw.Sub.mk id (.cons rfl (.of_eq rfl) (.cons rfl (.of_eq rfl) (.cons rfl (.of_eq rfl) .nil))) .nil rfl))) ?_
    obtain ⟨o17, ho17, hb17, hr17⟩ := lp_elim h
    refine W.lp (σs := fun s12 : Int => ⟨[(0, .v (Enc.sl (Enc.pr (Enc.int .i64) eBlk)) a0), (1, .v (Enc.sl (Enc.pr (Enc.int .i64) eBlk)) a1), (5, .v (Enc.int .i64) s12)], []⟩) (fun x18 : Unit => ⟨[], []⟩) ho17 (Sw.Sub.mk id (.cons rfl (.of_eq rfl) (.cons rfl (.of_eq rfl) (.cons rfl (.of_eq rfl) .nil))) .nil rfl) ?_ ?_
    · intro x18 hy
      have h := hb17 _ hy
      refine W.seq ?_
      refine W.reg (σ' := ⟨[(4, .v Enc.bool true)], []⟩) (J.cons (.none rfl) (JO.assign rfl) rfl rfl (J.fin (Sw.Sub.mk id (.cons rfl (.of_eq rfl) .nil) .nil rfl))) ?_
      refine W.ret ?_
      obtain rfl := Option.some.inj h
      exact XQ.sub (σ' := ⟨[(4, .v Enc.bool true)], []⟩) (Sw.Sub.mk id (.cons rfl (.of_eq rfl) .nil) .nil rfl) (XQ.ret1 hF noR rfl (RV.tmp rfl) .nil rfl)
    intro s12 r17 h
    refine W.seq ?_
    refine W.seq ?_
    refine W.reg (σ' := ⟨[(0, .v (Enc.sl (Enc.pr (Enc.int .i64) eBlk)) a0), (1, .v (Enc.sl (Enc.pr (Enc.int .i64) eBlk)) a1), (5, .v (Enc.int .i64) s12), (14, .v Enc.bool (cm .lss s12 (a0.length : Int)))], []⟩) (J.cons (.none rfl) (JO.move rfl) rfl rfl (J.cons (.none rfl) (JO.move rfl) rfl rfl (J.cons (.none rfl) (JO.len rfl Try.runUnderlying47) rfl rfl (J.cons (.none rfl) (JO.cmp rfl rfl rfl) rfl rfl (J.fin (Sw.Sub.mk id (.cons rfl (.of_eq rfl) (.cons rfl (.of_eq rfl) (.cons rfl (.of_eq rfl) (.cons rfl (.of_eq rfl) .nil)))) .nil rfl)))))) ?_
    rcases Bool.eq_false_or_eq_true (cm .lss s12 (a0.length : Int)) with hc19 | hc19
    · replace h := cond_t hc19 h
      refine W.condT rfl hc19 ?_
      refine W.skip ?_
      refine W.seq ?_
      refine W.block ?_
      refine W.seq ?_
      obtain ⟨z20, hz20, h⟩ := bind_e h
      obtain ⟨z21, hz21, h⟩ := bind_e h
      refine W.dr (σ' := ⟨[(0, .v (Enc.sl (Enc.pr (Enc.int .i64) eBlk)) a0), (1, .v (Enc.sl (Enc.pr (Enc.int .i64) eBlk)) a1), (5, .v (Enc.int .i64) s12), (25, .v Enc.bool (!decide (z20 = z21)))], []⟩) 9 mixed (by exact (.cons (.none rfl) (JO.move rfl) rfl rfl (.cons (.none rfl) (JO.move rfl) rfl rfl (.cons (.none rfl) (JO.idx hz20 rfl rfl Try.runUnderlying47 Try.sizeOf85) rfl rfl (.cons (.none rfl) (JO.loadPst rfl Try.isAgg85 Try.sizeOf85) rfl rfl (.cons (.none rfl) (JO.move rfl) rfl rfl (.cons (.none rfl) (JO.move rfl) rfl rfl (.cons (.none rfl) (JO.idx hz21 rfl rfl Try.runUnderlying47 Try.sizeOf85) rfl rfl (.cons (.none rfl) (JO.loadPst rfl Try.isAgg85 Try.sizeOf85) rfl rfl (.cons (.none rfl) (JO.neV eq85 rfl rfl Try.eqGuardType85 rfl rfl) rfl rfl .nil)))))))))) (by exact (J.fin (Sw.Sub.mk id (.cons rfl (.of_eq rfl) (.cons rfl (.of_eq rfl) (.cons rfl (.of_eq rfl) (.cons rfl (.of_eq rfl) .nil)))) .nil rfl))) (by decide +kernel) (by decide +kernel) (by decide +kernel) ?_
      rcases Bool.eq_false_or_eq_true (!decide (z20 = z21)) with hc22 | hc22
      · replace h := cond_t hc22 h
        refine W.condT rfl hc22 ?_
        refine W.seq ?_
        refine W.reg (σ' := ⟨[(4, .v Enc.bool false)], []⟩) (J.cons (.none rfl) (JO.assign rfl) rfl rfl (J.fin (Sw.Sub.mk id (.cons rfl (.of_eq rfl) .nil) .nil rfl))) ?_
        refine W.ret ?_
        refine XQ.ret ?_
        obtain rfl := Option.some.inj h
        refine XQ.lret fun ho => ?_
        obtain rfl := hr17 _ ho
        exact XQ.sub (σ' := ⟨[(4, .v Enc.bool false)], []⟩) (Sw.Sub.mk id (.cons rfl (.of_eq rfl) .nil) .nil rfl) (XQ.ret1 hF noR rfl (RV.tmp rfl) .nil rfl)
      · replace h := cond_f hc22 h
        refine W.condF rfl hc22 ?_
        refine W.skip ?_
        refine W.fall ?_
        refine W.reg (σ' := ⟨[(0, .v (Enc.sl (Enc.pr (Enc.int .i64) eBlk)) a0), (1, .v (Enc.sl (Enc.pr (Enc.int .i64) eBlk)) a1), (5, .v (Enc.int .i64) (ar .add .i64 s12 (1 : Int)))], []⟩) (J.cons (.none rfl) (JO.move rfl) rfl rfl (J.cons (.none rfl) (JO.arith rfl rfl rfl) rfl rfl (J.cons (.none rfl) (JO.assign rfl) rfl rfl (J.fin (Sw.Sub.mk id (.cons rfl (.of_eq rfl) (.cons rfl (.of_eq rfl) (.cons rfl (.of_eq rfl) .nil))) .nil rfl))))) ?_
        obtain rfl := Option.some.inj h
        exact W.next (Sw.Sub.mk id (.cons rfl (.of_eq rfl) (.cons rfl (.of_eq rfl) (.cons rfl (.of_eq rfl) .nil))) .nil rfl)
    · replace h := cond_f hc19 h
      refine W.condF rfl hc19 ?_
      refine W.exit ?_
      obtain rfl := Option.some.inj h
      exact XQ.brk (Sw.Sub.mk id .nil .nil rfl)
set_option maxRecDepth 100000 in
set_option maxHeartbeats 4000000 in
theorem con_ref_SameDisk {a0 : ((List Blk) × (List (Int × Blk)) × Int)} {a1 : ((List Blk) × (List (Int × Blk)) × Int)} {r : Bool} (h : m_ref_SameDisk a0 a1 = some r) :
    Con Try.prog 29 [.v (Enc.pr (Enc.sl eBlk) (Enc.pr (Enc.sl (Enc.pr (Enc.int .i64) eBlk)) (Enc.int .i64))) a0, .v (Enc.pr (Enc.sl eBlk) (Enc.pr (Enc.sl (Enc.pr (Enc.int .i64) eBlk)) (Enc.int .i64))) a1] (.v Enc.bool r) [] := by
  refine Con.of Try.func29 rfl Try.ntmps29 rfl ?_
  intro S w hF
  unfold m_ref_SameDisk at h
  refine W.seq ?_
  refine W.reg (σ' := ⟨[(2, .ptr 101 0), (3, .ptr 102 0)], [(101, .box 49 [.v (Enc.sl eBlk) a0.1, .v (Enc.sl (Enc.pr (Enc.int .i64) eBlk)) a0.2.1, .v (Enc.int .i64) a0.2.2]), (102, .box 49 [.v (Enc.sl eBlk) a1.1, .v (Enc.sl (Enc.pr (Enc.int .i64) eBlk)) a1.2.1, .v (Enc.int .i64) a1.2.2])]⟩) (J.cons (.none rfl) (JO.box 101 rfl (.prm (.one _ _) (.prm (.one _ _) (.one _ _))) rfl) rfl rfl (J.cons (.none rfl) (JO.box 102 rfl (.prm (.one _ _) (.prm (.one _ _) (.one _ _))) rfl) rfl rfl (J.cons (.none rfl) (JO.assign rfl) rfl rfl (J.fin (Sw.Sub.mk id (.cons rfl (.of_eq rfl) (.cons rfl (.of_eq rfl) .nil)) (.box rfl (.cons (.of_eq rfl) (.cons (.of_eq rfl) (.cons (.of_eq rfl) .nil))) (.box rfl (.cons (.of_eq rfl) (.cons (.of_eq rfl) (.cons (.of_eq rfl) .nil))) .nil)) rfl))))) ?_
  refine W.seq ?_
  obtain ⟨x5, hx, h⟩ := bind_e h
  refine W.reg (σ' := ⟨[(4, .v Enc.bool x5)], []⟩) ?_ ?_
  · rcases Bool.eq_false_or_eq_true (cm .eql a0.2.2 a1.2.2) with hc6 | hc6
    · replace hx := cond_t hc6 hx
      obtain ⟨v7, hv7, hx⟩ := bind_e hx
      rcases Bool.eq_false_or_eq_true v7 with hc8 | hc8
      · replace hx := cond_t hc8 hx
        obtain ⟨v9, hv9, hx⟩ := bind_e hx
        obtain rfl := Option.some.inj hx
        exact (J.cons (.none rfl) (JO.fieldPtr 2 rfl Try.runUnderlying49 rfl Try.sizeOf3 rfl rfl) rfl rfl (J.cons (.none rfl) (JO.load rfl rfl rfl Try.isAgg3 Try.sizeOf3) rfl rfl (J.cons (.none rfl) (JO.fieldPtr 2 rfl Try.runUnderlying49 rfl Try.sizeOf3 rfl rfl) rfl rfl (J.cons (.none rfl) (JO.load rfl rfl rfl Try.isAgg3 Try.sizeOf3) rfl rfl (J.cons (.none rfl) (JO.cmp rfl rfl rfl) rfl rfl (J.cons (.none rfl) (JO.move rfl) rfl rfl (J.cons (GK.met 10 rfl rfl rfl hc6) (JO.fieldPtr 0 rfl Try.runUnderlying49 rfl Try.sizeOf22 rfl rfl) rfl rfl (J.cons (GK.met 10 rfl rfl rfl hc6) (JO.load rfl rfl rfl Try.isAgg22 Try.sizeOf22) rfl rfl (J.cons (GK.met 10 rfl rfl rfl hc6) (JO.fieldPtr 0 rfl Try.runUnderlying49 rfl Try.sizeOf22 rfl rfl) rfl rfl (J.cons (GK.met 10 rfl rfl rfl hc6) (JO.load rfl rfl rfl Try.isAgg22 Try.sizeOf22) rfl rfl (J.cons (GK.met 10 rfl rfl rfl hc6) (JO.call0 (con_ref_SameBlocks hv7) Try.call20 (.cons (.dir rfl) (.cons (.dir rfl) .nil))) rfl rfl (J.cons (.none rfl) (JO.pT hc6 rfl rfl) rfl rfl (J.cons (.none rfl) (JO.move rfl) rfl rfl (J.cons (GK.met 17 rfl rfl rfl hc8) (JO.fieldPtr 1 rfl Try.runUnderlying49 rfl Try.sizeOf47 rfl rfl) rfl rfl (J.cons (GK.met 17 rfl rfl rfl hc8) (JO.load rfl rfl rfl Try.isAgg47 Try.sizeOf47) rfl rfl (J.cons (GK.met 17 rfl rfl rfl hc8) (JO.fieldPtr 1 rfl Try.runUnderlying49 rfl Try.sizeOf47 rfl rfl) rfl rfl (J.cons (GK.met 17 rfl rfl rfl hc8) (JO.load rfl rfl rfl Try.isAgg47 Try.sizeOf47) rfl rfl (J.cons (GK.met 17 rfl rfl rfl hc8) (JO.call0 (con_ref_SamePuts hv9) Try.call46 (.cons (.dir rfl) (.cons (.dir rfl) .nil))) rfl rfl (J.cons (.none rfl) (JO.pT hc8 rfl rfl) rfl rfl (J.cons (.none rfl) (JO.assign rfl) rfl rfl (J.fin (Sw.Sub.mk id (.cons rfl (.of_eq rfl) .nil) .nil rfl))))))))))))))))))))))
      · replace hx := cond_f hc8 hx
        obtain rfl := Option.some.inj hx
        exact (J.cons (.none rfl) (JO.fieldPtr 2 rfl Try.runUnderlying49 rfl Try.sizeOf3 rfl rfl) rfl rfl (J.cons (.none rfl) (JO.load rfl rfl rfl Try.isAgg3 Try.sizeOf3) rfl rfl (J.cons (.none rfl) (JO.fieldPtr 2 rfl Try.runUnderlying49 rfl Try.sizeOf3 rfl rfl) rfl rfl (J.cons (.none rfl) (JO.load rfl rfl rfl Try.isAgg3 Try.sizeOf3) rfl rfl (J.cons (.none rfl) (JO.cmp rfl rfl rfl) rfl rfl (J.cons (.none rfl) (JO.move rfl) rfl rfl (J.cons (GK.met 10 rfl rfl rfl hc6) (JO.fieldPtr 0 rfl Try.runUnderlying49 rfl Try.sizeOf22 rfl rfl) rfl rfl (J.cons (GK.met 10 rfl rfl rfl hc6) (JO.load rfl rfl rfl Try.isAgg22 Try.sizeOf22) rfl rfl (J.cons (GK.met 10 rfl rfl rfl hc6) (JO.fieldPtr 0 rfl Try.runUnderlying49 rfl Try.sizeOf22 rfl rfl) rfl rfl (J.cons (GK.met 10 rfl rfl rfl hc6) (JO.load rfl rfl rfl Try.isAgg22 Try.sizeOf22) rfl rfl (J.cons (GK.met 10 rfl rfl rfl hc6) (JO.call0 (con_ref_SameBlocks hv7) Try.call20 (.cons (.dir rfl) (.cons (.dir rfl) .nil))) rfl rfl (J.cons (.none rfl) (JO.pT hc6 rfl rfl) rfl rfl (J.cons (.none rfl) (JO.move rfl) rfl rfl (J.left (GK.unmet 17 rfl rfl rfl hc8) rfl (J.left (GK.unmet 17 rfl rfl rfl hc8) rfl (J.left (GK.unmet 17 rfl rfl rfl hc8) rfl (J.left (GK.unmet 17 rfl rfl rfl hc8) rfl (J.left (GK.unmet 17 rfl rfl rfl hc8) rfl (J.cons (.none rfl) (JO.pF hc8 rfl rfl) rfl rfl (J.cons (.none rfl) (JO.assign rfl) rfl rfl (J.fin (Sw.Sub.mk id (.cons rfl (.of_eq rfl) .nil) .nil rfl))))))))))))))))))))))
    · replace hx := cond_f hc6 hx
      obtain rfl := Option.some.inj hx
      exact (J.cons (.none rfl) (JO.fieldPtr 2 rfl Try.runUnderlying49 rfl Try.sizeOf3 rfl rfl) rfl rfl (J.cons (.none rfl) (JO.load rfl rfl rfl Try.isAgg3 Try.sizeOf3) rfl rfl (J.cons (.none rfl) (JO.fieldPtr 2 rfl Try.runUnderlying49 rfl Try.sizeOf3 rfl rfl) rfl rfl (J.cons (.none rfl) (JO.load rfl rfl rfl Try.isAgg3 Try.sizeOf3) rfl rfl (J.cons (.none rfl) (JO.cmp rfl rfl rfl) rfl rfl (J.cons (.none rfl) (JO.move rfl) rfl rfl (J.left (GK.unmet 10 rfl rfl rfl hc6) rfl (J.left (GK.unmet 10 rfl rfl rfl hc6) rfl (J.left (GK.unmet 10 rfl rfl rfl hc6) rfl (J.left (GK.unmet 10 rfl rfl rfl hc6) rfl (J.left (GK.unmet 10 rfl rfl rfl hc6) rfl (J.cons (.none rfl) (JO.pF hc6 rfl rfl) rfl rfl (J.cons (.none rfl) (JO.move rfl) rfl rfl (J.left (GK.unmet 17 rfl rfl rfl rfl) rfl (J.left (GK.unmet 17 rfl rfl rfl rfl) rfl (J.left (GK.unmet 17 rfl rfl rfl rfl) rfl (J.left (GK.unmet 17 rfl rfl rfl rfl) rfl (J.left (GK.unmet 17 rfl rfl rfl rfl) rfl (J.cons (.none rfl) (JO.pF rfl rfl rfl) rfl rfl (J.cons (.none rfl) (JO.assign rfl) rfl rfl (J.fin (Sw.Sub.mk id (.cons rfl (.of_eq rfl) .nil) .nil rfl))))))))))))))))))))))
  refine W.ret ?_
  obtain rfl := Option.some.inj h
  exact XQ.sub (σ' := ⟨[(4, .v Enc.bool x5)], []⟩) (Sw.Sub.mk id (.cons rfl (.of_eq rfl) .nil) .nil rfl) (XQ.ret1 hF noR rfl (RV.tmp rfl) .nil rfl)
set_option maxRecDepth 100000 in
set_option maxHeartbeats 4000000 in
theorem con_law_DiskSays {a0 : ((List Blk) × (List (Int × Blk)) × Int)} {a1 : Int} {a2 : Blk} (hz : a0.2.1 ≠ []) {r : Bool} (h : m_law_DiskSays a0 a1 a2 = some r) :
    Con Try.prog 13 [.v (Enc.pr (Enc.sl eBlk) (Enc.pr (Enc.sl (Enc.pr (Enc.int .i64) eBlk)) (Enc.int .i64))) a0, .v (Enc.int .i64) a1, .v eBlk a2] (.v Enc.bool r) [] := by
  refine Con.of Try.func13 rfl Try.ntmps13 rfl ?_
  intro S w hF
  unfold m_law_DiskSays at h
  refine W.seq ?_
  refine W.reg (σ' := ⟨[(1, .v (Enc.int .i64) a1), (3, .ptr 101 0), (5, .ptr 102 0)], [(101, .box 49 [.v (Enc.sl eBlk) a0.1, .v (Enc.sl (Enc.pr (Enc.int .i64) eBlk)) a0.2.1, .v (Enc.int .i64) a0.2.2]), (102, .box 24 [.v eBlk a2])]⟩) (J.cons (.none rfl) (JO.box 101 rfl (.prm (.one _ _) (.prm (.one _ _) (.one _ _))) rfl) rfl rfl (J.cons (.none rfl) (JO.box 102 rfl (.one _ _) rfl) rfl rfl (J.cons (.none rfl) (JO.assign rfl) rfl rfl (J.fin (Sw.Sub.mk id (.cons rfl (.of_eq rfl) (.cons rfl (.of_eq rfl) (.cons rfl (.of_eq rfl) .nil))) (.box rfl (.cons (.of_eq rfl) (.cons (.of_eq rfl) (.cons (.of_eq rfl) .nil))) (.box rfl (.cons (.of_eq rfl) .nil) .nil)) rfl))))) ?_
  refine W.seq ?_
  refine W.seq ?_
  obtain ⟨x2, hx, h⟩ := bind_e h
  refine W.reg (σ' := ⟨[(1, .v (Enc.int .i64) a1), (3, .ptr 101 0), (5, .ptr 102 0), (32, .v Enc.bool x2)], [(101, .box 49 [.v (Enc.sl eBlk) a0.1, .v (Enc.sl (Enc.pr (Enc.int .i64) eBlk)) a0.2.1, .v (Enc.int .i64) a0.2.2]), (102, .box 24 [.v eBlk a2])]⟩) ?_ ?_
  · rcases Bool.eq_false_or_eq_true (cm .gtr (a0.1.length : Int) (300 : Int)) with hc3 | hc3
    · replace hx := cond_t hc3 hx
      obtain rfl := Option.some.inj hx
      exact (J.cons (.none rfl) (JO.fieldPtr 0 rfl Try.runUnderlying49 rfl Try.sizeOf22 rfl rfl) rfl rfl (J.cons (.none rfl) (JO.load rfl rfl rfl Try.isAgg22 Try.sizeOf22) rfl rfl (J.cons (.none rfl) (JO.len rfl Try.runUnderlying22) rfl rfl (J.cons (.none rfl) (JO.cmp rfl rfl rfl) rfl rfl (J.cons (.none rfl) (JO.move rfl) rfl rfl (J.left (GK.unmet 27 rfl rfl rfl hc3) rfl (J.left (GK.unmet 27 rfl rfl rfl hc3) rfl (J.left (GK.unmet 27 rfl rfl rfl hc3) rfl (J.left (GK.unmet 27 rfl rfl rfl hc3) rfl (J.cons (.none rfl) (JO.pT hc3 rfl rfl) rfl rfl (J.fin (Sw.Sub.mk id (.cons rfl (.of_eq rfl) (.cons rfl (.of_eq rfl) (.cons rfl (.of_eq rfl) (.cons rfl (.of_eq rfl) .nil)))) (.box rfl (.cons (.of_eq rfl) (.cons (.of_eq rfl) (.cons (.of_eq rfl) .nil))) (.box rfl (.cons (.of_eq rfl) .nil) .nil)) rfl))))))))))))
    · replace hx := cond_f hc3 hx
      obtain rfl := Option.some.inj hx
      exact (J.cons (.none rfl) (JO.fieldPtr 0 rfl Try.runUnderlying49 rfl Try.sizeOf22 rfl rfl) rfl rfl (J.cons (.none rfl) (JO.load rfl rfl rfl Try.isAgg22 Try.sizeOf22) rfl rfl (J.cons (.none rfl) (JO.len rfl Try.runUnderlying22) rfl rfl (J.cons (.none rfl) (JO.cmp rfl rfl rfl) rfl rfl (J.cons (.none rfl) (JO.move rfl) rfl rfl (J.cons (GK.met 27 rfl rfl rfl hc3) (JO.fieldPtr 1 rfl Try.runUnderlying49 rfl Try.sizeOf47 rfl rfl) rfl rfl (J.cons (GK.met 27 rfl rfl rfl hc3) (JO.load rfl rfl rfl Try.isAgg47 Try.sizeOf47) rfl rfl (J.cons (GK.met 27 rfl rfl rfl hc3) (JO.len rfl Try.runUnderlying47) rfl rfl (J.cons (GK.met 27 rfl rfl rfl hc3) (JO.cmp rfl rfl rfl) rfl rfl (J.cons (.none rfl) (JO.pF hc3 rfl rfl) rfl rfl (J.fin (Sw.Sub.mk id (.cons rfl (.of_eq rfl) (.cons rfl (.of_eq rfl) (.cons rfl (.of_eq rfl) (.cons rfl (.of_eq rfl) .nil)))) (.box rfl (.cons (.of_eq rfl) (.cons (.of_eq rfl) (.cons (.of_eq rfl) .nil))) (.box rfl (.cons (.of_eq rfl) .nil) .nil)) rfl))))))))))))
  rcases Bool.eq_false_or_eq_true x2 with hc4 | hc4
  · replace h := cond_t hc4 h
    refine W.condT rfl hc4 ?_
    refine W.seq ?_
    refine W.reg (σ' := ⟨[(6, .v Enc.bool true)], []⟩) (J.cons (.none rfl) (JO.assign rfl) rfl rfl (J.fin (Sw.Sub.mk id (.cons rfl (.of_eq rfl) .nil) .nil rfl))) ?_
    refine W.ret ?_
    obtain rfl := Option.some.inj h
    exact XQ.sub (σ' := ⟨[(6, .v Enc.bool true)], []⟩) (Sw.Sub.mk id (.cons rfl (.of_eq rfl) .nil) .nil rfl) (XQ.ret1 hF noR rfl (RV.tmp rfl) .nil rfl)
  · replace h := cond_f hc4 h
    refine W.condF rfl hc4 ?_
    refine W.skip ?_
    refine W.seq ?_
    obtain ⟨v5, hv5, h⟩ := bind_e h
    refine W.reg (σ' := ⟨[(1, .v (Enc.int .i64) a1), (3, .ptr 101 0), (5, .ptr 102 0), (7, .v (Enc.int .i64) v5)], [(101, .box 49 [.v (Enc.sl eBlk) a0.1, .v (Enc.sl (Enc.pr (Enc.int .i64) eBlk)) a0.2.1, .v (Enc.int .i64) a0.2.2]), (102, .box 24 [.v eBlk a2])]⟩) (J.cons (.none rfl) (JO.loadAll rfl rfl (.prm (.one _ _) (.prm (.one _ _) (.one _ _))) Try.isAgg49 Try.sizeOf49) rfl rfl (J.cons (.none rfl) (JO.call0 (con_ref_DiskMay hv5) Try.call26 (.cons (.dir rfl) .nil)) rfl rfl (J.cons (.none rfl) (JO.assign rfl) rfl rfl (J.fin (Sw.Sub.mk id (.cons rfl (.of_eq rfl) (.cons rfl (.of_eq rfl) (.cons rfl (.of_eq rfl) (.cons rfl (.of_eq rfl) .nil)))) (.box rfl (.cons (.of_eq rfl) (.cons (.of_eq rfl) (.cons (.of_eq rfl) .nil))) (.box rfl (.cons (.of_eq rfl) .nil) .nil)) rfl))))) ?_
    refine W.seq ?_
    refine W.seq ?_
    obtain ⟨v6, hv6, h⟩ := bind_e h
    obtain ⟨v7, hv7, h⟩ := bind_e h
    refine W.reg (σ' := ⟨[(1, .v (Enc.int .i64) a1), (3, .ptr 101 0), (5, .ptr 102 0), (7, .v (Enc.int .i64) v5), (39, .v Enc.bool (!v7))], [(101, .box 49 [.v (Enc.sl eBlk) a0.1, .v (Enc.sl (Enc.pr (Enc.int .i64) eBlk)) a0.2.1, .v (Enc.int .i64) a0.2.2]), (102, .box 24 [.v eBlk a2])]⟩) (J.cons (.none rfl) (JO.loadAll rfl rfl (.prm (.one _ _) (.prm (.one _ _) (.one _ _))) Try.isAgg49 Try.sizeOf49) rfl rfl (J.cons (.none rfl) (JO.call0 (con_disk_Check hv6) Try.call60 (.cons (.dir rfl) .nil)) rfl rfl (J.cons (.none rfl) (JO.move rfl) rfl rfl (J.cons (.none rfl) (JO.call0 (con_ref_Is hv7) Try.call18 (.cons (.dir rfl) (.cons (.dir rfl) .nil))) rfl rfl (J.cons (.none rfl) (JO.not rfl) rfl rfl (J.fin (Sw.Sub.mk id (.cons rfl (.of_eq rfl) (.cons rfl (.of_eq rfl) (.cons rfl (.of_eq rfl) (.cons rfl (.of_eq rfl) (.cons rfl (.of_eq rfl) .nil))))) (.box rfl (.cons (.of_eq rfl) (.cons (.of_eq rfl) (.cons (.of_eq rfl) .nil))) (.box rfl (.cons (.of_eq rfl) .nil) .nil)) rfl))))))) ?_
    rcases Bool.eq_false_or_eq_true (!v7) with hc8 | hc8
    · replace h := cond_t hc8 h
      refine W.condT rfl hc8 ?_
      refine W.seq ?_
      refine W.reg (σ' := ⟨[(6, .v Enc.bool false)], []⟩) (J.cons (.none rfl) (JO.assign rfl) rfl rfl (J.fin (Sw.Sub.mk id (.cons rfl (.of_eq rfl) .nil) .nil rfl))) ?_
      refine W.ret ?_
      obtain rfl := Option.some.inj h
      exact XQ.sub (σ' := ⟨[(6, .v Enc.bool false)], []⟩) (Sw.Sub.mk id (.cons rfl (.of_eq rfl) .nil) .nil rfl) (XQ.ret1 hF noR rfl (RV.tmp rfl) .nil rfl)
    · replace h := cond_f hc8 h
      refine W.condF rfl hc8 ?_
      refine W.skip ?_
      refine W.seq ?_
      obtain ⟨x10, hx, h⟩ := bind_e h
      refine W.reg (σ' := ⟨[(1, .v (Enc.int .i64) a1), (3, .ptr 101 0), (5, .ptr 102 0), (7, .v (Enc.int .i64) v5), (8, .v Enc.bool x10)], [(101, .box 49 [.v (Enc.sl eBlk) a0.1, .v (Enc.sl (Enc.pr (Enc.int .i64) eBlk)) a0.2.1, .v (Enc.int .i64) a0.2.2]), (102, .box 24 [.v eBlk a2])]⟩) ?_ ?_
      · rcases Bool.eq_false_or_eq_true (cm .geq a1 (0 : Int)) with hc11 | hc11
        · replace hx := cond_t hc11 hx
          obtain rfl := Option.some.inj hx
          exact (J.cons (.none rfl) (JO.move rfl) rfl rfl (J.cons (.none rfl) (JO.cmp rfl rfl rfl) rfl rfl (J.cons (.none rfl) (JO.move rfl) rfl rfl (J.cons (GK.met 42 rfl rfl rfl hc11) (JO.move rfl) rfl rfl (J.cons (GK.met 42 rfl rfl rfl hc11) (JO.fieldPtr 0 rfl Try.runUnderlying49 rfl Try.sizeOf22 rfl rfl) rfl rfl (J.cons (GK.met 42 rfl rfl rfl hc11) (JO.load rfl rfl rfl Try.isAgg22 Try.sizeOf22) rfl rfl (J.cons (GK.met 42 rfl rfl rfl hc11) (JO.len rfl Try.runUnderlying22) rfl rfl (J.cons (GK.met 42 rfl rfl rfl hc11) (JO.cmp rfl rfl rfl) rfl rfl (J.cons (.none rfl) (JO.pT hc11 rfl rfl) rfl rfl (J.cons (.none rfl) (JO.assign rfl) rfl rfl (J.fin (Sw.Sub.mk id (.cons rfl (.of_eq rfl) (.cons rfl (.of_eq rfl) (.cons rfl (.of_eq rfl) (.cons rfl (.of_eq rfl) (.cons rfl (.of_eq rfl) .nil))))) (.box rfl (.cons (.of_eq rfl) (.cons (.of_eq rfl) (.cons (.of_eq rfl) .nil))) (.box rfl (.cons (.of_eq rfl) .nil) .nil)) rfl))))))))))))
        · replace hx := cond_f hc11 hx
          obtain rfl := Option.some.inj hx
          exact (J.cons (.none rfl) (JO.move rfl) rfl rfl (J.cons (.none rfl) (JO.cmp rfl rfl rfl) rfl rfl (J.cons (.none rfl) (JO.move rfl) rfl rfl (J.left (GK.unmet 42 rfl rfl rfl hc11) rfl (J.left (GK.unmet 42 rfl rfl rfl hc11) rfl (J.left (GK.unmet 42 rfl rfl rfl hc11) rfl (J.left (GK.unmet 42 rfl rfl rfl hc11) rfl (J.left (GK.unmet 42 rfl rfl rfl hc11) rfl (J.cons (.none rfl) (JO.pF hc11 rfl rfl) rfl rfl (J.cons (.none rfl) (JO.assign rfl) rfl rfl (J.fin (Sw.Sub.mk id (.cons rfl (.of_eq rfl) (.cons rfl (.of_eq rfl) (.cons rfl (.of_eq rfl) (.cons rfl (.of_eq rfl) (.cons rfl (.of_eq rfl) .nil))))) (.box rfl (.cons (.of_eq rfl) (.cons (.of_eq rfl) (.cons (.of_eq rfl) .nil))) (.box rfl (.cons (.of_eq rfl) .nil) .nil)) rfl))))))))))))
      refine W.seq ?_
      refine W.reg (σ' := ⟨[(1, .v (Enc.int .i64) a1), (3, .ptr 101 0), (5, .ptr 102 0), (7, .v (Enc.int .i64) v5), (8, .v Enc.bool x10), (9, .v (Enc.int .i64) v5)], [(101, .box 49 [.v (Enc.sl eBlk) a0.1, .v (Enc.sl (Enc.pr (Enc.int .i64) eBlk)) a0.2.1, .v (Enc.int .i64) a0.2.2]), (102, .box 24 [.v eBlk a2])]⟩) (J.cons (.none rfl) (JO.move rfl) rfl rfl (J.cons (.none rfl) (JO.assign rfl) rfl rfl (J.fin (Sw.Sub.mk id (.cons rfl (.of_eq rfl) (.cons rfl (.of_eq rfl) (.cons rfl (.of_eq rfl) (.cons rfl (.of_eq rfl) (.cons rfl (.of_eq rfl) (.cons rfl (.of_eq rfl) .nil)))))) (.box rfl (.cons (.of_eq rfl) (.cons (.of_eq rfl) (.cons (.of_eq rfl) .nil))) (.box rfl (.cons (.of_eq rfl) .nil) .nil)) rfl)))) ?_
      refine W.seq ?_
      refine W.seq ?_
      obtain ⟨x13, hx, h⟩ := bind_e h
      refine W.reg (σ' := ⟨[(1, .v (Enc.int .i64) a1), (3, .ptr 101 0), (5, .ptr 102 0), (7, .v (Enc.int .i64) v5), (9, .v (Enc.int .i64) v5), (55, .v Enc.bool x13)], [(101, .box 49 [.v (Enc.sl eBlk) a0.1, .v (Enc.sl (Enc.pr (Enc.int .i64) eBlk)) a0.2.1, .v (Enc.int .i64) a0.2.2]), (102, .box 24 [.v eBlk a2])]⟩) ?_ ?_
      · rcases Bool.eq_false_or_eq_true (cm .eql v5 (0 : Int)) with hc14 | hc14
        · replace hx := cond_t hc14 hx
          obtain rfl := Option.some.inj hx
          exact (J.cons (.none rfl) (JO.move rfl) rfl rfl (J.cons (.none rfl) (JO.cmp rfl rfl rfl) rfl rfl (J.cons (.none rfl) (JO.move rfl) rfl rfl (J.cons (GK.met 52 rfl rfl rfl hc14) (JO.move rfl) rfl rfl (J.cons (GK.met 52 rfl rfl rfl hc14) (JO.not rfl) rfl rfl (J.cons (.none rfl) (JO.pT hc14 rfl rfl) rfl rfl (J.fin (Sw.Sub.mk id (.cons rfl (.of_eq rfl) (.cons rfl (.of_eq rfl) (.cons rfl (.of_eq rfl) (.cons rfl (.of_eq rfl) (.cons rfl (.of_eq rfl) (.cons rfl (.of_eq rfl) .nil)))))) (.box rfl (.cons (.of_eq rfl) (.cons (.of_eq rfl) (.cons (.of_eq rfl) .nil))) (.box rfl (.cons (.of_eq rfl) .nil) .nil)) rfl))))))))
        · replace hx := cond_f hc14 hx
          obtain rfl := Option.some.inj hx
          exact (J.cons (.none rfl) (JO.move rfl) rfl rfl (J.cons (.none rfl) (JO.cmp rfl rfl rfl) rfl rfl (J.cons (.none rfl) (JO.move rfl) rfl rfl (J.left (GK.unmet 52 rfl rfl rfl hc14) rfl (J.left (GK.unmet 52 rfl rfl rfl hc14) rfl (J.cons (.none rfl) (JO.pF hc14 rfl rfl) rfl rfl (J.fin (Sw.Sub.mk id (.cons rfl (.of_eq rfl) (.cons rfl (.of_eq rfl) (.cons rfl (.of_eq rfl) (.cons rfl (.of_eq rfl) (.cons rfl (.of_eq rfl) (.cons rfl (.of_eq rfl) .nil)))))) (.box rfl (.cons (.of_eq rfl) (.cons (.of_eq rfl) (.cons (.of_eq rfl) .nil))) (.box rfl (.cons (.of_eq rfl) .nil) .nil)) rfl))))))))
      obtain ⟨k16, hk16, h⟩ := jp_elim h
      refine W.jn (fun x17 : Int => ⟨[(1, .v (Enc.int .i64) a1), (3, .ptr 101 0), (5, .ptr 102 0), (7, .v (Enc.int .i64) v5), (9, .v (Enc.int .i64) x17)], [(101, .box 49 [.v (Enc.sl eBlk) a0.1, .v (Enc.sl (Enc.pr (Enc.int .i64) eBlk)) a0.2.1, .v (Enc.int .i64) a0.2.2]), (102, .box 24 [.v eBlk a2])]⟩) (fun x => k16 x = some r) rfl ?_ ?_ ?_
      · intro x17 h
        rw [hk16] at h
        refine W.seq ?_
        refine W.reg (σ' := ⟨[(1, .v (Enc.int .i64) a1), (3, .ptr 101 0), (5, .ptr 102 0), (7, .v (Enc.int .i64) v5), (9, .v (Enc.int .i64) x17), (10, .v (Enc.int .i64) x17)], [(101, .box 49 [.v (Enc.sl eBlk) a0.1, .v (Enc.sl (Enc.pr (Enc.int .i64) eBlk)) a0.2.1, .v (Enc.int .i64) a0.2.2]), (102, .box 24 [.v eBlk a2])]⟩) (J.cons (.none rfl) (JO.move rfl) rfl rfl (J.cons (.none rfl) (JO.assign rfl) rfl rfl (J.fin (Sw.Sub.mk id (.cons rfl (.of_eq rfl) (.cons rfl (.of_eq rfl) (.cons rfl (.of_eq rfl) (.cons rfl (.of_eq rfl) (.cons rfl (.of_eq rfl) (.cons rfl (.of_eq rfl) .nil)))))) (.box rfl (.cons (.of_eq rfl) (.cons (.of_eq rfl) (.cons (.of_eq rfl) .nil))) (.box rfl (.cons (.of_eq rfl) .nil) .nil)) rfl)))) ?_
        refine W.seq ?_
        refine W.seq ?_
        obtain ⟨x19, hx, h⟩ := bind_e h
        refine W.reg (σ' := ⟨[(1, .v (Enc.int .i64) a1), (3, .ptr 101 0), (5, .ptr 102 0), (7, .v (Enc.int .i64) v5), (9, .v (Enc.int .i64) x17), (10, .v (Enc.int .i64) x17), (63, .v Enc.bool x19)], [(101, .box 49 [.v (Enc.sl eBlk) a0.1, .v (Enc.sl (Enc.pr (Enc.int .i64) eBlk)) a0.2.1, .v (Enc.int .i64) a0.2.2]), (102, .box 24 [.v eBlk a2])]⟩) ?_ ?_
        · rcases Bool.eq_false_or_eq_true (cm .eql x17 (0 : Int)) with hc20 | hc20
          · replace hx := cond_t hc20 hx
            obtain rfl := Option.some.inj hx
            exact (J.cons (.none rfl) (JO.move rfl) rfl rfl (J.cons (.none rfl) (JO.cmp rfl rfl rfl) rfl rfl (J.cons (.none rfl) (JO.move rfl) rfl rfl (J.cons (GK.met 59 rfl rfl rfl hc20) (JO.fieldPtr 2 rfl Try.runUnderlying49 rfl Try.sizeOf3 rfl rfl) rfl rfl (J.cons (GK.met 59 rfl rfl rfl hc20) (JO.load rfl rfl rfl Try.isAgg3 Try.sizeOf3) rfl rfl (J.cons (GK.met 59 rfl rfl rfl hc20) (JO.cmp rfl rfl rfl) rfl rfl (J.cons (.none rfl) (JO.pT hc20 rfl rfl) rfl rfl (J.fin (Sw.Sub.mk id (.cons rfl (.of_eq rfl) (.cons rfl (.of_eq rfl) (.cons rfl (.of_eq rfl) (.cons rfl (.of_eq rfl) (.cons rfl (.of_eq rfl) (.cons rfl (.of_eq rfl) (.cons rfl (.of_eq rfl) .nil))))))) (.box rfl (.cons (.of_eq rfl) (.cons (.of_eq rfl) (.cons (.of_eq rfl) .nil))) (.box rfl (.cons (.of_eq rfl) .nil) .nil)) rfl)))))))))
          · replace hx := cond_f hc20 hx
            obtain rfl := Option.some.inj hx
            exact (J.cons (.none rfl) (JO.move rfl) rfl rfl (J.cons (.none rfl) (JO.cmp rfl rfl rfl) rfl rfl (J.cons (.none rfl) (JO.move rfl) rfl rfl (J.left (GK.unmet 59 rfl rfl rfl hc20) rfl (J.left (GK.unmet 59 rfl rfl rfl hc20) rfl (J.left (GK.unmet 59 rfl rfl rfl hc20) rfl (J.cons (.none rfl) (JO.pF hc20 rfl rfl) rfl rfl (J.fin (Sw.Sub.mk id (.cons rfl (.of_eq rfl) (.cons rfl (.of_eq rfl) (.cons rfl (.of_eq rfl) (.cons rfl (.of_eq rfl) (.cons rfl (.of_eq rfl) (.cons rfl (.of_eq rfl) (.cons rfl (.of_eq rfl) .nil))))))) (.box rfl (.cons (.of_eq rfl) (.cons (.of_eq rfl) (.cons (.of_eq rfl) .nil))) (.box rfl (.cons (.of_eq rfl) .nil) .nil)) rfl)))))))))
        obtain ⟨k22, hk22, h⟩ := jp_elim h
        refine W.jn (fun x23 : Int => ⟨[(1, .v (Enc.int .i64) a1), (3, .ptr 101 0), (5, .ptr 102 0), (7, .v (Enc.int .i64) v5), (9, .v (Enc.int .i64) x23), (10, .v (Enc.int .i64) x17)], [(101, .box 49 [.v (Enc.sl eBlk) a0.1, .v (Enc.sl (Enc.pr (Enc.int .i64) eBlk)) a0.2.1, .v (Enc.int .i64) a0.2.2]), (102, .box 24 [.v eBlk a2])]⟩) (fun x => k22 x = some r) rfl ?_ ?_ ?_
        · intro x23 h
          rw [hk22] at h
          refine W.seq ?_
          refine W.seq ?_
          obtain ⟨x25, hx, h⟩ := bind_e h
          refine W.reg (σ' := ⟨[(1, .v (Enc.int .i64) a1), (3, .ptr 101 0), (5, .ptr 102 0), (7, .v (Enc.int .i64) v5), (9, .v (Enc.int .i64) x23), (10, .v (Enc.int .i64) x17), (71, .v Enc.bool x25)], [(101, .box 49 [.v (Enc.sl eBlk) a0.1, .v (Enc.sl (Enc.pr (Enc.int .i64) eBlk)) a0.2.1, .v (Enc.int .i64) a0.2.2]), (102, .box 24 [.v eBlk a2])]⟩) ?_ ?_
          · rcases Bool.eq_false_or_eq_true (cm .eql x17 (0 : Int)) with hc26 | hc26
            · replace hx := cond_t hc26 hx
              obtain rfl := Option.some.inj hx
              exact (J.cons (.none rfl) (JO.move rfl) rfl rfl (J.cons (.none rfl) (JO.cmp rfl rfl rfl) rfl rfl (J.cons (.none rfl) (JO.move rfl) rfl rfl (J.cons (GK.met 66 rfl rfl rfl hc26) (JO.fieldPtr 1 rfl Try.runUnderlying49 rfl Try.sizeOf47 rfl rfl) rfl rfl (J.cons (GK.met 66 rfl rfl rfl hc26) (JO.load rfl rfl rfl Try.isAgg47 Try.sizeOf47) rfl rfl (J.cons (GK.met 66 rfl rfl rfl hc26) (JO.len rfl Try.runUnderlying47) rfl rfl (J.cons (GK.met 66 rfl rfl rfl hc26) (JO.cmp rfl rfl rfl) rfl rfl (J.cons (.none rfl) (JO.pT hc26 rfl rfl) rfl rfl (J.fin (Sw.Sub.mk id (.cons rfl (.of_eq rfl) (.cons rfl (.of_eq rfl) (.cons rfl (.of_eq rfl) (.cons rfl (.of_eq rfl) (.cons rfl (.of_eq rfl) (.cons rfl (.of_eq rfl) (.cons rfl (.of_eq rfl) .nil))))))) (.box rfl (.cons (.of_eq rfl) (.cons (.of_eq rfl) (.cons (.of_eq rfl) .nil))) (.box rfl (.cons (.of_eq rfl) .nil) .nil)) rfl))))))))))
            · replace hx := cond_f hc26 hx
              obtain rfl := Option.some.inj hx
              exact (J.cons (.none rfl) (JO.move rfl) rfl rfl (J.cons (.none rfl) (JO.cmp rfl rfl rfl) rfl rfl (J.cons (.none rfl) (JO.move rfl) rfl rfl (J.left (GK.unmet 66 rfl rfl rfl hc26) rfl (J.left (GK.unmet 66 rfl rfl rfl hc26) rfl (J.left (GK.unmet 66 rfl rfl rfl hc26) rfl (J.left (GK.unmet 66 rfl rfl rfl hc26) rfl (J.cons (.none rfl) (JO.pF hc26 rfl rfl) rfl rfl (J.fin (Sw.Sub.mk id (.cons rfl (.of_eq rfl) (.cons rfl (.of_eq rfl) (.cons rfl (.of_eq rfl) (.cons rfl (.of_eq rfl) (.cons rfl (.of_eq rfl) (.cons rfl (.of_eq rfl) (.cons rfl (.of_eq rfl) .nil))))))) (.box rfl (.cons (.of_eq rfl) (.cons (.of_eq rfl) (.cons (.of_eq rfl) .nil))) (.box rfl (.cons (.of_eq rfl) .nil) .nil)) rfl))))))))))
          obtain ⟨k28, hk28, h⟩ := jp_elim h
          refine W.jn (fun x29 : Int => ⟨[(1, .v (Enc.int .i64) a1), (3, .ptr 101 0), (5, .ptr 102 0), (7, .v (Enc.int .i64) v5), (9, .v (Enc.int .i64) x23), (10, .v (Enc.int .i64) x29)], [(101, .box 49 [.v (Enc.sl eBlk) a0.1, .v (Enc.sl (Enc.pr (Enc.int .i64) eBlk)) a0.2.1, .v (Enc.int .i64) a0.2.2]), (102, .box 24 [.v eBlk a2])]⟩) (fun x => k28 x = some r) rfl ?_ ?_ ?_
          · intro x29 h
            rw [hk28] at h
            refine W.seq ?_
            refine W.seq ?_
            obtain ⟨x31, hx, h⟩ := bind_e h
            refine W.reg (σ' := ⟨[(1, .v (Enc.int .i64) a1), (3, .ptr 101 0), (5, .ptr 102 0), (7, .v (Enc.int .i64) v5), (9, .v (Enc.int .i64) x23), (10, .v (Enc.int .i64) x29), (78, .v Enc.bool x31)], [(101, .box 49 [.v (Enc.sl eBlk) a0.1, .v (Enc.sl (Enc.pr (Enc.int .i64) eBlk)) a0.2.1, .v (Enc.int .i64) a0.2.2]), (102, .box 24 [.v eBlk a2])]⟩) ?_ ?_
            · rcases Bool.eq_false_or_eq_true (cm .eql x29 (0 : Int)) with hc32 | hc32
              · replace hx := cond_t hc32 hx
                obtain rfl := Option.some.inj hx
                exact (J.cons (.none rfl) (JO.move rfl) rfl rfl (J.cons (.none rfl) (JO.cmp rfl rfl rfl) rfl rfl (J.cons (.none rfl) (JO.move rfl) rfl rfl (J.cons (GK.met 74 rfl rfl rfl hc32) (JO.fieldPtr 2 rfl Try.runUnderlying49 rfl Try.sizeOf3 rfl rfl) rfl rfl (J.cons (GK.met 74 rfl rfl rfl hc32) (JO.load rfl rfl rfl Try.isAgg3 Try.sizeOf3) rfl rfl (J.cons (GK.met 74 rfl rfl rfl hc32) (JO.cmp rfl rfl rfl) rfl rfl (J.cons (.none rfl) (JO.pT hc32 rfl rfl) rfl rfl (J.fin (Sw.Sub.mk id (.cons rfl (.of_eq rfl) (.cons rfl (.of_eq rfl) (.cons rfl (.of_eq rfl) (.cons rfl (.of_eq rfl) (.cons rfl (.of_eq rfl) (.cons rfl (.of_eq rfl) (.cons rfl (.of_eq rfl) .nil))))))) (.box rfl (.cons (.of_eq rfl) (.cons (.of_eq rfl) (.cons (.of_eq rfl) .nil))) (.box rfl (.cons (.of_eq rfl) .nil) .nil)) rfl)))))))))
              · replace hx := cond_f hc32 hx
                obtain rfl := Option.some.inj hx
                exact (J.cons (.none rfl) (JO.move rfl) rfl rfl (J.cons (.none rfl) (JO.cmp rfl rfl rfl) rfl rfl (J.cons (.none rfl) (JO.move rfl) rfl rfl (J.left (GK.unmet 74 rfl rfl rfl hc32) rfl (J.left (GK.unmet 74 rfl rfl rfl hc32) rfl (J.left (GK.unmet 74 rfl rfl rfl hc32) rfl (J.cons (.none rfl) (JO.pF hc32 rfl rfl) rfl rfl (J.fin (Sw.Sub.mk id (.cons rfl (.of_eq rfl) (.cons rfl (.of_eq rfl) (.cons rfl (.of_eq rfl) (.cons rfl (.of_eq rfl) (.cons rfl (.of_eq rfl) (.cons rfl (.of_eq rfl) (.cons rfl (.of_eq rfl) .nil))))))) (.box rfl (.cons (.of_eq rfl) (.cons (.of_eq rfl) (.cons (.of_eq rfl) .nil))) (.box rfl (.cons (.of_eq rfl) .nil) .nil)) rfl)))))))))
            obtain ⟨k34, hk34, h⟩ := jp_elim h
            refine W.jn (fun x35 : Int => ⟨[(1, .v (Enc.int .i64) a1), (3, .ptr 101 0), (5, .ptr 102 0), (7, .v (Enc.int .i64) v5), (9, .v (Enc.int .i64) x23), (10, .v (Enc.int .i64) x35)], [(101, .box 49 [.v (Enc.sl eBlk) a0.1, .v (Enc.sl (Enc.pr (Enc.int .i64) eBlk)) a0.2.1, .v (Enc.int .i64) a0.2.2]), (102, .box 24 [.v eBlk a2])]⟩) (fun x => k34 x = some r) rfl ?_ ?_ ?_
            · intro x35 h
              rw [hk34] at h
              refine W.seq ?_
              refine W.reg (σ' := ⟨[(1, .v (Enc.int .i64) a1), (3, .ptr 101 0), (5, .ptr 102 0), (7, .v (Enc.int .i64) v5), (9, .v (Enc.int .i64) x23), (10, .v (Enc.int .i64) x35), (11, .v (Enc.int .i64) v5)], [(101, .box 49 [.v (Enc.sl eBlk) a0.1, .v (Enc.sl (Enc.pr (Enc.int .i64) eBlk)) a0.2.1, .v (Enc.int .i64) a0.2.2]), (102, .box 24 [.v eBlk a2])]⟩) (J.cons (.none rfl) (JO.move rfl) rfl rfl (J.cons (.none rfl) (JO.assign rfl) rfl rfl (J.fin (Sw.Sub.mk id (.cons rfl (.of_eq rfl) (.cons rfl (.of_eq rfl) (.cons rfl (.of_eq rfl) (.cons rfl (.of_eq rfl) (.cons rfl (.of_eq rfl) (.cons rfl (.of_eq rfl) (.cons rfl (.of_eq rfl) .nil))))))) (.box rfl (.cons (.of_eq rfl) (.cons (.of_eq rfl) (.cons (.of_eq rfl) .nil))) (.box rfl (.cons (.of_eq rfl) .nil) .nil)) rfl)))) ?_
              refine W.seq ?_
              refine W.seq ?_
              obtain ⟨x37, hx, h⟩ := bind_e h
              refine W.reg (σ' := ⟨[(1, .v (Enc.int .i64) a1), (3, .ptr 101 0), (5, .ptr 102 0), (9, .v (Enc.int .i64) x23), (10, .v (Enc.int .i64) x35), (11, .v (Enc.int .i64) v5), (86, .v Enc.bool x37)], [(101, .box 49 [.v (Enc.sl eBlk) a0.1, .v (Enc.sl (Enc.pr (Enc.int .i64) eBlk)) a0.2.1, .v (Enc.int .i64) a0.2.2]), (102, .box 24 [.v eBlk a2])]⟩) ?_ ?_
              · rcases Bool.eq_false_or_eq_true (cm .eql v5 (0 : Int)) with hc38 | hc38
                · replace hx := cond_t hc38 hx
                  obtain rfl := Option.some.inj hx
                  exact (J.cons (.none rfl) (JO.move rfl) rfl rfl (J.cons (.none rfl) (JO.cmp rfl rfl rfl) rfl rfl (J.cons (.none rfl) (JO.move rfl) rfl rfl (J.cons (GK.met 82 rfl rfl rfl hc38) (JO.fieldPtr 2 rfl Try.runUnderlying49 rfl Try.sizeOf3 rfl rfl) rfl rfl (J.cons (GK.met 82 rfl rfl rfl hc38) (JO.load rfl rfl rfl Try.isAgg3 Try.sizeOf3) rfl rfl (J.cons (GK.met 82 rfl rfl rfl hc38) (JO.cmp rfl rfl rfl) rfl rfl (J.cons (.none rfl) (JO.pT hc38 rfl rfl) rfl rfl (J.fin (Sw.Sub.mk id (.cons rfl (.of_eq rfl) (.cons rfl (.of_eq rfl) (.cons rfl (.of_eq rfl) (.cons rfl (.of_eq rfl) (.cons rfl (.of_eq rfl) (.cons rfl (.of_eq rfl) (.cons rfl (.of_eq rfl) .nil))))))) (.box rfl (.cons (.of_eq rfl) (.cons (.of_eq rfl) (.cons (.of_eq rfl) .nil))) (.box rfl (.cons (.of_eq rfl) .nil) .nil)) rfl)))))))))
                · replace hx := cond_f hc38 hx
                  obtain rfl := Option.some.inj hx
                  exact (J.cons (.none rfl) (JO.move rfl) rfl rfl (J.cons (.none rfl) (JO.cmp rfl rfl rfl) rfl rfl (J.cons (.none rfl) (JO.move rfl) rfl rfl (J.left (GK.unmet 82 rfl rfl rfl hc38) rfl (J.left (GK.unmet 82 rfl rfl rfl hc38) rfl (J.left (GK.unmet 82 rfl rfl rfl hc38) rfl (J.cons (.none rfl) (JO.pF hc38 rfl rfl) rfl rfl (J.fin (Sw.Sub.mk id (.cons rfl (.of_eq rfl) (.cons rfl (.of_eq rfl) (.cons rfl (.of_eq rfl) (.cons rfl (.of_eq rfl) (.cons rfl (.of_eq rfl) (.cons rfl (.of_eq rfl) (.cons rfl (.of_eq rfl) .nil))))))) (.box rfl (.cons (.of_eq rfl) (.cons (.of_eq rfl) (.cons (.of_eq rfl) .nil))) (.box rfl (.cons (.of_eq rfl) .nil) .nil)) rfl)))))))))
              obtain ⟨k40, hk40, h⟩ := jp_elim h
              refine W.jn (fun x41 : Int => ⟨[(1, .v (Enc.int .i64) a1), (3, .ptr 101 0), (5, .ptr 102 0), (9, .v (Enc.int .i64) x23), (10, .v (Enc.int .i64) x35), (11, .v (Enc.int .i64) x41)], [(101, .box 49 [.v (Enc.sl eBlk) a0.1, .v (Enc.sl (Enc.pr (Enc.int .i64) eBlk)) a0.2.1, .v (Enc.int .i64) a0.2.2]), (102, .box 24 [.v eBlk a2])]⟩) (fun x => k40 x = some r) rfl ?_ ?_ ?_
              · intro x41 h
                rw [hk40] at h
                refine W.seq ?_
                obtain ⟨v42, hv42, h⟩ := bind_e h
                refine W.reg (σ' := ⟨[(1, .v (Enc.int .i64) a1), (3, .ptr 101 0), (5, .ptr 102 0), (9, .v (Enc.int .i64) x23), (10, .v (Enc.int .i64) x35), (11, .v (Enc.int .i64) x41), (12, .ptr 107 0), (13, .v (Enc.err ET) v42.2)], [(101, .box 49 [.v (Enc.sl eBlk) a0.1, .v (Enc.sl (Enc.pr (Enc.int .i64) eBlk)) a0.2.1, .v (Enc.int .i64) a0.2.2]), (102, .box 24 [.v eBlk a2]), (107, .box 24 [.v eBlk v42.1])]⟩) (J.cons (.none rfl) (JO.loadAll rfl rfl (.prm (.one _ _) (.prm (.one _ _) (.one _ _))) Try.isAgg49 Try.sizeOf49) rfl rfl (J.cons (.none rfl) (JO.move rfl) rfl rfl (J.cons (.none rfl) (JO.call0 (con_disk_Read hv42) Try.call61 (.cons (.dir rfl) (.cons (.dir rfl) .nil))) rfl rfl (J.cons (.none rfl) (JO.move rfl) rfl rfl (J.cons (.none rfl) (JO.extract rfl rfl) rfl rfl (J.cons (.none rfl) (JO.extract rfl rfl) rfl rfl (J.cons (.none rfl) (JO.alloc 107 Try.zeroValue24 rfl (.cons (Z.arr 8 (Z.int .u8)) .nil) rfl) rfl rfl (J.mut (.none rfl) (JM.store rfl rfl rfl rfl rfl rfl rfl Try.sizeOf24) (J.cons (.none rfl) (JO.assign rfl) rfl rfl (J.fin (Sw.Sub.mk id (.cons rfl (.of_eq rfl) (.cons rfl (.of_eq rfl) (.cons rfl (.of_eq rfl) (.cons rfl (.of_eq rfl) (.cons rfl (.of_eq rfl) (.cons rfl (.of_eq rfl) (.cons rfl (.of_eq rfl) (.cons rfl (.of_eq rfl) .nil)))))))) (.box rfl (.cons (.of_eq rfl) (.cons (.of_eq rfl) (.cons (.of_eq rfl) .nil))) (.box rfl (.cons (.of_eq rfl) .nil) (.box rfl (.cons (.of_eq rfl) .nil) .nil))) rfl))))))))))) ?_
                refine W.seq ?_
                refine W.reg (σ' := ⟨[(1, .v (Enc.int .i64) a1), (3, .ptr 101 0), (5, .ptr 102 0), (9, .v (Enc.int .i64) x23), (10, .v (Enc.int .i64) x35), (11, .v (Enc.int .i64) x41), (12, .ptr 107 0), (13, .v (Enc.err ET) v42.2), (14, .ptr 108 0)], [(101, .box 49 [.v (Enc.sl eBlk) a0.1, .v (Enc.sl (Enc.pr (Enc.int .i64) eBlk)) a0.2.1, .v (Enc.int .i64) a0.2.2]), (102, .box 24 [.v eBlk a2]), (107, .box 24 [.v eBlk v42.1]), (108, .box 24 [.v eBlk zblk])]⟩) (J.cons (.none rfl) (JO.zeroArr (e := eBlk) (v := zblk) Try.typeInfo24 Try.runUnderlying24 Try.typeInfo5 rfl rfl (Z.arr 8 (Z.int .u8))) rfl rfl (J.cons (.none rfl) (JO.alloc 108 Try.zeroValue24 rfl (.cons (Z.arr 8 (Z.int .u8)) .nil) rfl) rfl rfl (J.mut (.none rfl) (JM.store rfl rfl rfl rfl rfl rfl rfl Try.sizeOf24) (J.fin (Sw.Sub.mk id (.cons rfl (.of_eq rfl) (.cons rfl (.of_eq rfl) (.cons rfl (.of_eq rfl) (.cons rfl (.of_eq rfl) (.cons rfl (.of_eq rfl) (.cons rfl (.of_eq rfl) (.cons rfl (.of_eq rfl) (.cons rfl (.of_eq rfl) (.cons rfl (.of_eq rfl) .nil))))))))) (.box rfl (.cons (.of_eq rfl) (.cons (.of_eq rfl) (.cons (.of_eq rfl) .nil))) (.box rfl (.cons (.of_eq rfl) .nil) (.box rfl (.cons (.of_eq rfl) .nil) (.box rfl (.cons (.of_eq rfl) .nil) .nil)))) rfl))))) ?_
                refine W.seq ?_
                refine W.seq ?_
                refine W.reg (σ' := ⟨[(1, .v (Enc.int .i64) a1), (3, .ptr 101 0), (5, .ptr 102 0), (9, .v (Enc.int .i64) x23), (10, .v (Enc.int .i64) x35), (11, .v (Enc.int .i64) x41), (12, .ptr 107 0), (13, .v (Enc.err ET) v42.2), (14, .ptr 108 0), (95, .v Enc.bool (cm .eql x23 (0 : Int)))], [(101, .box 49 [.v (Enc.sl eBlk) a0.1, .v (Enc.sl (Enc.pr (Enc.int .i64) eBlk)) a0.2.1, .v (Enc.int .i64) a0.2.2]), (102, .box 24 [.v eBlk a2]), (107, .box 24 [.v eBlk v42.1]), (108, .box 24 [.v eBlk zblk])]⟩) (J.cons (.none rfl) (JO.move rfl) rfl rfl (J.cons (.none rfl) (JO.cmp rfl rfl rfl) rfl rfl (J.fin (Sw.Sub.mk id (.cons rfl (.of_eq rfl) (.cons rfl (.of_eq rfl) (.cons rfl (.of_eq rfl) (.cons rfl (.of_eq rfl) (.cons rfl (.of_eq rfl) (.cons rfl (.of_eq rfl) (.cons rfl (.of_eq rfl) (.cons rfl (.of_eq rfl) (.cons rfl (.of_eq rfl) (.cons rfl (.of_eq rfl) .nil)))))))))) (.box rfl (.cons (.of_eq rfl) (.cons (.of_eq rfl) (.cons (.of_eq rfl) .nil))) (.box rfl (.cons (.of_eq rfl) .nil) (.box rfl (.cons (.of_eq rfl) .nil) (.box rfl (.cons (.of_eq rfl) .nil) .nil)))) rfl)))) ?_
                obtain ⟨k66, hk66, h⟩ := jp_elim h
                refine W.jn (fun x67 : Blk => ⟨[(1, .v (Enc.int .i64) a1), (3, .ptr 101 0), (5, .ptr 102 0), (9, .v (Enc.int .i64) x23), (10, .v (Enc.int .i64) x35), (11, .v (Enc.int .i64) x41), (12, .ptr 107 0), (13, .v (Enc.err ET) v42.2), (14, .ptr 108 0)], [(101, .box 49 [.v (Enc.sl eBlk) a0.1, .v (Enc.sl (Enc.pr (Enc.int .i64) eBlk)) a0.2.1, .v (Enc.int .i64) a0.2.2]), (102, .box 24 [.v eBlk a2]), (107, .box 24 [.v eBlk v42.1]), (108, .box 24 [.v eBlk x67])]⟩) (fun x => k66 x = some r) rfl ?_ ?_ ?_
                · intro x67 h
                  rw [hk66] at h
                  refine W.seq ?_
                  refine W.seq ?_
                  obtain ⟨x92, hx, h⟩ := bind_e h
                  refine W.reg (σ' := ⟨[(1, .v (Enc.int .i64) a1), (3, .ptr 101 0), (5, .ptr 102 0), (10, .v (Enc.int .i64) x35), (11, .v (Enc.int .i64) x41), (130, .v Enc.bool x92)], [(101, .box 49 [.v (Enc.sl eBlk) a0.1, .v (Enc.sl (Enc.pr (Enc.int .i64) eBlk)) a0.2.1, .v (Enc.int .i64) a0.2.2]), (102, .box 24 [.v eBlk a2])]⟩) ?_ ?_
                  · obtain ⟨v93, hv93, hx⟩ := bind_e hx
                    rcases Bool.eq_false_or_eq_true (!v93) with hc94 | hc94
                    · replace hx := cond_t hc94 hx
                      obtain rfl := Option.some.inj hx
                      exact (J.cons (.none rfl) (JO.move rfl) rfl rfl (J.cons (.none rfl) (JO.move rfl) rfl rfl (J.cons (.none rfl) (JO.call0 (con_ref_Is hv93) Try.call18 (.cons (.dir rfl) (.cons (.dir rfl) .nil))) rfl rfl (J.cons (.none rfl) (JO.not rfl) rfl rfl (J.cons (.none rfl) (JO.move rfl) rfl rfl (J.left (GK.unmet 126 rfl rfl rfl hc94) rfl (J.left (GK.unmet 126 rfl rfl rfl hc94) rfl (J.left (GK.unmet 126 rfl rfl rfl hc94) rfl (J.cons (.none rfl) (JO.pT hc94 rfl rfl) rfl rfl (J.fin (Sw.Sub.mk id (.cons rfl (.of_eq rfl) (.cons rfl (.of_eq rfl) (.cons rfl (.of_eq rfl) (.cons rfl (.of_eq rfl) (.cons rfl (.of_eq rfl) (.cons rfl (.of_eq rfl) .nil)))))) (.box rfl (.cons (.of_eq rfl) (.cons (.of_eq rfl) (.cons (.of_eq rfl) .nil))) (.box rfl (.cons (.of_eq rfl) .nil) .nil)) rfl)))))))))))
                    · replace hx := cond_f hc94 hx
                      obtain rfl := Option.some.inj hx
                      exact (J.cons (.none rfl) (JO.move rfl) rfl rfl (J.cons (.none rfl) (JO.move rfl) rfl rfl (J.cons (.none rfl) (JO.call0 (con_ref_Is hv93) Try.call18 (.cons (.dir rfl) (.cons (.dir rfl) .nil))) rfl rfl (J.cons (.none rfl) (JO.not rfl) rfl rfl (J.cons (.none rfl) (JO.move rfl) rfl rfl (J.cons (GK.met 126 rfl rfl rfl hc94) (JO.load rfl rfl rfl Try.isAgg24 Try.sizeOf24) rfl rfl (J.cons (GK.met 126 rfl rfl rfl hc94) (JO.load rfl rfl rfl Try.isAgg24 Try.sizeOf24) rfl rfl (J.cons (GK.met 126 rfl rfl rfl hc94) (JO.neV eq24 rfl rfl Try.eqGuardType24 rfl rfl) rfl rfl (J.cons (.none rfl) (JO.pF hc94 rfl rfl) rfl rfl (J.fin (Sw.Sub.mk id (.cons rfl (.of_eq rfl) (.cons rfl (.of_eq rfl) (.cons rfl (.of_eq rfl) (.cons rfl (.of_eq rfl) (.cons rfl (.of_eq rfl) (.cons rfl (.of_eq rfl) .nil)))))) (.box rfl (.cons (.of_eq rfl) (.cons (.of_eq rfl) (.cons (.of_eq rfl) .nil))) (.box rfl (.cons (.of_eq rfl) .nil) .nil)) rfl)))))))))))
                  rcases Bool.eq_false_or_eq_true x92 with hc95 | hc95
                  · replace h := cond_t hc95 h
                    refine W.condT rfl hc95 ?_
                    refine W.seq ?_
                    refine W.reg (σ' := ⟨[(6, .v Enc.bool false)], []⟩) (J.cons (.none rfl) (JO.assign rfl) rfl rfl (J.fin (Sw.Sub.mk id (.cons rfl (.of_eq rfl) .nil) .nil rfl))) ?_
                    refine W.ret ?_
                    obtain rfl := Option.some.inj h
                    exact XQ.sub (σ' := ⟨[(6, .v Enc.bool false)], []⟩) (Sw.Sub.mk id (.cons rfl (.of_eq rfl) .nil) .nil rfl) (XQ.ret1 hF noR rfl (RV.tmp rfl) .nil rfl)
                  · replace h := cond_f hc95 h
                    refine W.condF rfl hc95 ?_
                    refine W.skip ?_
                    refine W.seq ?_
                    refine W.reg (σ' := ⟨[(1, .v (Enc.int .i64) a1), (3, .ptr 101 0), (5, .ptr 102 0), (10, .v (Enc.int .i64) x35), (11, .v (Enc.int .i64) x41), (16, .ptr 112 0)], [(101, .box 49 [.v (Enc.sl eBlk) a0.1, .v (Enc.sl (Enc.pr (Enc.int .i64) eBlk)) a0.2.1, .v (Enc.int .i64) a0.2.2]), (102, .box 24 [.v eBlk a2]), (112, .box 49 [.v (Enc.sl eBlk) ([] : (List Blk)), .ref 111, .v (Enc.int .i64) (0 : Int)]), (111, .arr 85 (Enc.pr (Enc.int .i64) eBlk) ([] : (List (Int × Blk))))]⟩) (J.cons (.none rfl) (JO.buildN (new := [(111, .arr 85 (Enc.pr (Enc.int .i64) eBlk) ([] : (List (Int × Blk))))]) built49 (.cons (Z.sl eBlk) (.ref 111 rfl (.cons (Z.int .i64) .nil))) (.cons .nil) rfl .nil) rfl rfl (J.cons (.none rfl) (JO.allocN (new := [(113, .arr 85 (Enc.pr (Enc.int .i64) eBlk) ([] : (List (Int × Blk))))]) 112 Try.zeroValue49 rfl (.cons (Z.sl eBlk) (.ref 113 rfl (.cons (Z.int .i64) .nil))) (.cons .nil) rfl rfl) rfl rfl (J.mut (.none rfl) (JM.storeAgg rfl rfl rfl rfl rfl rfl Try.sizeOf49) (J.fin (Sw.Sub.mk id (.cons rfl (.of_eq rfl) (.cons rfl (.of_eq rfl) (.cons rfl (.of_eq rfl) (.cons rfl (.of_eq rfl) (.cons rfl (.of_eq rfl) (.cons rfl (.of_eq rfl) .nil)))))) (.box rfl (.cons (.of_eq rfl) (.cons (.of_eq rfl) (.cons (.of_eq rfl) .nil))) (.box rfl (.cons (.of_eq rfl) .nil) (.box rfl (.cons (.of_eq rfl) (.cons (.of_eq rfl) (.cons (.of_eq rfl) .nil))) (.arr rfl .nil)))) rfl))))) ?_
                    refine W.seq ?_
                    refine W.reg (σ' := ⟨[(1, .v (Enc.int .i64) a1), (3, .ptr 101 0), (5, .ptr 102 0), (10, .v (Enc.int .i64) x35), (11, .v (Enc.int .i64) x41), (16, .ptr 112 0), (17, .ptr 115 0)], [(101, .box 49 [.v (Enc.sl eBlk) a0.1, .v (Enc.sl (Enc.pr (Enc.int .i64) eBlk)) a0.2.1, .v (Enc.int .i64) a0.2.2]), (102, .box 24 [.v eBlk a2]), (112, .box 49 [.v (Enc.sl eBlk) ([] : (List Blk)), .ref 111, .v (Enc.int .i64) (0 : Int)]), (115, .box 49 [.v (Enc.sl eBlk) ([] : (List Blk)), .ref 114, .v (Enc.int .i64) (0 : Int)]), (111, .arr 85 (Enc.pr (Enc.int .i64) eBlk) ([] : (List (Int × Blk)))), (114, .arr 85 (Enc.pr (Enc.int .i64) eBlk) ([] : (List (Int × Blk))))]⟩) (J.cons (.none rfl) (JO.buildN (new := [(114, .arr 85 (Enc.pr (Enc.int .i64) eBlk) ([] : (List (Int × Blk))))]) built49 (.cons (Z.sl eBlk) (.ref 114 rfl (.cons (Z.int .i64) .nil))) (.cons .nil) rfl .nil) rfl rfl (J.cons (.none rfl) (JO.allocN (new := [(116, .arr 24 eBlk ([] : (List Blk)))]) 115 Try.zeroValue49 rfl (.ref 116 rfl (.cons (Z.sl (Enc.pr (Enc.int .i64) eBlk)) (.cons (Z.int .i64) .nil))) (.cons .nil) rfl rfl) rfl rfl (J.mut (.none rfl) (JM.storeAgg rfl rfl rfl rfl rfl rfl Try.sizeOf49) (J.fin (Sw.Sub.mk id (.cons rfl (.of_eq rfl) (.cons rfl (.of_eq rfl) (.cons rfl (.of_eq rfl) (.cons rfl (.of_eq rfl) (.cons rfl (.of_eq rfl) (.cons rfl (.of_eq rfl) (.cons rfl (.of_eq rfl) .nil))))))) (.box rfl (.cons (.of_eq rfl) (.cons (.of_eq rfl) (.cons (.of_eq rfl) .nil))) (.box rfl (.cons (.of_eq rfl) .nil) (.box rfl (.cons (.of_eq rfl) (.cons (.of_eq rfl) (.cons (.of_eq rfl) .nil))) (.box rfl (.cons (.of_eq rfl) (.cons (.of_eq rfl) (.cons (.of_eq rfl) .nil))) (.arr rfl (.arr rfl .nil)))))) rfl))))) ?_
                    refine W.seq ?_
                    refine W.seq ?_
                    refine W.reg (σ' := ⟨[(1, .v (Enc.int .i64) a1), (3, .ptr 101 0), (5, .ptr 102 0), (10, .v (Enc.int .i64) x35), (11, .v (Enc.int .i64) x41), (16, .ptr 112 0), (17, .ptr 115 0), (134, .v Enc.bool (cm .eql x35 (0 : Int)))], [(101, .box 49 [.v (Enc.sl eBlk) a0.1, .v (Enc.sl (Enc.pr (Enc.int .i64) eBlk)) a0.2.1, .v (Enc.int .i64) a0.2.2]), (102, .box 24 [.v eBlk a2]), (112, .box 49 [.v (Enc.sl eBlk) ([] : (List Blk)), .ref 111, .v (Enc.int .i64) (0 : Int)]), (115, .box 49 [.v (Enc.sl eBlk) ([] : (List Blk)), .ref 114, .v (Enc.int .i64) (0 : Int)]), (111, .arr 85 (Enc.pr (Enc.int .i64) eBlk) ([] : (List (Int × Blk)))), (114, .arr 85 (Enc.pr (Enc.int .i64) eBlk) ([] : (List (Int × Blk))))]⟩) (J.cons (.none rfl) (JO.move rfl) rfl rfl (J.cons (.none rfl) (JO.cmp rfl rfl rfl) rfl rfl (J.fin (Sw.Sub.mk id (.cons rfl (.of_eq rfl) (.cons rfl (.of_eq rfl) (.cons rfl (.of_eq rfl) (.cons rfl (.of_eq rfl) (.cons rfl (.of_eq rfl) (.cons rfl (.of_eq rfl) (.cons rfl (.of_eq rfl) (.cons rfl (.of_eq rfl) .nil)))))))) (.box rfl (.cons (.of_eq rfl) (.cons (.of_eq rfl) (.cons (.of_eq rfl) .nil))) (.box rfl (.cons (.of_eq rfl) .nil) (.box rfl (.cons (.of_eq rfl) (.cons (.of_eq rfl) (.cons (.of_eq rfl) .nil))) (.box rfl (.cons (.of_eq rfl) (.cons (.of_eq rfl) (.cons (.of_eq rfl) .nil))) (.arr rfl (.arr rfl .nil)))))) rfl)))) ?_
                    obtain ⟨k99, hk99, h⟩ := jp_elim h
                    refine W.jn (fun x100 : (List Blk) × Int × (List (Int × Blk)) => ⟨[(1, .v (Enc.int .i64) a1), (3, .ptr 101 0), (5, .ptr 102 0), (10, .v (Enc.int .i64) x35), (11, .v (Enc.int .i64) x41), (16, .ptr 112 0), (17, .ptr 115 0)], [(101, .box 49 [.v (Enc.sl eBlk) a0.1, .v (Enc.sl (Enc.pr (Enc.int .i64) eBlk)) a0.2.1, .v (Enc.int .i64) a0.2.2]), (102, .box 24 [.v eBlk a2]), (112, .box 49 [.v (Enc.sl eBlk) x100.1, .ref 119, .v (Enc.int .i64) x100.2.1]), (115, .box 49 [.v (Enc.sl eBlk) ([] : (List Blk)), .ref 114, .v (Enc.int .i64) (0 : Int)]), (119, .arr 85 (Enc.pr (Enc.int .i64) eBlk) x100.2.2), (114, .arr 85 (Enc.pr (Enc.int .i64) eBlk) ([] : (List (Int × Blk))))]⟩) (fun x => k99 x = some r) rfl ?_ ?_ ?_
                    · intro x100 h
                      rw [hk99] at h
                      refine W.seq ?_
                      refine W.seq ?_
                      refine W.reg (σ' := ⟨[(1, .v (Enc.int .i64) a1), (3, .ptr 101 0), (5, .ptr 102 0), (10, .v (Enc.int .i64) x35), (11, .v (Enc.int .i64) x41), (16, .ptr 112 0), (17, .ptr 115 0), (146, .v Enc.bool (cm .eql x41 (0 : Int)))], [(101, .box 49 [.v (Enc.sl eBlk) a0.1, .v (Enc.sl (Enc.pr (Enc.int .i64) eBlk)) a0.2.1, .v (Enc.int .i64) a0.2.2]), (102, .box 24 [.v eBlk a2]), (112, .box 49 [.v (Enc.sl eBlk) x100.1, .ref 119, .v (Enc.int .i64) x100.2.1]), (115, .box 49 [.v (Enc.sl eBlk) ([] : (List Blk)), .ref 114, .v (Enc.int .i64) (0 : Int)]), (119, .arr 85 (Enc.pr (Enc.int .i64) eBlk) x100.2.2), (114, .arr 85 (Enc.pr (Enc.int .i64) eBlk) ([] : (List (Int × Blk))))]⟩) (J.cons (.none rfl) (JO.move rfl) rfl rfl (J.cons (.none rfl) (JO.cmp rfl rfl rfl) rfl rfl (J.fin (Sw.Sub.mk id (.cons rfl (.of_eq rfl) (.cons rfl (.of_eq rfl) (.cons rfl (.of_eq rfl) (.cons rfl (.of_eq rfl) (.cons rfl (.of_eq rfl) (.cons rfl (.of_eq rfl) (.cons rfl (.of_eq rfl) (.cons rfl (.of_eq rfl) .nil)))))))) (.box rfl (.cons (.of_eq rfl) (.cons (.of_eq rfl) (.cons (.of_eq rfl) .nil))) (.box rfl (.cons (.of_eq rfl) .nil) (.box rfl (.cons (.of_eq rfl) (.cons (.of_eq rfl) (.cons (.of_eq rfl) .nil))) (.box rfl (.cons (.of_eq rfl) (.cons (.of_eq rfl) (.cons (.of_eq rfl) .nil))) (.arr rfl (.arr rfl .nil)))))) rfl)))) ?_
                      obtain ⟨k126, hk126, h⟩ := jp_elim h
                      refine W.jn (fun x127 : (List Blk) × Int => ⟨[(1, .v (Enc.int .i64) a1), (3, .ptr 101 0), (5, .ptr 102 0), (10, .v (Enc.int .i64) x35), (11, .v (Enc.int .i64) x41), (16, .ptr 112 0), (17, .ptr 115 0)], [(101, .box 49 [.v (Enc.sl eBlk) a0.1, .v (Enc.sl (Enc.pr (Enc.int .i64) eBlk)) a0.2.1, .v (Enc.int .i64) a0.2.2]), (102, .box 24 [.v eBlk a2]), (112, .box 49 [.v (Enc.sl eBlk) x100.1, .ref 119, .v (Enc.int .i64) x100.2.1]), (115, .box 49 [.v (Enc.sl eBlk) x127.1, .v (Enc.sl (Enc.pr (Enc.int .i64) eBlk)) ([] : (List (Int × Blk))), .v (Enc.int .i64) x127.2]), (119, .arr 85 (Enc.pr (Enc.int .i64) eBlk) x100.2.2)]⟩) (fun x => k126 x = some r) rfl ?_ ?_ ?_
                      · intro x127 h
                        rw [hk126] at h
                        refine W.seq ?_
                        refine W.seq ?_
                        obtain ⟨x151, hx, h⟩ := bind_e h
                        refine W.reg (σ' := ⟨[(1, .v (Enc.int .i64) a1), (3, .ptr 101 0), (5, .ptr 102 0), (10, .v (Enc.int .i64) x35), (11, .v (Enc.int .i64) x41), (16, .ptr 112 0), (17, .ptr 115 0), (178, .v Enc.bool x151)], [(101, .box 49 [.v (Enc.sl eBlk) a0.1, .v (Enc.sl (Enc.pr (Enc.int .i64) eBlk)) a0.2.1, .v (Enc.int .i64) a0.2.2]), (102, .box 24 [.v eBlk a2]), (112, .box 49 [.v (Enc.sl eBlk) x100.1, .ref 119, .v (Enc.int .i64) x100.2.1]), (115, .box 49 [.v (Enc.sl eBlk) x127.1, .v (Enc.sl (Enc.pr (Enc.int .i64) eBlk)) ([] : (List (Int × Blk))), .v (Enc.int .i64) x127.2]), (119, .arr 85 (Enc.pr (Enc.int .i64) eBlk) x100.2.2)]⟩) ?_ ?_
                        · rcases Bool.eq_false_or_eq_true (cm .gtr a0.2.2 (0 : Int)) with hc152 | hc152
                          · replace hx := cond_t hc152 hx
                            obtain rfl := Option.some.inj hx
                            exact (J.cons (.none rfl) (JO.fieldPtr 2 rfl Try.runUnderlying49 rfl Try.sizeOf3 rfl rfl) rfl rfl (J.cons (.none rfl) (JO.load rfl rfl rfl Try.isAgg3 Try.sizeOf3) rfl rfl (J.cons (.none rfl) (JO.cmp rfl rfl rfl) rfl rfl (J.cons (.none rfl) (JO.move rfl) rfl rfl (J.cons (GK.met 175 rfl rfl rfl hc152) (JO.move rfl) rfl rfl (J.cons (GK.met 175 rfl rfl rfl hc152) (JO.cmp rfl rfl rfl) rfl rfl (J.cons (.none rfl) (JO.pT hc152 rfl rfl) rfl rfl (J.fin (Sw.Sub.mk id (.cons rfl (.of_eq rfl) (.cons rfl (.of_eq rfl) (.cons rfl (.of_eq rfl) (.cons rfl (.of_eq rfl) (.cons rfl (.of_eq rfl) (.cons rfl (.of_eq rfl) (.cons rfl (.of_eq rfl) (.cons rfl (.of_eq rfl) .nil)))))))) (.box rfl (.cons (.of_eq rfl) (.cons (.of_eq rfl) (.cons (.of_eq rfl) .nil))) (.box rfl (.cons (.of_eq rfl) .nil) (.box rfl (.cons (.of_eq rfl) (.cons (.of_eq rfl) (.cons (.of_eq rfl) .nil))) (.box rfl (.cons (.of_eq rfl) (.cons (.of_eq rfl) (.cons (.of_eq rfl) .nil))) (.arr rfl .nil))))) rfl)))))))))
                          · replace hx := cond_f hc152 hx
                            obtain rfl := Option.some.inj hx
                            exact (J.cons (.none rfl) (JO.fieldPtr 2 rfl Try.runUnderlying49 rfl Try.sizeOf3 rfl rfl) rfl rfl (J.cons (.none rfl) (JO.load rfl rfl rfl Try.isAgg3 Try.sizeOf3) rfl rfl (J.cons (.none rfl) (JO.cmp rfl rfl rfl) rfl rfl (J.cons (.none rfl) (JO.move rfl) rfl rfl (J.left (GK.unmet 175 rfl rfl rfl hc152) rfl (J.left (GK.unmet 175 rfl rfl rfl hc152) rfl (J.cons (.none rfl) (JO.pF hc152 rfl rfl) rfl rfl (J.fin (Sw.Sub.mk id (.cons rfl (.of_eq rfl) (.cons rfl (.of_eq rfl) (.cons rfl (.of_eq rfl) (.cons rfl (.of_eq rfl) (.cons rfl (.of_eq rfl) (.cons rfl (.of_eq rfl) (.cons rfl (.of_eq rfl) (.cons rfl (.of_eq rfl) .nil)))))))) (.box rfl (.cons (.of_eq rfl) (.cons (.of_eq rfl) (.cons (.of_eq rfl) .nil))) (.box rfl (.cons (.of_eq rfl) .nil) (.box rfl (.cons (.of_eq rfl) (.cons (.of_eq rfl) (.cons (.of_eq rfl) .nil))) (.box rfl (.cons (.of_eq rfl) (.cons (.of_eq rfl) (.cons (.of_eq rfl) .nil))) (.arr rfl .nil))))) rfl)))))))))
                        obtain ⟨k154, hk154, h⟩ := jp_elim h
                        refine W.jn (fun x155 : Int => ⟨[(1, .v (Enc.int .i64) a1), (3, .ptr 101 0), (5, .ptr 102 0), (10, .v (Enc.int .i64) x35), (11, .v (Enc.int .i64) x41), (16, .ptr 112 0), (17, .ptr 115 0)], [(101, .box 49 [.v (Enc.sl eBlk) a0.1, .v (Enc.sl (Enc.pr (Enc.int .i64) eBlk)) a0.2.1, .v (Enc.int .i64) a0.2.2]), (102, .box 24 [.v eBlk a2]), (112, .box 49 [.v (Enc.sl eBlk) x100.1, .ref 119, .v (Enc.int .i64) x155]), (115, .box 49 [.v (Enc.sl eBlk) x127.1, .v (Enc.sl (Enc.pr (Enc.int .i64) eBlk)) ([] : (List (Int × Blk))), .v (Enc.int .i64) x127.2]), (119, .arr 85 (Enc.pr (Enc.int .i64) eBlk) x100.2.2)]⟩) (fun x => k154 x = some r) rfl ?_ ?_ ?_
                        · intro x155 h
                          rw [hk154] at h
                          refine W.seq ?_
                          refine W.seq ?_
                          obtain ⟨x157, hx, h⟩ := bind_e h
                          refine W.reg (σ' := ⟨[(1, .v (Enc.int .i64) a1), (3, .ptr 101 0), (5, .ptr 102 0), (10, .v (Enc.int .i64) x35), (11, .v (Enc.int .i64) x41), (16, .ptr 112 0), (17, .ptr 115 0), (189, .v Enc.bool x157)], [(101, .box 49 [.v (Enc.sl eBlk) a0.1, .v (Enc.sl (Enc.pr (Enc.int .i64) eBlk)) a0.2.1, .v (Enc.int .i64) a0.2.2]), (102, .box 24 [.v eBlk a2]), (112, .box 49 [.v (Enc.sl eBlk) x100.1, .ref 119, .v (Enc.int .i64) x155]), (115, .box 49 [.v (Enc.sl eBlk) x127.1, .v (Enc.sl (Enc.pr (Enc.int .i64) eBlk)) ([] : (List (Int × Blk))), .v (Enc.int .i64) x127.2]), (119, .arr 85 (Enc.pr (Enc.int .i64) eBlk) x100.2.2)]⟩) ?_ ?_
                          · rcases Bool.eq_false_or_eq_true (cm .gtr a0.2.2 (0 : Int)) with hc158 | hc158
                            · replace hx := cond_t hc158 hx
                              obtain rfl := Option.some.inj hx
                              exact (J.cons (.none rfl) (JO.fieldPtr 2 rfl Try.runUnderlying49 rfl Try.sizeOf3 rfl rfl) rfl rfl (J.cons (.none rfl) (JO.load rfl rfl rfl Try.isAgg3 Try.sizeOf3) rfl rfl (J.cons (.none rfl) (JO.cmp rfl rfl rfl) rfl rfl (J.cons (.none rfl) (JO.move rfl) rfl rfl (J.cons (GK.met 186 rfl rfl rfl hc158) (JO.move rfl) rfl rfl (J.cons (GK.met 186 rfl rfl rfl hc158) (JO.cmp rfl rfl rfl) rfl rfl (J.cons (.none rfl) (JO.pT hc158 rfl rfl) rfl rfl (J.fin (Sw.Sub.mk id (.cons rfl (.of_eq rfl) (.cons rfl (.of_eq rfl) (.cons rfl (.of_eq rfl) (.cons rfl (.of_eq rfl) (.cons rfl (.of_eq rfl) (.cons rfl (.of_eq rfl) (.cons rfl (.of_eq rfl) (.cons rfl (.of_eq rfl) .nil)))))))) (.box rfl (.cons (.of_eq rfl) (.cons (.of_eq rfl) (.cons (.of_eq rfl) .nil))) (.box rfl (.cons (.of_eq rfl) .nil) (.box rfl (.cons (.of_eq rfl) (.cons (.of_eq rfl) (.cons (.of_eq rfl) .nil))) (.box rfl (.cons (.of_eq rfl) (.cons (.of_eq rfl) (.cons (.of_eq rfl) .nil))) (.arr rfl .nil))))) rfl)))))))))
                            · replace hx := cond_f hc158 hx
                              obtain rfl := Option.some.inj hx
                              exact (J.cons (.none rfl) (JO.fieldPtr 2 rfl Try.runUnderlying49 rfl Try.sizeOf3 rfl rfl) rfl rfl (J.cons (.none rfl) (JO.load rfl rfl rfl Try.isAgg3 Try.sizeOf3) rfl rfl (J.cons (.none rfl) (JO.cmp rfl rfl rfl) rfl rfl (J.cons (.none rfl) (JO.move rfl) rfl rfl (J.left (GK.unmet 186 rfl rfl rfl hc158) rfl (J.left (GK.unmet 186 rfl rfl rfl hc158) rfl (J.cons (.none rfl) (JO.pF hc158 rfl rfl) rfl rfl (J.fin (Sw.Sub.mk id (.cons rfl (.of_eq rfl) (.cons rfl (.of_eq rfl) (.cons rfl (.of_eq rfl) (.cons rfl (.of_eq rfl) (.cons rfl (.of_eq rfl) (.cons rfl (.of_eq rfl) (.cons rfl (.of_eq rfl) (.cons rfl (.of_eq rfl) .nil)))))))) (.box rfl (.cons (.of_eq rfl) (.cons (.of_eq rfl) (.cons (.of_eq rfl) .nil))) (.box rfl (.cons (.of_eq rfl) .nil) (.box rfl (.cons (.of_eq rfl) (.cons (.of_eq rfl) (.cons (.of_eq rfl) .nil))) (.box rfl (.cons (.of_eq rfl) (.cons (.of_eq rfl) (.cons (.of_eq rfl) .nil))) (.arr rfl .nil))))) rfl)))))))))
                          obtain ⟨k160, hk160, h⟩ := jp_elim h
                          refine W.jn (fun x161 : Int => ⟨[(1, .v (Enc.int .i64) a1), (3, .ptr 101 0), (5, .ptr 102 0), (10, .v (Enc.int .i64) x35), (11, .v (Enc.int .i64) x41), (16, .ptr 112 0), (17, .ptr 115 0)], [(101, .box 49 [.v (Enc.sl eBlk) a0.1, .v (Enc.sl (Enc.pr (Enc.int .i64) eBlk)) a0.2.1, .v (Enc.int .i64) a0.2.2]), (102, .box 24 [.v eBlk a2]), (112, .box 49 [.v (Enc.sl eBlk) x100.1, .ref 119, .v (Enc.int .i64) x155]), (115, .box 49 [.v (Enc.sl eBlk) x127.1, .v (Enc.sl (Enc.pr (Enc.int .i64) eBlk)) ([] : (List (Int × Blk))), .v (Enc.int .i64) x161]), (119, .arr 85 (Enc.pr (Enc.int .i64) eBlk) x100.2.2)]⟩) (fun x => k160 x = some r) rfl ?_ ?_ ?_
                          · intro x161 h
                            rw [hk160] at h
                            refine W.seq ?_
                            obtain ⟨v162, hv162, h⟩ := bind_e h
                            refine W.reg (σ' := ⟨[(3, .ptr 101 0), (10, .v (Enc.int .i64) x35), (11, .v (Enc.int .i64) x41), (16, .ptr 112 0), (17, .ptr 115 0), (19, .ptr 125 0), (20, .v (Enc.err ET) v162.2)], [(101, .box 49 [.v (Enc.sl eBlk) a0.1, .v (Enc.sl (Enc.pr (Enc.int .i64) eBlk)) a0.2.1, .v (Enc.int .i64) a0.2.2]), (112, .box 49 [.v (Enc.sl eBlk) x100.1, .ref 119, .v (Enc.int .i64) x155]), (115, .box 49 [.v (Enc.sl eBlk) x127.1, .v (Enc.sl (Enc.pr (Enc.int .i64) eBlk)) ([] : (List (Int × Blk))), .v (Enc.int .i64) x161]), (125, .box 49 [.v (Enc.sl eBlk) v162.1.1, .v (Enc.sl (Enc.pr (Enc.int .i64) eBlk)) v162.1.2.1, .v (Enc.int .i64) v162.1.2.2]), (119, .arr 85 (Enc.pr (Enc.int .i64) eBlk) x100.2.2)]⟩) (J.cons (.none rfl) (JO.loadAll rfl rfl (.prm (.one _ _) (.prm (.one _ _) (.one _ _))) Try.isAgg49 Try.sizeOf49) rfl rfl (J.cons (.none rfl) (JO.move rfl) rfl rfl (J.cons (.none rfl) (JO.load rfl rfl rfl Try.isAgg24 Try.sizeOf24) rfl rfl (J.cons (.none rfl) (JO.call0 (con_disk_Write hv162) Try.call63 (.cons (.dir rfl) (.cons (.dir rfl) (.cons (.dir rfl) .nil)))) rfl rfl (J.cons (.none rfl) (JO.move rfl) rfl rfl (J.cons (.none rfl) (JO.extract rfl rfl) rfl rfl (J.cons (.none rfl) (JO.extract rfl rfl) rfl rfl (J.cons (.none rfl) (JO.alloc 125 Try.zeroValue49 rfl (.cons (Z.sl eBlk) (.cons (Z.sl (Enc.pr (Enc.int .i64) eBlk)) (.cons (Z.int .i64) .nil))) rfl) rfl rfl (J.mut (.none rfl) (JM.storeAll rfl rfl rfl rfl (.prm (.one _ _) (.prm (.one _ _) (.one _ _))) Try.sizeOf49) (J.cons (.none rfl) (JO.assign rfl) rfl rfl (J.fin (Sw.Sub.mk id (.cons rfl (.of_eq rfl) (.cons rfl (.of_eq rfl) (.cons rfl (.of_eq rfl) (.cons rfl (.of_eq rfl) (.cons rfl (.of_eq rfl) (.cons rfl (.of_eq rfl) (.cons rfl (.of_eq rfl) .nil))))))) (.box rfl (.cons (.of_eq rfl) (.cons (.of_eq rfl) (.cons (.of_eq rfl) .nil))) (.box rfl (.cons (.of_eq rfl) (.cons (.of_eq rfl) (.cons (.of_eq rfl) .nil))) (.box rfl (.cons (.of_eq rfl) (.cons (.of_eq rfl) (.cons (.of_eq rfl) .nil))) (.box rfl (.cons (.of_eq rfl) (.cons (.of_eq rfl) (.cons (.of_eq rfl) .nil))) (.arr rfl .nil))))) rfl)))))))))))) ?_
                            refine W.seq ?_
                            obtain ⟨v163, hv163, h⟩ := bind_e h
                            refine W.reg (σ' := ⟨[(10, .v (Enc.int .i64) x35), (11, .v (Enc.int .i64) x41), (16, .ptr 112 0), (17, .ptr 115 0), (19, .ptr 125 0), (20, .v (Enc.err ET) v162.2), (21, .ptr 127 0), (22, .v (Enc.err ET) v163.2)], [(112, .box 49 [.v (Enc.sl eBlk) x100.1, .ref 119, .v (Enc.int .i64) x155]), (115, .box 49 [.v (Enc.sl eBlk) x127.1, .v (Enc.sl (Enc.pr (Enc.int .i64) eBlk)) ([] : (List (Int × Blk))), .v (Enc.int .i64) x161]), (125, .box 49 [.v (Enc.sl eBlk) v162.1.1, .v (Enc.sl (Enc.pr (Enc.int .i64) eBlk)) v162.1.2.1, .v (Enc.int .i64) v162.1.2.2]), (127, .box 49 [.v (Enc.sl eBlk) v163.1.1, .v (Enc.sl (Enc.pr (Enc.int .i64) eBlk)) v163.1.2.1, .v (Enc.int .i64) v163.1.2.2]), (119, .arr 85 (Enc.pr (Enc.int .i64) eBlk) x100.2.2)]⟩) (J.cons (.none rfl) (JO.loadAll rfl rfl (.prm (.one _ _) (.prm (.one _ _) (.one _ _))) Try.isAgg49 Try.sizeOf49) rfl rfl (J.cons (.none rfl) (JO.call0 (con_disk_Flush hv163) Try.call64 (.cons (.dir rfl) .nil)) rfl rfl (J.cons (.none rfl) (JO.move rfl) rfl rfl (J.cons (.none rfl) (JO.extract rfl rfl) rfl rfl (J.cons (.none rfl) (JO.extract rfl rfl) rfl rfl (J.cons (.none rfl) (JO.alloc 127 Try.zeroValue49 rfl (.cons (Z.sl eBlk) (.cons (Z.sl (Enc.pr (Enc.int .i64) eBlk)) (.cons (Z.int .i64) .nil))) rfl) rfl rfl (J.mut (.none rfl) (JM.storeAll rfl rfl rfl rfl (.prm (.one _ _) (.prm (.one _ _) (.one _ _))) Try.sizeOf49) (J.cons (.none rfl) (JO.assign rfl) rfl rfl (J.fin (Sw.Sub.mk id (.cons rfl (.of_eq rfl) (.cons rfl (.of_eq rfl) (.cons rfl (.of_eq rfl) (.cons rfl (.of_eq rfl) (.cons rfl (.of_eq rfl) (.cons rfl (.of_eq rfl) (.cons rfl (.of_eq rfl) (.cons rfl (.of_eq rfl) .nil)))))))) (.box rfl (.cons (.of_eq rfl) (.cons (.of_eq rfl) (.cons (.of_eq rfl) .nil))) (.box rfl (.cons (.of_eq rfl) (.cons (.of_eq rfl) (.cons (.of_eq rfl) .nil))) (.box rfl (.cons (.of_eq rfl) (.cons (.of_eq rfl) (.cons (.of_eq rfl) .nil))) (.box rfl (.cons (.of_eq rfl) (.cons (.of_eq rfl) (.cons (.of_eq rfl) .nil))) (.arr rfl .nil))))) rfl)))))))))) ?_
                            refine W.seq ?_
                            obtain ⟨x171, hx, h⟩ := bind_e h
                            refine W.reg (σ' := ⟨[(6, .v Enc.bool x171)], []⟩) ?_ ?_
                            · obtain ⟨v172, hv172, hx⟩ := bind_e hx
                              rcases Bool.eq_false_or_eq_true v172 with hc173 | hc173
                              · replace hx := cond_t hc173 hx
                                obtain ⟨v174, hv174, hx⟩ := bind_e hx
                                rcases Bool.eq_false_or_eq_true v174 with hc175 | hc175
                                · replace hx := cond_t hc175 hx
                                  obtain ⟨v176, hv176, hx⟩ := bind_e hx
                                  rcases Bool.eq_false_or_eq_true v176 with hc177 | hc177
                                  · replace hx := cond_t hc177 hx
                                    obtain ⟨v178, hv178, hx⟩ := bind_e hx
                                    obtain rfl := Option.some.inj hx
                                    exact (J.cons (.none rfl) (JO.move rfl) rfl rfl (J.cons (.none rfl) (JO.move rfl) rfl rfl (J.cons (.none rfl) (JO.call0 (con_ref_Is hv172) Try.call18 (.cons (.dir rfl) (.cons (.dir rfl) .nil))) rfl rfl (J.cons (.none rfl) (JO.move rfl) rfl rfl (J.cons (GK.met 209 rfl rfl rfl hc173) (JO.move rfl) rfl rfl (J.cons (GK.met 209 rfl rfl rfl hc173) (JO.move rfl) rfl rfl (J.cons (GK.met 209 rfl rfl rfl hc173) (JO.call0 (con_ref_Is hv174) Try.call18 (.cons (.dir rfl) (.cons (.dir rfl) .nil))) rfl rfl (J.cons (.none rfl) (JO.pT hc173 rfl rfl) rfl rfl (J.cons (.none rfl) (JO.move rfl) rfl rfl (J.cons (GK.met 214 rfl rfl rfl hc175) (JO.loadAll rfl rfl (.prm (.one _ _) (.prm (.one _ _) (.one _ _))) Try.isAgg49 Try.sizeOf49) rfl rfl (J.cons (GK.met 214 rfl rfl rfl hc175) (JO.loadAgg rfl rfl rfl Try.isAgg49 Try.sizeOf49) rfl rfl (J.cons (GK.met 214 rfl rfl rfl hc175) (JO.callL0 (con_ref_SameDisk hv176) Try.call29 (.cons (.dir rfl) (.cons (.agg rfl (.same (.ref rfl rfl (.same .nil))) (.prm (.one _ _) (.prm (.one _ _) (.one _ _))) rfl) .nil)) FlatS.v) rfl rfl (J.cons (.none rfl) (JO.pT hc175 rfl rfl) rfl rfl (J.cons (.none rfl) (JO.move rfl) rfl rfl (J.cons (GK.met 219 rfl rfl rfl hc177) (JO.loadAll rfl rfl (.prm (.one _ _) (.prm (.one _ _) (.one _ _))) Try.isAgg49 Try.sizeOf49) rfl rfl (J.cons (GK.met 219 rfl rfl rfl hc177) (JO.loadAll rfl rfl (.prm (.one _ _) (.prm (.one _ _) (.one _ _))) Try.isAgg49 Try.sizeOf49) rfl rfl (J.cons (GK.met 219 rfl rfl rfl hc177) (JO.call0 (con_ref_SameDisk hv178) Try.call29 (.cons (.dir rfl) (.cons (.dir rfl) .nil))) rfl rfl (J.cons (.none rfl) (JO.pT hc177 rfl rfl) rfl rfl (J.cons (.none rfl) (JO.assign rfl) rfl rfl (J.fin (Sw.Sub.mk id (.cons rfl (.of_eq rfl) .nil) .nil rfl)))))))))))))))))))))
                                  · replace hx := cond_f hc177 hx
                                    obtain rfl := Option.some.inj hx
                                    exact (J.cons (.none rfl) (JO.move rfl) rfl rfl (J.cons (.none rfl) (JO.move rfl) rfl rfl (J.cons (.none rfl) (JO.call0 (con_ref_Is hv172) Try.call18 (.cons (.dir rfl) (.cons (.dir rfl) .nil))) rfl rfl (J.cons (.none rfl) (JO.move rfl) rfl rfl (J.cons (GK.met 209 rfl rfl rfl hc173) (JO.move rfl) rfl rfl (J.cons (GK.met 209 rfl rfl rfl hc173) (JO.move rfl) rfl rfl (J.cons (GK.met 209 rfl rfl rfl hc173) (JO.call0 (con_ref_Is hv174) Try.call18 (.cons (.dir rfl) (.cons (.dir rfl) .nil))) rfl rfl (J.cons (.none rfl) (JO.pT hc173 rfl rfl) rfl rfl (J.cons (.none rfl) (JO.move rfl) rfl rfl (J.cons (GK.met 214 rfl rfl rfl hc175) (JO.loadAll rfl rfl (.prm (.one _ _) (.prm (.one _ _) (.one _ _))) Try.isAgg49 Try.sizeOf49) rfl rfl (J.cons (GK.met 214 rfl rfl rfl hc175) (JO.loadAgg rfl rfl rfl Try.isAgg49 Try.sizeOf49) rfl rfl (J.cons (GK.met 214 rfl rfl rfl hc175) (JO.callL0 (con_ref_SameDisk hv176) Try.call29 (.cons (.dir rfl) (.cons (.agg rfl (.same (.ref rfl rfl (.same .nil))) (.prm (.one _ _) (.prm (.one _ _) (.one _ _))) rfl) .nil)) FlatS.v) rfl rfl (J.cons (.none rfl) (JO.pT hc175 rfl rfl) rfl rfl (J.cons (.none rfl) (JO.move rfl) rfl rfl (J.left (GK.unmet 219 rfl rfl rfl hc177) rfl (J.left (GK.unmet 219 rfl rfl rfl hc177) rfl (J.left (GK.unmet 219 rfl rfl rfl hc177) rfl (J.cons (.none rfl) (JO.pF hc177 rfl rfl) rfl rfl (J.cons (.none rfl) (JO.assign rfl) rfl rfl (J.fin (Sw.Sub.mk id (.cons rfl (.of_eq rfl) .nil) .nil rfl)))))))))))))))))))))
                                · replace hx := cond_f hc175 hx
                                  obtain rfl := Option.some.inj hx
                                  exact (J.cons (.none rfl) (JO.move rfl) rfl rfl (J.cons (.none rfl) (JO.move rfl) rfl rfl (J.cons (.none rfl) (JO.call0 (con_ref_Is hv172) Try.call18 (.cons (.dir rfl) (.cons (.dir rfl) .nil))) rfl rfl (J.cons (.none rfl) (JO.move rfl) rfl rfl (J.cons (GK.met 209 rfl rfl rfl hc173) (JO.move rfl) rfl rfl (J.cons (GK.met 209 rfl rfl rfl hc173) (JO.move rfl) rfl rfl (J.cons (GK.met 209 rfl rfl rfl hc173) (JO.call0 (con_ref_Is hv174) Try.call18 (.cons (.dir rfl) (.cons (.dir rfl) .nil))) rfl rfl (J.cons (.none rfl) (JO.pT hc173 rfl rfl) rfl rfl (J.cons (.none rfl) (JO.move rfl) rfl rfl (J.left (GK.unmet 214 rfl rfl rfl hc175) rfl (J.left (GK.unmet 214 rfl rfl rfl hc175) rfl (J.left (GK.unmet 214 rfl rfl rfl hc175) rfl (J.cons (.none rfl) (JO.pF hc175 rfl rfl) rfl rfl (J.cons (.none rfl) (JO.move rfl) rfl rfl (J.left (GK.unmet 219 rfl rfl rfl rfl) rfl (J.left (GK.unmet 219 rfl rfl rfl rfl) rfl (J.left (GK.unmet 219 rfl rfl rfl rfl) rfl (J.cons (.none rfl) (JO.pF rfl rfl rfl) rfl rfl (J.cons (.none rfl) (JO.assign rfl) rfl rfl (J.fin (Sw.Sub.mk id (.cons rfl (.of_eq rfl) .nil) .nil rfl)))))))))))))))))))))
                              · replace hx := cond_f hc173 hx
                                obtain rfl := Option.some.inj hx
                                exact (J.cons (.none rfl) (JO.move rfl) rfl rfl (J.cons (.none rfl) (JO.move rfl) rfl rfl (J.cons (.none rfl) (JO.call0 (con_ref_Is hv172) Try.call18 (.cons (.dir rfl) (.cons (.dir rfl) .nil))) rfl rfl (J.cons (.none rfl) (JO.move rfl) rfl rfl (J.left (GK.unmet 209 rfl rfl rfl hc173) rfl (J.left (GK.unmet 209 rfl rfl rfl hc173) rfl (J.left (GK.unmet 209 rfl rfl rfl hc173) rfl (J.cons (.none rfl) (JO.pF hc173 rfl rfl) rfl rfl (J.cons (.none rfl) (JO.move rfl) rfl rfl (J.left (GK.unmet 214 rfl rfl rfl rfl) rfl (J.left (GK.unmet 214 rfl rfl rfl rfl) rfl (J.left (GK.unmet 214 rfl rfl rfl rfl) rfl (J.cons (.none rfl) (JO.pF rfl rfl rfl) rfl rfl (J.cons (.none rfl) (JO.move rfl) rfl rfl (J.left (GK.unmet 219 rfl rfl rfl rfl) rfl (J.left (GK.unmet 219 rfl rfl rfl rfl) rfl (J.left (GK.unmet 219 rfl rfl rfl rfl) rfl (J.cons (.none rfl) (JO.pF rfl rfl rfl) rfl rfl (J.cons (.none rfl) (JO.assign rfl) rfl rfl (J.fin (Sw.Sub.mk id (.cons rfl (.of_eq rfl) .nil) .nil rfl)))))))))))))))))))))
                            refine W.ret ?_
                            obtain rfl := Option.some.inj h
                            exact XQ.sub (σ' := ⟨[(6, .v Enc.bool x171)], []⟩) (Sw.Sub.mk id (.cons rfl (.of_eq rfl) .nil) .nil rfl) (XQ.ret1 hF noR rfl (RV.tmp rfl) .nil rfl)
                          · intro hc159
                            replace h := cond_t hc159 h
                            refine W.reg (σ' := ⟨[(1, .v (Enc.int .i64) a1), (3, .ptr 101 0), (5, .ptr 102 0), (10, .v (Enc.int .i64) x35), (11, .v (Enc.int .i64) x41), (16, .ptr 112 0), (17, .ptr 115 0)], [(101, .box 49 [.v (Enc.sl eBlk) a0.1, .v (Enc.sl (Enc.pr (Enc.int .i64) eBlk)) a0.2.1, .v (Enc.int .i64) a0.2.2]), (102, .box 24 [.v eBlk a2]), (112, .box 49 [.v (Enc.sl eBlk) x100.1, .ref 119, .v (Enc.int .i64) x155]), (115, .box 49 [.v (Enc.sl eBlk) x127.1, .v (Enc.sl (Enc.pr (Enc.int .i64) eBlk)) ([] : (List (Int × Blk))), .v (Enc.int .i64) (ar .sub .i64 x127.2 (1 : Int))]), (119, .arr 85 (Enc.pr (Enc.int .i64) eBlk) x100.2.2)]⟩) (J.cons (.none rfl) (JO.fieldPtr 2 rfl Try.runUnderlying49 rfl Try.sizeOf3 rfl rfl) rfl rfl (J.cons (.none rfl) (JO.load rfl rfl rfl Try.isAgg3 Try.sizeOf3) rfl rfl (J.cons (.none rfl) (JO.arith rfl rfl rfl) rfl rfl (J.cons (.none rfl) (JO.fieldPtr 2 rfl Try.runUnderlying49 rfl Try.sizeOf3 rfl rfl) rfl rfl (J.mut (.none rfl) (JM.store rfl rfl rfl rfl rfl rfl rfl Try.sizeOf3) (J.fin (Sw.Sub.mk id (.cons rfl (.of_eq rfl) (.cons rfl (.of_eq rfl) (.cons rfl (.of_eq rfl) (.cons rfl (.of_eq rfl) (.cons rfl (.of_eq rfl) (.cons rfl (.of_eq rfl) (.cons rfl (.of_eq rfl) .nil))))))) (.box rfl (.cons (.of_eq rfl) (.cons (.of_eq rfl) (.cons (.of_eq rfl) .nil))) (.box rfl (.cons (.of_eq rfl) .nil) (.box rfl (.cons (.of_eq rfl) (.cons (.of_eq rfl) (.cons (.of_eq rfl) .nil))) (.box rfl (.cons (.of_eq rfl) (.cons (.of_eq rfl) (.cons (.of_eq rfl) .nil))) (.arr rfl .nil))))) rfl))))))) ?_
                            exact W.jfall h (Sw.Sub.mk id (.cons rfl (.of_eq rfl) (.cons rfl (.of_eq rfl) (.cons rfl (.of_eq rfl) (.cons rfl (.of_eq rfl) (.cons rfl (.of_eq rfl) (.cons rfl (.of_eq rfl) (.cons rfl (.of_eq rfl) .nil))))))) (.box rfl (.cons (.of_eq rfl) (.cons (.of_eq rfl) (.cons (.of_eq rfl) .nil))) (.box rfl (.cons (.of_eq rfl) .nil) (.box rfl (.cons (.of_eq rfl) (.cons (.of_eq rfl) (.cons (.of_eq rfl) .nil))) (.box rfl (.cons (.of_eq rfl) (.cons (.of_eq rfl) (.cons (.of_eq rfl) .nil))) (.arr rfl .nil))))) rfl)
                          · intro hc159
                            replace h := cond_f hc159 h
                            refine W.skip ?_
                            exact W.jfall h (Sw.Sub.mk id (.cons rfl (.of_eq rfl) (.cons rfl (.of_eq rfl) (.cons rfl (.of_eq rfl) (.cons rfl (.of_eq rfl) (.cons rfl (.of_eq rfl) (.cons rfl (.of_eq rfl) (.cons rfl (.of_eq rfl) .nil))))))) (.box rfl (.cons (.of_eq rfl) (.cons (.of_eq rfl) (.cons (.of_eq rfl) .nil))) (.box rfl (.cons (.of_eq rfl) .nil) (.box rfl (.cons (.of_eq rfl) (.cons (.of_eq rfl) (.cons (.of_eq rfl) .nil))) (.box rfl (.cons (.of_eq rfl) (.cons (.of_eq rfl) (.cons (.of_eq rfl) .nil))) (.arr rfl .nil))))) rfl)
                        · intro hc153
                          replace h := cond_t hc153 h
                          refine W.reg (σ' := ⟨[(1, .v (Enc.int .i64) a1), (3, .ptr 101 0), (5, .ptr 102 0), (10, .v (Enc.int .i64) x35), (11, .v (Enc.int .i64) x41), (16, .ptr 112 0), (17, .ptr 115 0)], [(101, .box 49 [.v (Enc.sl eBlk) a0.1, .v (Enc.sl (Enc.pr (Enc.int .i64) eBlk)) a0.2.1, .v (Enc.int .i64) a0.2.2]), (102, .box 24 [.v eBlk a2]), (112, .box 49 [.v (Enc.sl eBlk) x100.1, .ref 119, .v (Enc.int .i64) (ar .sub .i64 x100.2.1 (1 : Int))]), (115, .box 49 [.v (Enc.sl eBlk) x127.1, .v (Enc.sl (Enc.pr (Enc.int .i64) eBlk)) ([] : (List (Int × Blk))), .v (Enc.int .i64) x127.2]), (119, .arr 85 (Enc.pr (Enc.int .i64) eBlk) x100.2.2)]⟩) (J.cons (.none rfl) (JO.fieldPtr 2 rfl Try.runUnderlying49 rfl Try.sizeOf3 rfl rfl) rfl rfl (J.cons (.none rfl) (JO.load rfl rfl rfl Try.isAgg3 Try.sizeOf3) rfl rfl (J.cons (.none rfl) (JO.arith rfl rfl rfl) rfl rfl (J.cons (.none rfl) (JO.fieldPtr 2 rfl Try.runUnderlying49 rfl Try.sizeOf3 rfl rfl) rfl rfl (J.mut (.none rfl) (JM.store rfl rfl rfl rfl rfl rfl rfl Try.sizeOf3) (J.fin (Sw.Sub.mk id (.cons rfl (.of_eq rfl) (.cons rfl (.of_eq rfl) (.cons rfl (.of_eq rfl) (.cons rfl (.of_eq rfl) (.cons rfl (.of_eq rfl) (.cons rfl (.of_eq rfl) (.cons rfl (.of_eq rfl) .nil))))))) (.box rfl (.cons (.of_eq rfl) (.cons (.of_eq rfl) (.cons (.of_eq rfl) .nil))) (.box rfl (.cons (.of_eq rfl) .nil) (.box rfl (.cons (.of_eq rfl) (.cons (.of_eq rfl) (.cons (.of_eq rfl) .nil))) (.box rfl (.cons (.of_eq rfl) (.cons (.of_eq rfl) (.cons (.of_eq rfl) .nil))) (.arr rfl .nil))))) rfl))))))) ?_
                          exact W.jfall h (Sw.Sub.mk id (.cons rfl (.of_eq rfl) (.cons rfl (.of_eq rfl) (.cons rfl (.of_eq rfl) (.cons rfl (.of_eq rfl) (.cons rfl (.of_eq rfl) (.cons rfl (.of_eq rfl) (.cons rfl (.of_eq rfl) .nil))))))) (.box rfl (.cons (.of_eq rfl) (.cons (.of_eq rfl) (.cons (.of_eq rfl) .nil))) (.box rfl (.cons (.of_eq rfl) .nil) (.box rfl (.cons (.of_eq rfl) (.cons (.of_eq rfl) (.cons (.of_eq rfl) .nil))) (.box rfl (.cons (.of_eq rfl) (.cons (.of_eq rfl) (.cons (.of_eq rfl) .nil))) (.arr rfl .nil))))) rfl)
                        · intro hc153
                          replace h := cond_f hc153 h
                          refine W.skip ?_
                          exact W.jfall h (Sw.Sub.mk id (.cons rfl (.of_eq rfl) (.cons rfl (.of_eq rfl) (.cons rfl (.of_eq rfl) (.cons rfl (.of_eq rfl) (.cons rfl (.of_eq rfl) (.cons rfl (.of_eq rfl) (.cons rfl (.of_eq rfl) .nil))))))) (.box rfl (.cons (.of_eq rfl) (.cons (.of_eq rfl) (.cons (.of_eq rfl) .nil))) (.box rfl (.cons (.of_eq rfl) .nil) (.box rfl (.cons (.of_eq rfl) (.cons (.of_eq rfl) (.cons (.of_eq rfl) .nil))) (.box rfl (.cons (.of_eq rfl) (.cons (.of_eq rfl) (.cons (.of_eq rfl) .nil))) (.arr rfl .nil))))) rfl)
                      · intro hc103
                        replace h := cond_t hc103 h
                        refine W.seq ?_
                        obtain ⟨v128, hv128, h⟩ := bind_e h
                        refine W.reg (σ' := ⟨[(1, .v (Enc.int .i64) a1), (3, .ptr 101 0), (5, .ptr 102 0), (10, .v (Enc.int .i64) x35), (11, .v (Enc.int .i64) x41), (16, .ptr 112 0), (17, .ptr 115 0)], [(101, .box 49 [.v (Enc.sl eBlk) a0.1, .v (Enc.sl (Enc.pr (Enc.int .i64) eBlk)) a0.2.1, .v (Enc.int .i64) a0.2.2]), (102, .box 24 [.v eBlk a2]), (112, .box 49 [.v (Enc.sl eBlk) x100.1, .ref 119, .v (Enc.int .i64) x100.2.1]), (115, .box 49 [.ref 123000, .ref 123001, .v (Enc.int .i64) v128.2.2]), (119, .arr 85 (Enc.pr (Enc.int .i64) eBlk) x100.2.2), (123000, .arr 24 eBlk v128.1), (123001, .arr 85 (Enc.pr (Enc.int .i64) eBlk) v128.2.1)]⟩) (J.cons (.none rfl) (JO.loadAll rfl rfl (.prm (.one _ _) (.prm (.one _ _) (.one _ _))) Try.isAgg49 Try.sizeOf49) rfl rfl (J.cons (.none rfl) (JO.call 123000 (con_ref_OwnDisk hz hv128) Try.call62 (.cons (.dir rfl) .nil) rfl) rfl rfl (J.mut (.none rfl) (JM.storeAgg rfl rfl rfl rfl rfl rfl Try.sizeOf49) (J.fin (Sw.Sub.mk id (.cons rfl (.of_eq rfl) (.cons rfl (.of_eq rfl) (.cons rfl (.of_eq rfl) (.cons rfl (.of_eq rfl) (.cons rfl (.of_eq rfl) (.cons rfl (.of_eq rfl) (.cons rfl (.of_eq rfl) .nil))))))) (.box rfl (.cons (.of_eq rfl) (.cons (.of_eq rfl) (.cons (.of_eq rfl) .nil))) (.box rfl (.cons (.of_eq rfl) .nil) (.box rfl (.cons (.of_eq rfl) (.cons (.of_eq rfl) (.cons (.of_eq rfl) .nil))) (.box rfl (.cons (.of_eq rfl) (.cons (.of_eq rfl) (.cons (.of_eq rfl) .nil))) (.arr rfl (.arr rfl (.arr rfl .nil))))))) rfl))))) ?_
                        refine W.seq ?_
                        refine W.seq ?_
                        refine W.reg (σ' := ⟨[(1, .v (Enc.int .i64) a1), (3, .ptr 101 0), (5, .ptr 102 0), (10, .v (Enc.int .i64) x35), (11, .v (Enc.int .i64) x41), (16, .ptr 112 0), (17, .ptr 115 0), (18, .v (Enc.int .i64) (0 : Int))], [(101, .box 49 [.v (Enc.sl eBlk) a0.1, .v (Enc.sl (Enc.pr (Enc.int .i64) eBlk)) a0.2.1, .v (Enc.int .i64) a0.2.2]), (102, .box 24 [.v eBlk a2]), (112, .box 49 [.v (Enc.sl eBlk) x100.1, .ref 119, .v (Enc.int .i64) x100.2.1]), (115, .box 49 [.ref 123000, .ref 123001, .v (Enc.int .i64) v128.2.2]), (119, .arr 85 (Enc.pr (Enc.int .i64) eBlk) x100.2.2), (123000, .arr 24 eBlk v128.1), (123001, .arr 85 (Enc.pr (Enc.int .i64) eBlk) v128.2.1)]⟩) (J.cons (.none rfl) (JO.assign rfl) rfl rfl (J.fin (Sw.Sub.mk id (.cons rfl (.of_eq rfl) (.cons rfl (.of_eq rfl) (.cons rfl (.of_eq rfl) (.cons rfl (.of_eq rfl) (.cons rfl (.of_eq rfl) (.cons rfl (.of_eq rfl) (.cons rfl (.of_eq rfl) (.cons rfl (.of_eq rfl) .nil)))))))) (.box rfl (.cons (.of_eq rfl) (.cons (.of_eq rfl) (.cons (.of_eq rfl) .nil))) (.box rfl (.cons (.of_eq rfl) .nil) (.box rfl (.cons (.of_eq rfl) (.cons (.of_eq rfl) (.cons (.of_eq rfl) .nil))) (.box rfl (.cons (.of_eq rfl) (.cons (.of_eq rfl) (.cons (.of_eq rfl) .nil))) (.arr rfl (.arr rfl (.arr rfl .nil))))))) rfl))) ?_
                        obtain ⟨o144, ho144, hb144, hr144⟩ := lp_elim h
                        refine W.lp (σs := fun s139 : Int × (List Blk) => ⟨[(1, .v (Enc.int .i64) a1), (3, .ptr 101 0), (5, .ptr 102 0), (10, .v (Enc.int .i64) x35), (11, .v (Enc.int .i64) x41), (16, .ptr 112 0), (17, .ptr 115 0), (18, .v (Enc.int .i64) s139.1)], [(101, .box 49 [.v (Enc.sl eBlk) a0.1, .v (Enc.sl (Enc.pr (Enc.int .i64) eBlk)) a0.2.1, .v (Enc.int .i64) a0.2.2]), (102, .box 24 [.v eBlk a2]), (112, .box 49 [.v (Enc.sl eBlk) x100.1, .ref 119, .v (Enc.int .i64) x100.2.1]), (115, .box 49 [.ref 123000, .ref 123001, .v (Enc.int .i64) v128.2.2]), (119, .arr 85 (Enc.pr (Enc.int .i64) eBlk) x100.2.2), (123000, .arr 24 eBlk s139.2), (123001, .arr 85 (Enc.pr (Enc.int .i64) eBlk) v128.2.1)]⟩) (fun x145 : (List Blk) => ⟨[(1, .v (Enc.int .i64) a1), (3, .ptr 101 0), (5, .ptr 102 0), (10, .v (Enc.int .i64) x35), (11, .v (Enc.int .i64) x41), (16, .ptr 112 0), (17, .ptr 115 0)], [(101, .box 49 [.v (Enc.sl eBlk) a0.1, .v (Enc.sl (Enc.pr (Enc.int .i64) eBlk)) a0.2.1, .v (Enc.int .i64) a0.2.2]), (102, .box 24 [.v eBlk a2]), (112, .box 49 [.v (Enc.sl eBlk) x100.1, .ref 119, .v (Enc.int .i64) x100.2.1]), (115, .box 49 [.ref 123000, .ref 123001, .v (Enc.int .i64) v128.2.2]), (119, .arr 85 (Enc.pr (Enc.int .i64) eBlk) x100.2.2), (123000, .arr 24 eBlk x145), (123001, .arr 85 (Enc.pr (Enc.int .i64) eBlk) v128.2.1)]⟩) ho144 (Sw.Sub.mk id (.cons rfl (.of_eq rfl) (.cons rfl (.of_eq rfl) (.cons rfl (.of_eq rfl) (.cons rfl (.of_eq rfl) (.cons rfl (.of_eq rfl) (.cons rfl (.of_eq rfl) (.cons rfl (.of_eq rfl) (.cons rfl (.of_eq rfl) .nil)))))))) (.box rfl (.cons (.of_eq rfl) (.cons (.of_eq rfl) (.cons (.of_eq rfl) .nil))) (.box rfl (.cons (.of_eq rfl) .nil) (.box rfl (.cons (.of_eq rfl) (.cons (.of_eq rfl) (.cons (.of_eq rfl) .nil))) (.box rfl (.cons (.of_eq rfl) (.cons (.of_eq rfl) (.cons (.of_eq rfl) .nil))) (.arr rfl (.arr rfl (.arr rfl .nil))))))) rfl) ?_ ?_
                        · intro x145 hy
                          have h := hb144 _ hy
                          refine W.reg (σ' := ⟨[(1, .v (Enc.int .i64) a1), (3, .ptr 101 0), (5, .ptr 102 0), (10, .v (Enc.int .i64) x35), (11, .v (Enc.int .i64) x41), (16, .ptr 112 0), (17, .ptr 115 0)], [(101, .box 49 [.v (Enc.sl eBlk) a0.1, .v (Enc.sl (Enc.pr (Enc.int .i64) eBlk)) a0.2.1, .v (Enc.int .i64) a0.2.2]), (102, .box 24 [.v eBlk a2]), (112, .box 49 [.v (Enc.sl eBlk) x100.1, .ref 119, .v (Enc.int .i64) x100.2.1]), (115, .box 49 [.ref 123000, .v (Enc.sl (Enc.pr (Enc.int .i64) eBlk)) ([] : (List (Int × Blk))), .v (Enc.int .i64) v128.2.2]), (119, .arr 85 (Enc.pr (Enc.int .i64) eBlk) x100.2.2), (123000, .arr 24 eBlk x145)]⟩) (J.cons (.none rfl) (JO.fieldPtr 1 rfl Try.runUnderlying49 rfl Try.sizeOf47 rfl rfl) rfl rfl (J.mut (.none rfl) (JM.storeA rfl rfl rfl (.nilS (Enc.pr (Enc.int .i64) eBlk)) rfl rfl rfl Try.sizeOf47) (J.fin (Sw.Sub.mk id (.cons rfl (.of_eq rfl) (.cons rfl (.of_eq rfl) (.cons rfl (.of_eq rfl) (.cons rfl (.of_eq rfl) (.cons rfl (.of_eq rfl) (.cons rfl (.of_eq rfl) (.cons rfl (.of_eq rfl) .nil))))))) (.box rfl (.cons (.of_eq rfl) (.cons (.of_eq rfl) (.cons (.of_eq rfl) .nil))) (.box rfl (.cons (.of_eq rfl) .nil) (.box rfl (.cons (.of_eq rfl) (.cons (.of_eq rfl) (.cons (.of_eq rfl) .nil))) (.box rfl (.cons (.of_eq rfl) (.cons (.of_eq rfl) (.cons (.of_eq rfl) .nil))) (.arr rfl (.arr rfl .nil)))))) rfl)))) ?_
                          exact W.jfall h (Sw.Sub.mk id (.cons rfl (.of_eq rfl) (.cons rfl (.of_eq rfl) (.cons rfl (.of_eq rfl) (.cons rfl (.of_eq rfl) (.cons rfl (.of_eq rfl) (.cons rfl (.of_eq rfl) (.cons rfl (.of_eq rfl) .nil))))))) (.box rfl (.cons (.of_eq rfl) (.cons (.of_eq rfl) (.cons (.of_eq rfl) .nil))) (.box rfl (.cons (.of_eq rfl) .nil) (.box rfl (.cons (.of_eq rfl) (.cons (.of_eq rfl) (.cons (.of_eq rfl) .nil))) (.box rfl (.cons (.frz rfl rfl) (.cons (.of_eq rfl) (.cons (.of_eq rfl) .nil))) (.arr rfl .nil))))) rfl)
                        intro s139 r144 h
                        refine W.seq ?_
                        refine W.seq ?_
                        refine W.reg (σ' := ⟨[(1, .v (Enc.int .i64) a1), (3, .ptr 101 0), (5, .ptr 102 0), (10, .v (Enc.int .i64) x35), (11, .v (Enc.int .i64) x41), (16, .ptr 112 0), (17, .ptr 115 0), (18, .v (Enc.int .i64) s139.1), (153, .v Enc.bool (cm .lss s139.1 (a0.2.1.length : Int)))], [(101, .box 49 [.v (Enc.sl eBlk) a0.1, .v (Enc.sl (Enc.pr (Enc.int .i64) eBlk)) a0.2.1, .v (Enc.int .i64) a0.2.2]), (102, .box 24 [.v eBlk a2]), (112, .box 49 [.v (Enc.sl eBlk) x100.1, .ref 119, .v (Enc.int .i64) x100.2.1]), (115, .box 49 [.ref 123000, .ref 123001, .v (Enc.int .i64) v128.2.2]), (119, .arr 85 (Enc.pr (Enc.int .i64) eBlk) x100.2.2), (123000, .arr 24 eBlk s139.2), (123001, .arr 85 (Enc.pr (Enc.int .i64) eBlk) v128.2.1)]⟩) (J.cons (.none rfl) (JO.move rfl) rfl rfl (J.cons (.none rfl) (JO.fieldPtr 1 rfl Try.runUnderlying49 rfl Try.sizeOf47 rfl rfl) rfl rfl (J.cons (.none rfl) (JO.load rfl rfl rfl Try.isAgg47 Try.sizeOf47) rfl rfl (J.cons (.none rfl) (JO.len rfl Try.runUnderlying47) rfl rfl (J.cons (.none rfl) (JO.cmp rfl rfl rfl) rfl rfl (J.fin (Sw.Sub.mk id (.cons rfl (.of_eq rfl) (.cons rfl (.of_eq rfl) (.cons rfl (.of_eq rfl) (.cons rfl (.of_eq rfl) (.cons rfl (.of_eq rfl) (.cons rfl (.of_eq rfl) (.cons rfl (.of_eq rfl) (.cons rfl (.of_eq rfl) (.cons rfl (.of_eq rfl) .nil))))))))) (.box rfl (.cons (.of_eq rfl) (.cons (.of_eq rfl) (.cons (.of_eq rfl) .nil))) (.box rfl (.cons (.of_eq rfl) .nil) (.box rfl (.cons (.of_eq rfl) (.cons (.of_eq rfl) (.cons (.of_eq rfl) .nil))) (.box rfl (.cons (.of_eq rfl) (.cons (.of_eq rfl) (.cons (.of_eq rfl) .nil))) (.arr rfl (.arr rfl (.arr rfl .nil))))))) rfl))))))) ?_
                        rcases Bool.eq_false_or_eq_true (cm .lss s139.1 (a0.2.1.length : Int)) with hc146 | hc146
                        · replace h := cond_t hc146 h
                          refine W.condT rfl hc146 ?_
                          refine W.skip ?_
                          refine W.seq ?_
                          refine W.block ?_
                          obtain ⟨z147, hz147, h⟩ := bind_e h
                          obtain ⟨z148, hz148, h⟩ := bind_e h
                          obtain ⟨z149, hz149, h⟩ := bind_e h
                          refine W.dr (σ' := ⟨[(1, .v (Enc.int .i64) a1), (3, .ptr 101 0), (5, .ptr 102 0), (10, .v (Enc.int .i64) x35), (11, .v (Enc.int .i64) x41), (16, .ptr 112 0), (17, .ptr 115 0), (18, .v (Enc.int .i64) s139.1)], [(101, .box 49 [.v (Enc.sl eBlk) a0.1, .v (Enc.sl (Enc.pr (Enc.int .i64) eBlk)) a0.2.1, .v (Enc.int .i64) a0.2.2]), (102, .box 24 [.v eBlk a2]), (112, .box 49 [.v (Enc.sl eBlk) x100.1, .ref 119, .v (Enc.int .i64) x100.2.1]), (115, .box 49 [.ref 123000, .ref 123001, .v (Enc.int .i64) v128.2.2]), (119, .arr 85 (Enc.pr (Enc.int .i64) eBlk) x100.2.2), (123000, .arr 24 eBlk (List.set s139.2 (Int.toNat z147.1) z148.2)), (123001, .arr 85 (Enc.pr (Enc.int .i64) eBlk) v128.2.1)]⟩) 15 mixed (by exact (.cons (.none rfl) (JO.fieldPtr 0 rfl Try.runUnderlying49 rfl Try.sizeOf22 rfl rfl) rfl rfl (.cons (.none rfl) (JO.load rfl rfl rfl Try.isAgg22 Try.sizeOf22) rfl rfl (.cons (.none rfl) (JO.fieldPtr 1 rfl Try.runUnderlying49 rfl Try.sizeOf47 rfl rfl) rfl rfl (.cons (.none rfl) (JO.load rfl rfl rfl Try.isAgg47 Try.sizeOf47) rfl rfl (.cons (.none rfl) (JO.move rfl) rfl rfl (.cons (.none rfl) (JO.idx hz147 rfl rfl Try.runUnderlying47 Try.sizeOf85) rfl rfl (.cons (.none rfl) (JO.fieldPst rfl Try.runUnderlying85 rfl Try.sizeOf3 rfl (.fst .here) rfl) rfl rfl (.cons (.none rfl) (JO.loadPst rfl Try.isAgg3 Try.sizeOf3) rfl rfl (.cons (.none rfl) (JO.fieldPtr 1 rfl Try.runUnderlying49 rfl Try.sizeOf47 rfl rfl) rfl rfl (.cons (.none rfl) (JO.load rfl rfl rfl Try.isAgg47 Try.sizeOf47) rfl rfl (.cons (.none rfl) (JO.move rfl) rfl rfl (.cons (.none rfl) (JO.idx hz148 rfl rfl Try.runUnderlying47 Try.sizeOf85) rfl rfl (.cons (.none rfl) (JO.fieldPst rfl Try.runUnderlying85 rfl Try.sizeOf24 rfl (.snd .here) rfl) rfl rfl (.cons (.none rfl) (JO.loadPst rfl Try.isAgg24 Try.sizeOf24) rfl rfl (.cons (.none rfl) (JO.idxR hz149 rfl rfl rfl Try.runUnderlying22 Try.sizeOf24) rfl rfl .nil)))))))))))))))) (by exact (J.mut (.none rfl) (JM.storeEl (idx_some hz149).2.2 rfl rfl rfl Try.sizeOf24) (J.fin (Sw.Sub.mk id (.cons rfl (.of_eq rfl) (.cons rfl (.of_eq rfl) (.cons rfl (.of_eq rfl) (.cons rfl (.of_eq rfl) (.cons rfl (.of_eq rfl) (.cons rfl (.of_eq rfl) (.cons rfl (.of_eq rfl) (.cons rfl (.of_eq rfl) .nil)))))))) (.box rfl (.cons (.of_eq rfl) (.cons (.of_eq rfl) (.cons (.of_eq rfl) .nil))) (.box rfl (.cons (.of_eq rfl) .nil) (.box rfl (.cons (.of_eq rfl) (.cons (.of_eq rfl) (.cons (.of_eq rfl) .nil))) (.box rfl (.cons (.of_eq rfl) (.cons (.of_eq rfl) (.cons (.of_eq rfl) .nil))) (.arr rfl (.arr rfl (.arr rfl .nil))))))) rfl)))) (by decide +kernel) (by decide +kernel) (by decide +kernel) ?_
                          refine W.fall ?_
                          refine W.reg (σ' := ⟨[(1, .v (Enc.int .i64) a1), (3, .ptr 101 0), (5, .ptr 102 0), (10, .v (Enc.int .i64) x35), (11, .v (Enc.int .i64) x41), (16, .ptr 112 0), (17, .ptr 115 0), (18, .v (Enc.int .i64) (ar .add .i64 s139.1 (1 : Int)))], [(101, .box 49 [.v (Enc.sl eBlk) a0.1, .v (Enc.sl (Enc.pr (Enc.int .i64) eBlk)) a0.2.1, .v (Enc.int .i64) a0.2.2]), (102, .box 24 [.v eBlk a2]), (112, .box 49 [.v (Enc.sl eBlk) x100.1, .ref 119, .v (Enc.int .i64) x100.2.1]), (115, .box 49 [.ref 123000, .ref 123001, .v (Enc.int .i64) v128.2.2]), (119, .arr 85 (Enc.pr (Enc.int .i64) eBlk) x100.2.2), (123000, .arr 24 eBlk (List.set s139.2 (Int.toNat z147.1) z148.2)), (123001, .arr 85 (Enc.pr (Enc.int .i64) eBlk) v128.2.1)]⟩) (J.cons (.none rfl) (JO.move rfl) rfl rfl (J.cons (.none rfl) (JO.arith rfl rfl rfl) rfl rfl (J.cons (.none rfl) (JO.assign rfl) rfl rfl (J.fin (Sw.Sub.mk id (.cons rfl (.of_eq rfl) (.cons rfl (.of_eq rfl) (.cons rfl (.of_eq rfl) (.cons rfl (.of_eq rfl) (.cons rfl (.of_eq rfl) (.cons rfl (.of_eq rfl) (.cons rfl (.of_eq rfl) (.cons rfl (.of_eq rfl) .nil)))))))) (.box rfl (.cons (.of_eq rfl) (.cons (.of_eq rfl) (.cons (.of_eq rfl) .nil))) (.box rfl (.cons (.of_eq rfl) .nil) (.box rfl (.cons (.of_eq rfl) (.cons (.of_eq rfl) (.cons (.of_eq rfl) .nil))) (.box rfl (.cons (.of_eq rfl) (.cons (.of_eq rfl) (.cons (.of_eq rfl) .nil))) (.arr rfl (.arr rfl (.arr rfl .nil))))))) rfl))))) ?_
                          obtain rfl := Option.some.inj h
                          exact W.next (Sw.Sub.mk id (.cons rfl (.of_eq rfl) (.cons rfl (.of_eq rfl) (.cons rfl (.of_eq rfl) (.cons rfl (.of_eq rfl) (.cons rfl (.of_eq rfl) (.cons rfl (.of_eq rfl) (.cons rfl (.of_eq rfl) (.cons rfl (.of_eq rfl) .nil)))))))) (.box rfl (.cons (.of_eq rfl) (.cons (.of_eq rfl) (.cons (.of_eq rfl) .nil))) (.box rfl (.cons (.of_eq rfl) .nil) (.box rfl (.cons (.of_eq rfl) (.cons (.of_eq rfl) (.cons (.of_eq rfl) .nil))) (.box rfl (.cons (.of_eq rfl) (.cons (.of_eq rfl) (.cons (.of_eq rfl) .nil))) (.arr rfl (.arr rfl (.arr rfl .nil))))))) rfl)
                        · replace h := cond_f hc146 h
                          refine W.condF rfl hc146 ?_
                          refine W.exit ?_
                          obtain rfl := Option.some.inj h
                          exact XQ.brk (Sw.Sub.mk id (.cons rfl (.of_eq rfl) (.cons rfl (.of_eq rfl) (.cons rfl (.of_eq rfl) (.cons rfl (.of_eq rfl) (.cons rfl (.of_eq rfl) (.cons rfl (.of_eq rfl) (.cons rfl (.of_eq rfl) .nil))))))) (.box rfl (.cons (.of_eq rfl) (.cons (.of_eq rfl) (.cons (.of_eq rfl) .nil))) (.box rfl (.cons (.of_eq rfl) .nil) (.box rfl (.cons (.of_eq rfl) (.cons (.of_eq rfl) (.cons (.of_eq rfl) .nil))) (.box rfl (.cons (.of_eq rfl) (.cons (.of_eq rfl) (.cons (.of_eq rfl) .nil))) (.arr rfl (.arr rfl (.arr rfl .nil))))))) rfl)
                      · intro hc103
                        replace h := cond_f hc103 h
                        refine W.skip ?_
                        exact W.jfall h (Sw.Sub.mk id (.cons rfl (.of_eq rfl) (.cons rfl (.of_eq rfl) (.cons rfl (.of_eq rfl) (.cons rfl (.of_eq rfl) (.cons rfl (.of_eq rfl) (.cons rfl (.of_eq rfl) (.cons rfl (.of_eq rfl) .nil))))))) (.box rfl (.cons (.of_eq rfl) (.cons (.of_eq rfl) (.cons (.of_eq rfl) .nil))) (.box rfl (.cons (.of_eq rfl) .nil) (.box rfl (.cons (.of_eq rfl) (.cons (.of_eq rfl) (.cons (.of_eq rfl) .nil))) (.box rfl (.cons (.of_eq rfl) (.cons (.frz rfl rfl) (.cons (.of_eq rfl) .nil))) (.arr rfl .nil))))) rfl)
                    · intro hc96
                      replace h := cond_t hc96 h
                      refine W.seq ?_
                      obtain ⟨v101, hv101, h⟩ := bind_e h
                      refine W.reg (σ' := ⟨[(1, .v (Enc.int .i64) a1), (3, .ptr 101 0), (5, .ptr 102 0), (10, .v (Enc.int .i64) x35), (11, .v (Enc.int .i64) x41), (16, .ptr 112 0), (17, .ptr 115 0)], [(101, .box 49 [.v (Enc.sl eBlk) a0.1, .v (Enc.sl (Enc.pr (Enc.int .i64) eBlk)) a0.2.1, .v (Enc.int .i64) a0.2.2]), (102, .box 24 [.v eBlk a2]), (112, .box 49 [.ref 120000, .ref 120001, .v (Enc.int .i64) v101.2.2]), (115, .box 49 [.v (Enc.sl eBlk) ([] : (List Blk)), .ref 114, .v (Enc.int .i64) (0 : Int)]), (120000, .arr 24 eBlk v101.1), (120001, .arr 85 (Enc.pr (Enc.int .i64) eBlk) v101.2.1), (114, .arr 85 (Enc.pr (Enc.int .i64) eBlk) ([] : (List (Int × Blk))))]⟩) (J.cons (.none rfl) (JO.loadAll rfl rfl (.prm (.one _ _) (.prm (.one _ _) (.one _ _))) Try.isAgg49 Try.sizeOf49) rfl rfl (J.cons (.none rfl) (JO.call 120000 (con_ref_OwnDisk hz hv101) Try.call62 (.cons (.dir rfl) .nil) rfl) rfl rfl (J.mut (.none rfl) (JM.storeAgg rfl rfl rfl rfl rfl rfl Try.sizeOf49) (J.fin (Sw.Sub.mk id (.cons rfl (.of_eq rfl) (.cons rfl (.of_eq rfl) (.cons rfl (.of_eq rfl) (.cons rfl (.of_eq rfl) (.cons rfl (.of_eq rfl) (.cons rfl (.of_eq rfl) (.cons rfl (.of_eq rfl) .nil))))))) (.box rfl (.cons (.of_eq rfl) (.cons (.of_eq rfl) (.cons (.of_eq rfl) .nil))) (.box rfl (.cons (.of_eq rfl) .nil) (.box rfl (.cons (.of_eq rfl) (.cons (.of_eq rfl) (.cons (.of_eq rfl) .nil))) (.box rfl (.cons (.of_eq rfl) (.cons (.of_eq rfl) (.cons (.of_eq rfl) .nil))) (.arr rfl (.arr rfl (.arr rfl .nil))))))) rfl))))) ?_
                      obtain ⟨v102, hv102, h⟩ := bind_e h
                      refine W.reg (σ' := ⟨[(1, .v (Enc.int .i64) a1), (3, .ptr 101 0), (5, .ptr 102 0), (10, .v (Enc.int .i64) x35), (11, .v (Enc.int .i64) x41), (16, .ptr 112 0), (17, .ptr 115 0)], [(101, .box 49 [.v (Enc.sl eBlk) a0.1, .v (Enc.sl (Enc.pr (Enc.int .i64) eBlk)) a0.2.1, .v (Enc.int .i64) a0.2.2]), (102, .box 24 [.v eBlk a2]), (112, .box 49 [.ref 120000, .ref 121, .v (Enc.int .i64) v101.2.2]), (115, .box 49 [.v (Enc.sl eBlk) ([] : (List Blk)), .ref 114, .v (Enc.int .i64) (0 : Int)]), (120000, .arr 24 eBlk v101.1), (121, .arr 85 (Enc.pr (Enc.int .i64) eBlk) v102), (114, .arr 85 (Enc.pr (Enc.int .i64) eBlk) ([] : (List (Int × Blk))))]⟩) (J.cons (.none rfl) (JO.fieldPtr 1 rfl Try.runUnderlying49 rfl Try.sizeOf47 rfl rfl) rfl rfl (J.cons (.none rfl) (JO.load rfl rfl rfl Try.isAgg47 Try.sizeOf47) rfl rfl (J.cons (.none rfl) (JO.move rfl) rfl rfl (J.cons (.none rfl) (JO.load rfl rfl rfl Try.isAgg24 Try.sizeOf24) rfl rfl (J.cons (.none rfl) (JO.build built85 (.cons (Z.int .i64) (.cons (Z.arr 8 (Z.int .u8)) .nil)) (.cons rfl (.dir rfl) rfl rfl rfl rfl (.cons rfl (.dir rfl) rfl rfl rfl rfl .nil))) rfl rfl (J.cons (.none rfl) (JO.lit (e := (Enc.pr (Enc.int .i64) eBlk)) Try.runUnderlying47 Try.sizeOf85 Try.zeroValue85 rfl rfl rfl rfl (.cons (.agg rfl (.same (.same .nil)) (.prm (.one _ _) (.one _ _)) rfl) .nil)) rfl rfl (J.mut (.none rfl) (JM.append 121 hv102 rfl rfl (.sl rfl) Try.runUnderlying47 Try.typeInfo85 Try.sizeOf85 rfl rfl rfl rfl rfl) (J.cons (.none rfl) (JO.fieldPtr 1 rfl Try.runUnderlying49 rfl Try.sizeOf47 rfl rfl) rfl rfl (J.mut (.none rfl) (JM.store rfl rfl rfl rfl rfl rfl rfl Try.sizeOf47) (J.fin (Sw.Sub.mk id (.cons rfl (.of_eq rfl) (.cons rfl (.of_eq rfl) (.cons rfl (.of_eq rfl) (.cons rfl (.of_eq rfl) (.cons rfl (.of_eq rfl) (.cons rfl (.of_eq rfl) (.cons rfl (.of_eq rfl) .nil))))))) (.box rfl (.cons (.of_eq rfl) (.cons (.of_eq rfl) (.cons (.of_eq rfl) .nil))) (.box rfl (.cons (.of_eq rfl) .nil) (.box rfl (.cons (.of_eq rfl) (.cons (.of_eq rfl) (.cons (.of_eq rfl) .nil))) (.box rfl (.cons (.of_eq rfl) (.cons (.of_eq rfl) (.cons (.of_eq rfl) .nil))) (.arr rfl (.arr rfl (.arr rfl .nil))))))) rfl))))))))))) ?_
                      exact W.jfall h (Sw.Sub.mk (rn [(101, 101), (102, 102), (112, 112), (115, 115), (119, 121), (114, 114)]) (.cons rfl (.of_eq rfl) (.cons rfl (.of_eq rfl) (.cons rfl (.of_eq rfl) (.cons rfl (.of_eq rfl) (.cons rfl (.of_eq rfl) (.cons rfl (.of_eq rfl) (.cons rfl (.of_eq rfl) .nil))))))) (.box rfl (.cons (.of_eq rfl) (.cons (.of_eq rfl) (.cons (.of_eq rfl) .nil))) (.box rfl (.cons (.of_eq rfl) .nil) (.box rfl (.cons (.frz rfl rfl) (.cons (.of_eq rfl) (.cons (.of_eq rfl) .nil))) (.box rfl (.cons (.of_eq rfl) (.cons (.of_eq rfl) (.cons (.of_eq rfl) .nil))) (.arr rfl (.arr rfl .nil)))))) rfl)
                    · intro hc96
                      replace h := cond_f hc96 h
                      refine W.skip ?_
                      exact W.jfall h (Sw.Sub.mk (rn [(101, 101), (102, 102), (112, 112), (115, 115), (119, 111), (114, 114)]) (.cons rfl (.of_eq rfl) (.cons rfl (.of_eq rfl) (.cons rfl (.of_eq rfl) (.cons rfl (.of_eq rfl) (.cons rfl (.of_eq rfl) (.cons rfl (.of_eq rfl) (.cons rfl (.of_eq rfl) .nil))))))) (.box rfl (.cons (.of_eq rfl) (.cons (.of_eq rfl) (.cons (.of_eq rfl) .nil))) (.box rfl (.cons (.of_eq rfl) .nil) (.box rfl (.cons (.of_eq rfl) (.cons (.of_eq rfl) (.cons (.of_eq rfl) .nil))) (.box rfl (.cons (.of_eq rfl) (.cons (.of_eq rfl) (.cons (.of_eq rfl) .nil))) (.arr rfl (.arr rfl .nil)))))) rfl)
                · intro hc43
                  replace h := cond_t hc43 h
                  refine W.seq ?_
                  obtain ⟨z68, hz68, h⟩ := bind_e h
                  refine W.reg (σ' := ⟨[(1, .v (Enc.int .i64) a1), (3, .ptr 101 0), (5, .ptr 102 0), (9, .v (Enc.int .i64) x23), (10, .v (Enc.int .i64) x35), (11, .v (Enc.int .i64) x41), (12, .ptr 107 0), (13, .v (Enc.err ET) v42.2), (14, .ptr 108 0)], [(101, .box 49 [.v (Enc.sl eBlk) a0.1, .v (Enc.sl (Enc.pr (Enc.int .i64) eBlk)) a0.2.1, .v (Enc.int .i64) a0.2.2]), (102, .box 24 [.v eBlk a2]), (107, .box 24 [.v eBlk v42.1]), (108, .box 24 [.v eBlk z68])]⟩) (J.cons (.none rfl) (JO.fieldPtr 0 rfl Try.runUnderlying49 rfl Try.sizeOf22 rfl rfl) rfl rfl (J.cons (.none rfl) (JO.load rfl rfl rfl Try.isAgg22 Try.sizeOf22) rfl rfl (J.cons (.none rfl) (JO.move rfl) rfl rfl (J.cons (.none rfl) (JO.idx hz68 rfl rfl Try.runUnderlying22 Try.sizeOf24) rfl rfl (J.cons (.none rfl) (JO.loadPst rfl Try.isAgg24 Try.sizeOf24) rfl rfl (J.mut (.none rfl) (JM.store rfl rfl rfl rfl rfl rfl rfl Try.sizeOf24) (J.fin (Sw.Sub.mk id (.cons rfl (.of_eq rfl) (.cons rfl (.of_eq rfl) (.cons rfl (.of_eq rfl) (.cons rfl (.of_eq rfl) (.cons rfl (.of_eq rfl) (.cons rfl (.of_eq rfl) (.cons rfl (.of_eq rfl) (.cons rfl (.of_eq rfl) (.cons rfl (.of_eq rfl) .nil))))))))) (.box rfl (.cons (.of_eq rfl) (.cons (.of_eq rfl) (.cons (.of_eq rfl) .nil))) (.box rfl (.cons (.of_eq rfl) .nil) (.box rfl (.cons (.of_eq rfl) .nil) (.box rfl (.cons (.of_eq rfl) .nil) .nil)))) rfl)))))))) ?_
                  refine W.seq ?_
                  refine W.reg (σ' := ⟨[(1, .v (Enc.int .i64) a1), (3, .ptr 101 0), (5, .ptr 102 0), (9, .v (Enc.int .i64) x23), (10, .v (Enc.int .i64) x35), (11, .v (Enc.int .i64) x41), (12, .ptr 107 0), (13, .v (Enc.err ET) v42.2), (14, .ptr 108 0), (15, .v (Enc.int .i64) (0 : Int))], [(101, .box 49 [.v (Enc.sl eBlk) a0.1, .v (Enc.sl (Enc.pr (Enc.int .i64) eBlk)) a0.2.1, .v (Enc.int .i64) a0.2.2]), (102, .box 24 [.v eBlk a2]), (107, .box 24 [.v eBlk v42.1]), (108, .box 24 [.v eBlk z68])]⟩) (J.cons (.none rfl) (JO.assign rfl) rfl rfl (J.fin (Sw.Sub.mk id (.cons rfl (.of_eq rfl) (.cons rfl (.of_eq rfl) (.cons rfl (.of_eq rfl) (.cons rfl (.of_eq rfl) (.cons rfl (.of_eq rfl) (.cons rfl (.of_eq rfl) (.cons rfl (.of_eq rfl) (.cons rfl (.of_eq rfl) (.cons rfl (.of_eq rfl) (.cons rfl (.of_eq rfl) .nil)))))))))) (.box rfl (.cons (.of_eq rfl) (.cons (.of_eq rfl) (.cons (.of_eq rfl) .nil))) (.box rfl (.cons (.of_eq rfl) .nil) (.box rfl (.cons (.of_eq rfl) .nil) (.box rfl (.cons (.of_eq rfl) .nil) .nil)))) rfl))) ?_
                  obtain ⟨o84, ho84, hb84, hr84⟩ := lp_elim h
                  refine W.lp (σs := fun s79 : Int × Blk => ⟨[(1, .v (Enc.int .i64) a1), (3, .ptr 101 0), (5, .ptr 102 0), (9, .v (Enc.int .i64) x23), (10, .v (Enc.int .i64) x35), (11, .v (Enc.int .i64) x41), (12, .ptr 107 0), (13, .v (Enc.err ET) v42.2), (14, .ptr 108 0), (15, .v (Enc.int .i64) s79.1)], [(101, .box 49 [.v (Enc.sl eBlk) a0.1, .v (Enc.sl (Enc.pr (Enc.int .i64) eBlk)) a0.2.1, .v (Enc.int .i64) a0.2.2]), (102, .box 24 [.v eBlk a2]), (107, .box 24 [.v eBlk v42.1]), (108, .box 24 [.v eBlk s79.2])]⟩) (fun x85 : Blk => ⟨[(1, .v (Enc.int .i64) a1), (3, .ptr 101 0), (5, .ptr 102 0), (9, .v (Enc.int .i64) x23), (10, .v (Enc.int .i64) x35), (11, .v (Enc.int .i64) x41), (12, .ptr 107 0), (13, .v (Enc.err ET) v42.2), (14, .ptr 108 0)], [(101, .box 49 [.v (Enc.sl eBlk) a0.1, .v (Enc.sl (Enc.pr (Enc.int .i64) eBlk)) a0.2.1, .v (Enc.int .i64) a0.2.2]), (102, .box 24 [.v eBlk a2]), (107, .box 24 [.v eBlk v42.1]), (108, .box 24 [.v eBlk x85])]⟩) ho84 (Sw.Sub.mk id (.cons rfl (.of_eq rfl) (.cons rfl (.of_eq rfl) (.cons rfl (.of_eq rfl) (.cons rfl (.of_eq rfl) (.cons rfl (.of_eq rfl) (.cons rfl (.of_eq rfl) (.cons rfl (.of_eq rfl) (.cons rfl (.of_eq rfl) (.cons rfl (.of_eq rfl) (.cons rfl (.of_eq rfl) .nil)))))))))) (.box rfl (.cons (.of_eq rfl) (.cons (.of_eq rfl) (.cons (.of_eq rfl) .nil))) (.box rfl (.cons (.of_eq rfl) .nil) (.box rfl (.cons (.of_eq rfl) .nil) (.box rfl (.cons (.of_eq rfl) .nil) .nil)))) rfl) ?_ ?_
                  · intro x85 hy
                    have h := hb84 _ hy
                    exact W.jfall h (Sw.Sub.mk id (.cons rfl (.of_eq rfl) (.cons rfl (.of_eq rfl) (.cons rfl (.of_eq rfl) (.cons rfl (.of_eq rfl) (.cons rfl (.of_eq rfl) (.cons rfl (.of_eq rfl) (.cons rfl (.of_eq rfl) (.cons rfl (.of_eq rfl) (.cons rfl (.of_eq rfl) .nil))))))))) (.box rfl (.cons (.of_eq rfl) (.cons (.of_eq rfl) (.cons (.of_eq rfl) .nil))) (.box rfl (.cons (.of_eq rfl) .nil) (.box rfl (.cons (.of_eq rfl) .nil) (.box rfl (.cons (.of_eq rfl) .nil) .nil)))) rfl)
                  intro s79 r84 h
                  refine W.seq ?_
                  refine W.seq ?_
                  refine W.reg (σ' := ⟨[(1, .v (Enc.int .i64) a1), (3, .ptr 101 0), (5, .ptr 102 0), (9, .v (Enc.int .i64) x23), (10, .v (Enc.int .i64) x35), (11, .v (Enc.int .i64) x41), (12, .ptr 107 0), (13, .v (Enc.err ET) v42.2), (14, .ptr 108 0), (15, .v (Enc.int .i64) s79.1), (105, .v Enc.bool (cm .lss s79.1 (a0.2.1.length : Int)))], [(101, .box 49 [.v (Enc.sl eBlk) a0.1, .v (Enc.sl (Enc.pr (Enc.int .i64) eBlk)) a0.2.1, .v (Enc.int .i64) a0.2.2]), (102, .box 24 [.v eBlk a2]), (107, .box 24 [.v eBlk v42.1]), (108, .box 24 [.v eBlk s79.2])]⟩) (J.cons (.none rfl) (JO.move rfl) rfl rfl (J.cons (.none rfl) (JO.fieldPtr 1 rfl Try.runUnderlying49 rfl Try.sizeOf47 rfl rfl) rfl rfl (J.cons (.none rfl) (JO.load rfl rfl rfl Try.isAgg47 Try.sizeOf47) rfl rfl (J.cons (.none rfl) (JO.len rfl Try.runUnderlying47) rfl rfl (J.cons (.none rfl) (JO.cmp rfl rfl rfl) rfl rfl (J.fin (Sw.Sub.mk id (.cons rfl (.of_eq rfl) (.cons rfl (.of_eq rfl) (.cons rfl (.of_eq rfl) (.cons rfl (.of_eq rfl) (.cons rfl (.of_eq rfl) (.cons rfl (.of_eq rfl) (.cons rfl (.of_eq rfl) (.cons rfl (.of_eq rfl) (.cons rfl (.of_eq rfl) (.cons rfl (.of_eq rfl) (.cons rfl (.of_eq rfl) .nil))))))))))) (.box rfl (.cons (.of_eq rfl) (.cons (.of_eq rfl) (.cons (.of_eq rfl) .nil))) (.box rfl (.cons (.of_eq rfl) .nil) (.box rfl (.cons (.of_eq rfl) .nil) (.box rfl (.cons (.of_eq rfl) .nil) .nil)))) rfl))))))) ?_
                  rcases Bool.eq_false_or_eq_true (cm .lss s79.1 (a0.2.1.length : Int)) with hc86 | hc86
                  · replace h := cond_t hc86 h
                    refine W.condT rfl hc86 ?_
                    refine W.skip ?_
                    refine W.seq ?_
                    refine W.block ?_
                    refine W.seq ?_
                    obtain ⟨z87, hz87, h⟩ := bind_e h
                    refine W.reg (σ' := ⟨[(1, .v (Enc.int .i64) a1), (3, .ptr 101 0), (5, .ptr 102 0), (9, .v (Enc.int .i64) x23), (10, .v (Enc.int .i64) x35), (11, .v (Enc.int .i64) x41), (12, .ptr 107 0), (13, .v (Enc.err ET) v42.2), (14, .ptr 108 0), (15, .v (Enc.int .i64) s79.1), (115, .v Enc.bool (cm .eql z87.1 a1))], [(101, .box 49 [.v (Enc.sl eBlk) a0.1, .v (Enc.sl (Enc.pr (Enc.int .i64) eBlk)) a0.2.1, .v (Enc.int .i64) a0.2.2]), (102, .box 24 [.v eBlk a2]), (107, .box 24 [.v eBlk v42.1]), (108, .box 24 [.v eBlk s79.2])]⟩) (J.cons (.none rfl) (JO.fieldPtr 1 rfl Try.runUnderlying49 rfl Try.sizeOf47 rfl rfl) rfl rfl (J.cons (.none rfl) (JO.load rfl rfl rfl Try.isAgg47 Try.sizeOf47) rfl rfl (J.cons (.none rfl) (JO.move rfl) rfl rfl (J.cons (.none rfl) (JO.idx hz87 rfl rfl Try.runUnderlying47 Try.sizeOf85) rfl rfl (J.cons (.none rfl) (JO.fieldPst rfl Try.runUnderlying85 rfl Try.sizeOf3 rfl (.fst .here) rfl) rfl rfl (J.cons (.none rfl) (JO.loadPst rfl Try.isAgg3 Try.sizeOf3) rfl rfl (J.cons (.none rfl) (JO.move rfl) rfl rfl (J.cons (.none rfl) (JO.cmp rfl rfl rfl) rfl rfl (J.fin (Sw.Sub.mk id (.cons rfl (.of_eq rfl) (.cons rfl (.of_eq rfl) (.cons rfl (.of_eq rfl) (.cons rfl (.of_eq rfl) (.cons rfl (.of_eq rfl) (.cons rfl (.of_eq rfl) (.cons rfl (.of_eq rfl) (.cons rfl (.of_eq rfl) (.cons rfl (.of_eq rfl) (.cons rfl (.of_eq rfl) (.cons rfl (.of_eq rfl) .nil))))))))))) (.box rfl (.cons (.of_eq rfl) (.cons (.of_eq rfl) (.cons (.of_eq rfl) .nil))) (.box rfl (.cons (.of_eq rfl) .nil) (.box rfl (.cons (.of_eq rfl) .nil) (.box rfl (.cons (.of_eq rfl) .nil) .nil)))) rfl)))))))))) ?_
                    rcases Bool.eq_false_or_eq_true (cm .eql z87.1 a1) with hc88 | hc88
                    · replace h := cond_t hc88 h
                      refine W.condT rfl hc88 ?_
                      obtain ⟨z89, hz89, h⟩ := bind_e h
                      refine W.reg (σ' := ⟨[(1, .v (Enc.int .i64) a1), (3, .ptr 101 0), (5, .ptr 102 0), (9, .v (Enc.int .i64) x23), (10, .v (Enc.int .i64) x35), (11, .v (Enc.int .i64) x41), (12, .ptr 107 0), (13, .v (Enc.err ET) v42.2), (14, .ptr 108 0), (15, .v (Enc.int .i64) s79.1)], [(101, .box 49 [.v (Enc.sl eBlk) a0.1, .v (Enc.sl (Enc.pr (Enc.int .i64) eBlk)) a0.2.1, .v (Enc.int .i64) a0.2.2]), (102, .box 24 [.v eBlk a2]), (107, .box 24 [.v eBlk v42.1]), (108, .box 24 [.v eBlk z89.2])]⟩) (J.cons (.none rfl) (JO.fieldPtr 1 rfl Try.runUnderlying49 rfl Try.sizeOf47 rfl rfl) rfl rfl (J.cons (.none rfl) (JO.load rfl rfl rfl Try.isAgg47 Try.sizeOf47) rfl rfl (J.cons (.none rfl) (JO.move rfl) rfl rfl (J.cons (.none rfl) (JO.idx hz89 rfl rfl Try.runUnderlying47 Try.sizeOf85) rfl rfl (J.cons (.none rfl) (JO.fieldPst rfl Try.runUnderlying85 rfl Try.sizeOf24 rfl (.snd .here) rfl) rfl rfl (J.cons (.none rfl) (JO.loadPst rfl Try.isAgg24 Try.sizeOf24) rfl rfl (J.mut (.none rfl) (JM.store rfl rfl rfl rfl rfl rfl rfl Try.sizeOf24) (J.fin (Sw.Sub.mk id (.cons rfl (.of_eq rfl) (.cons rfl (.of_eq rfl) (.cons rfl (.of_eq rfl) (.cons rfl (.of_eq rfl) (.cons rfl (.of_eq rfl) (.cons rfl (.of_eq rfl) (.cons rfl (.of_eq rfl) (.cons rfl (.of_eq rfl) (.cons rfl (.of_eq rfl) (.cons rfl (.of_eq rfl) .nil)))))))))) (.box rfl (.cons (.of_eq rfl) (.cons (.of_eq rfl) (.cons (.of_eq rfl) .nil))) (.box rfl (.cons (.of_eq rfl) .nil) (.box rfl (.cons (.of_eq rfl) .nil) (.box rfl (.cons (.of_eq rfl) .nil) .nil)))) rfl))))))))) ?_
                      refine W.fall ?_
                      refine W.reg (σ' := ⟨[(1, .v (Enc.int .i64) a1), (3, .ptr 101 0), (5, .ptr 102 0), (9, .v (Enc.int .i64) x23), (10, .v (Enc.int .i64) x35), (11, .v (Enc.int .i64) x41), (12, .ptr 107 0), (13, .v (Enc.err ET) v42.2), (14, .ptr 108 0), (15, .v (Enc.int .i64) (ar .add .i64 s79.1 (1 : Int)))], [(101, .box 49 [.v (Enc.sl eBlk) a0.1, .v (Enc.sl (Enc.pr (Enc.int .i64) eBlk)) a0.2.1, .v (Enc.int .i64) a0.2.2]), (102, .box 24 [.v eBlk a2]), (107, .box 24 [.v eBlk v42.1]), (108, .box 24 [.v eBlk z89.2])]⟩) (J.cons (.none rfl) (JO.move rfl) rfl rfl (J.cons (.none rfl) (JO.arith rfl rfl rfl) rfl rfl (J.cons (.none rfl) (JO.assign rfl) rfl rfl (J.fin (Sw.Sub.mk id (.cons rfl (.of_eq rfl) (.cons rfl (.of_eq rfl) (.cons rfl (.of_eq rfl) (.cons rfl (.of_eq rfl) (.cons rfl (.of_eq rfl) (.cons rfl (.of_eq rfl) (.cons rfl (.of_eq rfl) (.cons rfl (.of_eq rfl) (.cons rfl (.of_eq rfl) (.cons rfl (.of_eq rfl) .nil)))))))))) (.box rfl (.cons (.of_eq rfl) (.cons (.of_eq rfl) (.cons (.of_eq rfl) .nil))) (.box rfl (.cons (.of_eq rfl) .nil) (.box rfl (.cons (.of_eq rfl) .nil) (.box rfl (.cons (.of_eq rfl) .nil) .nil)))) rfl))))) ?_
                      obtain rfl := Option.some.inj h
                      exact W.next (Sw.Sub.mk id (.cons rfl (.of_eq rfl) (.cons rfl (.of_eq rfl) (.cons rfl (.of_eq rfl) (.cons rfl (.of_eq rfl) (.cons rfl (.of_eq rfl) (.cons rfl (.of_eq rfl) (.cons rfl (.of_eq rfl) (.cons rfl (.of_eq rfl) (.cons rfl (.of_eq rfl) (.cons rfl (.of_eq rfl) .nil)))))))))) (.box rfl (.cons (.of_eq rfl) (.cons (.of_eq rfl) (.cons (.of_eq rfl) .nil))) (.box rfl (.cons (.of_eq rfl) .nil) (.box rfl (.cons (.of_eq rfl) .nil) (.box rfl (.cons (.of_eq rfl) .nil) .nil)))) rfl)
                    · replace h := cond_f hc88 h
                      refine W.condF rfl hc88 ?_
                      refine W.skip ?_
                      refine W.fall ?_
                      refine W.reg (σ' := ⟨[(1, .v (Enc.int .i64) a1), (3, .ptr 101 0), (5, .ptr 102 0), (9, .v (Enc.int .i64) x23), (10, .v (Enc.int .i64) x35), (11, .v (Enc.int .i64) x41), (12, .ptr 107 0), (13, .v (Enc.err ET) v42.2), (14, .ptr 108 0), (15, .v (Enc.int .i64) (ar .add .i64 s79.1 (1 : Int)))], [(101, .box 49 [.v (Enc.sl eBlk) a0.1, .v (Enc.sl (Enc.pr (Enc.int .i64) eBlk)) a0.2.1, .v (Enc.int .i64) a0.2.2]), (102, .box 24 [.v eBlk a2]), (107, .box 24 [.v eBlk v42.1]), (108, .box 24 [.v eBlk s79.2])]⟩) (J.cons (.none rfl) (JO.move rfl) rfl rfl (J.cons (.none rfl) (JO.arith rfl rfl rfl) rfl rfl (J.cons (.none rfl) (JO.assign rfl) rfl rfl (J.fin (Sw.Sub.mk id (.cons rfl (.of_eq rfl) (.cons rfl (.of_eq rfl) (.cons rfl (.of_eq rfl) (.cons rfl (.of_eq rfl) (.cons rfl (.of_eq rfl) (.cons rfl (.of_eq rfl) (.cons rfl (.of_eq rfl) (.cons rfl (.of_eq rfl) (.cons rfl (.of_eq rfl) (.cons rfl (.of_eq rfl) .nil)))))))))) (.box rfl (.cons (.of_eq rfl) (.cons (.of_eq rfl) (.cons (.of_eq rfl) .nil))) (.box rfl (.cons (.of_eq rfl) .nil) (.box rfl (.cons (.of_eq rfl) .nil) (.box rfl (.cons (.of_eq rfl) .nil) .nil)))) rfl))))) ?_
                      obtain rfl := Option.some.inj h
                      exact W.next (Sw.Sub.mk id (.cons rfl (.of_eq rfl) (.cons rfl (.of_eq rfl) (.cons rfl (.of_eq rfl) (.cons rfl (.of_eq rfl) (.cons rfl (.of_eq rfl) (.cons rfl (.of_eq rfl) (.cons rfl (.of_eq rfl) (.cons rfl (.of_eq rfl) (.cons rfl (.of_eq rfl) (.cons rfl (.of_eq rfl) .nil)))))))))) (.box rfl (.cons (.of_eq rfl) (.cons (.of_eq rfl) (.cons (.of_eq rfl) .nil))) (.box rfl (.cons (.of_eq rfl) .nil) (.box rfl (.cons (.of_eq rfl) .nil) (.box rfl (.cons (.of_eq rfl) .nil) .nil)))) rfl)
                  · replace h := cond_f hc86 h
                    refine W.condF rfl hc86 ?_
                    refine W.exit ?_
                    obtain rfl := Option.some.inj h
                    exact XQ.brk (Sw.Sub.mk id (.cons rfl (.of_eq rfl) (.cons rfl (.of_eq rfl) (.cons rfl (.of_eq rfl) (.cons rfl (.of_eq rfl) (.cons rfl (.of_eq rfl) (.cons rfl (.of_eq rfl) (.cons rfl (.of_eq rfl) (.cons rfl (.of_eq rfl) (.cons rfl (.of_eq rfl) .nil))))))))) (.box rfl (.cons (.of_eq rfl) (.cons (.of_eq rfl) (.cons (.of_eq rfl) .nil))) (.box rfl (.cons (.of_eq rfl) .nil) (.box rfl (.cons (.of_eq rfl) .nil) (.box rfl (.cons (.of_eq rfl) .nil) .nil)))) rfl)
                · intro hc43
                  replace h := cond_f hc43 h
                  refine W.skip ?_
                  exact W.jfall h (Sw.Sub.mk id (.cons rfl (.of_eq rfl) (.cons rfl (.of_eq rfl) (.cons rfl (.of_eq rfl) (.cons rfl (.of_eq rfl) (.cons rfl (.of_eq rfl) (.cons rfl (.of_eq rfl) (.cons rfl (.of_eq rfl) (.cons rfl (.of_eq rfl) (.cons rfl (.of_eq rfl) .nil))))))))) (.box rfl (.cons (.of_eq rfl) (.cons (.of_eq rfl) (.cons (.of_eq rfl) .nil))) (.box rfl (.cons (.of_eq rfl) .nil) (.box rfl (.cons (.of_eq rfl) .nil) (.box rfl (.cons (.of_eq rfl) .nil) .nil)))) rfl)
              · intro hc39
                replace h := cond_t hc39 h
                refine W.reg (σ' := ⟨[(1, .v (Enc.int .i64) a1), (3, .ptr 101 0), (5, .ptr 102 0), (9, .v (Enc.int .i64) x23), (10, .v (Enc.int .i64) x35), (11, .v (Enc.int .i64) (4 : Int))], [(101, .box 49 [.v (Enc.sl eBlk) a0.1, .v (Enc.sl (Enc.pr (Enc.int .i64) eBlk)) a0.2.1, .v (Enc.int .i64) a0.2.2]), (102, .box 24 [.v eBlk a2])]⟩) (J.cons (.none rfl) (JO.assign rfl) rfl rfl (J.fin (Sw.Sub.mk id (.cons rfl (.of_eq rfl) (.cons rfl (.of_eq rfl) (.cons rfl (.of_eq rfl) (.cons rfl (.of_eq rfl) (.cons rfl (.of_eq rfl) (.cons rfl (.of_eq rfl) .nil)))))) (.box rfl (.cons (.of_eq rfl) (.cons (.of_eq rfl) (.cons (.of_eq rfl) .nil))) (.box rfl (.cons (.of_eq rfl) .nil) .nil)) rfl))) ?_
                exact W.jfall h (Sw.Sub.mk id (.cons rfl (.of_eq rfl) (.cons rfl (.of_eq rfl) (.cons rfl (.of_eq rfl) (.cons rfl (.of_eq rfl) (.cons rfl (.of_eq rfl) (.cons rfl (.of_eq rfl) .nil)))))) (.box rfl (.cons (.of_eq rfl) (.cons (.of_eq rfl) (.cons (.of_eq rfl) .nil))) (.box rfl (.cons (.of_eq rfl) .nil) .nil)) rfl)
              · intro hc39
                replace h := cond_f hc39 h
                refine W.skip ?_
                exact W.jfall h (Sw.Sub.mk id (.cons rfl (.of_eq rfl) (.cons rfl (.of_eq rfl) (.cons rfl (.of_eq rfl) (.cons rfl (.of_eq rfl) (.cons rfl (.of_eq rfl) (.cons rfl (.of_eq rfl) .nil)))))) (.box rfl (.cons (.of_eq rfl) (.cons (.of_eq rfl) (.cons (.of_eq rfl) .nil))) (.box rfl (.cons (.of_eq rfl) .nil) .nil)) rfl)
            · intro hc33
              replace h := cond_t hc33 h
              refine W.reg (σ' := ⟨[(1, .v (Enc.int .i64) a1), (3, .ptr 101 0), (5, .ptr 102 0), (7, .v (Enc.int .i64) v5), (9, .v (Enc.int .i64) x23), (10, .v (Enc.int .i64) (4 : Int))], [(101, .box 49 [.v (Enc.sl eBlk) a0.1, .v (Enc.sl (Enc.pr (Enc.int .i64) eBlk)) a0.2.1, .v (Enc.int .i64) a0.2.2]), (102, .box 24 [.v eBlk a2])]⟩) (J.cons (.none rfl) (JO.assign rfl) rfl rfl (J.fin (Sw.Sub.mk id (.cons rfl (.of_eq rfl) (.cons rfl (.of_eq rfl) (.cons rfl (.of_eq rfl) (.cons rfl (.of_eq rfl) (.cons rfl (.of_eq rfl) (.cons rfl (.of_eq rfl) .nil)))))) (.box rfl (.cons (.of_eq rfl) (.cons (.of_eq rfl) (.cons (.of_eq rfl) .nil))) (.box rfl (.cons (.of_eq rfl) .nil) .nil)) rfl))) ?_
              exact W.jfall h (Sw.Sub.mk id (.cons rfl (.of_eq rfl) (.cons rfl (.of_eq rfl) (.cons rfl (.of_eq rfl) (.cons rfl (.of_eq rfl) (.cons rfl (.of_eq rfl) (.cons rfl (.of_eq rfl) .nil)))))) (.box rfl (.cons (.of_eq rfl) (.cons (.of_eq rfl) (.cons (.of_eq rfl) .nil))) (.box rfl (.cons (.of_eq rfl) .nil) .nil)) rfl)
            · intro hc33
              replace h := cond_f hc33 h
              refine W.skip ?_
              exact W.jfall h (Sw.Sub.mk id (.cons rfl (.of_eq rfl) (.cons rfl (.of_eq rfl) (.cons rfl (.of_eq rfl) (.cons rfl (.of_eq rfl) (.cons rfl (.of_eq rfl) (.cons rfl (.of_eq rfl) .nil)))))) (.box rfl (.cons (.of_eq rfl) (.cons (.of_eq rfl) (.cons (.of_eq rfl) .nil))) (.box rfl (.cons (.of_eq rfl) .nil) .nil)) rfl)
          · intro hc27
            replace h := cond_t hc27 h
            refine W.reg (σ' := ⟨[(1, .v (Enc.int .i64) a1), (3, .ptr 101 0), (5, .ptr 102 0), (7, .v (Enc.int .i64) v5), (9, .v (Enc.int .i64) x23), (10, .v (Enc.int .i64) (2 : Int))], [(101, .box 49 [.v (Enc.sl eBlk) a0.1, .v (Enc.sl (Enc.pr (Enc.int .i64) eBlk)) a0.2.1, .v (Enc.int .i64) a0.2.2]), (102, .box 24 [.v eBlk a2])]⟩) (J.cons (.none rfl) (JO.assign rfl) rfl rfl (J.fin (Sw.Sub.mk id (.cons rfl (.of_eq rfl) (.cons rfl (.of_eq rfl) (.cons rfl (.of_eq rfl) (.cons rfl (.of_eq rfl) (.cons rfl (.of_eq rfl) (.cons rfl (.of_eq rfl) .nil)))))) (.box rfl (.cons (.of_eq rfl) (.cons (.of_eq rfl) (.cons (.of_eq rfl) .nil))) (.box rfl (.cons (.of_eq rfl) .nil) .nil)) rfl))) ?_
            exact W.jfall h (Sw.Sub.mk id (.cons rfl (.of_eq rfl) (.cons rfl (.of_eq rfl) (.cons rfl (.of_eq rfl) (.cons rfl (.of_eq rfl) (.cons rfl (.of_eq rfl) (.cons rfl (.of_eq rfl) .nil)))))) (.box rfl (.cons (.of_eq rfl) (.cons (.of_eq rfl) (.cons (.of_eq rfl) .nil))) (.box rfl (.cons (.of_eq rfl) .nil) .nil)) rfl)
          · intro hc27
            replace h := cond_f hc27 h
            refine W.skip ?_
            exact W.jfall h (Sw.Sub.mk id (.cons rfl (.of_eq rfl) (.cons rfl (.of_eq rfl) (.cons rfl (.of_eq rfl) (.cons rfl (.of_eq rfl) (.cons rfl (.of_eq rfl) (.cons rfl (.of_eq rfl) .nil)))))) (.box rfl (.cons (.of_eq rfl) (.cons (.of_eq rfl) (.cons (.of_eq rfl) .nil))) (.box rfl (.cons (.of_eq rfl) .nil) .nil)) rfl)
        · intro hc21
          replace h := cond_t hc21 h
          refine W.reg (σ' := ⟨[(1, .v (Enc.int .i64) a1), (3, .ptr 101 0), (5, .ptr 102 0), (7, .v (Enc.int .i64) v5), (9, .v (Enc.int .i64) (4 : Int)), (10, .v (Enc.int .i64) x17)], [(101, .box 49 [.v (Enc.sl eBlk) a0.1, .v (Enc.sl (Enc.pr (Enc.int .i64) eBlk)) a0.2.1, .v (Enc.int .i64) a0.2.2]), (102, .box 24 [.v eBlk a2])]⟩) (J.cons (.none rfl) (JO.assign rfl) rfl rfl (J.fin (Sw.Sub.mk id (.cons rfl (.of_eq rfl) (.cons rfl (.of_eq rfl) (.cons rfl (.of_eq rfl) (.cons rfl (.of_eq rfl) (.cons rfl (.of_eq rfl) (.cons rfl (.of_eq rfl) .nil)))))) (.box rfl (.cons (.of_eq rfl) (.cons (.of_eq rfl) (.cons (.of_eq rfl) .nil))) (.box rfl (.cons (.of_eq rfl) .nil) .nil)) rfl))) ?_
          exact W.jfall h (Sw.Sub.mk id (.cons rfl (.of_eq rfl) (.cons rfl (.of_eq rfl) (.cons rfl (.of_eq rfl) (.cons rfl (.of_eq rfl) (.cons rfl (.of_eq rfl) (.cons rfl (.of_eq rfl) .nil)))))) (.box rfl (.cons (.of_eq rfl) (.cons (.of_eq rfl) (.cons (.of_eq rfl) .nil))) (.box rfl (.cons (.of_eq rfl) .nil) .nil)) rfl)
        · intro hc21
          replace h := cond_f hc21 h
          refine W.skip ?_
          exact W.jfall h (Sw.Sub.mk id (.cons rfl (.of_eq rfl) (.cons rfl (.of_eq rfl) (.cons rfl (.of_eq rfl) (.cons rfl (.of_eq rfl) (.cons rfl (.of_eq rfl) (.cons rfl (.of_eq rfl) .nil)))))) (.box rfl (.cons (.of_eq rfl) (.cons (.of_eq rfl) (.cons (.of_eq rfl) .nil))) (.box rfl (.cons (.of_eq rfl) .nil) .nil)) rfl)
      · intro hc15
        replace h := cond_t hc15 h
        refine W.reg (σ' := ⟨[(1, .v (Enc.int .i64) a1), (3, .ptr 101 0), (5, .ptr 102 0), (7, .v (Enc.int .i64) v5), (9, .v (Enc.int .i64) (1 : Int))], [(101, .box 49 [.v (Enc.sl eBlk) a0.1, .v (Enc.sl (Enc.pr (Enc.int .i64) eBlk)) a0.2.1, .v (Enc.int .i64) a0.2.2]), (102, .box 24 [.v eBlk a2])]⟩) (J.cons (.none rfl) (JO.assign rfl) rfl rfl (J.fin (Sw.Sub.mk id (.cons rfl (.of_eq rfl) (.cons rfl (.of_eq rfl) (.cons rfl (.of_eq rfl) (.cons rfl (.of_eq rfl) (.cons rfl (.of_eq rfl) .nil))))) (.box rfl (.cons (.of_eq rfl) (.cons (.of_eq rfl) (.cons (.of_eq rfl) .nil))) (.box rfl (.cons (.of_eq rfl) .nil) .nil)) rfl))) ?_
        exact W.jfall h (Sw.Sub.mk id (.cons rfl (.of_eq rfl) (.cons rfl (.of_eq rfl) (.cons rfl (.of_eq rfl) (.cons rfl (.of_eq rfl) (.cons rfl (.of_eq rfl) .nil))))) (.box rfl (.cons (.of_eq rfl) (.cons (.of_eq rfl) (.cons (.of_eq rfl) .nil))) (.box rfl (.cons (.of_eq rfl) .nil) .nil)) rfl)
      · intro hc15
        replace h := cond_f hc15 h
        refine W.skip ?_
        exact W.jfall h (Sw.Sub.mk id (.cons rfl (.of_eq rfl) (.cons rfl (.of_eq rfl) (.cons rfl (.of_eq rfl) (.cons rfl (.of_eq rfl) (.cons rfl (.of_eq rfl) .nil))))) (.box rfl (.cons (.of_eq rfl) (.cons (.of_eq rfl) (.cons (.of_eq rfl) .nil))) (.box rfl (.cons (.of_eq rfl) .nil) .nil)) rfl)
set_option maxRecDepth 100000 in
set_option maxHeartbeats 4000000 in
theorem con_ref_OwnDisk_e {a0 : ((List Blk) × (List (Int × Blk)) × Int)} (hz : a0.2.1 = []) {r : ((List Blk) × (List (Int × Blk)) × Int)} (h : m_ref_OwnDisk_e a0 = some r) :
    Con Try.prog 62 [.v (Enc.pr (Enc.sl eBlk) (Enc.pr (Enc.sl (Enc.pr (Enc.int .i64) eBlk)) (Enc.int .i64))) a0] (.agg [.ref 0, .v (Enc.emp (Enc.pr (Enc.int .i64) eBlk)) (), .v (Enc.int .i64) r.2.2]) [(0, .arr 24 eBlk r.1)] := by
  refine Con.of Try.func62 rfl Try.ntmps62 rfl ?_
  intro S w hF
  unfold m_ref_OwnDisk_e at h
  refine W.seq ?_
  refine W.reg (σ' := ⟨[(1, .ptr 101 0), (2, .ptr 102 0)], [(101, .box 49 [.v (Enc.sl eBlk) a0.1, .v (Enc.sl (Enc.pr (Enc.int .i64) eBlk)) a0.2.1, .v (Enc.int .i64) a0.2.2]), (102, .box 49 [.v (Enc.sl eBlk) ([] : (List Blk)), .v (Enc.sl (Enc.pr (Enc.int .i64) eBlk)) ([] : (List (Int × Blk))), .v (Enc.int .i64) (0 : Int)])]⟩) (J.cons (.none rfl) (JO.box 101 rfl (.prm (.one _ _) (.prm (.one _ _) (.one _ _))) rfl) rfl rfl (J.cons (.none rfl) (JO.alloc 102 Try.zeroValue49 rfl (.cons (Z.sl eBlk) (.cons (Z.sl (Enc.pr (Enc.int .i64) eBlk)) (.cons (Z.int .i64) .nil))) rfl) rfl rfl (J.fin (Sw.Sub.mk id (.cons rfl (.of_eq rfl) (.cons rfl (.of_eq rfl) .nil)) (.box rfl (.cons (.of_eq rfl) (.cons (.of_eq rfl) (.cons (.of_eq rfl) .nil))) (.box rfl (.cons (.of_eq rfl) (.cons (.of_eq rfl) (.cons (.of_eq rfl) .nil))) .nil)) rfl)))) ?_
  refine W.seq ?_
  obtain ⟨v1, hv1, h⟩ := bind_e h
  obtain ⟨v2, hv2, h⟩ := bind_e h
  refine W.dr (σ' := ⟨[(2, .ptr 102 0)], [(102, .box 49 [.ref 103000, .v (Enc.emp (Enc.pr (Enc.int .i64) eBlk)) (), .v (Enc.int .i64) a0.2.2]), (103000, .arr 24 eBlk v1)]⟩) 9 mixed (by exact (.cons (.none rfl) (JO.fieldPtr 0 rfl Try.runUnderlying49 rfl Try.sizeOf22 rfl rfl) rfl rfl (.cons (.none rfl) (JO.load rfl rfl rfl Try.isAgg22 Try.sizeOf22) rfl rfl (.cons (.none rfl) (JO.call 103000 (con_ref_OwnBlocks hv1) Try.call48 (.cons (.dir rfl) .nil) rfl) rfl rfl (.cons (.none rfl) (JO.litE (Enc.pr (Enc.int .i64) eBlk) Try.runUnderlying47 Try.sizeOf85 Try.zeroValue85) rfl rfl (.cons (.none rfl) (JO.fieldPtr 1 rfl Try.runUnderlying49 rfl Try.sizeOf47 rfl rfl) rfl rfl (.cons (.none rfl) (JO.load rfl rfl rfl Try.isAgg47 Try.sizeOf47) rfl rfl (.cons (.none rfl) (JO.appEE hz hv2 rfl (.sl rfl) Try.runUnderlying47 Try.typeInfo85 Try.sizeOf85 rfl rfl rfl) rfl rfl (.cons (.none rfl) (JO.fieldPtr 2 rfl Try.runUnderlying49 rfl Try.sizeOf3 rfl rfl) rfl rfl (.cons (.none rfl) (JO.load rfl rfl rfl Try.isAgg3 Try.sizeOf3) rfl rfl .nil)))))))))) (by exact (J.cons (.none rfl) (JO.build built49 (.cons (Z.sl eBlk) (.cons (Z.sl (Enc.pr (Enc.int .i64) eBlk)) (.cons (Z.int .i64) .nil))) (.cons rfl (.dir rfl) rfl rfl rfl rfl (.cons rfl (.dir rfl) rfl rfl rfl rfl (.cons rfl (.dir rfl) rfl rfl rfl rfl .nil)))) rfl rfl (J.mut (.none rfl) (JM.storeAgg rfl rfl rfl rfl rfl rfl Try.sizeOf49) (J.fin (Sw.Sub.mk id (.cons rfl (.of_eq rfl) .nil) (.box rfl (.cons (.of_eq rfl) (.cons (.of_eq rfl) (.cons (.of_eq rfl) .nil))) (.arr rfl .nil)) rfl))))) (by decide +kernel) (by decide +kernel) (by decide +kernel) ?_
  refine W.ret ?_
  obtain rfl := Option.some.inj h
  exact XQ.sub (σ' := ⟨[(2, .ptr 90 0)], [(90, .box 49 [.ref 0, .v (Enc.emp (Enc.pr (Enc.int .i64) eBlk)) (), .v (Enc.int .i64) a0.2.2]), (0, .arr 24 eBlk v1)]⟩) (Sw.Sub.mk (rn [(90, 102), (0, 103000)]) (.cons rfl (.of_eq rfl) .nil) (.box rfl (.cons (.of_eq rfl) (.cons (.of_eq rfl) (.cons (.of_eq rfl) .nil))) (.arr rfl .nil)) rfl) (XQ.ret1 hF noR rfl (RV.cellAgg rfl rfl rfl Try.isAgg49 Try.sizeOf49) (.cons rfl .nil) rfl)
end Go.Cn
