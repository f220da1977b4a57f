/- The functions that this law reaches come to what their models come to. Conditions: none. -/
import Derived.Test.YteckohdbfkhmdaaMoPlanSays
import Derived.KernelRfl
import Derived.Test.YteckohdbfkhmdaaChecked
set_option linter.unusedVariables false
set_option linter.unusedSimpArgs false
namespace Go.Cn
open Go Go.Sw Go.Mo Go.Proofs
abbrev ET : Nat := 25
theorem mixed : Try.prog.follows .mixedOrders = true := Try.checked.mixed
theorem eq24 : EqE 2 Try.prog 24 eBlk := EqE.arr Try.runUnderlying24 Try.sizeOf5 Try.isAgg5 (EqE.int Try.underlying5)
theorem eq81 : EqE 3 Try.prog 81 (Enc.pr (Enc.int .i64) (Enc.pr (Enc.int .i64) (Enc.pr (Enc.int .i64) eBlk))) := EqE.struct Try.runUnderlying81 Try.stoodInHeld81 rfl (EqFs.cons (by decide) rfl (EqE.up 2 (EqE.int Try.underlying3) rfl) Try.isAgg3 Try.sizeOf3 (EqFs.cons (by decide) rfl (EqE.up 2 (EqE.int Try.underlying3) rfl) Try.isAgg3 Try.sizeOf3 (EqFs.cons (by decide) rfl (EqE.up 2 (EqE.int Try.underlying3) rfl) Try.isAgg3 Try.sizeOf3 (EqFs.last (by decide) rfl eq24 Try.isAgg24 Try.sizeOf24))))
theorem key24 : KeyE 2 Try.prog 24 eBlk := KeyE.arr Try.runUnderlying24 Try.sizeOf5 Try.isAgg5 (KeyE.int Try.runUnderlying5)
theorem built81 : ∀ parts, Try.prog.built 81 parts = Instr.fill (([(0, 1), (1, 1), (2, 1), (3, 8)] : List (Nat × Nat)).toArray[·]?) ([.int .i64 0, .int .i64 0, .int .i64 0, .int .u8 0, .int .u8 0, .int .u8 0, .int .u8 0, .int .u8 0, .int .u8 0, .int .u8 0, .int .u8 0] : List Value).toArray parts := built_struct Try.typeInfo81 Try.runUnderlying81 rfl rfl (.cons rfl (by kernel_rfl) (by kernel_rfl) (.cons rfl (by kernel_rfl) (by kernel_rfl) (.cons rfl (by kernel_rfl) (by kernel_rfl) (.cons rfl (by kernel_rfl) (by kernel_rfl) .nil))))
theorem built155 : ∀ parts, Try.prog.built 155 parts = Instr.fill (([] : List (Nat × Nat)).toArray[·]?) ([] : List Value).toArray parts := built_struct Try.typeInfo155 Try.runUnderlying155 rfl rfl .nil
theorem built157 : ∀ parts, Try.prog.built 157 parts = Instr.fill (([(0, 1)] : List (Nat × Nat)).toArray[·]?) ([.pointer none] : List Value).toArray parts := built_struct Try.typeInfo157 Try.runUnderlying157 rfl rfl (.cons rfl (by kernel_rfl) (by kernel_rfl) .nil)
theorem built159 : ∀ parts, Try.prog.built 159 parts = Instr.fill (([(0, 1)] : List (Nat × Nat)).toArray[·]?) ([.slice none 0 0] : List Value).toArray parts := built_struct Try.typeInfo159 Try.runUnderlying159 rfl rfl (.cons rfl (by kernel_rfl) (by kernel_rfl) .nil)
theorem built160 : ∀ parts, Try.prog.built 160 parts = Instr.fill (([] : List (Nat × Nat)).toArray[·]?) ([] : List Value).toArray parts := built_struct Try.typeInfo160 Try.runUnderlying160 rfl rfl .nil
theorem built175 : ∀ parts, Try.prog.built 175 parts = Instr.fill (([(0, 1), (1, 1)] : List (Nat × Nat)).toArray[·]?) ([.slice none 0 0, .map none] : List Value).toArray parts := built_struct Try.typeInfo175 Try.runUnderlying175 rfl rfl (.cons rfl (by kernel_rfl) (by kernel_rfl) (.cons rfl (by kernel_rfl) (by kernel_rfl) .nil))
set_option maxRecDepth 100000 in
set_option maxHeartbeats 4000000 in
theorem con_ref_First {a0 : (List Blk)} {a1 : Blk} {r : Int} (h : m_ref_First a0 a1 = some r) :
    Con Try.prog 68 [.v (Enc.sl eBlk) a0, .v eBlk a1] (.v (Enc.int .i64) r) [] := by
  refine Con.of Try.func68 rfl Try.ntmps68 rfl ?_
  intro S w hF
  unfold m_ref_First at h
  refine W.seq ?_
  refine W.reg (σ' := ⟨[(0, .v (Enc.sl eBlk) a0), (3, .ptr 101 0)], [(101, .box 24 [.v eBlk a1])]⟩) (J.cons (.none rfl) (JO.box 101 rfl (.one _ _) rfl) rfl rfl (J.cons (.none rfl) (JO.assign rfl) rfl rfl (J.fin (Sw.Sub.mk id (.cons rfl (.of_eq rfl) (.cons rfl (.of_eq rfl) .nil)) (.box rfl (.cons (.of_eq rfl) .nil) .nil) rfl)))) ?_
  refine W.seq ?_
  refine W.seq ?_
  refine W.reg (σ' := ⟨[(0, .v (Enc.sl eBlk) a0), (3, .ptr 101 0), (5, .v (Enc.int .i64) (0 : Int))], [(101, .box 24 [.v eBlk a1])]⟩) (J.cons (.none rfl) (JO.assign rfl) rfl rfl (J.fin (Sw.Sub.mk id (.cons rfl (.of_eq rfl) (.cons rfl (.of_eq rfl) (.cons rfl (.of_eq rfl) .nil))) (.box rfl (.cons (.of_eq rfl) .nil) .nil) rfl))) ?_
  obtain ⟨o13, ho13, hb13, hr13⟩ := lp_elim h
  refine W.lp (σs := fun s9 : Int => ⟨[(0, .v (Enc.sl eBlk) a0), (3, .ptr 101 0), (5, .v (Enc.int .i64) s9)], [(101, .box 24 [.v eBlk a1])]⟩) (fun x14 : Unit => ⟨[], []⟩) ho13 (Sw.Sub.mk id (.cons rfl (.of_eq rfl) (.cons rfl (.of_eq rfl) (.cons rfl (.of_eq rfl) .nil))) (.box rfl (.cons (.of_eq rfl) .nil) .nil) rfl) ?_ ?_
  · intro x14 hy
    have h := hb13 _ hy
    refine W.seq ?_
    refine W.reg (σ' := ⟨[(4, .v (Enc.int .i64) (-1 : Int))], []⟩) (J.cons (.none rfl) (JO.assign rfl) rfl rfl (J.fin (Sw.Sub.mk id (.cons rfl (.of_eq rfl) .nil) .nil rfl))) ?_
    refine W.ret ?_
    obtain rfl := Option.some.inj h
    exact XQ.sub (σ' := ⟨[(4, .v (Enc.int .i64) (-1 : Int))], []⟩) (Sw.Sub.mk id (.cons rfl (.of_eq rfl) .nil) .nil rfl) (XQ.ret1 hF noR rfl (RV.tmp rfl) .nil rfl)
  intro s9 r13 h
  refine W.seq ?_
  refine W.seq ?_
  refine W.reg (σ' := ⟨[(0, .v (Enc.sl eBlk) a0), (3, .ptr 101 0), (5, .v (Enc.int .i64) s9), (9, .v Enc.bool (cm .lss s9 (a0.length : Int)))], [(101, .box 24 [.v eBlk a1])]⟩) (J.cons (.none rfl) (JO.move rfl) rfl rfl (J.cons (.none rfl) (JO.move rfl) rfl rfl (J.cons (.none rfl) (JO.len rfl Try.runUnderlying22) rfl rfl (J.cons (.none rfl) (JO.cmp rfl rfl rfl) rfl rfl (J.fin (Sw.Sub.mk id (.cons rfl (.of_eq rfl) (.cons rfl (.of_eq rfl) (.cons rfl (.of_eq rfl) (.cons rfl (.of_eq rfl) .nil)))) (.box rfl (.cons (.of_eq rfl) .nil) .nil) rfl)))))) ?_
  rcases Bool.eq_false_or_eq_true (cm .lss s9 (a0.length : Int)) with hc15 | hc15
  · replace h := cond_t hc15 h
    refine W.condT rfl hc15 ?_
    refine W.skip ?_
    refine W.seq ?_
    refine W.block ?_
    refine W.seq ?_
    obtain ⟨z16, hz16, h⟩ := bind_e h
    refine W.dr2 (σ' := ⟨[(0, .v (Enc.sl eBlk) a0), (3, .ptr 101 0), (5, .v (Enc.int .i64) s9), (17, .v Enc.bool (decide (z16 = a1)))], [(101, .box 24 [.v eBlk a1])]⟩) 6 [0, 0, 3, 7, 0, 31] mixed (by exact (.cons (.none rfl) (JO.move rfl) rfl rfl (.cons (.none rfl) (JO.move rfl) rfl rfl (.cons (.none rfl) (JO.idx hz16 rfl rfl Try.runUnderlying22 Try.sizeOf24) rfl rfl (.cons (.none rfl) (JO.loadPst rfl Try.isAgg24 Try.sizeOf24) rfl rfl (.cons (.none rfl) (JO.load rfl rfl rfl Try.isAgg24 Try.sizeOf24) rfl rfl (.cons (.none rfl) (JO.eqV eq24 rfl rfl Try.eqGuardType24 rfl rfl) rfl rfl .nil))))))) (by exact (J.fin (Sw.Sub.mk id (.cons rfl (.of_eq rfl) (.cons rfl (.of_eq rfl) (.cons rfl (.of_eq rfl) (.cons rfl (.of_eq rfl) .nil)))) (.box rfl (.cons (.of_eq rfl) .nil) .nil) rfl))) rfl (by decide +kernel) (by decide +kernel) (by decide +kernel) (by kernel_rfl) ?_
    rcases Bool.eq_false_or_eq_true (decide (z16 = a1)) with hc17 | hc17
    · replace h := cond_t hc17 h
      refine W.condT rfl hc17 ?_
      refine W.seq ?_
      refine W.reg (σ' := ⟨[(4, .v (Enc.int .i64) s9)], []⟩) (J.cons (.none rfl) (JO.move rfl) rfl rfl (J.cons (.none rfl) (JO.assign rfl) rfl rfl (J.fin (Sw.Sub.mk id (.cons rfl (.of_eq rfl) .nil) .nil rfl)))) ?_
      refine W.ret ?_
      refine XQ.ret ?_
      obtain rfl := Option.some.inj h
      refine XQ.lret fun ho => ?_
      obtain rfl := hr13 _ ho
      exact XQ.sub (σ' := ⟨[(4, .v (Enc.int .i64) s9)], []⟩) (Sw.Sub.mk id (.cons rfl (.of_eq rfl) .nil) .nil rfl) (XQ.ret1 hF noR rfl (RV.tmp rfl) .nil rfl)
    · replace h := cond_f hc17 h
      refine W.condF rfl hc17 ?_
      refine W.skip ?_
      refine W.fall ?_
      refine W.reg (σ' := ⟨[(0, .v (Enc.sl eBlk) a0), (3, .ptr 101 0), (5, .v (Enc.int .i64) (ar .add .i64 s9 (1 : Int)))], [(101, .box 24 [.v eBlk a1])]⟩) (J.cons (.none rfl) (JO.move rfl) rfl rfl (J.cons (.none rfl) (JO.arith rfl rfl rfl) rfl rfl (J.cons (.none rfl) (JO.assign rfl) rfl rfl (J.fin (Sw.Sub.mk id (.cons rfl (.of_eq rfl) (.cons rfl (.of_eq rfl) (.cons rfl (.of_eq rfl) .nil))) (.box rfl (.cons (.of_eq rfl) .nil) .nil) rfl))))) ?_
      obtain rfl := Option.some.inj h
      exact W.next (Sw.Sub.mk id (.cons rfl (.of_eq rfl) (.cons rfl (.of_eq rfl) (.cons rfl (.of_eq rfl) .nil))) (.box rfl (.cons (.of_eq rfl) .nil) .nil) rfl)
  · replace h := cond_f hc15 h
    refine W.condF rfl hc15 ?_
    refine W.exit ?_
    obtain rfl := Option.some.inj h
    exact XQ.brk (Sw.Sub.mk id .nil .nil rfl)
set_option maxRecDepth 100000 in
set_option maxHeartbeats 4000000 in
theorem con_ref_HadMay {a0 : (List Blk)} {r : Int} (h : m_ref_HadMay a0 = some r) :
    Con Try.prog 15 [.v (Enc.sl eBlk) a0] (.v (Enc.int .i64) r) [] := by
  refine Con.of Try.func15 rfl Try.ntmps15 rfl ?_
  intro S w hF
  unfold m_ref_HadMay at h
  refine W.seq ?_
  refine W.reg (σ' := ⟨[(0, .v (Enc.sl eBlk) a0)], []⟩) (J.cons (.none rfl) (JO.assign rfl) rfl rfl (J.fin (Sw.Sub.mk id (.cons rfl (.of_eq rfl) .nil) .nil rfl))) ?_
  refine W.seq ?_
  refine W.seq ?_
  refine W.reg (σ' := ⟨[(0, .v (Enc.sl eBlk) a0), (6, .v Enc.bool (cm .gtr (a0.length : Int) (8 : Int)))], []⟩) (J.cons (.none rfl) (JO.move rfl) rfl rfl (J.cons (.none rfl) (JO.len rfl Try.runUnderlying22) rfl rfl (J.cons (.none rfl) (JO.cmp rfl rfl rfl) rfl rfl (J.fin (Sw.Sub.mk id (.cons rfl (.of_eq rfl) (.cons rfl (.of_eq rfl) .nil)) .nil rfl))))) ?_
  rcases Bool.eq_false_or_eq_true (cm .gtr (a0.length : Int) (8 : Int)) with hc1 | hc1
  · replace h := cond_t hc1 h
    refine W.condT rfl hc1 ?_
    refine W.seq ?_
    refine W.reg (σ' := ⟨[(2, .v (Enc.int .i64) (2 : Int))], []⟩) (J.cons (.none rfl) (JO.assign rfl) rfl rfl (J.fin (Sw.Sub.mk id (.cons rfl (.of_eq rfl) .nil) .nil rfl))) ?_
    refine W.ret ?_
    obtain rfl := Option.some.inj h
    exact XQ.sub (σ' := ⟨[(2, .v (Enc.int .i64) (2 : Int))], []⟩) (Sw.Sub.mk id (.cons rfl (.of_eq rfl) .nil) .nil rfl) (XQ.ret1 hF noR rfl (RV.tmp rfl) .nil rfl)
  · replace h := cond_f hc1 h
    refine W.condF rfl hc1 ?_
    refine W.skip ?_
    refine W.seq ?_
    refine W.seq ?_
    refine W.reg (σ' := ⟨[(0, .v (Enc.sl eBlk) a0), (3, .v (Enc.int .i64) (0 : Int))], []⟩) (J.cons (.none rfl) (JO.assign rfl) rfl rfl (J.fin (Sw.Sub.mk id (.cons rfl (.of_eq rfl) (.cons rfl (.of_eq rfl) .nil)) .nil rfl))) ?_
    obtain ⟨o17, ho17, hb17, hr17⟩ := lp_elim h
    refine W.lp (σs := fun s12 : Int => ⟨[(0, .v (Enc.sl eBlk) a0), (3, .v (Enc.int .i64) s12)], []⟩) (fun x18 : Unit => ⟨[], []⟩) ho17 (Sw.Sub.mk id (.cons rfl (.of_eq rfl) (.cons rfl (.of_eq rfl) .nil)) .nil rfl) ?_ ?_
    · intro x18 hy
      have h := hb17 _ hy
      refine W.seq ?_
      refine W.reg (σ' := ⟨[(2, .v (Enc.int .i64) (0 : Int))], []⟩) (J.cons (.none rfl) (JO.assign rfl) rfl rfl (J.fin (Sw.Sub.mk id (.cons rfl (.of_eq rfl) .nil) .nil rfl))) ?_
      refine W.ret ?_
      obtain rfl := Option.some.inj h
      exact XQ.sub (σ' := ⟨[(2, .v (Enc.int .i64) (0 : Int))], []⟩) (Sw.Sub.mk id (.cons rfl (.of_eq rfl) .nil) .nil rfl) (XQ.ret1 hF noR rfl (RV.tmp rfl) .nil rfl)
    intro s12 r17 h
    refine W.seq ?_
    refine W.seq ?_
    refine W.reg (σ' := ⟨[(0, .v (Enc.sl eBlk) a0), (3, .v (Enc.int .i64) s12), (10, .v Enc.bool (cm .lss s12 (a0.length : Int)))], []⟩) (J.cons (.none rfl) (JO.move rfl) rfl rfl (J.cons (.none rfl) (JO.move rfl) rfl rfl (J.cons (.none rfl) (JO.len rfl Try.runUnderlying22) rfl rfl (J.cons (.none rfl) (JO.cmp rfl rfl rfl) rfl rfl (J.fin (Sw.Sub.mk id (.cons rfl (.of_eq rfl) (.cons rfl (.of_eq rfl) (.cons rfl (.of_eq rfl) .nil))) .nil rfl)))))) ?_
    rcases Bool.eq_false_or_eq_true (cm .lss s12 (a0.length : Int)) with hc19 | hc19
    · replace h := cond_t hc19 h
      refine W.condT rfl hc19 ?_
      refine W.skip ?_
      refine W.seq ?_
      refine W.block ?_
      refine W.seq ?_
      obtain ⟨z20, hz20, h⟩ := bind_e h
      obtain ⟨v21, hv21, h⟩ := bind_e h
      refine W.reg (σ' := ⟨[(0, .v (Enc.sl eBlk) a0), (3, .v (Enc.int .i64) s12), (20, .v Enc.bool (cm .lss v21 s12))], []⟩) (J.cons (.none rfl) (JO.move rfl) rfl rfl (J.cons (.none rfl) (JO.move rfl) rfl rfl (J.cons (.none rfl) (JO.move rfl) rfl rfl (J.cons (.none rfl) (JO.idx hz20 rfl rfl Try.runUnderlying22 Try.sizeOf24) rfl rfl (J.cons (.none rfl) (JO.loadPst rfl Try.isAgg24 Try.sizeOf24) rfl rfl (J.cons (.none rfl) (JO.call0 (con_ref_First hv21) Try.call68 (.cons (.dir rfl) (.cons (.dir rfl) .nil))) rfl rfl (J.cons (.none rfl) (JO.move rfl) rfl rfl (J.cons (.none rfl) (JO.cmp rfl rfl rfl) rfl rfl (J.fin (Sw.Sub.mk id (.cons rfl (.of_eq rfl) (.cons rfl (.of_eq rfl) (.cons rfl (.of_eq rfl) .nil))) .nil rfl)))))))))) ?_
      rcases Bool.eq_false_or_eq_true (cm .lss v21 s12) with hc22 | hc22
      · replace h := cond_t hc22 h
        refine W.condT rfl hc22 ?_
        refine W.seq ?_
        refine W.reg (σ' := ⟨[(2, .v (Enc.int .i64) (3 : Int))], []⟩) (J.cons (.none rfl) (JO.assign rfl) rfl rfl (J.fin (Sw.Sub.mk id (.cons rfl (.of_eq rfl) .nil) .nil rfl))) ?_
        refine W.ret ?_
        refine XQ.ret ?_
        obtain rfl := Option.some.inj h
        refine XQ.lret fun ho => ?_
        obtain rfl := hr17 _ ho
        exact XQ.sub (σ' := ⟨[(2, .v (Enc.int .i64) (3 : Int))], []⟩) (Sw.Sub.mk id (.cons rfl (.of_eq rfl) .nil) .nil rfl) (XQ.ret1 hF noR rfl (RV.tmp rfl) .nil rfl)
      · replace h := cond_f hc22 h
        refine W.condF rfl hc22 ?_
        refine W.skip ?_
        refine W.fall ?_
        refine W.reg (σ' := ⟨[(0, .v (Enc.sl eBlk) a0), (3, .v (Enc.int .i64) (ar .add .i64 s12 (1 : Int)))], []⟩) (J.cons (.none rfl) (JO.move rfl) rfl rfl (J.cons (.none rfl) (JO.arith rfl rfl rfl) rfl rfl (J.cons (.none rfl) (JO.assign rfl) rfl rfl (J.fin (Sw.Sub.mk id (.cons rfl (.of_eq rfl) (.cons rfl (.of_eq rfl) .nil)) .nil rfl))))) ?_
        obtain rfl := Option.some.inj h
        exact W.next (Sw.Sub.mk id (.cons rfl (.of_eq rfl) (.cons rfl (.of_eq rfl) .nil)) .nil rfl)
    · replace h := cond_f hc19 h
      refine W.condF rfl hc19 ?_
      refine W.exit ?_
      obtain rfl := Option.some.inj h
      exact XQ.brk (Sw.Sub.mk id .nil .nil rfl)
set_option maxRecDepth 100000 in
set_option maxHeartbeats 4000000 in
theorem con_ref_PlanMay {a0 : (List Blk)} {a1 : (List Blk)} {r : Int} (h : m_ref_PlanMay a0 a1 = some r) :
    Con Try.prog 43 [.v (Enc.sl eBlk) a0, .v (Enc.sl eBlk) a1] (.v (Enc.int .i64) r) [] := by
  refine Con.of Try.func43 rfl Try.ntmps43 rfl ?_
  intro S w hF
  unfold m_ref_PlanMay at h
  refine W.seq ?_
  refine W.reg (σ' := ⟨[(0, .v (Enc.sl eBlk) a0), (1, .v (Enc.sl eBlk) a1)], []⟩) (J.cons (.none rfl) (JO.assign rfl) rfl rfl (J.fin (Sw.Sub.mk id (.cons rfl (.of_eq rfl) (.cons rfl (.of_eq rfl) .nil)) .nil rfl))) ?_
  refine W.seq ?_
  refine W.seq ?_
  obtain ⟨x2, hx, h⟩ := bind_e h
  refine W.reg (σ' := ⟨[(1, .v (Enc.sl eBlk) a1), (12, .v Enc.bool x2)], []⟩) ?_ ?_
  · rcases Bool.eq_false_or_eq_true (cm .lss (a0.length : Int) (1 : Int)) with hc3 | hc3
    · replace hx := cond_t hc3 hx
      obtain rfl := Option.some.inj hx
      exact (J.cons (.none rfl) (JO.move rfl) rfl rfl (J.cons (.none rfl) (JO.len rfl Try.runUnderlying22) rfl rfl (J.cons (.none rfl) (JO.cmp rfl rfl rfl) rfl rfl (J.cons (.none rfl) (JO.move rfl) rfl rfl (J.left (GK.unmet 8 rfl rfl rfl hc3) rfl (J.left (GK.unmet 8 rfl rfl rfl hc3) rfl (J.left (GK.unmet 8 rfl rfl rfl hc3) rfl (J.cons (.none rfl) (JO.pT hc3 rfl rfl) rfl rfl (J.fin (Sw.Sub.mk id (.cons rfl (.of_eq rfl) (.cons rfl (.of_eq rfl) .nil)) .nil rfl))))))))))
    · replace hx := cond_f hc3 hx
      obtain rfl := Option.some.inj hx
      exact (J.cons (.none rfl) (JO.move rfl) rfl rfl (J.cons (.none rfl) (JO.len rfl Try.runUnderlying22) rfl rfl (J.cons (.none rfl) (JO.cmp rfl rfl rfl) rfl rfl (J.cons (.none rfl) (JO.move rfl) rfl rfl (J.cons (GK.met 8 rfl rfl rfl hc3) (JO.move rfl) rfl rfl (J.cons (GK.met 8 rfl rfl rfl hc3) (JO.len rfl Try.runUnderlying22) rfl rfl (J.cons (GK.met 8 rfl rfl rfl hc3) (JO.cmp rfl rfl rfl) rfl rfl (J.cons (.none rfl) (JO.pF hc3 rfl rfl) rfl rfl (J.fin (Sw.Sub.mk id (.cons rfl (.of_eq rfl) (.cons rfl (.of_eq rfl) .nil)) .nil rfl))))))))))
  rcases Bool.eq_false_or_eq_true x2 with hc4 | hc4
  · replace h := cond_t hc4 h
    refine W.condT rfl hc4 ?_
    refine W.seq ?_
    refine W.reg (σ' := ⟨[(4, .v (Enc.int .i64) (1 : Int))], []⟩) (J.cons (.none rfl) (JO.assign rfl) rfl rfl (J.fin (Sw.Sub.mk id (.cons rfl (.of_eq rfl) .nil) .nil rfl))) ?_
    refine W.ret ?_
    obtain rfl := Option.some.inj h
    exact XQ.sub (σ' := ⟨[(4, .v (Enc.int .i64) (1 : Int))], []⟩) (Sw.Sub.mk id (.cons rfl (.of_eq rfl) .nil) .nil rfl) (XQ.ret1 hF noR rfl (RV.tmp rfl) .nil rfl)
  · replace h := cond_f hc4 h
    refine W.condF rfl hc4 ?_
    refine W.skip ?_
    refine W.seq ?_
    obtain ⟨v5, hv5, h⟩ := bind_e h
    refine W.reg (σ' := ⟨[(4, .v (Enc.int .i64) v5)], []⟩) (J.cons (.none rfl) (JO.move rfl) rfl rfl (J.cons (.none rfl) (JO.call0 (con_ref_HadMay hv5) Try.call15 (.cons (.dir rfl) .nil)) rfl rfl (J.cons (.none rfl) (JO.assign rfl) rfl rfl (J.fin (Sw.Sub.mk id (.cons rfl (.of_eq rfl) .nil) .nil rfl))))) ?_
    refine W.ret ?_
    obtain rfl := Option.some.inj h
    exact XQ.sub (σ' := ⟨[(4, .v (Enc.int .i64) v5)], []⟩) (Sw.Sub.mk id (.cons rfl (.of_eq rfl) .nil) .nil rfl) (XQ.ret1 hF noR rfl (RV.tmp rfl) .nil rfl)
set_option maxRecDepth 100000 in
set_option maxHeartbeats 4000000 in
theorem con_ref_Rising {a0 : (List (Int × Blk))} {a1 : Int} {r : Bool} (h : m_ref_Rising a0 a1 = some r) :
    Con Try.prog 65 [.v (Enc.sl (Enc.pr (Enc.int .i64) eBlk)) a0, .v (Enc.int .i64) a1] (.v Enc.bool r) [] := by
  refine Con.of Try.func65 rfl Try.ntmps65 rfl ?_
  intro S w hF
  unfold m_ref_Rising at h
  refine W.seq ?_
  refine W.reg (σ' := ⟨[(0, .v (Enc.sl (Enc.pr (Enc.int .i64) eBlk)) a0), (1, .v (Enc.int .i64) a1)], []⟩) (J.cons (.none rfl) (JO.assign rfl) rfl rfl (J.fin (Sw.Sub.mk id (.cons rfl (.of_eq rfl) (.cons rfl (.of_eq rfl) .nil)) .nil rfl))) ?_
  refine W.seq ?_
  refine W.seq ?_
  refine W.reg (σ' := ⟨[(0, .v (Enc.sl (Enc.pr (Enc.int .i64) eBlk)) a0), (1, .v (Enc.int .i64) a1), (5, .v (Enc.int .i64) (0 : Int))], []⟩) (J.cons (.none rfl) (JO.assign rfl) rfl rfl (J.fin (Sw.Sub.mk id (.cons rfl (.of_eq rfl) (.cons rfl (.of_eq rfl) (.cons rfl (.of_eq rfl) .nil))) .nil rfl))) ?_
  obtain ⟨o55, ho55, hb55, hr55⟩ := lp_elim h
  refine W.lp (σs := fun s37 : Int => ⟨[(0, .v (Enc.sl (Enc.pr (Enc.int .i64) eBlk)) a0), (1, .v (Enc.int .i64) a1), (5, .v (Enc.int .i64) s37)], []⟩) (fun x56 : Unit => ⟨[], []⟩) ho55 (Sw.Sub.mk id (.cons rfl (.of_eq rfl) (.cons rfl (.of_eq rfl) (.cons rfl (.of_eq rfl) .nil))) .nil rfl) ?_ ?_
  · intro x56 hy
    have h := hb55 _ hy
    refine W.seq ?_
    refine W.reg (σ' := ⟨[(4, .v Enc.bool true)], []⟩) (J.cons (.none rfl) (JO.assign rfl) rfl rfl (J.fin (Sw.Sub.mk id (.cons rfl (.of_eq rfl) .nil) .nil rfl))) ?_
    refine W.ret ?_
    obtain rfl := Option.some.inj h
    exact XQ.sub (σ' := ⟨[(4, .v Enc.bool true)], []⟩) (Sw.Sub.mk id (.cons rfl (.of_eq rfl) .nil) .nil rfl) (XQ.ret1 hF noR rfl (RV.tmp rfl) .nil rfl)
  intro s37 r55 h
  refine W.seq ?_
  refine W.seq ?_
  refine W.reg (σ' := ⟨[(0, .v (Enc.sl (Enc.pr (Enc.int .i64) eBlk)) a0), (1, .v (Enc.int .i64) a1), (5, .v (Enc.int .i64) s37), (9, .v Enc.bool (cm .lss s37 (a0.length : Int)))], []⟩) (J.cons (.none rfl) (JO.move rfl) rfl rfl (J.cons (.none rfl) (JO.move rfl) rfl rfl (J.cons (.none rfl) (JO.len rfl Try.runUnderlying47) rfl rfl (J.cons (.none rfl) (JO.cmp rfl rfl rfl) rfl rfl (J.fin (Sw.Sub.mk id (.cons rfl (.of_eq rfl) (.cons rfl (.of_eq rfl) (.cons rfl (.of_eq rfl) (.cons rfl (.of_eq rfl) .nil)))) .nil rfl)))))) ?_
  rcases Bool.eq_false_or_eq_true (cm .lss s37 (a0.length : Int)) with hc57 | hc57
  · replace h := cond_t hc57 h
    refine W.condT rfl hc57 ?_
    refine W.skip ?_
    refine W.seq ?_
    refine W.block ?_
    refine W.seq ?_
    obtain ⟨x65, hx, h⟩ := bind_e h
    refine W.mg (σ' := ⟨[(0, .v (Enc.sl (Enc.pr (Enc.int .i64) eBlk)) a0), (1, .v (Enc.int .i64) a1), (5, .v (Enc.int .i64) s37), (44, .v Enc.bool x65)], []⟩) ?_ ?_
    · intro hk
      obtain ⟨z66, hz66, hx⟩ := bind_e hx
      rcases Bool.eq_false_or_eq_true (cm .lss z66.1 (0 : Int)) with hc67 | hc67
      · replace hx := cond_t hc67 hx
        obtain rfl := Option.some.inj hx
        exact W.dr2 (σ' := ⟨[(0, .v (Enc.sl (Enc.pr (Enc.int .i64) eBlk)) a0), (1, .v (Enc.int .i64) a1), (5, .v (Enc.int .i64) s37), (44, .v Enc.bool true)], []⟩) 33 [0, 0, 3, 7, 15, 31, 63, 127, 127, 511, 1023, 2047, 127, 8191, 16383, 32767, 65535, 131071, 262143, 524287, 524287, 2097151, 4194303, 8388607, 524287, 524287, 34078719, 117964799, 252182527, 520617983, 1073741823, 2147483647, 4294967295] mixed (by exact (.cons (.none rfl) (JO.move rfl) rfl rfl (.cons (.none rfl) (JO.move rfl) rfl rfl (.cons (.none rfl) (JO.idx hz66 rfl rfl Try.runUnderlying47 Try.sizeOf85) rfl rfl (.cons (.none rfl) (JO.fieldPst rfl Try.runUnderlying85 rfl Try.sizeOf3 rfl (.fst .here) rfl) rfl rfl (.cons (.none rfl) (JO.loadPst rfl Try.isAgg3 Try.sizeOf3) rfl rfl (.cons (.none rfl) (JO.cmp rfl rfl rfl) rfl rfl (.cons (.none rfl) (JO.move rfl) rfl rfl (.left (GK.unmet 18 rfl rfl rfl hc67) rfl (.left (GK.unmet 18 rfl rfl rfl hc67) rfl (.left (GK.unmet 18 rfl rfl rfl hc67) rfl (.left (GK.unmet 18 rfl rfl rfl hc67) rfl (.left (GK.unmet 18 rfl rfl rfl hc67) rfl (.left (GK.unmet 18 rfl rfl rfl hc67) rfl (.left (GK.unmet 18 rfl rfl rfl hc67) rfl (.cons (.none rfl) (JO.pT hc67 rfl rfl) rfl rfl (.cons (.none rfl) (JO.move rfl) rfl rfl (.left (GK.unmet 27 rfl rfl rfl rfl) rfl (.left (GK.unmet 27 rfl rfl rfl rfl) rfl (.left (GK.unmet 27 rfl rfl rfl rfl) rfl (.left (GK.und 30 rfl rfl rfl) rfl (.left (GK.und 30 rfl rfl rfl) rfl (.left (GK.und 30 rfl rfl rfl) rfl (.left (GK.und 30 rfl rfl rfl) rfl (.left (GK.und 30 rfl rfl rfl) rfl (.left (GK.und 30 rfl rfl rfl) rfl (.left (GK.und 30 rfl rfl rfl) rfl (.left (GK.und 30 rfl rfl rfl) rfl (.left (GK.und 30 rfl rfl rfl) rfl (.left (GK.und 30 rfl rfl rfl) rfl (.left (GK.und 30 rfl rfl rfl) rfl (.left (GK.und 30 rfl rfl rfl) rfl (.left (GK.unmet 27 rfl rfl rfl rfl) rfl (.cons (.none rfl) (JO.pT rfl rfl rfl) rfl rfl .nil)))))))))))))))))))))))))))))))))) (by exact (J.fin (Sw.Sub.mk id (.cons rfl (.of_eq rfl) (.cons rfl (.of_eq rfl) (.cons rfl (.of_eq rfl) (.cons rfl (.of_eq rfl) .nil)))) .nil rfl))) rfl (by decide +kernel) (by decide +kernel) (by decide +kernel) (by kernel_rfl) hk
      · replace hx := cond_f hc67 hx
        obtain ⟨z68, hz68, hx⟩ := bind_e hx
        rcases Bool.eq_false_or_eq_true (cm .geq z68.1 a1) with hc69 | hc69
        · replace hx := cond_t hc69 hx
          obtain rfl := Option.some.inj hx
          exact W.dr2 (σ' := ⟨[(0, .v (Enc.sl (Enc.pr (Enc.int .i64) eBlk)) a0), (1, .v (Enc.int .i64) a1), (5, .v (Enc.int .i64) s37), (44, .v Enc.bool true)], []⟩) 33 [0, 0, 3, 7, 15, 31, 63, 127, 127, 511, 1023, 2047, 127, 8191, 16383, 32767, 65535, 131071, 262143, 524287, 524287, 2097151, 4194303, 8388607, 524287, 524287, 34078719, 117964799, 252182527, 520617983, 1073741823, 2147483647, 4294967295] mixed (by exact (.cons (.none rfl) (JO.move rfl) rfl rfl (.cons (.none rfl) (JO.move rfl) rfl rfl (.cons (.none rfl) (JO.idx hz66 rfl rfl Try.runUnderlying47 Try.sizeOf85) rfl rfl (.cons (.none rfl) (JO.fieldPst rfl Try.runUnderlying85 rfl Try.sizeOf3 rfl (.fst .here) rfl) rfl rfl (.cons (.none rfl) (JO.loadPst rfl Try.isAgg3 Try.sizeOf3) rfl rfl (.cons (.none rfl) (JO.cmp rfl rfl rfl) rfl rfl (.cons (.none rfl) (JO.move rfl) rfl rfl (.cons (GK.met 18 rfl rfl rfl hc67) (JO.move rfl) rfl rfl (.cons (GK.met 18 rfl rfl rfl hc67) (JO.move rfl) rfl rfl (.cons (GK.met 18 rfl rfl rfl hc67) (JO.idx hz68 rfl rfl Try.runUnderlying47 Try.sizeOf85) rfl rfl (.cons (GK.met 18 rfl rfl rfl hc67) (JO.fieldPst rfl Try.runUnderlying85 rfl Try.sizeOf3 rfl (.fst .here) rfl) rfl rfl (.cons (GK.met 18 rfl rfl rfl hc67) (JO.loadPst rfl Try.isAgg3 Try.sizeOf3) rfl rfl (.cons (GK.met 18 rfl rfl rfl hc67) (JO.move rfl) rfl rfl (.cons (GK.met 18 rfl rfl rfl hc67) (JO.cmp rfl rfl rfl) rfl rfl (.cons (.none rfl) (JO.pF hc67 rfl rfl) rfl rfl (.cons (.none rfl) (JO.move rfl) rfl rfl (.left (GK.unmet 27 rfl rfl rfl hc69) rfl (.left (GK.unmet 27 rfl rfl rfl hc69) rfl (.left (GK.unmet 27 rfl rfl rfl hc69) rfl (.left (GK.und 30 rfl rfl rfl) rfl (.left (GK.und 30 rfl rfl rfl) rfl (.left (GK.und 30 rfl rfl rfl) rfl (.left (GK.und 30 rfl rfl rfl) rfl (.left (GK.und 30 rfl rfl rfl) rfl (.left (GK.und 30 rfl rfl rfl) rfl (.left (GK.und 30 rfl rfl rfl) rfl (.left (GK.und 30 rfl rfl rfl) rfl (.left (GK.und 30 rfl rfl rfl) rfl (.left (GK.und 30 rfl rfl rfl) rfl (.left (GK.und 30 rfl rfl rfl) rfl (.left (GK.und 30 rfl rfl rfl) rfl (.left (GK.unmet 27 rfl rfl rfl hc69) rfl (.cons (.none rfl) (JO.pT hc69 rfl rfl) rfl rfl .nil)))))))))))))))))))))))))))))))))) (by exact (J.fin (Sw.Sub.mk id (.cons rfl (.of_eq rfl) (.cons rfl (.of_eq rfl) (.cons rfl (.of_eq rfl) (.cons rfl (.of_eq rfl) .nil)))) .nil rfl))) rfl (by decide +kernel) (by decide +kernel) (by decide +kernel) (by kernel_rfl) hk
        · replace hx := cond_f hc69 hx
          rcases Bool.eq_false_or_eq_true (cm .gtr s37 (0 : Int)) with hc70 | hc70
          · replace hx := cond_t hc70 hx
            obtain ⟨z71, hz71, hx⟩ := bind_e hx
            obtain ⟨z72, hz72, hx⟩ := bind_e hx
            obtain rfl := Option.some.inj hx
            exact W.dr2 (σ' := ⟨[(0, .v (Enc.sl (Enc.pr (Enc.int .i64) eBlk)) a0), (1, .v (Enc.int .i64) a1), (5, .v (Enc.int .i64) s37), (44, .v Enc.bool (cm .leq z71.1 z72.1))], []⟩) 33 [0, 0, 3, 7, 15, 31, 63, 127, 127, 511, 1023, 2047, 127, 8191, 16383, 32767, 65535, 131071, 262143, 524287, 524287, 2097151, 4194303, 8388607, 524287, 524287, 34078719, 117964799, 252182527, 520617983, 1073741823, 2147483647, 4294967295] mixed (by exact (.cons (.none rfl) (JO.move rfl) rfl rfl (.cons (.none rfl) (JO.move rfl) rfl rfl (.cons (.none rfl) (JO.idx hz66 rfl rfl Try.runUnderlying47 Try.sizeOf85) rfl rfl (.cons (.none rfl) (JO.fieldPst rfl Try.runUnderlying85 rfl Try.sizeOf3 rfl (.fst .here) rfl) rfl rfl (.cons (.none rfl) (JO.loadPst rfl Try.isAgg3 Try.sizeOf3) rfl rfl (.cons (.none rfl) (JO.cmp rfl rfl rfl) rfl rfl (.cons (.none rfl) (JO.move rfl) rfl rfl (.cons (GK.met 18 rfl rfl rfl hc67) (JO.move rfl) rfl rfl (.cons (GK.met 18 rfl rfl rfl hc67) (JO.move rfl) rfl rfl (.cons (GK.met 18 rfl rfl rfl hc67) (JO.idx hz68 rfl rfl Try.runUnderlying47 Try.sizeOf85) rfl rfl (.cons (GK.met 18 rfl rfl rfl hc67) (JO.fieldPst rfl Try.runUnderlying85 rfl Try.sizeOf3 rfl (.fst .here) rfl) rfl rfl (.cons (GK.met 18 rfl rfl rfl hc67) (JO.loadPst rfl Try.isAgg3 Try.sizeOf3) rfl rfl (.cons (GK.met 18 rfl rfl rfl hc67) (JO.move rfl) rfl rfl (.cons (GK.met 18 rfl rfl rfl hc67) (JO.cmp rfl rfl rfl) rfl rfl (.cons (.none rfl) (JO.pF hc67 rfl rfl) rfl rfl (.cons (.none rfl) (JO.move rfl) rfl rfl (.cons (GK.met 27 rfl rfl rfl hc69) (JO.move rfl) rfl rfl (.cons (GK.met 27 rfl rfl rfl hc69) (JO.cmp rfl rfl rfl) rfl rfl (.cons (GK.met 27 rfl rfl rfl hc69) (JO.move rfl) rfl rfl (.cons (GK.met 30 rfl rfl rfl hc70) (JO.move rfl) rfl rfl (.cons (GK.met 30 rfl rfl rfl hc70) (JO.move rfl) rfl rfl (.cons (GK.met 30 rfl rfl rfl hc70) (JO.idx hz71 rfl rfl Try.runUnderlying47 Try.sizeOf85) rfl rfl (.cons (GK.met 30 rfl rfl rfl hc70) (JO.fieldPst rfl Try.runUnderlying85 rfl Try.sizeOf3 rfl (.fst .here) rfl) rfl rfl (.cons (GK.met 30 rfl rfl rfl hc70) (JO.loadPst rfl Try.isAgg3 Try.sizeOf3) rfl rfl (.cons (GK.met 30 rfl rfl rfl hc70) (JO.move rfl) rfl rfl (.cons (GK.met 30 rfl rfl rfl hc70) (JO.move rfl) rfl rfl (.cons (GK.met 30 rfl rfl rfl hc70) (JO.arith rfl rfl rfl) rfl rfl (.cons (GK.met 30 rfl rfl rfl hc70) (JO.idx hz72 rfl rfl Try.runUnderlying47 Try.sizeOf85) rfl rfl (.cons (GK.met 30 rfl rfl rfl hc70) (JO.fieldPst rfl Try.runUnderlying85 rfl Try.sizeOf3 rfl (.fst .here) rfl) rfl rfl (.cons (GK.met 30 rfl rfl rfl hc70) (JO.loadPst rfl Try.isAgg3 Try.sizeOf3) rfl rfl (.cons (GK.met 30 rfl rfl rfl hc70) (JO.cmp rfl rfl rfl) rfl rfl (.cons (GK.met 27 rfl rfl rfl hc69) (JO.pT hc70 rfl rfl) rfl rfl (.cons (.none rfl) (JO.pF hc69 rfl rfl) rfl rfl .nil)))))))))))))))))))))))))))))))))) (by exact (J.fin (Sw.Sub.mk id (.cons rfl (.of_eq rfl) (.cons rfl (.of_eq rfl) (.cons rfl (.of_eq rfl) (.cons rfl (.of_eq rfl) .nil)))) .nil rfl))) rfl (by decide +kernel) (by decide +kernel) (by decide +kernel) (by kernel_rfl) hk
          · replace hx := cond_f hc70 hx
            obtain rfl := Option.some.inj hx
            exact W.dr2 (σ' := ⟨[(0, .v (Enc.sl (Enc.pr (Enc.int .i64) eBlk)) a0), (1, .v (Enc.int .i64) a1), (5, .v (Enc.int .i64) s37), (44, .v Enc.bool false)], []⟩) 33 [0, 0, 3, 7, 15, 31, 63, 127, 127, 511, 1023, 2047, 127, 8191, 16383, 32767, 65535, 131071, 262143, 524287, 524287, 2097151, 4194303, 8388607, 524287, 524287, 34078719, 117964799, 252182527, 520617983, 1073741823, 2147483647, 4294967295] mixed (by exact (.cons (.none rfl) (JO.move rfl) rfl rfl (.cons (.none rfl) (JO.move rfl) rfl rfl (.cons (.none rfl) (JO.idx hz66 rfl rfl Try.runUnderlying47 Try.sizeOf85) rfl rfl (.cons (.none rfl) (JO.fieldPst rfl Try.runUnderlying85 rfl Try.sizeOf3 rfl (.fst .here) rfl) rfl rfl (.cons (.none rfl) (JO.loadPst rfl Try.isAgg3 Try.sizeOf3) rfl rfl (.cons (.none rfl) (JO.cmp rfl rfl rfl) rfl rfl (.cons (.none rfl) (JO.move rfl) rfl rfl (.cons (GK.met 18 rfl rfl rfl hc67) (JO.move rfl) rfl rfl (.cons (GK.met 18 rfl rfl rfl hc67) (JO.move rfl) rfl rfl (.cons (GK.met 18 rfl rfl rfl hc67) (JO.idx hz68 rfl rfl Try.runUnderlying47 Try.sizeOf85) rfl rfl (.cons (GK.met 18 rfl rfl rfl hc67) (JO.fieldPst rfl Try.runUnderlying85 rfl Try.sizeOf3 rfl (.fst .here) rfl) rfl rfl (.cons (GK.met 18 rfl rfl rfl hc67) (JO.loadPst rfl Try.isAgg3 Try.sizeOf3) rfl rfl (.cons (GK.met 18 rfl rfl rfl hc67) (JO.move rfl) rfl rfl (.cons (GK.met 18 rfl rfl rfl hc67) (JO.cmp rfl rfl rfl) rfl rfl (.cons (.none rfl) (JO.pF hc67 rfl rfl) rfl rfl (.cons (.none rfl) (JO.move rfl) rfl rfl (.cons (GK.met 27 rfl rfl rfl hc69) (JO.move rfl) rfl rfl (.cons (GK.met 27 rfl rfl rfl hc69) (JO.cmp rfl rfl rfl) rfl rfl (.cons (GK.met 27 rfl rfl rfl hc69) (JO.move rfl) rfl rfl (.left (GK.unmet 30 rfl rfl rfl hc70) rfl (.left (GK.unmet 30 rfl rfl rfl hc70) rfl (.left (GK.unmet 30 rfl rfl rfl hc70) rfl (.left (GK.unmet 30 rfl rfl rfl hc70) rfl (.left (GK.unmet 30 rfl rfl rfl hc70) rfl (.left (GK.unmet 30 rfl rfl rfl hc70) rfl (.left (GK.unmet 30 rfl rfl rfl hc70) rfl (.left (GK.unmet 30 rfl rfl rfl hc70) rfl (.left (GK.unmet 30 rfl rfl rfl hc70) rfl (.left (GK.unmet 30 rfl rfl rfl hc70) rfl (.left (GK.unmet 30 rfl rfl rfl hc70) rfl (.left (GK.unmet 30 rfl rfl rfl hc70) rfl (.cons (GK.met 27 rfl rfl rfl hc69) (JO.pF hc70 rfl rfl) rfl rfl (.cons (.none rfl) (JO.pF hc69 rfl rfl) rfl rfl .nil)))))))))))))))))))))))))))))))))) (by exact (J.fin (Sw.Sub.mk id (.cons rfl (.of_eq rfl) (.cons rfl (.of_eq rfl) (.cons rfl (.of_eq rfl) (.cons rfl (.of_eq rfl) .nil)))) .nil rfl))) rfl (by decide +kernel) (by decide +kernel) (by decide +kernel) (by kernel_rfl) hk
    rcases Bool.eq_false_or_eq_true x65 with hc73 | hc73
    · replace h := cond_t hc73 h
      refine W.condT rfl hc73 ?_
      refine W.seq ?_
      refine W.reg (σ' := ⟨[(4, .v Enc.bool false)], []⟩) (J.cons (.none rfl) (JO.assign rfl) rfl rfl (J.fin (Sw.Sub.mk id (.cons rfl (.of_eq rfl) .nil) .nil rfl))) ?_
      refine W.ret ?_
      refine XQ.ret ?_
      obtain rfl := Option.some.inj h
      refine XQ.lret fun ho => ?_
      obtain rfl := hr55 _ ho
      exact XQ.sub (σ' := ⟨[(4, .v Enc.bool false)], []⟩) (Sw.Sub.mk id (.cons rfl (.of_eq rfl) .nil) .nil rfl) (XQ.ret1 hF noR rfl (RV.tmp rfl) .nil rfl)
    · replace h := cond_f hc73 h
      refine W.condF rfl hc73 ?_
      refine W.skip ?_
      refine W.fall ?_
      refine W.reg (σ' := ⟨[(0, .v (Enc.sl (Enc.pr (Enc.int .i64) eBlk)) a0), (1, .v (Enc.int .i64) a1), (5, .v (Enc.int .i64) (ar .add .i64 s37 (1 : Int)))], []⟩) (J.cons (.none rfl) (JO.move rfl) rfl rfl (J.cons (.none rfl) (JO.arith rfl rfl rfl) rfl rfl (J.cons (.none rfl) (JO.assign rfl) rfl rfl (J.fin (Sw.Sub.mk id (.cons rfl (.of_eq rfl) (.cons rfl (.of_eq rfl) (.cons rfl (.of_eq rfl) .nil))) .nil rfl))))) ?_
      obtain rfl := Option.some.inj h
      exact W.next (Sw.Sub.mk id (.cons rfl (.of_eq rfl) (.cons rfl (.of_eq rfl) (.cons rfl (.of_eq rfl) .nil))) .nil rfl)
  · replace h := cond_f hc57 h
    refine W.condF rfl hc57 ?_
    refine W.exit ?_
    obtain rfl := Option.some.inj h
    exact XQ.brk (Sw.Sub.mk id .nil .nil rfl)
set_option maxRecDepth 100000 in
set_option maxHeartbeats 4000000 in
theorem con_ref_PacketOf {a0 : (Int × Blk)} {a1 : (List Blk)} {a2 : (List Blk)} {r : (Int × Int × Int × Blk) × Bool} (h : m_ref_PacketOf a0 a1 a2 = some r) :
    Con Try.prog 66 [.v (Enc.pr (Enc.int .i64) eBlk) a0, .v (Enc.sl eBlk) a1, .v (Enc.sl eBlk) a2] (.tup [.v (Enc.pr (Enc.int .i64) (Enc.pr (Enc.int .i64) (Enc.pr (Enc.int .i64) eBlk))) r.1, .v Enc.bool r.2]) [] := by
  refine Con.of Try.func66 rfl Try.ntmps66 rfl ?_
  intro S w hF
  unfold m_ref_PacketOf at h
  refine W.seq ?_
  refine W.reg (σ' := ⟨[(1, .v (Enc.sl eBlk) a1), (2, .v (Enc.sl eBlk) a2), (3, .ptr 101 0), (6, .ptr 102 0)], [(101, .box 85 [.v (Enc.int .i64) a0.1, .v eBlk a0.2]), (102, .box 81 [.v (Enc.int .i64) (0 : Int), .v (Enc.int .i64) (0 : Int), .v (Enc.int .i64) (0 : Int), .v eBlk zblk])]⟩) (J.cons (.none rfl) (JO.box 101 rfl (.prm (.one _ _) (.one _ _)) rfl) rfl rfl (J.cons (.none rfl) (JO.alloc 102 Try.zeroValue81 rfl (.cons (Z.int .i64) (.cons (Z.int .i64) (.cons (Z.int .i64) (.cons (Z.arr 8 (Z.int .u8)) .nil)))) rfl) rfl rfl (J.cons (.none rfl) (JO.assign rfl) rfl rfl (J.fin (Sw.Sub.mk id (.cons rfl (.of_eq rfl) (.cons rfl (.of_eq rfl) (.cons rfl (.of_eq rfl) (.cons rfl (.of_eq rfl) .nil)))) (.box rfl (.cons (.of_eq rfl) (.cons (.of_eq rfl) .nil)) (.box rfl (.cons (.of_eq rfl) (.cons (.of_eq rfl) (.cons (.of_eq rfl) (.cons (.of_eq rfl) .nil)))) .nil)) rfl))))) ?_
  refine W.seq ?_
  refine W.seq ?_
  obtain ⟨z1, hz1, h⟩ := bind_e h
  refine W.dr2 (σ' := ⟨[(1, .v (Enc.sl eBlk) a1), (2, .v (Enc.sl eBlk) a2), (3, .ptr 101 0), (6, .ptr 102 0), (16, .v Enc.bool (decide (z1 = a0.2)))], [(101, .box 85 [.v (Enc.int .i64) a0.1, .v eBlk a0.2]), (102, .box 81 [.v (Enc.int .i64) (0 : Int), .v (Enc.int .i64) (0 : Int), .v (Enc.int .i64) (0 : Int), .v eBlk zblk])]⟩) 8 [0, 0, 2, 7, 15, 0, 32, 127] mixed (by exact (.cons (.none rfl) (JO.move rfl) rfl rfl (.cons (.none rfl) (JO.fieldPtr 0 rfl Try.runUnderlying85 rfl Try.sizeOf3 rfl rfl) rfl rfl (.cons (.none rfl) (JO.load rfl rfl rfl Try.isAgg3 Try.sizeOf3) rfl rfl (.cons (.none rfl) (JO.idx hz1 rfl rfl Try.runUnderlying22 Try.sizeOf24) rfl rfl (.cons (.none rfl) (JO.loadPst rfl Try.isAgg24 Try.sizeOf24) rfl rfl (.cons (.none rfl) (JO.fieldPtr 1 rfl Try.runUnderlying85 rfl Try.sizeOf24 rfl rfl) rfl rfl (.cons (.none rfl) (JO.load rfl rfl rfl Try.isAgg24 Try.sizeOf24) rfl rfl (.cons (.none rfl) (JO.eqV eq24 rfl rfl Try.eqGuardType24 rfl rfl) rfl rfl .nil))))))))) (by exact (J.fin (Sw.Sub.mk id (.cons rfl (.of_eq rfl) (.cons rfl (.of_eq rfl) (.cons rfl (.of_eq rfl) (.cons rfl (.of_eq rfl) (.cons rfl (.of_eq rfl) .nil))))) (.box rfl (.cons (.of_eq rfl) (.cons (.of_eq rfl) .nil)) (.box rfl (.cons (.of_eq rfl) (.cons (.of_eq rfl) (.cons (.of_eq rfl) (.cons (.of_eq rfl) .nil)))) .nil)) rfl))) rfl (by decide +kernel) (by decide +kernel) (by decide +kernel) (by kernel_rfl) ?_
  rcases Bool.eq_false_or_eq_true (decide (z1 = a0.2)) with hc2 | hc2
  · replace h := cond_t hc2 h
    refine W.condT rfl hc2 ?_
    refine W.seq ?_
    refine W.reg (σ' := ⟨[(6, .ptr 102 0), (7, .v Enc.bool false)], [(102, .box 81 [.v (Enc.int .i64) (0 : Int), .v (Enc.int .i64) (0 : Int), .v (Enc.int .i64) (0 : Int), .v eBlk zblk])]⟩) (J.cons (.none rfl) (JO.build built81 (.cons (Z.int .i64) (.cons (Z.int .i64) (.cons (Z.int .i64) (.cons (Z.arr 8 (Z.int .u8)) .nil)))) .nil) rfl rfl (J.mut (.none rfl) (JM.storeAgg rfl rfl rfl rfl rfl rfl Try.sizeOf81) (J.cons (.none rfl) (JO.assign rfl) rfl rfl (J.fin (Sw.Sub.mk id (.cons rfl (.of_eq rfl) (.cons rfl (.of_eq rfl) .nil)) (.box rfl (.cons (.of_eq rfl) (.cons (.of_eq rfl) (.cons (.of_eq rfl) (.cons (.of_eq rfl) .nil)))) .nil) rfl))))) ?_
    refine W.ret ?_
    obtain rfl := Option.some.inj h
    exact XQ.sub (σ' := ⟨[(6, .ptr 90 0), (7, .v Enc.bool false)], [(90, .box 81 [.v (Enc.int .i64) (0 : Int), .v (Enc.int .i64) (0 : Int), .v (Enc.int .i64) (0 : Int), .v eBlk zblk])]⟩) (Sw.Sub.mk (rn [(90, 102)]) (.cons rfl (.of_eq rfl) (.cons rfl (.of_eq rfl) .nil)) (.box rfl (.cons (.of_eq rfl) (.cons (.of_eq rfl) (.cons (.of_eq rfl) (.cons (.of_eq rfl) .nil)))) .nil) rfl) (XQ.ret2 hF noR rfl (RV.cellAll rfl rfl (.prm (.one _ _) (.prm (.one _ _) (.prm (.one _ _) (.one _ _)))) Try.isAgg81 Try.sizeOf81) (RV.tmp rfl) .nil rfl)
  · replace h := cond_f hc2 h
    refine W.condF rfl hc2 ?_
    refine W.skip ?_
    refine W.seq ?_
    refine W.seq ?_
    refine W.reg (σ' := ⟨[(1, .v (Enc.sl eBlk) a1), (2, .v (Enc.sl eBlk) a2), (3, .ptr 101 0), (6, .ptr 102 0), (21, .v Enc.bool (decide (a0.2 = zblk)))], [(101, .box 85 [.v (Enc.int .i64) a0.1, .v eBlk a0.2]), (102, .box 81 [.v (Enc.int .i64) (0 : Int), .v (Enc.int .i64) (0 : Int), .v (Enc.int .i64) (0 : Int), .v eBlk zblk])]⟩) (J.cons (.none rfl) (JO.fieldPtr 1 rfl Try.runUnderlying85 rfl Try.sizeOf24 rfl rfl) rfl rfl (J.cons (.none rfl) (JO.load rfl rfl rfl Try.isAgg24 Try.sizeOf24) rfl rfl (J.cons (.none rfl) (JO.zeroArr (e := eBlk) (v := zblk) Try.typeInfo24 Try.runUnderlying24 Try.typeInfo5 rfl rfl (Z.arr 8 (Z.int .u8))) rfl rfl (J.cons (.none rfl) (JO.eqV eq24 rfl rfl Try.eqGuardType24 rfl rfl) rfl rfl (J.fin (Sw.Sub.mk id (.cons rfl (.of_eq rfl) (.cons rfl (.of_eq rfl) (.cons rfl (.of_eq rfl) (.cons rfl (.of_eq rfl) (.cons rfl (.of_eq rfl) .nil))))) (.box rfl (.cons (.of_eq rfl) (.cons (.of_eq rfl) .nil)) (.box rfl (.cons (.of_eq rfl) (.cons (.of_eq rfl) (.cons (.of_eq rfl) (.cons (.of_eq rfl) .nil)))) .nil)) rfl)))))) ?_
    rcases Bool.eq_false_or_eq_true (decide (a0.2 = zblk)) with hc3 | hc3
    · replace h := cond_t hc3 h
      refine W.condT rfl hc3 ?_
      refine W.seq ?_
      refine W.reg (σ' := ⟨[(6, .ptr 102 0), (7, .v Enc.bool true)], [(102, .box 81 [.v (Enc.int .i64) a0.1, .v (Enc.int .i64) (0 : Int), .v (Enc.int .i64) (0 : Int), .v eBlk zblk])]⟩) (J.cons (.none rfl) (JO.fieldPtr 0 rfl Try.runUnderlying85 rfl Try.sizeOf3 rfl rfl) rfl rfl (J.cons (.none rfl) (JO.load rfl rfl rfl Try.isAgg3 Try.sizeOf3) rfl rfl (J.cons (.none rfl) (JO.build built81 (.cons (Z.int .i64) (.cons (Z.int .i64) (.cons (Z.int .i64) (.cons (Z.arr 8 (Z.int .u8)) .nil)))) (.cons rfl (.dir rfl) rfl rfl rfl rfl (.cons rfl (.dir rfl) rfl rfl rfl rfl .nil))) rfl rfl (J.mut (.none rfl) (JM.storeAgg rfl rfl rfl rfl rfl rfl Try.sizeOf81) (J.cons (.none rfl) (JO.assign rfl) rfl rfl (J.fin (Sw.Sub.mk id (.cons rfl (.of_eq rfl) (.cons rfl (.of_eq rfl) .nil)) (.box rfl (.cons (.of_eq rfl) (.cons (.of_eq rfl) (.cons (.of_eq rfl) (.cons (.of_eq rfl) .nil)))) .nil) rfl))))))) ?_
      refine W.ret ?_
      obtain rfl := Option.some.inj h
      exact XQ.sub (σ' := ⟨[(6, .ptr 90 0), (7, .v Enc.bool true)], [(90, .box 81 [.v (Enc.int .i64) a0.1, .v (Enc.int .i64) (0 : Int), .v (Enc.int .i64) (0 : Int), .v eBlk zblk])]⟩) (Sw.Sub.mk (rn [(90, 102)]) (.cons rfl (.of_eq rfl) (.cons rfl (.of_eq rfl) .nil)) (.box rfl (.cons (.of_eq rfl) (.cons (.of_eq rfl) (.cons (.of_eq rfl) (.cons (.of_eq rfl) .nil)))) .nil) rfl) (XQ.ret2 hF noR rfl (RV.cellAll rfl rfl (.prm (.one _ _) (.prm (.one _ _) (.prm (.one _ _) (.one _ _)))) Try.isAgg81 Try.sizeOf81) (RV.tmp rfl) .nil rfl)
    · replace h := cond_f hc3 h
      refine W.condF rfl hc3 ?_
      refine W.skip ?_
      refine W.seq ?_
      obtain ⟨v4, hv4, h⟩ := bind_e h
      refine W.reg (σ' := ⟨[(2, .v (Enc.sl eBlk) a2), (3, .ptr 101 0), (6, .ptr 102 0), (8, .v (Enc.int .i64) v4)], [(101, .box 85 [.v (Enc.int .i64) a0.1, .v eBlk a0.2]), (102, .box 81 [.v (Enc.int .i64) (0 : Int), .v (Enc.int .i64) (0 : Int), .v (Enc.int .i64) (0 : Int), .v eBlk zblk])]⟩) (J.cons (.none rfl) (JO.move rfl) rfl rfl (J.cons (.none rfl) (JO.fieldPtr 1 rfl Try.runUnderlying85 rfl Try.sizeOf24 rfl rfl) rfl rfl (J.cons (.none rfl) (JO.load rfl rfl rfl Try.isAgg24 Try.sizeOf24) rfl rfl (J.cons (.none rfl) (JO.call0 (con_ref_First hv4) Try.call68 (.cons (.dir rfl) (.cons (.dir rfl) .nil))) rfl rfl (J.cons (.none rfl) (JO.assign rfl) rfl rfl (J.fin (Sw.Sub.mk id (.cons rfl (.of_eq rfl) (.cons rfl (.of_eq rfl) (.cons rfl (.of_eq rfl) (.cons rfl (.of_eq rfl) .nil)))) (.box rfl (.cons (.of_eq rfl) (.cons (.of_eq rfl) .nil)) (.box rfl (.cons (.of_eq rfl) (.cons (.of_eq rfl) (.cons (.of_eq rfl) (.cons (.of_eq rfl) .nil)))) .nil)) rfl))))))) ?_
      refine W.seq ?_
      refine W.seq ?_
      refine W.reg (σ' := ⟨[(2, .v (Enc.sl eBlk) a2), (3, .ptr 101 0), (6, .ptr 102 0), (8, .v (Enc.int .i64) v4), (30, .v Enc.bool (cm .geq v4 (0 : Int)))], [(101, .box 85 [.v (Enc.int .i64) a0.1, .v eBlk a0.2]), (102, .box 81 [.v (Enc.int .i64) (0 : Int), .v (Enc.int .i64) (0 : Int), .v (Enc.int .i64) (0 : Int), .v eBlk zblk])]⟩) (J.cons (.none rfl) (JO.move rfl) rfl rfl (J.cons (.none rfl) (JO.cmp rfl rfl rfl) rfl rfl (J.fin (Sw.Sub.mk id (.cons rfl (.of_eq rfl) (.cons rfl (.of_eq rfl) (.cons rfl (.of_eq rfl) (.cons rfl (.of_eq rfl) (.cons rfl (.of_eq rfl) .nil))))) (.box rfl (.cons (.of_eq rfl) (.cons (.of_eq rfl) .nil)) (.box rfl (.cons (.of_eq rfl) (.cons (.of_eq rfl) (.cons (.of_eq rfl) (.cons (.of_eq rfl) .nil)))) .nil)) rfl)))) ?_
      rcases Bool.eq_false_or_eq_true (cm .geq v4 (0 : Int)) with hc5 | hc5
      · replace h := cond_t hc5 h
        refine W.condT rfl hc5 ?_
        refine W.seq ?_
        refine W.reg (σ' := ⟨[(6, .ptr 102 0), (7, .v Enc.bool true)], [(102, .box 81 [.v (Enc.int .i64) a0.1, .v (Enc.int .i64) (1 : Int), .v (Enc.int .i64) v4, .v eBlk zblk])]⟩) (J.cons (.none rfl) (JO.fieldPtr 0 rfl Try.runUnderlying85 rfl Try.sizeOf3 rfl rfl) rfl rfl (J.cons (.none rfl) (JO.load rfl rfl rfl Try.isAgg3 Try.sizeOf3) rfl rfl (J.cons (.none rfl) (JO.move rfl) rfl rfl (J.cons (.none rfl) (JO.build built81 (.cons (Z.int .i64) (.cons (Z.int .i64) (.cons (Z.int .i64) (.cons (Z.arr 8 (Z.int .u8)) .nil)))) (.cons rfl (.dir rfl) rfl rfl rfl rfl (.cons rfl (.dir rfl) rfl rfl rfl rfl (.cons rfl (.dir rfl) rfl rfl rfl rfl .nil)))) rfl rfl (J.mut (.none rfl) (JM.storeAgg rfl rfl rfl rfl rfl rfl Try.sizeOf81) (J.cons (.none rfl) (JO.assign rfl) rfl rfl (J.fin (Sw.Sub.mk id (.cons rfl (.of_eq rfl) (.cons rfl (.of_eq rfl) .nil)) (.box rfl (.cons (.of_eq rfl) (.cons (.of_eq rfl) (.cons (.of_eq rfl) (.cons (.of_eq rfl) .nil)))) .nil) rfl)))))))) ?_
        refine W.ret ?_
        obtain rfl := Option.some.inj h
        exact XQ.sub (σ' := ⟨[(6, .ptr 90 0), (7, .v Enc.bool true)], [(90, .box 81 [.v (Enc.int .i64) a0.1, .v (Enc.int .i64) (1 : Int), .v (Enc.int .i64) v4, .v eBlk zblk])]⟩) (Sw.Sub.mk (rn [(90, 102)]) (.cons rfl (.of_eq rfl) (.cons rfl (.of_eq rfl) .nil)) (.box rfl (.cons (.of_eq rfl) (.cons (.of_eq rfl) (.cons (.of_eq rfl) (.cons (.of_eq rfl) .nil)))) .nil) rfl) (XQ.ret2 hF noR rfl (RV.cellAll rfl rfl (.prm (.one _ _) (.prm (.one _ _) (.prm (.one _ _) (.one _ _)))) Try.isAgg81 Try.sizeOf81) (RV.tmp rfl) .nil rfl)
      · replace h := cond_f hc5 h
        refine W.condF rfl hc5 ?_
        refine W.skip ?_
        refine W.seq ?_
        obtain ⟨v6, hv6, h⟩ := bind_e h
        refine W.reg (σ' := ⟨[(3, .ptr 101 0), (6, .ptr 102 0), (8, .v (Enc.int .i64) v6)], [(101, .box 85 [.v (Enc.int .i64) a0.1, .v eBlk a0.2]), (102, .box 81 [.v (Enc.int .i64) (0 : Int), .v (Enc.int .i64) (0 : Int), .v (Enc.int .i64) (0 : Int), .v eBlk zblk])]⟩) (J.cons (.none rfl) (JO.move rfl) rfl rfl (J.cons (.none rfl) (JO.fieldPtr 1 rfl Try.runUnderlying85 rfl Try.sizeOf24 rfl rfl) rfl rfl (J.cons (.none rfl) (JO.load rfl rfl rfl Try.isAgg24 Try.sizeOf24) rfl rfl (J.cons (.none rfl) (JO.call0 (con_ref_First hv6) Try.call68 (.cons (.dir rfl) (.cons (.dir rfl) .nil))) rfl rfl (J.cons (.none rfl) (JO.assign rfl) rfl rfl (J.fin (Sw.Sub.mk id (.cons rfl (.of_eq rfl) (.cons rfl (.of_eq rfl) (.cons rfl (.of_eq rfl) .nil))) (.box rfl (.cons (.of_eq rfl) (.cons (.of_eq rfl) .nil)) (.box rfl (.cons (.of_eq rfl) (.cons (.of_eq rfl) (.cons (.of_eq rfl) (.cons (.of_eq rfl) .nil)))) .nil)) rfl))))))) ?_
        refine W.seq ?_
        refine W.seq ?_
        refine W.reg (σ' := ⟨[(3, .ptr 101 0), (6, .ptr 102 0), (8, .v (Enc.int .i64) v6), (40, .v Enc.bool (cm .geq v6 (0 : Int)))], [(101, .box 85 [.v (Enc.int .i64) a0.1, .v eBlk a0.2]), (102, .box 81 [.v (Enc.int .i64) (0 : Int), .v (Enc.int .i64) (0 : Int), .v (Enc.int .i64) (0 : Int), .v eBlk zblk])]⟩) (J.cons (.none rfl) (JO.move rfl) rfl rfl (J.cons (.none rfl) (JO.cmp rfl rfl rfl) rfl rfl (J.fin (Sw.Sub.mk id (.cons rfl (.of_eq rfl) (.cons rfl (.of_eq rfl) (.cons rfl (.of_eq rfl) (.cons rfl (.of_eq rfl) .nil)))) (.box rfl (.cons (.of_eq rfl) (.cons (.of_eq rfl) .nil)) (.box rfl (.cons (.of_eq rfl) (.cons (.of_eq rfl) (.cons (.of_eq rfl) (.cons (.of_eq rfl) .nil)))) .nil)) rfl)))) ?_
        rcases Bool.eq_false_or_eq_true (cm .geq v6 (0 : Int)) with hc7 | hc7
        · replace h := cond_t hc7 h
          refine W.condT rfl hc7 ?_
          refine W.seq ?_
          refine W.reg (σ' := ⟨[(6, .ptr 102 0), (7, .v Enc.bool true)], [(102, .box 81 [.v (Enc.int .i64) a0.1, .v (Enc.int .i64) (2 : Int), .v (Enc.int .i64) v6, .v eBlk zblk])]⟩) (J.cons (.none rfl) (JO.fieldPtr 0 rfl Try.runUnderlying85 rfl Try.sizeOf3 rfl rfl) rfl rfl (J.cons (.none rfl) (JO.load rfl rfl rfl Try.isAgg3 Try.sizeOf3) rfl rfl (J.cons (.none rfl) (JO.move rfl) rfl rfl (J.cons (.none rfl) (JO.build built81 (.cons (Z.int .i64) (.cons (Z.int .i64) (.cons (Z.int .i64) (.cons (Z.arr 8 (Z.int .u8)) .nil)))) (.cons rfl (.dir rfl) rfl rfl rfl rfl (.cons rfl (.dir rfl) rfl rfl rfl rfl (.cons rfl (.dir rfl) rfl rfl rfl rfl .nil)))) rfl rfl (J.mut (.none rfl) (JM.storeAgg rfl rfl rfl rfl rfl rfl Try.sizeOf81) (J.cons (.none rfl) (JO.assign rfl) rfl rfl (J.fin (Sw.Sub.mk id (.cons rfl (.of_eq rfl) (.cons rfl (.of_eq rfl) .nil)) (.box rfl (.cons (.of_eq rfl) (.cons (.of_eq rfl) (.cons (.of_eq rfl) (.cons (.of_eq rfl) .nil)))) .nil) rfl)))))))) ?_
          refine W.ret ?_
          obtain rfl := Option.some.inj h
          exact XQ.sub (σ' := ⟨[(6, .ptr 90 0), (7, .v Enc.bool true)], [(90, .box 81 [.v (Enc.int .i64) a0.1, .v (Enc.int .i64) (2 : Int), .v (Enc.int .i64) v6, .v eBlk zblk])]⟩) (Sw.Sub.mk (rn [(90, 102)]) (.cons rfl (.of_eq rfl) (.cons rfl (.of_eq rfl) .nil)) (.box rfl (.cons (.of_eq rfl) (.cons (.of_eq rfl) (.cons (.of_eq rfl) (.cons (.of_eq rfl) .nil)))) .nil) rfl) (XQ.ret2 hF noR rfl (RV.cellAll rfl rfl (.prm (.one _ _) (.prm (.one _ _) (.prm (.one _ _) (.one _ _)))) Try.isAgg81 Try.sizeOf81) (RV.tmp rfl) .nil rfl)
        · replace h := cond_f hc7 h
          refine W.condF rfl hc7 ?_
          refine W.skip ?_
          refine W.seq ?_
          refine W.reg (σ' := ⟨[(6, .ptr 102 0), (7, .v Enc.bool true)], [(102, .box 81 [.v (Enc.int .i64) a0.1, .v (Enc.int .i64) (3 : Int), .v (Enc.int .i64) (0 : Int), .v eBlk a0.2])]⟩) (J.cons (.none rfl) (JO.fieldPtr 0 rfl Try.runUnderlying85 rfl Try.sizeOf3 rfl rfl) rfl rfl (J.cons (.none rfl) (JO.load rfl rfl rfl Try.isAgg3 Try.sizeOf3) rfl rfl (J.cons (.none rfl) (JO.fieldPtr 1 rfl Try.runUnderlying85 rfl Try.sizeOf24 rfl rfl) rfl rfl (J.cons (.none rfl) (JO.load rfl rfl rfl Try.isAgg24 Try.sizeOf24) rfl rfl (J.cons (.none rfl) (JO.build built81 (.cons (Z.int .i64) (.cons (Z.int .i64) (.cons (Z.int .i64) (.cons (Z.arr 8 (Z.int .u8)) .nil)))) (.cons rfl (.dir rfl) rfl rfl rfl rfl (.cons rfl (.dir rfl) rfl rfl rfl rfl (.cons rfl (.dir rfl) rfl rfl rfl rfl .nil)))) rfl rfl (J.mut (.none rfl) (JM.storeAgg rfl rfl rfl rfl rfl rfl Try.sizeOf81) (J.cons (.none rfl) (JO.assign rfl) rfl rfl (J.fin (Sw.Sub.mk id (.cons rfl (.of_eq rfl) (.cons rfl (.of_eq rfl) .nil)) (.box rfl (.cons (.of_eq rfl) (.cons (.of_eq rfl) (.cons (.of_eq rfl) (.cons (.of_eq rfl) .nil)))) .nil) rfl))))))))) ?_
          refine W.ret ?_
          obtain rfl := Option.some.inj h
          exact XQ.sub (σ' := ⟨[(6, .ptr 90 0), (7, .v Enc.bool true)], [(90, .box 81 [.v (Enc.int .i64) a0.1, .v (Enc.int .i64) (3 : Int), .v (Enc.int .i64) (0 : Int), .v eBlk a0.2])]⟩) (Sw.Sub.mk (rn [(90, 102)]) (.cons rfl (.of_eq rfl) (.cons rfl (.of_eq rfl) .nil)) (.box rfl (.cons (.of_eq rfl) (.cons (.of_eq rfl) (.cons (.of_eq rfl) (.cons (.of_eq rfl) .nil)))) .nil) rfl) (XQ.ret2 hF noR rfl (RV.cellAll rfl rfl (.prm (.one _ _) (.prm (.one _ _) (.prm (.one _ _) (.one _ _)))) Try.isAgg81 Try.sizeOf81) (RV.tmp rfl) .nil rfl)
set_option maxRecDepth 100000 in
set_option maxHeartbeats 4000000 in
theorem con_cache_Check {a0 : (List Blk)} {r : (Option Int)} (h : m_cache_Check a0 = some r) :
    Con Try.prog 19 [.v (Enc.sl eBlk) a0] (.v (Enc.err ET) r) [] := by
  refine Con.of Try.func19 rfl Try.ntmps19 rfl ?_
  intro S w hF
  unfold m_cache_Check at h
  refine W.seq ?_
  refine W.reg (σ' := ⟨[(0, .v (Enc.sl eBlk) a0)], []⟩) (J.cons (.none rfl) (JO.assignNilE ET) rfl rfl (J.fin (Sw.Sub.mk id (.cons rfl (.of_eq rfl) .nil) .nil rfl))) ?_
  refine W.seq ?_
  refine W.seq ?_
  refine W.reg (σ' := ⟨[(0, .v (Enc.sl eBlk) a0), (8, .v Enc.bool (cm .gtr (a0.length : Int) (8 : Int)))], []⟩) (J.cons (.none rfl) (JO.move rfl) rfl rfl (J.cons (.none rfl) (JO.len rfl Try.runUnderlying22) rfl rfl (J.cons (.none rfl) (JO.cmp rfl rfl rfl) rfl rfl (J.fin (Sw.Sub.mk id (.cons rfl (.of_eq rfl) (.cons rfl (.of_eq rfl) .nil)) .nil rfl))))) ?_
  rcases Bool.eq_false_or_eq_true (cm .gtr (a0.length : Int) (8 : Int)) with hc1 | hc1
  · replace h := cond_t hc1 h
    refine W.condT rfl hc1 ?_
    refine W.seq ?_
    refine W.reg (σ' := ⟨[(2, .v (Enc.err ET) (some (2 : Int)))], []⟩) (J.cons (.none rfl) (JO.mkErr Try.runUnderlying25 rfl) rfl rfl (J.cons (.none rfl) (JO.assign rfl) rfl rfl (J.fin (Sw.Sub.mk id (.cons rfl (.of_eq rfl) .nil) .nil rfl)))) ?_
    refine W.ret ?_
    obtain rfl := Option.some.inj h
    exact XQ.sub (σ' := ⟨[(2, .v (Enc.err ET) (some (2 : Int)))], []⟩) (Sw.Sub.mk id (.cons rfl (.of_eq rfl) .nil) .nil rfl) (XQ.ret1 hF noR rfl (RV.tmp rfl) .nil rfl)
  · replace h := cond_f hc1 h
    refine W.condF rfl hc1 ?_
    refine W.skip ?_
    refine W.seq ?_
    refine W.reg (σ' := ⟨[(0, .v (Enc.sl eBlk) a0), (3, .ref 101)], [(101, .mp eBlk Enc.bool ([] : List (Blk × Bool)))]⟩) (J.cons (.none rfl) (JO.makeMap 101 eBlk Enc.bool) rfl rfl (J.cons (.none rfl) (JO.assign rfl) rfl rfl (J.fin (Sw.Sub.mk id (.cons rfl (.of_eq rfl) (.cons rfl (.of_eq rfl) .nil)) (.mp rfl .nil) rfl)))) ?_
    refine W.seq ?_
    refine W.seq ?_
    refine W.reg (σ' := ⟨[(3, .ref 101), (11, .v (Enc.sl eBlk) a0), (12, .v (Enc.int .i64) (a0.length : Int)), (13, .v (Enc.int .i64) (0 : Int))], [(101, .mp eBlk Enc.bool ([] : List (Blk × Bool)))]⟩) (J.cons (.none rfl) (JO.move rfl) rfl rfl (J.cons (.none rfl) (JO.len rfl Try.runUnderlying22) rfl rfl (J.cons (.none rfl) (JO.move rfl) rfl rfl (J.fin (Sw.Sub.mk id (.cons rfl (.of_eq rfl) (.cons rfl (.of_eq rfl) (.cons rfl (.of_eq rfl) (.cons rfl (.of_eq rfl) .nil)))) (.mp rfl .nil) rfl))))) ?_
    obtain ⟨o17, ho17, hb17, hr17⟩ := lp_elim h
    refine W.lp (σs := fun s12 : Int × (List (Blk × Bool)) => ⟨[(3, .ref 101), (11, .v (Enc.sl eBlk) a0), (12, .v (Enc.int .i64) (a0.length : Int)), (13, .v (Enc.int .i64) s12.1)], [(101, .mp eBlk Enc.bool s12.2)]⟩) (fun x18 : Unit => ⟨[], []⟩) ho17 (Sw.Sub.mk id (.cons rfl (.of_eq rfl) (.cons rfl (.of_eq rfl) (.cons rfl (.of_eq rfl) (.cons rfl (.of_eq rfl) .nil)))) (.mp rfl .nil) rfl) ?_ ?_
    · intro x18 hy
      have h := hb17 _ hy
      refine W.seq ?_
      refine W.reg (σ' := ⟨[(2, .v (Enc.err ET) (none : Option Int))], []⟩) (J.cons (.none rfl) (JO.assignNilE ET) rfl rfl (J.fin (Sw.Sub.mk id (.cons rfl (.of_eq rfl) .nil) .nil rfl))) ?_
      refine W.ret ?_
      obtain rfl := Option.some.inj h
      exact XQ.sub (σ' := ⟨[(2, .v (Enc.err ET) (none : Option Int))], []⟩) (Sw.Sub.mk id (.cons rfl (.of_eq rfl) .nil) .nil rfl) (XQ.ret1 hF noR rfl (RV.tmp rfl) .nil rfl)
    intro s12 r17 h
    refine W.seq ?_
    refine W.reg (σ' := ⟨[(3, .ref 101), (11, .v (Enc.sl eBlk) a0), (12, .v (Enc.int .i64) (a0.length : Int)), (13, .v (Enc.int .i64) s12.1), (14, .v Enc.bool (cm .lss s12.1 (a0.length : Int)))], [(101, .mp eBlk Enc.bool s12.2)]⟩) (J.cons (.none rfl) (JO.cmp rfl rfl rfl) rfl rfl (J.fin (Sw.Sub.mk id (.cons rfl (.of_eq rfl) (.cons rfl (.of_eq rfl) (.cons rfl (.of_eq rfl) (.cons rfl (.of_eq rfl) (.cons rfl (.of_eq rfl) .nil))))) (.mp rfl .nil) rfl))) ?_
    refine W.seq ?_
    rcases Bool.eq_false_or_eq_true (cm .lss s12.1 (a0.length : Int)) with hc19 | hc19
    · replace h := cond_t hc19 h
      refine W.condT rfl hc19 ?_
      refine W.skip ?_
      refine W.seq ?_
      refine W.block ?_
      refine W.seq ?_
      obtain ⟨z20, hz20, h⟩ := bind_e h
      refine W.reg (σ' := ⟨[(3, .ref 101), (5, .ptr 105 0), (11, .v (Enc.sl eBlk) a0), (12, .v (Enc.int .i64) (a0.length : Int)), (13, .v (Enc.int .i64) s12.1)], [(101, .mp eBlk Enc.bool s12.2), (105, .box 24 [.v eBlk z20])]⟩) (J.cons (.none rfl) (JO.idx hz20 rfl rfl Try.runUnderlying22 Try.sizeOf24) rfl rfl (J.cons (.none rfl) (JO.loadPst rfl Try.isAgg24 Try.sizeOf24) rfl rfl (J.cons (.none rfl) (JO.alloc 105 Try.zeroValue24 rfl (.cons (Z.arr 8 (Z.int .u8)) .nil) rfl) rfl rfl (J.mut (.none rfl) (JM.store rfl rfl rfl rfl rfl rfl rfl Try.sizeOf24) (J.fin (Sw.Sub.mk id (.cons rfl (.of_eq rfl) (.cons rfl (.of_eq rfl) (.cons rfl (.of_eq rfl) (.cons rfl (.of_eq rfl) (.cons rfl (.of_eq rfl) .nil))))) (.mp rfl (.box rfl (.cons (.of_eq rfl) .nil) .nil)) rfl)))))) ?_
      refine W.seq ?_
      refine W.seq ?_
      refine W.reg (σ' := ⟨[(3, .ref 101), (5, .ptr 105 0), (11, .v (Enc.sl eBlk) a0), (12, .v (Enc.int .i64) (a0.length : Int)), (13, .v (Enc.int .i64) s12.1), (19, .v Enc.bool ((mget s12.2 z20).getD false))], [(101, .mp eBlk Enc.bool s12.2), (105, .box 24 [.v eBlk z20])]⟩) (J.cons (.none rfl) (JO.move rfl) rfl rfl (J.cons (.none rfl) (JO.load rfl rfl rfl Try.isAgg24 Try.sizeOf24) rfl rfl (J.cons (.none rfl) (JO.lookup rfl rfl rfl Try.runUnderlying122 Try.runUnderlying24 eq24 rfl key24 rfl Try.zeroValue4 (fun _ _ => ⟨_, rfl, rfl⟩)) rfl rfl (J.fin (Sw.Sub.mk id (.cons rfl (.of_eq rfl) (.cons rfl (.of_eq rfl) (.cons rfl (.of_eq rfl) (.cons rfl (.of_eq rfl) (.cons rfl (.of_eq rfl) (.cons rfl (.of_eq rfl) .nil)))))) (.mp rfl (.box rfl (.cons (.of_eq rfl) .nil) .nil)) rfl))))) ?_
      rcases Bool.eq_false_or_eq_true ((mget s12.2 z20).getD false) with hc21 | hc21
      · replace h := cond_t hc21 h
        refine W.condT rfl hc21 ?_
        refine W.seq ?_
        refine W.reg (σ' := ⟨[(2, .v (Enc.err ET) (some (3 : Int)))], []⟩) (J.cons (.none rfl) (JO.mkErr Try.runUnderlying25 rfl) rfl rfl (J.cons (.none rfl) (JO.assign rfl) rfl rfl (J.fin (Sw.Sub.mk id (.cons rfl (.of_eq rfl) .nil) .nil rfl)))) ?_
        refine W.ret ?_
        refine XQ.ret ?_
        obtain rfl := Option.some.inj h
        refine XQ.lret fun ho => ?_
        obtain rfl := hr17 _ ho
        exact XQ.sub (σ' := ⟨[(2, .v (Enc.err ET) (some (3 : Int)))], []⟩) (Sw.Sub.mk id (.cons rfl (.of_eq rfl) .nil) .nil rfl) (XQ.ret1 hF noR rfl (RV.tmp rfl) .nil rfl)
      · replace h := cond_f hc21 h
        refine W.condF rfl hc21 ?_
        refine W.skip ?_
        obtain ⟨v22, hv22, h⟩ := bind_e h
        refine W.reg (σ' := ⟨[(3, .ref 101), (11, .v (Enc.sl eBlk) a0), (12, .v (Enc.int .i64) (a0.length : Int)), (13, .v (Enc.int .i64) s12.1)], [(101, .mp eBlk Enc.bool v22)]⟩) (J.cons (.none rfl) (JO.move rfl) rfl rfl (J.cons (.none rfl) (JO.load rfl rfl rfl Try.isAgg24 Try.sizeOf24) rfl rfl (J.mut (.none rfl) (JM.mapPut hv22 rfl rfl rfl rfl Try.runUnderlying122 Try.runUnderlying24 eq24 rfl key24 rfl) (J.fin (Sw.Sub.mk id (.cons rfl (.of_eq rfl) (.cons rfl (.of_eq rfl) (.cons rfl (.of_eq rfl) (.cons rfl (.of_eq rfl) .nil)))) (.mp rfl .nil) rfl))))) ?_
        refine W.fall ?_
        refine W.reg (σ' := ⟨[(3, .ref 101), (11, .v (Enc.sl eBlk) a0), (12, .v (Enc.int .i64) (a0.length : Int)), (13, .v (Enc.int .i64) (ar .add .i64 s12.1 (1 : Int)))], [(101, .mp eBlk Enc.bool v22)]⟩) (J.cons (.none rfl) (JO.arith rfl rfl rfl) rfl rfl (J.cons (.none rfl) (JO.move rfl) rfl rfl (J.fin (Sw.Sub.mk id (.cons rfl (.of_eq rfl) (.cons rfl (.of_eq rfl) (.cons rfl (.of_eq rfl) (.cons rfl (.of_eq rfl) .nil)))) (.mp rfl .nil) rfl)))) ?_
        obtain rfl := Option.some.inj h
        exact W.next (Sw.Sub.mk id (.cons rfl (.of_eq rfl) (.cons rfl (.of_eq rfl) (.cons rfl (.of_eq rfl) (.cons rfl (.of_eq rfl) .nil)))) (.mp rfl .nil) rfl)
    · replace h := cond_f hc19 h
      refine W.condF rfl hc19 ?_
      refine W.exit ?_
      obtain rfl := Option.some.inj h
      exact XQ.brk (Sw.Sub.mk id .nil .nil rfl)
set_option maxRecDepth 100000 in
set_option maxHeartbeats 4000000 in
theorem con_plan_checked {a0 : (List Blk)} {a1 : (List Blk)} {r : (Option Int)} (h : m_plan_checked a0 a1 = some r) :
    Con Try.prog 80 [.v (Enc.sl eBlk) a0, .v (Enc.sl eBlk) a1] (.v (Enc.err ET) r) [] := by
  refine Con.of Try.func80 rfl Try.ntmps80 rfl ?_
  intro S w hF
  unfold m_plan_checked at h
  refine W.seq ?_
  refine W.reg (σ' := ⟨[(0, .v (Enc.sl eBlk) a0), (1, .v (Enc.sl eBlk) a1)], []⟩) (J.cons (.none rfl) (JO.assignNilE ET) rfl rfl (J.fin (Sw.Sub.mk id (.cons rfl (.of_eq rfl) (.cons rfl (.of_eq rfl) .nil)) .nil rfl))) ?_
  refine W.seq ?_
  refine W.seq ?_
  obtain ⟨x2, hx, h⟩ := bind_e h
  refine W.reg (σ' := ⟨[(1, .v (Enc.sl eBlk) a1), (12, .v Enc.bool x2)], []⟩) ?_ ?_
  · rcases Bool.eq_false_or_eq_true (cm .lss (a0.length : Int) (1 : Int)) with hc3 | hc3
    · replace hx := cond_t hc3 hx
      obtain rfl := Option.some.inj hx
      exact (J.cons (.none rfl) (JO.move rfl) rfl rfl (J.cons (.none rfl) (JO.len rfl Try.runUnderlying22) rfl rfl (J.cons (.none rfl) (JO.cmp rfl rfl rfl) rfl rfl (J.cons (.none rfl) (JO.move rfl) rfl rfl (J.left (GK.unmet 8 rfl rfl rfl hc3) rfl (J.left (GK.unmet 8 rfl rfl rfl hc3) rfl (J.left (GK.unmet 8 rfl rfl rfl hc3) rfl (J.cons (.none rfl) (JO.pT hc3 rfl rfl) rfl rfl (J.fin (Sw.Sub.mk id (.cons rfl (.of_eq rfl) (.cons rfl (.of_eq rfl) .nil)) .nil rfl))))))))))
    · replace hx := cond_f hc3 hx
      obtain rfl := Option.some.inj hx
      exact (J.cons (.none rfl) (JO.move rfl) rfl rfl (J.cons (.none rfl) (JO.len rfl Try.runUnderlying22) rfl rfl (J.cons (.none rfl) (JO.cmp rfl rfl rfl) rfl rfl (J.cons (.none rfl) (JO.move rfl) rfl rfl (J.cons (GK.met 8 rfl rfl rfl hc3) (JO.move rfl) rfl rfl (J.cons (GK.met 8 rfl rfl rfl hc3) (JO.len rfl Try.runUnderlying22) rfl rfl (J.cons (GK.met 8 rfl rfl rfl hc3) (JO.cmp rfl rfl rfl) rfl rfl (J.cons (.none rfl) (JO.pF hc3 rfl rfl) rfl rfl (J.fin (Sw.Sub.mk id (.cons rfl (.of_eq rfl) (.cons rfl (.of_eq rfl) .nil)) .nil rfl))))))))))
  rcases Bool.eq_false_or_eq_true x2 with hc4 | hc4
  · replace h := cond_t hc4 h
    refine W.condT rfl hc4 ?_
    refine W.seq ?_
    refine W.reg (σ' := ⟨[(4, .v (Enc.err ET) (some (1 : Int)))], []⟩) (J.cons (.none rfl) (JO.mkErr Try.runUnderlying25 rfl) rfl rfl (J.cons (.none rfl) (JO.assign rfl) rfl rfl (J.fin (Sw.Sub.mk id (.cons rfl (.of_eq rfl) .nil) .nil rfl)))) ?_
    refine W.ret ?_
    obtain rfl := Option.some.inj h
    exact XQ.sub (σ' := ⟨[(4, .v (Enc.err ET) (some (1 : Int)))], []⟩) (Sw.Sub.mk id (.cons rfl (.of_eq rfl) .nil) .nil rfl) (XQ.ret1 hF noR rfl (RV.tmp rfl) .nil rfl)
  · replace h := cond_f hc4 h
    refine W.condF rfl hc4 ?_
    refine W.skip ?_
    refine W.seq ?_
    obtain ⟨v5, hv5, h⟩ := bind_e h
    refine W.reg (σ' := ⟨[(4, .v (Enc.err ET) v5)], []⟩) (J.cons (.none rfl) (JO.move rfl) rfl rfl (J.cons (.none rfl) (JO.call0 (con_cache_Check hv5) Try.call19 (.cons (.dir rfl) .nil)) rfl rfl (J.cons (.none rfl) (JO.assign rfl) rfl rfl (J.fin (Sw.Sub.mk id (.cons rfl (.of_eq rfl) .nil) .nil rfl))))) ?_
    refine W.ret ?_
    obtain rfl := Option.some.inj h
    exact XQ.sub (σ' := ⟨[(4, .v (Enc.err ET) v5)], []⟩) (Sw.Sub.mk id (.cons rfl (.of_eq rfl) .nil) .nil rfl) (XQ.ret1 hF noR rfl (RV.tmp rfl) .nil rfl)
set_option maxRecDepth 100000 in
set_option maxHeartbeats 4000000 in
theorem con_slices_Clone_api_Block_api_Block_nil {a0 : (Bool × (List Blk))} {r : (List Blk)} (h : m_slices_Clone_api_Block_api_Block_nil a0 = some r) :
    Con Try.prog 82 [.v (Enc.slN eBlk) a0] (.ref 0) [(0, .arr 24 eBlk r)] := by
  refine Con.of Try.func82 rfl Try.ntmps82 rfl ?_
  intro S w hF
  unfold m_slices_Clone_api_Block_api_Block_nil at h
  refine W.seq ?_
  refine W.reg (σ' := ⟨[(0, .v (Enc.slN eBlk) a0)], []⟩) (J.cons (.none rfl) (JO.assignNilR 101 24 eBlk) rfl rfl (J.fin (Sw.Sub.mk id (.cons rfl (.of_eq rfl) .nil) .nil rfl))) ?_
  refine W.seq ?_
  refine W.seq ?_
  refine W.reg (σ' := ⟨[(0, .v (Enc.slN eBlk) a0), (4, .v Enc.bool a0.1)], []⟩) (J.cons (.none rfl) (JO.move rfl) rfl rfl (J.cons (.none rfl) (JO.eqNilS rfl Try.runUnderlying22) rfl rfl (J.fin (Sw.Sub.mk id (.cons rfl (.of_eq rfl) (.cons rfl (.of_eq rfl) .nil)) .nil rfl)))) ?_
  rcases Bool.eq_false_or_eq_true a0.1 with hc1 | hc1
  · replace h := cond_t hc1 h
    refine W.condT rfl hc1 ?_
    refine W.seq ?_
    refine W.reg (σ' := ⟨[(2, .ref 102)], [(102, .arr 24 eBlk ([] : (List Blk)))]⟩) (J.cons (.none rfl) (JO.assignNilR 102 24 eBlk) rfl rfl (J.fin (Sw.Sub.mk id (.cons rfl (.of_eq rfl) .nil) (.arr rfl .nil) rfl))) ?_
    refine W.ret ?_
    obtain rfl := Option.some.inj h
    exact XQ.sub (σ' := ⟨[(2, .ref 0)], [(0, .arr 24 eBlk ([] : (List Blk)))]⟩) (Sw.Sub.mk (rn [(0, 102)]) (.cons rfl (.of_eq rfl) .nil) (.arr rfl .nil) rfl) (XQ.ret1 hF noR rfl (RV.tmp rfl) (.cons rfl .nil) rfl)
  · replace h := cond_f hc1 h
    refine W.condF rfl hc1 ?_
    refine W.skip ?_
    refine W.seq ?_
    obtain ⟨v2, hv2, h⟩ := bind_e h
    refine W.reg (σ' := ⟨[(2, .ref 104)], [(104, .arr 24 eBlk v2)]⟩) (J.cons (.none rfl) (JO.litR (e := eBlk) 103 Try.runUnderlying22 Try.sizeOf24 Try.zeroValue24 rfl rfl rfl rfl .nil) rfl rfl (J.cons (.none rfl) (JO.move rfl) rfl rfl (J.mut (.none rfl) (JM.append 104 hv2 rfl rfl (.slN rfl) Try.runUnderlying22 Try.typeInfo24 Try.sizeOf24 rfl rfl rfl rfl rfl) (J.cons (.none rfl) (JO.assign rfl) rfl rfl (J.fin (Sw.Sub.mk id (.cons rfl (.of_eq rfl) .nil) (.arr rfl .nil) rfl)))))) ?_
    refine W.ret ?_
    obtain rfl := Option.some.inj h
    exact XQ.sub (σ' := ⟨[(2, .ref 0)], [(0, .arr 24 eBlk v2)]⟩) (Sw.Sub.mk (rn [(0, 104)]) (.cons rfl (.of_eq rfl) .nil) (.arr rfl .nil) rfl) (XQ.ret1 hF noR rfl (RV.tmp rfl) (.cons rfl .nil) rfl)
theorem con_slices_Clone_api_Block_api_Block {a0 : (List Blk)} {r : (List Blk)} (h : m_slices_Clone_api_Block_api_Block a0 = some r) :
    Con Try.prog 82 [.v (Enc.sl eBlk) a0] (.ref 0) [(0, .arr 24 eBlk r)] :=
  Con.nilCases fun b hb => con_slices_Clone_api_Block_api_Block_nil (by cases b with | true => rw [hb rfl] at h ⊢; exact h | false => exact clone_f h)
set_option maxRecDepth 100000 in
set_option maxHeartbeats 4000000 in
theorem con_cache_New {a0 : (List Blk)} {r : (Option ((List Blk) × (List (Blk × (List Int))))) × (Option Int)} (h : m_cache_New a0 = some r) :
    Con Try.prog 90 [.v (Enc.sl eBlk) a0] (.tup [.v (Enc.ptN (Enc.pr (Enc.sl eBlk) (Enc.mpF eBlk (Enc.sl (Enc.int .i64))))) r.1, .v (Enc.err ET) r.2]) [] := by
  refine Con.of Try.func90 rfl Try.ntmps90 rfl ?_
  intro S w hF
  unfold m_cache_New at h
  refine W.seq ?_
  refine W.reg (σ' := ⟨[(0, .v (Enc.sl eBlk) a0)], []⟩) (J.cons (.none rfl) (JO.assignPtN (Enc.pr (Enc.sl eBlk) (Enc.mpF eBlk (Enc.sl (Enc.int .i64))))) rfl rfl (J.cons (.none rfl) (JO.assignNilE ET) rfl rfl (J.fin (Sw.Sub.mk id (.cons rfl (.of_eq rfl) .nil) .nil rfl)))) ?_
  refine W.seq ?_
  refine W.seq ?_
  obtain ⟨x2, hx, h⟩ := bind_e h
  refine W.reg (σ' := ⟨[(0, .v (Enc.sl eBlk) a0), (14, .v Enc.bool x2)], []⟩) ?_ ?_
  · rcases Bool.eq_false_or_eq_true (cm .lss (a0.length : Int) (1 : Int)) with hc3 | hc3
    · replace hx := cond_t hc3 hx
      obtain rfl := Option.some.inj hx
      exact (J.cons (.none rfl) (JO.move rfl) rfl rfl (J.cons (.none rfl) (JO.len rfl Try.runUnderlying22) rfl rfl (J.cons (.none rfl) (JO.cmp rfl rfl rfl) rfl rfl (J.cons (.none rfl) (JO.move rfl) rfl rfl (J.left (GK.unmet 10 rfl rfl rfl hc3) rfl (J.left (GK.unmet 10 rfl rfl rfl hc3) rfl (J.left (GK.unmet 10 rfl rfl rfl hc3) rfl (J.cons (.none rfl) (JO.pT hc3 rfl rfl) rfl rfl (J.fin (Sw.Sub.mk id (.cons rfl (.of_eq rfl) (.cons rfl (.of_eq rfl) .nil)) .nil rfl))))))))))
    · replace hx := cond_f hc3 hx
      obtain rfl := Option.some.inj hx
      exact (J.cons (.none rfl) (JO.move rfl) rfl rfl (J.cons (.none rfl) (JO.len rfl Try.runUnderlying22) rfl rfl (J.cons (.none rfl) (JO.cmp rfl rfl rfl) rfl rfl (J.cons (.none rfl) (JO.move rfl) rfl rfl (J.cons (GK.met 10 rfl rfl rfl hc3) (JO.move rfl) rfl rfl (J.cons (GK.met 10 rfl rfl rfl hc3) (JO.len rfl Try.runUnderlying22) rfl rfl (J.cons (GK.met 10 rfl rfl rfl hc3) (JO.cmp rfl rfl rfl) rfl rfl (J.cons (.none rfl) (JO.pF hc3 rfl rfl) rfl rfl (J.fin (Sw.Sub.mk id (.cons rfl (.of_eq rfl) (.cons rfl (.of_eq rfl) .nil)) .nil rfl))))))))))
  rcases Bool.eq_false_or_eq_true x2 with hc4 | hc4
  · replace h := cond_t hc4 h
    refine W.condT rfl hc4 ?_
    refine W.seq ?_
    refine W.reg (σ' := ⟨[(2, .v (Enc.ptN (Enc.pr (Enc.sl eBlk) (Enc.mpF eBlk (Enc.sl (Enc.int .i64))))) (none : (Option ((List Blk) × (List (Blk × (List Int))))))), (3, .v (Enc.err ET) (some (1 : Int)))], []⟩) (J.cons (.none rfl) (JO.mkErr Try.runUnderlying25 rfl) rfl rfl (J.cons (.none rfl) (JO.assignPtN (Enc.pr (Enc.sl eBlk) (Enc.mpF eBlk (Enc.sl (Enc.int .i64))))) rfl rfl (J.cons (.none rfl) (JO.assign rfl) rfl rfl (J.fin (Sw.Sub.mk id (.cons rfl (.of_eq rfl) (.cons rfl (.of_eq rfl) .nil)) .nil rfl))))) ?_
    refine W.ret ?_
    obtain rfl := Option.some.inj h
    exact XQ.sub (σ' := ⟨[(2, .v (Enc.ptN (Enc.pr (Enc.sl eBlk) (Enc.mpF eBlk (Enc.sl (Enc.int .i64))))) (none : (Option ((List Blk) × (List (Blk × (List Int))))))), (3, .v (Enc.err ET) (some (1 : Int)))], []⟩) (Sw.Sub.mk id (.cons rfl (.of_eq rfl) (.cons rfl (.of_eq rfl) .nil)) .nil rfl) (XQ.ret2 hF noR rfl (RV.tmp rfl) (RV.tmp rfl) .nil rfl)
  · replace h := cond_f hc4 h
    refine W.condF rfl hc4 ?_
    refine W.skip ?_
    refine W.seq ?_
    obtain ⟨v5, hv5, h⟩ := bind_e h
    refine W.reg (σ' := ⟨[(0, .v (Enc.sl eBlk) a0), (4, .ptr 103 0)], [(103, .box 175 [.ref 101000, .ref 102]), (101000, .arr 24 eBlk v5), (102, .dp (DE.mps true eBlk 3 (Enc.int .i64)) (([] : List (Blk × (List Int))), none) [])]⟩) (J.cons (.none rfl) (JO.move rfl) rfl rfl (J.cons (.none rfl) (JO.call 101000 (con_slices_Clone_api_Block_api_Block hv5) Try.call82 (.cons (.dir rfl) .nil) rfl) rfl rfl (J.cons (.none rfl) (JO.makeMapS 102 eBlk 3 (Enc.int .i64)) rfl rfl (J.cons (.none rfl) (JO.build built175 (.cons (Z.sl eBlk) (.cons (Z.mpF eBlk (Enc.sl (Enc.int .i64))) .nil)) (.cons rfl (.dir rfl) rfl rfl rfl rfl (.cons rfl (.dir rfl) rfl rfl rfl rfl .nil))) rfl rfl (J.cons (.none rfl) (JO.boxAgg 103 rfl rfl) rfl rfl (J.cons (.none rfl) (JO.assign rfl) rfl rfl (J.fin (Sw.Sub.mk id (.cons rfl (.of_eq rfl) (.cons rfl (.of_eq rfl) .nil)) (.box rfl (.cons (.of_eq rfl) (.cons (.of_eq rfl) .nil)) (.arr rfl (.dp rfl .nil))) rfl)))))))) ?_
    refine W.seq ?_
    refine W.seq ?_
    refine W.reg (σ' := ⟨[(4, .ptr 103 0), (21, .v (Enc.sl eBlk) a0), (22, .v (Enc.int .i64) (a0.length : Int)), (23, .v (Enc.int .i64) (0 : Int))], [(103, .box 175 [.ref 101000, .ref 102]), (101000, .arr 24 eBlk v5), (102, .dp (DE.mps true eBlk 3 (Enc.int .i64)) (([] : List (Blk × (List Int))), none) [])]⟩) (J.cons (.none rfl) (JO.move rfl) rfl rfl (J.cons (.none rfl) (JO.len rfl Try.runUnderlying22) rfl rfl (J.cons (.none rfl) (JO.move rfl) rfl rfl (J.fin (Sw.Sub.mk id (.cons rfl (.of_eq rfl) (.cons rfl (.of_eq rfl) (.cons rfl (.of_eq rfl) (.cons rfl (.of_eq rfl) .nil)))) (.box rfl (.cons (.of_eq rfl) (.cons (.of_eq rfl) .nil)) (.arr rfl (.dp rfl .nil))) rfl))))) ?_
    obtain ⟨o27, ho27, hb27, hr27⟩ := lp_elim h
    refine W.lp (σs := fun s20 : Int × (List (Blk × (List Int))) => ⟨[(4, .ptr 103 0), (21, .v (Enc.sl eBlk) a0), (22, .v (Enc.int .i64) (a0.length : Int)), (23, .v (Enc.int .i64) s20.1)], [(103, .box 175 [.ref 101000, .ref 102]), (101000, .arr 24 eBlk v5), (102, .dp (DE.mps true eBlk 3 (Enc.int .i64)) (s20.2, none) [])]⟩) (fun x28 : (List (Blk × (List Int))) => ⟨[(4, .ptr 103 0)], [(103, .box 175 [.ref 101000, .ref 102]), (101000, .arr 24 eBlk v5), (102, .dp (DE.mps true eBlk 3 (Enc.int .i64)) (x28, none) [])]⟩) ho27 (Sw.Sub.mk id (.cons rfl (.of_eq rfl) (.cons rfl (.of_eq rfl) (.cons rfl (.of_eq rfl) (.cons rfl (.of_eq rfl) .nil)))) (.box rfl (.cons (.of_eq rfl) (.cons (.of_eq rfl) .nil)) (.arr rfl (.dp rfl .nil))) rfl) ?_ ?_
    · intro x28 hy
      have h := hb27 _ hy
      refine W.seq ?_
      refine W.reg (σ' := ⟨[(2, .v (Enc.ptN (Enc.pr (Enc.sl eBlk) (Enc.mpF eBlk (Enc.sl (Enc.int .i64))))) (some (v5, x28))), (3, .v (Enc.err ET) (none : Option Int))], []⟩) (J.cons (.none rfl) (JO.move rfl) rfl rfl (J.sub (σ' := ⟨[(4, .pst (Enc.pr (Enc.sl eBlk) (Enc.mpF eBlk (Enc.sl (Enc.int .i64)))) (v5, x28)), (40, .pst (Enc.pr (Enc.sl eBlk) (Enc.mpF eBlk (Enc.sl (Enc.int .i64)))) (v5, x28))], []⟩) (Sw.Sub.mk id (.cons rfl (.frzP rfl rfl (.cons (.frz rfl rfl) (.cons (.frzD rfl rfl .mps) .nil)) (.prm (.one _ _) (.one _ _))) (.cons rfl (.frzP rfl rfl (.cons (.frz rfl rfl) (.cons (.frzD rfl rfl .mps) .nil)) (.prm (.one _ _) (.one _ _))) .nil)) .nil rfl) (J.cons (.none rfl) (JO.ptOf (JO.assign rfl)) rfl rfl (J.cons (.none rfl) (JO.assignNilE ET) rfl rfl (J.fin (Sw.Sub.mk id (.cons rfl (.of_eq rfl) (.cons rfl (.of_eq rfl) .nil)) .nil rfl)))))) ?_
      refine W.ret ?_
      obtain rfl := Option.some.inj h
      exact XQ.sub (σ' := ⟨[(2, .v (Enc.ptN (Enc.pr (Enc.sl eBlk) (Enc.mpF eBlk (Enc.sl (Enc.int .i64))))) (some (v5, x28))), (3, .v (Enc.err ET) (none : Option Int))], []⟩) (Sw.Sub.mk id (.cons rfl (.of_eq rfl) (.cons rfl (.of_eq rfl) .nil)) .nil rfl) (XQ.ret2 hF noR rfl (RV.tmp rfl) (RV.tmp rfl) .nil rfl)
    intro s20 r27 h
    refine W.seq ?_
    refine W.reg (σ' := ⟨[(4, .ptr 103 0), (21, .v (Enc.sl eBlk) a0), (22, .v (Enc.int .i64) (a0.length : Int)), (23, .v (Enc.int .i64) s20.1), (24, .v Enc.bool (cm .lss s20.1 (a0.length : Int)))], [(103, .box 175 [.ref 101000, .ref 102]), (101000, .arr 24 eBlk v5), (102, .dp (DE.mps true eBlk 3 (Enc.int .i64)) (s20.2, none) [])]⟩) (J.cons (.none rfl) (JO.cmp rfl rfl rfl) rfl rfl (J.fin (Sw.Sub.mk id (.cons rfl (.of_eq rfl) (.cons rfl (.of_eq rfl) (.cons rfl (.of_eq rfl) (.cons rfl (.of_eq rfl) (.cons rfl (.of_eq rfl) .nil))))) (.box rfl (.cons (.of_eq rfl) (.cons (.of_eq rfl) .nil)) (.arr rfl (.dp rfl .nil))) rfl))) ?_
    refine W.seq ?_
    rcases Bool.eq_false_or_eq_true (cm .lss s20.1 (a0.length : Int)) with hc29 | hc29
    · replace h := cond_t hc29 h
      refine W.condT rfl hc29 ?_
      refine W.skip ?_
      refine W.seq ?_
      refine W.block ?_
      refine W.seq ?_
      obtain ⟨z30, hz30, h⟩ := bind_e h
      refine W.reg (σ' := ⟨[(4, .ptr 103 0), (5, .v (Enc.int .i64) s20.1), (6, .ptr 119 0), (21, .v (Enc.sl eBlk) a0), (22, .v (Enc.int .i64) (a0.length : Int)), (23, .v (Enc.int .i64) s20.1)], [(103, .box 175 [.ref 101000, .ref 102]), (119, .box 24 [.v eBlk z30]), (101000, .arr 24 eBlk v5), (102, .dp (DE.mps true eBlk 3 (Enc.int .i64)) (s20.2, none) [])]⟩) (J.cons (.none rfl) (JO.move rfl) rfl rfl (J.cons (.none rfl) (JO.idx hz30 rfl rfl Try.runUnderlying22 Try.sizeOf24) rfl rfl (J.cons (.none rfl) (JO.loadPst rfl Try.isAgg24 Try.sizeOf24) rfl rfl (J.cons (.none rfl) (JO.alloc 119 Try.zeroValue24 rfl (.cons (Z.arr 8 (Z.int .u8)) .nil) rfl) rfl rfl (J.cons (.none rfl) (JO.assign rfl) rfl rfl (J.mut (.none rfl) (JM.store rfl rfl rfl rfl rfl rfl rfl Try.sizeOf24) (J.fin (Sw.Sub.mk id (.cons rfl (.of_eq rfl) (.cons rfl (.of_eq rfl) (.cons rfl (.of_eq rfl) (.cons rfl (.of_eq rfl) (.cons rfl (.of_eq rfl) (.cons rfl (.of_eq rfl) .nil)))))) (.box rfl (.cons (.of_eq rfl) (.cons (.of_eq rfl) .nil)) (.box rfl (.cons (.of_eq rfl) .nil) (.arr rfl (.dp rfl .nil)))) rfl)))))))) ?_
      obtain ⟨v33, hv33, h⟩ := bind_e h
      obtain ⟨v34, hv34, h⟩ := bind_e h
      refine W.dr4 (σ' := ⟨[(4, .ptr 103 0), (21, .v (Enc.sl eBlk) a0), (22, .v (Enc.int .i64) (a0.length : Int)), (23, .v (Enc.int .i64) s20.1)], [(103, .box 175 [.ref 101000, .ref 102]), (101000, .arr 24 eBlk v5), (102, .dp (DE.mps true eBlk 3 (Enc.int .i64)) (mset v33.1 v33.2.1 v34, none) [])]⟩) 11 [0, 1, 3, 7, 0, 0, 32, 127, 255, 511, 255, 2047] mixed (by exact (.cons (.none rfl) (JO.move rfl) rfl (.cons (.none rfl) (JO.nilPtr rfl) rfl (.cons (.none rfl) (JO.fieldPtr 1 rfl Try.runUnderlying175 rfl Try.sizeOf173 rfl rfl) rfl (.cons (.none rfl) (JO.load rfl rfl rfl Try.isAgg173 Try.sizeOf173) rfl (.cons (.none rfl) (JO.load rfl rfl rfl Try.isAgg24 Try.sizeOf24) rfl (.cons (.none rfl) (JO.move rfl) rfl (.cons (.none rfl) (JO.lit (e := (Enc.int .i64)) Try.runUnderlying36 Try.sizeOf3 Try.zeroValue3 rfl rfl rfl rfl (.cons (.dir rfl) .nil)) rfl (JP4.mapEntry (.none rfl) 122 hv33 rfl rfl rfl Try.runUnderlying173 Try.runUnderlying24 eq24 rfl key24 rfl SameE.arr Try.zeroValue36 rfl rfl (.pu (.none rfl) rfl (fun _ => JO.extract rfl rfl) (JP4.append (.none rfl) 123 hv34 rfl rfl (.sl rfl) Try.runUnderlying36 Try.typeInfo3 Try.sizeOf3 rfl rfl rfl rfl rfl (.pu (.none rfl) rfl (fun _ => JO.extract rfl rfl) .nil)))))))))))) (by exact (J.mut (.none rfl) (JM.entryStore (ment_lt hv33) rfl rfl rfl rfl rfl rfl) (J.fin (Sw.Sub.mk id (.cons rfl (.of_eq rfl) (.cons rfl (.of_eq rfl) (.cons rfl (.of_eq rfl) (.cons rfl (.of_eq rfl) .nil)))) (.box rfl (.cons (.of_eq rfl) (.cons (.of_eq rfl) .nil)) (.arr rfl (.dp rfl .nil))) rfl)))) rfl (by decide +kernel) (by decide +kernel) (by decide +kernel) (by kernel_rfl) (by kernel_rfl) ?_
      refine W.fall ?_
      refine W.reg (σ' := ⟨[(4, .ptr 103 0), (21, .v (Enc.sl eBlk) a0), (22, .v (Enc.int .i64) (a0.length : Int)), (23, .v (Enc.int .i64) (ar .add .i64 s20.1 (1 : Int)))], [(103, .box 175 [.ref 101000, .ref 102]), (101000, .arr 24 eBlk v5), (102, .dp (DE.mps true eBlk 3 (Enc.int .i64)) (mset v33.1 v33.2.1 v34, none) [])]⟩) (J.cons (.none rfl) (JO.arith rfl rfl rfl) rfl rfl (J.cons (.none rfl) (JO.move rfl) rfl rfl (J.fin (Sw.Sub.mk id (.cons rfl (.of_eq rfl) (.cons rfl (.of_eq rfl) (.cons rfl (.of_eq rfl) (.cons rfl (.of_eq rfl) .nil)))) (.box rfl (.cons (.of_eq rfl) (.cons (.of_eq rfl) .nil)) (.arr rfl (.dp rfl .nil))) rfl)))) ?_
      obtain rfl := Option.some.inj h
      exact W.next (Sw.Sub.mk id (.cons rfl (.of_eq rfl) (.cons rfl (.of_eq rfl) (.cons rfl (.of_eq rfl) (.cons rfl (.of_eq rfl) .nil)))) (.box rfl (.cons (.of_eq rfl) (.cons (.of_eq rfl) .nil)) (.arr rfl (.dp rfl .nil))) rfl)
    · replace h := cond_f hc29 h
      refine W.condF rfl hc29 ?_
      refine W.exit ?_
      obtain rfl := Option.some.inj h
      exact XQ.brk (Sw.Sub.mk id (.cons rfl (.of_eq rfl) .nil) (.box rfl (.cons (.of_eq rfl) (.cons (.of_eq rfl) .nil)) (.arr rfl (.dp rfl .nil))) rfl)
set_option maxRecDepth 100000 in
set_option maxHeartbeats 4000000 in
theorem con_plan_zero_tell {a0 : Unit} {a1 : (Int × Blk)} {r : (Int × Int × Int × Blk) × Bool} (h : m_plan_zero_tell a0 a1 = some r) :
    Con Try.prog 115 [.v Enc.st0 a0, .v (Enc.pr (Enc.int .i64) eBlk) a1] (.tup [.v (Enc.pr (Enc.int .i64) (Enc.pr (Enc.int .i64) (Enc.pr (Enc.int .i64) eBlk))) r.1, .v Enc.bool r.2]) [] := by
  refine Con.of Try.func115 rfl Try.ntmps115 rfl ?_
  intro S w hF
  unfold m_plan_zero_tell at h
  refine W.seq ?_
  refine W.reg (σ' := ⟨[(3, .ptr 102 0), (4, .ptr 103 0)], [(102, .box 85 [.v (Enc.int .i64) a1.1, .v eBlk a1.2]), (103, .box 81 [.v (Enc.int .i64) (0 : Int), .v (Enc.int .i64) (0 : Int), .v (Enc.int .i64) (0 : Int), .v eBlk zblk])]⟩) (J.cons (.none rfl) (JO.box 101 rfl (.one _ _) rfl) rfl rfl (J.cons (.none rfl) (JO.box 102 rfl (.prm (.one _ _) (.one _ _)) rfl) rfl rfl (J.cons (.none rfl) (JO.alloc 103 Try.zeroValue81 rfl (.cons (Z.int .i64) (.cons (Z.int .i64) (.cons (Z.int .i64) (.cons (Z.arr 8 (Z.int .u8)) .nil)))) rfl) rfl rfl (J.cons (.none rfl) (JO.assign rfl) rfl rfl (J.fin (Sw.Sub.mk id (.cons rfl (.of_eq rfl) (.cons rfl (.of_eq rfl) .nil)) (.box rfl (.cons (.of_eq rfl) (.cons (.of_eq rfl) .nil)) (.box rfl (.cons (.of_eq rfl) (.cons (.of_eq rfl) (.cons (.of_eq rfl) (.cons (.of_eq rfl) .nil)))) .nil)) rfl)))))) ?_
  refine W.seq ?_
  refine W.dr2 (σ' := ⟨[(4, .ptr 103 0), (5, .v Enc.bool (decide (a1.2 = zblk)))], [(103, .box 81 [.v (Enc.int .i64) a1.1, .v (Enc.int .i64) (0 : Int), .v (Enc.int .i64) (0 : Int), .v eBlk zblk])]⟩) 9 [0, 1, 3, 0, 8, 0, 56, 7, 255] mixed (by exact (.cons (.none rfl) (JO.fieldPtr 0 rfl Try.runUnderlying85 rfl Try.sizeOf3 rfl rfl) rfl rfl (.cons (.none rfl) (JO.load rfl rfl rfl Try.isAgg3 Try.sizeOf3) rfl rfl (.cons (.none rfl) (JO.build built81 (.cons (Z.int .i64) (.cons (Z.int .i64) (.cons (Z.int .i64) (.cons (Z.arr 8 (Z.int .u8)) .nil)))) (.cons rfl (.dir rfl) rfl rfl rfl rfl (.cons rfl (.dir rfl) rfl rfl rfl rfl .nil))) rfl rfl (.cons (.none rfl) (JO.fieldPtr 1 rfl Try.runUnderlying85 rfl Try.sizeOf24 rfl rfl) rfl rfl (.cons (.none rfl) (JO.load rfl rfl rfl Try.isAgg24 Try.sizeOf24) rfl rfl (.cons (.none rfl) (JO.zeroArr (e := eBlk) (v := zblk) Try.typeInfo24 Try.runUnderlying24 Try.typeInfo5 rfl rfl (Z.arr 8 (Z.int .u8))) rfl rfl (.cons (.none rfl) (JO.eqV eq24 rfl rfl Try.eqGuardType24 rfl rfl) rfl rfl (JP2.storeAgg (.none rfl) rfl rfl rfl rfl rfl rfl Try.sizeOf81 (.cons (.none rfl) (JO.assign rfl) rfl rfl .nil)))))))))) (by exact (J.fin (Sw.Sub.mk id (.cons rfl (.of_eq rfl) (.cons rfl (.of_eq rfl) .nil)) (.box rfl (.cons (.of_eq rfl) (.cons (.of_eq rfl) (.cons (.of_eq rfl) (.cons (.of_eq rfl) .nil)))) .nil) rfl))) rfl (by decide +kernel) (by decide +kernel) (by decide +kernel) (by kernel_rfl) ?_
  refine W.ret ?_
  obtain rfl := Option.some.inj h
  exact XQ.sub (σ' := ⟨[(4, .ptr 90 0), (5, .v Enc.bool (decide (a1.2 = zblk)))], [(90, .box 81 [.v (Enc.int .i64) a1.1, .v (Enc.int .i64) (0 : Int), .v (Enc.int .i64) (0 : Int), .v eBlk zblk])]⟩) (Sw.Sub.mk (rn [(90, 103)]) (.cons rfl (.of_eq rfl) (.cons rfl (.of_eq rfl) .nil)) (.box rfl (.cons (.of_eq rfl) (.cons (.of_eq rfl) (.cons (.of_eq rfl) (.cons (.of_eq rfl) .nil)))) .nil) rfl) (XQ.ret2 hF noR rfl (RV.cellAll rfl rfl (.prm (.one _ _) (.prm (.one _ _) (.prm (.one _ _) (.one _ _)))) Try.isAgg81 Try.sizeOf81) (RV.tmp rfl) .nil rfl)
set_option maxRecDepth 100000 in
set_option maxHeartbeats 4000000 in
theorem con_cache_Index_Find {a0 : (Option ((List Blk) × (List (Blk × (List Int)))))} {a1 : Blk} {r : Int × Bool} (h : m_cache_Index_Find a0 a1 = some r) :
    Con Try.prog 114 [.v (Enc.ptN (Enc.pr (Enc.sl eBlk) (Enc.mpF eBlk (Enc.sl (Enc.int .i64))))) a0, .v eBlk a1] (.tup [.v (Enc.int .i64) r.1, .v Enc.bool r.2]) [] := by
  refine Con.of Try.func114 rfl Try.ntmps114 rfl ?_
  intro S w hF
  unfold m_cache_Index_Find at h
  refine W.seq ?_
  refine W.reg (σ' := ⟨[(0, .v (Enc.ptN (Enc.pr (Enc.sl eBlk) (Enc.mpF eBlk (Enc.sl (Enc.int .i64))))) a0), (3, .ptr 101 0)], [(101, .box 24 [.v eBlk a1])]⟩) (J.cons (.none rfl) (JO.box 101 rfl (.one _ _) rfl) rfl rfl (J.cons (.none rfl) (JO.assign rfl) rfl rfl (J.cons (.none rfl) (JO.assign rfl) rfl rfl (J.fin (Sw.Sub.mk id (.cons rfl (.of_eq rfl) (.cons rfl (.of_eq rfl) .nil)) (.box rfl (.cons (.of_eq rfl) .nil) .nil) rfl))))) ?_
  refine W.seq ?_
  obtain ⟨z1, hz1, h⟩ := bind_e h
  refine W.dr2 (σ' := ⟨[(6, .v (Enc.sl (Enc.int .i64)) ((mget z1.2 a1).getD ([] : (List Int))))], []⟩) 7 [0, 1, 3, 7, 0, 31, 63] mixed (by exact (.cons (.none rfl) (JO.move rfl) rfl rfl (.cons (.none rfl) (JO.nilPtN hz1 rfl) rfl rfl (.cons (.none rfl) (JO.fieldPst rfl Try.runUnderlying175 rfl Try.sizeOf173 rfl (.snd .here) rfl) rfl rfl (.cons (.none rfl) (JO.loadPst rfl Try.isAgg173 Try.sizeOf173) rfl rfl (.cons (.none rfl) (JO.load rfl rfl rfl Try.isAgg24 Try.sizeOf24) rfl rfl (.cons (.none rfl) (JO.lookupF rfl rfl Try.runUnderlying173 Try.runUnderlying24 eq24 rfl key24 rfl Try.zeroValue36 (fun S w => ⟨_, (Z.sl (Enc.int .i64)) S w, rfl⟩)) rfl rfl (.cons (.none rfl) (JO.assign rfl) rfl rfl .nil)))))))) (by exact (J.fin (Sw.Sub.mk id (.cons rfl (.of_eq rfl) .nil) .nil rfl))) rfl (by decide +kernel) (by decide +kernel) (by decide +kernel) (by kernel_rfl) ?_
  refine W.seq ?_
  refine W.seq ?_
  refine W.reg (σ' := ⟨[(6, .v (Enc.sl (Enc.int .i64)) ((mget z1.2 a1).getD ([] : (List Int)))), (15, .v Enc.bool (cm .eql (((mget z1.2 a1).getD ([] : (List Int))).length : Int) (0 : Int)))], []⟩) (J.cons (.none rfl) (JO.move rfl) rfl rfl (J.cons (.none rfl) (JO.len rfl Try.runUnderlying36) rfl rfl (J.cons (.none rfl) (JO.cmp rfl rfl rfl) rfl rfl (J.fin (Sw.Sub.mk id (.cons rfl (.of_eq rfl) (.cons rfl (.of_eq rfl) .nil)) .nil rfl))))) ?_
  rcases Bool.eq_false_or_eq_true (cm .eql (((mget z1.2 a1).getD ([] : (List Int))).length : Int) (0 : Int)) with hc2 | hc2
  · replace h := cond_t hc2 h
    refine W.condT rfl hc2 ?_
    refine W.seq ?_
    refine W.reg (σ' := ⟨[(4, .v (Enc.int .i64) (0 : Int)), (5, .v Enc.bool false)], []⟩) (J.cons (.none rfl) (JO.assign rfl) rfl rfl (J.cons (.none rfl) (JO.assign rfl) rfl rfl (J.fin (Sw.Sub.mk id (.cons rfl (.of_eq rfl) (.cons rfl (.of_eq rfl) .nil)) .nil rfl)))) ?_
    refine W.ret ?_
    obtain rfl := Option.some.inj h
    exact XQ.sub (σ' := ⟨[(4, .v (Enc.int .i64) (0 : Int)), (5, .v Enc.bool false)], []⟩) (Sw.Sub.mk id (.cons rfl (.of_eq rfl) (.cons rfl (.of_eq rfl) .nil)) .nil rfl) (XQ.ret2 hF noR rfl (RV.tmp rfl) (RV.tmp rfl) .nil rfl)
  · replace h := cond_f hc2 h
    refine W.condF rfl hc2 ?_
    refine W.skip ?_
    refine W.seq ?_
    obtain ⟨z3, hz3, h⟩ := bind_e h
    refine W.reg (σ' := ⟨[(4, .v (Enc.int .i64) z3), (5, .v Enc.bool true)], []⟩) (J.cons (.none rfl) (JO.move rfl) rfl rfl (J.cons (.none rfl) (JO.idx hz3 rfl rfl Try.runUnderlying36 Try.sizeOf3) rfl rfl (J.cons (.none rfl) (JO.loadPst rfl Try.isAgg3 Try.sizeOf3) rfl rfl (J.cons (.none rfl) (JO.assign rfl) rfl rfl (J.cons (.none rfl) (JO.assign rfl) rfl rfl (J.fin (Sw.Sub.mk id (.cons rfl (.of_eq rfl) (.cons rfl (.of_eq rfl) .nil)) .nil rfl))))))) ?_
    refine W.ret ?_
    obtain rfl := Option.some.inj h
    exact XQ.sub (σ' := ⟨[(4, .v (Enc.int .i64) z3), (5, .v Enc.bool true)], []⟩) (Sw.Sub.mk id (.cons rfl (.of_eq rfl) (.cons rfl (.of_eq rfl) .nil)) .nil rfl) (XQ.ret2 hF noR rfl (RV.tmp rfl) (RV.tmp rfl) .nil rfl)
set_option maxRecDepth 100000 in
set_option maxHeartbeats 4000000 in
theorem con_plan_same_tell {a0 : ((Option ((List Blk) × (List (Blk × (List Int))))))} {a1 : (Int × Blk)} {r : (Int × Int × Int × Blk) × Bool} (h : m_plan_same_tell a0 a1 = some r) :
    Con Try.prog 116 [.v (Enc.one1 (Enc.ptN (Enc.pr (Enc.sl eBlk) (Enc.mpF eBlk (Enc.sl (Enc.int .i64)))))) a0, .v (Enc.pr (Enc.int .i64) eBlk) a1] (.tup [.v (Enc.pr (Enc.int .i64) (Enc.pr (Enc.int .i64) (Enc.pr (Enc.int .i64) eBlk))) r.1, .v Enc.bool r.2]) [] := by
  refine Con.of Try.func116 rfl Try.ntmps116 rfl ?_
  intro S w hF
  unfold m_plan_same_tell at h
  refine W.seq ?_
  refine W.reg (σ' := ⟨[(2, .ptr 101 0), (3, .ptr 102 0), (4, .ptr 103 0)], [(101, .box 157 [.v (Enc.ptN (Enc.pr (Enc.sl eBlk) (Enc.mpF eBlk (Enc.sl (Enc.int .i64))))) a0]), (102, .box 85 [.v (Enc.int .i64) a1.1, .v eBlk a1.2]), (103, .box 81 [.v (Enc.int .i64) (0 : Int), .v (Enc.int .i64) (0 : Int), .v (Enc.int .i64) (0 : Int), .v eBlk zblk])]⟩) (J.cons (.none rfl) (JO.box 101 rfl (.one1 (.one _ _)) rfl) rfl rfl (J.cons (.none rfl) (JO.box 102 rfl (.prm (.one _ _) (.one _ _)) rfl) rfl rfl (J.cons (.none rfl) (JO.alloc 103 Try.zeroValue81 rfl (.cons (Z.int .i64) (.cons (Z.int .i64) (.cons (Z.int .i64) (.cons (Z.arr 8 (Z.int .u8)) .nil)))) rfl) rfl rfl (J.cons (.none rfl) (JO.assign rfl) rfl rfl (J.fin (Sw.Sub.mk id (.cons rfl (.of_eq rfl) (.cons rfl (.of_eq rfl) (.cons rfl (.of_eq rfl) .nil))) (.box rfl (.cons (.of_eq rfl) .nil) (.box rfl (.cons (.of_eq rfl) (.cons (.of_eq rfl) .nil)) (.box rfl (.cons (.of_eq rfl) (.cons (.of_eq rfl) (.cons (.of_eq rfl) (.cons (.of_eq rfl) .nil)))) .nil))) rfl)))))) ?_
  refine W.seq ?_
  obtain ⟨v1, hv1, h⟩ := bind_e h
  refine W.reg (σ' := ⟨[(3, .ptr 102 0), (4, .ptr 103 0), (6, .v (Enc.int .i64) v1.1), (7, .v Enc.bool v1.2)], [(102, .box 85 [.v (Enc.int .i64) a1.1, .v eBlk a1.2]), (103, .box 81 [.v (Enc.int .i64) (0 : Int), .v (Enc.int .i64) (0 : Int), .v (Enc.int .i64) (0 : Int), .v eBlk zblk])]⟩) (J.cons (.none rfl) (JO.fieldPtr 0 rfl Try.runUnderlying157 rfl Try.sizeOf151 rfl rfl) rfl rfl (J.cons (.none rfl) (JO.load rfl rfl rfl Try.isAgg151 Try.sizeOf151) rfl rfl (J.cons (.none rfl) (JO.fieldPtr 1 rfl Try.runUnderlying85 rfl Try.sizeOf24 rfl rfl) rfl rfl (J.cons (.none rfl) (JO.load rfl rfl rfl Try.isAgg24 Try.sizeOf24) rfl rfl (J.cons (.none rfl) (JO.call0 (con_cache_Index_Find hv1) Try.call114 (.cons (.dir rfl) (.cons (.dir rfl) .nil))) rfl rfl (J.cons (.none rfl) (JO.move rfl) rfl rfl (J.cons (.none rfl) (JO.extract rfl rfl) rfl rfl (J.cons (.none rfl) (JO.extract rfl rfl) rfl rfl (J.cons (.none rfl) (JO.assign rfl) rfl rfl (J.cons (.none rfl) (JO.assign rfl) rfl rfl (J.fin (Sw.Sub.mk id (.cons rfl (.of_eq rfl) (.cons rfl (.of_eq rfl) (.cons rfl (.of_eq rfl) (.cons rfl (.of_eq rfl) .nil)))) (.box rfl (.cons (.of_eq rfl) (.cons (.of_eq rfl) .nil)) (.box rfl (.cons (.of_eq rfl) (.cons (.of_eq rfl) (.cons (.of_eq rfl) (.cons (.of_eq rfl) .nil)))) .nil)) rfl)))))))))))) ?_
  refine W.seq ?_
  refine W.reg (σ' := ⟨[(4, .ptr 103 0), (5, .v Enc.bool v1.2)], [(103, .box 81 [.v (Enc.int .i64) a1.1, .v (Enc.int .i64) (1 : Int), .v (Enc.int .i64) v1.1, .v eBlk zblk])]⟩) (J.cons (.none rfl) (JO.fieldPtr 0 rfl Try.runUnderlying85 rfl Try.sizeOf3 rfl rfl) rfl rfl (J.cons (.none rfl) (JO.load rfl rfl rfl Try.isAgg3 Try.sizeOf3) rfl rfl (J.cons (.none rfl) (JO.move rfl) rfl rfl (J.cons (.none rfl) (JO.build built81 (.cons (Z.int .i64) (.cons (Z.int .i64) (.cons (Z.int .i64) (.cons (Z.arr 8 (Z.int .u8)) .nil)))) (.cons rfl (.dir rfl) rfl rfl rfl rfl (.cons rfl (.dir rfl) rfl rfl rfl rfl (.cons rfl (.dir rfl) rfl rfl rfl rfl .nil)))) rfl rfl (J.cons (.none rfl) (JO.move rfl) rfl rfl (J.mut (.none rfl) (JM.storeAgg rfl rfl rfl rfl rfl rfl Try.sizeOf81) (J.cons (.none rfl) (JO.assign rfl) rfl rfl (J.fin (Sw.Sub.mk id (.cons rfl (.of_eq rfl) (.cons rfl (.of_eq rfl) .nil)) (.box rfl (.cons (.of_eq rfl) (.cons (.of_eq rfl) (.cons (.of_eq rfl) (.cons (.of_eq rfl) .nil)))) .nil) rfl))))))))) ?_
  refine W.ret ?_
  obtain rfl := Option.some.inj h
  exact XQ.sub (σ' := ⟨[(4, .ptr 90 0), (5, .v Enc.bool v1.2)], [(90, .box 81 [.v (Enc.int .i64) a1.1, .v (Enc.int .i64) (1 : Int), .v (Enc.int .i64) v1.1, .v eBlk zblk])]⟩) (Sw.Sub.mk (rn [(90, 103)]) (.cons rfl (.of_eq rfl) (.cons rfl (.of_eq rfl) .nil)) (.box rfl (.cons (.of_eq rfl) (.cons (.of_eq rfl) (.cons (.of_eq rfl) (.cons (.of_eq rfl) .nil)))) .nil) rfl) (XQ.ret2 hF noR rfl (RV.cellAll rfl rfl (.prm (.one _ _) (.prm (.one _ _) (.prm (.one _ _) (.one _ _)))) Try.isAgg81 Try.sizeOf81) (RV.tmp rfl) .nil rfl)
set_option maxRecDepth 100000 in
set_option maxHeartbeats 4000000 in
theorem con_slices_Index_api_Block_api_Block {a0 : (List Blk)} {a1 : Blk} {r : Int} (h : m_slices_Index_api_Block_api_Block a0 a1 = some r) :
    Con Try.prog 119 [.v (Enc.sl eBlk) a0, .v eBlk a1] (.v (Enc.int .i64) r) [] := by
  refine Con.of Try.func119 rfl Try.ntmps119 rfl ?_
  intro S w hF
  unfold m_slices_Index_api_Block_api_Block at h
  refine W.seq ?_
  refine W.reg (σ' := ⟨[(0, .v (Enc.sl eBlk) a0), (3, .ptr 101 0)], [(101, .box 24 [.v eBlk a1])]⟩) (J.cons (.none rfl) (JO.box 101 rfl (.one _ _) rfl) rfl rfl (J.cons (.none rfl) (JO.assign rfl) rfl rfl (J.fin (Sw.Sub.mk id (.cons rfl (.of_eq rfl) (.cons rfl (.of_eq rfl) .nil)) (.box rfl (.cons (.of_eq rfl) .nil) .nil) rfl)))) ?_
  refine W.seq ?_
  refine W.seq ?_
  refine W.reg (σ' := ⟨[(0, .v (Enc.sl eBlk) a0), (3, .ptr 101 0), (7, .v (Enc.int .i64) (a0.length : Int)), (8, .v (Enc.int .i64) (0 : Int))], [(101, .box 24 [.v eBlk a1])]⟩) (J.cons (.none rfl) (JO.move rfl) rfl rfl (J.cons (.none rfl) (JO.len rfl Try.runUnderlying22) rfl rfl (J.cons (.none rfl) (JO.move rfl) rfl rfl (J.fin (Sw.Sub.mk id (.cons rfl (.of_eq rfl) (.cons rfl (.of_eq rfl) (.cons rfl (.of_eq rfl) (.cons rfl (.of_eq rfl) .nil)))) (.box rfl (.cons (.of_eq rfl) .nil) .nil) rfl))))) ?_
  obtain ⟨o13, ho13, hb13, hr13⟩ := lp_elim h
  refine W.lp (σs := fun s9 : Int => ⟨[(0, .v (Enc.sl eBlk) a0), (3, .ptr 101 0), (7, .v (Enc.int .i64) (a0.length : Int)), (8, .v (Enc.int .i64) s9)], [(101, .box 24 [.v eBlk a1])]⟩) (fun x14 : Unit => ⟨[], []⟩) ho13 (Sw.Sub.mk id (.cons rfl (.of_eq rfl) (.cons rfl (.of_eq rfl) (.cons rfl (.of_eq rfl) (.cons rfl (.of_eq rfl) .nil)))) (.box rfl (.cons (.of_eq rfl) .nil) .nil) rfl) ?_ ?_
  · intro x14 hy
    have h := hb13 _ hy
    refine W.seq ?_
    refine W.reg (σ' := ⟨[(4, .v (Enc.int .i64) (-1 : Int))], []⟩) (J.cons (.none rfl) (JO.assign rfl) rfl rfl (J.fin (Sw.Sub.mk id (.cons rfl (.of_eq rfl) .nil) .nil rfl))) ?_
    refine W.ret ?_
    obtain rfl := Option.some.inj h
    exact XQ.sub (σ' := ⟨[(4, .v (Enc.int .i64) (-1 : Int))], []⟩) (Sw.Sub.mk id (.cons rfl (.of_eq rfl) .nil) .nil rfl) (XQ.ret1 hF noR rfl (RV.tmp rfl) .nil rfl)
  intro s9 r13 h
  refine W.seq ?_
  refine W.reg (σ' := ⟨[(0, .v (Enc.sl eBlk) a0), (3, .ptr 101 0), (7, .v (Enc.int .i64) (a0.length : Int)), (8, .v (Enc.int .i64) s9), (9, .v Enc.bool (cm .lss s9 (a0.length : Int)))], [(101, .box 24 [.v eBlk a1])]⟩) (J.cons (.none rfl) (JO.cmp rfl rfl rfl) rfl rfl (J.fin (Sw.Sub.mk id (.cons rfl (.of_eq rfl) (.cons rfl (.of_eq rfl) (.cons rfl (.of_eq rfl) (.cons rfl (.of_eq rfl) (.cons rfl (.of_eq rfl) .nil))))) (.box rfl (.cons (.of_eq rfl) .nil) .nil) rfl))) ?_
  refine W.seq ?_
  rcases Bool.eq_false_or_eq_true (cm .lss s9 (a0.length : Int)) with hc15 | hc15
  · replace h := cond_t hc15 h
    refine W.condT rfl hc15 ?_
    refine W.skip ?_
    refine W.seq ?_
    refine W.block ?_
    refine W.seq ?_
    refine W.reg (σ' := ⟨[(0, .v (Enc.sl eBlk) a0), (3, .ptr 101 0), (5, .v (Enc.int .i64) s9), (7, .v (Enc.int .i64) (a0.length : Int)), (8, .v (Enc.int .i64) s9)], [(101, .box 24 [.v eBlk a1])]⟩) (J.cons (.none rfl) (JO.move rfl) rfl rfl (J.cons (.none rfl) (JO.assign rfl) rfl rfl (J.fin (Sw.Sub.mk id (.cons rfl (.of_eq rfl) (.cons rfl (.of_eq rfl) (.cons rfl (.of_eq rfl) (.cons rfl (.of_eq rfl) (.cons rfl (.of_eq rfl) .nil))))) (.box rfl (.cons (.of_eq rfl) .nil) .nil) rfl)))) ?_
    refine W.seq ?_
    obtain ⟨z16, hz16, h⟩ := bind_e h
    refine W.dr2 (σ' := ⟨[(0, .v (Enc.sl eBlk) a0), (3, .ptr 101 0), (5, .v (Enc.int .i64) s9), (7, .v (Enc.int .i64) (a0.length : Int)), (8, .v (Enc.int .i64) s9), (16, .v Enc.bool (decide (a1 = z16)))], [(101, .box 24 [.v eBlk a1])]⟩) 6 [0, 0, 0, 6, 14, 31] mixed (by exact (.cons (.none rfl) (JO.load rfl rfl rfl Try.isAgg24 Try.sizeOf24) rfl rfl (.cons (.none rfl) (JO.move rfl) rfl rfl (.cons (.none rfl) (JO.move rfl) rfl rfl (.cons (.none rfl) (JO.idx hz16 rfl rfl Try.runUnderlying22 Try.sizeOf24) rfl rfl (.cons (.none rfl) (JO.loadPst rfl Try.isAgg24 Try.sizeOf24) rfl rfl (.cons (.none rfl) (JO.eqV eq24 rfl rfl Try.eqGuardType24 rfl rfl) rfl rfl .nil))))))) (by exact (J.fin (Sw.Sub.mk id (.cons rfl (.of_eq rfl) (.cons rfl (.of_eq rfl) (.cons rfl (.of_eq rfl) (.cons rfl (.of_eq rfl) (.cons rfl (.of_eq rfl) (.cons rfl (.of_eq rfl) .nil)))))) (.box rfl (.cons (.of_eq rfl) .nil) .nil) rfl))) rfl (by decide +kernel) (by decide +kernel) (by decide +kernel) (by kernel_rfl) ?_
    rcases Bool.eq_false_or_eq_true (decide (a1 = z16)) with hc17 | hc17
    · replace h := cond_t hc17 h
      refine W.condT rfl hc17 ?_
      refine W.seq ?_
      refine W.reg (σ' := ⟨[(4, .v (Enc.int .i64) s9)], []⟩) (J.cons (.none rfl) (JO.move rfl) rfl rfl (J.cons (.none rfl) (JO.assign rfl) rfl rfl (J.fin (Sw.Sub.mk id (.cons rfl (.of_eq rfl) .nil) .nil rfl)))) ?_
      refine W.ret ?_
      refine XQ.ret ?_
      obtain rfl := Option.some.inj h
      refine XQ.lret fun ho => ?_
      obtain rfl := hr13 _ ho
      exact XQ.sub (σ' := ⟨[(4, .v (Enc.int .i64) s9)], []⟩) (Sw.Sub.mk id (.cons rfl (.of_eq rfl) .nil) .nil rfl) (XQ.ret1 hF noR rfl (RV.tmp rfl) .nil rfl)
    · replace h := cond_f hc17 h
      refine W.condF rfl hc17 ?_
      refine W.skip ?_
      refine W.fall ?_
      refine W.reg (σ' := ⟨[(0, .v (Enc.sl eBlk) a0), (3, .ptr 101 0), (7, .v (Enc.int .i64) (a0.length : Int)), (8, .v (Enc.int .i64) (ar .add .i64 s9 (1 : Int)))], [(101, .box 24 [.v eBlk a1])]⟩) (J.cons (.none rfl) (JO.arith rfl rfl rfl) rfl rfl (J.cons (.none rfl) (JO.move rfl) rfl rfl (J.fin (Sw.Sub.mk id (.cons rfl (.of_eq rfl) (.cons rfl (.of_eq rfl) (.cons rfl (.of_eq rfl) (.cons rfl (.of_eq rfl) .nil)))) (.box rfl (.cons (.of_eq rfl) .nil) .nil) rfl)))) ?_
      obtain rfl := Option.some.inj h
      exact W.next (Sw.Sub.mk id (.cons rfl (.of_eq rfl) (.cons rfl (.of_eq rfl) (.cons rfl (.of_eq rfl) (.cons rfl (.of_eq rfl) .nil)))) (.box rfl (.cons (.of_eq rfl) .nil) .nil) rfl)
  · replace h := cond_f hc15 h
    refine W.condF rfl hc15 ?_
    refine W.exit ?_
    obtain rfl := Option.some.inj h
    exact XQ.brk (Sw.Sub.mk id .nil .nil rfl)
set_option maxRecDepth 100000 in
set_option maxHeartbeats 4000000 in
theorem con_cache_Find {a0 : (List Blk)} {a1 : Blk} {r : Int × Bool} (h : m_cache_Find a0 a1 = some r) :
    Con Try.prog 118 [.v (Enc.sl eBlk) a0, .v eBlk a1] (.tup [.v (Enc.int .i64) r.1, .v Enc.bool r.2]) [] := by
  refine Con.of Try.func118 rfl Try.ntmps118 rfl ?_
  intro S w hF
  unfold m_cache_Find at h
  refine W.seq ?_
  refine W.reg (σ' := ⟨[(0, .v (Enc.sl eBlk) a0), (3, .ptr 101 0)], [(101, .box 24 [.v eBlk a1])]⟩) (J.cons (.none rfl) (JO.box 101 rfl (.one _ _) rfl) rfl rfl (J.cons (.none rfl) (JO.assign rfl) rfl rfl (J.cons (.none rfl) (JO.assign rfl) rfl rfl (J.fin (Sw.Sub.mk id (.cons rfl (.of_eq rfl) (.cons rfl (.of_eq rfl) .nil)) (.box rfl (.cons (.of_eq rfl) .nil) .nil) rfl))))) ?_
  refine W.seq ?_
  obtain ⟨v1, hv1, h⟩ := bind_e h
  refine W.reg (σ' := ⟨[(6, .v (Enc.int .i64) v1)], []⟩) (J.cons (.none rfl) (JO.move rfl) rfl rfl (J.cons (.none rfl) (JO.load rfl rfl rfl Try.isAgg24 Try.sizeOf24) rfl rfl (J.cons (.none rfl) (JO.call0 (con_slices_Index_api_Block_api_Block hv1) Try.call119 (.cons (.dir rfl) (.cons (.dir rfl) .nil))) rfl rfl (J.cons (.none rfl) (JO.assign rfl) rfl rfl (J.fin (Sw.Sub.mk id (.cons rfl (.of_eq rfl) .nil) .nil rfl)))))) ?_
  refine W.seq ?_
  refine W.reg (σ' := ⟨[(4, .v (Enc.int .i64) (max v1 (0 : Int))), (5, .v Enc.bool (cm .geq v1 (0 : Int)))], []⟩) (J.cons (.none rfl) (JO.move rfl) rfl rfl (J.cons (.none rfl) (JO.gmax rfl rfl) rfl rfl (J.cons (.none rfl) (JO.move rfl) rfl rfl (J.cons (.none rfl) (JO.cmp rfl rfl rfl) rfl rfl (J.cons (.none rfl) (JO.assign rfl) rfl rfl (J.cons (.none rfl) (JO.assign rfl) rfl rfl (J.fin (Sw.Sub.mk id (.cons rfl (.of_eq rfl) (.cons rfl (.of_eq rfl) .nil)) .nil rfl)))))))) ?_
  refine W.ret ?_
  obtain rfl := Option.some.inj h
  exact XQ.sub (σ' := ⟨[(4, .v (Enc.int .i64) (max v1 (0 : Int))), (5, .v Enc.bool (cm .geq v1 (0 : Int)))], []⟩) (Sw.Sub.mk id (.cons rfl (.of_eq rfl) (.cons rfl (.of_eq rfl) .nil)) .nil rfl) (XQ.ret2 hF noR rfl (RV.tmp rfl) (RV.tmp rfl) .nil rfl)
set_option maxRecDepth 100000 in
set_option maxHeartbeats 4000000 in
theorem con_plan_cached_tell {a0 : ((List Blk))} {a1 : (Int × Blk)} {r : (Int × Int × Int × Blk) × Bool} (h : m_plan_cached_tell a0 a1 = some r) :
    Con Try.prog 117 [.v (Enc.one1 (Enc.sl eBlk)) a0, .v (Enc.pr (Enc.int .i64) eBlk) a1] (.tup [.v (Enc.pr (Enc.int .i64) (Enc.pr (Enc.int .i64) (Enc.pr (Enc.int .i64) eBlk))) r.1, .v Enc.bool r.2]) [] := by
  refine Con.of Try.func117 rfl Try.ntmps117 rfl ?_
  intro S w hF
  unfold m_plan_cached_tell at h
  refine W.seq ?_
  refine W.reg (σ' := ⟨[(2, .ptr 101 0), (3, .ptr 102 0), (4, .ptr 103 0)], [(101, .box 159 [.v (Enc.sl eBlk) a0]), (102, .box 85 [.v (Enc.int .i64) a1.1, .v eBlk a1.2]), (103, .box 81 [.v (Enc.int .i64) (0 : Int), .v (Enc.int .i64) (0 : Int), .v (Enc.int .i64) (0 : Int), .v eBlk zblk])]⟩) (J.cons (.none rfl) (JO.box 101 rfl (.one1 (.one _ _)) rfl) rfl rfl (J.cons (.none rfl) (JO.box 102 rfl (.prm (.one _ _) (.one _ _)) rfl) rfl rfl (J.cons (.none rfl) (JO.alloc 103 Try.zeroValue81 rfl (.cons (Z.int .i64) (.cons (Z.int .i64) (.cons (Z.int .i64) (.cons (Z.arr 8 (Z.int .u8)) .nil)))) rfl) rfl rfl (J.cons (.none rfl) (JO.assign rfl) rfl rfl (J.fin (Sw.Sub.mk id (.cons rfl (.of_eq rfl) (.cons rfl (.of_eq rfl) (.cons rfl (.of_eq rfl) .nil))) (.box rfl (.cons (.of_eq rfl) .nil) (.box rfl (.cons (.of_eq rfl) (.cons (.of_eq rfl) .nil)) (.box rfl (.cons (.of_eq rfl) (.cons (.of_eq rfl) (.cons (.of_eq rfl) (.cons (.of_eq rfl) .nil)))) .nil))) rfl)))))) ?_
  refine W.seq ?_
  obtain ⟨v1, hv1, h⟩ := bind_e h
  refine W.reg (σ' := ⟨[(3, .ptr 102 0), (4, .ptr 103 0), (6, .v (Enc.int .i64) v1.1), (7, .v Enc.bool v1.2)], [(102, .box 85 [.v (Enc.int .i64) a1.1, .v eBlk a1.2]), (103, .box 81 [.v (Enc.int .i64) (0 : Int), .v (Enc.int .i64) (0 : Int), .v (Enc.int .i64) (0 : Int), .v eBlk zblk])]⟩) (J.cons (.none rfl) (JO.fieldPtr 0 rfl Try.runUnderlying159 rfl Try.sizeOf22 rfl rfl) rfl rfl (J.cons (.none rfl) (JO.load rfl rfl rfl Try.isAgg22 Try.sizeOf22) rfl rfl (J.cons (.none rfl) (JO.fieldPtr 1 rfl Try.runUnderlying85 rfl Try.sizeOf24 rfl rfl) rfl rfl (J.cons (.none rfl) (JO.load rfl rfl rfl Try.isAgg24 Try.sizeOf24) rfl rfl (J.cons (.none rfl) (JO.call0 (con_cache_Find hv1) Try.call118 (.cons (.dir rfl) (.cons (.dir rfl) .nil))) rfl rfl (J.cons (.none rfl) (JO.move rfl) rfl rfl (J.cons (.none rfl) (JO.extract rfl rfl) rfl rfl (J.cons (.none rfl) (JO.extract rfl rfl) rfl rfl (J.cons (.none rfl) (JO.assign rfl) rfl rfl (J.cons (.none rfl) (JO.assign rfl) rfl rfl (J.fin (Sw.Sub.mk id (.cons rfl (.of_eq rfl) (.cons rfl (.of_eq rfl) (.cons rfl (.of_eq rfl) (.cons rfl (.of_eq rfl) .nil)))) (.box rfl (.cons (.of_eq rfl) (.cons (.of_eq rfl) .nil)) (.box rfl (.cons (.of_eq rfl) (.cons (.of_eq rfl) (.cons (.of_eq rfl) (.cons (.of_eq rfl) .nil)))) .nil)) rfl)))))))))))) ?_
  refine W.seq ?_
  refine W.reg (σ' := ⟨[(4, .ptr 103 0), (5, .v Enc.bool v1.2)], [(103, .box 81 [.v (Enc.int .i64) a1.1, .v (Enc.int .i64) (2 : Int), .v (Enc.int .i64) v1.1, .v eBlk zblk])]⟩) (J.cons (.none rfl) (JO.fieldPtr 0 rfl Try.runUnderlying85 rfl Try.sizeOf3 rfl rfl) rfl rfl (J.cons (.none rfl) (JO.load rfl rfl rfl Try.isAgg3 Try.sizeOf3) rfl rfl (J.cons (.none rfl) (JO.move rfl) rfl rfl (J.cons (.none rfl) (JO.build built81 (.cons (Z.int .i64) (.cons (Z.int .i64) (.cons (Z.int .i64) (.cons (Z.arr 8 (Z.int .u8)) .nil)))) (.cons rfl (.dir rfl) rfl rfl rfl rfl (.cons rfl (.dir rfl) rfl rfl rfl rfl (.cons rfl (.dir rfl) rfl rfl rfl rfl .nil)))) rfl rfl (J.cons (.none rfl) (JO.move rfl) rfl rfl (J.mut (.none rfl) (JM.storeAgg rfl rfl rfl rfl rfl rfl Try.sizeOf81) (J.cons (.none rfl) (JO.assign rfl) rfl rfl (J.fin (Sw.Sub.mk id (.cons rfl (.of_eq rfl) (.cons rfl (.of_eq rfl) .nil)) (.box rfl (.cons (.of_eq rfl) (.cons (.of_eq rfl) (.cons (.of_eq rfl) (.cons (.of_eq rfl) .nil)))) .nil) rfl))))))))) ?_
  refine W.ret ?_
  obtain rfl := Option.some.inj h
  exact XQ.sub (σ' := ⟨[(4, .ptr 90 0), (5, .v Enc.bool v1.2)], [(90, .box 81 [.v (Enc.int .i64) a1.1, .v (Enc.int .i64) (2 : Int), .v (Enc.int .i64) v1.1, .v eBlk zblk])]⟩) (Sw.Sub.mk (rn [(90, 103)]) (.cons rfl (.of_eq rfl) (.cons rfl (.of_eq rfl) .nil)) (.box rfl (.cons (.of_eq rfl) (.cons (.of_eq rfl) (.cons (.of_eq rfl) (.cons (.of_eq rfl) .nil)))) .nil) rfl) (XQ.ret2 hF noR rfl (RV.cellAll rfl rfl (.prm (.one _ _) (.prm (.one _ _) (.prm (.one _ _) (.one _ _)))) Try.isAgg81 Try.sizeOf81) (RV.tmp rfl) .nil rfl)
set_option maxRecDepth 100000 in
set_option maxHeartbeats 4000000 in
theorem con_plan_literal_tell {a0 : Unit} {a1 : (Int × Blk)} {r : (Int × Int × Int × Blk) × Bool} (h : m_plan_literal_tell a0 a1 = some r) :
    Con Try.prog 120 [.v Enc.st0 a0, .v (Enc.pr (Enc.int .i64) eBlk) a1] (.tup [.v (Enc.pr (Enc.int .i64) (Enc.pr (Enc.int .i64) (Enc.pr (Enc.int .i64) eBlk))) r.1, .v Enc.bool r.2]) [] := by
  refine Con.of Try.func120 rfl Try.ntmps120 rfl ?_
  intro S w hF
  unfold m_plan_literal_tell at h
  refine W.seq ?_
  refine W.reg (σ' := ⟨[(3, .ptr 102 0), (4, .ptr 103 0)], [(102, .box 85 [.v (Enc.int .i64) a1.1, .v eBlk a1.2]), (103, .box 81 [.v (Enc.int .i64) (0 : Int), .v (Enc.int .i64) (0 : Int), .v (Enc.int .i64) (0 : Int), .v eBlk zblk])]⟩) (J.cons (.none rfl) (JO.box 101 rfl (.one _ _) rfl) rfl rfl (J.cons (.none rfl) (JO.box 102 rfl (.prm (.one _ _) (.one _ _)) rfl) rfl rfl (J.cons (.none rfl) (JO.alloc 103 Try.zeroValue81 rfl (.cons (Z.int .i64) (.cons (Z.int .i64) (.cons (Z.int .i64) (.cons (Z.arr 8 (Z.int .u8)) .nil)))) rfl) rfl rfl (J.cons (.none rfl) (JO.assign rfl) rfl rfl (J.fin (Sw.Sub.mk id (.cons rfl (.of_eq rfl) (.cons rfl (.of_eq rfl) .nil)) (.box rfl (.cons (.of_eq rfl) (.cons (.of_eq rfl) .nil)) (.box rfl (.cons (.of_eq rfl) (.cons (.of_eq rfl) (.cons (.of_eq rfl) (.cons (.of_eq rfl) .nil)))) .nil)) rfl)))))) ?_
  refine W.seq ?_
  refine W.reg (σ' := ⟨[(4, .ptr 103 0), (5, .v Enc.bool true)], [(103, .box 81 [.v (Enc.int .i64) a1.1, .v (Enc.int .i64) (3 : Int), .v (Enc.int .i64) (0 : Int), .v eBlk a1.2])]⟩) (J.cons (.none rfl) (JO.fieldPtr 0 rfl Try.runUnderlying85 rfl Try.sizeOf3 rfl rfl) rfl rfl (J.cons (.none rfl) (JO.load rfl rfl rfl Try.isAgg3 Try.sizeOf3) rfl rfl (J.cons (.none rfl) (JO.fieldPtr 1 rfl Try.runUnderlying85 rfl Try.sizeOf24 rfl rfl) rfl rfl (J.cons (.none rfl) (JO.load rfl rfl rfl Try.isAgg24 Try.sizeOf24) rfl rfl (J.cons (.none rfl) (JO.build built81 (.cons (Z.int .i64) (.cons (Z.int .i64) (.cons (Z.int .i64) (.cons (Z.arr 8 (Z.int .u8)) .nil)))) (.cons rfl (.dir rfl) rfl rfl rfl rfl (.cons rfl (.dir rfl) rfl rfl rfl rfl (.cons rfl (.dir rfl) rfl rfl rfl rfl .nil)))) rfl rfl (J.mut (.none rfl) (JM.storeAgg rfl rfl rfl rfl rfl rfl Try.sizeOf81) (J.cons (.none rfl) (JO.assign rfl) rfl rfl (J.fin (Sw.Sub.mk id (.cons rfl (.of_eq rfl) (.cons rfl (.of_eq rfl) .nil)) (.box rfl (.cons (.of_eq rfl) (.cons (.of_eq rfl) (.cons (.of_eq rfl) (.cons (.of_eq rfl) .nil)))) .nil) rfl))))))))) ?_
  refine W.ret ?_
  obtain rfl := Option.some.inj h
  exact XQ.sub (σ' := ⟨[(4, .ptr 90 0), (5, .v Enc.bool true)], [(90, .box 81 [.v (Enc.int .i64) a1.1, .v (Enc.int .i64) (3 : Int), .v (Enc.int .i64) (0 : Int), .v eBlk a1.2])]⟩) (Sw.Sub.mk (rn [(90, 103)]) (.cons rfl (.of_eq rfl) (.cons rfl (.of_eq rfl) .nil)) (.box rfl (.cons (.of_eq rfl) (.cons (.of_eq rfl) (.cons (.of_eq rfl) (.cons (.of_eq rfl) .nil)))) .nil) rfl) (XQ.ret2 hF noR rfl (RV.cellAll rfl rfl (.prm (.one _ _) (.prm (.one _ _) (.prm (.one _ _) (.one _ _)))) Try.isAgg81 Try.sizeOf81) (RV.tmp rfl) .nil rfl)
set_option maxRecDepth 100000 in
set_option maxHeartbeats 4000000 in
theorem con_inv_PWay {w : PWay} {p0 : (Int × Blk)} {r : (Int × Int × Int × Blk) × Bool} (h : m_inv_PWay w p0 = some r) :
    IfcCon Try.prog "stillwater/plan.tell" ePWay w [.v (Enc.pr (Enc.int .i64) eBlk) p0] (.tup [.v (Enc.pr (Enc.int .i64) (Enc.pr (Enc.int .i64) (Enc.pr (Enc.int .i64) eBlk))) r.1, .v Enc.bool r.2]) [] := by
  unfold m_inv_PWay at h
  rcases w with z | z | z | z | z
  · exact (IfcCon.here (fun _ _ => by kernel_rfl) Try.call115 (con_plan_zero_tell h))
  · exact (.there (IfcCon.here (fun _ _ => by kernel_rfl) Try.call116 (con_plan_same_tell h)))
  · exact (.there (.there (IfcCon.here (fun _ _ => by kernel_rfl) Try.call117 (con_plan_cached_tell h))))
  · exact (.there (.there (.there (IfcCon.here (fun _ _ => by kernel_rfl) Try.call120 (con_plan_literal_tell h)))))
  · cases h
set_option maxRecDepth 100000 in
set_option maxHeartbeats 4000000 in
theorem con_plan_Packets {a0 : (List (Int × Blk))} {a1 : (List Blk)} {a2 : (List Blk)} {r : (List (Int × Int × Int × Blk)) × (Option Int)} (h : m_plan_Packets a0 a1 a2 = some r) :
    Con Try.prog 67 [.v (Enc.sl (Enc.pr (Enc.int .i64) eBlk)) a0, .v (Enc.sl eBlk) a1, .v (Enc.sl eBlk) a2] (.tup [.v (Enc.sl (Enc.pr (Enc.int .i64) (Enc.pr (Enc.int .i64) (Enc.pr (Enc.int .i64) eBlk)))) r.1, .v (Enc.err ET) r.2]) [] := by
  refine Con.of Try.func67 rfl Try.ntmps67 rfl ?_
  intro S w hF
  unfold m_plan_Packets at h
  refine W.seq ?_
  refine W.reg (σ' := ⟨[(0, .v (Enc.sl (Enc.pr (Enc.int .i64) eBlk)) a0), (1, .v (Enc.sl eBlk) a1), (2, .v (Enc.sl eBlk) a2)], []⟩) (J.cons (.none rfl) (JO.assignNilR 101 81 (Enc.pr (Enc.int .i64) (Enc.pr (Enc.int .i64) (Enc.pr (Enc.int .i64) eBlk)))) rfl rfl (J.cons (.none rfl) (JO.assignNilE ET) rfl rfl (J.fin (Sw.Sub.mk id (.cons rfl (.of_eq rfl) (.cons rfl (.of_eq rfl) (.cons rfl (.of_eq rfl) .nil))) .nil rfl)))) ?_
  refine W.seq ?_
  refine W.seq ?_
  obtain ⟨v1, hv1, h⟩ := bind_e h
  refine W.reg (σ' := ⟨[(0, .v (Enc.sl (Enc.pr (Enc.int .i64) eBlk)) a0), (1, .v (Enc.sl eBlk) a1), (2, .v (Enc.sl eBlk) a2), (8, .v (Enc.err ET) v1)], []⟩) (J.cons (.none rfl) (JO.move rfl) rfl rfl (J.cons (.none rfl) (JO.move rfl) rfl rfl (J.cons (.none rfl) (JO.call0 (con_plan_checked hv1) Try.call80 (.cons (.dir rfl) (.cons (.dir rfl) .nil))) rfl rfl (J.cons (.none rfl) (JO.assign rfl) rfl rfl (J.fin (Sw.Sub.mk id (.cons rfl (.of_eq rfl) (.cons rfl (.of_eq rfl) (.cons rfl (.of_eq rfl) (.cons rfl (.of_eq rfl) .nil)))) .nil rfl)))))) ?_
  refine W.seq ?_
  refine W.reg (σ' := ⟨[(0, .v (Enc.sl (Enc.pr (Enc.int .i64) eBlk)) a0), (1, .v (Enc.sl eBlk) a1), (2, .v (Enc.sl eBlk) a2), (8, .v (Enc.err ET) v1), (25, .v Enc.bool (Option.isSome v1))], []⟩) (J.cons (.none rfl) (JO.move rfl) rfl rfl (J.cons (.none rfl) (JO.errNe Try.runUnderlying29 rfl) rfl rfl (J.fin (Sw.Sub.mk id (.cons rfl (.of_eq rfl) (.cons rfl (.of_eq rfl) (.cons rfl (.of_eq rfl) (.cons rfl (.of_eq rfl) (.cons rfl (.of_eq rfl) .nil))))) .nil rfl)))) ?_
  rcases Bool.eq_false_or_eq_true (Option.isSome v1) with hc2 | hc2
  · replace h := cond_t hc2 h
    refine W.condT rfl hc2 ?_
    refine W.seq ?_
    refine W.reg (σ' := ⟨[(6, .ref 103), (7, .v (Enc.err ET) v1)], [(103, .arr 81 (Enc.pr (Enc.int .i64) (Enc.pr (Enc.int .i64) (Enc.pr (Enc.int .i64) eBlk))) ([] : (List (Int × Int × Int × Blk))))]⟩) (J.cons (.none rfl) (JO.move rfl) rfl rfl (J.cons (.none rfl) (JO.assignNilR 103 81 (Enc.pr (Enc.int .i64) (Enc.pr (Enc.int .i64) (Enc.pr (Enc.int .i64) eBlk)))) rfl rfl (J.cons (.none rfl) (JO.assign rfl) rfl rfl (J.fin (Sw.Sub.mk id (.cons rfl (.of_eq rfl) (.cons rfl (.of_eq rfl) .nil)) (.arr rfl .nil) rfl))))) ?_
    refine W.ret ?_
    obtain rfl := Option.some.inj h
    exact XQ.sub (σ' := ⟨[(6, .v (Enc.sl (Enc.pr (Enc.int .i64) (Enc.pr (Enc.int .i64) (Enc.pr (Enc.int .i64) eBlk)))) ([] : (List (Int × Int × Int × Blk)))), (7, .v (Enc.err ET) v1)], []⟩) (Sw.Sub.mk id (.cons rfl (.frz rfl rfl) (.cons rfl (.of_eq rfl) .nil)) .nil rfl) (XQ.ret2 hF noR rfl (RV.tmp rfl) (RV.tmp rfl) .nil rfl)
  · replace h := cond_f hc2 h
    refine W.condF rfl hc2 ?_
    refine W.skip ?_
    refine W.seq ?_
    refine W.reg (σ' := ⟨[(0, .v (Enc.sl (Enc.pr (Enc.int .i64) eBlk)) a0), (1, .v (Enc.sl eBlk) a1), (2, .v (Enc.sl eBlk) a2), (9, .v (Enc.int .i64) (-1 : Int))], []⟩) (J.cons (.none rfl) (JO.assign rfl) rfl rfl (J.fin (Sw.Sub.mk id (.cons rfl (.of_eq rfl) (.cons rfl (.of_eq rfl) (.cons rfl (.of_eq rfl) (.cons rfl (.of_eq rfl) .nil)))) .nil rfl))) ?_
    refine W.seq ?_
    refine W.seq ?_
    refine W.reg (σ' := ⟨[(0, .v (Enc.sl (Enc.pr (Enc.int .i64) eBlk)) a0), (1, .v (Enc.sl eBlk) a1), (2, .v (Enc.sl eBlk) a2), (9, .v (Enc.int .i64) (-1 : Int)), (27, .v (Enc.sl (Enc.pr (Enc.int .i64) eBlk)) a0), (28, .v (Enc.int .i64) (a0.length : Int)), (29, .v (Enc.int .i64) (0 : Int))], []⟩) (J.cons (.none rfl) (JO.move rfl) rfl rfl (J.cons (.none rfl) (JO.len rfl Try.runUnderlying47) rfl rfl (J.cons (.none rfl) (JO.move rfl) rfl rfl (J.fin (Sw.Sub.mk id (.cons rfl (.of_eq rfl) (.cons rfl (.of_eq rfl) (.cons rfl (.of_eq rfl) (.cons rfl (.of_eq rfl) (.cons rfl (.of_eq rfl) (.cons rfl (.of_eq rfl) (.cons rfl (.of_eq rfl) .nil))))))) .nil rfl))))) ?_
    obtain ⟨o24, ho24, hb24, hr24⟩ := lp_elim h
    refine W.lp (σs := fun s17 : Int × Int => ⟨[(0, .v (Enc.sl (Enc.pr (Enc.int .i64) eBlk)) a0), (1, .v (Enc.sl eBlk) a1), (2, .v (Enc.sl eBlk) a2), (9, .v (Enc.int .i64) s17.1), (27, .v (Enc.sl (Enc.pr (Enc.int .i64) eBlk)) a0), (28, .v (Enc.int .i64) (a0.length : Int)), (29, .v (Enc.int .i64) s17.2)], []⟩) (fun x25 : Unit => ⟨[(0, .v (Enc.sl (Enc.pr (Enc.int .i64) eBlk)) a0), (1, .v (Enc.sl eBlk) a1), (2, .v (Enc.sl eBlk) a2)], []⟩) ho24 (Sw.Sub.mk id (.cons rfl (.of_eq rfl) (.cons rfl (.of_eq rfl) (.cons rfl (.of_eq rfl) (.cons rfl (.of_eq rfl) (.cons rfl (.of_eq rfl) (.cons rfl (.of_eq rfl) (.cons rfl (.of_eq rfl) .nil))))))) .nil rfl) ?_ ?_
    · intro x25 hy
      have h := hb24 _ hy
      refine W.seq ?_
      obtain ⟨v32, hv32, h⟩ := bind_e h
      refine W.reg (σ' := ⟨[(0, .v (Enc.sl (Enc.pr (Enc.int .i64) eBlk)) a0), (1, .v (Enc.sl eBlk) a1), (2, .v (Enc.sl eBlk) a2), (12, .v (Enc.ptN (Enc.pr (Enc.sl eBlk) (Enc.mpF eBlk (Enc.sl (Enc.int .i64))))) v32.1), (13, .v (Enc.err ET) v32.2)], []⟩) (J.cons (.none rfl) (JO.move rfl) rfl rfl (J.cons (.none rfl) (JO.call0 (con_cache_New hv32) Try.call90 (.cons (.dir rfl) .nil)) rfl rfl (J.cons (.none rfl) (JO.move rfl) rfl rfl (J.cons (.none rfl) (JO.extract rfl rfl) rfl rfl (J.cons (.none rfl) (JO.extract rfl rfl) rfl rfl (J.cons (.none rfl) (JO.assign rfl) rfl rfl (J.cons (.none rfl) (JO.assign rfl) rfl rfl (J.fin (Sw.Sub.mk id (.cons rfl (.of_eq rfl) (.cons rfl (.of_eq rfl) (.cons rfl (.of_eq rfl) (.cons rfl (.of_eq rfl) (.cons rfl (.of_eq rfl) .nil))))) .nil rfl))))))))) ?_
      refine W.seq ?_
      refine W.seq ?_
      refine W.reg (σ' := ⟨[(0, .v (Enc.sl (Enc.pr (Enc.int .i64) eBlk)) a0), (1, .v (Enc.sl eBlk) a1), (2, .v (Enc.sl eBlk) a2), (12, .v (Enc.ptN (Enc.pr (Enc.sl eBlk) (Enc.mpF eBlk (Enc.sl (Enc.int .i64))))) v32.1), (13, .v (Enc.err ET) v32.2), (54, .v Enc.bool (Option.isSome v32.2))], []⟩) (J.cons (.none rfl) (JO.move rfl) rfl rfl (J.cons (.none rfl) (JO.errNe Try.runUnderlying29 rfl) rfl rfl (J.fin (Sw.Sub.mk id (.cons rfl (.of_eq rfl) (.cons rfl (.of_eq rfl) (.cons rfl (.of_eq rfl) (.cons rfl (.of_eq rfl) (.cons rfl (.of_eq rfl) (.cons rfl (.of_eq rfl) .nil)))))) .nil rfl)))) ?_
      rcases Bool.eq_false_or_eq_true (Option.isSome v32.2) with hc33 | hc33
      · replace h := cond_t hc33 h
        refine W.condT rfl hc33 ?_
        refine W.seq ?_
        refine W.reg (σ' := ⟨[(6, .ref 113), (7, .v (Enc.err ET) v32.2)], [(113, .arr 81 (Enc.pr (Enc.int .i64) (Enc.pr (Enc.int .i64) (Enc.pr (Enc.int .i64) eBlk))) ([] : (List (Int × Int × Int × Blk))))]⟩) (J.cons (.none rfl) (JO.move rfl) rfl rfl (J.cons (.none rfl) (JO.assignNilR 113 81 (Enc.pr (Enc.int .i64) (Enc.pr (Enc.int .i64) (Enc.pr (Enc.int .i64) eBlk)))) rfl rfl (J.cons (.none rfl) (JO.assign rfl) rfl rfl (J.fin (Sw.Sub.mk id (.cons rfl (.of_eq rfl) (.cons rfl (.of_eq rfl) .nil)) (.arr rfl .nil) rfl))))) ?_
        refine W.ret ?_
        obtain rfl := Option.some.inj h
        exact XQ.sub (σ' := ⟨[(6, .v (Enc.sl (Enc.pr (Enc.int .i64) (Enc.pr (Enc.int .i64) (Enc.pr (Enc.int .i64) eBlk)))) ([] : (List (Int × Int × Int × Blk)))), (7, .v (Enc.err ET) v32.2)], []⟩) (Sw.Sub.mk id (.cons rfl (.frz rfl rfl) (.cons rfl (.of_eq rfl) .nil)) .nil rfl) (XQ.ret2 hF noR rfl (RV.tmp rfl) (RV.tmp rfl) .nil rfl)
      · replace h := cond_f hc33 h
        refine W.condF rfl hc33 ?_
        refine W.skip ?_
        refine W.seq ?_
        refine W.reg (σ' := ⟨[(0, .v (Enc.sl (Enc.pr (Enc.int .i64) eBlk)) a0), (1, .v (Enc.sl eBlk) a1), (2, .v (Enc.sl eBlk) a2), (12, .v (Enc.ptN (Enc.pr (Enc.sl eBlk) (Enc.mpF eBlk (Enc.sl (Enc.int .i64))))) v32.1), (14, .ref 114)], [(114, .arr 81 (Enc.pr (Enc.int .i64) (Enc.pr (Enc.int .i64) (Enc.pr (Enc.int .i64) eBlk))) ([] : (List (Int × Int × Int × Blk))))]⟩) (J.cons (.none rfl) (JO.assignNilR 114 81 (Enc.pr (Enc.int .i64) (Enc.pr (Enc.int .i64) (Enc.pr (Enc.int .i64) eBlk)))) rfl rfl (J.fin (Sw.Sub.mk id (.cons rfl (.of_eq rfl) (.cons rfl (.of_eq rfl) (.cons rfl (.of_eq rfl) (.cons rfl (.of_eq rfl) (.cons rfl (.of_eq rfl) .nil))))) (.arr rfl .nil) rfl))) ?_
        refine W.seq ?_
        refine W.seq ?_
        refine W.reg (σ' := ⟨[(1, .v (Enc.sl eBlk) a1), (2, .v (Enc.sl eBlk) a2), (12, .v (Enc.ptN (Enc.pr (Enc.sl eBlk) (Enc.mpF eBlk (Enc.sl (Enc.int .i64))))) v32.1), (14, .ref 114), (56, .v (Enc.sl (Enc.pr (Enc.int .i64) eBlk)) a0), (57, .v (Enc.int .i64) (a0.length : Int)), (58, .v (Enc.int .i64) (0 : Int))], [(114, .arr 81 (Enc.pr (Enc.int .i64) (Enc.pr (Enc.int .i64) (Enc.pr (Enc.int .i64) eBlk))) ([] : (List (Int × Int × Int × Blk))))]⟩) (J.cons (.none rfl) (JO.move rfl) rfl rfl (J.cons (.none rfl) (JO.len rfl Try.runUnderlying47) rfl rfl (J.cons (.none rfl) (JO.move rfl) rfl rfl (J.fin (Sw.Sub.mk id (.cons rfl (.of_eq rfl) (.cons rfl (.of_eq rfl) (.cons rfl (.of_eq rfl) (.cons rfl (.of_eq rfl) (.cons rfl (.of_eq rfl) (.cons rfl (.of_eq rfl) (.cons rfl (.of_eq rfl) .nil))))))) (.arr rfl .nil) rfl))))) ?_
        obtain ⟨o214, ho214, hb214, hr214⟩ := lp_elim h
        refine W.lp (σs := fun s154 : Int × (List (Int × Int × Int × Blk)) => ⟨[(1, .v (Enc.sl eBlk) a1), (2, .v (Enc.sl eBlk) a2), (12, .v (Enc.ptN (Enc.pr (Enc.sl eBlk) (Enc.mpF eBlk (Enc.sl (Enc.int .i64))))) v32.1), (14, .ref 160), (56, .v (Enc.sl (Enc.pr (Enc.int .i64) eBlk)) a0), (57, .v (Enc.int .i64) (a0.length : Int)), (58, .v (Enc.int .i64) s154.1)], [(160, .arr 81 (Enc.pr (Enc.int .i64) (Enc.pr (Enc.int .i64) (Enc.pr (Enc.int .i64) eBlk))) s154.2)]⟩) (fun x215 : (List (Int × Int × Int × Blk)) => ⟨[(14, .ref 160)], [(160, .arr 81 (Enc.pr (Enc.int .i64) (Enc.pr (Enc.int .i64) (Enc.pr (Enc.int .i64) eBlk))) x215)]⟩) ho214 (Sw.Sub.mk (rn [(160, 114)]) (.cons rfl (.of_eq rfl) (.cons rfl (.of_eq rfl) (.cons rfl (.of_eq rfl) (.cons rfl (.of_eq rfl) (.cons rfl (.of_eq rfl) (.cons rfl (.of_eq rfl) (.cons rfl (.of_eq rfl) .nil))))))) (.arr rfl .nil) rfl) ?_ ?_
        · intro x215 hy
          have h := hb214 _ hy
          refine W.seq ?_
          refine W.reg (σ' := ⟨[(6, .ref 160), (7, .v (Enc.err ET) (none : Option Int))], [(160, .arr 81 (Enc.pr (Enc.int .i64) (Enc.pr (Enc.int .i64) (Enc.pr (Enc.int .i64) eBlk))) x215)]⟩) (J.cons (.none rfl) (JO.move rfl) rfl rfl (J.cons (.none rfl) (JO.assign rfl) rfl rfl (J.cons (.none rfl) (JO.assignNilE ET) rfl rfl (J.fin (Sw.Sub.mk id (.cons rfl (.of_eq rfl) (.cons rfl (.of_eq rfl) .nil)) (.arr rfl .nil) rfl))))) ?_
          refine W.ret ?_
          obtain rfl := Option.some.inj h
          exact XQ.sub (σ' := ⟨[(6, .v (Enc.sl (Enc.pr (Enc.int .i64) (Enc.pr (Enc.int .i64) (Enc.pr (Enc.int .i64) eBlk)))) x215), (7, .v (Enc.err ET) (none : Option Int))], []⟩) (Sw.Sub.mk id (.cons rfl (.frz rfl rfl) (.cons rfl (.of_eq rfl) .nil)) .nil rfl) (XQ.ret2 hF noR rfl (RV.tmp rfl) (RV.tmp rfl) .nil rfl)
        intro s154 r214 h
        refine W.seq ?_
        refine W.reg (σ' := ⟨[(1, .v (Enc.sl eBlk) a1), (2, .v (Enc.sl eBlk) a2), (12, .v (Enc.ptN (Enc.pr (Enc.sl eBlk) (Enc.mpF eBlk (Enc.sl (Enc.int .i64))))) v32.1), (14, .ref 160), (56, .v (Enc.sl (Enc.pr (Enc.int .i64) eBlk)) a0), (57, .v (Enc.int .i64) (a0.length : Int)), (58, .v (Enc.int .i64) s154.1), (59, .v Enc.bool (cm .lss s154.1 (a0.length : Int)))], [(160, .arr 81 (Enc.pr (Enc.int .i64) (Enc.pr (Enc.int .i64) (Enc.pr (Enc.int .i64) eBlk))) s154.2)]⟩) (J.cons (.none rfl) (JO.cmp rfl rfl rfl) rfl rfl (J.fin (Sw.Sub.mk id (.cons rfl (.of_eq rfl) (.cons rfl (.of_eq rfl) (.cons rfl (.of_eq rfl) (.cons rfl (.of_eq rfl) (.cons rfl (.of_eq rfl) (.cons rfl (.of_eq rfl) (.cons rfl (.of_eq rfl) (.cons rfl (.of_eq rfl) .nil)))))))) (.arr rfl .nil) rfl))) ?_
        refine W.seq ?_
        rcases Bool.eq_false_or_eq_true (cm .lss s154.1 (a0.length : Int)) with hc216 | hc216
        · replace h := cond_t hc216 h
          refine W.condT rfl hc216 ?_
          refine W.skip ?_
          refine W.seq ?_
          obtain ⟨k245, hk245, h⟩ := jp_elim h
          refine W.bj (fun x246 : (List (Int × Int × Int × Blk)) => ⟨[(1, .v (Enc.sl eBlk) a1), (2, .v (Enc.sl eBlk) a2), (12, .v (Enc.ptN (Enc.pr (Enc.sl eBlk) (Enc.mpF eBlk (Enc.sl (Enc.int .i64))))) v32.1), (14, .ref 192), (56, .v (Enc.sl (Enc.pr (Enc.int .i64) eBlk)) a0), (57, .v (Enc.int .i64) (a0.length : Int)), (58, .v (Enc.int .i64) s154.1)], [(192, .arr 81 (Enc.pr (Enc.int .i64) (Enc.pr (Enc.int .i64) (Enc.pr (Enc.int .i64) eBlk))) x246)]⟩) (fun x => k245 x = some r214) ?_ ?_
          · intro x246 h
            rw [hk245] at h
            refine W.reg (σ' := ⟨[(1, .v (Enc.sl eBlk) a1), (2, .v (Enc.sl eBlk) a2), (12, .v (Enc.ptN (Enc.pr (Enc.sl eBlk) (Enc.mpF eBlk (Enc.sl (Enc.int .i64))))) v32.1), (14, .ref 192), (56, .v (Enc.sl (Enc.pr (Enc.int .i64) eBlk)) a0), (57, .v (Enc.int .i64) (a0.length : Int)), (58, .v (Enc.int .i64) (ar .add .i64 s154.1 (1 : Int)))], [(192, .arr 81 (Enc.pr (Enc.int .i64) (Enc.pr (Enc.int .i64) (Enc.pr (Enc.int .i64) eBlk))) x246)]⟩) (J.cons (.none rfl) (JO.arith rfl rfl rfl) rfl rfl (J.cons (.none rfl) (JO.move rfl) rfl rfl (J.fin (Sw.Sub.mk id (.cons rfl (.of_eq rfl) (.cons rfl (.of_eq rfl) (.cons rfl (.of_eq rfl) (.cons rfl (.of_eq rfl) (.cons rfl (.of_eq rfl) (.cons rfl (.of_eq rfl) (.cons rfl (.of_eq rfl) .nil))))))) (.arr rfl .nil) rfl)))) ?_
            obtain rfl := Option.some.inj h
            exact W.next (Sw.Sub.mk (rn [(160, 192)]) (.cons rfl (.of_eq rfl) (.cons rfl (.of_eq rfl) (.cons rfl (.of_eq rfl) (.cons rfl (.of_eq rfl) (.cons rfl (.of_eq rfl) (.cons rfl (.of_eq rfl) (.cons rfl (.of_eq rfl) .nil))))))) (.arr rfl .nil) rfl)
          refine W.seq ?_
          obtain ⟨z247, hz247, h⟩ := bind_e h
          refine W.reg (σ' := ⟨[(1, .v (Enc.sl eBlk) a1), (2, .v (Enc.sl eBlk) a2), (12, .v (Enc.ptN (Enc.pr (Enc.sl eBlk) (Enc.mpF eBlk (Enc.sl (Enc.int .i64))))) v32.1), (14, .ref 160), (16, .ptr 193 0), (56, .v (Enc.sl (Enc.pr (Enc.int .i64) eBlk)) a0), (57, .v (Enc.int .i64) (a0.length : Int)), (58, .v (Enc.int .i64) s154.1)], [(160, .arr 81 (Enc.pr (Enc.int .i64) (Enc.pr (Enc.int .i64) (Enc.pr (Enc.int .i64) eBlk))) s154.2), (193, .box 85 [.v (Enc.int .i64) z247.1, .v eBlk z247.2])]⟩) (J.cons (.none rfl) (JO.idx hz247 rfl rfl Try.runUnderlying47 Try.sizeOf85) rfl rfl (J.cons (.none rfl) (JO.loadPst rfl Try.isAgg85 Try.sizeOf85) rfl rfl (J.cons (.none rfl) (JO.alloc 193 Try.zeroValue85 rfl (.cons (Z.int .i64) (.cons (Z.arr 8 (Z.int .u8)) .nil)) rfl) rfl rfl (J.mut (.none rfl) (JM.storeAll rfl rfl rfl rfl (.prm (.one _ _) (.one _ _)) Try.sizeOf85) (J.fin (Sw.Sub.mk id (.cons rfl (.of_eq rfl) (.cons rfl (.of_eq rfl) (.cons rfl (.of_eq rfl) (.cons rfl (.of_eq rfl) (.cons rfl (.of_eq rfl) (.cons rfl (.of_eq rfl) (.cons rfl (.of_eq rfl) (.cons rfl (.of_eq rfl) .nil)))))))) (.arr rfl (.box rfl (.cons (.of_eq rfl) (.cons (.of_eq rfl) .nil)) .nil)) rfl)))))) ?_
          refine W.seq ?_
          refine W.seq ?_
          obtain ⟨z248, hz248, h⟩ := bind_e h
          refine W.dr2 (σ' := ⟨[(1, .v (Enc.sl eBlk) a1), (2, .v (Enc.sl eBlk) a2), (12, .v (Enc.ptN (Enc.pr (Enc.sl eBlk) (Enc.mpF eBlk (Enc.sl (Enc.int .i64))))) v32.1), (14, .ref 160), (16, .ptr 193 0), (56, .v (Enc.sl (Enc.pr (Enc.int .i64) eBlk)) a0), (57, .v (Enc.int .i64) (a0.length : Int)), (58, .v (Enc.int .i64) s154.1), (69, .v Enc.bool (decide (z248 = z247.2)))], [(160, .arr 81 (Enc.pr (Enc.int .i64) (Enc.pr (Enc.int .i64) (Enc.pr (Enc.int .i64) eBlk))) s154.2), (193, .box 85 [.v (Enc.int .i64) z247.1, .v eBlk z247.2])]⟩) 8 [0, 0, 2, 7, 15, 0, 32, 127] mixed (by exact (.cons (.none rfl) (JO.move rfl) rfl rfl (.cons (.none rfl) (JO.fieldPtr 0 rfl Try.runUnderlying85 rfl Try.sizeOf3 rfl rfl) rfl rfl (.cons (.none rfl) (JO.load rfl rfl rfl Try.isAgg3 Try.sizeOf3) rfl rfl (.cons (.none rfl) (JO.idx hz248 rfl rfl Try.runUnderlying22 Try.sizeOf24) rfl rfl (.cons (.none rfl) (JO.loadPst rfl Try.isAgg24 Try.sizeOf24) rfl rfl (.cons (.none rfl) (JO.fieldPtr 1 rfl Try.runUnderlying85 rfl Try.sizeOf24 rfl rfl) rfl rfl (.cons (.none rfl) (JO.load rfl rfl rfl Try.isAgg24 Try.sizeOf24) rfl rfl (.cons (.none rfl) (JO.eqV eq24 rfl rfl Try.eqGuardType24 rfl rfl) rfl rfl .nil))))))))) (by exact (J.fin (Sw.Sub.mk id (.cons rfl (.of_eq rfl) (.cons rfl (.of_eq rfl) (.cons rfl (.of_eq rfl) (.cons rfl (.of_eq rfl) (.cons rfl (.of_eq rfl) (.cons rfl (.of_eq rfl) (.cons rfl (.of_eq rfl) (.cons rfl (.of_eq rfl) (.cons rfl (.of_eq rfl) .nil))))))))) (.arr rfl (.box rfl (.cons (.of_eq rfl) (.cons (.of_eq rfl) .nil)) .nil)) rfl))) rfl (by decide +kernel) (by decide +kernel) (by decide +kernel) (by kernel_rfl) ?_
          rcases Bool.eq_false_or_eq_true (decide (z248 = z247.2)) with hc249 | hc249
          · replace h := cond_t hc249 h
            refine W.condT rfl hc249 ?_
            refine W.exit ?_
            exact XQ.bhit h (Sw.Sub.mk (rn [(192, 160)]) (.cons rfl (.of_eq rfl) (.cons rfl (.of_eq rfl) (.cons rfl (.of_eq rfl) (.cons rfl (.of_eq rfl) (.cons rfl (.of_eq rfl) (.cons rfl (.of_eq rfl) (.cons rfl (.of_eq rfl) .nil))))))) (.arr rfl .nil) rfl)
          · replace h := cond_f hc249 h
            refine W.condF rfl hc249 ?_
            refine W.skip ?_
            refine W.seq ?_
            refine W.reg (σ' := ⟨[(1, .v (Enc.sl eBlk) a1), (2, .v (Enc.sl eBlk) a2), (12, .v (Enc.ptN (Enc.pr (Enc.sl eBlk) (Enc.mpF eBlk (Enc.sl (Enc.int .i64))))) v32.1), (14, .ref 160), (16, .ptr 193 0), (56, .v (Enc.sl (Enc.pr (Enc.int .i64) eBlk)) a0), (57, .v (Enc.int .i64) (a0.length : Int)), (58, .v (Enc.int .i64) s154.1), (80, .v (Enc.sl ePWay) ([(.inl () : PWay), (.inr (.inl v32.1) : PWay), (.inr (.inr (.inl a2)) : PWay), (.inr (.inr (.inr (.inl ()))) : PWay)] : (List PWay))), (81, .v (Enc.int .i64) (([(.inl () : PWay), (.inr (.inl v32.1) : PWay), (.inr (.inr (.inl a2)) : PWay), (.inr (.inr (.inr (.inl ()))) : PWay)] : (List PWay)).length : Int)), (82, .v (Enc.int .i64) (0 : Int))], [(160, .arr 81 (Enc.pr (Enc.int .i64) (Enc.pr (Enc.int .i64) (Enc.pr (Enc.int .i64) eBlk))) s154.2), (193, .box 85 [.v (Enc.int .i64) z247.1, .v eBlk z247.2])]⟩) (J.cons (.none rfl) (JO.packSt0 (JO.build built155 .nil .nil)) rfl rfl (J.cons (.none rfl) (JO.mkIfc rfl Try.runUnderlying155 .here) rfl rfl (J.cons (.none rfl) (JO.move rfl) rfl rfl (J.cons (.none rfl) (JO.pack (JO.build built157 (.cons (Z.ptN (Enc.pr (Enc.sl eBlk) (Enc.mpF eBlk (Enc.sl (Enc.int .i64))))) .nil) (.cons rfl (.dir rfl) rfl rfl rfl rfl .nil)) (.one1 (.one _ _)) rfl) rfl rfl (J.cons (.none rfl) (JO.mkIfc rfl Try.runUnderlying157 (.there .here)) rfl rfl (J.cons (.none rfl) (JO.move rfl) rfl rfl (J.cons (.none rfl) (JO.pack (JO.build built159 (.cons (Z.sl eBlk) .nil) (.cons rfl (.dir rfl) rfl rfl rfl rfl .nil)) (.one1 (.one _ _)) rfl) rfl rfl (J.cons (.none rfl) (JO.mkIfc rfl Try.runUnderlying159 (.there (.there .here))) rfl rfl (J.cons (.none rfl) (JO.packSt0 (JO.build built160 .nil .nil)) rfl rfl (J.cons (.none rfl) (JO.mkIfc rfl Try.runUnderlying160 (.there (.there (.there .here)))) rfl rfl (J.cons (.none rfl) (JO.lit (e := ePWay) Try.runUnderlying161 Try.sizeOf163 Try.zeroValue163 rfl rfl rfl rfl (.cons (.dir rfl) (.cons (.dir rfl) (.cons (.dir rfl) (.cons (.dir rfl) .nil))))) rfl rfl (J.cons (.none rfl) (JO.len rfl Try.runUnderlying161) rfl rfl (J.cons (.none rfl) (JO.move rfl) rfl rfl (J.fin (Sw.Sub.mk id (.cons rfl (.of_eq rfl) (.cons rfl (.of_eq rfl) (.cons rfl (.of_eq rfl) (.cons rfl (.of_eq rfl) (.cons rfl (.of_eq rfl) (.cons rfl (.of_eq rfl) (.cons rfl (.of_eq rfl) (.cons rfl (.of_eq rfl) (.cons rfl (.of_eq rfl) (.cons rfl (.of_eq rfl) (.cons rfl (.of_eq rfl) .nil))))))))))) (.arr rfl (.box rfl (.cons (.of_eq rfl) (.cons (.of_eq rfl) .nil)) .nil)) rfl))))))))))))))) ?_
            obtain ⟨o268, ho268, hb268, hr268⟩ := lp_elim h
            refine W.lp (σs := fun s262 : Int => ⟨[(1, .v (Enc.sl eBlk) a1), (2, .v (Enc.sl eBlk) a2), (12, .v (Enc.ptN (Enc.pr (Enc.sl eBlk) (Enc.mpF eBlk (Enc.sl (Enc.int .i64))))) v32.1), (14, .ref 160), (16, .ptr 193 0), (56, .v (Enc.sl (Enc.pr (Enc.int .i64) eBlk)) a0), (57, .v (Enc.int .i64) (a0.length : Int)), (58, .v (Enc.int .i64) s154.1), (80, .v (Enc.sl ePWay) ([(.inl () : PWay), (.inr (.inl v32.1) : PWay), (.inr (.inr (.inl a2)) : PWay), (.inr (.inr (.inr (.inl ()))) : PWay)] : (List PWay))), (81, .v (Enc.int .i64) (([(.inl () : PWay), (.inr (.inl v32.1) : PWay), (.inr (.inr (.inl a2)) : PWay), (.inr (.inr (.inr (.inl ()))) : PWay)] : (List PWay)).length : Int)), (82, .v (Enc.int .i64) s262)], [(160, .arr 81 (Enc.pr (Enc.int .i64) (Enc.pr (Enc.int .i64) (Enc.pr (Enc.int .i64) eBlk))) s154.2), (193, .box 85 [.v (Enc.int .i64) z247.1, .v eBlk z247.2])]⟩) (fun x269 : (List (Int × Int × Int × Blk)) => ⟨[(1, .v (Enc.sl eBlk) a1), (2, .v (Enc.sl eBlk) a2), (12, .v (Enc.ptN (Enc.pr (Enc.sl eBlk) (Enc.mpF eBlk (Enc.sl (Enc.int .i64))))) v32.1), (14, .ref 200), (56, .v (Enc.sl (Enc.pr (Enc.int .i64) eBlk)) a0), (57, .v (Enc.int .i64) (a0.length : Int)), (58, .v (Enc.int .i64) s154.1)], [(200, .arr 81 (Enc.pr (Enc.int .i64) (Enc.pr (Enc.int .i64) (Enc.pr (Enc.int .i64) eBlk))) x269)]⟩) ho268 (Sw.Sub.mk id (.cons rfl (.of_eq rfl) (.cons rfl (.of_eq rfl) (.cons rfl (.of_eq rfl) (.cons rfl (.of_eq rfl) (.cons rfl (.of_eq rfl) (.cons rfl (.of_eq rfl) (.cons rfl (.of_eq rfl) (.cons rfl (.of_eq rfl) (.cons rfl (.of_eq rfl) (.cons rfl (.of_eq rfl) (.cons rfl (.of_eq rfl) .nil))))))))))) (.arr rfl (.box rfl (.cons (.of_eq rfl) (.cons (.of_eq rfl) .nil)) .nil)) rfl) ?_ ?_
            · intro x269 hy
              have h := hb268 _ hy
              exact W.bfall h (Sw.Sub.mk (rn [(192, 200)]) (.cons rfl (.of_eq rfl) (.cons rfl (.of_eq rfl) (.cons rfl (.of_eq rfl) (.cons rfl (.of_eq rfl) (.cons rfl (.of_eq rfl) (.cons rfl (.of_eq rfl) (.cons rfl (.of_eq rfl) .nil))))))) (.arr rfl .nil) rfl)
            intro s262 r268 h
            refine W.seq ?_
            refine W.reg (σ' := ⟨[(1, .v (Enc.sl eBlk) a1), (2, .v (Enc.sl eBlk) a2), (12, .v (Enc.ptN (Enc.pr (Enc.sl eBlk) (Enc.mpF eBlk (Enc.sl (Enc.int .i64))))) v32.1), (14, .ref 160), (16, .ptr 193 0), (56, .v (Enc.sl (Enc.pr (Enc.int .i64) eBlk)) a0), (57, .v (Enc.int .i64) (a0.length : Int)), (58, .v (Enc.int .i64) s154.1), (80, .v (Enc.sl ePWay) ([(.inl () : PWay), (.inr (.inl v32.1) : PWay), (.inr (.inr (.inl a2)) : PWay), (.inr (.inr (.inr (.inl ()))) : PWay)] : (List PWay))), (81, .v (Enc.int .i64) (([(.inl () : PWay), (.inr (.inl v32.1) : PWay), (.inr (.inr (.inl a2)) : PWay), (.inr (.inr (.inr (.inl ()))) : PWay)] : (List PWay)).length : Int)), (82, .v (Enc.int .i64) s262), (83, .v Enc.bool (cm .lss s262 (([(.inl () : PWay), (.inr (.inl v32.1) : PWay), (.inr (.inr (.inl a2)) : PWay), (.inr (.inr (.inr (.inl ()))) : PWay)] : (List PWay)).length : Int)))], [(160, .arr 81 (Enc.pr (Enc.int .i64) (Enc.pr (Enc.int .i64) (Enc.pr (Enc.int .i64) eBlk))) s154.2), (193, .box 85 [.v (Enc.int .i64) z247.1, .v eBlk z247.2])]⟩) (J.cons (.none rfl) (JO.cmp rfl rfl rfl) rfl rfl (J.fin (Sw.Sub.mk id (.cons rfl (.of_eq rfl) (.cons rfl (.of_eq rfl) (.cons rfl (.of_eq rfl) (.cons rfl (.of_eq rfl) (.cons rfl (.of_eq rfl) (.cons rfl (.of_eq rfl) (.cons rfl (.of_eq rfl) (.cons rfl (.of_eq rfl) (.cons rfl (.of_eq rfl) (.cons rfl (.of_eq rfl) (.cons rfl (.of_eq rfl) (.cons rfl (.of_eq rfl) .nil)))))))))))) (.arr rfl (.box rfl (.cons (.of_eq rfl) (.cons (.of_eq rfl) .nil)) .nil)) rfl))) ?_
            refine W.seq ?_
            rcases Bool.eq_false_or_eq_true (cm .lss s262 (([(.inl () : PWay), (.inr (.inl v32.1) : PWay), (.inr (.inr (.inl a2)) : PWay), (.inr (.inr (.inr (.inl ()))) : PWay)] : (List PWay)).length : Int)) with hc270 | hc270
            · replace h := cond_t hc270 h
              refine W.condT rfl hc270 ?_
              refine W.skip ?_
              refine W.seq ?_
              refine W.block ?_
              refine W.seq ?_
              obtain ⟨z271, hz271, h⟩ := bind_e h
              refine W.reg (σ' := ⟨[(1, .v (Enc.sl eBlk) a1), (2, .v (Enc.sl eBlk) a2), (12, .v (Enc.ptN (Enc.pr (Enc.sl eBlk) (Enc.mpF eBlk (Enc.sl (Enc.int .i64))))) v32.1), (14, .ref 160), (16, .ptr 193 0), (18, .v ePWay z271), (56, .v (Enc.sl (Enc.pr (Enc.int .i64) eBlk)) a0), (57, .v (Enc.int .i64) (a0.length : Int)), (58, .v (Enc.int .i64) s154.1), (80, .v (Enc.sl ePWay) ([(.inl () : PWay), (.inr (.inl v32.1) : PWay), (.inr (.inr (.inl a2)) : PWay), (.inr (.inr (.inr (.inl ()))) : PWay)] : (List PWay))), (81, .v (Enc.int .i64) (([(.inl () : PWay), (.inr (.inl v32.1) : PWay), (.inr (.inr (.inl a2)) : PWay), (.inr (.inr (.inr (.inl ()))) : PWay)] : (List PWay)).length : Int)), (82, .v (Enc.int .i64) s262)], [(160, .arr 81 (Enc.pr (Enc.int .i64) (Enc.pr (Enc.int .i64) (Enc.pr (Enc.int .i64) eBlk))) s154.2), (193, .box 85 [.v (Enc.int .i64) z247.1, .v eBlk z247.2])]⟩) (J.cons (.none rfl) (JO.idx hz271 rfl rfl Try.runUnderlying161 Try.sizeOf163) rfl rfl (J.cons (.none rfl) (JO.loadPst rfl Try.isAgg163 Try.sizeOf163) rfl rfl (J.cons (.none rfl) (JO.assign rfl) rfl rfl (J.fin (Sw.Sub.mk id (.cons rfl (.of_eq rfl) (.cons rfl (.of_eq rfl) (.cons rfl (.of_eq rfl) (.cons rfl (.of_eq rfl) (.cons rfl (.of_eq rfl) (.cons rfl (.of_eq rfl) (.cons rfl (.of_eq rfl) (.cons rfl (.of_eq rfl) (.cons rfl (.of_eq rfl) (.cons rfl (.of_eq rfl) (.cons rfl (.of_eq rfl) (.cons rfl (.of_eq rfl) .nil)))))))))))) (.arr rfl (.box rfl (.cons (.of_eq rfl) (.cons (.of_eq rfl) .nil)) .nil)) rfl))))) ?_
              refine W.seq ?_
              obtain ⟨v272, hv272, h⟩ := bind_e h
              refine W.reg (σ' := ⟨[(1, .v (Enc.sl eBlk) a1), (2, .v (Enc.sl eBlk) a2), (12, .v (Enc.ptN (Enc.pr (Enc.sl eBlk) (Enc.mpF eBlk (Enc.sl (Enc.int .i64))))) v32.1), (14, .ref 160), (16, .ptr 193 0), (19, .ptr 201 0), (20, .v Enc.bool v272.2), (56, .v (Enc.sl (Enc.pr (Enc.int .i64) eBlk)) a0), (57, .v (Enc.int .i64) (a0.length : Int)), (58, .v (Enc.int .i64) s154.1), (80, .v (Enc.sl ePWay) ([(.inl () : PWay), (.inr (.inl v32.1) : PWay), (.inr (.inr (.inl a2)) : PWay), (.inr (.inr (.inr (.inl ()))) : PWay)] : (List PWay))), (81, .v (Enc.int .i64) (([(.inl () : PWay), (.inr (.inl v32.1) : PWay), (.inr (.inr (.inl a2)) : PWay), (.inr (.inr (.inr (.inl ()))) : PWay)] : (List PWay)).length : Int)), (82, .v (Enc.int .i64) s262)], [(160, .arr 81 (Enc.pr (Enc.int .i64) (Enc.pr (Enc.int .i64) (Enc.pr (Enc.int .i64) eBlk))) s154.2), (193, .box 85 [.v (Enc.int .i64) z247.1, .v eBlk z247.2]), (201, .box 81 [.v (Enc.int .i64) v272.1.1, .v (Enc.int .i64) v272.1.2.1, .v (Enc.int .i64) v272.1.2.2.1, .v eBlk v272.1.2.2.2])]⟩) (J.cons (.none rfl) (JO.move rfl) rfl rfl (J.cons (.none rfl) (JO.loadAll rfl rfl (.prm (.one _ _) (.one _ _)) Try.isAgg85 Try.sizeOf85) rfl rfl (J.cons (.none rfl) (JO.callI0 rfl (con_inv_PWay hv272) (.cons (.dir rfl) .nil)) rfl rfl (J.cons (.none rfl) (JO.move rfl) rfl rfl (J.cons (.none rfl) (JO.extract rfl rfl) rfl rfl (J.cons (.none rfl) (JO.extract rfl rfl) rfl rfl (J.cons (.none rfl) (JO.alloc 201 Try.zeroValue81 rfl (.cons (Z.int .i64) (.cons (Z.int .i64) (.cons (Z.int .i64) (.cons (Z.arr 8 (Z.int .u8)) .nil)))) rfl) rfl rfl (J.mut (.none rfl) (JM.storeAll rfl rfl rfl rfl (.prm (.one _ _) (.prm (.one _ _) (.prm (.one _ _) (.one _ _)))) Try.sizeOf81) (J.cons (.none rfl) (JO.assign rfl) rfl rfl (J.fin (Sw.Sub.mk id (.cons rfl (.of_eq rfl) (.cons rfl (.of_eq rfl) (.cons rfl (.of_eq rfl) (.cons rfl (.of_eq rfl) (.cons rfl (.of_eq rfl) (.cons rfl (.of_eq rfl) (.cons rfl (.of_eq rfl) (.cons rfl (.of_eq rfl) (.cons rfl (.of_eq rfl) (.cons rfl (.of_eq rfl) (.cons rfl (.of_eq rfl) (.cons rfl (.of_eq rfl) (.cons rfl (.of_eq rfl) .nil))))))))))))) (.arr rfl (.box rfl (.cons (.of_eq rfl) (.cons (.of_eq rfl) .nil)) (.box rfl (.cons (.of_eq rfl) (.cons (.of_eq rfl) (.cons (.of_eq rfl) (.cons (.of_eq rfl) .nil)))) .nil))) rfl))))))))))) ?_
              refine W.seq ?_
              refine W.reg (σ' := ⟨[(1, .v (Enc.sl eBlk) a1), (2, .v (Enc.sl eBlk) a2), (12, .v (Enc.ptN (Enc.pr (Enc.sl eBlk) (Enc.mpF eBlk (Enc.sl (Enc.int .i64))))) v32.1), (14, .ref 160), (16, .ptr 193 0), (19, .ptr 201 0), (56, .v (Enc.sl (Enc.pr (Enc.int .i64) eBlk)) a0), (57, .v (Enc.int .i64) (a0.length : Int)), (58, .v (Enc.int .i64) s154.1), (80, .v (Enc.sl ePWay) ([(.inl () : PWay), (.inr (.inl v32.1) : PWay), (.inr (.inr (.inl a2)) : PWay), (.inr (.inr (.inr (.inl ()))) : PWay)] : (List PWay))), (81, .v (Enc.int .i64) (([(.inl () : PWay), (.inr (.inl v32.1) : PWay), (.inr (.inr (.inl a2)) : PWay), (.inr (.inr (.inr (.inl ()))) : PWay)] : (List PWay)).length : Int)), (82, .v (Enc.int .i64) s262), (92, .v Enc.bool v272.2)], [(160, .arr 81 (Enc.pr (Enc.int .i64) (Enc.pr (Enc.int .i64) (Enc.pr (Enc.int .i64) eBlk))) s154.2), (193, .box 85 [.v (Enc.int .i64) z247.1, .v eBlk z247.2]), (201, .box 81 [.v (Enc.int .i64) v272.1.1, .v (Enc.int .i64) v272.1.2.1, .v (Enc.int .i64) v272.1.2.2.1, .v eBlk v272.1.2.2.2])]⟩) (J.cons (.none rfl) (JO.move rfl) rfl rfl (J.fin (Sw.Sub.mk id (.cons rfl (.of_eq rfl) (.cons rfl (.of_eq rfl) (.cons rfl (.of_eq rfl) (.cons rfl (.of_eq rfl) (.cons rfl (.of_eq rfl) (.cons rfl (.of_eq rfl) (.cons rfl (.of_eq rfl) (.cons rfl (.of_eq rfl) (.cons rfl (.of_eq rfl) (.cons rfl (.of_eq rfl) (.cons rfl (.of_eq rfl) (.cons rfl (.of_eq rfl) (.cons rfl (.of_eq rfl) .nil))))))))))))) (.arr rfl (.box rfl (.cons (.of_eq rfl) (.cons (.of_eq rfl) .nil)) (.box rfl (.cons (.of_eq rfl) (.cons (.of_eq rfl) (.cons (.of_eq rfl) (.cons (.of_eq rfl) .nil)))) .nil))) rfl))) ?_
              rcases Bool.eq_false_or_eq_true v272.2 with hc273 | hc273
              · replace h := cond_t hc273 h
                refine W.condT rfl hc273 ?_
                refine W.seq ?_
                obtain ⟨v274, hv274, h⟩ := bind_e h
                refine W.reg (σ' := ⟨[(1, .v (Enc.sl eBlk) a1), (2, .v (Enc.sl eBlk) a2), (12, .v (Enc.ptN (Enc.pr (Enc.sl eBlk) (Enc.mpF eBlk (Enc.sl (Enc.int .i64))))) v32.1), (14, .ref 202), (56, .v (Enc.sl (Enc.pr (Enc.int .i64) eBlk)) a0), (57, .v (Enc.int .i64) (a0.length : Int)), (58, .v (Enc.int .i64) s154.1)], [(202, .arr 81 (Enc.pr (Enc.int .i64) (Enc.pr (Enc.int .i64) (Enc.pr (Enc.int .i64) eBlk))) v274)]⟩) (J.cons (.none rfl) (JO.move rfl) rfl rfl (J.cons (.none rfl) (JO.loadAll rfl rfl (.prm (.one _ _) (.prm (.one _ _) (.prm (.one _ _) (.one _ _)))) Try.isAgg81 Try.sizeOf81) rfl rfl (J.cons (.none rfl) (JO.lit (e := (Enc.pr (Enc.int .i64) (Enc.pr (Enc.int .i64) (Enc.pr (Enc.int .i64) eBlk)))) Try.runUnderlying78 Try.sizeOf81 Try.zeroValue81 rfl rfl rfl rfl (.cons (.dir rfl) .nil)) rfl rfl (J.mut (.none rfl) (JM.append 202 hv274 rfl rfl (.sl rfl) Try.runUnderlying78 Try.typeInfo81 Try.sizeOf81 rfl rfl rfl rfl rfl) (J.cons (.none rfl) (JO.assign rfl) rfl rfl (J.fin (Sw.Sub.mk id (.cons rfl (.of_eq rfl) (.cons rfl (.of_eq rfl) (.cons rfl (.of_eq rfl) (.cons rfl (.of_eq rfl) (.cons rfl (.of_eq rfl) (.cons rfl (.of_eq rfl) (.cons rfl (.of_eq rfl) .nil))))))) (.arr rfl .nil) rfl))))))) ?_
                refine W.exit ?_
                refine XQ.miss rfl ?_
                obtain rfl := Option.some.inj h
                exact XQ.brk (Sw.Sub.mk (rn [(200, 202)]) (.cons rfl (.of_eq rfl) (.cons rfl (.of_eq rfl) (.cons rfl (.of_eq rfl) (.cons rfl (.of_eq rfl) (.cons rfl (.of_eq rfl) (.cons rfl (.of_eq rfl) (.cons rfl (.of_eq rfl) .nil))))))) (.arr rfl .nil) rfl)
              · replace h := cond_f hc273 h
                refine W.condF rfl hc273 ?_
                refine W.skip ?_
                refine W.fall ?_
                refine W.reg (σ' := ⟨[(1, .v (Enc.sl eBlk) a1), (2, .v (Enc.sl eBlk) a2), (12, .v (Enc.ptN (Enc.pr (Enc.sl eBlk) (Enc.mpF eBlk (Enc.sl (Enc.int .i64))))) v32.1), (14, .ref 160), (16, .ptr 193 0), (56, .v (Enc.sl (Enc.pr (Enc.int .i64) eBlk)) a0), (57, .v (Enc.int .i64) (a0.length : Int)), (58, .v (Enc.int .i64) s154.1), (80, .v (Enc.sl ePWay) ([(.inl () : PWay), (.inr (.inl v32.1) : PWay), (.inr (.inr (.inl a2)) : PWay), (.inr (.inr (.inr (.inl ()))) : PWay)] : (List PWay))), (81, .v (Enc.int .i64) (([(.inl () : PWay), (.inr (.inl v32.1) : PWay), (.inr (.inr (.inl a2)) : PWay), (.inr (.inr (.inr (.inl ()))) : PWay)] : (List PWay)).length : Int)), (82, .v (Enc.int .i64) (ar .add .i64 s262 (1 : Int)))], [(160, .arr 81 (Enc.pr (Enc.int .i64) (Enc.pr (Enc.int .i64) (Enc.pr (Enc.int .i64) eBlk))) s154.2), (193, .box 85 [.v (Enc.int .i64) z247.1, .v eBlk z247.2])]⟩) (J.cons (.none rfl) (JO.arith rfl rfl rfl) rfl rfl (J.cons (.none rfl) (JO.move rfl) rfl rfl (J.fin (Sw.Sub.mk id (.cons rfl (.of_eq rfl) (.cons rfl (.of_eq rfl) (.cons rfl (.of_eq rfl) (.cons rfl (.of_eq rfl) (.cons rfl (.of_eq rfl) (.cons rfl (.of_eq rfl) (.cons rfl (.of_eq rfl) (.cons rfl (.of_eq rfl) (.cons rfl (.of_eq rfl) (.cons rfl (.of_eq rfl) (.cons rfl (.of_eq rfl) .nil))))))))))) (.arr rfl (.box rfl (.cons (.of_eq rfl) (.cons (.of_eq rfl) .nil)) .nil)) rfl)))) ?_
                obtain rfl := Option.some.inj h
                exact W.next (Sw.Sub.mk id (.cons rfl (.of_eq rfl) (.cons rfl (.of_eq rfl) (.cons rfl (.of_eq rfl) (.cons rfl (.of_eq rfl) (.cons rfl (.of_eq rfl) (.cons rfl (.of_eq rfl) (.cons rfl (.of_eq rfl) (.cons rfl (.of_eq rfl) (.cons rfl (.of_eq rfl) (.cons rfl (.of_eq rfl) (.cons rfl (.of_eq rfl) .nil))))))))))) (.arr rfl (.box rfl (.cons (.of_eq rfl) (.cons (.of_eq rfl) .nil)) .nil)) rfl)
            · replace h := cond_f hc270 h
              refine W.condF rfl hc270 ?_
              refine W.exit ?_
              obtain rfl := Option.some.inj h
              exact XQ.brk (Sw.Sub.mk (rn [(200, 160)]) (.cons rfl (.of_eq rfl) (.cons rfl (.of_eq rfl) (.cons rfl (.of_eq rfl) (.cons rfl (.of_eq rfl) (.cons rfl (.of_eq rfl) (.cons rfl (.of_eq rfl) (.cons rfl (.of_eq rfl) .nil))))))) (.arr rfl .nil) rfl)
        · replace h := cond_f hc216 h
          refine W.condF rfl hc216 ?_
          refine W.exit ?_
          obtain rfl := Option.some.inj h
          exact XQ.brk (Sw.Sub.mk id (.cons rfl (.of_eq rfl) .nil) (.arr rfl .nil) rfl)
    intro s17 r24 h
    refine W.seq ?_
    refine W.reg (σ' := ⟨[(0, .v (Enc.sl (Enc.pr (Enc.int .i64) eBlk)) a0), (1, .v (Enc.sl eBlk) a1), (2, .v (Enc.sl eBlk) a2), (9, .v (Enc.int .i64) s17.1), (27, .v (Enc.sl (Enc.pr (Enc.int .i64) eBlk)) a0), (28, .v (Enc.int .i64) (a0.length : Int)), (29, .v (Enc.int .i64) s17.2), (30, .v Enc.bool (cm .lss s17.2 (a0.length : Int)))], []⟩) (J.cons (.none rfl) (JO.cmp rfl rfl rfl) rfl rfl (J.fin (Sw.Sub.mk id (.cons rfl (.of_eq rfl) (.cons rfl (.of_eq rfl) (.cons rfl (.of_eq rfl) (.cons rfl (.of_eq rfl) (.cons rfl (.of_eq rfl) (.cons rfl (.of_eq rfl) (.cons rfl (.of_eq rfl) (.cons rfl (.of_eq rfl) .nil)))))))) .nil rfl))) ?_
    refine W.seq ?_
    rcases Bool.eq_false_or_eq_true (cm .lss s17.2 (a0.length : Int)) with hc26 | hc26
    · replace h := cond_t hc26 h
      refine W.condT rfl hc26 ?_
      refine W.skip ?_
      refine W.seq ?_
      refine W.block ?_
      refine W.seq ?_
      obtain ⟨z27, hz27, h⟩ := bind_e h
      refine W.reg (σ' := ⟨[(0, .v (Enc.sl (Enc.pr (Enc.int .i64) eBlk)) a0), (1, .v (Enc.sl eBlk) a1), (2, .v (Enc.sl eBlk) a2), (9, .v (Enc.int .i64) s17.1), (11, .ptr 110 0), (27, .v (Enc.sl (Enc.pr (Enc.int .i64) eBlk)) a0), (28, .v (Enc.int .i64) (a0.length : Int)), (29, .v (Enc.int .i64) s17.2)], [(110, .box 85 [.v (Enc.int .i64) z27.1, .v eBlk z27.2])]⟩) (J.cons (.none rfl) (JO.idx hz27 rfl rfl Try.runUnderlying47 Try.sizeOf85) rfl rfl (J.cons (.none rfl) (JO.loadPst rfl Try.isAgg85 Try.sizeOf85) rfl rfl (J.cons (.none rfl) (JO.alloc 110 Try.zeroValue85 rfl (.cons (Z.int .i64) (.cons (Z.arr 8 (Z.int .u8)) .nil)) rfl) rfl rfl (J.mut (.none rfl) (JM.storeAll rfl rfl rfl rfl (.prm (.one _ _) (.one _ _)) Try.sizeOf85) (J.fin (Sw.Sub.mk id (.cons rfl (.of_eq rfl) (.cons rfl (.of_eq rfl) (.cons rfl (.of_eq rfl) (.cons rfl (.of_eq rfl) (.cons rfl (.of_eq rfl) (.cons rfl (.of_eq rfl) (.cons rfl (.of_eq rfl) (.cons rfl (.of_eq rfl) .nil)))))))) (.box rfl (.cons (.of_eq rfl) (.cons (.of_eq rfl) .nil)) .nil) rfl)))))) ?_
      refine W.seq ?_
      refine W.seq ?_
      obtain ⟨x29, hx, h⟩ := bind_e h
      refine W.reg (σ' := ⟨[(0, .v (Enc.sl (Enc.pr (Enc.int .i64) eBlk)) a0), (1, .v (Enc.sl eBlk) a1), (2, .v (Enc.sl eBlk) a2), (11, .ptr 110 0), (27, .v (Enc.sl (Enc.pr (Enc.int .i64) eBlk)) a0), (28, .v (Enc.int .i64) (a0.length : Int)), (29, .v (Enc.int .i64) s17.2), (43, .v Enc.bool x29)], [(110, .box 85 [.v (Enc.int .i64) z27.1, .v eBlk z27.2])]⟩) ?_ ?_
      · rcases Bool.eq_false_or_eq_true (cm .leq z27.1 s17.1) with hc30 | hc30
        · replace hx := cond_t hc30 hx
          obtain rfl := Option.some.inj hx
          exact (J.cons (.none rfl) (JO.fieldPtr 0 rfl Try.runUnderlying85 rfl Try.sizeOf3 rfl rfl) rfl rfl (J.cons (.none rfl) (JO.load rfl rfl rfl Try.isAgg3 Try.sizeOf3) rfl rfl (J.cons (.none rfl) (JO.move rfl) rfl rfl (J.cons (.none rfl) (JO.cmp rfl rfl rfl) rfl rfl (J.cons (.none rfl) (JO.move rfl) rfl rfl (J.left (GK.unmet 37 rfl rfl rfl hc30) rfl (J.left (GK.unmet 37 rfl rfl rfl hc30) rfl (J.left (GK.unmet 37 rfl rfl rfl hc30) rfl (J.left (GK.unmet 37 rfl rfl rfl hc30) rfl (J.left (GK.unmet 37 rfl rfl rfl hc30) rfl (J.cons (.none rfl) (JO.pT hc30 rfl rfl) rfl rfl (J.fin (Sw.Sub.mk id (.cons rfl (.of_eq rfl) (.cons rfl (.of_eq rfl) (.cons rfl (.of_eq rfl) (.cons rfl (.of_eq rfl) (.cons rfl (.of_eq rfl) (.cons rfl (.of_eq rfl) (.cons rfl (.of_eq rfl) (.cons rfl (.of_eq rfl) .nil)))))))) (.box rfl (.cons (.of_eq rfl) (.cons (.of_eq rfl) .nil)) .nil) rfl)))))))))))))
        · replace hx := cond_f hc30 hx
          obtain rfl := Option.some.inj hx
          exact (J.cons (.none rfl) (JO.fieldPtr 0 rfl Try.runUnderlying85 rfl Try.sizeOf3 rfl rfl) rfl rfl (J.cons (.none rfl) (JO.load rfl rfl rfl Try.isAgg3 Try.sizeOf3) rfl rfl (J.cons (.none rfl) (JO.move rfl) rfl rfl (J.cons (.none rfl) (JO.cmp rfl rfl rfl) rfl rfl (J.cons (.none rfl) (JO.move rfl) rfl rfl (J.cons (GK.met 37 rfl rfl rfl hc30) (JO.fieldPtr 0 rfl Try.runUnderlying85 rfl Try.sizeOf3 rfl rfl) rfl rfl (J.cons (GK.met 37 rfl rfl rfl hc30) (JO.load rfl rfl rfl Try.isAgg3 Try.sizeOf3) rfl rfl (J.cons (GK.met 37 rfl rfl rfl hc30) (JO.move rfl) rfl rfl (J.cons (GK.met 37 rfl rfl rfl hc30) (JO.len rfl Try.runUnderlying22) rfl rfl (J.cons (GK.met 37 rfl rfl rfl hc30) (JO.cmp rfl rfl rfl) rfl rfl (J.cons (.none rfl) (JO.pF hc30 rfl rfl) rfl rfl (J.fin (Sw.Sub.mk id (.cons rfl (.of_eq rfl) (.cons rfl (.of_eq rfl) (.cons rfl (.of_eq rfl) (.cons rfl (.of_eq rfl) (.cons rfl (.of_eq rfl) (.cons rfl (.of_eq rfl) (.cons rfl (.of_eq rfl) (.cons rfl (.of_eq rfl) .nil)))))))) (.box rfl (.cons (.of_eq rfl) (.cons (.of_eq rfl) .nil)) .nil) rfl)))))))))))))
      rcases Bool.eq_false_or_eq_true x29 with hc31 | hc31
      · replace h := cond_t hc31 h
        refine W.condT rfl hc31 ?_
        refine W.seq ?_
        refine W.reg (σ' := ⟨[(6, .ref 111), (7, .v (Enc.err ET) (some (1 : Int)))], [(111, .arr 81 (Enc.pr (Enc.int .i64) (Enc.pr (Enc.int .i64) (Enc.pr (Enc.int .i64) eBlk))) ([] : (List (Int × Int × Int × Blk))))]⟩) (J.cons (.none rfl) (JO.mkErr Try.runUnderlying25 rfl) rfl rfl (J.cons (.none rfl) (JO.assignNilR 111 81 (Enc.pr (Enc.int .i64) (Enc.pr (Enc.int .i64) (Enc.pr (Enc.int .i64) eBlk)))) rfl rfl (J.cons (.none rfl) (JO.assign rfl) rfl rfl (J.fin (Sw.Sub.mk id (.cons rfl (.of_eq rfl) (.cons rfl (.of_eq rfl) .nil)) (.arr rfl .nil) rfl))))) ?_
        refine W.ret ?_
        refine XQ.ret ?_
        obtain rfl := Option.some.inj h
        refine XQ.lret fun ho => ?_
        obtain rfl := hr24 _ ho
        exact XQ.sub (σ' := ⟨[(6, .v (Enc.sl (Enc.pr (Enc.int .i64) (Enc.pr (Enc.int .i64) (Enc.pr (Enc.int .i64) eBlk)))) ([] : (List (Int × Int × Int × Blk)))), (7, .v (Enc.err ET) (some (1 : Int)))], []⟩) (Sw.Sub.mk id (.cons rfl (.frz rfl rfl) (.cons rfl (.of_eq rfl) .nil)) .nil rfl) (XQ.ret2 hF noR rfl (RV.tmp rfl) (RV.tmp rfl) .nil rfl)
      · replace h := cond_f hc31 h
        refine W.condF rfl hc31 ?_
        refine W.skip ?_
        refine W.reg (σ' := ⟨[(0, .v (Enc.sl (Enc.pr (Enc.int .i64) eBlk)) a0), (1, .v (Enc.sl eBlk) a1), (2, .v (Enc.sl eBlk) a2), (9, .v (Enc.int .i64) z27.1), (27, .v (Enc.sl (Enc.pr (Enc.int .i64) eBlk)) a0), (28, .v (Enc.int .i64) (a0.length : Int)), (29, .v (Enc.int .i64) s17.2)], []⟩) (J.cons (.none rfl) (JO.fieldPtr 0 rfl Try.runUnderlying85 rfl Try.sizeOf3 rfl rfl) rfl rfl (J.cons (.none rfl) (JO.load rfl rfl rfl Try.isAgg3 Try.sizeOf3) rfl rfl (J.cons (.none rfl) (JO.assign rfl) rfl rfl (J.fin (Sw.Sub.mk id (.cons rfl (.of_eq rfl) (.cons rfl (.of_eq rfl) (.cons rfl (.of_eq rfl) (.cons rfl (.of_eq rfl) (.cons rfl (.of_eq rfl) (.cons rfl (.of_eq rfl) (.cons rfl (.of_eq rfl) .nil))))))) .nil rfl))))) ?_
        refine W.fall ?_
        refine W.reg (σ' := ⟨[(0, .v (Enc.sl (Enc.pr (Enc.int .i64) eBlk)) a0), (1, .v (Enc.sl eBlk) a1), (2, .v (Enc.sl eBlk) a2), (9, .v (Enc.int .i64) z27.1), (27, .v (Enc.sl (Enc.pr (Enc.int .i64) eBlk)) a0), (28, .v (Enc.int .i64) (a0.length : Int)), (29, .v (Enc.int .i64) (ar .add .i64 s17.2 (1 : Int)))], []⟩) (J.cons (.none rfl) (JO.arith rfl rfl rfl) rfl rfl (J.cons (.none rfl) (JO.move rfl) rfl rfl (J.fin (Sw.Sub.mk id (.cons rfl (.of_eq rfl) (.cons rfl (.of_eq rfl) (.cons rfl (.of_eq rfl) (.cons rfl (.of_eq rfl) (.cons rfl (.of_eq rfl) (.cons rfl (.of_eq rfl) (.cons rfl (.of_eq rfl) .nil))))))) .nil rfl)))) ?_
        obtain rfl := Option.some.inj h
        exact W.next (Sw.Sub.mk id (.cons rfl (.of_eq rfl) (.cons rfl (.of_eq rfl) (.cons rfl (.of_eq rfl) (.cons rfl (.of_eq rfl) (.cons rfl (.of_eq rfl) (.cons rfl (.of_eq rfl) (.cons rfl (.of_eq rfl) .nil))))))) .nil rfl)
    · replace h := cond_f hc26 h
      refine W.condF rfl hc26 ?_
      refine W.exit ?_
      obtain rfl := Option.some.inj h
      exact XQ.brk (Sw.Sub.mk id (.cons rfl (.of_eq rfl) (.cons rfl (.of_eq rfl) (.cons rfl (.of_eq rfl) .nil))) .nil rfl)
set_option maxRecDepth 100000 in
set_option maxHeartbeats 4000000 in
theorem con_ref_Is {a0 : (Option Int)} {a1 : Int} {r : Bool} (h : m_ref_Is a0 a1 = some r) :
    Con Try.prog 18 [.v (Enc.err ET) a0, .v (Enc.int .i64) a1] (.v Enc.bool r) [] := by
  refine Con.of Try.func18 rfl Try.ntmps18 rfl ?_
  intro S w hF
  unfold m_ref_Is at h
  refine W.seq ?_
  refine W.reg (σ' := ⟨[(0, .v (Enc.err ET) a0), (1, .v (Enc.int .i64) a1)], []⟩) (J.cons (.none rfl) (JO.assign rfl) rfl rfl (J.fin (Sw.Sub.mk id (.cons rfl (.of_eq rfl) (.cons rfl (.of_eq rfl) .nil)) .nil rfl))) ?_
  refine W.seq ?_
  refine W.seq ?_
  refine W.reg (σ' := ⟨[(0, .v (Enc.err ET) a0), (1, .v (Enc.int .i64) a1), (6, .v Enc.bool (Option.isNone a0))], []⟩) (J.cons (.none rfl) (JO.move rfl) rfl rfl (J.cons (.none rfl) (JO.errEq Try.runUnderlying29 rfl) rfl rfl (J.fin (Sw.Sub.mk id (.cons rfl (.of_eq rfl) (.cons rfl (.of_eq rfl) (.cons rfl (.of_eq rfl) .nil))) .nil rfl)))) ?_
  rcases Bool.eq_false_or_eq_true (Option.isNone a0) with hc1 | hc1
  · replace h := cond_t hc1 h
    refine W.condT rfl hc1 ?_
    refine W.seq ?_
    refine W.reg (σ' := ⟨[(4, .v Enc.bool (cm .eql a1 (0 : Int)))], []⟩) (J.cons (.none rfl) (JO.move rfl) rfl rfl (J.cons (.none rfl) (JO.cmp rfl rfl rfl) rfl rfl (J.cons (.none rfl) (JO.assign rfl) rfl rfl (J.fin (Sw.Sub.mk id (.cons rfl (.of_eq rfl) .nil) .nil rfl))))) ?_
    refine W.ret ?_
    obtain rfl := Option.some.inj h
    exact XQ.sub (σ' := ⟨[(4, .v Enc.bool (cm .eql a1 (0 : Int)))], []⟩) (Sw.Sub.mk id (.cons rfl (.of_eq rfl) .nil) .nil rfl) (XQ.ret1 hF noR rfl (RV.tmp rfl) .nil rfl)
  · replace h := cond_f hc1 h
    refine W.condF rfl hc1 ?_
    refine W.skip ?_
    refine W.seq ?_
    obtain ⟨x3, hx, h⟩ := bind_e h
    refine W.reg (σ' := ⟨[(4, .v Enc.bool x3)], []⟩) ?_ ?_
    · rcases Bool.eq_false_or_eq_true (cm .neq a1 (0 : Int)) with hc4 | hc4
      · replace hx := cond_t hc4 hx
        obtain rfl := Option.some.inj hx
        exact (J.cons (.none rfl) (JO.move rfl) rfl rfl (J.cons (.none rfl) (JO.cmp rfl rfl rfl) rfl rfl (J.cons (.none rfl) (JO.move rfl) rfl rfl (J.cons (GK.met 11 rfl rfl rfl hc4) (JO.move rfl) rfl rfl (J.cons (GK.met 11 rfl rfl rfl hc4) (JO.move rfl) rfl rfl (J.cons (GK.met 11 rfl rfl rfl hc4) (JO.mkErr Try.runUnderlying25 rfl) rfl rfl (J.cons (GK.met 11 rfl rfl rfl hc4) (JO.errEq2 Try.runUnderlying29 Try.runUnderlying25 Try.typeInfo25 rfl rfl rfl) rfl rfl (J.cons (.none rfl) (JO.pT hc4 rfl rfl) rfl rfl (J.cons (.none rfl) (JO.assign rfl) rfl rfl (J.fin (Sw.Sub.mk id (.cons rfl (.of_eq rfl) .nil) .nil rfl)))))))))))
      · replace hx := cond_f hc4 hx
        obtain rfl := Option.some.inj hx
        exact (J.cons (.none rfl) (JO.move rfl) rfl rfl (J.cons (.none rfl) (JO.cmp rfl rfl rfl) rfl rfl (J.cons (.none rfl) (JO.move rfl) rfl rfl (J.left (GK.unmet 11 rfl rfl rfl hc4) rfl (J.left (GK.unmet 11 rfl rfl rfl hc4) rfl (J.left (GK.unmet 11 rfl rfl rfl hc4) rfl (J.left (GK.unmet 11 rfl rfl rfl hc4) rfl (J.cons (.none rfl) (JO.pF hc4 rfl rfl) rfl rfl (J.cons (.none rfl) (JO.assign rfl) rfl rfl (J.fin (Sw.Sub.mk id (.cons rfl (.of_eq rfl) .nil) .nil rfl)))))))))))
    refine W.ret ?_
    obtain rfl := Option.some.inj h
    exact XQ.sub (σ' := ⟨[(4, .v Enc.bool x3)], []⟩) (Sw.Sub.mk id (.cons rfl (.of_eq rfl) .nil) .nil rfl) (XQ.ret1 hF noR rfl (RV.tmp rfl) .nil rfl)
set_option maxRecDepth 100000 in
set_option maxHeartbeats 4000000 in
theorem con_law_PlanSays {a0 : (List (Int × Blk))} {a1 : (List Blk)} {a2 : (List Blk)} {r : Bool} (h : m_law_PlanSays a0 a1 a2 = some r) :
    Con Try.prog 14 [.v (Enc.sl (Enc.pr (Enc.int .i64) eBlk)) a0, .v (Enc.sl eBlk) a1, .v (Enc.sl eBlk) a2] (.v Enc.bool r) [] := by
  refine Con.of Try.func14 rfl Try.ntmps14 rfl ?_
  intro S w hF
  unfold m_law_PlanSays at h
  refine W.seq ?_
  refine W.reg (σ' := ⟨[(0, .v (Enc.sl (Enc.pr (Enc.int .i64) eBlk)) a0), (1, .v (Enc.sl eBlk) a1), (2, .v (Enc.sl eBlk) a2)], []⟩) (J.cons (.none rfl) (JO.assign rfl) rfl rfl (J.fin (Sw.Sub.mk id (.cons rfl (.of_eq rfl) (.cons rfl (.of_eq rfl) (.cons rfl (.of_eq rfl) .nil))) .nil rfl))) ?_
  refine W.seq ?_
  refine W.seq ?_
  obtain ⟨x3, hx, h⟩ := bind_e h
  refine W.reg (σ' := ⟨[(0, .v (Enc.sl (Enc.pr (Enc.int .i64) eBlk)) a0), (1, .v (Enc.sl eBlk) a1), (2, .v (Enc.sl eBlk) a2), (27, .v Enc.bool x3)], []⟩) ?_ ?_
  · rcases Bool.eq_false_or_eq_true (cm .gtr (a0.length : Int) (100 : Int)) with hc4 | hc4
    · replace hx := cond_t hc4 hx
      obtain rfl := Option.some.inj hx
      exact (J.cons (.none rfl) (JO.move rfl) rfl rfl (J.cons (.none rfl) (JO.len rfl Try.runUnderlying47) rfl rfl (J.cons (.none rfl) (JO.cmp rfl rfl rfl) rfl rfl (J.cons (.none rfl) (JO.move rfl) rfl rfl (J.left (GK.unmet 18 rfl rfl rfl hc4) rfl (J.left (GK.unmet 18 rfl rfl rfl hc4) rfl (J.left (GK.unmet 18 rfl rfl rfl hc4) rfl (J.cons (.none rfl) (JO.pT hc4 rfl rfl) rfl rfl (J.cons (.none rfl) (JO.move rfl) rfl rfl (J.left (GK.unmet 23 rfl rfl rfl rfl) rfl (J.left (GK.unmet 23 rfl rfl rfl rfl) rfl (J.left (GK.unmet 23 rfl rfl rfl rfl) rfl (J.cons (.none rfl) (JO.pT rfl rfl rfl) rfl rfl (J.fin (Sw.Sub.mk id (.cons rfl (.of_eq rfl) (.cons rfl (.of_eq rfl) (.cons rfl (.of_eq rfl) (.cons rfl (.of_eq rfl) .nil)))) .nil rfl)))))))))))))))
    · replace hx := cond_f hc4 hx
      rcases Bool.eq_false_or_eq_true (cm .gtr (a1.length : Int) (100 : Int)) with hc5 | hc5
      · replace hx := cond_t hc5 hx
        obtain rfl := Option.some.inj hx
        exact (J.cons (.none rfl) (JO.move rfl) rfl rfl (J.cons (.none rfl) (JO.len rfl Try.runUnderlying47) rfl rfl (J.cons (.none rfl) (JO.cmp rfl rfl rfl) rfl rfl (J.cons (.none rfl) (JO.move rfl) rfl rfl (J.cons (GK.met 18 rfl rfl rfl hc4) (JO.move rfl) rfl rfl (J.cons (GK.met 18 rfl rfl rfl hc4) (JO.len rfl Try.runUnderlying22) rfl rfl (J.cons (GK.met 18 rfl rfl rfl hc4) (JO.cmp rfl rfl rfl) rfl rfl (J.cons (.none rfl) (JO.pF hc4 rfl rfl) rfl rfl (J.cons (.none rfl) (JO.move rfl) rfl rfl (J.left (GK.unmet 23 rfl rfl rfl hc5) rfl (J.left (GK.unmet 23 rfl rfl rfl hc5) rfl (J.left (GK.unmet 23 rfl rfl rfl hc5) rfl (J.cons (.none rfl) (JO.pT hc5 rfl rfl) rfl rfl (J.fin (Sw.Sub.mk id (.cons rfl (.of_eq rfl) (.cons rfl (.of_eq rfl) (.cons rfl (.of_eq rfl) (.cons rfl (.of_eq rfl) .nil)))) .nil rfl)))))))))))))))
      · replace hx := cond_f hc5 hx
        obtain rfl := Option.some.inj hx
        exact (J.cons (.none rfl) (JO.move rfl) rfl rfl (J.cons (.none rfl) (JO.len rfl Try.runUnderlying47) rfl rfl (J.cons (.none rfl) (JO.cmp rfl rfl rfl) rfl rfl (J.cons (.none rfl) (JO.move rfl) rfl rfl (J.cons (GK.met 18 rfl rfl rfl hc4) (JO.move rfl) rfl rfl (J.cons (GK.met 18 rfl rfl rfl hc4) (JO.len rfl Try.runUnderlying22) rfl rfl (J.cons (GK.met 18 rfl rfl rfl hc4) (JO.cmp rfl rfl rfl) rfl rfl (J.cons (.none rfl) (JO.pF hc4 rfl rfl) rfl rfl (J.cons (.none rfl) (JO.move rfl) rfl rfl (J.cons (GK.met 23 rfl rfl rfl hc5) (JO.move rfl) rfl rfl (J.cons (GK.met 23 rfl rfl rfl hc5) (JO.len rfl Try.runUnderlying22) rfl rfl (J.cons (GK.met 23 rfl rfl rfl hc5) (JO.cmp rfl rfl rfl) rfl rfl (J.cons (.none rfl) (JO.pF hc5 rfl rfl) rfl rfl (J.fin (Sw.Sub.mk id (.cons rfl (.of_eq rfl) (.cons rfl (.of_eq rfl) (.cons rfl (.of_eq rfl) (.cons rfl (.of_eq rfl) .nil)))) .nil rfl)))))))))))))))
  rcases Bool.eq_false_or_eq_true x3 with hc6 | hc6
  · replace h := cond_t hc6 h
    refine W.condT rfl hc6 ?_
    refine W.seq ?_
    refine W.reg (σ' := ⟨[(6, .v Enc.bool true)], []⟩) (J.cons (.none rfl) (JO.assign rfl) rfl rfl (J.fin (Sw.Sub.mk id (.cons rfl (.of_eq rfl) .nil) .nil rfl))) ?_
    refine W.ret ?_
    obtain rfl := Option.some.inj h
    exact XQ.sub (σ' := ⟨[(6, .v Enc.bool true)], []⟩) (Sw.Sub.mk id (.cons rfl (.of_eq rfl) .nil) .nil rfl) (XQ.ret1 hF noR rfl (RV.tmp rfl) .nil rfl)
  · replace h := cond_f hc6 h
    refine W.condF rfl hc6 ?_
    refine W.skip ?_
    refine W.seq ?_
    obtain ⟨v7, hv7, h⟩ := bind_e h
    refine W.reg (σ' := ⟨[(0, .v (Enc.sl (Enc.pr (Enc.int .i64) eBlk)) a0), (1, .v (Enc.sl eBlk) a1), (2, .v (Enc.sl eBlk) a2), (7, .v (Enc.int .i64) v7)], []⟩) (J.cons (.none rfl) (JO.move rfl) rfl rfl (J.cons (.none rfl) (JO.move rfl) rfl rfl (J.cons (.none rfl) (JO.call0 (con_ref_PlanMay hv7) Try.call43 (.cons (.dir rfl) (.cons (.dir rfl) .nil))) rfl rfl (J.cons (.none rfl) (JO.assign rfl) rfl rfl (J.fin (Sw.Sub.mk id (.cons rfl (.of_eq rfl) (.cons rfl (.of_eq rfl) (.cons rfl (.of_eq rfl) (.cons rfl (.of_eq rfl) .nil)))) .nil rfl)))))) ?_
    refine W.seq ?_
    refine W.seq ?_
    obtain ⟨x10, hx, h⟩ := bind_e h
    refine W.reg (σ' := ⟨[(0, .v (Enc.sl (Enc.pr (Enc.int .i64) eBlk)) a0), (1, .v (Enc.sl eBlk) a1), (2, .v (Enc.sl eBlk) a2), (7, .v (Enc.int .i64) v7), (39, .v Enc.bool x10)], []⟩) ?_ ?_
    · rcases Bool.eq_false_or_eq_true (cm .eql v7 (0 : Int)) with hc11 | hc11
      · replace hx := cond_t hc11 hx
        obtain ⟨v12, hv12, hx⟩ := bind_e hx
        obtain rfl := Option.some.inj hx
        exact (J.cons (.none rfl) (JO.move rfl) rfl rfl (J.cons (.none rfl) (JO.cmp rfl rfl rfl) rfl rfl (J.cons (.none rfl) (JO.move rfl) rfl rfl (J.cons (GK.met 33 rfl rfl rfl hc11) (JO.move rfl) rfl rfl (J.cons (GK.met 33 rfl rfl rfl hc11) (JO.move rfl) rfl rfl (J.cons (GK.met 33 rfl rfl rfl hc11) (JO.len rfl Try.runUnderlying22) rfl rfl (J.cons (GK.met 33 rfl rfl rfl hc11) (JO.call0 (con_ref_Rising hv12) Try.call65 (.cons (.dir rfl) (.cons (.dir rfl) .nil))) rfl rfl (J.cons (GK.met 33 rfl rfl rfl hc11) (JO.not rfl) rfl rfl (J.cons (.none rfl) (JO.pT hc11 rfl rfl) rfl rfl (J.fin (Sw.Sub.mk id (.cons rfl (.of_eq rfl) (.cons rfl (.of_eq rfl) (.cons rfl (.of_eq rfl) (.cons rfl (.of_eq rfl) (.cons rfl (.of_eq rfl) .nil))))) .nil rfl)))))))))))
      · replace hx := cond_f hc11 hx
        obtain rfl := Option.some.inj hx
        exact (J.cons (.none rfl) (JO.move rfl) rfl rfl (J.cons (.none rfl) (JO.cmp rfl rfl rfl) rfl rfl (J.cons (.none rfl) (JO.move rfl) rfl rfl (J.left (GK.unmet 33 rfl rfl rfl hc11) rfl (J.left (GK.unmet 33 rfl rfl rfl hc11) rfl (J.left (GK.unmet 33 rfl rfl rfl hc11) rfl (J.left (GK.unmet 33 rfl rfl rfl hc11) rfl (J.left (GK.unmet 33 rfl rfl rfl hc11) rfl (J.cons (.none rfl) (JO.pF hc11 rfl rfl) rfl rfl (J.fin (Sw.Sub.mk id (.cons rfl (.of_eq rfl) (.cons rfl (.of_eq rfl) (.cons rfl (.of_eq rfl) (.cons rfl (.of_eq rfl) (.cons rfl (.of_eq rfl) .nil))))) .nil rfl)))))))))))
    obtain ⟨k14, hk14, h⟩ := jp_elim h
    refine W.jn (fun x15 : Int => ⟨[(0, .v (Enc.sl (Enc.pr (Enc.int .i64) eBlk)) a0), (1, .v (Enc.sl eBlk) a1), (2, .v (Enc.sl eBlk) a2), (7, .v (Enc.int .i64) x15)], []⟩) (fun x => k14 x = some r) rfl ?_ ?_ ?_
    · intro x15 h
      rw [hk14] at h
      refine W.seq ?_
      refine W.reg (σ' := ⟨[(0, .v (Enc.sl (Enc.pr (Enc.int .i64) eBlk)) a0), (1, .v (Enc.sl eBlk) a1), (2, .v (Enc.sl eBlk) a2), (7, .v (Enc.int .i64) x15), (8, .ref 104)], [(104, .arr 81 (Enc.pr (Enc.int .i64) (Enc.pr (Enc.int .i64) (Enc.pr (Enc.int .i64) eBlk))) ([] : (List (Int × Int × Int × Blk))))]⟩) (J.cons (.none rfl) (JO.assignNilR 104 81 (Enc.pr (Enc.int .i64) (Enc.pr (Enc.int .i64) (Enc.pr (Enc.int .i64) eBlk)))) rfl rfl (J.fin (Sw.Sub.mk id (.cons rfl (.of_eq rfl) (.cons rfl (.of_eq rfl) (.cons rfl (.of_eq rfl) (.cons rfl (.of_eq rfl) (.cons rfl (.of_eq rfl) .nil))))) (.arr rfl .nil) rfl))) ?_
      refine W.seq ?_
      refine W.seq ?_
      refine W.reg (σ' := ⟨[(0, .v (Enc.sl (Enc.pr (Enc.int .i64) eBlk)) a0), (1, .v (Enc.sl eBlk) a1), (2, .v (Enc.sl eBlk) a2), (7, .v (Enc.int .i64) x15), (8, .ref 104), (9, .v (Enc.int .i64) (0 : Int))], [(104, .arr 81 (Enc.pr (Enc.int .i64) (Enc.pr (Enc.int .i64) (Enc.pr (Enc.int .i64) eBlk))) ([] : (List (Int × Int × Int × Blk))))]⟩) (J.cons (.none rfl) (JO.assign rfl) rfl rfl (J.fin (Sw.Sub.mk id (.cons rfl (.of_eq rfl) (.cons rfl (.of_eq rfl) (.cons rfl (.of_eq rfl) (.cons rfl (.of_eq rfl) (.cons rfl (.of_eq rfl) (.cons rfl (.of_eq rfl) .nil)))))) (.arr rfl .nil) rfl))) ?_
      obtain ⟨o43, ho43, hb43, hr43⟩ := lp_elim h
      refine W.lp (σs := fun s34 : Int × (List (Int × Int × Int × Blk)) => ⟨[(0, .v (Enc.sl (Enc.pr (Enc.int .i64) eBlk)) a0), (1, .v (Enc.sl eBlk) a1), (2, .v (Enc.sl eBlk) a2), (7, .v (Enc.int .i64) x15), (8, .ref 114), (9, .v (Enc.int .i64) s34.1)], [(114, .arr 81 (Enc.pr (Enc.int .i64) (Enc.pr (Enc.int .i64) (Enc.pr (Enc.int .i64) eBlk))) s34.2)]⟩) (fun x44 : (List (Int × Int × Int × Blk)) => ⟨[(0, .v (Enc.sl (Enc.pr (Enc.int .i64) eBlk)) a0), (1, .v (Enc.sl eBlk) a1), (2, .v (Enc.sl eBlk) a2), (7, .v (Enc.int .i64) x15), (8, .ref 114)], [(114, .arr 81 (Enc.pr (Enc.int .i64) (Enc.pr (Enc.int .i64) (Enc.pr (Enc.int .i64) eBlk))) x44)]⟩) ho43 (Sw.Sub.mk (rn [(114, 104)]) (.cons rfl (.of_eq rfl) (.cons rfl (.of_eq rfl) (.cons rfl (.of_eq rfl) (.cons rfl (.of_eq rfl) (.cons rfl (.of_eq rfl) (.cons rfl (.of_eq rfl) .nil)))))) (.arr rfl .nil) rfl) ?_ ?_
      · intro x44 hy
        have h := hb43 _ hy
        refine W.seq ?_
        obtain ⟨v53, hv53, h⟩ := bind_e h
        refine W.reg (σ' := ⟨[(7, .v (Enc.int .i64) x15), (8, .ref 114), (12, .v (Enc.sl (Enc.pr (Enc.int .i64) (Enc.pr (Enc.int .i64) (Enc.pr (Enc.int .i64) eBlk)))) v53.1), (13, .v (Enc.err ET) v53.2)], [(114, .arr 81 (Enc.pr (Enc.int .i64) (Enc.pr (Enc.int .i64) (Enc.pr (Enc.int .i64) eBlk))) x44)]⟩) (J.cons (.none rfl) (JO.move rfl) rfl rfl (J.cons (.none rfl) (JO.move rfl) rfl rfl (J.cons (.none rfl) (JO.move rfl) rfl rfl (J.cons (.none rfl) (JO.call0 (con_plan_Packets hv53) Try.call67 (.cons (.dir rfl) (.cons (.dir rfl) (.cons (.dir rfl) .nil)))) rfl rfl (J.cons (.none rfl) (JO.move rfl) rfl rfl (J.cons (.none rfl) (JO.extract rfl rfl) rfl rfl (J.cons (.none rfl) (JO.extract rfl rfl) rfl rfl (J.cons (.none rfl) (JO.assign rfl) rfl rfl (J.cons (.none rfl) (JO.assign rfl) rfl rfl (J.fin (Sw.Sub.mk id (.cons rfl (.of_eq rfl) (.cons rfl (.of_eq rfl) (.cons rfl (.of_eq rfl) (.cons rfl (.of_eq rfl) .nil)))) (.arr rfl .nil) rfl))))))))))) ?_
        refine W.seq ?_
        refine W.seq ?_
        obtain ⟨x56, hx, h⟩ := bind_e h
        refine W.reg (σ' := ⟨[(8, .ref 114), (12, .v (Enc.sl (Enc.pr (Enc.int .i64) (Enc.pr (Enc.int .i64) (Enc.pr (Enc.int .i64) eBlk)))) v53.1), (82, .v Enc.bool x56)], [(114, .arr 81 (Enc.pr (Enc.int .i64) (Enc.pr (Enc.int .i64) (Enc.pr (Enc.int .i64) eBlk))) x44)]⟩) ?_ ?_
        · obtain ⟨v57, hv57, hx⟩ := bind_e hx
          rcases Bool.eq_false_or_eq_true (!v57) with hc58 | hc58
          · replace hx := cond_t hc58 hx
            obtain rfl := Option.some.inj hx
            exact (J.cons (.none rfl) (JO.move rfl) rfl rfl (J.cons (.none rfl) (JO.move rfl) rfl rfl (J.cons (.none rfl) (JO.call0 (con_ref_Is hv57) Try.call18 (.cons (.dir rfl) (.cons (.dir rfl) .nil))) rfl rfl (J.cons (.none rfl) (JO.not rfl) rfl rfl (J.cons (.none rfl) (JO.move rfl) rfl rfl (J.left (GK.unmet 76 rfl rfl rfl hc58) rfl (J.left (GK.unmet 76 rfl rfl rfl hc58) rfl (J.left (GK.unmet 76 rfl rfl rfl hc58) rfl (J.left (GK.unmet 76 rfl rfl rfl hc58) rfl (J.left (GK.unmet 76 rfl rfl rfl hc58) rfl (J.cons (.none rfl) (JO.pT hc58 rfl rfl) rfl rfl (J.fin (Sw.Sub.mk id (.cons rfl (.of_eq rfl) (.cons rfl (.of_eq rfl) (.cons rfl (.of_eq rfl) .nil))) (.arr rfl .nil) rfl)))))))))))))
          · replace hx := cond_f hc58 hx
            obtain rfl := Option.some.inj hx
            exact (J.cons (.none rfl) (JO.move rfl) rfl rfl (J.cons (.none rfl) (JO.move rfl) rfl rfl (J.cons (.none rfl) (JO.call0 (con_ref_Is hv57) Try.call18 (.cons (.dir rfl) (.cons (.dir rfl) .nil))) rfl rfl (J.cons (.none rfl) (JO.not rfl) rfl rfl (J.cons (.none rfl) (JO.move rfl) rfl rfl (J.cons (GK.met 76 rfl rfl rfl hc58) (JO.move rfl) rfl rfl (J.cons (GK.met 76 rfl rfl rfl hc58) (JO.len rfl Try.runUnderlying78) rfl rfl (J.cons (GK.met 76 rfl rfl rfl hc58) (JO.move rfl) rfl rfl (J.cons (GK.met 76 rfl rfl rfl hc58) (JO.lenR rfl rfl Try.runUnderlying78) rfl rfl (J.cons (GK.met 76 rfl rfl rfl hc58) (JO.cmp rfl rfl rfl) rfl rfl (J.cons (.none rfl) (JO.pF hc58 rfl rfl) rfl rfl (J.fin (Sw.Sub.mk id (.cons rfl (.of_eq rfl) (.cons rfl (.of_eq rfl) (.cons rfl (.of_eq rfl) .nil))) (.arr rfl .nil) rfl)))))))))))))
        rcases Bool.eq_false_or_eq_true x56 with hc59 | hc59
        · replace h := cond_t hc59 h
          refine W.condT rfl hc59 ?_
          refine W.seq ?_
          refine W.reg (σ' := ⟨[(6, .v Enc.bool false)], []⟩) (J.cons (.none rfl) (JO.assign rfl) rfl rfl (J.fin (Sw.Sub.mk id (.cons rfl (.of_eq rfl) .nil) .nil rfl))) ?_
          refine W.ret ?_
          obtain rfl := Option.some.inj h
          exact XQ.sub (σ' := ⟨[(6, .v Enc.bool false)], []⟩) (Sw.Sub.mk id (.cons rfl (.of_eq rfl) .nil) .nil rfl) (XQ.ret1 hF noR rfl (RV.tmp rfl) .nil rfl)
        · replace h := cond_f hc59 h
          refine W.condF rfl hc59 ?_
          refine W.skip ?_
          refine W.seq ?_
          refine W.seq ?_
          refine W.reg (σ' := ⟨[(8, .ref 114), (12, .v (Enc.sl (Enc.pr (Enc.int .i64) (Enc.pr (Enc.int .i64) (Enc.pr (Enc.int .i64) eBlk)))) v53.1), (14, .v (Enc.int .i64) (0 : Int))], [(114, .arr 81 (Enc.pr (Enc.int .i64) (Enc.pr (Enc.int .i64) (Enc.pr (Enc.int .i64) eBlk))) x44)]⟩) (J.cons (.none rfl) (JO.assign rfl) rfl rfl (J.fin (Sw.Sub.mk id (.cons rfl (.of_eq rfl) (.cons rfl (.of_eq rfl) (.cons rfl (.of_eq rfl) .nil))) (.arr rfl .nil) rfl))) ?_
          obtain ⟨o75, ho75, hb75, hr75⟩ := lp_elim h
          refine W.lp (σs := fun s70 : Int => ⟨[(8, .ref 114), (12, .v (Enc.sl (Enc.pr (Enc.int .i64) (Enc.pr (Enc.int .i64) (Enc.pr (Enc.int .i64) eBlk)))) v53.1), (14, .v (Enc.int .i64) s70)], [(114, .arr 81 (Enc.pr (Enc.int .i64) (Enc.pr (Enc.int .i64) (Enc.pr (Enc.int .i64) eBlk))) x44)]⟩) (fun x76 : Unit => ⟨[], []⟩) ho75 (Sw.Sub.mk id (.cons rfl (.of_eq rfl) (.cons rfl (.of_eq rfl) (.cons rfl (.of_eq rfl) .nil))) (.arr rfl .nil) rfl) ?_ ?_
          · intro x76 hy
            have h := hb75 _ hy
            refine W.seq ?_
            refine W.reg (σ' := ⟨[(6, .v Enc.bool true)], []⟩) (J.cons (.none rfl) (JO.assign rfl) rfl rfl (J.fin (Sw.Sub.mk id (.cons rfl (.of_eq rfl) .nil) .nil rfl))) ?_
            refine W.ret ?_
            obtain rfl := Option.some.inj h
            exact XQ.sub (σ' := ⟨[(6, .v Enc.bool true)], []⟩) (Sw.Sub.mk id (.cons rfl (.of_eq rfl) .nil) .nil rfl) (XQ.ret1 hF noR rfl (RV.tmp rfl) .nil rfl)
          intro s70 r75 h
          refine W.seq ?_
          refine W.seq ?_
          refine W.reg (σ' := ⟨[(8, .ref 114), (12, .v (Enc.sl (Enc.pr (Enc.int .i64) (Enc.pr (Enc.int .i64) (Enc.pr (Enc.int .i64) eBlk)))) v53.1), (14, .v (Enc.int .i64) s70), (86, .v Enc.bool (cm .lss s70 (v53.1.length : Int)))], [(114, .arr 81 (Enc.pr (Enc.int .i64) (Enc.pr (Enc.int .i64) (Enc.pr (Enc.int .i64) eBlk))) x44)]⟩) (J.cons (.none rfl) (JO.move rfl) rfl rfl (J.cons (.none rfl) (JO.move rfl) rfl rfl (J.cons (.none rfl) (JO.len rfl Try.runUnderlying78) rfl rfl (J.cons (.none rfl) (JO.cmp rfl rfl rfl) rfl rfl (J.fin (Sw.Sub.mk id (.cons rfl (.of_eq rfl) (.cons rfl (.of_eq rfl) (.cons rfl (.of_eq rfl) (.cons rfl (.of_eq rfl) .nil)))) (.arr rfl .nil) rfl)))))) ?_
          rcases Bool.eq_false_or_eq_true (cm .lss s70 (v53.1.length : Int)) with hc77 | hc77
          · replace h := cond_t hc77 h
            refine W.condT rfl hc77 ?_
            refine W.skip ?_
            refine W.seq ?_
            refine W.block ?_
            refine W.seq ?_
            obtain ⟨z78, hz78, h⟩ := bind_e h
            obtain ⟨z79, hz79, h⟩ := bind_e h
            refine W.dr2 (σ' := ⟨[(8, .ref 114), (12, .v (Enc.sl (Enc.pr (Enc.int .i64) (Enc.pr (Enc.int .i64) (Enc.pr (Enc.int .i64) eBlk)))) v53.1), (14, .v (Enc.int .i64) s70), (97, .v Enc.bool (!decide (z78 = z79)))], [(114, .arr 81 (Enc.pr (Enc.int .i64) (Enc.pr (Enc.int .i64) (Enc.pr (Enc.int .i64) eBlk))) x44)]⟩) 9 [0, 0, 3, 7, 0, 0, 48, 112, 255] mixed (by exact (.cons (.none rfl) (JO.move rfl) rfl rfl (.cons (.none rfl) (JO.move rfl) rfl rfl (.cons (.none rfl) (JO.idx hz78 rfl rfl Try.runUnderlying78 Try.sizeOf81) rfl rfl (.cons (.none rfl) (JO.loadPst rfl Try.isAgg81 Try.sizeOf81) rfl rfl (.cons (.none rfl) (JO.move rfl) rfl rfl (.cons (.none rfl) (JO.move rfl) rfl rfl (.cons (.none rfl) (JO.idxR hz79 rfl rfl rfl Try.runUnderlying78 Try.sizeOf81) rfl rfl (.cons (.none rfl) (JO.loadEl (idx_some hz79).2.2 rfl rfl .here Try.isAgg81 Try.sizeOf81) rfl rfl (.cons (.none rfl) (JO.neV eq81 rfl rfl Try.eqGuardType81 rfl rfl) rfl rfl .nil)))))))))) (by exact (J.fin (Sw.Sub.mk id (.cons rfl (.of_eq rfl) (.cons rfl (.of_eq rfl) (.cons rfl (.of_eq rfl) (.cons rfl (.of_eq rfl) .nil)))) (.arr rfl .nil) rfl))) rfl (by decide +kernel) (by decide +kernel) (by decide +kernel) (by kernel_rfl) ?_
            rcases Bool.eq_false_or_eq_true (!decide (z78 = z79)) with hc80 | hc80
            · replace h := cond_t hc80 h
              refine W.condT rfl hc80 ?_
              refine W.seq ?_
              refine W.reg (σ' := ⟨[(6, .v Enc.bool false)], []⟩) (J.cons (.none rfl) (JO.assign rfl) rfl rfl (J.fin (Sw.Sub.mk id (.cons rfl (.of_eq rfl) .nil) .nil rfl))) ?_
              refine W.ret ?_
              refine XQ.ret ?_
              obtain rfl := Option.some.inj h
              refine XQ.lret fun ho => ?_
              obtain rfl := hr75 _ ho
              exact XQ.sub (σ' := ⟨[(6, .v Enc.bool false)], []⟩) (Sw.Sub.mk id (.cons rfl (.of_eq rfl) .nil) .nil rfl) (XQ.ret1 hF noR rfl (RV.tmp rfl) .nil rfl)
            · replace h := cond_f hc80 h
              refine W.condF rfl hc80 ?_
              refine W.skip ?_
              refine W.fall ?_
              refine W.reg (σ' := ⟨[(8, .ref 114), (12, .v (Enc.sl (Enc.pr (Enc.int .i64) (Enc.pr (Enc.int .i64) (Enc.pr (Enc.int .i64) eBlk)))) v53.1), (14, .v (Enc.int .i64) (ar .add .i64 s70 (1 : Int)))], [(114, .arr 81 (Enc.pr (Enc.int .i64) (Enc.pr (Enc.int .i64) (Enc.pr (Enc.int .i64) eBlk))) x44)]⟩) (J.cons (.none rfl) (JO.move rfl) rfl rfl (J.cons (.none rfl) (JO.arith rfl rfl rfl) rfl rfl (J.cons (.none rfl) (JO.assign rfl) rfl rfl (J.fin (Sw.Sub.mk id (.cons rfl (.of_eq rfl) (.cons rfl (.of_eq rfl) (.cons rfl (.of_eq rfl) .nil))) (.arr rfl .nil) rfl))))) ?_
              obtain rfl := Option.some.inj h
              exact W.next (Sw.Sub.mk id (.cons rfl (.of_eq rfl) (.cons rfl (.of_eq rfl) (.cons rfl (.of_eq rfl) .nil))) (.arr rfl .nil) rfl)
          · replace h := cond_f hc77 h
            refine W.condF rfl hc77 ?_
            refine W.exit ?_
            obtain rfl := Option.some.inj h
            exact XQ.brk (Sw.Sub.mk id .nil .nil rfl)
      intro s34 r43 h
      refine W.seq ?_
      refine W.seq ?_
      obtain ⟨x46, hx, h⟩ := bind_e h
      refine W.reg (σ' := ⟨[(0, .v (Enc.sl (Enc.pr (Enc.int .i64) eBlk)) a0), (1, .v (Enc.sl eBlk) a1), (2, .v (Enc.sl eBlk) a2), (7, .v (Enc.int .i64) x15), (8, .ref 114), (9, .v (Enc.int .i64) s34.1), (47, .v Enc.bool x46)], [(114, .arr 81 (Enc.pr (Enc.int .i64) (Enc.pr (Enc.int .i64) (Enc.pr (Enc.int .i64) eBlk))) s34.2)]⟩) ?_ ?_
      · rcases Bool.eq_false_or_eq_true (cm .lss s34.1 (a0.length : Int)) with hc47 | hc47
        · replace hx := cond_t hc47 hx
          obtain rfl := Option.some.inj hx
          exact (J.cons (.none rfl) (JO.move rfl) rfl rfl (J.cons (.none rfl) (JO.move rfl) rfl rfl (J.cons (.none rfl) (JO.len rfl Try.runUnderlying47) rfl rfl (J.cons (.none rfl) (JO.cmp rfl rfl rfl) rfl rfl (J.cons (.none rfl) (JO.move rfl) rfl rfl (J.cons (GK.met 44 rfl rfl rfl hc47) (JO.move rfl) rfl rfl (J.cons (GK.met 44 rfl rfl rfl hc47) (JO.cmp rfl rfl rfl) rfl rfl (J.cons (.none rfl) (JO.pT hc47 rfl rfl) rfl rfl (J.fin (Sw.Sub.mk id (.cons rfl (.of_eq rfl) (.cons rfl (.of_eq rfl) (.cons rfl (.of_eq rfl) (.cons rfl (.of_eq rfl) (.cons rfl (.of_eq rfl) (.cons rfl (.of_eq rfl) (.cons rfl (.of_eq rfl) .nil))))))) (.arr rfl .nil) rfl))))))))))
        · replace hx := cond_f hc47 hx
          obtain rfl := Option.some.inj hx
          exact (J.cons (.none rfl) (JO.move rfl) rfl rfl (J.cons (.none rfl) (JO.move rfl) rfl rfl (J.cons (.none rfl) (JO.len rfl Try.runUnderlying47) rfl rfl (J.cons (.none rfl) (JO.cmp rfl rfl rfl) rfl rfl (J.cons (.none rfl) (JO.move rfl) rfl rfl (J.left (GK.unmet 44 rfl rfl rfl hc47) rfl (J.left (GK.unmet 44 rfl rfl rfl hc47) rfl (J.cons (.none rfl) (JO.pF hc47 rfl rfl) rfl rfl (J.fin (Sw.Sub.mk id (.cons rfl (.of_eq rfl) (.cons rfl (.of_eq rfl) (.cons rfl (.of_eq rfl) (.cons rfl (.of_eq rfl) (.cons rfl (.of_eq rfl) (.cons rfl (.of_eq rfl) (.cons rfl (.of_eq rfl) .nil))))))) (.arr rfl .nil) rfl))))))))))
      rcases Bool.eq_false_or_eq_true x46 with hc48 | hc48
      · replace h := cond_t hc48 h
        refine W.condT rfl hc48 ?_
        refine W.skip ?_
        refine W.seq ?_
        refine W.block ?_
        refine W.seq ?_
        obtain ⟨z49, hz49, h⟩ := bind_e h
        obtain ⟨v50, hv50, h⟩ := bind_e h
        refine W.reg (σ' := ⟨[(0, .v (Enc.sl (Enc.pr (Enc.int .i64) eBlk)) a0), (1, .v (Enc.sl eBlk) a1), (2, .v (Enc.sl eBlk) a2), (7, .v (Enc.int .i64) x15), (8, .ref 114), (9, .v (Enc.int .i64) s34.1), (10, .ptr 119 0), (11, .v Enc.bool v50.2)], [(114, .arr 81 (Enc.pr (Enc.int .i64) (Enc.pr (Enc.int .i64) (Enc.pr (Enc.int .i64) eBlk))) s34.2), (119, .box 81 [.v (Enc.int .i64) v50.1.1, .v (Enc.int .i64) v50.1.2.1, .v (Enc.int .i64) v50.1.2.2.1, .v eBlk v50.1.2.2.2])]⟩) (J.cons (.none rfl) (JO.move rfl) rfl rfl (J.cons (.none rfl) (JO.move rfl) rfl rfl (J.cons (.none rfl) (JO.idx hz49 rfl rfl Try.runUnderlying47 Try.sizeOf85) rfl rfl (J.cons (.none rfl) (JO.loadPst rfl Try.isAgg85 Try.sizeOf85) rfl rfl (J.cons (.none rfl) (JO.move rfl) rfl rfl (J.cons (.none rfl) (JO.move rfl) rfl rfl (J.cons (.none rfl) (JO.call0 (con_ref_PacketOf hv50) Try.call66 (.cons (.dir rfl) (.cons (.dir rfl) (.cons (.dir rfl) .nil)))) rfl rfl (J.cons (.none rfl) (JO.move rfl) rfl rfl (J.cons (.none rfl) (JO.extract rfl rfl) rfl rfl (J.cons (.none rfl) (JO.extract rfl rfl) rfl rfl (J.cons (.none rfl) (JO.alloc 119 Try.zeroValue81 rfl (.cons (Z.int .i64) (.cons (Z.int .i64) (.cons (Z.int .i64) (.cons (Z.arr 8 (Z.int .u8)) .nil)))) rfl) rfl rfl (J.mut (.none rfl) (JM.storeAll rfl rfl rfl rfl (.prm (.one _ _) (.prm (.one _ _) (.prm (.one _ _) (.one _ _)))) Try.sizeOf81) (J.cons (.none rfl) (JO.assign rfl) rfl rfl (J.fin (Sw.Sub.mk id (.cons rfl (.of_eq rfl) (.cons rfl (.of_eq rfl) (.cons rfl (.of_eq rfl) (.cons rfl (.of_eq rfl) (.cons rfl (.of_eq rfl) (.cons rfl (.of_eq rfl) (.cons rfl (.of_eq rfl) (.cons rfl (.of_eq rfl) .nil)))))))) (.arr rfl (.box rfl (.cons (.of_eq rfl) (.cons (.of_eq rfl) (.cons (.of_eq rfl) (.cons (.of_eq rfl) .nil)))) .nil)) rfl))))))))))))))) ?_
        refine W.seq ?_
        refine W.reg (σ' := ⟨[(0, .v (Enc.sl (Enc.pr (Enc.int .i64) eBlk)) a0), (1, .v (Enc.sl eBlk) a1), (2, .v (Enc.sl eBlk) a2), (7, .v (Enc.int .i64) x15), (8, .ref 114), (9, .v (Enc.int .i64) s34.1), (10, .ptr 119 0), (60, .v Enc.bool v50.2)], [(114, .arr 81 (Enc.pr (Enc.int .i64) (Enc.pr (Enc.int .i64) (Enc.pr (Enc.int .i64) eBlk))) s34.2), (119, .box 81 [.v (Enc.int .i64) v50.1.1, .v (Enc.int .i64) v50.1.2.1, .v (Enc.int .i64) v50.1.2.2.1, .v eBlk v50.1.2.2.2])]⟩) (J.cons (.none rfl) (JO.move rfl) rfl rfl (J.fin (Sw.Sub.mk id (.cons rfl (.of_eq rfl) (.cons rfl (.of_eq rfl) (.cons rfl (.of_eq rfl) (.cons rfl (.of_eq rfl) (.cons rfl (.of_eq rfl) (.cons rfl (.of_eq rfl) (.cons rfl (.of_eq rfl) (.cons rfl (.of_eq rfl) .nil)))))))) (.arr rfl (.box rfl (.cons (.of_eq rfl) (.cons (.of_eq rfl) (.cons (.of_eq rfl) (.cons (.of_eq rfl) .nil)))) .nil)) rfl))) ?_
        rcases Bool.eq_false_or_eq_true v50.2 with hc51 | hc51
        · replace h := cond_t hc51 h
          refine W.condT rfl hc51 ?_
          obtain ⟨v52, hv52, h⟩ := bind_e h
          refine W.reg (σ' := ⟨[(0, .v (Enc.sl (Enc.pr (Enc.int .i64) eBlk)) a0), (1, .v (Enc.sl eBlk) a1), (2, .v (Enc.sl eBlk) a2), (7, .v (Enc.int .i64) x15), (8, .ref 120), (9, .v (Enc.int .i64) s34.1)], [(120, .arr 81 (Enc.pr (Enc.int .i64) (Enc.pr (Enc.int .i64) (Enc.pr (Enc.int .i64) eBlk))) v52)]⟩) (J.cons (.none rfl) (JO.move rfl) rfl rfl (J.cons (.none rfl) (JO.loadAll rfl rfl (.prm (.one _ _) (.prm (.one _ _) (.prm (.one _ _) (.one _ _)))) Try.isAgg81 Try.sizeOf81) rfl rfl (J.cons (.none rfl) (JO.lit (e := (Enc.pr (Enc.int .i64) (Enc.pr (Enc.int .i64) (Enc.pr (Enc.int .i64) eBlk)))) Try.runUnderlying78 Try.sizeOf81 Try.zeroValue81 rfl rfl rfl rfl (.cons (.dir rfl) .nil)) rfl rfl (J.mut (.none rfl) (JM.append 120 hv52 rfl rfl (.sl rfl) Try.runUnderlying78 Try.typeInfo81 Try.sizeOf81 rfl rfl rfl rfl rfl) (J.cons (.none rfl) (JO.assign rfl) rfl rfl (J.fin (Sw.Sub.mk id (.cons rfl (.of_eq rfl) (.cons rfl (.of_eq rfl) (.cons rfl (.of_eq rfl) (.cons rfl (.of_eq rfl) (.cons rfl (.of_eq rfl) (.cons rfl (.of_eq rfl) .nil)))))) (.arr rfl .nil) rfl))))))) ?_
          refine W.fall ?_
          refine W.reg (σ' := ⟨[(0, .v (Enc.sl (Enc.pr (Enc.int .i64) eBlk)) a0), (1, .v (Enc.sl eBlk) a1), (2, .v (Enc.sl eBlk) a2), (7, .v (Enc.int .i64) x15), (8, .ref 120), (9, .v (Enc.int .i64) (ar .add .i64 s34.1 (1 : Int)))], [(120, .arr 81 (Enc.pr (Enc.int .i64) (Enc.pr (Enc.int .i64) (Enc.pr (Enc.int .i64) eBlk))) v52)]⟩) (J.cons (.none rfl) (JO.move rfl) rfl rfl (J.cons (.none rfl) (JO.arith rfl rfl rfl) rfl rfl (J.cons (.none rfl) (JO.assign rfl) rfl rfl (J.fin (Sw.Sub.mk id (.cons rfl (.of_eq rfl) (.cons rfl (.of_eq rfl) (.cons rfl (.of_eq rfl) (.cons rfl (.of_eq rfl) (.cons rfl (.of_eq rfl) (.cons rfl (.of_eq rfl) .nil)))))) (.arr rfl .nil) rfl))))) ?_
          obtain rfl := Option.some.inj h
          exact W.next (Sw.Sub.mk (rn [(114, 120)]) (.cons rfl (.of_eq rfl) (.cons rfl (.of_eq rfl) (.cons rfl (.of_eq rfl) (.cons rfl (.of_eq rfl) (.cons rfl (.of_eq rfl) (.cons rfl (.of_eq rfl) .nil)))))) (.arr rfl .nil) rfl)
        · replace h := cond_f hc51 h
          refine W.condF rfl hc51 ?_
          refine W.skip ?_
          refine W.fall ?_
          refine W.reg (σ' := ⟨[(0, .v (Enc.sl (Enc.pr (Enc.int .i64) eBlk)) a0), (1, .v (Enc.sl eBlk) a1), (2, .v (Enc.sl eBlk) a2), (7, .v (Enc.int .i64) x15), (8, .ref 114), (9, .v (Enc.int .i64) (ar .add .i64 s34.1 (1 : Int)))], [(114, .arr 81 (Enc.pr (Enc.int .i64) (Enc.pr (Enc.int .i64) (Enc.pr (Enc.int .i64) eBlk))) s34.2)]⟩) (J.cons (.none rfl) (JO.move rfl) rfl rfl (J.cons (.none rfl) (JO.arith rfl rfl rfl) rfl rfl (J.cons (.none rfl) (JO.assign rfl) rfl rfl (J.fin (Sw.Sub.mk id (.cons rfl (.of_eq rfl) (.cons rfl (.of_eq rfl) (.cons rfl (.of_eq rfl) (.cons rfl (.of_eq rfl) (.cons rfl (.of_eq rfl) (.cons rfl (.of_eq rfl) .nil)))))) (.arr rfl .nil) rfl))))) ?_
          obtain rfl := Option.some.inj h
          exact W.next (Sw.Sub.mk id (.cons rfl (.of_eq rfl) (.cons rfl (.of_eq rfl) (.cons rfl (.of_eq rfl) (.cons rfl (.of_eq rfl) (.cons rfl (.of_eq rfl) (.cons rfl (.of_eq rfl) .nil)))))) (.arr rfl .nil) rfl)
      · replace h := cond_f hc48 h
        refine W.condF rfl hc48 ?_
        refine W.exit ?_
        obtain rfl := Option.some.inj h
        exact XQ.brk (Sw.Sub.mk id (.cons rfl (.of_eq rfl) (.cons rfl (.of_eq rfl) (.cons rfl (.of_eq rfl) (.cons rfl (.of_eq rfl) (.cons rfl (.of_eq rfl) .nil))))) (.arr rfl .nil) rfl)
    · intro hc13
      replace h := cond_t hc13 h
      refine W.reg (σ' := ⟨[(0, .v (Enc.sl (Enc.pr (Enc.int .i64) eBlk)) a0), (1, .v (Enc.sl eBlk) a1), (2, .v (Enc.sl eBlk) a2), (7, .v (Enc.int .i64) (1 : Int))], []⟩) (J.cons (.none rfl) (JO.assign rfl) rfl rfl (J.fin (Sw.Sub.mk id (.cons rfl (.of_eq rfl) (.cons rfl (.of_eq rfl) (.cons rfl (.of_eq rfl) (.cons rfl (.of_eq rfl) .nil)))) .nil rfl))) ?_
      exact W.jfall h (Sw.Sub.mk id (.cons rfl (.of_eq rfl) (.cons rfl (.of_eq rfl) (.cons rfl (.of_eq rfl) (.cons rfl (.of_eq rfl) .nil)))) .nil rfl)
    · intro hc13
      replace h := cond_f hc13 h
      refine W.skip ?_
      exact W.jfall h (Sw.Sub.mk id (.cons rfl (.of_eq rfl) (.cons rfl (.of_eq rfl) (.cons rfl (.of_eq rfl) (.cons rfl (.of_eq rfl) .nil)))) .nil rfl)
end Go.Cn
