/- The functions that this law reaches come to what their models come to. Conditions: none. -/
import Derived.Test.YteckohdbfkhmdaaMoPlanApplies
import Derived.KernelRfl
import Derived.Test.YteckohdbfkhmdaaChecked
namespace Go.Cn
open Go Go.Sw Go.Mo Go.Proofs
abbrev ET : Nat := 25
theorem mixed : Try.prog.follows .mixedOrders = true := Try.checked.mixed
theorem eq24 : EqE 2 Try.prog 24 eBlk := EqE.arr Try.runUnderlying24 Try.sizeOf5 Try.isAgg5 (EqE.int Try.underlying5)
theorem eq85 : EqE 3 Try.prog 85 (Enc.pr (Enc.int .i64) eBlk) := EqE.struct Try.runUnderlying85 Try.stoodInHeld85 rfl (EqFs.cons (by decide) rfl (EqE.up 2 (EqE.int Try.underlying3) rfl) Try.isAgg3 Try.sizeOf3 (EqFs.last (by decide) rfl eq24 Try.isAgg24 Try.sizeOf24))
theorem key24 : KeyE 2 Try.prog 24 eBlk := KeyE.arr Try.runUnderlying24 Try.sizeOf5 Try.isAgg5 (KeyE.int Try.runUnderlying5)
theorem built85 : ∀ parts, Try.prog.built 85 parts = Instr.fill (([(0, 1), (1, 8)] : List (Nat × Nat)).toArray[·]?) ([.int .i64 0, .int .u8 0, .int .u8 0, .int .u8 0, .int .u8 0, .int .u8 0, .int .u8 0, .int .u8 0, .int .u8 0] : List Value).toArray parts := built_struct Try.typeInfo85 Try.runUnderlying85 rfl rfl (.cons rfl (by kernel_rfl) (by kernel_rfl) (.cons rfl (by kernel_rfl) (by kernel_rfl) .nil))
set_option maxRecDepth 100000 in
set_option maxHeartbeats 4000000 in
theorem con_ref_First {a0 : (List Blk)} {a1 : Blk} {r : Int} (h : m_ref_First a0 a1 = some r) :
    Con Try.prog 68 [.v (Enc.sl eBlk) a0, .v eBlk a1] (.v (Enc.int .i64) r) [] := by
  refine Con.of Try.func68 rfl Try.ntmps68 rfl ?_
  intro S w hF
  unfold m_ref_First at h
  refine W.seq ?_
  refine W.reg (σ' := ⟨[(0, .v (Enc.sl eBlk) a0), (3, .ptr 101 0)], [(101, .box 24 [.v eBlk a1])]⟩) (J.cons (.none rfl) (JO.box 101 rfl (.one _ _) rfl) rfl rfl (J.cons (.none rfl) (JO.assign rfl) rfl rfl (J.fin (Sw.Sub.mk id (.cons rfl (.of_eq rfl) (.cons rfl (.of_eq rfl) .nil)) (.box rfl (.cons (.of_eq rfl) .nil) .nil) rfl)))) ?_
  refine W.seq ?_
  refine W.seq ?_
  refine W.reg (σ' := ⟨[(0, .v (Enc.sl eBlk) a0), (3, .ptr 101 0), (5, .v (Enc.int .i64) (0 : Int))], [(101, .box 24 [.v eBlk a1])]⟩) (J.cons (.none rfl) (JO.assign rfl) rfl rfl (J.fin (Sw.Sub.mk id (.cons rfl (.of_eq rfl) (.cons rfl (.of_eq rfl) (.cons rfl (.of_eq rfl) .nil))) (.box rfl (.cons (.of_eq rfl) .nil) .nil) rfl))) ?_
  obtain ⟨o13, ho13, hb13, hr13⟩ := lp_elim h
  refine W.lp (σs := fun s9 : Int => ⟨[(0, .v (Enc.sl eBlk) a0), (3, .ptr 101 0), (5, .v (Enc.int .i64) s9)], [(101, .box 24 [.v eBlk a1])]⟩) (fun x14 : Unit => ⟨[], []⟩) ho13 (Sw.Sub.mk id (.cons rfl (.of_eq rfl) (.cons rfl (.of_eq rfl) (.cons rfl (.of_eq rfl) .nil))) (.box rfl (.cons (.of_eq rfl) .nil) .nil) rfl) ?_ ?_
  · intro x14 hy
    have h := hb13 _ hy
    refine W.seq ?_
    refine W.reg (σ' := ⟨[(4, .v (Enc.int .i64) (-1 : Int))], []⟩) (J.cons (.none rfl) (JO.assign rfl) rfl rfl (J.fin (Sw.Sub.mk id (.cons rfl (.of_eq rfl) .nil) .nil rfl))) ?_
    refine W.ret ?_
    obtain rfl := Option.some.inj h
    exact XQ.sub (σ' := ⟨[(4, .v (Enc.int .i64) (-1 : Int))], []⟩) (Sw.Sub.mk id (.cons rfl (.of_eq rfl) .nil) .nil rfl) (XQ.ret1 hF noR rfl (RV.tmp rfl) .nil rfl)
  intro s9 r13 h
  refine W.seq ?_
  refine W.seq ?_
  refine W.reg (σ' := ⟨[(0, .v (Enc.sl eBlk) a0), (3, .ptr 101 0), (5, .v (Enc.int .i64) s9), (9, .v Enc.bool (cm .lss s9 (a0.length : Int)))], [(101, .box 24 [.v eBlk a1])]⟩) (J.cons (.none rfl) (JO.move rfl) rfl rfl (J.cons (.none rfl) (JO.move rfl) rfl rfl (J.cons (.none rfl) (JO.len rfl Try.runUnderlying22) rfl rfl (J.cons (.none rfl) (JO.cmp rfl rfl rfl) rfl rfl (J.fin (Sw.Sub.mk id (.cons rfl (.of_eq rfl) (.cons rfl (.of_eq rfl) (.cons rfl (.of_eq rfl) (.cons rfl (.of_eq rfl) .nil)))) (.box rfl (.cons (.of_eq rfl) .nil) .nil) rfl)))))) ?_
  rcases Bool.eq_false_or_eq_true (cm .lss s9 (a0.length : Int)) with hc15 | hc15
  · replace h := cond_t hc15 h
    refine W.condT rfl hc15 ?_
    refine W.skip ?_
    refine W.seq ?_
    refine W.block ?_
    refine W.seq ?_
    obtain ⟨z16, hz16, h⟩ := bind_e h
    refine W.dr (σ' := ⟨[(0, .v (Enc.sl eBlk) a0), (3, .ptr 101 0), (5, .v (Enc.int .i64) s9), (17, .v Enc.bool (decide (z16 = a1)))], [(101, .box 24 [.v eBlk a1])]⟩) 6 mixed (by exact (.cons (.none rfl) (JO.move rfl) rfl rfl (.cons (.none rfl) (JO.move rfl) rfl rfl (.cons (.none rfl) (JO.idx hz16 rfl rfl Try.runUnderlying22 Try.sizeOf24) rfl rfl (.cons (.none rfl) (JO.loadPst rfl Try.isAgg24 Try.sizeOf24) rfl rfl (.cons (.none rfl) (JO.load rfl rfl rfl Try.isAgg24 Try.sizeOf24) rfl rfl (.cons (.none rfl) (JO.eqV eq24 rfl rfl Try.eqGuardType24 rfl rfl) rfl rfl .nil))))))) (by exact (J.fin (Sw.Sub.mk id (.cons rfl (.of_eq rfl) (.cons rfl (.of_eq rfl) (.cons rfl (.of_eq rfl) (.cons rfl (.of_eq rfl) .nil)))) (.box rfl (.cons (.of_eq rfl) .nil) .nil) rfl))) (by decide +kernel) (by decide +kernel) (by decide +kernel) ?_
    rcases Bool.eq_false_or_eq_true (decide (z16 = a1)) with hc17 | hc17
    · replace h := cond_t hc17 h
      refine W.condT rfl hc17 ?_
      refine W.seq ?_
      refine W.reg (σ' := ⟨[(4, .v (Enc.int .i64) s9)], []⟩) (J.cons (.none rfl) (JO.move rfl) rfl rfl (J.cons (.none rfl) (JO.assign rfl) rfl rfl (J.fin (Sw.Sub.mk id (.cons rfl (.of_eq rfl) .nil) .nil rfl)))) ?_
      refine W.ret ?_
      refine XQ.ret ?_
      obtain rfl := Option.some.inj h
      refine XQ.lret fun ho => ?_
      obtain rfl := hr13 _ ho
      exact XQ.sub (σ' := ⟨[(4, .v (Enc.int .i64) s9)], []⟩) (Sw.Sub.mk id (.cons rfl (.of_eq rfl) .nil) .nil rfl) (XQ.ret1 hF noR rfl (RV.tmp rfl) .nil rfl)
    · replace h := cond_f hc17 h
      refine W.condF rfl hc17 ?_
      refine W.skip ?_
      refine W.fall ?_
      refine W.reg (σ' := ⟨[(0, .v (Enc.sl eBlk) a0), (3, .ptr 101 0), (5, .v (Enc.int .i64) (ar .add .i64 s9 (1 : Int)))], [(101, .box 24 [.v eBlk a1])]⟩) (J.cons (.none rfl) (JO.move rfl) rfl rfl (J.cons (.none rfl) (JO.arith rfl rfl rfl) rfl rfl (J.cons (.none rfl) (JO.assign rfl) rfl rfl (J.fin (Sw.Sub.mk id (.cons rfl (.of_eq rfl) (.cons rfl (.of_eq rfl) (.cons rfl (.of_eq rfl) .nil))) (.box rfl (.cons (.of_eq rfl) .nil) .nil) rfl))))) ?_
      obtain rfl := Option.some.inj h
      exact W.next (Sw.Sub.mk id (.cons rfl (.of_eq rfl) (.cons rfl (.of_eq rfl) (.cons rfl (.of_eq rfl) .nil))) (.box rfl (.cons (.of_eq rfl) .nil) .nil) rfl)
  · replace h := cond_f hc15 h
    refine W.condF rfl hc15 ?_
    refine W.exit ?_
    obtain rfl := Option.some.inj h
    exact XQ.brk (Sw.Sub.mk id .nil .nil rfl)
set_option maxRecDepth 100000 in
set_option maxHeartbeats 4000000 in
theorem con_ref_HadMay {a0 : (List Blk)} {r : Int} (h : m_ref_HadMay a0 = some r) :
    Con Try.prog 15 [.v (Enc.sl eBlk) a0] (.v (Enc.int .i64) r) [] := by
  refine Con.of Try.func15 rfl Try.ntmps15 rfl ?_
  intro S w hF
  unfold m_ref_HadMay at h
  refine W.seq ?_
  refine W.reg (σ' := ⟨[(0, .v (Enc.sl eBlk) a0)], []⟩) (J.cons (.none rfl) (JO.assign rfl) rfl rfl (J.fin (Sw.Sub.mk id (.cons rfl (.of_eq rfl) .nil) .nil rfl))) ?_
  refine W.seq ?_
  refine W.seq ?_
  refine W.reg (σ' := ⟨[(0, .v (Enc.sl eBlk) a0), (6, .v Enc.bool (cm .gtr (a0.length : Int) (8 : Int)))], []⟩) (J.cons (.none rfl) (JO.move rfl) rfl rfl (J.cons (.none rfl) (JO.len rfl Try.runUnderlying22) rfl rfl (J.cons (.none rfl) (JO.cmp rfl rfl rfl) rfl rfl (J.fin (Sw.Sub.mk id (.cons rfl (.of_eq rfl) (.cons rfl (.of_eq rfl) .nil)) .nil rfl))))) ?_
  rcases Bool.eq_false_or_eq_true (cm .gtr (a0.length : Int) (8 : Int)) with hc1 | hc1
  · replace h := cond_t hc1 h
    refine W.condT rfl hc1 ?_
    refine W.seq ?_
    refine W.reg (σ' := ⟨[(2, .v (Enc.int .i64) (2 : Int))], []⟩) (J.cons (.none rfl) (JO.assign rfl) rfl rfl (J.fin (Sw.Sub.mk id (.cons rfl (.of_eq rfl) .nil) .nil rfl))) ?_
    refine W.ret ?_
    obtain rfl := Option.some.inj h
    exact XQ.sub (σ' := ⟨[(2, .v (Enc.int .i64) (2 : Int))], []⟩) (Sw.Sub.mk id (.cons rfl (.of_eq rfl) .nil) .nil rfl) (XQ.ret1 hF noR rfl (RV.tmp rfl) .nil rfl)
  · replace h := cond_f hc1 h
    refine W.condF rfl hc1 ?_
    refine W.skip ?_
    refine W.seq ?_
    refine W.seq ?_
    refine W.reg (σ' := ⟨[(0, .v (Enc.sl eBlk) a0), (3, .v (Enc.int .i64) (0 : Int))], []⟩) (J.cons (.none rfl) (JO.assign rfl) rfl rfl (J.fin (Sw.Sub.mk id (.cons rfl (.of_eq rfl) (.cons rfl (.of_eq rfl) .nil)) .nil rfl))) ?_
    obtain ⟨o17, ho17, hb17, hr17⟩ := lp_elim h
    refine W.lp (σs := fun s12 : Int => ⟨[(0, .v (Enc.sl eBlk) a0), (3, .v (Enc.int .i64) s12)], []⟩) (fun x18 : Unit => ⟨[], []⟩) ho17 (Sw.Sub.mk id (.cons rfl (.of_eq rfl) (.cons rfl (.of_eq rfl) .nil)) .nil rfl) ?_ ?_
    · intro x18 hy
      have h := hb17 _ hy
      refine W.seq ?_
      refine W.reg (σ' := ⟨[(2, .v (Enc.int .i64) (0 : Int))], []⟩) (J.cons (.none rfl) (JO.assign rfl) rfl rfl (J.fin (Sw.Sub.mk id (.cons rfl (.of_eq rfl) .nil) .nil rfl))) ?_
      refine W.ret ?_
      obtain rfl := Option.some.inj h
      exact XQ.sub (σ' := ⟨[(2, .v (Enc.int .i64) (0 : Int))], []⟩) (Sw.Sub.mk id (.cons rfl (.of_eq rfl) .nil) .nil rfl) (XQ.ret1 hF noR rfl (RV.tmp rfl) .nil rfl)
    intro s12 r17 h
    refine W.seq ?_
    refine W.seq ?_
    refine W.reg (σ' := ⟨[(0, .v (Enc.sl eBlk) a0), (3, .v (Enc.int .i64) s12), (10, .v Enc.bool (cm .lss s12 (a0.length : Int)))], []⟩) (J.cons (.none rfl) (JO.move rfl) rfl rfl (J.cons (.none rfl) (JO.move rfl) rfl rfl (J.cons (.none rfl) (JO.len rfl Try.runUnderlying22) rfl rfl (J.cons (.none rfl) (JO.cmp rfl rfl rfl) rfl rfl (J.fin (Sw.Sub.mk id (.cons rfl (.of_eq rfl) (.cons rfl (.of_eq rfl) (.cons rfl (.of_eq rfl) .nil))) .nil rfl)))))) ?_
    rcases Bool.eq_false_or_eq_true (cm .lss s12 (a0.length : Int)) with hc19 | hc19
    · replace h := cond_t hc19 h
      refine W.condT rfl hc19 ?_
      refine W.skip ?_
      refine W.seq ?_
      refine W.block ?_
      refine W.seq ?_
      obtain ⟨z20, hz20, h⟩ := bind_e h
      obtain ⟨v21, hv21, h⟩ := bind_e h
      refine W.reg (σ' := ⟨[(0, .v (Enc.sl eBlk) a0), (3, .v (Enc.int .i64) s12), (20, .v Enc.bool (cm .lss v21 s12))], []⟩) (J.cons (.none rfl) (JO.move rfl) rfl rfl (J.cons (.none rfl) (JO.move rfl) rfl rfl (J.cons (.none rfl) (JO.move rfl) rfl rfl (J.cons (.none rfl) (JO.idx hz20 rfl rfl Try.runUnderlying22 Try.sizeOf24) rfl rfl (J.cons (.none rfl) (JO.loadPst rfl Try.isAgg24 Try.sizeOf24) rfl rfl (J.cons (.none rfl) (JO.call0 (con_ref_First hv21) Try.call68 (.cons (.dir rfl) (.cons (.dir rfl) .nil))) rfl rfl (J.cons (.none rfl) (JO.move rfl) rfl rfl (J.cons (.none rfl) (JO.cmp rfl rfl rfl) rfl rfl (J.fin (Sw.Sub.mk id (.cons rfl (.of_eq rfl) (.cons rfl (.of_eq rfl) (.cons rfl (.of_eq rfl) .nil))) .nil rfl)))))))))) ?_
      rcases Bool.eq_false_or_eq_true (cm .lss v21 s12) with hc22 | hc22
      · replace h := cond_t hc22 h
        refine W.condT rfl hc22 ?_
        refine W.seq ?_
        refine W.reg (σ' := ⟨[(2, .v (Enc.int .i64) (3 : Int))], []⟩) (J.cons (.none rfl) (JO.assign rfl) rfl rfl (J.fin (Sw.Sub.mk id (.cons rfl (.of_eq rfl) .nil) .nil rfl))) ?_
        refine W.ret ?_
        refine XQ.ret ?_
        obtain rfl := Option.some.inj h
        refine XQ.lret fun ho => ?_
        obtain rfl := hr17 _ ho
        exact XQ.sub (σ' := ⟨[(2, .v (Enc.int .i64) (3 : Int))], []⟩) (Sw.Sub.mk id (.cons rfl (.of_eq rfl) .nil) .nil rfl) (XQ.ret1 hF noR rfl (RV.tmp rfl) .nil rfl)
      · replace h := cond_f hc22 h
        refine W.condF rfl hc22 ?_
        refine W.skip ?_
        refine W.fall ?_
        refine W.reg (σ' := ⟨[(0, .v (Enc.sl eBlk) a0), (3, .v (Enc.int .i64) (ar .add .i64 s12 (1 : Int)))], []⟩) (J.cons (.none rfl) (JO.move rfl) rfl rfl (J.cons (.none rfl) (JO.arith rfl rfl rfl) rfl rfl (J.cons (.none rfl) (JO.assign rfl) rfl rfl (J.fin (Sw.Sub.mk id (.cons rfl (.of_eq rfl) (.cons rfl (.of_eq rfl) .nil)) .nil rfl))))) ?_
        obtain rfl := Option.some.inj h
        exact W.next (Sw.Sub.mk id (.cons rfl (.of_eq rfl) (.cons rfl (.of_eq rfl) .nil)) .nil rfl)
    · replace h := cond_f hc19 h
      refine W.condF rfl hc19 ?_
      refine W.exit ?_
      obtain rfl := Option.some.inj h
      exact XQ.brk (Sw.Sub.mk id .nil .nil rfl)
set_option maxRecDepth 100000 in
set_option maxHeartbeats 4000000 in
theorem con_ref_PlanMay {a0 : (List Blk)} {a1 : (List Blk)} {r : Int} (h : m_ref_PlanMay a0 a1 = some r) :
    Con Try.prog 43 [.v (Enc.sl eBlk) a0, .v (Enc.sl eBlk) a1] (.v (Enc.int .i64) r) [] := by
  refine Con.of Try.func43 rfl Try.ntmps43 rfl ?_
  intro S w hF
  unfold m_ref_PlanMay at h
  refine W.seq ?_
  refine W.reg (σ' := ⟨[(0, .v (Enc.sl eBlk) a0), (1, .v (Enc.sl eBlk) a1)], []⟩) (J.cons (.none rfl) (JO.assign rfl) rfl rfl (J.fin (Sw.Sub.mk id (.cons rfl (.of_eq rfl) (.cons rfl (.of_eq rfl) .nil)) .nil rfl))) ?_
  refine W.seq ?_
  refine W.seq ?_
  obtain ⟨x2, hx, h⟩ := bind_e h
  refine W.reg (σ' := ⟨[(1, .v (Enc.sl eBlk) a1), (12, .v Enc.bool x2)], []⟩) ?_ ?_
  · rcases Bool.eq_false_or_eq_true (cm .lss (a0.length : Int) (1 : Int)) with hc3 | hc3
    · replace hx := cond_t hc3 hx
      obtain rfl := Option.some.inj hx
      exact (J.cons (.none rfl) (JO.move rfl) rfl rfl (J.cons (.none rfl) (JO.len rfl Try.runUnderlying22) rfl rfl (J.cons (.none rfl) (JO.cmp rfl rfl rfl) rfl rfl (J.cons (.none rfl) (JO.move rfl) rfl rfl (J.left (GK.unmet 8 rfl rfl rfl hc3) rfl (J.left (GK.unmet 8 rfl rfl rfl hc3) rfl (J.left (GK.unmet 8 rfl rfl rfl hc3) rfl (J.cons (.none rfl) (JO.pT hc3 rfl rfl) rfl rfl (J.fin (Sw.Sub.mk id (.cons rfl (.of_eq rfl) (.cons rfl (.of_eq rfl) .nil)) .nil rfl))))))))))
    · replace hx := cond_f hc3 hx
      obtain rfl := Option.some.inj hx
      exact (J.cons (.none rfl) (JO.move rfl) rfl rfl (J.cons (.none rfl) (JO.len rfl Try.runUnderlying22) rfl rfl (J.cons (.none rfl) (JO.cmp rfl rfl rfl) rfl rfl (J.cons (.none rfl) (JO.move rfl) rfl rfl (J.cons (GK.met 8 rfl rfl rfl hc3) (JO.move rfl) rfl rfl (J.cons (GK.met 8 rfl rfl rfl hc3) (JO.len rfl Try.runUnderlying22) rfl rfl (J.cons (GK.met 8 rfl rfl rfl hc3) (JO.cmp rfl rfl rfl) rfl rfl (J.cons (.none rfl) (JO.pF hc3 rfl rfl) rfl rfl (J.fin (Sw.Sub.mk id (.cons rfl (.of_eq rfl) (.cons rfl (.of_eq rfl) .nil)) .nil rfl))))))))))
  rcases Bool.eq_false_or_eq_true x2 with hc4 | hc4
  · replace h := cond_t hc4 h
    refine W.condT rfl hc4 ?_
    refine W.seq ?_
    refine W.reg (σ' := ⟨[(4, .v (Enc.int .i64) (1 : Int))], []⟩) (J.cons (.none rfl) (JO.assign rfl) rfl rfl (J.fin (Sw.Sub.mk id (.cons rfl (.of_eq rfl) .nil) .nil rfl))) ?_
    refine W.ret ?_
    obtain rfl := Option.some.inj h
    exact XQ.sub (σ' := ⟨[(4, .v (Enc.int .i64) (1 : Int))], []⟩) (Sw.Sub.mk id (.cons rfl (.of_eq rfl) .nil) .nil rfl) (XQ.ret1 hF noR rfl (RV.tmp rfl) .nil rfl)
  · replace h := cond_f hc4 h
    refine W.condF rfl hc4 ?_
    refine W.skip ?_
    refine W.seq ?_
    obtain ⟨v5, hv5, h⟩ := bind_e h
    refine W.reg (σ' := ⟨[(4, .v (Enc.int .i64) v5)], []⟩) (J.cons (.none rfl) (JO.move rfl) rfl rfl (J.cons (.none rfl) (JO.call0 (con_ref_HadMay hv5) Try.call15 (.cons (.dir rfl) .nil)) rfl rfl (J.cons (.none rfl) (JO.assign rfl) rfl rfl (J.fin (Sw.Sub.mk id (.cons rfl (.of_eq rfl) .nil) .nil rfl))))) ?_
    refine W.ret ?_
    obtain rfl := Option.some.inj h
    exact XQ.sub (σ' := ⟨[(4, .v (Enc.int .i64) v5)], []⟩) (Sw.Sub.mk id (.cons rfl (.of_eq rfl) .nil) .nil rfl) (XQ.ret1 hF noR rfl (RV.tmp rfl) .nil rfl)
set_option maxRecDepth 100000 in
set_option maxHeartbeats 4000000 in
theorem con_ref_Said {a0 : (Int × Int × Int × Blk)} {a1 : (List Blk)} {a2 : (List Blk)} {r : Blk × Bool} (h : m_ref_Said a0 a1 a2 = some r) :
    Con Try.prog 44 [.v (Enc.pr (Enc.int .i64) (Enc.pr (Enc.int .i64) (Enc.pr (Enc.int .i64) eBlk))) a0, .v (Enc.sl eBlk) a1, .v (Enc.sl eBlk) a2] (.tup [.v eBlk r.1, .v Enc.bool r.2]) [] := by
  refine Con.of Try.func44 rfl Try.ntmps44 rfl ?_
  intro S w hF
  unfold m_ref_Said at h
  refine W.seq ?_
  refine W.reg (σ' := ⟨[(1, .v (Enc.sl eBlk) a1), (2, .v (Enc.sl eBlk) a2), (3, .ptr 101 0), (6, .ptr 102 0)], [(101, .box 81 [.v (Enc.int .i64) a0.1, .v (Enc.int .i64) a0.2.1, .v (Enc.int .i64) a0.2.2.1, .v eBlk a0.2.2.2]), (102, .box 24 [.v eBlk zblk])]⟩) (J.cons (.none rfl) (JO.box 101 rfl (.prm (.one _ _) (.prm (.one _ _) (.prm (.one _ _) (.one _ _)))) rfl) rfl rfl (J.cons (.none rfl) (JO.alloc 102 Try.zeroValue24 rfl (.cons (Z.arr 8 (Z.int .u8)) .nil) rfl) rfl rfl (J.cons (.none rfl) (JO.assign rfl) rfl rfl (J.fin (Sw.Sub.mk id (.cons rfl (.of_eq rfl) (.cons rfl (.of_eq rfl) (.cons rfl (.of_eq rfl) (.cons rfl (.of_eq rfl) .nil)))) (.box rfl (.cons (.of_eq rfl) (.cons (.of_eq rfl) (.cons (.of_eq rfl) (.cons (.of_eq rfl) .nil)))) (.box rfl (.cons (.of_eq rfl) .nil) .nil)) rfl))))) ?_
  refine W.seq ?_
  refine W.reg (σ' := ⟨[(2, .v (Enc.sl eBlk) a2), (3, .ptr 101 0), (6, .ptr 102 0), (8, .v (Enc.sl eBlk) a1)], [(101, .box 81 [.v (Enc.int .i64) a0.1, .v (Enc.int .i64) a0.2.1, .v (Enc.int .i64) a0.2.2.1, .v eBlk a0.2.2.2]), (102, .box 24 [.v eBlk zblk])]⟩) (J.cons (.none rfl) (JO.move rfl) rfl rfl (J.cons (.none rfl) (JO.assign rfl) rfl rfl (J.fin (Sw.Sub.mk id (.cons rfl (.of_eq rfl) (.cons rfl (.of_eq rfl) (.cons rfl (.of_eq rfl) (.cons rfl (.of_eq rfl) .nil)))) (.box rfl (.cons (.of_eq rfl) (.cons (.of_eq rfl) (.cons (.of_eq rfl) (.cons (.of_eq rfl) .nil)))) (.box rfl (.cons (.of_eq rfl) .nil) .nil)) rfl)))) ?_
  refine W.seq ?_
  refine W.seq ?_
  refine W.reg (σ' := ⟨[(2, .v (Enc.sl eBlk) a2), (3, .ptr 101 0), (6, .ptr 102 0), (8, .v (Enc.sl eBlk) a1), (11, .v (Enc.int .i64) a0.2.1)], [(101, .box 81 [.v (Enc.int .i64) a0.1, .v (Enc.int .i64) a0.2.1, .v (Enc.int .i64) a0.2.2.1, .v eBlk a0.2.2.2]), (102, .box 24 [.v eBlk zblk])]⟩) (J.cons (.none rfl) (JO.fieldPtr 1 rfl Try.runUnderlying81 rfl Try.sizeOf3 rfl rfl) rfl rfl (J.cons (.none rfl) (JO.load rfl rfl rfl Try.isAgg3 Try.sizeOf3) rfl rfl (J.fin (Sw.Sub.mk id (.cons rfl (.of_eq rfl) (.cons rfl (.of_eq rfl) (.cons rfl (.of_eq rfl) (.cons rfl (.of_eq rfl) (.cons rfl (.of_eq rfl) .nil))))) (.box rfl (.cons (.of_eq rfl) (.cons (.of_eq rfl) (.cons (.of_eq rfl) (.cons (.of_eq rfl) .nil)))) (.box rfl (.cons (.of_eq rfl) .nil) .nil)) rfl)))) ?_
  refine W.block ?_
  refine W.seq ?_
  refine W.reg (σ' := ⟨[(2, .v (Enc.sl eBlk) a2), (3, .ptr 101 0), (6, .ptr 102 0), (8, .v (Enc.sl eBlk) a1), (11, .v (Enc.int .i64) a0.2.1), (12, .v Enc.bool (cm .eql a0.2.1 (0 : Int)))], [(101, .box 81 [.v (Enc.int .i64) a0.1, .v (Enc.int .i64) a0.2.1, .v (Enc.int .i64) a0.2.2.1, .v eBlk a0.2.2.2]), (102, .box 24 [.v eBlk zblk])]⟩) (J.cons (.none rfl) (JO.cmp rfl rfl rfl) rfl rfl (J.cons (.none rfl) (JO.assign rfl) rfl rfl (J.fin (Sw.Sub.mk id (.cons rfl (.of_eq rfl) (.cons rfl (.of_eq rfl) (.cons rfl (.of_eq rfl) (.cons rfl (.of_eq rfl) (.cons rfl (.of_eq rfl) (.cons rfl (.of_eq rfl) .nil)))))) (.box rfl (.cons (.of_eq rfl) (.cons (.of_eq rfl) (.cons (.of_eq rfl) (.cons (.of_eq rfl) .nil)))) (.box rfl (.cons (.of_eq rfl) .nil) .nil)) rfl)))) ?_
  rcases Bool.eq_false_or_eq_true (cm .eql a0.2.1 (0 : Int)) with hc1 | hc1
  · replace h := cond_t hc1 h
    refine W.condT rfl hc1 ?_
    refine W.seq ?_
    refine W.reg (σ' := ⟨[(6, .ptr 102 0), (7, .v Enc.bool true)], [(102, .box 24 [.v eBlk zblk])]⟩) (J.cons (.none rfl) (JO.zeroArr (e := eBlk) (v := zblk) Try.typeInfo24 Try.runUnderlying24 Try.typeInfo5 rfl rfl (Z.arr 8 (Z.int .u8))) rfl rfl (J.mut (.none rfl) (JM.store rfl rfl rfl rfl rfl rfl rfl Try.sizeOf24) (J.cons (.none rfl) (JO.assign rfl) rfl rfl (J.fin (Sw.Sub.mk id (.cons rfl (.of_eq rfl) (.cons rfl (.of_eq rfl) .nil)) (.box rfl (.cons (.of_eq rfl) .nil) .nil) rfl))))) ?_
    refine W.ret ?_
    refine XQ.ret ?_
    obtain rfl := Option.some.inj h
    exact XQ.sub (σ' := ⟨[(6, .ptr 90 0), (7, .v Enc.bool true)], [(90, .box 24 [.v eBlk zblk])]⟩) (Sw.Sub.mk (rn [(90, 102)]) (.cons rfl (.of_eq rfl) (.cons rfl (.of_eq rfl) .nil)) (.box rfl (.cons (.of_eq rfl) .nil) .nil) rfl) (XQ.ret2 hF noR rfl (RV.cellAt rfl rfl rfl Try.isAgg24 Try.sizeOf24) (RV.tmp rfl) .nil rfl)
  · replace h := cond_f hc1 h
    refine W.condF rfl hc1 ?_
    refine W.seq ?_
    refine W.reg (σ' := ⟨[(2, .v (Enc.sl eBlk) a2), (3, .ptr 101 0), (6, .ptr 102 0), (8, .v (Enc.sl eBlk) a1), (11, .v (Enc.int .i64) a0.2.1), (15, .v Enc.bool (cm .eql a0.2.1 (3 : Int)))], [(101, .box 81 [.v (Enc.int .i64) a0.1, .v (Enc.int .i64) a0.2.1, .v (Enc.int .i64) a0.2.2.1, .v eBlk a0.2.2.2]), (102, .box 24 [.v eBlk zblk])]⟩) (J.cons (.none rfl) (JO.cmp rfl rfl rfl) rfl rfl (J.cons (.none rfl) (JO.assign rfl) rfl rfl (J.fin (Sw.Sub.mk id (.cons rfl (.of_eq rfl) (.cons rfl (.of_eq rfl) (.cons rfl (.of_eq rfl) (.cons rfl (.of_eq rfl) (.cons rfl (.of_eq rfl) (.cons rfl (.of_eq rfl) .nil)))))) (.box rfl (.cons (.of_eq rfl) (.cons (.of_eq rfl) (.cons (.of_eq rfl) (.cons (.of_eq rfl) .nil)))) (.box rfl (.cons (.of_eq rfl) .nil) .nil)) rfl)))) ?_
    rcases Bool.eq_false_or_eq_true (cm .eql a0.2.1 (3 : Int)) with hc2 | hc2
    · replace h := cond_t hc2 h
      refine W.condT rfl hc2 ?_
      refine W.seq ?_
      refine W.reg (σ' := ⟨[(6, .ptr 102 0), (7, .v Enc.bool true)], [(102, .box 24 [.v eBlk a0.2.2.2])]⟩) (J.cons (.none rfl) (JO.fieldPtr 3 rfl Try.runUnderlying81 rfl Try.sizeOf24 rfl rfl) rfl rfl (J.cons (.none rfl) (JO.load rfl rfl rfl Try.isAgg24 Try.sizeOf24) rfl rfl (J.mut (.none rfl) (JM.store rfl rfl rfl rfl rfl rfl rfl Try.sizeOf24) (J.cons (.none rfl) (JO.assign rfl) rfl rfl (J.fin (Sw.Sub.mk id (.cons rfl (.of_eq rfl) (.cons rfl (.of_eq rfl) .nil)) (.box rfl (.cons (.of_eq rfl) .nil) .nil) rfl)))))) ?_
      refine W.ret ?_
      refine XQ.ret ?_
      obtain rfl := Option.some.inj h
      exact XQ.sub (σ' := ⟨[(6, .ptr 90 0), (7, .v Enc.bool true)], [(90, .box 24 [.v eBlk a0.2.2.2])]⟩) (Sw.Sub.mk (rn [(90, 102)]) (.cons rfl (.of_eq rfl) (.cons rfl (.of_eq rfl) .nil)) (.box rfl (.cons (.of_eq rfl) .nil) .nil) rfl) (XQ.ret2 hF noR rfl (RV.cellAt rfl rfl rfl Try.isAgg24 Try.sizeOf24) (RV.tmp rfl) .nil rfl)
    · replace h := cond_f hc2 h
      refine W.condF rfl hc2 ?_
      refine W.seq ?_
      refine W.reg (σ' := ⟨[(2, .v (Enc.sl eBlk) a2), (3, .ptr 101 0), (6, .ptr 102 0), (8, .v (Enc.sl eBlk) a1), (19, .v Enc.bool (cm .eql a0.2.1 (2 : Int)))], [(101, .box 81 [.v (Enc.int .i64) a0.1, .v (Enc.int .i64) a0.2.1, .v (Enc.int .i64) a0.2.2.1, .v eBlk a0.2.2.2]), (102, .box 24 [.v eBlk zblk])]⟩) (J.cons (.none rfl) (JO.cmp rfl rfl rfl) rfl rfl (J.cons (.none rfl) (JO.assign rfl) rfl rfl (J.fin (Sw.Sub.mk id (.cons rfl (.of_eq rfl) (.cons rfl (.of_eq rfl) (.cons rfl (.of_eq rfl) (.cons rfl (.of_eq rfl) (.cons rfl (.of_eq rfl) .nil))))) (.box rfl (.cons (.of_eq rfl) (.cons (.of_eq rfl) (.cons (.of_eq rfl) (.cons (.of_eq rfl) .nil)))) (.box rfl (.cons (.of_eq rfl) .nil) .nil)) rfl)))) ?_
      rcases Bool.eq_false_or_eq_true (cm .eql a0.2.1 (2 : Int)) with hc3 | hc3
      · replace h := cond_t hc3 h
        refine W.condT rfl hc3 ?_
        refine W.reg (σ' := ⟨[(3, .ptr 101 0), (6, .ptr 102 0), (8, .v (Enc.sl eBlk) a2)], [(101, .box 81 [.v (Enc.int .i64) a0.1, .v (Enc.int .i64) a0.2.1, .v (Enc.int .i64) a0.2.2.1, .v eBlk a0.2.2.2]), (102, .box 24 [.v eBlk zblk])]⟩) (J.cons (.none rfl) (JO.move rfl) rfl rfl (J.cons (.none rfl) (JO.assign rfl) rfl rfl (J.fin (Sw.Sub.mk id (.cons rfl (.of_eq rfl) (.cons rfl (.of_eq rfl) (.cons rfl (.of_eq rfl) .nil))) (.box rfl (.cons (.of_eq rfl) (.cons (.of_eq rfl) (.cons (.of_eq rfl) (.cons (.of_eq rfl) .nil)))) (.box rfl (.cons (.of_eq rfl) .nil) .nil)) rfl)))) ?_
        refine W.fall ?_
        refine W.seq ?_
        refine W.seq ?_
        obtain ⟨x5, hx, h⟩ := bind_e h
        refine W.reg (σ' := ⟨[(3, .ptr 101 0), (6, .ptr 102 0), (8, .v (Enc.sl eBlk) a2), (31, .v Enc.bool x5)], [(101, .box 81 [.v (Enc.int .i64) a0.1, .v (Enc.int .i64) a0.2.1, .v (Enc.int .i64) a0.2.2.1, .v eBlk a0.2.2.2]), (102, .box 24 [.v eBlk zblk])]⟩) ?_ ?_
        · rcases Bool.eq_false_or_eq_true (cm .lss a0.2.2.1 (0 : Int)) with hc6 | hc6
          · replace hx := cond_t hc6 hx
            obtain rfl := Option.some.inj hx
            exact (J.cons (.none rfl) (JO.fieldPtr 2 rfl Try.runUnderlying81 rfl Try.sizeOf3 rfl rfl) rfl rfl (J.cons (.none rfl) (JO.load rfl rfl rfl Try.isAgg3 Try.sizeOf3) rfl rfl (J.cons (.none rfl) (JO.cmp rfl rfl rfl) rfl rfl (J.cons (.none rfl) (JO.move rfl) rfl rfl (J.left (GK.unmet 25 rfl rfl rfl hc6) rfl (J.left (GK.unmet 25 rfl rfl rfl hc6) rfl (J.left (GK.unmet 25 rfl rfl rfl hc6) rfl (J.left (GK.unmet 25 rfl rfl rfl hc6) rfl (J.left (GK.unmet 25 rfl rfl rfl hc6) rfl (J.cons (.none rfl) (JO.pT hc6 rfl rfl) rfl rfl (J.fin (Sw.Sub.mk id (.cons rfl (.of_eq rfl) (.cons rfl (.of_eq rfl) (.cons rfl (.of_eq rfl) (.cons rfl (.of_eq rfl) .nil)))) (.box rfl (.cons (.of_eq rfl) (.cons (.of_eq rfl) (.cons (.of_eq rfl) (.cons (.of_eq rfl) .nil)))) (.box rfl (.cons (.of_eq rfl) .nil) .nil)) rfl))))))))))))
          · replace hx := cond_f hc6 hx
            obtain rfl := Option.some.inj hx
            exact (J.cons (.none rfl) (JO.fieldPtr 2 rfl Try.runUnderlying81 rfl Try.sizeOf3 rfl rfl) rfl rfl (J.cons (.none rfl) (JO.load rfl rfl rfl Try.isAgg3 Try.sizeOf3) rfl rfl (J.cons (.none rfl) (JO.cmp rfl rfl rfl) rfl rfl (J.cons (.none rfl) (JO.move rfl) rfl rfl (J.cons (GK.met 25 rfl rfl rfl hc6) (JO.fieldPtr 2 rfl Try.runUnderlying81 rfl Try.sizeOf3 rfl rfl) rfl rfl (J.cons (GK.met 25 rfl rfl rfl hc6) (JO.load rfl rfl rfl Try.isAgg3 Try.sizeOf3) rfl rfl (J.cons (GK.met 25 rfl rfl rfl hc6) (JO.move rfl) rfl rfl (J.cons (GK.met 25 rfl rfl rfl hc6) (JO.len rfl Try.runUnderlying22) rfl rfl (J.cons (GK.met 25 rfl rfl rfl hc6) (JO.cmp rfl rfl rfl) rfl rfl (J.cons (.none rfl) (JO.pF hc6 rfl rfl) rfl rfl (J.fin (Sw.Sub.mk id (.cons rfl (.of_eq rfl) (.cons rfl (.of_eq rfl) (.cons rfl (.of_eq rfl) (.cons rfl (.of_eq rfl) .nil)))) (.box rfl (.cons (.of_eq rfl) (.cons (.of_eq rfl) (.cons (.of_eq rfl) (.cons (.of_eq rfl) .nil)))) (.box rfl (.cons (.of_eq rfl) .nil) .nil)) rfl))))))))))))
        rcases Bool.eq_false_or_eq_true x5 with hc7 | hc7
        · replace h := cond_t hc7 h
          refine W.condT rfl hc7 ?_
          refine W.seq ?_
          refine W.reg (σ' := ⟨[(6, .ptr 102 0), (7, .v Enc.bool false)], [(102, .box 24 [.v eBlk zblk])]⟩) (J.cons (.none rfl) (JO.zeroArr (e := eBlk) (v := zblk) Try.typeInfo24 Try.runUnderlying24 Try.typeInfo5 rfl rfl (Z.arr 8 (Z.int .u8))) rfl rfl (J.mut (.none rfl) (JM.store rfl rfl rfl rfl rfl rfl rfl Try.sizeOf24) (J.cons (.none rfl) (JO.assign rfl) rfl rfl (J.fin (Sw.Sub.mk id (.cons rfl (.of_eq rfl) (.cons rfl (.of_eq rfl) .nil)) (.box rfl (.cons (.of_eq rfl) .nil) .nil) rfl))))) ?_
          refine W.ret ?_
          obtain rfl := Option.some.inj h
          exact XQ.sub (σ' := ⟨[(6, .ptr 90 0), (7, .v Enc.bool false)], [(90, .box 24 [.v eBlk zblk])]⟩) (Sw.Sub.mk (rn [(90, 102)]) (.cons rfl (.of_eq rfl) (.cons rfl (.of_eq rfl) .nil)) (.box rfl (.cons (.of_eq rfl) .nil) .nil) rfl) (XQ.ret2 hF noR rfl (RV.cellAt rfl rfl rfl Try.isAgg24 Try.sizeOf24) (RV.tmp rfl) .nil rfl)
        · replace h := cond_f hc7 h
          refine W.condF rfl hc7 ?_
          refine W.skip ?_
          refine W.seq ?_
          obtain ⟨z8, hz8, h⟩ := bind_e h
          refine W.reg (σ' := ⟨[(6, .ptr 102 0), (7, .v Enc.bool true)], [(102, .box 24 [.v eBlk z8])]⟩) (J.cons (.none rfl) (JO.move rfl) rfl rfl (J.cons (.none rfl) (JO.fieldPtr 2 rfl Try.runUnderlying81 rfl Try.sizeOf3 rfl rfl) rfl rfl (J.cons (.none rfl) (JO.load rfl rfl rfl Try.isAgg3 Try.sizeOf3) rfl rfl (J.cons (.none rfl) (JO.idx hz8 rfl rfl Try.runUnderlying22 Try.sizeOf24) rfl rfl (J.cons (.none rfl) (JO.loadPst rfl Try.isAgg24 Try.sizeOf24) rfl rfl (J.mut (.none rfl) (JM.store rfl rfl rfl rfl rfl rfl rfl Try.sizeOf24) (J.cons (.none rfl) (JO.assign rfl) rfl rfl (J.fin (Sw.Sub.mk id (.cons rfl (.of_eq rfl) (.cons rfl (.of_eq rfl) .nil)) (.box rfl (.cons (.of_eq rfl) .nil) .nil) rfl))))))))) ?_
          refine W.ret ?_
          obtain rfl := Option.some.inj h
          exact XQ.sub (σ' := ⟨[(6, .ptr 90 0), (7, .v Enc.bool true)], [(90, .box 24 [.v eBlk z8])]⟩) (Sw.Sub.mk (rn [(90, 102)]) (.cons rfl (.of_eq rfl) (.cons rfl (.of_eq rfl) .nil)) (.box rfl (.cons (.of_eq rfl) .nil) .nil) rfl) (XQ.ret2 hF noR rfl (RV.cellAt rfl rfl rfl Try.isAgg24 Try.sizeOf24) (RV.tmp rfl) .nil rfl)
      · replace h := cond_f hc3 h
        refine W.condF rfl hc3 ?_
        refine W.skip ?_
        refine W.fall ?_
        refine W.seq ?_
        refine W.seq ?_
        obtain ⟨x10, hx, h⟩ := bind_e h
        refine W.reg (σ' := ⟨[(3, .ptr 101 0), (6, .ptr 102 0), (8, .v (Enc.sl eBlk) a1), (31, .v Enc.bool x10)], [(101, .box 81 [.v (Enc.int .i64) a0.1, .v (Enc.int .i64) a0.2.1, .v (Enc.int .i64) a0.2.2.1, .v eBlk a0.2.2.2]), (102, .box 24 [.v eBlk zblk])]⟩) ?_ ?_
        · rcases Bool.eq_false_or_eq_true (cm .lss a0.2.2.1 (0 : Int)) with hc11 | hc11
          · replace hx := cond_t hc11 hx
            obtain rfl := Option.some.inj hx
            exact (J.cons (.none rfl) (JO.fieldPtr 2 rfl Try.runUnderlying81 rfl Try.sizeOf3 rfl rfl) rfl rfl (J.cons (.none rfl) (JO.load rfl rfl rfl Try.isAgg3 Try.sizeOf3) rfl rfl (J.cons (.none rfl) (JO.cmp rfl rfl rfl) rfl rfl (J.cons (.none rfl) (JO.move rfl) rfl rfl (J.left (GK.unmet 25 rfl rfl rfl hc11) rfl (J.left (GK.unmet 25 rfl rfl rfl hc11) rfl (J.left (GK.unmet 25 rfl rfl rfl hc11) rfl (J.left (GK.unmet 25 rfl rfl rfl hc11) rfl (J.left (GK.unmet 25 rfl rfl rfl hc11) rfl (J.cons (.none rfl) (JO.pT hc11 rfl rfl) rfl rfl (J.fin (Sw.Sub.mk id (.cons rfl (.of_eq rfl) (.cons rfl (.of_eq rfl) (.cons rfl (.of_eq rfl) (.cons rfl (.of_eq rfl) .nil)))) (.box rfl (.cons (.of_eq rfl) (.cons (.of_eq rfl) (.cons (.of_eq rfl) (.cons (.of_eq rfl) .nil)))) (.box rfl (.cons (.of_eq rfl) .nil) .nil)) rfl))))))))))))
          · replace hx := cond_f hc11 hx
            obtain rfl := Option.some.inj hx
            exact (J.cons (.none rfl) (JO.fieldPtr 2 rfl Try.runUnderlying81 rfl Try.sizeOf3 rfl rfl) rfl rfl (J.cons (.none rfl) (JO.load rfl rfl rfl Try.isAgg3 Try.sizeOf3) rfl rfl (J.cons (.none rfl) (JO.cmp rfl rfl rfl) rfl rfl (J.cons (.none rfl) (JO.move rfl) rfl rfl (J.cons (GK.met 25 rfl rfl rfl hc11) (JO.fieldPtr 2 rfl Try.runUnderlying81 rfl Try.sizeOf3 rfl rfl) rfl rfl (J.cons (GK.met 25 rfl rfl rfl hc11) (JO.load rfl rfl rfl Try.isAgg3 Try.sizeOf3) rfl rfl (J.cons (GK.met 25 rfl rfl rfl hc11) (JO.move rfl) rfl rfl (J.cons (GK.met 25 rfl rfl rfl hc11) (JO.len rfl Try.runUnderlying22) rfl rfl (J.cons (GK.met 25 rfl rfl rfl hc11) (JO.cmp rfl rfl rfl) rfl rfl (J.cons (.none rfl) (JO.pF hc11 rfl rfl) rfl rfl (J.fin (Sw.Sub.mk id (.cons rfl (.of_eq rfl) (.cons rfl (.of_eq rfl) (.cons rfl (.of_eq rfl) (.cons rfl (.of_eq rfl) .nil)))) (.box rfl (.cons (.of_eq rfl) (.cons (.of_eq rfl) (.cons (.of_eq rfl) (.cons (.of_eq rfl) .nil)))) (.box rfl (.cons (.of_eq rfl) .nil) .nil)) rfl))))))))))))
        rcases Bool.eq_false_or_eq_true x10 with hc12 | hc12
        · replace h := cond_t hc12 h
          refine W.condT rfl hc12 ?_
          refine W.seq ?_
          refine W.reg (σ' := ⟨[(6, .ptr 102 0), (7, .v Enc.bool false)], [(102, .box 24 [.v eBlk zblk])]⟩) (J.cons (.none rfl) (JO.zeroArr (e := eBlk) (v := zblk) Try.typeInfo24 Try.runUnderlying24 Try.typeInfo5 rfl rfl (Z.arr 8 (Z.int .u8))) rfl rfl (J.mut (.none rfl) (JM.store rfl rfl rfl rfl rfl rfl rfl Try.sizeOf24) (J.cons (.none rfl) (JO.assign rfl) rfl rfl (J.fin (Sw.Sub.mk id (.cons rfl (.of_eq rfl) (.cons rfl (.of_eq rfl) .nil)) (.box rfl (.cons (.of_eq rfl) .nil) .nil) rfl))))) ?_
          refine W.ret ?_
          obtain rfl := Option.some.inj h
          exact XQ.sub (σ' := ⟨[(6, .ptr 90 0), (7, .v Enc.bool false)], [(90, .box 24 [.v eBlk zblk])]⟩) (Sw.Sub.mk (rn [(90, 102)]) (.cons rfl (.of_eq rfl) (.cons rfl (.of_eq rfl) .nil)) (.box rfl (.cons (.of_eq rfl) .nil) .nil) rfl) (XQ.ret2 hF noR rfl (RV.cellAt rfl rfl rfl Try.isAgg24 Try.sizeOf24) (RV.tmp rfl) .nil rfl)
        · replace h := cond_f hc12 h
          refine W.condF rfl hc12 ?_
          refine W.skip ?_
          refine W.seq ?_
          obtain ⟨z13, hz13, h⟩ := bind_e h
          refine W.reg (σ' := ⟨[(6, .ptr 102 0), (7, .v Enc.bool true)], [(102, .box 24 [.v eBlk z13])]⟩) (J.cons (.none rfl) (JO.move rfl) rfl rfl (J.cons (.none rfl) (JO.fieldPtr 2 rfl Try.runUnderlying81 rfl Try.sizeOf3 rfl rfl) rfl rfl (J.cons (.none rfl) (JO.load rfl rfl rfl Try.isAgg3 Try.sizeOf3) rfl rfl (J.cons (.none rfl) (JO.idx hz13 rfl rfl Try.runUnderlying22 Try.sizeOf24) rfl rfl (J.cons (.none rfl) (JO.loadPst rfl Try.isAgg24 Try.sizeOf24) rfl rfl (J.mut (.none rfl) (JM.store rfl rfl rfl rfl rfl rfl rfl Try.sizeOf24) (J.cons (.none rfl) (JO.assign rfl) rfl rfl (J.fin (Sw.Sub.mk id (.cons rfl (.of_eq rfl) (.cons rfl (.of_eq rfl) .nil)) (.box rfl (.cons (.of_eq rfl) .nil) .nil) rfl))))))))) ?_
          refine W.ret ?_
          obtain rfl := Option.some.inj h
          exact XQ.sub (σ' := ⟨[(6, .ptr 90 0), (7, .v Enc.bool true)], [(90, .box 24 [.v eBlk z13])]⟩) (Sw.Sub.mk (rn [(90, 102)]) (.cons rfl (.of_eq rfl) (.cons rfl (.of_eq rfl) .nil)) (.box rfl (.cons (.of_eq rfl) .nil) .nil) rfl) (XQ.ret2 hF noR rfl (RV.cellAt rfl rfl rfl Try.isAgg24 Try.sizeOf24) (RV.tmp rfl) .nil rfl)
set_option maxRecDepth 100000 in
set_option maxHeartbeats 4000000 in
theorem con_cache_Check {a0 : (List Blk)} {r : (Option Int)} (h : m_cache_Check a0 = some r) :
    Con Try.prog 19 [.v (Enc.sl eBlk) a0] (.v (Enc.err ET) r) [] := by
  refine Con.of Try.func19 rfl Try.ntmps19 rfl ?_
  intro S w hF
  unfold m_cache_Check at h
  refine W.seq ?_
  refine W.reg (σ' := ⟨[(0, .v (Enc.sl eBlk) a0)], []⟩) (J.cons (.none rfl) (JO.assignNilE ET) rfl rfl (J.fin (Sw.Sub.mk id (.cons rfl (.of_eq rfl) .nil) .nil rfl))) ?_
  refine W.seq ?_
  refine W.seq ?_
  refine W.reg (σ' := ⟨[(0, .v (Enc.sl eBlk) a0), (8, .v Enc.bool (cm .gtr (a0.length : Int) (8 : Int)))], []⟩) (J.cons (.none rfl) (JO.move rfl) rfl rfl (J.cons (.none rfl) (JO.len rfl Try.runUnderlying22) rfl rfl (J.cons (.none rfl) (JO.cmp rfl rfl rfl) rfl rfl (J.fin (Sw.Sub.mk id (.cons rfl (.of_eq rfl) (.cons rfl (.of_eq rfl) .nil)) .nil rfl))))) ?_
  rcases Bool.eq_false_or_eq_true (cm .gtr (a0.length : Int) (8 : Int)) with hc1 | hc1
  · replace h := cond_t hc1 h
    refine W.condT rfl hc1 ?_
    refine W.seq ?_
    refine W.reg (σ' := ⟨[(2, .v (Enc.err ET) (some (2 : Int)))], []⟩) (J.cons (.none rfl) (JO.mkErr Try.runUnderlying25 rfl) rfl rfl (J.cons (.none rfl) (JO.assign rfl) rfl rfl (J.fin (Sw.Sub.mk id (.cons rfl (.of_eq rfl) .nil) .nil rfl)))) ?_
    refine W.ret ?_
    obtain rfl := Option.some.inj h
    exact XQ.sub (σ' := ⟨[(2, .v (Enc.err ET) (some (2 : Int)))], []⟩) (Sw.Sub.mk id (.cons rfl (.of_eq rfl) .nil) .nil rfl) (XQ.ret1 hF noR rfl (RV.tmp rfl) .nil rfl)
  · replace h := cond_f hc1 h
    refine W.condF rfl hc1 ?_
    refine W.skip ?_
    refine W.seq ?_
    refine W.reg (σ' := ⟨[(0, .v (Enc.sl eBlk) a0), (3, .ref 101)], [(101, .mp eBlk Enc.bool ([] : List (Blk × Bool)))]⟩) (J.cons (.none rfl) (JO.makeMap 101 eBlk Enc.bool) rfl rfl (J.cons (.none rfl) (JO.assign rfl) rfl rfl (J.fin (Sw.Sub.mk id (.cons rfl (.of_eq rfl) (.cons rfl (.of_eq rfl) .nil)) (.mp rfl .nil) rfl)))) ?_
    refine W.seq ?_
    refine W.seq ?_
    refine W.reg (σ' := ⟨[(3, .ref 101), (11, .v (Enc.sl eBlk) a0), (12, .v (Enc.int .i64) (a0.length : Int)), (13, .v (Enc.int .i64) (0 : Int))], [(101, .mp eBlk Enc.bool ([] : List (Blk × Bool)))]⟩) (J.cons (.none rfl) (JO.move rfl) rfl rfl (J.cons (.none rfl) (JO.len rfl Try.runUnderlying22) rfl rfl (J.cons (.none rfl) (JO.move rfl) rfl rfl (J.fin (Sw.Sub.mk id (.cons rfl (.of_eq rfl) (.cons rfl (.of_eq rfl) (.cons rfl (.of_eq rfl) (.cons rfl (.of_eq rfl) .nil)))) (.mp rfl .nil) rfl))))) ?_
    obtain ⟨o17, ho17, hb17, hr17⟩ := lp_elim h
    refine W.lp (σs := fun s12 : Int × (List (Blk × Bool)) => ⟨[(3, .ref 101), (11, .v (Enc.sl eBlk) a0), (12, .v (Enc.int .i64) (a0.length : Int)), (13, .v (Enc.int .i64) s12.1)], [(101, .mp eBlk Enc.bool s12.2)]⟩) (fun x18 : Unit => ⟨[], []⟩) ho17 (Sw.Sub.mk id (.cons rfl (.of_eq rfl) (.cons rfl (.of_eq rfl) (.cons rfl (.of_eq rfl) (.cons rfl (.of_eq rfl) .nil)))) (.mp rfl .nil) rfl) ?_ ?_
    · intro x18 hy
      have h := hb17 _ hy
      refine W.seq ?_
      refine W.reg (σ' := ⟨[(2, .v (Enc.err ET) (none : Option Int))], []⟩) (J.cons (.none rfl) (JO.assignNilE ET) rfl rfl (J.fin (Sw.Sub.mk id (.cons rfl (.of_eq rfl) .nil) .nil rfl))) ?_
      refine W.ret ?_
      obtain rfl := Option.some.inj h
      exact XQ.sub (σ' := ⟨[(2, .v (Enc.err ET) (none : Option Int))], []⟩) (Sw.Sub.mk id (.cons rfl (.of_eq rfl) .nil) .nil rfl) (XQ.ret1 hF noR rfl (RV.tmp rfl) .nil rfl)
    intro s12 r17 h
    refine W.seq ?_
    refine W.reg (σ' := ⟨[(3, .ref 101), (11, .v (Enc.sl eBlk) a0), (12, .v (Enc.int .i64) (a0.length : Int)), (13, .v (Enc.int .i64) s12.1), (14, .v Enc.bool (cm .lss s12.1 (a0.length : Int)))], [(101, .mp eBlk Enc.bool s12.2)]⟩) (J.cons (.none rfl) (JO.cmp rfl rfl rfl) rfl rfl (J.fin (Sw.Sub.mk id (.cons rfl (.of_eq rfl) (.cons rfl (.of_eq rfl) (.cons rfl (.of_eq rfl) (.cons rfl (.of_eq rfl) (.cons rfl (.of_eq rfl) .nil))))) (.mp rfl .nil) rfl))) ?_
    refine W.seq ?_
    rcases Bool.eq_false_or_eq_true (cm .lss s12.1 (a0.length : Int)) with hc19 | hc19
    · replace h := cond_t hc19 h
      refine W.condT rfl hc19 ?_
      refine W.skip ?_
      refine W.seq ?_
      refine W.block ?_
      refine W.seq ?_
      obtain ⟨z20, hz20, h⟩ := bind_e h
      refine W.reg (σ' := ⟨[(3, .ref 101), (5, .ptr 105 0), (11, .v (Enc.sl eBlk) a0), (12, .v (Enc.int .i64) (a0.length : Int)), (13, .v (Enc.int .i64) s12.1)], [(101, .mp eBlk Enc.bool s12.2), (105, .box 24 [.v eBlk z20])]⟩) (J.cons (.none rfl) (JO.idx hz20 rfl rfl Try.runUnderlying22 Try.sizeOf24) rfl rfl (J.cons (.none rfl) (JO.loadPst rfl Try.isAgg24 Try.sizeOf24) rfl rfl (J.cons (.none rfl) (JO.alloc 105 Try.zeroValue24 rfl (.cons (Z.arr 8 (Z.int .u8)) .nil) rfl) rfl rfl (J.mut (.none rfl) (JM.store rfl rfl rfl rfl rfl rfl rfl Try.sizeOf24) (J.fin (Sw.Sub.mk id (.cons rfl (.of_eq rfl) (.cons rfl (.of_eq rfl) (.cons rfl (.of_eq rfl) (.cons rfl (.of_eq rfl) (.cons rfl (.of_eq rfl) .nil))))) (.mp rfl (.box rfl (.cons (.of_eq rfl) .nil) .nil)) rfl)))))) ?_
      refine W.seq ?_
      refine W.seq ?_
      refine W.reg (σ' := ⟨[(3, .ref 101), (5, .ptr 105 0), (11, .v (Enc.sl eBlk) a0), (12, .v (Enc.int .i64) (a0.length : Int)), (13, .v (Enc.int .i64) s12.1), (19, .v Enc.bool ((mget s12.2 z20).getD false))], [(101, .mp eBlk Enc.bool s12.2), (105, .box 24 [.v eBlk z20])]⟩) (J.cons (.none rfl) (JO.move rfl) rfl rfl (J.cons (.none rfl) (JO.load rfl rfl rfl Try.isAgg24 Try.sizeOf24) rfl rfl (J.cons (.none rfl) (JO.lookup rfl rfl rfl Try.runUnderlying122 Try.runUnderlying24 eq24 rfl key24 rfl Try.zeroValue4 (fun _ _ => ⟨_, rfl, rfl⟩)) rfl rfl (J.fin (Sw.Sub.mk id (.cons rfl (.of_eq rfl) (.cons rfl (.of_eq rfl) (.cons rfl (.of_eq rfl) (.cons rfl (.of_eq rfl) (.cons rfl (.of_eq rfl) (.cons rfl (.of_eq rfl) .nil)))))) (.mp rfl (.box rfl (.cons (.of_eq rfl) .nil) .nil)) rfl))))) ?_
      rcases Bool.eq_false_or_eq_true ((mget s12.2 z20).getD false) with hc21 | hc21
      · replace h := cond_t hc21 h
        refine W.condT rfl hc21 ?_
        refine W.seq ?_
        refine W.reg (σ' := ⟨[(2, .v (Enc.err ET) (some (3 : Int)))], []⟩) (J.cons (.none rfl) (JO.mkErr Try.runUnderlying25 rfl) rfl rfl (J.cons (.none rfl) (JO.assign rfl) rfl rfl (J.fin (Sw.Sub.mk id (.cons rfl (.of_eq rfl) .nil) .nil rfl)))) ?_
        refine W.ret ?_
        refine XQ.ret ?_
        obtain rfl := Option.some.inj h
        refine XQ.lret fun ho => ?_
        obtain rfl := hr17 _ ho
        exact XQ.sub (σ' := ⟨[(2, .v (Enc.err ET) (some (3 : Int)))], []⟩) (Sw.Sub.mk id (.cons rfl (.of_eq rfl) .nil) .nil rfl) (XQ.ret1 hF noR rfl (RV.tmp rfl) .nil rfl)
      · replace h := cond_f hc21 h
        refine W.condF rfl hc21 ?_
        refine W.skip ?_
        obtain ⟨v22, hv22, h⟩ := bind_e h
        refine W.reg (σ' := ⟨[(3, .ref 101), (11, .v (Enc.sl eBlk) a0), (12, .v (Enc.int .i64) (a0.length : Int)), (13, .v (Enc.int .i64) s12.1)], [(101, .mp eBlk Enc.bool v22)]⟩) (J.cons (.none rfl) (JO.move rfl) rfl rfl (J.cons (.none rfl) (JO.load rfl rfl rfl Try.isAgg24 Try.sizeOf24) rfl rfl (J.mut (.none rfl) (JM.mapPut hv22 rfl rfl rfl rfl Try.runUnderlying122 Try.runUnderlying24 eq24 rfl key24 rfl) (J.fin (Sw.Sub.mk id (.cons rfl (.of_eq rfl) (.cons rfl (.of_eq rfl) (.cons rfl (.of_eq rfl) (.cons rfl (.of_eq rfl) .nil)))) (.mp rfl .nil) rfl))))) ?_
        refine W.fall ?_
        refine W.reg (σ' := ⟨[(3, .ref 101), (11, .v (Enc.sl eBlk) a0), (12, .v (Enc.int .i64) (a0.length : Int)), (13, .v (Enc.int .i64) (ar .add .i64 s12.1 (1 : Int)))], [(101, .mp eBlk Enc.bool v22)]⟩) (J.cons (.none rfl) (JO.arith rfl rfl rfl) rfl rfl (J.cons (.none rfl) (JO.move rfl) rfl rfl (J.fin (Sw.Sub.mk id (.cons rfl (.of_eq rfl) (.cons rfl (.of_eq rfl) (.cons rfl (.of_eq rfl) (.cons rfl (.of_eq rfl) .nil)))) (.mp rfl .nil) rfl)))) ?_
        obtain rfl := Option.some.inj h
        exact W.next (Sw.Sub.mk id (.cons rfl (.of_eq rfl) (.cons rfl (.of_eq rfl) (.cons rfl (.of_eq rfl) (.cons rfl (.of_eq rfl) .nil)))) (.mp rfl .nil) rfl)
    · replace h := cond_f hc19 h
      refine W.condF rfl hc19 ?_
      refine W.exit ?_
      obtain rfl := Option.some.inj h
      exact XQ.brk (Sw.Sub.mk id .nil .nil rfl)
set_option maxRecDepth 100000 in
set_option maxHeartbeats 4000000 in
theorem con_plan_checked {a0 : (List Blk)} {a1 : (List Blk)} {r : (Option Int)} (h : m_plan_checked a0 a1 = some r) :
    Con Try.prog 80 [.v (Enc.sl eBlk) a0, .v (Enc.sl eBlk) a1] (.v (Enc.err ET) r) [] := by
  refine Con.of Try.func80 rfl Try.ntmps80 rfl ?_
  intro S w hF
  unfold m_plan_checked at h
  refine W.seq ?_
  refine W.reg (σ' := ⟨[(0, .v (Enc.sl eBlk) a0), (1, .v (Enc.sl eBlk) a1)], []⟩) (J.cons (.none rfl) (JO.assignNilE ET) rfl rfl (J.fin (Sw.Sub.mk id (.cons rfl (.of_eq rfl) (.cons rfl (.of_eq rfl) .nil)) .nil rfl))) ?_
  refine W.seq ?_
  refine W.seq ?_
  obtain ⟨x2, hx, h⟩ := bind_e h
  refine W.reg (σ' := ⟨[(1, .v (Enc.sl eBlk) a1), (12, .v Enc.bool x2)], []⟩) ?_ ?_
  · rcases Bool.eq_false_or_eq_true (cm .lss (a0.length : Int) (1 : Int)) with hc3 | hc3
    · replace hx := cond_t hc3 hx
      obtain rfl := Option.some.inj hx
      exact (J.cons (.none rfl) (JO.move rfl) rfl rfl (J.cons (.none rfl) (JO.len rfl Try.runUnderlying22) rfl rfl (J.cons (.none rfl) (JO.cmp rfl rfl rfl) rfl rfl (J.cons (.none rfl) (JO.move rfl) rfl rfl (J.left (GK.unmet 8 rfl rfl rfl hc3) rfl (J.left (GK.unmet 8 rfl rfl rfl hc3) rfl (J.left (GK.unmet 8 rfl rfl rfl hc3) rfl (J.cons (.none rfl) (JO.pT hc3 rfl rfl) rfl rfl (J.fin (Sw.Sub.mk id (.cons rfl (.of_eq rfl) (.cons rfl (.of_eq rfl) .nil)) .nil rfl))))))))))
    · replace hx := cond_f hc3 hx
      obtain rfl := Option.some.inj hx
      exact (J.cons (.none rfl) (JO.move rfl) rfl rfl (J.cons (.none rfl) (JO.len rfl Try.runUnderlying22) rfl rfl (J.cons (.none rfl) (JO.cmp rfl rfl rfl) rfl rfl (J.cons (.none rfl) (JO.move rfl) rfl rfl (J.cons (GK.met 8 rfl rfl rfl hc3) (JO.move rfl) rfl rfl (J.cons (GK.met 8 rfl rfl rfl hc3) (JO.len rfl Try.runUnderlying22) rfl rfl (J.cons (GK.met 8 rfl rfl rfl hc3) (JO.cmp rfl rfl rfl) rfl rfl (J.cons (.none rfl) (JO.pF hc3 rfl rfl) rfl rfl (J.fin (Sw.Sub.mk id (.cons rfl (.of_eq rfl) (.cons rfl (.of_eq rfl) .nil)) .nil rfl))))))))))
  rcases Bool.eq_false_or_eq_true x2 with hc4 | hc4
  · replace h := cond_t hc4 h
    refine W.condT rfl hc4 ?_
    refine W.seq ?_
    refine W.reg (σ' := ⟨[(4, .v (Enc.err ET) (some (1 : Int)))], []⟩) (J.cons (.none rfl) (JO.mkErr Try.runUnderlying25 rfl) rfl rfl (J.cons (.none rfl) (JO.assign rfl) rfl rfl (J.fin (Sw.Sub.mk id (.cons rfl (.of_eq rfl) .nil) .nil rfl)))) ?_
    refine W.ret ?_
    obtain rfl := Option.some.inj h
    exact XQ.sub (σ' := ⟨[(4, .v (Enc.err ET) (some (1 : Int)))], []⟩) (Sw.Sub.mk id (.cons rfl (.of_eq rfl) .nil) .nil rfl) (XQ.ret1 hF noR rfl (RV.tmp rfl) .nil rfl)
  · replace h := cond_f hc4 h
    refine W.condF rfl hc4 ?_
    refine W.skip ?_
    refine W.seq ?_
    obtain ⟨v5, hv5, h⟩ := bind_e h
    refine W.reg (σ' := ⟨[(4, .v (Enc.err ET) v5)], []⟩) (J.cons (.none rfl) (JO.move rfl) rfl rfl (J.cons (.none rfl) (JO.call0 (con_cache_Check hv5) Try.call19 (.cons (.dir rfl) .nil)) rfl rfl (J.cons (.none rfl) (JO.assign rfl) rfl rfl (J.fin (Sw.Sub.mk id (.cons rfl (.of_eq rfl) .nil) .nil rfl))))) ?_
    refine W.ret ?_
    obtain rfl := Option.some.inj h
    exact XQ.sub (σ' := ⟨[(4, .v (Enc.err ET) v5)], []⟩) (Sw.Sub.mk id (.cons rfl (.of_eq rfl) .nil) .nil rfl) (XQ.ret1 hF noR rfl (RV.tmp rfl) .nil rfl)
set_option maxRecDepth 100000 in
set_option maxHeartbeats 4000000 in
theorem con_plan_one {a0 : (List Blk)} {a1 : Int} {r : Blk × Bool} (h : m_plan_one a0 a1 = some r) :
    Con Try.prog 81 [.v (Enc.sl eBlk) a0, .v (Enc.int .i64) a1] (.tup [.v eBlk r.1, .v Enc.bool r.2]) [] := by
  refine Con.of Try.func81 rfl Try.ntmps81 rfl ?_
  intro S w hF
  unfold m_plan_one at h
  refine W.seq ?_
  refine W.reg (σ' := ⟨[(0, .v (Enc.sl eBlk) a0), (1, .v (Enc.int .i64) a1), (4, .ptr 101 0)], [(101, .box 24 [.v eBlk zblk])]⟩) (J.cons (.none rfl) (JO.alloc 101 Try.zeroValue24 rfl (.cons (Z.arr 8 (Z.int .u8)) .nil) rfl) rfl rfl (J.cons (.none rfl) (JO.assign rfl) rfl rfl (J.fin (Sw.Sub.mk id (.cons rfl (.of_eq rfl) (.cons rfl (.of_eq rfl) (.cons rfl (.of_eq rfl) .nil))) (.box rfl (.cons (.of_eq rfl) .nil) .nil) rfl)))) ?_
  refine W.seq ?_
  refine W.seq ?_
  obtain ⟨x2, hx, h⟩ := bind_e h
  refine W.reg (σ' := ⟨[(0, .v (Enc.sl eBlk) a0), (1, .v (Enc.int .i64) a1), (4, .ptr 101 0), (13, .v Enc.bool x2)], [(101, .box 24 [.v eBlk zblk])]⟩) ?_ ?_
  · rcases Bool.eq_false_or_eq_true (cm .lss a1 (0 : Int)) with hc3 | hc3
    · replace hx := cond_t hc3 hx
      obtain rfl := Option.some.inj hx
      exact (J.cons (.none rfl) (JO.move rfl) rfl rfl (J.cons (.none rfl) (JO.cmp rfl rfl rfl) rfl rfl (J.cons (.none rfl) (JO.move rfl) rfl rfl (J.left (GK.unmet 8 rfl rfl rfl hc3) rfl (J.left (GK.unmet 8 rfl rfl rfl hc3) rfl (J.left (GK.unmet 8 rfl rfl rfl hc3) rfl (J.left (GK.unmet 8 rfl rfl rfl hc3) rfl (J.cons (.none rfl) (JO.pT hc3 rfl rfl) rfl rfl (J.fin (Sw.Sub.mk id (.cons rfl (.of_eq rfl) (.cons rfl (.of_eq rfl) (.cons rfl (.of_eq rfl) (.cons rfl (.of_eq rfl) .nil)))) (.box rfl (.cons (.of_eq rfl) .nil) .nil) rfl))))))))))
    · replace hx := cond_f hc3 hx
      obtain rfl := Option.some.inj hx
      exact (J.cons (.none rfl) (JO.move rfl) rfl rfl (J.cons (.none rfl) (JO.cmp rfl rfl rfl) rfl rfl (J.cons (.none rfl) (JO.move rfl) rfl rfl (J.cons (GK.met 8 rfl rfl rfl hc3) (JO.move rfl) rfl rfl (J.cons (GK.met 8 rfl rfl rfl hc3) (JO.move rfl) rfl rfl (J.cons (GK.met 8 rfl rfl rfl hc3) (JO.len rfl Try.runUnderlying22) rfl rfl (J.cons (GK.met 8 rfl rfl rfl hc3) (JO.cmp rfl rfl rfl) rfl rfl (J.cons (.none rfl) (JO.pF hc3 rfl rfl) rfl rfl (J.fin (Sw.Sub.mk id (.cons rfl (.of_eq rfl) (.cons rfl (.of_eq rfl) (.cons rfl (.of_eq rfl) (.cons rfl (.of_eq rfl) .nil)))) (.box rfl (.cons (.of_eq rfl) .nil) .nil) rfl))))))))))
  rcases Bool.eq_false_or_eq_true x2 with hc4 | hc4
  · replace h := cond_t hc4 h
    refine W.condT rfl hc4 ?_
    refine W.seq ?_
    refine W.reg (σ' := ⟨[(4, .ptr 101 0), (5, .v Enc.bool false)], [(101, .box 24 [.v eBlk zblk])]⟩) (J.cons (.none rfl) (JO.zeroArr (e := eBlk) (v := zblk) Try.typeInfo24 Try.runUnderlying24 Try.typeInfo5 rfl rfl (Z.arr 8 (Z.int .u8))) rfl rfl (J.mut (.none rfl) (JM.store rfl rfl rfl rfl rfl rfl rfl Try.sizeOf24) (J.cons (.none rfl) (JO.assign rfl) rfl rfl (J.fin (Sw.Sub.mk id (.cons rfl (.of_eq rfl) (.cons rfl (.of_eq rfl) .nil)) (.box rfl (.cons (.of_eq rfl) .nil) .nil) rfl))))) ?_
    refine W.ret ?_
    obtain rfl := Option.some.inj h
    exact XQ.sub (σ' := ⟨[(4, .ptr 90 0), (5, .v Enc.bool false)], [(90, .box 24 [.v eBlk zblk])]⟩) (Sw.Sub.mk (rn [(90, 101)]) (.cons rfl (.of_eq rfl) (.cons rfl (.of_eq rfl) .nil)) (.box rfl (.cons (.of_eq rfl) .nil) .nil) rfl) (XQ.ret2 hF noR rfl (RV.cellAt rfl rfl rfl Try.isAgg24 Try.sizeOf24) (RV.tmp rfl) .nil rfl)
  · replace h := cond_f hc4 h
    refine W.condF rfl hc4 ?_
    refine W.skip ?_
    refine W.seq ?_
    obtain ⟨z5, hz5, h⟩ := bind_e h
    refine W.reg (σ' := ⟨[(4, .ptr 101 0), (5, .v Enc.bool true)], [(101, .box 24 [.v eBlk z5])]⟩) (J.cons (.none rfl) (JO.move rfl) rfl rfl (J.cons (.none rfl) (JO.move rfl) rfl rfl (J.cons (.none rfl) (JO.idx hz5 rfl rfl Try.runUnderlying22 Try.sizeOf24) rfl rfl (J.cons (.none rfl) (JO.loadPst rfl Try.isAgg24 Try.sizeOf24) rfl rfl (J.mut (.none rfl) (JM.store rfl rfl rfl rfl rfl rfl rfl Try.sizeOf24) (J.cons (.none rfl) (JO.assign rfl) rfl rfl (J.fin (Sw.Sub.mk id (.cons rfl (.of_eq rfl) (.cons rfl (.of_eq rfl) .nil)) (.box rfl (.cons (.of_eq rfl) .nil) .nil) rfl)))))))) ?_
    refine W.ret ?_
    obtain rfl := Option.some.inj h
    exact XQ.sub (σ' := ⟨[(4, .ptr 90 0), (5, .v Enc.bool true)], [(90, .box 24 [.v eBlk z5])]⟩) (Sw.Sub.mk (rn [(90, 101)]) (.cons rfl (.of_eq rfl) (.cons rfl (.of_eq rfl) .nil)) (.box rfl (.cons (.of_eq rfl) .nil) .nil) rfl) (XQ.ret2 hF noR rfl (RV.cellAt rfl rfl rfl Try.isAgg24 Try.sizeOf24) (RV.tmp rfl) .nil rfl)
set_option maxRecDepth 100000 in
set_option maxHeartbeats 4000000 in
theorem con_plan_Apply {a0 : (List (Int × Int × Int × Blk))} {a1 : (List Blk)} {a2 : (List Blk)} {r : (List (Int × Blk)) × (List Int) × (Option Int)} (h : m_plan_Apply a0 a1 a2 = some r) :
    Con Try.prog 45 [.v (Enc.sl (Enc.pr (Enc.int .i64) (Enc.pr (Enc.int .i64) (Enc.pr (Enc.int .i64) eBlk)))) a0, .v (Enc.sl eBlk) a1, .v (Enc.sl eBlk) a2] (.tup [.v (Enc.sl (Enc.pr (Enc.int .i64) eBlk)) r.1, .v (Enc.sl (Enc.int .i64)) r.2.1, .v (Enc.err ET) r.2.2]) [] := by
  refine Con.of Try.func45 rfl Try.ntmps45 rfl ?_
  intro S w hF
  unfold m_plan_Apply at h
  refine W.seq ?_
  refine W.reg (σ' := ⟨[(0, .v (Enc.sl (Enc.pr (Enc.int .i64) (Enc.pr (Enc.int .i64) (Enc.pr (Enc.int .i64) eBlk)))) a0), (1, .v (Enc.sl eBlk) a1), (2, .v (Enc.sl eBlk) a2), (6, .ref 101), (7, .ref 102)], [(101, .arr 85 (Enc.pr (Enc.int .i64) eBlk) ([] : (List (Int × Blk)))), (102, .arr 3 (Enc.int .i64) ([] : (List Int)))]⟩) (J.cons (.none rfl) (JO.assignNilR 101 85 (Enc.pr (Enc.int .i64) eBlk)) rfl rfl (J.cons (.none rfl) (JO.assignNilR 102 3 (Enc.int .i64)) rfl rfl (J.cons (.none rfl) (JO.assignNilE ET) rfl rfl (J.fin (Sw.Sub.mk id (.cons rfl (.of_eq rfl) (.cons rfl (.of_eq rfl) (.cons rfl (.of_eq rfl) (.cons rfl (.of_eq rfl) (.cons rfl (.of_eq rfl) .nil))))) (.arr rfl (.arr rfl .nil)) rfl))))) ?_
  refine W.seq ?_
  refine W.seq ?_
  obtain ⟨v1, hv1, h⟩ := bind_e h
  refine W.reg (σ' := ⟨[(0, .v (Enc.sl (Enc.pr (Enc.int .i64) (Enc.pr (Enc.int .i64) (Enc.pr (Enc.int .i64) eBlk)))) a0), (1, .v (Enc.sl eBlk) a1), (2, .v (Enc.sl eBlk) a2), (6, .ref 101), (7, .ref 102), (9, .v (Enc.err ET) v1)], [(101, .arr 85 (Enc.pr (Enc.int .i64) eBlk) ([] : (List (Int × Blk)))), (102, .arr 3 (Enc.int .i64) ([] : (List Int)))]⟩) (J.cons (.none rfl) (JO.move rfl) rfl rfl (J.cons (.none rfl) (JO.move rfl) rfl rfl (J.cons (.none rfl) (JO.call0 (con_plan_checked hv1) Try.call80 (.cons (.dir rfl) (.cons (.dir rfl) .nil))) rfl rfl (J.cons (.none rfl) (JO.assign rfl) rfl rfl (J.fin (Sw.Sub.mk id (.cons rfl (.of_eq rfl) (.cons rfl (.of_eq rfl) (.cons rfl (.of_eq rfl) (.cons rfl (.of_eq rfl) (.cons rfl (.of_eq rfl) (.cons rfl (.of_eq rfl) .nil)))))) (.arr rfl (.arr rfl .nil)) rfl)))))) ?_
  refine W.seq ?_
  refine W.reg (σ' := ⟨[(0, .v (Enc.sl (Enc.pr (Enc.int .i64) (Enc.pr (Enc.int .i64) (Enc.pr (Enc.int .i64) eBlk)))) a0), (1, .v (Enc.sl eBlk) a1), (2, .v (Enc.sl eBlk) a2), (6, .ref 101), (7, .ref 102), (9, .v (Enc.err ET) v1), (21, .v Enc.bool (Option.isSome v1))], [(101, .arr 85 (Enc.pr (Enc.int .i64) eBlk) ([] : (List (Int × Blk)))), (102, .arr 3 (Enc.int .i64) ([] : (List Int)))]⟩) (J.cons (.none rfl) (JO.move rfl) rfl rfl (J.cons (.none rfl) (JO.errNe Try.runUnderlying29 rfl) rfl rfl (J.fin (Sw.Sub.mk id (.cons rfl (.of_eq rfl) (.cons rfl (.of_eq rfl) (.cons rfl (.of_eq rfl) (.cons rfl (.of_eq rfl) (.cons rfl (.of_eq rfl) (.cons rfl (.of_eq rfl) (.cons rfl (.of_eq rfl) .nil))))))) (.arr rfl (.arr rfl .nil)) rfl)))) ?_
  rcases Bool.eq_false_or_eq_true (Option.isSome v1) with hc2 | hc2
  · replace h := cond_t hc2 h
    refine W.condT rfl hc2 ?_
    refine W.seq ?_
    refine W.reg (σ' := ⟨[(6, .ref 104), (7, .ref 105), (8, .v (Enc.err ET) v1)], [(104, .arr 85 (Enc.pr (Enc.int .i64) eBlk) ([] : (List (Int × Blk)))), (105, .arr 3 (Enc.int .i64) ([] : (List Int)))]⟩) (J.cons (.none rfl) (JO.move rfl) rfl rfl (J.cons (.none rfl) (JO.assignNilR 104 85 (Enc.pr (Enc.int .i64) eBlk)) rfl rfl (J.cons (.none rfl) (JO.assignNilR 105 3 (Enc.int .i64)) rfl rfl (J.cons (.none rfl) (JO.assign rfl) rfl rfl (J.fin (Sw.Sub.mk id (.cons rfl (.of_eq rfl) (.cons rfl (.of_eq rfl) (.cons rfl (.of_eq rfl) .nil))) (.arr rfl (.arr rfl .nil)) rfl)))))) ?_
    refine W.ret ?_
    obtain rfl := Option.some.inj h
    exact XQ.sub (σ' := ⟨[(6, .v (Enc.sl (Enc.pr (Enc.int .i64) eBlk)) ([] : (List (Int × Blk)))), (7, .v (Enc.sl (Enc.int .i64)) ([] : (List Int))), (8, .v (Enc.err ET) v1)], []⟩) (Sw.Sub.mk id (.cons rfl (.frz rfl rfl) (.cons rfl (.frz rfl rfl) (.cons rfl (.of_eq rfl) .nil))) .nil rfl) (XQ.ret3 hF noR rfl (RV.tmp rfl) (RV.tmp rfl) (RV.tmp rfl) .nil rfl)
  · replace h := cond_f hc2 h
    refine W.condF rfl hc2 ?_
    refine W.skip ?_
    refine W.seq ?_
    refine W.reg (σ' := ⟨[(0, .v (Enc.sl (Enc.pr (Enc.int .i64) (Enc.pr (Enc.int .i64) (Enc.pr (Enc.int .i64) eBlk)))) a0), (1, .v (Enc.sl eBlk) a1), (2, .v (Enc.sl eBlk) a2), (6, .ref 101), (7, .ref 102), (10, .v (Enc.int .i64) (-1 : Int))], [(101, .arr 85 (Enc.pr (Enc.int .i64) eBlk) ([] : (List (Int × Blk)))), (102, .arr 3 (Enc.int .i64) ([] : (List Int)))]⟩) (J.cons (.none rfl) (JO.assign rfl) rfl rfl (J.fin (Sw.Sub.mk id (.cons rfl (.of_eq rfl) (.cons rfl (.of_eq rfl) (.cons rfl (.of_eq rfl) (.cons rfl (.of_eq rfl) (.cons rfl (.of_eq rfl) (.cons rfl (.of_eq rfl) .nil)))))) (.arr rfl (.arr rfl .nil)) rfl))) ?_
    refine W.seq ?_
    refine W.seq ?_
    refine W.reg (σ' := ⟨[(0, .v (Enc.sl (Enc.pr (Enc.int .i64) (Enc.pr (Enc.int .i64) (Enc.pr (Enc.int .i64) eBlk)))) a0), (1, .v (Enc.sl eBlk) a1), (2, .v (Enc.sl eBlk) a2), (6, .ref 101), (7, .ref 102), (10, .v (Enc.int .i64) (-1 : Int)), (23, .v (Enc.sl (Enc.pr (Enc.int .i64) (Enc.pr (Enc.int .i64) (Enc.pr (Enc.int .i64) eBlk)))) a0), (24, .v (Enc.int .i64) (a0.length : Int)), (25, .v (Enc.int .i64) (0 : Int))], [(101, .arr 85 (Enc.pr (Enc.int .i64) eBlk) ([] : (List (Int × Blk)))), (102, .arr 3 (Enc.int .i64) ([] : (List Int)))]⟩) (J.cons (.none rfl) (JO.move rfl) rfl rfl (J.cons (.none rfl) (JO.len rfl Try.runUnderlying78) rfl rfl (J.cons (.none rfl) (JO.move rfl) rfl rfl (J.fin (Sw.Sub.mk id (.cons rfl (.of_eq rfl) (.cons rfl (.of_eq rfl) (.cons rfl (.of_eq rfl) (.cons rfl (.of_eq rfl) (.cons rfl (.of_eq rfl) (.cons rfl (.of_eq rfl) (.cons rfl (.of_eq rfl) (.cons rfl (.of_eq rfl) (.cons rfl (.of_eq rfl) .nil))))))))) (.arr rfl (.arr rfl .nil)) rfl))))) ?_
    obtain ⟨o36, ho36, hb36, hr36⟩ := lp_elim h
    refine W.lp (σs := fun s25 : Int × Int => ⟨[(0, .v (Enc.sl (Enc.pr (Enc.int .i64) (Enc.pr (Enc.int .i64) (Enc.pr (Enc.int .i64) eBlk)))) a0), (1, .v (Enc.sl eBlk) a1), (2, .v (Enc.sl eBlk) a2), (6, .ref 101), (7, .ref 102), (10, .v (Enc.int .i64) s25.1), (23, .v (Enc.sl (Enc.pr (Enc.int .i64) (Enc.pr (Enc.int .i64) (Enc.pr (Enc.int .i64) eBlk)))) a0), (24, .v (Enc.int .i64) (a0.length : Int)), (25, .v (Enc.int .i64) s25.2)], [(101, .arr 85 (Enc.pr (Enc.int .i64) eBlk) ([] : (List (Int × Blk)))), (102, .arr 3 (Enc.int .i64) ([] : (List Int)))]⟩) (fun x37 : Unit => ⟨[(0, .v (Enc.sl (Enc.pr (Enc.int .i64) (Enc.pr (Enc.int .i64) (Enc.pr (Enc.int .i64) eBlk)))) a0), (1, .v (Enc.sl eBlk) a1), (2, .v (Enc.sl eBlk) a2), (6, .ref 101), (7, .ref 102)], [(101, .arr 85 (Enc.pr (Enc.int .i64) eBlk) ([] : (List (Int × Blk)))), (102, .arr 3 (Enc.int .i64) ([] : (List Int)))]⟩) ho36 (Sw.Sub.mk id (.cons rfl (.of_eq rfl) (.cons rfl (.of_eq rfl) (.cons rfl (.of_eq rfl) (.cons rfl (.of_eq rfl) (.cons rfl (.of_eq rfl) (.cons rfl (.of_eq rfl) (.cons rfl (.of_eq rfl) (.cons rfl (.of_eq rfl) (.cons rfl (.of_eq rfl) .nil))))))))) (.arr rfl (.arr rfl .nil)) rfl) ?_ ?_
    · intro x37 hy
      have h := hb36 _ hy
      refine W.seq ?_
      refine W.seq ?_
      refine W.reg (σ' := ⟨[(1, .v (Enc.sl eBlk) a1), (2, .v (Enc.sl eBlk) a2), (6, .ref 101), (7, .ref 102), (54, .v (Enc.sl (Enc.pr (Enc.int .i64) (Enc.pr (Enc.int .i64) (Enc.pr (Enc.int .i64) eBlk)))) a0), (55, .v (Enc.int .i64) (a0.length : Int)), (56, .v (Enc.int .i64) (0 : Int))], [(101, .arr 85 (Enc.pr (Enc.int .i64) eBlk) ([] : (List (Int × Blk)))), (102, .arr 3 (Enc.int .i64) ([] : (List Int)))]⟩) (J.cons (.none rfl) (JO.move rfl) rfl rfl (J.cons (.none rfl) (JO.len rfl Try.runUnderlying78) rfl rfl (J.cons (.none rfl) (JO.move rfl) rfl rfl (J.fin (Sw.Sub.mk id (.cons rfl (.of_eq rfl) (.cons rfl (.of_eq rfl) (.cons rfl (.of_eq rfl) (.cons rfl (.of_eq rfl) (.cons rfl (.of_eq rfl) (.cons rfl (.of_eq rfl) (.cons rfl (.of_eq rfl) .nil))))))) (.arr rfl (.arr rfl .nil)) rfl))))) ?_
      obtain ⟨o108, ho108, hb108, hr108⟩ := lp_elim h
      refine W.lp (σs := fun s88 : Int × (List (Int × Blk)) × (List Int) => ⟨[(1, .v (Enc.sl eBlk) a1), (2, .v (Enc.sl eBlk) a2), (6, .ref 148), (7, .ref 149), (54, .v (Enc.sl (Enc.pr (Enc.int .i64) (Enc.pr (Enc.int .i64) (Enc.pr (Enc.int .i64) eBlk)))) a0), (55, .v (Enc.int .i64) (a0.length : Int)), (56, .v (Enc.int .i64) s88.1)], [(148, .arr 85 (Enc.pr (Enc.int .i64) eBlk) s88.2.1), (149, .arr 3 (Enc.int .i64) s88.2.2)]⟩) (fun x109 : (List (Int × Blk)) × (List Int) => ⟨[(6, .ref 148), (7, .ref 149)], [(148, .arr 85 (Enc.pr (Enc.int .i64) eBlk) x109.1), (149, .arr 3 (Enc.int .i64) x109.2)]⟩) ho108 (Sw.Sub.mk (rn [(148, 101), (149, 102)]) (.cons rfl (.of_eq rfl) (.cons rfl (.of_eq rfl) (.cons rfl (.of_eq rfl) (.cons rfl (.of_eq rfl) (.cons rfl (.of_eq rfl) (.cons rfl (.of_eq rfl) (.cons rfl (.of_eq rfl) .nil))))))) (.arr rfl (.arr rfl .nil)) rfl) ?_ ?_
      · intro x109 hy
        have h := hb108 _ hy
        refine W.seq ?_
        refine W.reg (σ' := ⟨[(6, .ref 148), (7, .ref 149), (8, .v (Enc.err ET) (none : Option Int))], [(148, .arr 85 (Enc.pr (Enc.int .i64) eBlk) x109.1), (149, .arr 3 (Enc.int .i64) x109.2)]⟩) (J.cons (.none rfl) (JO.move rfl) rfl rfl (J.cons (.none rfl) (JO.move rfl) rfl rfl (J.cons (.none rfl) (JO.assign rfl) rfl rfl (J.cons (.none rfl) (JO.assign rfl) rfl rfl (J.cons (.none rfl) (JO.assignNilE ET) rfl rfl (J.fin (Sw.Sub.mk id (.cons rfl (.of_eq rfl) (.cons rfl (.of_eq rfl) (.cons rfl (.of_eq rfl) .nil))) (.arr rfl (.arr rfl .nil)) rfl))))))) ?_
        refine W.ret ?_
        obtain rfl := Option.some.inj h
        exact XQ.sub (σ' := ⟨[(6, .v (Enc.sl (Enc.pr (Enc.int .i64) eBlk)) x109.1), (7, .v (Enc.sl (Enc.int .i64)) x109.2), (8, .v (Enc.err ET) (none : Option Int))], []⟩) (Sw.Sub.mk id (.cons rfl (.frz rfl rfl) (.cons rfl (.frz rfl rfl) (.cons rfl (.of_eq rfl) .nil))) .nil rfl) (XQ.ret3 hF noR rfl (RV.tmp rfl) (RV.tmp rfl) (RV.tmp rfl) .nil rfl)
      intro s88 r108 h
      refine W.seq ?_
      refine W.reg (σ' := ⟨[(1, .v (Enc.sl eBlk) a1), (2, .v (Enc.sl eBlk) a2), (6, .ref 148), (7, .ref 149), (54, .v (Enc.sl (Enc.pr (Enc.int .i64) (Enc.pr (Enc.int .i64) (Enc.pr (Enc.int .i64) eBlk)))) a0), (55, .v (Enc.int .i64) (a0.length : Int)), (56, .v (Enc.int .i64) s88.1), (57, .v Enc.bool (cm .lss s88.1 (a0.length : Int)))], [(148, .arr 85 (Enc.pr (Enc.int .i64) eBlk) s88.2.1), (149, .arr 3 (Enc.int .i64) s88.2.2)]⟩) (J.cons (.none rfl) (JO.cmp rfl rfl rfl) rfl rfl (J.fin (Sw.Sub.mk id (.cons rfl (.of_eq rfl) (.cons rfl (.of_eq rfl) (.cons rfl (.of_eq rfl) (.cons rfl (.of_eq rfl) (.cons rfl (.of_eq rfl) (.cons rfl (.of_eq rfl) (.cons rfl (.of_eq rfl) (.cons rfl (.of_eq rfl) .nil)))))))) (.arr rfl (.arr rfl .nil)) rfl))) ?_
      refine W.seq ?_
      rcases Bool.eq_false_or_eq_true (cm .lss s88.1 (a0.length : Int)) with hc110 | hc110
      · replace h := cond_t hc110 h
        refine W.condT rfl hc110 ?_
        refine W.skip ?_
        refine W.seq ?_
        refine W.block ?_
        refine W.seq ?_
        obtain ⟨z111, hz111, h⟩ := bind_e h
        refine W.reg (σ' := ⟨[(1, .v (Enc.sl eBlk) a1), (2, .v (Enc.sl eBlk) a2), (6, .ref 148), (7, .ref 149), (14, .ptr 162 0), (54, .v (Enc.sl (Enc.pr (Enc.int .i64) (Enc.pr (Enc.int .i64) (Enc.pr (Enc.int .i64) eBlk)))) a0), (55, .v (Enc.int .i64) (a0.length : Int)), (56, .v (Enc.int .i64) s88.1)], [(148, .arr 85 (Enc.pr (Enc.int .i64) eBlk) s88.2.1), (149, .arr 3 (Enc.int .i64) s88.2.2), (162, .box 81 [.v (Enc.int .i64) z111.1, .v (Enc.int .i64) z111.2.1, .v (Enc.int .i64) z111.2.2.1, .v eBlk z111.2.2.2])]⟩) (J.cons (.none rfl) (JO.idx hz111 rfl rfl Try.runUnderlying78 Try.sizeOf81) rfl rfl (J.cons (.none rfl) (JO.loadPst rfl Try.isAgg81 Try.sizeOf81) rfl rfl (J.cons (.none rfl) (JO.alloc 162 Try.zeroValue81 rfl (.cons (Z.int .i64) (.cons (Z.int .i64) (.cons (Z.int .i64) (.cons (Z.arr 8 (Z.int .u8)) .nil)))) rfl) rfl rfl (J.mut (.none rfl) (JM.storeAll rfl rfl rfl rfl (.prm (.one _ _) (.prm (.one _ _) (.prm (.one _ _) (.one _ _)))) Try.sizeOf81) (J.fin (Sw.Sub.mk id (.cons rfl (.of_eq rfl) (.cons rfl (.of_eq rfl) (.cons rfl (.of_eq rfl) (.cons rfl (.of_eq rfl) (.cons rfl (.of_eq rfl) (.cons rfl (.of_eq rfl) (.cons rfl (.of_eq rfl) (.cons rfl (.of_eq rfl) .nil)))))))) (.arr rfl (.arr rfl (.box rfl (.cons (.of_eq rfl) (.cons (.of_eq rfl) (.cons (.of_eq rfl) (.cons (.of_eq rfl) .nil)))) .nil))) rfl)))))) ?_
        refine W.seq ?_
        refine W.reg (σ' := ⟨[(1, .v (Enc.sl eBlk) a1), (2, .v (Enc.sl eBlk) a2), (6, .ref 148), (7, .ref 149), (14, .ptr 162 0), (15, .ptr 163 0), (54, .v (Enc.sl (Enc.pr (Enc.int .i64) (Enc.pr (Enc.int .i64) (Enc.pr (Enc.int .i64) eBlk)))) a0), (55, .v (Enc.int .i64) (a0.length : Int)), (56, .v (Enc.int .i64) s88.1)], [(148, .arr 85 (Enc.pr (Enc.int .i64) eBlk) s88.2.1), (149, .arr 3 (Enc.int .i64) s88.2.2), (162, .box 81 [.v (Enc.int .i64) z111.1, .v (Enc.int .i64) z111.2.1, .v (Enc.int .i64) z111.2.2.1, .v eBlk z111.2.2.2]), (163, .box 24 [.v eBlk zblk])]⟩) (J.cons (.none rfl) (JO.alloc 163 Try.zeroValue24 rfl (.cons (Z.arr 8 (Z.int .u8)) .nil) rfl) rfl rfl (J.fin (Sw.Sub.mk id (.cons rfl (.of_eq rfl) (.cons rfl (.of_eq rfl) (.cons rfl (.of_eq rfl) (.cons rfl (.of_eq rfl) (.cons rfl (.of_eq rfl) (.cons rfl (.of_eq rfl) (.cons rfl (.of_eq rfl) (.cons rfl (.of_eq rfl) (.cons rfl (.of_eq rfl) .nil))))))))) (.arr rfl (.arr rfl (.box rfl (.cons (.of_eq rfl) (.cons (.of_eq rfl) (.cons (.of_eq rfl) (.cons (.of_eq rfl) .nil)))) (.box rfl (.cons (.of_eq rfl) .nil) .nil)))) rfl))) ?_
        refine W.seq ?_
        refine W.reg (σ' := ⟨[(1, .v (Enc.sl eBlk) a1), (2, .v (Enc.sl eBlk) a2), (6, .ref 148), (7, .ref 149), (14, .ptr 162 0), (15, .ptr 163 0), (16, .v Enc.bool true), (54, .v (Enc.sl (Enc.pr (Enc.int .i64) (Enc.pr (Enc.int .i64) (Enc.pr (Enc.int .i64) eBlk)))) a0), (55, .v (Enc.int .i64) (a0.length : Int)), (56, .v (Enc.int .i64) s88.1)], [(148, .arr 85 (Enc.pr (Enc.int .i64) eBlk) s88.2.1), (149, .arr 3 (Enc.int .i64) s88.2.2), (162, .box 81 [.v (Enc.int .i64) z111.1, .v (Enc.int .i64) z111.2.1, .v (Enc.int .i64) z111.2.2.1, .v eBlk z111.2.2.2]), (163, .box 24 [.v eBlk zblk])]⟩) (J.cons (.none rfl) (JO.assign rfl) rfl rfl (J.fin (Sw.Sub.mk id (.cons rfl (.of_eq rfl) (.cons rfl (.of_eq rfl) (.cons rfl (.of_eq rfl) (.cons rfl (.of_eq rfl) (.cons rfl (.of_eq rfl) (.cons rfl (.of_eq rfl) (.cons rfl (.of_eq rfl) (.cons rfl (.of_eq rfl) (.cons rfl (.of_eq rfl) (.cons rfl (.of_eq rfl) .nil)))))))))) (.arr rfl (.arr rfl (.box rfl (.cons (.of_eq rfl) (.cons (.of_eq rfl) (.cons (.of_eq rfl) (.cons (.of_eq rfl) .nil)))) (.box rfl (.cons (.of_eq rfl) .nil) .nil)))) rfl))) ?_
        refine W.seq ?_
        refine W.seq ?_
        refine W.reg (σ' := ⟨[(1, .v (Enc.sl eBlk) a1), (2, .v (Enc.sl eBlk) a2), (6, .ref 148), (7, .ref 149), (14, .ptr 162 0), (15, .ptr 163 0), (16, .v Enc.bool true), (54, .v (Enc.sl (Enc.pr (Enc.int .i64) (Enc.pr (Enc.int .i64) (Enc.pr (Enc.int .i64) eBlk)))) a0), (55, .v (Enc.int .i64) (a0.length : Int)), (56, .v (Enc.int .i64) s88.1), (61, .v (Enc.int .i64) z111.2.1)], [(148, .arr 85 (Enc.pr (Enc.int .i64) eBlk) s88.2.1), (149, .arr 3 (Enc.int .i64) s88.2.2), (162, .box 81 [.v (Enc.int .i64) z111.1, .v (Enc.int .i64) z111.2.1, .v (Enc.int .i64) z111.2.2.1, .v eBlk z111.2.2.2]), (163, .box 24 [.v eBlk zblk])]⟩) (J.cons (.none rfl) (JO.fieldPtr 1 rfl Try.runUnderlying81 rfl Try.sizeOf3 rfl rfl) rfl rfl (J.cons (.none rfl) (JO.load rfl rfl rfl Try.isAgg3 Try.sizeOf3) rfl rfl (J.fin (Sw.Sub.mk id (.cons rfl (.of_eq rfl) (.cons rfl (.of_eq rfl) (.cons rfl (.of_eq rfl) (.cons rfl (.of_eq rfl) (.cons rfl (.of_eq rfl) (.cons rfl (.of_eq rfl) (.cons rfl (.of_eq rfl) (.cons rfl (.of_eq rfl) (.cons rfl (.of_eq rfl) (.cons rfl (.of_eq rfl) (.cons rfl (.of_eq rfl) .nil))))))))))) (.arr rfl (.arr rfl (.box rfl (.cons (.of_eq rfl) (.cons (.of_eq rfl) (.cons (.of_eq rfl) (.cons (.of_eq rfl) .nil)))) (.box rfl (.cons (.of_eq rfl) .nil) .nil)))) rfl)))) ?_
        refine W.block ?_
        refine W.seq ?_
        refine W.reg (σ' := ⟨[(1, .v (Enc.sl eBlk) a1), (2, .v (Enc.sl eBlk) a2), (6, .ref 148), (7, .ref 149), (14, .ptr 162 0), (15, .ptr 163 0), (16, .v Enc.bool true), (54, .v (Enc.sl (Enc.pr (Enc.int .i64) (Enc.pr (Enc.int .i64) (Enc.pr (Enc.int .i64) eBlk)))) a0), (55, .v (Enc.int .i64) (a0.length : Int)), (56, .v (Enc.int .i64) s88.1), (61, .v (Enc.int .i64) z111.2.1), (62, .v Enc.bool (cm .eql z111.2.1 (1 : Int)))], [(148, .arr 85 (Enc.pr (Enc.int .i64) eBlk) s88.2.1), (149, .arr 3 (Enc.int .i64) s88.2.2), (162, .box 81 [.v (Enc.int .i64) z111.1, .v (Enc.int .i64) z111.2.1, .v (Enc.int .i64) z111.2.2.1, .v eBlk z111.2.2.2]), (163, .box 24 [.v eBlk zblk])]⟩) (J.cons (.none rfl) (JO.cmp rfl rfl rfl) rfl rfl (J.cons (.none rfl) (JO.assign rfl) rfl rfl (J.fin (Sw.Sub.mk id (.cons rfl (.of_eq rfl) (.cons rfl (.of_eq rfl) (.cons rfl (.of_eq rfl) (.cons rfl (.of_eq rfl) (.cons rfl (.of_eq rfl) (.cons rfl (.of_eq rfl) (.cons rfl (.of_eq rfl) (.cons rfl (.of_eq rfl) (.cons rfl (.of_eq rfl) (.cons rfl (.of_eq rfl) (.cons rfl (.of_eq rfl) (.cons rfl (.of_eq rfl) .nil)))))))))))) (.arr rfl (.arr rfl (.box rfl (.cons (.of_eq rfl) (.cons (.of_eq rfl) (.cons (.of_eq rfl) (.cons (.of_eq rfl) .nil)))) (.box rfl (.cons (.of_eq rfl) .nil) .nil)))) rfl)))) ?_
        rcases Bool.eq_false_or_eq_true (cm .eql z111.2.1 (1 : Int)) with hc112 | hc112
        · replace h := cond_t hc112 h
          refine W.condT rfl hc112 ?_
          obtain ⟨v113, hv113, h⟩ := bind_e h
          refine W.reg (σ' := ⟨[(1, .v (Enc.sl eBlk) a1), (2, .v (Enc.sl eBlk) a2), (6, .ref 148), (7, .ref 149), (14, .ptr 162 0), (15, .ptr 163 0), (16, .v Enc.bool v113.2), (54, .v (Enc.sl (Enc.pr (Enc.int .i64) (Enc.pr (Enc.int .i64) (Enc.pr (Enc.int .i64) eBlk)))) a0), (55, .v (Enc.int .i64) (a0.length : Int)), (56, .v (Enc.int .i64) s88.1)], [(148, .arr 85 (Enc.pr (Enc.int .i64) eBlk) s88.2.1), (149, .arr 3 (Enc.int .i64) s88.2.2), (162, .box 81 [.v (Enc.int .i64) z111.1, .v (Enc.int .i64) z111.2.1, .v (Enc.int .i64) z111.2.2.1, .v eBlk z111.2.2.2]), (163, .box 24 [.v eBlk v113.1])]⟩) (J.cons (.none rfl) (JO.move rfl) rfl rfl (J.cons (.none rfl) (JO.fieldPtr 2 rfl Try.runUnderlying81 rfl Try.sizeOf3 rfl rfl) rfl rfl (J.cons (.none rfl) (JO.load rfl rfl rfl Try.isAgg3 Try.sizeOf3) rfl rfl (J.cons (.none rfl) (JO.call0 (con_plan_one hv113) Try.call81 (.cons (.dir rfl) (.cons (.dir rfl) .nil))) rfl rfl (J.cons (.none rfl) (JO.move rfl) rfl rfl (J.cons (.none rfl) (JO.extract rfl rfl) rfl rfl (J.cons (.none rfl) (JO.extract rfl rfl) rfl rfl (J.mut (.none rfl) (JM.store rfl rfl rfl rfl rfl rfl rfl Try.sizeOf24) (J.cons (.none rfl) (JO.assign rfl) rfl rfl (J.fin (Sw.Sub.mk id (.cons rfl (.of_eq rfl) (.cons rfl (.of_eq rfl) (.cons rfl (.of_eq rfl) (.cons rfl (.of_eq rfl) (.cons rfl (.of_eq rfl) (.cons rfl (.of_eq rfl) (.cons rfl (.of_eq rfl) (.cons rfl (.of_eq rfl) (.cons rfl (.of_eq rfl) (.cons rfl (.of_eq rfl) .nil)))))))))) (.arr rfl (.arr rfl (.box rfl (.cons (.of_eq rfl) (.cons (.of_eq rfl) (.cons (.of_eq rfl) (.cons (.of_eq rfl) .nil)))) (.box rfl (.cons (.of_eq rfl) .nil) .nil)))) rfl))))))))))) ?_
          refine W.fall ?_
          refine W.seq ?_
          refine W.reg (σ' := ⟨[(1, .v (Enc.sl eBlk) a1), (2, .v (Enc.sl eBlk) a2), (6, .ref 148), (7, .ref 149), (14, .ptr 162 0), (15, .ptr 163 0), (54, .v (Enc.sl (Enc.pr (Enc.int .i64) (Enc.pr (Enc.int .i64) (Enc.pr (Enc.int .i64) eBlk)))) a0), (55, .v (Enc.int .i64) (a0.length : Int)), (56, .v (Enc.int .i64) s88.1), (84, .v Enc.bool v113.2)], [(148, .arr 85 (Enc.pr (Enc.int .i64) eBlk) s88.2.1), (149, .arr 3 (Enc.int .i64) s88.2.2), (162, .box 81 [.v (Enc.int .i64) z111.1, .v (Enc.int .i64) z111.2.1, .v (Enc.int .i64) z111.2.2.1, .v eBlk z111.2.2.2]), (163, .box 24 [.v eBlk v113.1])]⟩) (J.cons (.none rfl) (JO.move rfl) rfl rfl (J.fin (Sw.Sub.mk id (.cons rfl (.of_eq rfl) (.cons rfl (.of_eq rfl) (.cons rfl (.of_eq rfl) (.cons rfl (.of_eq rfl) (.cons rfl (.of_eq rfl) (.cons rfl (.of_eq rfl) (.cons rfl (.of_eq rfl) (.cons rfl (.of_eq rfl) (.cons rfl (.of_eq rfl) (.cons rfl (.of_eq rfl) .nil)))))))))) (.arr rfl (.arr rfl (.box rfl (.cons (.of_eq rfl) (.cons (.of_eq rfl) (.cons (.of_eq rfl) (.cons (.of_eq rfl) .nil)))) (.box rfl (.cons (.of_eq rfl) .nil) .nil)))) rfl))) ?_
          rcases Bool.eq_false_or_eq_true v113.2 with hc114 | hc114
          · replace h := cond_t hc114 h
            refine W.condT rfl hc114 ?_
            obtain ⟨v115, hv115, h⟩ := bind_e h
            refine W.reg (σ' := ⟨[(1, .v (Enc.sl eBlk) a1), (2, .v (Enc.sl eBlk) a2), (6, .ref 165), (7, .ref 149), (54, .v (Enc.sl (Enc.pr (Enc.int .i64) (Enc.pr (Enc.int .i64) (Enc.pr (Enc.int .i64) eBlk)))) a0), (55, .v (Enc.int .i64) (a0.length : Int)), (56, .v (Enc.int .i64) s88.1)], [(165, .arr 85 (Enc.pr (Enc.int .i64) eBlk) v115), (149, .arr 3 (Enc.int .i64) s88.2.2)]⟩) (J.cons (.none rfl) (JO.move rfl) rfl rfl (J.cons (.none rfl) (JO.fieldPtr 0 rfl Try.runUnderlying81 rfl Try.sizeOf3 rfl rfl) rfl rfl (J.cons (.none rfl) (JO.load rfl rfl rfl Try.isAgg3 Try.sizeOf3) rfl rfl (J.cons (.none rfl) (JO.load rfl rfl rfl Try.isAgg24 Try.sizeOf24) rfl rfl (J.cons (.none rfl) (JO.build built85 (.cons (Z.int .i64) (.cons (Z.arr 8 (Z.int .u8)) .nil)) (.cons rfl (.dir rfl) rfl rfl rfl rfl (.cons rfl (.dir rfl) rfl rfl rfl rfl .nil))) rfl rfl (J.cons (.none rfl) (JO.lit (e := (Enc.pr (Enc.int .i64) eBlk)) Try.runUnderlying47 Try.sizeOf85 Try.zeroValue85 rfl rfl rfl rfl (.cons (.agg rfl (.same (.same .nil)) (.prm (.one _ _) (.one _ _)) rfl) .nil)) rfl rfl (J.mut (.none rfl) (JM.append 165 hv115 rfl rfl (.sl rfl) Try.runUnderlying47 Try.typeInfo85 Try.sizeOf85 rfl rfl rfl rfl rfl) (J.cons (.none rfl) (JO.assign rfl) rfl rfl (J.fin (Sw.Sub.mk id (.cons rfl (.of_eq rfl) (.cons rfl (.of_eq rfl) (.cons rfl (.of_eq rfl) (.cons rfl (.of_eq rfl) (.cons rfl (.of_eq rfl) (.cons rfl (.of_eq rfl) (.cons rfl (.of_eq rfl) .nil))))))) (.arr rfl (.arr rfl .nil)) rfl)))))))))) ?_
            refine W.fall ?_
            refine W.reg (σ' := ⟨[(1, .v (Enc.sl eBlk) a1), (2, .v (Enc.sl eBlk) a2), (6, .ref 165), (7, .ref 149), (54, .v (Enc.sl (Enc.pr (Enc.int .i64) (Enc.pr (Enc.int .i64) (Enc.pr (Enc.int .i64) eBlk)))) a0), (55, .v (Enc.int .i64) (a0.length : Int)), (56, .v (Enc.int .i64) (ar .add .i64 s88.1 (1 : Int)))], [(165, .arr 85 (Enc.pr (Enc.int .i64) eBlk) v115), (149, .arr 3 (Enc.int .i64) s88.2.2)]⟩) (J.cons (.none rfl) (JO.arith rfl rfl rfl) rfl rfl (J.cons (.none rfl) (JO.move rfl) rfl rfl (J.fin (Sw.Sub.mk id (.cons rfl (.of_eq rfl) (.cons rfl (.of_eq rfl) (.cons rfl (.of_eq rfl) (.cons rfl (.of_eq rfl) (.cons rfl (.of_eq rfl) (.cons rfl (.of_eq rfl) (.cons rfl (.of_eq rfl) .nil))))))) (.arr rfl (.arr rfl .nil)) rfl)))) ?_
            obtain rfl := Option.some.inj h
            exact W.next (Sw.Sub.mk (rn [(148, 165), (149, 149)]) (.cons rfl (.of_eq rfl) (.cons rfl (.of_eq rfl) (.cons rfl (.of_eq rfl) (.cons rfl (.of_eq rfl) (.cons rfl (.of_eq rfl) (.cons rfl (.of_eq rfl) (.cons rfl (.of_eq rfl) .nil))))))) (.arr rfl (.arr rfl .nil)) rfl)
          · replace h := cond_f hc114 h
            refine W.condF rfl hc114 ?_
            obtain ⟨v116, hv116, h⟩ := bind_e h
            refine W.reg (σ' := ⟨[(1, .v (Enc.sl eBlk) a1), (2, .v (Enc.sl eBlk) a2), (6, .ref 148), (7, .ref 166), (54, .v (Enc.sl (Enc.pr (Enc.int .i64) (Enc.pr (Enc.int .i64) (Enc.pr (Enc.int .i64) eBlk)))) a0), (55, .v (Enc.int .i64) (a0.length : Int)), (56, .v (Enc.int .i64) s88.1)], [(148, .arr 85 (Enc.pr (Enc.int .i64) eBlk) s88.2.1), (166, .arr 3 (Enc.int .i64) v116)]⟩) (J.cons (.none rfl) (JO.move rfl) rfl rfl (J.cons (.none rfl) (JO.fieldPtr 0 rfl Try.runUnderlying81 rfl Try.sizeOf3 rfl rfl) rfl rfl (J.cons (.none rfl) (JO.load rfl rfl rfl Try.isAgg3 Try.sizeOf3) rfl rfl (J.cons (.none rfl) (JO.lit (e := (Enc.int .i64)) Try.runUnderlying36 Try.sizeOf3 Try.zeroValue3 rfl rfl rfl rfl (.cons (.dir rfl) .nil)) rfl rfl (J.mut (.none rfl) (JM.append 166 hv116 rfl rfl (.sl rfl) Try.runUnderlying36 Try.typeInfo3 Try.sizeOf3 rfl rfl rfl rfl rfl) (J.cons (.none rfl) (JO.assign rfl) rfl rfl (J.fin (Sw.Sub.mk id (.cons rfl (.of_eq rfl) (.cons rfl (.of_eq rfl) (.cons rfl (.of_eq rfl) (.cons rfl (.of_eq rfl) (.cons rfl (.of_eq rfl) (.cons rfl (.of_eq rfl) (.cons rfl (.of_eq rfl) .nil))))))) (.arr rfl (.arr rfl .nil)) rfl)))))))) ?_
            refine W.fall ?_
            refine W.reg (σ' := ⟨[(1, .v (Enc.sl eBlk) a1), (2, .v (Enc.sl eBlk) a2), (6, .ref 148), (7, .ref 166), (54, .v (Enc.sl (Enc.pr (Enc.int .i64) (Enc.pr (Enc.int .i64) (Enc.pr (Enc.int .i64) eBlk)))) a0), (55, .v (Enc.int .i64) (a0.length : Int)), (56, .v (Enc.int .i64) (ar .add .i64 s88.1 (1 : Int)))], [(148, .arr 85 (Enc.pr (Enc.int .i64) eBlk) s88.2.1), (166, .arr 3 (Enc.int .i64) v116)]⟩) (J.cons (.none rfl) (JO.arith rfl rfl rfl) rfl rfl (J.cons (.none rfl) (JO.move rfl) rfl rfl (J.fin (Sw.Sub.mk id (.cons rfl (.of_eq rfl) (.cons rfl (.of_eq rfl) (.cons rfl (.of_eq rfl) (.cons rfl (.of_eq rfl) (.cons rfl (.of_eq rfl) (.cons rfl (.of_eq rfl) (.cons rfl (.of_eq rfl) .nil))))))) (.arr rfl (.arr rfl .nil)) rfl)))) ?_
            obtain rfl := Option.some.inj h
            exact W.next (Sw.Sub.mk (rn [(148, 148), (149, 166)]) (.cons rfl (.of_eq rfl) (.cons rfl (.of_eq rfl) (.cons rfl (.of_eq rfl) (.cons rfl (.of_eq rfl) (.cons rfl (.of_eq rfl) (.cons rfl (.of_eq rfl) (.cons rfl (.of_eq rfl) .nil))))))) (.arr rfl (.arr rfl .nil)) rfl)
        · replace h := cond_f hc112 h
          refine W.condF rfl hc112 ?_
          refine W.seq ?_
          refine W.reg (σ' := ⟨[(1, .v (Enc.sl eBlk) a1), (2, .v (Enc.sl eBlk) a2), (6, .ref 148), (7, .ref 149), (14, .ptr 162 0), (15, .ptr 163 0), (16, .v Enc.bool true), (54, .v (Enc.sl (Enc.pr (Enc.int .i64) (Enc.pr (Enc.int .i64) (Enc.pr (Enc.int .i64) eBlk)))) a0), (55, .v (Enc.int .i64) (a0.length : Int)), (56, .v (Enc.int .i64) s88.1), (61, .v (Enc.int .i64) z111.2.1), (71, .v Enc.bool (cm .eql z111.2.1 (2 : Int)))], [(148, .arr 85 (Enc.pr (Enc.int .i64) eBlk) s88.2.1), (149, .arr 3 (Enc.int .i64) s88.2.2), (162, .box 81 [.v (Enc.int .i64) z111.1, .v (Enc.int .i64) z111.2.1, .v (Enc.int .i64) z111.2.2.1, .v eBlk z111.2.2.2]), (163, .box 24 [.v eBlk zblk])]⟩) (J.cons (.none rfl) (JO.cmp rfl rfl rfl) rfl rfl (J.cons (.none rfl) (JO.assign rfl) rfl rfl (J.fin (Sw.Sub.mk id (.cons rfl (.of_eq rfl) (.cons rfl (.of_eq rfl) (.cons rfl (.of_eq rfl) (.cons rfl (.of_eq rfl) (.cons rfl (.of_eq rfl) (.cons rfl (.of_eq rfl) (.cons rfl (.of_eq rfl) (.cons rfl (.of_eq rfl) (.cons rfl (.of_eq rfl) (.cons rfl (.of_eq rfl) (.cons rfl (.of_eq rfl) (.cons rfl (.of_eq rfl) .nil)))))))))))) (.arr rfl (.arr rfl (.box rfl (.cons (.of_eq rfl) (.cons (.of_eq rfl) (.cons (.of_eq rfl) (.cons (.of_eq rfl) .nil)))) (.box rfl (.cons (.of_eq rfl) .nil) .nil)))) rfl)))) ?_
          rcases Bool.eq_false_or_eq_true (cm .eql z111.2.1 (2 : Int)) with hc117 | hc117
          · replace h := cond_t hc117 h
            refine W.condT rfl hc117 ?_
            obtain ⟨v118, hv118, h⟩ := bind_e h
            refine W.reg (σ' := ⟨[(1, .v (Enc.sl eBlk) a1), (2, .v (Enc.sl eBlk) a2), (6, .ref 148), (7, .ref 149), (14, .ptr 162 0), (15, .ptr 163 0), (16, .v Enc.bool v118.2), (54, .v (Enc.sl (Enc.pr (Enc.int .i64) (Enc.pr (Enc.int .i64) (Enc.pr (Enc.int .i64) eBlk)))) a0), (55, .v (Enc.int .i64) (a0.length : Int)), (56, .v (Enc.int .i64) s88.1)], [(148, .arr 85 (Enc.pr (Enc.int .i64) eBlk) s88.2.1), (149, .arr 3 (Enc.int .i64) s88.2.2), (162, .box 81 [.v (Enc.int .i64) z111.1, .v (Enc.int .i64) z111.2.1, .v (Enc.int .i64) z111.2.2.1, .v eBlk z111.2.2.2]), (163, .box 24 [.v eBlk v118.1])]⟩) (J.cons (.none rfl) (JO.move rfl) rfl rfl (J.cons (.none rfl) (JO.fieldPtr 2 rfl Try.runUnderlying81 rfl Try.sizeOf3 rfl rfl) rfl rfl (J.cons (.none rfl) (JO.load rfl rfl rfl Try.isAgg3 Try.sizeOf3) rfl rfl (J.cons (.none rfl) (JO.call0 (con_plan_one hv118) Try.call81 (.cons (.dir rfl) (.cons (.dir rfl) .nil))) rfl rfl (J.cons (.none rfl) (JO.move rfl) rfl rfl (J.cons (.none rfl) (JO.extract rfl rfl) rfl rfl (J.cons (.none rfl) (JO.extract rfl rfl) rfl rfl (J.mut (.none rfl) (JM.store rfl rfl rfl rfl rfl rfl rfl Try.sizeOf24) (J.cons (.none rfl) (JO.assign rfl) rfl rfl (J.fin (Sw.Sub.mk id (.cons rfl (.of_eq rfl) (.cons rfl (.of_eq rfl) (.cons rfl (.of_eq rfl) (.cons rfl (.of_eq rfl) (.cons rfl (.of_eq rfl) (.cons rfl (.of_eq rfl) (.cons rfl (.of_eq rfl) (.cons rfl (.of_eq rfl) (.cons rfl (.of_eq rfl) (.cons rfl (.of_eq rfl) .nil)))))))))) (.arr rfl (.arr rfl (.box rfl (.cons (.of_eq rfl) (.cons (.of_eq rfl) (.cons (.of_eq rfl) (.cons (.of_eq rfl) .nil)))) (.box rfl (.cons (.of_eq rfl) .nil) .nil)))) rfl))))))))))) ?_
            refine W.fall ?_
            refine W.seq ?_
            refine W.reg (σ' := ⟨[(1, .v (Enc.sl eBlk) a1), (2, .v (Enc.sl eBlk) a2), (6, .ref 148), (7, .ref 149), (14, .ptr 162 0), (15, .ptr 163 0), (54, .v (Enc.sl (Enc.pr (Enc.int .i64) (Enc.pr (Enc.int .i64) (Enc.pr (Enc.int .i64) eBlk)))) a0), (55, .v (Enc.int .i64) (a0.length : Int)), (56, .v (Enc.int .i64) s88.1), (84, .v Enc.bool v118.2)], [(148, .arr 85 (Enc.pr (Enc.int .i64) eBlk) s88.2.1), (149, .arr 3 (Enc.int .i64) s88.2.2), (162, .box 81 [.v (Enc.int .i64) z111.1, .v (Enc.int .i64) z111.2.1, .v (Enc.int .i64) z111.2.2.1, .v eBlk z111.2.2.2]), (163, .box 24 [.v eBlk v118.1])]⟩) (J.cons (.none rfl) (JO.move rfl) rfl rfl (J.fin (Sw.Sub.mk id (.cons rfl (.of_eq rfl) (.cons rfl (.of_eq rfl) (.cons rfl (.of_eq rfl) (.cons rfl (.of_eq rfl) (.cons rfl (.of_eq rfl) (.cons rfl (.of_eq rfl) (.cons rfl (.of_eq rfl) (.cons rfl (.of_eq rfl) (.cons rfl (.of_eq rfl) (.cons rfl (.of_eq rfl) .nil)))))))))) (.arr rfl (.arr rfl (.box rfl (.cons (.of_eq rfl) (.cons (.of_eq rfl) (.cons (.of_eq rfl) (.cons (.of_eq rfl) .nil)))) (.box rfl (.cons (.of_eq rfl) .nil) .nil)))) rfl))) ?_
            rcases Bool.eq_false_or_eq_true v118.2 with hc119 | hc119
            · replace h := cond_t hc119 h
              refine W.condT rfl hc119 ?_
              obtain ⟨v120, hv120, h⟩ := bind_e h
              refine W.reg (σ' := ⟨[(1, .v (Enc.sl eBlk) a1), (2, .v (Enc.sl eBlk) a2), (6, .ref 168), (7, .ref 149), (54, .v (Enc.sl (Enc.pr (Enc.int .i64) (Enc.pr (Enc.int .i64) (Enc.pr (Enc.int .i64) eBlk)))) a0), (55, .v (Enc.int .i64) (a0.length : Int)), (56, .v (Enc.int .i64) s88.1)], [(168, .arr 85 (Enc.pr (Enc.int .i64) eBlk) v120), (149, .arr 3 (Enc.int .i64) s88.2.2)]⟩) (J.cons (.none rfl) (JO.move rfl) rfl rfl (J.cons (.none rfl) (JO.fieldPtr 0 rfl Try.runUnderlying81 rfl Try.sizeOf3 rfl rfl) rfl rfl (J.cons (.none rfl) (JO.load rfl rfl rfl Try.isAgg3 Try.sizeOf3) rfl rfl (J.cons (.none rfl) (JO.load rfl rfl rfl Try.isAgg24 Try.sizeOf24) rfl rfl (J.cons (.none rfl) (JO.build built85 (.cons (Z.int .i64) (.cons (Z.arr 8 (Z.int .u8)) .nil)) (.cons rfl (.dir rfl) rfl rfl rfl rfl (.cons rfl (.dir rfl) rfl rfl rfl rfl .nil))) rfl rfl (J.cons (.none rfl) (JO.lit (e := (Enc.pr (Enc.int .i64) eBlk)) Try.runUnderlying47 Try.sizeOf85 Try.zeroValue85 rfl rfl rfl rfl (.cons (.agg rfl (.same (.same .nil)) (.prm (.one _ _) (.one _ _)) rfl) .nil)) rfl rfl (J.mut (.none rfl) (JM.append 168 hv120 rfl rfl (.sl rfl) Try.runUnderlying47 Try.typeInfo85 Try.sizeOf85 rfl rfl rfl rfl rfl) (J.cons (.none rfl) (JO.assign rfl) rfl rfl (J.fin (Sw.Sub.mk id (.cons rfl (.of_eq rfl) (.cons rfl (.of_eq rfl) (.cons rfl (.of_eq rfl) (.cons rfl (.of_eq rfl) (.cons rfl (.of_eq rfl) (.cons rfl (.of_eq rfl) (.cons rfl (.of_eq rfl) .nil))))))) (.arr rfl (.arr rfl .nil)) rfl)))))))))) ?_
              refine W.fall ?_
              refine W.reg (σ' := ⟨[(1, .v (Enc.sl eBlk) a1), (2, .v (Enc.sl eBlk) a2), (6, .ref 168), (7, .ref 149), (54, .v (Enc.sl (Enc.pr (Enc.int .i64) (Enc.pr (Enc.int .i64) (Enc.pr (Enc.int .i64) eBlk)))) a0), (55, .v (Enc.int .i64) (a0.length : Int)), (56, .v (Enc.int .i64) (ar .add .i64 s88.1 (1 : Int)))], [(168, .arr 85 (Enc.pr (Enc.int .i64) eBlk) v120), (149, .arr 3 (Enc.int .i64) s88.2.2)]⟩) (J.cons (.none rfl) (JO.arith rfl rfl rfl) rfl rfl (J.cons (.none rfl) (JO.move rfl) rfl rfl (J.fin (Sw.Sub.mk id (.cons rfl (.of_eq rfl) (.cons rfl (.of_eq rfl) (.cons rfl (.of_eq rfl) (.cons rfl (.of_eq rfl) (.cons rfl (.of_eq rfl) (.cons rfl (.of_eq rfl) (.cons rfl (.of_eq rfl) .nil))))))) (.arr rfl (.arr rfl .nil)) rfl)))) ?_
              obtain rfl := Option.some.inj h
              exact W.next (Sw.Sub.mk (rn [(148, 168), (149, 149)]) (.cons rfl (.of_eq rfl) (.cons rfl (.of_eq rfl) (.cons rfl (.of_eq rfl) (.cons rfl (.of_eq rfl) (.cons rfl (.of_eq rfl) (.cons rfl (.of_eq rfl) (.cons rfl (.of_eq rfl) .nil))))))) (.arr rfl (.arr rfl .nil)) rfl)
            · replace h := cond_f hc119 h
              refine W.condF rfl hc119 ?_
              obtain ⟨v121, hv121, h⟩ := bind_e h
              refine W.reg (σ' := ⟨[(1, .v (Enc.sl eBlk) a1), (2, .v (Enc.sl eBlk) a2), (6, .ref 148), (7, .ref 169), (54, .v (Enc.sl (Enc.pr (Enc.int .i64) (Enc.pr (Enc.int .i64) (Enc.pr (Enc.int .i64) eBlk)))) a0), (55, .v (Enc.int .i64) (a0.length : Int)), (56, .v (Enc.int .i64) s88.1)], [(148, .arr 85 (Enc.pr (Enc.int .i64) eBlk) s88.2.1), (169, .arr 3 (Enc.int .i64) v121)]⟩) (J.cons (.none rfl) (JO.move rfl) rfl rfl (J.cons (.none rfl) (JO.fieldPtr 0 rfl Try.runUnderlying81 rfl Try.sizeOf3 rfl rfl) rfl rfl (J.cons (.none rfl) (JO.load rfl rfl rfl Try.isAgg3 Try.sizeOf3) rfl rfl (J.cons (.none rfl) (JO.lit (e := (Enc.int .i64)) Try.runUnderlying36 Try.sizeOf3 Try.zeroValue3 rfl rfl rfl rfl (.cons (.dir rfl) .nil)) rfl rfl (J.mut (.none rfl) (JM.append 169 hv121 rfl rfl (.sl rfl) Try.runUnderlying36 Try.typeInfo3 Try.sizeOf3 rfl rfl rfl rfl rfl) (J.cons (.none rfl) (JO.assign rfl) rfl rfl (J.fin (Sw.Sub.mk id (.cons rfl (.of_eq rfl) (.cons rfl (.of_eq rfl) (.cons rfl (.of_eq rfl) (.cons rfl (.of_eq rfl) (.cons rfl (.of_eq rfl) (.cons rfl (.of_eq rfl) (.cons rfl (.of_eq rfl) .nil))))))) (.arr rfl (.arr rfl .nil)) rfl)))))))) ?_
              refine W.fall ?_
              refine W.reg (σ' := ⟨[(1, .v (Enc.sl eBlk) a1), (2, .v (Enc.sl eBlk) a2), (6, .ref 148), (7, .ref 169), (54, .v (Enc.sl (Enc.pr (Enc.int .i64) (Enc.pr (Enc.int .i64) (Enc.pr (Enc.int .i64) eBlk)))) a0), (55, .v (Enc.int .i64) (a0.length : Int)), (56, .v (Enc.int .i64) (ar .add .i64 s88.1 (1 : Int)))], [(148, .arr 85 (Enc.pr (Enc.int .i64) eBlk) s88.2.1), (169, .arr 3 (Enc.int .i64) v121)]⟩) (J.cons (.none rfl) (JO.arith rfl rfl rfl) rfl rfl (J.cons (.none rfl) (JO.move rfl) rfl rfl (J.fin (Sw.Sub.mk id (.cons rfl (.of_eq rfl) (.cons rfl (.of_eq rfl) (.cons rfl (.of_eq rfl) (.cons rfl (.of_eq rfl) (.cons rfl (.of_eq rfl) (.cons rfl (.of_eq rfl) (.cons rfl (.of_eq rfl) .nil))))))) (.arr rfl (.arr rfl .nil)) rfl)))) ?_
              obtain rfl := Option.some.inj h
              exact W.next (Sw.Sub.mk (rn [(148, 148), (149, 169)]) (.cons rfl (.of_eq rfl) (.cons rfl (.of_eq rfl) (.cons rfl (.of_eq rfl) (.cons rfl (.of_eq rfl) (.cons rfl (.of_eq rfl) (.cons rfl (.of_eq rfl) (.cons rfl (.of_eq rfl) .nil))))))) (.arr rfl (.arr rfl .nil)) rfl)
          · replace h := cond_f hc117 h
            refine W.condF rfl hc117 ?_
            refine W.seq ?_
            refine W.reg (σ' := ⟨[(1, .v (Enc.sl eBlk) a1), (2, .v (Enc.sl eBlk) a2), (6, .ref 148), (7, .ref 149), (14, .ptr 162 0), (15, .ptr 163 0), (16, .v Enc.bool true), (54, .v (Enc.sl (Enc.pr (Enc.int .i64) (Enc.pr (Enc.int .i64) (Enc.pr (Enc.int .i64) eBlk)))) a0), (55, .v (Enc.int .i64) (a0.length : Int)), (56, .v (Enc.int .i64) s88.1), (80, .v Enc.bool (cm .eql z111.2.1 (3 : Int)))], [(148, .arr 85 (Enc.pr (Enc.int .i64) eBlk) s88.2.1), (149, .arr 3 (Enc.int .i64) s88.2.2), (162, .box 81 [.v (Enc.int .i64) z111.1, .v (Enc.int .i64) z111.2.1, .v (Enc.int .i64) z111.2.2.1, .v eBlk z111.2.2.2]), (163, .box 24 [.v eBlk zblk])]⟩) (J.cons (.none rfl) (JO.cmp rfl rfl rfl) rfl rfl (J.cons (.none rfl) (JO.assign rfl) rfl rfl (J.fin (Sw.Sub.mk id (.cons rfl (.of_eq rfl) (.cons rfl (.of_eq rfl) (.cons rfl (.of_eq rfl) (.cons rfl (.of_eq rfl) (.cons rfl (.of_eq rfl) (.cons rfl (.of_eq rfl) (.cons rfl (.of_eq rfl) (.cons rfl (.of_eq rfl) (.cons rfl (.of_eq rfl) (.cons rfl (.of_eq rfl) (.cons rfl (.of_eq rfl) .nil))))))))))) (.arr rfl (.arr rfl (.box rfl (.cons (.of_eq rfl) (.cons (.of_eq rfl) (.cons (.of_eq rfl) (.cons (.of_eq rfl) .nil)))) (.box rfl (.cons (.of_eq rfl) .nil) .nil)))) rfl)))) ?_
            rcases Bool.eq_false_or_eq_true (cm .eql z111.2.1 (3 : Int)) with hc122 | hc122
            · replace h := cond_t hc122 h
              refine W.condT rfl hc122 ?_
              refine W.reg (σ' := ⟨[(1, .v (Enc.sl eBlk) a1), (2, .v (Enc.sl eBlk) a2), (6, .ref 148), (7, .ref 149), (14, .ptr 162 0), (15, .ptr 163 0), (16, .v Enc.bool true), (54, .v (Enc.sl (Enc.pr (Enc.int .i64) (Enc.pr (Enc.int .i64) (Enc.pr (Enc.int .i64) eBlk)))) a0), (55, .v (Enc.int .i64) (a0.length : Int)), (56, .v (Enc.int .i64) s88.1)], [(148, .arr 85 (Enc.pr (Enc.int .i64) eBlk) s88.2.1), (149, .arr 3 (Enc.int .i64) s88.2.2), (162, .box 81 [.v (Enc.int .i64) z111.1, .v (Enc.int .i64) z111.2.1, .v (Enc.int .i64) z111.2.2.1, .v eBlk z111.2.2.2]), (163, .box 24 [.v eBlk z111.2.2.2])]⟩) (J.cons (.none rfl) (JO.fieldPtr 3 rfl Try.runUnderlying81 rfl Try.sizeOf24 rfl rfl) rfl rfl (J.cons (.none rfl) (JO.load rfl rfl rfl Try.isAgg24 Try.sizeOf24) rfl rfl (J.mut (.none rfl) (JM.store rfl rfl rfl rfl rfl rfl rfl Try.sizeOf24) (J.fin (Sw.Sub.mk id (.cons rfl (.of_eq rfl) (.cons rfl (.of_eq rfl) (.cons rfl (.of_eq rfl) (.cons rfl (.of_eq rfl) (.cons rfl (.of_eq rfl) (.cons rfl (.of_eq rfl) (.cons rfl (.of_eq rfl) (.cons rfl (.of_eq rfl) (.cons rfl (.of_eq rfl) (.cons rfl (.of_eq rfl) .nil)))))))))) (.arr rfl (.arr rfl (.box rfl (.cons (.of_eq rfl) (.cons (.of_eq rfl) (.cons (.of_eq rfl) (.cons (.of_eq rfl) .nil)))) (.box rfl (.cons (.of_eq rfl) .nil) .nil)))) rfl))))) ?_
              refine W.fall ?_
              refine W.seq ?_
              refine W.reg (σ' := ⟨[(1, .v (Enc.sl eBlk) a1), (2, .v (Enc.sl eBlk) a2), (6, .ref 148), (7, .ref 149), (14, .ptr 162 0), (15, .ptr 163 0), (54, .v (Enc.sl (Enc.pr (Enc.int .i64) (Enc.pr (Enc.int .i64) (Enc.pr (Enc.int .i64) eBlk)))) a0), (55, .v (Enc.int .i64) (a0.length : Int)), (56, .v (Enc.int .i64) s88.1), (84, .v Enc.bool true)], [(148, .arr 85 (Enc.pr (Enc.int .i64) eBlk) s88.2.1), (149, .arr 3 (Enc.int .i64) s88.2.2), (162, .box 81 [.v (Enc.int .i64) z111.1, .v (Enc.int .i64) z111.2.1, .v (Enc.int .i64) z111.2.2.1, .v eBlk z111.2.2.2]), (163, .box 24 [.v eBlk z111.2.2.2])]⟩) (J.cons (.none rfl) (JO.move rfl) rfl rfl (J.fin (Sw.Sub.mk id (.cons rfl (.of_eq rfl) (.cons rfl (.of_eq rfl) (.cons rfl (.of_eq rfl) (.cons rfl (.of_eq rfl) (.cons rfl (.of_eq rfl) (.cons rfl (.of_eq rfl) (.cons rfl (.of_eq rfl) (.cons rfl (.of_eq rfl) (.cons rfl (.of_eq rfl) (.cons rfl (.of_eq rfl) .nil)))))))))) (.arr rfl (.arr rfl (.box rfl (.cons (.of_eq rfl) (.cons (.of_eq rfl) (.cons (.of_eq rfl) (.cons (.of_eq rfl) .nil)))) (.box rfl (.cons (.of_eq rfl) .nil) .nil)))) rfl))) ?_
              rcases Bool.eq_false_or_eq_true true with hc123 | hc123
              · replace h := cond_t hc123 h
                refine W.condT rfl hc123 ?_
                obtain ⟨v124, hv124, h⟩ := bind_e h
                refine W.reg (σ' := ⟨[(1, .v (Enc.sl eBlk) a1), (2, .v (Enc.sl eBlk) a2), (6, .ref 170), (7, .ref 149), (54, .v (Enc.sl (Enc.pr (Enc.int .i64) (Enc.pr (Enc.int .i64) (Enc.pr (Enc.int .i64) eBlk)))) a0), (55, .v (Enc.int .i64) (a0.length : Int)), (56, .v (Enc.int .i64) s88.1)], [(170, .arr 85 (Enc.pr (Enc.int .i64) eBlk) v124), (149, .arr 3 (Enc.int .i64) s88.2.2)]⟩) (J.cons (.none rfl) (JO.move rfl) rfl rfl (J.cons (.none rfl) (JO.fieldPtr 0 rfl Try.runUnderlying81 rfl Try.sizeOf3 rfl rfl) rfl rfl (J.cons (.none rfl) (JO.load rfl rfl rfl Try.isAgg3 Try.sizeOf3) rfl rfl (J.cons (.none rfl) (JO.load rfl rfl rfl Try.isAgg24 Try.sizeOf24) rfl rfl (J.cons (.none rfl) (JO.build built85 (.cons (Z.int .i64) (.cons (Z.arr 8 (Z.int .u8)) .nil)) (.cons rfl (.dir rfl) rfl rfl rfl rfl (.cons rfl (.dir rfl) rfl rfl rfl rfl .nil))) rfl rfl (J.cons (.none rfl) (JO.lit (e := (Enc.pr (Enc.int .i64) eBlk)) Try.runUnderlying47 Try.sizeOf85 Try.zeroValue85 rfl rfl rfl rfl (.cons (.agg rfl (.same (.same .nil)) (.prm (.one _ _) (.one _ _)) rfl) .nil)) rfl rfl (J.mut (.none rfl) (JM.append 170 hv124 rfl rfl (.sl rfl) Try.runUnderlying47 Try.typeInfo85 Try.sizeOf85 rfl rfl rfl rfl rfl) (J.cons (.none rfl) (JO.assign rfl) rfl rfl (J.fin (Sw.Sub.mk id (.cons rfl (.of_eq rfl) (.cons rfl (.of_eq rfl) (.cons rfl (.of_eq rfl) (.cons rfl (.of_eq rfl) (.cons rfl (.of_eq rfl) (.cons rfl (.of_eq rfl) (.cons rfl (.of_eq rfl) .nil))))))) (.arr rfl (.arr rfl .nil)) rfl)))))))))) ?_
                refine W.fall ?_
                refine W.reg (σ' := ⟨[(1, .v (Enc.sl eBlk) a1), (2, .v (Enc.sl eBlk) a2), (6, .ref 170), (7, .ref 149), (54, .v (Enc.sl (Enc.pr (Enc.int .i64) (Enc.pr (Enc.int .i64) (Enc.pr (Enc.int .i64) eBlk)))) a0), (55, .v (Enc.int .i64) (a0.length : Int)), (56, .v (Enc.int .i64) (ar .add .i64 s88.1 (1 : Int)))], [(170, .arr 85 (Enc.pr (Enc.int .i64) eBlk) v124), (149, .arr 3 (Enc.int .i64) s88.2.2)]⟩) (J.cons (.none rfl) (JO.arith rfl rfl rfl) rfl rfl (J.cons (.none rfl) (JO.move rfl) rfl rfl (J.fin (Sw.Sub.mk id (.cons rfl (.of_eq rfl) (.cons rfl (.of_eq rfl) (.cons rfl (.of_eq rfl) (.cons rfl (.of_eq rfl) (.cons rfl (.of_eq rfl) (.cons rfl (.of_eq rfl) (.cons rfl (.of_eq rfl) .nil))))))) (.arr rfl (.arr rfl .nil)) rfl)))) ?_
                obtain rfl := Option.some.inj h
                exact W.next (Sw.Sub.mk (rn [(148, 170), (149, 149)]) (.cons rfl (.of_eq rfl) (.cons rfl (.of_eq rfl) (.cons rfl (.of_eq rfl) (.cons rfl (.of_eq rfl) (.cons rfl (.of_eq rfl) (.cons rfl (.of_eq rfl) (.cons rfl (.of_eq rfl) .nil))))))) (.arr rfl (.arr rfl .nil)) rfl)
              · replace h := cond_f hc123 h
                refine W.condF rfl hc123 ?_
                obtain ⟨v125, hv125, h⟩ := bind_e h
                refine W.reg (σ' := ⟨[(1, .v (Enc.sl eBlk) a1), (2, .v (Enc.sl eBlk) a2), (6, .ref 148), (7, .ref 171), (54, .v (Enc.sl (Enc.pr (Enc.int .i64) (Enc.pr (Enc.int .i64) (Enc.pr (Enc.int .i64) eBlk)))) a0), (55, .v (Enc.int .i64) (a0.length : Int)), (56, .v (Enc.int .i64) s88.1)], [(148, .arr 85 (Enc.pr (Enc.int .i64) eBlk) s88.2.1), (171, .arr 3 (Enc.int .i64) v125)]⟩) (J.cons (.none rfl) (JO.move rfl) rfl rfl (J.cons (.none rfl) (JO.fieldPtr 0 rfl Try.runUnderlying81 rfl Try.sizeOf3 rfl rfl) rfl rfl (J.cons (.none rfl) (JO.load rfl rfl rfl Try.isAgg3 Try.sizeOf3) rfl rfl (J.cons (.none rfl) (JO.lit (e := (Enc.int .i64)) Try.runUnderlying36 Try.sizeOf3 Try.zeroValue3 rfl rfl rfl rfl (.cons (.dir rfl) .nil)) rfl rfl (J.mut (.none rfl) (JM.append 171 hv125 rfl rfl (.sl rfl) Try.runUnderlying36 Try.typeInfo3 Try.sizeOf3 rfl rfl rfl rfl rfl) (J.cons (.none rfl) (JO.assign rfl) rfl rfl (J.fin (Sw.Sub.mk id (.cons rfl (.of_eq rfl) (.cons rfl (.of_eq rfl) (.cons rfl (.of_eq rfl) (.cons rfl (.of_eq rfl) (.cons rfl (.of_eq rfl) (.cons rfl (.of_eq rfl) (.cons rfl (.of_eq rfl) .nil))))))) (.arr rfl (.arr rfl .nil)) rfl)))))))) ?_
                refine W.fall ?_
                refine W.reg (σ' := ⟨[(1, .v (Enc.sl eBlk) a1), (2, .v (Enc.sl eBlk) a2), (6, .ref 148), (7, .ref 171), (54, .v (Enc.sl (Enc.pr (Enc.int .i64) (Enc.pr (Enc.int .i64) (Enc.pr (Enc.int .i64) eBlk)))) a0), (55, .v (Enc.int .i64) (a0.length : Int)), (56, .v (Enc.int .i64) (ar .add .i64 s88.1 (1 : Int)))], [(148, .arr 85 (Enc.pr (Enc.int .i64) eBlk) s88.2.1), (171, .arr 3 (Enc.int .i64) v125)]⟩) (J.cons (.none rfl) (JO.arith rfl rfl rfl) rfl rfl (J.cons (.none rfl) (JO.move rfl) rfl rfl (J.fin (Sw.Sub.mk id (.cons rfl (.of_eq rfl) (.cons rfl (.of_eq rfl) (.cons rfl (.of_eq rfl) (.cons rfl (.of_eq rfl) (.cons rfl (.of_eq rfl) (.cons rfl (.of_eq rfl) (.cons rfl (.of_eq rfl) .nil))))))) (.arr rfl (.arr rfl .nil)) rfl)))) ?_
                obtain rfl := Option.some.inj h
                exact W.next (Sw.Sub.mk (rn [(148, 148), (149, 171)]) (.cons rfl (.of_eq rfl) (.cons rfl (.of_eq rfl) (.cons rfl (.of_eq rfl) (.cons rfl (.of_eq rfl) (.cons rfl (.of_eq rfl) (.cons rfl (.of_eq rfl) (.cons rfl (.of_eq rfl) .nil))))))) (.arr rfl (.arr rfl .nil)) rfl)
            · replace h := cond_f hc122 h
              refine W.condF rfl hc122 ?_
              refine W.skip ?_
              refine W.fall ?_
              refine W.seq ?_
              refine W.reg (σ' := ⟨[(1, .v (Enc.sl eBlk) a1), (2, .v (Enc.sl eBlk) a2), (6, .ref 148), (7, .ref 149), (14, .ptr 162 0), (15, .ptr 163 0), (54, .v (Enc.sl (Enc.pr (Enc.int .i64) (Enc.pr (Enc.int .i64) (Enc.pr (Enc.int .i64) eBlk)))) a0), (55, .v (Enc.int .i64) (a0.length : Int)), (56, .v (Enc.int .i64) s88.1), (84, .v Enc.bool true)], [(148, .arr 85 (Enc.pr (Enc.int .i64) eBlk) s88.2.1), (149, .arr 3 (Enc.int .i64) s88.2.2), (162, .box 81 [.v (Enc.int .i64) z111.1, .v (Enc.int .i64) z111.2.1, .v (Enc.int .i64) z111.2.2.1, .v eBlk z111.2.2.2]), (163, .box 24 [.v eBlk zblk])]⟩) (J.cons (.none rfl) (JO.move rfl) rfl rfl (J.fin (Sw.Sub.mk id (.cons rfl (.of_eq rfl) (.cons rfl (.of_eq rfl) (.cons rfl (.of_eq rfl) (.cons rfl (.of_eq rfl) (.cons rfl (.of_eq rfl) (.cons rfl (.of_eq rfl) (.cons rfl (.of_eq rfl) (.cons rfl (.of_eq rfl) (.cons rfl (.of_eq rfl) (.cons rfl (.of_eq rfl) .nil)))))))))) (.arr rfl (.arr rfl (.box rfl (.cons (.of_eq rfl) (.cons (.of_eq rfl) (.cons (.of_eq rfl) (.cons (.of_eq rfl) .nil)))) (.box rfl (.cons (.of_eq rfl) .nil) .nil)))) rfl))) ?_
              rcases Bool.eq_false_or_eq_true true with hc126 | hc126
              · replace h := cond_t hc126 h
                refine W.condT rfl hc126 ?_
                obtain ⟨v127, hv127, h⟩ := bind_e h
                refine W.reg (σ' := ⟨[(1, .v (Enc.sl eBlk) a1), (2, .v (Enc.sl eBlk) a2), (6, .ref 172), (7, .ref 149), (54, .v (Enc.sl (Enc.pr (Enc.int .i64) (Enc.pr (Enc.int .i64) (Enc.pr (Enc.int .i64) eBlk)))) a0), (55, .v (Enc.int .i64) (a0.length : Int)), (56, .v (Enc.int .i64) s88.1)], [(172, .arr 85 (Enc.pr (Enc.int .i64) eBlk) v127), (149, .arr 3 (Enc.int .i64) s88.2.2)]⟩) (J.cons (.none rfl) (JO.move rfl) rfl rfl (J.cons (.none rfl) (JO.fieldPtr 0 rfl Try.runUnderlying81 rfl Try.sizeOf3 rfl rfl) rfl rfl (J.cons (.none rfl) (JO.load rfl rfl rfl Try.isAgg3 Try.sizeOf3) rfl rfl (J.cons (.none rfl) (JO.load rfl rfl rfl Try.isAgg24 Try.sizeOf24) rfl rfl (J.cons (.none rfl) (JO.build built85 (.cons (Z.int .i64) (.cons (Z.arr 8 (Z.int .u8)) .nil)) (.cons rfl (.dir rfl) rfl rfl rfl rfl (.cons rfl (.dir rfl) rfl rfl rfl rfl .nil))) rfl rfl (J.cons (.none rfl) (JO.lit (e := (Enc.pr (Enc.int .i64) eBlk)) Try.runUnderlying47 Try.sizeOf85 Try.zeroValue85 rfl rfl rfl rfl (.cons (.agg rfl (.same (.same .nil)) (.prm (.one _ _) (.one _ _)) rfl) .nil)) rfl rfl (J.mut (.none rfl) (JM.append 172 hv127 rfl rfl (.sl rfl) Try.runUnderlying47 Try.typeInfo85 Try.sizeOf85 rfl rfl rfl rfl rfl) (J.cons (.none rfl) (JO.assign rfl) rfl rfl (J.fin (Sw.Sub.mk id (.cons rfl (.of_eq rfl) (.cons rfl (.of_eq rfl) (.cons rfl (.of_eq rfl) (.cons rfl (.of_eq rfl) (.cons rfl (.of_eq rfl) (.cons rfl (.of_eq rfl) (.cons rfl (.of_eq rfl) .nil))))))) (.arr rfl (.arr rfl .nil)) rfl)))))))))) ?_
                refine W.fall ?_
                refine W.reg (σ' := ⟨[(1, .v (Enc.sl eBlk) a1), (2, .v (Enc.sl eBlk) a2), (6, .ref 172), (7, .ref 149), (54, .v (Enc.sl (Enc.pr (Enc.int .i64) (Enc.pr (Enc.int .i64) (Enc.pr (Enc.int .i64) eBlk)))) a0), (55, .v (Enc.int .i64) (a0.length : Int)), (56, .v (Enc.int .i64) (ar .add .i64 s88.1 (1 : Int)))], [(172, .arr 85 (Enc.pr (Enc.int .i64) eBlk) v127), (149, .arr 3 (Enc.int .i64) s88.2.2)]⟩) (J.cons (.none rfl) (JO.arith rfl rfl rfl) rfl rfl (J.cons (.none rfl) (JO.move rfl) rfl rfl (J.fin (Sw.Sub.mk id (.cons rfl (.of_eq rfl) (.cons rfl (.of_eq rfl) (.cons rfl (.of_eq rfl) (.cons rfl (.of_eq rfl) (.cons rfl (.of_eq rfl) (.cons rfl (.of_eq rfl) (.cons rfl (.of_eq rfl) .nil))))))) (.arr rfl (.arr rfl .nil)) rfl)))) ?_
                obtain rfl := Option.some.inj h
                exact W.next (Sw.Sub.mk (rn [(148, 172), (149, 149)]) (.cons rfl (.of_eq rfl) (.cons rfl (.of_eq rfl) (.cons rfl (.of_eq rfl) (.cons rfl (.of_eq rfl) (.cons rfl (.of_eq rfl) (.cons rfl (.of_eq rfl) (.cons rfl (.of_eq rfl) .nil))))))) (.arr rfl (.arr rfl .nil)) rfl)
              · replace h := cond_f hc126 h
                refine W.condF rfl hc126 ?_
                obtain ⟨v128, hv128, h⟩ := bind_e h
                refine W.reg (σ' := ⟨[(1, .v (Enc.sl eBlk) a1), (2, .v (Enc.sl eBlk) a2), (6, .ref 148), (7, .ref 173), (54, .v (Enc.sl (Enc.pr (Enc.int .i64) (Enc.pr (Enc.int .i64) (Enc.pr (Enc.int .i64) eBlk)))) a0), (55, .v (Enc.int .i64) (a0.length : Int)), (56, .v (Enc.int .i64) s88.1)], [(148, .arr 85 (Enc.pr (Enc.int .i64) eBlk) s88.2.1), (173, .arr 3 (Enc.int .i64) v128)]⟩) (J.cons (.none rfl) (JO.move rfl) rfl rfl (J.cons (.none rfl) (JO.fieldPtr 0 rfl Try.runUnderlying81 rfl Try.sizeOf3 rfl rfl) rfl rfl (J.cons (.none rfl) (JO.load rfl rfl rfl Try.isAgg3 Try.sizeOf3) rfl rfl (J.cons (.none rfl) (JO.lit (e := (Enc.int .i64)) Try.runUnderlying36 Try.sizeOf3 Try.zeroValue3 rfl rfl rfl rfl (.cons (.dir rfl) .nil)) rfl rfl (J.mut (.none rfl) (JM.append 173 hv128 rfl rfl (.sl rfl) Try.runUnderlying36 Try.typeInfo3 Try.sizeOf3 rfl rfl rfl rfl rfl) (J.cons (.none rfl) (JO.assign rfl) rfl rfl (J.fin (Sw.Sub.mk id (.cons rfl (.of_eq rfl) (.cons rfl (.of_eq rfl) (.cons rfl (.of_eq rfl) (.cons rfl (.of_eq rfl) (.cons rfl (.of_eq rfl) (.cons rfl (.of_eq rfl) (.cons rfl (.of_eq rfl) .nil))))))) (.arr rfl (.arr rfl .nil)) rfl)))))))) ?_
                refine W.fall ?_
                refine W.reg (σ' := ⟨[(1, .v (Enc.sl eBlk) a1), (2, .v (Enc.sl eBlk) a2), (6, .ref 148), (7, .ref 173), (54, .v (Enc.sl (Enc.pr (Enc.int .i64) (Enc.pr (Enc.int .i64) (Enc.pr (Enc.int .i64) eBlk)))) a0), (55, .v (Enc.int .i64) (a0.length : Int)), (56, .v (Enc.int .i64) (ar .add .i64 s88.1 (1 : Int)))], [(148, .arr 85 (Enc.pr (Enc.int .i64) eBlk) s88.2.1), (173, .arr 3 (Enc.int .i64) v128)]⟩) (J.cons (.none rfl) (JO.arith rfl rfl rfl) rfl rfl (J.cons (.none rfl) (JO.move rfl) rfl rfl (J.fin (Sw.Sub.mk id (.cons rfl (.of_eq rfl) (.cons rfl (.of_eq rfl) (.cons rfl (.of_eq rfl) (.cons rfl (.of_eq rfl) (.cons rfl (.of_eq rfl) (.cons rfl (.of_eq rfl) (.cons rfl (.of_eq rfl) .nil))))))) (.arr rfl (.arr rfl .nil)) rfl)))) ?_
                obtain rfl := Option.some.inj h
                exact W.next (Sw.Sub.mk (rn [(148, 148), (149, 173)]) (.cons rfl (.of_eq rfl) (.cons rfl (.of_eq rfl) (.cons rfl (.of_eq rfl) (.cons rfl (.of_eq rfl) (.cons rfl (.of_eq rfl) (.cons rfl (.of_eq rfl) (.cons rfl (.of_eq rfl) .nil))))))) (.arr rfl (.arr rfl .nil)) rfl)
      · replace h := cond_f hc110 h
        refine W.condF rfl hc110 ?_
        refine W.exit ?_
        obtain rfl := Option.some.inj h
        exact XQ.brk (Sw.Sub.mk id (.cons rfl (.of_eq rfl) (.cons rfl (.of_eq rfl) .nil)) (.arr rfl (.arr rfl .nil)) rfl)
    intro s25 r36 h
    refine W.seq ?_
    refine W.reg (σ' := ⟨[(0, .v (Enc.sl (Enc.pr (Enc.int .i64) (Enc.pr (Enc.int .i64) (Enc.pr (Enc.int .i64) eBlk)))) a0), (1, .v (Enc.sl eBlk) a1), (2, .v (Enc.sl eBlk) a2), (6, .ref 101), (7, .ref 102), (10, .v (Enc.int .i64) s25.1), (23, .v (Enc.sl (Enc.pr (Enc.int .i64) (Enc.pr (Enc.int .i64) (Enc.pr (Enc.int .i64) eBlk)))) a0), (24, .v (Enc.int .i64) (a0.length : Int)), (25, .v (Enc.int .i64) s25.2), (26, .v Enc.bool (cm .lss s25.2 (a0.length : Int)))], [(101, .arr 85 (Enc.pr (Enc.int .i64) eBlk) ([] : (List (Int × Blk)))), (102, .arr 3 (Enc.int .i64) ([] : (List Int)))]⟩) (J.cons (.none rfl) (JO.cmp rfl rfl rfl) rfl rfl (J.fin (Sw.Sub.mk id (.cons rfl (.of_eq rfl) (.cons rfl (.of_eq rfl) (.cons rfl (.of_eq rfl) (.cons rfl (.of_eq rfl) (.cons rfl (.of_eq rfl) (.cons rfl (.of_eq rfl) (.cons rfl (.of_eq rfl) (.cons rfl (.of_eq rfl) (.cons rfl (.of_eq rfl) (.cons rfl (.of_eq rfl) .nil)))))))))) (.arr rfl (.arr rfl .nil)) rfl))) ?_
    refine W.seq ?_
    rcases Bool.eq_false_or_eq_true (cm .lss s25.2 (a0.length : Int)) with hc38 | hc38
    · replace h := cond_t hc38 h
      refine W.condT rfl hc38 ?_
      refine W.skip ?_
      refine W.seq ?_
      refine W.block ?_
      refine W.seq ?_
      obtain ⟨z39, hz39, h⟩ := bind_e h
      refine W.reg (σ' := ⟨[(0, .v (Enc.sl (Enc.pr (Enc.int .i64) (Enc.pr (Enc.int .i64) (Enc.pr (Enc.int .i64) eBlk)))) a0), (1, .v (Enc.sl eBlk) a1), (2, .v (Enc.sl eBlk) a2), (6, .ref 101), (7, .ref 102), (10, .v (Enc.int .i64) s25.1), (12, .ptr 115 0), (23, .v (Enc.sl (Enc.pr (Enc.int .i64) (Enc.pr (Enc.int .i64) (Enc.pr (Enc.int .i64) eBlk)))) a0), (24, .v (Enc.int .i64) (a0.length : Int)), (25, .v (Enc.int .i64) s25.2)], [(101, .arr 85 (Enc.pr (Enc.int .i64) eBlk) ([] : (List (Int × Blk)))), (102, .arr 3 (Enc.int .i64) ([] : (List Int))), (115, .box 81 [.v (Enc.int .i64) z39.1, .v (Enc.int .i64) z39.2.1, .v (Enc.int .i64) z39.2.2.1, .v eBlk z39.2.2.2])]⟩) (J.cons (.none rfl) (JO.idx hz39 rfl rfl Try.runUnderlying78 Try.sizeOf81) rfl rfl (J.cons (.none rfl) (JO.loadPst rfl Try.isAgg81 Try.sizeOf81) rfl rfl (J.cons (.none rfl) (JO.alloc 115 Try.zeroValue81 rfl (.cons (Z.int .i64) (.cons (Z.int .i64) (.cons (Z.int .i64) (.cons (Z.arr 8 (Z.int .u8)) .nil)))) rfl) rfl rfl (J.mut (.none rfl) (JM.storeAll rfl rfl rfl rfl (.prm (.one _ _) (.prm (.one _ _) (.prm (.one _ _) (.one _ _)))) Try.sizeOf81) (J.fin (Sw.Sub.mk id (.cons rfl (.of_eq rfl) (.cons rfl (.of_eq rfl) (.cons rfl (.of_eq rfl) (.cons rfl (.of_eq rfl) (.cons rfl (.of_eq rfl) (.cons rfl (.of_eq rfl) (.cons rfl (.of_eq rfl) (.cons rfl (.of_eq rfl) (.cons rfl (.of_eq rfl) (.cons rfl (.of_eq rfl) .nil)))))))))) (.arr rfl (.arr rfl (.box rfl (.cons (.of_eq rfl) (.cons (.of_eq rfl) (.cons (.of_eq rfl) (.cons (.of_eq rfl) .nil)))) .nil))) rfl)))))) ?_
      refine W.seq ?_
      refine W.seq ?_
      obtain ⟨x43, hx, h⟩ := bind_e h
      refine W.reg (σ' := ⟨[(0, .v (Enc.sl (Enc.pr (Enc.int .i64) (Enc.pr (Enc.int .i64) (Enc.pr (Enc.int .i64) eBlk)))) a0), (1, .v (Enc.sl eBlk) a1), (2, .v (Enc.sl eBlk) a2), (6, .ref 101), (7, .ref 102), (12, .ptr 115 0), (23, .v (Enc.sl (Enc.pr (Enc.int .i64) (Enc.pr (Enc.int .i64) (Enc.pr (Enc.int .i64) eBlk)))) a0), (24, .v (Enc.int .i64) (a0.length : Int)), (25, .v (Enc.int .i64) s25.2), (49, .v Enc.bool x43)], [(101, .arr 85 (Enc.pr (Enc.int .i64) eBlk) ([] : (List (Int × Blk)))), (102, .arr 3 (Enc.int .i64) ([] : (List Int))), (115, .box 81 [.v (Enc.int .i64) z39.1, .v (Enc.int .i64) z39.2.1, .v (Enc.int .i64) z39.2.2.1, .v eBlk z39.2.2.2])]⟩) ?_ ?_
      · rcases Bool.eq_false_or_eq_true (cm .leq z39.1 s25.1) with hc44 | hc44
        · replace hx := cond_t hc44 hx
          obtain rfl := Option.some.inj hx
          exact (J.cons (.none rfl) (JO.fieldPtr 0 rfl Try.runUnderlying81 rfl Try.sizeOf3 rfl rfl) rfl rfl (J.cons (.none rfl) (JO.load rfl rfl rfl Try.isAgg3 Try.sizeOf3) rfl rfl (J.cons (.none rfl) (JO.move rfl) rfl rfl (J.cons (.none rfl) (JO.cmp rfl rfl rfl) rfl rfl (J.cons (.none rfl) (JO.move rfl) rfl rfl (J.left (GK.unmet 33 rfl rfl rfl hc44) rfl (J.left (GK.unmet 33 rfl rfl rfl hc44) rfl (J.left (GK.unmet 33 rfl rfl rfl hc44) rfl (J.left (GK.unmet 33 rfl rfl rfl hc44) rfl (J.left (GK.unmet 33 rfl rfl rfl hc44) rfl (J.cons (.none rfl) (JO.pT hc44 rfl rfl) rfl rfl (J.cons (.none rfl) (JO.move rfl) rfl rfl (J.left (GK.unmet 40 rfl rfl rfl rfl) rfl (J.left (GK.unmet 40 rfl rfl rfl rfl) rfl (J.left (GK.unmet 40 rfl rfl rfl rfl) rfl (J.cons (.none rfl) (JO.pT rfl rfl rfl) rfl rfl (J.cons (.none rfl) (JO.move rfl) rfl rfl (J.left (GK.unmet 45 rfl rfl rfl rfl) rfl (J.left (GK.unmet 45 rfl rfl rfl rfl) rfl (J.left (GK.unmet 45 rfl rfl rfl rfl) rfl (J.cons (.none rfl) (JO.pT rfl rfl rfl) rfl rfl (J.fin (Sw.Sub.mk id (.cons rfl (.of_eq rfl) (.cons rfl (.of_eq rfl) (.cons rfl (.of_eq rfl) (.cons rfl (.of_eq rfl) (.cons rfl (.of_eq rfl) (.cons rfl (.of_eq rfl) (.cons rfl (.of_eq rfl) (.cons rfl (.of_eq rfl) (.cons rfl (.of_eq rfl) (.cons rfl (.of_eq rfl) .nil)))))))))) (.arr rfl (.arr rfl (.box rfl (.cons (.of_eq rfl) (.cons (.of_eq rfl) (.cons (.of_eq rfl) (.cons (.of_eq rfl) .nil)))) .nil))) rfl)))))))))))))))))))))))
        · replace hx := cond_f hc44 hx
          rcases Bool.eq_false_or_eq_true (cm .geq z39.1 (a1.length : Int)) with hc45 | hc45
          · replace hx := cond_t hc45 hx
            obtain rfl := Option.some.inj hx
            exact (J.cons (.none rfl) (JO.fieldPtr 0 rfl Try.runUnderlying81 rfl Try.sizeOf3 rfl rfl) rfl rfl (J.cons (.none rfl) (JO.load rfl rfl rfl Try.isAgg3 Try.sizeOf3) rfl rfl (J.cons (.none rfl) (JO.move rfl) rfl rfl (J.cons (.none rfl) (JO.cmp rfl rfl rfl) rfl rfl (J.cons (.none rfl) (JO.move rfl) rfl rfl (J.cons (GK.met 33 rfl rfl rfl hc44) (JO.fieldPtr 0 rfl Try.runUnderlying81 rfl Try.sizeOf3 rfl rfl) rfl rfl (J.cons (GK.met 33 rfl rfl rfl hc44) (JO.load rfl rfl rfl Try.isAgg3 Try.sizeOf3) rfl rfl (J.cons (GK.met 33 rfl rfl rfl hc44) (JO.move rfl) rfl rfl (J.cons (GK.met 33 rfl rfl rfl hc44) (JO.len rfl Try.runUnderlying22) rfl rfl (J.cons (GK.met 33 rfl rfl rfl hc44) (JO.cmp rfl rfl rfl) rfl rfl (J.cons (.none rfl) (JO.pF hc44 rfl rfl) rfl rfl (J.cons (.none rfl) (JO.move rfl) rfl rfl (J.left (GK.unmet 40 rfl rfl rfl hc45) rfl (J.left (GK.unmet 40 rfl rfl rfl hc45) rfl (J.left (GK.unmet 40 rfl rfl rfl hc45) rfl (J.cons (.none rfl) (JO.pT hc45 rfl rfl) rfl rfl (J.cons (.none rfl) (JO.move rfl) rfl rfl (J.left (GK.unmet 45 rfl rfl rfl rfl) rfl (J.left (GK.unmet 45 rfl rfl rfl rfl) rfl (J.left (GK.unmet 45 rfl rfl rfl rfl) rfl (J.cons (.none rfl) (JO.pT rfl rfl rfl) rfl rfl (J.fin (Sw.Sub.mk id (.cons rfl (.of_eq rfl) (.cons rfl (.of_eq rfl) (.cons rfl (.of_eq rfl) (.cons rfl (.of_eq rfl) (.cons rfl (.of_eq rfl) (.cons rfl (.of_eq rfl) (.cons rfl (.of_eq rfl) (.cons rfl (.of_eq rfl) (.cons rfl (.of_eq rfl) (.cons rfl (.of_eq rfl) .nil)))))))))) (.arr rfl (.arr rfl (.box rfl (.cons (.of_eq rfl) (.cons (.of_eq rfl) (.cons (.of_eq rfl) (.cons (.of_eq rfl) .nil)))) .nil))) rfl)))))))))))))))))))))))
          · replace hx := cond_f hc45 hx
            rcases Bool.eq_false_or_eq_true (cm .lss z39.2.1 (0 : Int)) with hc46 | hc46
            · replace hx := cond_t hc46 hx
              obtain rfl := Option.some.inj hx
              exact (J.cons (.none rfl) (JO.fieldPtr 0 rfl Try.runUnderlying81 rfl Try.sizeOf3 rfl rfl) rfl rfl (J.cons (.none rfl) (JO.load rfl rfl rfl Try.isAgg3 Try.sizeOf3) rfl rfl (J.cons (.none rfl) (JO.move rfl) rfl rfl (J.cons (.none rfl) (JO.cmp rfl rfl rfl) rfl rfl (J.cons (.none rfl) (JO.move rfl) rfl rfl (J.cons (GK.met 33 rfl rfl rfl hc44) (JO.fieldPtr 0 rfl Try.runUnderlying81 rfl Try.sizeOf3 rfl rfl) rfl rfl (J.cons (GK.met 33 rfl rfl rfl hc44) (JO.load rfl rfl rfl Try.isAgg3 Try.sizeOf3) rfl rfl (J.cons (GK.met 33 rfl rfl rfl hc44) (JO.move rfl) rfl rfl (J.cons (GK.met 33 rfl rfl rfl hc44) (JO.len rfl Try.runUnderlying22) rfl rfl (J.cons (GK.met 33 rfl rfl rfl hc44) (JO.cmp rfl rfl rfl) rfl rfl (J.cons (.none rfl) (JO.pF hc44 rfl rfl) rfl rfl (J.cons (.none rfl) (JO.move rfl) rfl rfl (J.cons (GK.met 40 rfl rfl rfl hc45) (JO.fieldPtr 1 rfl Try.runUnderlying81 rfl Try.sizeOf3 rfl rfl) rfl rfl (J.cons (GK.met 40 rfl rfl rfl hc45) (JO.load rfl rfl rfl Try.isAgg3 Try.sizeOf3) rfl rfl (J.cons (GK.met 40 rfl rfl rfl hc45) (JO.cmp rfl rfl rfl) rfl rfl (J.cons (.none rfl) (JO.pF hc45 rfl rfl) rfl rfl (J.cons (.none rfl) (JO.move rfl) rfl rfl (J.left (GK.unmet 45 rfl rfl rfl hc46) rfl (J.left (GK.unmet 45 rfl rfl rfl hc46) rfl (J.left (GK.unmet 45 rfl rfl rfl hc46) rfl (J.cons (.none rfl) (JO.pT hc46 rfl rfl) rfl rfl (J.fin (Sw.Sub.mk id (.cons rfl (.of_eq rfl) (.cons rfl (.of_eq rfl) (.cons rfl (.of_eq rfl) (.cons rfl (.of_eq rfl) (.cons rfl (.of_eq rfl) (.cons rfl (.of_eq rfl) (.cons rfl (.of_eq rfl) (.cons rfl (.of_eq rfl) (.cons rfl (.of_eq rfl) (.cons rfl (.of_eq rfl) .nil)))))))))) (.arr rfl (.arr rfl (.box rfl (.cons (.of_eq rfl) (.cons (.of_eq rfl) (.cons (.of_eq rfl) (.cons (.of_eq rfl) .nil)))) .nil))) rfl)))))))))))))))))))))))
            · replace hx := cond_f hc46 hx
              obtain rfl := Option.some.inj hx
              exact (J.cons (.none rfl) (JO.fieldPtr 0 rfl Try.runUnderlying81 rfl Try.sizeOf3 rfl rfl) rfl rfl (J.cons (.none rfl) (JO.load rfl rfl rfl Try.isAgg3 Try.sizeOf3) rfl rfl (J.cons (.none rfl) (JO.move rfl) rfl rfl (J.cons (.none rfl) (JO.cmp rfl rfl rfl) rfl rfl (J.cons (.none rfl) (JO.move rfl) rfl rfl (J.cons (GK.met 33 rfl rfl rfl hc44) (JO.fieldPtr 0 rfl Try.runUnderlying81 rfl Try.sizeOf3 rfl rfl) rfl rfl (J.cons (GK.met 33 rfl rfl rfl hc44) (JO.load rfl rfl rfl Try.isAgg3 Try.sizeOf3) rfl rfl (J.cons (GK.met 33 rfl rfl rfl hc44) (JO.move rfl) rfl rfl (J.cons (GK.met 33 rfl rfl rfl hc44) (JO.len rfl Try.runUnderlying22) rfl rfl (J.cons (GK.met 33 rfl rfl rfl hc44) (JO.cmp rfl rfl rfl) rfl rfl (J.cons (.none rfl) (JO.pF hc44 rfl rfl) rfl rfl (J.cons (.none rfl) (JO.move rfl) rfl rfl (J.cons (GK.met 40 rfl rfl rfl hc45) (JO.fieldPtr 1 rfl Try.runUnderlying81 rfl Try.sizeOf3 rfl rfl) rfl rfl (J.cons (GK.met 40 rfl rfl rfl hc45) (JO.load rfl rfl rfl Try.isAgg3 Try.sizeOf3) rfl rfl (J.cons (GK.met 40 rfl rfl rfl hc45) (JO.cmp rfl rfl rfl) rfl rfl (J.cons (.none rfl) (JO.pF hc45 rfl rfl) rfl rfl (J.cons (.none rfl) (JO.move rfl) rfl rfl (J.cons (GK.met 45 rfl rfl rfl hc46) (JO.fieldPtr 1 rfl Try.runUnderlying81 rfl Try.sizeOf3 rfl rfl) rfl rfl (J.cons (GK.met 45 rfl rfl rfl hc46) (JO.load rfl rfl rfl Try.isAgg3 Try.sizeOf3) rfl rfl (J.cons (GK.met 45 rfl rfl rfl hc46) (JO.cmp rfl rfl rfl) rfl rfl (J.cons (.none rfl) (JO.pF hc46 rfl rfl) rfl rfl (J.fin (Sw.Sub.mk id (.cons rfl (.of_eq rfl) (.cons rfl (.of_eq rfl) (.cons rfl (.of_eq rfl) (.cons rfl (.of_eq rfl) (.cons rfl (.of_eq rfl) (.cons rfl (.of_eq rfl) (.cons rfl (.of_eq rfl) (.cons rfl (.of_eq rfl) (.cons rfl (.of_eq rfl) (.cons rfl (.of_eq rfl) .nil)))))))))) (.arr rfl (.arr rfl (.box rfl (.cons (.of_eq rfl) (.cons (.of_eq rfl) (.cons (.of_eq rfl) (.cons (.of_eq rfl) .nil)))) .nil))) rfl)))))))))))))))))))))))
      rcases Bool.eq_false_or_eq_true x43 with hc47 | hc47
      · replace h := cond_t hc47 h
        refine W.condT rfl hc47 ?_
        refine W.seq ?_
        refine W.reg (σ' := ⟨[(6, .ref 116), (7, .ref 117), (8, .v (Enc.err ET) (some (1 : Int)))], [(116, .arr 85 (Enc.pr (Enc.int .i64) eBlk) ([] : (List (Int × Blk)))), (117, .arr 3 (Enc.int .i64) ([] : (List Int)))]⟩) (J.cons (.none rfl) (JO.mkErr Try.runUnderlying25 rfl) rfl rfl (J.cons (.none rfl) (JO.assignNilR 116 85 (Enc.pr (Enc.int .i64) eBlk)) rfl rfl (J.cons (.none rfl) (JO.assignNilR 117 3 (Enc.int .i64)) rfl rfl (J.cons (.none rfl) (JO.assign rfl) rfl rfl (J.fin (Sw.Sub.mk id (.cons rfl (.of_eq rfl) (.cons rfl (.of_eq rfl) (.cons rfl (.of_eq rfl) .nil))) (.arr rfl (.arr rfl .nil)) rfl)))))) ?_
        refine W.ret ?_
        refine XQ.ret ?_
        obtain rfl := Option.some.inj h
        refine XQ.lret fun ho => ?_
        obtain rfl := hr36 _ ho
        exact XQ.sub (σ' := ⟨[(6, .v (Enc.sl (Enc.pr (Enc.int .i64) eBlk)) ([] : (List (Int × Blk)))), (7, .v (Enc.sl (Enc.int .i64)) ([] : (List Int))), (8, .v (Enc.err ET) (some (1 : Int)))], []⟩) (Sw.Sub.mk id (.cons rfl (.frz rfl rfl) (.cons rfl (.frz rfl rfl) (.cons rfl (.of_eq rfl) .nil))) .nil rfl) (XQ.ret3 hF noR rfl (RV.tmp rfl) (RV.tmp rfl) (RV.tmp rfl) .nil rfl)
      · replace h := cond_f hc47 h
        refine W.condF rfl hc47 ?_
        refine W.skip ?_
        refine W.reg (σ' := ⟨[(0, .v (Enc.sl (Enc.pr (Enc.int .i64) (Enc.pr (Enc.int .i64) (Enc.pr (Enc.int .i64) eBlk)))) a0), (1, .v (Enc.sl eBlk) a1), (2, .v (Enc.sl eBlk) a2), (6, .ref 101), (7, .ref 102), (10, .v (Enc.int .i64) z39.1), (23, .v (Enc.sl (Enc.pr (Enc.int .i64) (Enc.pr (Enc.int .i64) (Enc.pr (Enc.int .i64) eBlk)))) a0), (24, .v (Enc.int .i64) (a0.length : Int)), (25, .v (Enc.int .i64) s25.2)], [(101, .arr 85 (Enc.pr (Enc.int .i64) eBlk) ([] : (List (Int × Blk)))), (102, .arr 3 (Enc.int .i64) ([] : (List Int)))]⟩) (J.cons (.none rfl) (JO.fieldPtr 0 rfl Try.runUnderlying81 rfl Try.sizeOf3 rfl rfl) rfl rfl (J.cons (.none rfl) (JO.load rfl rfl rfl Try.isAgg3 Try.sizeOf3) rfl rfl (J.cons (.none rfl) (JO.assign rfl) rfl rfl (J.fin (Sw.Sub.mk id (.cons rfl (.of_eq rfl) (.cons rfl (.of_eq rfl) (.cons rfl (.of_eq rfl) (.cons rfl (.of_eq rfl) (.cons rfl (.of_eq rfl) (.cons rfl (.of_eq rfl) (.cons rfl (.of_eq rfl) (.cons rfl (.of_eq rfl) (.cons rfl (.of_eq rfl) .nil))))))))) (.arr rfl (.arr rfl .nil)) rfl))))) ?_
        refine W.fall ?_
        refine W.reg (σ' := ⟨[(0, .v (Enc.sl (Enc.pr (Enc.int .i64) (Enc.pr (Enc.int .i64) (Enc.pr (Enc.int .i64) eBlk)))) a0), (1, .v (Enc.sl eBlk) a1), (2, .v (Enc.sl eBlk) a2), (6, .ref 101), (7, .ref 102), (10, .v (Enc.int .i64) z39.1), (23, .v (Enc.sl (Enc.pr (Enc.int .i64) (Enc.pr (Enc.int .i64) (Enc.pr (Enc.int .i64) eBlk)))) a0), (24, .v (Enc.int .i64) (a0.length : Int)), (25, .v (Enc.int .i64) (ar .add .i64 s25.2 (1 : Int)))], [(101, .arr 85 (Enc.pr (Enc.int .i64) eBlk) ([] : (List (Int × Blk)))), (102, .arr 3 (Enc.int .i64) ([] : (List Int)))]⟩) (J.cons (.none rfl) (JO.arith rfl rfl rfl) rfl rfl (J.cons (.none rfl) (JO.move rfl) rfl rfl (J.fin (Sw.Sub.mk id (.cons rfl (.of_eq rfl) (.cons rfl (.of_eq rfl) (.cons rfl (.of_eq rfl) (.cons rfl (.of_eq rfl) (.cons rfl (.of_eq rfl) (.cons rfl (.of_eq rfl) (.cons rfl (.of_eq rfl) (.cons rfl (.of_eq rfl) (.cons rfl (.of_eq rfl) .nil))))))))) (.arr rfl (.arr rfl .nil)) rfl)))) ?_
        obtain rfl := Option.some.inj h
        exact W.next (Sw.Sub.mk id (.cons rfl (.of_eq rfl) (.cons rfl (.of_eq rfl) (.cons rfl (.of_eq rfl) (.cons rfl (.of_eq rfl) (.cons rfl (.of_eq rfl) (.cons rfl (.of_eq rfl) (.cons rfl (.of_eq rfl) (.cons rfl (.of_eq rfl) (.cons rfl (.of_eq rfl) .nil))))))))) (.arr rfl (.arr rfl .nil)) rfl)
    · replace h := cond_f hc38 h
      refine W.condF rfl hc38 ?_
      refine W.exit ?_
      obtain rfl := Option.some.inj h
      exact XQ.brk (Sw.Sub.mk id (.cons rfl (.of_eq rfl) (.cons rfl (.of_eq rfl) (.cons rfl (.of_eq rfl) (.cons rfl (.of_eq rfl) (.cons rfl (.of_eq rfl) .nil))))) (.arr rfl (.arr rfl .nil)) rfl)
set_option maxRecDepth 100000 in
set_option maxHeartbeats 4000000 in
theorem con_ref_Is {a0 : (Option Int)} {a1 : Int} {r : Bool} (h : m_ref_Is a0 a1 = some r) :
    Con Try.prog 18 [.v (Enc.err ET) a0, .v (Enc.int .i64) a1] (.v Enc.bool r) [] := by
  refine Con.of Try.func18 rfl Try.ntmps18 rfl ?_
  intro S w hF
  unfold m_ref_Is at h
  refine W.seq ?_
  refine W.reg (σ' := ⟨[(0, .v (Enc.err ET) a0), (1, .v (Enc.int .i64) a1)], []⟩) (J.cons (.none rfl) (JO.assign rfl) rfl rfl (J.fin (Sw.Sub.mk id (.cons rfl (.of_eq rfl) (.cons rfl (.of_eq rfl) .nil)) .nil rfl))) ?_
  refine W.seq ?_
  refine W.seq ?_
  refine W.reg (σ' := ⟨[(0, .v (Enc.err ET) a0), (1, .v (Enc.int .i64) a1), (6, .v Enc.bool (Option.isNone a0))], []⟩) (J.cons (.none rfl) (JO.move rfl) rfl rfl (J.cons (.none rfl) (JO.errEq Try.runUnderlying29 rfl) rfl rfl (J.fin (Sw.Sub.mk id (.cons rfl (.of_eq rfl) (.cons rfl (.of_eq rfl) (.cons rfl (.of_eq rfl) .nil))) .nil rfl)))) ?_
  rcases Bool.eq_false_or_eq_true (Option.isNone a0) with hc1 | hc1
  · replace h := cond_t hc1 h
    refine W.condT rfl hc1 ?_
    refine W.seq ?_
    refine W.reg (σ' := ⟨[(4, .v Enc.bool (cm .eql a1 (0 : Int)))], []⟩) (J.cons (.none rfl) (JO.move rfl) rfl rfl (J.cons (.none rfl) (JO.cmp rfl rfl rfl) rfl rfl (J.cons (.none rfl) (JO.assign rfl) rfl rfl (J.fin (Sw.Sub.mk id (.cons rfl (.of_eq rfl) .nil) .nil rfl))))) ?_
    refine W.ret ?_
    obtain rfl := Option.some.inj h
    exact XQ.sub (σ' := ⟨[(4, .v Enc.bool (cm .eql a1 (0 : Int)))], []⟩) (Sw.Sub.mk id (.cons rfl (.of_eq rfl) .nil) .nil rfl) (XQ.ret1 hF noR rfl (RV.tmp rfl) .nil rfl)
  · replace h := cond_f hc1 h
    refine W.condF rfl hc1 ?_
    refine W.skip ?_
    refine W.seq ?_
    obtain ⟨x3, hx, h⟩ := bind_e h
    refine W.reg (σ' := ⟨[(4, .v Enc.bool x3)], []⟩) ?_ ?_
    · rcases Bool.eq_false_or_eq_true (cm .neq a1 (0 : Int)) with hc4 | hc4
      · replace hx := cond_t hc4 hx
        obtain rfl := Option.some.inj hx
        exact (J.cons (.none rfl) (JO.move rfl) rfl rfl (J.cons (.none rfl) (JO.cmp rfl rfl rfl) rfl rfl (J.cons (.none rfl) (JO.move rfl) rfl rfl (J.cons (GK.met 11 rfl rfl rfl hc4) (JO.move rfl) rfl rfl (J.cons (GK.met 11 rfl rfl rfl hc4) (JO.move rfl) rfl rfl (J.cons (GK.met 11 rfl rfl rfl hc4) (JO.mkErr Try.runUnderlying25 rfl) rfl rfl (J.cons (GK.met 11 rfl rfl rfl hc4) (JO.errEq2 Try.runUnderlying29 Try.runUnderlying25 Try.typeInfo25 rfl rfl rfl) rfl rfl (J.cons (.none rfl) (JO.pT hc4 rfl rfl) rfl rfl (J.cons (.none rfl) (JO.assign rfl) rfl rfl (J.fin (Sw.Sub.mk id (.cons rfl (.of_eq rfl) .nil) .nil rfl)))))))))))
      · replace hx := cond_f hc4 hx
        obtain rfl := Option.some.inj hx
        exact (J.cons (.none rfl) (JO.move rfl) rfl rfl (J.cons (.none rfl) (JO.cmp rfl rfl rfl) rfl rfl (J.cons (.none rfl) (JO.move rfl) rfl rfl (J.left (GK.unmet 11 rfl rfl rfl hc4) rfl (J.left (GK.unmet 11 rfl rfl rfl hc4) rfl (J.left (GK.unmet 11 rfl rfl rfl hc4) rfl (J.left (GK.unmet 11 rfl rfl rfl hc4) rfl (J.cons (.none rfl) (JO.pF hc4 rfl rfl) rfl rfl (J.cons (.none rfl) (JO.assign rfl) rfl rfl (J.fin (Sw.Sub.mk id (.cons rfl (.of_eq rfl) .nil) .nil rfl)))))))))))
    refine W.ret ?_
    obtain rfl := Option.some.inj h
    exact XQ.sub (σ' := ⟨[(4, .v Enc.bool x3)], []⟩) (Sw.Sub.mk id (.cons rfl (.of_eq rfl) .nil) .nil rfl) (XQ.ret1 hF noR rfl (RV.tmp rfl) .nil rfl)
set_option maxRecDepth 100000 in
set_option maxHeartbeats 4000000 in
theorem con_ref_SamePuts {a0 : (List (Int × Blk))} {a1 : (List (Int × Blk))} {r : Bool} (h : m_ref_SamePuts a0 a1 = some r) :
    Con Try.prog 46 [.v (Enc.sl (Enc.pr (Enc.int .i64) eBlk)) a0, .v (Enc.sl (Enc.pr (Enc.int .i64) eBlk)) a1] (.v Enc.bool r) [] := by
  refine Con.of Try.func46 rfl Try.ntmps46 rfl ?_
  intro S w hF
  unfold m_ref_SamePuts at h
  refine W.seq ?_
  refine W.reg (σ' := ⟨[(0, .v (Enc.sl (Enc.pr (Enc.int .i64) eBlk)) a0), (1, .v (Enc.sl (Enc.pr (Enc.int .i64) eBlk)) a1)], []⟩) (J.cons (.none rfl) (JO.assign rfl) rfl rfl (J.fin (Sw.Sub.mk id (.cons rfl (.of_eq rfl) (.cons rfl (.of_eq rfl) .nil)) .nil rfl))) ?_
  refine W.seq ?_
  refine W.seq ?_
  refine W.reg (σ' := ⟨[(0, .v (Enc.sl (Enc.pr (Enc.int .i64) eBlk)) a0), (1, .v (Enc.sl (Enc.pr (Enc.int .i64) eBlk)) a1), (10, .v Enc.bool (cm .neq (a0.length : Int) (a1.length : Int)))], []⟩) (J.cons (.none rfl) (JO.move rfl) rfl rfl (J.cons (.none rfl) (JO.len rfl Try.runUnderlying47) rfl rfl (J.cons (.none rfl) (JO.move rfl) rfl rfl (J.cons (.none rfl) (JO.len rfl Try.runUnderlying47) rfl rfl (J.cons (.none rfl) (JO.cmp rfl rfl rfl) rfl rfl (J.fin (Sw.Sub.mk id (.cons rfl (.of_eq rfl) (.cons rfl (.of_eq rfl) (.cons rfl (.of_eq rfl) .nil))) .nil rfl))))))) ?_
  rcases Bool.eq_false_or_eq_true (cm .neq (a0.length : Int) (a1.length : Int)) with hc1 | hc1
  · replace h := cond_t hc1 h
    refine W.condT rfl hc1 ?_
    refine W.seq ?_
    refine W.reg (σ' := ⟨[(4, .v Enc.bool false)], []⟩) (J.cons (.none rfl) (JO.assign rfl) rfl rfl (J.fin (Sw.Sub.mk id (.cons rfl (.of_eq rfl) .nil) .nil rfl))) ?_
    refine W.ret ?_
    obtain rfl := Option.some.inj h
    exact XQ.sub (σ' := ⟨[(4, .v Enc.bool false)], []⟩) (Sw.Sub.mk id (.cons rfl (.of_eq rfl) .nil) .nil rfl) (XQ.ret1 hF noR rfl (RV.tmp rfl) .nil rfl)
  · replace h := cond_f hc1 h
    refine W.condF rfl hc1 ?_
    refine W.skip ?_
    refine W.seq ?_
    refine W.seq ?_
    refine W.reg (σ' := ⟨[(0, .v (Enc.sl (Enc.pr (Enc.int .i64) eBlk)) a0), (1, .v (Enc.sl (Enc.pr (Enc.int .i64) eBlk)) a1), (5, .v (Enc.int .i64) (0 : Int))], []⟩) (J.cons (.none rfl) (JO.assign rfl) rfl rfl (J.fin (Sw.Sub.mk id (.cons rfl (.of_eq rfl) (.cons rfl (.of_eq rfl) (.cons rfl (.of_eq rfl) .nil))) .nil rfl))) ?_
    obtain ⟨o17, ho17, hb17, hr17⟩ := lp_elim h
    refine W.lp (σs := fun s12 : Int => ⟨[(0, .v (Enc.sl (Enc.pr (Enc.int .i64) eBlk)) a0), (1, .v (Enc.sl (Enc.pr (Enc.int .i64) eBlk)) a1), (5, .v (Enc.int .i64) s12)], []⟩) (fun x18 : Unit => ⟨[], []⟩) ho17 (Sw.Sub.mk id (.cons rfl (.of_eq rfl) (.cons rfl (.of_eq rfl) (.cons rfl (.of_eq rfl) .nil))) .nil rfl) ?_ ?_
    · intro x18 hy
      have h := hb17 _ hy
      refine W.seq ?_
      refine W.reg (σ' := ⟨[(4, .v Enc.bool true)], []⟩) (J.cons (.none rfl) (JO.assign rfl) rfl rfl (J.fin (Sw.Sub.mk id (.cons rfl (.of_eq rfl) .nil) .nil rfl))) ?_
      refine W.ret ?_
      obtain rfl := Option.some.inj h
      exact XQ.sub (σ' := ⟨[(4, .v Enc.bool true)], []⟩) (Sw.Sub.mk id (.cons rfl (.of_eq rfl) .nil) .nil rfl) (XQ.ret1 hF noR rfl (RV.tmp rfl) .nil rfl)
    intro s12 r17 h
    refine W.seq ?_
    refine W.seq ?_
    refine W.reg (σ' := ⟨[(0, .v (Enc.sl (Enc.pr (Enc.int .i64) eBlk)) a0), (1, .v (Enc.sl (Enc.pr (Enc.int .i64) eBlk)) a1), (5, .v (Enc.int .i64) s12), (14, .v Enc.bool (cm .lss s12 (a0.length : Int)))], []⟩) (J.cons (.none rfl) (JO.move rfl) rfl rfl (J.cons (.none rfl) (JO.move rfl) rfl rfl (J.cons (.none rfl) (JO.len rfl Try.runUnderlying47) rfl rfl (J.cons (.none rfl) (JO.cmp rfl rfl rfl) rfl rfl (J.fin (Sw.Sub.mk id (.cons rfl (.of_eq rfl) (.cons rfl (.of_eq rfl) (.cons rfl (.of_eq rfl) (.cons rfl (.of_eq rfl) .nil)))) .nil rfl)))))) ?_
    rcases Bool.eq_false_or_eq_true (cm .lss s12 (a0.length : Int)) with hc19 | hc19
    · replace h := cond_t hc19 h
      refine W.condT rfl hc19 ?_
      refine W.skip ?_
      refine W.seq ?_
      refine W.block ?_
      refine W.seq ?_
      obtain ⟨z20, hz20, h⟩ := bind_e h
      obtain ⟨z21, hz21, h⟩ := bind_e h
      refine W.dr (σ' := ⟨[(0, .v (Enc.sl (Enc.pr (Enc.int .i64) eBlk)) a0), (1, .v (Enc.sl (Enc.pr (Enc.int .i64) eBlk)) a1), (5, .v (Enc.int .i64) s12), (25, .v Enc.bool (!decide (z20 = z21)))], []⟩) 9 mixed (by exact (.cons (.none rfl) (JO.move rfl) rfl rfl (.cons (.none rfl) (JO.move rfl) rfl rfl (.cons (.none rfl) (JO.idx hz20 rfl rfl Try.runUnderlying47 Try.sizeOf85) rfl rfl (.cons (.none rfl) (JO.loadPst rfl Try.isAgg85 Try.sizeOf85) rfl rfl (.cons (.none rfl) (JO.move rfl) rfl rfl (.cons (.none rfl) (JO.move rfl) rfl rfl (.cons (.none rfl) (JO.idx hz21 rfl rfl Try.runUnderlying47 Try.sizeOf85) rfl rfl (.cons (.none rfl) (JO.loadPst rfl Try.isAgg85 Try.sizeOf85) rfl rfl (.cons (.none rfl) (JO.neV eq85 rfl rfl Try.eqGuardType85 rfl rfl) rfl rfl .nil)))))))))) (by exact (J.fin (Sw.Sub.mk id (.cons rfl (.of_eq rfl) (.cons rfl (.of_eq rfl) (.cons rfl (.of_eq rfl) (.cons rfl (.of_eq rfl) .nil)))) .nil rfl))) (by decide +kernel) (by decide +kernel) (by decide +kernel) ?_
      rcases Bool.eq_false_or_eq_true (!decide (z20 = z21)) with hc22 | hc22
      · replace h := cond_t hc22 h
        refine W.condT rfl hc22 ?_
        refine W.seq ?_
        refine W.reg (σ' := ⟨[(4, .v Enc.bool false)], []⟩) (J.cons (.none rfl) (JO.assign rfl) rfl rfl (J.fin (Sw.Sub.mk id (.cons rfl (.of_eq rfl) .nil) .nil rfl))) ?_
        refine W.ret ?_
        refine XQ.ret ?_
        obtain rfl := Option.some.inj h
        refine XQ.lret fun ho => ?_
        obtain rfl := hr17 _ ho
        exact XQ.sub (σ' := ⟨[(4, .v Enc.bool false)], []⟩) (Sw.Sub.mk id (.cons rfl (.of_eq rfl) .nil) .nil rfl) (XQ.ret1 hF noR rfl (RV.tmp rfl) .nil rfl)
      · replace h := cond_f hc22 h
        refine W.condF rfl hc22 ?_
        refine W.skip ?_
        refine W.fall ?_
        refine W.reg (σ' := ⟨[(0, .v (Enc.sl (Enc.pr (Enc.int .i64) eBlk)) a0), (1, .v (Enc.sl (Enc.pr (Enc.int .i64) eBlk)) a1), (5, .v (Enc.int .i64) (ar .add .i64 s12 (1 : Int)))], []⟩) (J.cons (.none rfl) (JO.move rfl) rfl rfl (J.cons (.none rfl) (JO.arith rfl rfl rfl) rfl rfl (J.cons (.none rfl) (JO.assign rfl) rfl rfl (J.fin (Sw.Sub.mk id (.cons rfl (.of_eq rfl) (.cons rfl (.of_eq rfl) (.cons rfl (.of_eq rfl) .nil))) .nil rfl))))) ?_
        obtain rfl := Option.some.inj h
        exact W.next (Sw.Sub.mk id (.cons rfl (.of_eq rfl) (.cons rfl (.of_eq rfl) (.cons rfl (.of_eq rfl) .nil))) .nil rfl)
    · replace h := cond_f hc19 h
      refine W.condF rfl hc19 ?_
      refine W.exit ?_
      obtain rfl := Option.some.inj h
      exact XQ.brk (Sw.Sub.mk id .nil .nil rfl)
set_option maxRecDepth 100000 in
set_option maxHeartbeats 4000000 in
theorem con_ref_SameInts {a0 : (List Int)} {a1 : (List Int)} {r : Bool} (h : m_ref_SameInts a0 a1 = some r) :
    Con Try.prog 47 [.v (Enc.sl (Enc.int .i64)) a0, .v (Enc.sl (Enc.int .i64)) a1] (.v Enc.bool r) [] := by
  refine Con.of Try.func47 rfl Try.ntmps47 rfl ?_
  intro S w hF
  unfold m_ref_SameInts at h
  refine W.seq ?_
  refine W.reg (σ' := ⟨[(0, .v (Enc.sl (Enc.int .i64)) a0), (1, .v (Enc.sl (Enc.int .i64)) a1)], []⟩) (J.cons (.none rfl) (JO.assign rfl) rfl rfl (J.fin (Sw.Sub.mk id (.cons rfl (.of_eq rfl) (.cons rfl (.of_eq rfl) .nil)) .nil rfl))) ?_
  refine W.seq ?_
  refine W.seq ?_
  refine W.reg (σ' := ⟨[(0, .v (Enc.sl (Enc.int .i64)) a0), (1, .v (Enc.sl (Enc.int .i64)) a1), (10, .v Enc.bool (cm .neq (a0.length : Int) (a1.length : Int)))], []⟩) (J.cons (.none rfl) (JO.move rfl) rfl rfl (J.cons (.none rfl) (JO.len rfl Try.runUnderlying36) rfl rfl (J.cons (.none rfl) (JO.move rfl) rfl rfl (J.cons (.none rfl) (JO.len rfl Try.runUnderlying36) rfl rfl (J.cons (.none rfl) (JO.cmp rfl rfl rfl) rfl rfl (J.fin (Sw.Sub.mk id (.cons rfl (.of_eq rfl) (.cons rfl (.of_eq rfl) (.cons rfl (.of_eq rfl) .nil))) .nil rfl))))))) ?_
  rcases Bool.eq_false_or_eq_true (cm .neq (a0.length : Int) (a1.length : Int)) with hc1 | hc1
  · replace h := cond_t hc1 h
    refine W.condT rfl hc1 ?_
    refine W.seq ?_
    refine W.reg (σ' := ⟨[(4, .v Enc.bool false)], []⟩) (J.cons (.none rfl) (JO.assign rfl) rfl rfl (J.fin (Sw.Sub.mk id (.cons rfl (.of_eq rfl) .nil) .nil rfl))) ?_
    refine W.ret ?_
    obtain rfl := Option.some.inj h
    exact XQ.sub (σ' := ⟨[(4, .v Enc.bool false)], []⟩) (Sw.Sub.mk id (.cons rfl (.of_eq rfl) .nil) .nil rfl) (XQ.ret1 hF noR rfl (RV.tmp rfl) .nil rfl)
  · replace h := cond_f hc1 h
    refine W.condF rfl hc1 ?_
    refine W.skip ?_
    refine W.seq ?_
    refine W.seq ?_
    refine W.reg (σ' := ⟨[(0, .v (Enc.sl (Enc.int .i64)) a0), (1, .v (Enc.sl (Enc.int .i64)) a1), (5, .v (Enc.int .i64) (0 : Int))], []⟩) (J.cons (.none rfl) (JO.assign rfl) rfl rfl (J.fin (Sw.Sub.mk id (.cons rfl (.of_eq rfl) (.cons rfl (.of_eq rfl) (.cons rfl (.of_eq rfl) .nil))) .nil rfl))) ?_
    obtain ⟨o17, ho17, hb17, hr17⟩ := lp_elim h
    refine W.lp (σs := fun s12 : Int => ⟨[(0, .v (Enc.sl (Enc.int .i64)) a0), (1, .v (Enc.sl (Enc.int .i64)) a1), (5, .v (Enc.int .i64) s12)], []⟩) (fun x18 : Unit => ⟨[], []⟩) ho17 (Sw.Sub.mk id (.cons rfl (.of_eq rfl) (.cons rfl (.of_eq rfl) (.cons rfl (.of_eq rfl) .nil))) .nil rfl) ?_ ?_
    · intro x18 hy
      have h := hb17 _ hy
      refine W.seq ?_
      refine W.reg (σ' := ⟨[(4, .v Enc.bool true)], []⟩) (J.cons (.none rfl) (JO.assign rfl) rfl rfl (J.fin (Sw.Sub.mk id (.cons rfl (.of_eq rfl) .nil) .nil rfl))) ?_
      refine W.ret ?_
      obtain rfl := Option.some.inj h
      exact XQ.sub (σ' := ⟨[(4, .v Enc.bool true)], []⟩) (Sw.Sub.mk id (.cons rfl (.of_eq rfl) .nil) .nil rfl) (XQ.ret1 hF noR rfl (RV.tmp rfl) .nil rfl)
    intro s12 r17 h
    refine W.seq ?_
    refine W.seq ?_
    refine W.reg (σ' := ⟨[(0, .v (Enc.sl (Enc.int .i64)) a0), (1, .v (Enc.sl (Enc.int .i64)) a1), (5, .v (Enc.int .i64) s12), (14, .v Enc.bool (cm .lss s12 (a0.length : Int)))], []⟩) (J.cons (.none rfl) (JO.move rfl) rfl rfl (J.cons (.none rfl) (JO.move rfl) rfl rfl (J.cons (.none rfl) (JO.len rfl Try.runUnderlying36) rfl rfl (J.cons (.none rfl) (JO.cmp rfl rfl rfl) rfl rfl (J.fin (Sw.Sub.mk id (.cons rfl (.of_eq rfl) (.cons rfl (.of_eq rfl) (.cons rfl (.of_eq rfl) (.cons rfl (.of_eq rfl) .nil)))) .nil rfl)))))) ?_
    rcases Bool.eq_false_or_eq_true (cm .lss s12 (a0.length : Int)) with hc19 | hc19
    · replace h := cond_t hc19 h
      refine W.condT rfl hc19 ?_
      refine W.skip ?_
      refine W.seq ?_
      refine W.block ?_
      refine W.seq ?_
      obtain ⟨z20, hz20, h⟩ := bind_e h
      obtain ⟨z21, hz21, h⟩ := bind_e h
      refine W.dr (σ' := ⟨[(0, .v (Enc.sl (Enc.int .i64)) a0), (1, .v (Enc.sl (Enc.int .i64)) a1), (5, .v (Enc.int .i64) s12), (25, .v Enc.bool (cm .neq z20 z21))], []⟩) 9 mixed (by exact (.cons (.none rfl) (JO.move rfl) rfl rfl (.cons (.none rfl) (JO.move rfl) rfl rfl (.cons (.none rfl) (JO.idx hz20 rfl rfl Try.runUnderlying36 Try.sizeOf3) rfl rfl (.cons (.none rfl) (JO.loadPst rfl Try.isAgg3 Try.sizeOf3) rfl rfl (.cons (.none rfl) (JO.move rfl) rfl rfl (.cons (.none rfl) (JO.move rfl) rfl rfl (.cons (.none rfl) (JO.idx hz21 rfl rfl Try.runUnderlying36 Try.sizeOf3) rfl rfl (.cons (.none rfl) (JO.loadPst rfl Try.isAgg3 Try.sizeOf3) rfl rfl (.cons (.none rfl) (JO.cmp rfl rfl rfl) rfl rfl .nil)))))))))) (by exact (J.fin (Sw.Sub.mk id (.cons rfl (.of_eq rfl) (.cons rfl (.of_eq rfl) (.cons rfl (.of_eq rfl) (.cons rfl (.of_eq rfl) .nil)))) .nil rfl))) (by decide +kernel) (by decide +kernel) (by decide +kernel) ?_
      rcases Bool.eq_false_or_eq_true (cm .neq z20 z21) with hc22 | hc22
      · replace h := cond_t hc22 h
        refine W.condT rfl hc22 ?_
        refine W.seq ?_
        refine W.reg (σ' := ⟨[(4, .v Enc.bool false)], []⟩) (J.cons (.none rfl) (JO.assign rfl) rfl rfl (J.fin (Sw.Sub.mk id (.cons rfl (.of_eq rfl) .nil) .nil rfl))) ?_
        refine W.ret ?_
        refine XQ.ret ?_
        obtain rfl := Option.some.inj h
        refine XQ.lret fun ho => ?_
        obtain rfl := hr17 _ ho
        exact XQ.sub (σ' := ⟨[(4, .v Enc.bool false)], []⟩) (Sw.Sub.mk id (.cons rfl (.of_eq rfl) .nil) .nil rfl) (XQ.ret1 hF noR rfl (RV.tmp rfl) .nil rfl)
      · replace h := cond_f hc22 h
        refine W.condF rfl hc22 ?_
        refine W.skip ?_
        refine W.fall ?_
        refine W.reg (σ' := ⟨[(0, .v (Enc.sl (Enc.int .i64)) a0), (1, .v (Enc.sl (Enc.int .i64)) a1), (5, .v (Enc.int .i64) (ar .add .i64 s12 (1 : Int)))], []⟩) (J.cons (.none rfl) (JO.move rfl) rfl rfl (J.cons (.none rfl) (JO.arith rfl rfl rfl) rfl rfl (J.cons (.none rfl) (JO.assign rfl) rfl rfl (J.fin (Sw.Sub.mk id (.cons rfl (.of_eq rfl) (.cons rfl (.of_eq rfl) (.cons rfl (.of_eq rfl) .nil))) .nil rfl))))) ?_
        obtain rfl := Option.some.inj h
        exact W.next (Sw.Sub.mk id (.cons rfl (.of_eq rfl) (.cons rfl (.of_eq rfl) (.cons rfl (.of_eq rfl) .nil))) .nil rfl)
    · replace h := cond_f hc19 h
      refine W.condF rfl hc19 ?_
      refine W.exit ?_
      obtain rfl := Option.some.inj h
      exact XQ.brk (Sw.Sub.mk id .nil .nil rfl)
set_option maxRecDepth 100000 in
set_option maxHeartbeats 4000000 in
theorem con_ref_OwnBlocks {a0 : (List Blk)} {r : (List Blk)} (h : m_ref_OwnBlocks a0 = some r) :
    Con Try.prog 48 [.v (Enc.sl eBlk) a0] (.ref 0) [(0, .arr 24 eBlk r)] := by
  refine Con.of Try.func48 rfl Try.ntmps48 rfl ?_
  intro S w hF
  unfold m_ref_OwnBlocks at h
  refine W.seq ?_
  refine W.reg (σ' := ⟨[(0, .v (Enc.sl eBlk) a0)], []⟩) (J.cons (.none rfl) (JO.assignNilR 101 24 eBlk) rfl rfl (J.fin (Sw.Sub.mk id (.cons rfl (.of_eq rfl) .nil) .nil rfl))) ?_
  refine W.seq ?_
  obtain ⟨v1, hv1, h⟩ := bind_e h
  refine W.reg (σ' := ⟨[(2, .ref 103)], [(103, .arr 24 eBlk v1)]⟩) (J.cons (.none rfl) (JO.litR (e := eBlk) 102 Try.runUnderlying22 Try.sizeOf24 Try.zeroValue24 rfl rfl rfl rfl .nil) rfl rfl (J.cons (.none rfl) (JO.move rfl) rfl rfl (J.mut (.none rfl) (JM.append 103 hv1 rfl rfl (.sl rfl) Try.runUnderlying22 Try.typeInfo24 Try.sizeOf24 rfl rfl rfl rfl rfl) (J.cons (.none rfl) (JO.assign rfl) rfl rfl (J.fin (Sw.Sub.mk id (.cons rfl (.of_eq rfl) .nil) (.arr rfl .nil) rfl)))))) ?_
  refine W.ret ?_
  obtain rfl := Option.some.inj h
  exact XQ.sub (σ' := ⟨[(2, .ref 0)], [(0, .arr 24 eBlk v1)]⟩) (Sw.Sub.mk (rn [(0, 103)]) (.cons rfl (.of_eq rfl) .nil) (.arr rfl .nil) rfl) (XQ.ret1 hF noR rfl (RV.tmp rfl) (.cons rfl .nil) rfl)
set_option maxRecDepth 100000 in
set_option maxHeartbeats 4000000 in
theorem con_ref_Touched {a0 : (List Blk)} {a1 : Blk} {r : (List Blk)} (h : m_ref_Touched a0 a1 = some r) :
    Con Try.prog 16 [.v (Enc.sl eBlk) a0, .v eBlk a1] (.v (Enc.sl eBlk) r) [] := by
  refine Con.of Try.func16 rfl Try.ntmps16 rfl ?_
  intro S w hF
  unfold m_ref_Touched at h
  refine W.seq ?_
  refine W.reg (σ' := ⟨[(0, .v (Enc.sl eBlk) a0), (3, .ptr 101 0)], [(101, .box 24 [.v eBlk a1])]⟩) (J.cons (.none rfl) (JO.box 101 rfl (.one _ _) rfl) rfl rfl (J.cons (.none rfl) (JO.assignNilR 102 24 eBlk) rfl rfl (J.fin (Sw.Sub.mk id (.cons rfl (.of_eq rfl) (.cons rfl (.of_eq rfl) .nil)) (.box rfl (.cons (.of_eq rfl) .nil) .nil) rfl)))) ?_
  refine W.seq ?_
  refine W.reg (σ' := ⟨[(0, .v (Enc.sl eBlk) a0), (3, .ptr 101 0), (5, .ref 103)], [(101, .box 24 [.v eBlk a1]), (103, .arr 24 eBlk ([a1] : (List Blk)))]⟩) (J.cons (.none rfl) (JO.load rfl rfl rfl Try.isAgg24 Try.sizeOf24) rfl rfl (J.cons (.none rfl) (JO.litR (e := eBlk) 103 Try.runUnderlying22 Try.sizeOf24 Try.zeroValue24 rfl rfl rfl rfl (.cons (.dir rfl) .nil)) rfl rfl (J.cons (.none rfl) (JO.assign rfl) rfl rfl (J.fin (Sw.Sub.mk id (.cons rfl (.of_eq rfl) (.cons rfl (.of_eq rfl) (.cons rfl (.of_eq rfl) .nil))) (.box rfl (.cons (.of_eq rfl) .nil) (.arr rfl .nil)) rfl))))) ?_
  refine W.seq ?_
  refine W.seq ?_
  refine W.reg (σ' := ⟨[(0, .v (Enc.sl eBlk) a0), (3, .ptr 101 0), (5, .ref 103), (6, .v (Enc.int .i64) (0 : Int))], [(101, .box 24 [.v eBlk a1]), (103, .arr 24 eBlk ([a1] : (List Blk)))]⟩) (J.cons (.none rfl) (JO.assign rfl) rfl rfl (J.fin (Sw.Sub.mk id (.cons rfl (.of_eq rfl) (.cons rfl (.of_eq rfl) (.cons rfl (.of_eq rfl) (.cons rfl (.of_eq rfl) .nil)))) (.box rfl (.cons (.of_eq rfl) .nil) (.arr rfl .nil)) rfl))) ?_
  obtain ⟨o28, ho28, hb28, hr28⟩ := lp_elim h
  refine W.lp (σs := fun s19 : Int × (List Blk) => ⟨[(0, .v (Enc.sl eBlk) a0), (3, .ptr 101 0), (5, .ref 109), (6, .v (Enc.int .i64) s19.1)], [(101, .box 24 [.v eBlk a1]), (109, .arr 24 eBlk s19.2)]⟩) (fun x29 : (List Blk) => ⟨[(5, .ref 109)], [(109, .arr 24 eBlk x29)]⟩) ho28 (Sw.Sub.mk (rn [(101, 101), (109, 103)]) (.cons rfl (.of_eq rfl) (.cons rfl (.of_eq rfl) (.cons rfl (.of_eq rfl) (.cons rfl (.of_eq rfl) .nil)))) (.box rfl (.cons (.of_eq rfl) .nil) (.arr rfl .nil)) rfl) ?_ ?_
  · intro x29 hy
    have h := hb28 _ hy
    refine W.seq ?_
    refine W.reg (σ' := ⟨[(4, .ref 109)], [(109, .arr 24 eBlk x29)]⟩) (J.cons (.none rfl) (JO.move rfl) rfl rfl (J.cons (.none rfl) (JO.assign rfl) rfl rfl (J.fin (Sw.Sub.mk id (.cons rfl (.of_eq rfl) .nil) (.arr rfl .nil) rfl)))) ?_
    refine W.ret ?_
    obtain rfl := Option.some.inj h
    exact XQ.sub (σ' := ⟨[(4, .v (Enc.sl eBlk) x29)], []⟩) (Sw.Sub.mk id (.cons rfl (.frz rfl rfl) .nil) .nil rfl) (XQ.ret1 hF noR rfl (RV.tmp rfl) .nil rfl)
  intro s19 r28 h
  refine W.seq ?_
  refine W.seq ?_
  obtain ⟨x31, hx, h⟩ := bind_e h
  refine W.reg (σ' := ⟨[(0, .v (Enc.sl eBlk) a0), (3, .ptr 101 0), (5, .ref 109), (6, .v (Enc.int .i64) s19.1), (17, .v Enc.bool x31)], [(101, .box 24 [.v eBlk a1]), (109, .arr 24 eBlk s19.2)]⟩) ?_ ?_
  · rcases Bool.eq_false_or_eq_true (cm .lss s19.1 (a0.length : Int)) with hc32 | hc32
    · replace hx := cond_t hc32 hx
      obtain rfl := Option.some.inj hx
      exact (J.cons (.none rfl) (JO.move rfl) rfl rfl (J.cons (.none rfl) (JO.move rfl) rfl rfl (J.cons (.none rfl) (JO.len rfl Try.runUnderlying22) rfl rfl (J.cons (.none rfl) (JO.cmp rfl rfl rfl) rfl rfl (J.cons (.none rfl) (JO.move rfl) rfl rfl (J.cons (GK.met 13 rfl rfl rfl hc32) (JO.move rfl) rfl rfl (J.cons (GK.met 13 rfl rfl rfl hc32) (JO.lenR rfl rfl Try.runUnderlying22) rfl rfl (J.cons (GK.met 13 rfl rfl rfl hc32) (JO.cmp rfl rfl rfl) rfl rfl (J.cons (.none rfl) (JO.pT hc32 rfl rfl) rfl rfl (J.fin (Sw.Sub.mk id (.cons rfl (.of_eq rfl) (.cons rfl (.of_eq rfl) (.cons rfl (.of_eq rfl) (.cons rfl (.of_eq rfl) (.cons rfl (.of_eq rfl) .nil))))) (.box rfl (.cons (.of_eq rfl) .nil) (.arr rfl .nil)) rfl)))))))))))
    · replace hx := cond_f hc32 hx
      obtain rfl := Option.some.inj hx
      exact (J.cons (.none rfl) (JO.move rfl) rfl rfl (J.cons (.none rfl) (JO.move rfl) rfl rfl (J.cons (.none rfl) (JO.len rfl Try.runUnderlying22) rfl rfl (J.cons (.none rfl) (JO.cmp rfl rfl rfl) rfl rfl (J.cons (.none rfl) (JO.move rfl) rfl rfl (J.left (GK.unmet 13 rfl rfl rfl hc32) rfl (J.left (GK.unmet 13 rfl rfl rfl hc32) rfl (J.left (GK.unmet 13 rfl rfl rfl hc32) rfl (J.cons (.none rfl) (JO.pF hc32 rfl rfl) rfl rfl (J.fin (Sw.Sub.mk id (.cons rfl (.of_eq rfl) (.cons rfl (.of_eq rfl) (.cons rfl (.of_eq rfl) (.cons rfl (.of_eq rfl) (.cons rfl (.of_eq rfl) .nil))))) (.box rfl (.cons (.of_eq rfl) .nil) (.arr rfl .nil)) rfl)))))))))))
  rcases Bool.eq_false_or_eq_true x31 with hc33 | hc33
  · replace h := cond_t hc33 h
    refine W.condT rfl hc33 ?_
    refine W.skip ?_
    refine W.seq ?_
    refine W.block ?_
    refine W.seq ?_
    obtain ⟨z34, hz34, h⟩ := bind_e h
    refine W.dr (σ' := ⟨[(0, .v (Enc.sl eBlk) a0), (3, .ptr 101 0), (5, .ref 109), (6, .v (Enc.int .i64) s19.1), (25, .v Enc.bool (!decide (z34 = a1)))], [(101, .box 24 [.v eBlk a1]), (109, .arr 24 eBlk s19.2)]⟩) 6 mixed (by exact (.cons (.none rfl) (JO.move rfl) rfl rfl (.cons (.none rfl) (JO.move rfl) rfl rfl (.cons (.none rfl) (JO.idx hz34 rfl rfl Try.runUnderlying22 Try.sizeOf24) rfl rfl (.cons (.none rfl) (JO.loadPst rfl Try.isAgg24 Try.sizeOf24) rfl rfl (.cons (.none rfl) (JO.load rfl rfl rfl Try.isAgg24 Try.sizeOf24) rfl rfl (.cons (.none rfl) (JO.neV eq24 rfl rfl Try.eqGuardType24 rfl rfl) rfl rfl .nil))))))) (by exact (J.fin (Sw.Sub.mk id (.cons rfl (.of_eq rfl) (.cons rfl (.of_eq rfl) (.cons rfl (.of_eq rfl) (.cons rfl (.of_eq rfl) (.cons rfl (.of_eq rfl) .nil))))) (.box rfl (.cons (.of_eq rfl) .nil) (.arr rfl .nil)) rfl))) (by decide +kernel) (by decide +kernel) (by decide +kernel) ?_
    rcases Bool.eq_false_or_eq_true (!decide (z34 = a1)) with hc35 | hc35
    · replace h := cond_t hc35 h
      refine W.condT rfl hc35 ?_
      obtain ⟨z36, hz36, h⟩ := bind_e h
      obtain ⟨v37, hv37, h⟩ := bind_e h
      refine W.reg (σ' := ⟨[(0, .v (Enc.sl eBlk) a0), (3, .ptr 101 0), (5, .ref 111), (6, .v (Enc.int .i64) s19.1)], [(101, .box 24 [.v eBlk a1]), (111, .arr 24 eBlk v37)]⟩) (J.cons (.none rfl) (JO.move rfl) rfl rfl (J.cons (.none rfl) (JO.move rfl) rfl rfl (J.cons (.none rfl) (JO.move rfl) rfl rfl (J.cons (.none rfl) (JO.idx hz36 rfl rfl Try.runUnderlying22 Try.sizeOf24) rfl rfl (J.cons (.none rfl) (JO.loadPst rfl Try.isAgg24 Try.sizeOf24) rfl rfl (J.cons (.none rfl) (JO.lit (e := eBlk) Try.runUnderlying22 Try.sizeOf24 Try.zeroValue24 rfl rfl rfl rfl (.cons (.dir rfl) .nil)) rfl rfl (J.mut (.none rfl) (JM.append 111 hv37 rfl rfl (.sl rfl) Try.runUnderlying22 Try.typeInfo24 Try.sizeOf24 rfl rfl rfl rfl rfl) (J.cons (.none rfl) (JO.assign rfl) rfl rfl (J.fin (Sw.Sub.mk id (.cons rfl (.of_eq rfl) (.cons rfl (.of_eq rfl) (.cons rfl (.of_eq rfl) (.cons rfl (.of_eq rfl) .nil)))) (.box rfl (.cons (.of_eq rfl) .nil) (.arr rfl .nil)) rfl)))))))))) ?_
      refine W.fall ?_
      refine W.reg (σ' := ⟨[(0, .v (Enc.sl eBlk) a0), (3, .ptr 101 0), (5, .ref 111), (6, .v (Enc.int .i64) (ar .add .i64 s19.1 (1 : Int)))], [(101, .box 24 [.v eBlk a1]), (111, .arr 24 eBlk v37)]⟩) (J.cons (.none rfl) (JO.move rfl) rfl rfl (J.cons (.none rfl) (JO.arith rfl rfl rfl) rfl rfl (J.cons (.none rfl) (JO.assign rfl) rfl rfl (J.fin (Sw.Sub.mk id (.cons rfl (.of_eq rfl) (.cons rfl (.of_eq rfl) (.cons rfl (.of_eq rfl) (.cons rfl (.of_eq rfl) .nil)))) (.box rfl (.cons (.of_eq rfl) .nil) (.arr rfl .nil)) rfl))))) ?_
      obtain rfl := Option.some.inj h
      exact W.next (Sw.Sub.mk (rn [(101, 101), (109, 111)]) (.cons rfl (.of_eq rfl) (.cons rfl (.of_eq rfl) (.cons rfl (.of_eq rfl) (.cons rfl (.of_eq rfl) .nil)))) (.box rfl (.cons (.of_eq rfl) .nil) (.arr rfl .nil)) rfl)
    · replace h := cond_f hc35 h
      refine W.condF rfl hc35 ?_
      refine W.skip ?_
      refine W.fall ?_
      refine W.reg (σ' := ⟨[(0, .v (Enc.sl eBlk) a0), (3, .ptr 101 0), (5, .ref 109), (6, .v (Enc.int .i64) (ar .add .i64 s19.1 (1 : Int)))], [(101, .box 24 [.v eBlk a1]), (109, .arr 24 eBlk s19.2)]⟩) (J.cons (.none rfl) (JO.move rfl) rfl rfl (J.cons (.none rfl) (JO.arith rfl rfl rfl) rfl rfl (J.cons (.none rfl) (JO.assign rfl) rfl rfl (J.fin (Sw.Sub.mk id (.cons rfl (.of_eq rfl) (.cons rfl (.of_eq rfl) (.cons rfl (.of_eq rfl) (.cons rfl (.of_eq rfl) .nil)))) (.box rfl (.cons (.of_eq rfl) .nil) (.arr rfl .nil)) rfl))))) ?_
      obtain rfl := Option.some.inj h
      exact W.next (Sw.Sub.mk id (.cons rfl (.of_eq rfl) (.cons rfl (.of_eq rfl) (.cons rfl (.of_eq rfl) (.cons rfl (.of_eq rfl) .nil)))) (.box rfl (.cons (.of_eq rfl) .nil) (.arr rfl .nil)) rfl)
  · replace h := cond_f hc33 h
    refine W.condF rfl hc33 ?_
    refine W.exit ?_
    obtain rfl := Option.some.inj h
    exact XQ.brk (Sw.Sub.mk id (.cons rfl (.of_eq rfl) .nil) (.arr rfl .nil) rfl)
set_option maxRecDepth 100000 in
set_option maxHeartbeats 4000000 in
theorem con_slices_Clone_api_Block_api_Block_nil {a0 : (Bool × (List Blk))} {r : (List Blk)} (h : m_slices_Clone_api_Block_api_Block_nil a0 = some r) :
    Con Try.prog 82 [.v (Enc.slN eBlk) a0] (.ref 0) [(0, .arr 24 eBlk r)] := by
  refine Con.of Try.func82 rfl Try.ntmps82 rfl ?_
  intro S w hF
  unfold m_slices_Clone_api_Block_api_Block_nil at h
  refine W.seq ?_
  refine W.reg (σ' := ⟨[(0, .v (Enc.slN eBlk) a0)], []⟩) (J.cons (.none rfl) (JO.assignNilR 101 24 eBlk) rfl rfl (J.fin (Sw.Sub.mk id (.cons rfl (.of_eq rfl) .nil) .nil rfl))) ?_
  refine W.seq ?_
  refine W.seq ?_
  refine W.reg (σ' := ⟨[(0, .v (Enc.slN eBlk) a0), (4, .v Enc.bool a0.1)], []⟩) (J.cons (.none rfl) (JO.move rfl) rfl rfl (J.cons (.none rfl) (JO.eqNilS rfl Try.runUnderlying22) rfl rfl (J.fin (Sw.Sub.mk id (.cons rfl (.of_eq rfl) (.cons rfl (.of_eq rfl) .nil)) .nil rfl)))) ?_
  rcases Bool.eq_false_or_eq_true a0.1 with hc1 | hc1
  · replace h := cond_t hc1 h
    refine W.condT rfl hc1 ?_
    refine W.seq ?_
    refine W.reg (σ' := ⟨[(2, .ref 102)], [(102, .arr 24 eBlk ([] : (List Blk)))]⟩) (J.cons (.none rfl) (JO.assignNilR 102 24 eBlk) rfl rfl (J.fin (Sw.Sub.mk id (.cons rfl (.of_eq rfl) .nil) (.arr rfl .nil) rfl))) ?_
    refine W.ret ?_
    obtain rfl := Option.some.inj h
    exact XQ.sub (σ' := ⟨[(2, .ref 0)], [(0, .arr 24 eBlk ([] : (List Blk)))]⟩) (Sw.Sub.mk (rn [(0, 102)]) (.cons rfl (.of_eq rfl) .nil) (.arr rfl .nil) rfl) (XQ.ret1 hF noR rfl (RV.tmp rfl) (.cons rfl .nil) rfl)
  · replace h := cond_f hc1 h
    refine W.condF rfl hc1 ?_
    refine W.skip ?_
    refine W.seq ?_
    obtain ⟨v2, hv2, h⟩ := bind_e h
    refine W.reg (σ' := ⟨[(2, .ref 104)], [(104, .arr 24 eBlk v2)]⟩) (J.cons (.none rfl) (JO.litR (e := eBlk) 103 Try.runUnderlying22 Try.sizeOf24 Try.zeroValue24 rfl rfl rfl rfl .nil) rfl rfl (J.cons (.none rfl) (JO.move rfl) rfl rfl (J.mut (.none rfl) (JM.append 104 hv2 rfl rfl (.slN rfl) Try.runUnderlying22 Try.typeInfo24 Try.sizeOf24 rfl rfl rfl rfl rfl) (J.cons (.none rfl) (JO.assign rfl) rfl rfl (J.fin (Sw.Sub.mk id (.cons rfl (.of_eq rfl) .nil) (.arr rfl .nil) rfl)))))) ?_
    refine W.ret ?_
    obtain rfl := Option.some.inj h
    exact XQ.sub (σ' := ⟨[(2, .ref 0)], [(0, .arr 24 eBlk v2)]⟩) (Sw.Sub.mk (rn [(0, 104)]) (.cons rfl (.of_eq rfl) .nil) (.arr rfl .nil) rfl) (XQ.ret1 hF noR rfl (RV.tmp rfl) (.cons rfl .nil) rfl)
theorem con_slices_Clone_api_Block_api_Block {a0 : (List Blk)} {r : (List Blk)} (h : m_slices_Clone_api_Block_api_Block a0 = some r) :
    Con Try.prog 82 [.v (Enc.sl eBlk) a0] (.ref 0) [(0, .arr 24 eBlk r)] :=
  Con.nilCases fun b hb => con_slices_Clone_api_Block_api_Block_nil (by cases b with | true => rw [hb rfl] at h ⊢; exact h | false => exact clone_f h)
set_option maxRecDepth 100000 in
set_option maxHeartbeats 4000000 in
theorem con_cache_Touch {a0 : (List Blk)} {a1 : Blk} {r : (List Blk) × (Option Int)} (h : m_cache_Touch a0 a1 = some r) :
    Con Try.prog 17 [.v (Enc.sl eBlk) a0, .v eBlk a1] (.tup [.v (Enc.sl eBlk) r.1, .v (Enc.err ET) r.2]) [] := by
  refine Con.of Try.func17 rfl Try.ntmps17 rfl ?_
  intro S w hF
  unfold m_cache_Touch at h
  refine W.seq ?_
  refine W.reg (σ' := ⟨[(0, .v (Enc.sl eBlk) a0), (3, .ptr 101 0)], [(101, .box 24 [.v eBlk a1])]⟩) (J.cons (.none rfl) (JO.box 101 rfl (.one _ _) rfl) rfl rfl (J.cons (.none rfl) (JO.assignNilR 102 24 eBlk) rfl rfl (J.cons (.none rfl) (JO.assignNilE ET) rfl rfl (J.fin (Sw.Sub.mk id (.cons rfl (.of_eq rfl) (.cons rfl (.of_eq rfl) .nil)) (.box rfl (.cons (.of_eq rfl) .nil) .nil) rfl))))) ?_
  refine W.seq ?_
  refine W.seq ?_
  obtain ⟨v1, hv1, h⟩ := bind_e h
  refine W.reg (σ' := ⟨[(0, .v (Enc.sl eBlk) a0), (3, .ptr 101 0), (6, .v (Enc.err ET) v1)], [(101, .box 24 [.v eBlk a1])]⟩) (J.cons (.none rfl) (JO.move rfl) rfl rfl (J.cons (.none rfl) (JO.call0 (con_cache_Check hv1) Try.call19 (.cons (.dir rfl) .nil)) rfl rfl (J.cons (.none rfl) (JO.assign rfl) rfl rfl (J.fin (Sw.Sub.mk id (.cons rfl (.of_eq rfl) (.cons rfl (.of_eq rfl) (.cons rfl (.of_eq rfl) .nil))) (.box rfl (.cons (.of_eq rfl) .nil) .nil) rfl))))) ?_
  refine W.seq ?_
  refine W.reg (σ' := ⟨[(0, .v (Enc.sl eBlk) a0), (3, .ptr 101 0), (6, .v (Enc.err ET) v1), (13, .v Enc.bool (Option.isSome v1))], [(101, .box 24 [.v eBlk a1])]⟩) (J.cons (.none rfl) (JO.move rfl) rfl rfl (J.cons (.none rfl) (JO.errNe Try.runUnderlying29 rfl) rfl rfl (J.fin (Sw.Sub.mk id (.cons rfl (.of_eq rfl) (.cons rfl (.of_eq rfl) (.cons rfl (.of_eq rfl) (.cons rfl (.of_eq rfl) .nil)))) (.box rfl (.cons (.of_eq rfl) .nil) .nil) rfl)))) ?_
  rcases Bool.eq_false_or_eq_true (Option.isSome v1) with hc2 | hc2
  · replace h := cond_t hc2 h
    refine W.condT rfl hc2 ?_
    refine W.seq ?_
    refine W.reg (σ' := ⟨[(4, .ref 104), (5, .v (Enc.err ET) v1)], [(104, .arr 24 eBlk ([] : (List Blk)))]⟩) (J.cons (.none rfl) (JO.move rfl) rfl rfl (J.cons (.none rfl) (JO.assignNilR 104 24 eBlk) rfl rfl (J.cons (.none rfl) (JO.assign rfl) rfl rfl (J.fin (Sw.Sub.mk id (.cons rfl (.of_eq rfl) (.cons rfl (.of_eq rfl) .nil)) (.arr rfl .nil) rfl))))) ?_
    refine W.ret ?_
    obtain rfl := Option.some.inj h
    exact XQ.sub (σ' := ⟨[(4, .v (Enc.sl eBlk) ([] : (List Blk))), (5, .v (Enc.err ET) v1)], []⟩) (Sw.Sub.mk id (.cons rfl (.frz rfl rfl) (.cons rfl (.of_eq rfl) .nil)) .nil rfl) (XQ.ret2 hF noR rfl (RV.tmp rfl) (RV.tmp rfl) .nil rfl)
  · replace h := cond_f hc2 h
    refine W.condF rfl hc2 ?_
    refine W.skip ?_
    refine W.seq ?_
    refine W.reg (σ' := ⟨[(0, .v (Enc.sl eBlk) a0), (3, .ptr 101 0), (7, .ref 105)], [(101, .box 24 [.v eBlk a1]), (105, .arr 24 eBlk ([a1] : (List Blk)))]⟩) (J.cons (.none rfl) (JO.load rfl rfl rfl Try.isAgg24 Try.sizeOf24) rfl rfl (J.cons (.none rfl) (JO.litR (e := eBlk) 105 Try.runUnderlying22 Try.sizeOf24 Try.zeroValue24 rfl rfl rfl rfl (.cons (.dir rfl) .nil)) rfl rfl (J.cons (.none rfl) (JO.assign rfl) rfl rfl (J.fin (Sw.Sub.mk id (.cons rfl (.of_eq rfl) (.cons rfl (.of_eq rfl) (.cons rfl (.of_eq rfl) .nil))) (.box rfl (.cons (.of_eq rfl) .nil) (.arr rfl .nil)) rfl))))) ?_
    refine W.seq ?_
    refine W.seq ?_
    refine W.reg (σ' := ⟨[(3, .ptr 101 0), (7, .ref 105), (17, .v (Enc.sl eBlk) a0), (18, .v (Enc.int .i64) (a0.length : Int)), (19, .v (Enc.int .i64) (0 : Int))], [(101, .box 24 [.v eBlk a1]), (105, .arr 24 eBlk ([a1] : (List Blk)))]⟩) (J.cons (.none rfl) (JO.move rfl) rfl rfl (J.cons (.none rfl) (JO.len rfl Try.runUnderlying22) rfl rfl (J.cons (.none rfl) (JO.move rfl) rfl rfl (J.fin (Sw.Sub.mk id (.cons rfl (.of_eq rfl) (.cons rfl (.of_eq rfl) (.cons rfl (.of_eq rfl) (.cons rfl (.of_eq rfl) (.cons rfl (.of_eq rfl) .nil))))) (.box rfl (.cons (.of_eq rfl) .nil) (.arr rfl .nil)) rfl))))) ?_
    obtain ⟨o27, ho27, hb27, hr27⟩ := lp_elim h
    refine W.lp (σs := fun s19 : Int × (List Blk) => ⟨[(3, .ptr 101 0), (7, .ref 113), (17, .v (Enc.sl eBlk) a0), (18, .v (Enc.int .i64) (a0.length : Int)), (19, .v (Enc.int .i64) s19.1)], [(101, .box 24 [.v eBlk a1]), (113, .arr 24 eBlk s19.2)]⟩) (fun x28 : (List Blk) => ⟨[(7, .ref 113)], [(113, .arr 24 eBlk x28)]⟩) ho27 (Sw.Sub.mk (rn [(101, 101), (113, 105)]) (.cons rfl (.of_eq rfl) (.cons rfl (.of_eq rfl) (.cons rfl (.of_eq rfl) (.cons rfl (.of_eq rfl) (.cons rfl (.of_eq rfl) .nil))))) (.box rfl (.cons (.of_eq rfl) .nil) (.arr rfl .nil)) rfl) ?_ ?_
    · intro x28 hy
      have h := hb27 _ hy
      refine W.seq ?_
      refine W.reg (σ' := ⟨[(4, .ref 113), (5, .v (Enc.err ET) (none : Option Int))], [(113, .arr 24 eBlk x28)]⟩) (J.cons (.none rfl) (JO.move rfl) rfl rfl (J.cons (.none rfl) (JO.assign rfl) rfl rfl (J.cons (.none rfl) (JO.assignNilE ET) rfl rfl (J.fin (Sw.Sub.mk id (.cons rfl (.of_eq rfl) (.cons rfl (.of_eq rfl) .nil)) (.arr rfl .nil) rfl))))) ?_
      refine W.ret ?_
      obtain rfl := Option.some.inj h
      exact XQ.sub (σ' := ⟨[(4, .v (Enc.sl eBlk) x28), (5, .v (Enc.err ET) (none : Option Int))], []⟩) (Sw.Sub.mk id (.cons rfl (.frz rfl rfl) (.cons rfl (.of_eq rfl) .nil)) .nil rfl) (XQ.ret2 hF noR rfl (RV.tmp rfl) (RV.tmp rfl) .nil rfl)
    intro s19 r27 h
    refine W.seq ?_
    refine W.reg (σ' := ⟨[(3, .ptr 101 0), (7, .ref 113), (17, .v (Enc.sl eBlk) a0), (18, .v (Enc.int .i64) (a0.length : Int)), (19, .v (Enc.int .i64) s19.1), (20, .v Enc.bool (cm .lss s19.1 (a0.length : Int)))], [(101, .box 24 [.v eBlk a1]), (113, .arr 24 eBlk s19.2)]⟩) (J.cons (.none rfl) (JO.cmp rfl rfl rfl) rfl rfl (J.fin (Sw.Sub.mk id (.cons rfl (.of_eq rfl) (.cons rfl (.of_eq rfl) (.cons rfl (.of_eq rfl) (.cons rfl (.of_eq rfl) (.cons rfl (.of_eq rfl) (.cons rfl (.of_eq rfl) .nil)))))) (.box rfl (.cons (.of_eq rfl) .nil) (.arr rfl .nil)) rfl))) ?_
    refine W.seq ?_
    rcases Bool.eq_false_or_eq_true (cm .lss s19.1 (a0.length : Int)) with hc29 | hc29
    · replace h := cond_t hc29 h
      refine W.condT rfl hc29 ?_
      refine W.skip ?_
      refine W.seq ?_
      refine W.block ?_
      refine W.seq ?_
      obtain ⟨z30, hz30, h⟩ := bind_e h
      refine W.reg (σ' := ⟨[(3, .ptr 101 0), (7, .ref 113), (9, .ptr 116 0), (17, .v (Enc.sl eBlk) a0), (18, .v (Enc.int .i64) (a0.length : Int)), (19, .v (Enc.int .i64) s19.1)], [(101, .box 24 [.v eBlk a1]), (113, .arr 24 eBlk s19.2), (116, .box 24 [.v eBlk z30])]⟩) (J.cons (.none rfl) (JO.idx hz30 rfl rfl Try.runUnderlying22 Try.sizeOf24) rfl rfl (J.cons (.none rfl) (JO.loadPst rfl Try.isAgg24 Try.sizeOf24) rfl rfl (J.cons (.none rfl) (JO.alloc 116 Try.zeroValue24 rfl (.cons (Z.arr 8 (Z.int .u8)) .nil) rfl) rfl rfl (J.mut (.none rfl) (JM.store rfl rfl rfl rfl rfl rfl rfl Try.sizeOf24) (J.fin (Sw.Sub.mk id (.cons rfl (.of_eq rfl) (.cons rfl (.of_eq rfl) (.cons rfl (.of_eq rfl) (.cons rfl (.of_eq rfl) (.cons rfl (.of_eq rfl) (.cons rfl (.of_eq rfl) .nil)))))) (.box rfl (.cons (.of_eq rfl) .nil) (.arr rfl (.box rfl (.cons (.of_eq rfl) .nil) .nil))) rfl)))))) ?_
      refine W.seq ?_
      obtain ⟨x32, hx, h⟩ := bind_e h
      refine W.reg (σ' := ⟨[(3, .ptr 101 0), (7, .ref 113), (9, .ptr 116 0), (17, .v (Enc.sl eBlk) a0), (18, .v (Enc.int .i64) (a0.length : Int)), (19, .v (Enc.int .i64) s19.1), (30, .v Enc.bool x32)], [(101, .box 24 [.v eBlk a1]), (113, .arr 24 eBlk s19.2), (116, .box 24 [.v eBlk z30])]⟩) ?_ ?_
      · rcases Bool.eq_false_or_eq_true (!decide (z30 = a1)) with hc33 | hc33
        · replace hx := cond_t hc33 hx
          obtain rfl := Option.some.inj hx
          exact (J.cons (.none rfl) (JO.load rfl rfl rfl Try.isAgg24 Try.sizeOf24) rfl rfl (J.cons (.none rfl) (JO.load rfl rfl rfl Try.isAgg24 Try.sizeOf24) rfl rfl (J.cons (.none rfl) (JO.neV eq24 rfl rfl Try.eqGuardType24 rfl rfl) rfl rfl (J.cons (.none rfl) (JO.move rfl) rfl rfl (J.cons (GK.met 26 rfl rfl rfl hc33) (JO.move rfl) rfl rfl (J.cons (GK.met 26 rfl rfl rfl hc33) (JO.lenR rfl rfl Try.runUnderlying22) rfl rfl (J.cons (GK.met 26 rfl rfl rfl hc33) (JO.cmp rfl rfl rfl) rfl rfl (J.cons (.none rfl) (JO.pT hc33 rfl rfl) rfl rfl (J.fin (Sw.Sub.mk id (.cons rfl (.of_eq rfl) (.cons rfl (.of_eq rfl) (.cons rfl (.of_eq rfl) (.cons rfl (.of_eq rfl) (.cons rfl (.of_eq rfl) (.cons rfl (.of_eq rfl) (.cons rfl (.of_eq rfl) .nil))))))) (.box rfl (.cons (.of_eq rfl) .nil) (.arr rfl (.box rfl (.cons (.of_eq rfl) .nil) .nil))) rfl))))))))))
        · replace hx := cond_f hc33 hx
          obtain rfl := Option.some.inj hx
          exact (J.cons (.none rfl) (JO.load rfl rfl rfl Try.isAgg24 Try.sizeOf24) rfl rfl (J.cons (.none rfl) (JO.load rfl rfl rfl Try.isAgg24 Try.sizeOf24) rfl rfl (J.cons (.none rfl) (JO.neV eq24 rfl rfl Try.eqGuardType24 rfl rfl) rfl rfl (J.cons (.none rfl) (JO.move rfl) rfl rfl (J.left (GK.unmet 26 rfl rfl rfl hc33) rfl (J.left (GK.unmet 26 rfl rfl rfl hc33) rfl (J.left (GK.unmet 26 rfl rfl rfl hc33) rfl (J.cons (.none rfl) (JO.pF hc33 rfl rfl) rfl rfl (J.fin (Sw.Sub.mk id (.cons rfl (.of_eq rfl) (.cons rfl (.of_eq rfl) (.cons rfl (.of_eq rfl) (.cons rfl (.of_eq rfl) (.cons rfl (.of_eq rfl) (.cons rfl (.of_eq rfl) (.cons rfl (.of_eq rfl) .nil))))))) (.box rfl (.cons (.of_eq rfl) .nil) (.arr rfl (.box rfl (.cons (.of_eq rfl) .nil) .nil))) rfl))))))))))
      rcases Bool.eq_false_or_eq_true x32 with hc34 | hc34
      · replace h := cond_t hc34 h
        refine W.condT rfl hc34 ?_
        obtain ⟨v35, hv35, h⟩ := bind_e h
        refine W.reg (σ' := ⟨[(3, .ptr 101 0), (7, .ref 117), (17, .v (Enc.sl eBlk) a0), (18, .v (Enc.int .i64) (a0.length : Int)), (19, .v (Enc.int .i64) s19.1)], [(101, .box 24 [.v eBlk a1]), (117, .arr 24 eBlk v35)]⟩) (J.cons (.none rfl) (JO.move rfl) rfl rfl (J.cons (.none rfl) (JO.load rfl rfl rfl Try.isAgg24 Try.sizeOf24) rfl rfl (J.cons (.none rfl) (JO.lit (e := eBlk) Try.runUnderlying22 Try.sizeOf24 Try.zeroValue24 rfl rfl rfl rfl (.cons (.dir rfl) .nil)) rfl rfl (J.mut (.none rfl) (JM.append 117 hv35 rfl rfl (.sl rfl) Try.runUnderlying22 Try.typeInfo24 Try.sizeOf24 rfl rfl rfl rfl rfl) (J.cons (.none rfl) (JO.assign rfl) rfl rfl (J.fin (Sw.Sub.mk id (.cons rfl (.of_eq rfl) (.cons rfl (.of_eq rfl) (.cons rfl (.of_eq rfl) (.cons rfl (.of_eq rfl) (.cons rfl (.of_eq rfl) .nil))))) (.box rfl (.cons (.of_eq rfl) .nil) (.arr rfl .nil)) rfl))))))) ?_
        refine W.fall ?_
        refine W.reg (σ' := ⟨[(3, .ptr 101 0), (7, .ref 117), (17, .v (Enc.sl eBlk) a0), (18, .v (Enc.int .i64) (a0.length : Int)), (19, .v (Enc.int .i64) (ar .add .i64 s19.1 (1 : Int)))], [(101, .box 24 [.v eBlk a1]), (117, .arr 24 eBlk v35)]⟩) (J.cons (.none rfl) (JO.arith rfl rfl rfl) rfl rfl (J.cons (.none rfl) (JO.move rfl) rfl rfl (J.fin (Sw.Sub.mk id (.cons rfl (.of_eq rfl) (.cons rfl (.of_eq rfl) (.cons rfl (.of_eq rfl) (.cons rfl (.of_eq rfl) (.cons rfl (.of_eq rfl) .nil))))) (.box rfl (.cons (.of_eq rfl) .nil) (.arr rfl .nil)) rfl)))) ?_
        obtain rfl := Option.some.inj h
        exact W.next (Sw.Sub.mk (rn [(101, 101), (113, 117)]) (.cons rfl (.of_eq rfl) (.cons rfl (.of_eq rfl) (.cons rfl (.of_eq rfl) (.cons rfl (.of_eq rfl) (.cons rfl (.of_eq rfl) .nil))))) (.box rfl (.cons (.of_eq rfl) .nil) (.arr rfl .nil)) rfl)
      · replace h := cond_f hc34 h
        refine W.condF rfl hc34 ?_
        refine W.skip ?_
        refine W.fall ?_
        refine W.reg (σ' := ⟨[(3, .ptr 101 0), (7, .ref 113), (17, .v (Enc.sl eBlk) a0), (18, .v (Enc.int .i64) (a0.length : Int)), (19, .v (Enc.int .i64) (ar .add .i64 s19.1 (1 : Int)))], [(101, .box 24 [.v eBlk a1]), (113, .arr 24 eBlk s19.2)]⟩) (J.cons (.none rfl) (JO.arith rfl rfl rfl) rfl rfl (J.cons (.none rfl) (JO.move rfl) rfl rfl (J.fin (Sw.Sub.mk id (.cons rfl (.of_eq rfl) (.cons rfl (.of_eq rfl) (.cons rfl (.of_eq rfl) (.cons rfl (.of_eq rfl) (.cons rfl (.of_eq rfl) .nil))))) (.box rfl (.cons (.of_eq rfl) .nil) (.arr rfl .nil)) rfl)))) ?_
        obtain rfl := Option.some.inj h
        exact W.next (Sw.Sub.mk id (.cons rfl (.of_eq rfl) (.cons rfl (.of_eq rfl) (.cons rfl (.of_eq rfl) (.cons rfl (.of_eq rfl) (.cons rfl (.of_eq rfl) .nil))))) (.box rfl (.cons (.of_eq rfl) .nil) (.arr rfl .nil)) rfl)
    · replace h := cond_f hc29 h
      refine W.condF rfl hc29 ?_
      refine W.exit ?_
      obtain rfl := Option.some.inj h
      exact XQ.brk (Sw.Sub.mk id (.cons rfl (.of_eq rfl) .nil) (.arr rfl .nil) rfl)
set_option maxRecDepth 100000 in
set_option maxHeartbeats 4000000 in
theorem con_plan_Had {a0 : (List Blk)} {a1 : (List (Int × Int × Int × Blk))} {r : (List Blk) × (Option Int)} (h : m_plan_Had a0 a1 = some r) :
    Con Try.prog 49 [.v (Enc.sl eBlk) a0, .v (Enc.sl (Enc.pr (Enc.int .i64) (Enc.pr (Enc.int .i64) (Enc.pr (Enc.int .i64) eBlk)))) a1] (.tup [.v (Enc.sl eBlk) r.1, .v (Enc.err ET) r.2]) [] := by
  refine Con.of Try.func49 rfl Try.ntmps49 rfl ?_
  intro S w hF
  unfold m_plan_Had at h
  refine W.seq ?_
  refine W.reg (σ' := ⟨[(0, .v (Enc.sl eBlk) a0), (1, .v (Enc.sl (Enc.pr (Enc.int .i64) (Enc.pr (Enc.int .i64) (Enc.pr (Enc.int .i64) eBlk)))) a1)], []⟩) (J.cons (.none rfl) (JO.assignNil eBlk) rfl rfl (J.cons (.none rfl) (JO.assignNilE ET) rfl rfl (J.fin (Sw.Sub.mk id (.cons rfl (.of_eq rfl) (.cons rfl (.of_eq rfl) .nil)) .nil rfl)))) ?_
  refine W.seq ?_
  refine W.seq ?_
  obtain ⟨v1, hv1, h⟩ := bind_e h
  refine W.reg (σ' := ⟨[(0, .v (Enc.sl eBlk) a0), (1, .v (Enc.sl (Enc.pr (Enc.int .i64) (Enc.pr (Enc.int .i64) (Enc.pr (Enc.int .i64) eBlk)))) a1), (6, .v (Enc.err ET) v1)], []⟩) (J.cons (.none rfl) (JO.move rfl) rfl rfl (J.cons (.none rfl) (JO.call0 (con_cache_Check hv1) Try.call19 (.cons (.dir rfl) .nil)) rfl rfl (J.cons (.none rfl) (JO.assign rfl) rfl rfl (J.fin (Sw.Sub.mk id (.cons rfl (.of_eq rfl) (.cons rfl (.of_eq rfl) (.cons rfl (.of_eq rfl) .nil))) .nil rfl))))) ?_
  refine W.seq ?_
  refine W.reg (σ' := ⟨[(0, .v (Enc.sl eBlk) a0), (1, .v (Enc.sl (Enc.pr (Enc.int .i64) (Enc.pr (Enc.int .i64) (Enc.pr (Enc.int .i64) eBlk)))) a1), (6, .v (Enc.err ET) v1), (13, .v Enc.bool (Option.isSome v1))], []⟩) (J.cons (.none rfl) (JO.move rfl) rfl rfl (J.cons (.none rfl) (JO.errNe Try.runUnderlying29 rfl) rfl rfl (J.fin (Sw.Sub.mk id (.cons rfl (.of_eq rfl) (.cons rfl (.of_eq rfl) (.cons rfl (.of_eq rfl) (.cons rfl (.of_eq rfl) .nil)))) .nil rfl)))) ?_
  rcases Bool.eq_false_or_eq_true (Option.isSome v1) with hc2 | hc2
  · replace h := cond_t hc2 h
    refine W.condT rfl hc2 ?_
    refine W.seq ?_
    refine W.reg (σ' := ⟨[(4, .v (Enc.sl eBlk) ([] : (List Blk))), (5, .v (Enc.err ET) v1)], []⟩) (J.cons (.none rfl) (JO.move rfl) rfl rfl (J.cons (.none rfl) (JO.assignNil eBlk) rfl rfl (J.cons (.none rfl) (JO.assign rfl) rfl rfl (J.fin (Sw.Sub.mk id (.cons rfl (.of_eq rfl) (.cons rfl (.of_eq rfl) .nil)) .nil rfl))))) ?_
    refine W.ret ?_
    obtain rfl := Option.some.inj h
    exact XQ.sub (σ' := ⟨[(4, .v (Enc.sl eBlk) ([] : (List Blk))), (5, .v (Enc.err ET) v1)], []⟩) (Sw.Sub.mk id (.cons rfl (.of_eq rfl) (.cons rfl (.of_eq rfl) .nil)) .nil rfl) (XQ.ret2 hF noR rfl (RV.tmp rfl) (RV.tmp rfl) .nil rfl)
  · replace h := cond_f hc2 h
    refine W.condF rfl hc2 ?_
    refine W.skip ?_
    refine W.seq ?_
    obtain ⟨v3, hv3, h⟩ := bind_e h
    refine W.reg (σ' := ⟨[(1, .v (Enc.sl (Enc.pr (Enc.int .i64) (Enc.pr (Enc.int .i64) (Enc.pr (Enc.int .i64) eBlk)))) a1), (7, .ref 102000)], [(102000, .arr 24 eBlk v3)]⟩) (J.cons (.none rfl) (JO.move rfl) rfl rfl (J.cons (.none rfl) (JO.call 102000 (con_slices_Clone_api_Block_api_Block hv3) Try.call82 (.cons (.dir rfl) .nil) rfl) rfl rfl (J.cons (.none rfl) (JO.assign rfl) rfl rfl (J.fin (Sw.Sub.mk id (.cons rfl (.of_eq rfl) (.cons rfl (.of_eq rfl) .nil)) (.arr rfl .nil) rfl))))) ?_
    refine W.seq ?_
    refine W.seq ?_
    refine W.reg (σ' := ⟨[(7, .ref 102000), (17, .v (Enc.sl (Enc.pr (Enc.int .i64) (Enc.pr (Enc.int .i64) (Enc.pr (Enc.int .i64) eBlk)))) a1), (18, .v (Enc.int .i64) (a1.length : Int)), (19, .v (Enc.int .i64) (0 : Int))], [(102000, .arr 24 eBlk v3)]⟩) (J.cons (.none rfl) (JO.move rfl) rfl rfl (J.cons (.none rfl) (JO.len rfl Try.runUnderlying78) rfl rfl (J.cons (.none rfl) (JO.move rfl) rfl rfl (J.fin (Sw.Sub.mk id (.cons rfl (.of_eq rfl) (.cons rfl (.of_eq rfl) (.cons rfl (.of_eq rfl) (.cons rfl (.of_eq rfl) .nil)))) (.arr rfl .nil) rfl))))) ?_
    obtain ⟨o20, ho20, hb20, hr20⟩ := lp_elim h
    refine W.lp (σs := fun s15 : (List Blk) × Int => ⟨[(7, .v (Enc.sl eBlk) s15.1), (17, .v (Enc.sl (Enc.pr (Enc.int .i64) (Enc.pr (Enc.int .i64) (Enc.pr (Enc.int .i64) eBlk)))) a1), (18, .v (Enc.int .i64) (a1.length : Int)), (19, .v (Enc.int .i64) s15.2)], []⟩) (fun x21 : (List Blk) => ⟨[(7, .v (Enc.sl eBlk) x21)], []⟩) ho20 (Sw.Sub.mk id (.cons rfl (.frz rfl rfl) (.cons rfl (.of_eq rfl) (.cons rfl (.of_eq rfl) (.cons rfl (.of_eq rfl) .nil)))) .nil rfl) ?_ ?_
    · intro x21 hy
      have h := hb20 _ hy
      refine W.seq ?_
      refine W.reg (σ' := ⟨[(4, .v (Enc.sl eBlk) x21), (5, .v (Enc.err ET) (none : Option Int))], []⟩) (J.cons (.none rfl) (JO.move rfl) rfl rfl (J.cons (.none rfl) (JO.assign rfl) rfl rfl (J.cons (.none rfl) (JO.assignNilE ET) rfl rfl (J.fin (Sw.Sub.mk id (.cons rfl (.of_eq rfl) (.cons rfl (.of_eq rfl) .nil)) .nil rfl))))) ?_
      refine W.ret ?_
      obtain rfl := Option.some.inj h
      exact XQ.sub (σ' := ⟨[(4, .v (Enc.sl eBlk) x21), (5, .v (Enc.err ET) (none : Option Int))], []⟩) (Sw.Sub.mk id (.cons rfl (.of_eq rfl) (.cons rfl (.of_eq rfl) .nil)) .nil rfl) (XQ.ret2 hF noR rfl (RV.tmp rfl) (RV.tmp rfl) .nil rfl)
    intro s15 r20 h
    refine W.seq ?_
    refine W.reg (σ' := ⟨[(7, .v (Enc.sl eBlk) s15.1), (17, .v (Enc.sl (Enc.pr (Enc.int .i64) (Enc.pr (Enc.int .i64) (Enc.pr (Enc.int .i64) eBlk)))) a1), (18, .v (Enc.int .i64) (a1.length : Int)), (19, .v (Enc.int .i64) s15.2), (20, .v Enc.bool (cm .lss s15.2 (a1.length : Int)))], []⟩) (J.cons (.none rfl) (JO.cmp rfl rfl rfl) rfl rfl (J.fin (Sw.Sub.mk id (.cons rfl (.of_eq rfl) (.cons rfl (.of_eq rfl) (.cons rfl (.of_eq rfl) (.cons rfl (.of_eq rfl) (.cons rfl (.of_eq rfl) .nil))))) .nil rfl))) ?_
    refine W.seq ?_
    rcases Bool.eq_false_or_eq_true (cm .lss s15.2 (a1.length : Int)) with hc22 | hc22
    · replace h := cond_t hc22 h
      refine W.condT rfl hc22 ?_
      refine W.skip ?_
      refine W.seq ?_
      refine W.block ?_
      refine W.seq ?_
      obtain ⟨z23, hz23, h⟩ := bind_e h
      refine W.reg (σ' := ⟨[(7, .v (Enc.sl eBlk) s15.1), (9, .ptr 110 0), (17, .v (Enc.sl (Enc.pr (Enc.int .i64) (Enc.pr (Enc.int .i64) (Enc.pr (Enc.int .i64) eBlk)))) a1), (18, .v (Enc.int .i64) (a1.length : Int)), (19, .v (Enc.int .i64) s15.2)], [(110, .box 81 [.v (Enc.int .i64) z23.1, .v (Enc.int .i64) z23.2.1, .v (Enc.int .i64) z23.2.2.1, .v eBlk z23.2.2.2])]⟩) (J.cons (.none rfl) (JO.idx hz23 rfl rfl Try.runUnderlying78 Try.sizeOf81) rfl rfl (J.cons (.none rfl) (JO.loadPst rfl Try.isAgg81 Try.sizeOf81) rfl rfl (J.cons (.none rfl) (JO.alloc 110 Try.zeroValue81 rfl (.cons (Z.int .i64) (.cons (Z.int .i64) (.cons (Z.int .i64) (.cons (Z.arr 8 (Z.int .u8)) .nil)))) rfl) rfl rfl (J.mut (.none rfl) (JM.storeAll rfl rfl rfl rfl (.prm (.one _ _) (.prm (.one _ _) (.prm (.one _ _) (.one _ _)))) Try.sizeOf81) (J.fin (Sw.Sub.mk id (.cons rfl (.of_eq rfl) (.cons rfl (.of_eq rfl) (.cons rfl (.of_eq rfl) (.cons rfl (.of_eq rfl) (.cons rfl (.of_eq rfl) .nil))))) (.box rfl (.cons (.of_eq rfl) (.cons (.of_eq rfl) (.cons (.of_eq rfl) (.cons (.of_eq rfl) .nil)))) .nil) rfl)))))) ?_
      refine W.seq ?_
      refine W.reg (σ' := ⟨[(7, .v (Enc.sl eBlk) s15.1), (9, .ptr 110 0), (17, .v (Enc.sl (Enc.pr (Enc.int .i64) (Enc.pr (Enc.int .i64) (Enc.pr (Enc.int .i64) eBlk)))) a1), (18, .v (Enc.int .i64) (a1.length : Int)), (19, .v (Enc.int .i64) s15.2), (25, .v Enc.bool (cm .eql z23.2.1 (3 : Int)))], [(110, .box 81 [.v (Enc.int .i64) z23.1, .v (Enc.int .i64) z23.2.1, .v (Enc.int .i64) z23.2.2.1, .v eBlk z23.2.2.2])]⟩) (J.cons (.none rfl) (JO.fieldPtr 1 rfl Try.runUnderlying81 rfl Try.sizeOf3 rfl rfl) rfl rfl (J.cons (.none rfl) (JO.load rfl rfl rfl Try.isAgg3 Try.sizeOf3) rfl rfl (J.cons (.none rfl) (JO.cmp rfl rfl rfl) rfl rfl (J.fin (Sw.Sub.mk id (.cons rfl (.of_eq rfl) (.cons rfl (.of_eq rfl) (.cons rfl (.of_eq rfl) (.cons rfl (.of_eq rfl) (.cons rfl (.of_eq rfl) (.cons rfl (.of_eq rfl) .nil)))))) (.box rfl (.cons (.of_eq rfl) (.cons (.of_eq rfl) (.cons (.of_eq rfl) (.cons (.of_eq rfl) .nil)))) .nil) rfl))))) ?_
      rcases Bool.eq_false_or_eq_true (cm .eql z23.2.1 (3 : Int)) with hc24 | hc24
      · replace h := cond_t hc24 h
        refine W.condT rfl hc24 ?_
        obtain ⟨v25, hv25, h⟩ := bind_e h
        refine W.reg (σ' := ⟨[(7, .v (Enc.sl eBlk) v25.1), (17, .v (Enc.sl (Enc.pr (Enc.int .i64) (Enc.pr (Enc.int .i64) (Enc.pr (Enc.int .i64) eBlk)))) a1), (18, .v (Enc.int .i64) (a1.length : Int)), (19, .v (Enc.int .i64) s15.2)], []⟩) (J.cons (.none rfl) (JO.move rfl) rfl rfl (J.cons (.none rfl) (JO.fieldPtr 3 rfl Try.runUnderlying81 rfl Try.sizeOf24 rfl rfl) rfl rfl (J.cons (.none rfl) (JO.load rfl rfl rfl Try.isAgg24 Try.sizeOf24) rfl rfl (J.cons (.none rfl) (JO.call0 (con_cache_Touch hv25) Try.call17 (.cons (.dir rfl) (.cons (.dir rfl) .nil))) rfl rfl (J.cons (.none rfl) (JO.move rfl) rfl rfl (J.cons (.none rfl) (JO.extract rfl rfl) rfl rfl (J.cons (.none rfl) (JO.extract rfl rfl) rfl rfl (J.cons (.none rfl) (JO.assign rfl) rfl rfl (J.fin (Sw.Sub.mk id (.cons rfl (.of_eq rfl) (.cons rfl (.of_eq rfl) (.cons rfl (.of_eq rfl) (.cons rfl (.of_eq rfl) .nil)))) .nil rfl)))))))))) ?_
        refine W.fall ?_
        refine W.reg (σ' := ⟨[(7, .v (Enc.sl eBlk) v25.1), (17, .v (Enc.sl (Enc.pr (Enc.int .i64) (Enc.pr (Enc.int .i64) (Enc.pr (Enc.int .i64) eBlk)))) a1), (18, .v (Enc.int .i64) (a1.length : Int)), (19, .v (Enc.int .i64) (ar .add .i64 s15.2 (1 : Int)))], []⟩) (J.cons (.none rfl) (JO.arith rfl rfl rfl) rfl rfl (J.cons (.none rfl) (JO.move rfl) rfl rfl (J.fin (Sw.Sub.mk id (.cons rfl (.of_eq rfl) (.cons rfl (.of_eq rfl) (.cons rfl (.of_eq rfl) (.cons rfl (.of_eq rfl) .nil)))) .nil rfl)))) ?_
        obtain rfl := Option.some.inj h
        exact W.next (Sw.Sub.mk id (.cons rfl (.of_eq rfl) (.cons rfl (.of_eq rfl) (.cons rfl (.of_eq rfl) (.cons rfl (.of_eq rfl) .nil)))) .nil rfl)
      · replace h := cond_f hc24 h
        refine W.condF rfl hc24 ?_
        refine W.skip ?_
        refine W.fall ?_
        refine W.reg (σ' := ⟨[(7, .v (Enc.sl eBlk) s15.1), (17, .v (Enc.sl (Enc.pr (Enc.int .i64) (Enc.pr (Enc.int .i64) (Enc.pr (Enc.int .i64) eBlk)))) a1), (18, .v (Enc.int .i64) (a1.length : Int)), (19, .v (Enc.int .i64) (ar .add .i64 s15.2 (1 : Int)))], []⟩) (J.cons (.none rfl) (JO.arith rfl rfl rfl) rfl rfl (J.cons (.none rfl) (JO.move rfl) rfl rfl (J.fin (Sw.Sub.mk id (.cons rfl (.of_eq rfl) (.cons rfl (.of_eq rfl) (.cons rfl (.of_eq rfl) (.cons rfl (.of_eq rfl) .nil)))) .nil rfl)))) ?_
        obtain rfl := Option.some.inj h
        exact W.next (Sw.Sub.mk id (.cons rfl (.of_eq rfl) (.cons rfl (.of_eq rfl) (.cons rfl (.of_eq rfl) (.cons rfl (.of_eq rfl) .nil)))) .nil rfl)
    · replace h := cond_f hc22 h
      refine W.condF rfl hc22 ?_
      refine W.exit ?_
      obtain rfl := Option.some.inj h
      exact XQ.brk (Sw.Sub.mk id (.cons rfl (.of_eq rfl) .nil) .nil rfl)
set_option maxRecDepth 100000 in
set_option maxHeartbeats 4000000 in
theorem con_ref_SameBlocks {a0 : (List Blk)} {a1 : (List Blk)} {r : Bool} (h : m_ref_SameBlocks a0 a1 = some r) :
    Con Try.prog 20 [.v (Enc.sl eBlk) a0, .v (Enc.sl eBlk) a1] (.v Enc.bool r) [] := by
  refine Con.of Try.func20 rfl Try.ntmps20 rfl ?_
  intro S w hF
  unfold m_ref_SameBlocks at h
  refine W.seq ?_
  refine W.reg (σ' := ⟨[(0, .v (Enc.sl eBlk) a0), (1, .v (Enc.sl eBlk) a1)], []⟩) (J.cons (.none rfl) (JO.assign rfl) rfl rfl (J.fin (Sw.Sub.mk id (.cons rfl (.of_eq rfl) (.cons rfl (.of_eq rfl) .nil)) .nil rfl))) ?_
  refine W.seq ?_
  refine W.seq ?_
  refine W.reg (σ' := ⟨[(0, .v (Enc.sl eBlk) a0), (1, .v (Enc.sl eBlk) a1), (10, .v Enc.bool (cm .neq (a0.length : Int) (a1.length : Int)))], []⟩) (J.cons (.none rfl) (JO.move rfl) rfl rfl (J.cons (.none rfl) (JO.len rfl Try.runUnderlying22) rfl rfl (J.cons (.none rfl) (JO.move rfl) rfl rfl (J.cons (.none rfl) (JO.len rfl Try.runUnderlying22) rfl rfl (J.cons (.none rfl) (JO.cmp rfl rfl rfl) rfl rfl (J.fin (Sw.Sub.mk id (.cons rfl (.of_eq rfl) (.cons rfl (.of_eq rfl) (.cons rfl (.of_eq rfl) .nil))) .nil rfl))))))) ?_
  rcases Bool.eq_false_or_eq_true (cm .neq (a0.length : Int) (a1.length : Int)) with hc1 | hc1
  · replace h := cond_t hc1 h
    refine W.condT rfl hc1 ?_
    refine W.seq ?_
    refine W.reg (σ' := ⟨[(4, .v Enc.bool false)], []⟩) (J.cons (.none rfl) (JO.assign rfl) rfl rfl (J.fin (Sw.Sub.mk id (.cons rfl (.of_eq rfl) .nil) .nil rfl))) ?_
    refine W.ret ?_
    obtain rfl := Option.some.inj h
    exact XQ.sub (σ' := ⟨[(4, .v Enc.bool false)], []⟩) (Sw.Sub.mk id (.cons rfl (.of_eq rfl) .nil) .nil rfl) (XQ.ret1 hF noR rfl (RV.tmp rfl) .nil rfl)
  · replace h := cond_f hc1 h
    refine W.condF rfl hc1 ?_
    refine W.skip ?_
    refine W.seq ?_
    refine W.seq ?_
    refine W.reg (σ' := ⟨[(0, .v (Enc.sl eBlk) a0), (1, .v (Enc.sl eBlk) a1), (5, .v (Enc.int .i64) (0 : Int))], []⟩) (J.cons (.none rfl) (JO.assign rfl) rfl rfl (J.fin (Sw.Sub.mk id (.cons rfl (.of_eq rfl) (.cons rfl (.of_eq rfl) (.cons rfl (.of_eq rfl) .nil))) .nil rfl))) ?_
    obtain ⟨o17, ho17, hb17, hr17⟩ := lp_elim h
    refine W.lp (σs := fun s12 : Int => ⟨[(0, .v (Enc.sl eBlk) a0), (1, .v (Enc.sl eBlk) a1), (5, .v (Enc.int .i64) s12)], []⟩) (fun x18 : Unit => ⟨[], []⟩) ho17 (Sw.Sub.mk id (.cons rfl (.of_eq rfl) (.cons rfl (.of_eq rfl) (.cons rfl (.of_eq rfl) .nil))) .nil rfl) ?_ ?_
    · intro x18 hy
      have h := hb17 _ hy
      refine W.seq ?_
      refine W.reg (σ' := ⟨[(4, .v Enc.bool true)], []⟩) (J.cons (.none rfl) (JO.assign rfl) rfl rfl (J.fin (Sw.Sub.mk id (.cons rfl (.of_eq rfl) .nil) .nil rfl))) ?_
      refine W.ret ?_
      obtain rfl := Option.some.inj h
      exact XQ.sub (σ' := ⟨[(4, .v Enc.bool true)], []⟩) (Sw.Sub.mk id (.cons rfl (.of_eq rfl) .nil) .nil rfl) (XQ.ret1 hF noR rfl (RV.tmp rfl) .nil rfl)
    intro s12 r17 h
    refine W.seq ?_
    refine W.seq ?_
    refine W.reg (σ' := ⟨[(0, .v (Enc.sl eBlk) a0), (1, .v (Enc.sl eBlk) a1), (5, .v (Enc.int .i64) s12), (14, .v Enc.bool (cm .lss s12 (a0.length : Int)))], []⟩) (J.cons (.none rfl) (JO.move rfl) rfl rfl (J.cons (.none rfl) (JO.move rfl) rfl rfl (J.cons (.none rfl) (JO.len rfl Try.runUnderlying22) rfl rfl (J.cons (.none rfl) (JO.cmp rfl rfl rfl) rfl rfl (J.fin (Sw.Sub.mk id (.cons rfl (.of_eq rfl) (.cons rfl (.of_eq rfl) (.cons rfl (.of_eq rfl) (.cons rfl (.of_eq rfl) .nil)))) .nil rfl)))))) ?_
    rcases Bool.eq_false_or_eq_true (cm .lss s12 (a0.length : Int)) with hc19 | hc19
    · replace h := cond_t hc19 h
      refine W.condT rfl hc19 ?_
      refine W.skip ?_
      refine W.seq ?_
      refine W.block ?_
      refine W.seq ?_
      obtain ⟨z20, hz20, h⟩ := bind_e h
      obtain ⟨z21, hz21, h⟩ := bind_e h
      refine W.dr (σ' := ⟨[(0, .v (Enc.sl eBlk) a0), (1, .v (Enc.sl eBlk) a1), (5, .v (Enc.int .i64) s12), (25, .v Enc.bool (!decide (z20 = z21)))], []⟩) 9 mixed (by exact (.cons (.none rfl) (JO.move rfl) rfl rfl (.cons (.none rfl) (JO.move rfl) rfl rfl (.cons (.none rfl) (JO.idx hz20 rfl rfl Try.runUnderlying22 Try.sizeOf24) rfl rfl (.cons (.none rfl) (JO.loadPst rfl Try.isAgg24 Try.sizeOf24) rfl rfl (.cons (.none rfl) (JO.move rfl) rfl rfl (.cons (.none rfl) (JO.move rfl) rfl rfl (.cons (.none rfl) (JO.idx hz21 rfl rfl Try.runUnderlying22 Try.sizeOf24) rfl rfl (.cons (.none rfl) (JO.loadPst rfl Try.isAgg24 Try.sizeOf24) rfl rfl (.cons (.none rfl) (JO.neV eq24 rfl rfl Try.eqGuardType24 rfl rfl) rfl rfl .nil)))))))))) (by exact (J.fin (Sw.Sub.mk id (.cons rfl (.of_eq rfl) (.cons rfl (.of_eq rfl) (.cons rfl (.of_eq rfl) (.cons rfl (.of_eq rfl) .nil)))) .nil rfl))) (by decide +kernel) (by decide +kernel) (by decide +kernel) ?_
      rcases Bool.eq_false_or_eq_true (!decide (z20 = z21)) with hc22 | hc22
      · replace h := cond_t hc22 h
        refine W.condT rfl hc22 ?_
        refine W.seq ?_
        refine W.reg (σ' := ⟨[(4, .v Enc.bool false)], []⟩) (J.cons (.none rfl) (JO.assign rfl) rfl rfl (J.fin (Sw.Sub.mk id (.cons rfl (.of_eq rfl) .nil) .nil rfl))) ?_
        refine W.ret ?_
        refine XQ.ret ?_
        obtain rfl := Option.some.inj h
        refine XQ.lret fun ho => ?_
        obtain rfl := hr17 _ ho
        exact XQ.sub (σ' := ⟨[(4, .v Enc.bool false)], []⟩) (Sw.Sub.mk id (.cons rfl (.of_eq rfl) .nil) .nil rfl) (XQ.ret1 hF noR rfl (RV.tmp rfl) .nil rfl)
      · replace h := cond_f hc22 h
        refine W.condF rfl hc22 ?_
        refine W.skip ?_
        refine W.fall ?_
        refine W.reg (σ' := ⟨[(0, .v (Enc.sl eBlk) a0), (1, .v (Enc.sl eBlk) a1), (5, .v (Enc.int .i64) (ar .add .i64 s12 (1 : Int)))], []⟩) (J.cons (.none rfl) (JO.move rfl) rfl rfl (J.cons (.none rfl) (JO.arith rfl rfl rfl) rfl rfl (J.cons (.none rfl) (JO.assign rfl) rfl rfl (J.fin (Sw.Sub.mk id (.cons rfl (.of_eq rfl) (.cons rfl (.of_eq rfl) (.cons rfl (.of_eq rfl) .nil))) .nil rfl))))) ?_
        obtain rfl := Option.some.inj h
        exact W.next (Sw.Sub.mk id (.cons rfl (.of_eq rfl) (.cons rfl (.of_eq rfl) (.cons rfl (.of_eq rfl) .nil))) .nil rfl)
    · replace h := cond_f hc19 h
      refine W.condF rfl hc19 ?_
      refine W.exit ?_
      obtain rfl := Option.some.inj h
      exact XQ.brk (Sw.Sub.mk id .nil .nil rfl)
set_option maxRecDepth 100000 in
set_option maxHeartbeats 4000000 in
theorem con_law_PlanApplies {a0 : (List (Int × Int × Int × Blk))} {a1 : (List Blk)} {a2 : (List Blk)} {r : Bool} (h : m_law_PlanApplies a0 a1 a2 = some r) :
    Con Try.prog 9 [.v (Enc.sl (Enc.pr (Enc.int .i64) (Enc.pr (Enc.int .i64) (Enc.pr (Enc.int .i64) eBlk)))) a0, .v (Enc.sl eBlk) a1, .v (Enc.sl eBlk) a2] (.v Enc.bool r) [] := by
  refine Con.of Try.func9 rfl Try.ntmps9 rfl ?_
  intro S w hF
  unfold m_law_PlanApplies at h
  refine W.seq ?_
  refine W.reg (σ' := ⟨[(0, .v (Enc.sl (Enc.pr (Enc.int .i64) (Enc.pr (Enc.int .i64) (Enc.pr (Enc.int .i64) eBlk)))) a0), (1, .v (Enc.sl eBlk) a1), (2, .v (Enc.sl eBlk) a2)], []⟩) (J.cons (.none rfl) (JO.assign rfl) rfl rfl (J.fin (Sw.Sub.mk id (.cons rfl (.of_eq rfl) (.cons rfl (.of_eq rfl) (.cons rfl (.of_eq rfl) .nil))) .nil rfl))) ?_
  refine W.seq ?_
  refine W.seq ?_
  obtain ⟨x3, hx, h⟩ := bind_e h
  refine W.reg (σ' := ⟨[(0, .v (Enc.sl (Enc.pr (Enc.int .i64) (Enc.pr (Enc.int .i64) (Enc.pr (Enc.int .i64) eBlk)))) a0), (1, .v (Enc.sl eBlk) a1), (2, .v (Enc.sl eBlk) a2), (34, .v Enc.bool x3)], []⟩) ?_ ?_
  · rcases Bool.eq_false_or_eq_true (cm .gtr (a0.length : Int) (100 : Int)) with hc4 | hc4
    · replace hx := cond_t hc4 hx
      obtain rfl := Option.some.inj hx
      exact (J.cons (.none rfl) (JO.move rfl) rfl rfl (J.cons (.none rfl) (JO.len rfl Try.runUnderlying78) rfl rfl (J.cons (.none rfl) (JO.cmp rfl rfl rfl) rfl rfl (J.cons (.none rfl) (JO.move rfl) rfl rfl (J.left (GK.unmet 25 rfl rfl rfl hc4) rfl (J.left (GK.unmet 25 rfl rfl rfl hc4) rfl (J.left (GK.unmet 25 rfl rfl rfl hc4) rfl (J.cons (.none rfl) (JO.pT hc4 rfl rfl) rfl rfl (J.cons (.none rfl) (JO.move rfl) rfl rfl (J.left (GK.unmet 30 rfl rfl rfl rfl) rfl (J.left (GK.unmet 30 rfl rfl rfl rfl) rfl (J.left (GK.unmet 30 rfl rfl rfl rfl) rfl (J.cons (.none rfl) (JO.pT rfl rfl rfl) rfl rfl (J.fin (Sw.Sub.mk id (.cons rfl (.of_eq rfl) (.cons rfl (.of_eq rfl) (.cons rfl (.of_eq rfl) (.cons rfl (.of_eq rfl) .nil)))) .nil rfl)))))))))))))))
    · replace hx := cond_f hc4 hx
      rcases Bool.eq_false_or_eq_true (cm .gtr (a1.length : Int) (100 : Int)) with hc5 | hc5
      · replace hx := cond_t hc5 hx
        obtain rfl := Option.some.inj hx
        exact (J.cons (.none rfl) (JO.move rfl) rfl rfl (J.cons (.none rfl) (JO.len rfl Try.runUnderlying78) rfl rfl (J.cons (.none rfl) (JO.cmp rfl rfl rfl) rfl rfl (J.cons (.none rfl) (JO.move rfl) rfl rfl (J.cons (GK.met 25 rfl rfl rfl hc4) (JO.move rfl) rfl rfl (J.cons (GK.met 25 rfl rfl rfl hc4) (JO.len rfl Try.runUnderlying22) rfl rfl (J.cons (GK.met 25 rfl rfl rfl hc4) (JO.cmp rfl rfl rfl) rfl rfl (J.cons (.none rfl) (JO.pF hc4 rfl rfl) rfl rfl (J.cons (.none rfl) (JO.move rfl) rfl rfl (J.left (GK.unmet 30 rfl rfl rfl hc5) rfl (J.left (GK.unmet 30 rfl rfl rfl hc5) rfl (J.left (GK.unmet 30 rfl rfl rfl hc5) rfl (J.cons (.none rfl) (JO.pT hc5 rfl rfl) rfl rfl (J.fin (Sw.Sub.mk id (.cons rfl (.of_eq rfl) (.cons rfl (.of_eq rfl) (.cons rfl (.of_eq rfl) (.cons rfl (.of_eq rfl) .nil)))) .nil rfl)))))))))))))))
      · replace hx := cond_f hc5 hx
        obtain rfl := Option.some.inj hx
        exact (J.cons (.none rfl) (JO.move rfl) rfl rfl (J.cons (.none rfl) (JO.len rfl Try.runUnderlying78) rfl rfl (J.cons (.none rfl) (JO.cmp rfl rfl rfl) rfl rfl (J.cons (.none rfl) (JO.move rfl) rfl rfl (J.cons (GK.met 25 rfl rfl rfl hc4) (JO.move rfl) rfl rfl (J.cons (GK.met 25 rfl rfl rfl hc4) (JO.len rfl Try.runUnderlying22) rfl rfl (J.cons (GK.met 25 rfl rfl rfl hc4) (JO.cmp rfl rfl rfl) rfl rfl (J.cons (.none rfl) (JO.pF hc4 rfl rfl) rfl rfl (J.cons (.none rfl) (JO.move rfl) rfl rfl (J.cons (GK.met 30 rfl rfl rfl hc5) (JO.move rfl) rfl rfl (J.cons (GK.met 30 rfl rfl rfl hc5) (JO.len rfl Try.runUnderlying22) rfl rfl (J.cons (GK.met 30 rfl rfl rfl hc5) (JO.cmp rfl rfl rfl) rfl rfl (J.cons (.none rfl) (JO.pF hc5 rfl rfl) rfl rfl (J.fin (Sw.Sub.mk id (.cons rfl (.of_eq rfl) (.cons rfl (.of_eq rfl) (.cons rfl (.of_eq rfl) (.cons rfl (.of_eq rfl) .nil)))) .nil rfl)))))))))))))))
  rcases Bool.eq_false_or_eq_true x3 with hc6 | hc6
  · replace h := cond_t hc6 h
    refine W.condT rfl hc6 ?_
    refine W.seq ?_
    refine W.reg (σ' := ⟨[(6, .v Enc.bool true)], []⟩) (J.cons (.none rfl) (JO.assign rfl) rfl rfl (J.fin (Sw.Sub.mk id (.cons rfl (.of_eq rfl) .nil) .nil rfl))) ?_
    refine W.ret ?_
    obtain rfl := Option.some.inj h
    exact XQ.sub (σ' := ⟨[(6, .v Enc.bool true)], []⟩) (Sw.Sub.mk id (.cons rfl (.of_eq rfl) .nil) .nil rfl) (XQ.ret1 hF noR rfl (RV.tmp rfl) .nil rfl)
  · replace h := cond_f hc6 h
    refine W.condF rfl hc6 ?_
    refine W.skip ?_
    refine W.seq ?_
    obtain ⟨v7, hv7, h⟩ := bind_e h
    refine W.reg (σ' := ⟨[(0, .v (Enc.sl (Enc.pr (Enc.int .i64) (Enc.pr (Enc.int .i64) (Enc.pr (Enc.int .i64) eBlk)))) a0), (1, .v (Enc.sl eBlk) a1), (2, .v (Enc.sl eBlk) a2), (7, .v (Enc.int .i64) v7)], []⟩) (J.cons (.none rfl) (JO.move rfl) rfl rfl (J.cons (.none rfl) (JO.move rfl) rfl rfl (J.cons (.none rfl) (JO.call0 (con_ref_PlanMay hv7) Try.call43 (.cons (.dir rfl) (.cons (.dir rfl) .nil))) rfl rfl (J.cons (.none rfl) (JO.assign rfl) rfl rfl (J.fin (Sw.Sub.mk id (.cons rfl (.of_eq rfl) (.cons rfl (.of_eq rfl) (.cons rfl (.of_eq rfl) (.cons rfl (.of_eq rfl) .nil)))) .nil rfl)))))) ?_
    refine W.seq ?_
    refine W.reg (σ' := ⟨[(0, .v (Enc.sl (Enc.pr (Enc.int .i64) (Enc.pr (Enc.int .i64) (Enc.pr (Enc.int .i64) eBlk)))) a0), (1, .v (Enc.sl eBlk) a1), (2, .v (Enc.sl eBlk) a2), (7, .v (Enc.int .i64) v7), (8, .v (Enc.int .i64) (-1 : Int))], []⟩) (J.cons (.none rfl) (JO.assign rfl) rfl rfl (J.fin (Sw.Sub.mk id (.cons rfl (.of_eq rfl) (.cons rfl (.of_eq rfl) (.cons rfl (.of_eq rfl) (.cons rfl (.of_eq rfl) (.cons rfl (.of_eq rfl) .nil))))) .nil rfl))) ?_
    refine W.seq ?_
    refine W.seq ?_
    refine W.reg (σ' := ⟨[(0, .v (Enc.sl (Enc.pr (Enc.int .i64) (Enc.pr (Enc.int .i64) (Enc.pr (Enc.int .i64) eBlk)))) a0), (1, .v (Enc.sl eBlk) a1), (2, .v (Enc.sl eBlk) a2), (7, .v (Enc.int .i64) v7), (8, .v (Enc.int .i64) (-1 : Int)), (9, .v (Enc.int .i64) (0 : Int))], []⟩) (J.cons (.none rfl) (JO.assign rfl) rfl rfl (J.fin (Sw.Sub.mk id (.cons rfl (.of_eq rfl) (.cons rfl (.of_eq rfl) (.cons rfl (.of_eq rfl) (.cons rfl (.of_eq rfl) (.cons rfl (.of_eq rfl) (.cons rfl (.of_eq rfl) .nil)))))) .nil rfl))) ?_
    obtain ⟨o56, ho56, hb56, hr56⟩ := lp_elim h
    refine W.lp (σs := fun s40 : Int × Int × Int => ⟨[(0, .v (Enc.sl (Enc.pr (Enc.int .i64) (Enc.pr (Enc.int .i64) (Enc.pr (Enc.int .i64) eBlk)))) a0), (1, .v (Enc.sl eBlk) a1), (2, .v (Enc.sl eBlk) a2), (7, .v (Enc.int .i64) s40.1), (8, .v (Enc.int .i64) s40.2.1), (9, .v (Enc.int .i64) s40.2.2)], []⟩) (fun x57 : Int => ⟨[(0, .v (Enc.sl (Enc.pr (Enc.int .i64) (Enc.pr (Enc.int .i64) (Enc.pr (Enc.int .i64) eBlk)))) a0), (1, .v (Enc.sl eBlk) a1), (2, .v (Enc.sl eBlk) a2), (7, .v (Enc.int .i64) x57)], []⟩) ho56 (Sw.Sub.mk id (.cons rfl (.of_eq rfl) (.cons rfl (.of_eq rfl) (.cons rfl (.of_eq rfl) (.cons rfl (.of_eq rfl) (.cons rfl (.of_eq rfl) (.cons rfl (.of_eq rfl) .nil)))))) .nil rfl) ?_ ?_
    · intro x57 hy
      have h := hb56 _ hy
      refine W.seq ?_
      refine W.reg (σ' := ⟨[(0, .v (Enc.sl (Enc.pr (Enc.int .i64) (Enc.pr (Enc.int .i64) (Enc.pr (Enc.int .i64) eBlk)))) a0), (1, .v (Enc.sl eBlk) a1), (2, .v (Enc.sl eBlk) a2), (7, .v (Enc.int .i64) x57), (11, .ref 106)], [(106, .arr 85 (Enc.pr (Enc.int .i64) eBlk) ([] : (List (Int × Blk))))]⟩) (J.cons (.none rfl) (JO.assignNilR 106 85 (Enc.pr (Enc.int .i64) eBlk)) rfl rfl (J.fin (Sw.Sub.mk id (.cons rfl (.of_eq rfl) (.cons rfl (.of_eq rfl) (.cons rfl (.of_eq rfl) (.cons rfl (.of_eq rfl) (.cons rfl (.of_eq rfl) .nil))))) (.arr rfl .nil) rfl))) ?_
      refine W.seq ?_
      refine W.reg (σ' := ⟨[(0, .v (Enc.sl (Enc.pr (Enc.int .i64) (Enc.pr (Enc.int .i64) (Enc.pr (Enc.int .i64) eBlk)))) a0), (1, .v (Enc.sl eBlk) a1), (2, .v (Enc.sl eBlk) a2), (7, .v (Enc.int .i64) x57), (11, .ref 106), (12, .ref 107)], [(106, .arr 85 (Enc.pr (Enc.int .i64) eBlk) ([] : (List (Int × Blk)))), (107, .arr 3 (Enc.int .i64) ([] : (List Int)))]⟩) (J.cons (.none rfl) (JO.assignNilR 107 3 (Enc.int .i64)) rfl rfl (J.fin (Sw.Sub.mk id (.cons rfl (.of_eq rfl) (.cons rfl (.of_eq rfl) (.cons rfl (.of_eq rfl) (.cons rfl (.of_eq rfl) (.cons rfl (.of_eq rfl) (.cons rfl (.of_eq rfl) .nil)))))) (.arr rfl (.arr rfl .nil)) rfl))) ?_
      refine W.seq ?_
      refine W.seq ?_
      refine W.reg (σ' := ⟨[(0, .v (Enc.sl (Enc.pr (Enc.int .i64) (Enc.pr (Enc.int .i64) (Enc.pr (Enc.int .i64) eBlk)))) a0), (1, .v (Enc.sl eBlk) a1), (2, .v (Enc.sl eBlk) a2), (7, .v (Enc.int .i64) x57), (11, .ref 106), (12, .ref 107), (13, .v (Enc.int .i64) (0 : Int))], [(106, .arr 85 (Enc.pr (Enc.int .i64) eBlk) ([] : (List (Int × Blk)))), (107, .arr 3 (Enc.int .i64) ([] : (List Int)))]⟩) (J.cons (.none rfl) (JO.assign rfl) rfl rfl (J.fin (Sw.Sub.mk id (.cons rfl (.of_eq rfl) (.cons rfl (.of_eq rfl) (.cons rfl (.of_eq rfl) (.cons rfl (.of_eq rfl) (.cons rfl (.of_eq rfl) (.cons rfl (.of_eq rfl) (.cons rfl (.of_eq rfl) .nil))))))) (.arr rfl (.arr rfl .nil)) rfl))) ?_
      obtain ⟨o109, ho109, hb109, hr109⟩ := lp_elim h
      refine W.lp (σs := fun s97 : Int × (List (Int × Blk)) × (List Int) => ⟨[(0, .v (Enc.sl (Enc.pr (Enc.int .i64) (Enc.pr (Enc.int .i64) (Enc.pr (Enc.int .i64) eBlk)))) a0), (1, .v (Enc.sl eBlk) a1), (2, .v (Enc.sl eBlk) a2), (7, .v (Enc.int .i64) x57), (11, .ref 122), (12, .ref 123), (13, .v (Enc.int .i64) s97.1)], [(122, .arr 85 (Enc.pr (Enc.int .i64) eBlk) s97.2.1), (123, .arr 3 (Enc.int .i64) s97.2.2)]⟩) (fun x110 : (List (Int × Blk)) × (List Int) => ⟨[(0, .v (Enc.sl (Enc.pr (Enc.int .i64) (Enc.pr (Enc.int .i64) (Enc.pr (Enc.int .i64) eBlk)))) a0), (1, .v (Enc.sl eBlk) a1), (2, .v (Enc.sl eBlk) a2), (7, .v (Enc.int .i64) x57), (11, .ref 122), (12, .ref 123)], [(122, .arr 85 (Enc.pr (Enc.int .i64) eBlk) x110.1), (123, .arr 3 (Enc.int .i64) x110.2)]⟩) ho109 (Sw.Sub.mk (rn [(122, 106), (123, 107)]) (.cons rfl (.of_eq rfl) (.cons rfl (.of_eq rfl) (.cons rfl (.of_eq rfl) (.cons rfl (.of_eq rfl) (.cons rfl (.of_eq rfl) (.cons rfl (.of_eq rfl) (.cons rfl (.of_eq rfl) .nil))))))) (.arr rfl (.arr rfl .nil)) rfl) ?_ ?_
      · intro x110 hy
        have h := hb109 _ hy
        refine W.seq ?_
        obtain ⟨v122, hv122, h⟩ := bind_e h
        refine W.reg (σ' := ⟨[(0, .v (Enc.sl (Enc.pr (Enc.int .i64) (Enc.pr (Enc.int .i64) (Enc.pr (Enc.int .i64) eBlk)))) a0), (2, .v (Enc.sl eBlk) a2), (7, .v (Enc.int .i64) x57), (11, .ref 122), (12, .ref 123), (16, .v (Enc.sl (Enc.pr (Enc.int .i64) eBlk)) v122.1), (17, .v (Enc.sl (Enc.int .i64)) v122.2.1), (18, .v (Enc.err ET) v122.2.2)], [(122, .arr 85 (Enc.pr (Enc.int .i64) eBlk) x110.1), (123, .arr 3 (Enc.int .i64) x110.2)]⟩) (J.cons (.none rfl) (JO.move rfl) rfl rfl (J.cons (.none rfl) (JO.move rfl) rfl rfl (J.cons (.none rfl) (JO.move rfl) rfl rfl (J.cons (.none rfl) (JO.call0 (con_plan_Apply hv122) Try.call45 (.cons (.dir rfl) (.cons (.dir rfl) (.cons (.dir rfl) .nil)))) rfl rfl (J.cons (.none rfl) (JO.move rfl) rfl rfl (J.cons (.none rfl) (JO.extract rfl rfl) rfl rfl (J.cons (.none rfl) (JO.extract rfl rfl) rfl rfl (J.cons (.none rfl) (JO.extract rfl rfl) rfl rfl (J.cons (.none rfl) (JO.assign rfl) rfl rfl (J.cons (.none rfl) (JO.assign rfl) rfl rfl (J.cons (.none rfl) (JO.assign rfl) rfl rfl (J.fin (Sw.Sub.mk id (.cons rfl (.of_eq rfl) (.cons rfl (.of_eq rfl) (.cons rfl (.of_eq rfl) (.cons rfl (.of_eq rfl) (.cons rfl (.of_eq rfl) (.cons rfl (.of_eq rfl) (.cons rfl (.of_eq rfl) (.cons rfl (.of_eq rfl) .nil)))))))) (.arr rfl (.arr rfl .nil)) rfl))))))))))))) ?_
        refine W.seq ?_
        refine W.seq ?_
        obtain ⟨x128, hx, h⟩ := bind_e h
        refine W.reg (σ' := ⟨[(0, .v (Enc.sl (Enc.pr (Enc.int .i64) (Enc.pr (Enc.int .i64) (Enc.pr (Enc.int .i64) eBlk)))) a0), (2, .v (Enc.sl eBlk) a2), (137, .v Enc.bool x128)], []⟩) ?_ ?_
        · obtain ⟨v129, hv129, hx⟩ := bind_e hx
          rcases Bool.eq_false_or_eq_true (!v129) with hc130 | hc130
          · replace hx := cond_t hc130 hx
            obtain rfl := Option.some.inj hx
            exact (J.cons (.none rfl) (JO.move rfl) rfl rfl (J.cons (.none rfl) (JO.move rfl) rfl rfl (J.cons (.none rfl) (JO.call0 (con_ref_Is hv129) Try.call18 (.cons (.dir rfl) (.cons (.dir rfl) .nil))) rfl rfl (J.cons (.none rfl) (JO.not rfl) rfl rfl (J.cons (.none rfl) (JO.move rfl) rfl rfl (J.left (GK.unmet 126 rfl rfl rfl hc130) rfl (J.left (GK.unmet 126 rfl rfl rfl hc130) rfl (J.left (GK.unmet 126 rfl rfl rfl hc130) rfl (J.left (GK.unmet 126 rfl rfl rfl hc130) rfl (J.cons (.none rfl) (JO.pT hc130 rfl rfl) rfl rfl (J.cons (.none rfl) (JO.move rfl) rfl rfl (J.left (GK.unmet 132 rfl rfl rfl rfl) rfl (J.left (GK.unmet 132 rfl rfl rfl rfl) rfl (J.left (GK.unmet 132 rfl rfl rfl rfl) rfl (J.left (GK.unmet 132 rfl rfl rfl rfl) rfl (J.cons (.none rfl) (JO.pT rfl rfl rfl) rfl rfl (J.fin (Sw.Sub.mk id (.cons rfl (.of_eq rfl) (.cons rfl (.of_eq rfl) (.cons rfl (.of_eq rfl) .nil))) .nil rfl))))))))))))))))))
          · replace hx := cond_f hc130 hx
            obtain ⟨v131, hv131, hx⟩ := bind_e hx
            rcases Bool.eq_false_or_eq_true (!v131) with hc132 | hc132
            · replace hx := cond_t hc132 hx
              obtain rfl := Option.some.inj hx
              exact (J.cons (.none rfl) (JO.move rfl) rfl rfl (J.cons (.none rfl) (JO.move rfl) rfl rfl (J.cons (.none rfl) (JO.call0 (con_ref_Is hv129) Try.call18 (.cons (.dir rfl) (.cons (.dir rfl) .nil))) rfl rfl (J.cons (.none rfl) (JO.not rfl) rfl rfl (J.cons (.none rfl) (JO.move rfl) rfl rfl (J.cons (GK.met 126 rfl rfl rfl hc130) (JO.move rfl) rfl rfl (J.cons (GK.met 126 rfl rfl rfl hc130) (JO.move rfl) rfl rfl (J.cons (GK.met 126 rfl rfl rfl hc130) (JO.callL0 (con_ref_SamePuts hv131) Try.call46 (.cons (.dir rfl) (.cons (.ref rfl rfl) .nil)) FlatS.v) rfl rfl (J.cons (GK.met 126 rfl rfl rfl hc130) (JO.not rfl) rfl rfl (J.cons (.none rfl) (JO.pF hc130 rfl rfl) rfl rfl (J.cons (.none rfl) (JO.move rfl) rfl rfl (J.left (GK.unmet 132 rfl rfl rfl hc132) rfl (J.left (GK.unmet 132 rfl rfl rfl hc132) rfl (J.left (GK.unmet 132 rfl rfl rfl hc132) rfl (J.left (GK.unmet 132 rfl rfl rfl hc132) rfl (J.cons (.none rfl) (JO.pT hc132 rfl rfl) rfl rfl (J.fin (Sw.Sub.mk id (.cons rfl (.of_eq rfl) (.cons rfl (.of_eq rfl) (.cons rfl (.of_eq rfl) .nil))) .nil rfl))))))))))))))))))
            · replace hx := cond_f hc132 hx
              obtain ⟨v133, hv133, hx⟩ := bind_e hx
              obtain rfl := Option.some.inj hx
              exact (J.cons (.none rfl) (JO.move rfl) rfl rfl (J.cons (.none rfl) (JO.move rfl) rfl rfl (J.cons (.none rfl) (JO.call0 (con_ref_Is hv129) Try.call18 (.cons (.dir rfl) (.cons (.dir rfl) .nil))) rfl rfl (J.cons (.none rfl) (JO.not rfl) rfl rfl (J.cons (.none rfl) (JO.move rfl) rfl rfl (J.cons (GK.met 126 rfl rfl rfl hc130) (JO.move rfl) rfl rfl (J.cons (GK.met 126 rfl rfl rfl hc130) (JO.move rfl) rfl rfl (J.cons (GK.met 126 rfl rfl rfl hc130) (JO.callL0 (con_ref_SamePuts hv131) Try.call46 (.cons (.dir rfl) (.cons (.ref rfl rfl) .nil)) FlatS.v) rfl rfl (J.cons (GK.met 126 rfl rfl rfl hc130) (JO.not rfl) rfl rfl (J.cons (.none rfl) (JO.pF hc130 rfl rfl) rfl rfl (J.cons (.none rfl) (JO.move rfl) rfl rfl (J.cons (GK.met 132 rfl rfl rfl hc132) (JO.move rfl) rfl rfl (J.cons (GK.met 132 rfl rfl rfl hc132) (JO.move rfl) rfl rfl (J.cons (GK.met 132 rfl rfl rfl hc132) (JO.callL0 (con_ref_SameInts hv133) Try.call47 (.cons (.dir rfl) (.cons (.ref rfl rfl) .nil)) FlatS.v) rfl rfl (J.cons (GK.met 132 rfl rfl rfl hc132) (JO.not rfl) rfl rfl (J.cons (.none rfl) (JO.pF hc132 rfl rfl) rfl rfl (J.fin (Sw.Sub.mk id (.cons rfl (.of_eq rfl) (.cons rfl (.of_eq rfl) (.cons rfl (.of_eq rfl) .nil))) .nil rfl))))))))))))))))))
        rcases Bool.eq_false_or_eq_true x128 with hc134 | hc134
        · replace h := cond_t hc134 h
          refine W.condT rfl hc134 ?_
          refine W.seq ?_
          refine W.reg (σ' := ⟨[(6, .v Enc.bool false)], []⟩) (J.cons (.none rfl) (JO.assign rfl) rfl rfl (J.fin (Sw.Sub.mk id (.cons rfl (.of_eq rfl) .nil) .nil rfl))) ?_
          refine W.ret ?_
          obtain rfl := Option.some.inj h
          exact XQ.sub (σ' := ⟨[(6, .v Enc.bool false)], []⟩) (Sw.Sub.mk id (.cons rfl (.of_eq rfl) .nil) .nil rfl) (XQ.ret1 hF noR rfl (RV.tmp rfl) .nil rfl)
        · replace h := cond_f hc134 h
          refine W.condF rfl hc134 ?_
          refine W.skip ?_
          refine W.seq ?_
          obtain ⟨v135, hv135, h⟩ := bind_e h
          refine W.reg (σ' := ⟨[(0, .v (Enc.sl (Enc.pr (Enc.int .i64) (Enc.pr (Enc.int .i64) (Enc.pr (Enc.int .i64) eBlk)))) a0), (2, .v (Enc.sl eBlk) a2), (7, .v (Enc.int .i64) v135)], []⟩) (J.cons (.none rfl) (JO.move rfl) rfl rfl (J.cons (.none rfl) (JO.call0 (con_ref_HadMay hv135) Try.call15 (.cons (.dir rfl) .nil)) rfl rfl (J.cons (.none rfl) (JO.assign rfl) rfl rfl (J.fin (Sw.Sub.mk id (.cons rfl (.of_eq rfl) (.cons rfl (.of_eq rfl) (.cons rfl (.of_eq rfl) .nil))) .nil rfl))))) ?_
          refine W.seq ?_
          refine W.reg (σ' := ⟨[(0, .v (Enc.sl (Enc.pr (Enc.int .i64) (Enc.pr (Enc.int .i64) (Enc.pr (Enc.int .i64) eBlk)))) a0), (2, .v (Enc.sl eBlk) a2), (7, .v (Enc.int .i64) v135), (19, .v (Enc.sl eBlk) ([] : (List Blk)))], []⟩) (J.cons (.none rfl) (JO.assignNil eBlk) rfl rfl (J.fin (Sw.Sub.mk id (.cons rfl (.of_eq rfl) (.cons rfl (.of_eq rfl) (.cons rfl (.of_eq rfl) (.cons rfl (.of_eq rfl) .nil)))) .nil rfl))) ?_
          refine W.seq ?_
          refine W.seq ?_
          refine W.reg (σ' := ⟨[(0, .v (Enc.sl (Enc.pr (Enc.int .i64) (Enc.pr (Enc.int .i64) (Enc.pr (Enc.int .i64) eBlk)))) a0), (2, .v (Enc.sl eBlk) a2), (7, .v (Enc.int .i64) v135), (19, .v (Enc.sl eBlk) ([] : (List Blk))), (141, .v Enc.bool (cm .eql v135 (0 : Int)))], []⟩) (J.cons (.none rfl) (JO.move rfl) rfl rfl (J.cons (.none rfl) (JO.cmp rfl rfl rfl) rfl rfl (J.fin (Sw.Sub.mk id (.cons rfl (.of_eq rfl) (.cons rfl (.of_eq rfl) (.cons rfl (.of_eq rfl) (.cons rfl (.of_eq rfl) (.cons rfl (.of_eq rfl) .nil))))) .nil rfl)))) ?_
          obtain ⟨k164, hk164, h⟩ := jp_elim h
          refine W.jn (fun x165 : (List Blk) => ⟨[(0, .v (Enc.sl (Enc.pr (Enc.int .i64) (Enc.pr (Enc.int .i64) (Enc.pr (Enc.int .i64) eBlk)))) a0), (2, .v (Enc.sl eBlk) a2), (7, .v (Enc.int .i64) v135), (19, .v (Enc.sl eBlk) x165)], []⟩) (fun x => k164 x = some r) rfl ?_ ?_ ?_
          · intro x165 h
            rw [hk164] at h
            refine W.seq ?_
            obtain ⟨v193, hv193, h⟩ := bind_e h
            refine W.reg (σ' := ⟨[(7, .v (Enc.int .i64) v135), (18, .v (Enc.err ET) v193.2), (19, .v (Enc.sl eBlk) x165), (21, .v (Enc.sl eBlk) v193.1)], []⟩) (J.cons (.none rfl) (JO.move rfl) rfl rfl (J.cons (.none rfl) (JO.move rfl) rfl rfl (J.cons (.none rfl) (JO.call0 (con_plan_Had hv193) Try.call49 (.cons (.dir rfl) (.cons (.dir rfl) .nil))) rfl rfl (J.cons (.none rfl) (JO.move rfl) rfl rfl (J.cons (.none rfl) (JO.extract rfl rfl) rfl rfl (J.cons (.none rfl) (JO.extract rfl rfl) rfl rfl (J.cons (.none rfl) (JO.assign rfl) rfl rfl (J.cons (.none rfl) (JO.assign rfl) rfl rfl (J.fin (Sw.Sub.mk id (.cons rfl (.of_eq rfl) (.cons rfl (.of_eq rfl) (.cons rfl (.of_eq rfl) (.cons rfl (.of_eq rfl) .nil)))) .nil rfl)))))))))) ?_
            refine W.seq ?_
            obtain ⟨x197, hx, h⟩ := bind_e h
            refine W.reg (σ' := ⟨[(6, .v Enc.bool x197)], []⟩) ?_ ?_
            · obtain ⟨v198, hv198, hx⟩ := bind_e hx
              rcases Bool.eq_false_or_eq_true v198 with hc199 | hc199
              · replace hx := cond_t hc199 hx
                obtain ⟨v200, hv200, hx⟩ := bind_e hx
                obtain rfl := Option.some.inj hx
                exact (J.cons (.none rfl) (JO.move rfl) rfl rfl (J.cons (.none rfl) (JO.move rfl) rfl rfl (J.cons (.none rfl) (JO.call0 (con_ref_Is hv198) Try.call18 (.cons (.dir rfl) (.cons (.dir rfl) .nil))) rfl rfl (J.cons (.none rfl) (JO.move rfl) rfl rfl (J.cons (GK.met 172 rfl rfl rfl hc199) (JO.move rfl) rfl rfl (J.cons (GK.met 172 rfl rfl rfl hc199) (JO.move rfl) rfl rfl (J.cons (GK.met 172 rfl rfl rfl hc199) (JO.call0 (con_ref_SameBlocks hv200) Try.call20 (.cons (.dir rfl) (.cons (.dir rfl) .nil))) rfl rfl (J.cons (.none rfl) (JO.pT hc199 rfl rfl) rfl rfl (J.cons (.none rfl) (JO.assign rfl) rfl rfl (J.fin (Sw.Sub.mk id (.cons rfl (.of_eq rfl) .nil) .nil rfl)))))))))))
              · replace hx := cond_f hc199 hx
                obtain rfl := Option.some.inj hx
                exact (J.cons (.none rfl) (JO.move rfl) rfl rfl (J.cons (.none rfl) (JO.move rfl) rfl rfl (J.cons (.none rfl) (JO.call0 (con_ref_Is hv198) Try.call18 (.cons (.dir rfl) (.cons (.dir rfl) .nil))) rfl rfl (J.cons (.none rfl) (JO.move rfl) rfl rfl (J.left (GK.unmet 172 rfl rfl rfl hc199) rfl (J.left (GK.unmet 172 rfl rfl rfl hc199) rfl (J.left (GK.unmet 172 rfl rfl rfl hc199) rfl (J.cons (.none rfl) (JO.pF hc199 rfl rfl) rfl rfl (J.cons (.none rfl) (JO.assign rfl) rfl rfl (J.fin (Sw.Sub.mk id (.cons rfl (.of_eq rfl) .nil) .nil rfl)))))))))))
            refine W.ret ?_
            obtain rfl := Option.some.inj h
            exact XQ.sub (σ' := ⟨[(6, .v Enc.bool x197)], []⟩) (Sw.Sub.mk id (.cons rfl (.of_eq rfl) .nil) .nil rfl) (XQ.ret1 hF noR rfl (RV.tmp rfl) .nil rfl)
          · intro hc136
            replace h := cond_t hc136 h
            refine W.seq ?_
            obtain ⟨v166, hv166, h⟩ := bind_e h
            refine W.reg (σ' := ⟨[(0, .v (Enc.sl (Enc.pr (Enc.int .i64) (Enc.pr (Enc.int .i64) (Enc.pr (Enc.int .i64) eBlk)))) a0), (2, .v (Enc.sl eBlk) a2), (7, .v (Enc.int .i64) v135), (19, .ref 146000)], [(146000, .arr 24 eBlk v166)]⟩) (J.cons (.none rfl) (JO.move rfl) rfl rfl (J.cons (.none rfl) (JO.call 146000 (con_ref_OwnBlocks hv166) Try.call48 (.cons (.dir rfl) .nil) rfl) rfl rfl (J.cons (.none rfl) (JO.assign rfl) rfl rfl (J.fin (Sw.Sub.mk id (.cons rfl (.of_eq rfl) (.cons rfl (.of_eq rfl) (.cons rfl (.of_eq rfl) (.cons rfl (.of_eq rfl) .nil)))) (.arr rfl .nil) rfl))))) ?_
            refine W.seq ?_
            refine W.reg (σ' := ⟨[(0, .v (Enc.sl (Enc.pr (Enc.int .i64) (Enc.pr (Enc.int .i64) (Enc.pr (Enc.int .i64) eBlk)))) a0), (2, .v (Enc.sl eBlk) a2), (7, .v (Enc.int .i64) v135), (19, .ref 146000), (20, .v (Enc.int .i64) (0 : Int))], [(146000, .arr 24 eBlk v166)]⟩) (J.cons (.none rfl) (JO.assign rfl) rfl rfl (J.fin (Sw.Sub.mk id (.cons rfl (.of_eq rfl) (.cons rfl (.of_eq rfl) (.cons rfl (.of_eq rfl) (.cons rfl (.of_eq rfl) (.cons rfl (.of_eq rfl) .nil))))) (.arr rfl .nil) rfl))) ?_
            obtain ⟨o186, ho186, hb186, hr186⟩ := lp_elim h
            refine W.lp (σs := fun s180 : (List Blk) × Int => ⟨[(0, .v (Enc.sl (Enc.pr (Enc.int .i64) (Enc.pr (Enc.int .i64) (Enc.pr (Enc.int .i64) eBlk)))) a0), (2, .v (Enc.sl eBlk) a2), (7, .v (Enc.int .i64) v135), (19, .v (Enc.sl eBlk) s180.1), (20, .v (Enc.int .i64) s180.2)], []⟩) (fun x187 : (List Blk) => ⟨[(0, .v (Enc.sl (Enc.pr (Enc.int .i64) (Enc.pr (Enc.int .i64) (Enc.pr (Enc.int .i64) eBlk)))) a0), (2, .v (Enc.sl eBlk) a2), (7, .v (Enc.int .i64) v135), (19, .v (Enc.sl eBlk) x187)], []⟩) ho186 (Sw.Sub.mk id (.cons rfl (.of_eq rfl) (.cons rfl (.of_eq rfl) (.cons rfl (.of_eq rfl) (.cons rfl (.frz rfl rfl) (.cons rfl (.of_eq rfl) .nil))))) .nil rfl) ?_ ?_
            · intro x187 hy
              have h := hb186 _ hy
              exact W.jfall h (Sw.Sub.mk id (.cons rfl (.of_eq rfl) (.cons rfl (.of_eq rfl) (.cons rfl (.of_eq rfl) (.cons rfl (.of_eq rfl) .nil)))) .nil rfl)
            intro s180 r186 h
            refine W.seq ?_
            refine W.seq ?_
            refine W.reg (σ' := ⟨[(0, .v (Enc.sl (Enc.pr (Enc.int .i64) (Enc.pr (Enc.int .i64) (Enc.pr (Enc.int .i64) eBlk)))) a0), (2, .v (Enc.sl eBlk) a2), (7, .v (Enc.int .i64) v135), (19, .v (Enc.sl eBlk) s180.1), (20, .v (Enc.int .i64) s180.2), (147, .v Enc.bool (cm .lss s180.2 (a0.length : Int)))], []⟩) (J.cons (.none rfl) (JO.move rfl) rfl rfl (J.cons (.none rfl) (JO.move rfl) rfl rfl (J.cons (.none rfl) (JO.len rfl Try.runUnderlying78) rfl rfl (J.cons (.none rfl) (JO.cmp rfl rfl rfl) rfl rfl (J.fin (Sw.Sub.mk id (.cons rfl (.of_eq rfl) (.cons rfl (.of_eq rfl) (.cons rfl (.of_eq rfl) (.cons rfl (.of_eq rfl) (.cons rfl (.of_eq rfl) (.cons rfl (.of_eq rfl) .nil)))))) .nil rfl)))))) ?_
            rcases Bool.eq_false_or_eq_true (cm .lss s180.2 (a0.length : Int)) with hc188 | hc188
            · replace h := cond_t hc188 h
              refine W.condT rfl hc188 ?_
              refine W.skip ?_
              refine W.seq ?_
              refine W.block ?_
              refine W.seq ?_
              obtain ⟨z189, hz189, h⟩ := bind_e h
              refine W.reg (σ' := ⟨[(0, .v (Enc.sl (Enc.pr (Enc.int .i64) (Enc.pr (Enc.int .i64) (Enc.pr (Enc.int .i64) eBlk)))) a0), (2, .v (Enc.sl eBlk) a2), (7, .v (Enc.int .i64) v135), (19, .v (Enc.sl eBlk) s180.1), (20, .v (Enc.int .i64) s180.2), (155, .v Enc.bool (cm .eql z189.2.1 (3 : Int)))], []⟩) (J.cons (.none rfl) (JO.move rfl) rfl rfl (J.cons (.none rfl) (JO.move rfl) rfl rfl (J.cons (.none rfl) (JO.idx hz189 rfl rfl Try.runUnderlying78 Try.sizeOf81) rfl rfl (J.cons (.none rfl) (JO.fieldPst rfl Try.runUnderlying81 rfl Try.sizeOf3 rfl (.snd (.fst .here)) rfl) rfl rfl (J.cons (.none rfl) (JO.loadPst rfl Try.isAgg3 Try.sizeOf3) rfl rfl (J.cons (.none rfl) (JO.cmp rfl rfl rfl) rfl rfl (J.fin (Sw.Sub.mk id (.cons rfl (.of_eq rfl) (.cons rfl (.of_eq rfl) (.cons rfl (.of_eq rfl) (.cons rfl (.of_eq rfl) (.cons rfl (.of_eq rfl) (.cons rfl (.of_eq rfl) .nil)))))) .nil rfl)))))))) ?_
              rcases Bool.eq_false_or_eq_true (cm .eql z189.2.1 (3 : Int)) with hc190 | hc190
              · replace h := cond_t hc190 h
                refine W.condT rfl hc190 ?_
                obtain ⟨z191, hz191, h⟩ := bind_e h
                obtain ⟨v192, hv192, h⟩ := bind_e h
                refine W.reg (σ' := ⟨[(0, .v (Enc.sl (Enc.pr (Enc.int .i64) (Enc.pr (Enc.int .i64) (Enc.pr (Enc.int .i64) eBlk)))) a0), (2, .v (Enc.sl eBlk) a2), (7, .v (Enc.int .i64) v135), (19, .v (Enc.sl eBlk) v192), (20, .v (Enc.int .i64) s180.2)], []⟩) (J.cons (.none rfl) (JO.move rfl) rfl rfl (J.cons (.none rfl) (JO.move rfl) rfl rfl (J.cons (.none rfl) (JO.move rfl) rfl rfl (J.cons (.none rfl) (JO.idx hz191 rfl rfl Try.runUnderlying78 Try.sizeOf81) rfl rfl (J.cons (.none rfl) (JO.fieldPst rfl Try.runUnderlying81 rfl Try.sizeOf24 rfl (.snd (.snd (.snd .here))) rfl) rfl rfl (J.cons (.none rfl) (JO.loadPst rfl Try.isAgg24 Try.sizeOf24) rfl rfl (J.cons (.none rfl) (JO.call0 (con_ref_Touched hv192) Try.call16 (.cons (.dir rfl) (.cons (.dir rfl) .nil))) rfl rfl (J.cons (.none rfl) (JO.assign rfl) rfl rfl (J.fin (Sw.Sub.mk id (.cons rfl (.of_eq rfl) (.cons rfl (.of_eq rfl) (.cons rfl (.of_eq rfl) (.cons rfl (.of_eq rfl) (.cons rfl (.of_eq rfl) .nil))))) .nil rfl)))))))))) ?_
                refine W.fall ?_
                refine W.reg (σ' := ⟨[(0, .v (Enc.sl (Enc.pr (Enc.int .i64) (Enc.pr (Enc.int .i64) (Enc.pr (Enc.int .i64) eBlk)))) a0), (2, .v (Enc.sl eBlk) a2), (7, .v (Enc.int .i64) v135), (19, .v (Enc.sl eBlk) v192), (20, .v (Enc.int .i64) (ar .add .i64 s180.2 (1 : Int)))], []⟩) (J.cons (.none rfl) (JO.move rfl) rfl rfl (J.cons (.none rfl) (JO.arith rfl rfl rfl) rfl rfl (J.cons (.none rfl) (JO.assign rfl) rfl rfl (J.fin (Sw.Sub.mk id (.cons rfl (.of_eq rfl) (.cons rfl (.of_eq rfl) (.cons rfl (.of_eq rfl) (.cons rfl (.of_eq rfl) (.cons rfl (.of_eq rfl) .nil))))) .nil rfl))))) ?_
                obtain rfl := Option.some.inj h
                exact W.next (Sw.Sub.mk id (.cons rfl (.of_eq rfl) (.cons rfl (.of_eq rfl) (.cons rfl (.of_eq rfl) (.cons rfl (.of_eq rfl) (.cons rfl (.of_eq rfl) .nil))))) .nil rfl)
              · replace h := cond_f hc190 h
                refine W.condF rfl hc190 ?_
                refine W.skip ?_
                refine W.fall ?_
                refine W.reg (σ' := ⟨[(0, .v (Enc.sl (Enc.pr (Enc.int .i64) (Enc.pr (Enc.int .i64) (Enc.pr (Enc.int .i64) eBlk)))) a0), (2, .v (Enc.sl eBlk) a2), (7, .v (Enc.int .i64) v135), (19, .v (Enc.sl eBlk) s180.1), (20, .v (Enc.int .i64) (ar .add .i64 s180.2 (1 : Int)))], []⟩) (J.cons (.none rfl) (JO.move rfl) rfl rfl (J.cons (.none rfl) (JO.arith rfl rfl rfl) rfl rfl (J.cons (.none rfl) (JO.assign rfl) rfl rfl (J.fin (Sw.Sub.mk id (.cons rfl (.of_eq rfl) (.cons rfl (.of_eq rfl) (.cons rfl (.of_eq rfl) (.cons rfl (.of_eq rfl) (.cons rfl (.of_eq rfl) .nil))))) .nil rfl))))) ?_
                obtain rfl := Option.some.inj h
                exact W.next (Sw.Sub.mk id (.cons rfl (.of_eq rfl) (.cons rfl (.of_eq rfl) (.cons rfl (.of_eq rfl) (.cons rfl (.of_eq rfl) (.cons rfl (.of_eq rfl) .nil))))) .nil rfl)
            · replace h := cond_f hc188 h
              refine W.condF rfl hc188 ?_
              refine W.exit ?_
              obtain rfl := Option.some.inj h
              exact XQ.brk (Sw.Sub.mk id (.cons rfl (.of_eq rfl) (.cons rfl (.of_eq rfl) (.cons rfl (.of_eq rfl) (.cons rfl (.of_eq rfl) .nil)))) .nil rfl)
          · intro hc136
            replace h := cond_f hc136 h
            refine W.skip ?_
            exact W.jfall h (Sw.Sub.mk id (.cons rfl (.of_eq rfl) (.cons rfl (.of_eq rfl) (.cons rfl (.of_eq rfl) (.cons rfl (.of_eq rfl) .nil)))) .nil rfl)
      intro s97 r109 h
      refine W.seq ?_
      refine W.seq ?_
      obtain ⟨x112, hx, h⟩ := bind_e h
      refine W.reg (σ' := ⟨[(0, .v (Enc.sl (Enc.pr (Enc.int .i64) (Enc.pr (Enc.int .i64) (Enc.pr (Enc.int .i64) eBlk)))) a0), (1, .v (Enc.sl eBlk) a1), (2, .v (Enc.sl eBlk) a2), (7, .v (Enc.int .i64) x57), (11, .ref 122), (12, .ref 123), (13, .v (Enc.int .i64) s97.1), (82, .v Enc.bool x112)], [(122, .arr 85 (Enc.pr (Enc.int .i64) eBlk) s97.2.1), (123, .arr 3 (Enc.int .i64) s97.2.2)]⟩) ?_ ?_
      · rcases Bool.eq_false_or_eq_true (cm .lss s97.1 (a0.length : Int)) with hc113 | hc113
        · replace hx := cond_t hc113 hx
          obtain rfl := Option.some.inj hx
          exact (J.cons (.none rfl) (JO.move rfl) rfl rfl (J.cons (.none rfl) (JO.move rfl) rfl rfl (J.cons (.none rfl) (JO.len rfl Try.runUnderlying78) rfl rfl (J.cons (.none rfl) (JO.cmp rfl rfl rfl) rfl rfl (J.cons (.none rfl) (JO.move rfl) rfl rfl (J.cons (GK.met 79 rfl rfl rfl hc113) (JO.move rfl) rfl rfl (J.cons (GK.met 79 rfl rfl rfl hc113) (JO.cmp rfl rfl rfl) rfl rfl (J.cons (.none rfl) (JO.pT hc113 rfl rfl) rfl rfl (J.fin (Sw.Sub.mk id (.cons rfl (.of_eq rfl) (.cons rfl (.of_eq rfl) (.cons rfl (.of_eq rfl) (.cons rfl (.of_eq rfl) (.cons rfl (.of_eq rfl) (.cons rfl (.of_eq rfl) (.cons rfl (.of_eq rfl) (.cons rfl (.of_eq rfl) .nil)))))))) (.arr rfl (.arr rfl .nil)) rfl))))))))))
        · replace hx := cond_f hc113 hx
          obtain rfl := Option.some.inj hx
          exact (J.cons (.none rfl) (JO.move rfl) rfl rfl (J.cons (.none rfl) (JO.move rfl) rfl rfl (J.cons (.none rfl) (JO.len rfl Try.runUnderlying78) rfl rfl (J.cons (.none rfl) (JO.cmp rfl rfl rfl) rfl rfl (J.cons (.none rfl) (JO.move rfl) rfl rfl (J.left (GK.unmet 79 rfl rfl rfl hc113) rfl (J.left (GK.unmet 79 rfl rfl rfl hc113) rfl (J.cons (.none rfl) (JO.pF hc113 rfl rfl) rfl rfl (J.fin (Sw.Sub.mk id (.cons rfl (.of_eq rfl) (.cons rfl (.of_eq rfl) (.cons rfl (.of_eq rfl) (.cons rfl (.of_eq rfl) (.cons rfl (.of_eq rfl) (.cons rfl (.of_eq rfl) (.cons rfl (.of_eq rfl) (.cons rfl (.of_eq rfl) .nil)))))))) (.arr rfl (.arr rfl .nil)) rfl))))))))))
      rcases Bool.eq_false_or_eq_true x112 with hc114 | hc114
      · replace h := cond_t hc114 h
        refine W.condT rfl hc114 ?_
        refine W.skip ?_
        refine W.seq ?_
        refine W.block ?_
        refine W.seq ?_
        obtain ⟨z115, hz115, h⟩ := bind_e h
        obtain ⟨v116, hv116, h⟩ := bind_e h
        refine W.reg (σ' := ⟨[(0, .v (Enc.sl (Enc.pr (Enc.int .i64) (Enc.pr (Enc.int .i64) (Enc.pr (Enc.int .i64) eBlk)))) a0), (1, .v (Enc.sl eBlk) a1), (2, .v (Enc.sl eBlk) a2), (7, .v (Enc.int .i64) x57), (11, .ref 122), (12, .ref 123), (13, .v (Enc.int .i64) s97.1), (14, .ptr 129 0), (15, .v Enc.bool v116.2)], [(122, .arr 85 (Enc.pr (Enc.int .i64) eBlk) s97.2.1), (123, .arr 3 (Enc.int .i64) s97.2.2), (129, .box 24 [.v eBlk v116.1])]⟩) (J.cons (.none rfl) (JO.move rfl) rfl rfl (J.cons (.none rfl) (JO.move rfl) rfl rfl (J.cons (.none rfl) (JO.idx hz115 rfl rfl Try.runUnderlying78 Try.sizeOf81) rfl rfl (J.cons (.none rfl) (JO.loadPst rfl Try.isAgg81 Try.sizeOf81) rfl rfl (J.cons (.none rfl) (JO.move rfl) rfl rfl (J.cons (.none rfl) (JO.move rfl) rfl rfl (J.cons (.none rfl) (JO.call0 (con_ref_Said hv116) Try.call44 (.cons (.dir rfl) (.cons (.dir rfl) (.cons (.dir rfl) .nil)))) rfl rfl (J.cons (.none rfl) (JO.move rfl) rfl rfl (J.cons (.none rfl) (JO.extract rfl rfl) rfl rfl (J.cons (.none rfl) (JO.extract rfl rfl) rfl rfl (J.cons (.none rfl) (JO.alloc 129 Try.zeroValue24 rfl (.cons (Z.arr 8 (Z.int .u8)) .nil) rfl) rfl rfl (J.mut (.none rfl) (JM.store rfl rfl rfl rfl rfl rfl rfl Try.sizeOf24) (J.cons (.none rfl) (JO.assign rfl) rfl rfl (J.fin (Sw.Sub.mk id (.cons rfl (.of_eq rfl) (.cons rfl (.of_eq rfl) (.cons rfl (.of_eq rfl) (.cons rfl (.of_eq rfl) (.cons rfl (.of_eq rfl) (.cons rfl (.of_eq rfl) (.cons rfl (.of_eq rfl) (.cons rfl (.of_eq rfl) (.cons rfl (.of_eq rfl) .nil))))))))) (.arr rfl (.arr rfl (.box rfl (.cons (.of_eq rfl) .nil) .nil))) rfl))))))))))))))) ?_
        refine W.seq ?_
        refine W.reg (σ' := ⟨[(0, .v (Enc.sl (Enc.pr (Enc.int .i64) (Enc.pr (Enc.int .i64) (Enc.pr (Enc.int .i64) eBlk)))) a0), (1, .v (Enc.sl eBlk) a1), (2, .v (Enc.sl eBlk) a2), (7, .v (Enc.int .i64) x57), (11, .ref 122), (12, .ref 123), (13, .v (Enc.int .i64) s97.1), (14, .ptr 129 0), (95, .v Enc.bool v116.2)], [(122, .arr 85 (Enc.pr (Enc.int .i64) eBlk) s97.2.1), (123, .arr 3 (Enc.int .i64) s97.2.2), (129, .box 24 [.v eBlk v116.1])]⟩) (J.cons (.none rfl) (JO.move rfl) rfl rfl (J.fin (Sw.Sub.mk id (.cons rfl (.of_eq rfl) (.cons rfl (.of_eq rfl) (.cons rfl (.of_eq rfl) (.cons rfl (.of_eq rfl) (.cons rfl (.of_eq rfl) (.cons rfl (.of_eq rfl) (.cons rfl (.of_eq rfl) (.cons rfl (.of_eq rfl) (.cons rfl (.of_eq rfl) .nil))))))))) (.arr rfl (.arr rfl (.box rfl (.cons (.of_eq rfl) .nil) .nil))) rfl))) ?_
        rcases Bool.eq_false_or_eq_true v116.2 with hc117 | hc117
        · replace h := cond_t hc117 h
          refine W.condT rfl hc117 ?_
          obtain ⟨z118, hz118, h⟩ := bind_e h
          obtain ⟨v119, hv119, h⟩ := bind_e h
          refine W.dr (σ' := ⟨[(0, .v (Enc.sl (Enc.pr (Enc.int .i64) (Enc.pr (Enc.int .i64) (Enc.pr (Enc.int .i64) eBlk)))) a0), (1, .v (Enc.sl eBlk) a1), (2, .v (Enc.sl eBlk) a2), (7, .v (Enc.int .i64) x57), (11, .ref 130), (12, .ref 123), (13, .v (Enc.int .i64) s97.1)], [(130, .arr 85 (Enc.pr (Enc.int .i64) eBlk) v119), (123, .arr 3 (Enc.int .i64) s97.2.2)]⟩) 9 mixed (by exact (.cons (.none rfl) (JO.move rfl) rfl rfl (.cons (.none rfl) (JO.move rfl) rfl rfl (.cons (.none rfl) (JO.move rfl) rfl rfl (.cons (.none rfl) (JO.idx hz118 rfl rfl Try.runUnderlying78 Try.sizeOf81) rfl rfl (.cons (.none rfl) (JO.fieldPst rfl Try.runUnderlying81 rfl Try.sizeOf3 rfl (.fst .here) rfl) rfl rfl (.cons (.none rfl) (JO.loadPst rfl Try.isAgg3 Try.sizeOf3) rfl rfl (.cons (.none rfl) (JO.load rfl rfl rfl Try.isAgg24 Try.sizeOf24) rfl rfl (.cons (.none rfl) (JO.build built85 (.cons (Z.int .i64) (.cons (Z.arr 8 (Z.int .u8)) .nil)) (.cons rfl (.dir rfl) rfl rfl rfl rfl (.cons rfl (.dir rfl) rfl rfl rfl rfl .nil))) rfl rfl (.cons (.none rfl) (JO.lit (e := (Enc.pr (Enc.int .i64) eBlk)) Try.runUnderlying47 Try.sizeOf85 Try.zeroValue85 rfl rfl rfl rfl (.cons (.agg rfl (.same (.same .nil)) (.prm (.one _ _) (.one _ _)) rfl) .nil)) rfl rfl .nil)))))))))) (by exact (J.mut (.none rfl) (JM.append 130 hv119 rfl rfl (.sl rfl) Try.runUnderlying47 Try.typeInfo85 Try.sizeOf85 rfl rfl rfl rfl rfl) (J.cons (.none rfl) (JO.assign rfl) rfl rfl (J.fin (Sw.Sub.mk id (.cons rfl (.of_eq rfl) (.cons rfl (.of_eq rfl) (.cons rfl (.of_eq rfl) (.cons rfl (.of_eq rfl) (.cons rfl (.of_eq rfl) (.cons rfl (.of_eq rfl) (.cons rfl (.of_eq rfl) .nil))))))) (.arr rfl (.arr rfl .nil)) rfl))))) (by decide +kernel) (by decide +kernel) (by decide +kernel) ?_
          refine W.fall ?_
          refine W.reg (σ' := ⟨[(0, .v (Enc.sl (Enc.pr (Enc.int .i64) (Enc.pr (Enc.int .i64) (Enc.pr (Enc.int .i64) eBlk)))) a0), (1, .v (Enc.sl eBlk) a1), (2, .v (Enc.sl eBlk) a2), (7, .v (Enc.int .i64) x57), (11, .ref 130), (12, .ref 123), (13, .v (Enc.int .i64) (ar .add .i64 s97.1 (1 : Int)))], [(130, .arr 85 (Enc.pr (Enc.int .i64) eBlk) v119), (123, .arr 3 (Enc.int .i64) s97.2.2)]⟩) (J.cons (.none rfl) (JO.move rfl) rfl rfl (J.cons (.none rfl) (JO.arith rfl rfl rfl) rfl rfl (J.cons (.none rfl) (JO.assign rfl) rfl rfl (J.fin (Sw.Sub.mk id (.cons rfl (.of_eq rfl) (.cons rfl (.of_eq rfl) (.cons rfl (.of_eq rfl) (.cons rfl (.of_eq rfl) (.cons rfl (.of_eq rfl) (.cons rfl (.of_eq rfl) (.cons rfl (.of_eq rfl) .nil))))))) (.arr rfl (.arr rfl .nil)) rfl))))) ?_
          obtain rfl := Option.some.inj h
          exact W.next (Sw.Sub.mk (rn [(122, 130), (123, 123)]) (.cons rfl (.of_eq rfl) (.cons rfl (.of_eq rfl) (.cons rfl (.of_eq rfl) (.cons rfl (.of_eq rfl) (.cons rfl (.of_eq rfl) (.cons rfl (.of_eq rfl) (.cons rfl (.of_eq rfl) .nil))))))) (.arr rfl (.arr rfl .nil)) rfl)
        · replace h := cond_f hc117 h
          refine W.condF rfl hc117 ?_
          obtain ⟨z120, hz120, h⟩ := bind_e h
          obtain ⟨v121, hv121, h⟩ := bind_e h
          refine W.reg (σ' := ⟨[(0, .v (Enc.sl (Enc.pr (Enc.int .i64) (Enc.pr (Enc.int .i64) (Enc.pr (Enc.int .i64) eBlk)))) a0), (1, .v (Enc.sl eBlk) a1), (2, .v (Enc.sl eBlk) a2), (7, .v (Enc.int .i64) x57), (11, .ref 122), (12, .ref 131), (13, .v (Enc.int .i64) s97.1)], [(122, .arr 85 (Enc.pr (Enc.int .i64) eBlk) s97.2.1), (131, .arr 3 (Enc.int .i64) v121)]⟩) (J.cons (.none rfl) (JO.move rfl) rfl rfl (J.cons (.none rfl) (JO.move rfl) rfl rfl (J.cons (.none rfl) (JO.move rfl) rfl rfl (J.cons (.none rfl) (JO.idx hz120 rfl rfl Try.runUnderlying78 Try.sizeOf81) rfl rfl (J.cons (.none rfl) (JO.fieldPst rfl Try.runUnderlying81 rfl Try.sizeOf3 rfl (.fst .here) rfl) rfl rfl (J.cons (.none rfl) (JO.loadPst rfl Try.isAgg3 Try.sizeOf3) rfl rfl (J.cons (.none rfl) (JO.lit (e := (Enc.int .i64)) Try.runUnderlying36 Try.sizeOf3 Try.zeroValue3 rfl rfl rfl rfl (.cons (.dir rfl) .nil)) rfl rfl (J.mut (.none rfl) (JM.append 131 hv121 rfl rfl (.sl rfl) Try.runUnderlying36 Try.typeInfo3 Try.sizeOf3 rfl rfl rfl rfl rfl) (J.cons (.none rfl) (JO.assign rfl) rfl rfl (J.fin (Sw.Sub.mk id (.cons rfl (.of_eq rfl) (.cons rfl (.of_eq rfl) (.cons rfl (.of_eq rfl) (.cons rfl (.of_eq rfl) (.cons rfl (.of_eq rfl) (.cons rfl (.of_eq rfl) (.cons rfl (.of_eq rfl) .nil))))))) (.arr rfl (.arr rfl .nil)) rfl))))))))))) ?_
          refine W.fall ?_
          refine W.reg (σ' := ⟨[(0, .v (Enc.sl (Enc.pr (Enc.int .i64) (Enc.pr (Enc.int .i64) (Enc.pr (Enc.int .i64) eBlk)))) a0), (1, .v (Enc.sl eBlk) a1), (2, .v (Enc.sl eBlk) a2), (7, .v (Enc.int .i64) x57), (11, .ref 122), (12, .ref 131), (13, .v (Enc.int .i64) (ar .add .i64 s97.1 (1 : Int)))], [(122, .arr 85 (Enc.pr (Enc.int .i64) eBlk) s97.2.1), (131, .arr 3 (Enc.int .i64) v121)]⟩) (J.cons (.none rfl) (JO.move rfl) rfl rfl (J.cons (.none rfl) (JO.arith rfl rfl rfl) rfl rfl (J.cons (.none rfl) (JO.assign rfl) rfl rfl (J.fin (Sw.Sub.mk id (.cons rfl (.of_eq rfl) (.cons rfl (.of_eq rfl) (.cons rfl (.of_eq rfl) (.cons rfl (.of_eq rfl) (.cons rfl (.of_eq rfl) (.cons rfl (.of_eq rfl) (.cons rfl (.of_eq rfl) .nil))))))) (.arr rfl (.arr rfl .nil)) rfl))))) ?_
          obtain rfl := Option.some.inj h
          exact W.next (Sw.Sub.mk (rn [(122, 122), (123, 131)]) (.cons rfl (.of_eq rfl) (.cons rfl (.of_eq rfl) (.cons rfl (.of_eq rfl) (.cons rfl (.of_eq rfl) (.cons rfl (.of_eq rfl) (.cons rfl (.of_eq rfl) (.cons rfl (.of_eq rfl) .nil))))))) (.arr rfl (.arr rfl .nil)) rfl)
      · replace h := cond_f hc114 h
        refine W.condF rfl hc114 ?_
        refine W.exit ?_
        obtain rfl := Option.some.inj h
        exact XQ.brk (Sw.Sub.mk id (.cons rfl (.of_eq rfl) (.cons rfl (.of_eq rfl) (.cons rfl (.of_eq rfl) (.cons rfl (.of_eq rfl) (.cons rfl (.of_eq rfl) (.cons rfl (.of_eq rfl) .nil)))))) (.arr rfl (.arr rfl .nil)) rfl)
    intro s40 r56 h
    refine W.seq ?_
    refine W.seq ?_
    obtain ⟨x59, hx, h⟩ := bind_e h
    refine W.reg (σ' := ⟨[(0, .v (Enc.sl (Enc.pr (Enc.int .i64) (Enc.pr (Enc.int .i64) (Enc.pr (Enc.int .i64) eBlk)))) a0), (1, .v (Enc.sl eBlk) a1), (2, .v (Enc.sl eBlk) a2), (7, .v (Enc.int .i64) s40.1), (8, .v (Enc.int .i64) s40.2.1), (9, .v (Enc.int .i64) s40.2.2), (45, .v Enc.bool x59)], []⟩) ?_ ?_
    · rcases Bool.eq_false_or_eq_true (cm .lss s40.2.2 (a0.length : Int)) with hc60 | hc60
      · replace hx := cond_t hc60 hx
        obtain rfl := Option.some.inj hx
        exact (J.cons (.none rfl) (JO.move rfl) rfl rfl (J.cons (.none rfl) (JO.move rfl) rfl rfl (J.cons (.none rfl) (JO.len rfl Try.runUnderlying78) rfl rfl (J.cons (.none rfl) (JO.cmp rfl rfl rfl) rfl rfl (J.cons (.none rfl) (JO.move rfl) rfl rfl (J.cons (GK.met 42 rfl rfl rfl hc60) (JO.move rfl) rfl rfl (J.cons (GK.met 42 rfl rfl rfl hc60) (JO.cmp rfl rfl rfl) rfl rfl (J.cons (.none rfl) (JO.pT hc60 rfl rfl) rfl rfl (J.fin (Sw.Sub.mk id (.cons rfl (.of_eq rfl) (.cons rfl (.of_eq rfl) (.cons rfl (.of_eq rfl) (.cons rfl (.of_eq rfl) (.cons rfl (.of_eq rfl) (.cons rfl (.of_eq rfl) (.cons rfl (.of_eq rfl) .nil))))))) .nil rfl))))))))))
      · replace hx := cond_f hc60 hx
        obtain rfl := Option.some.inj hx
        exact (J.cons (.none rfl) (JO.move rfl) rfl rfl (J.cons (.none rfl) (JO.move rfl) rfl rfl (J.cons (.none rfl) (JO.len rfl Try.runUnderlying78) rfl rfl (J.cons (.none rfl) (JO.cmp rfl rfl rfl) rfl rfl (J.cons (.none rfl) (JO.move rfl) rfl rfl (J.left (GK.unmet 42 rfl rfl rfl hc60) rfl (J.left (GK.unmet 42 rfl rfl rfl hc60) rfl (J.cons (.none rfl) (JO.pF hc60 rfl rfl) rfl rfl (J.fin (Sw.Sub.mk id (.cons rfl (.of_eq rfl) (.cons rfl (.of_eq rfl) (.cons rfl (.of_eq rfl) (.cons rfl (.of_eq rfl) (.cons rfl (.of_eq rfl) (.cons rfl (.of_eq rfl) (.cons rfl (.of_eq rfl) .nil))))))) .nil rfl))))))))))
    rcases Bool.eq_false_or_eq_true x59 with hc61 | hc61
    · replace h := cond_t hc61 h
      refine W.condT rfl hc61 ?_
      refine W.skip ?_
      refine W.seq ?_
      refine W.block ?_
      refine W.seq ?_
      obtain ⟨z62, hz62, h⟩ := bind_e h
      refine W.reg (σ' := ⟨[(0, .v (Enc.sl (Enc.pr (Enc.int .i64) (Enc.pr (Enc.int .i64) (Enc.pr (Enc.int .i64) eBlk)))) a0), (1, .v (Enc.sl eBlk) a1), (2, .v (Enc.sl eBlk) a2), (7, .v (Enc.int .i64) s40.1), (8, .v (Enc.int .i64) s40.2.1), (9, .v (Enc.int .i64) s40.2.2), (10, .ptr 105 0)], [(105, .box 81 [.v (Enc.int .i64) z62.1, .v (Enc.int .i64) z62.2.1, .v (Enc.int .i64) z62.2.2.1, .v eBlk z62.2.2.2])]⟩) (J.cons (.none rfl) (JO.move rfl) rfl rfl (J.cons (.none rfl) (JO.move rfl) rfl rfl (J.cons (.none rfl) (JO.idx hz62 rfl rfl Try.runUnderlying78 Try.sizeOf81) rfl rfl (J.cons (.none rfl) (JO.loadPst rfl Try.isAgg81 Try.sizeOf81) rfl rfl (J.cons (.none rfl) (JO.alloc 105 Try.zeroValue81 rfl (.cons (Z.int .i64) (.cons (Z.int .i64) (.cons (Z.int .i64) (.cons (Z.arr 8 (Z.int .u8)) .nil)))) rfl) rfl rfl (J.mut (.none rfl) (JM.storeAll rfl rfl rfl rfl (.prm (.one _ _) (.prm (.one _ _) (.prm (.one _ _) (.one _ _)))) Try.sizeOf81) (J.fin (Sw.Sub.mk id (.cons rfl (.of_eq rfl) (.cons rfl (.of_eq rfl) (.cons rfl (.of_eq rfl) (.cons rfl (.of_eq rfl) (.cons rfl (.of_eq rfl) (.cons rfl (.of_eq rfl) (.cons rfl (.of_eq rfl) .nil))))))) (.box rfl (.cons (.of_eq rfl) (.cons (.of_eq rfl) (.cons (.of_eq rfl) (.cons (.of_eq rfl) .nil)))) .nil) rfl)))))))) ?_
      refine W.seq ?_
      refine W.seq ?_
      obtain ⟨x66, hx, h⟩ := bind_e h
      refine W.reg (σ' := ⟨[(0, .v (Enc.sl (Enc.pr (Enc.int .i64) (Enc.pr (Enc.int .i64) (Enc.pr (Enc.int .i64) eBlk)))) a0), (1, .v (Enc.sl eBlk) a1), (2, .v (Enc.sl eBlk) a2), (7, .v (Enc.int .i64) s40.1), (9, .v (Enc.int .i64) s40.2.2), (10, .ptr 105 0), (72, .v Enc.bool x66)], [(105, .box 81 [.v (Enc.int .i64) z62.1, .v (Enc.int .i64) z62.2.1, .v (Enc.int .i64) z62.2.2.1, .v eBlk z62.2.2.2])]⟩) ?_ ?_
      · rcases Bool.eq_false_or_eq_true (cm .leq z62.1 s40.2.1) with hc67 | hc67
        · replace hx := cond_t hc67 hx
          obtain rfl := Option.some.inj hx
          exact (J.cons (.none rfl) (JO.fieldPtr 0 rfl Try.runUnderlying81 rfl Try.sizeOf3 rfl rfl) rfl rfl (J.cons (.none rfl) (JO.load rfl rfl rfl Try.isAgg3 Try.sizeOf3) rfl rfl (J.cons (.none rfl) (JO.move rfl) rfl rfl (J.cons (.none rfl) (JO.cmp rfl rfl rfl) rfl rfl (J.cons (.none rfl) (JO.move rfl) rfl rfl (J.left (GK.unmet 56 rfl rfl rfl hc67) rfl (J.left (GK.unmet 56 rfl rfl rfl hc67) rfl (J.left (GK.unmet 56 rfl rfl rfl hc67) rfl (J.left (GK.unmet 56 rfl rfl rfl hc67) rfl (J.left (GK.unmet 56 rfl rfl rfl hc67) rfl (J.cons (.none rfl) (JO.pT hc67 rfl rfl) rfl rfl (J.cons (.none rfl) (JO.move rfl) rfl rfl (J.left (GK.unmet 63 rfl rfl rfl rfl) rfl (J.left (GK.unmet 63 rfl rfl rfl rfl) rfl (J.left (GK.unmet 63 rfl rfl rfl rfl) rfl (J.cons (.none rfl) (JO.pT rfl rfl rfl) rfl rfl (J.cons (.none rfl) (JO.move rfl) rfl rfl (J.left (GK.unmet 68 rfl rfl rfl rfl) rfl (J.left (GK.unmet 68 rfl rfl rfl rfl) rfl (J.left (GK.unmet 68 rfl rfl rfl rfl) rfl (J.cons (.none rfl) (JO.pT rfl rfl rfl) rfl rfl (J.fin (Sw.Sub.mk id (.cons rfl (.of_eq rfl) (.cons rfl (.of_eq rfl) (.cons rfl (.of_eq rfl) (.cons rfl (.of_eq rfl) (.cons rfl (.of_eq rfl) (.cons rfl (.of_eq rfl) (.cons rfl (.of_eq rfl) .nil))))))) (.box rfl (.cons (.of_eq rfl) (.cons (.of_eq rfl) (.cons (.of_eq rfl) (.cons (.of_eq rfl) .nil)))) .nil) rfl)))))))))))))))))))))))
        · replace hx := cond_f hc67 hx
          rcases Bool.eq_false_or_eq_true (cm .geq z62.1 (a1.length : Int)) with hc68 | hc68
          · replace hx := cond_t hc68 hx
            obtain rfl := Option.some.inj hx
            exact (J.cons (.none rfl) (JO.fieldPtr 0 rfl Try.runUnderlying81 rfl Try.sizeOf3 rfl rfl) rfl rfl (J.cons (.none rfl) (JO.load rfl rfl rfl Try.isAgg3 Try.sizeOf3) rfl rfl (J.cons (.none rfl) (JO.move rfl) rfl rfl (J.cons (.none rfl) (JO.cmp rfl rfl rfl) rfl rfl (J.cons (.none rfl) (JO.move rfl) rfl rfl (J.cons (GK.met 56 rfl rfl rfl hc67) (JO.fieldPtr 0 rfl Try.runUnderlying81 rfl Try.sizeOf3 rfl rfl) rfl rfl (J.cons (GK.met 56 rfl rfl rfl hc67) (JO.load rfl rfl rfl Try.isAgg3 Try.sizeOf3) rfl rfl (J.cons (GK.met 56 rfl rfl rfl hc67) (JO.move rfl) rfl rfl (J.cons (GK.met 56 rfl rfl rfl hc67) (JO.len rfl Try.runUnderlying22) rfl rfl (J.cons (GK.met 56 rfl rfl rfl hc67) (JO.cmp rfl rfl rfl) rfl rfl (J.cons (.none rfl) (JO.pF hc67 rfl rfl) rfl rfl (J.cons (.none rfl) (JO.move rfl) rfl rfl (J.left (GK.unmet 63 rfl rfl rfl hc68) rfl (J.left (GK.unmet 63 rfl rfl rfl hc68) rfl (J.left (GK.unmet 63 rfl rfl rfl hc68) rfl (J.cons (.none rfl) (JO.pT hc68 rfl rfl) rfl rfl (J.cons (.none rfl) (JO.move rfl) rfl rfl (J.left (GK.unmet 68 rfl rfl rfl rfl) rfl (J.left (GK.unmet 68 rfl rfl rfl rfl) rfl (J.left (GK.unmet 68 rfl rfl rfl rfl) rfl (J.cons (.none rfl) (JO.pT rfl rfl rfl) rfl rfl (J.fin (Sw.Sub.mk id (.cons rfl (.of_eq rfl) (.cons rfl (.of_eq rfl) (.cons rfl (.of_eq rfl) (.cons rfl (.of_eq rfl) (.cons rfl (.of_eq rfl) (.cons rfl (.of_eq rfl) (.cons rfl (.of_eq rfl) .nil))))))) (.box rfl (.cons (.of_eq rfl) (.cons (.of_eq rfl) (.cons (.of_eq rfl) (.cons (.of_eq rfl) .nil)))) .nil) rfl)))))))))))))))))))))))
          · replace hx := cond_f hc68 hx
            rcases Bool.eq_false_or_eq_true (cm .lss z62.2.1 (0 : Int)) with hc69 | hc69
            · replace hx := cond_t hc69 hx
              obtain rfl := Option.some.inj hx
              exact (J.cons (.none rfl) (JO.fieldPtr 0 rfl Try.runUnderlying81 rfl Try.sizeOf3 rfl rfl) rfl rfl (J.cons (.none rfl) (JO.load rfl rfl rfl Try.isAgg3 Try.sizeOf3) rfl rfl (J.cons (.none rfl) (JO.move rfl) rfl rfl (J.cons (.none rfl) (JO.cmp rfl rfl rfl) rfl rfl (J.cons (.none rfl) (JO.move rfl) rfl rfl (J.cons (GK.met 56 rfl rfl rfl hc67) (JO.fieldPtr 0 rfl Try.runUnderlying81 rfl Try.sizeOf3 rfl rfl) rfl rfl (J.cons (GK.met 56 rfl rfl rfl hc67) (JO.load rfl rfl rfl Try.isAgg3 Try.sizeOf3) rfl rfl (J.cons (GK.met 56 rfl rfl rfl hc67) (JO.move rfl) rfl rfl (J.cons (GK.met 56 rfl rfl rfl hc67) (JO.len rfl Try.runUnderlying22) rfl rfl (J.cons (GK.met 56 rfl rfl rfl hc67) (JO.cmp rfl rfl rfl) rfl rfl (J.cons (.none rfl) (JO.pF hc67 rfl rfl) rfl rfl (J.cons (.none rfl) (JO.move rfl) rfl rfl (J.cons (GK.met 63 rfl rfl rfl hc68) (JO.fieldPtr 1 rfl Try.runUnderlying81 rfl Try.sizeOf3 rfl rfl) rfl rfl (J.cons (GK.met 63 rfl rfl rfl hc68) (JO.load rfl rfl rfl Try.isAgg3 Try.sizeOf3) rfl rfl (J.cons (GK.met 63 rfl rfl rfl hc68) (JO.cmp rfl rfl rfl) rfl rfl (J.cons (.none rfl) (JO.pF hc68 rfl rfl) rfl rfl (J.cons (.none rfl) (JO.move rfl) rfl rfl (J.left (GK.unmet 68 rfl rfl rfl hc69) rfl (J.left (GK.unmet 68 rfl rfl rfl hc69) rfl (J.left (GK.unmet 68 rfl rfl rfl hc69) rfl (J.cons (.none rfl) (JO.pT hc69 rfl rfl) rfl rfl (J.fin (Sw.Sub.mk id (.cons rfl (.of_eq rfl) (.cons rfl (.of_eq rfl) (.cons rfl (.of_eq rfl) (.cons rfl (.of_eq rfl) (.cons rfl (.of_eq rfl) (.cons rfl (.of_eq rfl) (.cons rfl (.of_eq rfl) .nil))))))) (.box rfl (.cons (.of_eq rfl) (.cons (.of_eq rfl) (.cons (.of_eq rfl) (.cons (.of_eq rfl) .nil)))) .nil) rfl)))))))))))))))))))))))
            · replace hx := cond_f hc69 hx
              obtain rfl := Option.some.inj hx
              exact (J.cons (.none rfl) (JO.fieldPtr 0 rfl Try.runUnderlying81 rfl Try.sizeOf3 rfl rfl) rfl rfl (J.cons (.none rfl) (JO.load rfl rfl rfl Try.isAgg3 Try.sizeOf3) rfl rfl (J.cons (.none rfl) (JO.move rfl) rfl rfl (J.cons (.none rfl) (JO.cmp rfl rfl rfl) rfl rfl (J.cons (.none rfl) (JO.move rfl) rfl rfl (J.cons (GK.met 56 rfl rfl rfl hc67) (JO.fieldPtr 0 rfl Try.runUnderlying81 rfl Try.sizeOf3 rfl rfl) rfl rfl (J.cons (GK.met 56 rfl rfl rfl hc67) (JO.load rfl rfl rfl Try.isAgg3 Try.sizeOf3) rfl rfl (J.cons (GK.met 56 rfl rfl rfl hc67) (JO.move rfl) rfl rfl (J.cons (GK.met 56 rfl rfl rfl hc67) (JO.len rfl Try.runUnderlying22) rfl rfl (J.cons (GK.met 56 rfl rfl rfl hc67) (JO.cmp rfl rfl rfl) rfl rfl (J.cons (.none rfl) (JO.pF hc67 rfl rfl) rfl rfl (J.cons (.none rfl) (JO.move rfl) rfl rfl (J.cons (GK.met 63 rfl rfl rfl hc68) (JO.fieldPtr 1 rfl Try.runUnderlying81 rfl Try.sizeOf3 rfl rfl) rfl rfl (J.cons (GK.met 63 rfl rfl rfl hc68) (JO.load rfl rfl rfl Try.isAgg3 Try.sizeOf3) rfl rfl (J.cons (GK.met 63 rfl rfl rfl hc68) (JO.cmp rfl rfl rfl) rfl rfl (J.cons (.none rfl) (JO.pF hc68 rfl rfl) rfl rfl (J.cons (.none rfl) (JO.move rfl) rfl rfl (J.cons (GK.met 68 rfl rfl rfl hc69) (JO.fieldPtr 1 rfl Try.runUnderlying81 rfl Try.sizeOf3 rfl rfl) rfl rfl (J.cons (GK.met 68 rfl rfl rfl hc69) (JO.load rfl rfl rfl Try.isAgg3 Try.sizeOf3) rfl rfl (J.cons (GK.met 68 rfl rfl rfl hc69) (JO.cmp rfl rfl rfl) rfl rfl (J.cons (.none rfl) (JO.pF hc69 rfl rfl) rfl rfl (J.fin (Sw.Sub.mk id (.cons rfl (.of_eq rfl) (.cons rfl (.of_eq rfl) (.cons rfl (.of_eq rfl) (.cons rfl (.of_eq rfl) (.cons rfl (.of_eq rfl) (.cons rfl (.of_eq rfl) (.cons rfl (.of_eq rfl) .nil))))))) (.box rfl (.cons (.of_eq rfl) (.cons (.of_eq rfl) (.cons (.of_eq rfl) (.cons (.of_eq rfl) .nil)))) .nil) rfl)))))))))))))))))))))))
      obtain ⟨k71, hk71, h⟩ := jp_elim h
      refine W.jn (fun x72 : Int => ⟨[(0, .v (Enc.sl (Enc.pr (Enc.int .i64) (Enc.pr (Enc.int .i64) (Enc.pr (Enc.int .i64) eBlk)))) a0), (1, .v (Enc.sl eBlk) a1), (2, .v (Enc.sl eBlk) a2), (7, .v (Enc.int .i64) x72), (9, .v (Enc.int .i64) s40.2.2), (10, .ptr 105 0)], [(105, .box 81 [.v (Enc.int .i64) z62.1, .v (Enc.int .i64) z62.2.1, .v (Enc.int .i64) z62.2.2.1, .v eBlk z62.2.2.2])]⟩) (fun x => k71 x = some r56) rfl ?_ ?_ ?_
      · intro x72 h
        rw [hk71] at h
        refine W.reg (σ' := ⟨[(0, .v (Enc.sl (Enc.pr (Enc.int .i64) (Enc.pr (Enc.int .i64) (Enc.pr (Enc.int .i64) eBlk)))) a0), (1, .v (Enc.sl eBlk) a1), (2, .v (Enc.sl eBlk) a2), (7, .v (Enc.int .i64) x72), (8, .v (Enc.int .i64) z62.1), (9, .v (Enc.int .i64) s40.2.2)], []⟩) (J.cons (.none rfl) (JO.fieldPtr 0 rfl Try.runUnderlying81 rfl Try.sizeOf3 rfl rfl) rfl rfl (J.cons (.none rfl) (JO.load rfl rfl rfl Try.isAgg3 Try.sizeOf3) rfl rfl (J.cons (.none rfl) (JO.assign rfl) rfl rfl (J.fin (Sw.Sub.mk id (.cons rfl (.of_eq rfl) (.cons rfl (.of_eq rfl) (.cons rfl (.of_eq rfl) (.cons rfl (.of_eq rfl) (.cons rfl (.of_eq rfl) (.cons rfl (.of_eq rfl) .nil)))))) .nil rfl))))) ?_
        refine W.fall ?_
        refine W.reg (σ' := ⟨[(0, .v (Enc.sl (Enc.pr (Enc.int .i64) (Enc.pr (Enc.int .i64) (Enc.pr (Enc.int .i64) eBlk)))) a0), (1, .v (Enc.sl eBlk) a1), (2, .v (Enc.sl eBlk) a2), (7, .v (Enc.int .i64) x72), (8, .v (Enc.int .i64) z62.1), (9, .v (Enc.int .i64) (ar .add .i64 s40.2.2 (1 : Int)))], []⟩) (J.cons (.none rfl) (JO.move rfl) rfl rfl (J.cons (.none rfl) (JO.arith rfl rfl rfl) rfl rfl (J.cons (.none rfl) (JO.assign rfl) rfl rfl (J.fin (Sw.Sub.mk id (.cons rfl (.of_eq rfl) (.cons rfl (.of_eq rfl) (.cons rfl (.of_eq rfl) (.cons rfl (.of_eq rfl) (.cons rfl (.of_eq rfl) (.cons rfl (.of_eq rfl) .nil)))))) .nil rfl))))) ?_
        obtain rfl := Option.some.inj h
        exact W.next (Sw.Sub.mk id (.cons rfl (.of_eq rfl) (.cons rfl (.of_eq rfl) (.cons rfl (.of_eq rfl) (.cons rfl (.of_eq rfl) (.cons rfl (.of_eq rfl) (.cons rfl (.of_eq rfl) .nil)))))) .nil rfl)
      · intro hc70
        replace h := cond_t hc70 h
        refine W.reg (σ' := ⟨[(0, .v (Enc.sl (Enc.pr (Enc.int .i64) (Enc.pr (Enc.int .i64) (Enc.pr (Enc.int .i64) eBlk)))) a0), (1, .v (Enc.sl eBlk) a1), (2, .v (Enc.sl eBlk) a2), (7, .v (Enc.int .i64) (1 : Int)), (9, .v (Enc.int .i64) s40.2.2), (10, .ptr 105 0)], [(105, .box 81 [.v (Enc.int .i64) z62.1, .v (Enc.int .i64) z62.2.1, .v (Enc.int .i64) z62.2.2.1, .v eBlk z62.2.2.2])]⟩) (J.cons (.none rfl) (JO.assign rfl) rfl rfl (J.fin (Sw.Sub.mk id (.cons rfl (.of_eq rfl) (.cons rfl (.of_eq rfl) (.cons rfl (.of_eq rfl) (.cons rfl (.of_eq rfl) (.cons rfl (.of_eq rfl) (.cons rfl (.of_eq rfl) .nil)))))) (.box rfl (.cons (.of_eq rfl) (.cons (.of_eq rfl) (.cons (.of_eq rfl) (.cons (.of_eq rfl) .nil)))) .nil) rfl))) ?_
        exact W.jfall h (Sw.Sub.mk id (.cons rfl (.of_eq rfl) (.cons rfl (.of_eq rfl) (.cons rfl (.of_eq rfl) (.cons rfl (.of_eq rfl) (.cons rfl (.of_eq rfl) (.cons rfl (.of_eq rfl) .nil)))))) (.box rfl (.cons (.of_eq rfl) (.cons (.of_eq rfl) (.cons (.of_eq rfl) (.cons (.of_eq rfl) .nil)))) .nil) rfl)
      · intro hc70
        replace h := cond_f hc70 h
        refine W.skip ?_
        exact W.jfall h (Sw.Sub.mk id (.cons rfl (.of_eq rfl) (.cons rfl (.of_eq rfl) (.cons rfl (.of_eq rfl) (.cons rfl (.of_eq rfl) (.cons rfl (.of_eq rfl) (.cons rfl (.of_eq rfl) .nil)))))) (.box rfl (.cons (.of_eq rfl) (.cons (.of_eq rfl) (.cons (.of_eq rfl) (.cons (.of_eq rfl) .nil)))) .nil) rfl)
    · replace h := cond_f hc61 h
      refine W.condF rfl hc61 ?_
      refine W.exit ?_
      obtain rfl := Option.some.inj h
      exact XQ.brk (Sw.Sub.mk id (.cons rfl (.of_eq rfl) (.cons rfl (.of_eq rfl) (.cons rfl (.of_eq rfl) (.cons rfl (.of_eq rfl) .nil)))) .nil rfl)
end Go.Cn
