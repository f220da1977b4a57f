/- The functions that this law reaches come to what their models come to. Conditions: none. -/
import Derived.Test.YteckohdbfkhmdabMoTopFrame
import Derived.KernelRfl
import Derived.Test.YteckohdbfkhmdabChecked
namespace Go.Cn
open Go Go.Sw Go.Mo Go.Proofs
abbrev ET : Nat := 29
theorem mixed : Try.prog.follows .mixedOrders = true := Try.checked.mixed
theorem eq56 : EqE 2 Try.prog 56 eBlk := EqE.arr Try.runUnderlying56 Try.sizeOf5 Try.isAgg5 (EqE.int Try.underlying5)
theorem eq159 : EqE 2 Try.prog 159 (Enc.arr 4 (Enc.int .u8)) := EqE.arr Try.runUnderlying159 Try.sizeOf5 Try.isAgg5 (EqE.int Try.underlying5)
theorem built28 : ∀ parts, Try.prog.built 28 parts = Instr.fill (([(0, 1), (1, 1), (2, 1)] : List (Nat × Nat)).toArray[·]?) ([.int .i64 0, .slice none 0 0, .slice none 0 0] : List Value).toArray parts := built_struct Try.typeInfo28 Try.runUnderlying28 rfl rfl (.cons rfl (by kernel_rfl) (by kernel_rfl) (.cons rfl (by kernel_rfl) (by kernel_rfl) (.cons rfl (by kernel_rfl) (by kernel_rfl) .nil)))
theorem built162 : ∀ parts, Try.prog.built 162 parts = Instr.fill (([(0, 1)] : List (Nat × Nat)).toArray[·]?) ([.slice none 0 0] : List Value).toArray parts := built_struct Try.typeInfo162 Try.runUnderlying162 rfl rfl (.cons rfl (by kernel_rfl) (by kernel_rfl) .nil)
set_option maxRecDepth 100000 in
set_option maxHeartbeats 4000000 in
theorem con_frame_Check_1 {a0 : Int} {r : Bool} (h : m_frame_Check_1 a0 = some r) :
    Con Try.prog 98 [.v (Enc.int .i64) a0] (.v Enc.bool r) [] := by
  refine Con.of Try.func98 rfl Try.ntmps98 rfl ?_
  intro S w hF
  unfold m_frame_Check_1 at h
  refine W.seq ?_
  refine W.reg (σ' := ⟨[(0, .v (Enc.int .i64) a0)], []⟩) (J.cons (.none rfl) (JO.assign rfl) rfl rfl (J.fin (Sw.Sub.mk id (.cons rfl (.of_eq rfl) .nil) .nil rfl))) ?_
  refine W.seq ?_
  obtain ⟨x2, hx, h⟩ := bind_e h
  refine W.reg (σ' := ⟨[(2, .v Enc.bool x2)], []⟩) ?_ ?_
  · rcases Bool.eq_false_or_eq_true (cm .lss a0 (0 : Int)) with hc3 | hc3
    · replace hx := cond_t hc3 hx
      obtain rfl := Option.some.inj hx
      exact (J.cons (.none rfl) (JO.move rfl) rfl rfl (J.cons (.none rfl) (JO.cmp rfl rfl rfl) rfl rfl (J.cons (.none rfl) (JO.move rfl) rfl rfl (J.left (GK.unmet 5 rfl rfl rfl hc3) rfl (J.left (GK.unmet 5 rfl rfl rfl hc3) rfl (J.cons (.none rfl) (JO.pT hc3 rfl rfl) rfl rfl (J.cons (.none rfl) (JO.assign rfl) rfl rfl (J.fin (Sw.Sub.mk id (.cons rfl (.of_eq rfl) .nil) .nil rfl)))))))))
    · replace hx := cond_f hc3 hx
      obtain rfl := Option.some.inj hx
      exact (J.cons (.none rfl) (JO.move rfl) rfl rfl (J.cons (.none rfl) (JO.cmp rfl rfl rfl) rfl rfl (J.cons (.none rfl) (JO.move rfl) rfl rfl (J.cons (GK.met 5 rfl rfl rfl hc3) (JO.move rfl) rfl rfl (J.cons (GK.met 5 rfl rfl rfl hc3) (JO.cmp rfl rfl rfl) rfl rfl (J.cons (.none rfl) (JO.pF hc3 rfl rfl) rfl rfl (J.cons (.none rfl) (JO.assign rfl) rfl rfl (J.fin (Sw.Sub.mk id (.cons rfl (.of_eq rfl) .nil) .nil rfl)))))))))
  refine W.ret ?_
  obtain rfl := Option.some.inj h
  exact XQ.sub (σ' := ⟨[(2, .v Enc.bool x2)], []⟩) (Sw.Sub.mk id (.cons rfl (.of_eq rfl) .nil) .nil rfl) (XQ.ret1 hF noR rfl (RV.tmp rfl) .nil rfl)
set_option maxRecDepth 100000 in
set_option maxHeartbeats 4000000 in
theorem con_slices_IndexFunc_int_int__frame_Check_1 {a0 : (List Int)} {r : Int} (h : m_slices_IndexFunc_int_int__frame_Check_1 a0 = some r) :
    Con Try.prog 134 [.v (Enc.sl (Enc.int .i64)) a0, .fnc 98 []] (.v (Enc.int .i64) r) [] := by
  refine Con.of Try.func134 rfl Try.ntmps134 rfl ?_
  intro S w hF
  unfold m_slices_IndexFunc_int_int__frame_Check_1 at h
  refine W.seq ?_
  refine W.reg (σ' := ⟨[(0, .v (Enc.sl (Enc.int .i64)) a0), (1, .fnc 98 [])], []⟩) (J.cons (.none rfl) (JO.assign rfl) rfl rfl (J.fin (Sw.Sub.mk id (.cons rfl (.of_eq rfl) (.cons rfl (.of_eq rfl) .nil)) .nil rfl))) ?_
  refine W.seq ?_
  refine W.seq ?_
  refine W.reg (σ' := ⟨[(0, .v (Enc.sl (Enc.int .i64)) a0), (1, .fnc 98 []), (7, .v (Enc.int .i64) (a0.length : Int)), (8, .v (Enc.int .i64) (0 : Int))], []⟩) (J.cons (.none rfl) (JO.move rfl) rfl rfl (J.cons (.none rfl) (JO.len rfl Try.runUnderlying25) rfl rfl (J.cons (.none rfl) (JO.move rfl) rfl rfl (J.fin (Sw.Sub.mk id (.cons rfl (.of_eq rfl) (.cons rfl (.of_eq rfl) (.cons rfl (.of_eq rfl) (.cons rfl (.of_eq rfl) .nil)))) .nil rfl))))) ?_
  obtain ⟨o16, ho16, hb16, hr16⟩ := lp_elim h
  refine W.lp (σs := fun s11 : Int => ⟨[(0, .v (Enc.sl (Enc.int .i64)) a0), (1, .fnc 98 []), (7, .v (Enc.int .i64) (a0.length : Int)), (8, .v (Enc.int .i64) s11)], []⟩) (fun x17 : Unit => ⟨[], []⟩) ho16 (Sw.Sub.mk id (.cons rfl (.of_eq rfl) (.cons rfl (.of_eq rfl) (.cons rfl (.of_eq rfl) (.cons rfl (.of_eq rfl) .nil)))) .nil rfl) ?_ ?_
  · intro x17 hy
    have h := hb16 _ hy
    refine W.seq ?_
    refine W.reg (σ' := ⟨[(4, .v (Enc.int .i64) (-1 : Int))], []⟩) (J.cons (.none rfl) (JO.assign rfl) rfl rfl (J.fin (Sw.Sub.mk id (.cons rfl (.of_eq rfl) .nil) .nil rfl))) ?_
    refine W.ret ?_
    obtain rfl := Option.some.inj h
    exact XQ.sub (σ' := ⟨[(4, .v (Enc.int .i64) (-1 : Int))], []⟩) (Sw.Sub.mk id (.cons rfl (.of_eq rfl) .nil) .nil rfl) (XQ.ret1 hF noR rfl (RV.tmp rfl) .nil rfl)
  intro s11 r16 h
  refine W.seq ?_
  refine W.reg (σ' := ⟨[(0, .v (Enc.sl (Enc.int .i64)) a0), (1, .fnc 98 []), (7, .v (Enc.int .i64) (a0.length : Int)), (8, .v (Enc.int .i64) s11), (9, .v Enc.bool (cm .lss s11 (a0.length : Int)))], []⟩) (J.cons (.none rfl) (JO.cmp rfl rfl rfl) rfl rfl (J.fin (Sw.Sub.mk id (.cons rfl (.of_eq rfl) (.cons rfl (.of_eq rfl) (.cons rfl (.of_eq rfl) (.cons rfl (.of_eq rfl) (.cons rfl (.of_eq rfl) .nil))))) .nil rfl))) ?_
  refine W.seq ?_
  rcases Bool.eq_false_or_eq_true (cm .lss s11 (a0.length : Int)) with hc18 | hc18
  · replace h := cond_t hc18 h
    refine W.condT rfl hc18 ?_
    refine W.skip ?_
    refine W.seq ?_
    refine W.block ?_
    refine W.seq ?_
    refine W.reg (σ' := ⟨[(0, .v (Enc.sl (Enc.int .i64)) a0), (1, .fnc 98 []), (5, .v (Enc.int .i64) s11), (7, .v (Enc.int .i64) (a0.length : Int)), (8, .v (Enc.int .i64) s11)], []⟩) (J.cons (.none rfl) (JO.move rfl) rfl rfl (J.cons (.none rfl) (JO.assign rfl) rfl rfl (J.fin (Sw.Sub.mk id (.cons rfl (.of_eq rfl) (.cons rfl (.of_eq rfl) (.cons rfl (.of_eq rfl) (.cons rfl (.of_eq rfl) (.cons rfl (.of_eq rfl) .nil))))) .nil rfl)))) ?_
    refine W.seq ?_
    obtain ⟨z19, hz19, h⟩ := bind_e h
    obtain ⟨v20, hv20, h⟩ := bind_e h
    refine W.reg (σ' := ⟨[(0, .v (Enc.sl (Enc.int .i64)) a0), (1, .fnc 98 []), (5, .v (Enc.int .i64) s11), (7, .v (Enc.int .i64) (a0.length : Int)), (8, .v (Enc.int .i64) s11), (16, .v Enc.bool v20)], []⟩) (J.cons (.none rfl) (JO.move rfl) rfl rfl (J.cons (.none rfl) (JO.move rfl) rfl rfl (J.cons (.none rfl) (JO.move rfl) rfl rfl (J.cons (.none rfl) (JO.idx hz19 rfl rfl Try.runUnderlying25 Try.sizeOf3) rfl rfl (J.cons (.none rfl) (JO.loadPst rfl Try.isAgg3 Try.sizeOf3) rfl rfl (J.cons (.none rfl) (JO.callF0 rfl (con_frame_Check_1 hv20) Try.call98 (.cons (.dir rfl) .nil)) rfl rfl (J.fin (Sw.Sub.mk id (.cons rfl (.of_eq rfl) (.cons rfl (.of_eq rfl) (.cons rfl (.of_eq rfl) (.cons rfl (.of_eq rfl) (.cons rfl (.of_eq rfl) (.cons rfl (.of_eq rfl) .nil)))))) .nil rfl)))))))) ?_
    rcases Bool.eq_false_or_eq_true v20 with hc21 | hc21
    · replace h := cond_t hc21 h
      refine W.condT rfl hc21 ?_
      refine W.seq ?_
      refine W.reg (σ' := ⟨[(4, .v (Enc.int .i64) s11)], []⟩) (J.cons (.none rfl) (JO.move rfl) rfl rfl (J.cons (.none rfl) (JO.assign rfl) rfl rfl (J.fin (Sw.Sub.mk id (.cons rfl (.of_eq rfl) .nil) .nil rfl)))) ?_
      refine W.ret ?_
      refine XQ.ret ?_
      obtain rfl := Option.some.inj h
      refine XQ.lret fun ho => ?_
      obtain rfl := hr16 _ ho
      exact XQ.sub (σ' := ⟨[(4, .v (Enc.int .i64) s11)], []⟩) (Sw.Sub.mk id (.cons rfl (.of_eq rfl) .nil) .nil rfl) (XQ.ret1 hF noR rfl (RV.tmp rfl) .nil rfl)
    · replace h := cond_f hc21 h
      refine W.condF rfl hc21 ?_
      refine W.skip ?_
      refine W.fall ?_
      refine W.reg (σ' := ⟨[(0, .v (Enc.sl (Enc.int .i64)) a0), (1, .fnc 98 []), (7, .v (Enc.int .i64) (a0.length : Int)), (8, .v (Enc.int .i64) (ar .add .i64 s11 (1 : Int)))], []⟩) (J.cons (.none rfl) (JO.arith rfl rfl rfl) rfl rfl (J.cons (.none rfl) (JO.move rfl) rfl rfl (J.fin (Sw.Sub.mk id (.cons rfl (.of_eq rfl) (.cons rfl (.of_eq rfl) (.cons rfl (.of_eq rfl) (.cons rfl (.of_eq rfl) .nil)))) .nil rfl)))) ?_
      obtain rfl := Option.some.inj h
      exact W.next (Sw.Sub.mk id (.cons rfl (.of_eq rfl) (.cons rfl (.of_eq rfl) (.cons rfl (.of_eq rfl) (.cons rfl (.of_eq rfl) .nil)))) .nil rfl)
  · replace h := cond_f hc18 h
    refine W.condF rfl hc18 ?_
    refine W.exit ?_
    obtain rfl := Option.some.inj h
    exact XQ.brk (Sw.Sub.mk id .nil .nil rfl)
set_option maxRecDepth 100000 in
set_option maxHeartbeats 4000000 in
theorem con_slices_ContainsFunc_int_int__frame_Check_1 {a0 : (List Int)} {r : Bool} (h : m_slices_ContainsFunc_int_int__frame_Check_1 a0 = some r) :
    Con Try.prog 97 [.v (Enc.sl (Enc.int .i64)) a0, .fnc 98 []] (.v Enc.bool r) [] := by
  refine Con.of Try.func97 rfl Try.ntmps97 rfl ?_
  intro S w hF
  unfold m_slices_ContainsFunc_int_int__frame_Check_1 at h
  refine W.seq ?_
  refine W.reg (σ' := ⟨[(0, .v (Enc.sl (Enc.int .i64)) a0), (1, .fnc 98 [])], []⟩) (J.cons (.none rfl) (JO.assign rfl) rfl rfl (J.fin (Sw.Sub.mk id (.cons rfl (.of_eq rfl) (.cons rfl (.of_eq rfl) .nil)) .nil rfl))) ?_
  refine W.seq ?_
  obtain ⟨v1, hv1, h⟩ := bind_e h
  refine W.reg (σ' := ⟨[(4, .v Enc.bool (cm .geq v1 (0 : Int)))], []⟩) (J.cons (.none rfl) (JO.move rfl) rfl rfl (J.cons (.none rfl) (JO.move rfl) rfl rfl (J.cons (.none rfl) (JO.call0 (con_slices_IndexFunc_int_int__frame_Check_1 hv1) Try.call134 (.cons (.dir rfl) (.cons (.dir rfl) .nil))) rfl rfl (J.cons (.none rfl) (JO.cmp rfl rfl rfl) rfl rfl (J.cons (.none rfl) (JO.assign rfl) rfl rfl (J.fin (Sw.Sub.mk id (.cons rfl (.of_eq rfl) .nil) .nil rfl))))))) ?_
  refine W.ret ?_
  obtain rfl := Option.some.inj h
  exact XQ.sub (σ' := ⟨[(4, .v Enc.bool (cm .geq v1 (0 : Int)))], []⟩) (Sw.Sub.mk id (.cons rfl (.of_eq rfl) .nil) .nil rfl) (XQ.ret1 hF noR rfl (RV.tmp rfl) .nil rfl)
set_option maxRecDepth 100000 in
set_option maxHeartbeats 4000000 in
theorem con_frame_Check {a0 : (Int × (List Int) × (List Blk))} {r : (Option Int)} (h : m_frame_Check a0 = some r) :
    Con Try.prog 47 [.v (Enc.pr (Enc.int .i64) (Enc.pr (Enc.sl (Enc.int .i64)) (Enc.sl eBlk))) a0] (.v (Enc.err ET) r) [] := by
  refine Con.of Try.func47 rfl Try.ntmps47 rfl ?_
  intro S w hF
  unfold m_frame_Check at h
  refine W.seq ?_
  refine W.reg (σ' := ⟨[(1, .ptr 101 0)], [(101, .box 28 [.v (Enc.int .i64) a0.1, .v (Enc.sl (Enc.int .i64)) a0.2.1, .v (Enc.sl eBlk) a0.2.2])]⟩) (J.cons (.none rfl) (JO.box 101 rfl (.prm (.one _ _) (.prm (.one _ _) (.one _ _))) rfl) rfl rfl (J.cons (.none rfl) (JO.assignNilE ET) rfl rfl (J.fin (Sw.Sub.mk id (.cons rfl (.of_eq rfl) .nil) (.box rfl (.cons (.of_eq rfl) (.cons (.of_eq rfl) (.cons (.of_eq rfl) .nil))) .nil) rfl)))) ?_
  refine W.seq ?_
  refine W.seq ?_
  obtain ⟨x2, hx, h⟩ := bind_e h
  refine W.reg (σ' := ⟨[(1, .ptr 101 0), (10, .v Enc.bool x2)], [(101, .box 28 [.v (Enc.int .i64) a0.1, .v (Enc.sl (Enc.int .i64)) a0.2.1, .v (Enc.sl eBlk) a0.2.2])]⟩) ?_ ?_
  · rcases Bool.eq_false_or_eq_true (cm .lss a0.1 (0 : Int)) with hc3 | hc3
    · replace hx := cond_t hc3 hx
      obtain rfl := Option.some.inj hx
      exact (J.cons (.none rfl) (JO.fieldPtr 0 rfl Try.runUnderlying28 rfl Try.sizeOf3 rfl rfl) rfl rfl (J.cons (.none rfl) (JO.load rfl rfl rfl Try.isAgg3 Try.sizeOf3) rfl rfl (J.cons (.none rfl) (JO.cmp rfl rfl rfl) rfl rfl (J.cons (.none rfl) (JO.move rfl) rfl rfl (J.left (GK.unmet 6 rfl rfl rfl hc3) rfl (J.left (GK.unmet 6 rfl rfl rfl hc3) rfl (J.left (GK.unmet 6 rfl rfl rfl hc3) rfl (J.cons (.none rfl) (JO.pT hc3 rfl rfl) rfl rfl (J.fin (Sw.Sub.mk id (.cons rfl (.of_eq rfl) (.cons rfl (.of_eq rfl) .nil)) (.box rfl (.cons (.of_eq rfl) (.cons (.of_eq rfl) (.cons (.of_eq rfl) .nil))) .nil) rfl))))))))))
    · replace hx := cond_f hc3 hx
      obtain rfl := Option.some.inj hx
      exact (J.cons (.none rfl) (JO.fieldPtr 0 rfl Try.runUnderlying28 rfl Try.sizeOf3 rfl rfl) rfl rfl (J.cons (.none rfl) (JO.load rfl rfl rfl Try.isAgg3 Try.sizeOf3) rfl rfl (J.cons (.none rfl) (JO.cmp rfl rfl rfl) rfl rfl (J.cons (.none rfl) (JO.move rfl) rfl rfl (J.cons (GK.met 6 rfl rfl rfl hc3) (JO.fieldPtr 0 rfl Try.runUnderlying28 rfl Try.sizeOf3 rfl rfl) rfl rfl (J.cons (GK.met 6 rfl rfl rfl hc3) (JO.load rfl rfl rfl Try.isAgg3 Try.sizeOf3) rfl rfl (J.cons (GK.met 6 rfl rfl rfl hc3) (JO.cmp rfl rfl rfl) rfl rfl (J.cons (.none rfl) (JO.pF hc3 rfl rfl) rfl rfl (J.fin (Sw.Sub.mk id (.cons rfl (.of_eq rfl) (.cons rfl (.of_eq rfl) .nil)) (.box rfl (.cons (.of_eq rfl) (.cons (.of_eq rfl) (.cons (.of_eq rfl) .nil))) .nil) rfl))))))))))
  rcases Bool.eq_false_or_eq_true x2 with hc4 | hc4
  · replace h := cond_t hc4 h
    refine W.condT rfl hc4 ?_
    refine W.seq ?_
    refine W.reg (σ' := ⟨[(2, .v (Enc.err ET) (some (1 : Int)))], []⟩) (J.cons (.none rfl) (JO.mkErr Try.runUnderlying29 rfl) rfl rfl (J.cons (.none rfl) (JO.assign rfl) rfl rfl (J.fin (Sw.Sub.mk id (.cons rfl (.of_eq rfl) .nil) .nil rfl)))) ?_
    refine W.ret ?_
    obtain rfl := Option.some.inj h
    exact XQ.sub (σ' := ⟨[(2, .v (Enc.err ET) (some (1 : Int)))], []⟩) (Sw.Sub.mk id (.cons rfl (.of_eq rfl) .nil) .nil rfl) (XQ.ret1 hF noR rfl (RV.tmp rfl) .nil rfl)
  · replace h := cond_f hc4 h
    refine W.condF rfl hc4 ?_
    refine W.skip ?_
    refine W.seq ?_
    refine W.seq ?_
    obtain ⟨x6, hx, h⟩ := bind_e h
    refine W.reg (σ' := ⟨[(1, .ptr 101 0), (21, .v Enc.bool x6)], [(101, .box 28 [.v (Enc.int .i64) a0.1, .v (Enc.sl (Enc.int .i64)) a0.2.1, .v (Enc.sl eBlk) a0.2.2])]⟩) ?_ ?_
    · rcases Bool.eq_false_or_eq_true (cm .gtr (a0.2.1.length : Int) (12 : Int)) with hc7 | hc7
      · replace hx := cond_t hc7 hx
        obtain rfl := Option.some.inj hx
        exact (J.cons (.none rfl) (JO.fieldPtr 1 rfl Try.runUnderlying28 rfl Try.sizeOf25 rfl rfl) rfl rfl (J.cons (.none rfl) (JO.load rfl rfl rfl Try.isAgg25 Try.sizeOf25) rfl rfl (J.cons (.none rfl) (JO.len rfl Try.runUnderlying25) rfl rfl (J.cons (.none rfl) (JO.cmp rfl rfl rfl) rfl rfl (J.cons (.none rfl) (JO.move rfl) rfl rfl (J.left (GK.unmet 16 rfl rfl rfl hc7) rfl (J.left (GK.unmet 16 rfl rfl rfl hc7) rfl (J.left (GK.unmet 16 rfl rfl rfl hc7) rfl (J.left (GK.unmet 16 rfl rfl rfl hc7) rfl (J.cons (.none rfl) (JO.pT hc7 rfl rfl) rfl rfl (J.fin (Sw.Sub.mk id (.cons rfl (.of_eq rfl) (.cons rfl (.of_eq rfl) .nil)) (.box rfl (.cons (.of_eq rfl) (.cons (.of_eq rfl) (.cons (.of_eq rfl) .nil))) .nil) rfl))))))))))))
      · replace hx := cond_f hc7 hx
        obtain rfl := Option.some.inj hx
        exact (J.cons (.none rfl) (JO.fieldPtr 1 rfl Try.runUnderlying28 rfl Try.sizeOf25 rfl rfl) rfl rfl (J.cons (.none rfl) (JO.load rfl rfl rfl Try.isAgg25 Try.sizeOf25) rfl rfl (J.cons (.none rfl) (JO.len rfl Try.runUnderlying25) rfl rfl (J.cons (.none rfl) (JO.cmp rfl rfl rfl) rfl rfl (J.cons (.none rfl) (JO.move rfl) rfl rfl (J.cons (GK.met 16 rfl rfl rfl hc7) (JO.fieldPtr 2 rfl Try.runUnderlying28 rfl Try.sizeOf26 rfl rfl) rfl rfl (J.cons (GK.met 16 rfl rfl rfl hc7) (JO.load rfl rfl rfl Try.isAgg26 Try.sizeOf26) rfl rfl (J.cons (GK.met 16 rfl rfl rfl hc7) (JO.len rfl Try.runUnderlying26) rfl rfl (J.cons (GK.met 16 rfl rfl rfl hc7) (JO.cmp rfl rfl rfl) rfl rfl (J.cons (.none rfl) (JO.pF hc7 rfl rfl) rfl rfl (J.fin (Sw.Sub.mk id (.cons rfl (.of_eq rfl) (.cons rfl (.of_eq rfl) .nil)) (.box rfl (.cons (.of_eq rfl) (.cons (.of_eq rfl) (.cons (.of_eq rfl) .nil))) .nil) rfl))))))))))))
    rcases Bool.eq_false_or_eq_true x6 with hc8 | hc8
    · replace h := cond_t hc8 h
      refine W.condT rfl hc8 ?_
      refine W.seq ?_
      refine W.reg (σ' := ⟨[(2, .v (Enc.err ET) (some (2 : Int)))], []⟩) (J.cons (.none rfl) (JO.mkErr Try.runUnderlying29 rfl) rfl rfl (J.cons (.none rfl) (JO.assign rfl) rfl rfl (J.fin (Sw.Sub.mk id (.cons rfl (.of_eq rfl) .nil) .nil rfl)))) ?_
      refine W.ret ?_
      obtain rfl := Option.some.inj h
      exact XQ.sub (σ' := ⟨[(2, .v (Enc.err ET) (some (2 : Int)))], []⟩) (Sw.Sub.mk id (.cons rfl (.of_eq rfl) .nil) .nil rfl) (XQ.ret1 hF noR rfl (RV.tmp rfl) .nil rfl)
    · replace h := cond_f hc8 h
      refine W.condF rfl hc8 ?_
      refine W.skip ?_
      refine W.seq ?_
      refine W.seq ?_
      obtain ⟨v9, hv9, h⟩ := bind_e h
      refine W.reg (σ' := ⟨[(25, .v Enc.bool v9)], []⟩) (J.cons (.none rfl) (JO.fieldPtr 1 rfl Try.runUnderlying28 rfl Try.sizeOf25 rfl rfl) rfl rfl (J.cons (.none rfl) (JO.load rfl rfl rfl Try.isAgg25 Try.sizeOf25) rfl rfl (J.cons (.none rfl) (JO.call0 (con_slices_ContainsFunc_int_int__frame_Check_1 hv9) Try.call97 (.cons (.dir rfl) (.cons .fn .nil))) rfl rfl (J.fin (Sw.Sub.mk id (.cons rfl (.of_eq rfl) .nil) .nil rfl))))) ?_
      rcases Bool.eq_false_or_eq_true v9 with hc10 | hc10
      · replace h := cond_t hc10 h
        refine W.condT rfl hc10 ?_
        refine W.seq ?_
        refine W.reg (σ' := ⟨[(2, .v (Enc.err ET) (some (1 : Int)))], []⟩) (J.cons (.none rfl) (JO.mkErr Try.runUnderlying29 rfl) rfl rfl (J.cons (.none rfl) (JO.assign rfl) rfl rfl (J.fin (Sw.Sub.mk id (.cons rfl (.of_eq rfl) .nil) .nil rfl)))) ?_
        refine W.ret ?_
        obtain rfl := Option.some.inj h
        exact XQ.sub (σ' := ⟨[(2, .v (Enc.err ET) (some (1 : Int)))], []⟩) (Sw.Sub.mk id (.cons rfl (.of_eq rfl) .nil) .nil rfl) (XQ.ret1 hF noR rfl (RV.tmp rfl) .nil rfl)
      · replace h := cond_f hc10 h
        refine W.condF rfl hc10 ?_
        refine W.skip ?_
        refine W.seq ?_
        refine W.reg (σ' := ⟨[(2, .v (Enc.err ET) (none : Option Int))], []⟩) (J.cons (.none rfl) (JO.assignNilE ET) rfl rfl (J.fin (Sw.Sub.mk id (.cons rfl (.of_eq rfl) .nil) .nil rfl))) ?_
        refine W.ret ?_
        obtain rfl := Option.some.inj h
        exact XQ.sub (σ' := ⟨[(2, .v (Enc.err ET) (none : Option Int))], []⟩) (Sw.Sub.mk id (.cons rfl (.of_eq rfl) .nil) .nil rfl) (XQ.ret1 hF noR rfl (RV.tmp rfl) .nil rfl)
set_option maxRecDepth 100000 in
set_option maxHeartbeats 4000000 in
theorem con_frame_Sum {a0 : (List Int)} {r : Int} (h : m_frame_Sum a0 = some r) :
    Con Try.prog 93 [.v (Enc.sl (Enc.int .u8)) a0] (.v (Enc.int .u32) r) [] := by
  refine Con.of Try.func93 rfl Try.ntmps93 rfl ?_
  intro S w hF
  unfold m_frame_Sum at h
  refine W.seq ?_
  refine W.reg (σ' := ⟨[(0, .v (Enc.sl (Enc.int .u8)) a0)], []⟩) (J.cons (.none rfl) (JO.assign rfl) rfl rfl (J.fin (Sw.Sub.mk id (.cons rfl (.of_eq rfl) .nil) .nil rfl))) ?_
  refine W.seq ?_
  refine W.reg (σ' := ⟨[(0, .v (Enc.sl (Enc.int .u8)) a0), (3, .v (Enc.int .u32) (4294967295 : Int))], []⟩) (J.cons (.none rfl) (JO.assign rfl) rfl rfl (J.fin (Sw.Sub.mk id (.cons rfl (.of_eq rfl) (.cons rfl (.of_eq rfl) .nil)) .nil rfl))) ?_
  refine W.seq ?_
  refine W.seq ?_
  refine W.reg (σ' := ⟨[(3, .v (Enc.int .u32) (4294967295 : Int)), (6, .v (Enc.sl (Enc.int .u8)) a0), (7, .v (Enc.int .i64) (a0.length : Int)), (8, .v (Enc.int .i64) (0 : Int))], []⟩) (J.cons (.none rfl) (JO.move rfl) rfl rfl (J.cons (.none rfl) (JO.len rfl Try.runUnderlying39) rfl rfl (J.cons (.none rfl) (JO.move rfl) rfl rfl (J.fin (Sw.Sub.mk id (.cons rfl (.of_eq rfl) (.cons rfl (.of_eq rfl) (.cons rfl (.of_eq rfl) (.cons rfl (.of_eq rfl) .nil)))) .nil rfl))))) ?_
  obtain ⟨o37, ho37, hb37, hr37⟩ := lp_elim h
  refine W.lp (σs := fun s25 : Int × Int => ⟨[(3, .v (Enc.int .u32) s25.1), (6, .v (Enc.sl (Enc.int .u8)) a0), (7, .v (Enc.int .i64) (a0.length : Int)), (8, .v (Enc.int .i64) s25.2)], []⟩) (fun x38 : Int => ⟨[(3, .v (Enc.int .u32) x38)], []⟩) ho37 (Sw.Sub.mk id (.cons rfl (.of_eq rfl) (.cons rfl (.of_eq rfl) (.cons rfl (.of_eq rfl) (.cons rfl (.of_eq rfl) .nil)))) .nil rfl) ?_ ?_
  · intro x38 hy
    have h := hb37 _ hy
    refine W.seq ?_
    refine W.reg (σ' := ⟨[(2, .v (Enc.int .u32) (bnot .u32 x38))], []⟩) (J.cons (.none rfl) (JO.move rfl) rfl rfl (J.cons (.none rfl) (JO.xor rfl) rfl rfl (J.cons (.none rfl) (JO.assign rfl) rfl rfl (J.fin (Sw.Sub.mk id (.cons rfl (.of_eq rfl) .nil) .nil rfl))))) ?_
    refine W.ret ?_
    obtain rfl := Option.some.inj h
    exact XQ.sub (σ' := ⟨[(2, .v (Enc.int .u32) (bnot .u32 x38))], []⟩) (Sw.Sub.mk id (.cons rfl (.of_eq rfl) .nil) .nil rfl) (XQ.ret1 hF noR rfl (RV.tmp rfl) .nil rfl)
  intro s25 r37 h
  refine W.seq ?_
  refine W.reg (σ' := ⟨[(3, .v (Enc.int .u32) s25.1), (6, .v (Enc.sl (Enc.int .u8)) a0), (7, .v (Enc.int .i64) (a0.length : Int)), (8, .v (Enc.int .i64) s25.2), (9, .v Enc.bool (cm .lss s25.2 (a0.length : Int)))], []⟩) (J.cons (.none rfl) (JO.cmp rfl rfl rfl) rfl rfl (J.fin (Sw.Sub.mk id (.cons rfl (.of_eq rfl) (.cons rfl (.of_eq rfl) (.cons rfl (.of_eq rfl) (.cons rfl (.of_eq rfl) (.cons rfl (.of_eq rfl) .nil))))) .nil rfl))) ?_
  refine W.seq ?_
  rcases Bool.eq_false_or_eq_true (cm .lss s25.2 (a0.length : Int)) with hc39 | hc39
  · replace h := cond_t hc39 h
    refine W.condT rfl hc39 ?_
    refine W.skip ?_
    refine W.seq ?_
    refine W.block ?_
    refine W.seq ?_
    obtain ⟨z40, hz40, h⟩ := bind_e h
    refine W.reg (σ' := ⟨[(3, .v (Enc.int .u32) s25.1), (5, .v (Enc.int .u8) z40), (6, .v (Enc.sl (Enc.int .u8)) a0), (7, .v (Enc.int .i64) (a0.length : Int)), (8, .v (Enc.int .i64) s25.2)], []⟩) (J.cons (.none rfl) (JO.idx hz40 rfl rfl Try.runUnderlying39 Try.sizeOf5) rfl rfl (J.cons (.none rfl) (JO.loadPst rfl Try.isAgg5 Try.sizeOf5) rfl rfl (J.cons (.none rfl) (JO.assign rfl) rfl rfl (J.fin (Sw.Sub.mk id (.cons rfl (.of_eq rfl) (.cons rfl (.of_eq rfl) (.cons rfl (.of_eq rfl) (.cons rfl (.of_eq rfl) (.cons rfl (.of_eq rfl) .nil))))) .nil rfl))))) ?_
    refine W.seq ?_
    refine W.reg (σ' := ⟨[(3, .v (Enc.int .u32) (ar .xor .u32 s25.1 z40)), (6, .v (Enc.sl (Enc.int .u8)) a0), (7, .v (Enc.int .i64) (a0.length : Int)), (8, .v (Enc.int .i64) s25.2)], []⟩) (J.cons (.none rfl) (JO.move rfl) rfl rfl (J.cons (.none rfl) (JO.move rfl) rfl rfl (J.cons (.none rfl) (JO.convUp Try.runUnderlying5 Try.runUnderlying157 rfl rfl) rfl rfl (J.cons (.none rfl) (JO.arith rfl rfl rfl) rfl rfl (J.cons (.none rfl) (JO.assign rfl) rfl rfl (J.fin (Sw.Sub.mk id (.cons rfl (.of_eq rfl) (.cons rfl (.of_eq rfl) (.cons rfl (.of_eq rfl) (.cons rfl (.of_eq rfl) .nil)))) .nil rfl))))))) ?_
    refine W.seq ?_
    refine W.reg (σ' := ⟨[(3, .v (Enc.int .u32) (ar .xor .u32 s25.1 z40)), (6, .v (Enc.sl (Enc.int .u8)) a0), (7, .v (Enc.int .i64) (a0.length : Int)), (8, .v (Enc.int .i64) s25.2), (16, .v (Enc.int .i64) (0 : Int))], []⟩) (J.cons (.none rfl) (JO.move rfl) rfl rfl (J.fin (Sw.Sub.mk id (.cons rfl (.of_eq rfl) (.cons rfl (.of_eq rfl) (.cons rfl (.of_eq rfl) (.cons rfl (.of_eq rfl) (.cons rfl (.of_eq rfl) .nil))))) .nil rfl))) ?_
    obtain ⟨o47, ho47, hb47, hr47⟩ := lp_elim h
    refine W.lp (σs := fun s45 : Int × Int => ⟨[(3, .v (Enc.int .u32) s45.1), (6, .v (Enc.sl (Enc.int .u8)) a0), (7, .v (Enc.int .i64) (a0.length : Int)), (8, .v (Enc.int .i64) s25.2), (16, .v (Enc.int .i64) s45.2)], []⟩) (fun x48 : Int => ⟨[(3, .v (Enc.int .u32) x48), (6, .v (Enc.sl (Enc.int .u8)) a0), (7, .v (Enc.int .i64) (a0.length : Int)), (8, .v (Enc.int .i64) s25.2)], []⟩) ho47 (Sw.Sub.mk id (.cons rfl (.of_eq rfl) (.cons rfl (.of_eq rfl) (.cons rfl (.of_eq rfl) (.cons rfl (.of_eq rfl) (.cons rfl (.of_eq rfl) .nil))))) .nil rfl) ?_ ?_
    · intro x48 hy
      have h := hb47 _ hy
      refine W.fall ?_
      refine W.reg (σ' := ⟨[(3, .v (Enc.int .u32) x48), (6, .v (Enc.sl (Enc.int .u8)) a0), (7, .v (Enc.int .i64) (a0.length : Int)), (8, .v (Enc.int .i64) (ar .add .i64 s25.2 (1 : Int)))], []⟩) (J.cons (.none rfl) (JO.arith rfl rfl rfl) rfl rfl (J.cons (.none rfl) (JO.move rfl) rfl rfl (J.fin (Sw.Sub.mk id (.cons rfl (.of_eq rfl) (.cons rfl (.of_eq rfl) (.cons rfl (.of_eq rfl) (.cons rfl (.of_eq rfl) .nil)))) .nil rfl)))) ?_
      obtain rfl := Option.some.inj h
      exact W.next (Sw.Sub.mk id (.cons rfl (.of_eq rfl) (.cons rfl (.of_eq rfl) (.cons rfl (.of_eq rfl) (.cons rfl (.of_eq rfl) .nil)))) .nil rfl)
    intro s45 r47 h
    refine W.seq ?_
    refine W.reg (σ' := ⟨[(3, .v (Enc.int .u32) s45.1), (6, .v (Enc.sl (Enc.int .u8)) a0), (7, .v (Enc.int .i64) (a0.length : Int)), (8, .v (Enc.int .i64) s25.2), (16, .v (Enc.int .i64) s45.2), (17, .v Enc.bool (cm .lss s45.2 (8 : Int)))], []⟩) (J.cons (.none rfl) (JO.cmp rfl rfl rfl) rfl rfl (J.fin (Sw.Sub.mk id (.cons rfl (.of_eq rfl) (.cons rfl (.of_eq rfl) (.cons rfl (.of_eq rfl) (.cons rfl (.of_eq rfl) (.cons rfl (.of_eq rfl) (.cons rfl (.of_eq rfl) .nil)))))) .nil rfl))) ?_
    refine W.seq ?_
    rcases Bool.eq_false_or_eq_true (cm .lss s45.2 (8 : Int)) with hc49 | hc49
    · replace h := cond_t hc49 h
      refine W.condT rfl hc49 ?_
      refine W.skip ?_
      refine W.seq ?_
      refine W.block ?_
      refine W.reg (σ' := ⟨[(3, .v (Enc.int .u32) (ar .xor .u32 (sh .shr .u32 s45.1 (1 : Int)) (ar .mul .u32 (3988292384 : Int) (ar .and .u32 s45.1 (1 : Int))))), (6, .v (Enc.sl (Enc.int .u8)) a0), (7, .v (Enc.int .i64) (a0.length : Int)), (8, .v (Enc.int .i64) s25.2), (16, .v (Enc.int .i64) s45.2)], []⟩) (J.cons (.none rfl) (JO.move rfl) rfl rfl (J.cons (.none rfl) (JO.shift (.inr rfl) (by decide) rfl rfl) rfl rfl (J.cons (.none rfl) (JO.move rfl) rfl rfl (J.cons (.none rfl) (JO.arith rfl rfl rfl) rfl rfl (J.cons (.none rfl) (JO.arith rfl rfl rfl) rfl rfl (J.cons (.none rfl) (JO.arith rfl rfl rfl) rfl rfl (J.cons (.none rfl) (JO.assign rfl) rfl rfl (J.fin (Sw.Sub.mk id (.cons rfl (.of_eq rfl) (.cons rfl (.of_eq rfl) (.cons rfl (.of_eq rfl) (.cons rfl (.of_eq rfl) (.cons rfl (.of_eq rfl) .nil))))) .nil rfl))))))))) ?_
      refine W.fall ?_
      refine W.reg (σ' := ⟨[(3, .v (Enc.int .u32) (ar .xor .u32 (sh .shr .u32 s45.1 (1 : Int)) (ar .mul .u32 (3988292384 : Int) (ar .and .u32 s45.1 (1 : Int))))), (6, .v (Enc.sl (Enc.int .u8)) a0), (7, .v (Enc.int .i64) (a0.length : Int)), (8, .v (Enc.int .i64) s25.2), (16, .v (Enc.int .i64) (ar .add .i64 s45.2 (1 : Int)))], []⟩) (J.cons (.none rfl) (JO.arith rfl rfl rfl) rfl rfl (J.cons (.none rfl) (JO.move rfl) rfl rfl (J.fin (Sw.Sub.mk id (.cons rfl (.of_eq rfl) (.cons rfl (.of_eq rfl) (.cons rfl (.of_eq rfl) (.cons rfl (.of_eq rfl) (.cons rfl (.of_eq rfl) .nil))))) .nil rfl)))) ?_
      obtain rfl := Option.some.inj h
      exact W.next (Sw.Sub.mk id (.cons rfl (.of_eq rfl) (.cons rfl (.of_eq rfl) (.cons rfl (.of_eq rfl) (.cons rfl (.of_eq rfl) (.cons rfl (.of_eq rfl) .nil))))) .nil rfl)
    · replace h := cond_f hc49 h
      refine W.condF rfl hc49 ?_
      refine W.exit ?_
      obtain rfl := Option.some.inj h
      exact XQ.brk (Sw.Sub.mk id (.cons rfl (.of_eq rfl) (.cons rfl (.of_eq rfl) (.cons rfl (.of_eq rfl) (.cons rfl (.of_eq rfl) .nil)))) .nil rfl)
  · replace h := cond_f hc39 h
    refine W.condF rfl hc39 ?_
    refine W.exit ?_
    obtain rfl := Option.some.inj h
    exact XQ.brk (Sw.Sub.mk id (.cons rfl (.of_eq rfl) .nil) .nil rfl)
set_option maxRecDepth 100000 in
set_option maxHeartbeats 4000000 in
theorem con_frame_Pack {a0 : (Int × (List Int) × (List Blk))} {r : (List Int) × (Option Int)} (h : m_frame_Pack a0 = some r) :
    Con Try.prog 45 [.v (Enc.pr (Enc.int .i64) (Enc.pr (Enc.sl (Enc.int .i64)) (Enc.sl eBlk))) a0] (.tup [.ref 0, .v (Enc.err ET) r.2]) [(0, .arr 5 (Enc.int .u8) r.1)] := by
  refine Con.of Try.func45 rfl Try.ntmps45 rfl ?_
  intro S w hF
  unfold m_frame_Pack at h
  refine W.seq ?_
  refine W.reg (σ' := ⟨[(1, .ptr 101 0)], [(101, .box 28 [.v (Enc.int .i64) a0.1, .v (Enc.sl (Enc.int .i64)) a0.2.1, .v (Enc.sl eBlk) a0.2.2])]⟩) (J.cons (.none rfl) (JO.box 101 rfl (.prm (.one _ _) (.prm (.one _ _) (.one _ _))) rfl) rfl rfl (J.cons (.none rfl) (JO.assignNilR 102 5 (Enc.int .u8)) rfl rfl (J.cons (.none rfl) (JO.assignNilE ET) rfl rfl (J.fin (Sw.Sub.mk id (.cons rfl (.of_eq rfl) .nil) (.box rfl (.cons (.of_eq rfl) (.cons (.of_eq rfl) (.cons (.of_eq rfl) .nil))) .nil) rfl))))) ?_
  refine W.seq ?_
  refine W.seq ?_
  obtain ⟨v1, hv1, h⟩ := bind_e h
  refine W.reg (σ' := ⟨[(1, .ptr 101 0), (4, .v (Enc.err ET) v1)], [(101, .box 28 [.v (Enc.int .i64) a0.1, .v (Enc.sl (Enc.int .i64)) a0.2.1, .v (Enc.sl eBlk) a0.2.2])]⟩) (J.cons (.none rfl) (JO.loadAll rfl rfl (.prm (.one _ _) (.prm (.one _ _) (.one _ _))) Try.isAgg28 Try.sizeOf28) rfl rfl (J.cons (.none rfl) (JO.call0 (con_frame_Check hv1) Try.call47 (.cons (.dir rfl) .nil)) rfl rfl (J.cons (.none rfl) (JO.assign rfl) rfl rfl (J.fin (Sw.Sub.mk id (.cons rfl (.of_eq rfl) (.cons rfl (.of_eq rfl) .nil)) (.box rfl (.cons (.of_eq rfl) (.cons (.of_eq rfl) (.cons (.of_eq rfl) .nil))) .nil) rfl))))) ?_
  refine W.seq ?_
  refine W.reg (σ' := ⟨[(1, .ptr 101 0), (4, .v (Enc.err ET) v1), (14, .v Enc.bool (Option.isSome v1))], [(101, .box 28 [.v (Enc.int .i64) a0.1, .v (Enc.sl (Enc.int .i64)) a0.2.1, .v (Enc.sl eBlk) a0.2.2])]⟩) (J.cons (.none rfl) (JO.move rfl) rfl rfl (J.cons (.none rfl) (JO.errNe Try.runUnderlying33 rfl) rfl rfl (J.fin (Sw.Sub.mk id (.cons rfl (.of_eq rfl) (.cons rfl (.of_eq rfl) (.cons rfl (.of_eq rfl) .nil))) (.box rfl (.cons (.of_eq rfl) (.cons (.of_eq rfl) (.cons (.of_eq rfl) .nil))) .nil) rfl)))) ?_
  rcases Bool.eq_false_or_eq_true (Option.isSome v1) with hc2 | hc2
  · replace h := cond_t hc2 h
    refine W.condT rfl hc2 ?_
    refine W.seq ?_
    refine W.reg (σ' := ⟨[(2, .ref 104), (3, .v (Enc.err ET) v1)], [(104, .arr 5 (Enc.int .u8) ([] : (List Int)))]⟩) (J.cons (.none rfl) (JO.move rfl) rfl rfl (J.cons (.none rfl) (JO.assignNilR 104 5 (Enc.int .u8)) rfl rfl (J.cons (.none rfl) (JO.assign rfl) rfl rfl (J.fin (Sw.Sub.mk id (.cons rfl (.of_eq rfl) (.cons rfl (.of_eq rfl) .nil)) (.arr rfl .nil) rfl))))) ?_
    refine W.ret ?_
    obtain rfl := Option.some.inj h
    exact XQ.sub (σ' := ⟨[(2, .ref 0), (3, .v (Enc.err ET) v1)], [(0, .arr 5 (Enc.int .u8) ([] : (List Int)))]⟩) (Sw.Sub.mk (rn [(0, 104)]) (.cons rfl (.of_eq rfl) (.cons rfl (.of_eq rfl) .nil)) (.arr rfl .nil) rfl) (XQ.ret2 hF noR rfl (RV.tmp rfl) (RV.tmp rfl) (.cons rfl .nil) rfl)
  · replace h := cond_f hc2 h
    refine W.condF rfl hc2 ?_
    refine W.skip ?_
    refine W.seq ?_
    refine W.reg (σ' := ⟨[(1, .ptr 101 0), (5, .ref 105)], [(101, .box 28 [.v (Enc.int .i64) a0.1, .v (Enc.sl (Enc.int .i64)) a0.2.1, .v (Enc.sl eBlk) a0.2.2]), (105, .arr 5 (Enc.int .u8) ([(ar .or .u8 (sh .shl .u8 (IntKind.wrap .u8 a0.1) (4 : Int)) (IntKind.wrap .u8 (a0.2.1.length : Int))), (IntKind.wrap .u8 (a0.2.2.length : Int))] : (List Int)))]⟩) (J.cons (.none rfl) (JO.fieldPtr 0 rfl Try.runUnderlying28 rfl Try.sizeOf3 rfl rfl) rfl rfl (J.cons (.none rfl) (JO.load rfl rfl rfl Try.isAgg3 Try.sizeOf3) rfl rfl (J.cons (.none rfl) (JO.conv Try.runUnderlying3 Try.runUnderlying5 rfl) rfl rfl (J.cons (.none rfl) (JO.shift (.inl rfl) (by decide) rfl rfl) rfl rfl (J.cons (.none rfl) (JO.fieldPtr 1 rfl Try.runUnderlying28 rfl Try.sizeOf25 rfl rfl) rfl rfl (J.cons (.none rfl) (JO.load rfl rfl rfl Try.isAgg25 Try.sizeOf25) rfl rfl (J.cons (.none rfl) (JO.len rfl Try.runUnderlying25) rfl rfl (J.cons (.none rfl) (JO.conv Try.runUnderlying3 Try.runUnderlying5 rfl) rfl rfl (J.cons (.none rfl) (JO.arith rfl rfl rfl) rfl rfl (J.cons (.none rfl) (JO.fieldPtr 2 rfl Try.runUnderlying28 rfl Try.sizeOf26 rfl rfl) rfl rfl (J.cons (.none rfl) (JO.load rfl rfl rfl Try.isAgg26 Try.sizeOf26) rfl rfl (J.cons (.none rfl) (JO.len rfl Try.runUnderlying26) rfl rfl (J.cons (.none rfl) (JO.conv Try.runUnderlying3 Try.runUnderlying5 rfl) rfl rfl (J.cons (.none rfl) (JO.litR (e := (Enc.int .u8)) 105 Try.runUnderlying39 Try.sizeOf5 Try.zeroValue5 rfl rfl rfl rfl (.cons (.dir rfl) (.cons (.dir rfl) .nil))) rfl rfl (J.cons (.none rfl) (JO.assign rfl) rfl rfl (J.fin (Sw.Sub.mk id (.cons rfl (.of_eq rfl) (.cons rfl (.of_eq rfl) .nil)) (.box rfl (.cons (.of_eq rfl) (.cons (.of_eq rfl) (.cons (.of_eq rfl) .nil))) (.arr rfl .nil)) rfl))))))))))))))))) ?_
    refine W.seq ?_
    refine W.seq ?_
    refine W.reg (σ' := ⟨[(1, .ptr 101 0), (5, .ref 105), (31, .v (Enc.sl (Enc.int .i64)) a0.2.1), (32, .v (Enc.int .i64) (a0.2.1.length : Int)), (33, .v (Enc.int .i64) (0 : Int))], [(101, .box 28 [.v (Enc.int .i64) a0.1, .v (Enc.sl (Enc.int .i64)) a0.2.1, .v (Enc.sl eBlk) a0.2.2]), (105, .arr 5 (Enc.int .u8) ([(ar .or .u8 (sh .shl .u8 (IntKind.wrap .u8 a0.1) (4 : Int)) (IntKind.wrap .u8 (a0.2.1.length : Int))), (IntKind.wrap .u8 (a0.2.2.length : Int))] : (List Int)))]⟩) (J.cons (.none rfl) (JO.fieldPtr 1 rfl Try.runUnderlying28 rfl Try.sizeOf25 rfl rfl) rfl rfl (J.cons (.none rfl) (JO.load rfl rfl rfl Try.isAgg25 Try.sizeOf25) rfl rfl (J.cons (.none rfl) (JO.len rfl Try.runUnderlying25) rfl rfl (J.cons (.none rfl) (JO.move rfl) rfl rfl (J.fin (Sw.Sub.mk id (.cons rfl (.of_eq rfl) (.cons rfl (.of_eq rfl) (.cons rfl (.of_eq rfl) (.cons rfl (.of_eq rfl) (.cons rfl (.of_eq rfl) .nil))))) (.box rfl (.cons (.of_eq rfl) (.cons (.of_eq rfl) (.cons (.of_eq rfl) .nil))) (.arr rfl .nil)) rfl)))))) ?_
    obtain ⟨o54, ho54, hb54, hr54⟩ := lp_elim h
    refine W.lp (σs := fun s37 : Int × (List Int) => ⟨[(1, .ptr 101 0), (5, .ref 127), (31, .v (Enc.sl (Enc.int .i64)) a0.2.1), (32, .v (Enc.int .i64) (a0.2.1.length : Int)), (33, .v (Enc.int .i64) s37.1)], [(101, .box 28 [.v (Enc.int .i64) a0.1, .v (Enc.sl (Enc.int .i64)) a0.2.1, .v (Enc.sl eBlk) a0.2.2]), (127, .arr 5 (Enc.int .u8) s37.2)]⟩) (fun x55 : (List Int) => ⟨[(1, .ptr 101 0), (5, .ref 127)], [(101, .box 28 [.v (Enc.int .i64) a0.1, .v (Enc.sl (Enc.int .i64)) a0.2.1, .v (Enc.sl eBlk) a0.2.2]), (127, .arr 5 (Enc.int .u8) x55)]⟩) ho54 (Sw.Sub.mk (rn [(101, 101), (127, 105)]) (.cons rfl (.of_eq rfl) (.cons rfl (.of_eq rfl) (.cons rfl (.of_eq rfl) (.cons rfl (.of_eq rfl) (.cons rfl (.of_eq rfl) .nil))))) (.box rfl (.cons (.of_eq rfl) (.cons (.of_eq rfl) (.cons (.of_eq rfl) .nil))) (.arr rfl .nil)) rfl) ?_ ?_
    · intro x55 hy
      have h := hb54 _ hy
      refine W.seq ?_
      refine W.seq ?_
      refine W.reg (σ' := ⟨[(5, .ref 127), (54, .v (Enc.sl eBlk) a0.2.2), (55, .v (Enc.int .i64) (a0.2.2.length : Int)), (56, .v (Enc.int .i64) (0 : Int))], [(127, .arr 5 (Enc.int .u8) x55)]⟩) (J.cons (.none rfl) (JO.fieldPtr 2 rfl Try.runUnderlying28 rfl Try.sizeOf26 rfl rfl) rfl rfl (J.cons (.none rfl) (JO.load rfl rfl rfl Try.isAgg26 Try.sizeOf26) rfl rfl (J.cons (.none rfl) (JO.len rfl Try.runUnderlying26) rfl rfl (J.cons (.none rfl) (JO.move rfl) rfl rfl (J.fin (Sw.Sub.mk id (.cons rfl (.of_eq rfl) (.cons rfl (.of_eq rfl) (.cons rfl (.of_eq rfl) (.cons rfl (.of_eq rfl) .nil)))) (.arr rfl .nil) rfl)))))) ?_
      obtain ⟨o84, ho84, hb84, hr84⟩ := lp_elim h
      refine W.lp (σs := fun s80 : Int × (List Int) => ⟨[(5, .ref 153), (54, .v (Enc.sl eBlk) a0.2.2), (55, .v (Enc.int .i64) (a0.2.2.length : Int)), (56, .v (Enc.int .i64) s80.1)], [(153, .arr 5 (Enc.int .u8) s80.2)]⟩) (fun x85 : (List Int) => ⟨[(5, .ref 153)], [(153, .arr 5 (Enc.int .u8) x85)]⟩) ho84 (Sw.Sub.mk (rn [(153, 127)]) (.cons rfl (.of_eq rfl) (.cons rfl (.of_eq rfl) (.cons rfl (.of_eq rfl) (.cons rfl (.of_eq rfl) .nil)))) (.arr rfl .nil) rfl) ?_ ?_
      · intro x85 hy
        have h := hb84 _ hy
        refine W.seq ?_
        obtain ⟨v89, hv89, h⟩ := bind_e h
        refine W.reg (σ' := ⟨[(5, .ref 153), (10, .v (Enc.int .u32) v89)], [(153, .arr 5 (Enc.int .u8) x85)]⟩) (J.cons (.none rfl) (JO.move rfl) rfl rfl (J.cons (.none rfl) (JO.callL0 (con_frame_Sum hv89) Try.call93 (.cons (.ref rfl rfl) .nil) FlatS.v) rfl rfl (J.cons (.none rfl) (JO.assign rfl) rfl rfl (J.fin (Sw.Sub.mk id (.cons rfl (.of_eq rfl) (.cons rfl (.of_eq rfl) .nil)) (.arr rfl .nil) rfl))))) ?_
        refine W.seq ?_
        obtain ⟨v90, hv90, h⟩ := bind_e h
        refine W.reg (σ' := ⟨[(2, .ref 159), (3, .v (Enc.err ET) (none : Option Int))], [(159, .arr 5 (Enc.int .u8) v90)]⟩) (J.cons (.none rfl) (JO.move rfl) rfl rfl (J.cons (.none rfl) (JO.move rfl) rfl rfl (J.cons (.none rfl) (JO.shift (.inr rfl) (by decide) rfl rfl) rfl rfl (J.cons (.none rfl) (JO.conv Try.runUnderlying157 Try.runUnderlying5 rfl) rfl rfl (J.cons (.none rfl) (JO.move rfl) rfl rfl (J.cons (.none rfl) (JO.shift (.inr rfl) (by decide) rfl rfl) rfl rfl (J.cons (.none rfl) (JO.conv Try.runUnderlying157 Try.runUnderlying5 rfl) rfl rfl (J.cons (.none rfl) (JO.move rfl) rfl rfl (J.cons (.none rfl) (JO.shift (.inr rfl) (by decide) rfl rfl) rfl rfl (J.cons (.none rfl) (JO.conv Try.runUnderlying157 Try.runUnderlying5 rfl) rfl rfl (J.cons (.none rfl) (JO.move rfl) rfl rfl (J.cons (.none rfl) (JO.conv Try.runUnderlying157 Try.runUnderlying5 rfl) rfl rfl (J.cons (.none rfl) (JO.lit (e := (Enc.int .u8)) Try.runUnderlying39 Try.sizeOf5 Try.zeroValue5 rfl rfl rfl rfl (.cons (.dir rfl) (.cons (.dir rfl) (.cons (.dir rfl) (.cons (.dir rfl) .nil))))) rfl rfl (J.mut (.none rfl) (JM.append 159 hv90 rfl rfl (.sl rfl) Try.runUnderlying39 Try.typeInfo5 Try.sizeOf5 rfl rfl rfl rfl rfl) (J.cons (.none rfl) (JO.assign rfl) rfl rfl (J.cons (.none rfl) (JO.assignNilE ET) rfl rfl (J.fin (Sw.Sub.mk id (.cons rfl (.of_eq rfl) (.cons rfl (.of_eq rfl) .nil)) (.arr rfl .nil) rfl)))))))))))))))))) ?_
        refine W.ret ?_
        obtain rfl := Option.some.inj h
        exact XQ.sub (σ' := ⟨[(2, .ref 0), (3, .v (Enc.err ET) (none : Option Int))], [(0, .arr 5 (Enc.int .u8) v90)]⟩) (Sw.Sub.mk (rn [(0, 159)]) (.cons rfl (.of_eq rfl) (.cons rfl (.of_eq rfl) .nil)) (.arr rfl .nil) rfl) (XQ.ret2 hF noR rfl (RV.tmp rfl) (RV.tmp rfl) (.cons rfl .nil) rfl)
      intro s80 r84 h
      refine W.seq ?_
      refine W.reg (σ' := ⟨[(5, .ref 153), (54, .v (Enc.sl eBlk) a0.2.2), (55, .v (Enc.int .i64) (a0.2.2.length : Int)), (56, .v (Enc.int .i64) s80.1), (57, .v Enc.bool (cm .lss s80.1 (a0.2.2.length : Int)))], [(153, .arr 5 (Enc.int .u8) s80.2)]⟩) (J.cons (.none rfl) (JO.cmp rfl rfl rfl) rfl rfl (J.fin (Sw.Sub.mk id (.cons rfl (.of_eq rfl) (.cons rfl (.of_eq rfl) (.cons rfl (.of_eq rfl) (.cons rfl (.of_eq rfl) (.cons rfl (.of_eq rfl) .nil))))) (.arr rfl .nil) rfl))) ?_
      refine W.seq ?_
      rcases Bool.eq_false_or_eq_true (cm .lss s80.1 (a0.2.2.length : Int)) with hc86 | hc86
      · replace h := cond_t hc86 h
        refine W.condT rfl hc86 ?_
        refine W.skip ?_
        refine W.seq ?_
        refine W.block ?_
        refine W.seq ?_
        obtain ⟨z87, hz87, h⟩ := bind_e h
        refine W.reg (σ' := ⟨[(5, .ref 153), (9, .ptr 156 0), (54, .v (Enc.sl eBlk) a0.2.2), (55, .v (Enc.int .i64) (a0.2.2.length : Int)), (56, .v (Enc.int .i64) s80.1)], [(153, .arr 5 (Enc.int .u8) s80.2), (156, .box 56 [.v eBlk z87])]⟩) (J.cons (.none rfl) (JO.idx hz87 rfl rfl Try.runUnderlying26 Try.sizeOf56) rfl rfl (J.cons (.none rfl) (JO.loadPst rfl Try.isAgg56 Try.sizeOf56) rfl rfl (J.cons (.none rfl) (JO.alloc 156 Try.zeroValue56 rfl (.cons (Z.arr 8 (Z.int .u8)) .nil) rfl) rfl rfl (J.mut (.none rfl) (JM.store rfl rfl rfl rfl rfl rfl rfl Try.sizeOf56) (J.fin (Sw.Sub.mk id (.cons rfl (.of_eq rfl) (.cons rfl (.of_eq rfl) (.cons rfl (.of_eq rfl) (.cons rfl (.of_eq rfl) (.cons rfl (.of_eq rfl) .nil))))) (.arr rfl (.box rfl (.cons (.of_eq rfl) .nil) .nil)) rfl)))))) ?_
        obtain ⟨v88, hv88, h⟩ := bind_e h
        refine W.reg (σ' := ⟨[(5, .ref 157), (54, .v (Enc.sl eBlk) a0.2.2), (55, .v (Enc.int .i64) (a0.2.2.length : Int)), (56, .v (Enc.int .i64) s80.1)], [(157, .arr 5 (Enc.int .u8) v88)]⟩) (J.cons (.none rfl) (JO.move rfl) rfl rfl (J.cons (.none rfl) (JO.aslAll rfl rfl rfl Try.runUnderlying56 Try.sizeOf5) rfl rfl (J.mut (.none rfl) (JM.append 157 hv88 rfl rfl (.asl rfl rfl rfl rfl) Try.runUnderlying39 Try.typeInfo5 Try.sizeOf5 rfl rfl rfl rfl rfl) (J.cons (.none rfl) (JO.assign rfl) rfl rfl (J.fin (Sw.Sub.mk id (.cons rfl (.of_eq rfl) (.cons rfl (.of_eq rfl) (.cons rfl (.of_eq rfl) (.cons rfl (.of_eq rfl) .nil)))) (.arr rfl .nil) rfl)))))) ?_
        refine W.fall ?_
        refine W.reg (σ' := ⟨[(5, .ref 157), (54, .v (Enc.sl eBlk) a0.2.2), (55, .v (Enc.int .i64) (a0.2.2.length : Int)), (56, .v (Enc.int .i64) (ar .add .i64 s80.1 (1 : Int)))], [(157, .arr 5 (Enc.int .u8) v88)]⟩) (J.cons (.none rfl) (JO.arith rfl rfl rfl) rfl rfl (J.cons (.none rfl) (JO.move rfl) rfl rfl (J.fin (Sw.Sub.mk id (.cons rfl (.of_eq rfl) (.cons rfl (.of_eq rfl) (.cons rfl (.of_eq rfl) (.cons rfl (.of_eq rfl) .nil)))) (.arr rfl .nil) rfl)))) ?_
        obtain rfl := Option.some.inj h
        exact W.next (Sw.Sub.mk (rn [(153, 157)]) (.cons rfl (.of_eq rfl) (.cons rfl (.of_eq rfl) (.cons rfl (.of_eq rfl) (.cons rfl (.of_eq rfl) .nil)))) (.arr rfl .nil) rfl)
      · replace h := cond_f hc86 h
        refine W.condF rfl hc86 ?_
        refine W.exit ?_
        obtain rfl := Option.some.inj h
        exact XQ.brk (Sw.Sub.mk id (.cons rfl (.of_eq rfl) .nil) (.arr rfl .nil) rfl)
    intro s37 r54 h
    refine W.seq ?_
    refine W.reg (σ' := ⟨[(1, .ptr 101 0), (5, .ref 127), (31, .v (Enc.sl (Enc.int .i64)) a0.2.1), (32, .v (Enc.int .i64) (a0.2.1.length : Int)), (33, .v (Enc.int .i64) s37.1), (34, .v Enc.bool (cm .lss s37.1 (a0.2.1.length : Int)))], [(101, .box 28 [.v (Enc.int .i64) a0.1, .v (Enc.sl (Enc.int .i64)) a0.2.1, .v (Enc.sl eBlk) a0.2.2]), (127, .arr 5 (Enc.int .u8) s37.2)]⟩) (J.cons (.none rfl) (JO.cmp rfl rfl rfl) rfl rfl (J.fin (Sw.Sub.mk id (.cons rfl (.of_eq rfl) (.cons rfl (.of_eq rfl) (.cons rfl (.of_eq rfl) (.cons rfl (.of_eq rfl) (.cons rfl (.of_eq rfl) (.cons rfl (.of_eq rfl) .nil)))))) (.box rfl (.cons (.of_eq rfl) (.cons (.of_eq rfl) (.cons (.of_eq rfl) .nil))) (.arr rfl .nil)) rfl))) ?_
    refine W.seq ?_
    rcases Bool.eq_false_or_eq_true (cm .lss s37.1 (a0.2.1.length : Int)) with hc56 | hc56
    · replace h := cond_t hc56 h
      refine W.condT rfl hc56 ?_
      refine W.skip ?_
      refine W.seq ?_
      refine W.block ?_
      refine W.seq ?_
      obtain ⟨z57, hz57, h⟩ := bind_e h
      refine W.reg (σ' := ⟨[(1, .ptr 101 0), (5, .ref 127), (7, .v (Enc.int .i64) z57), (31, .v (Enc.sl (Enc.int .i64)) a0.2.1), (32, .v (Enc.int .i64) (a0.2.1.length : Int)), (33, .v (Enc.int .i64) s37.1)], [(101, .box 28 [.v (Enc.int .i64) a0.1, .v (Enc.sl (Enc.int .i64)) a0.2.1, .v (Enc.sl eBlk) a0.2.2]), (127, .arr 5 (Enc.int .u8) s37.2)]⟩) (J.cons (.none rfl) (JO.idx hz57 rfl rfl Try.runUnderlying25 Try.sizeOf3) rfl rfl (J.cons (.none rfl) (JO.loadPst rfl Try.isAgg3 Try.sizeOf3) rfl rfl (J.cons (.none rfl) (JO.assign rfl) rfl rfl (J.fin (Sw.Sub.mk id (.cons rfl (.of_eq rfl) (.cons rfl (.of_eq rfl) (.cons rfl (.of_eq rfl) (.cons rfl (.of_eq rfl) (.cons rfl (.of_eq rfl) (.cons rfl (.of_eq rfl) .nil)))))) (.box rfl (.cons (.of_eq rfl) (.cons (.of_eq rfl) (.cons (.of_eq rfl) .nil))) (.arr rfl .nil)) rfl))))) ?_
      refine W.seq ?_
      obtain ⟨o67, ho67, hb67, hr67⟩ := lp_elim h
      refine W.lp (σs := fun s64 : Int × (List Int) => ⟨[(1, .ptr 101 0), (5, .ref 142), (7, .v (Enc.int .i64) s64.1), (31, .v (Enc.sl (Enc.int .i64)) a0.2.1), (32, .v (Enc.int .i64) (a0.2.1.length : Int)), (33, .v (Enc.int .i64) s37.1)], [(101, .box 28 [.v (Enc.int .i64) a0.1, .v (Enc.sl (Enc.int .i64)) a0.2.1, .v (Enc.sl eBlk) a0.2.2]), (142, .arr 5 (Enc.int .u8) s64.2)]⟩) (fun x68 : Int × (List Int) => ⟨[(1, .ptr 101 0), (5, .ref 142), (7, .v (Enc.int .i64) x68.1), (31, .v (Enc.sl (Enc.int .i64)) a0.2.1), (32, .v (Enc.int .i64) (a0.2.1.length : Int)), (33, .v (Enc.int .i64) s37.1)], [(101, .box 28 [.v (Enc.int .i64) a0.1, .v (Enc.sl (Enc.int .i64)) a0.2.1, .v (Enc.sl eBlk) a0.2.2]), (142, .arr 5 (Enc.int .u8) x68.2)]⟩) ho67 (Sw.Sub.mk (rn [(101, 101), (142, 127)]) (.cons rfl (.of_eq rfl) (.cons rfl (.of_eq rfl) (.cons rfl (.of_eq rfl) (.cons rfl (.of_eq rfl) (.cons rfl (.of_eq rfl) (.cons rfl (.of_eq rfl) .nil)))))) (.box rfl (.cons (.of_eq rfl) (.cons (.of_eq rfl) (.cons (.of_eq rfl) .nil))) (.arr rfl .nil)) rfl) ?_ ?_
      · intro x68 hy
        have h := hb67 _ hy
        obtain ⟨v71, hv71, h⟩ := bind_e h
        refine W.reg (σ' := ⟨[(1, .ptr 101 0), (5, .ref 145), (31, .v (Enc.sl (Enc.int .i64)) a0.2.1), (32, .v (Enc.int .i64) (a0.2.1.length : Int)), (33, .v (Enc.int .i64) s37.1)], [(101, .box 28 [.v (Enc.int .i64) a0.1, .v (Enc.sl (Enc.int .i64)) a0.2.1, .v (Enc.sl eBlk) a0.2.2]), (145, .arr 5 (Enc.int .u8) v71)]⟩) (J.cons (.none rfl) (JO.move rfl) rfl rfl (J.cons (.none rfl) (JO.move rfl) rfl rfl (J.cons (.none rfl) (JO.conv Try.runUnderlying3 Try.runUnderlying5 rfl) rfl rfl (J.cons (.none rfl) (JO.lit (e := (Enc.int .u8)) Try.runUnderlying39 Try.sizeOf5 Try.zeroValue5 rfl rfl rfl rfl (.cons (.dir rfl) .nil)) rfl rfl (J.mut (.none rfl) (JM.append 145 hv71 rfl rfl (.sl rfl) Try.runUnderlying39 Try.typeInfo5 Try.sizeOf5 rfl rfl rfl rfl rfl) (J.cons (.none rfl) (JO.assign rfl) rfl rfl (J.fin (Sw.Sub.mk id (.cons rfl (.of_eq rfl) (.cons rfl (.of_eq rfl) (.cons rfl (.of_eq rfl) (.cons rfl (.of_eq rfl) (.cons rfl (.of_eq rfl) .nil))))) (.box rfl (.cons (.of_eq rfl) (.cons (.of_eq rfl) (.cons (.of_eq rfl) .nil))) (.arr rfl .nil)) rfl)))))))) ?_
        refine W.fall ?_
        refine W.reg (σ' := ⟨[(1, .ptr 101 0), (5, .ref 145), (31, .v (Enc.sl (Enc.int .i64)) a0.2.1), (32, .v (Enc.int .i64) (a0.2.1.length : Int)), (33, .v (Enc.int .i64) (ar .add .i64 s37.1 (1 : Int)))], [(101, .box 28 [.v (Enc.int .i64) a0.1, .v (Enc.sl (Enc.int .i64)) a0.2.1, .v (Enc.sl eBlk) a0.2.2]), (145, .arr 5 (Enc.int .u8) v71)]⟩) (J.cons (.none rfl) (JO.arith rfl rfl rfl) rfl rfl (J.cons (.none rfl) (JO.move rfl) rfl rfl (J.fin (Sw.Sub.mk id (.cons rfl (.of_eq rfl) (.cons rfl (.of_eq rfl) (.cons rfl (.of_eq rfl) (.cons rfl (.of_eq rfl) (.cons rfl (.of_eq rfl) .nil))))) (.box rfl (.cons (.of_eq rfl) (.cons (.of_eq rfl) (.cons (.of_eq rfl) .nil))) (.arr rfl .nil)) rfl)))) ?_
        obtain rfl := Option.some.inj h
        exact W.next (Sw.Sub.mk (rn [(101, 101), (127, 145)]) (.cons rfl (.of_eq rfl) (.cons rfl (.of_eq rfl) (.cons rfl (.of_eq rfl) (.cons rfl (.of_eq rfl) (.cons rfl (.of_eq rfl) .nil))))) (.box rfl (.cons (.of_eq rfl) (.cons (.of_eq rfl) (.cons (.of_eq rfl) .nil))) (.arr rfl .nil)) rfl)
      intro s64 r67 h
      refine W.seq ?_
      refine W.seq ?_
      refine W.reg (σ' := ⟨[(1, .ptr 101 0), (5, .ref 142), (7, .v (Enc.int .i64) s64.1), (31, .v (Enc.sl (Enc.int .i64)) a0.2.1), (32, .v (Enc.int .i64) (a0.2.1.length : Int)), (33, .v (Enc.int .i64) s37.1), (38, .v Enc.bool (cm .gtr s64.1 (127 : Int)))], [(101, .box 28 [.v (Enc.int .i64) a0.1, .v (Enc.sl (Enc.int .i64)) a0.2.1, .v (Enc.sl eBlk) a0.2.2]), (142, .arr 5 (Enc.int .u8) s64.2)]⟩) (J.cons (.none rfl) (JO.move rfl) rfl rfl (J.cons (.none rfl) (JO.cmp rfl rfl rfl) rfl rfl (J.fin (Sw.Sub.mk id (.cons rfl (.of_eq rfl) (.cons rfl (.of_eq rfl) (.cons rfl (.of_eq rfl) (.cons rfl (.of_eq rfl) (.cons rfl (.of_eq rfl) (.cons rfl (.of_eq rfl) (.cons rfl (.of_eq rfl) .nil))))))) (.box rfl (.cons (.of_eq rfl) (.cons (.of_eq rfl) (.cons (.of_eq rfl) .nil))) (.arr rfl .nil)) rfl)))) ?_
      rcases Bool.eq_false_or_eq_true (cm .gtr s64.1 (127 : Int)) with hc69 | hc69
      · replace h := cond_t hc69 h
        refine W.condT rfl hc69 ?_
        refine W.skip ?_
        refine W.seq ?_
        refine W.block ?_
        obtain ⟨v70, hv70, h⟩ := bind_e h
        refine W.reg (σ' := ⟨[(1, .ptr 101 0), (5, .ref 144), (7, .v (Enc.int .i64) s64.1), (31, .v (Enc.sl (Enc.int .i64)) a0.2.1), (32, .v (Enc.int .i64) (a0.2.1.length : Int)), (33, .v (Enc.int .i64) s37.1)], [(101, .box 28 [.v (Enc.int .i64) a0.1, .v (Enc.sl (Enc.int .i64)) a0.2.1, .v (Enc.sl eBlk) a0.2.2]), (144, .arr 5 (Enc.int .u8) v70)]⟩) (J.cons (.none rfl) (JO.move rfl) rfl rfl (J.cons (.none rfl) (JO.move rfl) rfl rfl (J.cons (.none rfl) (JO.conv Try.runUnderlying3 Try.runUnderlying5 rfl) rfl rfl (J.cons (.none rfl) (JO.arith rfl rfl rfl) rfl rfl (J.cons (.none rfl) (JO.lit (e := (Enc.int .u8)) Try.runUnderlying39 Try.sizeOf5 Try.zeroValue5 rfl rfl rfl rfl (.cons (.dir rfl) .nil)) rfl rfl (J.mut (.none rfl) (JM.append 144 hv70 rfl rfl (.sl rfl) Try.runUnderlying39 Try.typeInfo5 Try.sizeOf5 rfl rfl rfl rfl rfl) (J.cons (.none rfl) (JO.assign rfl) rfl rfl (J.fin (Sw.Sub.mk id (.cons rfl (.of_eq rfl) (.cons rfl (.of_eq rfl) (.cons rfl (.of_eq rfl) (.cons rfl (.of_eq rfl) (.cons rfl (.of_eq rfl) (.cons rfl (.of_eq rfl) .nil)))))) (.box rfl (.cons (.of_eq rfl) (.cons (.of_eq rfl) (.cons (.of_eq rfl) .nil))) (.arr rfl .nil)) rfl))))))))) ?_
        refine W.fall ?_
        refine W.reg (σ' := ⟨[(1, .ptr 101 0), (5, .ref 144), (7, .v (Enc.int .i64) (sh .shr .i64 s64.1 (7 : Int))), (31, .v (Enc.sl (Enc.int .i64)) a0.2.1), (32, .v (Enc.int .i64) (a0.2.1.length : Int)), (33, .v (Enc.int .i64) s37.1)], [(101, .box 28 [.v (Enc.int .i64) a0.1, .v (Enc.sl (Enc.int .i64)) a0.2.1, .v (Enc.sl eBlk) a0.2.2]), (144, .arr 5 (Enc.int .u8) v70)]⟩) (J.cons (.none rfl) (JO.move rfl) rfl rfl (J.cons (.none rfl) (JO.shift (.inr rfl) (by decide) rfl rfl) rfl rfl (J.cons (.none rfl) (JO.assign rfl) rfl rfl (J.fin (Sw.Sub.mk id (.cons rfl (.of_eq rfl) (.cons rfl (.of_eq rfl) (.cons rfl (.of_eq rfl) (.cons rfl (.of_eq rfl) (.cons rfl (.of_eq rfl) (.cons rfl (.of_eq rfl) .nil)))))) (.box rfl (.cons (.of_eq rfl) (.cons (.of_eq rfl) (.cons (.of_eq rfl) .nil))) (.arr rfl .nil)) rfl))))) ?_
        obtain rfl := Option.some.inj h
        exact W.next (Sw.Sub.mk (rn [(101, 101), (142, 144)]) (.cons rfl (.of_eq rfl) (.cons rfl (.of_eq rfl) (.cons rfl (.of_eq rfl) (.cons rfl (.of_eq rfl) (.cons rfl (.of_eq rfl) (.cons rfl (.of_eq rfl) .nil)))))) (.box rfl (.cons (.of_eq rfl) (.cons (.of_eq rfl) (.cons (.of_eq rfl) .nil))) (.arr rfl .nil)) rfl)
      · replace h := cond_f hc69 h
        refine W.condF rfl hc69 ?_
        refine W.exit ?_
        obtain rfl := Option.some.inj h
        exact XQ.brk (Sw.Sub.mk id (.cons rfl (.of_eq rfl) (.cons rfl (.of_eq rfl) (.cons rfl (.of_eq rfl) (.cons rfl (.of_eq rfl) (.cons rfl (.of_eq rfl) (.cons rfl (.of_eq rfl) .nil)))))) (.box rfl (.cons (.of_eq rfl) (.cons (.of_eq rfl) (.cons (.of_eq rfl) .nil))) (.arr rfl .nil)) rfl)
    · replace h := cond_f hc56 h
      refine W.condF rfl hc56 ?_
      refine W.exit ?_
      obtain rfl := Option.some.inj h
      exact XQ.brk (Sw.Sub.mk id (.cons rfl (.of_eq rfl) (.cons rfl (.of_eq rfl) .nil)) (.box rfl (.cons (.of_eq rfl) (.cons (.of_eq rfl) (.cons (.of_eq rfl) .nil))) (.arr rfl .nil)) rfl)
set_option maxRecDepth 100000 in
set_option maxHeartbeats 4000000 in
theorem con_frame_taker_byte_io (A : Nat → Nat) {a0_0 : (List Int)} {r : Int × Bool × (List Int)} (h : m_frame_taker_byte_io a0_0 = some r) :
    ConM Try.prog 94 [.ptr 9000 0] [(9000, .box 162 [.v (Enc.sl (Enc.int .u8)) a0_0] (some (A 9000)))] (.tup [.v (Enc.int .u8) r.1, .v Enc.bool r.2.1]) [(9000, .box 162 [.v (Enc.sl (Enc.int .u8)) r.2.2] (some (A 9000)))] := by
  refine ConM.of Try.func94 rfl Try.ntmps94 rfl ?_
  intro S w R hF
  unfold m_frame_taker_byte_io at h
  refine W.seq ?_
  refine W.reg (σ' := ⟨[(0, .ptr 9000 0)], [(9000, .box 162 [.v (Enc.sl (Enc.int .u8)) a0_0] (some (A 9000)))]⟩) (J.cons (.none rfl) (JO.assign rfl) rfl rfl (J.cons (.none rfl) (JO.assign rfl) rfl rfl (J.fin (Sw.Sub.mk id (.cons rfl (.of_eq rfl) .nil) (.box rfl (.cons (.of_eq rfl) .nil) .nil) rfl)))) ?_
  refine W.seq ?_
  refine W.seq ?_
  refine W.reg (σ' := ⟨[(0, .ptr 9000 0), (10, .v Enc.bool (cm .eql (a0_0.length : Int) (0 : Int)))], [(9000, .box 162 [.v (Enc.sl (Enc.int .u8)) a0_0] (some (A 9000)))]⟩) (J.cons (.none rfl) (JO.move rfl) rfl rfl (J.cons (.none rfl) (JO.nilPtr rfl) rfl rfl (J.cons (.none rfl) (JO.fieldPtr 0 rfl Try.runUnderlying162 rfl Try.sizeOf39 rfl rfl) rfl rfl (J.cons (.none rfl) (JO.load rfl rfl rfl Try.isAgg39 Try.sizeOf39) rfl rfl (J.cons (.none rfl) (JO.len rfl Try.runUnderlying39) rfl rfl (J.cons (.none rfl) (JO.cmp rfl rfl rfl) rfl rfl (J.fin (Sw.Sub.mk id (.cons rfl (.of_eq rfl) (.cons rfl (.of_eq rfl) .nil)) (.box rfl (.cons (.of_eq rfl) .nil) .nil) rfl)))))))) ?_
  rcases Bool.eq_false_or_eq_true (cm .eql (a0_0.length : Int) (0 : Int)) with hc1 | hc1
  · replace h := cond_t hc1 h
    refine W.condT rfl hc1 ?_
    refine W.seq ?_
    refine W.reg (σ' := ⟨[(0, .ptr 9000 0), (2, .v (Enc.int .u8) (0 : Int)), (3, .v Enc.bool false)], [(9000, .box 162 [.v (Enc.sl (Enc.int .u8)) a0_0] (some (A 9000)))]⟩) (J.cons (.none rfl) (JO.assign rfl) rfl rfl (J.cons (.none rfl) (JO.assign rfl) rfl rfl (J.fin (Sw.Sub.mk id (.cons rfl (.of_eq rfl) (.cons rfl (.of_eq rfl) (.cons rfl (.of_eq rfl) .nil))) (.box rfl (.cons (.of_eq rfl) .nil) .nil) rfl)))) ?_
    refine W.ret ?_
    obtain rfl := Option.some.inj h
    exact XQ.sub (σ' := ⟨[(0, .ptr 9000 0), (2, .v (Enc.int .u8) (0 : Int)), (3, .v Enc.bool false)], [(9000, .box 162 [.v (Enc.sl (Enc.int .u8)) a0_0] (some (A 9000)))]⟩) (Sw.Sub.mk id (.cons rfl (.of_eq rfl) (.cons rfl (.of_eq rfl) (.cons rfl (.of_eq rfl) .nil))) (.box rfl (.cons (.of_eq rfl) .nil) .nil) rfl) (XQ.retM2 hF rfl (RV.tmp rfl) (RV.tmp rfl) (.cons rfl .nil))
  · replace h := cond_f hc1 h
    refine W.condF rfl hc1 ?_
    refine W.skip ?_
    refine W.seq ?_
    obtain ⟨z2, hz2, h⟩ := bind_e h
    refine W.reg (σ' := ⟨[(0, .ptr 9000 0), (4, .v (Enc.int .u8) z2)], [(9000, .box 162 [.v (Enc.sl (Enc.int .u8)) a0_0] (some (A 9000)))]⟩) (J.cons (.none rfl) (JO.move rfl) rfl rfl (J.cons (.none rfl) (JO.nilPtr rfl) rfl rfl (J.cons (.none rfl) (JO.fieldPtr 0 rfl Try.runUnderlying162 rfl Try.sizeOf39 rfl rfl) rfl rfl (J.cons (.none rfl) (JO.load rfl rfl rfl Try.isAgg39 Try.sizeOf39) rfl rfl (J.cons (.none rfl) (JO.idx hz2 rfl rfl Try.runUnderlying39 Try.sizeOf5) rfl rfl (J.cons (.none rfl) (JO.loadPst rfl Try.isAgg5 Try.sizeOf5) rfl rfl (J.cons (.none rfl) (JO.assign rfl) rfl rfl (J.fin (Sw.Sub.mk id (.cons rfl (.of_eq rfl) (.cons rfl (.of_eq rfl) .nil)) (.box rfl (.cons (.of_eq rfl) .nil) .nil) rfl))))))))) ?_
    refine W.seq ?_
    obtain ⟨v3, hv3, h⟩ := bind_e h
    refine W.reg (σ' := ⟨[(0, .ptr 9000 0), (4, .v (Enc.int .u8) z2)], [(9000, .box 162 [.v (Enc.sl (Enc.int .u8)) v3] (some (A 9000)))]⟩) (J.cons (.none rfl) (JO.move rfl) rfl rfl (J.cons (.none rfl) (JO.move rfl) rfl rfl (J.cons (.none rfl) (JO.nilPtr rfl) rfl rfl (J.cons (.none rfl) (JO.fieldPtr 0 rfl Try.runUnderlying162 rfl Try.sizeOf39 rfl rfl) rfl rfl (J.cons (.none rfl) (JO.load rfl rfl rfl Try.isAgg39 Try.sizeOf39) rfl rfl (J.cons (.none rfl) (JO.slLo hv3 rfl rfl Try.runUnderlying39 Try.sizeOf5) rfl rfl (J.cons (.none rfl) (JO.nilPtr rfl) rfl rfl (J.cons (.none rfl) (JO.fieldPtr 0 rfl Try.runUnderlying162 rfl Try.sizeOf39 rfl rfl) rfl rfl (J.mut (.none rfl) (JM.store rfl rfl rfl rfl rfl rfl rfl Try.sizeOf39) (J.fin (Sw.Sub.mk id (.cons rfl (.of_eq rfl) (.cons rfl (.of_eq rfl) .nil)) (.box rfl (.cons (.of_eq rfl) .nil) .nil) rfl))))))))))) ?_
    refine W.seq ?_
    refine W.reg (σ' := ⟨[(0, .ptr 9000 0), (2, .v (Enc.int .u8) z2), (3, .v Enc.bool true)], [(9000, .box 162 [.v (Enc.sl (Enc.int .u8)) v3] (some (A 9000)))]⟩) (J.cons (.none rfl) (JO.move rfl) rfl rfl (J.cons (.none rfl) (JO.assign rfl) rfl rfl (J.cons (.none rfl) (JO.assign rfl) rfl rfl (J.fin (Sw.Sub.mk id (.cons rfl (.of_eq rfl) (.cons rfl (.of_eq rfl) (.cons rfl (.of_eq rfl) .nil))) (.box rfl (.cons (.of_eq rfl) .nil) .nil) rfl))))) ?_
    refine W.ret ?_
    obtain rfl := Option.some.inj h
    exact XQ.sub (σ' := ⟨[(0, .ptr 9000 0), (2, .v (Enc.int .u8) z2), (3, .v Enc.bool true)], [(9000, .box 162 [.v (Enc.sl (Enc.int .u8)) v3] (some (A 9000)))]⟩) (Sw.Sub.mk id (.cons rfl (.of_eq rfl) (.cons rfl (.of_eq rfl) (.cons rfl (.of_eq rfl) .nil))) (.box rfl (.cons (.of_eq rfl) .nil) .nil) rfl) (XQ.retM2 hF rfl (RV.tmp rfl) (RV.tmp rfl) (.cons rfl .nil))
set_option maxRecDepth 100000 in
set_option maxHeartbeats 4000000 in
theorem con_frame_taker_number_io (A : Nat → Nat) {a0_0 : (List Int)} {r : Int × Bool × (List Int)} (h : m_frame_taker_number_io a0_0 = some r) :
    ConM Try.prog 95 [.ptr 9000 0] [(9000, .box 162 [.v (Enc.sl (Enc.int .u8)) a0_0] (some (A 9000)))] (.tup [.v (Enc.int .i64) r.1, .v Enc.bool r.2.1]) [(9000, .box 162 [.v (Enc.sl (Enc.int .u8)) r.2.2] (some (A 9000)))] := by
  refine ConM.of Try.func95 rfl Try.ntmps95 rfl ?_
  intro S w R hF
  unfold m_frame_taker_number_io at h
  refine W.seq ?_
  refine W.reg (σ' := ⟨[(0, .ptr 9000 0)], [(9000, .box 162 [.v (Enc.sl (Enc.int .u8)) a0_0] (some (A 9000)))]⟩) (J.cons (.none rfl) (JO.assign rfl) rfl rfl (J.cons (.none rfl) (JO.assign rfl) rfl rfl (J.fin (Sw.Sub.mk id (.cons rfl (.of_eq rfl) .nil) (.box rfl (.cons (.of_eq rfl) .nil) .nil) rfl)))) ?_
  refine W.seq ?_
  refine W.reg (σ' := ⟨[(0, .ptr 9000 0), (4, .v (Enc.int .i64) (0 : Int))], [(9000, .box 162 [.v (Enc.sl (Enc.int .u8)) a0_0] (some (A 9000)))]⟩) (J.cons (.none rfl) (JO.assign rfl) rfl rfl (J.fin (Sw.Sub.mk id (.cons rfl (.of_eq rfl) (.cons rfl (.of_eq rfl) .nil)) (.box rfl (.cons (.of_eq rfl) .nil) .nil) rfl))) ?_
  refine W.seq ?_
  refine W.seq ?_
  refine W.reg (σ' := ⟨[(0, .ptr 9000 0), (4, .v (Enc.int .i64) (0 : Int)), (5, .v (Enc.int .i64) (0 : Int))], [(9000, .box 162 [.v (Enc.sl (Enc.int .u8)) a0_0] (some (A 9000)))]⟩) (J.cons (.none rfl) (JO.assign rfl) rfl rfl (J.fin (Sw.Sub.mk id (.cons rfl (.of_eq rfl) (.cons rfl (.of_eq rfl) (.cons rfl (.of_eq rfl) .nil))) (.box rfl (.cons (.of_eq rfl) .nil) .nil) rfl))) ?_
  obtain ⟨o33, ho33, hb33, hr33⟩ := lp_elim h
  refine W.lp (σs := fun s22 : Int × Int × (List Int) => ⟨[(0, .ptr 9000 0), (4, .v (Enc.int .i64) s22.1), (5, .v (Enc.int .i64) s22.2.1)], [(9000, .box 162 [.v (Enc.sl (Enc.int .u8)) s22.2.2] (some (A 9000)))]⟩) (fun x34 : (List Int) => ⟨[(0, .ptr 9000 0)], [(9000, .box 162 [.v (Enc.sl (Enc.int .u8)) x34] (some (A 9000)))]⟩) ho33 (Sw.Sub.mk id (.cons rfl (.of_eq rfl) (.cons rfl (.of_eq rfl) (.cons rfl (.of_eq rfl) .nil))) (.box rfl (.cons (.of_eq rfl) .nil) .nil) rfl) ?_ ?_
  · intro x34 hy
    have h := hb33 _ hy
    refine W.seq ?_
    refine W.reg (σ' := ⟨[(0, .ptr 9000 0), (2, .v (Enc.int .i64) (0 : Int)), (3, .v Enc.bool false)], [(9000, .box 162 [.v (Enc.sl (Enc.int .u8)) x34] (some (A 9000)))]⟩) (J.cons (.none rfl) (JO.assign rfl) rfl rfl (J.cons (.none rfl) (JO.assign rfl) rfl rfl (J.fin (Sw.Sub.mk id (.cons rfl (.of_eq rfl) (.cons rfl (.of_eq rfl) (.cons rfl (.of_eq rfl) .nil))) (.box rfl (.cons (.of_eq rfl) .nil) .nil) rfl)))) ?_
    refine W.ret ?_
    obtain rfl := Option.some.inj h
    exact XQ.sub (σ' := ⟨[(0, .ptr 9000 0), (2, .v (Enc.int .i64) (0 : Int)), (3, .v Enc.bool false)], [(9000, .box 162 [.v (Enc.sl (Enc.int .u8)) x34] (some (A 9000)))]⟩) (Sw.Sub.mk id (.cons rfl (.of_eq rfl) (.cons rfl (.of_eq rfl) (.cons rfl (.of_eq rfl) .nil))) (.box rfl (.cons (.of_eq rfl) .nil) .nil) rfl) (XQ.retM2 hF rfl (RV.tmp rfl) (RV.tmp rfl) (.cons rfl .nil))
  intro s22 r33 h
  refine W.seq ?_
  refine W.seq ?_
  refine W.reg (σ' := ⟨[(0, .ptr 9000 0), (4, .v (Enc.int .i64) s22.1), (5, .v (Enc.int .i64) s22.2.1), (9, .v Enc.bool (cm .lss s22.2.1 (35 : Int)))], [(9000, .box 162 [.v (Enc.sl (Enc.int .u8)) s22.2.2] (some (A 9000)))]⟩) (J.cons (.none rfl) (JO.move rfl) rfl rfl (J.cons (.none rfl) (JO.cmp rfl rfl rfl) rfl rfl (J.fin (Sw.Sub.mk id (.cons rfl (.of_eq rfl) (.cons rfl (.of_eq rfl) (.cons rfl (.of_eq rfl) (.cons rfl (.of_eq rfl) .nil)))) (.box rfl (.cons (.of_eq rfl) .nil) .nil) rfl)))) ?_
  rcases Bool.eq_false_or_eq_true (cm .lss s22.2.1 (35 : Int)) with hc35 | hc35
  · replace h := cond_t hc35 h
    refine W.condT rfl hc35 ?_
    refine W.skip ?_
    refine W.seq ?_
    refine W.block ?_
    refine W.seq ?_
    obtain ⟨v36, hv36, h⟩ := bind_e h
    refine W.reg (σ' := ⟨[(0, .ptr 9000 0), (4, .v (Enc.int .i64) s22.1), (5, .v (Enc.int .i64) s22.2.1), (6, .v (Enc.int .u8) v36.1), (7, .v Enc.bool v36.2.1)], [(9000, .box 162 [.v (Enc.sl (Enc.int .u8)) v36.2.2] (some (A 9000)))]⟩) (J.cons (.none rfl) (JO.move rfl) rfl rfl (J.mut (.none rfl) (JM.callM (H := [9000]) (K := [9000]) (swp [(9000, 9000)]) (swp_inj _) (fun A => con_frame_taker_byte_io A hv36) Try.call94 (.cons (.dir rfl) .nil) (fun A => (.box rfl .nil)) (fun A => (.box rfl .nil rfl)) (fun _ => rfl) rfl rfl (fun _ => rfl) rfl rfl) (J.cons (.none rfl) (JO.move rfl) rfl rfl (J.cons (.none rfl) (JO.extract rfl rfl) rfl rfl (J.cons (.none rfl) (JO.extract rfl rfl) rfl rfl (J.cons (.none rfl) (JO.assign rfl) rfl rfl (J.cons (.none rfl) (JO.assign rfl) rfl rfl (J.fin (Sw.Sub.mk id (.cons rfl (.of_eq rfl) (.cons rfl (.of_eq rfl) (.cons rfl (.of_eq rfl) (.cons rfl (.of_eq rfl) (.cons rfl (.of_eq rfl) .nil))))) (.box rfl (.cons (.of_eq rfl) .nil) .nil) rfl))))))))) ?_
    refine W.seq ?_
    refine W.seq ?_
    refine W.reg (σ' := ⟨[(0, .ptr 9000 0), (4, .v (Enc.int .i64) s22.1), (5, .v (Enc.int .i64) s22.2.1), (6, .v (Enc.int .u8) v36.1), (18, .v Enc.bool (!v36.2.1))], [(9000, .box 162 [.v (Enc.sl (Enc.int .u8)) v36.2.2] (some (A 9000)))]⟩) (J.cons (.none rfl) (JO.move rfl) rfl rfl (J.cons (.none rfl) (JO.not rfl) rfl rfl (J.fin (Sw.Sub.mk id (.cons rfl (.of_eq rfl) (.cons rfl (.of_eq rfl) (.cons rfl (.of_eq rfl) (.cons rfl (.of_eq rfl) (.cons rfl (.of_eq rfl) .nil))))) (.box rfl (.cons (.of_eq rfl) .nil) .nil) rfl)))) ?_
    rcases Bool.eq_false_or_eq_true (!v36.2.1) with hc37 | hc37
    · replace h := cond_t hc37 h
      refine W.condT rfl hc37 ?_
      refine W.seq ?_
      refine W.reg (σ' := ⟨[(0, .ptr 9000 0), (2, .v (Enc.int .i64) (0 : Int)), (3, .v Enc.bool false)], [(9000, .box 162 [.v (Enc.sl (Enc.int .u8)) v36.2.2] (some (A 9000)))]⟩) (J.cons (.none rfl) (JO.assign rfl) rfl rfl (J.cons (.none rfl) (JO.assign rfl) rfl rfl (J.fin (Sw.Sub.mk id (.cons rfl (.of_eq rfl) (.cons rfl (.of_eq rfl) (.cons rfl (.of_eq rfl) .nil))) (.box rfl (.cons (.of_eq rfl) .nil) .nil) rfl)))) ?_
      refine W.ret ?_
      refine XQ.ret ?_
      obtain rfl := Option.some.inj h
      refine XQ.lret fun ho => ?_
      obtain rfl := hr33 _ ho
      exact XQ.sub (σ' := ⟨[(0, .ptr 9000 0), (2, .v (Enc.int .i64) (0 : Int)), (3, .v Enc.bool false)], [(9000, .box 162 [.v (Enc.sl (Enc.int .u8)) v36.2.2] (some (A 9000)))]⟩) (Sw.Sub.mk id (.cons rfl (.of_eq rfl) (.cons rfl (.of_eq rfl) (.cons rfl (.of_eq rfl) .nil))) (.box rfl (.cons (.of_eq rfl) .nil) .nil) rfl) (XQ.retM2 hF rfl (RV.tmp rfl) (RV.tmp rfl) (.cons rfl .nil))
    · replace h := cond_f hc37 h
      refine W.condF rfl hc37 ?_
      refine W.skip ?_
      refine W.seq ?_
      obtain ⟨u38, hu38, h⟩ := bind_e h
      refine W.reg (σ' := ⟨[(0, .ptr 9000 0), (4, .v (Enc.int .i64) (ar .or .i64 s22.1 (sh .shl .i64 (ar .and .u8 v36.1 (127 : Int)) s22.2.1))), (5, .v (Enc.int .i64) s22.2.1), (6, .v (Enc.int .u8) v36.1)], [(9000, .box 162 [.v (Enc.sl (Enc.int .u8)) v36.2.2] (some (A 9000)))]⟩) (J.cons (.none rfl) (JO.move rfl) rfl rfl (J.cons (.none rfl) (JO.move rfl) rfl rfl (J.cons (.none rfl) (JO.arith rfl rfl rfl) rfl rfl (J.cons (.none rfl) (JO.convUp Try.runUnderlying5 Try.runUnderlying3 rfl rfl) rfl rfl (J.cons (.none rfl) (JO.move rfl) rfl rfl (J.cons (.none rfl) (JO.shift (.inl rfl) (nn_some hu38) rfl rfl) rfl rfl (J.cons (.none rfl) (JO.arith rfl rfl rfl) rfl rfl (J.cons (.none rfl) (JO.assign rfl) rfl rfl (J.fin (Sw.Sub.mk id (.cons rfl (.of_eq rfl) (.cons rfl (.of_eq rfl) (.cons rfl (.of_eq rfl) (.cons rfl (.of_eq rfl) .nil)))) (.box rfl (.cons (.of_eq rfl) .nil) .nil) rfl)))))))))) ?_
      refine W.seq ?_
      refine W.reg (σ' := ⟨[(0, .ptr 9000 0), (4, .v (Enc.int .i64) (ar .or .i64 s22.1 (sh .shl .i64 (ar .and .u8 v36.1 (127 : Int)) s22.2.1))), (5, .v (Enc.int .i64) s22.2.1), (6, .v (Enc.int .u8) v36.1), (27, .v Enc.bool (cm .lss v36.1 (128 : Int)))], [(9000, .box 162 [.v (Enc.sl (Enc.int .u8)) v36.2.2] (some (A 9000)))]⟩) (J.cons (.none rfl) (JO.move rfl) rfl rfl (J.cons (.none rfl) (JO.cmp rfl rfl rfl) rfl rfl (J.fin (Sw.Sub.mk id (.cons rfl (.of_eq rfl) (.cons rfl (.of_eq rfl) (.cons rfl (.of_eq rfl) (.cons rfl (.of_eq rfl) (.cons rfl (.of_eq rfl) .nil))))) (.box rfl (.cons (.of_eq rfl) .nil) .nil) rfl)))) ?_
      rcases Bool.eq_false_or_eq_true (cm .lss v36.1 (128 : Int)) with hc39 | hc39
      · replace h := cond_t hc39 h
        refine W.condT rfl hc39 ?_
        refine W.seq ?_
        obtain ⟨x42, hx, h⟩ := bind_e h
        refine W.reg (σ' := ⟨[(0, .ptr 9000 0), (2, .v (Enc.int .i64) (ar .or .i64 s22.1 (sh .shl .i64 (ar .and .u8 v36.1 (127 : Int)) s22.2.1))), (3, .v Enc.bool x42)], [(9000, .box 162 [.v (Enc.sl (Enc.int .u8)) v36.2.2] (some (A 9000)))]⟩) ?_ ?_
        · rcases Bool.eq_false_or_eq_true (cm .leq (ar .or .i64 s22.1 (sh .shl .i64 (ar .and .u8 v36.1 (127 : Int)) s22.2.1)) (2147483647 : Int)) with hc43 | hc43
          · replace hx := cond_t hc43 hx
            rcases Bool.eq_false_or_eq_true (cm .gtr v36.1 (0 : Int)) with hc44 | hc44
            · replace hx := cond_t hc44 hx
              obtain rfl := Option.some.inj hx
              exact (J.cons (.none rfl) (JO.move rfl) rfl rfl (J.cons (.none rfl) (JO.move rfl) rfl rfl (J.cons (.none rfl) (JO.cmp rfl rfl rfl) rfl rfl (J.cons (.none rfl) (JO.move rfl) rfl rfl (J.cons (GK.met 31 rfl rfl rfl hc43) (JO.move rfl) rfl rfl (J.cons (GK.met 31 rfl rfl rfl hc43) (JO.cmp rfl rfl rfl) rfl rfl (J.cons (GK.met 31 rfl rfl rfl hc43) (JO.move rfl) rfl rfl (J.left (GK.unmet 34 rfl rfl rfl hc44) rfl (J.left (GK.unmet 34 rfl rfl rfl hc44) rfl (J.cons (GK.met 31 rfl rfl rfl hc43) (JO.pT hc44 rfl rfl) rfl rfl (J.cons (.none rfl) (JO.pT hc43 rfl rfl) rfl rfl (J.cons (.none rfl) (JO.assign rfl) rfl rfl (J.cons (.none rfl) (JO.assign rfl) rfl rfl (J.fin (Sw.Sub.mk id (.cons rfl (.of_eq rfl) (.cons rfl (.of_eq rfl) (.cons rfl (.of_eq rfl) .nil))) (.box rfl (.cons (.of_eq rfl) .nil) .nil) rfl)))))))))))))))
            · replace hx := cond_f hc44 hx
              obtain rfl := Option.some.inj hx
              exact (J.cons (.none rfl) (JO.move rfl) rfl rfl (J.cons (.none rfl) (JO.move rfl) rfl rfl (J.cons (.none rfl) (JO.cmp rfl rfl rfl) rfl rfl (J.cons (.none rfl) (JO.move rfl) rfl rfl (J.cons (GK.met 31 rfl rfl rfl hc43) (JO.move rfl) rfl rfl (J.cons (GK.met 31 rfl rfl rfl hc43) (JO.cmp rfl rfl rfl) rfl rfl (J.cons (GK.met 31 rfl rfl rfl hc43) (JO.move rfl) rfl rfl (J.cons (GK.met 34 rfl rfl rfl hc44) (JO.move rfl) rfl rfl (J.cons (GK.met 34 rfl rfl rfl hc44) (JO.cmp rfl rfl rfl) rfl rfl (J.cons (GK.met 31 rfl rfl rfl hc43) (JO.pF hc44 rfl rfl) rfl rfl (J.cons (.none rfl) (JO.pT hc43 rfl rfl) rfl rfl (J.cons (.none rfl) (JO.assign rfl) rfl rfl (J.cons (.none rfl) (JO.assign rfl) rfl rfl (J.fin (Sw.Sub.mk id (.cons rfl (.of_eq rfl) (.cons rfl (.of_eq rfl) (.cons rfl (.of_eq rfl) .nil))) (.box rfl (.cons (.of_eq rfl) .nil) .nil) rfl)))))))))))))))
          · replace hx := cond_f hc43 hx
            obtain rfl := Option.some.inj hx
            exact (J.cons (.none rfl) (JO.move rfl) rfl rfl (J.cons (.none rfl) (JO.move rfl) rfl rfl (J.cons (.none rfl) (JO.cmp rfl rfl rfl) rfl rfl (J.cons (.none rfl) (JO.move rfl) rfl rfl (J.left (GK.unmet 31 rfl rfl rfl hc43) rfl (J.left (GK.unmet 31 rfl rfl rfl hc43) rfl (J.left (GK.unmet 31 rfl rfl rfl hc43) rfl (J.left (GK.und 34 rfl rfl rfl) rfl (J.left (GK.und 34 rfl rfl rfl) rfl (J.left (GK.unmet 31 rfl rfl rfl hc43) rfl (J.cons (.none rfl) (JO.pF hc43 rfl rfl) rfl rfl (J.cons (.none rfl) (JO.assign rfl) rfl rfl (J.cons (.none rfl) (JO.assign rfl) rfl rfl (J.fin (Sw.Sub.mk id (.cons rfl (.of_eq rfl) (.cons rfl (.of_eq rfl) (.cons rfl (.of_eq rfl) .nil))) (.box rfl (.cons (.of_eq rfl) .nil) .nil) rfl)))))))))))))))
        refine W.ret ?_
        refine XQ.ret ?_
        obtain rfl := Option.some.inj h
        refine XQ.lret fun ho => ?_
        obtain rfl := hr33 _ ho
        exact XQ.sub (σ' := ⟨[(0, .ptr 9000 0), (2, .v (Enc.int .i64) (ar .or .i64 s22.1 (sh .shl .i64 (ar .and .u8 v36.1 (127 : Int)) s22.2.1))), (3, .v Enc.bool x42)], [(9000, .box 162 [.v (Enc.sl (Enc.int .u8)) v36.2.2] (some (A 9000)))]⟩) (Sw.Sub.mk id (.cons rfl (.of_eq rfl) (.cons rfl (.of_eq rfl) (.cons rfl (.of_eq rfl) .nil))) (.box rfl (.cons (.of_eq rfl) .nil) .nil) rfl) (XQ.retM2 hF rfl (RV.tmp rfl) (RV.tmp rfl) (.cons rfl .nil))
      · replace h := cond_f hc39 h
        refine W.condF rfl hc39 ?_
        refine W.skip ?_
        refine W.fall ?_
        refine W.reg (σ' := ⟨[(0, .ptr 9000 0), (4, .v (Enc.int .i64) (ar .or .i64 s22.1 (sh .shl .i64 (ar .and .u8 v36.1 (127 : Int)) s22.2.1))), (5, .v (Enc.int .i64) (ar .add .i64 s22.2.1 (7 : Int)))], [(9000, .box 162 [.v (Enc.sl (Enc.int .u8)) v36.2.2] (some (A 9000)))]⟩) (J.cons (.none rfl) (JO.move rfl) rfl rfl (J.cons (.none rfl) (JO.arith rfl rfl rfl) rfl rfl (J.cons (.none rfl) (JO.assign rfl) rfl rfl (J.fin (Sw.Sub.mk id (.cons rfl (.of_eq rfl) (.cons rfl (.of_eq rfl) (.cons rfl (.of_eq rfl) .nil))) (.box rfl (.cons (.of_eq rfl) .nil) .nil) rfl))))) ?_
        obtain rfl := Option.some.inj h
        exact W.next (Sw.Sub.mk id (.cons rfl (.of_eq rfl) (.cons rfl (.of_eq rfl) (.cons rfl (.of_eq rfl) .nil))) (.box rfl (.cons (.of_eq rfl) .nil) .nil) rfl)
  · replace h := cond_f hc35 h
    refine W.condF rfl hc35 ?_
    refine W.exit ?_
    obtain rfl := Option.some.inj h
    exact XQ.brk (Sw.Sub.mk id (.cons rfl (.of_eq rfl) .nil) (.box rfl (.cons (.of_eq rfl) .nil) .nil) rfl)
set_option maxRecDepth 100000 in
set_option maxHeartbeats 4000000 in
theorem con_slices_Chunk_byte_byte {a0 : (List Int)} {a1 : Int} {r : ((List Int) × Int)} (h : m_slices_Chunk_byte_byte a0 a1 = some r) :
    Con Try.prog 96 [.v (Enc.sl (Enc.int .u8)) a0, .v (Enc.int .i64) a1] (.fnc 139 [.pst (Enc.sl (Enc.int .u8)) r.1, .pst (Enc.int .i64) r.2]) [] := by
  refine Con.of Try.func96 rfl Try.ntmps96 rfl ?_
  intro S w hF
  unfold m_slices_Chunk_byte_byte at h
  refine W.seq ?_
  refine W.reg (σ' := ⟨[(2, .ptr 101 0), (3, .ptr 102 0)], [(101, .box 39 [.v (Enc.sl (Enc.int .u8)) a0]), (102, .box 3 [.v (Enc.int .i64) a1])]⟩) (J.cons (.none rfl) (JO.box 101 rfl (.one _ _) rfl) rfl rfl (J.cons (.none rfl) (JO.box 102 rfl (.one _ _) rfl) rfl rfl (J.cons (.none rfl) (JO.assignCst rfl) rfl rfl (J.fin (Sw.Sub.mk id (.cons rfl (.of_eq rfl) (.cons rfl (.of_eq rfl) .nil)) (.box rfl (.cons (.of_eq rfl) .nil) (.box rfl (.cons (.of_eq rfl) .nil) .nil)) rfl))))) ?_
  refine W.seq ?_
  refine W.seq ?_
  refine W.reg (σ' := ⟨[(2, .ptr 101 0), (3, .ptr 102 0), (6, .v Enc.bool (cm .lss a1 (1 : Int)))], [(101, .box 39 [.v (Enc.sl (Enc.int .u8)) a0]), (102, .box 3 [.v (Enc.int .i64) a1])]⟩) (J.cons (.none rfl) (JO.load rfl rfl rfl Try.isAgg3 Try.sizeOf3) rfl rfl (J.cons (.none rfl) (JO.cmp rfl rfl rfl) rfl rfl (J.fin (Sw.Sub.mk id (.cons rfl (.of_eq rfl) (.cons rfl (.of_eq rfl) (.cons rfl (.of_eq rfl) .nil))) (.box rfl (.cons (.of_eq rfl) .nil) (.box rfl (.cons (.of_eq rfl) .nil) .nil)) rfl)))) ?_
  obtain ⟨k2, hk2, h⟩ := jp_elim h
  refine W.jn (fun x3 : Unit => ⟨[(2, .ptr 101 0), (3, .ptr 102 0)], [(101, .box 39 [.v (Enc.sl (Enc.int .u8)) a0]), (102, .box 3 [.v (Enc.int .i64) a1])]⟩) (fun x => k2 x = some r) rfl ?_ ?_ ?_
  · intro x3 h
    rw [hk2] at h
    refine W.seq ?_
    refine W.reg (σ' := ⟨[(4, .fnc 139 [.ptr 101 0, .ptr 102 0])], [(101, .box 39 [.v (Enc.sl (Enc.int .u8)) a0]), (102, .box 3 [.v (Enc.int .i64) a1])]⟩) (J.cons (.none rfl) (JO.makeFunc (.cons (.dir rfl) (.cons (.dir rfl) .nil))) rfl rfl (J.cons (.none rfl) (JO.assign rfl) rfl rfl (J.fin (Sw.Sub.mk id (.cons rfl (.of_eq rfl) .nil) (.box rfl (.cons (.of_eq rfl) .nil) (.box rfl (.cons (.of_eq rfl) .nil) .nil)) rfl)))) ?_
    refine W.ret ?_
    obtain rfl := Option.some.inj h
    exact XQ.sub (σ' := ⟨[(4, .fnc 139 [.pst (Enc.sl (Enc.int .u8)) a0, .pst (Enc.int .i64) a1])], []⟩) (Sw.Sub.mk id (.cons rfl (.fnc (.cons (.frzP rfl rfl (.cons (.of_eq rfl) .nil) (.one _ _)) (.cons (.frzP rfl rfl (.cons (.of_eq rfl) .nil) (.one _ _)) .nil))) .nil) .nil rfl) (XQ.ret1 hF noR rfl (RV.tmp rfl) .nil rfl)
  · intro hc1
    replace h := cond_t hc1 h
    cases h
  · intro hc1
    replace h := cond_f hc1 h
    refine W.skip ?_
    exact W.jfall h (Sw.Sub.mk id (.cons rfl (.of_eq rfl) (.cons rfl (.of_eq rfl) .nil)) (.box rfl (.cons (.of_eq rfl) .nil) (.box rfl (.cons (.of_eq rfl) .nil) .nil)) rfl)
set_option maxRecDepth 100000 in
set_option maxHeartbeats 4000000 in
theorem it_139 {xs : List Int} {n : Int} (hn : 1 ≤ n) (hlen : (xs.length : Int) ≤ 4294967296) (hn2 : n ≤ 4294967296) :
    IterC Try.prog 139 [.pst (Enc.sl (Enc.int .u8)) xs, .pst (Enc.int .i64) n] ((chunks n.toNat xs).map fun c => [.v (Enc.sl (Enc.int .u8)) c]) := by
  refine IterC.of2 Try.func139 rfl Try.ntmps139 rfl ?_
  intro S w ρ l Jp Jx b off b' off' I hJ0 h1 h2
  refine W.seq ?_
  refine W.reg (σ' := ⟨[(0, .v (Enc.cst (.func (.yield l) #[] #[]) rfl) ()), (1, .v (Enc.cp b off (Enc.sl (Enc.int .u8))) xs), (2, .v (Enc.cp b' off' (Enc.int .i64)) n), (4, .v (Enc.int .i64) ((0 : Nat) * n))], []⟩) (J.cons (.none rfl) (JO.assign rfl) rfl rfl (J.fin (Sub.keepE (by rfl) (by exact (.cons rfl (.cons rfl (.cons rfl (.cons (by simp [lk, AS.put]) .nil)))))))) ?_
  refine W.block ?_
  refine W.iloop I (fun k => [(0, .v (Enc.cst (.func (.yield l) #[] #[]) rfl) ()), (1, .v (Enc.cp b off (Enc.sl (Enc.int .u8))) xs), (2, .v (Enc.cp b' off' (Enc.int .i64)) n), (4, .v (Enc.int .i64) ((k : Nat) * n))]) (fun k => (.cons (@Again.flat _ _ ⟨fun h => h⟩ _ _ _ _) (.cons h1 (.cons h2 (.cons .flat .nil))))) (fun _ _ h => h) hJ0 ?_
  intro k V hJ hk
  have hm : ((chunks n.toNat xs).map fun c => ([.v (Enc.sl (Enc.int .u8)) c] : List Slot)).length = (chunks n.toNat xs).length := List.length_map ..
  refine W.seq (W.seq ?_)
  refine W.reg (σ' := ⟨[(0, .v (Enc.cst (.func (.yield l) #[] #[]) rfl) ()), (1, .v (Enc.cp b off (Enc.sl (Enc.int .u8))) xs), (2, .v (Enc.cp b' off' (Enc.int .i64)) n), (4, .v (Enc.int .i64) (k * n)), (9, .v Enc.bool (cm .lss (k * n) xs.length))], []⟩) (J.cons (.none rfl) (JO.move rfl) rfl rfl (J.cons (.none rfl) (JO.loadCp rfl Try.isAgg39 Try.sizeOf39) rfl rfl (J.cons (.none rfl) (JO.len rfl Try.runUnderlying39) rfl rfl (J.cons (.none rfl) (JO.cmp rfl rfl rfl) rfl rfl (J.fin (Sub.keepE (by rfl) (by exact (.cons rfl (.cons rfl (.cons rfl (.cons rfl (.cons rfl .nil)))))))))))) ?_
  refine W.cond rfl (fun hc => ?_) (fun hc => ?_)
  · refine W.skip ?_
    have hlt : (k : Int) * n < xs.length := by simpa [cm] using hc
    obtain ⟨hklt, hs1, hs2, hs3, hadd⟩ := chunk_facts hn hn2 hlen hlt
    have hkm : k < (chunks n.toNat xs).length := (chunks_len (by omega) xs).2 hklt
    refine W.seq ?_
    refine W.block ?_
    refine W.seq ?_
    refine W.draw (σ' := ⟨[(0, .v (Enc.cst (.func (.yield l) #[] #[]) rfl) ()), (1, .v (Enc.cp b off (Enc.sl (Enc.int .u8))) xs), (2, .v (Enc.cp b' off' (Enc.int .i64)) n), (4, .v (Enc.int .i64) (k * n)), (5, .v (Enc.int .i64) (min n ((xs.drop (k * n.toNat)).length : Int)))], []⟩) (n := 7) mixed rfl rfl (by decide +kernel) (by decide +kernel) (.cons (.none rfl) (JO.loadCp rfl Try.isAgg3 Try.sizeOf3) rfl rfl (.cons (.none rfl) (JO.loadCp rfl Try.isAgg39 Try.sizeOf39) rfl rfl (.cons (.none rfl) (JO.move rfl) rfl rfl (.cons (.none rfl) (JO.slLo hs1 rfl rfl Try.runUnderlying39 Try.sizeOf5) rfl rfl (.cons (.none rfl) (JO.len rfl Try.runUnderlying39) rfl rfl (.cons (.none rfl) (JO.gmin rfl rfl) rfl rfl (.cons (.none rfl) (JO.assign rfl) rfl rfl .nil))))))) (J.fin (Sub.keepE (by rfl) (by exact (.cons rfl (.cons rfl (.cons rfl (.cons rfl (.cons rfl .nil)))))))) ?_
    refine W.seq ?_
    refine W.iyield (σ1 := ⟨[(19, .v (Enc.cst (.func (.yield l) #[] #[]) rfl) ()), (28, .v (Enc.sl (Enc.int .u8)) ((xs.drop (k * n.toNat)).take n.toNat)), (0, .v (Enc.cst (.func (.yield l) #[] #[]) rfl) ()), (1, .v (Enc.cp b off (Enc.sl (Enc.int .u8))) xs), (2, .v (Enc.cp b' off' (Enc.int .i64)) n), (4, .v (Enc.int .i64) (k * n))], []⟩) (g2 := [(0, .v (Enc.cst (.func (.yield l) #[] #[]) rfl) ()), (1, .v (Enc.cp b off (Enc.sl (Enc.int .u8))) xs), (2, .v (Enc.cp b' off' (Enc.int .i64)) n), (4, .v (Enc.int .i64) (k * n))]) (pre := [_, _, _, _, _, _, _, _, _, _]) I hJ (item := [.v (Enc.sl (Enc.int .u8)) ((xs.drop (k * n.toNat)).take n.toNat)]) (by rw [List.getElem?_map, chunks_get (by omega) hklt]; rfl)
      (J.cons (.none rfl) (JO.move rfl) rfl rfl (J.cons (.none rfl) (JO.loadCp rfl Try.isAgg39 Try.sizeOf39) rfl rfl (J.cons (.none rfl) (JO.move rfl) rfl rfl (J.cons (.none rfl) (JO.move rfl) rfl rfl (J.cons (.none rfl) (JO.move rfl) rfl rfl (J.cons (.none rfl) (JO.arith rfl rfl rfl) rfl rfl (J.cons (.none rfl) (JO.move rfl) rfl rfl (J.cons (.none rfl) (JO.move rfl) rfl rfl (J.cons (.none rfl) (JO.arith rfl rfl rfl) rfl rfl (J.cons (.none rfl) (JO.sl3 hs2 hs3 rfl rfl rfl rfl Try.runUnderlying39 Try.sizeOf5) rfl rfl (J.fin (Sub.keepE (by rfl) (by exact (.cons rfl (.cons rfl (.cons rfl (.cons rfl (.cons rfl (.cons rfl .nil)))))))))))))))))))
      rfl (.cons (.dir rfl) .nil) rfl rfl rfl rfl (.cons (@Again.flat _ _ ⟨fun h => h⟩ _ _ _ _) (.cons h1 (.cons h2 (.cons .flat .nil)))) (.cons rfl (.cons rfl (.cons rfl (.cons rfl .nil)))) (fun V' hJ' => ?_) (fun V' hJx => ?_)
    · refine W.condF rfl rfl (W.skip (W.fall ?_))
      refine W.reg (σ' := ⟨[(0, .v (Enc.cst (.func (.yield l) #[] #[]) rfl) ()), (1, .v (Enc.cp b off (Enc.sl (Enc.int .u8))) xs), (2, .v (Enc.cp b' off' (Enc.int .i64)) n), (4, .v (Enc.int .i64) (ar .add .i64 (k * n) n))], []⟩) (J.cons (.none rfl) (JO.move rfl) rfl rfl (J.cons (.none rfl) (JO.loadCp rfl Try.isAgg3 Try.sizeOf3) rfl rfl (J.cons (.none rfl) (JO.arith rfl rfl rfl) rfl rfl (J.cons (.none rfl) (JO.assign rfl) rfl rfl (J.fin (Sub.keepE (by rfl) (by exact (.cons rfl (.cons rfl (.cons rfl (.cons rfl .nil))))))))))) ?_
      exact W.inext I hJ' (by rw [hm]; exact hkm) (by rw [hadd]; exact fun _ _ h => h)
    · refine W.condT rfl rfl (W.ret (W.istop (fn := Try.f139) I rfl hJx fun a V' h => h))
  · refine W.exit (W.iend (fn := Try.f139) I rfl hJ ?_ (fun a V' h => ?_))
    · have hge : ¬ (k : Int) * n < xs.length := by simpa [cm] using hc
      have hkn : ((k : Int) * n) = ((k * n.toNat : Nat) : Int) := by push_cast; rw [Int.toNat_of_nonneg (by omega)]
      have : ¬ k * n.toNat < xs.length := fun h => hge (by rw [hkn]; exact_mod_cast h)
      rw [hm] at hk ⊢
      have := mt (chunks_len (n := n.toNat) (by omega) xs (k := k)).1 this
      omega
    · simp only [Exit.inBlock, if_true]; exact h

set_option maxRecDepth 100000 in
set_option maxHeartbeats 4000000 in
theorem con_frame_Unpack {a0 : (List Int)} {r : (Int × (List Int) × (List Blk)) × (Option Int)} (h : m_frame_Unpack a0 = some r) :
    Con Try.prog 46 [.v (Enc.sl (Enc.int .u8)) a0] (.tup [.agg [.v (Enc.int .i64) r.1.1, .ref 0, .ref 1], .v (Enc.err ET) r.2]) [(0, .arr 3 (Enc.int .i64) r.1.2.1), (1, .arr 56 eBlk r.1.2.2)] := by
  refine Con.of Try.func46 rfl Try.ntmps46 rfl ?_
  intro S w hF
  unfold m_frame_Unpack at h
  refine W.seq ?_
  refine W.reg (σ' := ⟨[(0, .v (Enc.sl (Enc.int .u8)) a0), (2, .ptr 101 0), (3, .v (Enc.err ET) (none : Option Int))], [(101, .box 28 [.v (Enc.int .i64) (0 : Int), .ref 103, .ref 102]), (103, .arr 3 (Enc.int .i64) ([] : (List Int))), (102, .arr 56 eBlk ([] : (List Blk)))]⟩) (J.cons (.none rfl) (JO.allocN (new := [(103, .arr 3 (Enc.int .i64) ([] : (List Int))), (102, .arr 56 eBlk ([] : (List Blk)))]) 101 Try.zeroValue28 rfl (.cons (Z.int .i64) (.ref 103 rfl (.ref 102 rfl .nil))) (.cons (.cons .nil)) rfl rfl) rfl rfl (J.cons (.none rfl) (JO.assignNilE ET) rfl rfl (J.fin (Sw.Sub.mk id (.cons rfl (.of_eq rfl) (.cons rfl (.of_eq rfl) (.cons rfl (.of_eq rfl) .nil))) (.box rfl (.cons (.of_eq rfl) (.cons (.of_eq rfl) (.cons (.of_eq rfl) .nil))) (.arr rfl (.arr rfl .nil))) rfl)))) ?_
  refine W.seq ?_
  refine W.seq ?_
  refine W.reg (σ' := ⟨[(0, .v (Enc.sl (Enc.int .u8)) a0), (2, .ptr 101 0), (3, .v (Enc.err ET) (none : Option Int)), (17, .v Enc.bool (cm .lss (a0.length : Int) (6 : Int)))], [(101, .box 28 [.v (Enc.int .i64) (0 : Int), .ref 103, .ref 102]), (103, .arr 3 (Enc.int .i64) ([] : (List Int))), (102, .arr 56 eBlk ([] : (List Blk)))]⟩) (J.cons (.none rfl) (JO.move rfl) rfl rfl (J.cons (.none rfl) (JO.len rfl Try.runUnderlying39) rfl rfl (J.cons (.none rfl) (JO.cmp rfl rfl rfl) rfl rfl (J.fin (Sw.Sub.mk id (.cons rfl (.of_eq rfl) (.cons rfl (.of_eq rfl) (.cons rfl (.of_eq rfl) (.cons rfl (.of_eq rfl) .nil)))) (.box rfl (.cons (.of_eq rfl) (.cons (.of_eq rfl) (.cons (.of_eq rfl) .nil))) (.arr rfl (.arr rfl .nil))) rfl))))) ?_
  rcases Bool.eq_false_or_eq_true (cm .lss (a0.length : Int) (6 : Int)) with hc1 | hc1
  · replace h := cond_t hc1 h
    refine W.condT rfl hc1 ?_
    refine W.seq ?_
    refine W.reg (σ' := ⟨[(2, .ptr 101 0), (3, .v (Enc.err ET) (some (3 : Int)))], [(101, .box 28 [.v (Enc.int .i64) (0 : Int), .ref 105, .ref 104]), (105, .arr 3 (Enc.int .i64) ([] : (List Int))), (104, .arr 56 eBlk ([] : (List Blk)))]⟩) (J.cons (.none rfl) (JO.buildN (new := [(105, .arr 3 (Enc.int .i64) ([] : (List Int))), (104, .arr 56 eBlk ([] : (List Blk)))]) built28 (.cons (Z.int .i64) (.ref 105 rfl (.ref 104 rfl .nil))) (.cons (.cons .nil)) rfl .nil) rfl rfl (J.cons (.none rfl) (JO.mkErr Try.runUnderlying29 rfl) rfl rfl (J.mut (.none rfl) (JM.storeAgg rfl rfl rfl rfl rfl rfl Try.sizeOf28) (J.cons (.none rfl) (JO.assign rfl) rfl rfl (J.fin (Sw.Sub.mk id (.cons rfl (.of_eq rfl) (.cons rfl (.of_eq rfl) .nil)) (.box rfl (.cons (.of_eq rfl) (.cons (.of_eq rfl) (.cons (.of_eq rfl) .nil))) (.arr rfl (.arr rfl .nil))) rfl)))))) ?_
    refine W.ret ?_
    obtain rfl := Option.some.inj h
    exact XQ.sub (σ' := ⟨[(2, .ptr 90 0), (3, .v (Enc.err ET) (some (3 : Int)))], [(90, .box 28 [.v (Enc.int .i64) (0 : Int), .ref 0, .ref 1]), (1, .arr 56 eBlk ([] : (List Blk))), (0, .arr 3 (Enc.int .i64) ([] : (List Int)))]⟩) (Sw.Sub.mk (rn [(90, 101), (1, 104), (0, 105)]) (.cons rfl (.of_eq rfl) (.cons rfl (.of_eq rfl) .nil)) (.box rfl (.cons (.of_eq rfl) (.cons (.of_eq rfl) (.cons (.of_eq rfl) .nil))) (.arr rfl (.arr rfl .nil))) rfl) (XQ.ret2 hF noR rfl (RV.cellAgg rfl rfl rfl Try.isAgg28 Try.sizeOf28) (RV.tmp rfl) (.cons rfl (.cons rfl .nil)) rfl)
  · replace h := cond_f hc1 h
    refine W.condF rfl hc1 ?_
    refine W.skip ?_
    refine W.seq ?_
    obtain ⟨v2, hv2, h⟩ := bind_e h
    refine W.reg (σ' := ⟨[(0, .v (Enc.sl (Enc.int .u8)) a0), (2, .ptr 101 0), (3, .v (Enc.err ET) (none : Option Int)), (4, .v (Enc.sl (Enc.int .u8)) v2)], [(101, .box 28 [.v (Enc.int .i64) (0 : Int), .ref 103, .ref 102]), (103, .arr 3 (Enc.int .i64) ([] : (List Int))), (102, .arr 56 eBlk ([] : (List Blk)))]⟩) (J.cons (.none rfl) (JO.move rfl) rfl rfl (J.cons (.none rfl) (JO.move rfl) rfl rfl (J.cons (.none rfl) (JO.len rfl Try.runUnderlying39) rfl rfl (J.cons (.none rfl) (JO.arith rfl rfl rfl) rfl rfl (J.cons (.none rfl) (JO.slHi hv2 rfl rfl Try.runUnderlying39 Try.sizeOf5) rfl rfl (J.cons (.none rfl) (JO.assign rfl) rfl rfl (J.fin (Sw.Sub.mk id (.cons rfl (.of_eq rfl) (.cons rfl (.of_eq rfl) (.cons rfl (.of_eq rfl) (.cons rfl (.of_eq rfl) .nil)))) (.box rfl (.cons (.of_eq rfl) (.cons (.of_eq rfl) (.cons (.of_eq rfl) .nil))) (.arr rfl (.arr rfl .nil))) rfl)))))))) ?_
    refine W.seq ?_
    obtain ⟨v3, hv3, h⟩ := bind_e h
    refine W.reg (σ' := ⟨[(0, .v (Enc.sl (Enc.int .u8)) a0), (2, .ptr 101 0), (3, .v (Enc.err ET) (none : Option Int)), (4, .v (Enc.sl (Enc.int .u8)) v2), (5, .v (Enc.int .u32) v3)], [(101, .box 28 [.v (Enc.int .i64) (0 : Int), .ref 103, .ref 102]), (103, .arr 3 (Enc.int .i64) ([] : (List Int))), (102, .arr 56 eBlk ([] : (List Blk)))]⟩) (J.cons (.none rfl) (JO.move rfl) rfl rfl (J.cons (.none rfl) (JO.call0 (con_frame_Sum hv3) Try.call93 (.cons (.dir rfl) .nil)) rfl rfl (J.cons (.none rfl) (JO.assign rfl) rfl rfl (J.fin (Sw.Sub.mk id (.cons rfl (.of_eq rfl) (.cons rfl (.of_eq rfl) (.cons rfl (.of_eq rfl) (.cons rfl (.of_eq rfl) (.cons rfl (.of_eq rfl) .nil))))) (.box rfl (.cons (.of_eq rfl) (.cons (.of_eq rfl) (.cons (.of_eq rfl) .nil))) (.arr rfl (.arr rfl .nil))) rfl))))) ?_
    refine W.seq ?_
    refine W.seq ?_
    obtain ⟨v4, hv4, h⟩ := bind_e h
    obtain ⟨z5, hz5, h⟩ := bind_e h
    refine W.reg (σ' := ⟨[(2, .ptr 101 0), (3, .v (Enc.err ET) (none : Option Int)), (4, .v (Enc.sl (Enc.int .u8)) v2), (45, .v Enc.bool (!decide (z5 = ([(IntKind.wrap .u8 (sh .shr .u32 v3 (24 : Int))), (IntKind.wrap .u8 (sh .shr .u32 v3 (16 : Int))), (IntKind.wrap .u8 (sh .shr .u32 v3 (8 : Int))), (IntKind.wrap .u8 v3)] : (List Int)))))], [(101, .box 28 [.v (Enc.int .i64) (0 : Int), .ref 103, .ref 102]), (103, .arr 3 (Enc.int .i64) ([] : (List Int))), (102, .arr 56 eBlk ([] : (List Blk)))]⟩) (J.cons (.none rfl) (JO.move rfl) rfl rfl (J.cons (.none rfl) (JO.move rfl) rfl rfl (J.cons (.none rfl) (JO.len rfl Try.runUnderlying39) rfl rfl (J.cons (.none rfl) (JO.slLo hv4 rfl rfl Try.runUnderlying39 Try.sizeOf5) rfl rfl (J.cons (.none rfl) (JO.arrPtr hz5 rfl Try.runUnderlying159) rfl rfl (J.cons (.none rfl) (JO.loadPst rfl Try.isAgg159 Try.sizeOf159) rfl rfl (J.cons (.none rfl) (JO.move rfl) rfl rfl (J.cons (.none rfl) (JO.shift (.inr rfl) (by decide) rfl rfl) rfl rfl (J.cons (.none rfl) (JO.conv Try.runUnderlying157 Try.runUnderlying5 rfl) rfl rfl (J.cons (.none rfl) (JO.move rfl) rfl rfl (J.cons (.none rfl) (JO.shift (.inr rfl) (by decide) rfl rfl) rfl rfl (J.cons (.none rfl) (JO.conv Try.runUnderlying157 Try.runUnderlying5 rfl) rfl rfl (J.cons (.none rfl) (JO.move rfl) rfl rfl (J.cons (.none rfl) (JO.shift (.inr rfl) (by decide) rfl rfl) rfl rfl (J.cons (.none rfl) (JO.conv Try.runUnderlying157 Try.runUnderlying5 rfl) rfl rfl (J.cons (.none rfl) (JO.move rfl) rfl rfl (J.cons (.none rfl) (JO.conv Try.runUnderlying157 Try.runUnderlying5 rfl) rfl rfl (J.cons (.none rfl) (JO.litArr (e := (Enc.int .u8)) Try.typeInfo159 Try.runUnderlying159 Try.typeInfo5 rfl rfl rfl rfl rfl (.cons (.dir rfl) (.cons (.dir rfl) (.cons (.dir rfl) (.cons (.dir rfl) .nil))))) rfl rfl (J.cons (.none rfl) (JO.neV eq159 rfl rfl Try.eqGuardType159 rfl rfl) rfl rfl (J.fin (Sw.Sub.mk id (.cons rfl (.of_eq rfl) (.cons rfl (.of_eq rfl) (.cons rfl (.of_eq rfl) (.cons rfl (.of_eq rfl) .nil)))) (.box rfl (.cons (.of_eq rfl) (.cons (.of_eq rfl) (.cons (.of_eq rfl) .nil))) (.arr rfl (.arr rfl .nil))) rfl))))))))))))))))))))) ?_
    rcases Bool.eq_false_or_eq_true (!decide (z5 = ([(IntKind.wrap .u8 (sh .shr .u32 v3 (24 : Int))), (IntKind.wrap .u8 (sh .shr .u32 v3 (16 : Int))), (IntKind.wrap .u8 (sh .shr .u32 v3 (8 : Int))), (IntKind.wrap .u8 v3)] : (List Int)))) with hc6 | hc6
    · replace h := cond_t hc6 h
      refine W.condT rfl hc6 ?_
      refine W.seq ?_
      refine W.reg (σ' := ⟨[(2, .ptr 101 0), (3, .v (Enc.err ET) (some (3 : Int)))], [(101, .box 28 [.v (Enc.int .i64) (0 : Int), .ref 108, .ref 107]), (108, .arr 3 (Enc.int .i64) ([] : (List Int))), (107, .arr 56 eBlk ([] : (List Blk)))]⟩) (J.cons (.none rfl) (JO.buildN (new := [(108, .arr 3 (Enc.int .i64) ([] : (List Int))), (107, .arr 56 eBlk ([] : (List Blk)))]) built28 (.cons (Z.int .i64) (.ref 108 rfl (.ref 107 rfl .nil))) (.cons (.cons .nil)) rfl .nil) rfl rfl (J.cons (.none rfl) (JO.mkErr Try.runUnderlying29 rfl) rfl rfl (J.mut (.none rfl) (JM.storeAgg rfl rfl rfl rfl rfl rfl Try.sizeOf28) (J.cons (.none rfl) (JO.assign rfl) rfl rfl (J.fin (Sw.Sub.mk id (.cons rfl (.of_eq rfl) (.cons rfl (.of_eq rfl) .nil)) (.box rfl (.cons (.of_eq rfl) (.cons (.of_eq rfl) (.cons (.of_eq rfl) .nil))) (.arr rfl (.arr rfl .nil))) rfl)))))) ?_
      refine W.ret ?_
      obtain rfl := Option.some.inj h
      exact XQ.sub (σ' := ⟨[(2, .ptr 90 0), (3, .v (Enc.err ET) (some (3 : Int)))], [(90, .box 28 [.v (Enc.int .i64) (0 : Int), .ref 0, .ref 1]), (1, .arr 56 eBlk ([] : (List Blk))), (0, .arr 3 (Enc.int .i64) ([] : (List Int)))]⟩) (Sw.Sub.mk (rn [(90, 101), (1, 107), (0, 108)]) (.cons rfl (.of_eq rfl) (.cons rfl (.of_eq rfl) .nil)) (.box rfl (.cons (.of_eq rfl) (.cons (.of_eq rfl) (.cons (.of_eq rfl) .nil))) (.arr rfl (.arr rfl .nil))) rfl) (XQ.ret2 hF noR rfl (RV.cellAgg rfl rfl rfl Try.isAgg28 Try.sizeOf28) (RV.tmp rfl) (.cons rfl (.cons rfl .nil)) rfl)
    · replace h := cond_f hc6 h
      refine W.condF rfl hc6 ?_
      refine W.skip ?_
      refine W.seq ?_
      refine W.reg (σ' := ⟨[(2, .ptr 101 0), (3, .v (Enc.err ET) (none : Option Int)), (6, .ptr 109 0)], [(101, .box 28 [.v (Enc.int .i64) (0 : Int), .ref 103, .ref 102]), (109, .box 162 [.v (Enc.sl (Enc.int .u8)) v2]), (103, .arr 3 (Enc.int .i64) ([] : (List Int))), (102, .arr 56 eBlk ([] : (List Blk)))]⟩) (J.cons (.none rfl) (JO.move rfl) rfl rfl (J.cons (.none rfl) (JO.build built162 (.cons (Z.sl (Enc.int .u8)) .nil) (.cons rfl (.dir rfl) rfl rfl rfl rfl .nil)) rfl rfl (J.cons (.none rfl) (JO.boxAgg 109 rfl rfl) rfl rfl (J.cons (.none rfl) (JO.assign rfl) rfl rfl (J.fin (Sw.Sub.mk id (.cons rfl (.of_eq rfl) (.cons rfl (.of_eq rfl) (.cons rfl (.of_eq rfl) .nil))) (.box rfl (.cons (.of_eq rfl) (.cons (.of_eq rfl) (.cons (.of_eq rfl) .nil))) (.box rfl (.cons (.of_eq rfl) .nil) (.arr rfl (.arr rfl .nil)))) rfl)))))) ?_
      refine W.seq ?_
      obtain ⟨v7, hv7, h⟩ := bind_e h
      refine W.reg (σ' := ⟨[(2, .ptr 101 0), (3, .v (Enc.err ET) (none : Option Int)), (6, .ptr 109 0), (7, .v (Enc.int .u8) v7.1)], [(101, .box 28 [.v (Enc.int .i64) (0 : Int), .ref 103, .ref 102]), (109, .box 162 [.v (Enc.sl (Enc.int .u8)) v7.2.2]), (103, .arr 3 (Enc.int .i64) ([] : (List Int))), (102, .arr 56 eBlk ([] : (List Blk)))]⟩) (J.cons (.none rfl) (JO.move rfl) rfl rfl (J.mut (.none rfl) (JM.callM (H := [109]) (K := [109]) (swp [(9000, 109)]) (swp_inj _) (fun A => con_frame_taker_byte_io A hv7) Try.call94 (.cons (.dir rfl) .nil) (fun A => (.box rfl .nil)) (fun A => (.box rfl .nil rfl)) (fun _ => rfl) rfl rfl (fun _ => rfl) rfl rfl) (J.cons (.none rfl) (JO.move rfl) rfl rfl (J.cons (.none rfl) (JO.extract rfl rfl) rfl rfl (J.cons (.none rfl) (JO.extract rfl rfl) rfl rfl (J.cons (.none rfl) (JO.assign rfl) rfl rfl (J.cons (.none rfl) (JO.assign rfl) rfl rfl (J.fin (Sw.Sub.mk id (.cons rfl (.of_eq rfl) (.cons rfl (.of_eq rfl) (.cons rfl (.of_eq rfl) (.cons rfl (.of_eq rfl) .nil)))) (.box rfl (.cons (.of_eq rfl) (.cons (.of_eq rfl) (.cons (.of_eq rfl) .nil))) (.box rfl (.cons (.of_eq rfl) .nil) (.arr rfl (.arr rfl .nil)))) rfl))))))))) ?_
      refine W.seq ?_
      obtain ⟨v8, hv8, h⟩ := bind_e h
      refine W.reg (σ' := ⟨[(2, .ptr 101 0), (3, .v (Enc.err ET) (none : Option Int)), (6, .ptr 109 0), (7, .v (Enc.int .u8) v7.1), (9, .v (Enc.int .u8) v8.1)], [(101, .box 28 [.v (Enc.int .i64) (0 : Int), .ref 103, .ref 102]), (109, .box 162 [.v (Enc.sl (Enc.int .u8)) v8.2.2]), (103, .arr 3 (Enc.int .i64) ([] : (List Int))), (102, .arr 56 eBlk ([] : (List Blk)))]⟩) (J.cons (.none rfl) (JO.move rfl) rfl rfl (J.mut (.none rfl) (JM.callM (H := [109]) (K := [109]) (swp [(9000, 109)]) (swp_inj _) (fun A => con_frame_taker_byte_io A hv8) Try.call94 (.cons (.dir rfl) .nil) (fun A => (.box rfl .nil)) (fun A => (.box rfl .nil rfl)) (fun _ => rfl) rfl rfl (fun _ => rfl) rfl rfl) (J.cons (.none rfl) (JO.move rfl) rfl rfl (J.cons (.none rfl) (JO.extract rfl rfl) rfl rfl (J.cons (.none rfl) (JO.extract rfl rfl) rfl rfl (J.cons (.none rfl) (JO.assign rfl) rfl rfl (J.cons (.none rfl) (JO.assign rfl) rfl rfl (J.fin (Sw.Sub.mk id (.cons rfl (.of_eq rfl) (.cons rfl (.of_eq rfl) (.cons rfl (.of_eq rfl) (.cons rfl (.of_eq rfl) (.cons rfl (.of_eq rfl) .nil))))) (.box rfl (.cons (.of_eq rfl) (.cons (.of_eq rfl) (.cons (.of_eq rfl) .nil))) (.box rfl (.cons (.of_eq rfl) .nil) (.arr rfl (.arr rfl .nil)))) rfl))))))))) ?_
      refine W.seq ?_
      refine W.reg (σ' := ⟨[(2, .ptr 101 0), (3, .v (Enc.err ET) (none : Option Int)), (6, .ptr 109 0), (7, .v (Enc.int .u8) v7.1), (9, .v (Enc.int .u8) v8.1), (11, .ptr 112 0)], [(101, .box 28 [.v (Enc.int .i64) (0 : Int), .ref 103, .ref 102]), (109, .box 162 [.v (Enc.sl (Enc.int .u8)) v8.2.2]), (112, .box 28 [.v (Enc.int .i64) (sh .shr .u8 v7.1 (4 : Int)), .ref 111, .ref 110]), (103, .arr 3 (Enc.int .i64) ([] : (List Int))), (102, .arr 56 eBlk ([] : (List Blk))), (111, .arr 3 (Enc.int .i64) ([] : (List Int))), (110, .arr 56 eBlk ([] : (List Blk)))]⟩) (J.cons (.none rfl) (JO.move rfl) rfl rfl (J.cons (.none rfl) (JO.shift (.inr rfl) (by decide) rfl rfl) rfl rfl (J.cons (.none rfl) (JO.convUp Try.runUnderlying5 Try.runUnderlying3 rfl rfl) rfl rfl (J.cons (.none rfl) (JO.buildN (new := [(111, .arr 3 (Enc.int .i64) ([] : (List Int))), (110, .arr 56 eBlk ([] : (List Blk)))]) built28 (.cons (Z.int .i64) (.ref 111 rfl (.ref 110 rfl .nil))) (.cons (.cons .nil)) rfl (.cons rfl (.dir rfl) rfl rfl rfl rfl .nil)) rfl rfl (J.cons (.none rfl) (JO.allocN (new := [(114, .arr 3 (Enc.int .i64) ([] : (List Int))), (113, .arr 56 eBlk ([] : (List Blk)))]) 112 Try.zeroValue28 rfl (.cons (Z.int .i64) (.ref 114 rfl (.ref 113 rfl .nil))) (.cons (.cons .nil)) rfl rfl) rfl rfl (J.mut (.none rfl) (JM.storeAgg rfl rfl rfl rfl rfl rfl Try.sizeOf28) (J.fin (Sw.Sub.mk id (.cons rfl (.of_eq rfl) (.cons rfl (.of_eq rfl) (.cons rfl (.of_eq rfl) (.cons rfl (.of_eq rfl) (.cons rfl (.of_eq rfl) (.cons rfl (.of_eq rfl) .nil)))))) (.box rfl (.cons (.of_eq rfl) (.cons (.of_eq rfl) (.cons (.of_eq rfl) .nil))) (.box rfl (.cons (.of_eq rfl) .nil) (.box rfl (.cons (.of_eq rfl) (.cons (.of_eq rfl) (.cons (.of_eq rfl) .nil))) (.arr rfl (.arr rfl (.arr rfl (.arr rfl .nil))))))) rfl)))))))) ?_
      refine W.seq ?_
      refine W.seq ?_
      refine W.reg (σ' := ⟨[(2, .ptr 101 0), (3, .v (Enc.err ET) (none : Option Int)), (6, .ptr 109 0), (9, .v (Enc.int .u8) v8.1), (11, .ptr 112 0), (66, .v (Enc.int .u8) (ar .and .u8 v7.1 (15 : Int))), (67, .v (Enc.int .u8) (0 : Int))], [(101, .box 28 [.v (Enc.int .i64) (0 : Int), .ref 103, .ref 102]), (109, .box 162 [.v (Enc.sl (Enc.int .u8)) v8.2.2]), (112, .box 28 [.v (Enc.int .i64) (sh .shr .u8 v7.1 (4 : Int)), .ref 111, .ref 110]), (103, .arr 3 (Enc.int .i64) ([] : (List Int))), (102, .arr 56 eBlk ([] : (List Blk))), (111, .arr 3 (Enc.int .i64) ([] : (List Int))), (110, .arr 56 eBlk ([] : (List Blk)))]⟩) (J.cons (.none rfl) (JO.move rfl) rfl rfl (J.cons (.none rfl) (JO.arith rfl rfl rfl) rfl rfl (J.cons (.none rfl) (JO.move rfl) rfl rfl (J.fin (Sw.Sub.mk id (.cons rfl (.of_eq rfl) (.cons rfl (.of_eq rfl) (.cons rfl (.of_eq rfl) (.cons rfl (.of_eq rfl) (.cons rfl (.of_eq rfl) (.cons rfl (.of_eq rfl) (.cons rfl (.of_eq rfl) .nil))))))) (.box rfl (.cons (.of_eq rfl) (.cons (.of_eq rfl) (.cons (.of_eq rfl) .nil))) (.box rfl (.cons (.of_eq rfl) .nil) (.box rfl (.cons (.of_eq rfl) (.cons (.of_eq rfl) (.cons (.of_eq rfl) .nil))) (.arr rfl (.arr rfl (.arr rfl (.arr rfl .nil))))))) rfl))))) ?_
      obtain ⟨o24, ho24, hb24, hr24⟩ := lp_elim h
      refine W.lp (σs := fun s19 : Int × (List Int) × (List Int) => ⟨[(2, .ptr 101 0), (3, .v (Enc.err ET) (none : Option Int)), (6, .ptr 109 0), (9, .v (Enc.int .u8) v8.1), (11, .ptr 112 0), (66, .v (Enc.int .u8) (ar .and .u8 v7.1 (15 : Int))), (67, .v (Enc.int .u8) s19.1)], [(101, .box 28 [.v (Enc.int .i64) (0 : Int), .ref 103, .ref 102]), (109, .box 162 [.v (Enc.sl (Enc.int .u8)) s19.2.1]), (112, .box 28 [.v (Enc.int .i64) (sh .shr .u8 v7.1 (4 : Int)), .ref 124, .ref 110]), (103, .arr 3 (Enc.int .i64) ([] : (List Int))), (102, .arr 56 eBlk ([] : (List Blk))), (124, .arr 3 (Enc.int .i64) s19.2.2), (110, .arr 56 eBlk ([] : (List Blk)))]⟩) (fun x25 : (List Int) × (List Int) => ⟨[(2, .ptr 101 0), (3, .v (Enc.err ET) (none : Option Int)), (6, .ptr 109 0), (9, .v (Enc.int .u8) v8.1), (11, .ptr 112 0)], [(101, .box 28 [.v (Enc.int .i64) (0 : Int), .ref 103, .ref 102]), (109, .box 162 [.v (Enc.sl (Enc.int .u8)) x25.1]), (112, .box 28 [.v (Enc.int .i64) (sh .shr .u8 v7.1 (4 : Int)), .ref 124, .ref 110]), (103, .arr 3 (Enc.int .i64) ([] : (List Int))), (102, .arr 56 eBlk ([] : (List Blk))), (124, .arr 3 (Enc.int .i64) x25.2), (110, .arr 56 eBlk ([] : (List Blk)))]⟩) ho24 (Sw.Sub.mk (rn [(101, 101), (109, 109), (112, 112), (102, 102), (103, 103), (110, 110), (124, 111)]) (.cons rfl (.of_eq rfl) (.cons rfl (.of_eq rfl) (.cons rfl (.of_eq rfl) (.cons rfl (.of_eq rfl) (.cons rfl (.of_eq rfl) (.cons rfl (.of_eq rfl) (.cons rfl (.of_eq rfl) .nil))))))) (.box rfl (.cons (.of_eq rfl) (.cons (.of_eq rfl) (.cons (.of_eq rfl) .nil))) (.box rfl (.cons (.of_eq rfl) .nil) (.box rfl (.cons (.of_eq rfl) (.cons (.of_eq rfl) (.cons (.of_eq rfl) .nil))) (.arr rfl (.arr rfl (.arr rfl (.arr rfl .nil))))))) rfl) ?_ ?_
      · intro x25 hy
        have h := hb24 _ hy
        refine W.seq ?_
        refine W.seq ?_
        obtain ⟨x32, hx, h⟩ := bind_e h
        refine W.reg (σ' := ⟨[(2, .ptr 101 0), (3, .v (Enc.err ET) (none : Option Int)), (6, .ptr 109 0), (11, .ptr 112 0), (104, .v Enc.bool x32)], [(101, .box 28 [.v (Enc.int .i64) (0 : Int), .ref 103, .ref 102]), (109, .box 162 [.v (Enc.sl (Enc.int .u8)) x25.1]), (112, .box 28 [.v (Enc.int .i64) (sh .shr .u8 v7.1 (4 : Int)), .ref 124, .ref 110]), (103, .arr 3 (Enc.int .i64) ([] : (List Int))), (102, .arr 56 eBlk ([] : (List Blk))), (124, .arr 3 (Enc.int .i64) x25.2), (110, .arr 56 eBlk ([] : (List Blk)))]⟩) ?_ ?_
        · rcases Bool.eq_false_or_eq_true (cm .gtr v8.1 (32 : Int)) with hc33 | hc33
          · replace hx := cond_t hc33 hx
            obtain rfl := Option.some.inj hx
            exact (J.cons (.none rfl) (JO.move rfl) rfl rfl (J.cons (.none rfl) (JO.convUp Try.runUnderlying5 Try.runUnderlying3 rfl rfl) rfl rfl (J.cons (.none rfl) (JO.cmp rfl rfl rfl) rfl rfl (J.cons (.none rfl) (JO.move rfl) rfl rfl (J.left (GK.unmet 88 rfl rfl rfl hc33) rfl (J.left (GK.unmet 88 rfl rfl rfl hc33) rfl (J.left (GK.unmet 88 rfl rfl rfl hc33) rfl (J.left (GK.unmet 88 rfl rfl rfl hc33) rfl (J.cons (.none rfl) (JO.pT hc33 rfl rfl) rfl rfl (J.cons (.none rfl) (JO.move rfl) rfl rfl (J.left (GK.unmet 94 rfl rfl rfl rfl) rfl (J.left (GK.unmet 94 rfl rfl rfl rfl) rfl (J.left (GK.unmet 94 rfl rfl rfl rfl) rfl (J.left (GK.unmet 94 rfl rfl rfl rfl) rfl (J.left (GK.unmet 94 rfl rfl rfl rfl) rfl (J.left (GK.unmet 94 rfl rfl rfl rfl) rfl (J.left (GK.unmet 94 rfl rfl rfl rfl) rfl (J.left (GK.unmet 94 rfl rfl rfl rfl) rfl (J.left (GK.unmet 94 rfl rfl rfl rfl) rfl (J.cons (.none rfl) (JO.pT rfl rfl rfl) rfl rfl (J.fin (Sw.Sub.mk id (.cons rfl (.of_eq rfl) (.cons rfl (.of_eq rfl) (.cons rfl (.of_eq rfl) (.cons rfl (.of_eq rfl) (.cons rfl (.of_eq rfl) .nil))))) (.box rfl (.cons (.of_eq rfl) (.cons (.of_eq rfl) (.cons (.of_eq rfl) .nil))) (.box rfl (.cons (.of_eq rfl) .nil) (.box rfl (.cons (.of_eq rfl) (.cons (.of_eq rfl) (.cons (.of_eq rfl) .nil))) (.arr rfl (.arr rfl (.arr rfl (.arr rfl .nil))))))) rfl))))))))))))))))))))))
          · replace hx := cond_f hc33 hx
            rcases Bool.eq_false_or_eq_true (cm .gtr (x25.2.length : Int) (12 : Int)) with hc34 | hc34
            · replace hx := cond_t hc34 hx
              obtain rfl := Option.some.inj hx
              exact (J.cons (.none rfl) (JO.move rfl) rfl rfl (J.cons (.none rfl) (JO.convUp Try.runUnderlying5 Try.runUnderlying3 rfl rfl) rfl rfl (J.cons (.none rfl) (JO.cmp rfl rfl rfl) rfl rfl (J.cons (.none rfl) (JO.move rfl) rfl rfl (J.cons (GK.met 88 rfl rfl rfl hc33) (JO.fieldPtr 1 rfl Try.runUnderlying28 rfl Try.sizeOf25 rfl rfl) rfl rfl (J.cons (GK.met 88 rfl rfl rfl hc33) (JO.load rfl rfl rfl Try.isAgg25 Try.sizeOf25) rfl rfl (J.cons (GK.met 88 rfl rfl rfl hc33) (JO.lenR rfl rfl Try.runUnderlying25) rfl rfl (J.cons (GK.met 88 rfl rfl rfl hc33) (JO.cmp rfl rfl rfl) rfl rfl (J.cons (.none rfl) (JO.pF hc33 rfl rfl) rfl rfl (J.cons (.none rfl) (JO.move rfl) rfl rfl (J.left (GK.unmet 94 rfl rfl rfl hc34) rfl (J.left (GK.unmet 94 rfl rfl rfl hc34) rfl (J.left (GK.unmet 94 rfl rfl rfl hc34) rfl (J.left (GK.unmet 94 rfl rfl rfl hc34) rfl (J.left (GK.unmet 94 rfl rfl rfl hc34) rfl (J.left (GK.unmet 94 rfl rfl rfl hc34) rfl (J.left (GK.unmet 94 rfl rfl rfl hc34) rfl (J.left (GK.unmet 94 rfl rfl rfl hc34) rfl (J.left (GK.unmet 94 rfl rfl rfl hc34) rfl (J.cons (.none rfl) (JO.pT hc34 rfl rfl) rfl rfl (J.fin (Sw.Sub.mk id (.cons rfl (.of_eq rfl) (.cons rfl (.of_eq rfl) (.cons rfl (.of_eq rfl) (.cons rfl (.of_eq rfl) (.cons rfl (.of_eq rfl) .nil))))) (.box rfl (.cons (.of_eq rfl) (.cons (.of_eq rfl) (.cons (.of_eq rfl) .nil))) (.box rfl (.cons (.of_eq rfl) .nil) (.box rfl (.cons (.of_eq rfl) (.cons (.of_eq rfl) (.cons (.of_eq rfl) .nil))) (.arr rfl (.arr rfl (.arr rfl (.arr rfl .nil))))))) rfl))))))))))))))))))))))
            · replace hx := cond_f hc34 hx
              obtain rfl := Option.some.inj hx
              exact (J.cons (.none rfl) (JO.move rfl) rfl rfl (J.cons (.none rfl) (JO.convUp Try.runUnderlying5 Try.runUnderlying3 rfl rfl) rfl rfl (J.cons (.none rfl) (JO.cmp rfl rfl rfl) rfl rfl (J.cons (.none rfl) (JO.move rfl) rfl rfl (J.cons (GK.met 88 rfl rfl rfl hc33) (JO.fieldPtr 1 rfl Try.runUnderlying28 rfl Try.sizeOf25 rfl rfl) rfl rfl (J.cons (GK.met 88 rfl rfl rfl hc33) (JO.load rfl rfl rfl Try.isAgg25 Try.sizeOf25) rfl rfl (J.cons (GK.met 88 rfl rfl rfl hc33) (JO.lenR rfl rfl Try.runUnderlying25) rfl rfl (J.cons (GK.met 88 rfl rfl rfl hc33) (JO.cmp rfl rfl rfl) rfl rfl (J.cons (.none rfl) (JO.pF hc33 rfl rfl) rfl rfl (J.cons (.none rfl) (JO.move rfl) rfl rfl (J.cons (GK.met 94 rfl rfl rfl hc34) (JO.move rfl) rfl rfl (J.cons (GK.met 94 rfl rfl rfl hc34) (JO.nilPtr rfl) rfl rfl (J.cons (GK.met 94 rfl rfl rfl hc34) (JO.fieldPtr 0 rfl Try.runUnderlying162 rfl Try.sizeOf39 rfl rfl) rfl rfl (J.cons (GK.met 94 rfl rfl rfl hc34) (JO.load rfl rfl rfl Try.isAgg39 Try.sizeOf39) rfl rfl (J.cons (GK.met 94 rfl rfl rfl hc34) (JO.len rfl Try.runUnderlying39) rfl rfl (J.cons (GK.met 94 rfl rfl rfl hc34) (JO.move rfl) rfl rfl (J.cons (GK.met 94 rfl rfl rfl hc34) (JO.convUp Try.runUnderlying5 Try.runUnderlying3 rfl rfl) rfl rfl (J.cons (GK.met 94 rfl rfl rfl hc34) (JO.arith rfl rfl rfl) rfl rfl (J.cons (GK.met 94 rfl rfl rfl hc34) (JO.cmp rfl rfl rfl) rfl rfl (J.cons (.none rfl) (JO.pF hc34 rfl rfl) rfl rfl (J.fin (Sw.Sub.mk id (.cons rfl (.of_eq rfl) (.cons rfl (.of_eq rfl) (.cons rfl (.of_eq rfl) (.cons rfl (.of_eq rfl) (.cons rfl (.of_eq rfl) .nil))))) (.box rfl (.cons (.of_eq rfl) (.cons (.of_eq rfl) (.cons (.of_eq rfl) .nil))) (.box rfl (.cons (.of_eq rfl) .nil) (.box rfl (.cons (.of_eq rfl) (.cons (.of_eq rfl) (.cons (.of_eq rfl) .nil))) (.arr rfl (.arr rfl (.arr rfl (.arr rfl .nil))))))) rfl))))))))))))))))))))))
        rcases Bool.eq_false_or_eq_true x32 with hc35 | hc35
        · replace h := cond_t hc35 h
          refine W.condT rfl hc35 ?_
          refine W.seq ?_
          refine W.reg (σ' := ⟨[(2, .ptr 101 0), (3, .v (Enc.err ET) (some (3 : Int)))], [(101, .box 28 [.v (Enc.int .i64) (0 : Int), .ref 132, .ref 131]), (132, .arr 3 (Enc.int .i64) ([] : (List Int))), (131, .arr 56 eBlk ([] : (List Blk)))]⟩) (J.cons (.none rfl) (JO.buildN (new := [(132, .arr 3 (Enc.int .i64) ([] : (List Int))), (131, .arr 56 eBlk ([] : (List Blk)))]) built28 (.cons (Z.int .i64) (.ref 132 rfl (.ref 131 rfl .nil))) (.cons (.cons .nil)) rfl .nil) rfl rfl (J.cons (.none rfl) (JO.mkErr Try.runUnderlying29 rfl) rfl rfl (J.mut (.none rfl) (JM.storeAgg rfl rfl rfl rfl rfl rfl Try.sizeOf28) (J.cons (.none rfl) (JO.assign rfl) rfl rfl (J.fin (Sw.Sub.mk id (.cons rfl (.of_eq rfl) (.cons rfl (.of_eq rfl) .nil)) (.box rfl (.cons (.of_eq rfl) (.cons (.of_eq rfl) (.cons (.of_eq rfl) .nil))) (.arr rfl (.arr rfl .nil))) rfl)))))) ?_
          refine W.ret ?_
          obtain rfl := Option.some.inj h
          exact XQ.sub (σ' := ⟨[(2, .ptr 90 0), (3, .v (Enc.err ET) (some (3 : Int)))], [(90, .box 28 [.v (Enc.int .i64) (0 : Int), .ref 0, .ref 1]), (1, .arr 56 eBlk ([] : (List Blk))), (0, .arr 3 (Enc.int .i64) ([] : (List Int)))]⟩) (Sw.Sub.mk (rn [(90, 101), (1, 131), (0, 132)]) (.cons rfl (.of_eq rfl) (.cons rfl (.of_eq rfl) .nil)) (.box rfl (.cons (.of_eq rfl) (.cons (.of_eq rfl) (.cons (.of_eq rfl) .nil))) (.arr rfl (.arr rfl .nil))) rfl) (XQ.ret2 hF noR rfl (RV.cellAgg rfl rfl rfl Try.isAgg28 Try.sizeOf28) (RV.tmp rfl) (.cons rfl (.cons rfl .nil)) rfl)
        · replace h := cond_f hc35 h
          refine W.condF rfl hc35 ?_
          refine W.skip ?_
          refine W.seq ?_
          refine W.seq ?_
          obtain ⟨v36, hv36, h⟩ := bind_e h
          refine W.reg (σ' := ⟨[(2, .ptr 101 0), (3, .v (Enc.err ET) (none : Option Int)), (11, .ptr 112 0), (111, .fnc 139 [.pst (Enc.sl (Enc.int .u8)) v36.1, .pst (Enc.int .i64) v36.2])], [(101, .box 28 [.v (Enc.int .i64) (0 : Int), .ref 103, .ref 102]), (112, .box 28 [.v (Enc.int .i64) (sh .shr .u8 v7.1 (4 : Int)), .ref 124, .ref 110]), (103, .arr 3 (Enc.int .i64) ([] : (List Int))), (102, .arr 56 eBlk ([] : (List Blk))), (124, .arr 3 (Enc.int .i64) x25.2), (110, .arr 56 eBlk ([] : (List Blk)))]⟩) (J.cons (.none rfl) (JO.move rfl) rfl rfl (J.cons (.none rfl) (JO.nilPtr rfl) rfl rfl (J.cons (.none rfl) (JO.fieldPtr 0 rfl Try.runUnderlying162 rfl Try.sizeOf39 rfl rfl) rfl rfl (J.cons (.none rfl) (JO.load rfl rfl rfl Try.isAgg39 Try.sizeOf39) rfl rfl (J.cons (.none rfl) (JO.call0 (con_slices_Chunk_byte_byte hv36) Try.call96 (.cons (.dir rfl) (.cons (.dir rfl) .nil))) rfl rfl (J.fin (Sw.Sub.mk id (.cons rfl (.of_eq rfl) (.cons rfl (.of_eq rfl) (.cons rfl (.of_eq rfl) (.cons rfl (.of_eq rfl) .nil)))) (.box rfl (.cons (.of_eq rfl) (.cons (.of_eq rfl) (.cons (.of_eq rfl) .nil))) (.box rfl (.cons (.of_eq rfl) (.cons (.of_eq rfl) (.cons (.of_eq rfl) .nil))) (.arr rfl (.arr rfl (.arr rfl (.arr rfl .nil)))))) rfl))))))) ?_
          refine W.block ?_
          obtain ⟨u49, hu49, h⟩ := bind_e h
          obtain ⟨u50, hu50, h⟩ := bind_e h
          obtain ⟨o37, ho37, hb37, hx37⟩ := rg_elim h
          refine W.range (g := [(2, .ptr 101 0), (3, .v (Enc.err ET) (none : Option Int)), (11, .ptr 112 0), (111, .fnc 139 [.pst (Enc.sl (Enc.int .u8)) v36.1, .pst (Enc.int .i64) v36.2])]) (ds0 := [(101, .box 28 [.v (Enc.int .i64) (0 : Int), .ref 103, .ref 102]), (112, .box 28 [.v (Enc.int .i64) (sh .shr .u8 v7.1 (4 : Int)), .ref 124, .ref 139]), (103, .arr 3 (Enc.int .i64) ([] : (List Int))), (102, .arr 56 eBlk ([] : (List Blk))), (124, .arr 3 (Enc.int .i64) x25.2), (139, .arr 56 eBlk ([] : (List Blk)))]) (L := [101, 112]) (fun z38 : (List Int) => [.v (Enc.sl (Enc.int .u8)) z38]) (fun A37 (s45 : (List Blk)) => [(101, .box 28 [.v (Enc.int .i64) (0 : Int), .ref 103, .ref 102] (some (A37 101))), (112, .box 28 [.v (Enc.int .i64) (sh .shr .u8 v7.1 (4 : Int)), .ref 124, .ref 139] (some (A37 112))), (103, .arr 3 (Enc.int .i64) ([] : (List Int))), (102, .arr 56 eBlk ([] : (List Blk))), (124, .arr 3 (Enc.int .i64) x25.2), (139, .arr 56 eBlk s45)]) (fun _ (z : Empty) => nomatch z) (fun A37 z38 s45 => ⟨[(2, .ptr 101 0), (3, .v (Enc.err ET) (none : Option Int)), (11, .ptr 112 0), (14, .v (Enc.sl (Enc.int .u8)) z38), (111, .fnc 139 [.pst (Enc.sl (Enc.int .u8)) v36.1, .pst (Enc.int .i64) v36.2])], [(101, .box 28 [.v (Enc.int .i64) (0 : Int), .ref 103, .ref 102] (some (A37 101))), (112, .box 28 [.v (Enc.int .i64) (sh .shr .u8 v7.1 (4 : Int)), .ref 124, .ref 139] (some (A37 112))), (103, .arr 3 (Enc.int .i64) ([] : (List Int))), (102, .arr 56 eBlk ([] : (List Blk))), (124, .arr 3 (Enc.int .i64) x25.2), (139, .arr 56 eBlk s45)]⟩) hF rfl ho37 (Sw.Sub.mk (rn [(101, 101), (112, 112), (102, 102), (103, 103), (139, 110), (124, 124)]) (.cons rfl (.of_eq rfl) (.cons rfl (.of_eq rfl) (.cons rfl (.of_eq rfl) (.cons rfl (.of_eq rfl) .nil)))) (.box rfl (.cons (.of_eq rfl) (.cons (.of_eq rfl) (.cons (.of_eq rfl) .nil))) (.box rfl (.cons (.of_eq rfl) (.cons (.of_eq rfl) (.cons (.of_eq rfl) .nil))) (.arr rfl (.arr rfl (.arr rfl (.arr rfl .nil)))))) rfl) (fun _ => rfl) rfl (it_139 (chkn_some hu50).1 (small_some hu49) (chkn_some hu50).2) Try.call139 (fun _ => rfl) rfl (fun _ => rfl) rfl (fun _ _ => (.cons rfl (.cons rfl .nil))) (fun _ z => nomatch z) ?_ ?_ ?_ ?_
          · intro A37 S w R l z38 s45
            refine W.reg (σ' := ⟨[(2, .ptr 101 0), (3, .v (Enc.err ET) (none : Option Int)), (11, .ptr 112 0), (14, .v (Enc.sl (Enc.int .u8)) z38), (111, .fnc 139 [.pst (Enc.sl (Enc.int .u8)) v36.1, .pst (Enc.int .i64) v36.2])], [(101, .box 28 [.v (Enc.int .i64) (0 : Int), .ref 103, .ref 102] (some (A37 101))), (112, .box 28 [.v (Enc.int .i64) (sh .shr .u8 v7.1 (4 : Int)), .ref 124, .ref 139] (some (A37 112))), (103, .arr 3 (Enc.int .i64) ([] : (List Int))), (102, .arr 56 eBlk ([] : (List Blk))), (124, .arr 3 (Enc.int .i64) x25.2), (139, .arr 56 eBlk s45)]⟩) (J.cons (.none rfl) (JO.assign rfl) rfl rfl (J.fin (Sw.Sub.mk id (.cons rfl (.of_eq rfl) (.cons rfl (.of_eq rfl) (.cons rfl (.of_eq rfl) (.cons rfl (.of_eq rfl) (.cons rfl (.of_eq rfl) .nil))))) (.box rfl (.cons (.of_eq rfl) (.cons (.of_eq rfl) (.cons (.of_eq rfl) .nil))) (.box rfl (.cons (.of_eq rfl) (.cons (.of_eq rfl) (.cons (.of_eq rfl) .nil))) (.arr rfl (.arr rfl (.arr rfl (.arr rfl .nil)))))) rfl))) ?_
            exact W.aq (Sw.Sub.mk id (.cons rfl (.of_eq rfl) (.cons rfl (.of_eq rfl) (.cons rfl (.of_eq rfl) (.cons rfl (.of_eq rfl) (.cons rfl (.of_eq rfl) .nil))))) (.box rfl (.cons (.of_eq rfl) (.cons (.of_eq rfl) (.cons (.of_eq rfl) .nil))) (.box rfl (.cons (.of_eq rfl) (.cons (.of_eq rfl) (.cons (.of_eq rfl) .nil))) (.arr rfl (.arr rfl (.arr rfl (.arr rfl .nil)))))) rfl)
          · intro A37 S w R l z38 s45 r37 h
            refine W.block ?_
            obtain ⟨z46, hz46, h⟩ := bind_e h
            obtain ⟨v47, hv47, h⟩ := bind_e h
            refine W.dr (σ' := ⟨[(2, .ptr 101 0), (3, .v (Enc.err ET) (none : Option Int)), (11, .ptr 112 0), (111, .fnc 139 [.pst (Enc.sl (Enc.int .u8)) v36.1, .pst (Enc.int .i64) v36.2])], [(101, .box 28 [.v (Enc.int .i64) (0 : Int), .ref 103, .ref 102] (some (A37 101))), (112, .box 28 [.v (Enc.int .i64) (sh .shr .u8 v7.1 (4 : Int)), .ref 124, .ref 140] (some (A37 112))), (103, .arr 3 (Enc.int .i64) ([] : (List Int))), (102, .arr 56 eBlk ([] : (List Blk))), (124, .arr 3 (Enc.int .i64) x25.2), (140, .arr 56 eBlk v47)]⟩) 6 mixed (by exact (.cons (.none rfl) (JO.fieldPtr 2 rfl Try.runUnderlying28 rfl Try.sizeOf26 rfl rfl) rfl rfl (.cons (.none rfl) (JO.load rfl rfl rfl Try.isAgg26 Try.sizeOf26) rfl rfl (.cons (.none rfl) (JO.move rfl) rfl rfl (.cons (.none rfl) (JO.arrPtr hz46 rfl Try.runUnderlying56) rfl rfl (.cons (.none rfl) (JO.loadPst rfl Try.isAgg56 Try.sizeOf56) rfl rfl (.cons (.none rfl) (JO.lit (e := eBlk) Try.runUnderlying26 Try.sizeOf56 Try.zeroValue56 rfl rfl rfl rfl (.cons (.dir rfl) .nil)) rfl rfl .nil))))))) (by exact (J.mut (.none rfl) (JM.append 140 hv47 rfl rfl (.sl rfl) Try.runUnderlying26 Try.typeInfo56 Try.sizeOf56 rfl rfl rfl rfl rfl) (J.cons (.none rfl) (JO.fieldPtr 2 rfl Try.runUnderlying28 rfl Try.sizeOf26 rfl rfl) rfl rfl (J.mut (.none rfl) (JM.store rfl rfl rfl rfl rfl rfl rfl Try.sizeOf26) (J.fin (Sw.Sub.mk id (.cons rfl (.of_eq rfl) (.cons rfl (.of_eq rfl) (.cons rfl (.of_eq rfl) (.cons rfl (.of_eq rfl) .nil)))) (.box rfl (.cons (.of_eq rfl) (.cons (.of_eq rfl) (.cons (.of_eq rfl) .nil))) (.box rfl (.cons (.of_eq rfl) (.cons (.of_eq rfl) (.cons (.of_eq rfl) .nil))) (.arr rfl (.arr rfl (.arr rfl (.arr rfl .nil)))))) rfl)))))) (by decide +kernel) (by decide +kernel) (by decide +kernel) ?_
            refine W.fall ?_
            obtain rfl := Option.some.inj h
            exact W.rnext (Sw.Sub.mk (rn [(101, 101), (112, 112), (102, 102), (103, 103), (139, 140), (124, 124)]) .nil (.box rfl (.cons (.of_eq rfl) (.cons (.of_eq rfl) (.cons (.of_eq rfl) .nil))) (.box rfl (.cons (.of_eq rfl) (.cons (.of_eq rfl) (.cons (.of_eq rfl) .nil))) (.arr rfl (.arr rfl (.arr rfl (.arr rfl .nil)))))) rfl)
          · intro A37 x48 hy S w R df hF
            have h := hb37 _ hy
            refine W.fall ?_
            refine W.seq ?_
            refine W.reg (σ' := ⟨[(2, .ptr 101 0), (3, .v (Enc.err ET) (none : Option Int))], [(101, .box 28 [.v (Enc.int .i64) (sh .shr .u8 v7.1 (4 : Int)), .ref 124, .ref 139] (some (A37 101))), (124, .arr 3 (Enc.int .i64) x25.2), (139, .arr 56 eBlk x48)]⟩) (J.cons (.none rfl) (JO.loadAgg rfl rfl rfl Try.isAgg28 Try.sizeOf28) rfl rfl (J.mut (.none rfl) (JM.storeAgg rfl rfl rfl rfl rfl rfl Try.sizeOf28) (J.cons (.none rfl) (JO.assignNilE ET) rfl rfl (J.fin (Sw.Sub.mk id (.cons rfl (.of_eq rfl) (.cons rfl (.of_eq rfl) .nil)) (.box rfl (.cons (.of_eq rfl) (.cons (.of_eq rfl) (.cons (.of_eq rfl) .nil))) (.arr rfl (.arr rfl .nil))) rfl))))) ?_
            refine W.ret ?_
            obtain rfl := Option.some.inj h
            exact XQ.sub (σ' := ⟨[(2, .ptr 90 0), (3, .v (Enc.err ET) (none : Option Int))], [(90, .box 28 [.v (Enc.int .i64) (sh .shr .u8 v7.1 (4 : Int)), .ref 0, .ref 1]), (1, .arr 56 eBlk x48), (0, .arr 3 (Enc.int .i64) x25.2)]⟩) (Sw.Sub.mk (rn [(90, 101), (1, 139), (0, 124)]) (.cons rfl (.of_eq rfl) (.cons rfl (.of_eq rfl) .nil)) (.boxU rfl (.cons (.of_eq rfl) (.cons (.of_eq rfl) (.cons (.of_eq rfl) .nil))) (.arr rfl (.arr rfl .nil))) rfl) (XQ.ret2 hF noR rfl (RV.cellAgg rfl rfl rfl Try.isAgg28 Try.sizeOf28) (RV.tmp rfl) (.cons rfl (.cons rfl .nil)) rfl)
          · exact fun _ z => nomatch z
      intro s19 r24 h
      refine W.seq ?_
      refine W.reg (σ' := ⟨[(2, .ptr 101 0), (3, .v (Enc.err ET) (none : Option Int)), (6, .ptr 109 0), (9, .v (Enc.int .u8) v8.1), (11, .ptr 112 0), (66, .v (Enc.int .u8) (ar .and .u8 v7.1 (15 : Int))), (67, .v (Enc.int .u8) s19.1), (68, .v Enc.bool (cm .lss s19.1 (ar .and .u8 v7.1 (15 : Int))))], [(101, .box 28 [.v (Enc.int .i64) (0 : Int), .ref 103, .ref 102]), (109, .box 162 [.v (Enc.sl (Enc.int .u8)) s19.2.1]), (112, .box 28 [.v (Enc.int .i64) (sh .shr .u8 v7.1 (4 : Int)), .ref 124, .ref 110]), (103, .arr 3 (Enc.int .i64) ([] : (List Int))), (102, .arr 56 eBlk ([] : (List Blk))), (124, .arr 3 (Enc.int .i64) s19.2.2), (110, .arr 56 eBlk ([] : (List Blk)))]⟩) (J.cons (.none rfl) (JO.cmp rfl rfl rfl) rfl rfl (J.fin (Sw.Sub.mk id (.cons rfl (.of_eq rfl) (.cons rfl (.of_eq rfl) (.cons rfl (.of_eq rfl) (.cons rfl (.of_eq rfl) (.cons rfl (.of_eq rfl) (.cons rfl (.of_eq rfl) (.cons rfl (.of_eq rfl) (.cons rfl (.of_eq rfl) .nil)))))))) (.box rfl (.cons (.of_eq rfl) (.cons (.of_eq rfl) (.cons (.of_eq rfl) .nil))) (.box rfl (.cons (.of_eq rfl) .nil) (.box rfl (.cons (.of_eq rfl) (.cons (.of_eq rfl) (.cons (.of_eq rfl) .nil))) (.arr rfl (.arr rfl (.arr rfl (.arr rfl .nil))))))) rfl))) ?_
      refine W.seq ?_
      rcases Bool.eq_false_or_eq_true (cm .lss s19.1 (ar .and .u8 v7.1 (15 : Int))) with hc26 | hc26
      · replace h := cond_t hc26 h
        refine W.condT rfl hc26 ?_
        refine W.skip ?_
        refine W.seq ?_
        refine W.block ?_
        refine W.seq ?_
        obtain ⟨v27, hv27, h⟩ := bind_e h
        refine W.reg (σ' := ⟨[(2, .ptr 101 0), (3, .v (Enc.err ET) (none : Option Int)), (6, .ptr 109 0), (9, .v (Enc.int .u8) v8.1), (11, .ptr 112 0), (12, .v (Enc.int .i64) v27.1), (13, .v Enc.bool v27.2.1), (66, .v (Enc.int .u8) (ar .and .u8 v7.1 (15 : Int))), (67, .v (Enc.int .u8) s19.1)], [(101, .box 28 [.v (Enc.int .i64) (0 : Int), .ref 103, .ref 102]), (109, .box 162 [.v (Enc.sl (Enc.int .u8)) v27.2.2]), (112, .box 28 [.v (Enc.int .i64) (sh .shr .u8 v7.1 (4 : Int)), .ref 124, .ref 110]), (103, .arr 3 (Enc.int .i64) ([] : (List Int))), (102, .arr 56 eBlk ([] : (List Blk))), (124, .arr 3 (Enc.int .i64) s19.2.2), (110, .arr 56 eBlk ([] : (List Blk)))]⟩) (J.cons (.none rfl) (JO.move rfl) rfl rfl (J.mut (.none rfl) (JM.callM (H := [109]) (K := [109]) (swp [(9000, 109)]) (swp_inj _) (fun A => con_frame_taker_number_io A hv27) Try.call95 (.cons (.dir rfl) .nil) (fun A => (.box rfl .nil)) (fun A => (.box rfl .nil rfl)) (fun _ => rfl) rfl rfl (fun _ => rfl) rfl rfl) (J.cons (.none rfl) (JO.move rfl) rfl rfl (J.cons (.none rfl) (JO.extract rfl rfl) rfl rfl (J.cons (.none rfl) (JO.extract rfl rfl) rfl rfl (J.cons (.none rfl) (JO.assign rfl) rfl rfl (J.cons (.none rfl) (JO.assign rfl) rfl rfl (J.fin (Sw.Sub.mk id (.cons rfl (.of_eq rfl) (.cons rfl (.of_eq rfl) (.cons rfl (.of_eq rfl) (.cons rfl (.of_eq rfl) (.cons rfl (.of_eq rfl) (.cons rfl (.of_eq rfl) (.cons rfl (.of_eq rfl) (.cons rfl (.of_eq rfl) (.cons rfl (.of_eq rfl) .nil))))))))) (.box rfl (.cons (.of_eq rfl) (.cons (.of_eq rfl) (.cons (.of_eq rfl) .nil))) (.box rfl (.cons (.of_eq rfl) .nil) (.box rfl (.cons (.of_eq rfl) (.cons (.of_eq rfl) (.cons (.of_eq rfl) .nil))) (.arr rfl (.arr rfl (.arr rfl (.arr rfl .nil))))))) rfl))))))))) ?_
        refine W.seq ?_
        refine W.seq ?_
        refine W.reg (σ' := ⟨[(2, .ptr 101 0), (3, .v (Enc.err ET) (none : Option Int)), (6, .ptr 109 0), (9, .v (Enc.int .u8) v8.1), (11, .ptr 112 0), (12, .v (Enc.int .i64) v27.1), (66, .v (Enc.int .u8) (ar .and .u8 v7.1 (15 : Int))), (67, .v (Enc.int .u8) s19.1), (75, .v Enc.bool (!v27.2.1))], [(101, .box 28 [.v (Enc.int .i64) (0 : Int), .ref 103, .ref 102]), (109, .box 162 [.v (Enc.sl (Enc.int .u8)) v27.2.2]), (112, .box 28 [.v (Enc.int .i64) (sh .shr .u8 v7.1 (4 : Int)), .ref 124, .ref 110]), (103, .arr 3 (Enc.int .i64) ([] : (List Int))), (102, .arr 56 eBlk ([] : (List Blk))), (124, .arr 3 (Enc.int .i64) s19.2.2), (110, .arr 56 eBlk ([] : (List Blk)))]⟩) (J.cons (.none rfl) (JO.move rfl) rfl rfl (J.cons (.none rfl) (JO.not rfl) rfl rfl (J.fin (Sw.Sub.mk id (.cons rfl (.of_eq rfl) (.cons rfl (.of_eq rfl) (.cons rfl (.of_eq rfl) (.cons rfl (.of_eq rfl) (.cons rfl (.of_eq rfl) (.cons rfl (.of_eq rfl) (.cons rfl (.of_eq rfl) (.cons rfl (.of_eq rfl) (.cons rfl (.of_eq rfl) .nil))))))))) (.box rfl (.cons (.of_eq rfl) (.cons (.of_eq rfl) (.cons (.of_eq rfl) .nil))) (.box rfl (.cons (.of_eq rfl) .nil) (.box rfl (.cons (.of_eq rfl) (.cons (.of_eq rfl) (.cons (.of_eq rfl) .nil))) (.arr rfl (.arr rfl (.arr rfl (.arr rfl .nil))))))) rfl)))) ?_
        rcases Bool.eq_false_or_eq_true (!v27.2.1) with hc28 | hc28
        · replace h := cond_t hc28 h
          refine W.condT rfl hc28 ?_
          refine W.seq ?_
          refine W.reg (σ' := ⟨[(2, .ptr 101 0), (3, .v (Enc.err ET) (some (3 : Int)))], [(101, .box 28 [.v (Enc.int .i64) (0 : Int), .ref 129, .ref 128]), (129, .arr 3 (Enc.int .i64) ([] : (List Int))), (128, .arr 56 eBlk ([] : (List Blk)))]⟩) (J.cons (.none rfl) (JO.buildN (new := [(129, .arr 3 (Enc.int .i64) ([] : (List Int))), (128, .arr 56 eBlk ([] : (List Blk)))]) built28 (.cons (Z.int .i64) (.ref 129 rfl (.ref 128 rfl .nil))) (.cons (.cons .nil)) rfl .nil) rfl rfl (J.cons (.none rfl) (JO.mkErr Try.runUnderlying29 rfl) rfl rfl (J.mut (.none rfl) (JM.storeAgg rfl rfl rfl rfl rfl rfl Try.sizeOf28) (J.cons (.none rfl) (JO.assign rfl) rfl rfl (J.fin (Sw.Sub.mk id (.cons rfl (.of_eq rfl) (.cons rfl (.of_eq rfl) .nil)) (.box rfl (.cons (.of_eq rfl) (.cons (.of_eq rfl) (.cons (.of_eq rfl) .nil))) (.arr rfl (.arr rfl .nil))) rfl)))))) ?_
          refine W.ret ?_
          refine XQ.ret ?_
          obtain rfl := Option.some.inj h
          refine XQ.lret fun ho => ?_
          obtain rfl := hr24 _ ho
          exact XQ.sub (σ' := ⟨[(2, .ptr 90 0), (3, .v (Enc.err ET) (some (3 : Int)))], [(90, .box 28 [.v (Enc.int .i64) (0 : Int), .ref 0, .ref 1]), (1, .arr 56 eBlk ([] : (List Blk))), (0, .arr 3 (Enc.int .i64) ([] : (List Int)))]⟩) (Sw.Sub.mk (rn [(90, 101), (1, 128), (0, 129)]) (.cons rfl (.of_eq rfl) (.cons rfl (.of_eq rfl) .nil)) (.box rfl (.cons (.of_eq rfl) (.cons (.of_eq rfl) (.cons (.of_eq rfl) .nil))) (.arr rfl (.arr rfl .nil))) rfl) (XQ.ret2 hF noR rfl (RV.cellAgg rfl rfl rfl Try.isAgg28 Try.sizeOf28) (RV.tmp rfl) (.cons rfl (.cons rfl .nil)) rfl)
        · replace h := cond_f hc28 h
          refine W.condF rfl hc28 ?_
          refine W.skip ?_
          obtain ⟨v29, hv29, h⟩ := bind_e h
          refine W.reg (σ' := ⟨[(2, .ptr 101 0), (3, .v (Enc.err ET) (none : Option Int)), (6, .ptr 109 0), (9, .v (Enc.int .u8) v8.1), (11, .ptr 112 0), (66, .v (Enc.int .u8) (ar .and .u8 v7.1 (15 : Int))), (67, .v (Enc.int .u8) s19.1)], [(101, .box 28 [.v (Enc.int .i64) (0 : Int), .ref 103, .ref 102]), (109, .box 162 [.v (Enc.sl (Enc.int .u8)) v27.2.2]), (112, .box 28 [.v (Enc.int .i64) (sh .shr .u8 v7.1 (4 : Int)), .ref 130, .ref 110]), (103, .arr 3 (Enc.int .i64) ([] : (List Int))), (102, .arr 56 eBlk ([] : (List Blk))), (130, .arr 3 (Enc.int .i64) v29), (110, .arr 56 eBlk ([] : (List Blk)))]⟩) (J.cons (.none rfl) (JO.fieldPtr 1 rfl Try.runUnderlying28 rfl Try.sizeOf25 rfl rfl) rfl rfl (J.cons (.none rfl) (JO.load rfl rfl rfl Try.isAgg25 Try.sizeOf25) rfl rfl (J.cons (.none rfl) (JO.move rfl) rfl rfl (J.cons (.none rfl) (JO.lit (e := (Enc.int .i64)) Try.runUnderlying25 Try.sizeOf3 Try.zeroValue3 rfl rfl rfl rfl (.cons (.dir rfl) .nil)) rfl rfl (J.mut (.none rfl) (JM.append 130 hv29 rfl rfl (.sl rfl) Try.runUnderlying25 Try.typeInfo3 Try.sizeOf3 rfl rfl rfl rfl rfl) (J.cons (.none rfl) (JO.fieldPtr 1 rfl Try.runUnderlying28 rfl Try.sizeOf25 rfl rfl) rfl rfl (J.mut (.none rfl) (JM.store rfl rfl rfl rfl rfl rfl rfl Try.sizeOf25) (J.fin (Sw.Sub.mk id (.cons rfl (.of_eq rfl) (.cons rfl (.of_eq rfl) (.cons rfl (.of_eq rfl) (.cons rfl (.of_eq rfl) (.cons rfl (.of_eq rfl) (.cons rfl (.of_eq rfl) (.cons rfl (.of_eq rfl) .nil))))))) (.box rfl (.cons (.of_eq rfl) (.cons (.of_eq rfl) (.cons (.of_eq rfl) .nil))) (.box rfl (.cons (.of_eq rfl) .nil) (.box rfl (.cons (.of_eq rfl) (.cons (.of_eq rfl) (.cons (.of_eq rfl) .nil))) (.arr rfl (.arr rfl (.arr rfl (.arr rfl .nil))))))) rfl))))))))) ?_
          refine W.fall ?_
          refine W.reg (σ' := ⟨[(2, .ptr 101 0), (3, .v (Enc.err ET) (none : Option Int)), (6, .ptr 109 0), (9, .v (Enc.int .u8) v8.1), (11, .ptr 112 0), (66, .v (Enc.int .u8) (ar .and .u8 v7.1 (15 : Int))), (67, .v (Enc.int .u8) (ar .add .u8 s19.1 (1 : Int)))], [(101, .box 28 [.v (Enc.int .i64) (0 : Int), .ref 103, .ref 102]), (109, .box 162 [.v (Enc.sl (Enc.int .u8)) v27.2.2]), (112, .box 28 [.v (Enc.int .i64) (sh .shr .u8 v7.1 (4 : Int)), .ref 130, .ref 110]), (103, .arr 3 (Enc.int .i64) ([] : (List Int))), (102, .arr 56 eBlk ([] : (List Blk))), (130, .arr 3 (Enc.int .i64) v29), (110, .arr 56 eBlk ([] : (List Blk)))]⟩) (J.cons (.none rfl) (JO.arith rfl rfl rfl) rfl rfl (J.cons (.none rfl) (JO.move rfl) rfl rfl (J.fin (Sw.Sub.mk id (.cons rfl (.of_eq rfl) (.cons rfl (.of_eq rfl) (.cons rfl (.of_eq rfl) (.cons rfl (.of_eq rfl) (.cons rfl (.of_eq rfl) (.cons rfl (.of_eq rfl) (.cons rfl (.of_eq rfl) .nil))))))) (.box rfl (.cons (.of_eq rfl) (.cons (.of_eq rfl) (.cons (.of_eq rfl) .nil))) (.box rfl (.cons (.of_eq rfl) .nil) (.box rfl (.cons (.of_eq rfl) (.cons (.of_eq rfl) (.cons (.of_eq rfl) .nil))) (.arr rfl (.arr rfl (.arr rfl (.arr rfl .nil))))))) rfl)))) ?_
          obtain rfl := Option.some.inj h
          exact W.next (Sw.Sub.mk (rn [(101, 101), (109, 109), (112, 112), (102, 102), (103, 103), (110, 110), (124, 130)]) (.cons rfl (.of_eq rfl) (.cons rfl (.of_eq rfl) (.cons rfl (.of_eq rfl) (.cons rfl (.of_eq rfl) (.cons rfl (.of_eq rfl) (.cons rfl (.of_eq rfl) (.cons rfl (.of_eq rfl) .nil))))))) (.box rfl (.cons (.of_eq rfl) (.cons (.of_eq rfl) (.cons (.of_eq rfl) .nil))) (.box rfl (.cons (.of_eq rfl) .nil) (.box rfl (.cons (.of_eq rfl) (.cons (.of_eq rfl) (.cons (.of_eq rfl) .nil))) (.arr rfl (.arr rfl (.arr rfl (.arr rfl .nil))))))) rfl)
      · replace h := cond_f hc26 h
        refine W.condF rfl hc26 ?_
        refine W.exit ?_
        obtain rfl := Option.some.inj h
        exact XQ.brk (Sw.Sub.mk id (.cons rfl (.of_eq rfl) (.cons rfl (.of_eq rfl) (.cons rfl (.of_eq rfl) (.cons rfl (.of_eq rfl) (.cons rfl (.of_eq rfl) .nil))))) (.box rfl (.cons (.of_eq rfl) (.cons (.of_eq rfl) (.cons (.of_eq rfl) .nil))) (.box rfl (.cons (.of_eq rfl) .nil) (.box rfl (.cons (.of_eq rfl) (.cons (.of_eq rfl) (.cons (.of_eq rfl) .nil))) (.arr rfl (.arr rfl (.arr rfl (.arr rfl .nil))))))) rfl)
set_option maxRecDepth 100000 in
set_option maxHeartbeats 4000000 in
theorem con_ref_SameInts {a0 : (List Int)} {a1 : (List Int)} {r : Bool} (h : m_ref_SameInts a0 a1 = some r) :
    Con Try.prog 83 [.v (Enc.sl (Enc.int .i64)) a0, .v (Enc.sl (Enc.int .i64)) a1] (.v Enc.bool r) [] := by
  refine Con.of Try.func83 rfl Try.ntmps83 rfl ?_
  intro S w hF
  unfold m_ref_SameInts at h
  refine W.seq ?_
  refine W.reg (σ' := ⟨[(0, .v (Enc.sl (Enc.int .i64)) a0), (1, .v (Enc.sl (Enc.int .i64)) a1)], []⟩) (J.cons (.none rfl) (JO.assign rfl) rfl rfl (J.fin (Sw.Sub.mk id (.cons rfl (.of_eq rfl) (.cons rfl (.of_eq rfl) .nil)) .nil rfl))) ?_
  refine W.seq ?_
  refine W.seq ?_
  refine W.reg (σ' := ⟨[(0, .v (Enc.sl (Enc.int .i64)) a0), (1, .v (Enc.sl (Enc.int .i64)) a1), (10, .v Enc.bool (cm .neq (a0.length : Int) (a1.length : Int)))], []⟩) (J.cons (.none rfl) (JO.move rfl) rfl rfl (J.cons (.none rfl) (JO.len rfl Try.runUnderlying25) rfl rfl (J.cons (.none rfl) (JO.move rfl) rfl rfl (J.cons (.none rfl) (JO.len rfl Try.runUnderlying25) rfl rfl (J.cons (.none rfl) (JO.cmp rfl rfl rfl) rfl rfl (J.fin (Sw.Sub.mk id (.cons rfl (.of_eq rfl) (.cons rfl (.of_eq rfl) (.cons rfl (.of_eq rfl) .nil))) .nil rfl))))))) ?_
  rcases Bool.eq_false_or_eq_true (cm .neq (a0.length : Int) (a1.length : Int)) with hc1 | hc1
  · replace h := cond_t hc1 h
    refine W.condT rfl hc1 ?_
    refine W.seq ?_
    refine W.reg (σ' := ⟨[(4, .v Enc.bool false)], []⟩) (J.cons (.none rfl) (JO.assign rfl) rfl rfl (J.fin (Sw.Sub.mk id (.cons rfl (.of_eq rfl) .nil) .nil rfl))) ?_
    refine W.ret ?_
    obtain rfl := Option.some.inj h
    exact XQ.sub (σ' := ⟨[(4, .v Enc.bool false)], []⟩) (Sw.Sub.mk id (.cons rfl (.of_eq rfl) .nil) .nil rfl) (XQ.ret1 hF noR rfl (RV.tmp rfl) .nil rfl)
  · replace h := cond_f hc1 h
    refine W.condF rfl hc1 ?_
    refine W.skip ?_
    refine W.seq ?_
    refine W.seq ?_
    refine W.reg (σ' := ⟨[(0, .v (Enc.sl (Enc.int .i64)) a0), (1, .v (Enc.sl (Enc.int .i64)) a1), (5, .v (Enc.int .i64) (0 : Int))], []⟩) (J.cons (.none rfl) (JO.assign rfl) rfl rfl (J.fin (Sw.Sub.mk id (.cons rfl (.of_eq rfl) (.cons rfl (.of_eq rfl) (.cons rfl (.of_eq rfl) .nil))) .nil rfl))) ?_
    obtain ⟨o17, ho17, hb17, hr17⟩ := lp_elim h
    refine W.lp (σs := fun s12 : Int => ⟨[(0, .v (Enc.sl (Enc.int .i64)) a0), (1, .v (Enc.sl (Enc.int .i64)) a1), (5, .v (Enc.int .i64) s12)], []⟩) (fun x18 : Unit => ⟨[], []⟩) ho17 (Sw.Sub.mk id (.cons rfl (.of_eq rfl) (.cons rfl (.of_eq rfl) (.cons rfl (.of_eq rfl) .nil))) .nil rfl) ?_ ?_
    · intro x18 hy
      have h := hb17 _ hy
      refine W.seq ?_
      refine W.reg (σ' := ⟨[(4, .v Enc.bool true)], []⟩) (J.cons (.none rfl) (JO.assign rfl) rfl rfl (J.fin (Sw.Sub.mk id (.cons rfl (.of_eq rfl) .nil) .nil rfl))) ?_
      refine W.ret ?_
      obtain rfl := Option.some.inj h
      exact XQ.sub (σ' := ⟨[(4, .v Enc.bool true)], []⟩) (Sw.Sub.mk id (.cons rfl (.of_eq rfl) .nil) .nil rfl) (XQ.ret1 hF noR rfl (RV.tmp rfl) .nil rfl)
    intro s12 r17 h
    refine W.seq ?_
    refine W.seq ?_
    refine W.reg (σ' := ⟨[(0, .v (Enc.sl (Enc.int .i64)) a0), (1, .v (Enc.sl (Enc.int .i64)) a1), (5, .v (Enc.int .i64) s12), (14, .v Enc.bool (cm .lss s12 (a0.length : Int)))], []⟩) (J.cons (.none rfl) (JO.move rfl) rfl rfl (J.cons (.none rfl) (JO.move rfl) rfl rfl (J.cons (.none rfl) (JO.len rfl Try.runUnderlying25) rfl rfl (J.cons (.none rfl) (JO.cmp rfl rfl rfl) rfl rfl (J.fin (Sw.Sub.mk id (.cons rfl (.of_eq rfl) (.cons rfl (.of_eq rfl) (.cons rfl (.of_eq rfl) (.cons rfl (.of_eq rfl) .nil)))) .nil rfl)))))) ?_
    rcases Bool.eq_false_or_eq_true (cm .lss s12 (a0.length : Int)) with hc19 | hc19
    · replace h := cond_t hc19 h
      refine W.condT rfl hc19 ?_
      refine W.skip ?_
      refine W.seq ?_
      refine W.block ?_
      refine W.seq ?_
      obtain ⟨z20, hz20, h⟩ := bind_e h
      obtain ⟨z21, hz21, h⟩ := bind_e h
      refine W.dr (σ' := ⟨[(0, .v (Enc.sl (Enc.int .i64)) a0), (1, .v (Enc.sl (Enc.int .i64)) a1), (5, .v (Enc.int .i64) s12), (25, .v Enc.bool (cm .neq z20 z21))], []⟩) 9 mixed (by exact (.cons (.none rfl) (JO.move rfl) rfl rfl (.cons (.none rfl) (JO.move rfl) rfl rfl (.cons (.none rfl) (JO.idx hz20 rfl rfl Try.runUnderlying25 Try.sizeOf3) rfl rfl (.cons (.none rfl) (JO.loadPst rfl Try.isAgg3 Try.sizeOf3) rfl rfl (.cons (.none rfl) (JO.move rfl) rfl rfl (.cons (.none rfl) (JO.move rfl) rfl rfl (.cons (.none rfl) (JO.idx hz21 rfl rfl Try.runUnderlying25 Try.sizeOf3) rfl rfl (.cons (.none rfl) (JO.loadPst rfl Try.isAgg3 Try.sizeOf3) rfl rfl (.cons (.none rfl) (JO.cmp rfl rfl rfl) rfl rfl .nil)))))))))) (by exact (J.fin (Sw.Sub.mk id (.cons rfl (.of_eq rfl) (.cons rfl (.of_eq rfl) (.cons rfl (.of_eq rfl) (.cons rfl (.of_eq rfl) .nil)))) .nil rfl))) (by decide +kernel) (by decide +kernel) (by decide +kernel) ?_
      rcases Bool.eq_false_or_eq_true (cm .neq z20 z21) with hc22 | hc22
      · replace h := cond_t hc22 h
        refine W.condT rfl hc22 ?_
        refine W.seq ?_
        refine W.reg (σ' := ⟨[(4, .v Enc.bool false)], []⟩) (J.cons (.none rfl) (JO.assign rfl) rfl rfl (J.fin (Sw.Sub.mk id (.cons rfl (.of_eq rfl) .nil) .nil rfl))) ?_
        refine W.ret ?_
        refine XQ.ret ?_
        obtain rfl := Option.some.inj h
        refine XQ.lret fun ho => ?_
        obtain rfl := hr17 _ ho
        exact XQ.sub (σ' := ⟨[(4, .v Enc.bool false)], []⟩) (Sw.Sub.mk id (.cons rfl (.of_eq rfl) .nil) .nil rfl) (XQ.ret1 hF noR rfl (RV.tmp rfl) .nil rfl)
      · replace h := cond_f hc22 h
        refine W.condF rfl hc22 ?_
        refine W.skip ?_
        refine W.fall ?_
        refine W.reg (σ' := ⟨[(0, .v (Enc.sl (Enc.int .i64)) a0), (1, .v (Enc.sl (Enc.int .i64)) a1), (5, .v (Enc.int .i64) (ar .add .i64 s12 (1 : Int)))], []⟩) (J.cons (.none rfl) (JO.move rfl) rfl rfl (J.cons (.none rfl) (JO.arith rfl rfl rfl) rfl rfl (J.cons (.none rfl) (JO.assign rfl) rfl rfl (J.fin (Sw.Sub.mk id (.cons rfl (.of_eq rfl) (.cons rfl (.of_eq rfl) (.cons rfl (.of_eq rfl) .nil))) .nil rfl))))) ?_
        obtain rfl := Option.some.inj h
        exact W.next (Sw.Sub.mk id (.cons rfl (.of_eq rfl) (.cons rfl (.of_eq rfl) (.cons rfl (.of_eq rfl) .nil))) .nil rfl)
    · replace h := cond_f hc19 h
      refine W.condF rfl hc19 ?_
      refine W.exit ?_
      obtain rfl := Option.some.inj h
      exact XQ.brk (Sw.Sub.mk id .nil .nil rfl)
set_option maxRecDepth 100000 in
set_option maxHeartbeats 4000000 in
theorem con_ref_SameBlocks {a0 : (List Blk)} {a1 : (List Blk)} {r : Bool} (h : m_ref_SameBlocks a0 a1 = some r) :
    Con Try.prog 86 [.v (Enc.sl eBlk) a0, .v (Enc.sl eBlk) a1] (.v Enc.bool r) [] := by
  refine Con.of Try.func86 rfl Try.ntmps86 rfl ?_
  intro S w hF
  unfold m_ref_SameBlocks at h
  refine W.seq ?_
  refine W.reg (σ' := ⟨[(0, .v (Enc.sl eBlk) a0), (1, .v (Enc.sl eBlk) a1)], []⟩) (J.cons (.none rfl) (JO.assign rfl) rfl rfl (J.fin (Sw.Sub.mk id (.cons rfl (.of_eq rfl) (.cons rfl (.of_eq rfl) .nil)) .nil rfl))) ?_
  refine W.seq ?_
  refine W.seq ?_
  refine W.reg (σ' := ⟨[(0, .v (Enc.sl eBlk) a0), (1, .v (Enc.sl eBlk) a1), (10, .v Enc.bool (cm .neq (a0.length : Int) (a1.length : Int)))], []⟩) (J.cons (.none rfl) (JO.move rfl) rfl rfl (J.cons (.none rfl) (JO.len rfl Try.runUnderlying26) rfl rfl (J.cons (.none rfl) (JO.move rfl) rfl rfl (J.cons (.none rfl) (JO.len rfl Try.runUnderlying26) rfl rfl (J.cons (.none rfl) (JO.cmp rfl rfl rfl) rfl rfl (J.fin (Sw.Sub.mk id (.cons rfl (.of_eq rfl) (.cons rfl (.of_eq rfl) (.cons rfl (.of_eq rfl) .nil))) .nil rfl))))))) ?_
  rcases Bool.eq_false_or_eq_true (cm .neq (a0.length : Int) (a1.length : Int)) with hc1 | hc1
  · replace h := cond_t hc1 h
    refine W.condT rfl hc1 ?_
    refine W.seq ?_
    refine W.reg (σ' := ⟨[(4, .v Enc.bool false)], []⟩) (J.cons (.none rfl) (JO.assign rfl) rfl rfl (J.fin (Sw.Sub.mk id (.cons rfl (.of_eq rfl) .nil) .nil rfl))) ?_
    refine W.ret ?_
    obtain rfl := Option.some.inj h
    exact XQ.sub (σ' := ⟨[(4, .v Enc.bool false)], []⟩) (Sw.Sub.mk id (.cons rfl (.of_eq rfl) .nil) .nil rfl) (XQ.ret1 hF noR rfl (RV.tmp rfl) .nil rfl)
  · replace h := cond_f hc1 h
    refine W.condF rfl hc1 ?_
    refine W.skip ?_
    refine W.seq ?_
    refine W.seq ?_
    refine W.reg (σ' := ⟨[(0, .v (Enc.sl eBlk) a0), (1, .v (Enc.sl eBlk) a1), (5, .v (Enc.int .i64) (0 : Int))], []⟩) (J.cons (.none rfl) (JO.assign rfl) rfl rfl (J.fin (Sw.Sub.mk id (.cons rfl (.of_eq rfl) (.cons rfl (.of_eq rfl) (.cons rfl (.of_eq rfl) .nil))) .nil rfl))) ?_
    obtain ⟨o17, ho17, hb17, hr17⟩ := lp_elim h
    refine W.lp (σs := fun s12 : Int => ⟨[(0, .v (Enc.sl eBlk) a0), (1, .v (Enc.sl eBlk) a1), (5, .v (Enc.int .i64) s12)], []⟩) (fun x18 : Unit => ⟨[], []⟩) ho17 (Sw.Sub.mk id (.cons rfl (.of_eq rfl) (.cons rfl (.of_eq rfl) (.cons rfl (.of_eq rfl) .nil))) .nil rfl) ?_ ?_
    · intro x18 hy
      have h := hb17 _ hy
      refine W.seq ?_
      refine W.reg (σ' := ⟨[(4, .v Enc.bool true)], []⟩) (J.cons (.none rfl) (JO.assign rfl) rfl rfl (J.fin (Sw.Sub.mk id (.cons rfl (.of_eq rfl) .nil) .nil rfl))) ?_
      refine W.ret ?_
      obtain rfl := Option.some.inj h
      exact XQ.sub (σ' := ⟨[(4, .v Enc.bool true)], []⟩) (Sw.Sub.mk id (.cons rfl (.of_eq rfl) .nil) .nil rfl) (XQ.ret1 hF noR rfl (RV.tmp rfl) .nil rfl)
    intro s12 r17 h
    refine W.seq ?_
    refine W.seq ?_
    refine W.reg (σ' := ⟨[(0, .v (Enc.sl eBlk) a0), (1, .v (Enc.sl eBlk) a1), (5, .v (Enc.int .i64) s12), (14, .v Enc.bool (cm .lss s12 (a0.length : Int)))], []⟩) (J.cons (.none rfl) (JO.move rfl) rfl rfl (J.cons (.none rfl) (JO.move rfl) rfl rfl (J.cons (.none rfl) (JO.len rfl Try.runUnderlying26) rfl rfl (J.cons (.none rfl) (JO.cmp rfl rfl rfl) rfl rfl (J.fin (Sw.Sub.mk id (.cons rfl (.of_eq rfl) (.cons rfl (.of_eq rfl) (.cons rfl (.of_eq rfl) (.cons rfl (.of_eq rfl) .nil)))) .nil rfl)))))) ?_
    rcases Bool.eq_false_or_eq_true (cm .lss s12 (a0.length : Int)) with hc19 | hc19
    · replace h := cond_t hc19 h
      refine W.condT rfl hc19 ?_
      refine W.skip ?_
      refine W.seq ?_
      refine W.block ?_
      refine W.seq ?_
      obtain ⟨z20, hz20, h⟩ := bind_e h
      obtain ⟨z21, hz21, h⟩ := bind_e h
      refine W.dr (σ' := ⟨[(0, .v (Enc.sl eBlk) a0), (1, .v (Enc.sl eBlk) a1), (5, .v (Enc.int .i64) s12), (25, .v Enc.bool (!decide (z20 = z21)))], []⟩) 9 mixed (by exact (.cons (.none rfl) (JO.move rfl) rfl rfl (.cons (.none rfl) (JO.move rfl) rfl rfl (.cons (.none rfl) (JO.idx hz20 rfl rfl Try.runUnderlying26 Try.sizeOf56) rfl rfl (.cons (.none rfl) (JO.loadPst rfl Try.isAgg56 Try.sizeOf56) rfl rfl (.cons (.none rfl) (JO.move rfl) rfl rfl (.cons (.none rfl) (JO.move rfl) rfl rfl (.cons (.none rfl) (JO.idx hz21 rfl rfl Try.runUnderlying26 Try.sizeOf56) rfl rfl (.cons (.none rfl) (JO.loadPst rfl Try.isAgg56 Try.sizeOf56) rfl rfl (.cons (.none rfl) (JO.neV eq56 rfl rfl Try.eqGuardType56 rfl rfl) rfl rfl .nil)))))))))) (by exact (J.fin (Sw.Sub.mk id (.cons rfl (.of_eq rfl) (.cons rfl (.of_eq rfl) (.cons rfl (.of_eq rfl) (.cons rfl (.of_eq rfl) .nil)))) .nil rfl))) (by decide +kernel) (by decide +kernel) (by decide +kernel) ?_
      rcases Bool.eq_false_or_eq_true (!decide (z20 = z21)) with hc22 | hc22
      · replace h := cond_t hc22 h
        refine W.condT rfl hc22 ?_
        refine W.seq ?_
        refine W.reg (σ' := ⟨[(4, .v Enc.bool false)], []⟩) (J.cons (.none rfl) (JO.assign rfl) rfl rfl (J.fin (Sw.Sub.mk id (.cons rfl (.of_eq rfl) .nil) .nil rfl))) ?_
        refine W.ret ?_
        refine XQ.ret ?_
        obtain rfl := Option.some.inj h
        refine XQ.lret fun ho => ?_
        obtain rfl := hr17 _ ho
        exact XQ.sub (σ' := ⟨[(4, .v Enc.bool false)], []⟩) (Sw.Sub.mk id (.cons rfl (.of_eq rfl) .nil) .nil rfl) (XQ.ret1 hF noR rfl (RV.tmp rfl) .nil rfl)
      · replace h := cond_f hc22 h
        refine W.condF rfl hc22 ?_
        refine W.skip ?_
        refine W.fall ?_
        refine W.reg (σ' := ⟨[(0, .v (Enc.sl eBlk) a0), (1, .v (Enc.sl eBlk) a1), (5, .v (Enc.int .i64) (ar .add .i64 s12 (1 : Int)))], []⟩) (J.cons (.none rfl) (JO.move rfl) rfl rfl (J.cons (.none rfl) (JO.arith rfl rfl rfl) rfl rfl (J.cons (.none rfl) (JO.assign rfl) rfl rfl (J.fin (Sw.Sub.mk id (.cons rfl (.of_eq rfl) (.cons rfl (.of_eq rfl) (.cons rfl (.of_eq rfl) .nil))) .nil rfl))))) ?_
        obtain rfl := Option.some.inj h
        exact W.next (Sw.Sub.mk id (.cons rfl (.of_eq rfl) (.cons rfl (.of_eq rfl) (.cons rfl (.of_eq rfl) .nil))) .nil rfl)
    · replace h := cond_f hc19 h
      refine W.condF rfl hc19 ?_
      refine W.exit ?_
      obtain rfl := Option.some.inj h
      exact XQ.brk (Sw.Sub.mk id .nil .nil rfl)
set_option maxRecDepth 100000 in
set_option maxHeartbeats 4000000 in
theorem con_ref_SameFrame {a0 : (Int × (List Int) × (List Blk))} {a1 : (Int × (List Int) × (List Blk))} {r : Bool} (h : m_ref_SameFrame a0 a1 = some r) :
    Con Try.prog 38 [.v (Enc.pr (Enc.int .i64) (Enc.pr (Enc.sl (Enc.int .i64)) (Enc.sl eBlk))) a0, .v (Enc.pr (Enc.int .i64) (Enc.pr (Enc.sl (Enc.int .i64)) (Enc.sl eBlk))) a1] (.v Enc.bool r) [] := by
  refine Con.of Try.func38 rfl Try.ntmps38 rfl ?_
  intro S w hF
  unfold m_ref_SameFrame at h
  refine W.seq ?_
  refine W.reg (σ' := ⟨[(2, .ptr 101 0), (3, .ptr 102 0)], [(101, .box 28 [.v (Enc.int .i64) a0.1, .v (Enc.sl (Enc.int .i64)) a0.2.1, .v (Enc.sl eBlk) a0.2.2]), (102, .box 28 [.v (Enc.int .i64) a1.1, .v (Enc.sl (Enc.int .i64)) a1.2.1, .v (Enc.sl eBlk) a1.2.2])]⟩) (J.cons (.none rfl) (JO.box 101 rfl (.prm (.one _ _) (.prm (.one _ _) (.one _ _))) rfl) rfl rfl (J.cons (.none rfl) (JO.box 102 rfl (.prm (.one _ _) (.prm (.one _ _) (.one _ _))) rfl) rfl rfl (J.cons (.none rfl) (JO.assign rfl) rfl rfl (J.fin (Sw.Sub.mk id (.cons rfl (.of_eq rfl) (.cons rfl (.of_eq rfl) .nil)) (.box rfl (.cons (.of_eq rfl) (.cons (.of_eq rfl) (.cons (.of_eq rfl) .nil))) (.box rfl (.cons (.of_eq rfl) (.cons (.of_eq rfl) (.cons (.of_eq rfl) .nil))) .nil)) rfl))))) ?_
  refine W.seq ?_
  obtain ⟨x5, hx, h⟩ := bind_e h
  refine W.reg (σ' := ⟨[(4, .v Enc.bool x5)], []⟩) ?_ ?_
  · rcases Bool.eq_false_or_eq_true (cm .eql a0.1 a1.1) with hc6 | hc6
    · replace hx := cond_t hc6 hx
      obtain ⟨v7, hv7, hx⟩ := bind_e hx
      rcases Bool.eq_false_or_eq_true v7 with hc8 | hc8
      · replace hx := cond_t hc8 hx
        obtain ⟨v9, hv9, hx⟩ := bind_e hx
        obtain rfl := Option.some.inj hx
        exact (J.cons (.none rfl) (JO.fieldPtr 0 rfl Try.runUnderlying28 rfl Try.sizeOf3 rfl rfl) rfl rfl (J.cons (.none rfl) (JO.load rfl rfl rfl Try.isAgg3 Try.sizeOf3) rfl rfl (J.cons (.none rfl) (JO.fieldPtr 0 rfl Try.runUnderlying28 rfl Try.sizeOf3 rfl rfl) rfl rfl (J.cons (.none rfl) (JO.load rfl rfl rfl Try.isAgg3 Try.sizeOf3) rfl rfl (J.cons (.none rfl) (JO.cmp rfl rfl rfl) rfl rfl (J.cons (.none rfl) (JO.move rfl) rfl rfl (J.cons (GK.met 10 rfl rfl rfl hc6) (JO.fieldPtr 1 rfl Try.runUnderlying28 rfl Try.sizeOf25 rfl rfl) rfl rfl (J.cons (GK.met 10 rfl rfl rfl hc6) (JO.load rfl rfl rfl Try.isAgg25 Try.sizeOf25) rfl rfl (J.cons (GK.met 10 rfl rfl rfl hc6) (JO.fieldPtr 1 rfl Try.runUnderlying28 rfl Try.sizeOf25 rfl rfl) rfl rfl (J.cons (GK.met 10 rfl rfl rfl hc6) (JO.load rfl rfl rfl Try.isAgg25 Try.sizeOf25) rfl rfl (J.cons (GK.met 10 rfl rfl rfl hc6) (JO.call0 (con_ref_SameInts hv7) Try.call83 (.cons (.dir rfl) (.cons (.dir rfl) .nil))) rfl rfl (J.cons (.none rfl) (JO.pT hc6 rfl rfl) rfl rfl (J.cons (.none rfl) (JO.move rfl) rfl rfl (J.cons (GK.met 17 rfl rfl rfl hc8) (JO.fieldPtr 2 rfl Try.runUnderlying28 rfl Try.sizeOf26 rfl rfl) rfl rfl (J.cons (GK.met 17 rfl rfl rfl hc8) (JO.load rfl rfl rfl Try.isAgg26 Try.sizeOf26) rfl rfl (J.cons (GK.met 17 rfl rfl rfl hc8) (JO.fieldPtr 2 rfl Try.runUnderlying28 rfl Try.sizeOf26 rfl rfl) rfl rfl (J.cons (GK.met 17 rfl rfl rfl hc8) (JO.load rfl rfl rfl Try.isAgg26 Try.sizeOf26) rfl rfl (J.cons (GK.met 17 rfl rfl rfl hc8) (JO.call0 (con_ref_SameBlocks hv9) Try.call86 (.cons (.dir rfl) (.cons (.dir rfl) .nil))) rfl rfl (J.cons (.none rfl) (JO.pT hc8 rfl rfl) rfl rfl (J.cons (.none rfl) (JO.assign rfl) rfl rfl (J.fin (Sw.Sub.mk id (.cons rfl (.of_eq rfl) .nil) .nil rfl))))))))))))))))))))))
      · replace hx := cond_f hc8 hx
        obtain rfl := Option.some.inj hx
        exact (J.cons (.none rfl) (JO.fieldPtr 0 rfl Try.runUnderlying28 rfl Try.sizeOf3 rfl rfl) rfl rfl (J.cons (.none rfl) (JO.load rfl rfl rfl Try.isAgg3 Try.sizeOf3) rfl rfl (J.cons (.none rfl) (JO.fieldPtr 0 rfl Try.runUnderlying28 rfl Try.sizeOf3 rfl rfl) rfl rfl (J.cons (.none rfl) (JO.load rfl rfl rfl Try.isAgg3 Try.sizeOf3) rfl rfl (J.cons (.none rfl) (JO.cmp rfl rfl rfl) rfl rfl (J.cons (.none rfl) (JO.move rfl) rfl rfl (J.cons (GK.met 10 rfl rfl rfl hc6) (JO.fieldPtr 1 rfl Try.runUnderlying28 rfl Try.sizeOf25 rfl rfl) rfl rfl (J.cons (GK.met 10 rfl rfl rfl hc6) (JO.load rfl rfl rfl Try.isAgg25 Try.sizeOf25) rfl rfl (J.cons (GK.met 10 rfl rfl rfl hc6) (JO.fieldPtr 1 rfl Try.runUnderlying28 rfl Try.sizeOf25 rfl rfl) rfl rfl (J.cons (GK.met 10 rfl rfl rfl hc6) (JO.load rfl rfl rfl Try.isAgg25 Try.sizeOf25) rfl rfl (J.cons (GK.met 10 rfl rfl rfl hc6) (JO.call0 (con_ref_SameInts hv7) Try.call83 (.cons (.dir rfl) (.cons (.dir rfl) .nil))) rfl rfl (J.cons (.none rfl) (JO.pT hc6 rfl rfl) rfl rfl (J.cons (.none rfl) (JO.move rfl) rfl rfl (J.left (GK.unmet 17 rfl rfl rfl hc8) rfl (J.left (GK.unmet 17 rfl rfl rfl hc8) rfl (J.left (GK.unmet 17 rfl rfl rfl hc8) rfl (J.left (GK.unmet 17 rfl rfl rfl hc8) rfl (J.left (GK.unmet 17 rfl rfl rfl hc8) rfl (J.cons (.none rfl) (JO.pF hc8 rfl rfl) rfl rfl (J.cons (.none rfl) (JO.assign rfl) rfl rfl (J.fin (Sw.Sub.mk id (.cons rfl (.of_eq rfl) .nil) .nil rfl))))))))))))))))))))))
    · replace hx := cond_f hc6 hx
      obtain rfl := Option.some.inj hx
      exact (J.cons (.none rfl) (JO.fieldPtr 0 rfl Try.runUnderlying28 rfl Try.sizeOf3 rfl rfl) rfl rfl (J.cons (.none rfl) (JO.load rfl rfl rfl Try.isAgg3 Try.sizeOf3) rfl rfl (J.cons (.none rfl) (JO.fieldPtr 0 rfl Try.runUnderlying28 rfl Try.sizeOf3 rfl rfl) rfl rfl (J.cons (.none rfl) (JO.load rfl rfl rfl Try.isAgg3 Try.sizeOf3) rfl rfl (J.cons (.none rfl) (JO.cmp rfl rfl rfl) rfl rfl (J.cons (.none rfl) (JO.move rfl) rfl rfl (J.left (GK.unmet 10 rfl rfl rfl hc6) rfl (J.left (GK.unmet 10 rfl rfl rfl hc6) rfl (J.left (GK.unmet 10 rfl rfl rfl hc6) rfl (J.left (GK.unmet 10 rfl rfl rfl hc6) rfl (J.left (GK.unmet 10 rfl rfl rfl hc6) rfl (J.cons (.none rfl) (JO.pF hc6 rfl rfl) rfl rfl (J.cons (.none rfl) (JO.move rfl) rfl rfl (J.left (GK.unmet 17 rfl rfl rfl rfl) rfl (J.left (GK.unmet 17 rfl rfl rfl rfl) rfl (J.left (GK.unmet 17 rfl rfl rfl rfl) rfl (J.left (GK.unmet 17 rfl rfl rfl rfl) rfl (J.left (GK.unmet 17 rfl rfl rfl rfl) rfl (J.cons (.none rfl) (JO.pF rfl rfl rfl) rfl rfl (J.cons (.none rfl) (JO.assign rfl) rfl rfl (J.fin (Sw.Sub.mk id (.cons rfl (.of_eq rfl) .nil) .nil rfl))))))))))))))))))))))
  refine W.ret ?_
  obtain rfl := Option.some.inj h
  exact XQ.sub (σ' := ⟨[(4, .v Enc.bool x5)], []⟩) (Sw.Sub.mk id (.cons rfl (.of_eq rfl) .nil) .nil rfl) (XQ.ret1 hF noR rfl (RV.tmp rfl) .nil rfl)
set_option maxRecDepth 100000 in
set_option maxHeartbeats 4000000 in
theorem con_ref_Pick {a0 : Int} {a1 : Int} {r : Int} (h : m_ref_Pick a0 a1 = some r) :
    Con Try.prog 23 [.v (Enc.int .i64) a0, .v (Enc.int .i64) a1] (.v (Enc.int .i64) r) [] := by
  refine Con.of Try.func23 rfl Try.ntmps23 rfl ?_
  intro S w hF
  unfold m_ref_Pick at h
  refine W.seq ?_
  refine W.reg (σ' := ⟨[(0, .v (Enc.int .i64) a0), (1, .v (Enc.int .i64) a1)], []⟩) (J.cons (.none rfl) (JO.assign rfl) rfl rfl (J.fin (Sw.Sub.mk id (.cons rfl (.of_eq rfl) (.cons rfl (.of_eq rfl) .nil)) .nil rfl))) ?_
  refine W.seq ?_
  refine W.seq ?_
  refine W.reg (σ' := ⟨[(0, .v (Enc.int .i64) a0), (1, .v (Enc.int .i64) a1), (6, .v Enc.bool (cm .lss a0 (0 : Int)))], []⟩) (J.cons (.none rfl) (JO.move rfl) rfl rfl (J.cons (.none rfl) (JO.cmp rfl rfl rfl) rfl rfl (J.fin (Sw.Sub.mk id (.cons rfl (.of_eq rfl) (.cons rfl (.of_eq rfl) (.cons rfl (.of_eq rfl) .nil))) .nil rfl)))) ?_
  obtain ⟨k2, hk2, h⟩ := jp_elim h
  refine W.jn (fun x3 : Int => ⟨[(0, .v (Enc.int .i64) x3), (1, .v (Enc.int .i64) a1)], []⟩) (fun x => k2 x = some r) rfl ?_ ?_ ?_
  · intro x3 h
    rw [hk2] at h
    refine W.seq ?_
    obtain ⟨u4, hu4, h⟩ := bind_e h
    refine W.reg (σ' := ⟨[(4, .v (Enc.int .i64) (ar .rem .i64 x3 a1))], []⟩) (J.cons (.none rfl) (JO.move rfl) rfl rfl (J.cons (.none rfl) (JO.move rfl) rfl rfl (J.cons (.none rfl) (JO.div (.inr rfl) (nz_some hu4) rfl rfl) rfl rfl (J.cons (.none rfl) (JO.assign rfl) rfl rfl (J.fin (Sw.Sub.mk id (.cons rfl (.of_eq rfl) .nil) .nil rfl)))))) ?_
    refine W.ret ?_
    obtain rfl := Option.some.inj h
    exact XQ.sub (σ' := ⟨[(4, .v (Enc.int .i64) (ar .rem .i64 x3 a1))], []⟩) (Sw.Sub.mk id (.cons rfl (.of_eq rfl) .nil) .nil rfl) (XQ.ret1 hF noR rfl (RV.tmp rfl) .nil rfl)
  · intro hc1
    replace h := cond_t hc1 h
    refine W.reg (σ' := ⟨[(0, .v (Enc.int .i64) (IntKind.wrap .i64 (0 - (ar .add .i64 a0 (1 : Int))))), (1, .v (Enc.int .i64) a1)], []⟩) (J.cons (.none rfl) (JO.move rfl) rfl rfl (J.cons (.none rfl) (JO.arith rfl rfl rfl) rfl rfl (J.cons (.none rfl) (JO.neg rfl) rfl rfl (J.cons (.none rfl) (JO.assign rfl) rfl rfl (J.fin (Sw.Sub.mk id (.cons rfl (.of_eq rfl) (.cons rfl (.of_eq rfl) .nil)) .nil rfl)))))) ?_
    exact W.jfall h (Sw.Sub.mk id (.cons rfl (.of_eq rfl) (.cons rfl (.of_eq rfl) .nil)) .nil rfl)
  · intro hc1
    replace h := cond_f hc1 h
    refine W.skip ?_
    exact W.jfall h (Sw.Sub.mk id (.cons rfl (.of_eq rfl) (.cons rfl (.of_eq rfl) .nil)) .nil rfl)
set_option maxRecDepth 100000 in
set_option maxHeartbeats 4000000 in
theorem con_top_TopFrame {a0 : (Int × (List Int) × (List Blk))} {a1 : Int} {a2 : Int} {r : Bool} (h : m_top_TopFrame a0 a1 a2 = some r) :
    Con Try.prog 8 [.v (Enc.pr (Enc.int .i64) (Enc.pr (Enc.sl (Enc.int .i64)) (Enc.sl eBlk))) a0, .v (Enc.int .i64) a1, .v (Enc.int .i64) a2] (.v Enc.bool r) [] := by
  refine Con.of Try.func8 rfl Try.ntmps8 rfl ?_
  intro S w hF
  unfold m_top_TopFrame at h
  refine W.seq ?_
  refine W.reg (σ' := ⟨[(1, .v (Enc.int .i64) a1), (2, .v (Enc.int .i64) a2), (3, .ptr 101 0)], [(101, .box 28 [.v (Enc.int .i64) a0.1, .v (Enc.sl (Enc.int .i64)) a0.2.1, .v (Enc.sl eBlk) a0.2.2])]⟩) (J.cons (.none rfl) (JO.box 101 rfl (.prm (.one _ _) (.prm (.one _ _) (.one _ _))) rfl) rfl rfl (J.cons (.none rfl) (JO.assign rfl) rfl rfl (J.fin (Sw.Sub.mk id (.cons rfl (.of_eq rfl) (.cons rfl (.of_eq rfl) (.cons rfl (.of_eq rfl) .nil))) (.box rfl (.cons (.of_eq rfl) (.cons (.of_eq rfl) (.cons (.of_eq rfl) .nil))) .nil) rfl)))) ?_
  refine W.seq ?_
  obtain ⟨v1, hv1, h⟩ := bind_e h
  refine W.reg (σ' := ⟨[(1, .v (Enc.int .i64) a1), (2, .v (Enc.int .i64) a2), (3, .ptr 101 0), (7, .ref 102000), (8, .v (Enc.err ET) v1.2)], [(101, .box 28 [.v (Enc.int .i64) a0.1, .v (Enc.sl (Enc.int .i64)) a0.2.1, .v (Enc.sl eBlk) a0.2.2]), (102000, .arr 5 (Enc.int .u8) v1.1)]⟩) (J.cons (.none rfl) (JO.loadAll rfl rfl (.prm (.one _ _) (.prm (.one _ _) (.one _ _))) Try.isAgg28 Try.sizeOf28) rfl rfl (J.cons (.none rfl) (JO.call 102000 (con_frame_Pack hv1) Try.call45 (.cons (.dir rfl) .nil) rfl) rfl rfl (J.cons (.none rfl) (JO.move rfl) rfl rfl (J.cons (.none rfl) (JO.extract rfl rfl) rfl rfl (J.cons (.none rfl) (JO.extract rfl rfl) rfl rfl (J.cons (.none rfl) (JO.assign rfl) rfl rfl (J.cons (.none rfl) (JO.assign rfl) rfl rfl (J.fin (Sw.Sub.mk id (.cons rfl (.of_eq rfl) (.cons rfl (.of_eq rfl) (.cons rfl (.of_eq rfl) (.cons rfl (.of_eq rfl) (.cons rfl (.of_eq rfl) .nil))))) (.box rfl (.cons (.of_eq rfl) (.cons (.of_eq rfl) (.cons (.of_eq rfl) .nil))) (.arr rfl .nil)) rfl))))))))) ?_
  refine W.seq ?_
  obtain ⟨v2, hv2, h⟩ := bind_e h
  refine W.reg (σ' := ⟨[(1, .v (Enc.int .i64) a1), (2, .v (Enc.int .i64) a2), (3, .ptr 101 0), (7, .ref 102000), (8, .v (Enc.err ET) v1.2), (9, .ptr 104 0), (10, .v (Enc.err ET) v2.2)], [(101, .box 28 [.v (Enc.int .i64) a0.1, .v (Enc.sl (Enc.int .i64)) a0.2.1, .v (Enc.sl eBlk) a0.2.2]), (102000, .arr 5 (Enc.int .u8) v1.1), (104, .box 28 [.v (Enc.int .i64) v2.1.1, .ref 103000, .ref 103001]), (103000, .arr 3 (Enc.int .i64) v2.1.2.1), (103001, .arr 56 eBlk v2.1.2.2)]⟩) (J.cons (.none rfl) (JO.lit (e := (Enc.int .u8)) Try.runUnderlying39 Try.sizeOf5 Try.zeroValue5 rfl rfl rfl rfl (.cons (.dir rfl) (.cons (.dir rfl) (.cons (.dir rfl) (.cons (.dir rfl) (.cons (.dir rfl) (.cons (.dir rfl) .nil))))))) rfl rfl (J.cons (.none rfl) (JO.call 103000 (con_frame_Unpack hv2) Try.call46 (.cons (.dir rfl) .nil) rfl) rfl rfl (J.cons (.none rfl) (JO.move rfl) rfl rfl (J.cons (.none rfl) (JO.extract rfl rfl) rfl rfl (J.cons (.none rfl) (JO.extract rfl rfl) rfl rfl (J.cons (.none rfl) (JO.alloc 104 Try.zeroValue28 rfl (.cons (Z.int .i64) (.cons (Z.sl (Enc.int .i64)) (.cons (Z.sl eBlk) .nil))) rfl) rfl rfl (J.mut (.none rfl) (JM.storeAgg rfl rfl rfl rfl rfl rfl Try.sizeOf28) (J.cons (.none rfl) (JO.assign rfl) rfl rfl (J.fin (Sw.Sub.mk id (.cons rfl (.of_eq rfl) (.cons rfl (.of_eq rfl) (.cons rfl (.of_eq rfl) (.cons rfl (.of_eq rfl) (.cons rfl (.of_eq rfl) (.cons rfl (.of_eq rfl) (.cons rfl (.of_eq rfl) .nil))))))) (.box rfl (.cons (.of_eq rfl) (.cons (.of_eq rfl) (.cons (.of_eq rfl) .nil))) (.arr rfl (.box rfl (.cons (.of_eq rfl) (.cons (.of_eq rfl) (.cons (.of_eq rfl) .nil))) (.arr rfl (.arr rfl .nil))))) rfl)))))))))) ?_
  refine W.seq ?_
  refine W.seq ?_
  obtain ⟨x5, hx, h⟩ := bind_e h
  refine W.reg (σ' := ⟨[(1, .v (Enc.int .i64) a1), (2, .v (Enc.int .i64) a2), (3, .ptr 101 0), (7, .ref 102000), (8, .v (Enc.err ET) v1.2), (34, .v Enc.bool x5)], [(101, .box 28 [.v (Enc.int .i64) a0.1, .v (Enc.sl (Enc.int .i64)) a0.2.1, .v (Enc.sl eBlk) a0.2.2]), (102000, .arr 5 (Enc.int .u8) v1.1)]⟩) ?_ ?_
  · rcases Bool.eq_false_or_eq_true (Option.isSome v2.2) with hc6 | hc6
    · replace hx := cond_t hc6 hx
      obtain rfl := Option.some.inj hx
      exact (J.cons (.none rfl) (JO.move rfl) rfl rfl (J.cons (.none rfl) (JO.errNe Try.runUnderlying33 rfl) rfl rfl (J.cons (.none rfl) (JO.move rfl) rfl rfl (J.left (GK.unmet 24 rfl rfl rfl hc6) rfl (J.left (GK.unmet 24 rfl rfl rfl hc6) rfl (J.left (GK.unmet 24 rfl rfl rfl hc6) rfl (J.cons (.none rfl) (JO.pT hc6 rfl rfl) rfl rfl (J.cons (.none rfl) (JO.move rfl) rfl rfl (J.left (GK.unmet 29 rfl rfl rfl rfl) rfl (J.left (GK.unmet 29 rfl rfl rfl rfl) rfl (J.left (GK.unmet 29 rfl rfl rfl rfl) rfl (J.left (GK.unmet 29 rfl rfl rfl rfl) rfl (J.cons (.none rfl) (JO.pT rfl rfl rfl) rfl rfl (J.fin (Sw.Sub.mk id (.cons rfl (.of_eq rfl) (.cons rfl (.of_eq rfl) (.cons rfl (.of_eq rfl) (.cons rfl (.of_eq rfl) (.cons rfl (.of_eq rfl) (.cons rfl (.of_eq rfl) .nil)))))) (.box rfl (.cons (.of_eq rfl) (.cons (.of_eq rfl) (.cons (.of_eq rfl) .nil))) (.arr rfl .nil)) rfl)))))))))))))))
    · replace hx := cond_f hc6 hx
      rcases Bool.eq_false_or_eq_true (cm .neq v2.1.1 (0 : Int)) with hc7 | hc7
      · replace hx := cond_t hc7 hx
        obtain rfl := Option.some.inj hx
        exact (J.cons (.none rfl) (JO.move rfl) rfl rfl (J.cons (.none rfl) (JO.errNe Try.runUnderlying33 rfl) rfl rfl (J.cons (.none rfl) (JO.move rfl) rfl rfl (J.cons (GK.met 24 rfl rfl rfl hc6) (JO.fieldPtr 0 rfl Try.runUnderlying28 rfl Try.sizeOf3 rfl rfl) rfl rfl (J.cons (GK.met 24 rfl rfl rfl hc6) (JO.load rfl rfl rfl Try.isAgg3 Try.sizeOf3) rfl rfl (J.cons (GK.met 24 rfl rfl rfl hc6) (JO.cmp rfl rfl rfl) rfl rfl (J.cons (.none rfl) (JO.pF hc6 rfl rfl) rfl rfl (J.cons (.none rfl) (JO.move rfl) rfl rfl (J.left (GK.unmet 29 rfl rfl rfl hc7) rfl (J.left (GK.unmet 29 rfl rfl rfl hc7) rfl (J.left (GK.unmet 29 rfl rfl rfl hc7) rfl (J.left (GK.unmet 29 rfl rfl rfl hc7) rfl (J.cons (.none rfl) (JO.pT hc7 rfl rfl) rfl rfl (J.fin (Sw.Sub.mk id (.cons rfl (.of_eq rfl) (.cons rfl (.of_eq rfl) (.cons rfl (.of_eq rfl) (.cons rfl (.of_eq rfl) (.cons rfl (.of_eq rfl) (.cons rfl (.of_eq rfl) .nil)))))) (.box rfl (.cons (.of_eq rfl) (.cons (.of_eq rfl) (.cons (.of_eq rfl) .nil))) (.arr rfl .nil)) rfl)))))))))))))))
      · replace hx := cond_f hc7 hx
        obtain rfl := Option.some.inj hx
        exact (J.cons (.none rfl) (JO.move rfl) rfl rfl (J.cons (.none rfl) (JO.errNe Try.runUnderlying33 rfl) rfl rfl (J.cons (.none rfl) (JO.move rfl) rfl rfl (J.cons (GK.met 24 rfl rfl rfl hc6) (JO.fieldPtr 0 rfl Try.runUnderlying28 rfl Try.sizeOf3 rfl rfl) rfl rfl (J.cons (GK.met 24 rfl rfl rfl hc6) (JO.load rfl rfl rfl Try.isAgg3 Try.sizeOf3) rfl rfl (J.cons (GK.met 24 rfl rfl rfl hc6) (JO.cmp rfl rfl rfl) rfl rfl (J.cons (.none rfl) (JO.pF hc6 rfl rfl) rfl rfl (J.cons (.none rfl) (JO.move rfl) rfl rfl (J.cons (GK.met 29 rfl rfl rfl hc7) (JO.fieldPtr 1 rfl Try.runUnderlying28 rfl Try.sizeOf25 rfl rfl) rfl rfl (J.cons (GK.met 29 rfl rfl rfl hc7) (JO.load rfl rfl rfl Try.isAgg25 Try.sizeOf25) rfl rfl (J.cons (GK.met 29 rfl rfl rfl hc7) (JO.lenR rfl rfl Try.runUnderlying25) rfl rfl (J.cons (GK.met 29 rfl rfl rfl hc7) (JO.cmp rfl rfl rfl) rfl rfl (J.cons (.none rfl) (JO.pF hc7 rfl rfl) rfl rfl (J.fin (Sw.Sub.mk id (.cons rfl (.of_eq rfl) (.cons rfl (.of_eq rfl) (.cons rfl (.of_eq rfl) (.cons rfl (.of_eq rfl) (.cons rfl (.of_eq rfl) (.cons rfl (.of_eq rfl) .nil)))))) (.box rfl (.cons (.of_eq rfl) (.cons (.of_eq rfl) (.cons (.of_eq rfl) .nil))) (.arr rfl .nil)) rfl)))))))))))))))
  rcases Bool.eq_false_or_eq_true x5 with hc8 | hc8
  · replace h := cond_t hc8 h
    refine W.condT rfl hc8 ?_
    refine W.seq ?_
    refine W.reg (σ' := ⟨[(6, .v Enc.bool false)], []⟩) (J.cons (.none rfl) (JO.assign rfl) rfl rfl (J.fin (Sw.Sub.mk id (.cons rfl (.of_eq rfl) .nil) .nil rfl))) ?_
    refine W.ret ?_
    obtain rfl := Option.some.inj h
    exact XQ.sub (σ' := ⟨[(6, .v Enc.bool false)], []⟩) (Sw.Sub.mk id (.cons rfl (.of_eq rfl) .nil) .nil rfl) (XQ.ret1 hF noR rfl (RV.tmp rfl) .nil rfl)
  · replace h := cond_f hc8 h
    refine W.condF rfl hc8 ?_
    refine W.skip ?_
    refine W.seq ?_
    refine W.seq ?_
    refine W.reg (σ' := ⟨[(1, .v (Enc.int .i64) a1), (2, .v (Enc.int .i64) a2), (3, .ptr 101 0), (7, .ref 102000), (36, .v Enc.bool (Option.isSome v1.2))], [(101, .box 28 [.v (Enc.int .i64) a0.1, .v (Enc.sl (Enc.int .i64)) a0.2.1, .v (Enc.sl eBlk) a0.2.2]), (102000, .arr 5 (Enc.int .u8) v1.1)]⟩) (J.cons (.none rfl) (JO.move rfl) rfl rfl (J.cons (.none rfl) (JO.errNe Try.runUnderlying33 rfl) rfl rfl (J.fin (Sw.Sub.mk id (.cons rfl (.of_eq rfl) (.cons rfl (.of_eq rfl) (.cons rfl (.of_eq rfl) (.cons rfl (.of_eq rfl) (.cons rfl (.of_eq rfl) .nil))))) (.box rfl (.cons (.of_eq rfl) (.cons (.of_eq rfl) (.cons (.of_eq rfl) .nil))) (.arr rfl .nil)) rfl)))) ?_
    rcases Bool.eq_false_or_eq_true (Option.isSome v1.2) with hc9 | hc9
    · replace h := cond_t hc9 h
      refine W.condT rfl hc9 ?_
      refine W.seq ?_
      obtain ⟨v10, hv10, h⟩ := bind_e h
      refine W.reg (σ' := ⟨[(6, .v Enc.bool (Option.isSome v10))], []⟩) (J.cons (.none rfl) (JO.loadAll rfl rfl (.prm (.one _ _) (.prm (.one _ _) (.one _ _))) Try.isAgg28 Try.sizeOf28) rfl rfl (J.cons (.none rfl) (JO.call0 (con_frame_Check hv10) Try.call47 (.cons (.dir rfl) .nil)) rfl rfl (J.cons (.none rfl) (JO.errNe Try.runUnderlying33 rfl) rfl rfl (J.cons (.none rfl) (JO.assign rfl) rfl rfl (J.fin (Sw.Sub.mk id (.cons rfl (.of_eq rfl) .nil) .nil rfl)))))) ?_
      refine W.ret ?_
      obtain rfl := Option.some.inj h
      exact XQ.sub (σ' := ⟨[(6, .v Enc.bool (Option.isSome v10))], []⟩) (Sw.Sub.mk id (.cons rfl (.of_eq rfl) .nil) .nil rfl) (XQ.ret1 hF noR rfl (RV.tmp rfl) .nil rfl)
    · replace h := cond_f hc9 h
      refine W.condF rfl hc9 ?_
      refine W.skip ?_
      refine W.seq ?_
      obtain ⟨v11, hv11, h⟩ := bind_e h
      refine W.reg (σ' := ⟨[(1, .v (Enc.int .i64) a1), (2, .v (Enc.int .i64) a2), (3, .ptr 101 0), (7, .ref 102000), (8, .v (Enc.err ET) v11.2), (11, .ptr 107 0)], [(101, .box 28 [.v (Enc.int .i64) a0.1, .v (Enc.sl (Enc.int .i64)) a0.2.1, .v (Enc.sl eBlk) a0.2.2]), (102000, .arr 5 (Enc.int .u8) v1.1), (107, .box 28 [.v (Enc.int .i64) v11.1.1, .ref 106000, .ref 106001]), (106000, .arr 3 (Enc.int .i64) v11.1.2.1), (106001, .arr 56 eBlk v11.1.2.2)]⟩) (J.cons (.none rfl) (JO.move rfl) rfl rfl (J.cons (.none rfl) (JO.callL 106000 (con_frame_Unpack hv11) Try.call46 (.cons (.ref rfl rfl) .nil) rfl (FlatS.tup (.agg (.v (.ref (.ref .nil))) (.v .nil))) (FlatN.arr (FlatN.arr FlatN.nil))) rfl rfl (J.cons (.none rfl) (JO.move rfl) rfl rfl (J.cons (.none rfl) (JO.extract rfl rfl) rfl rfl (J.cons (.none rfl) (JO.extract rfl rfl) rfl rfl (J.cons (.none rfl) (JO.alloc 107 Try.zeroValue28 rfl (.cons (Z.int .i64) (.cons (Z.sl (Enc.int .i64)) (.cons (Z.sl eBlk) .nil))) rfl) rfl rfl (J.mut (.none rfl) (JM.storeAgg rfl rfl rfl rfl rfl rfl Try.sizeOf28) (J.cons (.none rfl) (JO.assign rfl) rfl rfl (J.fin (Sw.Sub.mk id (.cons rfl (.of_eq rfl) (.cons rfl (.of_eq rfl) (.cons rfl (.of_eq rfl) (.cons rfl (.of_eq rfl) (.cons rfl (.of_eq rfl) (.cons rfl (.of_eq rfl) .nil)))))) (.box rfl (.cons (.of_eq rfl) (.cons (.of_eq rfl) (.cons (.of_eq rfl) .nil))) (.arr rfl (.box rfl (.cons (.of_eq rfl) (.cons (.of_eq rfl) (.cons (.of_eq rfl) .nil))) (.arr rfl (.arr rfl .nil))))) rfl)))))))))) ?_
      refine W.seq ?_
      refine W.seq ?_
      obtain ⟨x15, hx, h⟩ := bind_e h
      refine W.reg (σ' := ⟨[(1, .v (Enc.int .i64) a1), (2, .v (Enc.int .i64) a2), (7, .ref 102000), (57, .v Enc.bool x15)], [(102000, .arr 5 (Enc.int .u8) v1.1)]⟩) ?_ ?_
      · rcases Bool.eq_false_or_eq_true (Option.isSome v11.2) with hc16 | hc16
        · replace hx := cond_t hc16 hx
          obtain rfl := Option.some.inj hx
          exact (J.cons (.none rfl) (JO.move rfl) rfl rfl (J.cons (.none rfl) (JO.errNe Try.runUnderlying33 rfl) rfl rfl (J.cons (.none rfl) (JO.move rfl) rfl rfl (J.left (GK.unmet 47 rfl rfl rfl hc16) rfl (J.left (GK.unmet 47 rfl rfl rfl hc16) rfl (J.left (GK.unmet 47 rfl rfl rfl hc16) rfl (J.left (GK.unmet 47 rfl rfl rfl hc16) rfl (J.cons (.none rfl) (JO.pT hc16 rfl rfl) rfl rfl (J.cons (.none rfl) (JO.move rfl) rfl rfl (J.left (GK.unmet 53 rfl rfl rfl rfl) rfl (J.left (GK.unmet 53 rfl rfl rfl rfl) rfl (J.left (GK.unmet 53 rfl rfl rfl rfl) rfl (J.cons (.none rfl) (JO.pT rfl rfl rfl) rfl rfl (J.fin (Sw.Sub.mk id (.cons rfl (.of_eq rfl) (.cons rfl (.of_eq rfl) (.cons rfl (.of_eq rfl) (.cons rfl (.of_eq rfl) .nil)))) (.arr rfl .nil) rfl)))))))))))))))
        · replace hx := cond_f hc16 hx
          obtain ⟨v17, hv17, hx⟩ := bind_e hx
          rcases Bool.eq_false_or_eq_true (!v17) with hc18 | hc18
          · replace hx := cond_t hc18 hx
            obtain rfl := Option.some.inj hx
            exact (J.cons (.none rfl) (JO.move rfl) rfl rfl (J.cons (.none rfl) (JO.errNe Try.runUnderlying33 rfl) rfl rfl (J.cons (.none rfl) (JO.move rfl) rfl rfl (J.cons (GK.met 47 rfl rfl rfl hc16) (JO.loadAll rfl rfl (.prm (.one _ _) (.prm (.one _ _) (.one _ _))) Try.isAgg28 Try.sizeOf28) rfl rfl (J.cons (GK.met 47 rfl rfl rfl hc16) (JO.loadAgg rfl rfl rfl Try.isAgg28 Try.sizeOf28) rfl rfl (J.cons (GK.met 47 rfl rfl rfl hc16) (JO.callL0 (con_ref_SameFrame hv17) Try.call38 (.cons (.dir rfl) (.cons (.agg rfl (.same (.ref rfl rfl (.ref rfl rfl .nil))) (.prm (.one _ _) (.prm (.one _ _) (.one _ _))) rfl) .nil)) FlatS.v) rfl rfl (J.cons (GK.met 47 rfl rfl rfl hc16) (JO.not rfl) rfl rfl (J.cons (.none rfl) (JO.pF hc16 rfl rfl) rfl rfl (J.cons (.none rfl) (JO.move rfl) rfl rfl (J.left (GK.unmet 53 rfl rfl rfl hc18) rfl (J.left (GK.unmet 53 rfl rfl rfl hc18) rfl (J.left (GK.unmet 53 rfl rfl rfl hc18) rfl (J.cons (.none rfl) (JO.pT hc18 rfl rfl) rfl rfl (J.fin (Sw.Sub.mk id (.cons rfl (.of_eq rfl) (.cons rfl (.of_eq rfl) (.cons rfl (.of_eq rfl) (.cons rfl (.of_eq rfl) .nil)))) (.arr rfl .nil) rfl)))))))))))))))
          · replace hx := cond_f hc18 hx
            obtain rfl := Option.some.inj hx
            exact (J.cons (.none rfl) (JO.move rfl) rfl rfl (J.cons (.none rfl) (JO.errNe Try.runUnderlying33 rfl) rfl rfl (J.cons (.none rfl) (JO.move rfl) rfl rfl (J.cons (GK.met 47 rfl rfl rfl hc16) (JO.loadAll rfl rfl (.prm (.one _ _) (.prm (.one _ _) (.one _ _))) Try.isAgg28 Try.sizeOf28) rfl rfl (J.cons (GK.met 47 rfl rfl rfl hc16) (JO.loadAgg rfl rfl rfl Try.isAgg28 Try.sizeOf28) rfl rfl (J.cons (GK.met 47 rfl rfl rfl hc16) (JO.callL0 (con_ref_SameFrame hv17) Try.call38 (.cons (.dir rfl) (.cons (.agg rfl (.same (.ref rfl rfl (.ref rfl rfl .nil))) (.prm (.one _ _) (.prm (.one _ _) (.one _ _))) rfl) .nil)) FlatS.v) rfl rfl (J.cons (GK.met 47 rfl rfl rfl hc16) (JO.not rfl) rfl rfl (J.cons (.none rfl) (JO.pF hc16 rfl rfl) rfl rfl (J.cons (.none rfl) (JO.move rfl) rfl rfl (J.cons (GK.met 53 rfl rfl rfl hc18) (JO.move rfl) rfl rfl (J.cons (GK.met 53 rfl rfl rfl hc18) (JO.lenR rfl rfl Try.runUnderlying39) rfl rfl (J.cons (GK.met 53 rfl rfl rfl hc18) (JO.cmp rfl rfl rfl) rfl rfl (J.cons (.none rfl) (JO.pF hc18 rfl rfl) rfl rfl (J.fin (Sw.Sub.mk id (.cons rfl (.of_eq rfl) (.cons rfl (.of_eq rfl) (.cons rfl (.of_eq rfl) (.cons rfl (.of_eq rfl) .nil)))) (.arr rfl .nil) rfl)))))))))))))))
      rcases Bool.eq_false_or_eq_true x15 with hc19 | hc19
      · replace h := cond_t hc19 h
        refine W.condT rfl hc19 ?_
        refine W.seq ?_
        refine W.reg (σ' := ⟨[(6, .v Enc.bool false)], []⟩) (J.cons (.none rfl) (JO.assign rfl) rfl rfl (J.fin (Sw.Sub.mk id (.cons rfl (.of_eq rfl) .nil) .nil rfl))) ?_
        refine W.ret ?_
        obtain rfl := Option.some.inj h
        exact XQ.sub (σ' := ⟨[(6, .v Enc.bool false)], []⟩) (Sw.Sub.mk id (.cons rfl (.of_eq rfl) .nil) .nil rfl) (XQ.ret1 hF noR rfl (RV.tmp rfl) .nil rfl)
      · replace h := cond_f hc19 h
        refine W.condF rfl hc19 ?_
        refine W.skip ?_
        refine W.seq ?_
        obtain ⟨v20, hv20, h⟩ := bind_e h
        refine W.reg (σ' := ⟨[(1, .v (Enc.int .i64) v20), (2, .v (Enc.int .i64) a2), (7, .ref 102000)], [(102000, .arr 5 (Enc.int .u8) v1.1)]⟩) (J.cons (.none rfl) (JO.move rfl) rfl rfl (J.cons (.none rfl) (JO.move rfl) rfl rfl (J.cons (.none rfl) (JO.lenR rfl rfl Try.runUnderlying39) rfl rfl (J.cons (.none rfl) (JO.call0 (con_ref_Pick hv20) Try.call23 (.cons (.dir rfl) (.cons (.dir rfl) .nil))) rfl rfl (J.cons (.none rfl) (JO.assign rfl) rfl rfl (J.fin (Sw.Sub.mk id (.cons rfl (.of_eq rfl) (.cons rfl (.of_eq rfl) (.cons rfl (.of_eq rfl) .nil))) (.arr rfl .nil) rfl))))))) ?_
        refine W.seq ?_
        obtain ⟨z21, hz21, h⟩ := bind_e h
        obtain ⟨v22, hv22, h⟩ := bind_e h
        obtain ⟨z23, hz23, h⟩ := bind_e h
        refine W.dr (σ' := ⟨[(7, .ref 102000)], [(102000, .arr 5 (Enc.int .u8) (List.set v1.1 (Int.toNat v20) (ar .xor .u8 z21 (IntKind.wrap .u8 (ar .add .i64 (1 : Int) v22)))))]⟩) 12 mixed (by exact (.cons (.none rfl) (JO.move rfl) rfl rfl (.cons (.none rfl) (JO.move rfl) rfl rfl (.cons (.none rfl) (JO.move rfl) rfl rfl (.cons (.none rfl) (JO.move rfl) rfl rfl (.cons (.none rfl) (JO.idxR hz21 rfl rfl rfl Try.runUnderlying39 Try.sizeOf5) rfl rfl (.cons (.none rfl) (JO.loadEl (idx_some hz21).2.2 rfl rfl .here Try.isAgg5 Try.sizeOf5) rfl rfl (.cons (.none rfl) (JO.move rfl) rfl rfl (.cons (.none rfl) (JO.call0 (con_ref_Pick hv22) Try.call23 (.cons (.dir rfl) (.cons (.dir rfl) .nil))) rfl rfl (.cons (.none rfl) (JO.arith rfl rfl rfl) rfl rfl (.cons (.none rfl) (JO.conv Try.runUnderlying3 Try.runUnderlying5 rfl) rfl rfl (.cons (.none rfl) (JO.arith rfl rfl rfl) rfl rfl (.cons (.none rfl) (JO.idxR hz23 rfl rfl rfl Try.runUnderlying39 Try.sizeOf5) rfl rfl .nil))))))))))))) (by exact (J.mut (.none rfl) (JM.storeEl (idx_some hz23).2.2 rfl rfl rfl Try.sizeOf5) (J.fin (Sw.Sub.mk id (.cons rfl (.of_eq rfl) .nil) (.arr rfl .nil) rfl)))) (by decide +kernel) (by decide +kernel) (by decide +kernel) ?_
        refine W.seq ?_
        obtain ⟨v24, hv24, h⟩ := bind_e h
        refine W.reg (σ' := ⟨[(8, .v (Enc.err ET) v24.2)], []⟩) (J.cons (.none rfl) (JO.move rfl) rfl rfl (J.cons (.none rfl) (JO.callL 112000 (con_frame_Unpack hv24) Try.call46 (.cons (.ref rfl rfl) .nil) rfl (FlatS.tup (.agg (.v (.ref (.ref .nil))) (.v .nil))) (FlatN.arr (FlatN.arr FlatN.nil))) rfl rfl (J.cons (.none rfl) (JO.move rfl) rfl rfl (J.cons (.none rfl) (JO.extract rfl rfl) rfl rfl (J.cons (.none rfl) (JO.extract rfl rfl) rfl rfl (J.cons (.none rfl) (JO.assign rfl) rfl rfl (J.fin (Sw.Sub.mk id (.cons rfl (.of_eq rfl) .nil) .nil rfl)))))))) ?_
        refine W.seq ?_
        refine W.reg (σ' := ⟨[(6, .v Enc.bool (v24.2 == (some (3 : Int))))], []⟩) (J.cons (.none rfl) (JO.move rfl) rfl rfl (J.cons (.none rfl) (JO.mkErr Try.runUnderlying29 rfl) rfl rfl (J.cons (.none rfl) (JO.errEq2 Try.runUnderlying33 Try.runUnderlying29 Try.typeInfo29 rfl rfl rfl) rfl rfl (J.cons (.none rfl) (JO.assign rfl) rfl rfl (J.fin (Sw.Sub.mk id (.cons rfl (.of_eq rfl) .nil) .nil rfl)))))) ?_
        refine W.ret ?_
        obtain rfl := Option.some.inj h
        exact XQ.sub (σ' := ⟨[(6, .v Enc.bool (v24.2 == (some (3 : Int))))], []⟩) (Sw.Sub.mk id (.cons rfl (.of_eq rfl) .nil) .nil rfl) (XQ.ret1 hF noR rfl (RV.tmp rfl) .nil rfl)
end Go.Cn
