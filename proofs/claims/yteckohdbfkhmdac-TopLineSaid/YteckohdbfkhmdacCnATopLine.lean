/- The functions that this law reaches come to what their models come to. Conditions: none. -/
import Derived.Test.YteckohdbfkhmdacMoTopLine
import Derived.KernelRfl
import Derived.Test.YteckohdbfkhmdacChecked
set_option linter.unusedVariables false
set_option linter.unusedSimpArgs false
namespace Go.Cn
open Go Go.Sw Go.Mo Go.Proofs
abbrev ET : Nat := 86
abbrev Q0 := (Enc.int .i64)
abbrev Q1 := (Enc.pr Q0 (Enc.pr (Enc.sl Q0) (Enc.sl eBlk)))
abbrev Q2 := (Enc.pr Q0 (Enc.pr Q0 (Enc.sl Q1)))
abbrev Q3 := (List (Int × (List Int) × (List Blk)))
theorem mixed : Try.prog.follows .mixedOrders = true := Try.checked.mixed
theorem eq174 : EqE 2 Try.prog 174 (Enc.arr 4 (Enc.int .u8)) := EqE.arr Try.runUnderlying174 Try.sizeOf5 Try.isAgg5 (EqE.int Try.underlying5)
theorem built51 : ∀ parts, Try.prog.built 51 parts = Instr.fill (([(0, 1), (1, 1), (2, 1)] : List (Nat × Nat)).toArray[·]?) ([.int .i64 0, .int .i64 0, .slice none 0 0] : List Value).toArray parts := built_struct Try.typeInfo51 Try.runUnderlying51 rfl rfl (.cons rfl (by kernel_rfl) (by kernel_rfl) (.cons rfl (by kernel_rfl) (by kernel_rfl) (.cons rfl (by kernel_rfl) (by kernel_rfl) .nil)))
theorem built53 : ∀ parts, Try.prog.built 53 parts = Instr.fill (([(0, 1), (1, 1)] : List (Nat × Nat)).toArray[·]?) ([.int .i64 0, .int .i64 0] : List Value).toArray parts := built_struct Try.typeInfo53 Try.runUnderlying53 rfl rfl (.cons rfl (by kernel_rfl) (by kernel_rfl) (.cons rfl (by kernel_rfl) (by kernel_rfl) .nil))
theorem built56 : ∀ parts, Try.prog.built 56 parts = Instr.fill (([(0, 3), (3, 2), (5, 1), (6, 1), (7, 1)] : List (Nat × Nat)).toArray[·]?) ([.int .i64 0, .int .i64 0, .slice none 0 0, .int .i64 0, .int .i64 0, .slice none 0 0, .slice none 0 0, .bool false] : List Value).toArray parts := built_struct Try.typeInfo56 Try.runUnderlying56 rfl rfl (.cons rfl (by kernel_rfl) (by kernel_rfl) (.cons rfl (by kernel_rfl) (by kernel_rfl) (.cons rfl (by kernel_rfl) (by kernel_rfl) (.cons rfl (by kernel_rfl) (by kernel_rfl) (.cons rfl (by kernel_rfl) (by kernel_rfl) .nil)))))
theorem built60 : ∀ parts, Try.prog.built 60 parts = Instr.fill (([(0, 1), (1, 1), (2, 1)] : List (Nat × Nat)).toArray[·]?) ([.int .i64 0, .slice none 0 0, .slice none 0 0] : List Value).toArray parts := built_struct Try.typeInfo60 Try.runUnderlying60 rfl rfl (.cons rfl (by kernel_rfl) (by kernel_rfl) (.cons rfl (by kernel_rfl) (by kernel_rfl) (.cons rfl (by kernel_rfl) (by kernel_rfl) .nil)))
theorem built64 : ∀ parts, Try.prog.built 64 parts = Instr.fill (([(0, 1), (1, 1)] : List (Nat × Nat)).toArray[·]?) ([.bool false, .slice none 0 0] : List Value).toArray parts := built_struct Try.typeInfo64 Try.runUnderlying64 rfl rfl (.cons rfl (by kernel_rfl) (by kernel_rfl) (.cons rfl (by kernel_rfl) (by kernel_rfl) .nil))
theorem built177 : ∀ parts, Try.prog.built 177 parts = Instr.fill (([(0, 1)] : List (Nat × Nat)).toArray[·]?) ([.slice none 0 0] : List Value).toArray parts := built_struct Try.typeInfo177 Try.runUnderlying177 rfl rfl (.cons rfl (by kernel_rfl) (by kernel_rfl) .nil)
set_option maxRecDepth 100000 in
set_option maxHeartbeats 4000000 in
theorem con_ref_Pick {a0 : Int} {a1 : Int} {r : Int} (h : m_ref_Pick a0 a1 = some r) :
  Con Try.prog 8 [.v Q0 a0, .v Q0 a1] (.v Q0 r) [] := by
 refine Con.of Try.func8 rfl Try.ntmps8 rfl ?_
 intro S w hF
 unfold m_ref_Pick at h
 refine W.seq ?_
 refine W.reg (σ' := ⟨[(0, .v Q0 a0), (1, .v Q0 a1)], []⟩) (J.k (JO.assign rfl) (J.fin (Sw.Sub.mk id (.c rfl (.c rfl .nil)) .nil rfl))) ?_
 refine W.seq ?_
 refine W.seq ?_
 refine W.reg (σ' := ⟨[(0, .v Q0 a0), (1, .v Q0 a1), (6, .v Enc.bool (cm .lss a0 (0 : Int)))], []⟩) (J.mv rfl (J.k (JO.cmp rfl rfl rfl) (J.fin (Sw.Sub.mk id (.c rfl (.c rfl (.c rfl .nil))) .nil rfl)))) ?_
 obtain ⟨k2, hk2, h⟩ := jp_elim h
 refine W.jn (fun x3 : Int => ⟨[(0, .v Q0 x3), (1, .v Q0 a1)], []⟩) (fun x => k2 x = some r) rfl ?_ ?_ ?_
 ·intro x3 h
  rw [hk2] at h
  refine W.seq ?_
  obtain ⟨u4, hu4, h⟩ := bind_e h
  refine W.reg (σ' := ⟨[(4, .v Q0 (ar .rem .i64 x3 a1))], []⟩) (J.mv rfl (J.mv rfl (J.k (JO.div (.inr rfl) (nz_some hu4) rfl rfl) (J.k (JO.assign rfl) (J.fin (Sw.Sub.mk id (.c rfl .nil) .nil rfl)))))) ?_
  refine W.ret ?_
  obtain rfl := Option.some.inj h
  exact XQ.sub (σ' := ⟨[(4, .v Q0 (ar .rem .i64 x3 a1))], []⟩) (Sw.Sub.mk id (.c rfl .nil) .nil rfl) (XQ.ret1 hF noR rfl (RV.tmp rfl) .nil rfl)
 ·intro hc1
  replace h := cond_t hc1 h
  refine W.reg (σ' := ⟨[(0, .v Q0 (IntKind.wrap .i64 (0 - (ar .add .i64 a0 (1 : Int))))), (1, .v Q0 a1)], []⟩) (J.mv rfl (J.k (JO.arith rfl rfl rfl) (J.k (JO.neg rfl) (J.k (JO.assign rfl) (J.fin (Sw.Sub.mk id (.c rfl (.c rfl .nil)) .nil rfl)))))) ?_
  exact W.jfall h (Sw.Sub.mk id (.c rfl (.c rfl .nil)) .nil rfl)
 ·intro hc1
  replace h := cond_f hc1 h
  refine W.skip ?_
  exact W.jfall h (Sw.Sub.mk id (.c rfl (.c rfl .nil)) .nil rfl)
set_option maxRecDepth 100000 in
set_option maxHeartbeats 4000000 in
theorem con_link_number_1 {a0 : Int} {r : Bool} (h : m_link_number_1 a0 = some r) :
  Con Try.prog 90 [.v Q0 a0] (.v Enc.bool r) [] := by
 refine Con.of Try.func90 rfl Try.ntmps90 rfl ?_
 intro S w hF
 unfold m_link_number_1 at h
 refine W.seq ?_
 refine W.reg (σ' := ⟨[(0, .v Q0 a0)], []⟩) (J.k (JO.assign rfl) (J.fin (Sw.Sub.mk id (.c rfl .nil) .nil rfl))) ?_
 refine W.seq ?_
 obtain ⟨x2, hx, h⟩ := bind_e h
 refine W.reg (σ' := ⟨[(2, .v Enc.bool x2)], []⟩) ?_ ?_
 ·rcases Bool.eq_false_or_eq_true (cm .lss a0 (0 : Int)) with hc3 | hc3
  ·replace hx := cond_t hc3 hx
   obtain rfl := Option.some.inj hx
   exact (J.mv rfl (J.k (JO.cmp rfl rfl rfl) (J.mv rfl (J.u 5 hc3 (J.u 5 hc3 (J.k (JO.pT hc3 rfl rfl) (J.k (JO.assign rfl) (J.fin (Sw.Sub.mk id (.c rfl .nil) .nil rfl)))))))))
  ·replace hx := cond_f hc3 hx
   obtain rfl := Option.some.inj hx
   exact (J.mv rfl (J.k (JO.cmp rfl rfl rfl) (J.mv rfl (J.m 5 hc3 (JO.move rfl) (J.m 5 hc3 (JO.cmp rfl rfl rfl) (J.k (JO.pF hc3 rfl rfl) (J.k (JO.assign rfl) (J.fin (Sw.Sub.mk id (.c rfl .nil) .nil rfl)))))))))
 refine W.ret ?_
 obtain rfl := Option.some.inj h
 exact XQ.sub (σ' := ⟨[(2, .v Enc.bool x2)], []⟩) (Sw.Sub.mk id (.c rfl .nil) .nil rfl) (XQ.ret1 hF noR rfl (RV.tmp rfl) .nil rfl)
set_option maxRecDepth 100000 in
set_option maxHeartbeats 4000000 in
theorem con_slices_IndexFunc_int_int__link_number_1 {a0 : (List Int)} {r : Int} (h : m_slices_IndexFunc_int_int__link_number_1 a0 = some r) :
  Con Try.prog 99 [.v (Enc.sl Q0) a0, .fnc 90 []] (.v Q0 r) [] := by
 refine Con.of Try.func99 rfl Try.ntmps99 rfl ?_
 intro S w hF
 unfold m_slices_IndexFunc_int_int__link_number_1 at h
 refine W.seq ?_
 refine W.reg (σ' := ⟨[(0, .v (Enc.sl Q0) a0), (1, .fnc 90 [])], []⟩) (J.k (JO.assign rfl) (J.fin (Sw.Sub.mk id (.c rfl (.c rfl .nil)) .nil rfl))) ?_
 refine W.seq ?_
 refine W.seq ?_
 refine W.reg (σ' := ⟨[(0, .v (Enc.sl Q0) a0), (1, .fnc 90 []), (7, .v Q0 (a0.length : Int)), (8, .v Q0 (0 : Int))], []⟩) (J.mv rfl (J.k (JO.len rfl Try.runUnderlying22) (J.mv rfl (J.fin (Sw.Sub.mk id (.c rfl (.c rfl (.c rfl (.c rfl .nil)))) .nil rfl))))) ?_
 obtain ⟨o16, ho16, hb16, hr16⟩ := lp_elim h
 refine W.lp (σs := fun s11 : Int => ⟨[(0, .v (Enc.sl Q0) a0), (1, .fnc 90 []), (7, .v Q0 (a0.length : Int)), (8, .v Q0 s11)], []⟩) (fun x17 : Unit => ⟨[], []⟩) ho16 (Sw.Sub.mk id (.c rfl (.c rfl (.c rfl (.c rfl .nil)))) .nil rfl) ?_ ?_
 ·intro x17 hy
  have h := hb16 _ hy
  refine W.seq ?_
  refine W.reg (σ' := ⟨[(4, .v Q0 (-1 : Int))], []⟩) (J.k (JO.assign rfl) (J.fin (Sw.Sub.mk id (.c rfl .nil) .nil rfl))) ?_
  refine W.ret ?_
  obtain rfl := Option.some.inj h
  exact XQ.sub (σ' := ⟨[(4, .v Q0 (-1 : Int))], []⟩) (Sw.Sub.mk id (.c rfl .nil) .nil rfl) (XQ.ret1 hF noR rfl (RV.tmp rfl) .nil rfl)
 intro s11 r16 h
 refine W.seq ?_
 refine W.reg (σ' := ⟨[(0, .v (Enc.sl Q0) a0), (1, .fnc 90 []), (7, .v Q0 (a0.length : Int)), (8, .v Q0 s11), (9, .v Enc.bool (cm .lss s11 (a0.length : Int)))], []⟩) (J.k (JO.cmp rfl rfl rfl) (J.fin (Sw.Sub.mk id (.c rfl (.c rfl (.c rfl (.c rfl (.c rfl .nil))))) .nil rfl))) ?_
 refine W.seq ?_
 rcases Bool.eq_false_or_eq_true (cm .lss s11 (a0.length : Int)) with hc18 | hc18
 ·replace h := cond_t hc18 h
  refine W.condT rfl hc18 ?_
  refine W.skip ?_
  refine W.seq ?_
  refine W.block ?_
  refine W.seq ?_
  refine W.reg (σ' := ⟨[(0, .v (Enc.sl Q0) a0), (1, .fnc 90 []), (5, .v Q0 s11), (7, .v Q0 (a0.length : Int)), (8, .v Q0 s11)], []⟩) (J.mv rfl (J.k (JO.assign rfl) (J.fin (Sw.Sub.mk id (.c rfl (.c rfl (.c rfl (.c rfl (.c rfl .nil))))) .nil rfl)))) ?_
  refine W.seq ?_
  obtain ⟨z19, hz19, h⟩ := bind_e h
  obtain ⟨v20, hv20, h⟩ := bind_e h
  refine W.reg (σ' := ⟨[(0, .v (Enc.sl Q0) a0), (1, .fnc 90 []), (5, .v Q0 s11), (7, .v Q0 (a0.length : Int)), (8, .v Q0 s11), (16, .v Enc.bool v20)], []⟩) (J.mv rfl (J.mv rfl (J.mv rfl (J.k (JO.idx hz19 rfl rfl Try.runUnderlying22 Try.sizeOf3) (J.k (JO.loadPst rfl Try.isAgg3 Try.sizeOf3) (J.k (JO.callF0 rfl (con_link_number_1 hv20) Try.call90 (.cons (.dir rfl) .nil)) (J.fin (Sw.Sub.mk id (.c rfl (.c rfl (.c rfl (.c rfl (.c rfl (.c rfl .nil)))))) .nil rfl)))))))) ?_
  rcases Bool.eq_false_or_eq_true v20 with hc21 | hc21
  ·replace h := cond_t hc21 h
   refine W.condT rfl hc21 ?_
   refine W.seq ?_
   refine W.reg (σ' := ⟨[(4, .v Q0 s11)], []⟩) (J.mv rfl (J.k (JO.assign rfl) (J.fin (Sw.Sub.mk id (.c rfl .nil) .nil rfl)))) ?_
   refine W.ret ?_
   refine XQ.ret ?_
   obtain rfl := Option.some.inj h
   refine XQ.lret fun ho => ?_
   obtain rfl := hr16 _ ho
   exact XQ.sub (σ' := ⟨[(4, .v Q0 s11)], []⟩) (Sw.Sub.mk id (.c rfl .nil) .nil rfl) (XQ.ret1 hF noR rfl (RV.tmp rfl) .nil rfl)
  ·replace h := cond_f hc21 h
   refine W.condF rfl hc21 ?_
   refine W.skip ?_
   refine W.fall ?_
   refine W.reg (σ' := ⟨[(0, .v (Enc.sl Q0) a0), (1, .fnc 90 []), (7, .v Q0 (a0.length : Int)), (8, .v Q0 (ar .add .i64 s11 (1 : Int)))], []⟩) (J.k (JO.arith rfl rfl rfl) (J.mv rfl (J.fin (Sw.Sub.mk id (.c rfl (.c rfl (.c rfl (.c rfl .nil)))) .nil rfl)))) ?_
   obtain rfl := Option.some.inj h
   exact W.next (Sw.Sub.mk id (.c rfl (.c rfl (.c rfl (.c rfl .nil)))) .nil rfl)
 ·replace h := cond_f hc18 h
  refine W.condF rfl hc18 ?_
  refine W.exit ?_
  obtain rfl := Option.some.inj h
  exact XQ.brk (Sw.Sub.mk id .nil .nil rfl)
set_option maxRecDepth 100000 in
set_option maxHeartbeats 4000000 in
theorem con_slices_ContainsFunc_int_int__link_number_1 {a0 : (List Int)} {r : Bool} (h : m_slices_ContainsFunc_int_int__link_number_1 a0 = some r) :
  Con Try.prog 89 [.v (Enc.sl Q0) a0, .fnc 90 []] (.v Enc.bool r) [] := by
 refine Con.of Try.func89 rfl Try.ntmps89 rfl ?_
 intro S w hF
 unfold m_slices_ContainsFunc_int_int__link_number_1 at h
 refine W.seq ?_
 refine W.reg (σ' := ⟨[(0, .v (Enc.sl Q0) a0), (1, .fnc 90 [])], []⟩) (J.k (JO.assign rfl) (J.fin (Sw.Sub.mk id (.c rfl (.c rfl .nil)) .nil rfl))) ?_
 refine W.seq ?_
 obtain ⟨v1, hv1, h⟩ := bind_e h
 refine W.reg (σ' := ⟨[(4, .v Enc.bool (cm .geq v1 (0 : Int)))], []⟩) (J.mv rfl (J.mv rfl (J.k (JO.call0 (con_slices_IndexFunc_int_int__link_number_1 hv1) Try.call99 (.cons (.dir rfl) (.cons (.dir rfl) .nil))) (J.k (JO.cmp rfl rfl rfl) (J.k (JO.assign rfl) (J.fin (Sw.Sub.mk id (.c rfl .nil) .nil rfl))))))) ?_
 refine W.ret ?_
 obtain rfl := Option.some.inj h
 exact XQ.sub (σ' := ⟨[(4, .v Enc.bool (cm .geq v1 (0 : Int)))], []⟩) (Sw.Sub.mk id (.c rfl .nil) .nil rfl) (XQ.ret1 hF noR rfl (RV.tmp rfl) .nil rfl)
set_option maxRecDepth 100000 in
set_option maxHeartbeats 4000000 in
theorem con_link_number {a0 : (List Int)} {r : Bool} (h : m_link_number a0 = some r) :
  Con Try.prog 71 [.v (Enc.sl Q0) a0] (.v Enc.bool r) [] := by
 refine Con.of Try.func71 rfl Try.ntmps71 rfl ?_
 intro S w hF
 unfold m_link_number at h
 refine W.seq ?_
 refine W.reg (σ' := ⟨[(0, .v (Enc.sl Q0) a0)], []⟩) (J.k (JO.assign rfl) (J.fin (Sw.Sub.mk id (.c rfl .nil) .nil rfl))) ?_
 refine W.seq ?_
 obtain ⟨v1, hv1, h⟩ := bind_e h
 refine W.reg (σ' := ⟨[(2, .v Enc.bool (!v1))], []⟩) (J.mv rfl (J.k (JO.call0 (con_slices_ContainsFunc_int_int__link_number_1 hv1) Try.call89 (.cons (.dir rfl) (.cons .fn .nil))) (J.k (JO.not rfl) (J.k (JO.assign rfl) (J.fin (Sw.Sub.mk id (.c rfl .nil) .nil rfl)))))) ?_
 refine W.ret ?_
 obtain rfl := Option.some.inj h
 exact XQ.sub (σ' := ⟨[(2, .v Enc.bool (!v1))], []⟩) (Sw.Sub.mk id (.c rfl .nil) .nil rfl) (XQ.ret1 hF noR rfl (RV.tmp rfl) .nil rfl)
set_option maxRecDepth 100000 in
set_option maxHeartbeats 4000000 in
theorem con_frame_Check_1 {a0 : Int} {r : Bool} (h : m_frame_Check_1 a0 = some r) :
  Con Try.prog 91 [.v Q0 a0] (.v Enc.bool r) [] := by
 refine Con.of Try.func91 rfl Try.ntmps91 rfl ?_
 intro S w hF
 unfold m_frame_Check_1 at h
 refine W.seq ?_
 refine W.reg (σ' := ⟨[(0, .v Q0 a0)], []⟩) (J.k (JO.assign rfl) (J.fin (Sw.Sub.mk id (.c rfl .nil) .nil rfl))) ?_
 refine W.seq ?_
 obtain ⟨x2, hx, h⟩ := bind_e h
 refine W.reg (σ' := ⟨[(2, .v Enc.bool x2)], []⟩) ?_ ?_
 ·rcases Bool.eq_false_or_eq_true (cm .lss a0 (0 : Int)) with hc3 | hc3
  ·replace hx := cond_t hc3 hx
   obtain rfl := Option.some.inj hx
   exact (J.mv rfl (J.k (JO.cmp rfl rfl rfl) (J.mv rfl (J.u 5 hc3 (J.u 5 hc3 (J.k (JO.pT hc3 rfl rfl) (J.k (JO.assign rfl) (J.fin (Sw.Sub.mk id (.c rfl .nil) .nil rfl)))))))))
  ·replace hx := cond_f hc3 hx
   obtain rfl := Option.some.inj hx
   exact (J.mv rfl (J.k (JO.cmp rfl rfl rfl) (J.mv rfl (J.m 5 hc3 (JO.move rfl) (J.m 5 hc3 (JO.cmp rfl rfl rfl) (J.k (JO.pF hc3 rfl rfl) (J.k (JO.assign rfl) (J.fin (Sw.Sub.mk id (.c rfl .nil) .nil rfl)))))))))
 refine W.ret ?_
 obtain rfl := Option.some.inj h
 exact XQ.sub (σ' := ⟨[(2, .v Enc.bool x2)], []⟩) (Sw.Sub.mk id (.c rfl .nil) .nil rfl) (XQ.ret1 hF noR rfl (RV.tmp rfl) .nil rfl)
set_option maxRecDepth 100000 in
set_option maxHeartbeats 4000000 in
theorem con_slices_IndexFunc_int_int__frame_Check_1 {a0 : (List Int)} {r : Int} (h : m_slices_IndexFunc_int_int__frame_Check_1 a0 = some r) :
  Con Try.prog 99 [.v (Enc.sl Q0) a0, .fnc 91 []] (.v Q0 r) [] := by
 refine Con.of Try.func99 rfl Try.ntmps99 rfl ?_
 intro S w hF
 unfold m_slices_IndexFunc_int_int__frame_Check_1 at h
 refine W.seq ?_
 refine W.reg (σ' := ⟨[(0, .v (Enc.sl Q0) a0), (1, .fnc 91 [])], []⟩) (J.k (JO.assign rfl) (J.fin (Sw.Sub.mk id (.c rfl (.c rfl .nil)) .nil rfl))) ?_
 refine W.seq ?_
 refine W.seq ?_
 refine W.reg (σ' := ⟨[(0, .v (Enc.sl Q0) a0), (1, .fnc 91 []), (7, .v Q0 (a0.length : Int)), (8, .v Q0 (0 : Int))], []⟩) (J.mv rfl (J.k (JO.len rfl Try.runUnderlying22) (J.mv rfl (J.fin (Sw.Sub.mk id (.c rfl (.c rfl (.c rfl (.c rfl .nil)))) .nil rfl))))) ?_
 obtain ⟨o16, ho16, hb16, hr16⟩ := lp_elim h
 refine W.lp (σs := fun s11 : Int => ⟨[(0, .v (Enc.sl Q0) a0), (1, .fnc 91 []), (7, .v Q0 (a0.length : Int)), (8, .v Q0 s11)], []⟩) (fun x17 : Unit => ⟨[], []⟩) ho16 (Sw.Sub.mk id (.c rfl (.c rfl (.c rfl (.c rfl .nil)))) .nil rfl) ?_ ?_
 ·intro x17 hy
  have h := hb16 _ hy
  refine W.seq ?_
  refine W.reg (σ' := ⟨[(4, .v Q0 (-1 : Int))], []⟩) (J.k (JO.assign rfl) (J.fin (Sw.Sub.mk id (.c rfl .nil) .nil rfl))) ?_
  refine W.ret ?_
  obtain rfl := Option.some.inj h
  exact XQ.sub (σ' := ⟨[(4, .v Q0 (-1 : Int))], []⟩) (Sw.Sub.mk id (.c rfl .nil) .nil rfl) (XQ.ret1 hF noR rfl (RV.tmp rfl) .nil rfl)
 intro s11 r16 h
 refine W.seq ?_
 refine W.reg (σ' := ⟨[(0, .v (Enc.sl Q0) a0), (1, .fnc 91 []), (7, .v Q0 (a0.length : Int)), (8, .v Q0 s11), (9, .v Enc.bool (cm .lss s11 (a0.length : Int)))], []⟩) (J.k (JO.cmp rfl rfl rfl) (J.fin (Sw.Sub.mk id (.c rfl (.c rfl (.c rfl (.c rfl (.c rfl .nil))))) .nil rfl))) ?_
 refine W.seq ?_
 rcases Bool.eq_false_or_eq_true (cm .lss s11 (a0.length : Int)) with hc18 | hc18
 ·replace h := cond_t hc18 h
  refine W.condT rfl hc18 ?_
  refine W.skip ?_
  refine W.seq ?_
  refine W.block ?_
  refine W.seq ?_
  refine W.reg (σ' := ⟨[(0, .v (Enc.sl Q0) a0), (1, .fnc 91 []), (5, .v Q0 s11), (7, .v Q0 (a0.length : Int)), (8, .v Q0 s11)], []⟩) (J.mv rfl (J.k (JO.assign rfl) (J.fin (Sw.Sub.mk id (.c rfl (.c rfl (.c rfl (.c rfl (.c rfl .nil))))) .nil rfl)))) ?_
  refine W.seq ?_
  obtain ⟨z19, hz19, h⟩ := bind_e h
  obtain ⟨v20, hv20, h⟩ := bind_e h
  refine W.reg (σ' := ⟨[(0, .v (Enc.sl Q0) a0), (1, .fnc 91 []), (5, .v Q0 s11), (7, .v Q0 (a0.length : Int)), (8, .v Q0 s11), (16, .v Enc.bool v20)], []⟩) (J.mv rfl (J.mv rfl (J.mv rfl (J.k (JO.idx hz19 rfl rfl Try.runUnderlying22 Try.sizeOf3) (J.k (JO.loadPst rfl Try.isAgg3 Try.sizeOf3) (J.k (JO.callF0 rfl (con_frame_Check_1 hv20) Try.call91 (.cons (.dir rfl) .nil)) (J.fin (Sw.Sub.mk id (.c rfl (.c rfl (.c rfl (.c rfl (.c rfl (.c rfl .nil)))))) .nil rfl)))))))) ?_
  rcases Bool.eq_false_or_eq_true v20 with hc21 | hc21
  ·replace h := cond_t hc21 h
   refine W.condT rfl hc21 ?_
   refine W.seq ?_
   refine W.reg (σ' := ⟨[(4, .v Q0 s11)], []⟩) (J.mv rfl (J.k (JO.assign rfl) (J.fin (Sw.Sub.mk id (.c rfl .nil) .nil rfl)))) ?_
   refine W.ret ?_
   refine XQ.ret ?_
   obtain rfl := Option.some.inj h
   refine XQ.lret fun ho => ?_
   obtain rfl := hr16 _ ho
   exact XQ.sub (σ' := ⟨[(4, .v Q0 s11)], []⟩) (Sw.Sub.mk id (.c rfl .nil) .nil rfl) (XQ.ret1 hF noR rfl (RV.tmp rfl) .nil rfl)
  ·replace h := cond_f hc21 h
   refine W.condF rfl hc21 ?_
   refine W.skip ?_
   refine W.fall ?_
   refine W.reg (σ' := ⟨[(0, .v (Enc.sl Q0) a0), (1, .fnc 91 []), (7, .v Q0 (a0.length : Int)), (8, .v Q0 (ar .add .i64 s11 (1 : Int)))], []⟩) (J.k (JO.arith rfl rfl rfl) (J.mv rfl (J.fin (Sw.Sub.mk id (.c rfl (.c rfl (.c rfl (.c rfl .nil)))) .nil rfl)))) ?_
   obtain rfl := Option.some.inj h
   exact W.next (Sw.Sub.mk id (.c rfl (.c rfl (.c rfl (.c rfl .nil)))) .nil rfl)
 ·replace h := cond_f hc18 h
  refine W.condF rfl hc18 ?_
  refine W.exit ?_
  obtain rfl := Option.some.inj h
  exact XQ.brk (Sw.Sub.mk id .nil .nil rfl)
set_option maxRecDepth 100000 in
set_option maxHeartbeats 4000000 in
theorem con_slices_ContainsFunc_int_int__frame_Check_1 {a0 : (List Int)} {r : Bool} (h : m_slices_ContainsFunc_int_int__frame_Check_1 a0 = some r) :
  Con Try.prog 89 [.v (Enc.sl Q0) a0, .fnc 91 []] (.v Enc.bool r) [] := by
 refine Con.of Try.func89 rfl Try.ntmps89 rfl ?_
 intro S w hF
 unfold m_slices_ContainsFunc_int_int__frame_Check_1 at h
 refine W.seq ?_
 refine W.reg (σ' := ⟨[(0, .v (Enc.sl Q0) a0), (1, .fnc 91 [])], []⟩) (J.k (JO.assign rfl) (J.fin (Sw.Sub.mk id (.c rfl (.c rfl .nil)) .nil rfl))) ?_
 refine W.seq ?_
 obtain ⟨v1, hv1, h⟩ := bind_e h
 refine W.reg (σ' := ⟨[(4, .v Enc.bool (cm .geq v1 (0 : Int)))], []⟩) (J.mv rfl (J.mv rfl (J.k (JO.call0 (con_slices_IndexFunc_int_int__frame_Check_1 hv1) Try.call99 (.cons (.dir rfl) (.cons (.dir rfl) .nil))) (J.k (JO.cmp rfl rfl rfl) (J.k (JO.assign rfl) (J.fin (Sw.Sub.mk id (.c rfl .nil) .nil rfl))))))) ?_
 refine W.ret ?_
 obtain rfl := Option.some.inj h
 exact XQ.sub (σ' := ⟨[(4, .v Enc.bool (cm .geq v1 (0 : Int)))], []⟩) (Sw.Sub.mk id (.c rfl .nil) .nil rfl) (XQ.ret1 hF noR rfl (RV.tmp rfl) .nil rfl)
set_option maxRecDepth 100000 in
set_option maxHeartbeats 4000000 in
theorem con_frame_Check {a0 : (Int × (List Int) × (List Blk))} {r : (Option Int)} (h : m_frame_Check a0 = some r) :
  Con Try.prog 72 [.v Q1 a0] (.v (Enc.err ET) r) [] := by
 refine Con.of Try.func72 rfl Try.ntmps72 rfl ?_
 intro S w hF
 unfold m_frame_Check at h
 refine W.seq ?_
 refine W.reg (σ' := ⟨[(1, .ptr 101 0)], [(101, .box 60 [.v Q0 a0.1, .v (Enc.sl Q0) a0.2.1, .v (Enc.sl eBlk) a0.2.2])]⟩) (J.k (JO.box 101 rfl (.prm (.one _ _) (.prm (.one _ _) (.one _ _))) rfl) (J.k (JO.assignNilE ET) (J.fin (Sw.Sub.mk id (.c rfl .nil) (.box rfl (.c rfl (.c rfl (.c rfl .nil))) .nil) rfl)))) ?_
 refine W.seq ?_
 refine W.seq ?_
 obtain ⟨x2, hx, h⟩ := bind_e h
 refine W.reg (σ' := ⟨[(1, .ptr 101 0), (10, .v Enc.bool x2)], [(101, .box 60 [.v Q0 a0.1, .v (Enc.sl Q0) a0.2.1, .v (Enc.sl eBlk) a0.2.2])]⟩) ?_ ?_
 ·rcases Bool.eq_false_or_eq_true (cm .lss a0.1 (0 : Int)) with hc3 | hc3
  ·replace hx := cond_t hc3 hx
   obtain rfl := Option.some.inj hx
   exact (J.k (JO.fieldPtr 0 rfl Try.runUnderlying60 rfl Try.sizeOf3 rfl rfl) (J.k (JO.load rfl rfl rfl Try.isAgg3 Try.sizeOf3) (J.k (JO.cmp rfl rfl rfl) (J.mv rfl (J.u 6 hc3 (J.u 6 hc3 (J.u 6 hc3 (J.k (JO.pT hc3 rfl rfl) (J.fin (Sw.Sub.mk id (.c rfl (.c rfl .nil)) (.box rfl (.c rfl (.c rfl (.c rfl .nil))) .nil) rfl))))))))))
  ·replace hx := cond_f hc3 hx
   obtain rfl := Option.some.inj hx
   exact (J.k (JO.fieldPtr 0 rfl Try.runUnderlying60 rfl Try.sizeOf3 rfl rfl) (J.k (JO.load rfl rfl rfl Try.isAgg3 Try.sizeOf3) (J.k (JO.cmp rfl rfl rfl) (J.mv rfl (J.m 6 hc3 (JO.fieldPtr 0 rfl Try.runUnderlying60 rfl Try.sizeOf3 rfl rfl) (J.m 6 hc3 (JO.load rfl rfl rfl Try.isAgg3 Try.sizeOf3) (J.m 6 hc3 (JO.cmp rfl rfl rfl) (J.k (JO.pF hc3 rfl rfl) (J.fin (Sw.Sub.mk id (.c rfl (.c rfl .nil)) (.box rfl (.c rfl (.c rfl (.c rfl .nil))) .nil) rfl))))))))))
 rcases Bool.eq_false_or_eq_true x2 with hc4 | hc4
 ·replace h := cond_t hc4 h
  refine W.condT rfl hc4 ?_
  refine W.seq ?_
  refine W.reg (σ' := ⟨[(2, .v (Enc.err ET) (some (1 : Int)))], []⟩) (J.k (JO.mkErr Try.runUnderlying86 rfl) (J.k (JO.assign rfl) (J.fin (Sw.Sub.mk id (.c rfl .nil) .nil rfl)))) ?_
  refine W.ret ?_
  obtain rfl := Option.some.inj h
  exact XQ.sub (σ' := ⟨[(2, .v (Enc.err ET) (some (1 : Int)))], []⟩) (Sw.Sub.mk id (.c rfl .nil) .nil rfl) (XQ.ret1 hF noR rfl (RV.tmp rfl) .nil rfl)
 ·replace h := cond_f hc4 h
  refine W.condF rfl hc4 ?_
  refine W.skip ?_
  refine W.seq ?_
  refine W.seq ?_
  obtain ⟨x6, hx, h⟩ := bind_e h
  refine W.reg (σ' := ⟨[(1, .ptr 101 0), (21, .v Enc.bool x6)], [(101, .box 60 [.v Q0 a0.1, .v (Enc.sl Q0) a0.2.1, .v (Enc.sl eBlk) a0.2.2])]⟩) ?_ ?_
  ·rcases Bool.eq_false_or_eq_true (cm .gtr (a0.2.1.length : Int) (12 : Int)) with hc7 | hc7
   ·replace hx := cond_t hc7 hx
    obtain rfl := Option.some.inj hx
    exact (J.k (JO.fieldPtr 1 rfl Try.runUnderlying60 rfl Try.sizeOf22 rfl rfl) (J.k (JO.load rfl rfl rfl Try.isAgg22 Try.sizeOf22) (J.k (JO.len rfl Try.runUnderlying22) (J.k (JO.cmp rfl rfl rfl) (J.mv rfl (J.u 16 hc7 (J.u 16 hc7 (J.u 16 hc7 (J.u 16 hc7 (J.k (JO.pT hc7 rfl rfl) (J.fin (Sw.Sub.mk id (.c rfl (.c rfl .nil)) (.box rfl (.c rfl (.c rfl (.c rfl .nil))) .nil) rfl))))))))))))
   ·replace hx := cond_f hc7 hx
    obtain rfl := Option.some.inj hx
    exact (J.k (JO.fieldPtr 1 rfl Try.runUnderlying60 rfl Try.sizeOf22 rfl rfl) (J.k (JO.load rfl rfl rfl Try.isAgg22 Try.sizeOf22) (J.k (JO.len rfl Try.runUnderlying22) (J.k (JO.cmp rfl rfl rfl) (J.mv rfl (J.m 16 hc7 (JO.fieldPtr 2 rfl Try.runUnderlying60 rfl Try.sizeOf24 rfl rfl) (J.m 16 hc7 (JO.load rfl rfl rfl Try.isAgg24 Try.sizeOf24) (J.m 16 hc7 (JO.len rfl Try.runUnderlying24) (J.m 16 hc7 (JO.cmp rfl rfl rfl) (J.k (JO.pF hc7 rfl rfl) (J.fin (Sw.Sub.mk id (.c rfl (.c rfl .nil)) (.box rfl (.c rfl (.c rfl (.c rfl .nil))) .nil) rfl))))))))))))
  rcases Bool.eq_false_or_eq_true x6 with hc8 | hc8
  ·replace h := cond_t hc8 h
   refine W.condT rfl hc8 ?_
   refine W.seq ?_
   refine W.reg (σ' := ⟨[(2, .v (Enc.err ET) (some (2 : Int)))], []⟩) (J.k (JO.mkErr Try.runUnderlying86 rfl) (J.k (JO.assign rfl) (J.fin (Sw.Sub.mk id (.c rfl .nil) .nil rfl)))) ?_
   refine W.ret ?_
   obtain rfl := Option.some.inj h
   exact XQ.sub (σ' := ⟨[(2, .v (Enc.err ET) (some (2 : Int)))], []⟩) (Sw.Sub.mk id (.c rfl .nil) .nil rfl) (XQ.ret1 hF noR rfl (RV.tmp rfl) .nil rfl)
  ·replace h := cond_f hc8 h
   refine W.condF rfl hc8 ?_
   refine W.skip ?_
   refine W.seq ?_
   refine W.seq ?_
   obtain ⟨v9, hv9, h⟩ := bind_e h
   refine W.reg (σ' := ⟨[(25, .v Enc.bool v9)], []⟩) (J.k (JO.fieldPtr 1 rfl Try.runUnderlying60 rfl Try.sizeOf22 rfl rfl) (J.k (JO.load rfl rfl rfl Try.isAgg22 Try.sizeOf22) (J.k (JO.call0 (con_slices_ContainsFunc_int_int__frame_Check_1 hv9) Try.call89 (.cons (.dir rfl) (.cons .fn .nil))) (J.fin (Sw.Sub.mk id (.c rfl .nil) .nil rfl))))) ?_
   rcases Bool.eq_false_or_eq_true v9 with hc10 | hc10
   ·replace h := cond_t hc10 h
    refine W.condT rfl hc10 ?_
    refine W.seq ?_
    refine W.reg (σ' := ⟨[(2, .v (Enc.err ET) (some (1 : Int)))], []⟩) (J.k (JO.mkErr Try.runUnderlying86 rfl) (J.k (JO.assign rfl) (J.fin (Sw.Sub.mk id (.c rfl .nil) .nil rfl)))) ?_
    refine W.ret ?_
    obtain rfl := Option.some.inj h
    exact XQ.sub (σ' := ⟨[(2, .v (Enc.err ET) (some (1 : Int)))], []⟩) (Sw.Sub.mk id (.c rfl .nil) .nil rfl) (XQ.ret1 hF noR rfl (RV.tmp rfl) .nil rfl)
   ·replace h := cond_f hc10 h
    refine W.condF rfl hc10 ?_
    refine W.skip ?_
    refine W.seq ?_
    refine W.reg (σ' := ⟨[(2, .v (Enc.err ET) (none : Option Int))], []⟩) (J.k (JO.assignNilE ET) (J.fin (Sw.Sub.mk id (.c rfl .nil) .nil rfl))) ?_
    refine W.ret ?_
    obtain rfl := Option.some.inj h
    exact XQ.sub (σ' := ⟨[(2, .v (Enc.err ET) (none : Option Int))], []⟩) (Sw.Sub.mk id (.c rfl .nil) .nil rfl) (XQ.ret1 hF noR rfl (RV.tmp rfl) .nil rfl)
set_option maxRecDepth 100000 in
set_option maxHeartbeats 4000000 in
theorem con_link_load {a0 : (Int × (List Int) × (List Blk))} {r : (Option Int)} (h : m_link_load a0 = some r) :
  Con Try.prog 39 [.v Q1 a0] (.v (Enc.err ET) r) [] := by
 refine Con.of Try.func39 rfl Try.ntmps39 rfl ?_
 intro S w hF
 unfold m_link_load at h
 refine W.seq ?_
 refine W.reg (σ' := ⟨[(1, .ptr 101 0)], [(101, .box 60 [.v Q0 a0.1, .v (Enc.sl Q0) a0.2.1, .v (Enc.sl eBlk) a0.2.2])]⟩) (J.k (JO.box 101 rfl (.prm (.one _ _) (.prm (.one _ _) (.one _ _))) rfl) (J.k (JO.assignNilE ET) (J.fin (Sw.Sub.mk id (.c rfl .nil) (.box rfl (.c rfl (.c rfl (.c rfl .nil))) .nil) rfl)))) ?_
 refine W.seq ?_
 refine W.seq ?_
 obtain ⟨v1, hv1, h⟩ := bind_e h
 refine W.reg (σ' := ⟨[(1, .ptr 101 0), (3, .v (Enc.err ET) v1)], [(101, .box 60 [.v Q0 a0.1, .v (Enc.sl Q0) a0.2.1, .v (Enc.sl eBlk) a0.2.2])]⟩) (J.k (JO.loadAll rfl rfl (.prm (.one _ _) (.prm (.one _ _) (.one _ _))) Try.isAgg60 Try.sizeOf60) (J.k (JO.call0 (con_frame_Check hv1) Try.call72 (.cons (.dir rfl) .nil)) (J.k (JO.assign rfl) (J.fin (Sw.Sub.mk id (.c rfl (.c rfl .nil)) (.box rfl (.c rfl (.c rfl (.c rfl .nil))) .nil) rfl))))) ?_
 refine W.seq ?_
 refine W.reg (σ' := ⟨[(1, .ptr 101 0), (3, .v (Enc.err ET) v1), (7, .v Enc.bool (Option.isSome v1))], [(101, .box 60 [.v Q0 a0.1, .v (Enc.sl Q0) a0.2.1, .v (Enc.sl eBlk) a0.2.2])]⟩) (J.mv rfl (J.k (JO.errNe Try.runUnderlying34 rfl) (J.fin (Sw.Sub.mk id (.c rfl (.c rfl (.c rfl .nil))) (.box rfl (.c rfl (.c rfl (.c rfl .nil))) .nil) rfl)))) ?_
 rcases Bool.eq_false_or_eq_true (Option.isSome v1) with hc2 | hc2
 ·replace h := cond_t hc2 h
  refine W.condT rfl hc2 ?_
  refine W.seq ?_
  refine W.reg (σ' := ⟨[(2, .v (Enc.err ET) v1)], []⟩) (J.mv rfl (J.k (JO.assign rfl) (J.fin (Sw.Sub.mk id (.c rfl .nil) .nil rfl)))) ?_
  refine W.ret ?_
  obtain rfl := Option.some.inj h
  exact XQ.sub (σ' := ⟨[(2, .v (Enc.err ET) v1)], []⟩) (Sw.Sub.mk id (.c rfl .nil) .nil rfl) (XQ.ret1 hF noR rfl (RV.tmp rfl) .nil rfl)
 ·replace h := cond_f hc2 h
  refine W.condF rfl hc2 ?_
  refine W.skip ?_
  refine W.seq ?_
  refine W.seq ?_
  refine W.reg (σ' := ⟨[(12, .v Enc.bool (cm .gtr (a0.2.1.length : Int) (9 : Int)))], []⟩) (J.k (JO.fieldPtr 1 rfl Try.runUnderlying60 rfl Try.sizeOf22 rfl rfl) (J.k (JO.load rfl rfl rfl Try.isAgg22 Try.sizeOf22) (J.k (JO.len rfl Try.runUnderlying22) (J.k (JO.cmp rfl rfl rfl) (J.fin (Sw.Sub.mk id (.c rfl .nil) .nil rfl)))))) ?_
  rcases Bool.eq_false_or_eq_true (cm .gtr (a0.2.1.length : Int) (9 : Int)) with hc3 | hc3
  ·replace h := cond_t hc3 h
   refine W.condT rfl hc3 ?_
   refine W.seq ?_
   refine W.reg (σ' := ⟨[(2, .v (Enc.err ET) (some (2 : Int)))], []⟩) (J.k (JO.mkErr Try.runUnderlying86 rfl) (J.k (JO.assign rfl) (J.fin (Sw.Sub.mk id (.c rfl .nil) .nil rfl)))) ?_
   refine W.ret ?_
   obtain rfl := Option.some.inj h
   exact XQ.sub (σ' := ⟨[(2, .v (Enc.err ET) (some (2 : Int)))], []⟩) (Sw.Sub.mk id (.c rfl .nil) .nil rfl) (XQ.ret1 hF noR rfl (RV.tmp rfl) .nil rfl)
  ·replace h := cond_f hc3 h
   refine W.condF rfl hc3 ?_
   refine W.skip ?_
   refine W.seq ?_
   refine W.reg (σ' := ⟨[(2, .v (Enc.err ET) (none : Option Int))], []⟩) (J.k (JO.assignNilE ET) (J.fin (Sw.Sub.mk id (.c rfl .nil) .nil rfl))) ?_
   refine W.ret ?_
   obtain rfl := Option.some.inj h
   exact XQ.sub (σ' := ⟨[(2, .v (Enc.err ET) (none : Option Int))], []⟩) (Sw.Sub.mk id (.c rfl .nil) .nil rfl) (XQ.ret1 hF noR rfl (RV.tmp rfl) .nil rfl)
set_option maxRecDepth 100000 in
set_option maxHeartbeats 4000000 in
theorem con_link_Check {a0 : (Int × Int × Q3)} {r : (Option Int)} (h : m_link_Check a0 = some r) :
  Con Try.prog 38 [.v Q2 a0] (.v (Enc.err ET) r) [] := by
 refine Con.of Try.func38 rfl Try.ntmps38 rfl ?_
 intro S w hF
 unfold m_link_Check at h
 refine W.seq ?_
 refine W.reg (σ' := ⟨[(1, .ptr 101 0)], [(101, .box 51 [.v Q0 a0.1, .v Q0 a0.2.1, .v (Enc.sl Q1) a0.2.2])]⟩) (J.k (JO.box 101 rfl (.prm (.one _ _) (.prm (.one _ _) (.one _ _))) rfl) (J.k (JO.assignNilE ET) (J.fin (Sw.Sub.mk id (.c rfl .nil) (.box rfl (.c rfl (.c rfl (.c rfl .nil))) .nil) rfl)))) ?_
 refine W.seq ?_
 refine W.seq ?_
 obtain ⟨v1, hv1, h⟩ := bind_e h
 refine W.reg (σ' := ⟨[(1, .ptr 101 0), (12, .v Enc.bool (!v1))], [(101, .box 51 [.v Q0 a0.1, .v Q0 a0.2.1, .v (Enc.sl Q1) a0.2.2])]⟩) (J.k (JO.fieldPtr 0 rfl Try.runUnderlying51 rfl Try.sizeOf3 rfl rfl) (J.k (JO.load rfl rfl rfl Try.isAgg3 Try.sizeOf3) (J.k (JO.fieldPtr 1 rfl Try.runUnderlying51 rfl Try.sizeOf3 rfl rfl) (J.k (JO.load rfl rfl rfl Try.isAgg3 Try.sizeOf3) (J.k (JO.lit (e := Q0) Try.runUnderlying22 Try.sizeOf3 Try.zeroValue3 rfl rfl rfl rfl (.cons (.dir rfl) (.cons (.dir rfl) .nil))) (J.k (JO.call0 (con_link_number hv1) Try.call71 (.cons (.dir rfl) .nil)) (J.k (JO.not rfl) (J.fin (Sw.Sub.mk id (.c rfl (.c rfl .nil)) (.box rfl (.c rfl (.c rfl (.c rfl .nil))) .nil) rfl))))))))) ?_
 rcases Bool.eq_false_or_eq_true (!v1) with hc2 | hc2
 ·replace h := cond_t hc2 h
  refine W.condT rfl hc2 ?_
  refine W.seq ?_
  refine W.reg (σ' := ⟨[(2, .v (Enc.err ET) (some (1 : Int)))], []⟩) (J.k (JO.mkErr Try.runUnderlying86 rfl) (J.k (JO.assign rfl) (J.fin (Sw.Sub.mk id (.c rfl .nil) .nil rfl)))) ?_
  refine W.ret ?_
  obtain rfl := Option.some.inj h
  exact XQ.sub (σ' := ⟨[(2, .v (Enc.err ET) (some (1 : Int)))], []⟩) (Sw.Sub.mk id (.c rfl .nil) .nil rfl) (XQ.ret1 hF noR rfl (RV.tmp rfl) .nil rfl)
 ·replace h := cond_f hc2 h
  refine W.condF rfl hc2 ?_
  refine W.skip ?_
  refine W.seq ?_
  refine W.seq ?_
  refine W.reg (σ' := ⟨[(1, .ptr 101 0), (17, .v Enc.bool (cm .gtr (a0.2.2.length : Int) (64 : Int)))], [(101, .box 51 [.v Q0 a0.1, .v Q0 a0.2.1, .v (Enc.sl Q1) a0.2.2])]⟩) (J.k (JO.fieldPtr 2 rfl Try.runUnderlying51 rfl Try.sizeOf49 rfl rfl) (J.k (JO.load rfl rfl rfl Try.isAgg49 Try.sizeOf49) (J.k (JO.len rfl Try.runUnderlying49) (J.k (JO.cmp rfl rfl rfl) (J.fin (Sw.Sub.mk id (.c rfl (.c rfl .nil)) (.box rfl (.c rfl (.c rfl (.c rfl .nil))) .nil) rfl)))))) ?_
  rcases Bool.eq_false_or_eq_true (cm .gtr (a0.2.2.length : Int) (64 : Int)) with hc3 | hc3
  ·replace h := cond_t hc3 h
   refine W.condT rfl hc3 ?_
   refine W.seq ?_
   refine W.reg (σ' := ⟨[(2, .v (Enc.err ET) (some (2 : Int)))], []⟩) (J.k (JO.mkErr Try.runUnderlying86 rfl) (J.k (JO.assign rfl) (J.fin (Sw.Sub.mk id (.c rfl .nil) .nil rfl)))) ?_
   refine W.ret ?_
   obtain rfl := Option.some.inj h
   exact XQ.sub (σ' := ⟨[(2, .v (Enc.err ET) (some (2 : Int)))], []⟩) (Sw.Sub.mk id (.c rfl .nil) .nil rfl) (XQ.ret1 hF noR rfl (RV.tmp rfl) .nil rfl)
  ·replace h := cond_f hc3 h
   refine W.condF rfl hc3 ?_
   refine W.skip ?_
   refine W.seq ?_
   refine W.seq ?_
   refine W.reg (σ' := ⟨[(20, .v (Enc.sl Q1) a0.2.2), (21, .v Q0 (a0.2.2.length : Int)), (22, .v Q0 (0 : Int))], []⟩) (J.k (JO.fieldPtr 2 rfl Try.runUnderlying51 rfl Try.sizeOf49 rfl rfl) (J.k (JO.load rfl rfl rfl Try.isAgg49 Try.sizeOf49) (J.k (JO.len rfl Try.runUnderlying49) (J.mv rfl (J.fin (Sw.Sub.mk id (.c rfl (.c rfl (.c rfl .nil))) .nil rfl)))))) ?_
   obtain ⟨o19, ho19, hb19, hr19⟩ := lp_elim h
   refine W.lp (σs := fun s14 : Int => ⟨[(20, .v (Enc.sl Q1) a0.2.2), (21, .v Q0 (a0.2.2.length : Int)), (22, .v Q0 s14)], []⟩) (fun x20 : Unit => ⟨[], []⟩) ho19 (Sw.Sub.mk id (.c rfl (.c rfl (.c rfl .nil))) .nil rfl) ?_ ?_
   ·intro x20 hy
    have h := hb19 _ hy
    refine W.seq ?_
    refine W.reg (σ' := ⟨[(2, .v (Enc.err ET) (none : Option Int))], []⟩) (J.k (JO.assignNilE ET) (J.fin (Sw.Sub.mk id (.c rfl .nil) .nil rfl))) ?_
    refine W.ret ?_
    obtain rfl := Option.some.inj h
    exact XQ.sub (σ' := ⟨[(2, .v (Enc.err ET) (none : Option Int))], []⟩) (Sw.Sub.mk id (.c rfl .nil) .nil rfl) (XQ.ret1 hF noR rfl (RV.tmp rfl) .nil rfl)
   intro s14 r19 h
   refine W.seq ?_
   refine W.reg (σ' := ⟨[(20, .v (Enc.sl Q1) a0.2.2), (21, .v Q0 (a0.2.2.length : Int)), (22, .v Q0 s14), (23, .v Enc.bool (cm .lss s14 (a0.2.2.length : Int)))], []⟩) (J.k (JO.cmp rfl rfl rfl) (J.fin (Sw.Sub.mk id (.c rfl (.c rfl (.c rfl (.c rfl .nil)))) .nil rfl))) ?_
   refine W.seq ?_
   rcases Bool.eq_false_or_eq_true (cm .lss s14 (a0.2.2.length : Int)) with hc21 | hc21
   ·replace h := cond_t hc21 h
    refine W.condT rfl hc21 ?_
    refine W.skip ?_
    refine W.seq ?_
    refine W.block ?_
    refine W.seq ?_
    obtain ⟨z22, hz22, h⟩ := bind_e h
    refine W.reg (σ' := ⟨[(4, .ptr 109 0), (20, .v (Enc.sl Q1) a0.2.2), (21, .v Q0 (a0.2.2.length : Int)), (22, .v Q0 s14)], [(109, .box 60 [.v Q0 z22.1, .v (Enc.sl Q0) z22.2.1, .v (Enc.sl eBlk) z22.2.2])]⟩) (J.k (JO.idx hz22 rfl rfl Try.runUnderlying49 Try.sizeOf60) (J.k (JO.loadPst rfl Try.isAgg60 Try.sizeOf60) (J.k (JO.alloc 109 Try.zeroValue60 rfl (.cons (Z.int .i64) (.cons (Z.sl Q0) (.cons (Z.sl eBlk) .nil))) rfl) (J.t (JM.storeAll rfl rfl rfl rfl (.prm (.one _ _) (.prm (.one _ _) (.one _ _))) Try.sizeOf60) (J.fin (Sw.Sub.mk id (.c rfl (.c rfl (.c rfl (.c rfl .nil)))) (.box rfl (.c rfl (.c rfl (.c rfl .nil))) .nil) rfl)))))) ?_
    refine W.seq ?_
    obtain ⟨v23, hv23, h⟩ := bind_e h
    refine W.reg (σ' := ⟨[(5, .v (Enc.err ET) v23), (20, .v (Enc.sl Q1) a0.2.2), (21, .v Q0 (a0.2.2.length : Int)), (22, .v Q0 s14)], []⟩) (J.k (JO.loadAll rfl rfl (.prm (.one _ _) (.prm (.one _ _) (.one _ _))) Try.isAgg60 Try.sizeOf60) (J.k (JO.call0 (con_link_load hv23) Try.call39 (.cons (.dir rfl) .nil)) (J.k (JO.assign rfl) (J.fin (Sw.Sub.mk id (.c rfl (.c rfl (.c rfl (.c rfl .nil)))) .nil rfl))))) ?_
    refine W.seq ?_
    refine W.reg (σ' := ⟨[(5, .v (Enc.err ET) v23), (20, .v (Enc.sl Q1) a0.2.2), (21, .v Q0 (a0.2.2.length : Int)), (22, .v Q0 s14), (29, .v Enc.bool (Option.isSome v23))], []⟩) (J.mv rfl (J.k (JO.errNe Try.runUnderlying34 rfl) (J.fin (Sw.Sub.mk id (.c rfl (.c rfl (.c rfl (.c rfl (.c rfl .nil))))) .nil rfl)))) ?_
    rcases Bool.eq_false_or_eq_true (Option.isSome v23) with hc24 | hc24
    ·replace h := cond_t hc24 h
     refine W.condT rfl hc24 ?_
     refine W.seq ?_
     refine W.reg (σ' := ⟨[(2, .v (Enc.err ET) v23)], []⟩) (J.mv rfl (J.k (JO.assign rfl) (J.fin (Sw.Sub.mk id (.c rfl .nil) .nil rfl)))) ?_
     refine W.ret ?_
     refine XQ.ret ?_
     obtain rfl := Option.some.inj h
     refine XQ.lret fun ho => ?_
     obtain rfl := hr19 _ ho
     exact XQ.sub (σ' := ⟨[(2, .v (Enc.err ET) v23)], []⟩) (Sw.Sub.mk id (.c rfl .nil) .nil rfl) (XQ.ret1 hF noR rfl (RV.tmp rfl) .nil rfl)
    ·replace h := cond_f hc24 h
     refine W.condF rfl hc24 ?_
     refine W.skip ?_
     refine W.fall ?_
     refine W.reg (σ' := ⟨[(20, .v (Enc.sl Q1) a0.2.2), (21, .v Q0 (a0.2.2.length : Int)), (22, .v Q0 (ar .add .i64 s14 (1 : Int)))], []⟩) (J.k (JO.arith rfl rfl rfl) (J.mv rfl (J.fin (Sw.Sub.mk id (.c rfl (.c rfl (.c rfl .nil))) .nil rfl)))) ?_
     obtain rfl := Option.some.inj h
     exact W.next (Sw.Sub.mk id (.c rfl (.c rfl (.c rfl .nil))) .nil rfl)
   ·replace h := cond_f hc21 h
    refine W.condF rfl hc21 ?_
    refine W.exit ?_
    obtain rfl := Option.some.inj h
    exact XQ.brk (Sw.Sub.mk id .nil .nil rfl)
set_option maxRecDepth 100000 in
set_option maxHeartbeats 4000000 in
theorem con_slices_Clone_int_int_nil {a0 : (Bool × (List Int))} {r : (List Int)} (h : m_slices_Clone_int_int_nil a0 = some r) :
  Con Try.prog 73 [.v (Enc.slN Q0) a0] (.ref 0) [(0, .arr 3 Q0 r)] := by
 refine Con.of Try.func73 rfl Try.ntmps73 rfl ?_
 intro S w hF
 unfold m_slices_Clone_int_int_nil at h
 refine W.seq ?_
 refine W.reg (σ' := ⟨[(0, .v (Enc.slN Q0) a0)], []⟩) (J.k (JO.assignNilR 101 3 Q0) (J.fin (Sw.Sub.mk id (.c rfl .nil) .nil rfl))) ?_
 refine W.seq ?_
 refine W.seq ?_
 refine W.reg (σ' := ⟨[(0, .v (Enc.slN Q0) a0), (4, .v Enc.bool a0.1)], []⟩) (J.mv rfl (J.k (JO.eqNilS rfl Try.runUnderlying22) (J.fin (Sw.Sub.mk id (.c rfl (.c rfl .nil)) .nil rfl)))) ?_
 rcases Bool.eq_false_or_eq_true a0.1 with hc1 | hc1
 ·replace h := cond_t hc1 h
  refine W.condT rfl hc1 ?_
  refine W.seq ?_
  refine W.reg (σ' := ⟨[(2, .ref 102)], [(102, .arr 3 Q0 ([] : (List Int)))]⟩) (J.k (JO.assignNilR 102 3 Q0) (J.fin (Sw.Sub.mk id (.c rfl .nil) (.arr rfl .nil) rfl))) ?_
  refine W.ret ?_
  obtain rfl := Option.some.inj h
  exact XQ.sub (σ' := ⟨[(2, .ref 0)], [(0, .arr 3 Q0 ([] : (List Int)))]⟩) (Sw.Sub.mk (rn [(0, 102)]) (.c rfl .nil) (.arr rfl .nil) rfl) (XQ.ret1 hF noR rfl (RV.tmp rfl) (.cons rfl .nil) rfl)
 ·replace h := cond_f hc1 h
  refine W.condF rfl hc1 ?_
  refine W.skip ?_
  refine W.seq ?_
  obtain ⟨v2, hv2, h⟩ := bind_e h
  refine W.reg (σ' := ⟨[(2, .ref 104)], [(104, .arr 3 Q0 v2)]⟩) (J.k (JO.litR (e := Q0) 103 Try.runUnderlying22 Try.sizeOf3 Try.zeroValue3 rfl rfl rfl rfl .nil) (J.mv rfl (J.t (JM.append 104 hv2 rfl rfl (.slN rfl) Try.runUnderlying22 Try.typeInfo3 Try.sizeOf3 rfl rfl rfl rfl rfl) (J.k (JO.assign rfl) (J.fin (Sw.Sub.mk id (.c rfl .nil) (.arr rfl .nil) rfl)))))) ?_
  refine W.ret ?_
  obtain rfl := Option.some.inj h
  exact XQ.sub (σ' := ⟨[(2, .ref 0)], [(0, .arr 3 Q0 v2)]⟩) (Sw.Sub.mk (rn [(0, 104)]) (.c rfl .nil) (.arr rfl .nil) rfl) (XQ.ret1 hF noR rfl (RV.tmp rfl) (.cons rfl .nil) rfl)
theorem con_slices_Clone_int_int {a0 : (List Int)} {r : (List Int)} (h : m_slices_Clone_int_int a0 = some r) :
  Con Try.prog 73 [.v (Enc.sl Q0) a0] (.ref 0) [(0, .arr 3 Q0 r)] :=
 Con.nilCases fun b hb => con_slices_Clone_int_int_nil (by cases b with | true => rw [hb rfl] at h ⊢; exact h | false => exact clone_f h)
set_option maxRecDepth 100000 in
set_option maxHeartbeats 4000000 in
theorem con_slices_Clone_api_Block_api_Block_nil {a0 : (Bool × (List Blk))} {r : (List Blk)} (h : m_slices_Clone_api_Block_api_Block_nil a0 = some r) :
  Con Try.prog 36 [.v (Enc.slN eBlk) a0] (.ref 0) [(0, .arr 29 eBlk r)] := by
 refine Con.of Try.func36 rfl Try.ntmps36 rfl ?_
 intro S w hF
 unfold m_slices_Clone_api_Block_api_Block_nil at h
 refine W.seq ?_
 refine W.reg (σ' := ⟨[(0, .v (Enc.slN eBlk) a0)], []⟩) (J.k (JO.assignNilR 101 29 eBlk) (J.fin (Sw.Sub.mk id (.c rfl .nil) .nil rfl))) ?_
 refine W.seq ?_
 refine W.seq ?_
 refine W.reg (σ' := ⟨[(0, .v (Enc.slN eBlk) a0), (4, .v Enc.bool a0.1)], []⟩) (J.mv rfl (J.k (JO.eqNilS rfl Try.runUnderlying24) (J.fin (Sw.Sub.mk id (.c rfl (.c rfl .nil)) .nil rfl)))) ?_
 rcases Bool.eq_false_or_eq_true a0.1 with hc1 | hc1
 ·replace h := cond_t hc1 h
  refine W.condT rfl hc1 ?_
  refine W.seq ?_
  refine W.reg (σ' := ⟨[(2, .ref 102)], [(102, .arr 29 eBlk ([] : (List Blk)))]⟩) (J.k (JO.assignNilR 102 29 eBlk) (J.fin (Sw.Sub.mk id (.c rfl .nil) (.arr rfl .nil) rfl))) ?_
  refine W.ret ?_
  obtain rfl := Option.some.inj h
  exact XQ.sub (σ' := ⟨[(2, .ref 0)], [(0, .arr 29 eBlk ([] : (List Blk)))]⟩) (Sw.Sub.mk (rn [(0, 102)]) (.c rfl .nil) (.arr rfl .nil) rfl) (XQ.ret1 hF noR rfl (RV.tmp rfl) (.cons rfl .nil) rfl)
 ·replace h := cond_f hc1 h
  refine W.condF rfl hc1 ?_
  refine W.skip ?_
  refine W.seq ?_
  obtain ⟨v2, hv2, h⟩ := bind_e h
  refine W.reg (σ' := ⟨[(2, .ref 104)], [(104, .arr 29 eBlk v2)]⟩) (J.k (JO.litR (e := eBlk) 103 Try.runUnderlying24 Try.sizeOf29 Try.zeroValue29 rfl rfl rfl rfl .nil) (J.mv rfl (J.t (JM.append 104 hv2 rfl rfl (.slN rfl) Try.runUnderlying24 Try.typeInfo29 Try.sizeOf29 rfl rfl rfl rfl rfl) (J.k (JO.assign rfl) (J.fin (Sw.Sub.mk id (.c rfl .nil) (.arr rfl .nil) rfl)))))) ?_
  refine W.ret ?_
  obtain rfl := Option.some.inj h
  exact XQ.sub (σ' := ⟨[(2, .ref 0)], [(0, .arr 29 eBlk v2)]⟩) (Sw.Sub.mk (rn [(0, 104)]) (.c rfl .nil) (.arr rfl .nil) rfl) (XQ.ret1 hF noR rfl (RV.tmp rfl) (.cons rfl .nil) rfl)
theorem con_slices_Clone_api_Block_api_Block {a0 : (List Blk)} {r : (List Blk)} (h : m_slices_Clone_api_Block_api_Block a0 = some r) :
  Con Try.prog 36 [.v (Enc.sl eBlk) a0] (.ref 0) [(0, .arr 29 eBlk r)] :=
 Con.nilCases fun b hb => con_slices_Clone_api_Block_api_Block_nil (by cases b with | true => rw [hb rfl] at h ⊢; exact h | false => exact clone_f h)
set_option maxRecDepth 100000 in
set_option maxHeartbeats 4000000 in
theorem con_link_clone {a0 : (Int × (List Int) × (List Blk))} {r : (Int × (List Int) × (List Blk))} (h : m_link_clone a0 = some r) :
  Con Try.prog 41 [.v Q1 a0] (.v Q1 r) [] := by
 refine Con.of Try.func41 rfl Try.ntmps41 rfl ?_
 intro S w hF
 unfold m_link_clone at h
 refine W.seq ?_
 refine W.reg (σ' := ⟨[(1, .ptr 101 0), (2, .ptr 102 0)], [(101, .box 60 [.v Q0 a0.1, .v (Enc.sl Q0) a0.2.1, .v (Enc.sl eBlk) a0.2.2]), (102, .box 60 [.v Q0 (0 : Int), .v (Enc.sl Q0) ([] : (List Int)), .v (Enc.sl eBlk) ([] : (List Blk))])]⟩) (J.k (JO.box 101 rfl (.prm (.one _ _) (.prm (.one _ _) (.one _ _))) rfl) (J.k (JO.alloc 102 Try.zeroValue60 rfl (.cons (Z.int .i64) (.cons (Z.sl Q0) (.cons (Z.sl eBlk) .nil))) rfl) (J.fin (Sw.Sub.mk id (.c rfl (.c rfl .nil)) (.box rfl (.c rfl (.c rfl (.c rfl .nil))) (.box rfl (.c rfl (.c rfl (.c rfl .nil))) .nil)) rfl)))) ?_
 refine W.seq ?_
 obtain ⟨v1, hv1, h⟩ := bind_e h
 obtain ⟨v2, hv2, h⟩ := bind_e h
 refine W.dr2 (σ' := ⟨[(1, .ptr 101 0), (2, .ptr 102 0)], [(101, .box 60 [.v Q0 a0.1, .ref 103000, .ref 104000]), (102, .box 60 [.v Q0 (0 : Int), .v (Enc.sl Q0) ([] : (List Int)), .v (Enc.sl eBlk) ([] : (List Blk))]), (103000, .arr 3 Q0 v1), (104000, .arr 29 eBlk v2)]⟩) 10 [0, 1, 3, 0, 8, 31, 31, 127, 255, 511] mixed (by exact (.cons (.none rfl) (JO.fieldPtr 1 rfl Try.runUnderlying60 rfl Try.sizeOf22 rfl rfl) rfl rfl (.cons (.none rfl) (JO.load rfl rfl rfl Try.isAgg22 Try.sizeOf22) rfl rfl (.cons (.none rfl) (JO.call 103000 (con_slices_Clone_int_int hv1) Try.call73 (.cons (.dir rfl) .nil) rfl) rfl rfl (.cons (.none rfl) (JO.fieldPtr 2 rfl Try.runUnderlying60 rfl Try.sizeOf24 rfl rfl) rfl rfl (.cons (.none rfl) (JO.load rfl rfl rfl Try.isAgg24 Try.sizeOf24) rfl rfl (.cons (.none rfl) (JO.call 104000 (con_slices_Clone_api_Block_api_Block hv2) Try.call36 (.cons (.dir rfl) .nil) rfl) rfl rfl (.cons (.none rfl) (JO.fieldPtr 1 rfl Try.runUnderlying60 rfl Try.sizeOf22 rfl rfl) rfl rfl (JP2.store (.none rfl) rfl rfl rfl rfl rfl rfl rfl Try.sizeOf22 (.cons (.none rfl) (JO.fieldPtr 2 rfl Try.runUnderlying60 rfl Try.sizeOf24 rfl rfl) rfl rfl (JP2.store (.none rfl) rfl rfl rfl rfl rfl rfl rfl Try.sizeOf24 .nil))))))))))) (by exact (J.fin (Sw.Sub.mk id (.c rfl (.c rfl .nil)) (.box rfl (.c rfl (.c rfl (.c rfl .nil))) (.box rfl (.c rfl (.c rfl (.c rfl .nil))) (.arr rfl (.arr rfl .nil)))) rfl))) rfl (by decide +kernel) (by decide +kernel) (by decide +kernel) (by kernel_rfl) ?_
 refine W.seq ?_
 refine W.reg (σ' := ⟨[(2, .ptr 102 0)], [(102, .box 60 [.v Q0 a0.1, .ref 103000, .ref 104000]), (103000, .arr 3 Q0 v1), (104000, .arr 29 eBlk v2)]⟩) (J.k (JO.loadAgg rfl rfl rfl Try.isAgg60 Try.sizeOf60) (J.t (JM.storeAgg rfl rfl rfl rfl rfl rfl Try.sizeOf60) (J.fin (Sw.Sub.mk id (.c rfl .nil) (.box rfl (.c rfl (.c rfl (.c rfl .nil))) (.arr rfl (.arr rfl .nil))) rfl)))) ?_
 refine W.ret ?_
 obtain rfl := Option.some.inj h
 exact XQ.sub (σ' := ⟨[(2, .ptr 90 0)], [(90, .box 60 [.v Q0 a0.1, .v (Enc.sl Q0) v1, .v (Enc.sl eBlk) v2])]⟩) (Sw.Sub.mk (rn [(90, 102)]) (.c rfl .nil) (.box rfl (.c rfl (.cons (.frz rfl rfl) (.cons (.frz rfl rfl) .nil))) .nil) rfl) (XQ.ret1 hF noR rfl (RV.cellAll rfl rfl (.prm (.one _ _) (.prm (.one _ _) (.one _ _))) Try.isAgg60 Try.sizeOf60) .nil rfl)
set_option maxRecDepth 100000 in
set_option maxHeartbeats 4000000 in
theorem con_link_queue {a0 : Q3} {r : Q3} (h : m_link_queue a0 = some r) :
  Con Try.prog 40 [.v (Enc.sl Q1) a0] (.ref 0) [(0, .arr 60 Q1 r)] := by
 refine Con.of Try.func40 rfl Try.ntmps40 rfl ?_
 intro S w hF
 unfold m_link_queue at h
 refine W.seq ?_
 refine W.reg (σ' := ⟨[(0, .v (Enc.sl Q1) a0)], []⟩) (J.k (JO.assignNilR 101 60 Q1) (J.fin (Sw.Sub.mk id (.c rfl .nil) .nil rfl))) ?_
 refine W.seq ?_
 refine W.reg (σ' := ⟨[(0, .v (Enc.sl Q1) a0), (3, .ref 102)], [(102, .arr 60 Q1 ([] : Q3))]⟩) (J.k (JO.assignNilR 102 60 Q1) (J.fin (Sw.Sub.mk id (.c rfl (.c rfl .nil)) (.arr rfl .nil) rfl))) ?_
 refine W.seq ?_
 refine W.seq ?_
 refine W.reg (σ' := ⟨[(3, .ref 102), (6, .v (Enc.sl Q1) a0), (7, .v Q0 (a0.length : Int)), (8, .v Q0 (0 : Int))], [(102, .arr 60 Q1 ([] : Q3))]⟩) (J.mv rfl (J.k (JO.len rfl Try.runUnderlying49) (J.mv rfl (J.fin (Sw.Sub.mk id (.c rfl (.c rfl (.c rfl (.c rfl .nil)))) (.arr rfl .nil) rfl))))) ?_
 obtain ⟨o16, ho16, hb16, hr16⟩ := lp_elim h
 refine W.lp (σs := fun s11 : Int × Q3 => ⟨[(3, .ref 112), (6, .v (Enc.sl Q1) a0), (7, .v Q0 (a0.length : Int)), (8, .v Q0 s11.1)], [(112, .arr 60 Q1 s11.2)]⟩) (fun x17 : Q3 => ⟨[(3, .ref 112)], [(112, .arr 60 Q1 x17)]⟩) ho16 (Sw.Sub.mk (rn [(112, 102)]) (.c rfl (.c rfl (.c rfl (.c rfl .nil)))) (.arr rfl .nil) rfl) ?_ ?_
 ·intro x17 hy
  have h := hb16 _ hy
  refine W.seq ?_
  refine W.reg (σ' := ⟨[(2, .ref 112)], [(112, .arr 60 Q1 x17)]⟩) (J.mv rfl (J.k (JO.assign rfl) (J.fin (Sw.Sub.mk id (.c rfl .nil) (.arr rfl .nil) rfl)))) ?_
  refine W.ret ?_
  obtain rfl := Option.some.inj h
  exact XQ.sub (σ' := ⟨[(2, .ref 0)], [(0, .arr 60 Q1 x17)]⟩) (Sw.Sub.mk (rn [(0, 112)]) (.c rfl .nil) (.arr rfl .nil) rfl) (XQ.ret1 hF noR rfl (RV.tmp rfl) (.cons rfl .nil) rfl)
 intro s11 r16 h
 refine W.seq ?_
 refine W.reg (σ' := ⟨[(3, .ref 112), (6, .v (Enc.sl Q1) a0), (7, .v Q0 (a0.length : Int)), (8, .v Q0 s11.1), (9, .v Enc.bool (cm .lss s11.1 (a0.length : Int)))], [(112, .arr 60 Q1 s11.2)]⟩) (J.k (JO.cmp rfl rfl rfl) (J.fin (Sw.Sub.mk id (.c rfl (.c rfl (.c rfl (.c rfl (.c rfl .nil))))) (.arr rfl .nil) rfl))) ?_
 refine W.seq ?_
 rcases Bool.eq_false_or_eq_true (cm .lss s11.1 (a0.length : Int)) with hc18 | hc18
 ·replace h := cond_t hc18 h
  refine W.condT rfl hc18 ?_
  refine W.skip ?_
  refine W.seq ?_
  refine W.block ?_
  refine W.seq ?_
  obtain ⟨z19, hz19, h⟩ := bind_e h
  refine W.reg (σ' := ⟨[(3, .ref 112), (5, .ptr 116 0), (6, .v (Enc.sl Q1) a0), (7, .v Q0 (a0.length : Int)), (8, .v Q0 s11.1)], [(112, .arr 60 Q1 s11.2), (116, .box 60 [.v Q0 z19.1, .v (Enc.sl Q0) z19.2.1, .v (Enc.sl eBlk) z19.2.2])]⟩) (J.k (JO.idx hz19 rfl rfl Try.runUnderlying49 Try.sizeOf60) (J.k (JO.loadPst rfl Try.isAgg60 Try.sizeOf60) (J.k (JO.alloc 116 Try.zeroValue60 rfl (.cons (Z.int .i64) (.cons (Z.sl Q0) (.cons (Z.sl eBlk) .nil))) rfl) (J.t (JM.storeAll rfl rfl rfl rfl (.prm (.one _ _) (.prm (.one _ _) (.one _ _))) Try.sizeOf60) (J.fin (Sw.Sub.mk id (.c rfl (.c rfl (.c rfl (.c rfl (.c rfl .nil))))) (.arr rfl (.box rfl (.c rfl (.c rfl (.c rfl .nil))) .nil)) rfl)))))) ?_
  obtain ⟨v20, hv20, h⟩ := bind_e h
  obtain ⟨v21, hv21, h⟩ := bind_e h
  refine W.reg (σ' := ⟨[(3, .ref 118), (6, .v (Enc.sl Q1) a0), (7, .v Q0 (a0.length : Int)), (8, .v Q0 s11.1)], [(118, .arr 60 Q1 v21)]⟩) (J.mv rfl (J.k (JO.loadAll rfl rfl (.prm (.one _ _) (.prm (.one _ _) (.one _ _))) Try.isAgg60 Try.sizeOf60) (J.k (JO.call0 (con_link_clone hv20) Try.call41 (.cons (.dir rfl) .nil)) (J.k (JO.lit (e := Q1) Try.runUnderlying49 Try.sizeOf60 Try.zeroValue60 rfl rfl rfl rfl (.cons (.dir rfl) .nil)) (J.t (JM.append 118 hv21 rfl rfl (.sl rfl) Try.runUnderlying49 Try.typeInfo60 Try.sizeOf60 rfl rfl rfl rfl rfl) (J.k (JO.assign rfl) (J.fin (Sw.Sub.mk id (.c rfl (.c rfl (.c rfl (.c rfl .nil)))) (.arr rfl .nil) rfl)))))))) ?_
  refine W.fall ?_
  refine W.reg (σ' := ⟨[(3, .ref 118), (6, .v (Enc.sl Q1) a0), (7, .v Q0 (a0.length : Int)), (8, .v Q0 (ar .add .i64 s11.1 (1 : Int)))], [(118, .arr 60 Q1 v21)]⟩) (J.k (JO.arith rfl rfl rfl) (J.mv rfl (J.fin (Sw.Sub.mk id (.c rfl (.c rfl (.c rfl (.c rfl .nil)))) (.arr rfl .nil) rfl)))) ?_
  obtain rfl := Option.some.inj h
  exact W.next (Sw.Sub.mk (rn [(112, 118)]) (.c rfl (.c rfl (.c rfl (.c rfl .nil)))) (.arr rfl .nil) rfl)
 ·replace h := cond_f hc18 h
  refine W.condF rfl hc18 ?_
  refine W.exit ?_
  obtain rfl := Option.some.inj h
  exact XQ.brk (Sw.Sub.mk id (.c rfl .nil) (.arr rfl .nil) rfl)
set_option maxRecDepth 100000 in
set_option maxHeartbeats 4000000 in
theorem con_link_Offer {a0 : (Int × Int × Q3)} {a1 : (Int × (List Int) × (List Blk))} {r : (Int × Int × Q3) × (Option Int)} (h : m_link_Offer a0 a1 = some r) :
  Con Try.prog 18 [.v Q2 a0, .v Q1 a1] (.tup [.v Q2 r.1, .v (Enc.err ET) r.2]) [] := by
 refine Con.of Try.func18 rfl Try.ntmps18 rfl ?_
 intro S w hF
 unfold m_link_Offer at h
 refine W.seq ?_
 refine W.reg (σ' := ⟨[(2, .ptr 101 0), (3, .ptr 102 0), (4, .ptr 103 0)], [(101, .box 51 [.v Q0 a0.1, .v Q0 a0.2.1, .v (Enc.sl Q1) a0.2.2]), (102, .box 60 [.v Q0 a1.1, .v (Enc.sl Q0) a1.2.1, .v (Enc.sl eBlk) a1.2.2]), (103, .box 51 [.v Q0 (0 : Int), .v Q0 (0 : Int), .v (Enc.sl Q1) ([] : Q3)])]⟩) (J.k (JO.box 101 rfl (.prm (.one _ _) (.prm (.one _ _) (.one _ _))) rfl) (J.k (JO.box 102 rfl (.prm (.one _ _) (.prm (.one _ _) (.one _ _))) rfl) (J.k (JO.alloc 103 Try.zeroValue51 rfl (.cons (Z.int .i64) (.cons (Z.int .i64) (.cons (Z.sl Q1) .nil))) rfl) (J.k (JO.assignNilE ET) (J.fin (Sw.Sub.mk id (.c rfl (.c rfl (.c rfl .nil))) (.box rfl (.c rfl (.c rfl (.c rfl .nil))) (.box rfl (.c rfl (.c rfl (.c rfl .nil))) (.box rfl (.c rfl (.c rfl (.c rfl .nil))) .nil))) rfl)))))) ?_
 refine W.seq ?_
 refine W.seq ?_
 obtain ⟨v1, hv1, h⟩ := bind_e h
 refine W.reg (σ' := ⟨[(2, .ptr 101 0), (3, .ptr 102 0), (4, .ptr 103 0), (6, .v (Enc.err ET) v1)], [(101, .box 51 [.v Q0 a0.1, .v Q0 a0.2.1, .v (Enc.sl Q1) a0.2.2]), (102, .box 60 [.v Q0 a1.1, .v (Enc.sl Q0) a1.2.1, .v (Enc.sl eBlk) a1.2.2]), (103, .box 51 [.v Q0 (0 : Int), .v Q0 (0 : Int), .v (Enc.sl Q1) ([] : Q3)])]⟩) (J.k (JO.loadAll rfl rfl (.prm (.one _ _) (.prm (.one _ _) (.one _ _))) Try.isAgg51 Try.sizeOf51) (J.k (JO.call0 (con_link_Check hv1) Try.call38 (.cons (.dir rfl) .nil)) (J.k (JO.assign rfl) (J.fin (Sw.Sub.mk id (.c rfl (.c rfl (.c rfl (.c rfl .nil)))) (.box rfl (.c rfl (.c rfl (.c rfl .nil))) (.box rfl (.c rfl (.c rfl (.c rfl .nil))) (.box rfl (.c rfl (.c rfl (.c rfl .nil))) .nil))) rfl))))) ?_
 refine W.seq ?_
 refine W.reg (σ' := ⟨[(2, .ptr 101 0), (3, .ptr 102 0), (4, .ptr 103 0), (6, .v (Enc.err ET) v1), (11, .v Enc.bool (Option.isSome v1))], [(101, .box 51 [.v Q0 a0.1, .v Q0 a0.2.1, .v (Enc.sl Q1) a0.2.2]), (102, .box 60 [.v Q0 a1.1, .v (Enc.sl Q0) a1.2.1, .v (Enc.sl eBlk) a1.2.2]), (103, .box 51 [.v Q0 (0 : Int), .v Q0 (0 : Int), .v (Enc.sl Q1) ([] : Q3)])]⟩) (J.mv rfl (J.k (JO.errNe Try.runUnderlying34 rfl) (J.fin (Sw.Sub.mk id (.c rfl (.c rfl (.c rfl (.c rfl (.c rfl .nil))))) (.box rfl (.c rfl (.c rfl (.c rfl .nil))) (.box rfl (.c rfl (.c rfl (.c rfl .nil))) (.box rfl (.c rfl (.c rfl (.c rfl .nil))) .nil))) rfl)))) ?_
 rcases Bool.eq_false_or_eq_true (Option.isSome v1) with hc2 | hc2
 ·replace h := cond_t hc2 h
  refine W.condT rfl hc2 ?_
  refine W.seq ?_
  refine W.reg (σ' := ⟨[(4, .ptr 103 0), (5, .v (Enc.err ET) v1)], [(103, .box 51 [.v Q0 (0 : Int), .v Q0 (0 : Int), .v (Enc.sl Q1) ([] : Q3)])]⟩) (J.k (JO.build built51 (.cons (Z.int .i64) (.cons (Z.int .i64) (.cons (Z.sl Q1) .nil))) .nil) (J.mv rfl (J.t (JM.storeAgg rfl rfl rfl rfl rfl rfl Try.sizeOf51) (J.k (JO.assign rfl) (J.fin (Sw.Sub.mk id (.c rfl (.c rfl .nil)) (.box rfl (.c rfl (.c rfl (.c rfl .nil))) .nil) rfl)))))) ?_
  refine W.ret ?_
  obtain rfl := Option.some.inj h
  exact XQ.sub (σ' := ⟨[(4, .ptr 90 0), (5, .v (Enc.err ET) v1)], [(90, .box 51 [.v Q0 (0 : Int), .v Q0 (0 : Int), .v (Enc.sl Q1) ([] : Q3)])]⟩) (Sw.Sub.mk (rn [(90, 103)]) (.c rfl (.c rfl .nil)) (.box rfl (.c rfl (.c rfl (.c rfl .nil))) .nil) rfl) (XQ.ret2 hF noR rfl (RV.cellAll rfl rfl (.prm (.one _ _) (.prm (.one _ _) (.one _ _))) Try.isAgg51 Try.sizeOf51) (RV.tmp rfl) .nil rfl)
 ·replace h := cond_f hc2 h
  refine W.condF rfl hc2 ?_
  refine W.skip ?_
  refine W.seq ?_
  refine W.seq ?_
  obtain ⟨v3, hv3, h⟩ := bind_e h
  refine W.reg (σ' := ⟨[(2, .ptr 101 0), (3, .ptr 102 0), (4, .ptr 103 0), (7, .v (Enc.err ET) v3)], [(101, .box 51 [.v Q0 a0.1, .v Q0 a0.2.1, .v (Enc.sl Q1) a0.2.2]), (102, .box 60 [.v Q0 a1.1, .v (Enc.sl Q0) a1.2.1, .v (Enc.sl eBlk) a1.2.2]), (103, .box 51 [.v Q0 (0 : Int), .v Q0 (0 : Int), .v (Enc.sl Q1) ([] : Q3)])]⟩) (J.k (JO.loadAll rfl rfl (.prm (.one _ _) (.prm (.one _ _) (.one _ _))) Try.isAgg60 Try.sizeOf60) (J.k (JO.call0 (con_link_load hv3) Try.call39 (.cons (.dir rfl) .nil)) (J.k (JO.assign rfl) (J.fin (Sw.Sub.mk id (.c rfl (.c rfl (.c rfl (.c rfl .nil)))) (.box rfl (.c rfl (.c rfl (.c rfl .nil))) (.box rfl (.c rfl (.c rfl (.c rfl .nil))) (.box rfl (.c rfl (.c rfl (.c rfl .nil))) .nil))) rfl))))) ?_
  refine W.seq ?_
  refine W.reg (σ' := ⟨[(2, .ptr 101 0), (3, .ptr 102 0), (4, .ptr 103 0), (7, .v (Enc.err ET) v3), (17, .v Enc.bool (Option.isSome v3))], [(101, .box 51 [.v Q0 a0.1, .v Q0 a0.2.1, .v (Enc.sl Q1) a0.2.2]), (102, .box 60 [.v Q0 a1.1, .v (Enc.sl Q0) a1.2.1, .v (Enc.sl eBlk) a1.2.2]), (103, .box 51 [.v Q0 (0 : Int), .v Q0 (0 : Int), .v (Enc.sl Q1) ([] : Q3)])]⟩) (J.mv rfl (J.k (JO.errNe Try.runUnderlying34 rfl) (J.fin (Sw.Sub.mk id (.c rfl (.c rfl (.c rfl (.c rfl (.c rfl .nil))))) (.box rfl (.c rfl (.c rfl (.c rfl .nil))) (.box rfl (.c rfl (.c rfl (.c rfl .nil))) (.box rfl (.c rfl (.c rfl (.c rfl .nil))) .nil))) rfl)))) ?_
  rcases Bool.eq_false_or_eq_true (Option.isSome v3) with hc4 | hc4
  ·replace h := cond_t hc4 h
   refine W.condT rfl hc4 ?_
   refine W.seq ?_
   refine W.reg (σ' := ⟨[(4, .ptr 103 0), (5, .v (Enc.err ET) v3)], [(103, .box 51 [.v Q0 (0 : Int), .v Q0 (0 : Int), .v (Enc.sl Q1) ([] : Q3)])]⟩) (J.k (JO.build built51 (.cons (Z.int .i64) (.cons (Z.int .i64) (.cons (Z.sl Q1) .nil))) .nil) (J.mv rfl (J.t (JM.storeAgg rfl rfl rfl rfl rfl rfl Try.sizeOf51) (J.k (JO.assign rfl) (J.fin (Sw.Sub.mk id (.c rfl (.c rfl .nil)) (.box rfl (.c rfl (.c rfl (.c rfl .nil))) .nil) rfl)))))) ?_
   refine W.ret ?_
   obtain rfl := Option.some.inj h
   exact XQ.sub (σ' := ⟨[(4, .ptr 90 0), (5, .v (Enc.err ET) v3)], [(90, .box 51 [.v Q0 (0 : Int), .v Q0 (0 : Int), .v (Enc.sl Q1) ([] : Q3)])]⟩) (Sw.Sub.mk (rn [(90, 103)]) (.c rfl (.c rfl .nil)) (.box rfl (.c rfl (.c rfl (.c rfl .nil))) .nil) rfl) (XQ.ret2 hF noR rfl (RV.cellAll rfl rfl (.prm (.one _ _) (.prm (.one _ _) (.one _ _))) Try.isAgg51 Try.sizeOf51) (RV.tmp rfl) .nil rfl)
  ·replace h := cond_f hc4 h
   refine W.condF rfl hc4 ?_
   refine W.skip ?_
   refine W.seq ?_
   refine W.seq ?_
   obtain ⟨x6, hx, h⟩ := bind_e h
   refine W.reg (σ' := ⟨[(2, .ptr 101 0), (3, .ptr 102 0), (4, .ptr 103 0), (32, .v Enc.bool x6)], [(101, .box 51 [.v Q0 a0.1, .v Q0 a0.2.1, .v (Enc.sl Q1) a0.2.2]), (102, .box 60 [.v Q0 a1.1, .v (Enc.sl Q0) a1.2.1, .v (Enc.sl eBlk) a1.2.2]), (103, .box 51 [.v Q0 (0 : Int), .v Q0 (0 : Int), .v (Enc.sl Q1) ([] : Q3)])]⟩) ?_ ?_
   ·rcases Bool.eq_false_or_eq_true (cm .eql (a0.2.2.length : Int) (64 : Int)) with hc7 | hc7
    ·replace hx := cond_t hc7 hx
     obtain rfl := Option.some.inj hx
     exact (J.k (JO.fieldPtr 2 rfl Try.runUnderlying51 rfl Try.sizeOf49 rfl rfl) (J.k (JO.load rfl rfl rfl Try.isAgg49 Try.sizeOf49) (J.k (JO.len rfl Try.runUnderlying49) (J.k (JO.cmp rfl rfl rfl) (J.mv rfl (J.u 24 hc7 (J.u 24 hc7 (J.u 24 hc7 (J.u 24 hc7 (J.u 24 hc7 (J.u 24 hc7 (J.u 24 hc7 (J.k (JO.pT hc7 rfl rfl) (J.fin (Sw.Sub.mk id (.c rfl (.c rfl (.c rfl (.c rfl .nil)))) (.box rfl (.c rfl (.c rfl (.c rfl .nil))) (.box rfl (.c rfl (.c rfl (.c rfl .nil))) (.box rfl (.c rfl (.c rfl (.c rfl .nil))) .nil))) rfl)))))))))))))))
    ·replace hx := cond_f hc7 hx
     obtain rfl := Option.some.inj hx
     exact (J.k (JO.fieldPtr 2 rfl Try.runUnderlying51 rfl Try.sizeOf49 rfl rfl) (J.k (JO.load rfl rfl rfl Try.isAgg49 Try.sizeOf49) (J.k (JO.len rfl Try.runUnderlying49) (J.k (JO.cmp rfl rfl rfl) (J.mv rfl (J.m 24 hc7 (JO.fieldPtr 1 rfl Try.runUnderlying51 rfl Try.sizeOf3 rfl rfl) (J.m 24 hc7 (JO.load rfl rfl rfl Try.isAgg3 Try.sizeOf3) (J.m 24 hc7 (JO.fieldPtr 2 rfl Try.runUnderlying51 rfl Try.sizeOf49 rfl rfl) (J.m 24 hc7 (JO.load rfl rfl rfl Try.isAgg49 Try.sizeOf49) (J.m 24 hc7 (JO.len rfl Try.runUnderlying49) (J.m 24 hc7 (JO.arith rfl rfl rfl) (J.m 24 hc7 (JO.cmp rfl rfl rfl) (J.k (JO.pF hc7 rfl rfl) (J.fin (Sw.Sub.mk id (.c rfl (.c rfl (.c rfl (.c rfl .nil)))) (.box rfl (.c rfl (.c rfl (.c rfl .nil))) (.box rfl (.c rfl (.c rfl (.c rfl .nil))) (.box rfl (.c rfl (.c rfl (.c rfl .nil))) .nil))) rfl)))))))))))))))
   rcases Bool.eq_false_or_eq_true x6 with hc8 | hc8
   ·replace h := cond_t hc8 h
    refine W.condT rfl hc8 ?_
    refine W.seq ?_
    refine W.reg (σ' := ⟨[(4, .ptr 103 0), (5, .v (Enc.err ET) (some (2 : Int)))], [(103, .box 51 [.v Q0 (0 : Int), .v Q0 (0 : Int), .v (Enc.sl Q1) ([] : Q3)])]⟩) (J.k (JO.build built51 (.cons (Z.int .i64) (.cons (Z.int .i64) (.cons (Z.sl Q1) .nil))) .nil) (J.k (JO.mkErr Try.runUnderlying86 rfl) (J.t (JM.storeAgg rfl rfl rfl rfl rfl rfl Try.sizeOf51) (J.k (JO.assign rfl) (J.fin (Sw.Sub.mk id (.c rfl (.c rfl .nil)) (.box rfl (.c rfl (.c rfl (.c rfl .nil))) .nil) rfl)))))) ?_
    refine W.ret ?_
    obtain rfl := Option.some.inj h
    exact XQ.sub (σ' := ⟨[(4, .ptr 90 0), (5, .v (Enc.err ET) (some (2 : Int)))], [(90, .box 51 [.v Q0 (0 : Int), .v Q0 (0 : Int), .v (Enc.sl Q1) ([] : Q3)])]⟩) (Sw.Sub.mk (rn [(90, 103)]) (.c rfl (.c rfl .nil)) (.box rfl (.c rfl (.c rfl (.c rfl .nil))) .nil) rfl) (XQ.ret2 hF noR rfl (RV.cellAll rfl rfl (.prm (.one _ _) (.prm (.one _ _) (.one _ _))) Try.isAgg51 Try.sizeOf51) (RV.tmp rfl) .nil rfl)
   ·replace h := cond_f hc8 h
    refine W.condF rfl hc8 ?_
    refine W.skip ?_
    refine W.seq ?_
    obtain ⟨v12, hv12, h⟩ := bind_e h
    obtain ⟨v13, hv13, h⟩ := bind_e h
    obtain ⟨v14, hv14, h⟩ := bind_e h
    refine W.dr3 [⟨0, 35, .ptr 101 0⟩, ⟨1, 36, .v Q0 a0.1⟩, ⟨2, 37, .ptr 101 1⟩, ⟨3, 38, .v Q0 a0.2.1⟩, ⟨4, 39, .ptr 101 2⟩, ⟨5, 40, .v (Enc.sl Q1) a0.2.2⟩, ⟨7, 42, .v Q1 a1⟩] [6, 8, 9, 10, 11, 12, 13] [2, 3, 35, 36, 37, 38, 39, 40, 42] [101, 102] [0, 1, 0, 4, 0, 16, 48, 0, 240, 496, 1008, 2047, 4095, 8191] mixed (by exact (QA.cons rfl (JO.fieldPtr 0 rfl Try.runUnderlying51 rfl Try.sizeOf3 rfl rfl) (QA.cons rfl (JO.load rfl rfl rfl Try.isAgg3 Try.sizeOf3) (QA.cons rfl (JO.fieldPtr 1 rfl Try.runUnderlying51 rfl Try.sizeOf3 rfl rfl) (QA.cons rfl (JO.load rfl rfl rfl Try.isAgg3 Try.sizeOf3) (QA.cons rfl (JO.fieldPtr 2 rfl Try.runUnderlying51 rfl Try.sizeOf49 rfl rfl) (QA.cons rfl (JO.load rfl rfl rfl Try.isAgg49 Try.sizeOf49) (QA.cons rfl (JO.loadAll rfl rfl (.prm (.one _ _) (.prm (.one _ _) (.one _ _))) Try.isAgg60 Try.sizeOf60) .nil)))))))) (by exact (QB.cons rfl (JM.of_jo (JO.call 109000 (con_link_queue hv12) Try.call40 (.cons (.dir rfl) .nil) rfl) rfl rfl) ⟨rfl, rfl, rfl, rfl, rfl, rfl, rfl, rfl, rfl, trivial⟩ ⟨rfl, rfl, trivial⟩ (QB.cons rfl (JM.of_jo (JO.call0 (con_link_clone hv13) Try.call41 (.cons (.dir rfl) .nil)) rfl rfl) ⟨rfl, rfl, rfl, rfl, rfl, rfl, rfl, rfl, rfl, trivial⟩ ⟨rfl, rfl, trivial⟩ (QB.cons rfl (JM.of_jo (JO.lit (e := Q1) Try.runUnderlying49 Try.sizeOf60 Try.zeroValue60 rfl rfl rfl rfl (.cons (.dir rfl) .nil)) rfl rfl) ⟨rfl, rfl, rfl, rfl, rfl, rfl, rfl, rfl, rfl, trivial⟩ ⟨rfl, rfl, trivial⟩ (QB.cons rfl (JM.append 111 hv14 rfl rfl (.sl rfl) Try.runUnderlying49 Try.typeInfo60 Try.sizeOf60 rfl rfl rfl rfl rfl) ⟨rfl, rfl, rfl, rfl, rfl, rfl, rfl, rfl, rfl, trivial⟩ ⟨rfl, rfl, trivial⟩ (QB.cons rfl (JM.of_jo (JO.build built51 (.cons (Z.int .i64) (.cons (Z.int .i64) (.cons (Z.sl Q1) .nil))) (.cons rfl (.dir rfl) rfl rfl rfl rfl (.cons rfl (.dir rfl) rfl rfl rfl rfl (.cons rfl (.dir rfl) rfl rfl rfl rfl .nil)))) rfl rfl) ⟨rfl, rfl, rfl, rfl, rfl, rfl, rfl, rfl, rfl, trivial⟩ ⟨rfl, rfl, trivial⟩ (QB.cons rfl (JM.storeAgg rfl rfl rfl rfl rfl rfl Try.sizeOf51) ⟨rfl, rfl, rfl, rfl, rfl, rfl, rfl, rfl, rfl, trivial⟩ ⟨rfl, rfl, trivial⟩ (QB.cons rfl (JM.of_jo (JO.assignNilE ET) rfl rfl) ⟨rfl, rfl, rfl, rfl, rfl, rfl, rfl, rfl, rfl, trivial⟩ ⟨rfl, rfl, trivial⟩ .nil)))))))) rfl (by decide +kernel) (by kernel_rfl) (by kernel_rfl) ?_
    refine W.sub (σ' := ⟨[(4, .ptr 103 0), (5, .v (Enc.err ET) (none : Option Int))], [(103, .box 51 [.v Q0 a0.1, .v Q0 a0.2.1, .ref 111]), (111, .arr 60 Q1 v14)]⟩) (Sw.Sub.mk id (.c rfl (.c rfl .nil)) (.box rfl (.c rfl (.c rfl (.c rfl .nil))) (.arr rfl .nil)) rfl) ?_
    refine W.ret ?_
    obtain rfl := Option.some.inj h
    exact XQ.sub (σ' := ⟨[(4, .ptr 90 0), (5, .v (Enc.err ET) (none : Option Int))], [(90, .box 51 [.v Q0 a0.1, .v Q0 a0.2.1, .v (Enc.sl Q1) v14])]⟩) (Sw.Sub.mk (rn [(90, 103)]) (.c rfl (.c rfl .nil)) (.box rfl (.c rfl (.c rfl (.cons (.frz rfl rfl) .nil))) .nil) rfl) (XQ.ret2 hF noR rfl (RV.cellAll rfl rfl (.prm (.one _ _) (.prm (.one _ _) (.one _ _))) Try.isAgg51 Try.sizeOf51) (RV.tmp rfl) .nil rfl)
set_option maxRecDepth 100000 in
set_option maxHeartbeats 4000000 in
theorem con_frame_Sum {a0 : (List Int)} {r : Int} (h : m_frame_Sum a0 = some r) :
  Con Try.prog 92 [.v (Enc.sl (Enc.int .u8)) a0] (.v (Enc.int .u32) r) [] := by
 refine Con.of Try.func92 rfl Try.ntmps92 rfl ?_
 intro S w hF
 unfold m_frame_Sum at h
 refine W.seq ?_
 refine W.reg (σ' := ⟨[(0, .v (Enc.sl (Enc.int .u8)) a0)], []⟩) (J.k (JO.assign rfl) (J.fin (Sw.Sub.mk id (.c rfl .nil) .nil rfl))) ?_
 refine W.seq ?_
 refine W.reg (σ' := ⟨[(0, .v (Enc.sl (Enc.int .u8)) a0), (3, .v (Enc.int .u32) (4294967295 : Int))], []⟩) (J.k (JO.assign rfl) (J.fin (Sw.Sub.mk id (.c rfl (.c rfl .nil)) .nil rfl))) ?_
 refine W.seq ?_
 refine W.seq ?_
 refine W.reg (σ' := ⟨[(3, .v (Enc.int .u32) (4294967295 : Int)), (6, .v (Enc.sl (Enc.int .u8)) a0), (7, .v Q0 (a0.length : Int)), (8, .v Q0 (0 : Int))], []⟩) (J.mv rfl (J.k (JO.len rfl Try.runUnderlying62) (J.mv rfl (J.fin (Sw.Sub.mk id (.c rfl (.c rfl (.c rfl (.c rfl .nil)))) .nil rfl))))) ?_
 obtain ⟨o37, ho37, hb37, hr37⟩ := lp_elim h
 refine W.lp (σs := fun s25 : Int × Int => ⟨[(3, .v (Enc.int .u32) s25.1), (6, .v (Enc.sl (Enc.int .u8)) a0), (7, .v Q0 (a0.length : Int)), (8, .v Q0 s25.2)], []⟩) (fun x38 : Int => ⟨[(3, .v (Enc.int .u32) x38)], []⟩) ho37 (Sw.Sub.mk id (.c rfl (.c rfl (.c rfl (.c rfl .nil)))) .nil rfl) ?_ ?_
 ·intro x38 hy
  have h := hb37 _ hy
  refine W.seq ?_
  refine W.reg (σ' := ⟨[(2, .v (Enc.int .u32) (bnot .u32 x38))], []⟩) (J.mv rfl (J.k (JO.xor rfl) (J.k (JO.assign rfl) (J.fin (Sw.Sub.mk id (.c rfl .nil) .nil rfl))))) ?_
  refine W.ret ?_
  obtain rfl := Option.some.inj h
  exact XQ.sub (σ' := ⟨[(2, .v (Enc.int .u32) (bnot .u32 x38))], []⟩) (Sw.Sub.mk id (.c rfl .nil) .nil rfl) (XQ.ret1 hF noR rfl (RV.tmp rfl) .nil rfl)
 intro s25 r37 h
 refine W.seq ?_
 refine W.reg (σ' := ⟨[(3, .v (Enc.int .u32) s25.1), (6, .v (Enc.sl (Enc.int .u8)) a0), (7, .v Q0 (a0.length : Int)), (8, .v Q0 s25.2), (9, .v Enc.bool (cm .lss s25.2 (a0.length : Int)))], []⟩) (J.k (JO.cmp rfl rfl rfl) (J.fin (Sw.Sub.mk id (.c rfl (.c rfl (.c rfl (.c rfl (.c rfl .nil))))) .nil rfl))) ?_
 refine W.seq ?_
 rcases Bool.eq_false_or_eq_true (cm .lss s25.2 (a0.length : Int)) with hc39 | hc39
 ·replace h := cond_t hc39 h
  refine W.condT rfl hc39 ?_
  refine W.skip ?_
  refine W.seq ?_
  refine W.block ?_
  refine W.seq ?_
  obtain ⟨z40, hz40, h⟩ := bind_e h
  refine W.reg (σ' := ⟨[(3, .v (Enc.int .u32) s25.1), (5, .v (Enc.int .u8) z40), (6, .v (Enc.sl (Enc.int .u8)) a0), (7, .v Q0 (a0.length : Int)), (8, .v Q0 s25.2)], []⟩) (J.k (JO.idx hz40 rfl rfl Try.runUnderlying62 Try.sizeOf5) (J.k (JO.loadPst rfl Try.isAgg5 Try.sizeOf5) (J.k (JO.assign rfl) (J.fin (Sw.Sub.mk id (.c rfl (.c rfl (.c rfl (.c rfl (.c rfl .nil))))) .nil rfl))))) ?_
  refine W.seq ?_
  refine W.reg (σ' := ⟨[(3, .v (Enc.int .u32) (ar .xor .u32 s25.1 z40)), (6, .v (Enc.sl (Enc.int .u8)) a0), (7, .v Q0 (a0.length : Int)), (8, .v Q0 s25.2)], []⟩) (J.mv rfl (J.mv rfl (J.k (JO.convUp Try.runUnderlying5 Try.runUnderlying172 rfl rfl) (J.k (JO.arith rfl rfl rfl) (J.k (JO.assign rfl) (J.fin (Sw.Sub.mk id (.c rfl (.c rfl (.c rfl (.c rfl .nil)))) .nil rfl))))))) ?_
  refine W.seq ?_
  refine W.reg (σ' := ⟨[(3, .v (Enc.int .u32) (ar .xor .u32 s25.1 z40)), (6, .v (Enc.sl (Enc.int .u8)) a0), (7, .v Q0 (a0.length : Int)), (8, .v Q0 s25.2), (16, .v Q0 (0 : Int))], []⟩) (J.mv rfl (J.fin (Sw.Sub.mk id (.c rfl (.c rfl (.c rfl (.c rfl (.c rfl .nil))))) .nil rfl))) ?_
  obtain ⟨o47, ho47, hb47, hr47⟩ := lp_elim h
  refine W.lp (σs := fun s45 : Int × Int => ⟨[(3, .v (Enc.int .u32) s45.1), (6, .v (Enc.sl (Enc.int .u8)) a0), (7, .v Q0 (a0.length : Int)), (8, .v Q0 s25.2), (16, .v Q0 s45.2)], []⟩) (fun x48 : Int => ⟨[(3, .v (Enc.int .u32) x48), (6, .v (Enc.sl (Enc.int .u8)) a0), (7, .v Q0 (a0.length : Int)), (8, .v Q0 s25.2)], []⟩) ho47 (Sw.Sub.mk id (.c rfl (.c rfl (.c rfl (.c rfl (.c rfl .nil))))) .nil rfl) ?_ ?_
  ·intro x48 hy
   have h := hb47 _ hy
   refine W.fall ?_
   refine W.reg (σ' := ⟨[(3, .v (Enc.int .u32) x48), (6, .v (Enc.sl (Enc.int .u8)) a0), (7, .v Q0 (a0.length : Int)), (8, .v Q0 (ar .add .i64 s25.2 (1 : Int)))], []⟩) (J.k (JO.arith rfl rfl rfl) (J.mv rfl (J.fin (Sw.Sub.mk id (.c rfl (.c rfl (.c rfl (.c rfl .nil)))) .nil rfl)))) ?_
   obtain rfl := Option.some.inj h
   exact W.next (Sw.Sub.mk id (.c rfl (.c rfl (.c rfl (.c rfl .nil)))) .nil rfl)
  intro s45 r47 h
  refine W.seq ?_
  refine W.reg (σ' := ⟨[(3, .v (Enc.int .u32) s45.1), (6, .v (Enc.sl (Enc.int .u8)) a0), (7, .v Q0 (a0.length : Int)), (8, .v Q0 s25.2), (16, .v Q0 s45.2), (17, .v Enc.bool (cm .lss s45.2 (8 : Int)))], []⟩) (J.k (JO.cmp rfl rfl rfl) (J.fin (Sw.Sub.mk id (.c rfl (.c rfl (.c rfl (.c rfl (.c rfl (.c rfl .nil)))))) .nil rfl))) ?_
  refine W.seq ?_
  rcases Bool.eq_false_or_eq_true (cm .lss s45.2 (8 : Int)) with hc49 | hc49
  ·replace h := cond_t hc49 h
   refine W.condT rfl hc49 ?_
   refine W.skip ?_
   refine W.seq ?_
   refine W.block ?_
   refine W.reg (σ' := ⟨[(3, .v (Enc.int .u32) (ar .xor .u32 (sh .shr .u32 s45.1 (1 : Int)) (ar .mul .u32 (3988292384 : Int) (ar .and .u32 s45.1 (1 : Int))))), (6, .v (Enc.sl (Enc.int .u8)) a0), (7, .v Q0 (a0.length : Int)), (8, .v Q0 s25.2), (16, .v Q0 s45.2)], []⟩) (J.mv rfl (J.k (JO.shift (.inr rfl) (by decide) rfl rfl) (J.mv rfl (J.k (JO.arith rfl rfl rfl) (J.k (JO.arith rfl rfl rfl) (J.k (JO.arith rfl rfl rfl) (J.k (JO.assign rfl) (J.fin (Sw.Sub.mk id (.c rfl (.c rfl (.c rfl (.c rfl (.c rfl .nil))))) .nil rfl))))))))) ?_
   refine W.fall ?_
   refine W.reg (σ' := ⟨[(3, .v (Enc.int .u32) (ar .xor .u32 (sh .shr .u32 s45.1 (1 : Int)) (ar .mul .u32 (3988292384 : Int) (ar .and .u32 s45.1 (1 : Int))))), (6, .v (Enc.sl (Enc.int .u8)) a0), (7, .v Q0 (a0.length : Int)), (8, .v Q0 s25.2), (16, .v Q0 (ar .add .i64 s45.2 (1 : Int)))], []⟩) (J.k (JO.arith rfl rfl rfl) (J.mv rfl (J.fin (Sw.Sub.mk id (.c rfl (.c rfl (.c rfl (.c rfl (.c rfl .nil))))) .nil rfl)))) ?_
   obtain rfl := Option.some.inj h
   exact W.next (Sw.Sub.mk id (.c rfl (.c rfl (.c rfl (.c rfl (.c rfl .nil))))) .nil rfl)
  ·replace h := cond_f hc49 h
   refine W.condF rfl hc49 ?_
   refine W.exit ?_
   obtain rfl := Option.some.inj h
   exact XQ.brk (Sw.Sub.mk id (.c rfl (.c rfl (.c rfl (.c rfl .nil)))) .nil rfl)
 ·replace h := cond_f hc39 h
  refine W.condF rfl hc39 ?_
  refine W.exit ?_
  obtain rfl := Option.some.inj h
  exact XQ.brk (Sw.Sub.mk id (.c rfl .nil) .nil rfl)
set_option maxRecDepth 100000 in
set_option maxHeartbeats 4000000 in
theorem con_frame_Pack {a0 : (Int × (List Int) × (List Blk))} {r : (List Int) × (Option Int)} (h : m_frame_Pack a0 = some r) :
  Con Try.prog 74 [.v Q1 a0] (.tup [.v (Enc.sl (Enc.int .u8)) r.1, .v (Enc.err ET) r.2]) [] := by
 refine Con.of Try.func74 rfl Try.ntmps74 rfl ?_
 intro S w hF
 unfold m_frame_Pack at h
 refine W.seq ?_
 refine W.reg (σ' := ⟨[(1, .ptr 101 0)], [(101, .box 60 [.v Q0 a0.1, .v (Enc.sl Q0) a0.2.1, .v (Enc.sl eBlk) a0.2.2])]⟩) (J.k (JO.box 101 rfl (.prm (.one _ _) (.prm (.one _ _) (.one _ _))) rfl) (J.k (JO.assignNil (Enc.int .u8)) (J.k (JO.assignNilE ET) (J.fin (Sw.Sub.mk id (.c rfl .nil) (.box rfl (.c rfl (.c rfl (.c rfl .nil))) .nil) rfl))))) ?_
 refine W.seq ?_
 refine W.seq ?_
 obtain ⟨v1, hv1, h⟩ := bind_e h
 refine W.reg (σ' := ⟨[(1, .ptr 101 0), (4, .v (Enc.err ET) v1)], [(101, .box 60 [.v Q0 a0.1, .v (Enc.sl Q0) a0.2.1, .v (Enc.sl eBlk) a0.2.2])]⟩) (J.k (JO.loadAll rfl rfl (.prm (.one _ _) (.prm (.one _ _) (.one _ _))) Try.isAgg60 Try.sizeOf60) (J.k (JO.call0 (con_frame_Check hv1) Try.call72 (.cons (.dir rfl) .nil)) (J.k (JO.assign rfl) (J.fin (Sw.Sub.mk id (.c rfl (.c rfl .nil)) (.box rfl (.c rfl (.c rfl (.c rfl .nil))) .nil) rfl))))) ?_
 refine W.seq ?_
 refine W.reg (σ' := ⟨[(1, .ptr 101 0), (4, .v (Enc.err ET) v1), (14, .v Enc.bool (Option.isSome v1))], [(101, .box 60 [.v Q0 a0.1, .v (Enc.sl Q0) a0.2.1, .v (Enc.sl eBlk) a0.2.2])]⟩) (J.mv rfl (J.k (JO.errNe Try.runUnderlying34 rfl) (J.fin (Sw.Sub.mk id (.c rfl (.c rfl (.c rfl .nil))) (.box rfl (.c rfl (.c rfl (.c rfl .nil))) .nil) rfl)))) ?_
 rcases Bool.eq_false_or_eq_true (Option.isSome v1) with hc2 | hc2
 ·replace h := cond_t hc2 h
  refine W.condT rfl hc2 ?_
  refine W.seq ?_
  refine W.reg (σ' := ⟨[(2, .v (Enc.sl (Enc.int .u8)) ([] : (List Int))), (3, .v (Enc.err ET) v1)], []⟩) (J.mv rfl (J.k (JO.assignNil (Enc.int .u8)) (J.k (JO.assign rfl) (J.fin (Sw.Sub.mk id (.c rfl (.c rfl .nil)) .nil rfl))))) ?_
  refine W.ret ?_
  obtain rfl := Option.some.inj h
  exact XQ.sub (σ' := ⟨[(2, .v (Enc.sl (Enc.int .u8)) ([] : (List Int))), (3, .v (Enc.err ET) v1)], []⟩) (Sw.Sub.mk id (.c rfl (.c rfl .nil)) .nil rfl) (XQ.ret2 hF noR rfl (RV.tmp rfl) (RV.tmp rfl) .nil rfl)
 ·replace h := cond_f hc2 h
  refine W.condF rfl hc2 ?_
  refine W.skip ?_
  refine W.seq ?_
  refine W.reg (σ' := ⟨[(1, .ptr 101 0), (5, .ref 103)], [(101, .box 60 [.v Q0 a0.1, .v (Enc.sl Q0) a0.2.1, .v (Enc.sl eBlk) a0.2.2]), (103, .arr 5 (Enc.int .u8) ([(ar .or .u8 (sh .shl .u8 (IntKind.wrap .u8 a0.1) (4 : Int)) (IntKind.wrap .u8 (a0.2.1.length : Int))), (IntKind.wrap .u8 (a0.2.2.length : Int))] : (List Int)))]⟩) (J.k (JO.fieldPtr 0 rfl Try.runUnderlying60 rfl Try.sizeOf3 rfl rfl) (J.k (JO.load rfl rfl rfl Try.isAgg3 Try.sizeOf3) (J.k (JO.conv Try.runUnderlying3 Try.runUnderlying5 rfl) (J.k (JO.shift (.inl rfl) (by decide) rfl rfl) (J.k (JO.fieldPtr 1 rfl Try.runUnderlying60 rfl Try.sizeOf22 rfl rfl) (J.k (JO.load rfl rfl rfl Try.isAgg22 Try.sizeOf22) (J.k (JO.len rfl Try.runUnderlying22) (J.k (JO.conv Try.runUnderlying3 Try.runUnderlying5 rfl) (J.k (JO.arith rfl rfl rfl) (J.k (JO.fieldPtr 2 rfl Try.runUnderlying60 rfl Try.sizeOf24 rfl rfl) (J.k (JO.load rfl rfl rfl Try.isAgg24 Try.sizeOf24) (J.k (JO.len rfl Try.runUnderlying24) (J.k (JO.conv Try.runUnderlying3 Try.runUnderlying5 rfl) (J.k (JO.litR (e := (Enc.int .u8)) 103 Try.runUnderlying62 Try.sizeOf5 Try.zeroValue5 rfl rfl rfl rfl (.cons (.dir rfl) (.cons (.dir rfl) .nil))) (J.k (JO.assign rfl) (J.fin (Sw.Sub.mk id (.c rfl (.c rfl .nil)) (.box rfl (.c rfl (.c rfl (.c rfl .nil))) (.arr rfl .nil)) rfl))))))))))))))))) ?_
  refine W.seq ?_
  refine W.seq ?_
  refine W.reg (σ' := ⟨[(1, .ptr 101 0), (5, .ref 103), (31, .v (Enc.sl Q0) a0.2.1), (32, .v Q0 (a0.2.1.length : Int)), (33, .v Q0 (0 : Int))], [(101, .box 60 [.v Q0 a0.1, .v (Enc.sl Q0) a0.2.1, .v (Enc.sl eBlk) a0.2.2]), (103, .arr 5 (Enc.int .u8) ([(ar .or .u8 (sh .shl .u8 (IntKind.wrap .u8 a0.1) (4 : Int)) (IntKind.wrap .u8 (a0.2.1.length : Int))), (IntKind.wrap .u8 (a0.2.2.length : Int))] : (List Int)))]⟩) (J.k (JO.fieldPtr 1 rfl Try.runUnderlying60 rfl Try.sizeOf22 rfl rfl) (J.k (JO.load rfl rfl rfl Try.isAgg22 Try.sizeOf22) (J.k (JO.len rfl Try.runUnderlying22) (J.mv rfl (J.fin (Sw.Sub.mk id (.c rfl (.c rfl (.c rfl (.c rfl (.c rfl .nil))))) (.box rfl (.c rfl (.c rfl (.c rfl .nil))) (.arr rfl .nil)) rfl)))))) ?_
  obtain ⟨o54, ho54, hb54, hr54⟩ := lp_elim h
  refine W.lp (σs := fun s37 : Int × (List Int) => ⟨[(1, .ptr 101 0), (5, .ref 125), (31, .v (Enc.sl Q0) a0.2.1), (32, .v Q0 (a0.2.1.length : Int)), (33, .v Q0 s37.1)], [(101, .box 60 [.v Q0 a0.1, .v (Enc.sl Q0) a0.2.1, .v (Enc.sl eBlk) a0.2.2]), (125, .arr 5 (Enc.int .u8) s37.2)]⟩) (fun x55 : (List Int) => ⟨[(1, .ptr 101 0), (5, .ref 125)], [(101, .box 60 [.v Q0 a0.1, .v (Enc.sl Q0) a0.2.1, .v (Enc.sl eBlk) a0.2.2]), (125, .arr 5 (Enc.int .u8) x55)]⟩) ho54 (Sw.Sub.mk (rn [(101, 101), (125, 103)]) (.c rfl (.c rfl (.c rfl (.c rfl (.c rfl .nil))))) (.box rfl (.c rfl (.c rfl (.c rfl .nil))) (.arr rfl .nil)) rfl) ?_ ?_
  ·intro x55 hy
   have h := hb54 _ hy
   refine W.seq ?_
   refine W.seq ?_
   refine W.reg (σ' := ⟨[(5, .ref 125), (54, .v (Enc.sl eBlk) a0.2.2), (55, .v Q0 (a0.2.2.length : Int)), (56, .v Q0 (0 : Int))], [(125, .arr 5 (Enc.int .u8) x55)]⟩) (J.k (JO.fieldPtr 2 rfl Try.runUnderlying60 rfl Try.sizeOf24 rfl rfl) (J.k (JO.load rfl rfl rfl Try.isAgg24 Try.sizeOf24) (J.k (JO.len rfl Try.runUnderlying24) (J.mv rfl (J.fin (Sw.Sub.mk id (.c rfl (.c rfl (.c rfl (.c rfl .nil)))) (.arr rfl .nil) rfl)))))) ?_
   obtain ⟨o84, ho84, hb84, hr84⟩ := lp_elim h
   refine W.lp (σs := fun s80 : Int × (List Int) => ⟨[(5, .ref 151), (54, .v (Enc.sl eBlk) a0.2.2), (55, .v Q0 (a0.2.2.length : Int)), (56, .v Q0 s80.1)], [(151, .arr 5 (Enc.int .u8) s80.2)]⟩) (fun x85 : (List Int) => ⟨[(5, .ref 151)], [(151, .arr 5 (Enc.int .u8) x85)]⟩) ho84 (Sw.Sub.mk (rn [(151, 125)]) (.c rfl (.c rfl (.c rfl (.c rfl .nil)))) (.arr rfl .nil) rfl) ?_ ?_
   ·intro x85 hy
    have h := hb84 _ hy
    refine W.seq ?_
    obtain ⟨v89, hv89, h⟩ := bind_e h
    refine W.reg (σ' := ⟨[(5, .ref 151), (10, .v (Enc.int .u32) v89)], [(151, .arr 5 (Enc.int .u8) x85)]⟩) (J.mv rfl (J.k (JO.callL0 (con_frame_Sum hv89) Try.call92 (.cons (.ref rfl rfl) .nil) FlatS.v) (J.k (JO.assign rfl) (J.fin (Sw.Sub.mk id (.c rfl (.c rfl .nil)) (.arr rfl .nil) rfl))))) ?_
    refine W.seq ?_
    obtain ⟨v90, hv90, h⟩ := bind_e h
    refine W.reg (σ' := ⟨[(2, .ref 157), (3, .v (Enc.err ET) (none : Option Int))], [(157, .arr 5 (Enc.int .u8) v90)]⟩) (J.mv rfl (J.mv rfl (J.k (JO.shift (.inr rfl) (by decide) rfl rfl) (J.k (JO.conv Try.runUnderlying172 Try.runUnderlying5 rfl) (J.mv rfl (J.k (JO.shift (.inr rfl) (by decide) rfl rfl) (J.k (JO.conv Try.runUnderlying172 Try.runUnderlying5 rfl) (J.mv rfl (J.k (JO.shift (.inr rfl) (by decide) rfl rfl) (J.k (JO.conv Try.runUnderlying172 Try.runUnderlying5 rfl) (J.mv rfl (J.k (JO.conv Try.runUnderlying172 Try.runUnderlying5 rfl) (J.k (JO.lit (e := (Enc.int .u8)) Try.runUnderlying62 Try.sizeOf5 Try.zeroValue5 rfl rfl rfl rfl (.cons (.dir rfl) (.cons (.dir rfl) (.cons (.dir rfl) (.cons (.dir rfl) .nil))))) (J.t (JM.append 157 hv90 rfl rfl (.sl rfl) Try.runUnderlying62 Try.typeInfo5 Try.sizeOf5 rfl rfl rfl rfl rfl) (J.k (JO.assign rfl) (J.k (JO.assignNilE ET) (J.fin (Sw.Sub.mk id (.c rfl (.c rfl .nil)) (.arr rfl .nil) rfl)))))))))))))))))) ?_
    refine W.ret ?_
    obtain rfl := Option.some.inj h
    exact XQ.sub (σ' := ⟨[(2, .v (Enc.sl (Enc.int .u8)) v90), (3, .v (Enc.err ET) (none : Option Int))], []⟩) (Sw.Sub.mk id (.cons rfl (.frz rfl rfl) (.c rfl .nil)) .nil rfl) (XQ.ret2 hF noR rfl (RV.tmp rfl) (RV.tmp rfl) .nil rfl)
   intro s80 r84 h
   refine W.seq ?_
   refine W.reg (σ' := ⟨[(5, .ref 151), (54, .v (Enc.sl eBlk) a0.2.2), (55, .v Q0 (a0.2.2.length : Int)), (56, .v Q0 s80.1), (57, .v Enc.bool (cm .lss s80.1 (a0.2.2.length : Int)))], [(151, .arr 5 (Enc.int .u8) s80.2)]⟩) (J.k (JO.cmp rfl rfl rfl) (J.fin (Sw.Sub.mk id (.c rfl (.c rfl (.c rfl (.c rfl (.c rfl .nil))))) (.arr rfl .nil) rfl))) ?_
   refine W.seq ?_
   rcases Bool.eq_false_or_eq_true (cm .lss s80.1 (a0.2.2.length : Int)) with hc86 | hc86
   ·replace h := cond_t hc86 h
    refine W.condT rfl hc86 ?_
    refine W.skip ?_
    refine W.seq ?_
    refine W.block ?_
    refine W.seq ?_
    obtain ⟨z87, hz87, h⟩ := bind_e h
    refine W.reg (σ' := ⟨[(5, .ref 151), (9, .ptr 154 0), (54, .v (Enc.sl eBlk) a0.2.2), (55, .v Q0 (a0.2.2.length : Int)), (56, .v Q0 s80.1)], [(151, .arr 5 (Enc.int .u8) s80.2), (154, .box 29 [.v eBlk z87])]⟩) (J.k (JO.idx hz87 rfl rfl Try.runUnderlying24 Try.sizeOf29) (J.k (JO.loadPst rfl Try.isAgg29 Try.sizeOf29) (J.k (JO.alloc 154 Try.zeroValue29 rfl (.cons (Z.arr 8 (Z.int .u8)) .nil) rfl) (J.t (JM.store rfl rfl rfl rfl rfl rfl rfl Try.sizeOf29) (J.fin (Sw.Sub.mk id (.c rfl (.c rfl (.c rfl (.c rfl (.c rfl .nil))))) (.arr rfl (.box rfl (.c rfl .nil) .nil)) rfl)))))) ?_
    obtain ⟨v88, hv88, h⟩ := bind_e h
    refine W.reg (σ' := ⟨[(5, .ref 155), (54, .v (Enc.sl eBlk) a0.2.2), (55, .v Q0 (a0.2.2.length : Int)), (56, .v Q0 s80.1)], [(155, .arr 5 (Enc.int .u8) v88)]⟩) (J.mv rfl (J.k (JO.aslAll rfl rfl rfl Try.runUnderlying29 Try.sizeOf5) (J.t (JM.append 155 hv88 rfl rfl (.asl rfl rfl rfl rfl) Try.runUnderlying62 Try.typeInfo5 Try.sizeOf5 rfl rfl rfl rfl rfl) (J.k (JO.assign rfl) (J.fin (Sw.Sub.mk id (.c rfl (.c rfl (.c rfl (.c rfl .nil)))) (.arr rfl .nil) rfl)))))) ?_
    refine W.fall ?_
    refine W.reg (σ' := ⟨[(5, .ref 155), (54, .v (Enc.sl eBlk) a0.2.2), (55, .v Q0 (a0.2.2.length : Int)), (56, .v Q0 (ar .add .i64 s80.1 (1 : Int)))], [(155, .arr 5 (Enc.int .u8) v88)]⟩) (J.k (JO.arith rfl rfl rfl) (J.mv rfl (J.fin (Sw.Sub.mk id (.c rfl (.c rfl (.c rfl (.c rfl .nil)))) (.arr rfl .nil) rfl)))) ?_
    obtain rfl := Option.some.inj h
    exact W.next (Sw.Sub.mk (rn [(151, 155)]) (.c rfl (.c rfl (.c rfl (.c rfl .nil)))) (.arr rfl .nil) rfl)
   ·replace h := cond_f hc86 h
    refine W.condF rfl hc86 ?_
    refine W.exit ?_
    obtain rfl := Option.some.inj h
    exact XQ.brk (Sw.Sub.mk id (.c rfl .nil) (.arr rfl .nil) rfl)
  intro s37 r54 h
  refine W.seq ?_
  refine W.reg (σ' := ⟨[(1, .ptr 101 0), (5, .ref 125), (31, .v (Enc.sl Q0) a0.2.1), (32, .v Q0 (a0.2.1.length : Int)), (33, .v Q0 s37.1), (34, .v Enc.bool (cm .lss s37.1 (a0.2.1.length : Int)))], [(101, .box 60 [.v Q0 a0.1, .v (Enc.sl Q0) a0.2.1, .v (Enc.sl eBlk) a0.2.2]), (125, .arr 5 (Enc.int .u8) s37.2)]⟩) (J.k (JO.cmp rfl rfl rfl) (J.fin (Sw.Sub.mk id (.c rfl (.c rfl (.c rfl (.c rfl (.c rfl (.c rfl .nil)))))) (.box rfl (.c rfl (.c rfl (.c rfl .nil))) (.arr rfl .nil)) rfl))) ?_
  refine W.seq ?_
  rcases Bool.eq_false_or_eq_true (cm .lss s37.1 (a0.2.1.length : Int)) with hc56 | hc56
  ·replace h := cond_t hc56 h
   refine W.condT rfl hc56 ?_
   refine W.skip ?_
   refine W.seq ?_
   refine W.block ?_
   refine W.seq ?_
   obtain ⟨z57, hz57, h⟩ := bind_e h
   refine W.reg (σ' := ⟨[(1, .ptr 101 0), (5, .ref 125), (7, .v Q0 z57), (31, .v (Enc.sl Q0) a0.2.1), (32, .v Q0 (a0.2.1.length : Int)), (33, .v Q0 s37.1)], [(101, .box 60 [.v Q0 a0.1, .v (Enc.sl Q0) a0.2.1, .v (Enc.sl eBlk) a0.2.2]), (125, .arr 5 (Enc.int .u8) s37.2)]⟩) (J.k (JO.idx hz57 rfl rfl Try.runUnderlying22 Try.sizeOf3) (J.k (JO.loadPst rfl Try.isAgg3 Try.sizeOf3) (J.k (JO.assign rfl) (J.fin (Sw.Sub.mk id (.c rfl (.c rfl (.c rfl (.c rfl (.c rfl (.c rfl .nil)))))) (.box rfl (.c rfl (.c rfl (.c rfl .nil))) (.arr rfl .nil)) rfl))))) ?_
   refine W.seq ?_
   obtain ⟨o67, ho67, hb67, hr67⟩ := lp_elim h
   refine W.lp (σs := fun s64 : Int × (List Int) => ⟨[(1, .ptr 101 0), (5, .ref 140), (7, .v Q0 s64.1), (31, .v (Enc.sl Q0) a0.2.1), (32, .v Q0 (a0.2.1.length : Int)), (33, .v Q0 s37.1)], [(101, .box 60 [.v Q0 a0.1, .v (Enc.sl Q0) a0.2.1, .v (Enc.sl eBlk) a0.2.2]), (140, .arr 5 (Enc.int .u8) s64.2)]⟩) (fun x68 : Int × (List Int) => ⟨[(1, .ptr 101 0), (5, .ref 140), (7, .v Q0 x68.1), (31, .v (Enc.sl Q0) a0.2.1), (32, .v Q0 (a0.2.1.length : Int)), (33, .v Q0 s37.1)], [(101, .box 60 [.v Q0 a0.1, .v (Enc.sl Q0) a0.2.1, .v (Enc.sl eBlk) a0.2.2]), (140, .arr 5 (Enc.int .u8) x68.2)]⟩) ho67 (Sw.Sub.mk (rn [(101, 101), (140, 125)]) (.c rfl (.c rfl (.c rfl (.c rfl (.c rfl (.c rfl .nil)))))) (.box rfl (.c rfl (.c rfl (.c rfl .nil))) (.arr rfl .nil)) rfl) ?_ ?_
   ·intro x68 hy
    have h := hb67 _ hy
    obtain ⟨v71, hv71, h⟩ := bind_e h
    refine W.reg (σ' := ⟨[(1, .ptr 101 0), (5, .ref 143), (31, .v (Enc.sl Q0) a0.2.1), (32, .v Q0 (a0.2.1.length : Int)), (33, .v Q0 s37.1)], [(101, .box 60 [.v Q0 a0.1, .v (Enc.sl Q0) a0.2.1, .v (Enc.sl eBlk) a0.2.2]), (143, .arr 5 (Enc.int .u8) v71)]⟩) (J.mv rfl (J.mv rfl (J.k (JO.conv Try.runUnderlying3 Try.runUnderlying5 rfl) (J.k (JO.lit (e := (Enc.int .u8)) Try.runUnderlying62 Try.sizeOf5 Try.zeroValue5 rfl rfl rfl rfl (.cons (.dir rfl) .nil)) (J.t (JM.append 143 hv71 rfl rfl (.sl rfl) Try.runUnderlying62 Try.typeInfo5 Try.sizeOf5 rfl rfl rfl rfl rfl) (J.k (JO.assign rfl) (J.fin (Sw.Sub.mk id (.c rfl (.c rfl (.c rfl (.c rfl (.c rfl .nil))))) (.box rfl (.c rfl (.c rfl (.c rfl .nil))) (.arr rfl .nil)) rfl)))))))) ?_
    refine W.fall ?_
    refine W.reg (σ' := ⟨[(1, .ptr 101 0), (5, .ref 143), (31, .v (Enc.sl Q0) a0.2.1), (32, .v Q0 (a0.2.1.length : Int)), (33, .v Q0 (ar .add .i64 s37.1 (1 : Int)))], [(101, .box 60 [.v Q0 a0.1, .v (Enc.sl Q0) a0.2.1, .v (Enc.sl eBlk) a0.2.2]), (143, .arr 5 (Enc.int .u8) v71)]⟩) (J.k (JO.arith rfl rfl rfl) (J.mv rfl (J.fin (Sw.Sub.mk id (.c rfl (.c rfl (.c rfl (.c rfl (.c rfl .nil))))) (.box rfl (.c rfl (.c rfl (.c rfl .nil))) (.arr rfl .nil)) rfl)))) ?_
    obtain rfl := Option.some.inj h
    exact W.next (Sw.Sub.mk (rn [(101, 101), (125, 143)]) (.c rfl (.c rfl (.c rfl (.c rfl (.c rfl .nil))))) (.box rfl (.c rfl (.c rfl (.c rfl .nil))) (.arr rfl .nil)) rfl)
   intro s64 r67 h
   refine W.seq ?_
   refine W.seq ?_
   refine W.reg (σ' := ⟨[(1, .ptr 101 0), (5, .ref 140), (7, .v Q0 s64.1), (31, .v (Enc.sl Q0) a0.2.1), (32, .v Q0 (a0.2.1.length : Int)), (33, .v Q0 s37.1), (38, .v Enc.bool (cm .gtr s64.1 (127 : Int)))], [(101, .box 60 [.v Q0 a0.1, .v (Enc.sl Q0) a0.2.1, .v (Enc.sl eBlk) a0.2.2]), (140, .arr 5 (Enc.int .u8) s64.2)]⟩) (J.mv rfl (J.k (JO.cmp rfl rfl rfl) (J.fin (Sw.Sub.mk id (.c rfl (.c rfl (.c rfl (.c rfl (.c rfl (.c rfl (.c rfl .nil))))))) (.box rfl (.c rfl (.c rfl (.c rfl .nil))) (.arr rfl .nil)) rfl)))) ?_
   rcases Bool.eq_false_or_eq_true (cm .gtr s64.1 (127 : Int)) with hc69 | hc69
   ·replace h := cond_t hc69 h
    refine W.condT rfl hc69 ?_
    refine W.skip ?_
    refine W.seq ?_
    refine W.block ?_
    obtain ⟨v70, hv70, h⟩ := bind_e h
    refine W.reg (σ' := ⟨[(1, .ptr 101 0), (5, .ref 142), (7, .v Q0 s64.1), (31, .v (Enc.sl Q0) a0.2.1), (32, .v Q0 (a0.2.1.length : Int)), (33, .v Q0 s37.1)], [(101, .box 60 [.v Q0 a0.1, .v (Enc.sl Q0) a0.2.1, .v (Enc.sl eBlk) a0.2.2]), (142, .arr 5 (Enc.int .u8) v70)]⟩) (J.mv rfl (J.mv rfl (J.k (JO.conv Try.runUnderlying3 Try.runUnderlying5 rfl) (J.k (JO.arith rfl rfl rfl) (J.k (JO.lit (e := (Enc.int .u8)) Try.runUnderlying62 Try.sizeOf5 Try.zeroValue5 rfl rfl rfl rfl (.cons (.dir rfl) .nil)) (J.t (JM.append 142 hv70 rfl rfl (.sl rfl) Try.runUnderlying62 Try.typeInfo5 Try.sizeOf5 rfl rfl rfl rfl rfl) (J.k (JO.assign rfl) (J.fin (Sw.Sub.mk id (.c rfl (.c rfl (.c rfl (.c rfl (.c rfl (.c rfl .nil)))))) (.box rfl (.c rfl (.c rfl (.c rfl .nil))) (.arr rfl .nil)) rfl))))))))) ?_
    refine W.fall ?_
    refine W.reg (σ' := ⟨[(1, .ptr 101 0), (5, .ref 142), (7, .v Q0 (sh .shr .i64 s64.1 (7 : Int))), (31, .v (Enc.sl Q0) a0.2.1), (32, .v Q0 (a0.2.1.length : Int)), (33, .v Q0 s37.1)], [(101, .box 60 [.v Q0 a0.1, .v (Enc.sl Q0) a0.2.1, .v (Enc.sl eBlk) a0.2.2]), (142, .arr 5 (Enc.int .u8) v70)]⟩) (J.mv rfl (J.k (JO.shift (.inr rfl) (by decide) rfl rfl) (J.k (JO.assign rfl) (J.fin (Sw.Sub.mk id (.c rfl (.c rfl (.c rfl (.c rfl (.c rfl (.c rfl .nil)))))) (.box rfl (.c rfl (.c rfl (.c rfl .nil))) (.arr rfl .nil)) rfl))))) ?_
    obtain rfl := Option.some.inj h
    exact W.next (Sw.Sub.mk (rn [(101, 101), (140, 142)]) (.c rfl (.c rfl (.c rfl (.c rfl (.c rfl (.c rfl .nil)))))) (.box rfl (.c rfl (.c rfl (.c rfl .nil))) (.arr rfl .nil)) rfl)
   ·replace h := cond_f hc69 h
    refine W.condF rfl hc69 ?_
    refine W.exit ?_
    obtain rfl := Option.some.inj h
    exact XQ.brk (Sw.Sub.mk id (.c rfl (.c rfl (.c rfl (.c rfl (.c rfl (.c rfl .nil)))))) (.box rfl (.c rfl (.c rfl (.c rfl .nil))) (.arr rfl .nil)) rfl)
  ·replace h := cond_f hc56 h
   refine W.condF rfl hc56 ?_
   refine W.exit ?_
   obtain rfl := Option.some.inj h
   exact XQ.brk (Sw.Sub.mk id (.c rfl (.c rfl .nil)) (.box rfl (.c rfl (.c rfl (.c rfl .nil))) (.arr rfl .nil)) rfl)
set_option maxRecDepth 100000 in
set_option maxHeartbeats 4000000 in
theorem con_link_Send {a0 : (Int × Int × Q3)} {r : (List (List Int)) × (Option Int)} (h : m_link_Send a0 = some r) :
  Con Try.prog 42 [.v Q2 a0] (.tup [.v (Enc.sl (Enc.sl (Enc.int .u8))) r.1, .v (Enc.err ET) r.2]) [] := by
 refine Con.of Try.func42 rfl Try.ntmps42 rfl ?_
 intro S w hF
 unfold m_link_Send at h
 refine W.seq ?_
 refine W.reg (σ' := ⟨[(1, .ptr 101 0)], [(101, .box 51 [.v Q0 a0.1, .v Q0 a0.2.1, .v (Enc.sl Q1) a0.2.2])]⟩) (J.k (JO.box 101 rfl (.prm (.one _ _) (.prm (.one _ _) (.one _ _))) rfl) (J.k (JO.assignNilR 102 62 (Enc.sl (Enc.int .u8))) (J.k (JO.assignNilE ET) (J.fin (Sw.Sub.mk id (.c rfl .nil) (.box rfl (.c rfl (.c rfl (.c rfl .nil))) .nil) rfl))))) ?_
 refine W.seq ?_
 refine W.seq ?_
 obtain ⟨v1, hv1, h⟩ := bind_e h
 refine W.reg (σ' := ⟨[(1, .ptr 101 0), (4, .v (Enc.err ET) v1)], [(101, .box 51 [.v Q0 a0.1, .v Q0 a0.2.1, .v (Enc.sl Q1) a0.2.2])]⟩) (J.k (JO.loadAll rfl rfl (.prm (.one _ _) (.prm (.one _ _) (.one _ _))) Try.isAgg51 Try.sizeOf51) (J.k (JO.call0 (con_link_Check hv1) Try.call38 (.cons (.dir rfl) .nil)) (J.k (JO.assign rfl) (J.fin (Sw.Sub.mk id (.c rfl (.c rfl .nil)) (.box rfl (.c rfl (.c rfl (.c rfl .nil))) .nil) rfl))))) ?_
 refine W.seq ?_
 refine W.reg (σ' := ⟨[(1, .ptr 101 0), (4, .v (Enc.err ET) v1), (13, .v Enc.bool (Option.isSome v1))], [(101, .box 51 [.v Q0 a0.1, .v Q0 a0.2.1, .v (Enc.sl Q1) a0.2.2])]⟩) (J.mv rfl (J.k (JO.errNe Try.runUnderlying34 rfl) (J.fin (Sw.Sub.mk id (.c rfl (.c rfl (.c rfl .nil))) (.box rfl (.c rfl (.c rfl (.c rfl .nil))) .nil) rfl)))) ?_
 rcases Bool.eq_false_or_eq_true (Option.isSome v1) with hc2 | hc2
 ·replace h := cond_t hc2 h
  refine W.condT rfl hc2 ?_
  refine W.seq ?_
  refine W.reg (σ' := ⟨[(2, .ref 104), (3, .v (Enc.err ET) v1)], [(104, .arr 62 (Enc.sl (Enc.int .u8)) ([] : (List (List Int))))]⟩) (J.mv rfl (J.k (JO.assignNilR 104 62 (Enc.sl (Enc.int .u8))) (J.k (JO.assign rfl) (J.fin (Sw.Sub.mk id (.c rfl (.c rfl .nil)) (.arr rfl .nil) rfl))))) ?_
  refine W.ret ?_
  obtain rfl := Option.some.inj h
  exact XQ.sub (σ' := ⟨[(2, .v (Enc.sl (Enc.sl (Enc.int .u8))) ([] : (List (List Int)))), (3, .v (Enc.err ET) v1)], []⟩) (Sw.Sub.mk id (.cons rfl (.frz rfl rfl) (.c rfl .nil)) .nil rfl) (XQ.ret2 hF noR rfl (RV.tmp rfl) (RV.tmp rfl) .nil rfl)
 ·replace h := cond_f hc2 h
  refine W.condF rfl hc2 ?_
  refine W.skip ?_
  refine W.seq ?_
  refine W.reg (σ' := ⟨[(1, .ptr 101 0), (5, .ref 105)], [(101, .box 51 [.v Q0 a0.1, .v Q0 a0.2.1, .v (Enc.sl Q1) a0.2.2]), (105, .arr 62 (Enc.sl (Enc.int .u8)) ([] : (List (List Int))))]⟩) (J.k (JO.assignNilR 105 62 (Enc.sl (Enc.int .u8))) (J.fin (Sw.Sub.mk id (.c rfl (.c rfl .nil)) (.box rfl (.c rfl (.c rfl (.c rfl .nil))) (.arr rfl .nil)) rfl))) ?_
  refine W.seq ?_
  refine W.seq ?_
  obtain ⟨v3, hv3, h⟩ := bind_e h
  refine W.reg (σ' := ⟨[(1, .ptr 101 0), (5, .ref 105), (21, .v (Enc.sl Q1) v3), (22, .v Q0 (v3.length : Int)), (23, .v Q0 (0 : Int))], [(101, .box 51 [.v Q0 a0.1, .v Q0 a0.2.1, .v (Enc.sl Q1) a0.2.2]), (105, .arr 62 (Enc.sl (Enc.int .u8)) ([] : (List (List Int))))]⟩) (J.k (JO.fieldPtr 2 rfl Try.runUnderlying51 rfl Try.sizeOf49 rfl rfl) (J.k (JO.load rfl rfl rfl Try.isAgg49 Try.sizeOf49) (J.k (JO.fieldPtr 2 rfl Try.runUnderlying51 rfl Try.sizeOf49 rfl rfl) (J.k (JO.load rfl rfl rfl Try.isAgg49 Try.sizeOf49) (J.k (JO.len rfl Try.runUnderlying49) (J.k (JO.gmin rfl rfl) (J.k (JO.slHi hv3 rfl rfl Try.runUnderlying49 Try.sizeOf60) (J.k (JO.len rfl Try.runUnderlying49) (J.mv rfl (J.fin (Sw.Sub.mk id (.c rfl (.c rfl (.c rfl (.c rfl (.c rfl .nil))))) (.box rfl (.c rfl (.c rfl (.c rfl .nil))) (.arr rfl .nil)) rfl))))))))))) ?_
  obtain ⟨o28, ho28, hb28, hr28⟩ := lp_elim h
  refine W.lp (σs := fun s20 : Int × (List (List Int)) => ⟨[(1, .ptr 101 0), (5, .ref 119), (21, .v (Enc.sl Q1) v3), (22, .v Q0 (v3.length : Int)), (23, .v Q0 s20.1)], [(101, .box 51 [.v Q0 a0.1, .v Q0 a0.2.1, .v (Enc.sl Q1) a0.2.2]), (119, .arr 62 (Enc.sl (Enc.int .u8)) s20.2)]⟩) (fun x29 : (List (List Int)) => ⟨[(5, .ref 119)], [(119, .arr 62 (Enc.sl (Enc.int .u8)) x29)]⟩) ho28 (Sw.Sub.mk (rn [(101, 101), (119, 105)]) (.c rfl (.c rfl (.c rfl (.c rfl (.c rfl .nil))))) (.box rfl (.c rfl (.c rfl (.c rfl .nil))) (.arr rfl .nil)) rfl) ?_ ?_
  ·intro x29 hy
   have h := hb28 _ hy
   refine W.seq ?_
   refine W.reg (σ' := ⟨[(2, .ref 119), (3, .v (Enc.err ET) (none : Option Int))], [(119, .arr 62 (Enc.sl (Enc.int .u8)) x29)]⟩) (J.mv rfl (J.k (JO.assign rfl) (J.k (JO.assignNilE ET) (J.fin (Sw.Sub.mk id (.c rfl (.c rfl .nil)) (.arr rfl .nil) rfl))))) ?_
   refine W.ret ?_
   obtain rfl := Option.some.inj h
   exact XQ.sub (σ' := ⟨[(2, .v (Enc.sl (Enc.sl (Enc.int .u8))) x29), (3, .v (Enc.err ET) (none : Option Int))], []⟩) (Sw.Sub.mk id (.cons rfl (.frz rfl rfl) (.c rfl .nil)) .nil rfl) (XQ.ret2 hF noR rfl (RV.tmp rfl) (RV.tmp rfl) .nil rfl)
  intro s20 r28 h
  refine W.seq ?_
  refine W.reg (σ' := ⟨[(1, .ptr 101 0), (5, .ref 119), (21, .v (Enc.sl Q1) v3), (22, .v Q0 (v3.length : Int)), (23, .v Q0 s20.1), (24, .v Enc.bool (cm .lss s20.1 (v3.length : Int)))], [(101, .box 51 [.v Q0 a0.1, .v Q0 a0.2.1, .v (Enc.sl Q1) a0.2.2]), (119, .arr 62 (Enc.sl (Enc.int .u8)) s20.2)]⟩) (J.k (JO.cmp rfl rfl rfl) (J.fin (Sw.Sub.mk id (.c rfl (.c rfl (.c rfl (.c rfl (.c rfl (.c rfl .nil)))))) (.box rfl (.c rfl (.c rfl (.c rfl .nil))) (.arr rfl .nil)) rfl))) ?_
  refine W.seq ?_
  rcases Bool.eq_false_or_eq_true (cm .lss s20.1 (v3.length : Int)) with hc30 | hc30
  ·replace h := cond_t hc30 h
   refine W.condT rfl hc30 ?_
   refine W.skip ?_
   refine W.seq ?_
   refine W.block ?_
   refine W.seq ?_
   obtain ⟨z31, hz31, h⟩ := bind_e h
   refine W.reg (σ' := ⟨[(1, .ptr 101 0), (5, .ref 119), (6, .v Q0 s20.1), (7, .ptr 125 0), (21, .v (Enc.sl Q1) v3), (22, .v Q0 (v3.length : Int)), (23, .v Q0 s20.1)], [(101, .box 51 [.v Q0 a0.1, .v Q0 a0.2.1, .v (Enc.sl Q1) a0.2.2]), (119, .arr 62 (Enc.sl (Enc.int .u8)) s20.2), (125, .box 60 [.v Q0 z31.1, .v (Enc.sl Q0) z31.2.1, .v (Enc.sl eBlk) z31.2.2])]⟩) (J.mv rfl (J.k (JO.idx hz31 rfl rfl Try.runUnderlying49 Try.sizeOf60) (J.k (JO.loadPst rfl Try.isAgg60 Try.sizeOf60) (J.k (JO.alloc 125 Try.zeroValue60 rfl (.cons (Z.int .i64) (.cons (Z.sl Q0) (.cons (Z.sl eBlk) .nil))) rfl) (J.k (JO.assign rfl) (J.t (JM.storeAll rfl rfl rfl rfl (.prm (.one _ _) (.prm (.one _ _) (.one _ _))) Try.sizeOf60) (J.fin (Sw.Sub.mk id (.c rfl (.c rfl (.c rfl (.c rfl (.c rfl (.c rfl (.c rfl .nil))))))) (.box rfl (.c rfl (.c rfl (.c rfl .nil))) (.arr rfl (.box rfl (.c rfl (.c rfl (.c rfl .nil))) .nil))) rfl)))))))) ?_
   refine W.seq ?_
   refine W.seq ?_
   refine W.reg (σ' := ⟨[(1, .ptr 101 0), (5, .ref 119), (6, .v Q0 s20.1), (7, .ptr 125 0), (21, .v (Enc.sl Q1) v3), (22, .v Q0 (v3.length : Int)), (23, .v Q0 s20.1), (32, .v Enc.bool (cm .gtr (ar .add .i64 a0.2.1 s20.1) (2147483647 : Int)))], [(101, .box 51 [.v Q0 a0.1, .v Q0 a0.2.1, .v (Enc.sl Q1) a0.2.2]), (119, .arr 62 (Enc.sl (Enc.int .u8)) s20.2), (125, .box 60 [.v Q0 z31.1, .v (Enc.sl Q0) z31.2.1, .v (Enc.sl eBlk) z31.2.2])]⟩) (J.k (JO.fieldPtr 1 rfl Try.runUnderlying51 rfl Try.sizeOf3 rfl rfl) (J.k (JO.load rfl rfl rfl Try.isAgg3 Try.sizeOf3) (J.mv rfl (J.k (JO.arith rfl rfl rfl) (J.k (JO.cmp rfl rfl rfl) (J.fin (Sw.Sub.mk id (.c rfl (.c rfl (.c rfl (.c rfl (.c rfl (.c rfl (.c rfl (.c rfl .nil)))))))) (.box rfl (.c rfl (.c rfl (.c rfl .nil))) (.arr rfl (.box rfl (.c rfl (.c rfl (.c rfl .nil))) .nil))) rfl))))))) ?_
   rcases Bool.eq_false_or_eq_true (cm .gtr (ar .add .i64 a0.2.1 s20.1) (2147483647 : Int)) with hc32 | hc32
   ·replace h := cond_t hc32 h
    refine W.condT rfl hc32 ?_
    refine W.seq ?_
    refine W.reg (σ' := ⟨[(2, .ref 126), (3, .v (Enc.err ET) (some (1 : Int)))], [(126, .arr 62 (Enc.sl (Enc.int .u8)) ([] : (List (List Int))))]⟩) (J.k (JO.mkErr Try.runUnderlying86 rfl) (J.k (JO.assignNilR 126 62 (Enc.sl (Enc.int .u8))) (J.k (JO.assign rfl) (J.fin (Sw.Sub.mk id (.c rfl (.c rfl .nil)) (.arr rfl .nil) rfl))))) ?_
    refine W.ret ?_
    refine XQ.ret ?_
    obtain rfl := Option.some.inj h
    refine XQ.lret fun ho => ?_
    obtain rfl := hr28 _ ho
    exact XQ.sub (σ' := ⟨[(2, .v (Enc.sl (Enc.sl (Enc.int .u8))) ([] : (List (List Int)))), (3, .v (Enc.err ET) (some (1 : Int)))], []⟩) (Sw.Sub.mk id (.cons rfl (.frz rfl rfl) (.c rfl .nil)) .nil rfl) (XQ.ret2 hF noR rfl (RV.tmp rfl) (RV.tmp rfl) .nil rfl)
   ·replace h := cond_f hc32 h
    refine W.condF rfl hc32 ?_
    refine W.skip ?_
    refine W.seq ?_
    obtain ⟨v33, hv33, h⟩ := bind_e h
    obtain ⟨v34, hv34, h⟩ := bind_e h
    refine W.dr2 (σ' := ⟨[(1, .ptr 101 0), (5, .ref 119), (8, .v (Enc.sl (Enc.int .u8)) v34.1), (9, .v (Enc.err ET) v34.2), (21, .v (Enc.sl Q1) v3), (22, .v Q0 (v3.length : Int)), (23, .v Q0 s20.1)], [(101, .box 51 [.v Q0 a0.1, .v Q0 a0.2.1, .v (Enc.sl Q1) a0.2.2]), (119, .arr 62 (Enc.sl (Enc.int .u8)) s20.2)]⟩) 21 [0, 1, 0, 4, 0, 28, 0, 64, 255, 0, 512, 2047, 0, 4096, 16383, 32767, 65535, 131071, 131071, 262143, 1048575] mixed (by exact (.cons (.none rfl) (JO.fieldPtr 0 rfl Try.runUnderlying51 rfl Try.sizeOf3 rfl rfl) rfl rfl (.cons (.none rfl) (JO.load rfl rfl rfl Try.isAgg3 Try.sizeOf3) rfl rfl (.cons (.none rfl) (JO.fieldPtr 1 rfl Try.runUnderlying51 rfl Try.sizeOf3 rfl rfl) rfl rfl (.cons (.none rfl) (JO.load rfl rfl rfl Try.isAgg3 Try.sizeOf3) rfl rfl (.cons (.none rfl) (JO.move rfl) rfl rfl (.cons (.none rfl) (JO.arith rfl rfl rfl) rfl rfl (.cons (.none rfl) (JO.fieldPtr 0 rfl Try.runUnderlying60 rfl Try.sizeOf3 rfl rfl) rfl rfl (.cons (.none rfl) (JO.load rfl rfl rfl Try.isAgg3 Try.sizeOf3) rfl rfl (.cons (.none rfl) (JO.litC (e := Q0) Try.runUnderlying22 Try.sizeOf3 Try.zeroValue3 rfl rfl rfl rfl (.cons (.dir rfl) (.cons (.dir rfl) (.cons (.dir rfl) .nil)))) rfl rfl (.cons (.none rfl) (JO.fieldPtr 1 rfl Try.runUnderlying60 rfl Try.sizeOf22 rfl rfl) rfl rfl (.cons (.none rfl) (JO.load rfl rfl rfl Try.isAgg22 Try.sizeOf22) rfl rfl (.cons (.none rfl) (JO.appC hv33 (List.cons_ne_nil _ _) rfl (.sl rfl) Try.runUnderlying22 Try.typeInfo3 Try.sizeOf3 rfl rfl rfl) rfl rfl (.cons (.none rfl) (JO.fieldPtr 2 rfl Try.runUnderlying60 rfl Try.sizeOf24 rfl rfl) rfl rfl (.cons (.none rfl) (JO.load rfl rfl rfl Try.isAgg24 Try.sizeOf24) rfl rfl (.cons (.none rfl) (JO.build built60 (.cons (Z.int .i64) (.cons (Z.sl Q0) (.cons (Z.sl eBlk) .nil))) (.cons rfl (.dir rfl) rfl rfl rfl rfl (.cons rfl (.dir rfl) rfl rfl rfl rfl (.cons rfl (.dir rfl) rfl rfl rfl rfl .nil)))) rfl rfl (.cons (.none rfl) (JO.call0 (con_frame_Pack hv34) Try.call74 (.cons (.agg rfl (.same (.same (.same .nil))) (.prm (.one _ _) (.prm (.one _ _) (.one _ _))) rfl) .nil)) rfl rfl (.cons (.none rfl) (JO.move rfl) rfl rfl (.cons (.none rfl) (JO.extract rfl rfl) rfl rfl (.cons (.none rfl) (JO.extract rfl rfl) rfl rfl (.cons (.none rfl) (JO.assign rfl) rfl rfl (.cons (.none rfl) (JO.assign rfl) rfl rfl .nil)))))))))))))))))))))) (by exact (J.fin (Sw.Sub.mk id (.c rfl (.c rfl (.c rfl (.c rfl (.c rfl (.c rfl (.c rfl .nil))))))) (.box rfl (.c rfl (.c rfl (.c rfl .nil))) (.arr rfl .nil)) rfl))) rfl (by decide +kernel) (by decide +kernel) (by decide +kernel) (by kernel_rfl) ?_
    refine W.seq ?_
    refine W.seq ?_
    refine W.reg (σ' := ⟨[(1, .ptr 101 0), (5, .ref 119), (8, .v (Enc.sl (Enc.int .u8)) v34.1), (9, .v (Enc.err ET) v34.2), (21, .v (Enc.sl Q1) v3), (22, .v Q0 (v3.length : Int)), (23, .v Q0 s20.1), (54, .v Enc.bool (Option.isSome v34.2))], [(101, .box 51 [.v Q0 a0.1, .v Q0 a0.2.1, .v (Enc.sl Q1) a0.2.2]), (119, .arr 62 (Enc.sl (Enc.int .u8)) s20.2)]⟩) (J.mv rfl (J.k (JO.errNe Try.runUnderlying34 rfl) (J.fin (Sw.Sub.mk id (.c rfl (.c rfl (.c rfl (.c rfl (.c rfl (.c rfl (.c rfl (.c rfl .nil)))))))) (.box rfl (.c rfl (.c rfl (.c rfl .nil))) (.arr rfl .nil)) rfl)))) ?_
    rcases Bool.eq_false_or_eq_true (Option.isSome v34.2) with hc35 | hc35
    ·replace h := cond_t hc35 h
     refine W.condT rfl hc35 ?_
     refine W.seq ?_
     refine W.reg (σ' := ⟨[(2, .ref 128), (3, .v (Enc.err ET) v34.2)], [(128, .arr 62 (Enc.sl (Enc.int .u8)) ([] : (List (List Int))))]⟩) (J.mv rfl (J.k (JO.assignNilR 128 62 (Enc.sl (Enc.int .u8))) (J.k (JO.assign rfl) (J.fin (Sw.Sub.mk id (.c rfl (.c rfl .nil)) (.arr rfl .nil) rfl))))) ?_
     refine W.ret ?_
     refine XQ.ret ?_
     obtain rfl := Option.some.inj h
     refine XQ.lret fun ho => ?_
     obtain rfl := hr28 _ ho
     exact XQ.sub (σ' := ⟨[(2, .v (Enc.sl (Enc.sl (Enc.int .u8))) ([] : (List (List Int)))), (3, .v (Enc.err ET) v34.2)], []⟩) (Sw.Sub.mk id (.cons rfl (.frz rfl rfl) (.c rfl .nil)) .nil rfl) (XQ.ret2 hF noR rfl (RV.tmp rfl) (RV.tmp rfl) .nil rfl)
    ·replace h := cond_f hc35 h
     refine W.condF rfl hc35 ?_
     refine W.skip ?_
     obtain ⟨v36, hv36, h⟩ := bind_e h
     refine W.reg (σ' := ⟨[(1, .ptr 101 0), (5, .ref 129), (21, .v (Enc.sl Q1) v3), (22, .v Q0 (v3.length : Int)), (23, .v Q0 s20.1)], [(101, .box 51 [.v Q0 a0.1, .v Q0 a0.2.1, .v (Enc.sl Q1) a0.2.2]), (129, .arr 62 (Enc.sl (Enc.int .u8)) v36)]⟩) (J.mv rfl (J.mv rfl (J.k (JO.lit (e := (Enc.sl (Enc.int .u8))) Try.runUnderlying116 Try.sizeOf62 Try.zeroValue62 rfl rfl rfl rfl (.cons (.dir rfl) .nil)) (J.t (JM.append 129 hv36 rfl rfl (.sl rfl) Try.runUnderlying116 Try.typeInfo62 Try.sizeOf62 rfl rfl rfl rfl rfl) (J.k (JO.assign rfl) (J.fin (Sw.Sub.mk id (.c rfl (.c rfl (.c rfl (.c rfl (.c rfl .nil))))) (.box rfl (.c rfl (.c rfl (.c rfl .nil))) (.arr rfl .nil)) rfl))))))) ?_
     refine W.fall ?_
     refine W.reg (σ' := ⟨[(1, .ptr 101 0), (5, .ref 129), (21, .v (Enc.sl Q1) v3), (22, .v Q0 (v3.length : Int)), (23, .v Q0 (ar .add .i64 s20.1 (1 : Int)))], [(101, .box 51 [.v Q0 a0.1, .v Q0 a0.2.1, .v (Enc.sl Q1) a0.2.2]), (129, .arr 62 (Enc.sl (Enc.int .u8)) v36)]⟩) (J.k (JO.arith rfl rfl rfl) (J.mv rfl (J.fin (Sw.Sub.mk id (.c rfl (.c rfl (.c rfl (.c rfl (.c rfl .nil))))) (.box rfl (.c rfl (.c rfl (.c rfl .nil))) (.arr rfl .nil)) rfl)))) ?_
     obtain rfl := Option.some.inj h
     exact W.next (Sw.Sub.mk (rn [(101, 101), (119, 129)]) (.c rfl (.c rfl (.c rfl (.c rfl (.c rfl .nil))))) (.box rfl (.c rfl (.c rfl (.c rfl .nil))) (.arr rfl .nil)) rfl)
  ·replace h := cond_f hc30 h
   refine W.condF rfl hc30 ?_
   refine W.exit ?_
   obtain rfl := Option.some.inj h
   exact XQ.brk (Sw.Sub.mk id (.c rfl .nil) (.arr rfl .nil) rfl)
set_option maxRecDepth 100000 in
set_option maxHeartbeats 4000000 in
theorem con_top_line_send_io (A : Nat → Nat) {a0_0 : (Int × Int × Q3)} {a0_1 : (Int × Int)} {a0_2 : (List (Bool × (List Int)))} {a0_3 : (List Int)} {a0_4 : Bool} {r : (Int × Int × Q3) × (Int × Int) × (List (Bool × (List Int))) × (List Int) × Bool} (h : m_top_line_send_io a0_0 a0_1 a0_2 a0_3 a0_4 = some r) :
  ConM Try.prog 19 [.ptr 9000 0] [(9000, .box 56 [.v Q2 a0_0, .v (Enc.pr Q0 Q0) a0_1, .ref 8950, .ref 8951, .v Enc.bool a0_4] (some (A 9000))), (8950, .arr 64 (Enc.pr Enc.bool (Enc.sl (Enc.int .u8))) a0_2), (8951, .arr 3 Q0 a0_3)] (.tup []) [(9000, .box 56 [.v Q2 r.1, .v (Enc.pr Q0 Q0) r.2.1, .ref 8910, .ref 8911, .v Enc.bool r.2.2.2.2] (some (A 9000))), (8910, .arr 64 (Enc.pr Enc.bool (Enc.sl (Enc.int .u8))) r.2.2.1), (8911, .arr 3 Q0 r.2.2.2.1)] := by
 refine ConM.of Try.func19 rfl Try.ntmps19 rfl ?_
 intro S w R hF
 unfold m_top_line_send_io at h
 refine W.seq ?_
 obtain ⟨v1, hv1, h⟩ := bind_e h
 refine W.reg (σ' := ⟨[(0, .ptr 9000 0), (2, .v (Enc.sl (Enc.sl (Enc.int .u8))) v1.1), (3, .v (Enc.err ET) v1.2)], [(9000, .box 56 [.v Q2 a0_0, .v (Enc.pr Q0 Q0) a0_1, .ref 8950, .ref 8951, .v Enc.bool a0_4] (some (A 9000))), (8950, .arr 64 (Enc.pr Enc.bool (Enc.sl (Enc.int .u8))) a0_2), (8951, .arr 3 Q0 a0_3)]⟩) (J.mv rfl (J.k (JO.nilPtr rfl) (J.k (JO.fieldPtr 0 rfl Try.runUnderlying56 rfl Try.sizeOf51 rfl rfl) (J.k (JO.load rfl rfl rfl Try.isAgg51 Try.sizeOf51) (J.k (JO.call0 (con_link_Send hv1) Try.call42 (.cons (.dir rfl) .nil)) (J.mv rfl (J.k (JO.extract rfl rfl) (J.k (JO.extract rfl rfl) (J.k (JO.assign rfl) (J.k (JO.assign rfl) (J.fin (Sw.Sub.mk id (.c rfl (.c rfl (.c rfl .nil))) (.box rfl (.c rfl (.c rfl (.c rfl (.c rfl (.c rfl .nil))))) (.arr rfl (.arr rfl .nil))) rfl)))))))))))) ?_
 refine W.seq ?_
 obtain ⟨x3, hx, h⟩ := bind_e h
 refine W.reg (σ' := ⟨[(0, .ptr 9000 0), (2, .v (Enc.sl (Enc.sl (Enc.int .u8))) v1.1)], [(9000, .box 56 [.v Q2 a0_0, .v (Enc.pr Q0 Q0) a0_1, .ref 8950, .ref 8951, .v Enc.bool x3] (some (A 9000))), (8950, .arr 64 (Enc.pr Enc.bool (Enc.sl (Enc.int .u8))) a0_2), (8951, .arr 3 Q0 a0_3)]⟩) ?_ ?_
 ·rcases Bool.eq_false_or_eq_true a0_4 with hc4 | hc4
  ·replace hx := cond_t hc4 hx
   obtain rfl := Option.some.inj hx
   exact (J.mv rfl (J.mv rfl (J.k (JO.nilPtr rfl) (J.k (JO.fieldPtr 7 rfl Try.runUnderlying56 rfl Try.sizeOf4 rfl rfl) (J.k (JO.load rfl rfl rfl Try.isAgg4 Try.sizeOf4) (J.mv rfl (J.m 18 hc4 (JO.move rfl) (J.m 18 hc4 (JO.errEq Try.runUnderlying34 rfl) (J.k (JO.pT hc4 rfl rfl) (J.k (JO.nilPtr rfl) (J.k (JO.fieldPtr 7 rfl Try.runUnderlying56 rfl Try.sizeOf4 rfl rfl) (J.t (JM.store rfl rfl rfl rfl rfl rfl rfl Try.sizeOf4) (J.fin (Sw.Sub.mk id (.c rfl (.c rfl .nil)) (.box rfl (.c rfl (.c rfl (.c rfl (.c rfl (.c rfl .nil))))) (.arr rfl (.arr rfl .nil))) rfl))))))))))))))
  ·replace hx := cond_f hc4 hx
   obtain rfl := Option.some.inj hx
   exact (J.mv rfl (J.mv rfl (J.k (JO.nilPtr rfl) (J.k (JO.fieldPtr 7 rfl Try.runUnderlying56 rfl Try.sizeOf4 rfl rfl) (J.k (JO.load rfl rfl rfl Try.isAgg4 Try.sizeOf4) (J.mv rfl (J.u 18 hc4 (J.u 18 hc4 (J.k (JO.pF hc4 rfl rfl) (J.k (JO.nilPtr rfl) (J.k (JO.fieldPtr 7 rfl Try.runUnderlying56 rfl Try.sizeOf4 rfl rfl) (J.t (JM.store rfl rfl rfl rfl rfl rfl rfl Try.sizeOf4) (J.fin (Sw.Sub.mk id (.c rfl (.c rfl .nil)) (.box rfl (.c rfl (.c rfl (.c rfl (.c rfl (.c rfl .nil))))) (.arr rfl (.arr rfl .nil))) rfl))))))))))))))
 refine W.seq ?_
 refine W.reg (σ' := ⟨[(0, .ptr 9000 0), (2, .v (Enc.sl (Enc.sl (Enc.int .u8))) v1.1), (4, .v Q0 (0 : Int))], [(9000, .box 56 [.v Q2 a0_0, .v (Enc.pr Q0 Q0) a0_1, .ref 8950, .ref 8951, .v Enc.bool x3] (some (A 9000))), (8950, .arr 64 (Enc.pr Enc.bool (Enc.sl (Enc.int .u8))) a0_2), (8951, .arr 3 Q0 a0_3)]⟩) (J.k (JO.assign rfl) (J.fin (Sw.Sub.mk id (.c rfl (.c rfl (.c rfl .nil))) (.box rfl (.c rfl (.c rfl (.c rfl (.c rfl (.c rfl .nil))))) (.arr rfl (.arr rfl .nil))) rfl))) ?_
 obtain ⟨o23, ho23, hb23, hr23⟩ := lp_elim h
 refine W.lp (σs := fun s17 : Int × (List (Bool × (List Int))) => ⟨[(0, .ptr 9000 0), (2, .v (Enc.sl (Enc.sl (Enc.int .u8))) v1.1), (4, .v Q0 s17.1)], [(9000, .box 56 [.v Q2 a0_0, .v (Enc.pr Q0 Q0) a0_1, .ref 109, .ref 8951, .v Enc.bool x3] (some (A 9000))), (109, .arr 64 (Enc.pr Enc.bool (Enc.sl (Enc.int .u8))) s17.2), (8951, .arr 3 Q0 a0_3)]⟩) (fun x24 : (List (Bool × (List Int))) => ⟨[(0, .ptr 9000 0)], [(9000, .box 56 [.v Q2 a0_0, .v (Enc.pr Q0 Q0) a0_1, .ref 109, .ref 8951, .v Enc.bool x3] (some (A 9000))), (109, .arr 64 (Enc.pr Enc.bool (Enc.sl (Enc.int .u8))) x24), (8951, .arr 3 Q0 a0_3)]⟩) ho23 (Sw.Sub.mk (rn [(9000, 9000), (8951, 8951), (109, 8950)]) (.c rfl (.c rfl (.c rfl .nil))) (.box rfl (.c rfl (.c rfl (.c rfl (.c rfl (.c rfl .nil))))) (.arr rfl (.arr rfl .nil))) rfl) ?_ ?_
 ·intro x24 hy
  have h := hb23 _ hy
  refine W.nil ?_
  obtain rfl := Option.some.inj h
  exact XQ.sub (σ' := ⟨[(0, .ptr 9000 0)], [(9000, .box 56 [.v Q2 a0_0, .v (Enc.pr Q0 Q0) a0_1, .ref 8910, .ref 8911, .v Enc.bool x3] (some (A 9000))), (8911, .arr 3 Q0 a0_3), (8910, .arr 64 (Enc.pr Enc.bool (Enc.sl (Enc.int .u8))) x24)]⟩) (Sw.Sub.mk (rn [(9000, 9000), (8911, 8951), (8910, 109)]) (.c rfl .nil) (.box rfl (.c rfl (.c rfl (.c rfl (.c rfl (.c rfl .nil))))) (.arr rfl (.arr rfl .nil))) rfl) (XQ.normM0 hF rfl  (.cons rfl (.cons rfl (.cons rfl .nil))))
 intro s17 r23 h
 refine W.seq ?_
 refine W.seq ?_
 refine W.reg (σ' := ⟨[(0, .ptr 9000 0), (2, .v (Enc.sl (Enc.sl (Enc.int .u8))) v1.1), (4, .v Q0 s17.1), (27, .v Enc.bool (cm .lss s17.1 (v1.1.length : Int)))], [(9000, .box 56 [.v Q2 a0_0, .v (Enc.pr Q0 Q0) a0_1, .ref 109, .ref 8951, .v Enc.bool x3] (some (A 9000))), (109, .arr 64 (Enc.pr Enc.bool (Enc.sl (Enc.int .u8))) s17.2), (8951, .arr 3 Q0 a0_3)]⟩) (J.mv rfl (J.mv rfl (J.k (JO.len rfl Try.runUnderlying116) (J.k (JO.cmp rfl rfl rfl) (J.fin (Sw.Sub.mk id (.c rfl (.c rfl (.c rfl (.c rfl .nil)))) (.box rfl (.c rfl (.c rfl (.c rfl (.c rfl (.c rfl .nil))))) (.arr rfl (.arr rfl .nil))) rfl)))))) ?_
 rcases Bool.eq_false_or_eq_true (cm .lss s17.1 (v1.1.length : Int)) with hc25 | hc25
 ·replace h := cond_t hc25 h
  refine W.condT rfl hc25 ?_
  refine W.skip ?_
  refine W.seq ?_
  refine W.block ?_
  obtain ⟨z28, hz28, h⟩ := bind_e h
  obtain ⟨v29, hv29, h⟩ := bind_e h
  refine W.dr4 (σ' := ⟨[(0, .ptr 9000 0), (2, .v (Enc.sl (Enc.sl (Enc.int .u8))) v1.1), (4, .v Q0 s17.1)], [(9000, .box 56 [.v Q2 a0_0, .v (Enc.pr Q0 Q0) a0_1, .ref 113, .ref 8951, .v Enc.bool x3] (some (A 9000))), (113, .arr 64 (Enc.pr Enc.bool (Enc.sl (Enc.int .u8))) v29), (8951, .arr 3 Q0 a0_3)]⟩) 15 [0, 0, 2, 6, 14, 0, 0, 96, 224, 480, 992, 2046, 4095, 8191, 16383] mixed (by exact (.cons (.none rfl) (JO.move rfl) rfl (.cons (.none rfl) (JO.move rfl) rfl (.cons (.none rfl) (JO.nilPtr rfl) rfl (.cons (.none rfl) (JO.fieldPtr 5 rfl Try.runUnderlying56 rfl Try.sizeOf54 rfl rfl) rfl (.cons (.none rfl) (JO.load rfl rfl rfl Try.isAgg54 Try.sizeOf54) rfl (.cons (.none rfl) (JO.move rfl) rfl (.cons (.none rfl) (JO.move rfl) rfl (.cons (.none rfl) (JO.idx hz28 rfl rfl Try.runUnderlying116 Try.sizeOf62) rfl (.cons (.none rfl) (JO.loadPst rfl Try.isAgg62 Try.sizeOf62) rfl (.cons (.none rfl) (JO.build built64 (.cons Z.bool (.cons (Z.sl (Enc.int .u8)) .nil)) (.cons rfl (.dir rfl) rfl rfl rfl rfl (.cons rfl (.dir rfl) rfl rfl rfl rfl .nil))) rfl (.cons (.none rfl) (JO.lit (e := (Enc.pr Enc.bool (Enc.sl (Enc.int .u8)))) Try.runUnderlying54 Try.sizeOf64 Try.zeroValue64 rfl rfl rfl rfl (.cons (.agg rfl (.same (.same .nil)) (.prm (.one _ _) (.one _ _)) rfl) .nil)) rfl (JP4.append (.none rfl) 113 hv29 rfl rfl (.sl rfl) Try.runUnderlying54 Try.typeInfo64 Try.sizeOf64 rfl rfl rfl rfl rfl (.cons (.none rfl) (JO.nilPtr rfl) rfl (.cons (.none rfl) (JO.fieldPtr 5 rfl Try.runUnderlying56 rfl Try.sizeOf54 rfl rfl) rfl (JP4.store (.none rfl) rfl rfl rfl rfl rfl rfl rfl Try.sizeOf54 .nil)))))))))))))))) (by exact (J.fin (Sw.Sub.mk id (.c rfl (.c rfl (.c rfl .nil))) (.box rfl (.c rfl (.c rfl (.c rfl (.c rfl (.c rfl .nil))))) (.arr rfl (.arr rfl .nil))) rfl))) rfl (by decide +kernel) (by decide +kernel) (by decide +kernel) (by kernel_rfl) (by kernel_rfl) ?_
  refine W.fall ?_
  refine W.reg (σ' := ⟨[(0, .ptr 9000 0), (2, .v (Enc.sl (Enc.sl (Enc.int .u8))) v1.1), (4, .v Q0 (ar .add .i64 s17.1 (1 : Int)))], [(9000, .box 56 [.v Q2 a0_0, .v (Enc.pr Q0 Q0) a0_1, .ref 113, .ref 8951, .v Enc.bool x3] (some (A 9000))), (113, .arr 64 (Enc.pr Enc.bool (Enc.sl (Enc.int .u8))) v29), (8951, .arr 3 Q0 a0_3)]⟩) (J.mv rfl (J.k (JO.arith rfl rfl rfl) (J.k (JO.assign rfl) (J.fin (Sw.Sub.mk id (.c rfl (.c rfl (.c rfl .nil))) (.box rfl (.c rfl (.c rfl (.c rfl (.c rfl (.c rfl .nil))))) (.arr rfl (.arr rfl .nil))) rfl))))) ?_
  obtain rfl := Option.some.inj h
  exact W.next (Sw.Sub.mk (rn [(9000, 9000), (8951, 8951), (109, 113)]) (.c rfl (.c rfl (.c rfl .nil))) (.box rfl (.c rfl (.c rfl (.c rfl (.c rfl (.c rfl .nil))))) (.arr rfl (.arr rfl .nil))) rfl)
 ·replace h := cond_f hc25 h
  refine W.condF rfl hc25 ?_
  refine W.exit ?_
  obtain rfl := Option.some.inj h
  exact XQ.brk (Sw.Sub.mk id (.c rfl .nil) (.box rfl (.c rfl (.c rfl (.c rfl (.c rfl (.c rfl .nil))))) (.arr rfl (.arr rfl .nil))) rfl)
set_option maxRecDepth 100000 in
set_option maxHeartbeats 4000000 in
theorem con_frame_taker_byte_io (A : Nat → Nat) {a0_0 : (List Int)} {r : Int × Bool × (List Int)} (h : m_frame_taker_byte_io a0_0 = some r) :
  ConM Try.prog 93 [.ptr 9000 0] [(9000, .box 177 [.v (Enc.sl (Enc.int .u8)) a0_0] (some (A 9000)))] (.tup [.v (Enc.int .u8) r.1, .v Enc.bool r.2.1]) [(9000, .box 177 [.v (Enc.sl (Enc.int .u8)) r.2.2] (some (A 9000)))] := by
 refine ConM.of Try.func93 rfl Try.ntmps93 rfl ?_
 intro S w R hF
 unfold m_frame_taker_byte_io at h
 refine W.seq ?_
 refine W.reg (σ' := ⟨[(0, .ptr 9000 0)], [(9000, .box 177 [.v (Enc.sl (Enc.int .u8)) a0_0] (some (A 9000)))]⟩) (J.k (JO.assign rfl) (J.k (JO.assign rfl) (J.fin (Sw.Sub.mk id (.c rfl .nil) (.box rfl (.c rfl .nil) .nil) rfl)))) ?_
 refine W.seq ?_
 refine W.seq ?_
 refine W.reg (σ' := ⟨[(0, .ptr 9000 0), (10, .v Enc.bool (cm .eql (a0_0.length : Int) (0 : Int)))], [(9000, .box 177 [.v (Enc.sl (Enc.int .u8)) a0_0] (some (A 9000)))]⟩) (J.mv rfl (J.k (JO.nilPtr rfl) (J.k (JO.fieldPtr 0 rfl Try.runUnderlying177 rfl Try.sizeOf62 rfl rfl) (J.k (JO.load rfl rfl rfl Try.isAgg62 Try.sizeOf62) (J.k (JO.len rfl Try.runUnderlying62) (J.k (JO.cmp rfl rfl rfl) (J.fin (Sw.Sub.mk id (.c rfl (.c rfl .nil)) (.box rfl (.c rfl .nil) .nil) rfl)))))))) ?_
 rcases Bool.eq_false_or_eq_true (cm .eql (a0_0.length : Int) (0 : Int)) with hc1 | hc1
 ·replace h := cond_t hc1 h
  refine W.condT rfl hc1 ?_
  refine W.seq ?_
  refine W.reg (σ' := ⟨[(0, .ptr 9000 0), (2, .v (Enc.int .u8) (0 : Int)), (3, .v Enc.bool false)], [(9000, .box 177 [.v (Enc.sl (Enc.int .u8)) a0_0] (some (A 9000)))]⟩) (J.k (JO.assign rfl) (J.k (JO.assign rfl) (J.fin (Sw.Sub.mk id (.c rfl (.c rfl (.c rfl .nil))) (.box rfl (.c rfl .nil) .nil) rfl)))) ?_
  refine W.ret ?_
  obtain rfl := Option.some.inj h
  exact XQ.sub (σ' := ⟨[(0, .ptr 9000 0), (2, .v (Enc.int .u8) (0 : Int)), (3, .v Enc.bool false)], [(9000, .box 177 [.v (Enc.sl (Enc.int .u8)) a0_0] (some (A 9000)))]⟩) (Sw.Sub.mk id (.c rfl (.c rfl (.c rfl .nil))) (.box rfl (.c rfl .nil) .nil) rfl) (XQ.retM2 hF rfl (RV.tmp rfl) (RV.tmp rfl) (.cons rfl .nil))
 ·replace h := cond_f hc1 h
  refine W.condF rfl hc1 ?_
  refine W.skip ?_
  refine W.seq ?_
  obtain ⟨z2, hz2, h⟩ := bind_e h
  refine W.reg (σ' := ⟨[(0, .ptr 9000 0), (4, .v (Enc.int .u8) z2)], [(9000, .box 177 [.v (Enc.sl (Enc.int .u8)) a0_0] (some (A 9000)))]⟩) (J.mv rfl (J.k (JO.nilPtr rfl) (J.k (JO.fieldPtr 0 rfl Try.runUnderlying177 rfl Try.sizeOf62 rfl rfl) (J.k (JO.load rfl rfl rfl Try.isAgg62 Try.sizeOf62) (J.k (JO.idx hz2 rfl rfl Try.runUnderlying62 Try.sizeOf5) (J.k (JO.loadPst rfl Try.isAgg5 Try.sizeOf5) (J.k (JO.assign rfl) (J.fin (Sw.Sub.mk id (.c rfl (.c rfl .nil)) (.box rfl (.c rfl .nil) .nil) rfl))))))))) ?_
  refine W.seq ?_
  obtain ⟨v3, hv3, h⟩ := bind_e h
  refine W.reg (σ' := ⟨[(0, .ptr 9000 0), (4, .v (Enc.int .u8) z2)], [(9000, .box 177 [.v (Enc.sl (Enc.int .u8)) v3] (some (A 9000)))]⟩) (J.mv rfl (J.mv rfl (J.k (JO.nilPtr rfl) (J.k (JO.fieldPtr 0 rfl Try.runUnderlying177 rfl Try.sizeOf62 rfl rfl) (J.k (JO.load rfl rfl rfl Try.isAgg62 Try.sizeOf62) (J.k (JO.slLo hv3 rfl rfl Try.runUnderlying62 Try.sizeOf5) (J.k (JO.nilPtr rfl) (J.k (JO.fieldPtr 0 rfl Try.runUnderlying177 rfl Try.sizeOf62 rfl rfl) (J.t (JM.store rfl rfl rfl rfl rfl rfl rfl Try.sizeOf62) (J.fin (Sw.Sub.mk id (.c rfl (.c rfl .nil)) (.box rfl (.c rfl .nil) .nil) rfl))))))))))) ?_
  refine W.seq ?_
  refine W.reg (σ' := ⟨[(0, .ptr 9000 0), (2, .v (Enc.int .u8) z2), (3, .v Enc.bool true)], [(9000, .box 177 [.v (Enc.sl (Enc.int .u8)) v3] (some (A 9000)))]⟩) (J.mv rfl (J.k (JO.assign rfl) (J.k (JO.assign rfl) (J.fin (Sw.Sub.mk id (.c rfl (.c rfl (.c rfl .nil))) (.box rfl (.c rfl .nil) .nil) rfl))))) ?_
  refine W.ret ?_
  obtain rfl := Option.some.inj h
  exact XQ.sub (σ' := ⟨[(0, .ptr 9000 0), (2, .v (Enc.int .u8) z2), (3, .v Enc.bool true)], [(9000, .box 177 [.v (Enc.sl (Enc.int .u8)) v3] (some (A 9000)))]⟩) (Sw.Sub.mk id (.c rfl (.c rfl (.c rfl .nil))) (.box rfl (.c rfl .nil) .nil) rfl) (XQ.retM2 hF rfl (RV.tmp rfl) (RV.tmp rfl) (.cons rfl .nil))
set_option maxRecDepth 100000 in
set_option maxHeartbeats 4000000 in
theorem con_frame_taker_number_io (A : Nat → Nat) {a0_0 : (List Int)} {r : Int × Bool × (List Int)} (h : m_frame_taker_number_io a0_0 = some r) :
  ConM Try.prog 94 [.ptr 9000 0] [(9000, .box 177 [.v (Enc.sl (Enc.int .u8)) a0_0] (some (A 9000)))] (.tup [.v Q0 r.1, .v Enc.bool r.2.1]) [(9000, .box 177 [.v (Enc.sl (Enc.int .u8)) r.2.2] (some (A 9000)))] := by
 refine ConM.of Try.func94 rfl Try.ntmps94 rfl ?_
 intro S w R hF
 unfold m_frame_taker_number_io at h
 refine W.seq ?_
 refine W.reg (σ' := ⟨[(0, .ptr 9000 0)], [(9000, .box 177 [.v (Enc.sl (Enc.int .u8)) a0_0] (some (A 9000)))]⟩) (J.k (JO.assign rfl) (J.k (JO.assign rfl) (J.fin (Sw.Sub.mk id (.c rfl .nil) (.box rfl (.c rfl .nil) .nil) rfl)))) ?_
 refine W.seq ?_
 refine W.reg (σ' := ⟨[(0, .ptr 9000 0), (4, .v Q0 (0 : Int))], [(9000, .box 177 [.v (Enc.sl (Enc.int .u8)) a0_0] (some (A 9000)))]⟩) (J.k (JO.assign rfl) (J.fin (Sw.Sub.mk id (.c rfl (.c rfl .nil)) (.box rfl (.c rfl .nil) .nil) rfl))) ?_
 refine W.seq ?_
 refine W.seq ?_
 refine W.reg (σ' := ⟨[(0, .ptr 9000 0), (4, .v Q0 (0 : Int)), (5, .v Q0 (0 : Int))], [(9000, .box 177 [.v (Enc.sl (Enc.int .u8)) a0_0] (some (A 9000)))]⟩) (J.k (JO.assign rfl) (J.fin (Sw.Sub.mk id (.c rfl (.c rfl (.c rfl .nil))) (.box rfl (.c rfl .nil) .nil) rfl))) ?_
 obtain ⟨o33, ho33, hb33, hr33⟩ := lp_elim h
 refine W.lp (σs := fun s22 : Int × Int × (List Int) => ⟨[(0, .ptr 9000 0), (4, .v Q0 s22.1), (5, .v Q0 s22.2.1)], [(9000, .box 177 [.v (Enc.sl (Enc.int .u8)) s22.2.2] (some (A 9000)))]⟩) (fun x34 : (List Int) => ⟨[(0, .ptr 9000 0)], [(9000, .box 177 [.v (Enc.sl (Enc.int .u8)) x34] (some (A 9000)))]⟩) ho33 (Sw.Sub.mk id (.c rfl (.c rfl (.c rfl .nil))) (.box rfl (.c rfl .nil) .nil) rfl) ?_ ?_
 ·intro x34 hy
  have h := hb33 _ hy
  refine W.seq ?_
  refine W.reg (σ' := ⟨[(0, .ptr 9000 0), (2, .v Q0 (0 : Int)), (3, .v Enc.bool false)], [(9000, .box 177 [.v (Enc.sl (Enc.int .u8)) x34] (some (A 9000)))]⟩) (J.k (JO.assign rfl) (J.k (JO.assign rfl) (J.fin (Sw.Sub.mk id (.c rfl (.c rfl (.c rfl .nil))) (.box rfl (.c rfl .nil) .nil) rfl)))) ?_
  refine W.ret ?_
  obtain rfl := Option.some.inj h
  exact XQ.sub (σ' := ⟨[(0, .ptr 9000 0), (2, .v Q0 (0 : Int)), (3, .v Enc.bool false)], [(9000, .box 177 [.v (Enc.sl (Enc.int .u8)) x34] (some (A 9000)))]⟩) (Sw.Sub.mk id (.c rfl (.c rfl (.c rfl .nil))) (.box rfl (.c rfl .nil) .nil) rfl) (XQ.retM2 hF rfl (RV.tmp rfl) (RV.tmp rfl) (.cons rfl .nil))
 intro s22 r33 h
 refine W.seq ?_
 refine W.seq ?_
 refine W.reg (σ' := ⟨[(0, .ptr 9000 0), (4, .v Q0 s22.1), (5, .v Q0 s22.2.1), (9, .v Enc.bool (cm .lss s22.2.1 (35 : Int)))], [(9000, .box 177 [.v (Enc.sl (Enc.int .u8)) s22.2.2] (some (A 9000)))]⟩) (J.mv rfl (J.k (JO.cmp rfl rfl rfl) (J.fin (Sw.Sub.mk id (.c rfl (.c rfl (.c rfl (.c rfl .nil)))) (.box rfl (.c rfl .nil) .nil) rfl)))) ?_
 rcases Bool.eq_false_or_eq_true (cm .lss s22.2.1 (35 : Int)) with hc35 | hc35
 ·replace h := cond_t hc35 h
  refine W.condT rfl hc35 ?_
  refine W.skip ?_
  refine W.seq ?_
  refine W.block ?_
  refine W.seq ?_
  obtain ⟨v36, hv36, h⟩ := bind_e h
  refine W.reg (σ' := ⟨[(0, .ptr 9000 0), (4, .v Q0 s22.1), (5, .v Q0 s22.2.1), (6, .v (Enc.int .u8) v36.1), (7, .v Enc.bool v36.2.1)], [(9000, .box 177 [.v (Enc.sl (Enc.int .u8)) v36.2.2] (some (A 9000)))]⟩) (J.mv rfl (J.t (JM.callM (H := [9000]) (K := [9000]) (swp [(9000, 9000)]) (swp_inj _) (fun A => con_frame_taker_byte_io A hv36) Try.call93 (.cons (.dir rfl) .nil) (fun A => (.box rfl .nil)) (fun A => (.box rfl .nil rfl)) (fun _ => rfl) rfl rfl (fun _ => rfl) rfl rfl) (J.mv rfl (J.k (JO.extract rfl rfl) (J.k (JO.extract rfl rfl) (J.k (JO.assign rfl) (J.k (JO.assign rfl) (J.fin (Sw.Sub.mk id (.c rfl (.c rfl (.c rfl (.c rfl (.c rfl .nil))))) (.box rfl (.c rfl .nil) .nil) rfl))))))))) ?_
  refine W.seq ?_
  refine W.seq ?_
  refine W.reg (σ' := ⟨[(0, .ptr 9000 0), (4, .v Q0 s22.1), (5, .v Q0 s22.2.1), (6, .v (Enc.int .u8) v36.1), (18, .v Enc.bool (!v36.2.1))], [(9000, .box 177 [.v (Enc.sl (Enc.int .u8)) v36.2.2] (some (A 9000)))]⟩) (J.mv rfl (J.k (JO.not rfl) (J.fin (Sw.Sub.mk id (.c rfl (.c rfl (.c rfl (.c rfl (.c rfl .nil))))) (.box rfl (.c rfl .nil) .nil) rfl)))) ?_
  rcases Bool.eq_false_or_eq_true (!v36.2.1) with hc37 | hc37
  ·replace h := cond_t hc37 h
   refine W.condT rfl hc37 ?_
   refine W.seq ?_
   refine W.reg (σ' := ⟨[(0, .ptr 9000 0), (2, .v Q0 (0 : Int)), (3, .v Enc.bool false)], [(9000, .box 177 [.v (Enc.sl (Enc.int .u8)) v36.2.2] (some (A 9000)))]⟩) (J.k (JO.assign rfl) (J.k (JO.assign rfl) (J.fin (Sw.Sub.mk id (.c rfl (.c rfl (.c rfl .nil))) (.box rfl (.c rfl .nil) .nil) rfl)))) ?_
   refine W.ret ?_
   refine XQ.ret ?_
   obtain rfl := Option.some.inj h
   refine XQ.lret fun ho => ?_
   obtain rfl := hr33 _ ho
   exact XQ.sub (σ' := ⟨[(0, .ptr 9000 0), (2, .v Q0 (0 : Int)), (3, .v Enc.bool false)], [(9000, .box 177 [.v (Enc.sl (Enc.int .u8)) v36.2.2] (some (A 9000)))]⟩) (Sw.Sub.mk id (.c rfl (.c rfl (.c rfl .nil))) (.box rfl (.c rfl .nil) .nil) rfl) (XQ.retM2 hF rfl (RV.tmp rfl) (RV.tmp rfl) (.cons rfl .nil))
  ·replace h := cond_f hc37 h
   refine W.condF rfl hc37 ?_
   refine W.skip ?_
   refine W.seq ?_
   obtain ⟨u38, hu38, h⟩ := bind_e h
   refine W.reg (σ' := ⟨[(0, .ptr 9000 0), (4, .v Q0 (ar .or .i64 s22.1 (sh .shl .i64 (ar .and .u8 v36.1 (127 : Int)) s22.2.1))), (5, .v Q0 s22.2.1), (6, .v (Enc.int .u8) v36.1)], [(9000, .box 177 [.v (Enc.sl (Enc.int .u8)) v36.2.2] (some (A 9000)))]⟩) (J.mv rfl (J.mv rfl (J.k (JO.arith rfl rfl rfl) (J.k (JO.convUp Try.runUnderlying5 Try.runUnderlying3 rfl rfl) (J.mv rfl (J.k (JO.shift (.inl rfl) (nn_some hu38) rfl rfl) (J.k (JO.arith rfl rfl rfl) (J.k (JO.assign rfl) (J.fin (Sw.Sub.mk id (.c rfl (.c rfl (.c rfl (.c rfl .nil)))) (.box rfl (.c rfl .nil) .nil) rfl)))))))))) ?_
   refine W.seq ?_
   refine W.reg (σ' := ⟨[(0, .ptr 9000 0), (4, .v Q0 (ar .or .i64 s22.1 (sh .shl .i64 (ar .and .u8 v36.1 (127 : Int)) s22.2.1))), (5, .v Q0 s22.2.1), (6, .v (Enc.int .u8) v36.1), (27, .v Enc.bool (cm .lss v36.1 (128 : Int)))], [(9000, .box 177 [.v (Enc.sl (Enc.int .u8)) v36.2.2] (some (A 9000)))]⟩) (J.mv rfl (J.k (JO.cmp rfl rfl rfl) (J.fin (Sw.Sub.mk id (.c rfl (.c rfl (.c rfl (.c rfl (.c rfl .nil))))) (.box rfl (.c rfl .nil) .nil) rfl)))) ?_
   rcases Bool.eq_false_or_eq_true (cm .lss v36.1 (128 : Int)) with hc39 | hc39
   ·replace h := cond_t hc39 h
    refine W.condT rfl hc39 ?_
    refine W.seq ?_
    obtain ⟨x42, hx, h⟩ := bind_e h
    refine W.reg (σ' := ⟨[(0, .ptr 9000 0), (2, .v Q0 (ar .or .i64 s22.1 (sh .shl .i64 (ar .and .u8 v36.1 (127 : Int)) s22.2.1))), (3, .v Enc.bool x42)], [(9000, .box 177 [.v (Enc.sl (Enc.int .u8)) v36.2.2] (some (A 9000)))]⟩) ?_ ?_
    ·rcases Bool.eq_false_or_eq_true (cm .leq (ar .or .i64 s22.1 (sh .shl .i64 (ar .and .u8 v36.1 (127 : Int)) s22.2.1)) (2147483647 : Int)) with hc43 | hc43
     ·replace hx := cond_t hc43 hx
      rcases Bool.eq_false_or_eq_true (cm .gtr v36.1 (0 : Int)) with hc44 | hc44
      ·replace hx := cond_t hc44 hx
       obtain rfl := Option.some.inj hx
       exact (J.mv rfl (J.mv rfl (J.k (JO.cmp rfl rfl rfl) (J.mv rfl (J.m 31 hc43 (JO.move rfl) (J.m 31 hc43 (JO.cmp rfl rfl rfl) (J.m 31 hc43 (JO.move rfl) (J.u 34 hc44 (J.u 34 hc44 (J.m 31 hc43 (JO.pT hc44 rfl rfl) (J.k (JO.pT hc43 rfl rfl) (J.k (JO.assign rfl) (J.k (JO.assign rfl) (J.fin (Sw.Sub.mk id (.c rfl (.c rfl (.c rfl .nil))) (.box rfl (.c rfl .nil) .nil) rfl)))))))))))))))
      ·replace hx := cond_f hc44 hx
       obtain rfl := Option.some.inj hx
       exact (J.mv rfl (J.mv rfl (J.k (JO.cmp rfl rfl rfl) (J.mv rfl (J.m 31 hc43 (JO.move rfl) (J.m 31 hc43 (JO.cmp rfl rfl rfl) (J.m 31 hc43 (JO.move rfl) (J.m 34 hc44 (JO.move rfl) (J.m 34 hc44 (JO.cmp rfl rfl rfl) (J.m 31 hc43 (JO.pF hc44 rfl rfl) (J.k (JO.pT hc43 rfl rfl) (J.k (JO.assign rfl) (J.k (JO.assign rfl) (J.fin (Sw.Sub.mk id (.c rfl (.c rfl (.c rfl .nil))) (.box rfl (.c rfl .nil) .nil) rfl)))))))))))))))
     ·replace hx := cond_f hc43 hx
      obtain rfl := Option.some.inj hx
      exact (J.mv rfl (J.mv rfl (J.k (JO.cmp rfl rfl rfl) (J.mv rfl (J.u 31 hc43 (J.u 31 hc43 (J.u 31 hc43 (J.left (GK.und 34 rfl rfl rfl) rfl (J.left (GK.und 34 rfl rfl rfl) rfl (J.u 31 hc43 (J.k (JO.pF hc43 rfl rfl) (J.k (JO.assign rfl) (J.k (JO.assign rfl) (J.fin (Sw.Sub.mk id (.c rfl (.c rfl (.c rfl .nil))) (.box rfl (.c rfl .nil) .nil) rfl)))))))))))))))
    refine W.ret ?_
    refine XQ.ret ?_
    obtain rfl := Option.some.inj h
    refine XQ.lret fun ho => ?_
    obtain rfl := hr33 _ ho
    exact XQ.sub (σ' := ⟨[(0, .ptr 9000 0), (2, .v Q0 (ar .or .i64 s22.1 (sh .shl .i64 (ar .and .u8 v36.1 (127 : Int)) s22.2.1))), (3, .v Enc.bool x42)], [(9000, .box 177 [.v (Enc.sl (Enc.int .u8)) v36.2.2] (some (A 9000)))]⟩) (Sw.Sub.mk id (.c rfl (.c rfl (.c rfl .nil))) (.box rfl (.c rfl .nil) .nil) rfl) (XQ.retM2 hF rfl (RV.tmp rfl) (RV.tmp rfl) (.cons rfl .nil))
   ·replace h := cond_f hc39 h
    refine W.condF rfl hc39 ?_
    refine W.skip ?_
    refine W.fall ?_
    refine W.reg (σ' := ⟨[(0, .ptr 9000 0), (4, .v Q0 (ar .or .i64 s22.1 (sh .shl .i64 (ar .and .u8 v36.1 (127 : Int)) s22.2.1))), (5, .v Q0 (ar .add .i64 s22.2.1 (7 : Int)))], [(9000, .box 177 [.v (Enc.sl (Enc.int .u8)) v36.2.2] (some (A 9000)))]⟩) (J.mv rfl (J.k (JO.arith rfl rfl rfl) (J.k (JO.assign rfl) (J.fin (Sw.Sub.mk id (.c rfl (.c rfl (.c rfl .nil))) (.box rfl (.c rfl .nil) .nil) rfl))))) ?_
    obtain rfl := Option.some.inj h
    exact W.next (Sw.Sub.mk id (.c rfl (.c rfl (.c rfl .nil))) (.box rfl (.c rfl .nil) .nil) rfl)
 ·replace h := cond_f hc35 h
  refine W.condF rfl hc35 ?_
  refine W.exit ?_
  obtain rfl := Option.some.inj h
  exact XQ.brk (Sw.Sub.mk id (.c rfl .nil) (.box rfl (.c rfl .nil) .nil) rfl)
set_option maxRecDepth 100000 in
set_option maxHeartbeats 4000000 in
theorem con_slices_Chunk_byte_byte {a0 : (List Int)} {a1 : Int} {r : ((List Int) × Int)} (h : m_slices_Chunk_byte_byte a0 a1 = some r) :
  Con Try.prog 95 [.v (Enc.sl (Enc.int .u8)) a0, .v Q0 a1] (.fnc 100 [.pst (Enc.sl (Enc.int .u8)) r.1, .pst Q0 r.2]) [] := by
 refine Con.of Try.func95 rfl Try.ntmps95 rfl ?_
 intro S w hF
 unfold m_slices_Chunk_byte_byte at h
 refine W.seq ?_
 refine W.reg (σ' := ⟨[(2, .ptr 101 0), (3, .ptr 102 0)], [(101, .box 62 [.v (Enc.sl (Enc.int .u8)) a0]), (102, .box 3 [.v Q0 a1])]⟩) (J.k (JO.box 101 rfl (.one _ _) rfl) (J.k (JO.box 102 rfl (.one _ _) rfl) (J.k (JO.assignCst rfl) (J.fin (Sw.Sub.mk id (.c rfl (.c rfl .nil)) (.box rfl (.c rfl .nil) (.box rfl (.c rfl .nil) .nil)) rfl))))) ?_
 refine W.seq ?_
 refine W.seq ?_
 refine W.reg (σ' := ⟨[(2, .ptr 101 0), (3, .ptr 102 0), (6, .v Enc.bool (cm .lss a1 (1 : Int)))], [(101, .box 62 [.v (Enc.sl (Enc.int .u8)) a0]), (102, .box 3 [.v Q0 a1])]⟩) (J.k (JO.load rfl rfl rfl Try.isAgg3 Try.sizeOf3) (J.k (JO.cmp rfl rfl rfl) (J.fin (Sw.Sub.mk id (.c rfl (.c rfl (.c rfl .nil))) (.box rfl (.c rfl .nil) (.box rfl (.c rfl .nil) .nil)) rfl)))) ?_
 obtain ⟨k2, hk2, h⟩ := jp_elim h
 refine W.jn (fun x3 : Unit => ⟨[(2, .ptr 101 0), (3, .ptr 102 0)], [(101, .box 62 [.v (Enc.sl (Enc.int .u8)) a0]), (102, .box 3 [.v Q0 a1])]⟩) (fun x => k2 x = some r) rfl ?_ ?_ ?_
 ·intro x3 h
  rw [hk2] at h
  refine W.seq ?_
  refine W.reg (σ' := ⟨[(4, .fnc 100 [.ptr 101 0, .ptr 102 0])], [(101, .box 62 [.v (Enc.sl (Enc.int .u8)) a0]), (102, .box 3 [.v Q0 a1])]⟩) (J.k (JO.makeFunc (.cons (.dir rfl) (.cons (.dir rfl) .nil))) (J.k (JO.assign rfl) (J.fin (Sw.Sub.mk id (.c rfl .nil) (.box rfl (.c rfl .nil) (.box rfl (.c rfl .nil) .nil)) rfl)))) ?_
  refine W.ret ?_
  obtain rfl := Option.some.inj h
  exact XQ.sub (σ' := ⟨[(4, .fnc 100 [.pst (Enc.sl (Enc.int .u8)) a0, .pst Q0 a1])], []⟩) (Sw.Sub.mk id (.cons rfl (.fnc (.cons (.frzP rfl rfl (.c rfl .nil) (.one _ _)) (.cons (.frzP rfl rfl (.c rfl .nil) (.one _ _)) .nil))) .nil) .nil rfl) (XQ.ret1 hF noR rfl (RV.tmp rfl) .nil rfl)
 ·intro hc1
  replace h := cond_t hc1 h
  cases h
 ·intro hc1
  replace h := cond_f hc1 h
  refine W.skip ?_
  exact W.jfall h (Sw.Sub.mk id (.c rfl (.c rfl .nil)) (.box rfl (.c rfl .nil) (.box rfl (.c rfl .nil) .nil)) rfl)
set_option maxRecDepth 100000 in
set_option maxHeartbeats 4000000 in
theorem it_100 {xs : List Int} {n : Int} (hn : 1 ≤ n) (hlen : (xs.length : Int) ≤ 4294967296) (hn2 : n ≤ 4294967296) :
  IterC Try.prog 100 [.pst (Enc.sl (Enc.int .u8)) xs, .pst Q0 n] ((chunks n.toNat xs).map fun c => [.v (Enc.sl (Enc.int .u8)) c]) := by
 refine IterC.of2 Try.func100 rfl Try.ntmps100 rfl ?_
 intro S w ρ l Jp Jx b off b' off' I hJ0 h1 h2
 refine W.seq ?_
 refine W.reg (σ' := ⟨[(0, .v (Enc.cst (.func (.yield l) #[] #[]) rfl) ()), (1, .v (Enc.cp b off (Enc.sl (Enc.int .u8))) xs), (2, .v (Enc.cp b' off' Q0) n), (4, .v Q0 ((0 : Nat) * n))], []⟩) (J.k (JO.assign rfl) (J.fin (Sub.keepE (by rfl) (by exact (.cons rfl (.cons rfl (.cons rfl (.cons (by simp [lk, AS.put]) .nil)))))))) ?_
 refine W.block ?_
 refine W.iloop I (fun k => [(0, .v (Enc.cst (.func (.yield l) #[] #[]) rfl) ()), (1, .v (Enc.cp b off (Enc.sl (Enc.int .u8))) xs), (2, .v (Enc.cp b' off' Q0) n), (4, .v Q0 ((k : Nat) * n))]) (fun k => (.cons (@Again.flat _ _ ⟨fun h => h⟩ _ _ _ _) (.cons h1 (.cons h2 (.cons .flat .nil))))) (fun _ _ h => h) hJ0 ?_
 intro k V hJ hk
 have hm : ((chunks n.toNat xs).map fun c => ([.v (Enc.sl (Enc.int .u8)) c] : List Slot)).length = (chunks n.toNat xs).length := List.length_map ..
 refine W.seq (W.seq ?_)
 refine W.reg (σ' := ⟨[(0, .v (Enc.cst (.func (.yield l) #[] #[]) rfl) ()), (1, .v (Enc.cp b off (Enc.sl (Enc.int .u8))) xs), (2, .v (Enc.cp b' off' Q0) n), (4, .v Q0 (k * n)), (9, .v Enc.bool (cm .lss (k * n) xs.length))], []⟩) (J.mv rfl (J.k (JO.loadCp rfl Try.isAgg62 Try.sizeOf62) (J.k (JO.len rfl Try.runUnderlying62) (J.k (JO.cmp rfl rfl rfl) (J.fin (Sub.keepE (by rfl) (by exact (.cons rfl (.cons rfl (.cons rfl (.cons rfl (.cons rfl .nil)))))))))))) ?_
 refine W.cond rfl (fun hc => ?_) (fun hc => ?_)
 ·refine W.skip ?_
  have hlt : (k : Int) * n < xs.length := by simpa [cm] using hc
  obtain ⟨hklt, hs1, hs2, hs3, hadd⟩ := chunk_facts hn hn2 hlen hlt
  have hkm : k < (chunks n.toNat xs).length := (chunks_len (by omega) xs).2 hklt
  refine W.seq ?_
  refine W.block ?_
  refine W.seq ?_
  refine W.draw (σ' := ⟨[(0, .v (Enc.cst (.func (.yield l) #[] #[]) rfl) ()), (1, .v (Enc.cp b off (Enc.sl (Enc.int .u8))) xs), (2, .v (Enc.cp b' off' Q0) n), (4, .v Q0 (k * n)), (5, .v Q0 (min n ((xs.drop (k * n.toNat)).length : Int)))], []⟩) (n := 7) mixed rfl rfl (by decide +kernel) (by decide +kernel) (.cons (.none rfl) (JO.loadCp rfl Try.isAgg3 Try.sizeOf3) rfl rfl (.cons (.none rfl) (JO.loadCp rfl Try.isAgg62 Try.sizeOf62) rfl rfl (.cons (.none rfl) (JO.move rfl) rfl rfl (.cons (.none rfl) (JO.slLo hs1 rfl rfl Try.runUnderlying62 Try.sizeOf5) rfl rfl (.cons (.none rfl) (JO.len rfl Try.runUnderlying62) rfl rfl (.cons (.none rfl) (JO.gmin rfl rfl) rfl rfl (.cons (.none rfl) (JO.assign rfl) rfl rfl .nil))))))) (J.fin (Sub.keepE (by rfl) (by exact (.cons rfl (.cons rfl (.cons rfl (.cons rfl (.cons rfl .nil)))))))) ?_
  refine W.seq ?_
  refine W.iyield (σ1 := ⟨[(19, .v (Enc.cst (.func (.yield l) #[] #[]) rfl) ()), (28, .v (Enc.sl (Enc.int .u8)) ((xs.drop (k * n.toNat)).take n.toNat)), (0, .v (Enc.cst (.func (.yield l) #[] #[]) rfl) ()), (1, .v (Enc.cp b off (Enc.sl (Enc.int .u8))) xs), (2, .v (Enc.cp b' off' Q0) n), (4, .v Q0 (k * n))], []⟩) (g2 := [(0, .v (Enc.cst (.func (.yield l) #[] #[]) rfl) ()), (1, .v (Enc.cp b off (Enc.sl (Enc.int .u8))) xs), (2, .v (Enc.cp b' off' Q0) n), (4, .v Q0 (k * n))]) (pre := [_, _, _, _, _, _, _, _, _, _]) I hJ (item := [.v (Enc.sl (Enc.int .u8)) ((xs.drop (k * n.toNat)).take n.toNat)]) (by rw [List.getElem?_map, chunks_get (by omega) hklt]; rfl)
   (J.mv rfl (J.k (JO.loadCp rfl Try.isAgg62 Try.sizeOf62) (J.mv rfl (J.mv rfl (J.mv rfl (J.k (JO.arith rfl rfl rfl) (J.mv rfl (J.mv rfl (J.k (JO.arith rfl rfl rfl) (J.k (JO.sl3 hs2 hs3 rfl rfl rfl rfl Try.runUnderlying62 Try.sizeOf5) (J.fin (Sub.keepE (by rfl) (by exact (.cons rfl (.cons rfl (.cons rfl (.cons rfl (.cons rfl (.cons rfl .nil)))))))))))))))))))
   rfl (.cons (.dir rfl) .nil) rfl rfl rfl rfl (.cons (@Again.flat _ _ ⟨fun h => h⟩ _ _ _ _) (.cons h1 (.cons h2 (.cons .flat .nil)))) (.cons rfl (.cons rfl (.cons rfl (.cons rfl .nil)))) (fun V' hJ' => ?_) (fun V' hJx => ?_)
  ·refine W.condF rfl rfl (W.skip (W.fall ?_))
   refine W.reg (σ' := ⟨[(0, .v (Enc.cst (.func (.yield l) #[] #[]) rfl) ()), (1, .v (Enc.cp b off (Enc.sl (Enc.int .u8))) xs), (2, .v (Enc.cp b' off' Q0) n), (4, .v Q0 (ar .add .i64 (k * n) n))], []⟩) (J.mv rfl (J.k (JO.loadCp rfl Try.isAgg3 Try.sizeOf3) (J.k (JO.arith rfl rfl rfl) (J.k (JO.assign rfl) (J.fin (Sub.keepE (by rfl) (by exact (.cons rfl (.cons rfl (.cons rfl (.cons rfl .nil))))))))))) ?_
   exact W.inext I hJ' (by rw [hm]; exact hkm) (by rw [hadd]; exact fun _ _ h => h)
  ·refine W.condT rfl rfl (W.ret (W.istop (fn := Try.f100) I rfl hJx fun a V' h => h))
 ·refine W.exit (W.iend (fn := Try.f100) I rfl hJ ?_ (fun a V' h => ?_))
  ·have hge : ¬ (k : Int) * n < xs.length := by simpa [cm] using hc
   have hkn : ((k : Int) * n) = ((k * n.toNat : Nat) : Int) := by push_cast; rw [Int.toNat_of_nonneg (by omega)]
   have : ¬ k * n.toNat < xs.length := fun h => hge (by rw [hkn]; exact_mod_cast h)
   rw [hm] at hk ⊢
   have := mt (chunks_len (n := n.toNat) (by omega) xs (k := k)).1 this
   omega
  ·simp only [Exit.inBlock, if_true]; exact h

set_option maxRecDepth 100000 in
set_option maxHeartbeats 4000000 in
theorem con_frame_Unpack {a0 : (List Int)} {r : (Int × (List Int) × (List Blk)) × (Option Int)} (h : m_frame_Unpack a0 = some r) :
  Con Try.prog 75 [.v (Enc.sl (Enc.int .u8)) a0] (.tup [.v Q1 r.1, .v (Enc.err ET) r.2]) [] := by
 refine Con.of Try.func75 rfl Try.ntmps75 rfl ?_
 intro S w hF
 unfold m_frame_Unpack at h
 refine W.seq ?_
 refine W.reg (σ' := ⟨[(0, .v (Enc.sl (Enc.int .u8)) a0), (2, .ptr 101 0), (3, .v (Enc.err ET) (none : Option Int))], [(101, .box 60 [.v Q0 (0 : Int), .v (Enc.sl Q0) ([] : (List Int)), .v (Enc.sl eBlk) ([] : (List Blk))])]⟩) (J.k (JO.alloc 101 Try.zeroValue60 rfl (.cons (Z.int .i64) (.cons (Z.sl Q0) (.cons (Z.sl eBlk) .nil))) rfl) (J.k (JO.assignNilE ET) (J.fin (Sw.Sub.mk id (.c rfl (.c rfl (.c rfl .nil))) (.box rfl (.c rfl (.c rfl (.c rfl .nil))) .nil) rfl)))) ?_
 refine W.seq ?_
 refine W.seq ?_
 refine W.reg (σ' := ⟨[(0, .v (Enc.sl (Enc.int .u8)) a0), (2, .ptr 101 0), (3, .v (Enc.err ET) (none : Option Int)), (17, .v Enc.bool (cm .lss (a0.length : Int) (6 : Int)))], [(101, .box 60 [.v Q0 (0 : Int), .v (Enc.sl Q0) ([] : (List Int)), .v (Enc.sl eBlk) ([] : (List Blk))])]⟩) (J.mv rfl (J.k (JO.len rfl Try.runUnderlying62) (J.k (JO.cmp rfl rfl rfl) (J.fin (Sw.Sub.mk id (.c rfl (.c rfl (.c rfl (.c rfl .nil)))) (.box rfl (.c rfl (.c rfl (.c rfl .nil))) .nil) rfl))))) ?_
 rcases Bool.eq_false_or_eq_true (cm .lss (a0.length : Int) (6 : Int)) with hc1 | hc1
 ·replace h := cond_t hc1 h
  refine W.condT rfl hc1 ?_
  refine W.seq ?_
  refine W.reg (σ' := ⟨[(2, .ptr 101 0), (3, .v (Enc.err ET) (some (3 : Int)))], [(101, .box 60 [.v Q0 (0 : Int), .ref 103, .ref 102]), (103, .arr 3 Q0 ([] : (List Int))), (102, .arr 29 eBlk ([] : (List Blk)))]⟩) (J.k (JO.buildN (new := [(103, .arr 3 Q0 ([] : (List Int))), (102, .arr 29 eBlk ([] : (List Blk)))]) built60 (.cons (Z.int .i64) (.ref 103 rfl (.ref 102 rfl .nil))) (.cons (.cons .nil)) rfl .nil) (J.k (JO.mkErr Try.runUnderlying86 rfl) (J.t (JM.storeAgg rfl rfl rfl rfl rfl rfl Try.sizeOf60) (J.k (JO.assign rfl) (J.fin (Sw.Sub.mk id (.c rfl (.c rfl .nil)) (.box rfl (.c rfl (.c rfl (.c rfl .nil))) (.arr rfl (.arr rfl .nil))) rfl)))))) ?_
  refine W.ret ?_
  obtain rfl := Option.some.inj h
  exact XQ.sub (σ' := ⟨[(2, .ptr 90 0), (3, .v (Enc.err ET) (some (3 : Int)))], [(90, .box 60 [.v Q0 (0 : Int), .v (Enc.sl Q0) ([] : (List Int)), .v (Enc.sl eBlk) ([] : (List Blk))])]⟩) (Sw.Sub.mk (rn [(90, 101)]) (.c rfl (.c rfl .nil)) (.box rfl (.c rfl (.cons (.frz rfl rfl) (.cons (.frz rfl rfl) .nil))) .nil) rfl) (XQ.ret2 hF noR rfl (RV.cellAll rfl rfl (.prm (.one _ _) (.prm (.one _ _) (.one _ _))) Try.isAgg60 Try.sizeOf60) (RV.tmp rfl) .nil rfl)
 ·replace h := cond_f hc1 h
  refine W.condF rfl hc1 ?_
  refine W.skip ?_
  refine W.seq ?_
  obtain ⟨v2, hv2, h⟩ := bind_e h
  refine W.reg (σ' := ⟨[(0, .v (Enc.sl (Enc.int .u8)) a0), (2, .ptr 101 0), (3, .v (Enc.err ET) (none : Option Int)), (4, .v (Enc.sl (Enc.int .u8)) v2)], [(101, .box 60 [.v Q0 (0 : Int), .v (Enc.sl Q0) ([] : (List Int)), .v (Enc.sl eBlk) ([] : (List Blk))])]⟩) (J.mv rfl (J.mv rfl (J.k (JO.len rfl Try.runUnderlying62) (J.k (JO.arith rfl rfl rfl) (J.k (JO.slHi hv2 rfl rfl Try.runUnderlying62 Try.sizeOf5) (J.k (JO.assign rfl) (J.fin (Sw.Sub.mk id (.c rfl (.c rfl (.c rfl (.c rfl .nil)))) (.box rfl (.c rfl (.c rfl (.c rfl .nil))) .nil) rfl)))))))) ?_
  refine W.seq ?_
  obtain ⟨v3, hv3, h⟩ := bind_e h
  refine W.reg (σ' := ⟨[(0, .v (Enc.sl (Enc.int .u8)) a0), (2, .ptr 101 0), (3, .v (Enc.err ET) (none : Option Int)), (4, .v (Enc.sl (Enc.int .u8)) v2), (5, .v (Enc.int .u32) v3)], [(101, .box 60 [.v Q0 (0 : Int), .v (Enc.sl Q0) ([] : (List Int)), .v (Enc.sl eBlk) ([] : (List Blk))])]⟩) (J.mv rfl (J.k (JO.call0 (con_frame_Sum hv3) Try.call92 (.cons (.dir rfl) .nil)) (J.k (JO.assign rfl) (J.fin (Sw.Sub.mk id (.c rfl (.c rfl (.c rfl (.c rfl (.c rfl .nil))))) (.box rfl (.c rfl (.c rfl (.c rfl .nil))) .nil) rfl))))) ?_
  refine W.seq ?_
  refine W.seq ?_
  obtain ⟨v4, hv4, h⟩ := bind_e h
  obtain ⟨z5, hz5, h⟩ := bind_e h
  refine W.reg (σ' := ⟨[(2, .ptr 101 0), (3, .v (Enc.err ET) (none : Option Int)), (4, .v (Enc.sl (Enc.int .u8)) v2), (45, .v Enc.bool (!decide (z5 = ([(IntKind.wrap .u8 (sh .shr .u32 v3 (24 : Int))), (IntKind.wrap .u8 (sh .shr .u32 v3 (16 : Int))), (IntKind.wrap .u8 (sh .shr .u32 v3 (8 : Int))), (IntKind.wrap .u8 v3)] : (List Int)))))], [(101, .box 60 [.v Q0 (0 : Int), .v (Enc.sl Q0) ([] : (List Int)), .v (Enc.sl eBlk) ([] : (List Blk))])]⟩) (J.mv rfl (J.mv rfl (J.k (JO.len rfl Try.runUnderlying62) (J.k (JO.slLo hv4 rfl rfl Try.runUnderlying62 Try.sizeOf5) (J.k (JO.arrPtr hz5 rfl Try.runUnderlying174) (J.k (JO.loadPst rfl Try.isAgg174 Try.sizeOf174) (J.mv rfl (J.k (JO.shift (.inr rfl) (by decide) rfl rfl) (J.k (JO.conv Try.runUnderlying172 Try.runUnderlying5 rfl) (J.mv rfl (J.k (JO.shift (.inr rfl) (by decide) rfl rfl) (J.k (JO.conv Try.runUnderlying172 Try.runUnderlying5 rfl) (J.mv rfl (J.k (JO.shift (.inr rfl) (by decide) rfl rfl) (J.k (JO.conv Try.runUnderlying172 Try.runUnderlying5 rfl) (J.mv rfl (J.k (JO.conv Try.runUnderlying172 Try.runUnderlying5 rfl) (J.k (JO.litArr (e := (Enc.int .u8)) Try.typeInfo174 Try.runUnderlying174 Try.typeInfo5 rfl rfl rfl rfl rfl (.cons (.dir rfl) (.cons (.dir rfl) (.cons (.dir rfl) (.cons (.dir rfl) .nil))))) (J.k (JO.neV eq174 rfl rfl Try.eqGuardType174 rfl rfl) (J.fin (Sw.Sub.mk id (.c rfl (.c rfl (.c rfl (.c rfl .nil)))) (.box rfl (.c rfl (.c rfl (.c rfl .nil))) .nil) rfl))))))))))))))))))))) ?_
  rcases Bool.eq_false_or_eq_true (!decide (z5 = ([(IntKind.wrap .u8 (sh .shr .u32 v3 (24 : Int))), (IntKind.wrap .u8 (sh .shr .u32 v3 (16 : Int))), (IntKind.wrap .u8 (sh .shr .u32 v3 (8 : Int))), (IntKind.wrap .u8 v3)] : (List Int)))) with hc6 | hc6
  ·replace h := cond_t hc6 h
   refine W.condT rfl hc6 ?_
   refine W.seq ?_
   refine W.reg (σ' := ⟨[(2, .ptr 101 0), (3, .v (Enc.err ET) (some (3 : Int)))], [(101, .box 60 [.v Q0 (0 : Int), .ref 106, .ref 105]), (106, .arr 3 Q0 ([] : (List Int))), (105, .arr 29 eBlk ([] : (List Blk)))]⟩) (J.k (JO.buildN (new := [(106, .arr 3 Q0 ([] : (List Int))), (105, .arr 29 eBlk ([] : (List Blk)))]) built60 (.cons (Z.int .i64) (.ref 106 rfl (.ref 105 rfl .nil))) (.cons (.cons .nil)) rfl .nil) (J.k (JO.mkErr Try.runUnderlying86 rfl) (J.t (JM.storeAgg rfl rfl rfl rfl rfl rfl Try.sizeOf60) (J.k (JO.assign rfl) (J.fin (Sw.Sub.mk id (.c rfl (.c rfl .nil)) (.box rfl (.c rfl (.c rfl (.c rfl .nil))) (.arr rfl (.arr rfl .nil))) rfl)))))) ?_
   refine W.ret ?_
   obtain rfl := Option.some.inj h
   exact XQ.sub (σ' := ⟨[(2, .ptr 90 0), (3, .v (Enc.err ET) (some (3 : Int)))], [(90, .box 60 [.v Q0 (0 : Int), .v (Enc.sl Q0) ([] : (List Int)), .v (Enc.sl eBlk) ([] : (List Blk))])]⟩) (Sw.Sub.mk (rn [(90, 101)]) (.c rfl (.c rfl .nil)) (.box rfl (.c rfl (.cons (.frz rfl rfl) (.cons (.frz rfl rfl) .nil))) .nil) rfl) (XQ.ret2 hF noR rfl (RV.cellAll rfl rfl (.prm (.one _ _) (.prm (.one _ _) (.one _ _))) Try.isAgg60 Try.sizeOf60) (RV.tmp rfl) .nil rfl)
  ·replace h := cond_f hc6 h
   refine W.condF rfl hc6 ?_
   refine W.skip ?_
   refine W.seq ?_
   refine W.reg (σ' := ⟨[(2, .ptr 101 0), (3, .v (Enc.err ET) (none : Option Int)), (6, .ptr 107 0)], [(101, .box 60 [.v Q0 (0 : Int), .v (Enc.sl Q0) ([] : (List Int)), .v (Enc.sl eBlk) ([] : (List Blk))]), (107, .box 177 [.v (Enc.sl (Enc.int .u8)) v2])]⟩) (J.mv rfl (J.k (JO.build built177 (.cons (Z.sl (Enc.int .u8)) .nil) (.cons rfl (.dir rfl) rfl rfl rfl rfl .nil)) (J.k (JO.boxAgg 107 rfl rfl) (J.k (JO.assign rfl) (J.fin (Sw.Sub.mk id (.c rfl (.c rfl (.c rfl .nil))) (.box rfl (.c rfl (.c rfl (.c rfl .nil))) (.box rfl (.c rfl .nil) .nil)) rfl)))))) ?_
   refine W.seq ?_
   obtain ⟨v7, hv7, h⟩ := bind_e h
   refine W.reg (σ' := ⟨[(2, .ptr 101 0), (3, .v (Enc.err ET) (none : Option Int)), (6, .ptr 107 0), (7, .v (Enc.int .u8) v7.1)], [(101, .box 60 [.v Q0 (0 : Int), .v (Enc.sl Q0) ([] : (List Int)), .v (Enc.sl eBlk) ([] : (List Blk))]), (107, .box 177 [.v (Enc.sl (Enc.int .u8)) v7.2.2])]⟩) (J.mv rfl (J.t (JM.callM (H := [107]) (K := [107]) (swp [(9000, 107)]) (swp_inj _) (fun A => con_frame_taker_byte_io A hv7) Try.call93 (.cons (.dir rfl) .nil) (fun A => (.box rfl .nil)) (fun A => (.box rfl .nil rfl)) (fun _ => rfl) rfl rfl (fun _ => rfl) rfl rfl) (J.mv rfl (J.k (JO.extract rfl rfl) (J.k (JO.extract rfl rfl) (J.k (JO.assign rfl) (J.k (JO.assign rfl) (J.fin (Sw.Sub.mk id (.c rfl (.c rfl (.c rfl (.c rfl .nil)))) (.box rfl (.c rfl (.c rfl (.c rfl .nil))) (.box rfl (.c rfl .nil) .nil)) rfl))))))))) ?_
   refine W.seq ?_
   obtain ⟨v8, hv8, h⟩ := bind_e h
   refine W.reg (σ' := ⟨[(2, .ptr 101 0), (3, .v (Enc.err ET) (none : Option Int)), (6, .ptr 107 0), (7, .v (Enc.int .u8) v7.1), (9, .v (Enc.int .u8) v8.1)], [(101, .box 60 [.v Q0 (0 : Int), .v (Enc.sl Q0) ([] : (List Int)), .v (Enc.sl eBlk) ([] : (List Blk))]), (107, .box 177 [.v (Enc.sl (Enc.int .u8)) v8.2.2])]⟩) (J.mv rfl (J.t (JM.callM (H := [107]) (K := [107]) (swp [(9000, 107)]) (swp_inj _) (fun A => con_frame_taker_byte_io A hv8) Try.call93 (.cons (.dir rfl) .nil) (fun A => (.box rfl .nil)) (fun A => (.box rfl .nil rfl)) (fun _ => rfl) rfl rfl (fun _ => rfl) rfl rfl) (J.mv rfl (J.k (JO.extract rfl rfl) (J.k (JO.extract rfl rfl) (J.k (JO.assign rfl) (J.k (JO.assign rfl) (J.fin (Sw.Sub.mk id (.c rfl (.c rfl (.c rfl (.c rfl (.c rfl .nil))))) (.box rfl (.c rfl (.c rfl (.c rfl .nil))) (.box rfl (.c rfl .nil) .nil)) rfl))))))))) ?_
   refine W.seq ?_
   refine W.reg (σ' := ⟨[(2, .ptr 101 0), (3, .v (Enc.err ET) (none : Option Int)), (6, .ptr 107 0), (7, .v (Enc.int .u8) v7.1), (9, .v (Enc.int .u8) v8.1), (11, .ptr 110 0)], [(101, .box 60 [.v Q0 (0 : Int), .v (Enc.sl Q0) ([] : (List Int)), .v (Enc.sl eBlk) ([] : (List Blk))]), (107, .box 177 [.v (Enc.sl (Enc.int .u8)) v8.2.2]), (110, .box 60 [.v Q0 (sh .shr .u8 v7.1 (4 : Int)), .ref 109, .ref 108]), (109, .arr 3 Q0 ([] : (List Int))), (108, .arr 29 eBlk ([] : (List Blk)))]⟩) (J.mv rfl (J.k (JO.shift (.inr rfl) (by decide) rfl rfl) (J.k (JO.convUp Try.runUnderlying5 Try.runUnderlying3 rfl rfl) (J.k (JO.buildN (new := [(109, .arr 3 Q0 ([] : (List Int))), (108, .arr 29 eBlk ([] : (List Blk)))]) built60 (.cons (Z.int .i64) (.ref 109 rfl (.ref 108 rfl .nil))) (.cons (.cons .nil)) rfl (.cons rfl (.dir rfl) rfl rfl rfl rfl .nil)) (J.k (JO.allocN (new := [(112, .arr 3 Q0 ([] : (List Int))), (111, .arr 29 eBlk ([] : (List Blk)))]) 110 Try.zeroValue60 rfl (.cons (Z.int .i64) (.ref 112 rfl (.ref 111 rfl .nil))) (.cons (.cons .nil)) rfl rfl) (J.t (JM.storeAgg rfl rfl rfl rfl rfl rfl Try.sizeOf60) (J.fin (Sw.Sub.mk id (.c rfl (.c rfl (.c rfl (.c rfl (.c rfl (.c rfl .nil)))))) (.box rfl (.c rfl (.c rfl (.c rfl .nil))) (.box rfl (.c rfl .nil) (.box rfl (.c rfl (.c rfl (.c rfl .nil))) (.arr rfl (.arr rfl .nil))))) rfl)))))))) ?_
   refine W.seq ?_
   refine W.seq ?_
   refine W.reg (σ' := ⟨[(2, .ptr 101 0), (3, .v (Enc.err ET) (none : Option Int)), (6, .ptr 107 0), (9, .v (Enc.int .u8) v8.1), (11, .ptr 110 0), (66, .v (Enc.int .u8) (ar .and .u8 v7.1 (15 : Int))), (67, .v (Enc.int .u8) (0 : Int))], [(101, .box 60 [.v Q0 (0 : Int), .v (Enc.sl Q0) ([] : (List Int)), .v (Enc.sl eBlk) ([] : (List Blk))]), (107, .box 177 [.v (Enc.sl (Enc.int .u8)) v8.2.2]), (110, .box 60 [.v Q0 (sh .shr .u8 v7.1 (4 : Int)), .ref 109, .ref 108]), (109, .arr 3 Q0 ([] : (List Int))), (108, .arr 29 eBlk ([] : (List Blk)))]⟩) (J.mv rfl (J.k (JO.arith rfl rfl rfl) (J.mv rfl (J.fin (Sw.Sub.mk id (.c rfl (.c rfl (.c rfl (.c rfl (.c rfl (.c rfl (.c rfl .nil))))))) (.box rfl (.c rfl (.c rfl (.c rfl .nil))) (.box rfl (.c rfl .nil) (.box rfl (.c rfl (.c rfl (.c rfl .nil))) (.arr rfl (.arr rfl .nil))))) rfl))))) ?_
   obtain ⟨o24, ho24, hb24, hr24⟩ := lp_elim h
   refine W.lp (σs := fun s19 : Int × (List Int) × (List Int) => ⟨[(2, .ptr 101 0), (3, .v (Enc.err ET) (none : Option Int)), (6, .ptr 107 0), (9, .v (Enc.int .u8) v8.1), (11, .ptr 110 0), (66, .v (Enc.int .u8) (ar .and .u8 v7.1 (15 : Int))), (67, .v (Enc.int .u8) s19.1)], [(101, .box 60 [.v Q0 (0 : Int), .v (Enc.sl Q0) ([] : (List Int)), .v (Enc.sl eBlk) ([] : (List Blk))]), (107, .box 177 [.v (Enc.sl (Enc.int .u8)) s19.2.1]), (110, .box 60 [.v Q0 (sh .shr .u8 v7.1 (4 : Int)), .ref 122, .ref 108]), (122, .arr 3 Q0 s19.2.2), (108, .arr 29 eBlk ([] : (List Blk)))]⟩) (fun x25 : (List Int) × (List Int) => ⟨[(2, .ptr 101 0), (3, .v (Enc.err ET) (none : Option Int)), (6, .ptr 107 0), (9, .v (Enc.int .u8) v8.1), (11, .ptr 110 0)], [(101, .box 60 [.v Q0 (0 : Int), .v (Enc.sl Q0) ([] : (List Int)), .v (Enc.sl eBlk) ([] : (List Blk))]), (107, .box 177 [.v (Enc.sl (Enc.int .u8)) x25.1]), (110, .box 60 [.v Q0 (sh .shr .u8 v7.1 (4 : Int)), .ref 122, .ref 108]), (122, .arr 3 Q0 x25.2), (108, .arr 29 eBlk ([] : (List Blk)))]⟩) ho24 (Sw.Sub.mk (rn [(101, 101), (107, 107), (110, 110), (108, 108), (122, 109)]) (.c rfl (.c rfl (.c rfl (.c rfl (.c rfl (.c rfl (.c rfl .nil))))))) (.box rfl (.c rfl (.c rfl (.c rfl .nil))) (.box rfl (.c rfl .nil) (.box rfl (.c rfl (.c rfl (.c rfl .nil))) (.arr rfl (.arr rfl .nil))))) rfl) ?_ ?_
   ·intro x25 hy
    have h := hb24 _ hy
    refine W.seq ?_
    refine W.seq ?_
    obtain ⟨x32, hx, h⟩ := bind_e h
    refine W.reg (σ' := ⟨[(2, .ptr 101 0), (3, .v (Enc.err ET) (none : Option Int)), (6, .ptr 107 0), (11, .ptr 110 0), (104, .v Enc.bool x32)], [(101, .box 60 [.v Q0 (0 : Int), .v (Enc.sl Q0) ([] : (List Int)), .v (Enc.sl eBlk) ([] : (List Blk))]), (107, .box 177 [.v (Enc.sl (Enc.int .u8)) x25.1]), (110, .box 60 [.v Q0 (sh .shr .u8 v7.1 (4 : Int)), .ref 122, .ref 108]), (122, .arr 3 Q0 x25.2), (108, .arr 29 eBlk ([] : (List Blk)))]⟩) ?_ ?_
    ·rcases Bool.eq_false_or_eq_true (cm .gtr v8.1 (32 : Int)) with hc33 | hc33
     ·replace hx := cond_t hc33 hx
      obtain rfl := Option.some.inj hx
      exact (J.mv rfl (J.k (JO.convUp Try.runUnderlying5 Try.runUnderlying3 rfl rfl) (J.k (JO.cmp rfl rfl rfl) (J.mv rfl (J.u 88 hc33 (J.u 88 hc33 (J.u 88 hc33 (J.u 88 hc33 (J.k (JO.pT hc33 rfl rfl) (J.mv rfl (J.u 94 rfl (J.u 94 rfl (J.u 94 rfl (J.u 94 rfl (J.u 94 rfl (J.u 94 rfl (J.u 94 rfl (J.u 94 rfl (J.u 94 rfl (J.k (JO.pT rfl rfl rfl) (J.fin (Sw.Sub.mk id (.c rfl (.c rfl (.c rfl (.c rfl (.c rfl .nil))))) (.box rfl (.c rfl (.c rfl (.c rfl .nil))) (.box rfl (.c rfl .nil) (.box rfl (.c rfl (.c rfl (.c rfl .nil))) (.arr rfl (.arr rfl .nil))))) rfl))))))))))))))))))))))
     ·replace hx := cond_f hc33 hx
      rcases Bool.eq_false_or_eq_true (cm .gtr (x25.2.length : Int) (12 : Int)) with hc34 | hc34
      ·replace hx := cond_t hc34 hx
       obtain rfl := Option.some.inj hx
       exact (J.mv rfl (J.k (JO.convUp Try.runUnderlying5 Try.runUnderlying3 rfl rfl) (J.k (JO.cmp rfl rfl rfl) (J.mv rfl (J.m 88 hc33 (JO.fieldPtr 1 rfl Try.runUnderlying60 rfl Try.sizeOf22 rfl rfl) (J.m 88 hc33 (JO.load rfl rfl rfl Try.isAgg22 Try.sizeOf22) (J.m 88 hc33 (JO.lenR rfl rfl Try.runUnderlying22) (J.m 88 hc33 (JO.cmp rfl rfl rfl) (J.k (JO.pF hc33 rfl rfl) (J.mv rfl (J.u 94 hc34 (J.u 94 hc34 (J.u 94 hc34 (J.u 94 hc34 (J.u 94 hc34 (J.u 94 hc34 (J.u 94 hc34 (J.u 94 hc34 (J.u 94 hc34 (J.k (JO.pT hc34 rfl rfl) (J.fin (Sw.Sub.mk id (.c rfl (.c rfl (.c rfl (.c rfl (.c rfl .nil))))) (.box rfl (.c rfl (.c rfl (.c rfl .nil))) (.box rfl (.c rfl .nil) (.box rfl (.c rfl (.c rfl (.c rfl .nil))) (.arr rfl (.arr rfl .nil))))) rfl))))))))))))))))))))))
      ·replace hx := cond_f hc34 hx
       obtain rfl := Option.some.inj hx
       exact (J.mv rfl (J.k (JO.convUp Try.runUnderlying5 Try.runUnderlying3 rfl rfl) (J.k (JO.cmp rfl rfl rfl) (J.mv rfl (J.m 88 hc33 (JO.fieldPtr 1 rfl Try.runUnderlying60 rfl Try.sizeOf22 rfl rfl) (J.m 88 hc33 (JO.load rfl rfl rfl Try.isAgg22 Try.sizeOf22) (J.m 88 hc33 (JO.lenR rfl rfl Try.runUnderlying22) (J.m 88 hc33 (JO.cmp rfl rfl rfl) (J.k (JO.pF hc33 rfl rfl) (J.mv rfl (J.m 94 hc34 (JO.move rfl) (J.m 94 hc34 (JO.nilPtr rfl) (J.m 94 hc34 (JO.fieldPtr 0 rfl Try.runUnderlying177 rfl Try.sizeOf62 rfl rfl) (J.m 94 hc34 (JO.load rfl rfl rfl Try.isAgg62 Try.sizeOf62) (J.m 94 hc34 (JO.len rfl Try.runUnderlying62) (J.m 94 hc34 (JO.move rfl) (J.m 94 hc34 (JO.convUp Try.runUnderlying5 Try.runUnderlying3 rfl rfl) (J.m 94 hc34 (JO.arith rfl rfl rfl) (J.m 94 hc34 (JO.cmp rfl rfl rfl) (J.k (JO.pF hc34 rfl rfl) (J.fin (Sw.Sub.mk id (.c rfl (.c rfl (.c rfl (.c rfl (.c rfl .nil))))) (.box rfl (.c rfl (.c rfl (.c rfl .nil))) (.box rfl (.c rfl .nil) (.box rfl (.c rfl (.c rfl (.c rfl .nil))) (.arr rfl (.arr rfl .nil))))) rfl))))))))))))))))))))))
    rcases Bool.eq_false_or_eq_true x32 with hc35 | hc35
    ·replace h := cond_t hc35 h
     refine W.condT rfl hc35 ?_
     refine W.seq ?_
     refine W.reg (σ' := ⟨[(2, .ptr 101 0), (3, .v (Enc.err ET) (some (3 : Int)))], [(101, .box 60 [.v Q0 (0 : Int), .ref 130, .ref 129]), (130, .arr 3 Q0 ([] : (List Int))), (129, .arr 29 eBlk ([] : (List Blk)))]⟩) (J.k (JO.buildN (new := [(130, .arr 3 Q0 ([] : (List Int))), (129, .arr 29 eBlk ([] : (List Blk)))]) built60 (.cons (Z.int .i64) (.ref 130 rfl (.ref 129 rfl .nil))) (.cons (.cons .nil)) rfl .nil) (J.k (JO.mkErr Try.runUnderlying86 rfl) (J.t (JM.storeAgg rfl rfl rfl rfl rfl rfl Try.sizeOf60) (J.k (JO.assign rfl) (J.fin (Sw.Sub.mk id (.c rfl (.c rfl .nil)) (.box rfl (.c rfl (.c rfl (.c rfl .nil))) (.arr rfl (.arr rfl .nil))) rfl)))))) ?_
     refine W.ret ?_
     obtain rfl := Option.some.inj h
     exact XQ.sub (σ' := ⟨[(2, .ptr 90 0), (3, .v (Enc.err ET) (some (3 : Int)))], [(90, .box 60 [.v Q0 (0 : Int), .v (Enc.sl Q0) ([] : (List Int)), .v (Enc.sl eBlk) ([] : (List Blk))])]⟩) (Sw.Sub.mk (rn [(90, 101)]) (.c rfl (.c rfl .nil)) (.box rfl (.c rfl (.cons (.frz rfl rfl) (.cons (.frz rfl rfl) .nil))) .nil) rfl) (XQ.ret2 hF noR rfl (RV.cellAll rfl rfl (.prm (.one _ _) (.prm (.one _ _) (.one _ _))) Try.isAgg60 Try.sizeOf60) (RV.tmp rfl) .nil rfl)
    ·replace h := cond_f hc35 h
     refine W.condF rfl hc35 ?_
     refine W.skip ?_
     refine W.seq ?_
     refine W.seq ?_
     obtain ⟨v36, hv36, h⟩ := bind_e h
     refine W.reg (σ' := ⟨[(2, .ptr 101 0), (3, .v (Enc.err ET) (none : Option Int)), (11, .ptr 110 0), (111, .fnc 100 [.pst (Enc.sl (Enc.int .u8)) v36.1, .pst Q0 v36.2])], [(101, .box 60 [.v Q0 (0 : Int), .v (Enc.sl Q0) ([] : (List Int)), .v (Enc.sl eBlk) ([] : (List Blk))]), (110, .box 60 [.v Q0 (sh .shr .u8 v7.1 (4 : Int)), .ref 122, .ref 108]), (122, .arr 3 Q0 x25.2), (108, .arr 29 eBlk ([] : (List Blk)))]⟩) (J.mv rfl (J.k (JO.nilPtr rfl) (J.k (JO.fieldPtr 0 rfl Try.runUnderlying177 rfl Try.sizeOf62 rfl rfl) (J.k (JO.load rfl rfl rfl Try.isAgg62 Try.sizeOf62) (J.k (JO.call0 (con_slices_Chunk_byte_byte hv36) Try.call95 (.cons (.dir rfl) (.cons (.dir rfl) .nil))) (J.fin (Sw.Sub.mk id (.c rfl (.c rfl (.c rfl (.c rfl .nil)))) (.box rfl (.c rfl (.c rfl (.c rfl .nil))) (.box rfl (.c rfl (.c rfl (.c rfl .nil))) (.arr rfl (.arr rfl .nil)))) rfl))))))) ?_
     refine W.block ?_
     obtain ⟨u49, hu49, h⟩ := bind_e h
     obtain ⟨u50, hu50, h⟩ := bind_e h
     obtain ⟨o37, ho37, hb37, hx37⟩ := rg_elim h
     refine W.range (g := [(2, .ptr 101 0), (3, .v (Enc.err ET) (none : Option Int)), (11, .ptr 110 0), (111, .fnc 100 [.pst (Enc.sl (Enc.int .u8)) v36.1, .pst Q0 v36.2])]) (ds0 := [(101, .box 60 [.v Q0 (0 : Int), .v (Enc.sl Q0) ([] : (List Int)), .v (Enc.sl eBlk) ([] : (List Blk))]), (110, .box 60 [.v Q0 (sh .shr .u8 v7.1 (4 : Int)), .ref 122, .ref 137]), (122, .arr 3 Q0 x25.2), (137, .arr 29 eBlk ([] : (List Blk)))]) (L := [101, 110]) (fun z38 : (List Int) => [.v (Enc.sl (Enc.int .u8)) z38]) (fun A37 (s45 : (List Blk)) => [(101, .box 60 [.v Q0 (0 : Int), .v (Enc.sl Q0) ([] : (List Int)), .v (Enc.sl eBlk) ([] : (List Blk))] (some (A37 101))), (110, .box 60 [.v Q0 (sh .shr .u8 v7.1 (4 : Int)), .ref 122, .ref 137] (some (A37 110))), (122, .arr 3 Q0 x25.2), (137, .arr 29 eBlk s45)]) (fun _ (z : Empty) => z.elim) (fun A37 z38 s45 => ⟨[(2, .ptr 101 0), (3, .v (Enc.err ET) (none : Option Int)), (11, .ptr 110 0), (14, .v (Enc.sl (Enc.int .u8)) z38), (111, .fnc 100 [.pst (Enc.sl (Enc.int .u8)) v36.1, .pst Q0 v36.2])], [(101, .box 60 [.v Q0 (0 : Int), .v (Enc.sl Q0) ([] : (List Int)), .v (Enc.sl eBlk) ([] : (List Blk))] (some (A37 101))), (110, .box 60 [.v Q0 (sh .shr .u8 v7.1 (4 : Int)), .ref 122, .ref 137] (some (A37 110))), (122, .arr 3 Q0 x25.2), (137, .arr 29 eBlk s45)]⟩) hF rfl ho37 (Sw.Sub.mk (rn [(101, 101), (110, 110), (137, 108), (122, 122)]) (.c rfl (.c rfl (.c rfl (.c rfl .nil)))) (.box rfl (.c rfl (.c rfl (.c rfl .nil))) (.box rfl (.c rfl (.c rfl (.c rfl .nil))) (.arr rfl (.arr rfl .nil)))) rfl) (fun _ => rfl) rfl (it_100 (chkn_some hu50).1 (small_some hu49) (chkn_some hu50).2) Try.call100 (fun _ => rfl) rfl (fun _ => rfl) rfl (fun _ _ => (.cons rfl (.cons rfl .nil))) (fun _ z => z.elim) ?_ ?_ ?_ ?_
     ·intro A37 S w R l z38 s45
      refine W.reg (σ' := ⟨[(2, .ptr 101 0), (3, .v (Enc.err ET) (none : Option Int)), (11, .ptr 110 0), (14, .v (Enc.sl (Enc.int .u8)) z38), (111, .fnc 100 [.pst (Enc.sl (Enc.int .u8)) v36.1, .pst Q0 v36.2])], [(101, .box 60 [.v Q0 (0 : Int), .v (Enc.sl Q0) ([] : (List Int)), .v (Enc.sl eBlk) ([] : (List Blk))] (some (A37 101))), (110, .box 60 [.v Q0 (sh .shr .u8 v7.1 (4 : Int)), .ref 122, .ref 137] (some (A37 110))), (122, .arr 3 Q0 x25.2), (137, .arr 29 eBlk s45)]⟩) (J.k (JO.assign rfl) (J.fin (Sw.Sub.mk id (.c rfl (.c rfl (.c rfl (.c rfl (.c rfl .nil))))) (.box rfl (.c rfl (.c rfl (.c rfl .nil))) (.box rfl (.c rfl (.c rfl (.c rfl .nil))) (.arr rfl (.arr rfl .nil)))) rfl))) ?_
      exact W.aq (Sw.Sub.mk id (.c rfl (.c rfl (.c rfl (.c rfl (.c rfl .nil))))) (.box rfl (.c rfl (.c rfl (.c rfl .nil))) (.box rfl (.c rfl (.c rfl (.c rfl .nil))) (.arr rfl (.arr rfl .nil)))) rfl)
     ·intro A37 S w R l z38 s45 r37 h
      refine W.block ?_
      obtain ⟨z46, hz46, h⟩ := bind_e h
      obtain ⟨v47, hv47, h⟩ := bind_e h
      refine W.dr2 (σ' := ⟨[(2, .ptr 101 0), (3, .v (Enc.err ET) (none : Option Int)), (11, .ptr 110 0), (111, .fnc 100 [.pst (Enc.sl (Enc.int .u8)) v36.1, .pst Q0 v36.2])], [(101, .box 60 [.v Q0 (0 : Int), .v (Enc.sl Q0) ([] : (List Int)), .v (Enc.sl eBlk) ([] : (List Blk))] (some (A37 101))), (110, .box 60 [.v Q0 (sh .shr .u8 v7.1 (4 : Int)), .ref 122, .ref 138] (some (A37 110))), (122, .arr 3 Q0 x25.2), (138, .arr 29 eBlk v47)]⟩) 6 [0, 1, 0, 4, 12, 28, 63, 127, 255] mixed (by exact (.cons (.none rfl) (JO.fieldPtr 2 rfl Try.runUnderlying60 rfl Try.sizeOf24 rfl rfl) rfl rfl (.cons (.none rfl) (JO.load rfl rfl rfl Try.isAgg24 Try.sizeOf24) rfl rfl (.cons (.none rfl) (JO.move rfl) rfl rfl (.cons (.none rfl) (JO.arrPtr hz46 rfl Try.runUnderlying29) rfl rfl (.cons (.none rfl) (JO.loadPst rfl Try.isAgg29 Try.sizeOf29) rfl rfl (.cons (.none rfl) (JO.lit (e := eBlk) Try.runUnderlying24 Try.sizeOf29 Try.zeroValue29 rfl rfl rfl rfl (.cons (.dir rfl) .nil)) rfl rfl .nil))))))) (by exact (J.t (JM.append 138 hv47 rfl rfl (.sl rfl) Try.runUnderlying24 Try.typeInfo29 Try.sizeOf29 rfl rfl rfl rfl rfl) (J.k (JO.fieldPtr 2 rfl Try.runUnderlying60 rfl Try.sizeOf24 rfl rfl) (J.t (JM.store rfl rfl rfl rfl rfl rfl rfl Try.sizeOf24) (J.fin (Sw.Sub.mk id (.c rfl (.c rfl (.c rfl (.c rfl .nil)))) (.box rfl (.c rfl (.c rfl (.c rfl .nil))) (.box rfl (.c rfl (.c rfl (.c rfl .nil))) (.arr rfl (.arr rfl .nil)))) rfl)))))) rfl (by decide +kernel) (by decide +kernel) (by decide +kernel) (by kernel_rfl) ?_
      refine W.fall ?_
      obtain rfl := Option.some.inj h
      exact W.rnext (Sw.Sub.mk (rn [(101, 101), (110, 110), (137, 138), (122, 122)]) .nil (.box rfl (.c rfl (.c rfl (.c rfl .nil))) (.box rfl (.c rfl (.c rfl (.c rfl .nil))) (.arr rfl (.arr rfl .nil)))) rfl)
     ·intro A37 x48 hy S w R df hF
      have h := hb37 _ hy
      refine W.fall ?_
      refine W.seq ?_
      refine W.reg (σ' := ⟨[(2, .ptr 101 0), (3, .v (Enc.err ET) (none : Option Int))], [(101, .box 60 [.v Q0 (sh .shr .u8 v7.1 (4 : Int)), .ref 122, .ref 137] (some (A37 101))), (122, .arr 3 Q0 x25.2), (137, .arr 29 eBlk x48)]⟩) (J.k (JO.loadAgg rfl rfl rfl Try.isAgg60 Try.sizeOf60) (J.t (JM.storeAgg rfl rfl rfl rfl rfl rfl Try.sizeOf60) (J.k (JO.assignNilE ET) (J.fin (Sw.Sub.mk id (.c rfl (.c rfl .nil)) (.box rfl (.c rfl (.c rfl (.c rfl .nil))) (.arr rfl (.arr rfl .nil))) rfl))))) ?_
      refine W.ret ?_
      obtain rfl := Option.some.inj h
      exact XQ.sub (σ' := ⟨[(2, .ptr 90 0), (3, .v (Enc.err ET) (none : Option Int))], [(90, .box 60 [.v Q0 (sh .shr .u8 v7.1 (4 : Int)), .v (Enc.sl Q0) x25.2, .v (Enc.sl eBlk) x48])]⟩) (Sw.Sub.mk (rn [(90, 101)]) (.c rfl (.c rfl .nil)) (.boxU rfl (.c rfl (.cons (.frz rfl rfl) (.cons (.frz rfl rfl) .nil))) .nil) rfl) (XQ.ret2 hF noR rfl (RV.cellAll rfl rfl (.prm (.one _ _) (.prm (.one _ _) (.one _ _))) Try.isAgg60 Try.sizeOf60) (RV.tmp rfl) .nil rfl)
     ·exact fun _ z => z.elim
   intro s19 r24 h
   refine W.seq ?_
   refine W.reg (σ' := ⟨[(2, .ptr 101 0), (3, .v (Enc.err ET) (none : Option Int)), (6, .ptr 107 0), (9, .v (Enc.int .u8) v8.1), (11, .ptr 110 0), (66, .v (Enc.int .u8) (ar .and .u8 v7.1 (15 : Int))), (67, .v (Enc.int .u8) s19.1), (68, .v Enc.bool (cm .lss s19.1 (ar .and .u8 v7.1 (15 : Int))))], [(101, .box 60 [.v Q0 (0 : Int), .v (Enc.sl Q0) ([] : (List Int)), .v (Enc.sl eBlk) ([] : (List Blk))]), (107, .box 177 [.v (Enc.sl (Enc.int .u8)) s19.2.1]), (110, .box 60 [.v Q0 (sh .shr .u8 v7.1 (4 : Int)), .ref 122, .ref 108]), (122, .arr 3 Q0 s19.2.2), (108, .arr 29 eBlk ([] : (List Blk)))]⟩) (J.k (JO.cmp rfl rfl rfl) (J.fin (Sw.Sub.mk id (.c rfl (.c rfl (.c rfl (.c rfl (.c rfl (.c rfl (.c rfl (.c rfl .nil)))))))) (.box rfl (.c rfl (.c rfl (.c rfl .nil))) (.box rfl (.c rfl .nil) (.box rfl (.c rfl (.c rfl (.c rfl .nil))) (.arr rfl (.arr rfl .nil))))) rfl))) ?_
   refine W.seq ?_
   rcases Bool.eq_false_or_eq_true (cm .lss s19.1 (ar .and .u8 v7.1 (15 : Int))) with hc26 | hc26
   ·replace h := cond_t hc26 h
    refine W.condT rfl hc26 ?_
    refine W.skip ?_
    refine W.seq ?_
    refine W.block ?_
    refine W.seq ?_
    obtain ⟨v27, hv27, h⟩ := bind_e h
    refine W.reg (σ' := ⟨[(2, .ptr 101 0), (3, .v (Enc.err ET) (none : Option Int)), (6, .ptr 107 0), (9, .v (Enc.int .u8) v8.1), (11, .ptr 110 0), (12, .v Q0 v27.1), (13, .v Enc.bool v27.2.1), (66, .v (Enc.int .u8) (ar .and .u8 v7.1 (15 : Int))), (67, .v (Enc.int .u8) s19.1)], [(101, .box 60 [.v Q0 (0 : Int), .v (Enc.sl Q0) ([] : (List Int)), .v (Enc.sl eBlk) ([] : (List Blk))]), (107, .box 177 [.v (Enc.sl (Enc.int .u8)) v27.2.2]), (110, .box 60 [.v Q0 (sh .shr .u8 v7.1 (4 : Int)), .ref 122, .ref 108]), (122, .arr 3 Q0 s19.2.2), (108, .arr 29 eBlk ([] : (List Blk)))]⟩) (J.mv rfl (J.t (JM.callM (H := [107]) (K := [107]) (swp [(9000, 107)]) (swp_inj _) (fun A => con_frame_taker_number_io A hv27) Try.call94 (.cons (.dir rfl) .nil) (fun A => (.box rfl .nil)) (fun A => (.box rfl .nil rfl)) (fun _ => rfl) rfl rfl (fun _ => rfl) rfl rfl) (J.mv rfl (J.k (JO.extract rfl rfl) (J.k (JO.extract rfl rfl) (J.k (JO.assign rfl) (J.k (JO.assign rfl) (J.fin (Sw.Sub.mk id (.c rfl (.c rfl (.c rfl (.c rfl (.c rfl (.c rfl (.c rfl (.c rfl (.c rfl .nil))))))))) (.box rfl (.c rfl (.c rfl (.c rfl .nil))) (.box rfl (.c rfl .nil) (.box rfl (.c rfl (.c rfl (.c rfl .nil))) (.arr rfl (.arr rfl .nil))))) rfl))))))))) ?_
    refine W.seq ?_
    refine W.seq ?_
    refine W.reg (σ' := ⟨[(2, .ptr 101 0), (3, .v (Enc.err ET) (none : Option Int)), (6, .ptr 107 0), (9, .v (Enc.int .u8) v8.1), (11, .ptr 110 0), (12, .v Q0 v27.1), (66, .v (Enc.int .u8) (ar .and .u8 v7.1 (15 : Int))), (67, .v (Enc.int .u8) s19.1), (75, .v Enc.bool (!v27.2.1))], [(101, .box 60 [.v Q0 (0 : Int), .v (Enc.sl Q0) ([] : (List Int)), .v (Enc.sl eBlk) ([] : (List Blk))]), (107, .box 177 [.v (Enc.sl (Enc.int .u8)) v27.2.2]), (110, .box 60 [.v Q0 (sh .shr .u8 v7.1 (4 : Int)), .ref 122, .ref 108]), (122, .arr 3 Q0 s19.2.2), (108, .arr 29 eBlk ([] : (List Blk)))]⟩) (J.mv rfl (J.k (JO.not rfl) (J.fin (Sw.Sub.mk id (.c rfl (.c rfl (.c rfl (.c rfl (.c rfl (.c rfl (.c rfl (.c rfl (.c rfl .nil))))))))) (.box rfl (.c rfl (.c rfl (.c rfl .nil))) (.box rfl (.c rfl .nil) (.box rfl (.c rfl (.c rfl (.c rfl .nil))) (.arr rfl (.arr rfl .nil))))) rfl)))) ?_
    rcases Bool.eq_false_or_eq_true (!v27.2.1) with hc28 | hc28
    ·replace h := cond_t hc28 h
     refine W.condT rfl hc28 ?_
     refine W.seq ?_
     refine W.reg (σ' := ⟨[(2, .ptr 101 0), (3, .v (Enc.err ET) (some (3 : Int)))], [(101, .box 60 [.v Q0 (0 : Int), .ref 127, .ref 126]), (127, .arr 3 Q0 ([] : (List Int))), (126, .arr 29 eBlk ([] : (List Blk)))]⟩) (J.k (JO.buildN (new := [(127, .arr 3 Q0 ([] : (List Int))), (126, .arr 29 eBlk ([] : (List Blk)))]) built60 (.cons (Z.int .i64) (.ref 127 rfl (.ref 126 rfl .nil))) (.cons (.cons .nil)) rfl .nil) (J.k (JO.mkErr Try.runUnderlying86 rfl) (J.t (JM.storeAgg rfl rfl rfl rfl rfl rfl Try.sizeOf60) (J.k (JO.assign rfl) (J.fin (Sw.Sub.mk id (.c rfl (.c rfl .nil)) (.box rfl (.c rfl (.c rfl (.c rfl .nil))) (.arr rfl (.arr rfl .nil))) rfl)))))) ?_
     refine W.ret ?_
     refine XQ.ret ?_
     obtain rfl := Option.some.inj h
     refine XQ.lret fun ho => ?_
     obtain rfl := hr24 _ ho
     exact XQ.sub (σ' := ⟨[(2, .ptr 90 0), (3, .v (Enc.err ET) (some (3 : Int)))], [(90, .box 60 [.v Q0 (0 : Int), .v (Enc.sl Q0) ([] : (List Int)), .v (Enc.sl eBlk) ([] : (List Blk))])]⟩) (Sw.Sub.mk (rn [(90, 101)]) (.c rfl (.c rfl .nil)) (.box rfl (.c rfl (.cons (.frz rfl rfl) (.cons (.frz rfl rfl) .nil))) .nil) rfl) (XQ.ret2 hF noR rfl (RV.cellAll rfl rfl (.prm (.one _ _) (.prm (.one _ _) (.one _ _))) Try.isAgg60 Try.sizeOf60) (RV.tmp rfl) .nil rfl)
    ·replace h := cond_f hc28 h
     refine W.condF rfl hc28 ?_
     refine W.skip ?_
     obtain ⟨v29, hv29, h⟩ := bind_e h
     refine W.reg (σ' := ⟨[(2, .ptr 101 0), (3, .v (Enc.err ET) (none : Option Int)), (6, .ptr 107 0), (9, .v (Enc.int .u8) v8.1), (11, .ptr 110 0), (66, .v (Enc.int .u8) (ar .and .u8 v7.1 (15 : Int))), (67, .v (Enc.int .u8) s19.1)], [(101, .box 60 [.v Q0 (0 : Int), .v (Enc.sl Q0) ([] : (List Int)), .v (Enc.sl eBlk) ([] : (List Blk))]), (107, .box 177 [.v (Enc.sl (Enc.int .u8)) v27.2.2]), (110, .box 60 [.v Q0 (sh .shr .u8 v7.1 (4 : Int)), .ref 128, .ref 108]), (128, .arr 3 Q0 v29), (108, .arr 29 eBlk ([] : (List Blk)))]⟩) (J.k (JO.fieldPtr 1 rfl Try.runUnderlying60 rfl Try.sizeOf22 rfl rfl) (J.k (JO.load rfl rfl rfl Try.isAgg22 Try.sizeOf22) (J.mv rfl (J.k (JO.lit (e := Q0) Try.runUnderlying22 Try.sizeOf3 Try.zeroValue3 rfl rfl rfl rfl (.cons (.dir rfl) .nil)) (J.t (JM.append 128 hv29 rfl rfl (.sl rfl) Try.runUnderlying22 Try.typeInfo3 Try.sizeOf3 rfl rfl rfl rfl rfl) (J.k (JO.fieldPtr 1 rfl Try.runUnderlying60 rfl Try.sizeOf22 rfl rfl) (J.t (JM.store rfl rfl rfl rfl rfl rfl rfl Try.sizeOf22) (J.fin (Sw.Sub.mk id (.c rfl (.c rfl (.c rfl (.c rfl (.c rfl (.c rfl (.c rfl .nil))))))) (.box rfl (.c rfl (.c rfl (.c rfl .nil))) (.box rfl (.c rfl .nil) (.box rfl (.c rfl (.c rfl (.c rfl .nil))) (.arr rfl (.arr rfl .nil))))) rfl))))))))) ?_
     refine W.fall ?_
     refine W.reg (σ' := ⟨[(2, .ptr 101 0), (3, .v (Enc.err ET) (none : Option Int)), (6, .ptr 107 0), (9, .v (Enc.int .u8) v8.1), (11, .ptr 110 0), (66, .v (Enc.int .u8) (ar .and .u8 v7.1 (15 : Int))), (67, .v (Enc.int .u8) (ar .add .u8 s19.1 (1 : Int)))], [(101, .box 60 [.v Q0 (0 : Int), .v (Enc.sl Q0) ([] : (List Int)), .v (Enc.sl eBlk) ([] : (List Blk))]), (107, .box 177 [.v (Enc.sl (Enc.int .u8)) v27.2.2]), (110, .box 60 [.v Q0 (sh .shr .u8 v7.1 (4 : Int)), .ref 128, .ref 108]), (128, .arr 3 Q0 v29), (108, .arr 29 eBlk ([] : (List Blk)))]⟩) (J.k (JO.arith rfl rfl rfl) (J.mv rfl (J.fin (Sw.Sub.mk id (.c rfl (.c rfl (.c rfl (.c rfl (.c rfl (.c rfl (.c rfl .nil))))))) (.box rfl (.c rfl (.c rfl (.c rfl .nil))) (.box rfl (.c rfl .nil) (.box rfl (.c rfl (.c rfl (.c rfl .nil))) (.arr rfl (.arr rfl .nil))))) rfl)))) ?_
     obtain rfl := Option.some.inj h
     exact W.next (Sw.Sub.mk (rn [(101, 101), (107, 107), (110, 110), (108, 108), (122, 128)]) (.c rfl (.c rfl (.c rfl (.c rfl (.c rfl (.c rfl (.c rfl .nil))))))) (.box rfl (.c rfl (.c rfl (.c rfl .nil))) (.box rfl (.c rfl .nil) (.box rfl (.c rfl (.c rfl (.c rfl .nil))) (.arr rfl (.arr rfl .nil))))) rfl)
   ·replace h := cond_f hc26 h
    refine W.condF rfl hc26 ?_
    refine W.exit ?_
    obtain rfl := Option.some.inj h
    exact XQ.brk (Sw.Sub.mk id (.c rfl (.c rfl (.c rfl (.c rfl (.c rfl .nil))))) (.box rfl (.c rfl (.c rfl (.c rfl .nil))) (.box rfl (.c rfl .nil) (.box rfl (.c rfl (.c rfl (.c rfl .nil))) (.arr rfl (.arr rfl .nil))))) rfl)
set_option maxRecDepth 100000 in
set_option maxHeartbeats 4000000 in
theorem con_link_Receive {a0 : (Int × Int)} {a1 : (List Int)} {r : (Int × Int) × (Int × (List Int) × (List Blk)) × Bool × (Bool × (List Int)) × (Option Int)} (h : m_link_Receive a0 a1 = some r) :
  Con Try.prog 43 [.v (Enc.pr Q0 Q0) a0, .v (Enc.sl (Enc.int .u8)) a1] (.tup [.v (Enc.pr Q0 Q0) r.1, .v Q1 r.2.1, .v Enc.bool r.2.2.1, .v (Enc.slN (Enc.int .u8)) r.2.2.2.1, .v (Enc.err ET) r.2.2.2.2]) [] := by
 refine Con.of Try.func43 rfl Try.ntmps43 rfl ?_
 intro S w hF
 unfold m_link_Receive at h
 refine W.seq ?_
 refine W.reg (σ' := ⟨[(1, .v (Enc.sl (Enc.int .u8)) a1), (2, .ptr 101 0), (4, .ptr 102 0), (5, .ptr 103 0), (6, .v Enc.bool false)], [(101, .box 53 [.v Q0 a0.1, .v Q0 a0.2]), (102, .box 53 [.v Q0 (0 : Int), .v Q0 (0 : Int)]), (103, .box 60 [.v Q0 (0 : Int), .v (Enc.sl Q0) ([] : (List Int)), .v (Enc.sl eBlk) ([] : (List Blk))])]⟩) (J.k (JO.box 101 rfl (.prm (.one _ _) (.one _ _)) rfl) (J.k (JO.alloc 102 Try.zeroValue53 rfl (.cons (Z.int .i64) (.cons (Z.int .i64) .nil)) rfl) (J.k (JO.alloc 103 Try.zeroValue60 rfl (.cons (Z.int .i64) (.cons (Z.sl Q0) (.cons (Z.sl eBlk) .nil))) rfl) (J.k (JO.assign rfl) (J.k (JO.assignNilN (Enc.int .u8)) (J.k (JO.assignNilE ET) (J.fin (Sw.Sub.mk id (.c rfl (.c rfl (.c rfl (.c rfl (.c rfl .nil))))) (.box rfl (.c rfl (.c rfl .nil)) (.box rfl (.c rfl (.c rfl .nil)) (.box rfl (.c rfl (.c rfl (.c rfl .nil))) .nil))) rfl)))))))) ?_
 refine W.seq ?_
 refine W.seq ?_
 obtain ⟨v1, hv1, h⟩ := bind_e h
 refine W.reg (σ' := ⟨[(1, .v (Enc.sl (Enc.int .u8)) a1), (2, .ptr 101 0), (4, .ptr 102 0), (5, .ptr 103 0), (6, .v Enc.bool false), (17, .v Enc.bool (!v1))], [(101, .box 53 [.v Q0 a0.1, .v Q0 a0.2]), (102, .box 53 [.v Q0 (0 : Int), .v Q0 (0 : Int)]), (103, .box 60 [.v Q0 (0 : Int), .v (Enc.sl Q0) ([] : (List Int)), .v (Enc.sl eBlk) ([] : (List Blk))])]⟩) (J.k (JO.fieldPtr 0 rfl Try.runUnderlying53 rfl Try.sizeOf3 rfl rfl) (J.k (JO.load rfl rfl rfl Try.isAgg3 Try.sizeOf3) (J.k (JO.fieldPtr 1 rfl Try.runUnderlying53 rfl Try.sizeOf3 rfl rfl) (J.k (JO.load rfl rfl rfl Try.isAgg3 Try.sizeOf3) (J.k (JO.lit (e := Q0) Try.runUnderlying22 Try.sizeOf3 Try.zeroValue3 rfl rfl rfl rfl (.cons (.dir rfl) (.cons (.dir rfl) .nil))) (J.k (JO.call0 (con_link_number hv1) Try.call71 (.cons (.dir rfl) .nil)) (J.k (JO.not rfl) (J.fin (Sw.Sub.mk id (.c rfl (.c rfl (.c rfl (.c rfl (.c rfl (.c rfl .nil)))))) (.box rfl (.c rfl (.c rfl .nil)) (.box rfl (.c rfl (.c rfl .nil)) (.box rfl (.c rfl (.c rfl (.c rfl .nil))) .nil))) rfl))))))))) ?_
 rcases Bool.eq_false_or_eq_true (!v1) with hc2 | hc2
 ·replace h := cond_t hc2 h
  refine W.condT rfl hc2 ?_
  refine W.seq ?_
  refine W.reg (σ' := ⟨[(4, .ptr 102 0), (5, .ptr 103 0), (6, .v Enc.bool false), (7, .v (Enc.slN (Enc.int .u8)) (true, ([] : (List Int)))), (8, .v (Enc.err ET) (some (1 : Int)))], [(102, .box 53 [.v Q0 (0 : Int), .v Q0 (0 : Int)]), (103, .box 60 [.v Q0 (0 : Int), .v (Enc.sl Q0) ([] : (List Int)), .v (Enc.sl eBlk) ([] : (List Blk))])]⟩) (J.k (JO.build built53 (.cons (Z.int .i64) (.cons (Z.int .i64) .nil)) .nil) (J.k (JO.build built60 (.cons (Z.int .i64) (.cons (Z.sl Q0) (.cons (Z.sl eBlk) .nil))) .nil) (J.k (JO.mkErr Try.runUnderlying86 rfl) (J.t (JM.storeAgg rfl rfl rfl rfl rfl rfl Try.sizeOf53) (J.t (JM.storeAgg rfl rfl rfl rfl rfl rfl Try.sizeOf60) (J.k (JO.assign rfl) (J.k (JO.assignNilN (Enc.int .u8)) (J.k (JO.assign rfl) (J.fin (Sw.Sub.mk id (.c rfl (.c rfl (.c rfl (.c rfl (.c rfl .nil))))) (.box rfl (.c rfl (.c rfl .nil)) (.box rfl (.c rfl (.c rfl (.c rfl .nil))) .nil)) rfl)))))))))) ?_
  refine W.ret ?_
  obtain rfl := Option.some.inj h
  exact XQ.sub (σ' := ⟨[(4, .ptr 90 0), (5, .ptr 91 0), (6, .v Enc.bool false), (7, .v (Enc.slN (Enc.int .u8)) (true, ([] : (List Int)))), (8, .v (Enc.err ET) (some (1 : Int)))], [(91, .box 60 [.v Q0 (0 : Int), .v (Enc.sl Q0) ([] : (List Int)), .v (Enc.sl eBlk) ([] : (List Blk))]), (90, .box 53 [.v Q0 (0 : Int), .v Q0 (0 : Int)])]⟩) (Sw.Sub.mk (rn [(90, 102), (91, 103)]) (.c rfl (.c rfl (.c rfl (.c rfl (.c rfl .nil))))) (.box rfl (.c rfl (.c rfl (.c rfl .nil))) (.box rfl (.c rfl (.c rfl .nil)) .nil)) rfl) (XQ.ret5 hF noR rfl (RV.cellAll rfl rfl (.prm (.one _ _) (.one _ _)) Try.isAgg53 Try.sizeOf53) (RV.cellAll rfl rfl (.prm (.one _ _) (.prm (.one _ _) (.one _ _))) Try.isAgg60 Try.sizeOf60) (RV.tmp rfl) (RV.tmp rfl) (RV.tmp rfl) .nil rfl)
 ·replace h := cond_f hc2 h
  refine W.condF rfl hc2 ?_
  refine W.skip ?_
  refine W.seq ?_
  obtain ⟨v3, hv3, h⟩ := bind_e h
  refine W.reg (σ' := ⟨[(2, .ptr 101 0), (4, .ptr 102 0), (5, .ptr 103 0), (6, .v Enc.bool false), (9, .ptr 106 0), (10, .v (Enc.err ET) v3.2)], [(101, .box 53 [.v Q0 a0.1, .v Q0 a0.2]), (102, .box 53 [.v Q0 (0 : Int), .v Q0 (0 : Int)]), (103, .box 60 [.v Q0 (0 : Int), .v (Enc.sl Q0) ([] : (List Int)), .v (Enc.sl eBlk) ([] : (List Blk))]), (106, .box 60 [.v Q0 v3.1.1, .v (Enc.sl Q0) v3.1.2.1, .v (Enc.sl eBlk) v3.1.2.2])]⟩) (J.mv rfl (J.k (JO.call0 (con_frame_Unpack hv3) Try.call75 (.cons (.dir rfl) .nil)) (J.mv rfl (J.k (JO.extract rfl rfl) (J.k (JO.extract rfl rfl) (J.k (JO.alloc 106 Try.zeroValue60 rfl (.cons (Z.int .i64) (.cons (Z.sl Q0) (.cons (Z.sl eBlk) .nil))) rfl) (J.t (JM.storeAll rfl rfl rfl rfl (.prm (.one _ _) (.prm (.one _ _) (.one _ _))) Try.sizeOf60) (J.k (JO.assign rfl) (J.fin (Sw.Sub.mk id (.c rfl (.c rfl (.c rfl (.c rfl (.c rfl (.c rfl .nil)))))) (.box rfl (.c rfl (.c rfl .nil)) (.box rfl (.c rfl (.c rfl .nil)) (.box rfl (.c rfl (.c rfl (.c rfl .nil))) (.box rfl (.c rfl (.c rfl (.c rfl .nil))) .nil)))) rfl)))))))))) ?_
  refine W.seq ?_
  refine W.seq ?_
  obtain ⟨x10, hx, h⟩ := bind_e h
  refine W.mg (σ' := ⟨[(2, .ptr 101 0), (4, .ptr 102 0), (5, .ptr 103 0), (6, .v Enc.bool false), (9, .ptr 106 0), (54, .v Enc.bool x10)], [(101, .box 53 [.v Q0 a0.1, .v Q0 a0.2]), (102, .box 53 [.v Q0 (0 : Int), .v Q0 (0 : Int)]), (103, .box 60 [.v Q0 (0 : Int), .v (Enc.sl Q0) ([] : (List Int)), .v (Enc.sl eBlk) ([] : (List Blk))]), (106, .box 60 [.v Q0 v3.1.1, .v (Enc.sl Q0) v3.1.2.1, .v (Enc.sl eBlk) v3.1.2.2])]⟩) ?_ ?_
  ·intro hk
   rcases Bool.eq_false_or_eq_true (Option.isSome v3.2) with hc11 | hc11
   ·replace hx := cond_t hc11 hx
    obtain rfl := Option.some.inj hx
    exact W.dr2 (σ' := ⟨[(2, .ptr 101 0), (4, .ptr 102 0), (5, .ptr 103 0), (6, .v Enc.bool false), (9, .ptr 106 0), (54, .v Enc.bool true)], [(101, .box 53 [.v Q0 a0.1, .v Q0 a0.2]), (102, .box 53 [.v Q0 (0 : Int), .v Q0 (0 : Int)]), (103, .box 60 [.v Q0 (0 : Int), .v (Enc.sl Q0) ([] : (List Int)), .v (Enc.sl eBlk) ([] : (List Blk))]), (106, .box 60 [.v Q0 v3.1.1, .v (Enc.sl Q0) v3.1.2.1, .v (Enc.sl eBlk) v3.1.2.2])]⟩) 29 [0, 1, 3, 7, 15, 31, 63, 127, 255, 511, 1023, 2047, 4095, 8191, 16383, 32767, 65535, 131071, 16383, 278527, 1048575, 2097151, 4194303, 8388607, 16777215, 33554431, 67108863, 134217727, 268435455] mixed (by exact (.cons (.none rfl) (JO.move rfl) rfl rfl (.cons (.none rfl) (JO.errNe Try.runUnderlying34 rfl) rfl rfl (.cons (.none rfl) (JO.move rfl) rfl rfl (.left (GK.unmet 28 rfl rfl rfl hc11) rfl (.left (GK.unmet 28 rfl rfl rfl hc11) rfl (.left (GK.unmet 28 rfl rfl rfl hc11) rfl (.cons (.none rfl) (JO.pT hc11 rfl rfl) rfl rfl (.cons (.none rfl) (JO.move rfl) rfl rfl (.left (GK.unmet 33 rfl rfl rfl rfl) rfl (.left (GK.unmet 33 rfl rfl rfl rfl) rfl (.left (GK.unmet 33 rfl rfl rfl rfl) rfl (.left (GK.unmet 33 rfl rfl rfl rfl) rfl (.cons (.none rfl) (JO.pT rfl rfl rfl) rfl rfl (.cons (.none rfl) (JO.move rfl) rfl rfl (.left (GK.unmet 39 rfl rfl rfl rfl) rfl (.left (GK.unmet 39 rfl rfl rfl rfl) rfl (.left (GK.unmet 39 rfl rfl rfl rfl) rfl (.left (GK.unmet 39 rfl rfl rfl rfl) rfl (.left (GK.unmet 39 rfl rfl rfl rfl) rfl (.left (GK.unmet 39 rfl rfl rfl rfl) rfl (.left (GK.unmet 39 rfl rfl rfl rfl) rfl (.cons (.none rfl) (JO.pT rfl rfl rfl) rfl rfl (.cons (.none rfl) (JO.move rfl) rfl rfl (.left (GK.unmet 48 rfl rfl rfl rfl) rfl (.left (GK.unmet 48 rfl rfl rfl rfl) rfl (.left (GK.unmet 48 rfl rfl rfl rfl) rfl (.left (GK.unmet 48 rfl rfl rfl rfl) rfl (.left (GK.unmet 48 rfl rfl rfl rfl) rfl (.cons (.none rfl) (JO.pT rfl rfl rfl) rfl rfl .nil)))))))))))))))))))))))))))))) (by exact (J.fin (Sw.Sub.mk id (.c rfl (.c rfl (.c rfl (.c rfl (.c rfl (.c rfl .nil)))))) (.box rfl (.c rfl (.c rfl .nil)) (.box rfl (.c rfl (.c rfl .nil)) (.box rfl (.c rfl (.c rfl (.c rfl .nil))) (.box rfl (.c rfl (.c rfl (.c rfl .nil))) .nil)))) rfl))) rfl (by decide +kernel) (by decide +kernel) (by decide +kernel) (by kernel_rfl) hk
   ·replace hx := cond_f hc11 hx
    rcases Bool.eq_false_or_eq_true (cm .neq v3.1.1 (1 : Int)) with hc12 | hc12
    ·replace hx := cond_t hc12 hx
     obtain rfl := Option.some.inj hx
     exact W.dr2 (σ' := ⟨[(2, .ptr 101 0), (4, .ptr 102 0), (5, .ptr 103 0), (6, .v Enc.bool false), (9, .ptr 106 0), (54, .v Enc.bool true)], [(101, .box 53 [.v Q0 a0.1, .v Q0 a0.2]), (102, .box 53 [.v Q0 (0 : Int), .v Q0 (0 : Int)]), (103, .box 60 [.v Q0 (0 : Int), .v (Enc.sl Q0) ([] : (List Int)), .v (Enc.sl eBlk) ([] : (List Blk))]), (106, .box 60 [.v Q0 v3.1.1, .v (Enc.sl Q0) v3.1.2.1, .v (Enc.sl eBlk) v3.1.2.2])]⟩) 29 [0, 1, 3, 7, 15, 31, 63, 127, 255, 511, 1023, 2047, 4095, 8191, 16383, 32767, 65535, 131071, 16383, 278527, 1048575, 2097151, 4194303, 8388607, 16777215, 33554431, 67108863, 134217727, 268435455] mixed (by exact (.cons (.none rfl) (JO.move rfl) rfl rfl (.cons (.none rfl) (JO.errNe Try.runUnderlying34 rfl) rfl rfl (.cons (.none rfl) (JO.move rfl) rfl rfl (.cons (GK.met 28 rfl rfl rfl hc11) (JO.fieldPtr 0 rfl Try.runUnderlying60 rfl Try.sizeOf3 rfl rfl) rfl rfl (.cons (GK.met 28 rfl rfl rfl hc11) (JO.load rfl rfl rfl Try.isAgg3 Try.sizeOf3) rfl rfl (.cons (GK.met 28 rfl rfl rfl hc11) (JO.cmp rfl rfl rfl) rfl rfl (.cons (.none rfl) (JO.pF hc11 rfl rfl) rfl rfl (.cons (.none rfl) (JO.move rfl) rfl rfl (.left (GK.unmet 33 rfl rfl rfl hc12) rfl (.left (GK.unmet 33 rfl rfl rfl hc12) rfl (.left (GK.unmet 33 rfl rfl rfl hc12) rfl (.left (GK.unmet 33 rfl rfl rfl hc12) rfl (.cons (.none rfl) (JO.pT hc12 rfl rfl) rfl rfl (.cons (.none rfl) (JO.move rfl) rfl rfl (.left (GK.unmet 39 rfl rfl rfl rfl) rfl (.left (GK.unmet 39 rfl rfl rfl rfl) rfl (.left (GK.unmet 39 rfl rfl rfl rfl) rfl (.left (GK.unmet 39 rfl rfl rfl rfl) rfl (.left (GK.unmet 39 rfl rfl rfl rfl) rfl (.left (GK.unmet 39 rfl rfl rfl rfl) rfl (.left (GK.unmet 39 rfl rfl rfl rfl) rfl (.cons (.none rfl) (JO.pT rfl rfl rfl) rfl rfl (.cons (.none rfl) (JO.move rfl) rfl rfl (.left (GK.unmet 48 rfl rfl rfl rfl) rfl (.left (GK.unmet 48 rfl rfl rfl rfl) rfl (.left (GK.unmet 48 rfl rfl rfl rfl) rfl (.left (GK.unmet 48 rfl rfl rfl rfl) rfl (.left (GK.unmet 48 rfl rfl rfl rfl) rfl (.cons (.none rfl) (JO.pT rfl rfl rfl) rfl rfl .nil)))))))))))))))))))))))))))))) (by exact (J.fin (Sw.Sub.mk id (.c rfl (.c rfl (.c rfl (.c rfl (.c rfl (.c rfl .nil)))))) (.box rfl (.c rfl (.c rfl .nil)) (.box rfl (.c rfl (.c rfl .nil)) (.box rfl (.c rfl (.c rfl (.c rfl .nil))) (.box rfl (.c rfl (.c rfl (.c rfl .nil))) .nil)))) rfl))) rfl (by decide +kernel) (by decide +kernel) (by decide +kernel) (by kernel_rfl) hk
    ·replace hx := cond_f hc12 hx
     rcases Bool.eq_false_or_eq_true (cm .lss (v3.1.2.1.length : Int) (3 : Int)) with hc13 | hc13
     ·replace hx := cond_t hc13 hx
      obtain rfl := Option.some.inj hx
      exact W.dr2 (σ' := ⟨[(2, .ptr 101 0), (4, .ptr 102 0), (5, .ptr 103 0), (6, .v Enc.bool false), (9, .ptr 106 0), (54, .v Enc.bool true)], [(101, .box 53 [.v Q0 a0.1, .v Q0 a0.2]), (102, .box 53 [.v Q0 (0 : Int), .v Q0 (0 : Int)]), (103, .box 60 [.v Q0 (0 : Int), .v (Enc.sl Q0) ([] : (List Int)), .v (Enc.sl eBlk) ([] : (List Blk))]), (106, .box 60 [.v Q0 v3.1.1, .v (Enc.sl Q0) v3.1.2.1, .v (Enc.sl eBlk) v3.1.2.2])]⟩) 29 [0, 1, 3, 7, 15, 31, 63, 127, 255, 511, 1023, 2047, 4095, 8191, 16383, 32767, 65535, 131071, 16383, 278527, 1048575, 2097151, 4194303, 8388607, 16777215, 33554431, 67108863, 134217727, 268435455] mixed (by exact (.cons (.none rfl) (JO.move rfl) rfl rfl (.cons (.none rfl) (JO.errNe Try.runUnderlying34 rfl) rfl rfl (.cons (.none rfl) (JO.move rfl) rfl rfl (.cons (GK.met 28 rfl rfl rfl hc11) (JO.fieldPtr 0 rfl Try.runUnderlying60 rfl Try.sizeOf3 rfl rfl) rfl rfl (.cons (GK.met 28 rfl rfl rfl hc11) (JO.load rfl rfl rfl Try.isAgg3 Try.sizeOf3) rfl rfl (.cons (GK.met 28 rfl rfl rfl hc11) (JO.cmp rfl rfl rfl) rfl rfl (.cons (.none rfl) (JO.pF hc11 rfl rfl) rfl rfl (.cons (.none rfl) (JO.move rfl) rfl rfl (.cons (GK.met 33 rfl rfl rfl hc12) (JO.fieldPtr 1 rfl Try.runUnderlying60 rfl Try.sizeOf22 rfl rfl) rfl rfl (.cons (GK.met 33 rfl rfl rfl hc12) (JO.load rfl rfl rfl Try.isAgg22 Try.sizeOf22) rfl rfl (.cons (GK.met 33 rfl rfl rfl hc12) (JO.len rfl Try.runUnderlying22) rfl rfl (.cons (GK.met 33 rfl rfl rfl hc12) (JO.cmp rfl rfl rfl) rfl rfl (.cons (.none rfl) (JO.pF hc12 rfl rfl) rfl rfl (.cons (.none rfl) (JO.move rfl) rfl rfl (.left (GK.unmet 39 rfl rfl rfl hc13) rfl (.left (GK.unmet 39 rfl rfl rfl hc13) rfl (.left (GK.unmet 39 rfl rfl rfl hc13) rfl (.left (GK.unmet 39 rfl rfl rfl hc13) rfl (.left (GK.unmet 39 rfl rfl rfl hc13) rfl (.left (GK.unmet 39 rfl rfl rfl hc13) rfl (.left (GK.unmet 39 rfl rfl rfl hc13) rfl (.cons (.none rfl) (JO.pT hc13 rfl rfl) rfl rfl (.cons (.none rfl) (JO.move rfl) rfl rfl (.left (GK.unmet 48 rfl rfl rfl rfl) rfl (.left (GK.unmet 48 rfl rfl rfl rfl) rfl (.left (GK.unmet 48 rfl rfl rfl rfl) rfl (.left (GK.unmet 48 rfl rfl rfl rfl) rfl (.left (GK.unmet 48 rfl rfl rfl rfl) rfl (.cons (.none rfl) (JO.pT rfl rfl rfl) rfl rfl .nil)))))))))))))))))))))))))))))) (by exact (J.fin (Sw.Sub.mk id (.c rfl (.c rfl (.c rfl (.c rfl (.c rfl (.c rfl .nil)))))) (.box rfl (.c rfl (.c rfl .nil)) (.box rfl (.c rfl (.c rfl .nil)) (.box rfl (.c rfl (.c rfl (.c rfl .nil))) (.box rfl (.c rfl (.c rfl (.c rfl .nil))) .nil)))) rfl))) rfl (by decide +kernel) (by decide +kernel) (by decide +kernel) (by kernel_rfl) hk
     ·replace hx := cond_f hc13 hx
      obtain ⟨z14, hz14, hx⟩ := bind_e hx
      rcases Bool.eq_false_or_eq_true (cm .neq z14 a0.1) with hc15 | hc15
      ·replace hx := cond_t hc15 hx
       obtain rfl := Option.some.inj hx
       exact W.dr2 (σ' := ⟨[(2, .ptr 101 0), (4, .ptr 102 0), (5, .ptr 103 0), (6, .v Enc.bool false), (9, .ptr 106 0), (54, .v Enc.bool true)], [(101, .box 53 [.v Q0 a0.1, .v Q0 a0.2]), (102, .box 53 [.v Q0 (0 : Int), .v Q0 (0 : Int)]), (103, .box 60 [.v Q0 (0 : Int), .v (Enc.sl Q0) ([] : (List Int)), .v (Enc.sl eBlk) ([] : (List Blk))]), (106, .box 60 [.v Q0 v3.1.1, .v (Enc.sl Q0) v3.1.2.1, .v (Enc.sl eBlk) v3.1.2.2])]⟩) 29 [0, 1, 3, 7, 15, 31, 63, 127, 255, 511, 1023, 2047, 4095, 8191, 16383, 32767, 65535, 131071, 16383, 278527, 1048575, 2097151, 4194303, 8388607, 16777215, 33554431, 67108863, 134217727, 268435455] mixed (by exact (.cons (.none rfl) (JO.move rfl) rfl rfl (.cons (.none rfl) (JO.errNe Try.runUnderlying34 rfl) rfl rfl (.cons (.none rfl) (JO.move rfl) rfl rfl (.cons (GK.met 28 rfl rfl rfl hc11) (JO.fieldPtr 0 rfl Try.runUnderlying60 rfl Try.sizeOf3 rfl rfl) rfl rfl (.cons (GK.met 28 rfl rfl rfl hc11) (JO.load rfl rfl rfl Try.isAgg3 Try.sizeOf3) rfl rfl (.cons (GK.met 28 rfl rfl rfl hc11) (JO.cmp rfl rfl rfl) rfl rfl (.cons (.none rfl) (JO.pF hc11 rfl rfl) rfl rfl (.cons (.none rfl) (JO.move rfl) rfl rfl (.cons (GK.met 33 rfl rfl rfl hc12) (JO.fieldPtr 1 rfl Try.runUnderlying60 rfl Try.sizeOf22 rfl rfl) rfl rfl (.cons (GK.met 33 rfl rfl rfl hc12) (JO.load rfl rfl rfl Try.isAgg22 Try.sizeOf22) rfl rfl (.cons (GK.met 33 rfl rfl rfl hc12) (JO.len rfl Try.runUnderlying22) rfl rfl (.cons (GK.met 33 rfl rfl rfl hc12) (JO.cmp rfl rfl rfl) rfl rfl (.cons (.none rfl) (JO.pF hc12 rfl rfl) rfl rfl (.cons (.none rfl) (JO.move rfl) rfl rfl (.cons (GK.met 39 rfl rfl rfl hc13) (JO.fieldPtr 1 rfl Try.runUnderlying60 rfl Try.sizeOf22 rfl rfl) rfl rfl (.cons (GK.met 39 rfl rfl rfl hc13) (JO.load rfl rfl rfl Try.isAgg22 Try.sizeOf22) rfl rfl (.cons (GK.met 39 rfl rfl rfl hc13) (JO.idx hz14 rfl rfl Try.runUnderlying22 Try.sizeOf3) rfl rfl (.cons (GK.met 39 rfl rfl rfl hc13) (JO.loadPst rfl Try.isAgg3 Try.sizeOf3) rfl rfl (.cons (GK.met 39 rfl rfl rfl hc13) (JO.fieldPtr 0 rfl Try.runUnderlying53 rfl Try.sizeOf3 rfl rfl) rfl rfl (.cons (GK.met 39 rfl rfl rfl hc13) (JO.load rfl rfl rfl Try.isAgg3 Try.sizeOf3) rfl rfl (.cons (GK.met 39 rfl rfl rfl hc13) (JO.cmp rfl rfl rfl) rfl rfl (.cons (.none rfl) (JO.pF hc13 rfl rfl) rfl rfl (.cons (.none rfl) (JO.move rfl) rfl rfl (.left (GK.unmet 48 rfl rfl rfl hc15) rfl (.left (GK.unmet 48 rfl rfl rfl hc15) rfl (.left (GK.unmet 48 rfl rfl rfl hc15) rfl (.left (GK.unmet 48 rfl rfl rfl hc15) rfl (.left (GK.unmet 48 rfl rfl rfl hc15) rfl (.cons (.none rfl) (JO.pT hc15 rfl rfl) rfl rfl .nil)))))))))))))))))))))))))))))) (by exact (J.fin (Sw.Sub.mk id (.c rfl (.c rfl (.c rfl (.c rfl (.c rfl (.c rfl .nil)))))) (.box rfl (.c rfl (.c rfl .nil)) (.box rfl (.c rfl (.c rfl .nil)) (.box rfl (.c rfl (.c rfl (.c rfl .nil))) (.box rfl (.c rfl (.c rfl (.c rfl .nil))) .nil)))) rfl))) rfl (by decide +kernel) (by decide +kernel) (by decide +kernel) (by kernel_rfl) hk
      ·replace hx := cond_f hc15 hx
       obtain ⟨z16, hz16, hx⟩ := bind_e hx
       obtain rfl := Option.some.inj hx
       exact W.dr2 (σ' := ⟨[(2, .ptr 101 0), (4, .ptr 102 0), (5, .ptr 103 0), (6, .v Enc.bool false), (9, .ptr 106 0), (54, .v Enc.bool (cm .gtr z16 (15 : Int)))], [(101, .box 53 [.v Q0 a0.1, .v Q0 a0.2]), (102, .box 53 [.v Q0 (0 : Int), .v Q0 (0 : Int)]), (103, .box 60 [.v Q0 (0 : Int), .v (Enc.sl Q0) ([] : (List Int)), .v (Enc.sl eBlk) ([] : (List Blk))]), (106, .box 60 [.v Q0 v3.1.1, .v (Enc.sl Q0) v3.1.2.1, .v (Enc.sl eBlk) v3.1.2.2])]⟩) 29 [0, 1, 3, 7, 15, 31, 63, 127, 255, 511, 1023, 2047, 4095, 8191, 16383, 32767, 65535, 131071, 16383, 278527, 1048575, 2097151, 4194303, 8388607, 16777215, 33554431, 67108863, 134217727, 268435455] mixed (by exact (.cons (.none rfl) (JO.move rfl) rfl rfl (.cons (.none rfl) (JO.errNe Try.runUnderlying34 rfl) rfl rfl (.cons (.none rfl) (JO.move rfl) rfl rfl (.cons (GK.met 28 rfl rfl rfl hc11) (JO.fieldPtr 0 rfl Try.runUnderlying60 rfl Try.sizeOf3 rfl rfl) rfl rfl (.cons (GK.met 28 rfl rfl rfl hc11) (JO.load rfl rfl rfl Try.isAgg3 Try.sizeOf3) rfl rfl (.cons (GK.met 28 rfl rfl rfl hc11) (JO.cmp rfl rfl rfl) rfl rfl (.cons (.none rfl) (JO.pF hc11 rfl rfl) rfl rfl (.cons (.none rfl) (JO.move rfl) rfl rfl (.cons (GK.met 33 rfl rfl rfl hc12) (JO.fieldPtr 1 rfl Try.runUnderlying60 rfl Try.sizeOf22 rfl rfl) rfl rfl (.cons (GK.met 33 rfl rfl rfl hc12) (JO.load rfl rfl rfl Try.isAgg22 Try.sizeOf22) rfl rfl (.cons (GK.met 33 rfl rfl rfl hc12) (JO.len rfl Try.runUnderlying22) rfl rfl (.cons (GK.met 33 rfl rfl rfl hc12) (JO.cmp rfl rfl rfl) rfl rfl (.cons (.none rfl) (JO.pF hc12 rfl rfl) rfl rfl (.cons (.none rfl) (JO.move rfl) rfl rfl (.cons (GK.met 39 rfl rfl rfl hc13) (JO.fieldPtr 1 rfl Try.runUnderlying60 rfl Try.sizeOf22 rfl rfl) rfl rfl (.cons (GK.met 39 rfl rfl rfl hc13) (JO.load rfl rfl rfl Try.isAgg22 Try.sizeOf22) rfl rfl (.cons (GK.met 39 rfl rfl rfl hc13) (JO.idx hz14 rfl rfl Try.runUnderlying22 Try.sizeOf3) rfl rfl (.cons (GK.met 39 rfl rfl rfl hc13) (JO.loadPst rfl Try.isAgg3 Try.sizeOf3) rfl rfl (.cons (GK.met 39 rfl rfl rfl hc13) (JO.fieldPtr 0 rfl Try.runUnderlying53 rfl Try.sizeOf3 rfl rfl) rfl rfl (.cons (GK.met 39 rfl rfl rfl hc13) (JO.load rfl rfl rfl Try.isAgg3 Try.sizeOf3) rfl rfl (.cons (GK.met 39 rfl rfl rfl hc13) (JO.cmp rfl rfl rfl) rfl rfl (.cons (.none rfl) (JO.pF hc13 rfl rfl) rfl rfl (.cons (.none rfl) (JO.move rfl) rfl rfl (.cons (GK.met 48 rfl rfl rfl hc15) (JO.fieldPtr 1 rfl Try.runUnderlying60 rfl Try.sizeOf22 rfl rfl) rfl rfl (.cons (GK.met 48 rfl rfl rfl hc15) (JO.load rfl rfl rfl Try.isAgg22 Try.sizeOf22) rfl rfl (.cons (GK.met 48 rfl rfl rfl hc15) (JO.idx hz16 rfl rfl Try.runUnderlying22 Try.sizeOf3) rfl rfl (.cons (GK.met 48 rfl rfl rfl hc15) (JO.loadPst rfl Try.isAgg3 Try.sizeOf3) rfl rfl (.cons (GK.met 48 rfl rfl rfl hc15) (JO.cmp rfl rfl rfl) rfl rfl (.cons (.none rfl) (JO.pF hc15 rfl rfl) rfl rfl .nil)))))))))))))))))))))))))))))) (by exact (J.fin (Sw.Sub.mk id (.c rfl (.c rfl (.c rfl (.c rfl (.c rfl (.c rfl .nil)))))) (.box rfl (.c rfl (.c rfl .nil)) (.box rfl (.c rfl (.c rfl .nil)) (.box rfl (.c rfl (.c rfl (.c rfl .nil))) (.box rfl (.c rfl (.c rfl (.c rfl .nil))) .nil)))) rfl))) rfl (by decide +kernel) (by decide +kernel) (by decide +kernel) (by kernel_rfl) hk
  rcases Bool.eq_false_or_eq_true x10 with hc17 | hc17
  ·replace h := cond_t hc17 h
   refine W.condT rfl hc17 ?_
   refine W.seq ?_
   refine W.reg (σ' := ⟨[(4, .ptr 102 0), (5, .ptr 103 0), (6, .v Enc.bool false), (7, .v (Enc.slN (Enc.int .u8)) (true, ([] : (List Int)))), (8, .v (Enc.err ET) (none : Option Int))], [(102, .box 53 [.v Q0 a0.1, .v Q0 a0.2]), (103, .box 60 [.v Q0 (0 : Int), .v (Enc.sl Q0) ([] : (List Int)), .v (Enc.sl eBlk) ([] : (List Blk))])]⟩) (J.k (JO.loadAll rfl rfl (.prm (.one _ _) (.one _ _)) Try.isAgg53 Try.sizeOf53) (J.k (JO.build built60 (.cons (Z.int .i64) (.cons (Z.sl Q0) (.cons (Z.sl eBlk) .nil))) .nil) (J.t (JM.storeAll rfl rfl rfl rfl (.prm (.one _ _) (.one _ _)) Try.sizeOf53) (J.t (JM.storeAgg rfl rfl rfl rfl rfl rfl Try.sizeOf60) (J.k (JO.assign rfl) (J.k (JO.assignNilN (Enc.int .u8)) (J.k (JO.assignNilE ET) (J.fin (Sw.Sub.mk id (.c rfl (.c rfl (.c rfl (.c rfl (.c rfl .nil))))) (.box rfl (.c rfl (.c rfl .nil)) (.box rfl (.c rfl (.c rfl (.c rfl .nil))) .nil)) rfl))))))))) ?_
   refine W.ret ?_
   obtain rfl := Option.some.inj h
   exact XQ.sub (σ' := ⟨[(4, .ptr 90 0), (5, .ptr 91 0), (6, .v Enc.bool false), (7, .v (Enc.slN (Enc.int .u8)) (true, ([] : (List Int)))), (8, .v (Enc.err ET) (none : Option Int))], [(91, .box 60 [.v Q0 (0 : Int), .v (Enc.sl Q0) ([] : (List Int)), .v (Enc.sl eBlk) ([] : (List Blk))]), (90, .box 53 [.v Q0 a0.1, .v Q0 a0.2])]⟩) (Sw.Sub.mk (rn [(90, 102), (91, 103)]) (.c rfl (.c rfl (.c rfl (.c rfl (.c rfl .nil))))) (.box rfl (.c rfl (.c rfl (.c rfl .nil))) (.box rfl (.c rfl (.c rfl .nil)) .nil)) rfl) (XQ.ret5 hF noR rfl (RV.cellAll rfl rfl (.prm (.one _ _) (.one _ _)) Try.isAgg53 Try.sizeOf53) (RV.cellAll rfl rfl (.prm (.one _ _) (.prm (.one _ _) (.one _ _))) Try.isAgg60 Try.sizeOf60) (RV.tmp rfl) (RV.tmp rfl) (RV.tmp rfl) .nil rfl)
  ·replace h := cond_f hc17 h
   refine W.condF rfl hc17 ?_
   refine W.skip ?_
   refine W.seq ?_
   refine W.seq ?_
   obtain ⟨x20, hx, h⟩ := bind_e h
   refine W.mg (σ' := ⟨[(2, .ptr 101 0), (4, .ptr 102 0), (5, .ptr 103 0), (6, .v Enc.bool false), (9, .ptr 106 0), (68, .v Enc.bool x20)], [(101, .box 53 [.v Q0 a0.1, .v Q0 a0.2]), (102, .box 53 [.v Q0 (0 : Int), .v Q0 (0 : Int)]), (103, .box 60 [.v Q0 (0 : Int), .v (Enc.sl Q0) ([] : (List Int)), .v (Enc.sl eBlk) ([] : (List Blk))]), (106, .box 60 [.v Q0 v3.1.1, .v (Enc.sl Q0) v3.1.2.1, .v (Enc.sl eBlk) v3.1.2.2])]⟩) ?_ ?_
   ·intro hk
    obtain ⟨z21, hz21, hx⟩ := bind_e hx
    rcases Bool.eq_false_or_eq_true (cm .eql z21 a0.2) with hc22 | hc22
    ·replace hx := cond_t hc22 hx
     obtain rfl := Option.some.inj hx
     exact W.dr2 (σ' := ⟨[(2, .ptr 101 0), (4, .ptr 102 0), (5, .ptr 103 0), (6, .v Enc.bool false), (9, .ptr 106 0), (68, .v Enc.bool (cm .lss a0.2 (2147483647 : Int)))], [(101, .box 53 [.v Q0 a0.1, .v Q0 a0.2]), (102, .box 53 [.v Q0 (0 : Int), .v Q0 (0 : Int)]), (103, .box 60 [.v Q0 (0 : Int), .v (Enc.sl Q0) ([] : (List Int)), .v (Enc.sl eBlk) ([] : (List Blk))]), (106, .box 60 [.v Q0 v3.1.1, .v (Enc.sl Q0) v3.1.2.1, .v (Enc.sl eBlk) v3.1.2.2])]⟩) 12 [0, 1, 3, 7, 0, 16, 63, 127, 255, 511, 1023, 2047] mixed (by exact (.cons (.none rfl) (JO.fieldPtr 1 rfl Try.runUnderlying60 rfl Try.sizeOf22 rfl rfl) rfl rfl (.cons (.none rfl) (JO.load rfl rfl rfl Try.isAgg22 Try.sizeOf22) rfl rfl (.cons (.none rfl) (JO.idx hz21 rfl rfl Try.runUnderlying22 Try.sizeOf3) rfl rfl (.cons (.none rfl) (JO.loadPst rfl Try.isAgg3 Try.sizeOf3) rfl rfl (.cons (.none rfl) (JO.fieldPtr 1 rfl Try.runUnderlying53 rfl Try.sizeOf3 rfl rfl) rfl rfl (.cons (.none rfl) (JO.load rfl rfl rfl Try.isAgg3 Try.sizeOf3) rfl rfl (.cons (.none rfl) (JO.cmp rfl rfl rfl) rfl rfl (.cons (.none rfl) (JO.move rfl) rfl rfl (.cons (GK.met 64 rfl rfl rfl hc22) (JO.fieldPtr 1 rfl Try.runUnderlying53 rfl Try.sizeOf3 rfl rfl) rfl rfl (.cons (GK.met 64 rfl rfl rfl hc22) (JO.load rfl rfl rfl Try.isAgg3 Try.sizeOf3) rfl rfl (.cons (GK.met 64 rfl rfl rfl hc22) (JO.cmp rfl rfl rfl) rfl rfl (.cons (.none rfl) (JO.pT hc22 rfl rfl) rfl rfl .nil))))))))))))) (by exact (J.fin (Sw.Sub.mk id (.c rfl (.c rfl (.c rfl (.c rfl (.c rfl (.c rfl .nil)))))) (.box rfl (.c rfl (.c rfl .nil)) (.box rfl (.c rfl (.c rfl .nil)) (.box rfl (.c rfl (.c rfl (.c rfl .nil))) (.box rfl (.c rfl (.c rfl (.c rfl .nil))) .nil)))) rfl))) rfl (by decide +kernel) (by decide +kernel) (by decide +kernel) (by kernel_rfl) hk
    ·replace hx := cond_f hc22 hx
     obtain rfl := Option.some.inj hx
     exact W.dr2 (σ' := ⟨[(2, .ptr 101 0), (4, .ptr 102 0), (5, .ptr 103 0), (6, .v Enc.bool false), (9, .ptr 106 0), (68, .v Enc.bool false)], [(101, .box 53 [.v Q0 a0.1, .v Q0 a0.2]), (102, .box 53 [.v Q0 (0 : Int), .v Q0 (0 : Int)]), (103, .box 60 [.v Q0 (0 : Int), .v (Enc.sl Q0) ([] : (List Int)), .v (Enc.sl eBlk) ([] : (List Blk))]), (106, .box 60 [.v Q0 v3.1.1, .v (Enc.sl Q0) v3.1.2.1, .v (Enc.sl eBlk) v3.1.2.2])]⟩) 12 [0, 1, 3, 7, 0, 16, 63, 127, 255, 511, 1023, 2047] mixed (by exact (.cons (.none rfl) (JO.fieldPtr 1 rfl Try.runUnderlying60 rfl Try.sizeOf22 rfl rfl) rfl rfl (.cons (.none rfl) (JO.load rfl rfl rfl Try.isAgg22 Try.sizeOf22) rfl rfl (.cons (.none rfl) (JO.idx hz21 rfl rfl Try.runUnderlying22 Try.sizeOf3) rfl rfl (.cons (.none rfl) (JO.loadPst rfl Try.isAgg3 Try.sizeOf3) rfl rfl (.cons (.none rfl) (JO.fieldPtr 1 rfl Try.runUnderlying53 rfl Try.sizeOf3 rfl rfl) rfl rfl (.cons (.none rfl) (JO.load rfl rfl rfl Try.isAgg3 Try.sizeOf3) rfl rfl (.cons (.none rfl) (JO.cmp rfl rfl rfl) rfl rfl (.cons (.none rfl) (JO.move rfl) rfl rfl (.left (GK.unmet 64 rfl rfl rfl hc22) rfl (.left (GK.unmet 64 rfl rfl rfl hc22) rfl (.left (GK.unmet 64 rfl rfl rfl hc22) rfl (.cons (.none rfl) (JO.pF hc22 rfl rfl) rfl rfl .nil))))))))))))) (by exact (J.fin (Sw.Sub.mk id (.c rfl (.c rfl (.c rfl (.c rfl (.c rfl (.c rfl .nil)))))) (.box rfl (.c rfl (.c rfl .nil)) (.box rfl (.c rfl (.c rfl .nil)) (.box rfl (.c rfl (.c rfl (.c rfl .nil))) (.box rfl (.c rfl (.c rfl (.c rfl .nil))) .nil)))) rfl))) rfl (by decide +kernel) (by decide +kernel) (by decide +kernel) (by kernel_rfl) hk
   obtain ⟨k26, hk26, h⟩ := jp_elim h
   refine W.jn (fun x27 : Bool × Int × Int × (List Int) × (List Blk) => ⟨[(2, .ptr 101 0), (4, .ptr 102 0), (5, .ptr 103 0), (6, .v Enc.bool x27.1)], [(101, .box 53 [.v Q0 a0.1, .v Q0 x27.2.1]), (102, .box 53 [.v Q0 (0 : Int), .v Q0 (0 : Int)]), (103, .box 60 [.v Q0 x27.2.2.1, .v (Enc.sl Q0) x27.2.2.2.1, .v (Enc.sl eBlk) x27.2.2.2.2])]⟩) (fun x => k26 x = some r) rfl ?_ ?_ ?_
   ·intro x27 h
    rw [hk26] at h
    refine W.seq ?_
    obtain ⟨v30, hv30, h⟩ := bind_e h
    obtain ⟨u31, hu31, h⟩ := bind_e h
    refine W.reg (σ' := ⟨[(2, .ptr 101 0), (4, .ptr 102 0), (5, .ptr 103 0), (6, .v Enc.bool x27.1), (7, .v (Enc.slN (Enc.int .u8)) (false, v30.1)), (8, .v (Enc.err ET) v30.2)], [(101, .box 53 [.v Q0 a0.1, .v Q0 x27.2.1]), (102, .box 53 [.v Q0 (0 : Int), .v Q0 (0 : Int)]), (103, .box 60 [.v Q0 x27.2.2.1, .v (Enc.sl Q0) x27.2.2.2.1, .v (Enc.sl eBlk) x27.2.2.2.2])]⟩) (J.k (JO.fieldPtr 0 rfl Try.runUnderlying53 rfl Try.sizeOf3 rfl rfl) (J.k (JO.load rfl rfl rfl Try.isAgg3 Try.sizeOf3) (J.k (JO.fieldPtr 1 rfl Try.runUnderlying53 rfl Try.sizeOf3 rfl rfl) (J.k (JO.load rfl rfl rfl Try.isAgg3 Try.sizeOf3) (J.k (JO.lit (e := Q0) Try.runUnderlying22 Try.sizeOf3 Try.zeroValue3 rfl rfl rfl rfl (.cons (.dir rfl) (.cons (.dir rfl) .nil))) (J.k (JO.build built60 (.cons (Z.int .i64) (.cons (Z.sl Q0) (.cons (Z.sl eBlk) .nil))) (.cons rfl (.dir rfl) rfl rfl rfl rfl (.cons rfl (.dir rfl) rfl rfl rfl rfl .nil))) (J.k (JO.call0 (con_frame_Pack hv30) Try.call74 (.cons (.agg rfl (.same (.same (.same .nil))) (.prm (.one _ _) (.prm (.one _ _) (.one _ _))) rfl) .nil)) (J.mv rfl (J.k (JO.extract rfl rfl) (J.k (JO.extract rfl rfl) (J.k (JO.neN (ne1_some hu31) (JO.assign rfl)) (J.k (JO.assign rfl) (J.fin (Sw.Sub.mk id (.c rfl (.c rfl (.c rfl (.c rfl (.c rfl (.c rfl .nil)))))) (.box rfl (.c rfl (.c rfl .nil)) (.box rfl (.c rfl (.c rfl .nil)) (.box rfl (.c rfl (.c rfl (.c rfl .nil))) .nil))) rfl)))))))))))))) ?_
    refine W.seq ?_
    refine W.dr2 (σ' := ⟨[(4, .ptr 102 0), (5, .ptr 103 0), (6, .v Enc.bool x27.1), (7, .v (Enc.slN (Enc.int .u8)) (false, v30.1)), (8, .v (Enc.err ET) v30.2)], [(102, .box 53 [.v Q0 ((a0.1, x27.2.1).1), .v Q0 ((a0.1, x27.2.1).2)]), (103, .box 60 [.v Q0 x27.2.2.1, .v (Enc.sl Q0) x27.2.2.2.1, .v (Enc.sl eBlk) x27.2.2.2.2])]⟩) 10 [0, 0, 0, 0, 0, 1, 35, 103, 239, 511] mixed (by exact (.cons (.none rfl) (JO.loadAll rfl rfl (.prm (.one _ _) (.one _ _)) Try.isAgg53 Try.sizeOf53) rfl rfl (.cons (.none rfl) (JO.loadAll rfl rfl (.prm (.one _ _) (.prm (.one _ _) (.one _ _))) Try.isAgg60 Try.sizeOf60) rfl rfl (.cons (.none rfl) (JO.move rfl) rfl rfl (.cons (.none rfl) (JO.move rfl) rfl rfl (.cons (.none rfl) (JO.move rfl) rfl rfl (JP2.storeAll (.none rfl) rfl rfl rfl rfl (.prm (.one _ _) (.one _ _)) Try.sizeOf53 (JP2.storeAll (.none rfl) rfl rfl rfl rfl (.prm (.one _ _) (.prm (.one _ _) (.one _ _))) Try.sizeOf60 (.cons (.none rfl) (JO.assign rfl) rfl rfl (.cons (.none rfl) (JO.assign rfl) rfl rfl (.cons (.none rfl) (JO.assign rfl) rfl rfl .nil))))))))))) (by exact (J.fin (Sw.Sub.mk id (.c rfl (.c rfl (.c rfl (.c rfl (.c rfl .nil))))) (.box rfl (.c rfl (.c rfl .nil)) (.box rfl (.c rfl (.c rfl (.c rfl .nil))) .nil)) rfl))) rfl (by decide +kernel) (by decide +kernel) (by decide +kernel) (by kernel_rfl) ?_
    refine W.ret ?_
    obtain rfl := Option.some.inj h
    exact XQ.sub (σ' := ⟨[(4, .ptr 90 0), (5, .ptr 91 0), (6, .v Enc.bool x27.1), (7, .v (Enc.slN (Enc.int .u8)) (false, v30.1)), (8, .v (Enc.err ET) v30.2)], [(91, .box 60 [.v Q0 x27.2.2.1, .v (Enc.sl Q0) x27.2.2.2.1, .v (Enc.sl eBlk) x27.2.2.2.2]), (90, .box 53 [.v Q0 ((a0.1, x27.2.1).1), .v Q0 ((a0.1, x27.2.1).2)])]⟩) (Sw.Sub.mk (rn [(90, 102), (91, 103)]) (.c rfl (.c rfl (.c rfl (.c rfl (.c rfl .nil))))) (.box rfl (.c rfl (.c rfl (.c rfl .nil))) (.box rfl (.c rfl (.c rfl .nil)) .nil)) rfl) (XQ.ret5 hF noR rfl (RV.cellAll rfl rfl (.prm (.one _ _) (.one _ _)) Try.isAgg53 Try.sizeOf53) (RV.cellAll rfl rfl (.prm (.one _ _) (.prm (.one _ _) (.one _ _))) Try.isAgg60 Try.sizeOf60) (RV.tmp rfl) (RV.tmp rfl) (RV.tmp rfl) .nil rfl)
   ·intro hc23
    replace h := cond_t hc23 h
    refine W.seq ?_
    obtain ⟨z28, hz28, h⟩ := bind_e h
    obtain ⟨v29, hv29, h⟩ := bind_e h
    refine W.dr2 (σ' := ⟨[(2, .ptr 101 0), (4, .ptr 102 0), (5, .ptr 103 0), (6, .v Enc.bool true)], [(101, .box 53 [.v Q0 a0.1, .v Q0 a0.2]), (102, .box 53 [.v Q0 (0 : Int), .v Q0 (0 : Int)]), (103, .box 60 [.v Q0 z28, .v (Enc.sl Q0) v29, .v (Enc.sl eBlk) v3.1.2.2])]⟩) 12 [0, 1, 3, 7, 0, 16, 48, 0, 128, 511, 1023, 2047] mixed (by exact (.cons (.none rfl) (JO.fieldPtr 1 rfl Try.runUnderlying60 rfl Try.sizeOf22 rfl rfl) rfl rfl (.cons (.none rfl) (JO.load rfl rfl rfl Try.isAgg22 Try.sizeOf22) rfl rfl (.cons (.none rfl) (JO.idx hz28 rfl rfl Try.runUnderlying22 Try.sizeOf3) rfl rfl (.cons (.none rfl) (JO.loadPst rfl Try.isAgg3 Try.sizeOf3) rfl rfl (.cons (.none rfl) (JO.fieldPtr 1 rfl Try.runUnderlying60 rfl Try.sizeOf22 rfl rfl) rfl rfl (.cons (.none rfl) (JO.load rfl rfl rfl Try.isAgg22 Try.sizeOf22) rfl rfl (.cons (.none rfl) (JO.slLo hv29 rfl rfl Try.runUnderlying22 Try.sizeOf3) rfl rfl (.cons (.none rfl) (JO.fieldPtr 2 rfl Try.runUnderlying60 rfl Try.sizeOf24 rfl rfl) rfl rfl (.cons (.none rfl) (JO.load rfl rfl rfl Try.isAgg24 Try.sizeOf24) rfl rfl (.cons (.none rfl) (JO.build built60 (.cons (Z.int .i64) (.cons (Z.sl Q0) (.cons (Z.sl eBlk) .nil))) (.cons rfl (.dir rfl) rfl rfl rfl rfl (.cons rfl (.dir rfl) rfl rfl rfl rfl (.cons rfl (.dir rfl) rfl rfl rfl rfl .nil)))) rfl rfl (JP2.storeAgg (.none rfl) rfl rfl rfl rfl rfl rfl Try.sizeOf60 (.cons (.none rfl) (JO.assign rfl) rfl rfl .nil))))))))))))) (by exact (J.fin (Sw.Sub.mk id (.c rfl (.c rfl (.c rfl (.c rfl .nil)))) (.box rfl (.c rfl (.c rfl .nil)) (.box rfl (.c rfl (.c rfl .nil)) (.box rfl (.c rfl (.c rfl (.c rfl .nil))) .nil))) rfl))) rfl (by decide +kernel) (by decide +kernel) (by decide +kernel) (by kernel_rfl) ?_
    refine W.reg (σ' := ⟨[(2, .ptr 101 0), (4, .ptr 102 0), (5, .ptr 103 0), (6, .v Enc.bool true)], [(101, .box 53 [.v Q0 a0.1, .v Q0 (ar .add .i64 a0.2 (1 : Int))]), (102, .box 53 [.v Q0 (0 : Int), .v Q0 (0 : Int)]), (103, .box 60 [.v Q0 z28, .v (Enc.sl Q0) v29, .v (Enc.sl eBlk) v3.1.2.2])]⟩) (J.k (JO.fieldPtr 1 rfl Try.runUnderlying53 rfl Try.sizeOf3 rfl rfl) (J.k (JO.load rfl rfl rfl Try.isAgg3 Try.sizeOf3) (J.k (JO.arith rfl rfl rfl) (J.k (JO.fieldPtr 1 rfl Try.runUnderlying53 rfl Try.sizeOf3 rfl rfl) (J.t (JM.store rfl rfl rfl rfl rfl rfl rfl Try.sizeOf3) (J.fin (Sw.Sub.mk id (.c rfl (.c rfl (.c rfl (.c rfl .nil)))) (.box rfl (.c rfl (.c rfl .nil)) (.box rfl (.c rfl (.c rfl .nil)) (.box rfl (.c rfl (.c rfl (.c rfl .nil))) .nil))) rfl))))))) ?_
    exact W.jfall h (Sw.Sub.mk id (.c rfl (.c rfl (.c rfl (.c rfl .nil)))) (.box rfl (.c rfl (.c rfl .nil)) (.box rfl (.c rfl (.c rfl .nil)) (.box rfl (.c rfl (.c rfl (.c rfl .nil))) .nil))) rfl)
   ·intro hc23
    replace h := cond_f hc23 h
    refine W.skip ?_
    exact W.jfall h (Sw.Sub.mk id (.c rfl (.c rfl (.c rfl (.c rfl .nil)))) (.box rfl (.c rfl (.c rfl .nil)) (.box rfl (.c rfl (.c rfl .nil)) (.box rfl (.c rfl (.c rfl (.c rfl .nil))) .nil))) rfl)
set_option maxRecDepth 100000 in
set_option maxHeartbeats 4000000 in
theorem con_link_Heard {a0 : (Int × Int × Q3)} {a1 : (List Int)} {r : (Int × Int × Q3) × (Option Int)} (h : m_link_Heard a0 a1 = some r) :
  Con Try.prog 44 [.v Q2 a0, .v (Enc.sl (Enc.int .u8)) a1] (.tup [.v Q2 r.1, .v (Enc.err ET) r.2]) [] := by
 refine Con.of Try.func44 rfl Try.ntmps44 rfl ?_
 intro S w hF
 unfold m_link_Heard at h
 refine W.seq ?_
 refine W.reg (σ' := ⟨[(1, .v (Enc.sl (Enc.int .u8)) a1), (2, .ptr 101 0), (4, .ptr 102 0)], [(101, .box 51 [.v Q0 a0.1, .v Q0 a0.2.1, .v (Enc.sl Q1) a0.2.2]), (102, .box 51 [.v Q0 (0 : Int), .v Q0 (0 : Int), .v (Enc.sl Q1) ([] : Q3)])]⟩) (J.k (JO.box 101 rfl (.prm (.one _ _) (.prm (.one _ _) (.one _ _))) rfl) (J.k (JO.alloc 102 Try.zeroValue51 rfl (.cons (Z.int .i64) (.cons (Z.int .i64) (.cons (Z.sl Q1) .nil))) rfl) (J.k (JO.assignNilE ET) (J.fin (Sw.Sub.mk id (.c rfl (.c rfl (.c rfl .nil))) (.box rfl (.c rfl (.c rfl (.c rfl .nil))) (.box rfl (.c rfl (.c rfl (.c rfl .nil))) .nil)) rfl))))) ?_
 refine W.seq ?_
 refine W.seq ?_
 obtain ⟨v1, hv1, h⟩ := bind_e h
 refine W.reg (σ' := ⟨[(1, .v (Enc.sl (Enc.int .u8)) a1), (2, .ptr 101 0), (4, .ptr 102 0), (6, .v (Enc.err ET) v1)], [(101, .box 51 [.v Q0 a0.1, .v Q0 a0.2.1, .v (Enc.sl Q1) a0.2.2]), (102, .box 51 [.v Q0 (0 : Int), .v Q0 (0 : Int), .v (Enc.sl Q1) ([] : Q3)])]⟩) (J.k (JO.loadAll rfl rfl (.prm (.one _ _) (.prm (.one _ _) (.one _ _))) Try.isAgg51 Try.sizeOf51) (J.k (JO.call0 (con_link_Check hv1) Try.call38 (.cons (.dir rfl) .nil)) (J.k (JO.assign rfl) (J.fin (Sw.Sub.mk id (.c rfl (.c rfl (.c rfl (.c rfl .nil)))) (.box rfl (.c rfl (.c rfl (.c rfl .nil))) (.box rfl (.c rfl (.c rfl (.c rfl .nil))) .nil)) rfl))))) ?_
 refine W.seq ?_
 refine W.reg (σ' := ⟨[(1, .v (Enc.sl (Enc.int .u8)) a1), (2, .ptr 101 0), (4, .ptr 102 0), (6, .v (Enc.err ET) v1), (13, .v Enc.bool (Option.isSome v1))], [(101, .box 51 [.v Q0 a0.1, .v Q0 a0.2.1, .v (Enc.sl Q1) a0.2.2]), (102, .box 51 [.v Q0 (0 : Int), .v Q0 (0 : Int), .v (Enc.sl Q1) ([] : Q3)])]⟩) (J.mv rfl (J.k (JO.errNe Try.runUnderlying34 rfl) (J.fin (Sw.Sub.mk id (.c rfl (.c rfl (.c rfl (.c rfl (.c rfl .nil))))) (.box rfl (.c rfl (.c rfl (.c rfl .nil))) (.box rfl (.c rfl (.c rfl (.c rfl .nil))) .nil)) rfl)))) ?_
 rcases Bool.eq_false_or_eq_true (Option.isSome v1) with hc2 | hc2
 ·replace h := cond_t hc2 h
  refine W.condT rfl hc2 ?_
  refine W.seq ?_
  refine W.reg (σ' := ⟨[(4, .ptr 102 0), (5, .v (Enc.err ET) v1)], [(102, .box 51 [.v Q0 (0 : Int), .v Q0 (0 : Int), .v (Enc.sl Q1) ([] : Q3)])]⟩) (J.k (JO.build built51 (.cons (Z.int .i64) (.cons (Z.int .i64) (.cons (Z.sl Q1) .nil))) .nil) (J.mv rfl (J.t (JM.storeAgg rfl rfl rfl rfl rfl rfl Try.sizeOf51) (J.k (JO.assign rfl) (J.fin (Sw.Sub.mk id (.c rfl (.c rfl .nil)) (.box rfl (.c rfl (.c rfl (.c rfl .nil))) .nil) rfl)))))) ?_
  refine W.ret ?_
  obtain rfl := Option.some.inj h
  exact XQ.sub (σ' := ⟨[(4, .ptr 90 0), (5, .v (Enc.err ET) v1)], [(90, .box 51 [.v Q0 (0 : Int), .v Q0 (0 : Int), .v (Enc.sl Q1) ([] : Q3)])]⟩) (Sw.Sub.mk (rn [(90, 102)]) (.c rfl (.c rfl .nil)) (.box rfl (.c rfl (.c rfl (.c rfl .nil))) .nil) rfl) (XQ.ret2 hF noR rfl (RV.cellAll rfl rfl (.prm (.one _ _) (.prm (.one _ _) (.one _ _))) Try.isAgg51 Try.sizeOf51) (RV.tmp rfl) .nil rfl)
 ·replace h := cond_f hc2 h
  refine W.condF rfl hc2 ?_
  refine W.skip ?_
  refine W.seq ?_
  obtain ⟨v3, hv3, h⟩ := bind_e h
  refine W.reg (σ' := ⟨[(1, .v (Enc.sl (Enc.int .u8)) a1), (2, .ptr 101 0), (4, .ptr 102 0)], [(101, .box 51 [.v Q0 a0.1, .v Q0 a0.2.1, .ref 104000]), (102, .box 51 [.v Q0 (0 : Int), .v Q0 (0 : Int), .v (Enc.sl Q1) ([] : Q3)]), (104000, .arr 60 Q1 v3)]⟩) (J.k (JO.fieldPtr 2 rfl Try.runUnderlying51 rfl Try.sizeOf49 rfl rfl) (J.k (JO.load rfl rfl rfl Try.isAgg49 Try.sizeOf49) (J.k (JO.call 104000 (con_link_queue hv3) Try.call40 (.cons (.dir rfl) .nil) rfl) (J.k (JO.fieldPtr 2 rfl Try.runUnderlying51 rfl Try.sizeOf49 rfl rfl) (J.t (JM.store rfl rfl rfl rfl rfl rfl rfl Try.sizeOf49) (J.fin (Sw.Sub.mk id (.c rfl (.c rfl (.c rfl .nil))) (.box rfl (.c rfl (.c rfl (.c rfl .nil))) (.box rfl (.c rfl (.c rfl (.c rfl .nil))) (.arr rfl .nil))) rfl))))))) ?_
  refine W.seq ?_
  obtain ⟨v4, hv4, h⟩ := bind_e h
  refine W.reg (σ' := ⟨[(2, .ptr 101 0), (4, .ptr 102 0), (7, .ptr 106 0), (8, .v (Enc.err ET) v4.2)], [(101, .box 51 [.v Q0 a0.1, .v Q0 a0.2.1, .ref 104000]), (102, .box 51 [.v Q0 (0 : Int), .v Q0 (0 : Int), .v (Enc.sl Q1) ([] : Q3)]), (106, .box 60 [.v Q0 v4.1.1, .v (Enc.sl Q0) v4.1.2.1, .v (Enc.sl eBlk) v4.1.2.2]), (104000, .arr 60 Q1 v3)]⟩) (J.mv rfl (J.k (JO.call0 (con_frame_Unpack hv4) Try.call75 (.cons (.dir rfl) .nil)) (J.mv rfl (J.k (JO.extract rfl rfl) (J.k (JO.extract rfl rfl) (J.k (JO.alloc 106 Try.zeroValue60 rfl (.cons (Z.int .i64) (.cons (Z.sl Q0) (.cons (Z.sl eBlk) .nil))) rfl) (J.t (JM.storeAll rfl rfl rfl rfl (.prm (.one _ _) (.prm (.one _ _) (.one _ _))) Try.sizeOf60) (J.k (JO.assign rfl) (J.fin (Sw.Sub.mk id (.c rfl (.c rfl (.c rfl (.c rfl .nil)))) (.box rfl (.c rfl (.c rfl (.c rfl .nil))) (.box rfl (.c rfl (.c rfl (.c rfl .nil))) (.box rfl (.c rfl (.c rfl (.c rfl .nil))) (.arr rfl .nil)))) rfl)))))))))) ?_
  refine W.seq ?_
  refine W.seq ?_
  obtain ⟨x10, hx, h⟩ := bind_e h
  refine W.mg (σ' := ⟨[(2, .ptr 101 0), (4, .ptr 102 0), (7, .ptr 106 0), (52, .v Enc.bool x10)], [(101, .box 51 [.v Q0 a0.1, .v Q0 a0.2.1, .ref 104000]), (102, .box 51 [.v Q0 (0 : Int), .v Q0 (0 : Int), .v (Enc.sl Q1) ([] : Q3)]), (106, .box 60 [.v Q0 v4.1.1, .v (Enc.sl Q0) v4.1.2.1, .v (Enc.sl eBlk) v4.1.2.2]), (104000, .arr 60 Q1 v3)]⟩) ?_ ?_
  ·intro hk
   rcases Bool.eq_false_or_eq_true (Option.isSome v4.2) with hc11 | hc11
   ·replace hx := cond_t hc11 hx
    obtain rfl := Option.some.inj hx
    exact W.dr2 (σ' := ⟨[(2, .ptr 101 0), (4, .ptr 102 0), (7, .ptr 106 0), (52, .v Enc.bool true)], [(101, .box 51 [.v Q0 a0.1, .v Q0 a0.2.1, .ref 104000]), (102, .box 51 [.v Q0 (0 : Int), .v Q0 (0 : Int), .v (Enc.sl Q1) ([] : Q3)]), (106, .box 60 [.v Q0 v4.1.1, .v (Enc.sl Q0) v4.1.2.1, .v (Enc.sl eBlk) v4.1.2.2]), (104000, .arr 60 Q1 v3)]⟩) 28 [0, 1, 3, 7, 15, 31, 63, 127, 255, 511, 1023, 2047, 4095, 8191, 16383, 32767, 65535, 131071, 262143, 524287, 1048575, 2097151, 4194303, 8388607, 1048575, 17825791, 67108863, 134217727] mixed (by exact (.cons (.none rfl) (JO.move rfl) rfl rfl (.cons (.none rfl) (JO.errNe Try.runUnderlying34 rfl) rfl rfl (.cons (.none rfl) (JO.move rfl) rfl rfl (.left (GK.unmet 27 rfl rfl rfl hc11) rfl (.left (GK.unmet 27 rfl rfl rfl hc11) rfl (.left (GK.unmet 27 rfl rfl rfl hc11) rfl (.cons (.none rfl) (JO.pT hc11 rfl rfl) rfl rfl (.cons (.none rfl) (JO.move rfl) rfl rfl (.left (GK.unmet 32 rfl rfl rfl rfl) rfl (.left (GK.unmet 32 rfl rfl rfl rfl) rfl (.left (GK.unmet 32 rfl rfl rfl rfl) rfl (.left (GK.unmet 32 rfl rfl rfl rfl) rfl (.cons (.none rfl) (JO.pT rfl rfl rfl) rfl rfl (.cons (.none rfl) (JO.move rfl) rfl rfl (.left (GK.unmet 38 rfl rfl rfl rfl) rfl (.left (GK.unmet 38 rfl rfl rfl rfl) rfl (.left (GK.unmet 38 rfl rfl rfl rfl) rfl (.left (GK.unmet 38 rfl rfl rfl rfl) rfl (.cons (.none rfl) (JO.pT rfl rfl rfl) rfl rfl (.cons (.none rfl) (JO.move rfl) rfl rfl (.left (GK.unmet 44 rfl rfl rfl rfl) rfl (.left (GK.unmet 44 rfl rfl rfl rfl) rfl (.left (GK.unmet 44 rfl rfl rfl rfl) rfl (.left (GK.unmet 44 rfl rfl rfl rfl) rfl (.left (GK.unmet 44 rfl rfl rfl rfl) rfl (.left (GK.unmet 44 rfl rfl rfl rfl) rfl (.left (GK.unmet 44 rfl rfl rfl rfl) rfl (.cons (.none rfl) (JO.pT rfl rfl rfl) rfl rfl .nil))))))))))))))))))))))))))))) (by exact (J.fin (Sw.Sub.mk id (.c rfl (.c rfl (.c rfl (.c rfl .nil)))) (.box rfl (.c rfl (.c rfl (.c rfl .nil))) (.box rfl (.c rfl (.c rfl (.c rfl .nil))) (.box rfl (.c rfl (.c rfl (.c rfl .nil))) (.arr rfl .nil)))) rfl))) rfl (by decide +kernel) (by decide +kernel) (by decide +kernel) (by kernel_rfl) hk
   ·replace hx := cond_f hc11 hx
    rcases Bool.eq_false_or_eq_true (cm .neq v4.1.1 (0 : Int)) with hc12 | hc12
    ·replace hx := cond_t hc12 hx
     obtain rfl := Option.some.inj hx
     exact W.dr2 (σ' := ⟨[(2, .ptr 101 0), (4, .ptr 102 0), (7, .ptr 106 0), (52, .v Enc.bool true)], [(101, .box 51 [.v Q0 a0.1, .v Q0 a0.2.1, .ref 104000]), (102, .box 51 [.v Q0 (0 : Int), .v Q0 (0 : Int), .v (Enc.sl Q1) ([] : Q3)]), (106, .box 60 [.v Q0 v4.1.1, .v (Enc.sl Q0) v4.1.2.1, .v (Enc.sl eBlk) v4.1.2.2]), (104000, .arr 60 Q1 v3)]⟩) 28 [0, 1, 3, 7, 15, 31, 63, 127, 255, 511, 1023, 2047, 4095, 8191, 16383, 32767, 65535, 131071, 262143, 524287, 1048575, 2097151, 4194303, 8388607, 1048575, 17825791, 67108863, 134217727] mixed (by exact (.cons (.none rfl) (JO.move rfl) rfl rfl (.cons (.none rfl) (JO.errNe Try.runUnderlying34 rfl) rfl rfl (.cons (.none rfl) (JO.move rfl) rfl rfl (.cons (GK.met 27 rfl rfl rfl hc11) (JO.fieldPtr 0 rfl Try.runUnderlying60 rfl Try.sizeOf3 rfl rfl) rfl rfl (.cons (GK.met 27 rfl rfl rfl hc11) (JO.load rfl rfl rfl Try.isAgg3 Try.sizeOf3) rfl rfl (.cons (GK.met 27 rfl rfl rfl hc11) (JO.cmp rfl rfl rfl) rfl rfl (.cons (.none rfl) (JO.pF hc11 rfl rfl) rfl rfl (.cons (.none rfl) (JO.move rfl) rfl rfl (.left (GK.unmet 32 rfl rfl rfl hc12) rfl (.left (GK.unmet 32 rfl rfl rfl hc12) rfl (.left (GK.unmet 32 rfl rfl rfl hc12) rfl (.left (GK.unmet 32 rfl rfl rfl hc12) rfl (.cons (.none rfl) (JO.pT hc12 rfl rfl) rfl rfl (.cons (.none rfl) (JO.move rfl) rfl rfl (.left (GK.unmet 38 rfl rfl rfl rfl) rfl (.left (GK.unmet 38 rfl rfl rfl rfl) rfl (.left (GK.unmet 38 rfl rfl rfl rfl) rfl (.left (GK.unmet 38 rfl rfl rfl rfl) rfl (.cons (.none rfl) (JO.pT rfl rfl rfl) rfl rfl (.cons (.none rfl) (JO.move rfl) rfl rfl (.left (GK.unmet 44 rfl rfl rfl rfl) rfl (.left (GK.unmet 44 rfl rfl rfl rfl) rfl (.left (GK.unmet 44 rfl rfl rfl rfl) rfl (.left (GK.unmet 44 rfl rfl rfl rfl) rfl (.left (GK.unmet 44 rfl rfl rfl rfl) rfl (.left (GK.unmet 44 rfl rfl rfl rfl) rfl (.left (GK.unmet 44 rfl rfl rfl rfl) rfl (.cons (.none rfl) (JO.pT rfl rfl rfl) rfl rfl .nil))))))))))))))))))))))))))))) (by exact (J.fin (Sw.Sub.mk id (.c rfl (.c rfl (.c rfl (.c rfl .nil)))) (.box rfl (.c rfl (.c rfl (.c rfl .nil))) (.box rfl (.c rfl (.c rfl (.c rfl .nil))) (.box rfl (.c rfl (.c rfl (.c rfl .nil))) (.arr rfl .nil)))) rfl))) rfl (by decide +kernel) (by decide +kernel) (by decide +kernel) (by kernel_rfl) hk
    ·replace hx := cond_f hc12 hx
     rcases Bool.eq_false_or_eq_true (cm .neq (v4.1.2.1.length : Int) (2 : Int)) with hc13 | hc13
     ·replace hx := cond_t hc13 hx
      obtain rfl := Option.some.inj hx
      exact W.dr2 (σ' := ⟨[(2, .ptr 101 0), (4, .ptr 102 0), (7, .ptr 106 0), (52, .v Enc.bool true)], [(101, .box 51 [.v Q0 a0.1, .v Q0 a0.2.1, .ref 104000]), (102, .box 51 [.v Q0 (0 : Int), .v Q0 (0 : Int), .v (Enc.sl Q1) ([] : Q3)]), (106, .box 60 [.v Q0 v4.1.1, .v (Enc.sl Q0) v4.1.2.1, .v (Enc.sl eBlk) v4.1.2.2]), (104000, .arr 60 Q1 v3)]⟩) 28 [0, 1, 3, 7, 15, 31, 63, 127, 255, 511, 1023, 2047, 4095, 8191, 16383, 32767, 65535, 131071, 262143, 524287, 1048575, 2097151, 4194303, 8388607, 1048575, 17825791, 67108863, 134217727] mixed (by exact (.cons (.none rfl) (JO.move rfl) rfl rfl (.cons (.none rfl) (JO.errNe Try.runUnderlying34 rfl) rfl rfl (.cons (.none rfl) (JO.move rfl) rfl rfl (.cons (GK.met 27 rfl rfl rfl hc11) (JO.fieldPtr 0 rfl Try.runUnderlying60 rfl Try.sizeOf3 rfl rfl) rfl rfl (.cons (GK.met 27 rfl rfl rfl hc11) (JO.load rfl rfl rfl Try.isAgg3 Try.sizeOf3) rfl rfl (.cons (GK.met 27 rfl rfl rfl hc11) (JO.cmp rfl rfl rfl) rfl rfl (.cons (.none rfl) (JO.pF hc11 rfl rfl) rfl rfl (.cons (.none rfl) (JO.move rfl) rfl rfl (.cons (GK.met 32 rfl rfl rfl hc12) (JO.fieldPtr 1 rfl Try.runUnderlying60 rfl Try.sizeOf22 rfl rfl) rfl rfl (.cons (GK.met 32 rfl rfl rfl hc12) (JO.load rfl rfl rfl Try.isAgg22 Try.sizeOf22) rfl rfl (.cons (GK.met 32 rfl rfl rfl hc12) (JO.len rfl Try.runUnderlying22) rfl rfl (.cons (GK.met 32 rfl rfl rfl hc12) (JO.cmp rfl rfl rfl) rfl rfl (.cons (.none rfl) (JO.pF hc12 rfl rfl) rfl rfl (.cons (.none rfl) (JO.move rfl) rfl rfl (.left (GK.unmet 38 rfl rfl rfl hc13) rfl (.left (GK.unmet 38 rfl rfl rfl hc13) rfl (.left (GK.unmet 38 rfl rfl rfl hc13) rfl (.left (GK.unmet 38 rfl rfl rfl hc13) rfl (.cons (.none rfl) (JO.pT hc13 rfl rfl) rfl rfl (.cons (.none rfl) (JO.move rfl) rfl rfl (.left (GK.unmet 44 rfl rfl rfl rfl) rfl (.left (GK.unmet 44 rfl rfl rfl rfl) rfl (.left (GK.unmet 44 rfl rfl rfl rfl) rfl (.left (GK.unmet 44 rfl rfl rfl rfl) rfl (.left (GK.unmet 44 rfl rfl rfl rfl) rfl (.left (GK.unmet 44 rfl rfl rfl rfl) rfl (.left (GK.unmet 44 rfl rfl rfl rfl) rfl (.cons (.none rfl) (JO.pT rfl rfl rfl) rfl rfl .nil))))))))))))))))))))))))))))) (by exact (J.fin (Sw.Sub.mk id (.c rfl (.c rfl (.c rfl (.c rfl .nil)))) (.box rfl (.c rfl (.c rfl (.c rfl .nil))) (.box rfl (.c rfl (.c rfl (.c rfl .nil))) (.box rfl (.c rfl (.c rfl (.c rfl .nil))) (.arr rfl .nil)))) rfl))) rfl (by decide +kernel) (by decide +kernel) (by decide +kernel) (by kernel_rfl) hk
     ·replace hx := cond_f hc13 hx
      rcases Bool.eq_false_or_eq_true (cm .gtr (v4.1.2.2.length : Int) (0 : Int)) with hc14 | hc14
      ·replace hx := cond_t hc14 hx
       obtain rfl := Option.some.inj hx
       exact W.dr2 (σ' := ⟨[(2, .ptr 101 0), (4, .ptr 102 0), (7, .ptr 106 0), (52, .v Enc.bool true)], [(101, .box 51 [.v Q0 a0.1, .v Q0 a0.2.1, .ref 104000]), (102, .box 51 [.v Q0 (0 : Int), .v Q0 (0 : Int), .v (Enc.sl Q1) ([] : Q3)]), (106, .box 60 [.v Q0 v4.1.1, .v (Enc.sl Q0) v4.1.2.1, .v (Enc.sl eBlk) v4.1.2.2]), (104000, .arr 60 Q1 v3)]⟩) 28 [0, 1, 3, 7, 15, 31, 63, 127, 255, 511, 1023, 2047, 4095, 8191, 16383, 32767, 65535, 131071, 262143, 524287, 1048575, 2097151, 4194303, 8388607, 1048575, 17825791, 67108863, 134217727] mixed (by exact (.cons (.none rfl) (JO.move rfl) rfl rfl (.cons (.none rfl) (JO.errNe Try.runUnderlying34 rfl) rfl rfl (.cons (.none rfl) (JO.move rfl) rfl rfl (.cons (GK.met 27 rfl rfl rfl hc11) (JO.fieldPtr 0 rfl Try.runUnderlying60 rfl Try.sizeOf3 rfl rfl) rfl rfl (.cons (GK.met 27 rfl rfl rfl hc11) (JO.load rfl rfl rfl Try.isAgg3 Try.sizeOf3) rfl rfl (.cons (GK.met 27 rfl rfl rfl hc11) (JO.cmp rfl rfl rfl) rfl rfl (.cons (.none rfl) (JO.pF hc11 rfl rfl) rfl rfl (.cons (.none rfl) (JO.move rfl) rfl rfl (.cons (GK.met 32 rfl rfl rfl hc12) (JO.fieldPtr 1 rfl Try.runUnderlying60 rfl Try.sizeOf22 rfl rfl) rfl rfl (.cons (GK.met 32 rfl rfl rfl hc12) (JO.load rfl rfl rfl Try.isAgg22 Try.sizeOf22) rfl rfl (.cons (GK.met 32 rfl rfl rfl hc12) (JO.len rfl Try.runUnderlying22) rfl rfl (.cons (GK.met 32 rfl rfl rfl hc12) (JO.cmp rfl rfl rfl) rfl rfl (.cons (.none rfl) (JO.pF hc12 rfl rfl) rfl rfl (.cons (.none rfl) (JO.move rfl) rfl rfl (.cons (GK.met 38 rfl rfl rfl hc13) (JO.fieldPtr 2 rfl Try.runUnderlying60 rfl Try.sizeOf24 rfl rfl) rfl rfl (.cons (GK.met 38 rfl rfl rfl hc13) (JO.load rfl rfl rfl Try.isAgg24 Try.sizeOf24) rfl rfl (.cons (GK.met 38 rfl rfl rfl hc13) (JO.len rfl Try.runUnderlying24) rfl rfl (.cons (GK.met 38 rfl rfl rfl hc13) (JO.cmp rfl rfl rfl) rfl rfl (.cons (.none rfl) (JO.pF hc13 rfl rfl) rfl rfl (.cons (.none rfl) (JO.move rfl) rfl rfl (.left (GK.unmet 44 rfl rfl rfl hc14) rfl (.left (GK.unmet 44 rfl rfl rfl hc14) rfl (.left (GK.unmet 44 rfl rfl rfl hc14) rfl (.left (GK.unmet 44 rfl rfl rfl hc14) rfl (.left (GK.unmet 44 rfl rfl rfl hc14) rfl (.left (GK.unmet 44 rfl rfl rfl hc14) rfl (.left (GK.unmet 44 rfl rfl rfl hc14) rfl (.cons (.none rfl) (JO.pT hc14 rfl rfl) rfl rfl .nil))))))))))))))))))))))))))))) (by exact (J.fin (Sw.Sub.mk id (.c rfl (.c rfl (.c rfl (.c rfl .nil)))) (.box rfl (.c rfl (.c rfl (.c rfl .nil))) (.box rfl (.c rfl (.c rfl (.c rfl .nil))) (.box rfl (.c rfl (.c rfl (.c rfl .nil))) (.arr rfl .nil)))) rfl))) rfl (by decide +kernel) (by decide +kernel) (by decide +kernel) (by kernel_rfl) hk
      ·replace hx := cond_f hc14 hx
       obtain ⟨z15, hz15, hx⟩ := bind_e hx
       obtain rfl := Option.some.inj hx
       exact W.dr2 (σ' := ⟨[(2, .ptr 101 0), (4, .ptr 102 0), (7, .ptr 106 0), (52, .v Enc.bool (cm .neq z15 a0.1))], [(101, .box 51 [.v Q0 a0.1, .v Q0 a0.2.1, .ref 104000]), (102, .box 51 [.v Q0 (0 : Int), .v Q0 (0 : Int), .v (Enc.sl Q1) ([] : Q3)]), (106, .box 60 [.v Q0 v4.1.1, .v (Enc.sl Q0) v4.1.2.1, .v (Enc.sl eBlk) v4.1.2.2]), (104000, .arr 60 Q1 v3)]⟩) 28 [0, 1, 3, 7, 15, 31, 63, 127, 255, 511, 1023, 2047, 4095, 8191, 16383, 32767, 65535, 131071, 262143, 524287, 1048575, 2097151, 4194303, 8388607, 1048575, 17825791, 67108863, 134217727] mixed (by exact (.cons (.none rfl) (JO.move rfl) rfl rfl (.cons (.none rfl) (JO.errNe Try.runUnderlying34 rfl) rfl rfl (.cons (.none rfl) (JO.move rfl) rfl rfl (.cons (GK.met 27 rfl rfl rfl hc11) (JO.fieldPtr 0 rfl Try.runUnderlying60 rfl Try.sizeOf3 rfl rfl) rfl rfl (.cons (GK.met 27 rfl rfl rfl hc11) (JO.load rfl rfl rfl Try.isAgg3 Try.sizeOf3) rfl rfl (.cons (GK.met 27 rfl rfl rfl hc11) (JO.cmp rfl rfl rfl) rfl rfl (.cons (.none rfl) (JO.pF hc11 rfl rfl) rfl rfl (.cons (.none rfl) (JO.move rfl) rfl rfl (.cons (GK.met 32 rfl rfl rfl hc12) (JO.fieldPtr 1 rfl Try.runUnderlying60 rfl Try.sizeOf22 rfl rfl) rfl rfl (.cons (GK.met 32 rfl rfl rfl hc12) (JO.load rfl rfl rfl Try.isAgg22 Try.sizeOf22) rfl rfl (.cons (GK.met 32 rfl rfl rfl hc12) (JO.len rfl Try.runUnderlying22) rfl rfl (.cons (GK.met 32 rfl rfl rfl hc12) (JO.cmp rfl rfl rfl) rfl rfl (.cons (.none rfl) (JO.pF hc12 rfl rfl) rfl rfl (.cons (.none rfl) (JO.move rfl) rfl rfl (.cons (GK.met 38 rfl rfl rfl hc13) (JO.fieldPtr 2 rfl Try.runUnderlying60 rfl Try.sizeOf24 rfl rfl) rfl rfl (.cons (GK.met 38 rfl rfl rfl hc13) (JO.load rfl rfl rfl Try.isAgg24 Try.sizeOf24) rfl rfl (.cons (GK.met 38 rfl rfl rfl hc13) (JO.len rfl Try.runUnderlying24) rfl rfl (.cons (GK.met 38 rfl rfl rfl hc13) (JO.cmp rfl rfl rfl) rfl rfl (.cons (.none rfl) (JO.pF hc13 rfl rfl) rfl rfl (.cons (.none rfl) (JO.move rfl) rfl rfl (.cons (GK.met 44 rfl rfl rfl hc14) (JO.fieldPtr 1 rfl Try.runUnderlying60 rfl Try.sizeOf22 rfl rfl) rfl rfl (.cons (GK.met 44 rfl rfl rfl hc14) (JO.load rfl rfl rfl Try.isAgg22 Try.sizeOf22) rfl rfl (.cons (GK.met 44 rfl rfl rfl hc14) (JO.idx hz15 rfl rfl Try.runUnderlying22 Try.sizeOf3) rfl rfl (.cons (GK.met 44 rfl rfl rfl hc14) (JO.loadPst rfl Try.isAgg3 Try.sizeOf3) rfl rfl (.cons (GK.met 44 rfl rfl rfl hc14) (JO.fieldPtr 0 rfl Try.runUnderlying51 rfl Try.sizeOf3 rfl rfl) rfl rfl (.cons (GK.met 44 rfl rfl rfl hc14) (JO.load rfl rfl rfl Try.isAgg3 Try.sizeOf3) rfl rfl (.cons (GK.met 44 rfl rfl rfl hc14) (JO.cmp rfl rfl rfl) rfl rfl (.cons (.none rfl) (JO.pF hc14 rfl rfl) rfl rfl .nil))))))))))))))))))))))))))))) (by exact (J.fin (Sw.Sub.mk id (.c rfl (.c rfl (.c rfl (.c rfl .nil)))) (.box rfl (.c rfl (.c rfl (.c rfl .nil))) (.box rfl (.c rfl (.c rfl (.c rfl .nil))) (.box rfl (.c rfl (.c rfl (.c rfl .nil))) (.arr rfl .nil)))) rfl))) rfl (by decide +kernel) (by decide +kernel) (by decide +kernel) (by kernel_rfl) hk
  rcases Bool.eq_false_or_eq_true x10 with hc16 | hc16
  ·replace h := cond_t hc16 h
   refine W.condT rfl hc16 ?_
   refine W.seq ?_
   refine W.reg (σ' := ⟨[(4, .ptr 102 0), (5, .v (Enc.err ET) (none : Option Int))], [(102, .box 51 [.v Q0 a0.1, .v Q0 a0.2.1, .ref 104000]), (104000, .arr 60 Q1 v3)]⟩) (J.k (JO.loadAgg rfl rfl rfl Try.isAgg51 Try.sizeOf51) (J.t (JM.storeAgg rfl rfl rfl rfl rfl rfl Try.sizeOf51) (J.k (JO.assignNilE ET) (J.fin (Sw.Sub.mk id (.c rfl (.c rfl .nil)) (.box rfl (.c rfl (.c rfl (.c rfl .nil))) (.arr rfl .nil)) rfl))))) ?_
   refine W.ret ?_
   obtain rfl := Option.some.inj h
   exact XQ.sub (σ' := ⟨[(4, .ptr 90 0), (5, .v (Enc.err ET) (none : Option Int))], [(90, .box 51 [.v Q0 a0.1, .v Q0 a0.2.1, .v (Enc.sl Q1) v3])]⟩) (Sw.Sub.mk (rn [(90, 102)]) (.c rfl (.c rfl .nil)) (.box rfl (.c rfl (.c rfl (.cons (.frz rfl rfl) .nil))) .nil) rfl) (XQ.ret2 hF noR rfl (RV.cellAll rfl rfl (.prm (.one _ _) (.prm (.one _ _) (.one _ _))) Try.isAgg51 Try.sizeOf51) (RV.tmp rfl) .nil rfl)
  ·replace h := cond_f hc16 h
   refine W.condF rfl hc16 ?_
   refine W.skip ?_
   refine W.seq ?_
   refine W.seq ?_
   obtain ⟨z17, hz17, h⟩ := bind_e h
   refine W.dr2 (σ' := ⟨[(2, .ptr 101 0), (4, .ptr 102 0), (7, .ptr 106 0), (9, .v Q0 (ar .sub .i64 z17 a0.2.1))], [(101, .box 51 [.v Q0 a0.1, .v Q0 a0.2.1, .ref 104000]), (102, .box 51 [.v Q0 (0 : Int), .v Q0 (0 : Int), .v (Enc.sl Q1) ([] : Q3)]), (106, .box 60 [.v Q0 v4.1.1, .v (Enc.sl Q0) v4.1.2.1, .v (Enc.sl eBlk) v4.1.2.2]), (104000, .arr 60 Q1 v3)]⟩) 8 [0, 1, 3, 7, 0, 16, 63, 127] mixed (by exact (.cons (.none rfl) (JO.fieldPtr 1 rfl Try.runUnderlying60 rfl Try.sizeOf22 rfl rfl) rfl rfl (.cons (.none rfl) (JO.load rfl rfl rfl Try.isAgg22 Try.sizeOf22) rfl rfl (.cons (.none rfl) (JO.idx hz17 rfl rfl Try.runUnderlying22 Try.sizeOf3) rfl rfl (.cons (.none rfl) (JO.loadPst rfl Try.isAgg3 Try.sizeOf3) rfl rfl (.cons (.none rfl) (JO.fieldPtr 1 rfl Try.runUnderlying51 rfl Try.sizeOf3 rfl rfl) rfl rfl (.cons (.none rfl) (JO.load rfl rfl rfl Try.isAgg3 Try.sizeOf3) rfl rfl (.cons (.none rfl) (JO.arith rfl rfl rfl) rfl rfl (.cons (.none rfl) (JO.assign rfl) rfl rfl .nil))))))))) (by exact (J.fin (Sw.Sub.mk id (.c rfl (.c rfl (.c rfl (.c rfl .nil)))) (.box rfl (.c rfl (.c rfl (.c rfl .nil))) (.box rfl (.c rfl (.c rfl (.c rfl .nil))) (.box rfl (.c rfl (.c rfl (.c rfl .nil))) (.arr rfl .nil)))) rfl))) rfl (by decide +kernel) (by decide +kernel) (by decide +kernel) (by kernel_rfl) ?_
   refine W.seq ?_
   obtain ⟨x19, hx, h⟩ := bind_e h
   refine W.reg (σ' := ⟨[(2, .ptr 101 0), (4, .ptr 102 0), (7, .ptr 106 0), (9, .v Q0 (ar .sub .i64 z17 a0.2.1)), (70, .v Enc.bool x19)], [(101, .box 51 [.v Q0 a0.1, .v Q0 a0.2.1, .ref 104000]), (102, .box 51 [.v Q0 (0 : Int), .v Q0 (0 : Int), .v (Enc.sl Q1) ([] : Q3)]), (106, .box 60 [.v Q0 v4.1.1, .v (Enc.sl Q0) v4.1.2.1, .v (Enc.sl eBlk) v4.1.2.2]), (104000, .arr 60 Q1 v3)]⟩) ?_ ?_
   ·rcases Bool.eq_false_or_eq_true (cm .gtr (ar .sub .i64 z17 a0.2.1) (0 : Int)) with hc20 | hc20
    ·replace hx := cond_t hc20 hx
     obtain rfl := Option.some.inj hx
     exact (J.mv rfl (J.k (JO.cmp rfl rfl rfl) (J.mv rfl (J.m 63 hc20 (JO.move rfl) (J.m 63 hc20 (JO.fieldPtr 2 rfl Try.runUnderlying51 rfl Try.sizeOf49 rfl rfl) (J.m 63 hc20 (JO.load rfl rfl rfl Try.isAgg49 Try.sizeOf49) (J.m 63 hc20 (JO.lenR rfl rfl Try.runUnderlying49) (J.m 63 hc20 (JO.gmin rfl rfl) (J.m 63 hc20 (JO.cmp rfl rfl rfl) (J.k (JO.pT hc20 rfl rfl) (J.fin (Sw.Sub.mk id (.c rfl (.c rfl (.c rfl (.c rfl (.c rfl .nil))))) (.box rfl (.c rfl (.c rfl (.c rfl .nil))) (.box rfl (.c rfl (.c rfl (.c rfl .nil))) (.box rfl (.c rfl (.c rfl (.c rfl .nil))) (.arr rfl .nil)))) rfl))))))))))))
    ·replace hx := cond_f hc20 hx
     obtain rfl := Option.some.inj hx
     exact (J.mv rfl (J.k (JO.cmp rfl rfl rfl) (J.mv rfl (J.u 63 hc20 (J.u 63 hc20 (J.u 63 hc20 (J.u 63 hc20 (J.u 63 hc20 (J.u 63 hc20 (J.k (JO.pF hc20 rfl rfl) (J.fin (Sw.Sub.mk id (.c rfl (.c rfl (.c rfl (.c rfl (.c rfl .nil))))) (.box rfl (.c rfl (.c rfl (.c rfl .nil))) (.box rfl (.c rfl (.c rfl (.c rfl .nil))) (.box rfl (.c rfl (.c rfl (.c rfl .nil))) (.arr rfl .nil)))) rfl))))))))))))
   obtain ⟨k25, hk25, h⟩ := jp_elim h
   refine W.jn (fun x26 : Int × Q3 => ⟨[(2, .ptr 101 0), (4, .ptr 102 0)], [(101, .box 51 [.v Q0 a0.1, .v Q0 x26.1, .v (Enc.sl Q1) x26.2]), (102, .box 51 [.v Q0 (0 : Int), .v Q0 (0 : Int), .v (Enc.sl Q1) ([] : Q3)])]⟩) (fun x => k25 x = some r) rfl ?_ ?_ ?_
   ·intro x26 h
    rw [hk25] at h
    refine W.seq ?_
    refine W.reg (σ' := ⟨[(4, .ptr 102 0), (5, .v (Enc.err ET) (none : Option Int))], [(102, .box 51 [.v Q0 ((a0.1, x26.1, x26.2).1), .v Q0 ((a0.1, x26.1, x26.2).2.1), .v (Enc.sl Q1) ((a0.1, x26.1, x26.2).2.2)])]⟩) (J.k (JO.loadAll rfl rfl (.prm (.one _ _) (.prm (.one _ _) (.one _ _))) Try.isAgg51 Try.sizeOf51) (J.t (JM.storeAll rfl rfl rfl rfl (.prm (.one _ _) (.prm (.one _ _) (.one _ _))) Try.sizeOf51) (J.k (JO.assignNilE ET) (J.fin (Sw.Sub.mk id (.c rfl (.c rfl .nil)) (.box rfl (.c rfl (.c rfl (.c rfl .nil))) .nil) rfl))))) ?_
    refine W.ret ?_
    obtain rfl := Option.some.inj h
    exact XQ.sub (σ' := ⟨[(4, .ptr 90 0), (5, .v (Enc.err ET) (none : Option Int))], [(90, .box 51 [.v Q0 ((a0.1, x26.1, x26.2).1), .v Q0 ((a0.1, x26.1, x26.2).2.1), .v (Enc.sl Q1) ((a0.1, x26.1, x26.2).2.2)])]⟩) (Sw.Sub.mk (rn [(90, 102)]) (.c rfl (.c rfl .nil)) (.box rfl (.c rfl (.c rfl (.c rfl .nil))) .nil) rfl) (XQ.ret2 hF noR rfl (RV.cellAll rfl rfl (.prm (.one _ _) (.prm (.one _ _) (.one _ _))) Try.isAgg51 Try.sizeOf51) (RV.tmp rfl) .nil rfl)
   ·intro hc21
    replace h := cond_t hc21 h
    refine W.sub (σ' := ⟨[(2, .ptr 101 0), (4, .ptr 102 0), (7, .ptr 106 0), (9, .v Q0 (ar .sub .i64 z17 a0.2.1)), (70, .v Enc.bool x19)], [(101, .box 51 [.v Q0 a0.1, .v Q0 a0.2.1, .v (Enc.sl Q1) v3]), (102, .box 51 [.v Q0 (0 : Int), .v Q0 (0 : Int), .v (Enc.sl Q1) ([] : Q3)]), (106, .box 60 [.v Q0 v4.1.1, .v (Enc.sl Q0) v4.1.2.1, .v (Enc.sl eBlk) v4.1.2.2])]⟩) (Sw.Sub.mk id (.c rfl (.c rfl (.c rfl (.c rfl (.c rfl .nil))))) (.box rfl (.c rfl (.c rfl (.cons (.frz rfl rfl) .nil))) (.box rfl (.c rfl (.c rfl (.c rfl .nil))) (.box rfl (.c rfl (.c rfl (.c rfl .nil))) .nil))) rfl) ?_
    obtain ⟨z28, hz28, h⟩ := bind_e h
    obtain ⟨v29, hv29, h⟩ := bind_e h
    refine W.dr2 (σ' := ⟨[(2, .ptr 101 0), (4, .ptr 102 0)], [(101, .box 51 [.v Q0 a0.1, .v Q0 z28, .v (Enc.sl Q1) v29]), (102, .box 51 [.v Q0 (0 : Int), .v Q0 (0 : Int), .v (Enc.sl Q1) ([] : Q3)])]⟩) 12 [0, 1, 3, 7, 0, 16, 0, 112, 63, 319, 1023, 2047] mixed (by exact (.cons (.none rfl) (JO.fieldPtr 1 rfl Try.runUnderlying60 rfl Try.sizeOf22 rfl rfl) rfl rfl (.cons (.none rfl) (JO.load rfl rfl rfl Try.isAgg22 Try.sizeOf22) rfl rfl (.cons (.none rfl) (JO.idx hz28 rfl rfl Try.runUnderlying22 Try.sizeOf3) rfl rfl (.cons (.none rfl) (JO.loadPst rfl Try.isAgg3 Try.sizeOf3) rfl rfl (.cons (.none rfl) (JO.fieldPtr 2 rfl Try.runUnderlying51 rfl Try.sizeOf49 rfl rfl) rfl rfl (.cons (.none rfl) (JO.load rfl rfl rfl Try.isAgg49 Try.sizeOf49) rfl rfl (.cons (.none rfl) (JO.move rfl) rfl rfl (.cons (.none rfl) (JO.slLo hv29 rfl rfl Try.runUnderlying49 Try.sizeOf60) rfl rfl (.cons (.none rfl) (JO.fieldPtr 1 rfl Try.runUnderlying51 rfl Try.sizeOf3 rfl rfl) rfl rfl (JP2.store (.none rfl) rfl rfl rfl rfl rfl rfl rfl Try.sizeOf3 (.cons (.none rfl) (JO.fieldPtr 2 rfl Try.runUnderlying51 rfl Try.sizeOf49 rfl rfl) rfl rfl (JP2.store (.none rfl) rfl rfl rfl rfl rfl rfl rfl Try.sizeOf49 .nil))))))))))))) (by exact (J.fin (Sw.Sub.mk id (.c rfl (.c rfl .nil)) (.box rfl (.c rfl (.c rfl (.c rfl .nil))) (.box rfl (.c rfl (.c rfl (.c rfl .nil))) .nil)) rfl))) rfl (by decide +kernel) (by decide +kernel) (by decide +kernel) (by kernel_rfl) ?_
    exact W.jfall h (Sw.Sub.mk id (.c rfl (.c rfl .nil)) (.box rfl (.c rfl (.c rfl (.c rfl .nil))) (.box rfl (.c rfl (.c rfl (.c rfl .nil))) .nil)) rfl)
   ·intro hc21
    replace h := cond_f hc21 h
    refine W.skip ?_
    exact W.jfall h (Sw.Sub.mk id (.c rfl (.c rfl .nil)) (.box rfl (.c rfl (.c rfl (.cons (.frz rfl rfl) .nil))) (.box rfl (.c rfl (.c rfl (.c rfl .nil))) .nil)) rfl)
set_option maxRecDepth 100000 in
set_option maxHeartbeats 4000000 in
theorem con_top_line_come_io (A : Nat → Nat) {a0_0 : (Int × Int × Q3)} {a0_1 : (Int × Int)} {a0_2 : (List (Bool × (List Int)))} {a0_3 : (List Int)} {a0_4 : Bool} {a1 : Int} {r : (Int × Int × Q3) × (Int × Int) × (List (Bool × (List Int))) × (List Int) × Bool} (h : m_top_line_come_io a0_0 a0_1 a0_2 a0_3 a0_4 a1 = some r) :
  ConM Try.prog 20 [.ptr 9000 0, .v Q0 a1] [(9000, .box 56 [.v Q2 a0_0, .v (Enc.pr Q0 Q0) a0_1, .ref 8950, .ref 8951, .v Enc.bool a0_4] (some (A 9000))), (8950, .arr 64 (Enc.pr Enc.bool (Enc.sl (Enc.int .u8))) a0_2), (8951, .arr 3 Q0 a0_3)] (.tup []) [(9000, .box 56 [.v Q2 r.1, .v (Enc.pr Q0 Q0) r.2.1, .ref 8910, .ref 8911, .v Enc.bool r.2.2.2.2] (some (A 9000))), (8910, .arr 64 (Enc.pr Enc.bool (Enc.sl (Enc.int .u8))) r.2.2.1), (8911, .arr 3 Q0 r.2.2.2.1)] := by
 refine ConM.of Try.func20 rfl Try.ntmps20 rfl ?_
 intro S w R hF
 unfold m_top_line_come_io at h
 refine W.seq ?_
 obtain ⟨z1, hz1, h⟩ := bind_e h
 refine W.reg (σ' := ⟨[(0, .ptr 9000 0), (4, .ptr 101 0)], [(9000, .box 56 [.v Q2 a0_0, .v (Enc.pr Q0 Q0) a0_1, .ref 8950, .ref 8951, .v Enc.bool a0_4] (some (A 9000))), (101, .box 64 [.v Enc.bool z1.1, .v (Enc.sl (Enc.int .u8)) z1.2]), (8950, .arr 64 (Enc.pr Enc.bool (Enc.sl (Enc.int .u8))) a0_2), (8951, .arr 3 Q0 a0_3)]⟩) (J.mv rfl (J.k (JO.nilPtr rfl) (J.k (JO.fieldPtr 5 rfl Try.runUnderlying56 rfl Try.sizeOf54 rfl rfl) (J.k (JO.load rfl rfl rfl Try.isAgg54 Try.sizeOf54) (J.mv rfl (J.k (JO.idxR hz1 rfl rfl rfl Try.runUnderlying54 Try.sizeOf64) (J.k (JO.loadEl (idx_some hz1).2.2 rfl rfl .here Try.isAgg64 Try.sizeOf64) (J.k (JO.alloc 101 Try.zeroValue64 rfl (.cons Z.bool (.cons (Z.sl (Enc.int .u8)) .nil)) rfl) (J.t (JM.storeAll rfl rfl rfl rfl (.prm (.one _ _) (.one _ _)) Try.sizeOf64) (J.fin (Sw.Sub.mk id (.c rfl (.c rfl .nil)) (.box rfl (.c rfl (.c rfl (.c rfl (.c rfl (.c rfl .nil))))) (.box rfl (.c rfl (.c rfl .nil)) (.arr rfl (.arr rfl .nil)))) rfl))))))))))) ?_
 refine W.seq ?_
 refine W.seq ?_
 refine W.reg (σ' := ⟨[(0, .ptr 9000 0), (4, .ptr 101 0), (20, .v Enc.bool z1.1)], [(9000, .box 56 [.v Q2 a0_0, .v (Enc.pr Q0 Q0) a0_1, .ref 8950, .ref 8951, .v Enc.bool a0_4] (some (A 9000))), (101, .box 64 [.v Enc.bool z1.1, .v (Enc.sl (Enc.int .u8)) z1.2]), (8950, .arr 64 (Enc.pr Enc.bool (Enc.sl (Enc.int .u8))) a0_2), (8951, .arr 3 Q0 a0_3)]⟩) (J.k (JO.fieldPtr 0 rfl Try.runUnderlying64 rfl Try.sizeOf4 rfl rfl) (J.k (JO.load rfl rfl rfl Try.isAgg4 Try.sizeOf4) (J.fin (Sw.Sub.mk id (.c rfl (.c rfl (.c rfl .nil))) (.box rfl (.c rfl (.c rfl (.c rfl (.c rfl (.c rfl .nil))))) (.box rfl (.c rfl (.c rfl .nil)) (.arr rfl (.arr rfl .nil)))) rfl)))) ?_
 rcases Bool.eq_false_or_eq_true z1.1 with hc2 | hc2
 ·replace h := cond_t hc2 h
  refine W.condT rfl hc2 ?_
  refine W.seq ?_
  obtain ⟨v3, hv3, h⟩ := bind_e h
  refine W.dr2 (σ' := ⟨[(0, .ptr 9000 0), (5, .ptr 103 0), (6, .ptr 104 0), (7, .v Enc.bool v3.2.2.1), (8, .v (Enc.slN (Enc.int .u8)) v3.2.2.2.1), (9, .v (Enc.err ET) v3.2.2.2.2)], [(9000, .box 56 [.v Q2 a0_0, .v (Enc.pr Q0 Q0) a0_1, .ref 8950, .ref 8951, .v Enc.bool a0_4] (some (A 9000))), (103, .box 53 [.v Q0 v3.1.1, .v Q0 v3.1.2]), (104, .box 60 [.v Q0 v3.2.1.1, .v (Enc.sl Q0) v3.2.1.2.1, .v (Enc.sl eBlk) v3.2.1.2.2]), (8950, .arr 64 (Enc.pr Enc.bool (Enc.sl (Enc.int .u8))) a0_2), (8951, .arr 3 Q0 a0_3)]⟩) 20 [0, 1, 3, 7, 0, 16, 63, 127, 255, 255, 255, 255, 255, 0, 0, 25087, 58367, 124927, 258047, 524287] mixed (by exact (.cons (.none rfl) (JO.move rfl) rfl rfl (.cons (.none rfl) (JO.nilPtr rfl) rfl rfl (.cons (.none rfl) (JO.fieldPtr 3 rfl Try.runUnderlying56 rfl Try.sizeOf53 rfl rfl) rfl rfl (.cons (.none rfl) (JO.load rfl rfl rfl Try.isAgg53 Try.sizeOf53) rfl rfl (.cons (.none rfl) (JO.fieldPtr 1 rfl Try.runUnderlying64 rfl Try.sizeOf62 rfl rfl) rfl rfl (.cons (.none rfl) (JO.load rfl rfl rfl Try.isAgg62 Try.sizeOf62) rfl rfl (.cons (.none rfl) (JO.call0 (con_link_Receive hv3) Try.call43 (.cons (.dir rfl) (.cons (.dir rfl) .nil))) rfl rfl (.cons (.none rfl) (JO.move rfl) rfl rfl (.cons (.none rfl) (JO.extract rfl rfl) rfl rfl (.cons (.none rfl) (JO.extract rfl rfl) rfl rfl (.cons (.none rfl) (JO.extract rfl rfl) rfl rfl (.cons (.none rfl) (JO.extract rfl rfl) rfl rfl (.cons (.none rfl) (JO.extract rfl rfl) rfl rfl (.cons (.none rfl) (JO.alloc 103 Try.zeroValue53 rfl (.cons (Z.int .i64) (.cons (Z.int .i64) .nil)) rfl) rfl rfl (.cons (.none rfl) (JO.alloc 104 Try.zeroValue60 rfl (.cons (Z.int .i64) (.cons (Z.sl Q0) (.cons (Z.sl eBlk) .nil))) rfl) rfl rfl (JP2.storeAll (.none rfl) rfl rfl rfl rfl (.prm (.one _ _) (.one _ _)) Try.sizeOf53 (JP2.storeAll (.none rfl) rfl rfl rfl rfl (.prm (.one _ _) (.prm (.one _ _) (.one _ _))) Try.sizeOf60 (.cons (.none rfl) (JO.assign rfl) rfl rfl (.cons (.none rfl) (JO.assign rfl) rfl rfl (.cons (.none rfl) (JO.assign rfl) rfl rfl .nil))))))))))))))))))))) (by exact (J.fin (Sw.Sub.mk id (.c rfl (.c rfl (.c rfl (.c rfl (.c rfl (.c rfl .nil)))))) (.box rfl (.c rfl (.c rfl (.c rfl (.c rfl (.c rfl .nil))))) (.box rfl (.c rfl (.c rfl .nil)) (.box rfl (.c rfl (.c rfl (.c rfl .nil))) (.arr rfl (.arr rfl .nil))))) rfl))) rfl (by decide +kernel) (by decide +kernel) (by decide +kernel) (by kernel_rfl) ?_
  refine W.seq ?_
  obtain ⟨x5, hx, h⟩ := bind_e h
  refine W.reg (σ' := ⟨[(0, .ptr 9000 0), (5, .ptr 103 0), (6, .ptr 104 0), (7, .v Enc.bool v3.2.2.1), (8, .v (Enc.slN (Enc.int .u8)) v3.2.2.2.1)], [(9000, .box 56 [.v Q2 a0_0, .v (Enc.pr Q0 Q0) a0_1, .ref 8950, .ref 8951, .v Enc.bool x5] (some (A 9000))), (103, .box 53 [.v Q0 v3.1.1, .v Q0 v3.1.2]), (104, .box 60 [.v Q0 v3.2.1.1, .v (Enc.sl Q0) v3.2.1.2.1, .v (Enc.sl eBlk) v3.2.1.2.2]), (8950, .arr 64 (Enc.pr Enc.bool (Enc.sl (Enc.int .u8))) a0_2), (8951, .arr 3 Q0 a0_3)]⟩) ?_ ?_
  ·rcases Bool.eq_false_or_eq_true a0_4 with hc6 | hc6
   ·replace hx := cond_t hc6 hx
    obtain rfl := Option.some.inj hx
    exact (J.mv rfl (J.mv rfl (J.k (JO.nilPtr rfl) (J.k (JO.fieldPtr 7 rfl Try.runUnderlying56 rfl Try.sizeOf4 rfl rfl) (J.k (JO.load rfl rfl rfl Try.isAgg4 Try.sizeOf4) (J.mv rfl (J.m 39 hc6 (JO.move rfl) (J.m 39 hc6 (JO.errEq Try.runUnderlying34 rfl) (J.k (JO.pT hc6 rfl rfl) (J.k (JO.nilPtr rfl) (J.k (JO.fieldPtr 7 rfl Try.runUnderlying56 rfl Try.sizeOf4 rfl rfl) (J.t (JM.store rfl rfl rfl rfl rfl rfl rfl Try.sizeOf4) (J.fin (Sw.Sub.mk id (.c rfl (.c rfl (.c rfl (.c rfl (.c rfl .nil))))) (.box rfl (.c rfl (.c rfl (.c rfl (.c rfl (.c rfl .nil))))) (.box rfl (.c rfl (.c rfl .nil)) (.box rfl (.c rfl (.c rfl (.c rfl .nil))) (.arr rfl (.arr rfl .nil))))) rfl))))))))))))))
   ·replace hx := cond_f hc6 hx
    obtain rfl := Option.some.inj hx
    exact (J.mv rfl (J.mv rfl (J.k (JO.nilPtr rfl) (J.k (JO.fieldPtr 7 rfl Try.runUnderlying56 rfl Try.sizeOf4 rfl rfl) (J.k (JO.load rfl rfl rfl Try.isAgg4 Try.sizeOf4) (J.mv rfl (J.u 39 hc6 (J.u 39 hc6 (J.k (JO.pF hc6 rfl rfl) (J.k (JO.nilPtr rfl) (J.k (JO.fieldPtr 7 rfl Try.runUnderlying56 rfl Try.sizeOf4 rfl rfl) (J.t (JM.store rfl rfl rfl rfl rfl rfl rfl Try.sizeOf4) (J.fin (Sw.Sub.mk id (.c rfl (.c rfl (.c rfl (.c rfl (.c rfl .nil))))) (.box rfl (.c rfl (.c rfl (.c rfl (.c rfl (.c rfl .nil))))) (.box rfl (.c rfl (.c rfl .nil)) (.box rfl (.c rfl (.c rfl (.c rfl .nil))) (.arr rfl (.arr rfl .nil))))) rfl))))))))))))))
  refine W.seq ?_
  refine W.reg (σ' := ⟨[(0, .ptr 9000 0), (6, .ptr 104 0), (7, .v Enc.bool v3.2.2.1), (8, .v (Enc.slN (Enc.int .u8)) v3.2.2.2.1)], [(9000, .box 56 [.v Q2 a0_0, .v (Enc.pr Q0 Q0) v3.1, .ref 8950, .ref 8951, .v Enc.bool x5] (some (A 9000))), (104, .box 60 [.v Q0 v3.2.1.1, .v (Enc.sl Q0) v3.2.1.2.1, .v (Enc.sl eBlk) v3.2.1.2.2]), (8950, .arr 64 (Enc.pr Enc.bool (Enc.sl (Enc.int .u8))) a0_2), (8951, .arr 3 Q0 a0_3)]⟩) (J.mv rfl (J.k (JO.loadAll rfl rfl (.prm (.one _ _) (.one _ _)) Try.isAgg53 Try.sizeOf53) (J.k (JO.nilPtr rfl) (J.k (JO.fieldPtr 3 rfl Try.runUnderlying56 rfl Try.sizeOf53 rfl rfl) (J.t (JM.store rfl rfl rfl rfl rfl rfl rfl Try.sizeOf53) (J.fin (Sw.Sub.mk id (.c rfl (.c rfl (.c rfl (.c rfl .nil)))) (.box rfl (.c rfl (.c rfl (.c rfl (.c rfl (.c rfl .nil))))) (.box rfl (.c rfl (.c rfl (.c rfl .nil))) (.arr rfl (.arr rfl .nil)))) rfl))))))) ?_
  refine W.seq ?_
  refine W.seq ?_
  obtain ⟨x8, hx, h⟩ := bind_e h
  refine W.reg (σ' := ⟨[(0, .ptr 9000 0), (6, .ptr 104 0), (7, .v Enc.bool v3.2.2.1), (8, .v (Enc.slN (Enc.int .u8)) v3.2.2.2.1), (55, .v Enc.bool x8)], [(9000, .box 56 [.v Q2 a0_0, .v (Enc.pr Q0 Q0) v3.1, .ref 8950, .ref 8951, .v Enc.bool x5] (some (A 9000))), (104, .box 60 [.v Q0 v3.2.1.1, .v (Enc.sl Q0) v3.2.1.2.1, .v (Enc.sl eBlk) v3.2.1.2.2]), (8950, .arr 64 (Enc.pr Enc.bool (Enc.sl (Enc.int .u8))) a0_2), (8951, .arr 3 Q0 a0_3)]⟩) ?_ ?_
  ·rcases Bool.eq_false_or_eq_true v3.2.2.1 with hc9 | hc9
   ·replace hx := cond_t hc9 hx
    obtain rfl := Option.some.inj hx
    exact (J.mv rfl (J.mv rfl (J.m 50 hc9 (JO.fieldPtr 1 rfl Try.runUnderlying60 rfl Try.sizeOf22 rfl rfl) (J.m 50 hc9 (JO.load rfl rfl rfl Try.isAgg22 Try.sizeOf22) (J.m 50 hc9 (JO.len rfl Try.runUnderlying22) (J.m 50 hc9 (JO.cmp rfl rfl rfl) (J.k (JO.pT hc9 rfl rfl) (J.fin (Sw.Sub.mk id (.c rfl (.c rfl (.c rfl (.c rfl (.c rfl .nil))))) (.box rfl (.c rfl (.c rfl (.c rfl (.c rfl (.c rfl .nil))))) (.box rfl (.c rfl (.c rfl (.c rfl .nil))) (.arr rfl (.arr rfl .nil)))) rfl)))))))))
   ·replace hx := cond_f hc9 hx
    obtain rfl := Option.some.inj hx
    exact (J.mv rfl (J.mv rfl (J.u 50 hc9 (J.u 50 hc9 (J.u 50 hc9 (J.u 50 hc9 (J.k (JO.pF hc9 rfl rfl) (J.fin (Sw.Sub.mk id (.c rfl (.c rfl (.c rfl (.c rfl (.c rfl .nil))))) (.box rfl (.c rfl (.c rfl (.c rfl (.c rfl (.c rfl .nil))))) (.box rfl (.c rfl (.c rfl (.c rfl .nil))) (.arr rfl (.arr rfl .nil)))) rfl)))))))))
  obtain ⟨k16, hk16, h⟩ := jp_elim h
  refine W.jn (fun x17 : Bool × (List Int) => ⟨[(0, .ptr 9000 0), (8, .v (Enc.slN (Enc.int .u8)) v3.2.2.2.1)], [(9000, .box 56 [.v Q2 a0_0, .v (Enc.pr Q0 Q0) v3.1, .ref 8950, .ref 107, .v Enc.bool x17.1] (some (A 9000))), (8950, .arr 64 (Enc.pr Enc.bool (Enc.sl (Enc.int .u8))) a0_2), (107, .arr 3 Q0 x17.2)]⟩) (fun x => k16 x = some r) rfl ?_ ?_ ?_
  ·intro x17 h
   rw [hk16] at h
   refine W.seq ?_
   refine W.seq ?_
   refine W.reg (σ' := ⟨[(0, .ptr 9000 0), (8, .v (Enc.slN (Enc.int .u8)) v3.2.2.2.1), (74, .v Enc.bool (!v3.2.2.2.1.1))], [(9000, .box 56 [.v Q2 a0_0, .v (Enc.pr Q0 Q0) v3.1, .ref 8950, .ref 107, .v Enc.bool x17.1] (some (A 9000))), (8950, .arr 64 (Enc.pr Enc.bool (Enc.sl (Enc.int .u8))) a0_2), (107, .arr 3 Q0 x17.2)]⟩) (J.mv rfl (J.k (JO.neNilS rfl Try.runUnderlying62) (J.fin (Sw.Sub.mk id (.c rfl (.c rfl (.c rfl .nil))) (.box rfl (.c rfl (.c rfl (.c rfl (.c rfl (.c rfl .nil))))) (.arr rfl (.arr rfl .nil))) rfl)))) ?_
   obtain ⟨k25, hk25, h⟩ := jp_elim h
   refine W.jn (fun x26 : (List (Bool × (List Int))) => ⟨[(0, .ptr 9000 0)], [(9000, .box 56 [.v Q2 a0_0, .v (Enc.pr Q0 Q0) v3.1, .ref 111, .ref 107, .v Enc.bool x17.1] (some (A 9000))), (111, .arr 64 (Enc.pr Enc.bool (Enc.sl (Enc.int .u8))) x26), (107, .arr 3 Q0 x17.2)]⟩) (fun x => k25 x = some r) rfl ?_ ?_ ?_
   ·intro x26 h
    rw [hk25] at h
    refine W.ret ?_
    obtain rfl := Option.some.inj h
    exact XQ.sub (σ' := ⟨[(0, .ptr 9000 0)], [(9000, .box 56 [.v Q2 a0_0, .v (Enc.pr Q0 Q0) v3.1, .ref 8910, .ref 8911, .v Enc.bool x17.1] (some (A 9000))), (8911, .arr 3 Q0 x17.2), (8910, .arr 64 (Enc.pr Enc.bool (Enc.sl (Enc.int .u8))) x26)]⟩) (Sw.Sub.mk (rn [(9000, 9000), (8911, 107), (8910, 111)]) (.c rfl .nil) (.box rfl (.c rfl (.c rfl (.c rfl (.c rfl (.c rfl .nil))))) (.arr rfl (.arr rfl .nil))) rfl) (XQ.retM0 hF rfl  (.cons rfl (.cons rfl (.cons rfl .nil))))
   ·intro hc23
    replace h := cond_t hc23 h
    obtain ⟨v27, hv27, h⟩ := bind_e h
    refine W.reg (σ' := ⟨[(0, .ptr 9000 0)], [(9000, .box 56 [.v Q2 a0_0, .v (Enc.pr Q0 Q0) v3.1, .ref 112, .ref 107, .v Enc.bool x17.1] (some (A 9000))), (112, .arr 64 (Enc.pr Enc.bool (Enc.sl (Enc.int .u8))) v27), (107, .arr 3 Q0 x17.2)]⟩) (J.mv rfl (J.mv rfl (J.k (JO.nilPtr rfl) (J.k (JO.fieldPtr 5 rfl Try.runUnderlying56 rfl Try.sizeOf54 rfl rfl) (J.k (JO.load rfl rfl rfl Try.isAgg54 Try.sizeOf54) (J.mv rfl (J.sub (σ' := ⟨[(0, .ptr 9000 0), (8, .v (Enc.slN (Enc.int .u8)) v3.2.2.2.1), (74, .v Enc.bool (!v3.2.2.2.1.1)), (75, .ptr 9000 0), (76, .ptr 9000 0), (77, .ptr 9000 0), (78, .ptr 9000 5), (79, .ref 8950), (80, .v (Enc.sl (Enc.int .u8)) v3.2.2.2.1.2)], [(9000, .box 56 [.v Q2 a0_0, .v (Enc.pr Q0 Q0) v3.1, .ref 8950, .ref 107, .v Enc.bool x17.1] (some (A 9000))), (8950, .arr 64 (Enc.pr Enc.bool (Enc.sl (Enc.int .u8))) a0_2), (107, .arr 3 Q0 x17.2)]⟩) (Sw.Sub.mk id (.c rfl (.c rfl (.c rfl (.c rfl (.c rfl (.c rfl (.c rfl (.c rfl (.cons rfl .unN .nil))))))))) (.box rfl (.c rfl (.c rfl (.c rfl (.c rfl (.c rfl .nil))))) (.arr rfl (.arr rfl .nil))) rfl) (J.k (JO.build built64 (.cons Z.bool (.cons (Z.sl (Enc.int .u8)) .nil)) (.cons rfl (.dir rfl) rfl rfl rfl rfl (.cons rfl (.dir rfl) rfl rfl rfl rfl .nil))) (J.k (JO.lit (e := (Enc.pr Enc.bool (Enc.sl (Enc.int .u8)))) Try.runUnderlying54 Try.sizeOf64 Try.zeroValue64 rfl rfl rfl rfl (.cons (.agg rfl (.same (.same .nil)) (.prm (.one _ _) (.one _ _)) rfl) .nil)) (J.t (JM.append 112 hv27 rfl rfl (.sl rfl) Try.runUnderlying54 Try.typeInfo64 Try.sizeOf64 rfl rfl rfl rfl rfl) (J.k (JO.nilPtr rfl) (J.k (JO.fieldPtr 5 rfl Try.runUnderlying56 rfl Try.sizeOf54 rfl rfl) (J.t (JM.store rfl rfl rfl rfl rfl rfl rfl Try.sizeOf54) (J.fin (Sw.Sub.mk id (.c rfl .nil) (.box rfl (.c rfl (.c rfl (.c rfl (.c rfl (.c rfl .nil))))) (.arr rfl (.arr rfl .nil))) rfl))))))))))))))) ?_
    exact W.jfall h (Sw.Sub.mk (rn [(9000, 9000), (107, 107), (111, 112)]) (.c rfl .nil) (.box rfl (.c rfl (.c rfl (.c rfl (.c rfl (.c rfl .nil))))) (.arr rfl (.arr rfl .nil))) rfl)
   ·intro hc23
    replace h := cond_f hc23 h
    refine W.skip ?_
    exact W.jfall h (Sw.Sub.mk (rn [(9000, 9000), (107, 107), (111, 8950)]) (.c rfl .nil) (.box rfl (.c rfl (.c rfl (.c rfl (.c rfl (.c rfl .nil))))) (.arr rfl (.arr rfl .nil))) rfl)
  ·intro hc10
   replace h := cond_t hc10 h
   obtain ⟨z20, hz20, h⟩ := bind_e h
   obtain ⟨v21, hv21, h⟩ := bind_e h
   refine W.dr4 (σ' := ⟨[(0, .ptr 9000 0), (8, .v (Enc.slN (Enc.int .u8)) v3.2.2.2.1)], [(9000, .box 56 [.v Q2 a0_0, .v (Enc.pr Q0 Q0) v3.1, .ref 8950, .ref 109, .v Enc.bool x5] (some (A 9000))), (8950, .arr 64 (Enc.pr Enc.bool (Enc.sl (Enc.int .u8))) a0_2), (109, .arr 3 Q0 v21)]⟩) 14 [0, 0, 2, 6, 14, 0, 32, 96, 224, 480, 1022, 2047, 4095, 8191] mixed (by exact (.cons (.none rfl) (JO.move rfl) rfl (.cons (.none rfl) (JO.move rfl) rfl (.cons (.none rfl) (JO.nilPtr rfl) rfl (.cons (.none rfl) (JO.fieldPtr 6 rfl Try.runUnderlying56 rfl Try.sizeOf22 rfl rfl) rfl (.cons (.none rfl) (JO.load rfl rfl rfl Try.isAgg22 Try.sizeOf22) rfl (.cons (.none rfl) (JO.fieldPtr 1 rfl Try.runUnderlying60 rfl Try.sizeOf22 rfl rfl) rfl (.cons (.none rfl) (JO.load rfl rfl rfl Try.isAgg22 Try.sizeOf22) rfl (.cons (.none rfl) (JO.idx hz20 rfl rfl Try.runUnderlying22 Try.sizeOf3) rfl (.cons (.none rfl) (JO.loadPst rfl Try.isAgg3 Try.sizeOf3) rfl (.cons (.none rfl) (JO.lit (e := Q0) Try.runUnderlying22 Try.sizeOf3 Try.zeroValue3 rfl rfl rfl rfl (.cons (.dir rfl) .nil)) rfl (JP4.append (.none rfl) 109 hv21 rfl rfl (.sl rfl) Try.runUnderlying22 Try.typeInfo3 Try.sizeOf3 rfl rfl rfl rfl rfl (.cons (.none rfl) (JO.nilPtr rfl) rfl (.cons (.none rfl) (JO.fieldPtr 6 rfl Try.runUnderlying56 rfl Try.sizeOf22 rfl rfl) rfl (JP4.store (.none rfl) rfl rfl rfl rfl rfl rfl rfl Try.sizeOf22 .nil))))))))))))))) (by exact (J.fin (Sw.Sub.mk id (.c rfl (.c rfl .nil)) (.box rfl (.c rfl (.c rfl (.c rfl (.c rfl (.c rfl .nil))))) (.arr rfl (.arr rfl .nil))) rfl))) rfl (by decide +kernel) (by decide +kernel) (by decide +kernel) (by kernel_rfl) (by kernel_rfl) ?_
   exact W.jfall h (Sw.Sub.mk (rn [(9000, 9000), (107, 109), (8950, 8950)]) (.c rfl (.c rfl .nil)) (.box rfl (.c rfl (.c rfl (.c rfl (.c rfl (.c rfl .nil))))) (.arr rfl (.arr rfl .nil))) rfl)
  ·intro hc10
   replace h := cond_f hc10 h
   refine W.seq ?_
   refine W.reg (σ' := ⟨[(0, .ptr 9000 0), (8, .v (Enc.slN (Enc.int .u8)) v3.2.2.2.1), (69, .v Enc.bool v3.2.2.1)], [(9000, .box 56 [.v Q2 a0_0, .v (Enc.pr Q0 Q0) v3.1, .ref 8950, .ref 8951, .v Enc.bool x5] (some (A 9000))), (8950, .arr 64 (Enc.pr Enc.bool (Enc.sl (Enc.int .u8))) a0_2), (8951, .arr 3 Q0 a0_3)]⟩) (J.mv rfl (J.fin (Sw.Sub.mk id (.c rfl (.c rfl (.c rfl .nil))) (.box rfl (.c rfl (.c rfl (.c rfl (.c rfl (.c rfl .nil))))) (.arr rfl (.arr rfl .nil))) rfl))) ?_
   rcases Bool.eq_false_or_eq_true v3.2.2.1 with hc22 | hc22
   ·replace h := cond_t hc22 h
    refine W.condT rfl hc22 ?_
    refine W.reg (σ' := ⟨[(0, .ptr 9000 0), (8, .v (Enc.slN (Enc.int .u8)) v3.2.2.2.1)], [(9000, .box 56 [.v Q2 a0_0, .v (Enc.pr Q0 Q0) v3.1, .ref 8950, .ref 8951, .v Enc.bool false] (some (A 9000))), (8950, .arr 64 (Enc.pr Enc.bool (Enc.sl (Enc.int .u8))) a0_2), (8951, .arr 3 Q0 a0_3)]⟩) (J.mv rfl (J.k (JO.nilPtr rfl) (J.k (JO.fieldPtr 7 rfl Try.runUnderlying56 rfl Try.sizeOf4 rfl rfl) (J.t (JM.store rfl rfl rfl rfl rfl rfl rfl Try.sizeOf4) (J.fin (Sw.Sub.mk id (.c rfl (.c rfl .nil)) (.box rfl (.c rfl (.c rfl (.c rfl (.c rfl (.c rfl .nil))))) (.arr rfl (.arr rfl .nil))) rfl)))))) ?_
    exact W.jfall h (Sw.Sub.mk (rn [(9000, 9000), (107, 8951), (8950, 8950)]) (.c rfl (.c rfl .nil)) (.box rfl (.c rfl (.c rfl (.c rfl (.c rfl (.c rfl .nil))))) (.arr rfl (.arr rfl .nil))) rfl)
   ·replace h := cond_f hc22 h
    refine W.condF rfl hc22 ?_
    refine W.skip ?_
    exact W.jfall h (Sw.Sub.mk (rn [(9000, 9000), (107, 8951), (8950, 8950)]) (.c rfl (.c rfl .nil)) (.box rfl (.c rfl (.c rfl (.c rfl (.c rfl (.c rfl .nil))))) (.arr rfl (.arr rfl .nil))) rfl)
 ·replace h := cond_f hc2 h
  refine W.condF rfl hc2 ?_
  refine W.skip ?_
  refine W.seq ?_
  obtain ⟨v28, hv28, h⟩ := bind_e h
  refine W.dr2 (σ' := ⟨[(0, .ptr 9000 0), (10, .ptr 114 0), (11, .v (Enc.err ET) v28.2)], [(9000, .box 56 [.v Q2 a0_0, .v (Enc.pr Q0 Q0) a0_1, .ref 8950, .ref 8951, .v Enc.bool a0_4] (some (A 9000))), (114, .box 51 [.v Q0 v28.1.1, .v Q0 v28.1.2.1, .v (Enc.sl Q1) v28.1.2.2]), (8950, .arr 64 (Enc.pr Enc.bool (Enc.sl (Enc.int .u8))) a0_2), (8951, .arr 3 Q0 a0_3)]⟩) 13 [0, 1, 3, 7, 0, 16, 63, 127, 255, 255, 0, 1535, 4095] mixed (by exact (.cons (.none rfl) (JO.move rfl) rfl rfl (.cons (.none rfl) (JO.nilPtr rfl) rfl rfl (.cons (.none rfl) (JO.fieldPtr 0 rfl Try.runUnderlying56 rfl Try.sizeOf51 rfl rfl) rfl rfl (.cons (.none rfl) (JO.load rfl rfl rfl Try.isAgg51 Try.sizeOf51) rfl rfl (.cons (.none rfl) (JO.fieldPtr 1 rfl Try.runUnderlying64 rfl Try.sizeOf62 rfl rfl) rfl rfl (.cons (.none rfl) (JO.load rfl rfl rfl Try.isAgg62 Try.sizeOf62) rfl rfl (.cons (.none rfl) (JO.call0 (con_link_Heard hv28) Try.call44 (.cons (.dir rfl) (.cons (.dir rfl) .nil))) rfl rfl (.cons (.none rfl) (JO.move rfl) rfl rfl (.cons (.none rfl) (JO.extract rfl rfl) rfl rfl (.cons (.none rfl) (JO.extract rfl rfl) rfl rfl (.cons (.none rfl) (JO.alloc 114 Try.zeroValue51 rfl (.cons (Z.int .i64) (.cons (Z.int .i64) (.cons (Z.sl Q1) .nil))) rfl) rfl rfl (JP2.storeAll (.none rfl) rfl rfl rfl rfl (.prm (.one _ _) (.prm (.one _ _) (.one _ _))) Try.sizeOf51 (.cons (.none rfl) (JO.assign rfl) rfl rfl .nil)))))))))))))) (by exact (J.fin (Sw.Sub.mk id (.c rfl (.c rfl (.c rfl .nil))) (.box rfl (.c rfl (.c rfl (.c rfl (.c rfl (.c rfl .nil))))) (.box rfl (.c rfl (.c rfl (.c rfl .nil))) (.arr rfl (.arr rfl .nil)))) rfl))) rfl (by decide +kernel) (by decide +kernel) (by decide +kernel) (by kernel_rfl) ?_
  refine W.seq ?_
  obtain ⟨x30, hx, h⟩ := bind_e h
  refine W.reg (σ' := ⟨[(0, .ptr 9000 0), (10, .ptr 114 0)], [(9000, .box 56 [.v Q2 a0_0, .v (Enc.pr Q0 Q0) a0_1, .ref 8950, .ref 8951, .v Enc.bool x30] (some (A 9000))), (114, .box 51 [.v Q0 v28.1.1, .v Q0 v28.1.2.1, .v (Enc.sl Q1) v28.1.2.2]), (8950, .arr 64 (Enc.pr Enc.bool (Enc.sl (Enc.int .u8))) a0_2), (8951, .arr 3 Q0 a0_3)]⟩) ?_ ?_
  ·rcases Bool.eq_false_or_eq_true a0_4 with hc31 | hc31
   ·replace hx := cond_t hc31 hx
    obtain rfl := Option.some.inj hx
    exact (J.mv rfl (J.mv rfl (J.k (JO.nilPtr rfl) (J.k (JO.fieldPtr 7 rfl Try.runUnderlying56 rfl Try.sizeOf4 rfl rfl) (J.k (JO.load rfl rfl rfl Try.isAgg4 Try.sizeOf4) (J.mv rfl (J.m 101 hc31 (JO.move rfl) (J.m 101 hc31 (JO.errEq Try.runUnderlying34 rfl) (J.k (JO.pT hc31 rfl rfl) (J.k (JO.nilPtr rfl) (J.k (JO.fieldPtr 7 rfl Try.runUnderlying56 rfl Try.sizeOf4 rfl rfl) (J.t (JM.store rfl rfl rfl rfl rfl rfl rfl Try.sizeOf4) (J.fin (Sw.Sub.mk id (.c rfl (.c rfl .nil)) (.box rfl (.c rfl (.c rfl (.c rfl (.c rfl (.c rfl .nil))))) (.box rfl (.c rfl (.c rfl (.c rfl .nil))) (.arr rfl (.arr rfl .nil)))) rfl))))))))))))))
   ·replace hx := cond_f hc31 hx
    obtain rfl := Option.some.inj hx
    exact (J.mv rfl (J.mv rfl (J.k (JO.nilPtr rfl) (J.k (JO.fieldPtr 7 rfl Try.runUnderlying56 rfl Try.sizeOf4 rfl rfl) (J.k (JO.load rfl rfl rfl Try.isAgg4 Try.sizeOf4) (J.mv rfl (J.u 101 hc31 (J.u 101 hc31 (J.k (JO.pF hc31 rfl rfl) (J.k (JO.nilPtr rfl) (J.k (JO.fieldPtr 7 rfl Try.runUnderlying56 rfl Try.sizeOf4 rfl rfl) (J.t (JM.store rfl rfl rfl rfl rfl rfl rfl Try.sizeOf4) (J.fin (Sw.Sub.mk id (.c rfl (.c rfl .nil)) (.box rfl (.c rfl (.c rfl (.c rfl (.c rfl (.c rfl .nil))))) (.box rfl (.c rfl (.c rfl (.c rfl .nil))) (.arr rfl (.arr rfl .nil)))) rfl))))))))))))))
  refine W.reg (σ' := ⟨[(0, .ptr 9000 0)], [(9000, .box 56 [.v Q2 v28.1, .v (Enc.pr Q0 Q0) a0_1, .ref 8950, .ref 8951, .v Enc.bool x30] (some (A 9000))), (8950, .arr 64 (Enc.pr Enc.bool (Enc.sl (Enc.int .u8))) a0_2), (8951, .arr 3 Q0 a0_3)]⟩) (J.mv rfl (J.k (JO.loadAll rfl rfl (.prm (.one _ _) (.prm (.one _ _) (.one _ _))) Try.isAgg51 Try.sizeOf51) (J.k (JO.nilPtr rfl) (J.k (JO.fieldPtr 0 rfl Try.runUnderlying56 rfl Try.sizeOf51 rfl rfl) (J.t (JM.store rfl rfl rfl rfl rfl rfl rfl Try.sizeOf51) (J.fin (Sw.Sub.mk id (.c rfl .nil) (.box rfl (.c rfl (.c rfl (.c rfl (.c rfl (.c rfl .nil))))) (.arr rfl (.arr rfl .nil))) rfl))))))) ?_
  refine W.nil ?_
  obtain rfl := Option.some.inj h
  exact XQ.sub (σ' := ⟨[(0, .ptr 9000 0)], [(9000, .box 56 [.v Q2 v28.1, .v (Enc.pr Q0 Q0) a0_1, .ref 8910, .ref 8911, .v Enc.bool x30] (some (A 9000))), (8911, .arr 3 Q0 a0_3), (8910, .arr 64 (Enc.pr Enc.bool (Enc.sl (Enc.int .u8))) a0_2)]⟩) (Sw.Sub.mk (rn [(9000, 9000), (8911, 8951), (8910, 8950)]) (.c rfl .nil) (.box rfl (.c rfl (.c rfl (.c rfl (.c rfl (.c rfl .nil))))) (.arr rfl (.arr rfl .nil))) rfl) (XQ.normM0 hF rfl  (.cons rfl (.cons rfl (.cons rfl .nil))))
set_option maxRecDepth 100000 in
set_option maxHeartbeats 4000000 in
theorem con_top_line_gone_io (A : Nat → Nat) {a0_0 : (Int × Int × Q3)} {a0_1 : (Int × Int)} {a0_2 : (List (Bool × (List Int)))} {a0_3 : (List Int)} {a0_4 : Bool} {a1 : Int} {r : (Int × Int × Q3) × (Int × Int) × (List (Bool × (List Int))) × (List Int) × Bool} (h : m_top_line_gone_io a0_0 a0_1 a0_2 a0_3 a0_4 a1 = some r) :
  ConM Try.prog 21 [.ptr 9000 0, .v Q0 a1] [(9000, .box 56 [.v Q2 a0_0, .v (Enc.pr Q0 Q0) a0_1, .ref 8950, .ref 8951, .v Enc.bool a0_4] (some (A 9000))), (8950, .arr 64 (Enc.pr Enc.bool (Enc.sl (Enc.int .u8))) a0_2), (8951, .arr 3 Q0 a0_3)] (.tup []) [(9000, .box 56 [.v Q2 r.1, .v (Enc.pr Q0 Q0) r.2.1, .ref 8910, .ref 8911, .v Enc.bool r.2.2.2.2] (some (A 9000))), (8910, .arr 64 (Enc.pr Enc.bool (Enc.sl (Enc.int .u8))) r.2.2.1), (8911, .arr 3 Q0 r.2.2.2.1)] := by
 refine ConM.of Try.func21 rfl Try.ntmps21 rfl ?_
 intro S w R hF
 unfold m_top_line_gone_io at h
 refine W.sub (σ' := ⟨[(0, .ptr 9000 0), (1, .v Q0 a1)], [(9000, .box 56 [.v Q2 a0_0, .v (Enc.pr Q0 Q0) a0_1, .v (Enc.sl (Enc.pr Enc.bool (Enc.sl (Enc.int .u8)))) a0_2, .ref 8951, .v Enc.bool a0_4] (some (A 9000))), (8951, .arr 3 Q0 a0_3)]⟩) (Sw.Sub.mk id (.c rfl (.c rfl .nil)) (.box rfl (.c rfl (.c rfl (.cons (.frz rfl rfl) (.c rfl (.c rfl .nil))))) (.arr rfl .nil)) rfl) ?_
 obtain ⟨v4, hv4, h⟩ := bind_e h
 obtain ⟨v5, hv5, h⟩ := bind_e h
 obtain ⟨v6, hv6, h⟩ := bind_e h
 obtain ⟨v7, hv7, h⟩ := bind_e h
 refine W.dr4 (σ' := ⟨[(0, .ptr 9000 0)], [(9000, .box 56 [.v Q2 a0_0, .v (Enc.pr Q0 Q0) a0_1, .ref 103, .ref 8951, .v Enc.bool a0_4] (some (A 9000))), (103, .arr 64 (Enc.pr Enc.bool (Enc.sl (Enc.int .u8))) v7), (8951, .arr 3 Q0 a0_3)]⟩) 20 [0, 0, 0, 4, 12, 28, 0, 124, 254, 0, 512, 1536, 3584, 0, 8192, 32256, 65534, 131071, 262143, 524287] mixed (by exact (.cons (.none rfl) (JO.move rfl) rfl (.cons (.none rfl) (JO.litR (e := (Enc.pr Enc.bool (Enc.sl (Enc.int .u8)))) 101 Try.runUnderlying54 Try.sizeOf64 Try.zeroValue64 rfl rfl rfl rfl .nil) rfl (.cons (.none rfl) (JO.move rfl) rfl (.cons (.none rfl) (JO.nilPtr rfl) rfl (.cons (.none rfl) (JO.fieldPtr 5 rfl Try.runUnderlying56 rfl Try.sizeOf54 rfl rfl) rfl (.cons (.none rfl) (JO.load rfl rfl rfl Try.isAgg54 Try.sizeOf54) rfl (.cons (.none rfl) (JO.move rfl) rfl (.cons (.none rfl) (JO.slHi hv4 rfl rfl Try.runUnderlying54 Try.sizeOf64) rfl (JP4.append (.none rfl) 102 hv5 rfl rfl (.sl rfl) Try.runUnderlying54 Try.typeInfo64 Try.sizeOf64 rfl rfl rfl rfl rfl (.cons (.none rfl) (JO.move rfl) rfl (.cons (.none rfl) (JO.nilPtr rfl) rfl (.cons (.none rfl) (JO.fieldPtr 5 rfl Try.runUnderlying56 rfl Try.sizeOf54 rfl rfl) rfl (.cons (.none rfl) (JO.load rfl rfl rfl Try.isAgg54 Try.sizeOf54) rfl (.cons (.none rfl) (JO.move rfl) rfl (.cons (.none rfl) (JO.arith rfl rfl rfl) rfl (.cons (.none rfl) (JO.slLo hv6 rfl rfl Try.runUnderlying54 Try.sizeOf64) rfl (JP4.append (.none rfl) 103 hv7 rfl rfl (.sl rfl) Try.runUnderlying54 Try.typeInfo64 Try.sizeOf64 rfl rfl rfl rfl rfl (.cons (.none rfl) (JO.nilPtr rfl) rfl (.cons (.none rfl) (JO.fieldPtr 5 rfl Try.runUnderlying56 rfl Try.sizeOf54 rfl rfl) rfl (JP4.store (.none rfl) rfl rfl rfl rfl rfl rfl rfl Try.sizeOf54 .nil))))))))))))))))))))) (by exact (J.fin (Sw.Sub.mk id (.c rfl .nil) (.box rfl (.c rfl (.c rfl (.c rfl (.c rfl (.c rfl .nil))))) (.arr rfl (.arr rfl .nil))) rfl))) rfl (by decide +kernel) (by decide +kernel) (by decide +kernel) (by kernel_rfl) (by kernel_rfl) ?_
 refine W.nil ?_
 obtain rfl := Option.some.inj h
 exact XQ.sub (σ' := ⟨[(0, .ptr 9000 0)], [(9000, .box 56 [.v Q2 a0_0, .v (Enc.pr Q0 Q0) a0_1, .ref 8910, .ref 8911, .v Enc.bool a0_4] (some (A 9000))), (8911, .arr 3 Q0 a0_3), (8910, .arr 64 (Enc.pr Enc.bool (Enc.sl (Enc.int .u8))) v7)]⟩) (Sw.Sub.mk (rn [(9000, 9000), (8911, 8951), (8910, 103)]) (.c rfl .nil) (.box rfl (.c rfl (.c rfl (.c rfl (.c rfl (.c rfl .nil))))) (.arr rfl (.arr rfl .nil))) rfl) (XQ.normM0 hF rfl  (.cons rfl (.cons rfl (.cons rfl .nil))))
end Go.Cn
