/- The functions that this law reaches come to what their models come to. Conditions: none. -/
import Derived.Test.YteckohdbfkhmdabMoCacheSays
import Derived.KernelRfl
import Derived.Test.YteckohdbfkhmdabChecked
set_option linter.unusedVariables false
set_option linter.unusedSimpArgs false
namespace Go.Cn
open Go Go.Sw Go.Mo Go.Proofs
abbrev ET : Nat := 29
theorem mixed : Try.prog.follows .mixedOrders = true := Try.checked.mixed
theorem eq56 : EqE 2 Try.prog 56 eBlk := EqE.arr Try.runUnderlying56 Try.sizeOf5 Try.isAgg5 (EqE.int Try.underlying5)
theorem key56 : KeyE 2 Try.prog 56 eBlk := KeyE.arr Try.runUnderlying56 Try.sizeOf5 Try.isAgg5 (KeyE.int Try.runUnderlying5)
theorem built151 : ∀ parts, Try.prog.built 151 parts = Instr.fill (([(0, 1), (1, 1)] : List (Nat × Nat)).toArray[·]?) ([.slice none 0 0, .map none] : List Value).toArray parts := built_struct Try.typeInfo151 Try.runUnderlying151 rfl rfl (.cons rfl (by kernel_rfl) (by kernel_rfl) (.cons rfl (by kernel_rfl) (by kernel_rfl) .nil))
set_option maxRecDepth 100000 in
set_option maxHeartbeats 4000000 in
theorem con_slices_Index_api_Block_api_Block {a0 : (List Blk)} {a1 : Blk} {r : Int} (h : m_slices_Index_api_Block_api_Block a0 a1 = some r) :
    Con Try.prog 87 [.v (Enc.sl eBlk) a0, .v eBlk a1] (.v (Enc.int .i64) r) [] := by
  refine Con.of Try.func87 rfl Try.ntmps87 rfl ?_
  intro S w hF
  unfold m_slices_Index_api_Block_api_Block at h
  refine W.seq ?_
  refine W.reg (σ' := ⟨[(0, .v (Enc.sl eBlk) a0), (3, .ptr 101 0)], [(101, .box 56 [.v eBlk a1])]⟩) (J.cons (.none rfl) (JO.box 101 rfl (.one _ _) rfl) rfl rfl (J.cons (.none rfl) (JO.assign rfl) rfl rfl (J.fin (Sw.Sub.mk id (.cons rfl (.of_eq rfl) (.cons rfl (.of_eq rfl) .nil)) (.box rfl (.cons (.of_eq rfl) .nil) .nil) rfl)))) ?_
  refine W.seq ?_
  refine W.seq ?_
  refine W.reg (σ' := ⟨[(0, .v (Enc.sl eBlk) a0), (3, .ptr 101 0), (7, .v (Enc.int .i64) (a0.length : Int)), (8, .v (Enc.int .i64) (0 : Int))], [(101, .box 56 [.v eBlk a1])]⟩) (J.cons (.none rfl) (JO.move rfl) rfl rfl (J.cons (.none rfl) (JO.len rfl Try.runUnderlying26) rfl rfl (J.cons (.none rfl) (JO.move rfl) rfl rfl (J.fin (Sw.Sub.mk id (.cons rfl (.of_eq rfl) (.cons rfl (.of_eq rfl) (.cons rfl (.of_eq rfl) (.cons rfl (.of_eq rfl) .nil)))) (.box rfl (.cons (.of_eq rfl) .nil) .nil) rfl))))) ?_
  obtain ⟨o13, ho13, hb13, hr13⟩ := lp_elim h
  refine W.lp (σs := fun s9 : Int => ⟨[(0, .v (Enc.sl eBlk) a0), (3, .ptr 101 0), (7, .v (Enc.int .i64) (a0.length : Int)), (8, .v (Enc.int .i64) s9)], [(101, .box 56 [.v eBlk a1])]⟩) (fun x14 : Unit => ⟨[], []⟩) ho13 (Sw.Sub.mk id (.cons rfl (.of_eq rfl) (.cons rfl (.of_eq rfl) (.cons rfl (.of_eq rfl) (.cons rfl (.of_eq rfl) .nil)))) (.box rfl (.cons (.of_eq rfl) .nil) .nil) rfl) ?_ ?_
  · intro x14 hy
    have h := hb13 _ hy
    refine W.seq ?_
    refine W.reg (σ' := ⟨[(4, .v (Enc.int .i64) (-1 : Int))], []⟩) (J.cons (.none rfl) (JO.assign rfl) rfl rfl (J.fin (Sw.Sub.mk id (.cons rfl (.of_eq rfl) .nil) .nil rfl))) ?_
    refine W.ret ?_
    obtain rfl := Option.some.inj h
    exact XQ.sub (σ' := ⟨[(4, .v (Enc.int .i64) (-1 : Int))], []⟩) (Sw.Sub.mk id (.cons rfl (.of_eq rfl) .nil) .nil rfl) (XQ.ret1 hF noR rfl (RV.tmp rfl) .nil rfl)
  intro s9 r13 h
  refine W.seq ?_
  refine W.reg (σ' := ⟨[(0, .v (Enc.sl eBlk) a0), (3, .ptr 101 0), (7, .v (Enc.int .i64) (a0.length : Int)), (8, .v (Enc.int .i64) s9), (9, .v Enc.bool (cm .lss s9 (a0.length : Int)))], [(101, .box 56 [.v eBlk a1])]⟩) (J.cons (.none rfl) (JO.cmp rfl rfl rfl) rfl rfl (J.fin (Sw.Sub.mk id (.cons rfl (.of_eq rfl) (.cons rfl (.of_eq rfl) (.cons rfl (.of_eq rfl) (.cons rfl (.of_eq rfl) (.cons rfl (.of_eq rfl) .nil))))) (.box rfl (.cons (.of_eq rfl) .nil) .nil) rfl))) ?_
  refine W.seq ?_
  rcases Bool.eq_false_or_eq_true (cm .lss s9 (a0.length : Int)) with hc15 | hc15
  · replace h := cond_t hc15 h
    refine W.condT rfl hc15 ?_
    refine W.skip ?_
    refine W.seq ?_
    refine W.block ?_
    refine W.seq ?_
    refine W.reg (σ' := ⟨[(0, .v (Enc.sl eBlk) a0), (3, .ptr 101 0), (5, .v (Enc.int .i64) s9), (7, .v (Enc.int .i64) (a0.length : Int)), (8, .v (Enc.int .i64) s9)], [(101, .box 56 [.v eBlk a1])]⟩) (J.cons (.none rfl) (JO.move rfl) rfl rfl (J.cons (.none rfl) (JO.assign rfl) rfl rfl (J.fin (Sw.Sub.mk id (.cons rfl (.of_eq rfl) (.cons rfl (.of_eq rfl) (.cons rfl (.of_eq rfl) (.cons rfl (.of_eq rfl) (.cons rfl (.of_eq rfl) .nil))))) (.box rfl (.cons (.of_eq rfl) .nil) .nil) rfl)))) ?_
    refine W.seq ?_
    obtain ⟨z16, hz16, h⟩ := bind_e h
    refine W.dr2 (σ' := ⟨[(0, .v (Enc.sl eBlk) a0), (3, .ptr 101 0), (5, .v (Enc.int .i64) s9), (7, .v (Enc.int .i64) (a0.length : Int)), (8, .v (Enc.int .i64) s9), (16, .v Enc.bool (decide (a1 = z16)))], [(101, .box 56 [.v eBlk a1])]⟩) 6 [0, 0, 0, 6, 14, 31] mixed (by exact (.cons (.none rfl) (JO.load rfl rfl rfl Try.isAgg56 Try.sizeOf56) rfl rfl (.cons (.none rfl) (JO.move rfl) rfl rfl (.cons (.none rfl) (JO.move rfl) rfl rfl (.cons (.none rfl) (JO.idx hz16 rfl rfl Try.runUnderlying26 Try.sizeOf56) rfl rfl (.cons (.none rfl) (JO.loadPst rfl Try.isAgg56 Try.sizeOf56) rfl rfl (.cons (.none rfl) (JO.eqV eq56 rfl rfl Try.eqGuardType56 rfl rfl) rfl rfl .nil))))))) (by exact (J.fin (Sw.Sub.mk id (.cons rfl (.of_eq rfl) (.cons rfl (.of_eq rfl) (.cons rfl (.of_eq rfl) (.cons rfl (.of_eq rfl) (.cons rfl (.of_eq rfl) (.cons rfl (.of_eq rfl) .nil)))))) (.box rfl (.cons (.of_eq rfl) .nil) .nil) rfl))) rfl (by decide +kernel) (by decide +kernel) (by decide +kernel) (by kernel_rfl) ?_
    rcases Bool.eq_false_or_eq_true (decide (a1 = z16)) with hc17 | hc17
    · replace h := cond_t hc17 h
      refine W.condT rfl hc17 ?_
      refine W.seq ?_
      refine W.reg (σ' := ⟨[(4, .v (Enc.int .i64) s9)], []⟩) (J.cons (.none rfl) (JO.move rfl) rfl rfl (J.cons (.none rfl) (JO.assign rfl) rfl rfl (J.fin (Sw.Sub.mk id (.cons rfl (.of_eq rfl) .nil) .nil rfl)))) ?_
      refine W.ret ?_
      refine XQ.ret ?_
      obtain rfl := Option.some.inj h
      refine XQ.lret fun ho => ?_
      obtain rfl := hr13 _ ho
      exact XQ.sub (σ' := ⟨[(4, .v (Enc.int .i64) s9)], []⟩) (Sw.Sub.mk id (.cons rfl (.of_eq rfl) .nil) .nil rfl) (XQ.ret1 hF noR rfl (RV.tmp rfl) .nil rfl)
    · replace h := cond_f hc17 h
      refine W.condF rfl hc17 ?_
      refine W.skip ?_
      refine W.fall ?_
      refine W.reg (σ' := ⟨[(0, .v (Enc.sl eBlk) a0), (3, .ptr 101 0), (7, .v (Enc.int .i64) (a0.length : Int)), (8, .v (Enc.int .i64) (ar .add .i64 s9 (1 : Int)))], [(101, .box 56 [.v eBlk a1])]⟩) (J.cons (.none rfl) (JO.arith rfl rfl rfl) rfl rfl (J.cons (.none rfl) (JO.move rfl) rfl rfl (J.fin (Sw.Sub.mk id (.cons rfl (.of_eq rfl) (.cons rfl (.of_eq rfl) (.cons rfl (.of_eq rfl) (.cons rfl (.of_eq rfl) .nil)))) (.box rfl (.cons (.of_eq rfl) .nil) .nil) rfl)))) ?_
      obtain rfl := Option.some.inj h
      exact W.next (Sw.Sub.mk id (.cons rfl (.of_eq rfl) (.cons rfl (.of_eq rfl) (.cons rfl (.of_eq rfl) (.cons rfl (.of_eq rfl) .nil)))) (.box rfl (.cons (.of_eq rfl) .nil) .nil) rfl)
  · replace h := cond_f hc15 h
    refine W.condF rfl hc15 ?_
    refine W.exit ?_
    obtain rfl := Option.some.inj h
    exact XQ.brk (Sw.Sub.mk id .nil .nil rfl)
set_option maxRecDepth 100000 in
set_option maxHeartbeats 4000000 in
theorem con_cache_Find {a0 : (List Blk)} {a1 : Blk} {r : Int × Bool} (h : m_cache_Find a0 a1 = some r) :
    Con Try.prog 40 [.v (Enc.sl eBlk) a0, .v eBlk a1] (.tup [.v (Enc.int .i64) r.1, .v Enc.bool r.2]) [] := by
  refine Con.of Try.func40 rfl Try.ntmps40 rfl ?_
  intro S w hF
  unfold m_cache_Find at h
  refine W.seq ?_
  refine W.reg (σ' := ⟨[(0, .v (Enc.sl eBlk) a0), (3, .ptr 101 0)], [(101, .box 56 [.v eBlk a1])]⟩) (J.cons (.none rfl) (JO.box 101 rfl (.one _ _) rfl) rfl rfl (J.cons (.none rfl) (JO.assign rfl) rfl rfl (J.cons (.none rfl) (JO.assign rfl) rfl rfl (J.fin (Sw.Sub.mk id (.cons rfl (.of_eq rfl) (.cons rfl (.of_eq rfl) .nil)) (.box rfl (.cons (.of_eq rfl) .nil) .nil) rfl))))) ?_
  refine W.seq ?_
  obtain ⟨v1, hv1, h⟩ := bind_e h
  refine W.reg (σ' := ⟨[(6, .v (Enc.int .i64) v1)], []⟩) (J.cons (.none rfl) (JO.move rfl) rfl rfl (J.cons (.none rfl) (JO.load rfl rfl rfl Try.isAgg56 Try.sizeOf56) rfl rfl (J.cons (.none rfl) (JO.call0 (con_slices_Index_api_Block_api_Block hv1) Try.call87 (.cons (.dir rfl) (.cons (.dir rfl) .nil))) rfl rfl (J.cons (.none rfl) (JO.assign rfl) rfl rfl (J.fin (Sw.Sub.mk id (.cons rfl (.of_eq rfl) .nil) .nil rfl)))))) ?_
  refine W.seq ?_
  refine W.reg (σ' := ⟨[(4, .v (Enc.int .i64) (max v1 (0 : Int))), (5, .v Enc.bool (cm .geq v1 (0 : Int)))], []⟩) (J.cons (.none rfl) (JO.move rfl) rfl rfl (J.cons (.none rfl) (JO.gmax rfl rfl) rfl rfl (J.cons (.none rfl) (JO.move rfl) rfl rfl (J.cons (.none rfl) (JO.cmp rfl rfl rfl) rfl rfl (J.cons (.none rfl) (JO.assign rfl) rfl rfl (J.cons (.none rfl) (JO.assign rfl) rfl rfl (J.fin (Sw.Sub.mk id (.cons rfl (.of_eq rfl) (.cons rfl (.of_eq rfl) .nil)) .nil rfl)))))))) ?_
  refine W.ret ?_
  obtain rfl := Option.some.inj h
  exact XQ.sub (σ' := ⟨[(4, .v (Enc.int .i64) (max v1 (0 : Int))), (5, .v Enc.bool (cm .geq v1 (0 : Int)))], []⟩) (Sw.Sub.mk id (.cons rfl (.of_eq rfl) (.cons rfl (.of_eq rfl) .nil)) .nil rfl) (XQ.ret2 hF noR rfl (RV.tmp rfl) (RV.tmp rfl) .nil rfl)
set_option maxRecDepth 100000 in
set_option maxHeartbeats 4000000 in
theorem con_ref_First {a0 : (List Blk)} {a1 : Blk} {r : Int} (h : m_ref_First a0 a1 = some r) :
    Con Try.prog 41 [.v (Enc.sl eBlk) a0, .v eBlk a1] (.v (Enc.int .i64) r) [] := by
  refine Con.of Try.func41 rfl Try.ntmps41 rfl ?_
  intro S w hF
  unfold m_ref_First at h
  refine W.seq ?_
  refine W.reg (σ' := ⟨[(0, .v (Enc.sl eBlk) a0), (3, .ptr 101 0)], [(101, .box 56 [.v eBlk a1])]⟩) (J.cons (.none rfl) (JO.box 101 rfl (.one _ _) rfl) rfl rfl (J.cons (.none rfl) (JO.assign rfl) rfl rfl (J.fin (Sw.Sub.mk id (.cons rfl (.of_eq rfl) (.cons rfl (.of_eq rfl) .nil)) (.box rfl (.cons (.of_eq rfl) .nil) .nil) rfl)))) ?_
  refine W.seq ?_
  refine W.seq ?_
  refine W.reg (σ' := ⟨[(0, .v (Enc.sl eBlk) a0), (3, .ptr 101 0), (5, .v (Enc.int .i64) (0 : Int))], [(101, .box 56 [.v eBlk a1])]⟩) (J.cons (.none rfl) (JO.assign rfl) rfl rfl (J.fin (Sw.Sub.mk id (.cons rfl (.of_eq rfl) (.cons rfl (.of_eq rfl) (.cons rfl (.of_eq rfl) .nil))) (.box rfl (.cons (.of_eq rfl) .nil) .nil) rfl))) ?_
  obtain ⟨o13, ho13, hb13, hr13⟩ := lp_elim h
  refine W.lp (σs := fun s9 : Int => ⟨[(0, .v (Enc.sl eBlk) a0), (3, .ptr 101 0), (5, .v (Enc.int .i64) s9)], [(101, .box 56 [.v eBlk a1])]⟩) (fun x14 : Unit => ⟨[], []⟩) ho13 (Sw.Sub.mk id (.cons rfl (.of_eq rfl) (.cons rfl (.of_eq rfl) (.cons rfl (.of_eq rfl) .nil))) (.box rfl (.cons (.of_eq rfl) .nil) .nil) rfl) ?_ ?_
  · intro x14 hy
    have h := hb13 _ hy
    refine W.seq ?_
    refine W.reg (σ' := ⟨[(4, .v (Enc.int .i64) (-1 : Int))], []⟩) (J.cons (.none rfl) (JO.assign rfl) rfl rfl (J.fin (Sw.Sub.mk id (.cons rfl (.of_eq rfl) .nil) .nil rfl))) ?_
    refine W.ret ?_
    obtain rfl := Option.some.inj h
    exact XQ.sub (σ' := ⟨[(4, .v (Enc.int .i64) (-1 : Int))], []⟩) (Sw.Sub.mk id (.cons rfl (.of_eq rfl) .nil) .nil rfl) (XQ.ret1 hF noR rfl (RV.tmp rfl) .nil rfl)
  intro s9 r13 h
  refine W.seq ?_
  refine W.seq ?_
  refine W.reg (σ' := ⟨[(0, .v (Enc.sl eBlk) a0), (3, .ptr 101 0), (5, .v (Enc.int .i64) s9), (9, .v Enc.bool (cm .lss s9 (a0.length : Int)))], [(101, .box 56 [.v eBlk a1])]⟩) (J.cons (.none rfl) (JO.move rfl) rfl rfl (J.cons (.none rfl) (JO.move rfl) rfl rfl (J.cons (.none rfl) (JO.len rfl Try.runUnderlying26) rfl rfl (J.cons (.none rfl) (JO.cmp rfl rfl rfl) rfl rfl (J.fin (Sw.Sub.mk id (.cons rfl (.of_eq rfl) (.cons rfl (.of_eq rfl) (.cons rfl (.of_eq rfl) (.cons rfl (.of_eq rfl) .nil)))) (.box rfl (.cons (.of_eq rfl) .nil) .nil) rfl)))))) ?_
  rcases Bool.eq_false_or_eq_true (cm .lss s9 (a0.length : Int)) with hc15 | hc15
  · replace h := cond_t hc15 h
    refine W.condT rfl hc15 ?_
    refine W.skip ?_
    refine W.seq ?_
    refine W.block ?_
    refine W.seq ?_
    obtain ⟨z16, hz16, h⟩ := bind_e h
    refine W.dr2 (σ' := ⟨[(0, .v (Enc.sl eBlk) a0), (3, .ptr 101 0), (5, .v (Enc.int .i64) s9), (17, .v Enc.bool (decide (z16 = a1)))], [(101, .box 56 [.v eBlk a1])]⟩) 6 [0, 0, 3, 7, 0, 31] mixed (by exact (.cons (.none rfl) (JO.move rfl) rfl rfl (.cons (.none rfl) (JO.move rfl) rfl rfl (.cons (.none rfl) (JO.idx hz16 rfl rfl Try.runUnderlying26 Try.sizeOf56) rfl rfl (.cons (.none rfl) (JO.loadPst rfl Try.isAgg56 Try.sizeOf56) rfl rfl (.cons (.none rfl) (JO.load rfl rfl rfl Try.isAgg56 Try.sizeOf56) rfl rfl (.cons (.none rfl) (JO.eqV eq56 rfl rfl Try.eqGuardType56 rfl rfl) rfl rfl .nil))))))) (by exact (J.fin (Sw.Sub.mk id (.cons rfl (.of_eq rfl) (.cons rfl (.of_eq rfl) (.cons rfl (.of_eq rfl) (.cons rfl (.of_eq rfl) .nil)))) (.box rfl (.cons (.of_eq rfl) .nil) .nil) rfl))) rfl (by decide +kernel) (by decide +kernel) (by decide +kernel) (by kernel_rfl) ?_
    rcases Bool.eq_false_or_eq_true (decide (z16 = a1)) with hc17 | hc17
    · replace h := cond_t hc17 h
      refine W.condT rfl hc17 ?_
      refine W.seq ?_
      refine W.reg (σ' := ⟨[(4, .v (Enc.int .i64) s9)], []⟩) (J.cons (.none rfl) (JO.move rfl) rfl rfl (J.cons (.none rfl) (JO.assign rfl) rfl rfl (J.fin (Sw.Sub.mk id (.cons rfl (.of_eq rfl) .nil) .nil rfl)))) ?_
      refine W.ret ?_
      refine XQ.ret ?_
      obtain rfl := Option.some.inj h
      refine XQ.lret fun ho => ?_
      obtain rfl := hr13 _ ho
      exact XQ.sub (σ' := ⟨[(4, .v (Enc.int .i64) s9)], []⟩) (Sw.Sub.mk id (.cons rfl (.of_eq rfl) .nil) .nil rfl) (XQ.ret1 hF noR rfl (RV.tmp rfl) .nil rfl)
    · replace h := cond_f hc17 h
      refine W.condF rfl hc17 ?_
      refine W.skip ?_
      refine W.fall ?_
      refine W.reg (σ' := ⟨[(0, .v (Enc.sl eBlk) a0), (3, .ptr 101 0), (5, .v (Enc.int .i64) (ar .add .i64 s9 (1 : Int)))], [(101, .box 56 [.v eBlk a1])]⟩) (J.cons (.none rfl) (JO.move rfl) rfl rfl (J.cons (.none rfl) (JO.arith rfl rfl rfl) rfl rfl (J.cons (.none rfl) (JO.assign rfl) rfl rfl (J.fin (Sw.Sub.mk id (.cons rfl (.of_eq rfl) (.cons rfl (.of_eq rfl) (.cons rfl (.of_eq rfl) .nil))) (.box rfl (.cons (.of_eq rfl) .nil) .nil) rfl))))) ?_
      obtain rfl := Option.some.inj h
      exact W.next (Sw.Sub.mk id (.cons rfl (.of_eq rfl) (.cons rfl (.of_eq rfl) (.cons rfl (.of_eq rfl) .nil))) (.box rfl (.cons (.of_eq rfl) .nil) .nil) rfl)
  · replace h := cond_f hc15 h
    refine W.condF rfl hc15 ?_
    refine W.exit ?_
    obtain rfl := Option.some.inj h
    exact XQ.brk (Sw.Sub.mk id .nil .nil rfl)
set_option maxRecDepth 100000 in
set_option maxHeartbeats 4000000 in
theorem con_slices_Clone_api_Block_api_Block_nil {a0 : (Bool × (List Blk))} {r : (List Blk)} (h : m_slices_Clone_api_Block_api_Block_nil a0 = some r) :
    Con Try.prog 88 [.v (Enc.slN eBlk) a0] (.ref 0) [(0, .arr 56 eBlk r)] := by
  refine Con.of Try.func88 rfl Try.ntmps88 rfl ?_
  intro S w hF
  unfold m_slices_Clone_api_Block_api_Block_nil at h
  refine W.seq ?_
  refine W.reg (σ' := ⟨[(0, .v (Enc.slN eBlk) a0)], []⟩) (J.cons (.none rfl) (JO.assignNilR 101 56 eBlk) rfl rfl (J.fin (Sw.Sub.mk id (.cons rfl (.of_eq rfl) .nil) .nil rfl))) ?_
  refine W.seq ?_
  refine W.seq ?_
  refine W.reg (σ' := ⟨[(0, .v (Enc.slN eBlk) a0), (4, .v Enc.bool a0.1)], []⟩) (J.cons (.none rfl) (JO.move rfl) rfl rfl (J.cons (.none rfl) (JO.eqNilS rfl Try.runUnderlying26) rfl rfl (J.fin (Sw.Sub.mk id (.cons rfl (.of_eq rfl) (.cons rfl (.of_eq rfl) .nil)) .nil rfl)))) ?_
  rcases Bool.eq_false_or_eq_true a0.1 with hc1 | hc1
  · replace h := cond_t hc1 h
    refine W.condT rfl hc1 ?_
    refine W.seq ?_
    refine W.reg (σ' := ⟨[(2, .ref 102)], [(102, .arr 56 eBlk ([] : (List Blk)))]⟩) (J.cons (.none rfl) (JO.assignNilR 102 56 eBlk) rfl rfl (J.fin (Sw.Sub.mk id (.cons rfl (.of_eq rfl) .nil) (.arr rfl .nil) rfl))) ?_
    refine W.ret ?_
    obtain rfl := Option.some.inj h
    exact XQ.sub (σ' := ⟨[(2, .ref 0)], [(0, .arr 56 eBlk ([] : (List Blk)))]⟩) (Sw.Sub.mk (rn [(0, 102)]) (.cons rfl (.of_eq rfl) .nil) (.arr rfl .nil) rfl) (XQ.ret1 hF noR rfl (RV.tmp rfl) (.cons rfl .nil) rfl)
  · replace h := cond_f hc1 h
    refine W.condF rfl hc1 ?_
    refine W.skip ?_
    refine W.seq ?_
    obtain ⟨v2, hv2, h⟩ := bind_e h
    refine W.reg (σ' := ⟨[(2, .ref 104)], [(104, .arr 56 eBlk v2)]⟩) (J.cons (.none rfl) (JO.litR (e := eBlk) 103 Try.runUnderlying26 Try.sizeOf56 Try.zeroValue56 rfl rfl rfl rfl .nil) rfl rfl (J.cons (.none rfl) (JO.move rfl) rfl rfl (J.mut (.none rfl) (JM.append 104 hv2 rfl rfl (.slN rfl) Try.runUnderlying26 Try.typeInfo56 Try.sizeOf56 rfl rfl rfl rfl rfl) (J.cons (.none rfl) (JO.assign rfl) rfl rfl (J.fin (Sw.Sub.mk id (.cons rfl (.of_eq rfl) .nil) (.arr rfl .nil) rfl)))))) ?_
    refine W.ret ?_
    obtain rfl := Option.some.inj h
    exact XQ.sub (σ' := ⟨[(2, .ref 0)], [(0, .arr 56 eBlk v2)]⟩) (Sw.Sub.mk (rn [(0, 104)]) (.cons rfl (.of_eq rfl) .nil) (.arr rfl .nil) rfl) (XQ.ret1 hF noR rfl (RV.tmp rfl) (.cons rfl .nil) rfl)
theorem con_slices_Clone_api_Block_api_Block {a0 : (List Blk)} {r : (List Blk)} (h : m_slices_Clone_api_Block_api_Block a0 = some r) :
    Con Try.prog 88 [.v (Enc.sl eBlk) a0] (.ref 0) [(0, .arr 56 eBlk r)] :=
  Con.nilCases fun b hb => con_slices_Clone_api_Block_api_Block_nil (by cases b with | true => rw [hb rfl] at h ⊢; exact h | false => exact clone_f h)
def res_cache_New (r : (Option ((List Blk) × (List (Blk × (List Int))))) × (Option Int)) : Slot := match r.1 with | none => .tup [.v (Enc.ptN (Enc.pr (Enc.sl eBlk) (Enc.mpF eBlk (Enc.sl (Enc.int .i64))))) (none : (Option ((List Blk) × (List (Blk × (List Int)))))), .v (Enc.err ET) r.2] | some z => .tup [.ptr 2 0, .v (Enc.err ET) r.2]
def new_cache_New (r : (Option ((List Blk) × (List (Blk × (List Int))))) × (Option Int)) : List (Nat × Ent) := match r.1 with | none => [] | some z => [(0, .arr 56 eBlk z.1), (1, .dp (DE.mps false eBlk 3 (Enc.int .i64)) (z.2, none) []), (2, .box 151 [.ref 0, .ref 1])]
set_option maxRecDepth 100000 in
set_option maxHeartbeats 4000000 in
theorem con_cache_New {a0 : (List Blk)} {r : (Option ((List Blk) × (List (Blk × (List Int))))) × (Option Int)} (h : m_cache_New a0 = some r) :
    Con Try.prog 42 [.v (Enc.sl eBlk) a0] (res_cache_New r) (new_cache_New r) := by
  refine Con.of Try.func42 rfl Try.ntmps42 rfl ?_
  intro S w hF
  unfold m_cache_New at h
  refine W.seq ?_
  refine W.reg (σ' := ⟨[(0, .v (Enc.sl eBlk) a0)], []⟩) (J.cons (.none rfl) (JO.assignPtN (Enc.pr (Enc.sl eBlk) (Enc.mpF eBlk (Enc.sl (Enc.int .i64))))) rfl rfl (J.cons (.none rfl) (JO.assignNilE ET) rfl rfl (J.fin (Sw.Sub.mk id (.cons rfl (.of_eq rfl) .nil) .nil rfl)))) ?_
  refine W.seq ?_
  refine W.seq ?_
  obtain ⟨x2, hx, h⟩ := bind_e h
  refine W.reg (σ' := ⟨[(0, .v (Enc.sl eBlk) a0), (14, .v Enc.bool x2)], []⟩) ?_ ?_
  · rcases Bool.eq_false_or_eq_true (cm .lss (a0.length : Int) (1 : Int)) with hc3 | hc3
    · replace hx := cond_t hc3 hx
      obtain rfl := Option.some.inj hx
      exact (J.cons (.none rfl) (JO.move rfl) rfl rfl (J.cons (.none rfl) (JO.len rfl Try.runUnderlying26) rfl rfl (J.cons (.none rfl) (JO.cmp rfl rfl rfl) rfl rfl (J.cons (.none rfl) (JO.move rfl) rfl rfl (J.left (GK.unmet 10 rfl rfl rfl hc3) rfl (J.left (GK.unmet 10 rfl rfl rfl hc3) rfl (J.left (GK.unmet 10 rfl rfl rfl hc3) rfl (J.cons (.none rfl) (JO.pT hc3 rfl rfl) rfl rfl (J.fin (Sw.Sub.mk id (.cons rfl (.of_eq rfl) (.cons rfl (.of_eq rfl) .nil)) .nil rfl))))))))))
    · replace hx := cond_f hc3 hx
      obtain rfl := Option.some.inj hx
      exact (J.cons (.none rfl) (JO.move rfl) rfl rfl (J.cons (.none rfl) (JO.len rfl Try.runUnderlying26) rfl rfl (J.cons (.none rfl) (JO.cmp rfl rfl rfl) rfl rfl (J.cons (.none rfl) (JO.move rfl) rfl rfl (J.cons (GK.met 10 rfl rfl rfl hc3) (JO.move rfl) rfl rfl (J.cons (GK.met 10 rfl rfl rfl hc3) (JO.len rfl Try.runUnderlying26) rfl rfl (J.cons (GK.met 10 rfl rfl rfl hc3) (JO.cmp rfl rfl rfl) rfl rfl (J.cons (.none rfl) (JO.pF hc3 rfl rfl) rfl rfl (J.fin (Sw.Sub.mk id (.cons rfl (.of_eq rfl) (.cons rfl (.of_eq rfl) .nil)) .nil rfl))))))))))
  rcases Bool.eq_false_or_eq_true x2 with hc4 | hc4
  · replace h := cond_t hc4 h
    refine W.condT rfl hc4 ?_
    refine W.seq ?_
    refine W.reg (σ' := ⟨[(2, .v (Enc.ptN (Enc.pr (Enc.sl eBlk) (Enc.mpF eBlk (Enc.sl (Enc.int .i64))))) (none : (Option ((List Blk) × (List (Blk × (List Int))))))), (3, .v (Enc.err ET) (some (1 : Int)))], []⟩) (J.cons (.none rfl) (JO.mkErr Try.runUnderlying29 rfl) rfl rfl (J.cons (.none rfl) (JO.assignPtN (Enc.pr (Enc.sl eBlk) (Enc.mpF eBlk (Enc.sl (Enc.int .i64))))) rfl rfl (J.cons (.none rfl) (JO.assign rfl) rfl rfl (J.fin (Sw.Sub.mk id (.cons rfl (.of_eq rfl) (.cons rfl (.of_eq rfl) .nil)) .nil rfl))))) ?_
    refine W.ret ?_
    obtain rfl := Option.some.inj h
    exact XQ.sub (σ' := ⟨[(2, .v (Enc.ptN (Enc.pr (Enc.sl eBlk) (Enc.mpF eBlk (Enc.sl (Enc.int .i64))))) (none : (Option ((List Blk) × (List (Blk × (List Int))))))), (3, .v (Enc.err ET) (some (1 : Int)))], []⟩) (Sw.Sub.mk id (.cons rfl (.of_eq rfl) (.cons rfl (.of_eq rfl) .nil)) .nil rfl) (XQ.ret2 hF noR rfl (RV.tmp rfl) (RV.tmp rfl) .nil rfl)
  · replace h := cond_f hc4 h
    refine W.condF rfl hc4 ?_
    refine W.skip ?_
    refine W.seq ?_
    obtain ⟨v5, hv5, h⟩ := bind_e h
    refine W.reg (σ' := ⟨[(0, .v (Enc.sl eBlk) a0), (4, .ptr 103 0)], [(103, .box 151 [.ref 101000, .ref 102]), (101000, .arr 56 eBlk v5), (102, .dp (DE.mps true eBlk 3 (Enc.int .i64)) (([] : List (Blk × (List Int))), none) [])]⟩) (J.cons (.none rfl) (JO.move rfl) rfl rfl (J.cons (.none rfl) (JO.call 101000 (con_slices_Clone_api_Block_api_Block hv5) Try.call88 (.cons (.dir rfl) .nil) rfl) rfl rfl (J.cons (.none rfl) (JO.makeMapS 102 eBlk 3 (Enc.int .i64)) rfl rfl (J.cons (.none rfl) (JO.build built151 (.cons (Z.sl eBlk) (.cons (Z.mpF eBlk (Enc.sl (Enc.int .i64))) .nil)) (.cons rfl (.dir rfl) rfl rfl rfl rfl (.cons rfl (.dir rfl) rfl rfl rfl rfl .nil))) rfl rfl (J.cons (.none rfl) (JO.boxAgg 103 rfl rfl) rfl rfl (J.cons (.none rfl) (JO.assign rfl) rfl rfl (J.fin (Sw.Sub.mk id (.cons rfl (.of_eq rfl) (.cons rfl (.of_eq rfl) .nil)) (.box rfl (.cons (.of_eq rfl) (.cons (.of_eq rfl) .nil)) (.arr rfl (.dp rfl .nil))) rfl)))))))) ?_
    refine W.seq ?_
    refine W.seq ?_
    refine W.reg (σ' := ⟨[(4, .ptr 103 0), (21, .v (Enc.sl eBlk) a0), (22, .v (Enc.int .i64) (a0.length : Int)), (23, .v (Enc.int .i64) (0 : Int))], [(103, .box 151 [.ref 101000, .ref 102]), (101000, .arr 56 eBlk v5), (102, .dp (DE.mps true eBlk 3 (Enc.int .i64)) (([] : List (Blk × (List Int))), none) [])]⟩) (J.cons (.none rfl) (JO.move rfl) rfl rfl (J.cons (.none rfl) (JO.len rfl Try.runUnderlying26) rfl rfl (J.cons (.none rfl) (JO.move rfl) rfl rfl (J.fin (Sw.Sub.mk id (.cons rfl (.of_eq rfl) (.cons rfl (.of_eq rfl) (.cons rfl (.of_eq rfl) (.cons rfl (.of_eq rfl) .nil)))) (.box rfl (.cons (.of_eq rfl) (.cons (.of_eq rfl) .nil)) (.arr rfl (.dp rfl .nil))) rfl))))) ?_
    obtain ⟨o27, ho27, hb27, hr27⟩ := lp_elim h
    refine W.lp (σs := fun s20 : Int × (List (Blk × (List Int))) => ⟨[(4, .ptr 103 0), (21, .v (Enc.sl eBlk) a0), (22, .v (Enc.int .i64) (a0.length : Int)), (23, .v (Enc.int .i64) s20.1)], [(103, .box 151 [.ref 101000, .ref 102]), (101000, .arr 56 eBlk v5), (102, .dp (DE.mps true eBlk 3 (Enc.int .i64)) (s20.2, none) [])]⟩) (fun x28 : (List (Blk × (List Int))) => ⟨[(4, .ptr 103 0)], [(103, .box 151 [.ref 101000, .ref 102]), (101000, .arr 56 eBlk v5), (102, .dp (DE.mps true eBlk 3 (Enc.int .i64)) (x28, none) [])]⟩) ho27 (Sw.Sub.mk id (.cons rfl (.of_eq rfl) (.cons rfl (.of_eq rfl) (.cons rfl (.of_eq rfl) (.cons rfl (.of_eq rfl) .nil)))) (.box rfl (.cons (.of_eq rfl) (.cons (.of_eq rfl) .nil)) (.arr rfl (.dp rfl .nil))) rfl) ?_ ?_
    · intro x28 hy
      have h := hb27 _ hy
      refine W.seq ?_
      refine W.reg (σ' := ⟨[(2, .ptr 103 0), (3, .v (Enc.err ET) (none : Option Int))], [(103, .box 151 [.ref 101000, .ref 102]), (101000, .arr 56 eBlk v5), (102, .dp (DE.mps true eBlk 3 (Enc.int .i64)) (x28, none) [])]⟩) (J.cons (.none rfl) (JO.move rfl) rfl rfl (J.cons (.none rfl) (JO.assign rfl) rfl rfl (J.cons (.none rfl) (JO.assignNilE ET) rfl rfl (J.fin (Sw.Sub.mk id (.cons rfl (.of_eq rfl) (.cons rfl (.of_eq rfl) .nil)) (.box rfl (.cons (.of_eq rfl) (.cons (.of_eq rfl) .nil)) (.arr rfl (.dp rfl .nil))) rfl))))) ?_
      refine W.ret ?_
      obtain rfl := Option.some.inj h
      exact XQ.sub (σ' := ⟨[(2, .ptr 2 0), (3, .v (Enc.err ET) (none : Option Int))], [(2, .box 151 [.ref 0, .ref 1]), (1, .dp (DE.mps false eBlk 3 (Enc.int .i64)) (x28, none) []), (0, .arr 56 eBlk v5)]⟩) (Sw.Sub.mk (rn [(2, 103), (1, 102), (0, 101000)]) (.cons rfl (.of_eq rfl) (.cons rfl (.of_eq rfl) .nil)) (.box rfl (.cons (.of_eq rfl) (.cons (.of_eq rfl) .nil)) (.cv rfl EntCv.mps (.arr rfl .nil))) rfl) (XQ.ret2 hF noR rfl (RV.tmp rfl) (RV.tmp rfl) (.cons rfl (.cons rfl (.cons rfl .nil))) rfl)
    intro s20 r27 h
    refine W.seq ?_
    refine W.reg (σ' := ⟨[(4, .ptr 103 0), (21, .v (Enc.sl eBlk) a0), (22, .v (Enc.int .i64) (a0.length : Int)), (23, .v (Enc.int .i64) s20.1), (24, .v Enc.bool (cm .lss s20.1 (a0.length : Int)))], [(103, .box 151 [.ref 101000, .ref 102]), (101000, .arr 56 eBlk v5), (102, .dp (DE.mps true eBlk 3 (Enc.int .i64)) (s20.2, none) [])]⟩) (J.cons (.none rfl) (JO.cmp rfl rfl rfl) rfl rfl (J.fin (Sw.Sub.mk id (.cons rfl (.of_eq rfl) (.cons rfl (.of_eq rfl) (.cons rfl (.of_eq rfl) (.cons rfl (.of_eq rfl) (.cons rfl (.of_eq rfl) .nil))))) (.box rfl (.cons (.of_eq rfl) (.cons (.of_eq rfl) .nil)) (.arr rfl (.dp rfl .nil))) rfl))) ?_
    refine W.seq ?_
    rcases Bool.eq_false_or_eq_true (cm .lss s20.1 (a0.length : Int)) with hc29 | hc29
    · replace h := cond_t hc29 h
      refine W.condT rfl hc29 ?_
      refine W.skip ?_
      refine W.seq ?_
      refine W.block ?_
      refine W.seq ?_
      obtain ⟨z30, hz30, h⟩ := bind_e h
      refine W.reg (σ' := ⟨[(4, .ptr 103 0), (5, .v (Enc.int .i64) s20.1), (6, .ptr 119 0), (21, .v (Enc.sl eBlk) a0), (22, .v (Enc.int .i64) (a0.length : Int)), (23, .v (Enc.int .i64) s20.1)], [(103, .box 151 [.ref 101000, .ref 102]), (119, .box 56 [.v eBlk z30]), (101000, .arr 56 eBlk v5), (102, .dp (DE.mps true eBlk 3 (Enc.int .i64)) (s20.2, none) [])]⟩) (J.cons (.none rfl) (JO.move rfl) rfl rfl (J.cons (.none rfl) (JO.idx hz30 rfl rfl Try.runUnderlying26 Try.sizeOf56) rfl rfl (J.cons (.none rfl) (JO.loadPst rfl Try.isAgg56 Try.sizeOf56) rfl rfl (J.cons (.none rfl) (JO.alloc 119 Try.zeroValue56 rfl (.cons (Z.arr 8 (Z.int .u8)) .nil) rfl) rfl rfl (J.cons (.none rfl) (JO.assign rfl) rfl rfl (J.mut (.none rfl) (JM.store rfl rfl rfl rfl rfl rfl rfl Try.sizeOf56) (J.fin (Sw.Sub.mk id (.cons rfl (.of_eq rfl) (.cons rfl (.of_eq rfl) (.cons rfl (.of_eq rfl) (.cons rfl (.of_eq rfl) (.cons rfl (.of_eq rfl) (.cons rfl (.of_eq rfl) .nil)))))) (.box rfl (.cons (.of_eq rfl) (.cons (.of_eq rfl) .nil)) (.box rfl (.cons (.of_eq rfl) .nil) (.arr rfl (.dp rfl .nil)))) rfl)))))))) ?_
      obtain ⟨v33, hv33, h⟩ := bind_e h
      obtain ⟨v34, hv34, h⟩ := bind_e h
      refine W.dr4 (σ' := ⟨[(4, .ptr 103 0), (21, .v (Enc.sl eBlk) a0), (22, .v (Enc.int .i64) (a0.length : Int)), (23, .v (Enc.int .i64) s20.1)], [(103, .box 151 [.ref 101000, .ref 102]), (101000, .arr 56 eBlk v5), (102, .dp (DE.mps true eBlk 3 (Enc.int .i64)) (mset v33.1 v33.2.1 v34, none) [])]⟩) 11 [0, 1, 3, 7, 0, 0, 32, 127, 255, 511, 255, 2047] mixed (by exact (.cons (.none rfl) (JO.move rfl) rfl (.cons (.none rfl) (JO.nilPtr rfl) rfl (.cons (.none rfl) (JO.fieldPtr 1 rfl Try.runUnderlying151 rfl Try.sizeOf149 rfl rfl) rfl (.cons (.none rfl) (JO.load rfl rfl rfl Try.isAgg149 Try.sizeOf149) rfl (.cons (.none rfl) (JO.load rfl rfl rfl Try.isAgg56 Try.sizeOf56) rfl (.cons (.none rfl) (JO.move rfl) rfl (.cons (.none rfl) (JO.lit (e := (Enc.int .i64)) Try.runUnderlying25 Try.sizeOf3 Try.zeroValue3 rfl rfl rfl rfl (.cons (.dir rfl) .nil)) rfl (JP4.mapEntry (.none rfl) 122 hv33 rfl rfl rfl Try.runUnderlying149 Try.runUnderlying56 eq56 rfl key56 rfl SameE.arr Try.zeroValue25 rfl rfl (.pu (.none rfl) rfl (fun _ => JO.extract rfl rfl) (JP4.append (.none rfl) 123 hv34 rfl rfl (.sl rfl) Try.runUnderlying25 Try.typeInfo3 Try.sizeOf3 rfl rfl rfl rfl rfl (.pu (.none rfl) rfl (fun _ => JO.extract rfl rfl) .nil)))))))))))) (by exact (J.mut (.none rfl) (JM.entryStore (ment_lt hv33) rfl rfl rfl rfl rfl rfl) (J.fin (Sw.Sub.mk id (.cons rfl (.of_eq rfl) (.cons rfl (.of_eq rfl) (.cons rfl (.of_eq rfl) (.cons rfl (.of_eq rfl) .nil)))) (.box rfl (.cons (.of_eq rfl) (.cons (.of_eq rfl) .nil)) (.arr rfl (.dp rfl .nil))) rfl)))) rfl (by decide +kernel) (by decide +kernel) (by decide +kernel) (by kernel_rfl) (by kernel_rfl) ?_
      refine W.fall ?_
      refine W.reg (σ' := ⟨[(4, .ptr 103 0), (21, .v (Enc.sl eBlk) a0), (22, .v (Enc.int .i64) (a0.length : Int)), (23, .v (Enc.int .i64) (ar .add .i64 s20.1 (1 : Int)))], [(103, .box 151 [.ref 101000, .ref 102]), (101000, .arr 56 eBlk v5), (102, .dp (DE.mps true eBlk 3 (Enc.int .i64)) (mset v33.1 v33.2.1 v34, none) [])]⟩) (J.cons (.none rfl) (JO.arith rfl rfl rfl) rfl rfl (J.cons (.none rfl) (JO.move rfl) rfl rfl (J.fin (Sw.Sub.mk id (.cons rfl (.of_eq rfl) (.cons rfl (.of_eq rfl) (.cons rfl (.of_eq rfl) (.cons rfl (.of_eq rfl) .nil)))) (.box rfl (.cons (.of_eq rfl) (.cons (.of_eq rfl) .nil)) (.arr rfl (.dp rfl .nil))) rfl)))) ?_
      obtain rfl := Option.some.inj h
      exact W.next (Sw.Sub.mk id (.cons rfl (.of_eq rfl) (.cons rfl (.of_eq rfl) (.cons rfl (.of_eq rfl) (.cons rfl (.of_eq rfl) .nil)))) (.box rfl (.cons (.of_eq rfl) (.cons (.of_eq rfl) .nil)) (.arr rfl (.dp rfl .nil))) rfl)
    · replace h := cond_f hc29 h
      refine W.condF rfl hc29 ?_
      refine W.exit ?_
      obtain rfl := Option.some.inj h
      exact XQ.brk (Sw.Sub.mk id (.cons rfl (.of_eq rfl) .nil) (.box rfl (.cons (.of_eq rfl) (.cons (.of_eq rfl) .nil)) (.arr rfl (.dp rfl .nil))) rfl)
theorem con_cache_New_n {a0 : (List Blk)} {r : (Option ((List Blk) × (List (Blk × (List Int))))) × (Option Int)} (hz : r.1 = none) (h : m_cache_New a0 = some r) : Con Try.prog 42 [.v (Enc.sl eBlk) a0] (.tup [.v (Enc.ptN (Enc.pr (Enc.sl eBlk) (Enc.mpF eBlk (Enc.sl (Enc.int .i64))))) (none : (Option ((List Blk) × (List (Blk × (List Int)))))), .v (Enc.err ET) r.2]) [] := by
  have := con_cache_New h
  unfold res_cache_New new_cache_New at this
  rw [hz] at this
  exact this
theorem con_cache_New_s {a0 : (List Blk)} {r : (Option ((List Blk) × (List (Blk × (List Int))))) × (Option Int)} {z : ((List Blk) × (List (Blk × (List Int))))} (hz : r.1 = some z) (h : m_cache_New a0 = some r) : Con Try.prog 42 [.v (Enc.sl eBlk) a0] (.tup [.ptr 2 0, .v (Enc.err ET) r.2]) [(0, .arr 56 eBlk z.1), (1, .dp (DE.mps false eBlk 3 (Enc.int .i64)) (z.2, none) []), (2, .box 151 [.ref 0, .ref 1])] := by
  have := con_cache_New h
  unfold res_cache_New new_cache_New at this
  rw [hz] at this
  exact this
set_option maxRecDepth 100000 in
set_option maxHeartbeats 4000000 in
theorem con_ref_OwnBlocks {a0 : (List Blk)} {r : (List Blk)} (h : m_ref_OwnBlocks a0 = some r) :
    Con Try.prog 28 [.v (Enc.sl eBlk) a0] (.ref 0) [(0, .arr 56 eBlk r)] := by
  refine Con.of Try.func28 rfl Try.ntmps28 rfl ?_
  intro S w hF
  unfold m_ref_OwnBlocks at h
  refine W.seq ?_
  refine W.reg (σ' := ⟨[(0, .v (Enc.sl eBlk) a0)], []⟩) (J.cons (.none rfl) (JO.assignNilR 101 56 eBlk) rfl rfl (J.fin (Sw.Sub.mk id (.cons rfl (.of_eq rfl) .nil) .nil rfl))) ?_
  refine W.seq ?_
  obtain ⟨v1, hv1, h⟩ := bind_e h
  refine W.reg (σ' := ⟨[(2, .ref 103)], [(103, .arr 56 eBlk v1)]⟩) (J.cons (.none rfl) (JO.litR (e := eBlk) 102 Try.runUnderlying26 Try.sizeOf56 Try.zeroValue56 rfl rfl rfl rfl .nil) rfl rfl (J.cons (.none rfl) (JO.move rfl) rfl rfl (J.mut (.none rfl) (JM.append 103 hv1 rfl rfl (.sl rfl) Try.runUnderlying26 Try.typeInfo56 Try.sizeOf56 rfl rfl rfl rfl rfl) (J.cons (.none rfl) (JO.assign rfl) rfl rfl (J.fin (Sw.Sub.mk id (.cons rfl (.of_eq rfl) .nil) (.arr rfl .nil) rfl)))))) ?_
  refine W.ret ?_
  obtain rfl := Option.some.inj h
  exact XQ.sub (σ' := ⟨[(2, .ref 0)], [(0, .arr 56 eBlk v1)]⟩) (Sw.Sub.mk (rn [(0, 103)]) (.cons rfl (.of_eq rfl) .nil) (.arr rfl .nil) rfl) (XQ.ret1 hF noR rfl (RV.tmp rfl) (.cons rfl .nil) rfl)
set_option maxRecDepth 100000 in
set_option maxHeartbeats 4000000 in
theorem con_cache_Index_Find_io (A : Nat → Nat) {a0_0 : (List Blk)} {a0_1 : (List (Blk × (List Int)))} {a1 : Blk} {r : Int × Bool × (List Blk) × (List (Blk × (List Int)))} (h : m_cache_Index_Find_io a0_0 a0_1 a1 = some r) :
    ConM Try.prog 43 [.ptr 9000 0, .v eBlk a1] [(9000, .box 151 [.ref 8950, .ref 8951] (some (A 9000))), (8950, .arr 56 eBlk a0_0), (8951, .dp (DE.mps false eBlk 3 (Enc.int .i64)) (a0_1, none) [])] (.tup [.v (Enc.int .i64) r.1, .v Enc.bool r.2.1]) [(9000, .box 151 [.ref 8910, .ref 8911] (some (A 9000))), (8910, .arr 56 eBlk r.2.2.1), (8911, .dp (DE.mps false eBlk 3 (Enc.int .i64)) (r.2.2.2, none) [])] := by
  refine ConM.of Try.func43 rfl Try.ntmps43 rfl ?_
  intro S w R hF
  unfold m_cache_Index_Find_io at h
  refine W.seq ?_
  refine W.reg (σ' := ⟨[(0, .ptr 9000 0), (3, .ptr 101 0)], [(9000, .box 151 [.ref 8950, .ref 8951] (some (A 9000))), (101, .box 56 [.v eBlk a1]), (8950, .arr 56 eBlk a0_0), (8951, .dp (DE.mps false eBlk 3 (Enc.int .i64)) (a0_1, none) [])]⟩) (J.cons (.none rfl) (JO.box 101 rfl (.one _ _) rfl) rfl rfl (J.cons (.none rfl) (JO.assign rfl) rfl rfl (J.cons (.none rfl) (JO.assign rfl) rfl rfl (J.fin (Sw.Sub.mk id (.cons rfl (.of_eq rfl) (.cons rfl (.of_eq rfl) .nil)) (.box rfl (.cons (.of_eq rfl) (.cons (.of_eq rfl) .nil)) (.box rfl (.cons (.of_eq rfl) .nil) (.arr rfl (.dp rfl .nil)))) rfl))))) ?_
  refine W.seq ?_
  refine W.dr2 (σ' := ⟨[(0, .ptr 9000 0), (6, .ref 102)], [(9000, .box 151 [.ref 8950, .ref 8951] (some (A 9000))), (102, .arr 3 (Enc.int .i64) ((mget a0_1 a1).getD [])), (8950, .arr 56 eBlk a0_0), (8951, .dp (DE.mps false eBlk 3 (Enc.int .i64)) (a0_1, kp (a0_1.map (·.1)) a1) [102])]⟩) 5 [0, 1, 3, 7, 0, 31, 63] mixed (by exact (.cons (.none rfl) (JO.move rfl) rfl rfl (.cons (.none rfl) (JO.nilPtr rfl) rfl rfl (.cons (.none rfl) (JO.fieldPtr 1 rfl Try.runUnderlying151 rfl Try.sizeOf149 rfl rfl) rfl rfl (.cons (.none rfl) (JO.load rfl rfl rfl Try.isAgg149 Try.sizeOf149) rfl rfl (.cons (.none rfl) (JO.load rfl rfl rfl Try.isAgg56 Try.sizeOf56) rfl rfl .nil)))))) (by exact (J.mut (.none rfl) (JM.lookupS 102 rfl rfl rfl Try.runUnderlying149 Try.runUnderlying56 eq56 rfl key56 rfl Try.zeroValue25 rfl rfl) (J.cons (.none rfl) (JO.assign rfl) rfl rfl (J.fin (Sw.Sub.mk id (.cons rfl (.of_eq rfl) (.cons rfl (.of_eq rfl) .nil)) (.box rfl (.cons (.of_eq rfl) (.cons (.of_eq rfl) .nil)) (.arr rfl (.arr rfl (.dp rfl .nil)))) rfl))))) rfl (by decide +kernel) (by decide +kernel) (by decide +kernel) (by kernel_rfl) ?_
  refine W.seq ?_
  refine W.seq ?_
  refine W.reg (σ' := ⟨[(0, .ptr 9000 0), (6, .ref 102), (15, .v Enc.bool (cm .eql (((mget a0_1 a1).getD []).length : Int) (0 : Int)))], [(9000, .box 151 [.ref 8950, .ref 8951] (some (A 9000))), (102, .arr 3 (Enc.int .i64) ((mget a0_1 a1).getD [])), (8950, .arr 56 eBlk a0_0), (8951, .dp (DE.mps false eBlk 3 (Enc.int .i64)) (a0_1, kp (a0_1.map (·.1)) a1) [102])]⟩) (J.cons (.none rfl) (JO.move rfl) rfl rfl (J.cons (.none rfl) (JO.lenR rfl rfl Try.runUnderlying25) rfl rfl (J.cons (.none rfl) (JO.cmp rfl rfl rfl) rfl rfl (J.fin (Sw.Sub.mk id (.cons rfl (.of_eq rfl) (.cons rfl (.of_eq rfl) (.cons rfl (.of_eq rfl) .nil))) (.box rfl (.cons (.of_eq rfl) (.cons (.of_eq rfl) .nil)) (.arr rfl (.arr rfl (.dp rfl .nil)))) rfl))))) ?_
  rcases Bool.eq_false_or_eq_true (cm .eql (((mget a0_1 a1).getD []).length : Int) (0 : Int)) with hc1 | hc1
  · replace h := cond_t hc1 h
    refine W.condT rfl hc1 ?_
    refine W.seq ?_
    refine W.reg (σ' := ⟨[(0, .ptr 9000 0), (4, .v (Enc.int .i64) (0 : Int)), (5, .v Enc.bool false)], [(9000, .box 151 [.ref 8950, .ref 8951] (some (A 9000))), (8950, .arr 56 eBlk a0_0), (8951, .dp (DE.mps false eBlk 3 (Enc.int .i64)) (a0_1, kp (a0_1.map (·.1)) a1) [102]), (102, .arr 3 (Enc.int .i64) ((mget a0_1 a1).getD []))]⟩) (J.cons (.none rfl) (JO.assign rfl) rfl rfl (J.cons (.none rfl) (JO.assign rfl) rfl rfl (J.fin (Sw.Sub.mk id (.cons rfl (.of_eq rfl) (.cons rfl (.of_eq rfl) (.cons rfl (.of_eq rfl) .nil))) (.box rfl (.cons (.of_eq rfl) (.cons (.of_eq rfl) .nil)) (.arr rfl (.dp rfl (.arr rfl .nil)))) rfl)))) ?_
    refine W.sub (σ' := ⟨[(0, .ptr 9000 0), (4, .v (Enc.int .i64) (0 : Int)), (5, .v Enc.bool false)], [(8951, .dp (DE.mps false eBlk 3 (Enc.int .i64)) (mshut a0_1 (kp (a0_1.map (·.1)) a1) ((mget a0_1 a1).getD []), none) []), (9000, .box 151 [.ref 8950, .ref 8951] (some (A 9000))), (8950, .arr 56 eBlk a0_0)]⟩) (Sw.Sub.shutM rfl rfl rfl kp_ok rfl rfl) ?_
    refine W.ret ?_
    obtain rfl := Option.some.inj h
    exact XQ.sub (σ' := ⟨[(0, .ptr 9000 0), (4, .v (Enc.int .i64) (0 : Int)), (5, .v Enc.bool false)], [(9000, .box 151 [.ref 8910, .ref 8911] (some (A 9000))), (8911, .dp (DE.mps false eBlk 3 (Enc.int .i64)) (mshut a0_1 (kp (a0_1.map (·.1)) a1) ((mget a0_1 a1).getD []), none) []), (8910, .arr 56 eBlk a0_0)]⟩) (Sw.Sub.mk (rn [(9000, 9000), (8911, 8951), (8910, 8950)]) (.cons rfl (.of_eq rfl) (.cons rfl (.of_eq rfl) (.cons rfl (.of_eq rfl) .nil))) (.box rfl (.cons (.of_eq rfl) (.cons (.of_eq rfl) .nil)) (.dp rfl (.arr rfl .nil))) rfl) (XQ.retM2 hF rfl (RV.tmp rfl) (RV.tmp rfl) (.cons rfl (.cons rfl (.cons rfl .nil))))
  · replace h := cond_f hc1 h
    refine W.condF rfl hc1 ?_
    refine W.skip ?_
    refine W.seq ?_
    obtain ⟨z2, hz2, h⟩ := bind_e h
    refine W.reg (σ' := ⟨[(0, .ptr 9000 0), (4, .v (Enc.int .i64) z2), (5, .v Enc.bool true)], [(9000, .box 151 [.ref 8950, .ref 8951] (some (A 9000))), (8950, .arr 56 eBlk a0_0), (8951, .dp (DE.mps false eBlk 3 (Enc.int .i64)) (a0_1, kp (a0_1.map (·.1)) a1) [102]), (102, .arr 3 (Enc.int .i64) ((mget a0_1 a1).getD []))]⟩) (J.cons (.none rfl) (JO.move rfl) rfl rfl (J.cons (.none rfl) (JO.idxR hz2 rfl rfl rfl Try.runUnderlying25 Try.sizeOf3) rfl rfl (J.cons (.none rfl) (JO.loadEl (idx_some hz2).2.2 rfl rfl .here Try.isAgg3 Try.sizeOf3) rfl rfl (J.cons (.none rfl) (JO.assign rfl) rfl rfl (J.cons (.none rfl) (JO.assign rfl) rfl rfl (J.fin (Sw.Sub.mk id (.cons rfl (.of_eq rfl) (.cons rfl (.of_eq rfl) (.cons rfl (.of_eq rfl) .nil))) (.box rfl (.cons (.of_eq rfl) (.cons (.of_eq rfl) .nil)) (.arr rfl (.dp rfl (.arr rfl .nil)))) rfl))))))) ?_
    refine W.sub (σ' := ⟨[(0, .ptr 9000 0), (4, .v (Enc.int .i64) z2), (5, .v Enc.bool true)], [(8951, .dp (DE.mps false eBlk 3 (Enc.int .i64)) (mshut a0_1 (kp (a0_1.map (·.1)) a1) ((mget a0_1 a1).getD []), none) []), (9000, .box 151 [.ref 8950, .ref 8951] (some (A 9000))), (8950, .arr 56 eBlk a0_0)]⟩) (Sw.Sub.shutM rfl rfl rfl kp_ok rfl rfl) ?_
    refine W.ret ?_
    obtain rfl := Option.some.inj h
    exact XQ.sub (σ' := ⟨[(0, .ptr 9000 0), (4, .v (Enc.int .i64) z2), (5, .v Enc.bool true)], [(9000, .box 151 [.ref 8910, .ref 8911] (some (A 9000))), (8911, .dp (DE.mps false eBlk 3 (Enc.int .i64)) (mshut a0_1 (kp (a0_1.map (·.1)) a1) ((mget a0_1 a1).getD []), none) []), (8910, .arr 56 eBlk a0_0)]⟩) (Sw.Sub.mk (rn [(9000, 9000), (8911, 8951), (8910, 8950)]) (.cons rfl (.of_eq rfl) (.cons rfl (.of_eq rfl) (.cons rfl (.of_eq rfl) .nil))) (.box rfl (.cons (.of_eq rfl) (.cons (.of_eq rfl) .nil)) (.dp rfl (.arr rfl .nil))) rfl) (XQ.retM2 hF rfl (RV.tmp rfl) (RV.tmp rfl) (.cons rfl (.cons rfl (.cons rfl .nil))))
set_option maxRecDepth 100000 in
set_option maxHeartbeats 4000000 in
theorem con_cache_Index_Put_1 {a0 : Int} {a1 : Int} {r : Bool} (h : m_cache_Index_Put_1 a0 a1 = some r) :
    Con Try.prog 90 [.v (Enc.int .i64) a0, .pst (Enc.int .i64) a1] (.v Enc.bool r) [] := by
  refine Con.of Try.func90 rfl Try.ntmps90 rfl ?_
  intro S w hF
  unfold m_cache_Index_Put_1 at h
  refine W.seq ?_
  refine W.reg (σ' := ⟨[(0, .v (Enc.int .i64) a0), (1, .pst (Enc.int .i64) a1)], []⟩) (J.cons (.none rfl) (JO.assign rfl) rfl rfl (J.fin (Sw.Sub.mk id (.cons rfl (.of_eq rfl) (.cons rfl (.of_eq rfl) .nil)) .nil rfl))) ?_
  refine W.seq ?_
  refine W.reg (σ' := ⟨[(3, .v Enc.bool (cm .eql a0 a1))], []⟩) (J.cons (.none rfl) (JO.move rfl) rfl rfl (J.cons (.none rfl) (JO.loadPst rfl Try.isAgg3 Try.sizeOf3) rfl rfl (J.cons (.none rfl) (JO.cmp rfl rfl rfl) rfl rfl (J.cons (.none rfl) (JO.assign rfl) rfl rfl (J.fin (Sw.Sub.mk id (.cons rfl (.of_eq rfl) .nil) .nil rfl)))))) ?_
  refine W.ret ?_
  obtain rfl := Option.some.inj h
  exact XQ.sub (σ' := ⟨[(3, .v Enc.bool (cm .eql a0 a1))], []⟩) (Sw.Sub.mk id (.cons rfl (.of_eq rfl) .nil) .nil rfl) (XQ.ret1 hF noR rfl (RV.tmp rfl) .nil rfl)
set_option maxRecDepth 100000 in
set_option maxHeartbeats 4000000 in
theorem con_slices_IndexFunc_int_int__cache_Index_Put_1 {a0 : (List Int)} {a1_0 : Int} {r : Int} (h : m_slices_IndexFunc_int_int__cache_Index_Put_1 a0 a1_0 = some r) :
    Con Try.prog 134 [.v (Enc.sl (Enc.int .i64)) a0, .fnc 90 [.pst (Enc.int .i64) a1_0]] (.v (Enc.int .i64) r) [] := by
  refine Con.of Try.func134 rfl Try.ntmps134 rfl ?_
  intro S w hF
  unfold m_slices_IndexFunc_int_int__cache_Index_Put_1 at h
  refine W.seq ?_
  refine W.reg (σ' := ⟨[(0, .v (Enc.sl (Enc.int .i64)) a0), (1, .fnc 90 [.pst (Enc.int .i64) a1_0])], []⟩) (J.cons (.none rfl) (JO.assign rfl) rfl rfl (J.fin (Sw.Sub.mk id (.cons rfl (.of_eq rfl) (.cons rfl (.of_eq rfl) .nil)) .nil rfl))) ?_
  refine W.seq ?_
  refine W.seq ?_
  refine W.reg (σ' := ⟨[(0, .v (Enc.sl (Enc.int .i64)) a0), (1, .fnc 90 [.pst (Enc.int .i64) a1_0]), (7, .v (Enc.int .i64) (a0.length : Int)), (8, .v (Enc.int .i64) (0 : Int))], []⟩) (J.cons (.none rfl) (JO.move rfl) rfl rfl (J.cons (.none rfl) (JO.len rfl Try.runUnderlying25) rfl rfl (J.cons (.none rfl) (JO.move rfl) rfl rfl (J.fin (Sw.Sub.mk id (.cons rfl (.of_eq rfl) (.cons rfl (.of_eq rfl) (.cons rfl (.of_eq rfl) (.cons rfl (.of_eq rfl) .nil)))) .nil rfl))))) ?_
  obtain ⟨o16, ho16, hb16, hr16⟩ := lp_elim h
  refine W.lp (σs := fun s11 : Int => ⟨[(0, .v (Enc.sl (Enc.int .i64)) a0), (1, .fnc 90 [.pst (Enc.int .i64) a1_0]), (7, .v (Enc.int .i64) (a0.length : Int)), (8, .v (Enc.int .i64) s11)], []⟩) (fun x17 : Unit => ⟨[], []⟩) ho16 (Sw.Sub.mk id (.cons rfl (.of_eq rfl) (.cons rfl (.of_eq rfl) (.cons rfl (.of_eq rfl) (.cons rfl (.of_eq rfl) .nil)))) .nil rfl) ?_ ?_
  · intro x17 hy
    have h := hb16 _ hy
    refine W.seq ?_
    refine W.reg (σ' := ⟨[(4, .v (Enc.int .i64) (-1 : Int))], []⟩) (J.cons (.none rfl) (JO.assign rfl) rfl rfl (J.fin (Sw.Sub.mk id (.cons rfl (.of_eq rfl) .nil) .nil rfl))) ?_
    refine W.ret ?_
    obtain rfl := Option.some.inj h
    exact XQ.sub (σ' := ⟨[(4, .v (Enc.int .i64) (-1 : Int))], []⟩) (Sw.Sub.mk id (.cons rfl (.of_eq rfl) .nil) .nil rfl) (XQ.ret1 hF noR rfl (RV.tmp rfl) .nil rfl)
  intro s11 r16 h
  refine W.seq ?_
  refine W.reg (σ' := ⟨[(0, .v (Enc.sl (Enc.int .i64)) a0), (1, .fnc 90 [.pst (Enc.int .i64) a1_0]), (7, .v (Enc.int .i64) (a0.length : Int)), (8, .v (Enc.int .i64) s11), (9, .v Enc.bool (cm .lss s11 (a0.length : Int)))], []⟩) (J.cons (.none rfl) (JO.cmp rfl rfl rfl) rfl rfl (J.fin (Sw.Sub.mk id (.cons rfl (.of_eq rfl) (.cons rfl (.of_eq rfl) (.cons rfl (.of_eq rfl) (.cons rfl (.of_eq rfl) (.cons rfl (.of_eq rfl) .nil))))) .nil rfl))) ?_
  refine W.seq ?_
  rcases Bool.eq_false_or_eq_true (cm .lss s11 (a0.length : Int)) with hc18 | hc18
  · replace h := cond_t hc18 h
    refine W.condT rfl hc18 ?_
    refine W.skip ?_
    refine W.seq ?_
    refine W.block ?_
    refine W.seq ?_
    refine W.reg (σ' := ⟨[(0, .v (Enc.sl (Enc.int .i64)) a0), (1, .fnc 90 [.pst (Enc.int .i64) a1_0]), (5, .v (Enc.int .i64) s11), (7, .v (Enc.int .i64) (a0.length : Int)), (8, .v (Enc.int .i64) s11)], []⟩) (J.cons (.none rfl) (JO.move rfl) rfl rfl (J.cons (.none rfl) (JO.assign rfl) rfl rfl (J.fin (Sw.Sub.mk id (.cons rfl (.of_eq rfl) (.cons rfl (.of_eq rfl) (.cons rfl (.of_eq rfl) (.cons rfl (.of_eq rfl) (.cons rfl (.of_eq rfl) .nil))))) .nil rfl)))) ?_
    refine W.seq ?_
    obtain ⟨z19, hz19, h⟩ := bind_e h
    obtain ⟨v20, hv20, h⟩ := bind_e h
    refine W.reg (σ' := ⟨[(0, .v (Enc.sl (Enc.int .i64)) a0), (1, .fnc 90 [.pst (Enc.int .i64) a1_0]), (5, .v (Enc.int .i64) s11), (7, .v (Enc.int .i64) (a0.length : Int)), (8, .v (Enc.int .i64) s11), (16, .v Enc.bool v20)], []⟩) (J.cons (.none rfl) (JO.move rfl) rfl rfl (J.cons (.none rfl) (JO.move rfl) rfl rfl (J.cons (.none rfl) (JO.move rfl) rfl rfl (J.cons (.none rfl) (JO.idx hz19 rfl rfl Try.runUnderlying25 Try.sizeOf3) rfl rfl (J.cons (.none rfl) (JO.loadPst rfl Try.isAgg3 Try.sizeOf3) rfl rfl (J.cons (.none rfl) (JO.callF0 rfl (con_cache_Index_Put_1 hv20) Try.call90 (.cons (.dir rfl) .nil)) rfl rfl (J.fin (Sw.Sub.mk id (.cons rfl (.of_eq rfl) (.cons rfl (.of_eq rfl) (.cons rfl (.of_eq rfl) (.cons rfl (.of_eq rfl) (.cons rfl (.of_eq rfl) (.cons rfl (.of_eq rfl) .nil)))))) .nil rfl)))))))) ?_
    rcases Bool.eq_false_or_eq_true v20 with hc21 | hc21
    · replace h := cond_t hc21 h
      refine W.condT rfl hc21 ?_
      refine W.seq ?_
      refine W.reg (σ' := ⟨[(4, .v (Enc.int .i64) s11)], []⟩) (J.cons (.none rfl) (JO.move rfl) rfl rfl (J.cons (.none rfl) (JO.assign rfl) rfl rfl (J.fin (Sw.Sub.mk id (.cons rfl (.of_eq rfl) .nil) .nil rfl)))) ?_
      refine W.ret ?_
      refine XQ.ret ?_
      obtain rfl := Option.some.inj h
      refine XQ.lret fun ho => ?_
      obtain rfl := hr16 _ ho
      exact XQ.sub (σ' := ⟨[(4, .v (Enc.int .i64) s11)], []⟩) (Sw.Sub.mk id (.cons rfl (.of_eq rfl) .nil) .nil rfl) (XQ.ret1 hF noR rfl (RV.tmp rfl) .nil rfl)
    · replace h := cond_f hc21 h
      refine W.condF rfl hc21 ?_
      refine W.skip ?_
      refine W.fall ?_
      refine W.reg (σ' := ⟨[(0, .v (Enc.sl (Enc.int .i64)) a0), (1, .fnc 90 [.pst (Enc.int .i64) a1_0]), (7, .v (Enc.int .i64) (a0.length : Int)), (8, .v (Enc.int .i64) (ar .add .i64 s11 (1 : Int)))], []⟩) (J.cons (.none rfl) (JO.arith rfl rfl rfl) rfl rfl (J.cons (.none rfl) (JO.move rfl) rfl rfl (J.fin (Sw.Sub.mk id (.cons rfl (.of_eq rfl) (.cons rfl (.of_eq rfl) (.cons rfl (.of_eq rfl) (.cons rfl (.of_eq rfl) .nil)))) .nil rfl)))) ?_
      obtain rfl := Option.some.inj h
      exact W.next (Sw.Sub.mk id (.cons rfl (.of_eq rfl) (.cons rfl (.of_eq rfl) (.cons rfl (.of_eq rfl) (.cons rfl (.of_eq rfl) .nil)))) .nil rfl)
  · replace h := cond_f hc18 h
    refine W.condF rfl hc18 ?_
    refine W.exit ?_
    obtain rfl := Option.some.inj h
    exact XQ.brk (Sw.Sub.mk id .nil .nil rfl)
set_option maxRecDepth 100000 in
set_option maxHeartbeats 4000000 in
theorem con_slices_DeleteFunc_int_int__cache_Index_Put_1_io (A : Nat → Nat) {a0 : (List Int)} {a1_0 : Int} {r : (List Int)} (h : m_slices_DeleteFunc_int_int__cache_Index_Put_1_io a0 a1_0 = some r) :
    ConM Try.prog 89 [.ref 9000, .fnc 90 [.pst (Enc.int .i64) a1_0]] [(9000, .arr 3 (Enc.int .i64) a0)] (.ref 0) [(0, .arr 3 (Enc.int .i64) r)] := by
  refine ConM.of Try.func89 rfl Try.ntmps89 rfl ?_
  intro S w R hF
  unfold m_slices_DeleteFunc_int_int__cache_Index_Put_1_io at h
  refine W.seq ?_
  refine W.reg (σ' := ⟨[(0, .ref 9000), (1, .fnc 90 [.pst (Enc.int .i64) a1_0])], [(9000, .arr 3 (Enc.int .i64) a0)]⟩) (J.cons (.none rfl) (JO.assignNilR 101 3 (Enc.int .i64)) rfl rfl (J.fin (Sw.Sub.mk id (.cons rfl (.of_eq rfl) (.cons rfl (.of_eq rfl) .nil)) (.arr rfl .nil) rfl))) ?_
  refine W.seq ?_
  obtain ⟨v1, hv1, h⟩ := bind_e h
  refine W.reg (σ' := ⟨[(0, .ref 9000), (1, .fnc 90 [.pst (Enc.int .i64) a1_0]), (5, .v (Enc.int .i64) v1)], [(9000, .arr 3 (Enc.int .i64) a0)]⟩) (J.cons (.none rfl) (JO.move rfl) rfl rfl (J.cons (.none rfl) (JO.move rfl) rfl rfl (J.cons (.none rfl) (JO.callL0 (con_slices_IndexFunc_int_int__cache_Index_Put_1 hv1) Try.call134 (.cons (.ref rfl rfl) (.cons (.dir rfl) .nil)) FlatS.v) rfl rfl (J.cons (.none rfl) (JO.assign rfl) rfl rfl (J.fin (Sw.Sub.mk id (.cons rfl (.of_eq rfl) (.cons rfl (.of_eq rfl) (.cons rfl (.of_eq rfl) .nil))) (.arr rfl .nil) rfl)))))) ?_
  refine W.seq ?_
  refine W.seq ?_
  refine W.reg (σ' := ⟨[(0, .ref 9000), (1, .fnc 90 [.pst (Enc.int .i64) a1_0]), (5, .v (Enc.int .i64) v1), (12, .v Enc.bool (cm .eql v1 (-1 : Int)))], [(9000, .arr 3 (Enc.int .i64) a0)]⟩) (J.cons (.none rfl) (JO.move rfl) rfl rfl (J.cons (.none rfl) (JO.cmp rfl rfl rfl) rfl rfl (J.fin (Sw.Sub.mk id (.cons rfl (.of_eq rfl) (.cons rfl (.of_eq rfl) (.cons rfl (.of_eq rfl) (.cons rfl (.of_eq rfl) .nil)))) (.arr rfl .nil) rfl)))) ?_
  rcases Bool.eq_false_or_eq_true (cm .eql v1 (-1 : Int)) with hc2 | hc2
  · replace h := cond_t hc2 h
    refine W.condT rfl hc2 ?_
    refine W.seq ?_
    refine W.reg (σ' := ⟨[(4, .ref 9000)], [(9000, .arr 3 (Enc.int .i64) a0)]⟩) (J.cons (.none rfl) (JO.move rfl) rfl rfl (J.cons (.none rfl) (JO.assign rfl) rfl rfl (J.fin (Sw.Sub.mk id (.cons rfl (.of_eq rfl) .nil) (.arr rfl .nil) rfl)))) ?_
    refine W.ret ?_
    obtain rfl := Option.some.inj h
    exact XQ.sub (σ' := ⟨[(4, .ref 0)], [(0, .arr 3 (Enc.int .i64) a0)]⟩) (Sw.Sub.mk (rn [(0, 9000)]) (.cons rfl (.of_eq rfl) .nil) (.arr rfl .nil) rfl) (XQ.retM1 hF rfl (RV.tmp rfl) (.cons rfl .nil))
  · replace h := cond_f hc2 h
    refine W.condF rfl hc2 ?_
    refine W.skip ?_
    refine W.seq ?_
    refine W.seq ?_
    refine W.reg (σ' := ⟨[(0, .ref 9000), (1, .fnc 90 [.pst (Enc.int .i64) a1_0]), (5, .v (Enc.int .i64) v1), (6, .v (Enc.int .i64) (ar .add .i64 v1 (1 : Int)))], [(9000, .arr 3 (Enc.int .i64) a0)]⟩) (J.cons (.none rfl) (JO.move rfl) rfl rfl (J.cons (.none rfl) (JO.arith rfl rfl rfl) rfl rfl (J.cons (.none rfl) (JO.assign rfl) rfl rfl (J.fin (Sw.Sub.mk id (.cons rfl (.of_eq rfl) (.cons rfl (.of_eq rfl) (.cons rfl (.of_eq rfl) (.cons rfl (.of_eq rfl) .nil)))) (.arr rfl .nil) rfl))))) ?_
    obtain ⟨o21, ho21, hb21, hr21⟩ := lp_elim h
    refine W.lp (σs := fun s15 : Int × Int × (List Int) => ⟨[(0, .ref 9000), (1, .fnc 90 [.pst (Enc.int .i64) a1_0]), (5, .v (Enc.int .i64) s15.1), (6, .v (Enc.int .i64) s15.2.1)], [(9000, .arr 3 (Enc.int .i64) s15.2.2)]⟩) (fun x22 : Int × (List Int) => ⟨[(0, .ref 9000), (5, .v (Enc.int .i64) x22.1)], [(9000, .arr 3 (Enc.int .i64) x22.2)]⟩) ho21 (Sw.Sub.mk id (.cons rfl (.of_eq rfl) (.cons rfl (.of_eq rfl) (.cons rfl (.of_eq rfl) (.cons rfl (.of_eq rfl) .nil)))) (.arr rfl .nil) rfl) ?_ ?_
    · intro x22 hy
      have h := hb21 _ hy
      refine W.seq ?_
      obtain ⟨v28, hv28, h⟩ := bind_e h
      refine W.reg (σ' := ⟨[(0, .ref 9000), (5, .v (Enc.int .i64) x22.1)], [(9000, .arr 3 (Enc.int .i64) (List.take (Int.toNat x22.1) x22.2 ++ List.replicate (x22.2.length - Int.toNat x22.1) (0 : Int)))]⟩) (J.cons (.none rfl) (JO.move rfl) rfl rfl (J.cons (.none rfl) (JO.move rfl) rfl rfl (J.cons (.none rfl) (JO.srLo hv28 rfl rfl rfl Try.runUnderlying25 Try.sizeOf3) rfl rfl (J.mut (.none rfl) (JM.clearLo (zv := (0 : Int)) hv28 rfl rfl Try.runUnderlying25 Try.zeroValue3 (Z.int .i64)) (J.fin (Sw.Sub.mk id (.cons rfl (.of_eq rfl) (.cons rfl (.of_eq rfl) .nil)) (.arr rfl .nil) rfl)))))) ?_
      refine W.seq ?_
      obtain ⟨v29, hv29, h⟩ := bind_e h
      refine W.reg (σ' := ⟨[(4, .ref 107)], [(107, .arr 3 (Enc.int .i64) v29)]⟩) (J.cons (.none rfl) (JO.move rfl) rfl rfl (J.cons (.none rfl) (JO.move rfl) rfl rfl (J.mut (.none rfl) (JM.slHi 107 hv29 rfl rfl rfl Try.runUnderlying25 Try.sizeOf3 rfl rfl) (J.cons (.none rfl) (JO.assign rfl) rfl rfl (J.fin (Sw.Sub.mk id (.cons rfl (.of_eq rfl) .nil) (.arr rfl .nil) rfl)))))) ?_
      refine W.ret ?_
      obtain rfl := Option.some.inj h
      exact XQ.sub (σ' := ⟨[(4, .ref 0)], [(0, .arr 3 (Enc.int .i64) v29)]⟩) (Sw.Sub.mk (rn [(0, 107)]) (.cons rfl (.of_eq rfl) .nil) (.arr rfl .nil) rfl) (XQ.retM1 hF rfl (RV.tmp rfl) (.cons rfl .nil))
    intro s15 r21 h
    refine W.seq ?_
    refine W.seq ?_
    refine W.reg (σ' := ⟨[(0, .ref 9000), (1, .fnc 90 [.pst (Enc.int .i64) a1_0]), (5, .v (Enc.int .i64) s15.1), (6, .v (Enc.int .i64) s15.2.1), (19, .v Enc.bool (cm .lss s15.2.1 (s15.2.2.length : Int)))], [(9000, .arr 3 (Enc.int .i64) s15.2.2)]⟩) (J.cons (.none rfl) (JO.move rfl) rfl rfl (J.cons (.none rfl) (JO.move rfl) rfl rfl (J.cons (.none rfl) (JO.lenR rfl rfl Try.runUnderlying25) rfl rfl (J.cons (.none rfl) (JO.cmp rfl rfl rfl) rfl rfl (J.fin (Sw.Sub.mk id (.cons rfl (.of_eq rfl) (.cons rfl (.of_eq rfl) (.cons rfl (.of_eq rfl) (.cons rfl (.of_eq rfl) (.cons rfl (.of_eq rfl) .nil))))) (.arr rfl .nil) rfl)))))) ?_
    rcases Bool.eq_false_or_eq_true (cm .lss s15.2.1 (s15.2.2.length : Int)) with hc23 | hc23
    · replace h := cond_t hc23 h
      refine W.condT rfl hc23 ?_
      refine W.skip ?_
      refine W.seq ?_
      refine W.block ?_
      refine W.seq ?_
      obtain ⟨z24, hz24, h⟩ := bind_e h
      refine W.reg (σ' := ⟨[(0, .ref 9000), (1, .fnc 90 [.pst (Enc.int .i64) a1_0]), (5, .v (Enc.int .i64) s15.1), (6, .v (Enc.int .i64) s15.2.1), (7, .v (Enc.int .i64) z24)], [(9000, .arr 3 (Enc.int .i64) s15.2.2)]⟩) (J.cons (.none rfl) (JO.move rfl) rfl rfl (J.cons (.none rfl) (JO.move rfl) rfl rfl (J.cons (.none rfl) (JO.idxR hz24 rfl rfl rfl Try.runUnderlying25 Try.sizeOf3) rfl rfl (J.cons (.none rfl) (JO.loadEl (idx_some hz24).2.2 rfl rfl .here Try.isAgg3 Try.sizeOf3) rfl rfl (J.cons (.none rfl) (JO.assign rfl) rfl rfl (J.fin (Sw.Sub.mk id (.cons rfl (.of_eq rfl) (.cons rfl (.of_eq rfl) (.cons rfl (.of_eq rfl) (.cons rfl (.of_eq rfl) (.cons rfl (.of_eq rfl) .nil))))) (.arr rfl .nil) rfl))))))) ?_
      refine W.seq ?_
      obtain ⟨v25, hv25, h⟩ := bind_e h
      refine W.reg (σ' := ⟨[(0, .ref 9000), (1, .fnc 90 [.pst (Enc.int .i64) a1_0]), (5, .v (Enc.int .i64) s15.1), (6, .v (Enc.int .i64) s15.2.1), (7, .v (Enc.int .i64) z24), (29, .v Enc.bool (!v25))], [(9000, .arr 3 (Enc.int .i64) s15.2.2)]⟩) (J.cons (.none rfl) (JO.move rfl) rfl rfl (J.cons (.none rfl) (JO.move rfl) rfl rfl (J.cons (.none rfl) (JO.callF0 rfl (con_cache_Index_Put_1 hv25) Try.call90 (.cons (.dir rfl) .nil)) rfl rfl (J.cons (.none rfl) (JO.not rfl) rfl rfl (J.fin (Sw.Sub.mk id (.cons rfl (.of_eq rfl) (.cons rfl (.of_eq rfl) (.cons rfl (.of_eq rfl) (.cons rfl (.of_eq rfl) (.cons rfl (.of_eq rfl) (.cons rfl (.of_eq rfl) .nil)))))) (.arr rfl .nil) rfl)))))) ?_
      rcases Bool.eq_false_or_eq_true (!v25) with hc26 | hc26
      · replace h := cond_t hc26 h
        refine W.condT rfl hc26 ?_
        refine W.seq ?_
        obtain ⟨z27, hz27, h⟩ := bind_e h
        refine W.reg (σ' := ⟨[(0, .ref 9000), (1, .fnc 90 [.pst (Enc.int .i64) a1_0]), (5, .v (Enc.int .i64) s15.1), (6, .v (Enc.int .i64) s15.2.1)], [(9000, .arr 3 (Enc.int .i64) (List.set s15.2.2 (Int.toNat s15.1) z24))]⟩) (J.cons (.none rfl) (JO.move rfl) rfl rfl (J.cons (.none rfl) (JO.move rfl) rfl rfl (J.cons (.none rfl) (JO.move rfl) rfl rfl (J.cons (.none rfl) (JO.idxR hz27 rfl rfl rfl Try.runUnderlying25 Try.sizeOf3) rfl rfl (J.mut (.none rfl) (JM.storeEl (idx_some hz27).2.2 rfl rfl rfl Try.sizeOf3) (J.fin (Sw.Sub.mk id (.cons rfl (.of_eq rfl) (.cons rfl (.of_eq rfl) (.cons rfl (.of_eq rfl) (.cons rfl (.of_eq rfl) .nil)))) (.arr rfl .nil) rfl))))))) ?_
        refine W.reg (σ' := ⟨[(0, .ref 9000), (1, .fnc 90 [.pst (Enc.int .i64) a1_0]), (5, .v (Enc.int .i64) (ar .add .i64 s15.1 (1 : Int))), (6, .v (Enc.int .i64) s15.2.1)], [(9000, .arr 3 (Enc.int .i64) (List.set s15.2.2 (Int.toNat s15.1) z24))]⟩) (J.cons (.none rfl) (JO.move rfl) rfl rfl (J.cons (.none rfl) (JO.arith rfl rfl rfl) rfl rfl (J.cons (.none rfl) (JO.assign rfl) rfl rfl (J.fin (Sw.Sub.mk id (.cons rfl (.of_eq rfl) (.cons rfl (.of_eq rfl) (.cons rfl (.of_eq rfl) (.cons rfl (.of_eq rfl) .nil)))) (.arr rfl .nil) rfl))))) ?_
        refine W.fall ?_
        refine W.reg (σ' := ⟨[(0, .ref 9000), (1, .fnc 90 [.pst (Enc.int .i64) a1_0]), (5, .v (Enc.int .i64) (ar .add .i64 s15.1 (1 : Int))), (6, .v (Enc.int .i64) (ar .add .i64 s15.2.1 (1 : Int)))], [(9000, .arr 3 (Enc.int .i64) (List.set s15.2.2 (Int.toNat s15.1) z24))]⟩) (J.cons (.none rfl) (JO.move rfl) rfl rfl (J.cons (.none rfl) (JO.arith rfl rfl rfl) rfl rfl (J.cons (.none rfl) (JO.assign rfl) rfl rfl (J.fin (Sw.Sub.mk id (.cons rfl (.of_eq rfl) (.cons rfl (.of_eq rfl) (.cons rfl (.of_eq rfl) (.cons rfl (.of_eq rfl) .nil)))) (.arr rfl .nil) rfl))))) ?_
        obtain rfl := Option.some.inj h
        exact W.next (Sw.Sub.mk id (.cons rfl (.of_eq rfl) (.cons rfl (.of_eq rfl) (.cons rfl (.of_eq rfl) (.cons rfl (.of_eq rfl) .nil)))) (.arr rfl .nil) rfl)
      · replace h := cond_f hc26 h
        refine W.condF rfl hc26 ?_
        refine W.skip ?_
        refine W.fall ?_
        refine W.reg (σ' := ⟨[(0, .ref 9000), (1, .fnc 90 [.pst (Enc.int .i64) a1_0]), (5, .v (Enc.int .i64) s15.1), (6, .v (Enc.int .i64) (ar .add .i64 s15.2.1 (1 : Int)))], [(9000, .arr 3 (Enc.int .i64) s15.2.2)]⟩) (J.cons (.none rfl) (JO.move rfl) rfl rfl (J.cons (.none rfl) (JO.arith rfl rfl rfl) rfl rfl (J.cons (.none rfl) (JO.assign rfl) rfl rfl (J.fin (Sw.Sub.mk id (.cons rfl (.of_eq rfl) (.cons rfl (.of_eq rfl) (.cons rfl (.of_eq rfl) (.cons rfl (.of_eq rfl) .nil)))) (.arr rfl .nil) rfl))))) ?_
        obtain rfl := Option.some.inj h
        exact W.next (Sw.Sub.mk id (.cons rfl (.of_eq rfl) (.cons rfl (.of_eq rfl) (.cons rfl (.of_eq rfl) (.cons rfl (.of_eq rfl) .nil)))) (.arr rfl .nil) rfl)
    · replace h := cond_f hc23 h
      refine W.condF rfl hc23 ?_
      refine W.exit ?_
      obtain rfl := Option.some.inj h
      exact XQ.brk (Sw.Sub.mk id (.cons rfl (.of_eq rfl) (.cons rfl (.of_eq rfl) .nil)) (.arr rfl .nil) rfl)
set_option maxRecDepth 100000 in
set_option maxHeartbeats 4000000 in
theorem con_cmp_isNaN_int {a0 : Int} {r : Bool} (h : m_cmp_isNaN_int a0 = some r) :
    Con Try.prog 154 [.v (Enc.int .i64) a0] (.v Enc.bool r) [] := by
  refine Con.of Try.func154 rfl Try.ntmps154 rfl ?_
  intro S w hF
  unfold m_cmp_isNaN_int at h
  refine W.seq ?_
  refine W.reg (σ' := ⟨[(0, .v (Enc.int .i64) a0)], []⟩) (J.cons (.none rfl) (JO.assign rfl) rfl rfl (J.fin (Sw.Sub.mk id (.cons rfl (.of_eq rfl) .nil) .nil rfl))) ?_
  refine W.seq ?_
  refine W.reg (σ' := ⟨[(2, .v Enc.bool (cm .neq a0 a0))], []⟩) (J.cons (.none rfl) (JO.move rfl) rfl rfl (J.cons (.none rfl) (JO.move rfl) rfl rfl (J.cons (.none rfl) (JO.cmp rfl rfl rfl) rfl rfl (J.cons (.none rfl) (JO.assign rfl) rfl rfl (J.fin (Sw.Sub.mk id (.cons rfl (.of_eq rfl) .nil) .nil rfl)))))) ?_
  refine W.ret ?_
  obtain rfl := Option.some.inj h
  exact XQ.sub (σ' := ⟨[(2, .v Enc.bool (cm .neq a0 a0))], []⟩) (Sw.Sub.mk id (.cons rfl (.of_eq rfl) .nil) .nil rfl) (XQ.ret1 hF noR rfl (RV.tmp rfl) .nil rfl)
set_option maxRecDepth 100000 in
set_option maxHeartbeats 4000000 in
theorem con_cmp_Less_int {a0 : Int} {a1 : Int} {r : Bool} (h : m_cmp_Less_int a0 a1 = some r) :
    Con Try.prog 135 [.v (Enc.int .i64) a0, .v (Enc.int .i64) a1] (.v Enc.bool r) [] := by
  refine Con.of Try.func135 rfl Try.ntmps135 rfl ?_
  intro S w hF
  unfold m_cmp_Less_int at h
  refine W.seq ?_
  refine W.reg (σ' := ⟨[(0, .v (Enc.int .i64) a0), (1, .v (Enc.int .i64) a1)], []⟩) (J.cons (.none rfl) (JO.assign rfl) rfl rfl (J.fin (Sw.Sub.mk id (.cons rfl (.of_eq rfl) (.cons rfl (.of_eq rfl) .nil)) .nil rfl))) ?_
  refine W.seq ?_
  obtain ⟨x5, hx, h⟩ := bind_e h
  refine W.reg (σ' := ⟨[(4, .v Enc.bool x5)], []⟩) ?_ ?_
  · obtain ⟨v6, hv6, hx⟩ := bind_e hx
    rcases Bool.eq_false_or_eq_true v6 with hc7 | hc7
    · replace hx := cond_t hc7 hx
      obtain ⟨v8, hv8, hx⟩ := bind_e hx
      rcases Bool.eq_false_or_eq_true (!v8) with hc9 | hc9
      · replace hx := cond_t hc9 hx
        obtain rfl := Option.some.inj hx
        exact (J.cons (.none rfl) (JO.move rfl) rfl rfl (J.cons (.none rfl) (JO.call0 (con_cmp_isNaN_int hv6) Try.call154 (.cons (.dir rfl) .nil)) rfl rfl (J.cons (.none rfl) (JO.move rfl) rfl rfl (J.cons (GK.met 7 rfl rfl rfl hc7) (JO.move rfl) rfl rfl (J.cons (GK.met 7 rfl rfl rfl hc7) (JO.call0 (con_cmp_isNaN_int hv8) Try.call154 (.cons (.dir rfl) .nil)) rfl rfl (J.cons (GK.met 7 rfl rfl rfl hc7) (JO.not rfl) rfl rfl (J.cons (.none rfl) (JO.pT hc7 rfl rfl) rfl rfl (J.cons (.none rfl) (JO.move rfl) rfl rfl (J.left (GK.unmet 12 rfl rfl rfl hc9) rfl (J.left (GK.unmet 12 rfl rfl rfl hc9) rfl (J.left (GK.unmet 12 rfl rfl rfl hc9) rfl (J.cons (.none rfl) (JO.pT hc9 rfl rfl) rfl rfl (J.cons (.none rfl) (JO.assign rfl) rfl rfl (J.fin (Sw.Sub.mk id (.cons rfl (.of_eq rfl) .nil) .nil rfl)))))))))))))))
      · replace hx := cond_f hc9 hx
        obtain rfl := Option.some.inj hx
        exact (J.cons (.none rfl) (JO.move rfl) rfl rfl (J.cons (.none rfl) (JO.call0 (con_cmp_isNaN_int hv6) Try.call154 (.cons (.dir rfl) .nil)) rfl rfl (J.cons (.none rfl) (JO.move rfl) rfl rfl (J.cons (GK.met 7 rfl rfl rfl hc7) (JO.move rfl) rfl rfl (J.cons (GK.met 7 rfl rfl rfl hc7) (JO.call0 (con_cmp_isNaN_int hv8) Try.call154 (.cons (.dir rfl) .nil)) rfl rfl (J.cons (GK.met 7 rfl rfl rfl hc7) (JO.not rfl) rfl rfl (J.cons (.none rfl) (JO.pT hc7 rfl rfl) rfl rfl (J.cons (.none rfl) (JO.move rfl) rfl rfl (J.cons (GK.met 12 rfl rfl rfl hc9) (JO.move rfl) rfl rfl (J.cons (GK.met 12 rfl rfl rfl hc9) (JO.move rfl) rfl rfl (J.cons (GK.met 12 rfl rfl rfl hc9) (JO.cmp rfl rfl rfl) rfl rfl (J.cons (.none rfl) (JO.pF hc9 rfl rfl) rfl rfl (J.cons (.none rfl) (JO.assign rfl) rfl rfl (J.fin (Sw.Sub.mk id (.cons rfl (.of_eq rfl) .nil) .nil rfl)))))))))))))))
    · replace hx := cond_f hc7 hx
      obtain rfl := Option.some.inj hx
      exact (J.cons (.none rfl) (JO.move rfl) rfl rfl (J.cons (.none rfl) (JO.call0 (con_cmp_isNaN_int hv6) Try.call154 (.cons (.dir rfl) .nil)) rfl rfl (J.cons (.none rfl) (JO.move rfl) rfl rfl (J.left (GK.unmet 7 rfl rfl rfl hc7) rfl (J.left (GK.unmet 7 rfl rfl rfl hc7) rfl (J.left (GK.unmet 7 rfl rfl rfl hc7) rfl (J.cons (.none rfl) (JO.pF hc7 rfl rfl) rfl rfl (J.cons (.none rfl) (JO.move rfl) rfl rfl (J.cons (GK.met 12 rfl rfl rfl rfl) (JO.move rfl) rfl rfl (J.cons (GK.met 12 rfl rfl rfl rfl) (JO.move rfl) rfl rfl (J.cons (GK.met 12 rfl rfl rfl rfl) (JO.cmp rfl rfl rfl) rfl rfl (J.cons (.none rfl) (JO.pF rfl rfl rfl) rfl rfl (J.cons (.none rfl) (JO.assign rfl) rfl rfl (J.fin (Sw.Sub.mk id (.cons rfl (.of_eq rfl) .nil) .nil rfl)))))))))))))))
  refine W.ret ?_
  obtain rfl := Option.some.inj h
  exact XQ.sub (σ' := ⟨[(4, .v Enc.bool x5)], []⟩) (Sw.Sub.mk id (.cons rfl (.of_eq rfl) .nil) .nil rfl) (XQ.ret1 hF noR rfl (RV.tmp rfl) .nil rfl)
set_option maxRecDepth 100000 in
set_option maxHeartbeats 4000000 in
theorem con_slices_isNaN_int {a0 : Int} {r : Bool} (h : m_slices_isNaN_int a0 = some r) :
    Con Try.prog 136 [.v (Enc.int .i64) a0] (.v Enc.bool r) [] := by
  refine Con.of Try.func136 rfl Try.ntmps136 rfl ?_
  intro S w hF
  unfold m_slices_isNaN_int at h
  refine W.seq ?_
  refine W.reg (σ' := ⟨[(0, .v (Enc.int .i64) a0)], []⟩) (J.cons (.none rfl) (JO.assign rfl) rfl rfl (J.fin (Sw.Sub.mk id (.cons rfl (.of_eq rfl) .nil) .nil rfl))) ?_
  refine W.seq ?_
  refine W.reg (σ' := ⟨[(2, .v Enc.bool (cm .neq a0 a0))], []⟩) (J.cons (.none rfl) (JO.move rfl) rfl rfl (J.cons (.none rfl) (JO.move rfl) rfl rfl (J.cons (.none rfl) (JO.cmp rfl rfl rfl) rfl rfl (J.cons (.none rfl) (JO.assign rfl) rfl rfl (J.fin (Sw.Sub.mk id (.cons rfl (.of_eq rfl) .nil) .nil rfl)))))) ?_
  refine W.ret ?_
  obtain rfl := Option.some.inj h
  exact XQ.sub (σ' := ⟨[(2, .v Enc.bool (cm .neq a0 a0))], []⟩) (Sw.Sub.mk id (.cons rfl (.of_eq rfl) .nil) .nil rfl) (XQ.ret1 hF noR rfl (RV.tmp rfl) .nil rfl)
set_option maxRecDepth 100000 in
set_option maxHeartbeats 4000000 in
theorem con_slices_BinarySearch_int_int {a0 : (List Int)} {a1 : Int} {r : Int × Bool} (h : m_slices_BinarySearch_int_int a0 a1 = some r) :
    Con Try.prog 91 [.v (Enc.sl (Enc.int .i64)) a0, .v (Enc.int .i64) a1] (.tup [.v (Enc.int .i64) r.1, .v Enc.bool r.2]) [] := by
  refine Con.of Try.func91 rfl Try.ntmps91 rfl ?_
  intro S w hF
  unfold m_slices_BinarySearch_int_int at h
  refine W.seq ?_
  refine W.reg (σ' := ⟨[(0, .v (Enc.sl (Enc.int .i64)) a0), (1, .v (Enc.int .i64) a1)], []⟩) (J.cons (.none rfl) (JO.assign rfl) rfl rfl (J.cons (.none rfl) (JO.assign rfl) rfl rfl (J.fin (Sw.Sub.mk id (.cons rfl (.of_eq rfl) (.cons rfl (.of_eq rfl) .nil)) .nil rfl)))) ?_
  refine W.seq ?_
  refine W.reg (σ' := ⟨[(0, .v (Enc.sl (Enc.int .i64)) a0), (1, .v (Enc.int .i64) a1), (6, .v (Enc.int .i64) (a0.length : Int))], []⟩) (J.cons (.none rfl) (JO.move rfl) rfl rfl (J.cons (.none rfl) (JO.len rfl Try.runUnderlying25) rfl rfl (J.cons (.none rfl) (JO.assign rfl) rfl rfl (J.fin (Sw.Sub.mk id (.cons rfl (.of_eq rfl) (.cons rfl (.of_eq rfl) (.cons rfl (.of_eq rfl) .nil))) .nil rfl))))) ?_
  refine W.seq ?_
  refine W.reg (σ' := ⟨[(0, .v (Enc.sl (Enc.int .i64)) a0), (1, .v (Enc.int .i64) a1), (6, .v (Enc.int .i64) (a0.length : Int)), (7, .v (Enc.int .i64) (0 : Int)), (8, .v (Enc.int .i64) (a0.length : Int))], []⟩) (J.cons (.none rfl) (JO.move rfl) rfl rfl (J.cons (.none rfl) (JO.assign rfl) rfl rfl (J.cons (.none rfl) (JO.assign rfl) rfl rfl (J.fin (Sw.Sub.mk id (.cons rfl (.of_eq rfl) (.cons rfl (.of_eq rfl) (.cons rfl (.of_eq rfl) (.cons rfl (.of_eq rfl) (.cons rfl (.of_eq rfl) .nil))))) .nil rfl))))) ?_
  refine W.seq ?_
  obtain ⟨o16, ho16, hb16, hr16⟩ := lp_elim h
  refine W.lp (σs := fun s11 : Int × Int => ⟨[(0, .v (Enc.sl (Enc.int .i64)) a0), (1, .v (Enc.int .i64) a1), (6, .v (Enc.int .i64) (a0.length : Int)), (7, .v (Enc.int .i64) s11.1), (8, .v (Enc.int .i64) s11.2)], []⟩) (fun x17 : Int => ⟨[(0, .v (Enc.sl (Enc.int .i64)) a0), (1, .v (Enc.int .i64) a1), (6, .v (Enc.int .i64) (a0.length : Int)), (7, .v (Enc.int .i64) x17)], []⟩) ho16 (Sw.Sub.mk id (.cons rfl (.of_eq rfl) (.cons rfl (.of_eq rfl) (.cons rfl (.of_eq rfl) (.cons rfl (.of_eq rfl) (.cons rfl (.of_eq rfl) .nil))))) .nil rfl) ?_ ?_
  · intro x17 hy
    have h := hb16 _ hy
    refine W.seq ?_
    obtain ⟨x29, hx, h⟩ := bind_e h
    refine W.reg (σ' := ⟨[(4, .v (Enc.int .i64) x17), (5, .v Enc.bool x29)], []⟩) ?_ ?_
    · rcases Bool.eq_false_or_eq_true (cm .lss x17 (a0.length : Int)) with hc30 | hc30
      · replace hx := cond_t hc30 hx
        obtain ⟨z31, hz31, hx⟩ := bind_e hx
        rcases Bool.eq_false_or_eq_true (cm .eql z31 a1) with hc32 | hc32
        · replace hx := cond_t hc32 hx
          obtain rfl := Option.some.inj hx
          exact (J.cons (.none rfl) (JO.move rfl) rfl rfl (J.cons (.none rfl) (JO.move rfl) rfl rfl (J.cons (.none rfl) (JO.move rfl) rfl rfl (J.cons (.none rfl) (JO.cmp rfl rfl rfl) rfl rfl (J.cons (.none rfl) (JO.move rfl) rfl rfl (J.cons (GK.met 35 rfl rfl rfl hc30) (JO.move rfl) rfl rfl (J.cons (GK.met 35 rfl rfl rfl hc30) (JO.move rfl) rfl rfl (J.cons (GK.met 35 rfl rfl rfl hc30) (JO.idx hz31 rfl rfl Try.runUnderlying25 Try.sizeOf3) rfl rfl (J.cons (GK.met 35 rfl rfl rfl hc30) (JO.loadPst rfl Try.isAgg3 Try.sizeOf3) rfl rfl (J.cons (GK.met 35 rfl rfl rfl hc30) (JO.move rfl) rfl rfl (J.cons (GK.met 35 rfl rfl rfl hc30) (JO.cmp rfl rfl rfl) rfl rfl (J.cons (GK.met 35 rfl rfl rfl hc30) (JO.move rfl) rfl rfl (J.left (GK.unmet 42 rfl rfl rfl hc32) rfl (J.left (GK.unmet 42 rfl rfl rfl hc32) rfl (J.left (GK.unmet 42 rfl rfl rfl hc32) rfl (J.left (GK.unmet 42 rfl rfl rfl hc32) rfl (J.left (GK.unmet 42 rfl rfl rfl hc32) rfl (J.left (GK.unmet 42 rfl rfl rfl hc32) rfl (J.left (GK.und 48 rfl rfl rfl) rfl (J.left (GK.und 48 rfl rfl rfl) rfl (J.left (GK.unmet 42 rfl rfl rfl hc32) rfl (J.cons (GK.met 35 rfl rfl rfl hc30) (JO.pT hc32 rfl rfl) rfl rfl (J.cons (.none rfl) (JO.pT hc30 rfl rfl) rfl rfl (J.cons (.none rfl) (JO.assign rfl) rfl rfl (J.cons (.none rfl) (JO.assign rfl) rfl rfl (J.fin (Sw.Sub.mk id (.cons rfl (.of_eq rfl) (.cons rfl (.of_eq rfl) .nil)) .nil rfl)))))))))))))))))))))))))))
        · replace hx := cond_f hc32 hx
          obtain ⟨z33, hz33, hx⟩ := bind_e hx
          obtain ⟨v34, hv34, hx⟩ := bind_e hx
          rcases Bool.eq_false_or_eq_true v34 with hc35 | hc35
          · replace hx := cond_t hc35 hx
            obtain ⟨v36, hv36, hx⟩ := bind_e hx
            obtain rfl := Option.some.inj hx
            exact (J.cons (.none rfl) (JO.move rfl) rfl rfl (J.cons (.none rfl) (JO.move rfl) rfl rfl (J.cons (.none rfl) (JO.move rfl) rfl rfl (J.cons (.none rfl) (JO.cmp rfl rfl rfl) rfl rfl (J.cons (.none rfl) (JO.move rfl) rfl rfl (J.cons (GK.met 35 rfl rfl rfl hc30) (JO.move rfl) rfl rfl (J.cons (GK.met 35 rfl rfl rfl hc30) (JO.move rfl) rfl rfl (J.cons (GK.met 35 rfl rfl rfl hc30) (JO.idx hz31 rfl rfl Try.runUnderlying25 Try.sizeOf3) rfl rfl (J.cons (GK.met 35 rfl rfl rfl hc30) (JO.loadPst rfl Try.isAgg3 Try.sizeOf3) rfl rfl (J.cons (GK.met 35 rfl rfl rfl hc30) (JO.move rfl) rfl rfl (J.cons (GK.met 35 rfl rfl rfl hc30) (JO.cmp rfl rfl rfl) rfl rfl (J.cons (GK.met 35 rfl rfl rfl hc30) (JO.move rfl) rfl rfl (J.cons (GK.met 42 rfl rfl rfl hc32) (JO.move rfl) rfl rfl (J.cons (GK.met 42 rfl rfl rfl hc32) (JO.move rfl) rfl rfl (J.cons (GK.met 42 rfl rfl rfl hc32) (JO.idx hz33 rfl rfl Try.runUnderlying25 Try.sizeOf3) rfl rfl (J.cons (GK.met 42 rfl rfl rfl hc32) (JO.loadPst rfl Try.isAgg3 Try.sizeOf3) rfl rfl (J.cons (GK.met 42 rfl rfl rfl hc32) (JO.call0 (con_slices_isNaN_int hv34) Try.call136 (.cons (.dir rfl) .nil)) rfl rfl (J.cons (GK.met 42 rfl rfl rfl hc32) (JO.move rfl) rfl rfl (J.cons (GK.met 48 rfl rfl rfl hc35) (JO.move rfl) rfl rfl (J.cons (GK.met 48 rfl rfl rfl hc35) (JO.call0 (con_slices_isNaN_int hv36) Try.call136 (.cons (.dir rfl) .nil)) rfl rfl (J.cons (GK.met 42 rfl rfl rfl hc32) (JO.pT hc35 rfl rfl) rfl rfl (J.cons (GK.met 35 rfl rfl rfl hc30) (JO.pF hc32 rfl rfl) rfl rfl (J.cons (.none rfl) (JO.pT hc30 rfl rfl) rfl rfl (J.cons (.none rfl) (JO.assign rfl) rfl rfl (J.cons (.none rfl) (JO.assign rfl) rfl rfl (J.fin (Sw.Sub.mk id (.cons rfl (.of_eq rfl) (.cons rfl (.of_eq rfl) .nil)) .nil rfl)))))))))))))))))))))))))))
          · replace hx := cond_f hc35 hx
            obtain rfl := Option.some.inj hx
            exact (J.cons (.none rfl) (JO.move rfl) rfl rfl (J.cons (.none rfl) (JO.move rfl) rfl rfl (J.cons (.none rfl) (JO.move rfl) rfl rfl (J.cons (.none rfl) (JO.cmp rfl rfl rfl) rfl rfl (J.cons (.none rfl) (JO.move rfl) rfl rfl (J.cons (GK.met 35 rfl rfl rfl hc30) (JO.move rfl) rfl rfl (J.cons (GK.met 35 rfl rfl rfl hc30) (JO.move rfl) rfl rfl (J.cons (GK.met 35 rfl rfl rfl hc30) (JO.idx hz31 rfl rfl Try.runUnderlying25 Try.sizeOf3) rfl rfl (J.cons (GK.met 35 rfl rfl rfl hc30) (JO.loadPst rfl Try.isAgg3 Try.sizeOf3) rfl rfl (J.cons (GK.met 35 rfl rfl rfl hc30) (JO.move rfl) rfl rfl (J.cons (GK.met 35 rfl rfl rfl hc30) (JO.cmp rfl rfl rfl) rfl rfl (J.cons (GK.met 35 rfl rfl rfl hc30) (JO.move rfl) rfl rfl (J.cons (GK.met 42 rfl rfl rfl hc32) (JO.move rfl) rfl rfl (J.cons (GK.met 42 rfl rfl rfl hc32) (JO.move rfl) rfl rfl (J.cons (GK.met 42 rfl rfl rfl hc32) (JO.idx hz33 rfl rfl Try.runUnderlying25 Try.sizeOf3) rfl rfl (J.cons (GK.met 42 rfl rfl rfl hc32) (JO.loadPst rfl Try.isAgg3 Try.sizeOf3) rfl rfl (J.cons (GK.met 42 rfl rfl rfl hc32) (JO.call0 (con_slices_isNaN_int hv34) Try.call136 (.cons (.dir rfl) .nil)) rfl rfl (J.cons (GK.met 42 rfl rfl rfl hc32) (JO.move rfl) rfl rfl (J.left (GK.unmet 48 rfl rfl rfl hc35) rfl (J.left (GK.unmet 48 rfl rfl rfl hc35) rfl (J.cons (GK.met 42 rfl rfl rfl hc32) (JO.pF hc35 rfl rfl) rfl rfl (J.cons (GK.met 35 rfl rfl rfl hc30) (JO.pF hc32 rfl rfl) rfl rfl (J.cons (.none rfl) (JO.pT hc30 rfl rfl) rfl rfl (J.cons (.none rfl) (JO.assign rfl) rfl rfl (J.cons (.none rfl) (JO.assign rfl) rfl rfl (J.fin (Sw.Sub.mk id (.cons rfl (.of_eq rfl) (.cons rfl (.of_eq rfl) .nil)) .nil rfl)))))))))))))))))))))))))))
      · replace hx := cond_f hc30 hx
        obtain rfl := Option.some.inj hx
        exact (J.cons (.none rfl) (JO.move rfl) rfl rfl (J.cons (.none rfl) (JO.move rfl) rfl rfl (J.cons (.none rfl) (JO.move rfl) rfl rfl (J.cons (.none rfl) (JO.cmp rfl rfl rfl) rfl rfl (J.cons (.none rfl) (JO.move rfl) rfl rfl (J.left (GK.unmet 35 rfl rfl rfl hc30) rfl (J.left (GK.unmet 35 rfl rfl rfl hc30) rfl (J.left (GK.unmet 35 rfl rfl rfl hc30) rfl (J.left (GK.unmet 35 rfl rfl rfl hc30) rfl (J.left (GK.unmet 35 rfl rfl rfl hc30) rfl (J.left (GK.unmet 35 rfl rfl rfl hc30) rfl (J.left (GK.unmet 35 rfl rfl rfl hc30) rfl (J.left (GK.und 42 rfl rfl rfl) rfl (J.left (GK.und 42 rfl rfl rfl) rfl (J.left (GK.und 42 rfl rfl rfl) rfl (J.left (GK.und 42 rfl rfl rfl) rfl (J.left (GK.und 42 rfl rfl rfl) rfl (J.left (GK.und 42 rfl rfl rfl) rfl (J.left (GK.und 48 rfl rfl rfl) rfl (J.left (GK.und 48 rfl rfl rfl) rfl (J.left (GK.und 42 rfl rfl rfl) rfl (J.left (GK.unmet 35 rfl rfl rfl hc30) rfl (J.cons (.none rfl) (JO.pF hc30 rfl rfl) rfl rfl (J.cons (.none rfl) (JO.assign rfl) rfl rfl (J.cons (.none rfl) (JO.assign rfl) rfl rfl (J.fin (Sw.Sub.mk id (.cons rfl (.of_eq rfl) (.cons rfl (.of_eq rfl) .nil)) .nil rfl)))))))))))))))))))))))))))
    refine W.ret ?_
    obtain rfl := Option.some.inj h
    exact XQ.sub (σ' := ⟨[(4, .v (Enc.int .i64) x17), (5, .v Enc.bool x29)], []⟩) (Sw.Sub.mk id (.cons rfl (.of_eq rfl) (.cons rfl (.of_eq rfl) .nil)) .nil rfl) (XQ.ret2 hF noR rfl (RV.tmp rfl) (RV.tmp rfl) .nil rfl)
  intro s11 r16 h
  refine W.seq ?_
  refine W.seq ?_
  refine W.reg (σ' := ⟨[(0, .v (Enc.sl (Enc.int .i64)) a0), (1, .v (Enc.int .i64) a1), (6, .v (Enc.int .i64) (a0.length : Int)), (7, .v (Enc.int .i64) s11.1), (8, .v (Enc.int .i64) s11.2), (15, .v Enc.bool (cm .lss s11.1 s11.2))], []⟩) (J.cons (.none rfl) (JO.move rfl) rfl rfl (J.cons (.none rfl) (JO.move rfl) rfl rfl (J.cons (.none rfl) (JO.cmp rfl rfl rfl) rfl rfl (J.fin (Sw.Sub.mk id (.cons rfl (.of_eq rfl) (.cons rfl (.of_eq rfl) (.cons rfl (.of_eq rfl) (.cons rfl (.of_eq rfl) (.cons rfl (.of_eq rfl) (.cons rfl (.of_eq rfl) .nil)))))) .nil rfl))))) ?_
  rcases Bool.eq_false_or_eq_true (cm .lss s11.1 s11.2) with hc18 | hc18
  · replace h := cond_t hc18 h
    refine W.condT rfl hc18 ?_
    refine W.skip ?_
    refine W.block ?_
    refine W.seq ?_
    refine W.reg (σ' := ⟨[(0, .v (Enc.sl (Enc.int .i64)) a0), (1, .v (Enc.int .i64) a1), (6, .v (Enc.int .i64) (a0.length : Int)), (7, .v (Enc.int .i64) s11.1), (8, .v (Enc.int .i64) s11.2), (9, .v (Enc.int .i64) (IntKind.wrap .i64 (sh .shr .u64 (IntKind.wrap .u64 (ar .add .i64 s11.1 s11.2)) (1 : Int))))], []⟩) (J.cons (.none rfl) (JO.move rfl) rfl rfl (J.cons (.none rfl) (JO.move rfl) rfl rfl (J.cons (.none rfl) (JO.arith rfl rfl rfl) rfl rfl (J.cons (.none rfl) (JO.conv Try.runUnderlying3 Try.runUnderlying156 rfl) rfl rfl (J.cons (.none rfl) (JO.shift (.inr rfl) (by decide) rfl rfl) rfl rfl (J.cons (.none rfl) (JO.conv Try.runUnderlying156 Try.runUnderlying3 rfl) rfl rfl (J.cons (.none rfl) (JO.assign rfl) rfl rfl (J.fin (Sw.Sub.mk id (.cons rfl (.of_eq rfl) (.cons rfl (.of_eq rfl) (.cons rfl (.of_eq rfl) (.cons rfl (.of_eq rfl) (.cons rfl (.of_eq rfl) (.cons rfl (.of_eq rfl) .nil)))))) .nil rfl))))))))) ?_
    refine W.seq ?_
    obtain ⟨z19, hz19, h⟩ := bind_e h
    obtain ⟨v20, hv20, h⟩ := bind_e h
    refine W.reg (σ' := ⟨[(0, .v (Enc.sl (Enc.int .i64)) a0), (1, .v (Enc.int .i64) a1), (6, .v (Enc.int .i64) (a0.length : Int)), (7, .v (Enc.int .i64) s11.1), (8, .v (Enc.int .i64) s11.2), (9, .v (Enc.int .i64) (IntKind.wrap .i64 (sh .shr .u64 (IntKind.wrap .u64 (ar .add .i64 s11.1 s11.2)) (1 : Int)))), (27, .v Enc.bool v20)], []⟩) (J.cons (.none rfl) (JO.move rfl) rfl rfl (J.cons (.none rfl) (JO.move rfl) rfl rfl (J.cons (.none rfl) (JO.idx hz19 rfl rfl Try.runUnderlying25 Try.sizeOf3) rfl rfl (J.cons (.none rfl) (JO.loadPst rfl Try.isAgg3 Try.sizeOf3) rfl rfl (J.cons (.none rfl) (JO.move rfl) rfl rfl (J.cons (.none rfl) (JO.call0 (con_cmp_Less_int hv20) Try.call135 (.cons (.dir rfl) (.cons (.dir rfl) .nil))) rfl rfl (J.fin (Sw.Sub.mk id (.cons rfl (.of_eq rfl) (.cons rfl (.of_eq rfl) (.cons rfl (.of_eq rfl) (.cons rfl (.of_eq rfl) (.cons rfl (.of_eq rfl) (.cons rfl (.of_eq rfl) (.cons rfl (.of_eq rfl) .nil))))))) .nil rfl)))))))) ?_
    rcases Bool.eq_false_or_eq_true v20 with hc21 | hc21
    · replace h := cond_t hc21 h
      refine W.condT rfl hc21 ?_
      refine W.reg (σ' := ⟨[(0, .v (Enc.sl (Enc.int .i64)) a0), (1, .v (Enc.int .i64) a1), (6, .v (Enc.int .i64) (a0.length : Int)), (7, .v (Enc.int .i64) (ar .add .i64 (IntKind.wrap .i64 (sh .shr .u64 (IntKind.wrap .u64 (ar .add .i64 s11.1 s11.2)) (1 : Int))) (1 : Int))), (8, .v (Enc.int .i64) s11.2)], []⟩) (J.cons (.none rfl) (JO.move rfl) rfl rfl (J.cons (.none rfl) (JO.arith rfl rfl rfl) rfl rfl (J.cons (.none rfl) (JO.assign rfl) rfl rfl (J.fin (Sw.Sub.mk id (.cons rfl (.of_eq rfl) (.cons rfl (.of_eq rfl) (.cons rfl (.of_eq rfl) (.cons rfl (.of_eq rfl) (.cons rfl (.of_eq rfl) .nil))))) .nil rfl))))) ?_
      refine W.fall ?_
      obtain rfl := Option.some.inj h
      exact W.next (Sw.Sub.mk id (.cons rfl (.of_eq rfl) (.cons rfl (.of_eq rfl) (.cons rfl (.of_eq rfl) (.cons rfl (.of_eq rfl) (.cons rfl (.of_eq rfl) .nil))))) .nil rfl)
    · replace h := cond_f hc21 h
      refine W.condF rfl hc21 ?_
      refine W.reg (σ' := ⟨[(0, .v (Enc.sl (Enc.int .i64)) a0), (1, .v (Enc.int .i64) a1), (6, .v (Enc.int .i64) (a0.length : Int)), (7, .v (Enc.int .i64) s11.1), (8, .v (Enc.int .i64) (IntKind.wrap .i64 (sh .shr .u64 (IntKind.wrap .u64 (ar .add .i64 s11.1 s11.2)) (1 : Int))))], []⟩) (J.cons (.none rfl) (JO.move rfl) rfl rfl (J.cons (.none rfl) (JO.assign rfl) rfl rfl (J.fin (Sw.Sub.mk id (.cons rfl (.of_eq rfl) (.cons rfl (.of_eq rfl) (.cons rfl (.of_eq rfl) (.cons rfl (.of_eq rfl) (.cons rfl (.of_eq rfl) .nil))))) .nil rfl)))) ?_
      refine W.fall ?_
      obtain rfl := Option.some.inj h
      exact W.next (Sw.Sub.mk id (.cons rfl (.of_eq rfl) (.cons rfl (.of_eq rfl) (.cons rfl (.of_eq rfl) (.cons rfl (.of_eq rfl) (.cons rfl (.of_eq rfl) .nil))))) .nil rfl)
  · replace h := cond_f hc18 h
    refine W.condF rfl hc18 ?_
    refine W.exit ?_
    obtain rfl := Option.some.inj h
    exact XQ.brk (Sw.Sub.mk id (.cons rfl (.of_eq rfl) (.cons rfl (.of_eq rfl) (.cons rfl (.of_eq rfl) (.cons rfl (.of_eq rfl) .nil)))) .nil rfl)
set_option maxRecDepth 100000 in
set_option maxHeartbeats 4000000 in
theorem con_slices_Insert_int_int (A0 : Nat → Nat) {a0 : (List Int)} {a1 : Int} {a2 : (List Int)} {r : (List Int)} (h : m_slices_Insert_int_int a0 a1 a2 = some r) :
    ConM Try.prog 92 [.ref 9000, .v (Enc.int .i64) a1, .v (Enc.sl (Enc.int .i64)) a2] [(9000, .arr 3 (Enc.int .i64) a0)] (.ref 0) [(0, .arr 3 (Enc.int .i64) r)] := by
  obtain ⟨h0, h1, h2, rfl⟩ := ins_some h
  obtain ⟨i, rfl⟩ : ∃ i : Nat, a1 = (i : Int) := ⟨a1.toNat, by omega⟩
  obtain ⟨A, B, hA, rfl⟩ : ∃ A B, A.length = i ∧ a0 = A ++ B := ⟨a0.take i, a0.drop i, by rw [List.length_take]; omega, (List.take_append_drop _ _).symm⟩
  subst hA
  have hr : (A ++ B).take ((A.length : Int)).toNat ++ (a2 ++ (A ++ B).drop ((A.length : Int)).toNat) = A ++ (a2 ++ B) := by simp
  rw [hr]; clear hr h h0 h1
  have hn : (A ++ B).length = A.length + B.length := List.length_append
  have hs1 : Sw.sub (A ++ B) (A.length : Int) ((A ++ B).length : Int) = some B := by rw [Sw.sub, if_pos (by omega), Int.toNat_natCast, Int.toNat_natCast, List.take_length, List.drop_left]
  have hw1 : ar .add .i64 ((A ++ B).length : Int) (a2.length : Int) = ((A.length + B.length + a2.length : Nat) : Int) := by simp only [ar, IntKind.wrap_i64]; omega
  have hw2 : ar .sub .i64 (ar .add .i64 ((A ++ B).length : Int) (a2.length : Int)) (A.length : Int) = ((B.length + a2.length : Nat) : Int) := by rw [hw1]; simp only [ar, IntKind.wrap_i64]; omega
  have hw3 : ar .add .i64 (A.length : Int) (a2.length : Int) = ((A.length + a2.length : Nat) : Int) := by simp only [ar, IntKind.wrap_i64]; omega
  refine ConM.of Try.func92 rfl Try.ntmps92 rfl ?_
  intro S w R hF
  repeat refine W.seq ?_
  refine W.reg (σ' := ⟨[(0, .ref 9000), (1, .v (Enc.int .i64) (A.length : Int)), (2, .v (Enc.sl (Enc.int .i64)) a2)], [(9000, .arr 3 (Enc.int .i64) (A ++ B))]⟩) (J.cons (.none rfl) (JO.assignNil (Enc.int .i64)) rfl rfl (J.fin (Sw.Sub.mk id (.cons rfl (.of_eq rfl) (.cons rfl (.of_eq rfl) (.cons rfl (.of_eq rfl) .nil))) (.arr rfl .nil) rfl))) ?_
  repeat refine W.seq ?_
  refine W.reg (σ' := ⟨[(0, .ref 9000), (1, .v (Enc.int .i64) (A.length : Int)), (2, .v (Enc.sl (Enc.int .i64)) a2)], [(9000, .arr 3 (Enc.int .i64) (A ++ B))]⟩) (J.cons (.none rfl) (JO.move rfl) rfl rfl (J.cons (.none rfl) (JO.move rfl) rfl rfl (J.cons (.none rfl) (JO.srLo hs1 rfl rfl rfl Try.runUnderlying25 Try.sizeOf3) rfl rfl (J.fin (Sw.Sub.mk id (.cons rfl (.of_eq rfl) (.cons rfl (.of_eq rfl) (.cons rfl (.of_eq rfl) .nil))) (.arr rfl .nil) rfl))))) ?_
  repeat refine W.seq ?_
  refine W.reg (σ' := ⟨[(0, .ref 9000), (1, .v (Enc.int .i64) (A.length : Int)), (2, .v (Enc.sl (Enc.int .i64)) a2), (7, .v (Enc.int .i64) (a2.length : Int))], [(9000, .arr 3 (Enc.int .i64) (A ++ B))]⟩) (J.cons (.none rfl) (JO.move rfl) rfl rfl (J.cons (.none rfl) (JO.len rfl Try.runUnderlying25) rfl rfl (J.cons (.none rfl) (JO.assign rfl) rfl rfl (J.fin (Sw.Sub.mk id (.cons rfl (.of_eq rfl) (.cons rfl (.of_eq rfl) (.cons rfl (.of_eq rfl) (.cons rfl (.of_eq rfl) .nil)))) (.arr rfl .nil) rfl))))) ?_
  repeat refine W.seq ?_
  refine W.reg (σ' := ⟨[(0, .ref 9000), (1, .v (Enc.int .i64) (A.length : Int)), (2, .v (Enc.sl (Enc.int .i64)) a2), (7, .v (Enc.int .i64) (a2.length : Int)), (16, .v Enc.bool (cm .eql (a2.length : Int) (0 : Int)))], [(9000, .arr 3 (Enc.int .i64) (A ++ B))]⟩) (J.cons (.none rfl) (JO.move rfl) rfl rfl (J.cons (.none rfl) (JO.cmp rfl rfl rfl) rfl rfl (J.fin (Sw.Sub.mk id (.cons rfl (.of_eq rfl) (.cons rfl (.of_eq rfl) (.cons rfl (.of_eq rfl) (.cons rfl (.of_eq rfl) (.cons rfl (.of_eq rfl) .nil))))) (.arr rfl .nil) rfl)))) ?_
  repeat refine W.seq ?_
  rcases Bool.eq_false_or_eq_true (cm .eql (a2.length : Int) (0 : Int)) with hc | hc
  · have ha2 : a2 = [] := List.eq_nil_of_length_eq_zero (by simp [cm] at hc; simp [hc])
    have hfin : A ++ B = A ++ (a2 ++ B) := by rw [ha2]; rfl
    refine W.condT rfl hc ?_
    repeat refine W.seq ?_
    refine W.reg (σ' := ⟨[(0, .ref 9000), (1, .v (Enc.int .i64) (A.length : Int)), (2, .v (Enc.sl (Enc.int .i64)) a2), (6, .ref 9000), (7, .v (Enc.int .i64) (a2.length : Int)), (16, .v Enc.bool (cm .eql (a2.length : Int) (0 : Int))), (17, .ref 9000)], [(9000, .arr 3 (Enc.int .i64) (A ++ B))]⟩) (J.cons (.none rfl) (JO.move rfl) rfl rfl (J.cons (.none rfl) (JO.assign rfl) rfl rfl (J.fin (Sw.Sub.mk id (.cons rfl (.of_eq rfl) (.cons rfl (.of_eq rfl) (.cons rfl (.of_eq rfl) (.cons rfl (.of_eq rfl) (.cons rfl (.of_eq rfl) (.cons rfl (.of_eq rfl) (.cons rfl (.of_eq rfl) .nil))))))) (.arr rfl .nil) rfl)))) ?_
    refine W.ret ?_
    rw [hfin]
    exact XQ.sub (σ' := ⟨[(6, .ref 0)], [(0, .arr 3 (Enc.int .i64) (A ++ (a2 ++ B)))]⟩) (Sw.Sub.mk (rn [(0, 9000)]) (.cons rfl (.of_eq rfl) .nil) (.arr rfl .nil) rfl) (XQ.retM1 hF rfl (RV.tmp rfl) (.cons rfl .nil))
  have hm : 0 < a2.length := by
    simp [cm] at hc; exact List.length_pos_iff.2 hc
  have ha2 : a2 ≠ [] := List.length_pos_iff.1 hm
  refine W.condF rfl hc ?_
  clear hc
  repeat first | refine W.skip ?_ | refine W.seq ?_
  refine W.reg (σ' := ⟨[(0, .ref 9000), (1, .v (Enc.int .i64) (A.length : Int)), (2, .v (Enc.sl (Enc.int .i64)) a2), (7, .v (Enc.int .i64) (a2.length : Int)), (8, .v (Enc.int .i64) ((A ++ B).length : Int))], [(9000, .arr 3 (Enc.int .i64) (A ++ B))]⟩) (J.cons (.none rfl) (JO.move rfl) rfl rfl (J.cons (.none rfl) (JO.lenR rfl rfl Try.runUnderlying25) rfl rfl (J.cons (.none rfl) (JO.assign rfl) rfl rfl (J.fin (Sw.Sub.mk id (.cons rfl (.of_eq rfl) (.cons rfl (.of_eq rfl) (.cons rfl (.of_eq rfl) (.cons rfl (.of_eq rfl) (.cons rfl (.of_eq rfl) .nil))))) (.arr rfl .nil) rfl))))) ?_
  repeat refine W.seq ?_
  refine W.reg (σ' := ⟨[(0, .ref 9000), (1, .v (Enc.int .i64) (A.length : Int)), (2, .v (Enc.sl (Enc.int .i64)) a2), (7, .v (Enc.int .i64) (a2.length : Int)), (8, .v (Enc.int .i64) ((A ++ B).length : Int)), (22, .v Enc.bool (cm .eql (A.length : Int) ((A ++ B).length : Int)))], [(9000, .arr 3 (Enc.int .i64) (A ++ B))]⟩) (J.cons (.none rfl) (JO.move rfl) rfl rfl (J.cons (.none rfl) (JO.move rfl) rfl rfl (J.cons (.none rfl) (JO.cmp rfl rfl rfl) rfl rfl (J.fin (Sw.Sub.mk id (.cons rfl (.of_eq rfl) (.cons rfl (.of_eq rfl) (.cons rfl (.of_eq rfl) (.cons rfl (.of_eq rfl) (.cons rfl (.of_eq rfl) (.cons rfl (.of_eq rfl) .nil)))))) (.arr rfl .nil) rfl))))) ?_
  repeat refine W.seq ?_
  rcases Bool.eq_false_or_eq_true (cm .eql (A.length : Int) ((A ++ B).length : Int)) with hc | hc
  · have hB : B = [] := List.eq_nil_of_length_eq_zero (by simp [cm] at hc; omega)
    have happ : Sw.app (A ++ B) a2 = some (A ++ (a2 ++ B)) := by subst hB; rw [Sw.app, if_pos h2]; simp
    refine W.condT rfl hc ?_
    repeat refine W.seq ?_
    refine W.reg (σ' := ⟨[(1, .v (Enc.int .i64) (A.length : Int)), (2, .v (Enc.sl (Enc.int .i64)) a2), (6, .ref 1), (7, .v (Enc.int .i64) (a2.length : Int)), (8, .v (Enc.int .i64) ((A ++ B).length : Int)), (24, .v (Enc.sl (Enc.int .i64)) a2), (25, .ref 1)], [(1, .arr 3 (Enc.int .i64) (A ++ (a2 ++ B)))]⟩) (J.cons (.none rfl) (JO.move rfl) rfl rfl (J.cons (.none rfl) (JO.move rfl) rfl rfl (J.mut (.none rfl) (JM.append 1 happ rfl rfl (.sl rfl) Try.runUnderlying25 Try.typeInfo3 Try.sizeOf3 rfl rfl rfl rfl rfl) (J.cons (.none rfl) (JO.assign rfl) rfl rfl (J.fin (Sw.Sub.mk id (.cons rfl (.of_eq rfl) (.cons rfl (.of_eq rfl) (.cons rfl (.of_eq rfl) (.cons rfl (.of_eq rfl) (.cons rfl (.of_eq rfl) (.cons rfl (.of_eq rfl) (.cons rfl (.of_eq rfl) .nil))))))) (.arr rfl .nil) rfl)))))) ?_
    refine W.ret ?_
    exact XQ.sub (σ' := ⟨[(6, .ref 0)], [(0, .arr 3 (Enc.int .i64) (A ++ (a2 ++ B)))]⟩) (Sw.Sub.mk (rn [(0, 1)]) (.cons rfl (.of_eq rfl) .nil) (.arr rfl .nil) rfl) (XQ.retM1 hF rfl (RV.tmp rfl) (.cons rfl .nil))
  have hB : B ≠ [] := by
    rintro rfl; simp [cm] at hc
  have hBl := List.length_pos_iff.2 hB
  refine W.condF rfl hc ?_
  clear hc
  repeat first | refine W.skip ?_ | refine W.seq ?_
  refine W.openSeg (t := 0) (g' := [(1, .v (Enc.int .i64) (A.length : Int)), (2, .v (Enc.sl (Enc.int .i64)) a2), (7, .v (Enc.int .i64) (a2.length : Int)), (8, .v (Enc.int .i64) ((A ++ B).length : Int))]) rfl hB rfl (by exact (.cons rfl (.cons rfl (.cons rfl (.cons rfl .nil))))) rfl fun b p q c hc1 hc2 hc3 => ?_
  have hen : ((Enc.int .i64)).n = 1 := rfl
  refine W.reg (σ' := ⟨[(0, .asl 9000 p 0 ((A ++ B).length) c), (1, .v (Enc.int .i64) (A.length : Int)), (2, .v (Enc.sl (Enc.int .i64)) a2), (7, .v (Enc.int .i64) (a2.length : Int)), (8, .v (Enc.int .i64) ((A ++ B).length : Int)), (31, .v Enc.bool (cm .gtr (ar .add .i64 ((A ++ B).length : Int) (a2.length : Int)) (c : Int)))], [(9000, .dp (DE.seg 3 (Enc.int .i64) b) [.any p, .rows A, .rows B, .any q] [])]⟩) (J.cons (.none rfl) (JO.move rfl) rfl rfl (J.cons (.none rfl) (JO.move rfl) rfl rfl (J.cons (.none rfl) (JO.arith rfl rfl rfl) rfl rfl (J.cons (.none rfl) (JO.move rfl) rfl rfl (J.cons (.none rfl) (JO.capRaw rfl Try.runUnderlying25) rfl rfl (J.cons (.none rfl) (JO.gtrRaw rfl rfl) rfl rfl (J.fin (Sw.Sub.mk id (.cons rfl (.of_eq rfl) (.cons rfl (.of_eq rfl) (.cons rfl (.of_eq rfl) (.cons rfl (.of_eq rfl) (.cons rfl (.of_eq rfl) (.cons rfl (.of_eq rfl) .nil)))))) (.dp rfl .nil) rfl)))))))) ?_
  repeat refine W.seq ?_
  rcases Bool.eq_false_or_eq_true (cm .gtr (ar .add .i64 ((A ++ B).length : Int) (a2.length : Int)) (c : Int)) with hc | hc
  · have hcg : c < A.length + (B.length + a2.length) := by
      rw [hw1] at hc; simp [cm] at hc; omega
    refine W.condT rfl hc ?_
    clear hc
    repeat refine W.seq ?_
    refine W.reg (σ' := ⟨[(0, .asl 9000 p 0 ((A ++ B).length) c), (1, .v (Enc.int .i64) (A.length : Int)), (2, .v (Enc.sl (Enc.int .i64)) a2), (7, .v (Enc.int .i64) (a2.length : Int)), (8, .v (Enc.int .i64) ((A ++ B).length : Int)), (9, .ref 1)], [(1, .arr 3 (Enc.int .i64) (A ++ List.replicate (B.length + a2.length) (0 : Int))), (9000, .dp (DE.seg 3 (Enc.int .i64) b) [.any p, .rows A, .rows B, .any q] [])]⟩) (J.cons (.none rfl) (JO.move rfl) rfl rfl (J.cons (.none rfl) (JO.move rfl) rfl rfl (J.cons (.none rfl) (JO.aslHi2 (e := (Enc.int .i64)) A.length rfl (by omega) rfl rfl rfl Try.runUnderlying25 Try.sizeOf3) rfl rfl (J.cons (.none rfl) (JO.move rfl) rfl rfl (J.cons (.none rfl) (JO.move rfl) rfl rfl (J.cons (.none rfl) (JO.arith rfl rfl rfl) rfl rfl (J.cons (.none rfl) (JO.move rfl) rfl rfl (J.cons (.none rfl) (JO.arith rfl rfl rfl) rfl rfl (J.cons (.none rfl) (JO.appMk (z0 := _) (zv := (0 : Int)) 1 rfl rfl rfl rfl rfl hw2 (by omega) (by omega) (by omega) rfl Try.runUnderlying25 Try.runUnderlying3 Try.typeInfo3 Try.sizeOf3 rfl (Z.int .i64) rfl) rfl rfl (J.cons (.none rfl) (JO.assign rfl) rfl rfl (J.fin (Sw.Sub.mk id (.cons rfl (.of_eq rfl) (.cons rfl (.of_eq rfl) (.cons rfl (.of_eq rfl) (.cons rfl (.of_eq rfl) (.cons rfl (.of_eq rfl) (.cons rfl (.of_eq rfl) .nil)))))) (.arr rfl (.dp rfl .nil)) rfl)))))))))))) ?_
    have hs2 : Sw.sub (A ++ List.replicate (B.length + a2.length) (0 : Int)) (A.length : Int) (((A ++ List.replicate (B.length + a2.length) (0 : Int))).length : Int) = some (List.replicate (B.length + a2.length) (0 : Int)) := by
      rw [Sw.sub, if_pos (by simp only [List.length_append, List.length_replicate]; omega), Int.toNat_natCast, Int.toNat_natCast, List.take_length, List.drop_left]
    have hle2 : a2.length ≤ ((A ++ List.replicate (B.length + a2.length) (0 : Int))).length - Int.toNat (A.length : Int) := by
      simp only [List.length_append, List.length_replicate]; omega
    repeat refine W.seq ?_
    refine W.reg (σ' := ⟨[(0, .asl 9000 p 0 ((A ++ B).length) c), (1, .v (Enc.int .i64) (A.length : Int)), (2, .v (Enc.sl (Enc.int .i64)) a2), (7, .v (Enc.int .i64) (a2.length : Int)), (8, .v (Enc.int .i64) ((A ++ B).length : Int)), (9, .ref 1)], [(1, .arr 3 (Enc.int .i64) (List.take (Int.toNat (A.length : Int)) (A ++ List.replicate (B.length + a2.length) (0 : Int)) ++ a2 ++ List.drop (Int.toNat (A.length : Int) + a2.length) (A ++ List.replicate (B.length + a2.length) (0 : Int)))), (9000, .dp (DE.seg 3 (Enc.int .i64) b) [.any p, .rows A, .rows B, .any q] [])]⟩) (J.cons (.none rfl) (JO.move rfl) rfl rfl (J.cons (.none rfl) (JO.move rfl) rfl rfl (J.cons (.none rfl) (JO.srLo hs2 rfl rfl rfl Try.runUnderlying25 Try.sizeOf3) rfl rfl (J.cons (.none rfl) (JO.move rfl) rfl rfl (J.mut (.none rfl) (JM.copySub hs2 rfl rfl (.sl rfl) hle2 Try.runUnderlying25 Try.sizeOf3 rfl) (J.fin (Sw.Sub.mk id (.cons rfl (.of_eq rfl) (.cons rfl (.of_eq rfl) (.cons rfl (.of_eq rfl) (.cons rfl (.of_eq rfl) (.cons rfl (.of_eq rfl) (.cons rfl (.of_eq rfl) .nil)))))) (.arr rfl (.dp rfl .nil)) rfl))))))) ?_
    have hz2 : List.take (Int.toNat (A.length : Int)) (A ++ List.replicate (B.length + a2.length) (0 : Int)) ++ a2 ++ List.drop (Int.toNat (A.length : Int) + a2.length) (A ++ List.replicate (B.length + a2.length) (0 : Int)) = (A ++ (a2 ++ List.replicate B.length (0 : Int))) := by
      simp [List.drop_append, List.drop_replicate]
    rw [hz2]
    have hs3 : Sw.sub (A ++ (a2 ++ List.replicate B.length (0 : Int))) (ar .add .i64 (A.length : Int) (a2.length : Int)) (((A ++ (a2 ++ List.replicate B.length (0 : Int)))).length : Int) = some (List.replicate B.length (0 : Int)) := by
      rw [hw3, Sw.sub, if_pos (by simp only [List.length_append, List.length_replicate]; omega), Int.toNat_natCast, Int.toNat_natCast, List.take_length, ← List.append_assoc, List.drop_left' (by rw [List.length_append])]
    have hle3 : B.length ≤ ((A ++ (a2 ++ List.replicate B.length (0 : Int)))).length - Int.toNat (ar .add .i64 (A.length : Int) (a2.length : Int)) := by
      rw [hw3]; simp only [List.length_append, List.length_replicate]; omega
    repeat refine W.seq ?_
    refine W.dr2 (σ' := ⟨[(0, .asl 9000 p 0 ((A ++ B).length) c), (1, .v (Enc.int .i64) (A.length : Int)), (2, .v (Enc.sl (Enc.int .i64)) a2), (7, .v (Enc.int .i64) (a2.length : Int)), (8, .v (Enc.int .i64) ((A ++ B).length : Int)), (9, .ref 1), (53, .asl 9000 (p + A.length * ((Enc.int .i64)).n) 0 B.length (c - A.length))], [(1, .arr 3 (Enc.int .i64) (List.take (Int.toNat (ar .add .i64 (A.length : Int) (a2.length : Int))) (A ++ (a2 ++ List.replicate B.length (0 : Int))) ++ B ++ List.drop (Int.toNat (ar .add .i64 (A.length : Int) (a2.length : Int)) + B.length) (A ++ (a2 ++ List.replicate B.length (0 : Int))))), (9000, .dp (DE.seg 3 (Enc.int .i64) b) [.any p, .rows A, .rows B, .any q] [])]⟩) 8 [0, 0, 0, 6, 15, 0, 0, 96, 255] mixed (by exact (.cons (.none rfl) (JO.move rfl) rfl rfl (.cons (.none rfl) (JO.move rfl) rfl rfl (.cons (.none rfl) (JO.move rfl) rfl rfl (.cons (.none rfl) (JO.arith rfl rfl rfl) rfl rfl (.cons (.none rfl) (JO.srLo hs3 rfl rfl rfl Try.runUnderlying25 Try.sizeOf3) rfl rfl (.cons (.none rfl) (JO.move rfl) rfl rfl (.cons (.none rfl) (JO.move rfl) rfl rfl (.cons (.none rfl) (JO.aslLo (e := (Enc.int .i64)) (p + A.length * ((Enc.int .i64)).n) B.length (c - A.length) rfl (by omega) (by omega) rfl (by omega) rfl rfl rfl Try.runUnderlying25 Try.sizeOf3) rfl rfl .nil))))))))) (by exact (J.mut (.none rfl) (JM.copySub hs3 rfl rfl (.seg rfl rfl rfl rfl (by omega)) hle3 Try.runUnderlying25 Try.sizeOf3 rfl) (J.fin (Sw.Sub.mk id (.cons rfl (.of_eq rfl) (.cons rfl (.of_eq rfl) (.cons rfl (.of_eq rfl) (.cons rfl (.of_eq rfl) (.cons rfl (.of_eq rfl) (.cons rfl (.of_eq rfl) (.cons rfl (.of_eq rfl) .nil))))))) (.arr rfl (.dp rfl .nil)) rfl)))) rfl (by decide +kernel) (by decide +kernel) (by decide +kernel) (by kernel_rfl) ?_
    have hz3 : (List.take (Int.toNat (ar .add .i64 (A.length : Int) (a2.length : Int))) (A ++ (a2 ++ List.replicate B.length (0 : Int))) ++ B ++ List.drop (Int.toNat (ar .add .i64 (A.length : Int) (a2.length : Int)) + B.length) (A ++ (a2 ++ List.replicate B.length (0 : Int)))) = A ++ (a2 ++ B) := by
      rw [hw3, Int.toNat_natCast, ← List.append_assoc A a2 (List.replicate _ _), List.take_left' (by rw [List.length_append]), List.drop_eq_nil_of_le (by simp only [List.length_append, List.length_replicate]; omega)]; simp
    rw [hz3]
    repeat refine W.seq ?_
    refine W.reg (σ' := ⟨[(0, .asl 9000 p 0 ((A ++ B).length) c), (1, .v (Enc.int .i64) (A.length : Int)), (2, .v (Enc.sl (Enc.int .i64)) a2), (6, .ref 1), (7, .v (Enc.int .i64) (a2.length : Int)), (8, .v (Enc.int .i64) ((A ++ B).length : Int)), (9, .ref 1), (53, .asl 9000 (p + A.length * ((Enc.int .i64)).n) 0 B.length (c - A.length)), (55, .ref 1)], [(1, .arr 3 (Enc.int .i64) (A ++ (a2 ++ B))), (9000, .dp (DE.seg 3 (Enc.int .i64) b) [.any p, .rows A, .rows B, .any q] [])]⟩) (J.cons (.none rfl) (JO.move rfl) rfl rfl (J.cons (.none rfl) (JO.assign rfl) rfl rfl (J.fin (Sw.Sub.mk id (.cons rfl (.of_eq rfl) (.cons rfl (.of_eq rfl) (.cons rfl (.of_eq rfl) (.cons rfl (.of_eq rfl) (.cons rfl (.of_eq rfl) (.cons rfl (.of_eq rfl) (.cons rfl (.of_eq rfl) (.cons rfl (.of_eq rfl) (.cons rfl (.of_eq rfl) .nil))))))))) (.arr rfl (.dp rfl .nil)) rfl)))) ?_
    refine W.ret ?_
    exact XQ.sub (σ' := ⟨[(6, .ref 0)], [(0, .arr 3 (Enc.int .i64) (A ++ (a2 ++ B)))]⟩) (Sw.Sub.mk (rn [(0, 1)]) (.cons rfl (.of_eq rfl) .nil) (.arr rfl .nil) rfl) (XQ.retM1 hF rfl (RV.tmp rfl) (.cons rfl .nil))
  · have hcr : A.length + B.length + a2.length ≤ c := by
      rw [hw1] at hc; simp [cm] at hc; omega
    have hq : a2.length * ((Enc.int .i64)).n ≤ q := by
      rw [hen, hn] at hc2; rw [hen]; omega
    refine W.condF rfl hc ?_
    clear hc
    repeat first | refine W.skip ?_ | refine W.seq ?_
    refine W.reg (σ' := ⟨[(0, .asl 9000 p 0 (A.length + B.length + a2.length) c), (1, .v (Enc.int .i64) (A.length : Int)), (2, .v (Enc.sl (Enc.int .i64)) a2), (7, .v (Enc.int .i64) (a2.length : Int)), (8, .v (Enc.int .i64) ((A ++ B).length : Int))], [(9000, .dp (DE.seg 3 (Enc.int .i64) b) [.any p, .rows A, .rows B, .any q] [])]⟩) (J.cons (.none rfl) (JO.move rfl) rfl rfl (J.cons (.none rfl) (JO.move rfl) rfl rfl (J.cons (.none rfl) (JO.move rfl) rfl rfl (J.cons (.none rfl) (JO.arith rfl rfl rfl) rfl rfl (J.cons (.none rfl) (JO.aslHi2 (e := (Enc.int .i64)) (A.length + B.length + a2.length) hw1 (by omega) rfl rfl rfl Try.runUnderlying25 Try.sizeOf3) rfl rfl (J.cons (.none rfl) (JO.assign rfl) rfl rfl (J.fin (Sw.Sub.mk id (.cons rfl (.of_eq rfl) (.cons rfl (.of_eq rfl) (.cons rfl (.of_eq rfl) (.cons rfl (.of_eq rfl) (.cons rfl (.of_eq rfl) .nil))))) (.dp rfl .nil) rfl)))))))) ?_
    repeat refine W.seq ?_
    refine W.reg (σ' := ⟨[(0, .asl 9000 p 0 (A.length + B.length + a2.length) c), (1, .v (Enc.int .i64) (A.length : Int)), (2, .v (Enc.sl (Enc.int .i64)) a2), (7, .v (Enc.int .i64) (a2.length : Int)), (8, .v (Enc.int .i64) ((A ++ B).length : Int)), (68, .v Enc.bool (!false))], [(9000, .dp (DE.seg 3 (Enc.int .i64) b) [.any p, .rows A, .rows B, .any q] [])]⟩) (J.cons (.none rfl) (JO.move rfl) rfl rfl (J.cons (.none rfl) (JO.move rfl) rfl rfl (J.cons (.none rfl) (JO.move rfl) rfl rfl (J.cons (.none rfl) (JO.move rfl) rfl rfl (J.cons (.none rfl) (JO.arith rfl rfl rfl) rfl rfl (J.cons (.none rfl) (JO.aslLo (e := (Enc.int .i64)) (p + (A.length + a2.length) * ((Enc.int .i64)).n) B.length (c - (A.length + a2.length)) hw3 (by omega) (by omega) rfl (by omega) rfl rfl rfl Try.runUnderlying25 Try.sizeOf3) rfl rfl (J.cons (.none rfl) (JO.overlaps Try.func137 (by kernel_rfl) (by kernel_rfl) (by kernel_rfl) (R := 4) (by kernel_rfl) rfl rfl rfl ha2 hB rfl Try.runUnderlying25 Try.sizeOf3) rfl rfl (J.cons (.none rfl) (JO.not rfl) rfl rfl (J.fin (Sw.Sub.mk id (.cons rfl (.of_eq rfl) (.cons rfl (.of_eq rfl) (.cons rfl (.of_eq rfl) (.cons rfl (.of_eq rfl) (.cons rfl (.of_eq rfl) (.cons rfl (.of_eq rfl) .nil)))))) (.dp rfl .nil) rfl)))))))))) ?_
    repeat refine W.seq ?_
    refine W.condT rfl rfl ?_
    repeat refine W.seq ?_
    refine W.dr2 (σ' := ⟨[(0, .asl 9000 p 0 (A.length + B.length + a2.length) c), (1, .v (Enc.int .i64) (A.length : Int)), (2, .v (Enc.sl (Enc.int .i64)) a2), (7, .v (Enc.int .i64) (a2.length : Int)), (8, .v (Enc.int .i64) ((A ++ B).length : Int))], [(9000, .dp (DE.seg 3 (Enc.int .i64) b) [.any p, .rows A, .any (a2.length * ((Enc.int .i64)).n), .rows B, .any (q - a2.length * ((Enc.int .i64)).n)] [])]⟩) 8 [0, 0, 0, 6, 15, 0, 0, 96, 255] mixed (by exact (.cons (.none rfl) (JO.move rfl) rfl rfl (.cons (.none rfl) (JO.move rfl) rfl rfl (.cons (.none rfl) (JO.move rfl) rfl rfl (.cons (.none rfl) (JO.arith rfl rfl rfl) rfl rfl (.cons (.none rfl) (JO.aslLo (e := (Enc.int .i64)) (p + (A.length + a2.length) * ((Enc.int .i64)).n) B.length (c - (A.length + a2.length)) hw3 (by omega) (by omega) rfl (by omega) rfl rfl rfl Try.runUnderlying25 Try.sizeOf3) rfl rfl (.cons (.none rfl) (JO.move rfl) rfl rfl (.cons (.none rfl) (JO.move rfl) rfl rfl (.cons (.none rfl) (JO.aslLo (e := (Enc.int .i64)) (p + A.length * ((Enc.int .i64)).n) (B.length + a2.length) (c - A.length) rfl (by omega) (by omega) rfl (by omega) rfl rfl rfl Try.runUnderlying25 Try.sizeOf3) rfl rfl .nil))))))))) (by exact (J.mut (.none rfl) (JM.segShift (m := a2.length) rfl rfl rfl rfl rfl rfl rfl hq (by omega) Try.runUnderlying25 Try.sizeOf3 rfl) (J.fin (Sw.Sub.mk id (.cons rfl (.of_eq rfl) (.cons rfl (.of_eq rfl) (.cons rfl (.of_eq rfl) (.cons rfl (.of_eq rfl) (.cons rfl (.of_eq rfl) .nil))))) (.dp rfl .nil) rfl)))) rfl (by decide +kernel) (by decide +kernel) (by decide +kernel) (by kernel_rfl) ?_
    repeat refine W.seq ?_
    refine W.reg (σ' := ⟨[(0, .asl 9000 p 0 (A.length + B.length + a2.length) c)], [(9000, .dp (DE.seg 3 (Enc.int .i64) b) [.any p, .rows A, .rows a2, .rows B, .any (q - a2.length * ((Enc.int .i64)).n)] [])]⟩) (J.cons (.none rfl) (JO.move rfl) rfl rfl (J.cons (.none rfl) (JO.move rfl) rfl rfl (J.cons (.none rfl) (JO.aslLo (e := (Enc.int .i64)) (p + A.length * ((Enc.int .i64)).n) (B.length + a2.length) (c - A.length) rfl (by omega) (by omega) rfl (by omega) rfl rfl rfl Try.runUnderlying25 Try.sizeOf3) rfl rfl (J.cons (.none rfl) (JO.move rfl) rfl rfl (J.mut (.none rfl) (JM.segFill rfl rfl (.sl rfl) rfl rfl rfl (by omega) Try.runUnderlying25 Try.sizeOf3 rfl) (J.fin (Sw.Sub.mk id (.cons rfl (.of_eq rfl) .nil) (.dp rfl .nil) rfl))))))) ?_
    refine W.sub (Sub.closeSeg (t := 0) (by simp only [List.length_append]; omega) hcr (by rw [hen, hn] at hc2; rw [hen]; omega) (by omega) rfl) ?_
    repeat refine W.seq ?_
    refine W.reg (σ' := ⟨[(0, .ref 9000), (6, .ref 9000), (83, .ref 9000)], [(9000, .arr 3 (Enc.int .i64) (A ++ (a2 ++ B)))]⟩) (J.cons (.none rfl) (JO.move rfl) rfl rfl (J.cons (.none rfl) (JO.assign rfl) rfl rfl (J.fin (Sw.Sub.mk id (.cons rfl (.of_eq rfl) (.cons rfl (.of_eq rfl) (.cons rfl (.of_eq rfl) .nil))) (.arr rfl .nil) rfl)))) ?_
    refine W.ret ?_
    exact XQ.sub (σ' := ⟨[(6, .ref 0)], [(0, .arr 3 (Enc.int .i64) (A ++ (a2 ++ B)))]⟩) (Sw.Sub.mk (rn [(0, 9000)]) (.cons rfl (.of_eq rfl) .nil) (.arr rfl .nil) rfl) (XQ.retM1 hF rfl (RV.tmp rfl) (.cons rfl .nil))
set_option maxRecDepth 100000 in
set_option maxHeartbeats 4000000 in
theorem con_cache_Index_Put_io (A : Nat → Nat) {a0_0 : (List Blk)} {a0_1 : (List (Blk × (List Int)))} {a1 : Int} {a2 : Blk} {r : (Option Int) × (List Blk) × (List (Blk × (List Int)))} (h : m_cache_Index_Put_io a0_0 a0_1 a1 a2 = some r) :
    ConM Try.prog 44 [.ptr 9000 0, .v (Enc.int .i64) a1, .v eBlk a2] [(9000, .box 151 [.ref 8950, .ref 8951] (some (A 9000))), (8950, .arr 56 eBlk a0_0), (8951, .dp (DE.mps false eBlk 3 (Enc.int .i64)) (a0_1, none) [])] (.v (Enc.err ET) r.1) [(9000, .box 151 [.ref 8910, .ref 8911] (some (A 9000))), (8910, .arr 56 eBlk r.2.1), (8911, .dp (DE.mps false eBlk 3 (Enc.int .i64)) (r.2.2, none) [])] := by
  refine ConM.of Try.func44 rfl Try.ntmps44 rfl ?_
  intro S w R hF
  unfold m_cache_Index_Put_io at h
  refine W.seq ?_
  refine W.reg (σ' := ⟨[(0, .ptr 9000 0), (4, .ptr 101 0), (5, .ptr 102 0)], [(9000, .box 151 [.ref 8950, .ref 8951] (some (A 9000))), (101, .box 3 [.v (Enc.int .i64) a1]), (102, .box 56 [.v eBlk a2]), (8950, .arr 56 eBlk a0_0), (8951, .dp (DE.mps false eBlk 3 (Enc.int .i64)) (a0_1, none) [])]⟩) (J.cons (.none rfl) (JO.box 101 rfl (.one _ _) rfl) rfl rfl (J.cons (.none rfl) (JO.box 102 rfl (.one _ _) rfl) rfl rfl (J.cons (.none rfl) (JO.assignNilE ET) rfl rfl (J.fin (Sw.Sub.mk id (.cons rfl (.of_eq rfl) (.cons rfl (.of_eq rfl) (.cons rfl (.of_eq rfl) .nil))) (.box rfl (.cons (.of_eq rfl) (.cons (.of_eq rfl) .nil)) (.box rfl (.cons (.of_eq rfl) .nil) (.box rfl (.cons (.of_eq rfl) .nil) (.arr rfl (.dp rfl .nil))))) rfl))))) ?_
  refine W.seq ?_
  refine W.seq ?_
  obtain ⟨x2, hx, h⟩ := bind_e h
  refine W.mg (σ' := ⟨[(0, .ptr 9000 0), (4, .ptr 101 0), (5, .ptr 102 0), (20, .v Enc.bool x2)], [(9000, .box 151 [.ref 8950, .ref 8951] (some (A 9000))), (101, .box 3 [.v (Enc.int .i64) a1]), (102, .box 56 [.v eBlk a2]), (8950, .arr 56 eBlk a0_0), (8951, .dp (DE.mps false eBlk 3 (Enc.int .i64)) (a0_1, none) [])]⟩) ?_ ?_
  · intro hk
    rcases Bool.eq_false_or_eq_true (cm .lss a1 (0 : Int)) with hc3 | hc3
    · replace hx := cond_t hc3 hx
      obtain rfl := Option.some.inj hx
      exact W.dr2 (σ' := ⟨[(0, .ptr 9000 0), (4, .ptr 101 0), (5, .ptr 102 0), (20, .v Enc.bool true)], [(9000, .box 151 [.ref 8950, .ref 8951] (some (A 9000))), (101, .box 3 [.v (Enc.int .i64) a1]), (102, .box 56 [.v eBlk a2]), (8950, .arr 56 eBlk a0_0), (8951, .dp (DE.mps false eBlk 3 (Enc.int .i64)) (a0_1, none) [])]⟩) 11 [0, 1, 3, 7, 7, 23, 55, 119, 247, 511, 1023] mixed (by exact (.cons (.none rfl) (JO.load rfl rfl rfl Try.isAgg3 Try.sizeOf3) rfl rfl (.cons (.none rfl) (JO.cmp rfl rfl rfl) rfl rfl (.cons (.none rfl) (JO.move rfl) rfl rfl (.left (GK.unmet 12 rfl rfl rfl hc3) rfl (.left (GK.unmet 12 rfl rfl rfl hc3) rfl (.left (GK.unmet 12 rfl rfl rfl hc3) rfl (.left (GK.unmet 12 rfl rfl rfl hc3) rfl (.left (GK.unmet 12 rfl rfl rfl hc3) rfl (.left (GK.unmet 12 rfl rfl rfl hc3) rfl (.left (GK.unmet 12 rfl rfl rfl hc3) rfl (.cons (.none rfl) (JO.pT hc3 rfl rfl) rfl rfl .nil)))))))))))) (by exact (J.fin (Sw.Sub.mk id (.cons rfl (.of_eq rfl) (.cons rfl (.of_eq rfl) (.cons rfl (.of_eq rfl) (.cons rfl (.of_eq rfl) .nil)))) (.box rfl (.cons (.of_eq rfl) (.cons (.of_eq rfl) .nil)) (.box rfl (.cons (.of_eq rfl) .nil) (.box rfl (.cons (.of_eq rfl) .nil) (.arr rfl (.dp rfl .nil))))) rfl))) rfl (by decide +kernel) (by decide +kernel) (by decide +kernel) (by kernel_rfl) hk
    · replace hx := cond_f hc3 hx
      obtain rfl := Option.some.inj hx
      exact W.dr2 (σ' := ⟨[(0, .ptr 9000 0), (4, .ptr 101 0), (5, .ptr 102 0), (20, .v Enc.bool (cm .geq a1 (a0_0.length : Int)))], [(9000, .box 151 [.ref 8950, .ref 8951] (some (A 9000))), (101, .box 3 [.v (Enc.int .i64) a1]), (102, .box 56 [.v eBlk a2]), (8950, .arr 56 eBlk a0_0), (8951, .dp (DE.mps false eBlk 3 (Enc.int .i64)) (a0_1, none) [])]⟩) 11 [0, 1, 3, 7, 7, 23, 55, 119, 247, 511, 1023] mixed (by exact (.cons (.none rfl) (JO.load rfl rfl rfl Try.isAgg3 Try.sizeOf3) rfl rfl (.cons (.none rfl) (JO.cmp rfl rfl rfl) rfl rfl (.cons (.none rfl) (JO.move rfl) rfl rfl (.cons (GK.met 12 rfl rfl rfl hc3) (JO.load rfl rfl rfl Try.isAgg3 Try.sizeOf3) rfl rfl (.cons (GK.met 12 rfl rfl rfl hc3) (JO.move rfl) rfl rfl (.cons (GK.met 12 rfl rfl rfl hc3) (JO.nilPtr rfl) rfl rfl (.cons (GK.met 12 rfl rfl rfl hc3) (JO.fieldPtr 0 rfl Try.runUnderlying151 rfl Try.sizeOf26 rfl rfl) rfl rfl (.cons (GK.met 12 rfl rfl rfl hc3) (JO.load rfl rfl rfl Try.isAgg26 Try.sizeOf26) rfl rfl (.cons (GK.met 12 rfl rfl rfl hc3) (JO.lenR rfl rfl Try.runUnderlying26) rfl rfl (.cons (GK.met 12 rfl rfl rfl hc3) (JO.cmp rfl rfl rfl) rfl rfl (.cons (.none rfl) (JO.pF hc3 rfl rfl) rfl rfl .nil)))))))))))) (by exact (J.fin (Sw.Sub.mk id (.cons rfl (.of_eq rfl) (.cons rfl (.of_eq rfl) (.cons rfl (.of_eq rfl) (.cons rfl (.of_eq rfl) .nil)))) (.box rfl (.cons (.of_eq rfl) (.cons (.of_eq rfl) .nil)) (.box rfl (.cons (.of_eq rfl) .nil) (.box rfl (.cons (.of_eq rfl) .nil) (.arr rfl (.dp rfl .nil))))) rfl))) rfl (by decide +kernel) (by decide +kernel) (by decide +kernel) (by kernel_rfl) hk
  rcases Bool.eq_false_or_eq_true x2 with hc4 | hc4
  · replace h := cond_t hc4 h
    refine W.condT rfl hc4 ?_
    refine W.seq ?_
    refine W.reg (σ' := ⟨[(0, .ptr 9000 0), (6, .v (Enc.err ET) (some (1 : Int)))], [(9000, .box 151 [.ref 8950, .ref 8951] (some (A 9000))), (8950, .arr 56 eBlk a0_0), (8951, .dp (DE.mps false eBlk 3 (Enc.int .i64)) (a0_1, none) [])]⟩) (J.cons (.none rfl) (JO.mkErr Try.runUnderlying29 rfl) rfl rfl (J.cons (.none rfl) (JO.assign rfl) rfl rfl (J.fin (Sw.Sub.mk id (.cons rfl (.of_eq rfl) (.cons rfl (.of_eq rfl) .nil)) (.box rfl (.cons (.of_eq rfl) (.cons (.of_eq rfl) .nil)) (.arr rfl (.dp rfl .nil))) rfl)))) ?_
    refine W.ret ?_
    obtain rfl := Option.some.inj h
    exact XQ.sub (σ' := ⟨[(0, .ptr 9000 0), (6, .v (Enc.err ET) (some (1 : Int)))], [(9000, .box 151 [.ref 8910, .ref 8911] (some (A 9000))), (8911, .dp (DE.mps false eBlk 3 (Enc.int .i64)) (a0_1, none) []), (8910, .arr 56 eBlk a0_0)]⟩) (Sw.Sub.mk (rn [(9000, 9000), (8911, 8951), (8910, 8950)]) (.cons rfl (.of_eq rfl) (.cons rfl (.of_eq rfl) .nil)) (.box rfl (.cons (.of_eq rfl) (.cons (.of_eq rfl) .nil)) (.dp rfl (.arr rfl .nil))) rfl) (XQ.retM1 hF rfl (RV.tmp rfl) (.cons rfl (.cons rfl (.cons rfl .nil))))
  · replace h := cond_f hc4 h
    refine W.condF rfl hc4 ?_
    refine W.skip ?_
    refine W.seq ?_
    obtain ⟨z5, hz5, h⟩ := bind_e h
    refine W.dr2 (σ' := ⟨[(0, .ptr 9000 0), (4, .ptr 101 0), (5, .ptr 102 0), (7, .ptr 103 0)], [(9000, .box 151 [.ref 8950, .ref 8951] (some (A 9000))), (101, .box 3 [.v (Enc.int .i64) a1]), (102, .box 56 [.v eBlk a2]), (103, .box 56 [.v eBlk z5]), (8950, .arr 56 eBlk a0_0), (8951, .dp (DE.mps false eBlk 3 (Enc.int .i64)) (a0_1, none) [])]⟩) 9 [0, 1, 3, 7, 0, 31, 63, 0, 255] mixed (by exact (.cons (.none rfl) (JO.move rfl) rfl rfl (.cons (.none rfl) (JO.nilPtr rfl) rfl rfl (.cons (.none rfl) (JO.fieldPtr 0 rfl Try.runUnderlying151 rfl Try.sizeOf26 rfl rfl) rfl rfl (.cons (.none rfl) (JO.load rfl rfl rfl Try.isAgg26 Try.sizeOf26) rfl rfl (.cons (.none rfl) (JO.load rfl rfl rfl Try.isAgg3 Try.sizeOf3) rfl rfl (.cons (.none rfl) (JO.idxR hz5 rfl rfl rfl Try.runUnderlying26 Try.sizeOf56) rfl rfl (.cons (.none rfl) (JO.loadEl (idx_some hz5).2.2 rfl rfl .here Try.isAgg56 Try.sizeOf56) rfl rfl (.cons (.none rfl) (JO.alloc 103 Try.zeroValue56 rfl (.cons (Z.arr 8 (Z.int .u8)) .nil) rfl) rfl rfl (JP2.store (.none rfl) rfl rfl rfl rfl rfl rfl rfl Try.sizeOf56 .nil)))))))))) (by exact (J.fin (Sw.Sub.mk id (.cons rfl (.of_eq rfl) (.cons rfl (.of_eq rfl) (.cons rfl (.of_eq rfl) (.cons rfl (.of_eq rfl) .nil)))) (.box rfl (.cons (.of_eq rfl) (.cons (.of_eq rfl) .nil)) (.box rfl (.cons (.of_eq rfl) .nil) (.box rfl (.cons (.of_eq rfl) .nil) (.box rfl (.cons (.of_eq rfl) .nil) (.arr rfl (.dp rfl .nil)))))) rfl))) rfl (by decide +kernel) (by decide +kernel) (by decide +kernel) (by kernel_rfl) ?_
    refine W.seq ?_
    refine W.sub (σ' := ⟨[(0, .ptr 9000 0), (4, .pst (Enc.int .i64) a1), (5, .ptr 102 0), (7, .ptr 103 0)], [(9000, .box 151 [.ref 8950, .ref 8951] (some (A 9000))), (102, .box 56 [.v eBlk a2]), (103, .box 56 [.v eBlk z5]), (8950, .arr 56 eBlk a0_0), (8951, .dp (DE.mps false eBlk 3 (Enc.int .i64)) (a0_1, none) [])]⟩) (Sw.Sub.mk id (.cons rfl (.of_eq rfl) (.cons rfl (.frzP rfl rfl (.cons (.of_eq rfl) .nil) (.one _ _)) (.cons rfl (.of_eq rfl) (.cons rfl (.of_eq rfl) .nil)))) (.box rfl (.cons (.of_eq rfl) (.cons (.of_eq rfl) .nil)) (.box rfl (.cons (.of_eq rfl) .nil) (.box rfl (.cons (.of_eq rfl) .nil) (.arr rfl (.dp rfl .nil))))) rfl) ?_
    obtain ⟨v7, hv7, h⟩ := bind_e h
    refine W.dr4 (σ' := ⟨[(0, .ptr 9000 0), (4, .pst (Enc.int .i64) a1), (5, .ptr 102 0), (7, .ptr 103 0)], [(9000, .box 151 [.ref 8950, .ref 8951] (some (A 9000))), (102, .box 56 [.v eBlk a2]), (103, .box 56 [.v eBlk z5]), (8950, .arr 56 eBlk a0_0), (8951, .dp (DE.mps false eBlk 3 (Enc.int .i64)) (mputS a0_1 z5 v7, none) [])]⟩) 13 [0, 1, 3, 7, 0, 0, 32, 96, 224, 0, 992, 0, 4064, 8191] mixed (by exact (.cons (.none rfl) (JO.move rfl) rfl (.cons (.none rfl) (JO.nilPtr rfl) rfl (.cons (.none rfl) (JO.fieldPtr 1 rfl Try.runUnderlying151 rfl Try.sizeOf149 rfl rfl) rfl (.cons (.none rfl) (JO.load rfl rfl rfl Try.isAgg149 Try.sizeOf149) rfl (.cons (.none rfl) (JO.load rfl rfl rfl Try.isAgg56 Try.sizeOf56) rfl (.cons (.none rfl) (JO.move rfl) rfl (.cons (.none rfl) (JO.nilPtr rfl) rfl (.cons (.none rfl) (JO.fieldPtr 1 rfl Try.runUnderlying151 rfl Try.sizeOf149 rfl rfl) rfl (.cons (.none rfl) (JO.load rfl rfl rfl Try.isAgg149 Try.sizeOf149) rfl (.cons (.none rfl) (JO.load rfl rfl rfl Try.isAgg56 Try.sizeOf56) rfl (JP4.lookupS (.none rfl) 107 rfl rfl rfl Try.runUnderlying149 Try.runUnderlying56 eq56 rfl key56 rfl Try.zeroValue25 rfl rfl (.cons (.none rfl) (JO.makeFunc (.cons (.dir rfl) .nil)) rfl (JP4.callM (.none rfl) (H := [107]) (K := []) (swp [(9000, 107), (0, 108)]) (swp_inj _) (fun A => con_slices_DeleteFunc_int_int__cache_Index_Put_1_io A hv7) Try.call89 (.cons (.dir rfl) (.cons (.dir rfl) .nil)) (fun A => (.arr rfl .nil)) (fun A => (.arr .nil rfl)) (fun _ => rfl) rfl rfl (fun _ => rfl) rfl rfl .nil)))))))))))))) (by exact (J.mut (.none rfl) (JM.mapPutS rfl rfl rfl rfl rfl rfl Try.runUnderlying149 Try.runUnderlying56 eq56 rfl key56 rfl SameE.arr) (J.fin (Sw.Sub.mk id (.cons rfl (.of_eq rfl) (.cons rfl (.of_eq rfl) (.cons rfl (.of_eq rfl) (.cons rfl (.of_eq rfl) .nil)))) (.box rfl (.cons (.of_eq rfl) (.cons (.of_eq rfl) .nil)) (.box rfl (.cons (.of_eq rfl) .nil) (.box rfl (.cons (.of_eq rfl) .nil) (.arr rfl (.dp rfl .nil))))) rfl)))) rfl (by decide +kernel) (by decide +kernel) (by decide +kernel) (by kernel_rfl) (by kernel_rfl) ?_
    refine W.seq ?_
    refine W.seq ?_
    refine W.dr2 (σ' := ⟨[(0, .ptr 9000 0), (4, .pst (Enc.int .i64) a1), (5, .ptr 102 0), (7, .ptr 103 0), (49, .v Enc.bool (cm .eql (((mget (mputS a0_1 z5 v7) z5).getD []).length : Int) (0 : Int)))], [(9000, .box 151 [.ref 8950, .ref 8951] (some (A 9000))), (102, .box 56 [.v eBlk a2]), (103, .box 56 [.v eBlk z5]), (8950, .arr 56 eBlk a0_0), (8951, .dp (DE.mps false eBlk 3 (Enc.int .i64)) (mputS a0_1 z5 v7, kp ((mputS a0_1 z5 v7).map (·.1)) z5) [109]), (109, .arr 3 (Enc.int .i64) ((mget (mputS a0_1 z5 v7) z5).getD []))]⟩) 5 [0, 1, 3, 7, 0, 31, 63, 127] mixed (by exact (.cons (.none rfl) (JO.move rfl) rfl rfl (.cons (.none rfl) (JO.nilPtr rfl) rfl rfl (.cons (.none rfl) (JO.fieldPtr 1 rfl Try.runUnderlying151 rfl Try.sizeOf149 rfl rfl) rfl rfl (.cons (.none rfl) (JO.load rfl rfl rfl Try.isAgg149 Try.sizeOf149) rfl rfl (.cons (.none rfl) (JO.load rfl rfl rfl Try.isAgg56 Try.sizeOf56) rfl rfl .nil)))))) (by exact (J.mut (.none rfl) (JM.lookupS 109 rfl rfl rfl Try.runUnderlying149 Try.runUnderlying56 eq56 rfl key56 rfl Try.zeroValue25 rfl rfl) (J.cons (.none rfl) (JO.lenR rfl rfl Try.runUnderlying25) rfl rfl (J.cons (.none rfl) (JO.cmp rfl rfl rfl) rfl rfl (J.fin (Sw.Sub.mk id (.cons rfl (.of_eq rfl) (.cons rfl (.of_eq rfl) (.cons rfl (.of_eq rfl) (.cons rfl (.of_eq rfl) (.cons rfl (.of_eq rfl) .nil))))) (.box rfl (.cons (.of_eq rfl) (.cons (.of_eq rfl) .nil)) (.box rfl (.cons (.of_eq rfl) .nil) (.box rfl (.cons (.of_eq rfl) .nil) (.arr rfl (.dp rfl (.arr rfl .nil)))))) rfl)))))) rfl (by decide +kernel) (by decide +kernel) (by decide +kernel) (by kernel_rfl) ?_
    refine W.sub (σ' := ⟨[(0, .ptr 9000 0), (4, .pst (Enc.int .i64) a1), (5, .ptr 102 0), (7, .ptr 103 0), (49, .v Enc.bool (cm .eql (((mget (mputS a0_1 z5 v7) z5).getD []).length : Int) (0 : Int)))], [(8951, .dp (DE.mps false eBlk 3 (Enc.int .i64)) (mshut (mputS a0_1 z5 v7) (kp ((mputS a0_1 z5 v7).map (·.1)) z5) ((mget (mputS a0_1 z5 v7) z5).getD []), none) []), (9000, .box 151 [.ref 8950, .ref 8951] (some (A 9000))), (102, .box 56 [.v eBlk a2]), (103, .box 56 [.v eBlk z5]), (8950, .arr 56 eBlk a0_0)]⟩) (Sw.Sub.shutM rfl rfl rfl kp_ok rfl rfl) ?_
    obtain ⟨k9, hk9, h⟩ := jp_elim h
    refine W.jn (fun x10 : (List (Blk × (List Int))) => ⟨[(0, .ptr 9000 0), (4, .pst (Enc.int .i64) a1), (5, .ptr 102 0)], [(9000, .box 151 [.ref 8950, .ref 8951] (some (A 9000))), (102, .box 56 [.v eBlk a2]), (8950, .arr 56 eBlk a0_0), (8951, .dp (DE.mps false eBlk 3 (Enc.int .i64)) (x10, none) [])]⟩) (fun x => k9 x = some r) rfl ?_ ?_ ?_
    · intro x10 h
      rw [hk9] at h
      refine W.seq ?_
      obtain ⟨v12, hv12, h⟩ := bind_e h
      refine W.dr4 (σ' := ⟨[(0, .ptr 9000 0), (4, .pst (Enc.int .i64) a1), (5, .ptr 102 0), (8, .v (Enc.int .i64) v12.1)], [(9000, .box 151 [.ref 8950, .ref 8951] (some (A 9000))), (102, .box 56 [.v eBlk a2]), (8950, .arr 56 eBlk a0_0), (8951, .dp (DE.mps false eBlk 3 (Enc.int .i64)) (x10, kp (x10.map (·.1)) a2) [112]), (112, .arr 3 (Enc.int .i64) ((mget x10 a2).getD []))]⟩) 13 [0, 1, 3, 7, 0, 31, 0, 127, 255, 511, 511, 1023, 4095] mixed (by exact (.cons (.none rfl) (JO.move rfl) rfl (.cons (.none rfl) (JO.nilPtr rfl) rfl (.cons (.none rfl) (JO.fieldPtr 1 rfl Try.runUnderlying151 rfl Try.sizeOf149 rfl rfl) rfl (.cons (.none rfl) (JO.load rfl rfl rfl Try.isAgg149 Try.sizeOf149) rfl (.cons (.none rfl) (JO.load rfl rfl rfl Try.isAgg56 Try.sizeOf56) rfl (JP4.lookupS (.none rfl) 112 rfl rfl rfl Try.runUnderlying149 Try.runUnderlying56 eq56 rfl key56 rfl Try.zeroValue25 rfl rfl (.cons (.none rfl) (JO.loadPst rfl Try.isAgg3 Try.sizeOf3) rfl (.cons (.none rfl) (JO.callL0 (con_slices_BinarySearch_int_int hv12) Try.call91 (.cons (.ref rfl rfl) (.cons (.dir rfl) .nil)) (FlatS.tup (.v (.v .nil)))) rfl (.cons (.none rfl) (JO.move rfl) rfl (.pu (.none rfl) rfl (fun _ => JO.extract rfl rfl) (.pu (.none rfl) rfl (fun _ => JO.extract rfl rfl) (.cons (.none rfl) (JO.assign rfl) rfl (.cons (.none rfl) (JO.assign rfl) rfl .nil)))))))))))))) (by exact (J.fin (Sw.Sub.mk id (.cons rfl (.of_eq rfl) (.cons rfl (.of_eq rfl) (.cons rfl (.of_eq rfl) (.cons rfl (.of_eq rfl) .nil)))) (.box rfl (.cons (.of_eq rfl) (.cons (.of_eq rfl) .nil)) (.box rfl (.cons (.of_eq rfl) .nil) (.arr rfl (.dp rfl (.arr rfl .nil))))) rfl))) rfl (by decide +kernel) (by decide +kernel) (by decide +kernel) (by kernel_rfl) (by kernel_rfl) ?_
      refine W.sub (σ' := ⟨[(0, .ptr 9000 0), (4, .pst (Enc.int .i64) a1), (5, .ptr 102 0), (8, .v (Enc.int .i64) v12.1)], [(8951, .dp (DE.mps false eBlk 3 (Enc.int .i64)) (mshut x10 (kp (x10.map (·.1)) a2) ((mget x10 a2).getD []), none) []), (9000, .box 151 [.ref 8950, .ref 8951] (some (A 9000))), (102, .box 56 [.v eBlk a2]), (8950, .arr 56 eBlk a0_0)]⟩) (Sw.Sub.shutM rfl rfl rfl kp_ok rfl rfl) ?_
      refine W.seq ?_
      obtain ⟨v14, hv14, h⟩ := bind_e h
      refine W.dr4 (σ' := ⟨[(0, .ptr 9000 0), (4, .pst (Enc.int .i64) a1), (5, .ptr 102 0)], [(9000, .box 151 [.ref 8950, .ref 8951] (some (A 9000))), (102, .box 56 [.v eBlk a2]), (8950, .arr 56 eBlk a0_0), (8951, .dp (DE.mps false eBlk 3 (Enc.int .i64)) (mputS (mshut x10 (kp (x10.map (·.1)) a2) ((mget x10 a2).getD [])) a2 v14, none) [])]⟩) 15 [0, 1, 3, 7, 0, 0, 32, 96, 224, 0, 992, 0, 0, 4096, 16352, 32767] mixed (by exact (.cons (.none rfl) (JO.move rfl) rfl (.cons (.none rfl) (JO.nilPtr rfl) rfl (.cons (.none rfl) (JO.fieldPtr 1 rfl Try.runUnderlying151 rfl Try.sizeOf149 rfl rfl) rfl (.cons (.none rfl) (JO.load rfl rfl rfl Try.isAgg149 Try.sizeOf149) rfl (.cons (.none rfl) (JO.load rfl rfl rfl Try.isAgg56 Try.sizeOf56) rfl (.cons (.none rfl) (JO.move rfl) rfl (.cons (.none rfl) (JO.nilPtr rfl) rfl (.cons (.none rfl) (JO.fieldPtr 1 rfl Try.runUnderlying151 rfl Try.sizeOf149 rfl rfl) rfl (.cons (.none rfl) (JO.load rfl rfl rfl Try.isAgg149 Try.sizeOf149) rfl (.cons (.none rfl) (JO.load rfl rfl rfl Try.isAgg56 Try.sizeOf56) rfl (JP4.lookupS (.none rfl) 116 rfl rfl rfl Try.runUnderlying149 Try.runUnderlying56 eq56 rfl key56 rfl Try.zeroValue25 rfl rfl (.cons (.none rfl) (JO.move rfl) rfl (.cons (.none rfl) (JO.loadPst rfl Try.isAgg3 Try.sizeOf3) rfl (.cons (.none rfl) (JO.lit (e := (Enc.int .i64)) Try.runUnderlying25 Try.sizeOf3 Try.zeroValue3 rfl rfl rfl rfl (.cons (.dir rfl) .nil)) rfl (JP4.callM (.none rfl) (H := [116]) (K := []) (swp [(9000, 116), (0, 117)]) (swp_inj _) (fun A => con_slices_Insert_int_int A hv14) Try.call92 (.cons (.dir rfl) (.cons (.dir rfl) (.cons (.dir rfl) .nil))) (fun A => (.arr rfl .nil)) (fun A => (.arr .nil rfl)) (fun _ => rfl) rfl rfl (fun _ => rfl) rfl rfl .nil)))))))))))))))) (by exact (J.mut (.none rfl) (JM.mapPutS rfl rfl rfl rfl rfl rfl Try.runUnderlying149 Try.runUnderlying56 eq56 rfl key56 rfl SameE.arr) (J.fin (Sw.Sub.mk id (.cons rfl (.of_eq rfl) (.cons rfl (.of_eq rfl) (.cons rfl (.of_eq rfl) .nil))) (.box rfl (.cons (.of_eq rfl) (.cons (.of_eq rfl) .nil)) (.box rfl (.cons (.of_eq rfl) .nil) (.arr rfl (.dp rfl .nil)))) rfl)))) rfl (by decide +kernel) (by decide +kernel) (by decide +kernel) (by kernel_rfl) (by kernel_rfl) ?_
      refine W.seq ?_
      obtain ⟨z15, hz15, h⟩ := bind_e h
      refine W.dr2 (σ' := ⟨[(0, .ptr 9000 0)], [(9000, .box 151 [.ref 8950, .ref 8951] (some (A 9000))), (8950, .arr 56 eBlk (List.set a0_0 (Int.toNat a1) a2)), (8951, .dp (DE.mps false eBlk 3 (Enc.int .i64)) (mputS (mshut x10 (kp (x10.map (·.1)) a2) ((mget x10 a2).getD [])) a2 v14, none) [])]⟩) 7 [0, 1, 3, 7, 0, 0, 63, 127] mixed (by exact (.cons (.none rfl) (JO.move rfl) rfl rfl (.cons (.none rfl) (JO.nilPtr rfl) rfl rfl (.cons (.none rfl) (JO.fieldPtr 0 rfl Try.runUnderlying151 rfl Try.sizeOf26 rfl rfl) rfl rfl (.cons (.none rfl) (JO.load rfl rfl rfl Try.isAgg26 Try.sizeOf26) rfl rfl (.cons (.none rfl) (JO.loadPst rfl Try.isAgg3 Try.sizeOf3) rfl rfl (.cons (.none rfl) (JO.load rfl rfl rfl Try.isAgg56 Try.sizeOf56) rfl rfl (.cons (.none rfl) (JO.idxR hz15 rfl rfl rfl Try.runUnderlying26 Try.sizeOf56) rfl rfl .nil)))))))) (by exact (J.mut (.none rfl) (JM.storeEl (idx_some hz15).2.2 rfl rfl rfl Try.sizeOf56) (J.fin (Sw.Sub.mk id (.cons rfl (.of_eq rfl) .nil) (.box rfl (.cons (.of_eq rfl) (.cons (.of_eq rfl) .nil)) (.arr rfl (.dp rfl .nil))) rfl)))) rfl (by decide +kernel) (by decide +kernel) (by decide +kernel) (by kernel_rfl) ?_
      refine W.seq ?_
      refine W.reg (σ' := ⟨[(0, .ptr 9000 0), (6, .v (Enc.err ET) (none : Option Int))], [(9000, .box 151 [.ref 8950, .ref 8951] (some (A 9000))), (8950, .arr 56 eBlk (List.set a0_0 (Int.toNat a1) a2)), (8951, .dp (DE.mps false eBlk 3 (Enc.int .i64)) (mputS (mshut x10 (kp (x10.map (·.1)) a2) ((mget x10 a2).getD [])) a2 v14, none) [])]⟩) (J.cons (.none rfl) (JO.assignNilE ET) rfl rfl (J.fin (Sw.Sub.mk id (.cons rfl (.of_eq rfl) (.cons rfl (.of_eq rfl) .nil)) (.box rfl (.cons (.of_eq rfl) (.cons (.of_eq rfl) .nil)) (.arr rfl (.dp rfl .nil))) rfl))) ?_
      refine W.ret ?_
      obtain rfl := Option.some.inj h
      exact XQ.sub (σ' := ⟨[(0, .ptr 9000 0), (6, .v (Enc.err ET) (none : Option Int))], [(9000, .box 151 [.ref 8910, .ref 8911] (some (A 9000))), (8911, .dp (DE.mps false eBlk 3 (Enc.int .i64)) (mputS (mshut x10 (kp (x10.map (·.1)) a2) ((mget x10 a2).getD [])) a2 v14, none) []), (8910, .arr 56 eBlk (List.set a0_0 (Int.toNat a1) a2))]⟩) (Sw.Sub.mk (rn [(9000, 9000), (8911, 8951), (8910, 8950)]) (.cons rfl (.of_eq rfl) (.cons rfl (.of_eq rfl) .nil)) (.box rfl (.cons (.of_eq rfl) (.cons (.of_eq rfl) .nil)) (.dp rfl (.arr rfl .nil))) rfl) (XQ.retM1 hF rfl (RV.tmp rfl) (.cons rfl (.cons rfl (.cons rfl .nil))))
    · intro hc8
      replace h := cond_t hc8 h
      refine W.dr2 (σ' := ⟨[(0, .ptr 9000 0), (4, .pst (Enc.int .i64) a1), (5, .ptr 102 0)], [(9000, .box 151 [.ref 8950, .ref 8951] (some (A 9000))), (102, .box 56 [.v eBlk a2]), (8950, .arr 56 eBlk a0_0), (8951, .dp (DE.mps false eBlk 3 (Enc.int .i64)) (mdel (mshut (mputS a0_1 z5 v7) (kp ((mputS a0_1 z5 v7).map (·.1)) z5) ((mget (mputS a0_1 z5 v7) z5).getD [])) z5, none) [])]⟩) 5 [0, 1, 3, 7, 0, 31] mixed (by exact (.cons (.none rfl) (JO.move rfl) rfl rfl (.cons (.none rfl) (JO.nilPtr rfl) rfl rfl (.cons (.none rfl) (JO.fieldPtr 1 rfl Try.runUnderlying151 rfl Try.sizeOf149 rfl rfl) rfl rfl (.cons (.none rfl) (JO.load rfl rfl rfl Try.isAgg149 Try.sizeOf149) rfl rfl (.cons (.none rfl) (JO.load rfl rfl rfl Try.isAgg56 Try.sizeOf56) rfl rfl .nil)))))) (by exact (J.mut (.none rfl) (JM.mapDelS rfl rfl rfl Try.runUnderlying149 Try.runUnderlying56 eq56 rfl key56 rfl) (J.fin (Sw.Sub.mk id (.cons rfl (.of_eq rfl) (.cons rfl (.of_eq rfl) (.cons rfl (.of_eq rfl) .nil))) (.box rfl (.cons (.of_eq rfl) (.cons (.of_eq rfl) .nil)) (.box rfl (.cons (.of_eq rfl) .nil) (.arr rfl (.dp rfl .nil)))) rfl)))) rfl (by decide +kernel) (by decide +kernel) (by decide +kernel) (by kernel_rfl) ?_
      exact W.jfall h (Sw.Sub.mk id (.cons rfl (.of_eq rfl) (.cons rfl (.of_eq rfl) (.cons rfl (.of_eq rfl) .nil))) (.box rfl (.cons (.of_eq rfl) (.cons (.of_eq rfl) .nil)) (.box rfl (.cons (.of_eq rfl) .nil) (.arr rfl (.dp rfl .nil)))) rfl)
    · intro hc8
      replace h := cond_f hc8 h
      refine W.skip ?_
      exact W.jfall h (Sw.Sub.mk id (.cons rfl (.of_eq rfl) (.cons rfl (.of_eq rfl) (.cons rfl (.of_eq rfl) .nil))) (.box rfl (.cons (.of_eq rfl) (.cons (.of_eq rfl) .nil)) (.box rfl (.cons (.of_eq rfl) .nil) (.arr rfl (.dp rfl .nil)))) rfl)
set_option maxRecDepth 100000 in
set_option maxHeartbeats 4000000 in
theorem con_law_CacheSays {a0 : (List Blk)} {a1 : (List (Int × Blk))} {a2 : Blk} {r : Bool} (h : m_law_CacheSays a0 a1 a2 = some r) :
    Con Try.prog 7 [.v (Enc.sl eBlk) a0, .v (Enc.sl (Enc.pr (Enc.int .i64) eBlk)) a1, .v eBlk a2] (.v Enc.bool r) [] := by
  refine Con.of Try.func7 rfl Try.ntmps7 rfl ?_
  intro S w hF
  unfold m_law_CacheSays at h
  refine W.seq ?_
  refine W.reg (σ' := ⟨[(0, .v (Enc.sl eBlk) a0), (1, .v (Enc.sl (Enc.pr (Enc.int .i64) eBlk)) a1), (5, .ptr 101 0)], [(101, .box 56 [.v eBlk a2])]⟩) (J.cons (.none rfl) (JO.box 101 rfl (.one _ _) rfl) rfl rfl (J.cons (.none rfl) (JO.assign rfl) rfl rfl (J.fin (Sw.Sub.mk id (.cons rfl (.of_eq rfl) (.cons rfl (.of_eq rfl) (.cons rfl (.of_eq rfl) .nil))) (.box rfl (.cons (.of_eq rfl) .nil) .nil) rfl)))) ?_
  refine W.seq ?_
  refine W.seq ?_
  obtain ⟨x2, hx, h⟩ := bind_e h
  refine W.reg (σ' := ⟨[(0, .v (Enc.sl eBlk) a0), (1, .v (Enc.sl (Enc.pr (Enc.int .i64) eBlk)) a1), (5, .ptr 101 0), (28, .v Enc.bool x2)], [(101, .box 56 [.v eBlk a2])]⟩) ?_ ?_
  · rcases Bool.eq_false_or_eq_true (cm .gtr (a0.length : Int) (100 : Int)) with hc3 | hc3
    · replace hx := cond_t hc3 hx
      obtain rfl := Option.some.inj hx
      exact (J.cons (.none rfl) (JO.move rfl) rfl rfl (J.cons (.none rfl) (JO.len rfl Try.runUnderlying26) rfl rfl (J.cons (.none rfl) (JO.cmp rfl rfl rfl) rfl rfl (J.cons (.none rfl) (JO.move rfl) rfl rfl (J.left (GK.unmet 24 rfl rfl rfl hc3) rfl (J.left (GK.unmet 24 rfl rfl rfl hc3) rfl (J.left (GK.unmet 24 rfl rfl rfl hc3) rfl (J.cons (.none rfl) (JO.pT hc3 rfl rfl) rfl rfl (J.fin (Sw.Sub.mk id (.cons rfl (.of_eq rfl) (.cons rfl (.of_eq rfl) (.cons rfl (.of_eq rfl) (.cons rfl (.of_eq rfl) .nil)))) (.box rfl (.cons (.of_eq rfl) .nil) .nil) rfl))))))))))
    · replace hx := cond_f hc3 hx
      obtain rfl := Option.some.inj hx
      exact (J.cons (.none rfl) (JO.move rfl) rfl rfl (J.cons (.none rfl) (JO.len rfl Try.runUnderlying26) rfl rfl (J.cons (.none rfl) (JO.cmp rfl rfl rfl) rfl rfl (J.cons (.none rfl) (JO.move rfl) rfl rfl (J.cons (GK.met 24 rfl rfl rfl hc3) (JO.move rfl) rfl rfl (J.cons (GK.met 24 rfl rfl rfl hc3) (JO.len rfl Try.runUnderlying76) rfl rfl (J.cons (GK.met 24 rfl rfl rfl hc3) (JO.cmp rfl rfl rfl) rfl rfl (J.cons (.none rfl) (JO.pF hc3 rfl rfl) rfl rfl (J.fin (Sw.Sub.mk id (.cons rfl (.of_eq rfl) (.cons rfl (.of_eq rfl) (.cons rfl (.of_eq rfl) (.cons rfl (.of_eq rfl) .nil)))) (.box rfl (.cons (.of_eq rfl) .nil) .nil) rfl))))))))))
  rcases Bool.eq_false_or_eq_true x2 with hc4 | hc4
  · replace h := cond_t hc4 h
    refine W.condT rfl hc4 ?_
    refine W.seq ?_
    refine W.reg (σ' := ⟨[(6, .v Enc.bool true)], []⟩) (J.cons (.none rfl) (JO.assign rfl) rfl rfl (J.fin (Sw.Sub.mk id (.cons rfl (.of_eq rfl) .nil) .nil rfl))) ?_
    refine W.ret ?_
    obtain rfl := Option.some.inj h
    exact XQ.sub (σ' := ⟨[(6, .v Enc.bool true)], []⟩) (Sw.Sub.mk id (.cons rfl (.of_eq rfl) .nil) .nil rfl) (XQ.ret1 hF noR rfl (RV.tmp rfl) .nil rfl)
  · replace h := cond_f hc4 h
    refine W.condF rfl hc4 ?_
    refine W.skip ?_
    refine W.seq ?_
    obtain ⟨v5, hv5, h⟩ := bind_e h
    refine W.reg (σ' := ⟨[(0, .v (Enc.sl eBlk) a0), (1, .v (Enc.sl (Enc.pr (Enc.int .i64) eBlk)) a1), (5, .ptr 101 0), (7, .v (Enc.int .i64) v5.1), (8, .v Enc.bool v5.2)], [(101, .box 56 [.v eBlk a2])]⟩) (J.cons (.none rfl) (JO.move rfl) rfl rfl (J.cons (.none rfl) (JO.load rfl rfl rfl Try.isAgg56 Try.sizeOf56) rfl rfl (J.cons (.none rfl) (JO.call0 (con_cache_Find hv5) Try.call40 (.cons (.dir rfl) (.cons (.dir rfl) .nil))) rfl rfl (J.cons (.none rfl) (JO.move rfl) rfl rfl (J.cons (.none rfl) (JO.extract rfl rfl) rfl rfl (J.cons (.none rfl) (JO.extract rfl rfl) rfl rfl (J.cons (.none rfl) (JO.assign rfl) rfl rfl (J.cons (.none rfl) (JO.assign rfl) rfl rfl (J.fin (Sw.Sub.mk id (.cons rfl (.of_eq rfl) (.cons rfl (.of_eq rfl) (.cons rfl (.of_eq rfl) (.cons rfl (.of_eq rfl) (.cons rfl (.of_eq rfl) .nil))))) (.box rfl (.cons (.of_eq rfl) .nil) .nil) rfl)))))))))) ?_
    refine W.seq ?_
    obtain ⟨v6, hv6, h⟩ := bind_e h
    refine W.reg (σ' := ⟨[(0, .v (Enc.sl eBlk) a0), (1, .v (Enc.sl (Enc.pr (Enc.int .i64) eBlk)) a1), (5, .ptr 101 0), (7, .v (Enc.int .i64) v5.1), (8, .v Enc.bool v5.2), (9, .v (Enc.int .i64) v6)], [(101, .box 56 [.v eBlk a2])]⟩) (J.cons (.none rfl) (JO.move rfl) rfl rfl (J.cons (.none rfl) (JO.load rfl rfl rfl Try.isAgg56 Try.sizeOf56) rfl rfl (J.cons (.none rfl) (JO.call0 (con_ref_First hv6) Try.call41 (.cons (.dir rfl) (.cons (.dir rfl) .nil))) rfl rfl (J.cons (.none rfl) (JO.assign rfl) rfl rfl (J.fin (Sw.Sub.mk id (.cons rfl (.of_eq rfl) (.cons rfl (.of_eq rfl) (.cons rfl (.of_eq rfl) (.cons rfl (.of_eq rfl) (.cons rfl (.of_eq rfl) (.cons rfl (.of_eq rfl) .nil)))))) (.box rfl (.cons (.of_eq rfl) .nil) .nil) rfl)))))) ?_
    refine W.seq ?_
    refine W.seq ?_
    obtain ⟨x12, hx, h⟩ := bind_e h
    refine W.reg (σ' := ⟨[(0, .v (Enc.sl eBlk) a0), (1, .v (Enc.sl (Enc.pr (Enc.int .i64) eBlk)) a1), (5, .ptr 101 0), (57, .v Enc.bool x12)], [(101, .box 56 [.v eBlk a2])]⟩) ?_ ?_
    · rcases Bool.eq_false_or_eq_true (!(v5.2 == (cm .geq v6 (0 : Int)))) with hc13 | hc13
      · replace hx := cond_t hc13 hx
        obtain rfl := Option.some.inj hx
        exact (J.cons (.none rfl) (JO.move rfl) rfl rfl (J.cons (.none rfl) (JO.move rfl) rfl rfl (J.cons (.none rfl) (JO.cmp rfl rfl rfl) rfl rfl (J.cons (.none rfl) (JO.boolNe Try.runUnderlying4 rfl rfl) rfl rfl (J.cons (.none rfl) (JO.move rfl) rfl rfl (J.left (GK.unmet 42 rfl rfl rfl hc13) rfl (J.left (GK.unmet 42 rfl rfl rfl hc13) rfl (J.left (GK.und 44 rfl rfl rfl) rfl (J.left (GK.und 44 rfl rfl rfl) rfl (J.left (GK.und 44 rfl rfl rfl) rfl (J.left (GK.unmet 42 rfl rfl rfl hc13) rfl (J.cons (.none rfl) (JO.pT hc13 rfl rfl) rfl rfl (J.cons (.none rfl) (JO.move rfl) rfl rfl (J.left (GK.unmet 50 rfl rfl rfl rfl) rfl (J.left (GK.unmet 50 rfl rfl rfl rfl) rfl (J.left (GK.unmet 50 rfl rfl rfl rfl) rfl (J.left (GK.und 53 rfl rfl rfl) rfl (J.left (GK.und 53 rfl rfl rfl) rfl (J.left (GK.unmet 50 rfl rfl rfl rfl) rfl (J.cons (.none rfl) (JO.pT rfl rfl rfl) rfl rfl (J.fin (Sw.Sub.mk id (.cons rfl (.of_eq rfl) (.cons rfl (.of_eq rfl) (.cons rfl (.of_eq rfl) (.cons rfl (.of_eq rfl) .nil)))) (.box rfl (.cons (.of_eq rfl) .nil) .nil) rfl))))))))))))))))))))))
      · replace hx := cond_f hc13 hx
        rcases Bool.eq_false_or_eq_true v5.2 with hc14 | hc14
        · replace hx := cond_t hc14 hx
          rcases Bool.eq_false_or_eq_true (cm .neq v5.1 v6) with hc15 | hc15
          · replace hx := cond_t hc15 hx
            obtain rfl := Option.some.inj hx
            exact (J.cons (.none rfl) (JO.move rfl) rfl rfl (J.cons (.none rfl) (JO.move rfl) rfl rfl (J.cons (.none rfl) (JO.cmp rfl rfl rfl) rfl rfl (J.cons (.none rfl) (JO.boolNe Try.runUnderlying4 rfl rfl) rfl rfl (J.cons (.none rfl) (JO.move rfl) rfl rfl (J.cons (GK.met 42 rfl rfl rfl hc13) (JO.move rfl) rfl rfl (J.cons (GK.met 42 rfl rfl rfl hc13) (JO.move rfl) rfl rfl (J.cons (GK.met 44 rfl rfl rfl hc14) (JO.move rfl) rfl rfl (J.cons (GK.met 44 rfl rfl rfl hc14) (JO.move rfl) rfl rfl (J.cons (GK.met 44 rfl rfl rfl hc14) (JO.cmp rfl rfl rfl) rfl rfl (J.cons (GK.met 42 rfl rfl rfl hc13) (JO.pT hc14 rfl rfl) rfl rfl (J.cons (.none rfl) (JO.pF hc13 rfl rfl) rfl rfl (J.cons (.none rfl) (JO.move rfl) rfl rfl (J.left (GK.unmet 50 rfl rfl rfl hc15) rfl (J.left (GK.unmet 50 rfl rfl rfl hc15) rfl (J.left (GK.unmet 50 rfl rfl rfl hc15) rfl (J.left (GK.und 53 rfl rfl rfl) rfl (J.left (GK.und 53 rfl rfl rfl) rfl (J.left (GK.unmet 50 rfl rfl rfl hc15) rfl (J.cons (.none rfl) (JO.pT hc15 rfl rfl) rfl rfl (J.fin (Sw.Sub.mk id (.cons rfl (.of_eq rfl) (.cons rfl (.of_eq rfl) (.cons rfl (.of_eq rfl) (.cons rfl (.of_eq rfl) .nil)))) (.box rfl (.cons (.of_eq rfl) .nil) .nil) rfl))))))))))))))))))))))
          · replace hx := cond_f hc15 hx
            rcases Bool.eq_false_or_eq_true (!v5.2) with hc16 | hc16
            · replace hx := cond_t hc16 hx
              obtain rfl := Option.some.inj hx
              exact (J.cons (.none rfl) (JO.move rfl) rfl rfl (J.cons (.none rfl) (JO.move rfl) rfl rfl (J.cons (.none rfl) (JO.cmp rfl rfl rfl) rfl rfl (J.cons (.none rfl) (JO.boolNe Try.runUnderlying4 rfl rfl) rfl rfl (J.cons (.none rfl) (JO.move rfl) rfl rfl (J.cons (GK.met 42 rfl rfl rfl hc13) (JO.move rfl) rfl rfl (J.cons (GK.met 42 rfl rfl rfl hc13) (JO.move rfl) rfl rfl (J.cons (GK.met 44 rfl rfl rfl hc14) (JO.move rfl) rfl rfl (J.cons (GK.met 44 rfl rfl rfl hc14) (JO.move rfl) rfl rfl (J.cons (GK.met 44 rfl rfl rfl hc14) (JO.cmp rfl rfl rfl) rfl rfl (J.cons (GK.met 42 rfl rfl rfl hc13) (JO.pT hc14 rfl rfl) rfl rfl (J.cons (.none rfl) (JO.pF hc13 rfl rfl) rfl rfl (J.cons (.none rfl) (JO.move rfl) rfl rfl (J.cons (GK.met 50 rfl rfl rfl hc15) (JO.move rfl) rfl rfl (J.cons (GK.met 50 rfl rfl rfl hc15) (JO.not rfl) rfl rfl (J.cons (GK.met 50 rfl rfl rfl hc15) (JO.move rfl) rfl rfl (J.cons (GK.met 53 rfl rfl rfl hc16) (JO.move rfl) rfl rfl (J.cons (GK.met 53 rfl rfl rfl hc16) (JO.cmp rfl rfl rfl) rfl rfl (J.cons (GK.met 50 rfl rfl rfl hc15) (JO.pT hc16 rfl rfl) rfl rfl (J.cons (.none rfl) (JO.pF hc15 rfl rfl) rfl rfl (J.fin (Sw.Sub.mk id (.cons rfl (.of_eq rfl) (.cons rfl (.of_eq rfl) (.cons rfl (.of_eq rfl) (.cons rfl (.of_eq rfl) .nil)))) (.box rfl (.cons (.of_eq rfl) .nil) .nil) rfl))))))))))))))))))))))
            · replace hx := cond_f hc16 hx
              obtain rfl := Option.some.inj hx
              exact (J.cons (.none rfl) (JO.move rfl) rfl rfl (J.cons (.none rfl) (JO.move rfl) rfl rfl (J.cons (.none rfl) (JO.cmp rfl rfl rfl) rfl rfl (J.cons (.none rfl) (JO.boolNe Try.runUnderlying4 rfl rfl) rfl rfl (J.cons (.none rfl) (JO.move rfl) rfl rfl (J.cons (GK.met 42 rfl rfl rfl hc13) (JO.move rfl) rfl rfl (J.cons (GK.met 42 rfl rfl rfl hc13) (JO.move rfl) rfl rfl (J.cons (GK.met 44 rfl rfl rfl hc14) (JO.move rfl) rfl rfl (J.cons (GK.met 44 rfl rfl rfl hc14) (JO.move rfl) rfl rfl (J.cons (GK.met 44 rfl rfl rfl hc14) (JO.cmp rfl rfl rfl) rfl rfl (J.cons (GK.met 42 rfl rfl rfl hc13) (JO.pT hc14 rfl rfl) rfl rfl (J.cons (.none rfl) (JO.pF hc13 rfl rfl) rfl rfl (J.cons (.none rfl) (JO.move rfl) rfl rfl (J.cons (GK.met 50 rfl rfl rfl hc15) (JO.move rfl) rfl rfl (J.cons (GK.met 50 rfl rfl rfl hc15) (JO.not rfl) rfl rfl (J.cons (GK.met 50 rfl rfl rfl hc15) (JO.move rfl) rfl rfl (J.left (GK.unmet 53 rfl rfl rfl hc16) rfl (J.left (GK.unmet 53 rfl rfl rfl hc16) rfl (J.cons (GK.met 50 rfl rfl rfl hc15) (JO.pF hc16 rfl rfl) rfl rfl (J.cons (.none rfl) (JO.pF hc15 rfl rfl) rfl rfl (J.fin (Sw.Sub.mk id (.cons rfl (.of_eq rfl) (.cons rfl (.of_eq rfl) (.cons rfl (.of_eq rfl) (.cons rfl (.of_eq rfl) .nil)))) (.box rfl (.cons (.of_eq rfl) .nil) .nil) rfl))))))))))))))))))))))
        · replace hx := cond_f hc14 hx
          rcases Bool.eq_false_or_eq_true (!v5.2) with hc17 | hc17
          · replace hx := cond_t hc17 hx
            obtain rfl := Option.some.inj hx
            exact (J.cons (.none rfl) (JO.move rfl) rfl rfl (J.cons (.none rfl) (JO.move rfl) rfl rfl (J.cons (.none rfl) (JO.cmp rfl rfl rfl) rfl rfl (J.cons (.none rfl) (JO.boolNe Try.runUnderlying4 rfl rfl) rfl rfl (J.cons (.none rfl) (JO.move rfl) rfl rfl (J.cons (GK.met 42 rfl rfl rfl hc13) (JO.move rfl) rfl rfl (J.cons (GK.met 42 rfl rfl rfl hc13) (JO.move rfl) rfl rfl (J.left (GK.unmet 44 rfl rfl rfl hc14) rfl (J.left (GK.unmet 44 rfl rfl rfl hc14) rfl (J.left (GK.unmet 44 rfl rfl rfl hc14) rfl (J.cons (GK.met 42 rfl rfl rfl hc13) (JO.pF hc14 rfl rfl) rfl rfl (J.cons (.none rfl) (JO.pF hc13 rfl rfl) rfl rfl (J.cons (.none rfl) (JO.move rfl) rfl rfl (J.cons (GK.met 50 rfl rfl rfl rfl) (JO.move rfl) rfl rfl (J.cons (GK.met 50 rfl rfl rfl rfl) (JO.not rfl) rfl rfl (J.cons (GK.met 50 rfl rfl rfl rfl) (JO.move rfl) rfl rfl (J.cons (GK.met 53 rfl rfl rfl hc17) (JO.move rfl) rfl rfl (J.cons (GK.met 53 rfl rfl rfl hc17) (JO.cmp rfl rfl rfl) rfl rfl (J.cons (GK.met 50 rfl rfl rfl rfl) (JO.pT hc17 rfl rfl) rfl rfl (J.cons (.none rfl) (JO.pF rfl rfl rfl) rfl rfl (J.fin (Sw.Sub.mk id (.cons rfl (.of_eq rfl) (.cons rfl (.of_eq rfl) (.cons rfl (.of_eq rfl) (.cons rfl (.of_eq rfl) .nil)))) (.box rfl (.cons (.of_eq rfl) .nil) .nil) rfl))))))))))))))))))))))
          · replace hx := cond_f hc17 hx
            obtain rfl := Option.some.inj hx
            exact (J.cons (.none rfl) (JO.move rfl) rfl rfl (J.cons (.none rfl) (JO.move rfl) rfl rfl (J.cons (.none rfl) (JO.cmp rfl rfl rfl) rfl rfl (J.cons (.none rfl) (JO.boolNe Try.runUnderlying4 rfl rfl) rfl rfl (J.cons (.none rfl) (JO.move rfl) rfl rfl (J.cons (GK.met 42 rfl rfl rfl hc13) (JO.move rfl) rfl rfl (J.cons (GK.met 42 rfl rfl rfl hc13) (JO.move rfl) rfl rfl (J.left (GK.unmet 44 rfl rfl rfl hc14) rfl (J.left (GK.unmet 44 rfl rfl rfl hc14) rfl (J.left (GK.unmet 44 rfl rfl rfl hc14) rfl (J.cons (GK.met 42 rfl rfl rfl hc13) (JO.pF hc14 rfl rfl) rfl rfl (J.cons (.none rfl) (JO.pF hc13 rfl rfl) rfl rfl (J.cons (.none rfl) (JO.move rfl) rfl rfl (J.cons (GK.met 50 rfl rfl rfl rfl) (JO.move rfl) rfl rfl (J.cons (GK.met 50 rfl rfl rfl rfl) (JO.not rfl) rfl rfl (J.cons (GK.met 50 rfl rfl rfl rfl) (JO.move rfl) rfl rfl (J.left (GK.unmet 53 rfl rfl rfl hc17) rfl (J.left (GK.unmet 53 rfl rfl rfl hc17) rfl (J.cons (GK.met 50 rfl rfl rfl rfl) (JO.pF hc17 rfl rfl) rfl rfl (J.cons (.none rfl) (JO.pF rfl rfl rfl) rfl rfl (J.fin (Sw.Sub.mk id (.cons rfl (.of_eq rfl) (.cons rfl (.of_eq rfl) (.cons rfl (.of_eq rfl) (.cons rfl (.of_eq rfl) .nil)))) (.box rfl (.cons (.of_eq rfl) .nil) .nil) rfl))))))))))))))))))))))
    rcases Bool.eq_false_or_eq_true x12 with hc18 | hc18
    · replace h := cond_t hc18 h
      refine W.condT rfl hc18 ?_
      refine W.seq ?_
      refine W.reg (σ' := ⟨[(6, .v Enc.bool false)], []⟩) (J.cons (.none rfl) (JO.assign rfl) rfl rfl (J.fin (Sw.Sub.mk id (.cons rfl (.of_eq rfl) .nil) .nil rfl))) ?_
      refine W.ret ?_
      obtain rfl := Option.some.inj h
      exact XQ.sub (σ' := ⟨[(6, .v Enc.bool false)], []⟩) (Sw.Sub.mk id (.cons rfl (.of_eq rfl) .nil) .nil rfl) (XQ.ret1 hF noR rfl (RV.tmp rfl) .nil rfl)
    · replace h := cond_f hc18 h
      refine W.condF rfl hc18 ?_
      refine W.skip ?_
      refine W.seq ?_
      obtain ⟨v19, hv19, h⟩ := bind_e h
      rcases hz20 : v19.1 with _ | z20
      · replace h := ocase_n hz20 h
        refine W.reg (σ' := ⟨[(0, .v (Enc.sl eBlk) a0), (1, .v (Enc.sl (Enc.pr (Enc.int .i64) eBlk)) a1), (5, .ptr 101 0), (10, .v (Enc.ptN (Enc.pr (Enc.sl eBlk) (Enc.mpF eBlk (Enc.sl (Enc.int .i64))))) (none : (Option ((List Blk) × (List (Blk × (List Int))))))), (11, .v (Enc.err ET) v19.2)], [(101, .box 56 [.v eBlk a2])]⟩) (J.cons (.none rfl) (JO.move rfl) rfl rfl (J.cons (.none rfl) (JO.call0 (con_cache_New_n hz20 hv19) Try.call42 (.cons (.dir rfl) .nil)) rfl rfl (J.cons (.none rfl) (JO.move rfl) rfl rfl (J.cons (.none rfl) (JO.extract rfl rfl) rfl rfl (J.cons (.none rfl) (JO.extract rfl rfl) rfl rfl (J.cons (.none rfl) (JO.assign rfl) rfl rfl (J.cons (.none rfl) (JO.assign rfl) rfl rfl (J.fin (Sw.Sub.mk id (.cons rfl (.of_eq rfl) (.cons rfl (.of_eq rfl) (.cons rfl (.of_eq rfl) (.cons rfl (.of_eq rfl) (.cons rfl (.of_eq rfl) .nil))))) (.box rfl (.cons (.of_eq rfl) .nil) .nil) rfl))))))))) ?_
        refine W.seq ?_
        refine W.seq ?_
        obtain ⟨x22, hx, h⟩ := bind_e h
        refine W.reg (σ' := ⟨[(0, .v (Enc.sl eBlk) a0), (1, .v (Enc.sl (Enc.pr (Enc.int .i64) eBlk)) a1), (5, .ptr 101 0), (10, .v (Enc.ptN (Enc.pr (Enc.sl eBlk) (Enc.mpF eBlk (Enc.sl (Enc.int .i64))))) (none : (Option ((List Blk) × (List (Blk × (List Int))))))), (11, .v (Enc.err ET) v19.2), (70, .v Enc.bool x22)], [(101, .box 56 [.v eBlk a2])]⟩) ?_ ?_
        · rcases Bool.eq_false_or_eq_true (cm .lss (a0.length : Int) (1 : Int)) with hc23 | hc23
          · replace hx := cond_t hc23 hx
            obtain rfl := Option.some.inj hx
            exact (J.cons (.none rfl) (JO.move rfl) rfl rfl (J.cons (.none rfl) (JO.len rfl Try.runUnderlying26) rfl rfl (J.cons (.none rfl) (JO.cmp rfl rfl rfl) rfl rfl (J.cons (.none rfl) (JO.move rfl) rfl rfl (J.left (GK.unmet 66 rfl rfl rfl hc23) rfl (J.left (GK.unmet 66 rfl rfl rfl hc23) rfl (J.left (GK.unmet 66 rfl rfl rfl hc23) rfl (J.cons (.none rfl) (JO.pT hc23 rfl rfl) rfl rfl (J.fin (Sw.Sub.mk id (.cons rfl (.of_eq rfl) (.cons rfl (.of_eq rfl) (.cons rfl (.of_eq rfl) (.cons rfl (.of_eq rfl) (.cons rfl (.of_eq rfl) (.cons rfl (.of_eq rfl) .nil)))))) (.box rfl (.cons (.of_eq rfl) .nil) .nil) rfl))))))))))
          · replace hx := cond_f hc23 hx
            obtain rfl := Option.some.inj hx
            exact (J.cons (.none rfl) (JO.move rfl) rfl rfl (J.cons (.none rfl) (JO.len rfl Try.runUnderlying26) rfl rfl (J.cons (.none rfl) (JO.cmp rfl rfl rfl) rfl rfl (J.cons (.none rfl) (JO.move rfl) rfl rfl (J.cons (GK.met 66 rfl rfl rfl hc23) (JO.move rfl) rfl rfl (J.cons (GK.met 66 rfl rfl rfl hc23) (JO.len rfl Try.runUnderlying26) rfl rfl (J.cons (GK.met 66 rfl rfl rfl hc23) (JO.cmp rfl rfl rfl) rfl rfl (J.cons (.none rfl) (JO.pF hc23 rfl rfl) rfl rfl (J.fin (Sw.Sub.mk id (.cons rfl (.of_eq rfl) (.cons rfl (.of_eq rfl) (.cons rfl (.of_eq rfl) (.cons rfl (.of_eq rfl) (.cons rfl (.of_eq rfl) (.cons rfl (.of_eq rfl) .nil)))))) (.box rfl (.cons (.of_eq rfl) .nil) .nil) rfl))))))))))
        rcases Bool.eq_false_or_eq_true x22 with hc24 | hc24
        · replace h := cond_t hc24 h
          refine W.condT rfl hc24 ?_
          refine W.seq ?_
          obtain ⟨x26, hx, h⟩ := bind_e h
          refine W.reg (σ' := ⟨[(6, .v Enc.bool x26)], []⟩) ?_ ?_
          · rcases Bool.eq_false_or_eq_true (v19.2 == (some (1 : Int))) with hc27 | hc27
            · replace hx := cond_t hc27 hx
              obtain rfl := Option.some.inj hx
              exact (J.cons (.none rfl) (JO.move rfl) rfl rfl (J.cons (.none rfl) (JO.mkErr Try.runUnderlying29 rfl) rfl rfl (J.cons (.none rfl) (JO.errEq2 Try.runUnderlying33 Try.runUnderlying29 Try.typeInfo29 rfl rfl rfl) rfl rfl (J.cons (.none rfl) (JO.move rfl) rfl rfl (J.cons (GK.met 74 rfl rfl rfl hc27) (JO.move rfl) rfl rfl (J.cons (GK.met 74 rfl rfl rfl hc27) (JO.ptEq rfl Try.runUnderlying80) rfl rfl (J.cons (.none rfl) (JO.pT hc27 rfl rfl) rfl rfl (J.cons (.none rfl) (JO.assign rfl) rfl rfl (J.fin (Sw.Sub.mk id (.cons rfl (.of_eq rfl) .nil) .nil rfl))))))))))
            · replace hx := cond_f hc27 hx
              obtain rfl := Option.some.inj hx
              exact (J.cons (.none rfl) (JO.move rfl) rfl rfl (J.cons (.none rfl) (JO.mkErr Try.runUnderlying29 rfl) rfl rfl (J.cons (.none rfl) (JO.errEq2 Try.runUnderlying33 Try.runUnderlying29 Try.typeInfo29 rfl rfl rfl) rfl rfl (J.cons (.none rfl) (JO.move rfl) rfl rfl (J.left (GK.unmet 74 rfl rfl rfl hc27) rfl (J.left (GK.unmet 74 rfl rfl rfl hc27) rfl (J.cons (.none rfl) (JO.pF hc27 rfl rfl) rfl rfl (J.cons (.none rfl) (JO.assign rfl) rfl rfl (J.fin (Sw.Sub.mk id (.cons rfl (.of_eq rfl) .nil) .nil rfl))))))))))
          refine W.ret ?_
          obtain rfl := Option.some.inj h
          exact XQ.sub (σ' := ⟨[(6, .v Enc.bool x26)], []⟩) (Sw.Sub.mk id (.cons rfl (.of_eq rfl) .nil) .nil rfl) (XQ.ret1 hF noR rfl (RV.tmp rfl) .nil rfl)
        · replace h := cond_f hc24 h
          refine W.condF rfl hc24 ?_
          refine W.skip ?_
          refine W.seq ?_
          refine W.seq ?_
          obtain ⟨x29, hx, h⟩ := bind_e h
          refine W.reg (σ' := ⟨[(0, .v (Enc.sl eBlk) a0), (1, .v (Enc.sl (Enc.pr (Enc.int .i64) eBlk)) a1), (5, .ptr 101 0), (10, .v (Enc.ptN (Enc.pr (Enc.sl eBlk) (Enc.mpF eBlk (Enc.sl (Enc.int .i64))))) (none : (Option ((List Blk) × (List (Blk × (List Int))))))), (83, .v Enc.bool true)], [(101, .box 56 [.v eBlk a2])]⟩) ?_ ?_
          · rcases Bool.eq_false_or_eq_true (Option.isSome v19.2) with hc30 | hc30
            · replace hx := cond_t hc30 hx
              obtain rfl := Option.some.inj hx
              exact (J.cons (.none rfl) (JO.move rfl) rfl rfl (J.cons (.none rfl) (JO.errNe Try.runUnderlying33 rfl) rfl rfl (J.cons (.none rfl) (JO.move rfl) rfl rfl (J.left (GK.unmet 80 rfl rfl rfl hc30) rfl (J.left (GK.unmet 80 rfl rfl rfl hc30) rfl (J.cons (.none rfl) (JO.pT hc30 rfl rfl) rfl rfl (J.fin (Sw.Sub.mk id (.cons rfl (.of_eq rfl) (.cons rfl (.of_eq rfl) (.cons rfl (.of_eq rfl) (.cons rfl (.of_eq rfl) (.cons rfl (.of_eq rfl) .nil))))) (.box rfl (.cons (.of_eq rfl) .nil) .nil) rfl))))))))
            · replace hx := cond_f hc30 hx
              obtain rfl := Option.some.inj hx
              exact (J.cons (.none rfl) (JO.move rfl) rfl rfl (J.cons (.none rfl) (JO.errNe Try.runUnderlying33 rfl) rfl rfl (J.cons (.none rfl) (JO.move rfl) rfl rfl (J.cons (GK.met 80 rfl rfl rfl hc30) (JO.move rfl) rfl rfl (J.cons (GK.met 80 rfl rfl rfl hc30) (JO.ptEq rfl Try.runUnderlying80) rfl rfl (J.cons (.none rfl) (JO.pF hc30 rfl rfl) rfl rfl (J.fin (Sw.Sub.mk id (.cons rfl (.of_eq rfl) (.cons rfl (.of_eq rfl) (.cons rfl (.of_eq rfl) (.cons rfl (.of_eq rfl) (.cons rfl (.of_eq rfl) .nil))))) (.box rfl (.cons (.of_eq rfl) .nil) .nil) rfl))))))))
          refine W.condT rfl rfl ?_
          refine W.seq ?_
          refine W.reg (σ' := ⟨[(6, .v Enc.bool false)], []⟩) (J.cons (.none rfl) (JO.assign rfl) rfl rfl (J.fin (Sw.Sub.mk id (.cons rfl (.of_eq rfl) .nil) .nil rfl))) ?_
          refine W.ret ?_
          obtain rfl := Option.some.inj h
          exact XQ.sub (σ' := ⟨[(6, .v Enc.bool false)], []⟩) (Sw.Sub.mk id (.cons rfl (.of_eq rfl) .nil) .nil rfl) (XQ.ret1 hF noR rfl (RV.tmp rfl) .nil rfl)
      · replace h := ocase_s hz20 h
        refine W.reg (σ' := ⟨[(0, .v (Enc.sl eBlk) a0), (1, .v (Enc.sl (Enc.pr (Enc.int .i64) eBlk)) a1), (5, .ptr 101 0), (10, .ptr 105002 0), (11, .v (Enc.err ET) v19.2)], [(101, .box 56 [.v eBlk a2]), (105002, .box 151 [.ref 105000, .ref 105001]), (105000, .arr 56 eBlk z20.1), (105001, .dp (DE.mps false eBlk 3 (Enc.int .i64)) (z20.2, none) [])]⟩) (J.cons (.none rfl) (JO.move rfl) rfl rfl (J.cons (.none rfl) (JO.call 105000 (con_cache_New_s hz20 hv19) Try.call42 (.cons (.dir rfl) .nil) rfl) rfl rfl (J.cons (.none rfl) (JO.move rfl) rfl rfl (J.cons (.none rfl) (JO.extract rfl rfl) rfl rfl (J.cons (.none rfl) (JO.extract rfl rfl) rfl rfl (J.cons (.none rfl) (JO.assign rfl) rfl rfl (J.cons (.none rfl) (JO.assign rfl) rfl rfl (J.fin (Sw.Sub.mk id (.cons rfl (.of_eq rfl) (.cons rfl (.of_eq rfl) (.cons rfl (.of_eq rfl) (.cons rfl (.of_eq rfl) (.cons rfl (.of_eq rfl) .nil))))) (.box rfl (.cons (.of_eq rfl) .nil) (.box rfl (.cons (.of_eq rfl) (.cons (.of_eq rfl) .nil)) (.arr rfl (.dp rfl .nil)))) rfl))))))))) ?_
        refine W.seq ?_
        refine W.seq ?_
        obtain ⟨x33, hx, h⟩ := bind_e h
        refine W.reg (σ' := ⟨[(0, .v (Enc.sl eBlk) a0), (1, .v (Enc.sl (Enc.pr (Enc.int .i64) eBlk)) a1), (5, .ptr 101 0), (10, .ptr 105002 0), (11, .v (Enc.err ET) v19.2), (70, .v Enc.bool x33)], [(101, .box 56 [.v eBlk a2]), (105002, .box 151 [.ref 105000, .ref 105001]), (105000, .arr 56 eBlk z20.1), (105001, .dp (DE.mps false eBlk 3 (Enc.int .i64)) (z20.2, none) [])]⟩) ?_ ?_
        · rcases Bool.eq_false_or_eq_true (cm .lss (a0.length : Int) (1 : Int)) with hc34 | hc34
          · replace hx := cond_t hc34 hx
            obtain rfl := Option.some.inj hx
            exact (J.cons (.none rfl) (JO.move rfl) rfl rfl (J.cons (.none rfl) (JO.len rfl Try.runUnderlying26) rfl rfl (J.cons (.none rfl) (JO.cmp rfl rfl rfl) rfl rfl (J.cons (.none rfl) (JO.move rfl) rfl rfl (J.left (GK.unmet 66 rfl rfl rfl hc34) rfl (J.left (GK.unmet 66 rfl rfl rfl hc34) rfl (J.left (GK.unmet 66 rfl rfl rfl hc34) rfl (J.cons (.none rfl) (JO.pT hc34 rfl rfl) rfl rfl (J.fin (Sw.Sub.mk id (.cons rfl (.of_eq rfl) (.cons rfl (.of_eq rfl) (.cons rfl (.of_eq rfl) (.cons rfl (.of_eq rfl) (.cons rfl (.of_eq rfl) (.cons rfl (.of_eq rfl) .nil)))))) (.box rfl (.cons (.of_eq rfl) .nil) (.box rfl (.cons (.of_eq rfl) (.cons (.of_eq rfl) .nil)) (.arr rfl (.dp rfl .nil)))) rfl))))))))))
          · replace hx := cond_f hc34 hx
            obtain rfl := Option.some.inj hx
            exact (J.cons (.none rfl) (JO.move rfl) rfl rfl (J.cons (.none rfl) (JO.len rfl Try.runUnderlying26) rfl rfl (J.cons (.none rfl) (JO.cmp rfl rfl rfl) rfl rfl (J.cons (.none rfl) (JO.move rfl) rfl rfl (J.cons (GK.met 66 rfl rfl rfl hc34) (JO.move rfl) rfl rfl (J.cons (GK.met 66 rfl rfl rfl hc34) (JO.len rfl Try.runUnderlying26) rfl rfl (J.cons (GK.met 66 rfl rfl rfl hc34) (JO.cmp rfl rfl rfl) rfl rfl (J.cons (.none rfl) (JO.pF hc34 rfl rfl) rfl rfl (J.fin (Sw.Sub.mk id (.cons rfl (.of_eq rfl) (.cons rfl (.of_eq rfl) (.cons rfl (.of_eq rfl) (.cons rfl (.of_eq rfl) (.cons rfl (.of_eq rfl) (.cons rfl (.of_eq rfl) .nil)))))) (.box rfl (.cons (.of_eq rfl) .nil) (.box rfl (.cons (.of_eq rfl) (.cons (.of_eq rfl) .nil)) (.arr rfl (.dp rfl .nil)))) rfl))))))))))
        rcases Bool.eq_false_or_eq_true x33 with hc35 | hc35
        · replace h := cond_t hc35 h
          refine W.condT rfl hc35 ?_
          refine W.seq ?_
          obtain ⟨x37, hx, h⟩ := bind_e h
          refine W.reg (σ' := ⟨[(6, .v Enc.bool false)], []⟩) ?_ ?_
          · rcases Bool.eq_false_or_eq_true (v19.2 == (some (1 : Int))) with hc38 | hc38
            · replace hx := cond_t hc38 hx
              obtain rfl := Option.some.inj hx
              exact (J.cons (.none rfl) (JO.move rfl) rfl rfl (J.cons (.none rfl) (JO.mkErr Try.runUnderlying29 rfl) rfl rfl (J.cons (.none rfl) (JO.errEq2 Try.runUnderlying33 Try.runUnderlying29 Try.typeInfo29 rfl rfl rfl) rfl rfl (J.cons (.none rfl) (JO.move rfl) rfl rfl (J.cons (GK.met 74 rfl rfl rfl hc38) (JO.move rfl) rfl rfl (J.cons (GK.met 74 rfl rfl rfl hc38) (JO.ptrEqN rfl Try.runUnderlying80) rfl rfl (J.cons (.none rfl) (JO.pT hc38 rfl rfl) rfl rfl (J.cons (.none rfl) (JO.assign rfl) rfl rfl (J.fin (Sw.Sub.mk id (.cons rfl (.of_eq rfl) .nil) .nil rfl))))))))))
            · replace hx := cond_f hc38 hx
              obtain rfl := Option.some.inj hx
              exact (J.cons (.none rfl) (JO.move rfl) rfl rfl (J.cons (.none rfl) (JO.mkErr Try.runUnderlying29 rfl) rfl rfl (J.cons (.none rfl) (JO.errEq2 Try.runUnderlying33 Try.runUnderlying29 Try.typeInfo29 rfl rfl rfl) rfl rfl (J.cons (.none rfl) (JO.move rfl) rfl rfl (J.left (GK.unmet 74 rfl rfl rfl hc38) rfl (J.left (GK.unmet 74 rfl rfl rfl hc38) rfl (J.cons (.none rfl) (JO.pF hc38 rfl rfl) rfl rfl (J.cons (.none rfl) (JO.assign rfl) rfl rfl (J.fin (Sw.Sub.mk id (.cons rfl (.of_eq rfl) .nil) .nil rfl))))))))))
          refine W.ret ?_
          obtain rfl := Option.some.inj h
          exact XQ.sub (σ' := ⟨[(6, .v Enc.bool false)], []⟩) (Sw.Sub.mk id (.cons rfl (.of_eq rfl) .nil) .nil rfl) (XQ.ret1 hF noR rfl (RV.tmp rfl) .nil rfl)
        · replace h := cond_f hc35 h
          refine W.condF rfl hc35 ?_
          refine W.skip ?_
          refine W.seq ?_
          refine W.seq ?_
          obtain ⟨x40, hx, h⟩ := bind_e h
          refine W.reg (σ' := ⟨[(0, .v (Enc.sl eBlk) a0), (1, .v (Enc.sl (Enc.pr (Enc.int .i64) eBlk)) a1), (5, .ptr 101 0), (10, .ptr 105002 0), (83, .v Enc.bool x40)], [(101, .box 56 [.v eBlk a2]), (105002, .box 151 [.ref 105000, .ref 105001]), (105000, .arr 56 eBlk z20.1), (105001, .dp (DE.mps false eBlk 3 (Enc.int .i64)) (z20.2, none) [])]⟩) ?_ ?_
          · rcases Bool.eq_false_or_eq_true (Option.isSome v19.2) with hc41 | hc41
            · replace hx := cond_t hc41 hx
              obtain rfl := Option.some.inj hx
              exact (J.cons (.none rfl) (JO.move rfl) rfl rfl (J.cons (.none rfl) (JO.errNe Try.runUnderlying33 rfl) rfl rfl (J.cons (.none rfl) (JO.move rfl) rfl rfl (J.left (GK.unmet 80 rfl rfl rfl hc41) rfl (J.left (GK.unmet 80 rfl rfl rfl hc41) rfl (J.cons (.none rfl) (JO.pT hc41 rfl rfl) rfl rfl (J.fin (Sw.Sub.mk id (.cons rfl (.of_eq rfl) (.cons rfl (.of_eq rfl) (.cons rfl (.of_eq rfl) (.cons rfl (.of_eq rfl) (.cons rfl (.of_eq rfl) .nil))))) (.box rfl (.cons (.of_eq rfl) .nil) (.box rfl (.cons (.of_eq rfl) (.cons (.of_eq rfl) .nil)) (.arr rfl (.dp rfl .nil)))) rfl))))))))
            · replace hx := cond_f hc41 hx
              obtain rfl := Option.some.inj hx
              exact (J.cons (.none rfl) (JO.move rfl) rfl rfl (J.cons (.none rfl) (JO.errNe Try.runUnderlying33 rfl) rfl rfl (J.cons (.none rfl) (JO.move rfl) rfl rfl (J.cons (GK.met 80 rfl rfl rfl hc41) (JO.move rfl) rfl rfl (J.cons (GK.met 80 rfl rfl rfl hc41) (JO.ptrEqN rfl Try.runUnderlying80) rfl rfl (J.cons (.none rfl) (JO.pF hc41 rfl rfl) rfl rfl (J.fin (Sw.Sub.mk id (.cons rfl (.of_eq rfl) (.cons rfl (.of_eq rfl) (.cons rfl (.of_eq rfl) (.cons rfl (.of_eq rfl) (.cons rfl (.of_eq rfl) .nil))))) (.box rfl (.cons (.of_eq rfl) .nil) (.box rfl (.cons (.of_eq rfl) (.cons (.of_eq rfl) .nil)) (.arr rfl (.dp rfl .nil)))) rfl))))))))
          rcases Bool.eq_false_or_eq_true x40 with hc42 | hc42
          · replace h := cond_t hc42 h
            refine W.condT rfl hc42 ?_
            refine W.seq ?_
            refine W.reg (σ' := ⟨[(6, .v Enc.bool false)], []⟩) (J.cons (.none rfl) (JO.assign rfl) rfl rfl (J.fin (Sw.Sub.mk id (.cons rfl (.of_eq rfl) .nil) .nil rfl))) ?_
            refine W.ret ?_
            obtain rfl := Option.some.inj h
            exact XQ.sub (σ' := ⟨[(6, .v Enc.bool false)], []⟩) (Sw.Sub.mk id (.cons rfl (.of_eq rfl) .nil) .nil rfl) (XQ.ret1 hF noR rfl (RV.tmp rfl) .nil rfl)
          · replace h := cond_f hc42 h
            refine W.condF rfl hc42 ?_
            refine W.skip ?_
            refine W.seq ?_
            obtain ⟨v43, hv43, h⟩ := bind_e h
            refine W.reg (σ' := ⟨[(1, .v (Enc.sl (Enc.pr (Enc.int .i64) eBlk)) a1), (5, .ptr 101 0), (10, .ptr 105002 0), (12, .ref 106000)], [(101, .box 56 [.v eBlk a2]), (105002, .box 151 [.ref 105000, .ref 105001]), (106000, .arr 56 eBlk v43), (105000, .arr 56 eBlk z20.1), (105001, .dp (DE.mps false eBlk 3 (Enc.int .i64)) (z20.2, none) [])]⟩) (J.cons (.none rfl) (JO.move rfl) rfl rfl (J.cons (.none rfl) (JO.call 106000 (con_ref_OwnBlocks hv43) Try.call28 (.cons (.dir rfl) .nil) rfl) rfl rfl (J.cons (.none rfl) (JO.assign rfl) rfl rfl (J.fin (Sw.Sub.mk id (.cons rfl (.of_eq rfl) (.cons rfl (.of_eq rfl) (.cons rfl (.of_eq rfl) (.cons rfl (.of_eq rfl) .nil)))) (.box rfl (.cons (.of_eq rfl) .nil) (.box rfl (.cons (.of_eq rfl) (.cons (.of_eq rfl) .nil)) (.arr rfl (.arr rfl (.dp rfl .nil))))) rfl))))) ?_
            refine W.seq ?_
            refine W.seq ?_
            refine W.reg (σ' := ⟨[(1, .v (Enc.sl (Enc.pr (Enc.int .i64) eBlk)) a1), (5, .ptr 101 0), (10, .ptr 105002 0), (12, .ref 106000), (13, .v (Enc.int .i64) (0 : Int))], [(101, .box 56 [.v eBlk a2]), (105002, .box 151 [.ref 105000, .ref 105001]), (106000, .arr 56 eBlk v43), (105000, .arr 56 eBlk z20.1), (105001, .dp (DE.mps false eBlk 3 (Enc.int .i64)) (z20.2, none) [])]⟩) (J.cons (.none rfl) (JO.assign rfl) rfl rfl (J.fin (Sw.Sub.mk id (.cons rfl (.of_eq rfl) (.cons rfl (.of_eq rfl) (.cons rfl (.of_eq rfl) (.cons rfl (.of_eq rfl) (.cons rfl (.of_eq rfl) .nil))))) (.box rfl (.cons (.of_eq rfl) .nil) (.box rfl (.cons (.of_eq rfl) (.cons (.of_eq rfl) .nil)) (.arr rfl (.arr rfl (.dp rfl .nil))))) rfl))) ?_
            obtain ⟨o632, ho632, hb632, hr632⟩ := lp_elim h
            refine W.lp (σs := fun s436 : Int × (List Blk) × (List Blk) × (List (Blk × (List Int))) => ⟨[(1, .v (Enc.sl (Enc.pr (Enc.int .i64) eBlk)) a1), (5, .ptr 101 0), (10, .ptr 105002 0), (12, .ref 106000), (13, .v (Enc.int .i64) s436.1)], [(101, .box 56 [.v eBlk a2]), (105002, .box 151 [.ref 221, .ref 222]), (106000, .arr 56 eBlk s436.2.1), (221, .arr 56 eBlk s436.2.2.1), (222, .dp (DE.mps false eBlk 3 (Enc.int .i64)) (s436.2.2.2, none) [])]⟩) (fun x633 : Unit => ⟨[], []⟩) ho632 (Sw.Sub.mk (rn [(101, 101), (105002, 105002), (106000, 106000), (222, 105001), (221, 105000)]) (.cons rfl (.of_eq rfl) (.cons rfl (.of_eq rfl) (.cons rfl (.of_eq rfl) (.cons rfl (.of_eq rfl) (.cons rfl (.of_eq rfl) .nil))))) (.box rfl (.cons (.of_eq rfl) .nil) (.box rfl (.cons (.of_eq rfl) (.cons (.of_eq rfl) .nil)) (.arr rfl (.arr rfl (.dp rfl .nil))))) rfl) ?_ ?_
            · intro x633 hy
              have h := hb632 _ hy
              refine W.seq ?_
              refine W.reg (σ' := ⟨[(6, .v Enc.bool true)], []⟩) (J.cons (.none rfl) (JO.assign rfl) rfl rfl (J.fin (Sw.Sub.mk id (.cons rfl (.of_eq rfl) .nil) .nil rfl))) ?_
              refine W.ret ?_
              obtain rfl := Option.some.inj h
              exact XQ.sub (σ' := ⟨[(6, .v Enc.bool true)], []⟩) (Sw.Sub.mk id (.cons rfl (.of_eq rfl) .nil) .nil rfl) (XQ.ret1 hF noR rfl (RV.tmp rfl) .nil rfl)
            intro s436 r632 h
            refine W.seq ?_
            refine W.seq ?_
            refine W.reg (σ' := ⟨[(1, .v (Enc.sl (Enc.pr (Enc.int .i64) eBlk)) a1), (5, .ptr 101 0), (10, .ptr 105002 0), (12, .ref 106000), (13, .v (Enc.int .i64) s436.1), (89, .v Enc.bool (cm .leq s436.1 (a1.length : Int)))], [(101, .box 56 [.v eBlk a2]), (105002, .box 151 [.ref 221, .ref 222]), (106000, .arr 56 eBlk s436.2.1), (221, .arr 56 eBlk s436.2.2.1), (222, .dp (DE.mps false eBlk 3 (Enc.int .i64)) (s436.2.2.2, none) [])]⟩) (J.cons (.none rfl) (JO.move rfl) rfl rfl (J.cons (.none rfl) (JO.move rfl) rfl rfl (J.cons (.none rfl) (JO.len rfl Try.runUnderlying76) rfl rfl (J.cons (.none rfl) (JO.cmp rfl rfl rfl) rfl rfl (J.fin (Sw.Sub.mk id (.cons rfl (.of_eq rfl) (.cons rfl (.of_eq rfl) (.cons rfl (.of_eq rfl) (.cons rfl (.of_eq rfl) (.cons rfl (.of_eq rfl) (.cons rfl (.of_eq rfl) .nil)))))) (.box rfl (.cons (.of_eq rfl) .nil) (.box rfl (.cons (.of_eq rfl) (.cons (.of_eq rfl) .nil)) (.arr rfl (.arr rfl (.dp rfl .nil))))) rfl)))))) ?_
            rcases Bool.eq_false_or_eq_true (cm .leq s436.1 (a1.length : Int)) with hc634 | hc634
            · replace h := cond_t hc634 h
              refine W.condT rfl hc634 ?_
              refine W.skip ?_
              refine W.seq ?_
              obtain ⟨k731, hk731, h⟩ := jp_elim h
              refine W.bj (fun x732 : (List Blk) × (List Blk) × (List (Blk × (List Int))) => ⟨[(1, .v (Enc.sl (Enc.pr (Enc.int .i64) eBlk)) a1), (5, .ptr 101 0), (10, .ptr 105002 0), (12, .ref 106000), (13, .v (Enc.int .i64) s436.1)], [(101, .box 56 [.v eBlk a2]), (105002, .box 151 [.ref 302, .ref 303]), (106000, .arr 56 eBlk x732.1), (302, .arr 56 eBlk x732.2.1), (303, .dp (DE.mps false eBlk 3 (Enc.int .i64)) (x732.2.2, none) [])]⟩) (fun x => k731 x = some r632) ?_ ?_
              · intro x732 h
                rw [hk731] at h
                refine W.reg (σ' := ⟨[(1, .v (Enc.sl (Enc.pr (Enc.int .i64) eBlk)) a1), (5, .ptr 101 0), (10, .ptr 105002 0), (12, .ref 106000), (13, .v (Enc.int .i64) (ar .add .i64 s436.1 (1 : Int)))], [(101, .box 56 [.v eBlk a2]), (105002, .box 151 [.ref 302, .ref 303]), (106000, .arr 56 eBlk x732.1), (302, .arr 56 eBlk x732.2.1), (303, .dp (DE.mps false eBlk 3 (Enc.int .i64)) (x732.2.2, none) [])]⟩) (J.cons (.none rfl) (JO.move rfl) rfl rfl (J.cons (.none rfl) (JO.arith rfl rfl rfl) rfl rfl (J.cons (.none rfl) (JO.assign rfl) rfl rfl (J.fin (Sw.Sub.mk id (.cons rfl (.of_eq rfl) (.cons rfl (.of_eq rfl) (.cons rfl (.of_eq rfl) (.cons rfl (.of_eq rfl) (.cons rfl (.of_eq rfl) .nil))))) (.box rfl (.cons (.of_eq rfl) .nil) (.box rfl (.cons (.of_eq rfl) (.cons (.of_eq rfl) .nil)) (.arr rfl (.arr rfl (.dp rfl .nil))))) rfl))))) ?_
                obtain rfl := Option.some.inj h
                exact W.next (Sw.Sub.mk (rn [(101, 101), (105002, 105002), (106000, 106000), (222, 303), (221, 302)]) (.cons rfl (.of_eq rfl) (.cons rfl (.of_eq rfl) (.cons rfl (.of_eq rfl) (.cons rfl (.of_eq rfl) (.cons rfl (.of_eq rfl) .nil))))) (.box rfl (.cons (.of_eq rfl) .nil) (.box rfl (.cons (.of_eq rfl) (.cons (.of_eq rfl) .nil)) (.arr rfl (.arr rfl (.dp rfl .nil))))) rfl)
              refine W.seq ?_
              refine W.seq ?_
              refine W.reg (σ' := ⟨[(1, .v (Enc.sl (Enc.pr (Enc.int .i64) eBlk)) a1), (5, .ptr 101 0), (10, .ptr 105002 0), (12, .ref 106000), (13, .v (Enc.int .i64) s436.1), (14, .v (Enc.int .i64) (0 : Int))], [(101, .box 56 [.v eBlk a2]), (105002, .box 151 [.ref 221, .ref 222]), (106000, .arr 56 eBlk s436.2.1), (221, .arr 56 eBlk s436.2.2.1), (222, .dp (DE.mps false eBlk 3 (Enc.int .i64)) (s436.2.2.2, none) [])]⟩) (J.cons (.none rfl) (JO.assign rfl) rfl rfl (J.fin (Sw.Sub.mk id (.cons rfl (.of_eq rfl) (.cons rfl (.of_eq rfl) (.cons rfl (.of_eq rfl) (.cons rfl (.of_eq rfl) (.cons rfl (.of_eq rfl) (.cons rfl (.of_eq rfl) .nil)))))) (.box rfl (.cons (.of_eq rfl) .nil) (.box rfl (.cons (.of_eq rfl) (.cons (.of_eq rfl) .nil)) (.arr rfl (.arr rfl (.dp rfl .nil))))) rfl))) ?_
              obtain ⟨o796, ho796, hb796, hr796⟩ := lp_elim h
              refine W.lp (σs := fun s775 : Int × (List Blk) × (List (Blk × (List Int))) => ⟨[(1, .v (Enc.sl (Enc.pr (Enc.int .i64) eBlk)) a1), (5, .ptr 101 0), (10, .ptr 105002 0), (12, .ref 106000), (13, .v (Enc.int .i64) s436.1), (14, .v (Enc.int .i64) s775.1)], [(101, .box 56 [.v eBlk a2]), (105002, .box 151 [.ref 318, .ref 319]), (106000, .arr 56 eBlk s436.2.1), (318, .arr 56 eBlk s775.2.1), (319, .dp (DE.mps false eBlk 3 (Enc.int .i64)) (s775.2.2, none) [])]⟩) (fun x797 : (List Blk) × (List (Blk × (List Int))) => ⟨[(1, .v (Enc.sl (Enc.pr (Enc.int .i64) eBlk)) a1), (5, .ptr 101 0), (10, .ptr 105002 0), (12, .ref 106000), (13, .v (Enc.int .i64) s436.1)], [(101, .box 56 [.v eBlk a2]), (105002, .box 151 [.ref 318, .ref 319]), (106000, .arr 56 eBlk s436.2.1), (318, .arr 56 eBlk x797.1), (319, .dp (DE.mps false eBlk 3 (Enc.int .i64)) (x797.2, none) [])]⟩) ho796 (Sw.Sub.mk (rn [(101, 101), (105002, 105002), (106000, 106000), (319, 222), (318, 221)]) (.cons rfl (.of_eq rfl) (.cons rfl (.of_eq rfl) (.cons rfl (.of_eq rfl) (.cons rfl (.of_eq rfl) (.cons rfl (.of_eq rfl) (.cons rfl (.of_eq rfl) .nil)))))) (.box rfl (.cons (.of_eq rfl) .nil) (.box rfl (.cons (.of_eq rfl) (.cons (.of_eq rfl) .nil)) (.arr rfl (.arr rfl (.dp rfl .nil))))) rfl) ?_ ?_
              · intro x797 hy
                have h := hb796 _ hy
                refine W.seq ?_
                refine W.seq ?_
                refine W.reg (σ' := ⟨[(1, .v (Enc.sl (Enc.pr (Enc.int .i64) eBlk)) a1), (5, .ptr 101 0), (10, .ptr 105002 0), (12, .ref 106000), (13, .v (Enc.int .i64) s436.1), (139, .v Enc.bool (cm .eql s436.1 (a1.length : Int)))], [(101, .box 56 [.v eBlk a2]), (105002, .box 151 [.ref 318, .ref 319]), (106000, .arr 56 eBlk s436.2.1), (318, .arr 56 eBlk x797.1), (319, .dp (DE.mps false eBlk 3 (Enc.int .i64)) (x797.2, none) [])]⟩) (J.cons (.none rfl) (JO.move rfl) rfl rfl (J.cons (.none rfl) (JO.move rfl) rfl rfl (J.cons (.none rfl) (JO.len rfl Try.runUnderlying76) rfl rfl (J.cons (.none rfl) (JO.cmp rfl rfl rfl) rfl rfl (J.fin (Sw.Sub.mk id (.cons rfl (.of_eq rfl) (.cons rfl (.of_eq rfl) (.cons rfl (.of_eq rfl) (.cons rfl (.of_eq rfl) (.cons rfl (.of_eq rfl) (.cons rfl (.of_eq rfl) .nil)))))) (.box rfl (.cons (.of_eq rfl) .nil) (.box rfl (.cons (.of_eq rfl) (.cons (.of_eq rfl) .nil)) (.arr rfl (.arr rfl (.dp rfl .nil))))) rfl)))))) ?_
                rcases Bool.eq_false_or_eq_true (cm .eql s436.1 (a1.length : Int)) with hc818 | hc818
                · replace h := cond_t hc818 h
                  refine W.condT rfl hc818 ?_
                  refine W.seq ?_
                  refine W.reg (σ' := ⟨[(6, .v Enc.bool true)], []⟩) (J.cons (.none rfl) (JO.assign rfl) rfl rfl (J.fin (Sw.Sub.mk id (.cons rfl (.of_eq rfl) .nil) .nil rfl))) ?_
                  refine W.ret ?_
                  refine XQ.bret ?_
                  obtain rfl := Option.some.inj h
                  refine XQ.lret fun ho => ?_
                  obtain rfl := hr632 _ ho
                  exact XQ.sub (σ' := ⟨[(6, .v Enc.bool true)], []⟩) (Sw.Sub.mk id (.cons rfl (.of_eq rfl) .nil) .nil rfl) (XQ.ret1 hF noR rfl (RV.tmp rfl) .nil rfl)
                · replace h := cond_f hc818 h
                  refine W.condF rfl hc818 ?_
                  refine W.skip ?_
                  refine W.seq ?_
                  obtain ⟨z819, hz819, h⟩ := bind_e h
                  refine W.reg (σ' := ⟨[(1, .v (Enc.sl (Enc.pr (Enc.int .i64) eBlk)) a1), (5, .ptr 101 0), (10, .ptr 105002 0), (12, .ref 106000), (13, .v (Enc.int .i64) s436.1), (19, .ptr 328 0)], [(101, .box 56 [.v eBlk a2]), (105002, .box 151 [.ref 318, .ref 319]), (106000, .arr 56 eBlk s436.2.1), (328, .box 85 [.v (Enc.int .i64) z819.1, .v eBlk z819.2]), (318, .arr 56 eBlk x797.1), (319, .dp (DE.mps false eBlk 3 (Enc.int .i64)) (x797.2, none) [])]⟩) (J.cons (.none rfl) (JO.move rfl) rfl rfl (J.cons (.none rfl) (JO.move rfl) rfl rfl (J.cons (.none rfl) (JO.idx hz819 rfl rfl Try.runUnderlying76 Try.sizeOf85) rfl rfl (J.cons (.none rfl) (JO.loadPst rfl Try.isAgg85 Try.sizeOf85) rfl rfl (J.cons (.none rfl) (JO.alloc 328 Try.zeroValue85 rfl (.cons (Z.int .i64) (.cons (Z.arr 8 (Z.int .u8)) .nil)) rfl) rfl rfl (J.mut (.none rfl) (JM.storeAll rfl rfl rfl rfl (.prm (.one _ _) (.one _ _)) Try.sizeOf85) (J.fin (Sw.Sub.mk id (.cons rfl (.of_eq rfl) (.cons rfl (.of_eq rfl) (.cons rfl (.of_eq rfl) (.cons rfl (.of_eq rfl) (.cons rfl (.of_eq rfl) (.cons rfl (.of_eq rfl) .nil)))))) (.box rfl (.cons (.of_eq rfl) .nil) (.box rfl (.cons (.of_eq rfl) (.cons (.of_eq rfl) .nil)) (.arr rfl (.box rfl (.cons (.of_eq rfl) (.cons (.of_eq rfl) .nil)) (.arr rfl (.dp rfl .nil)))))) rfl)))))))) ?_
                  refine W.seq ?_
                  obtain ⟨v820, hv820, h⟩ := bind_e h
                  refine W.reg (σ' := ⟨[(1, .v (Enc.sl (Enc.pr (Enc.int .i64) eBlk)) a1), (5, .ptr 101 0), (10, .ptr 105002 0), (12, .ref 106000), (13, .v (Enc.int .i64) s436.1), (19, .ptr 328 0), (20, .v (Enc.err ET) v820.1)], [(101, .box 56 [.v eBlk a2]), (105002, .box 151 [.ref 329, .ref 330]), (106000, .arr 56 eBlk s436.2.1), (328, .box 85 [.v (Enc.int .i64) z819.1, .v eBlk z819.2]), (329, .arr 56 eBlk v820.2.1), (330, .dp (DE.mps false eBlk 3 (Enc.int .i64)) (v820.2.2, none) [])]⟩) (J.cons (.none rfl) (JO.move rfl) rfl rfl (J.cons (.none rfl) (JO.fieldPtr 0 rfl Try.runUnderlying85 rfl Try.sizeOf3 rfl rfl) rfl rfl (J.cons (.none rfl) (JO.load rfl rfl rfl Try.isAgg3 Try.sizeOf3) rfl rfl (J.cons (.none rfl) (JO.fieldPtr 1 rfl Try.runUnderlying85 rfl Try.sizeOf56 rfl rfl) rfl rfl (J.cons (.none rfl) (JO.load rfl rfl rfl Try.isAgg56 Try.sizeOf56) rfl rfl (J.mut (.none rfl) (JM.callM (H := [105002, 318, 319]) (K := [105002]) (swp [(9000, 105002), (8950, 318), (8951, 319), (8910, 329), (8911, 330)]) (swp_inj _) (fun A => con_cache_Index_Put_io A hv820) Try.call44 (.cons (.dir rfl) (.cons (.dir rfl) (.cons (.dir rfl) .nil))) (fun A => (.box rfl (.arr rfl (.dp rfl .nil)))) (fun A => (.box rfl (.arr (.dp .nil rfl) rfl) rfl)) (fun _ => rfl) rfl rfl (fun _ => rfl) rfl rfl) (J.cons (.none rfl) (JO.assign rfl) rfl rfl (J.fin (Sw.Sub.mk id (.cons rfl (.of_eq rfl) (.cons rfl (.of_eq rfl) (.cons rfl (.of_eq rfl) (.cons rfl (.of_eq rfl) (.cons rfl (.of_eq rfl) (.cons rfl (.of_eq rfl) (.cons rfl (.of_eq rfl) .nil))))))) (.box rfl (.cons (.of_eq rfl) .nil) (.box rfl (.cons (.of_eq rfl) (.cons (.of_eq rfl) .nil)) (.arr rfl (.box rfl (.cons (.of_eq rfl) (.cons (.of_eq rfl) .nil)) (.arr rfl (.dp rfl .nil)))))) rfl))))))))) ?_
                  refine W.seq ?_
                  refine W.seq ?_
                  obtain ⟨x822, hx, h⟩ := bind_e h
                  refine W.reg (σ' := ⟨[(1, .v (Enc.sl (Enc.pr (Enc.int .i64) eBlk)) a1), (5, .ptr 101 0), (10, .ptr 105002 0), (12, .ref 106000), (13, .v (Enc.int .i64) s436.1), (19, .ptr 328 0), (20, .v (Enc.err ET) v820.1), (159, .v Enc.bool x822)], [(101, .box 56 [.v eBlk a2]), (105002, .box 151 [.ref 329, .ref 330]), (106000, .arr 56 eBlk s436.2.1), (328, .box 85 [.v (Enc.int .i64) z819.1, .v eBlk z819.2]), (329, .arr 56 eBlk v820.2.1), (330, .dp (DE.mps false eBlk 3 (Enc.int .i64)) (v820.2.2, none) [])]⟩) ?_ ?_
                  · rcases Bool.eq_false_or_eq_true (cm .lss z819.1 (0 : Int)) with hc823 | hc823
                    · replace hx := cond_t hc823 hx
                      obtain rfl := Option.some.inj hx
                      exact (J.cons (.none rfl) (JO.fieldPtr 0 rfl Try.runUnderlying85 rfl Try.sizeOf3 rfl rfl) rfl rfl (J.cons (.none rfl) (JO.load rfl rfl rfl Try.isAgg3 Try.sizeOf3) rfl rfl (J.cons (.none rfl) (JO.cmp rfl rfl rfl) rfl rfl (J.cons (.none rfl) (JO.move rfl) rfl rfl (J.left (GK.unmet 153 rfl rfl rfl hc823) rfl (J.left (GK.unmet 153 rfl rfl rfl hc823) rfl (J.left (GK.unmet 153 rfl rfl rfl hc823) rfl (J.left (GK.unmet 153 rfl rfl rfl hc823) rfl (J.left (GK.unmet 153 rfl rfl rfl hc823) rfl (J.cons (.none rfl) (JO.pT hc823 rfl rfl) rfl rfl (J.fin (Sw.Sub.mk id (.cons rfl (.of_eq rfl) (.cons rfl (.of_eq rfl) (.cons rfl (.of_eq rfl) (.cons rfl (.of_eq rfl) (.cons rfl (.of_eq rfl) (.cons rfl (.of_eq rfl) (.cons rfl (.of_eq rfl) (.cons rfl (.of_eq rfl) .nil)))))))) (.box rfl (.cons (.of_eq rfl) .nil) (.box rfl (.cons (.of_eq rfl) (.cons (.of_eq rfl) .nil)) (.arr rfl (.box rfl (.cons (.of_eq rfl) (.cons (.of_eq rfl) .nil)) (.arr rfl (.dp rfl .nil)))))) rfl))))))))))))
                    · replace hx := cond_f hc823 hx
                      obtain rfl := Option.some.inj hx
                      exact (J.cons (.none rfl) (JO.fieldPtr 0 rfl Try.runUnderlying85 rfl Try.sizeOf3 rfl rfl) rfl rfl (J.cons (.none rfl) (JO.load rfl rfl rfl Try.isAgg3 Try.sizeOf3) rfl rfl (J.cons (.none rfl) (JO.cmp rfl rfl rfl) rfl rfl (J.cons (.none rfl) (JO.move rfl) rfl rfl (J.cons (GK.met 153 rfl rfl rfl hc823) (JO.fieldPtr 0 rfl Try.runUnderlying85 rfl Try.sizeOf3 rfl rfl) rfl rfl (J.cons (GK.met 153 rfl rfl rfl hc823) (JO.load rfl rfl rfl Try.isAgg3 Try.sizeOf3) rfl rfl (J.cons (GK.met 153 rfl rfl rfl hc823) (JO.move rfl) rfl rfl (J.cons (GK.met 153 rfl rfl rfl hc823) (JO.lenR rfl rfl Try.runUnderlying26) rfl rfl (J.cons (GK.met 153 rfl rfl rfl hc823) (JO.cmp rfl rfl rfl) rfl rfl (J.cons (.none rfl) (JO.pF hc823 rfl rfl) rfl rfl (J.fin (Sw.Sub.mk id (.cons rfl (.of_eq rfl) (.cons rfl (.of_eq rfl) (.cons rfl (.of_eq rfl) (.cons rfl (.of_eq rfl) (.cons rfl (.of_eq rfl) (.cons rfl (.of_eq rfl) (.cons rfl (.of_eq rfl) (.cons rfl (.of_eq rfl) .nil)))))))) (.box rfl (.cons (.of_eq rfl) .nil) (.box rfl (.cons (.of_eq rfl) (.cons (.of_eq rfl) .nil)) (.arr rfl (.box rfl (.cons (.of_eq rfl) (.cons (.of_eq rfl) .nil)) (.arr rfl (.dp rfl .nil)))))) rfl))))))))))))
                  rcases Bool.eq_false_or_eq_true x822 with hc824 | hc824
                  · replace h := cond_t hc824 h
                    refine W.condT rfl hc824 ?_
                    refine W.seq ?_
                    refine W.seq ?_
                    refine W.reg (σ' := ⟨[(1, .v (Enc.sl (Enc.pr (Enc.int .i64) eBlk)) a1), (5, .ptr 101 0), (10, .ptr 105002 0), (12, .ref 106000), (13, .v (Enc.int .i64) s436.1), (162, .v Enc.bool (!(v820.1 == (some (1 : Int)))))], [(101, .box 56 [.v eBlk a2]), (105002, .box 151 [.ref 329, .ref 330]), (106000, .arr 56 eBlk s436.2.1), (329, .arr 56 eBlk v820.2.1), (330, .dp (DE.mps false eBlk 3 (Enc.int .i64)) (v820.2.2, none) [])]⟩) (J.cons (.none rfl) (JO.move rfl) rfl rfl (J.cons (.none rfl) (JO.mkErr Try.runUnderlying29 rfl) rfl rfl (J.cons (.none rfl) (JO.errNe2 Try.runUnderlying33 Try.runUnderlying29 Try.typeInfo29 rfl rfl rfl) rfl rfl (J.fin (Sw.Sub.mk id (.cons rfl (.of_eq rfl) (.cons rfl (.of_eq rfl) (.cons rfl (.of_eq rfl) (.cons rfl (.of_eq rfl) (.cons rfl (.of_eq rfl) (.cons rfl (.of_eq rfl) .nil)))))) (.box rfl (.cons (.of_eq rfl) .nil) (.box rfl (.cons (.of_eq rfl) (.cons (.of_eq rfl) .nil)) (.arr rfl (.arr rfl (.dp rfl .nil))))) rfl))))) ?_
                    rcases Bool.eq_false_or_eq_true (!(v820.1 == (some (1 : Int)))) with hc825 | hc825
                    · replace h := cond_t hc825 h
                      refine W.condT rfl hc825 ?_
                      refine W.seq ?_
                      refine W.reg (σ' := ⟨[(6, .v Enc.bool false)], []⟩) (J.cons (.none rfl) (JO.assign rfl) rfl rfl (J.fin (Sw.Sub.mk id (.cons rfl (.of_eq rfl) .nil) .nil rfl))) ?_
                      refine W.ret ?_
                      refine XQ.bret ?_
                      obtain rfl := Option.some.inj h
                      refine XQ.lret fun ho => ?_
                      obtain rfl := hr632 _ ho
                      exact XQ.sub (σ' := ⟨[(6, .v Enc.bool false)], []⟩) (Sw.Sub.mk id (.cons rfl (.of_eq rfl) .nil) .nil rfl) (XQ.ret1 hF noR rfl (RV.tmp rfl) .nil rfl)
                    · replace h := cond_f hc825 h
                      refine W.condF rfl hc825 ?_
                      refine W.skip ?_
                      refine W.exit ?_
                      exact XQ.bhit h (Sw.Sub.mk (rn [(101, 101), (105002, 105002), (106000, 106000), (303, 330), (302, 329)]) (.cons rfl (.of_eq rfl) (.cons rfl (.of_eq rfl) (.cons rfl (.of_eq rfl) (.cons rfl (.of_eq rfl) (.cons rfl (.of_eq rfl) .nil))))) (.box rfl (.cons (.of_eq rfl) .nil) (.box rfl (.cons (.of_eq rfl) (.cons (.of_eq rfl) .nil)) (.arr rfl (.arr rfl (.dp rfl .nil))))) rfl)
                  · replace h := cond_f hc824 h
                    refine W.condF rfl hc824 ?_
                    refine W.skip ?_
                    refine W.seq ?_
                    refine W.seq ?_
                    refine W.reg (σ' := ⟨[(1, .v (Enc.sl (Enc.pr (Enc.int .i64) eBlk)) a1), (5, .ptr 101 0), (10, .ptr 105002 0), (12, .ref 106000), (13, .v (Enc.int .i64) s436.1), (19, .ptr 328 0), (164, .v Enc.bool (Option.isSome v820.1))], [(101, .box 56 [.v eBlk a2]), (105002, .box 151 [.ref 329, .ref 330]), (106000, .arr 56 eBlk s436.2.1), (328, .box 85 [.v (Enc.int .i64) z819.1, .v eBlk z819.2]), (329, .arr 56 eBlk v820.2.1), (330, .dp (DE.mps false eBlk 3 (Enc.int .i64)) (v820.2.2, none) [])]⟩) (J.cons (.none rfl) (JO.move rfl) rfl rfl (J.cons (.none rfl) (JO.errNe Try.runUnderlying33 rfl) rfl rfl (J.fin (Sw.Sub.mk id (.cons rfl (.of_eq rfl) (.cons rfl (.of_eq rfl) (.cons rfl (.of_eq rfl) (.cons rfl (.of_eq rfl) (.cons rfl (.of_eq rfl) (.cons rfl (.of_eq rfl) (.cons rfl (.of_eq rfl) .nil))))))) (.box rfl (.cons (.of_eq rfl) .nil) (.box rfl (.cons (.of_eq rfl) (.cons (.of_eq rfl) .nil)) (.arr rfl (.box rfl (.cons (.of_eq rfl) (.cons (.of_eq rfl) .nil)) (.arr rfl (.dp rfl .nil)))))) rfl)))) ?_
                    rcases Bool.eq_false_or_eq_true (Option.isSome v820.1) with hc826 | hc826
                    · replace h := cond_t hc826 h
                      refine W.condT rfl hc826 ?_
                      refine W.seq ?_
                      refine W.reg (σ' := ⟨[(6, .v Enc.bool false)], []⟩) (J.cons (.none rfl) (JO.assign rfl) rfl rfl (J.fin (Sw.Sub.mk id (.cons rfl (.of_eq rfl) .nil) .nil rfl))) ?_
                      refine W.ret ?_
                      refine XQ.bret ?_
                      obtain rfl := Option.some.inj h
                      refine XQ.lret fun ho => ?_
                      obtain rfl := hr632 _ ho
                      exact XQ.sub (σ' := ⟨[(6, .v Enc.bool false)], []⟩) (Sw.Sub.mk id (.cons rfl (.of_eq rfl) .nil) .nil rfl) (XQ.ret1 hF noR rfl (RV.tmp rfl) .nil rfl)
                    · replace h := cond_f hc826 h
                      refine W.condF rfl hc826 ?_
                      refine W.skip ?_
                      obtain ⟨z827, hz827, h⟩ := bind_e h
                      refine W.reg (σ' := ⟨[(1, .v (Enc.sl (Enc.pr (Enc.int .i64) eBlk)) a1), (5, .ptr 101 0), (10, .ptr 105002 0), (12, .ref 106000), (13, .v (Enc.int .i64) s436.1)], [(101, .box 56 [.v eBlk a2]), (105002, .box 151 [.ref 329, .ref 330]), (106000, .arr 56 eBlk (List.set s436.2.1 (Int.toNat z819.1) z819.2)), (329, .arr 56 eBlk v820.2.1), (330, .dp (DE.mps false eBlk 3 (Enc.int .i64)) (v820.2.2, none) [])]⟩) (J.cons (.none rfl) (JO.move rfl) rfl rfl (J.cons (.none rfl) (JO.fieldPtr 0 rfl Try.runUnderlying85 rfl Try.sizeOf3 rfl rfl) rfl rfl (J.cons (.none rfl) (JO.load rfl rfl rfl Try.isAgg3 Try.sizeOf3) rfl rfl (J.cons (.none rfl) (JO.fieldPtr 1 rfl Try.runUnderlying85 rfl Try.sizeOf56 rfl rfl) rfl rfl (J.cons (.none rfl) (JO.load rfl rfl rfl Try.isAgg56 Try.sizeOf56) rfl rfl (J.cons (.none rfl) (JO.idxR hz827 rfl rfl rfl Try.runUnderlying26 Try.sizeOf56) rfl rfl (J.mut (.none rfl) (JM.storeEl (idx_some hz827).2.2 rfl rfl rfl Try.sizeOf56) (J.fin (Sw.Sub.mk id (.cons rfl (.of_eq rfl) (.cons rfl (.of_eq rfl) (.cons rfl (.of_eq rfl) (.cons rfl (.of_eq rfl) (.cons rfl (.of_eq rfl) .nil))))) (.box rfl (.cons (.of_eq rfl) .nil) (.box rfl (.cons (.of_eq rfl) (.cons (.of_eq rfl) .nil)) (.arr rfl (.arr rfl (.dp rfl .nil))))) rfl))))))))) ?_
                      exact W.bfall h (Sw.Sub.mk (rn [(101, 101), (105002, 105002), (106000, 106000), (303, 330), (302, 329)]) (.cons rfl (.of_eq rfl) (.cons rfl (.of_eq rfl) (.cons rfl (.of_eq rfl) (.cons rfl (.of_eq rfl) (.cons rfl (.of_eq rfl) .nil))))) (.box rfl (.cons (.of_eq rfl) .nil) (.box rfl (.cons (.of_eq rfl) (.cons (.of_eq rfl) .nil)) (.arr rfl (.arr rfl (.dp rfl .nil))))) rfl)
              intro s775 r796 h
              refine W.seq ?_
              refine W.seq ?_
              refine W.reg (σ' := ⟨[(1, .v (Enc.sl (Enc.pr (Enc.int .i64) eBlk)) a1), (5, .ptr 101 0), (10, .ptr 105002 0), (12, .ref 106000), (13, .v (Enc.int .i64) s436.1), (14, .v (Enc.int .i64) s775.1), (95, .v Enc.bool (cm .leq s775.1 (s436.2.1.length : Int)))], [(101, .box 56 [.v eBlk a2]), (105002, .box 151 [.ref 318, .ref 319]), (106000, .arr 56 eBlk s436.2.1), (318, .arr 56 eBlk s775.2.1), (319, .dp (DE.mps false eBlk 3 (Enc.int .i64)) (s775.2.2, none) [])]⟩) (J.cons (.none rfl) (JO.move rfl) rfl rfl (J.cons (.none rfl) (JO.move rfl) rfl rfl (J.cons (.none rfl) (JO.lenR rfl rfl Try.runUnderlying26) rfl rfl (J.cons (.none rfl) (JO.cmp rfl rfl rfl) rfl rfl (J.fin (Sw.Sub.mk id (.cons rfl (.of_eq rfl) (.cons rfl (.of_eq rfl) (.cons rfl (.of_eq rfl) (.cons rfl (.of_eq rfl) (.cons rfl (.of_eq rfl) (.cons rfl (.of_eq rfl) (.cons rfl (.of_eq rfl) .nil))))))) (.box rfl (.cons (.of_eq rfl) .nil) (.box rfl (.cons (.of_eq rfl) (.cons (.of_eq rfl) .nil)) (.arr rfl (.arr rfl (.dp rfl .nil))))) rfl)))))) ?_
              rcases Bool.eq_false_or_eq_true (cm .leq s775.1 (s436.2.1.length : Int)) with hc798 | hc798
              · replace h := cond_t hc798 h
                refine W.condT rfl hc798 ?_
                refine W.skip ?_
                refine W.seq ?_
                refine W.block ?_
                refine W.seq ?_
                refine W.reg (σ' := ⟨[(1, .v (Enc.sl (Enc.pr (Enc.int .i64) eBlk)) a1), (5, .ptr 101 0), (10, .ptr 105002 0), (12, .ref 106000), (13, .v (Enc.int .i64) s436.1), (14, .v (Enc.int .i64) s775.1), (15, .ptr 324 0)], [(101, .box 56 [.v eBlk a2]), (105002, .box 151 [.ref 318, .ref 319]), (106000, .arr 56 eBlk s436.2.1), (324, .box 56 [.v eBlk a2]), (318, .arr 56 eBlk s775.2.1), (319, .dp (DE.mps false eBlk 3 (Enc.int .i64)) (s775.2.2, none) [])]⟩) (J.cons (.none rfl) (JO.load rfl rfl rfl Try.isAgg56 Try.sizeOf56) rfl rfl (J.cons (.none rfl) (JO.alloc 324 Try.zeroValue56 rfl (.cons (Z.arr 8 (Z.int .u8)) .nil) rfl) rfl rfl (J.mut (.none rfl) (JM.store rfl rfl rfl rfl rfl rfl rfl Try.sizeOf56) (J.fin (Sw.Sub.mk id (.cons rfl (.of_eq rfl) (.cons rfl (.of_eq rfl) (.cons rfl (.of_eq rfl) (.cons rfl (.of_eq rfl) (.cons rfl (.of_eq rfl) (.cons rfl (.of_eq rfl) (.cons rfl (.of_eq rfl) .nil))))))) (.box rfl (.cons (.of_eq rfl) .nil) (.box rfl (.cons (.of_eq rfl) (.cons (.of_eq rfl) .nil)) (.arr rfl (.box rfl (.cons (.of_eq rfl) .nil) (.arr rfl (.dp rfl .nil)))))) rfl))))) ?_
                refine W.seq ?_
                refine W.seq ?_
                refine W.reg (σ' := ⟨[(1, .v (Enc.sl (Enc.pr (Enc.int .i64) eBlk)) a1), (5, .ptr 101 0), (10, .ptr 105002 0), (12, .ref 106000), (13, .v (Enc.int .i64) s436.1), (14, .v (Enc.int .i64) s775.1), (15, .ptr 324 0), (102, .v Enc.bool (cm .lss s775.1 (s436.2.1.length : Int)))], [(101, .box 56 [.v eBlk a2]), (105002, .box 151 [.ref 318, .ref 319]), (106000, .arr 56 eBlk s436.2.1), (324, .box 56 [.v eBlk a2]), (318, .arr 56 eBlk s775.2.1), (319, .dp (DE.mps false eBlk 3 (Enc.int .i64)) (s775.2.2, none) [])]⟩) (J.cons (.none rfl) (JO.move rfl) rfl rfl (J.cons (.none rfl) (JO.move rfl) rfl rfl (J.cons (.none rfl) (JO.lenR rfl rfl Try.runUnderlying26) rfl rfl (J.cons (.none rfl) (JO.cmp rfl rfl rfl) rfl rfl (J.fin (Sw.Sub.mk id (.cons rfl (.of_eq rfl) (.cons rfl (.of_eq rfl) (.cons rfl (.of_eq rfl) (.cons rfl (.of_eq rfl) (.cons rfl (.of_eq rfl) (.cons rfl (.of_eq rfl) (.cons rfl (.of_eq rfl) (.cons rfl (.of_eq rfl) .nil)))))))) (.box rfl (.cons (.of_eq rfl) .nil) (.box rfl (.cons (.of_eq rfl) (.cons (.of_eq rfl) .nil)) (.arr rfl (.box rfl (.cons (.of_eq rfl) .nil) (.arr rfl (.dp rfl .nil)))))) rfl)))))) ?_
                obtain ⟨k801, hk801, h⟩ := jp_elim h
                refine W.jn (fun x802 : Blk => ⟨[(1, .v (Enc.sl (Enc.pr (Enc.int .i64) eBlk)) a1), (5, .ptr 101 0), (10, .ptr 105002 0), (12, .ref 106000), (13, .v (Enc.int .i64) s436.1), (14, .v (Enc.int .i64) s775.1), (15, .ptr 324 0)], [(101, .box 56 [.v eBlk a2]), (105002, .box 151 [.ref 318, .ref 319]), (106000, .arr 56 eBlk s436.2.1), (324, .box 56 [.v eBlk x802]), (318, .arr 56 eBlk s775.2.1), (319, .dp (DE.mps false eBlk 3 (Enc.int .i64)) (s775.2.2, none) [])]⟩) (fun x => k801 x = some r796) rfl ?_ ?_ ?_
                · intro x802 h
                  rw [hk801] at h
                  refine W.seq ?_
                  obtain ⟨v804, hv804, h⟩ := bind_e h
                  refine W.reg (σ' := ⟨[(1, .v (Enc.sl (Enc.pr (Enc.int .i64) eBlk)) a1), (5, .ptr 101 0), (10, .ptr 105002 0), (12, .ref 106000), (13, .v (Enc.int .i64) s436.1), (14, .v (Enc.int .i64) s775.1), (15, .ptr 324 0), (16, .v (Enc.int .i64) v804.1), (17, .v Enc.bool v804.2.1)], [(101, .box 56 [.v eBlk a2]), (105002, .box 151 [.ref 325, .ref 326]), (106000, .arr 56 eBlk s436.2.1), (324, .box 56 [.v eBlk x802]), (325, .arr 56 eBlk v804.2.2.1), (326, .dp (DE.mps false eBlk 3 (Enc.int .i64)) (v804.2.2.2, none) [])]⟩) (J.cons (.none rfl) (JO.move rfl) rfl rfl (J.cons (.none rfl) (JO.load rfl rfl rfl Try.isAgg56 Try.sizeOf56) rfl rfl (J.mut (.none rfl) (JM.callM (H := [105002, 318, 319]) (K := [105002]) (swp [(9000, 105002), (8950, 318), (8951, 319), (8910, 325), (8911, 326)]) (swp_inj _) (fun A => con_cache_Index_Find_io A hv804) Try.call43 (.cons (.dir rfl) (.cons (.dir rfl) .nil)) (fun A => (.box rfl (.arr rfl (.dp rfl .nil)))) (fun A => (.box rfl (.arr (.dp .nil rfl) rfl) rfl)) (fun _ => rfl) rfl rfl (fun _ => rfl) rfl rfl) (J.cons (.none rfl) (JO.move rfl) rfl rfl (J.cons (.none rfl) (JO.extract rfl rfl) rfl rfl (J.cons (.none rfl) (JO.extract rfl rfl) rfl rfl (J.cons (.none rfl) (JO.assign rfl) rfl rfl (J.cons (.none rfl) (JO.assign rfl) rfl rfl (J.fin (Sw.Sub.mk id (.cons rfl (.of_eq rfl) (.cons rfl (.of_eq rfl) (.cons rfl (.of_eq rfl) (.cons rfl (.of_eq rfl) (.cons rfl (.of_eq rfl) (.cons rfl (.of_eq rfl) (.cons rfl (.of_eq rfl) (.cons rfl (.of_eq rfl) (.cons rfl (.of_eq rfl) .nil))))))))) (.box rfl (.cons (.of_eq rfl) .nil) (.box rfl (.cons (.of_eq rfl) (.cons (.of_eq rfl) .nil)) (.arr rfl (.box rfl (.cons (.of_eq rfl) .nil) (.arr rfl (.dp rfl .nil)))))) rfl)))))))))) ?_
                  refine W.seq ?_
                  obtain ⟨v805, hv805, h⟩ := bind_e h
                  refine W.reg (σ' := ⟨[(1, .v (Enc.sl (Enc.pr (Enc.int .i64) eBlk)) a1), (5, .ptr 101 0), (10, .ptr 105002 0), (12, .ref 106000), (13, .v (Enc.int .i64) s436.1), (14, .v (Enc.int .i64) s775.1), (16, .v (Enc.int .i64) v804.1), (17, .v Enc.bool v804.2.1), (18, .v (Enc.int .i64) v805)], [(101, .box 56 [.v eBlk a2]), (105002, .box 151 [.ref 325, .ref 326]), (106000, .arr 56 eBlk s436.2.1), (325, .arr 56 eBlk v804.2.2.1), (326, .dp (DE.mps false eBlk 3 (Enc.int .i64)) (v804.2.2.2, none) [])]⟩) (J.cons (.none rfl) (JO.move rfl) rfl rfl (J.cons (.none rfl) (JO.load rfl rfl rfl Try.isAgg56 Try.sizeOf56) rfl rfl (J.cons (.none rfl) (JO.callL0 (con_ref_First hv805) Try.call41 (.cons (.ref rfl rfl) (.cons (.dir rfl) .nil)) FlatS.v) rfl rfl (J.cons (.none rfl) (JO.assign rfl) rfl rfl (J.fin (Sw.Sub.mk id (.cons rfl (.of_eq rfl) (.cons rfl (.of_eq rfl) (.cons rfl (.of_eq rfl) (.cons rfl (.of_eq rfl) (.cons rfl (.of_eq rfl) (.cons rfl (.of_eq rfl) (.cons rfl (.of_eq rfl) (.cons rfl (.of_eq rfl) (.cons rfl (.of_eq rfl) .nil))))))))) (.box rfl (.cons (.of_eq rfl) .nil) (.box rfl (.cons (.of_eq rfl) (.cons (.of_eq rfl) .nil)) (.arr rfl (.arr rfl (.dp rfl .nil))))) rfl)))))) ?_
                  refine W.seq ?_
                  obtain ⟨x811, hx, h⟩ := bind_e h
                  refine W.reg (σ' := ⟨[(1, .v (Enc.sl (Enc.pr (Enc.int .i64) eBlk)) a1), (5, .ptr 101 0), (10, .ptr 105002 0), (12, .ref 106000), (13, .v (Enc.int .i64) s436.1), (14, .v (Enc.int .i64) s775.1), (135, .v Enc.bool x811)], [(101, .box 56 [.v eBlk a2]), (105002, .box 151 [.ref 325, .ref 326]), (106000, .arr 56 eBlk s436.2.1), (325, .arr 56 eBlk v804.2.2.1), (326, .dp (DE.mps false eBlk 3 (Enc.int .i64)) (v804.2.2.2, none) [])]⟩) ?_ ?_
                  · rcases Bool.eq_false_or_eq_true (!(v804.2.1 == (cm .geq v805 (0 : Int)))) with hc812 | hc812
                    · replace hx := cond_t hc812 hx
                      obtain rfl := Option.some.inj hx
                      exact (J.cons (.none rfl) (JO.move rfl) rfl rfl (J.cons (.none rfl) (JO.move rfl) rfl rfl (J.cons (.none rfl) (JO.cmp rfl rfl rfl) rfl rfl (J.cons (.none rfl) (JO.boolNe Try.runUnderlying4 rfl rfl) rfl rfl (J.cons (.none rfl) (JO.move rfl) rfl rfl (J.left (GK.unmet 120 rfl rfl rfl hc812) rfl (J.left (GK.unmet 120 rfl rfl rfl hc812) rfl (J.left (GK.und 122 rfl rfl rfl) rfl (J.left (GK.und 122 rfl rfl rfl) rfl (J.left (GK.und 122 rfl rfl rfl) rfl (J.left (GK.unmet 120 rfl rfl rfl hc812) rfl (J.cons (.none rfl) (JO.pT hc812 rfl rfl) rfl rfl (J.cons (.none rfl) (JO.move rfl) rfl rfl (J.left (GK.unmet 128 rfl rfl rfl rfl) rfl (J.left (GK.unmet 128 rfl rfl rfl rfl) rfl (J.left (GK.unmet 128 rfl rfl rfl rfl) rfl (J.left (GK.und 131 rfl rfl rfl) rfl (J.left (GK.und 131 rfl rfl rfl) rfl (J.left (GK.unmet 128 rfl rfl rfl rfl) rfl (J.cons (.none rfl) (JO.pT rfl rfl rfl) rfl rfl (J.fin (Sw.Sub.mk id (.cons rfl (.of_eq rfl) (.cons rfl (.of_eq rfl) (.cons rfl (.of_eq rfl) (.cons rfl (.of_eq rfl) (.cons rfl (.of_eq rfl) (.cons rfl (.of_eq rfl) (.cons rfl (.of_eq rfl) .nil))))))) (.box rfl (.cons (.of_eq rfl) .nil) (.box rfl (.cons (.of_eq rfl) (.cons (.of_eq rfl) .nil)) (.arr rfl (.arr rfl (.dp rfl .nil))))) rfl))))))))))))))))))))))
                    · replace hx := cond_f hc812 hx
                      rcases Bool.eq_false_or_eq_true v804.2.1 with hc813 | hc813
                      · replace hx := cond_t hc813 hx
                        rcases Bool.eq_false_or_eq_true (cm .neq v804.1 v805) with hc814 | hc814
                        · replace hx := cond_t hc814 hx
                          obtain rfl := Option.some.inj hx
                          exact (J.cons (.none rfl) (JO.move rfl) rfl rfl (J.cons (.none rfl) (JO.move rfl) rfl rfl (J.cons (.none rfl) (JO.cmp rfl rfl rfl) rfl rfl (J.cons (.none rfl) (JO.boolNe Try.runUnderlying4 rfl rfl) rfl rfl (J.cons (.none rfl) (JO.move rfl) rfl rfl (J.cons (GK.met 120 rfl rfl rfl hc812) (JO.move rfl) rfl rfl (J.cons (GK.met 120 rfl rfl rfl hc812) (JO.move rfl) rfl rfl (J.cons (GK.met 122 rfl rfl rfl hc813) (JO.move rfl) rfl rfl (J.cons (GK.met 122 rfl rfl rfl hc813) (JO.move rfl) rfl rfl (J.cons (GK.met 122 rfl rfl rfl hc813) (JO.cmp rfl rfl rfl) rfl rfl (J.cons (GK.met 120 rfl rfl rfl hc812) (JO.pT hc813 rfl rfl) rfl rfl (J.cons (.none rfl) (JO.pF hc812 rfl rfl) rfl rfl (J.cons (.none rfl) (JO.move rfl) rfl rfl (J.left (GK.unmet 128 rfl rfl rfl hc814) rfl (J.left (GK.unmet 128 rfl rfl rfl hc814) rfl (J.left (GK.unmet 128 rfl rfl rfl hc814) rfl (J.left (GK.und 131 rfl rfl rfl) rfl (J.left (GK.und 131 rfl rfl rfl) rfl (J.left (GK.unmet 128 rfl rfl rfl hc814) rfl (J.cons (.none rfl) (JO.pT hc814 rfl rfl) rfl rfl (J.fin (Sw.Sub.mk id (.cons rfl (.of_eq rfl) (.cons rfl (.of_eq rfl) (.cons rfl (.of_eq rfl) (.cons rfl (.of_eq rfl) (.cons rfl (.of_eq rfl) (.cons rfl (.of_eq rfl) (.cons rfl (.of_eq rfl) .nil))))))) (.box rfl (.cons (.of_eq rfl) .nil) (.box rfl (.cons (.of_eq rfl) (.cons (.of_eq rfl) .nil)) (.arr rfl (.arr rfl (.dp rfl .nil))))) rfl))))))))))))))))))))))
                        · replace hx := cond_f hc814 hx
                          rcases Bool.eq_false_or_eq_true (!v804.2.1) with hc815 | hc815
                          · replace hx := cond_t hc815 hx
                            obtain rfl := Option.some.inj hx
                            exact (J.cons (.none rfl) (JO.move rfl) rfl rfl (J.cons (.none rfl) (JO.move rfl) rfl rfl (J.cons (.none rfl) (JO.cmp rfl rfl rfl) rfl rfl (J.cons (.none rfl) (JO.boolNe Try.runUnderlying4 rfl rfl) rfl rfl (J.cons (.none rfl) (JO.move rfl) rfl rfl (J.cons (GK.met 120 rfl rfl rfl hc812) (JO.move rfl) rfl rfl (J.cons (GK.met 120 rfl rfl rfl hc812) (JO.move rfl) rfl rfl (J.cons (GK.met 122 rfl rfl rfl hc813) (JO.move rfl) rfl rfl (J.cons (GK.met 122 rfl rfl rfl hc813) (JO.move rfl) rfl rfl (J.cons (GK.met 122 rfl rfl rfl hc813) (JO.cmp rfl rfl rfl) rfl rfl (J.cons (GK.met 120 rfl rfl rfl hc812) (JO.pT hc813 rfl rfl) rfl rfl (J.cons (.none rfl) (JO.pF hc812 rfl rfl) rfl rfl (J.cons (.none rfl) (JO.move rfl) rfl rfl (J.cons (GK.met 128 rfl rfl rfl hc814) (JO.move rfl) rfl rfl (J.cons (GK.met 128 rfl rfl rfl hc814) (JO.not rfl) rfl rfl (J.cons (GK.met 128 rfl rfl rfl hc814) (JO.move rfl) rfl rfl (J.cons (GK.met 131 rfl rfl rfl hc815) (JO.move rfl) rfl rfl (J.cons (GK.met 131 rfl rfl rfl hc815) (JO.cmp rfl rfl rfl) rfl rfl (J.cons (GK.met 128 rfl rfl rfl hc814) (JO.pT hc815 rfl rfl) rfl rfl (J.cons (.none rfl) (JO.pF hc814 rfl rfl) rfl rfl (J.fin (Sw.Sub.mk id (.cons rfl (.of_eq rfl) (.cons rfl (.of_eq rfl) (.cons rfl (.of_eq rfl) (.cons rfl (.of_eq rfl) (.cons rfl (.of_eq rfl) (.cons rfl (.of_eq rfl) (.cons rfl (.of_eq rfl) .nil))))))) (.box rfl (.cons (.of_eq rfl) .nil) (.box rfl (.cons (.of_eq rfl) (.cons (.of_eq rfl) .nil)) (.arr rfl (.arr rfl (.dp rfl .nil))))) rfl))))))))))))))))))))))
                          · replace hx := cond_f hc815 hx
                            obtain rfl := Option.some.inj hx
                            exact (J.cons (.none rfl) (JO.move rfl) rfl rfl (J.cons (.none rfl) (JO.move rfl) rfl rfl (J.cons (.none rfl) (JO.cmp rfl rfl rfl) rfl rfl (J.cons (.none rfl) (JO.boolNe Try.runUnderlying4 rfl rfl) rfl rfl (J.cons (.none rfl) (JO.move rfl) rfl rfl (J.cons (GK.met 120 rfl rfl rfl hc812) (JO.move rfl) rfl rfl (J.cons (GK.met 120 rfl rfl rfl hc812) (JO.move rfl) rfl rfl (J.cons (GK.met 122 rfl rfl rfl hc813) (JO.move rfl) rfl rfl (J.cons (GK.met 122 rfl rfl rfl hc813) (JO.move rfl) rfl rfl (J.cons (GK.met 122 rfl rfl rfl hc813) (JO.cmp rfl rfl rfl) rfl rfl (J.cons (GK.met 120 rfl rfl rfl hc812) (JO.pT hc813 rfl rfl) rfl rfl (J.cons (.none rfl) (JO.pF hc812 rfl rfl) rfl rfl (J.cons (.none rfl) (JO.move rfl) rfl rfl (J.cons (GK.met 128 rfl rfl rfl hc814) (JO.move rfl) rfl rfl (J.cons (GK.met 128 rfl rfl rfl hc814) (JO.not rfl) rfl rfl (J.cons (GK.met 128 rfl rfl rfl hc814) (JO.move rfl) rfl rfl (J.left (GK.unmet 131 rfl rfl rfl hc815) rfl (J.left (GK.unmet 131 rfl rfl rfl hc815) rfl (J.cons (GK.met 128 rfl rfl rfl hc814) (JO.pF hc815 rfl rfl) rfl rfl (J.cons (.none rfl) (JO.pF hc814 rfl rfl) rfl rfl (J.fin (Sw.Sub.mk id (.cons rfl (.of_eq rfl) (.cons rfl (.of_eq rfl) (.cons rfl (.of_eq rfl) (.cons rfl (.of_eq rfl) (.cons rfl (.of_eq rfl) (.cons rfl (.of_eq rfl) (.cons rfl (.of_eq rfl) .nil))))))) (.box rfl (.cons (.of_eq rfl) .nil) (.box rfl (.cons (.of_eq rfl) (.cons (.of_eq rfl) .nil)) (.arr rfl (.arr rfl (.dp rfl .nil))))) rfl))))))))))))))))))))))
                      · replace hx := cond_f hc813 hx
                        rcases Bool.eq_false_or_eq_true (!v804.2.1) with hc816 | hc816
                        · replace hx := cond_t hc816 hx
                          obtain rfl := Option.some.inj hx
                          exact (J.cons (.none rfl) (JO.move rfl) rfl rfl (J.cons (.none rfl) (JO.move rfl) rfl rfl (J.cons (.none rfl) (JO.cmp rfl rfl rfl) rfl rfl (J.cons (.none rfl) (JO.boolNe Try.runUnderlying4 rfl rfl) rfl rfl (J.cons (.none rfl) (JO.move rfl) rfl rfl (J.cons (GK.met 120 rfl rfl rfl hc812) (JO.move rfl) rfl rfl (J.cons (GK.met 120 rfl rfl rfl hc812) (JO.move rfl) rfl rfl (J.left (GK.unmet 122 rfl rfl rfl hc813) rfl (J.left (GK.unmet 122 rfl rfl rfl hc813) rfl (J.left (GK.unmet 122 rfl rfl rfl hc813) rfl (J.cons (GK.met 120 rfl rfl rfl hc812) (JO.pF hc813 rfl rfl) rfl rfl (J.cons (.none rfl) (JO.pF hc812 rfl rfl) rfl rfl (J.cons (.none rfl) (JO.move rfl) rfl rfl (J.cons (GK.met 128 rfl rfl rfl rfl) (JO.move rfl) rfl rfl (J.cons (GK.met 128 rfl rfl rfl rfl) (JO.not rfl) rfl rfl (J.cons (GK.met 128 rfl rfl rfl rfl) (JO.move rfl) rfl rfl (J.cons (GK.met 131 rfl rfl rfl hc816) (JO.move rfl) rfl rfl (J.cons (GK.met 131 rfl rfl rfl hc816) (JO.cmp rfl rfl rfl) rfl rfl (J.cons (GK.met 128 rfl rfl rfl rfl) (JO.pT hc816 rfl rfl) rfl rfl (J.cons (.none rfl) (JO.pF rfl rfl rfl) rfl rfl (J.fin (Sw.Sub.mk id (.cons rfl (.of_eq rfl) (.cons rfl (.of_eq rfl) (.cons rfl (.of_eq rfl) (.cons rfl (.of_eq rfl) (.cons rfl (.of_eq rfl) (.cons rfl (.of_eq rfl) (.cons rfl (.of_eq rfl) .nil))))))) (.box rfl (.cons (.of_eq rfl) .nil) (.box rfl (.cons (.of_eq rfl) (.cons (.of_eq rfl) .nil)) (.arr rfl (.arr rfl (.dp rfl .nil))))) rfl))))))))))))))))))))))
                        · replace hx := cond_f hc816 hx
                          obtain rfl := Option.some.inj hx
                          exact (J.cons (.none rfl) (JO.move rfl) rfl rfl (J.cons (.none rfl) (JO.move rfl) rfl rfl (J.cons (.none rfl) (JO.cmp rfl rfl rfl) rfl rfl (J.cons (.none rfl) (JO.boolNe Try.runUnderlying4 rfl rfl) rfl rfl (J.cons (.none rfl) (JO.move rfl) rfl rfl (J.cons (GK.met 120 rfl rfl rfl hc812) (JO.move rfl) rfl rfl (J.cons (GK.met 120 rfl rfl rfl hc812) (JO.move rfl) rfl rfl (J.left (GK.unmet 122 rfl rfl rfl hc813) rfl (J.left (GK.unmet 122 rfl rfl rfl hc813) rfl (J.left (GK.unmet 122 rfl rfl rfl hc813) rfl (J.cons (GK.met 120 rfl rfl rfl hc812) (JO.pF hc813 rfl rfl) rfl rfl (J.cons (.none rfl) (JO.pF hc812 rfl rfl) rfl rfl (J.cons (.none rfl) (JO.move rfl) rfl rfl (J.cons (GK.met 128 rfl rfl rfl rfl) (JO.move rfl) rfl rfl (J.cons (GK.met 128 rfl rfl rfl rfl) (JO.not rfl) rfl rfl (J.cons (GK.met 128 rfl rfl rfl rfl) (JO.move rfl) rfl rfl (J.left (GK.unmet 131 rfl rfl rfl hc816) rfl (J.left (GK.unmet 131 rfl rfl rfl hc816) rfl (J.cons (GK.met 128 rfl rfl rfl rfl) (JO.pF hc816 rfl rfl) rfl rfl (J.cons (.none rfl) (JO.pF rfl rfl rfl) rfl rfl (J.fin (Sw.Sub.mk id (.cons rfl (.of_eq rfl) (.cons rfl (.of_eq rfl) (.cons rfl (.of_eq rfl) (.cons rfl (.of_eq rfl) (.cons rfl (.of_eq rfl) (.cons rfl (.of_eq rfl) (.cons rfl (.of_eq rfl) .nil))))))) (.box rfl (.cons (.of_eq rfl) .nil) (.box rfl (.cons (.of_eq rfl) (.cons (.of_eq rfl) .nil)) (.arr rfl (.arr rfl (.dp rfl .nil))))) rfl))))))))))))))))))))))
                  rcases Bool.eq_false_or_eq_true x811 with hc817 | hc817
                  · replace h := cond_t hc817 h
                    refine W.condT rfl hc817 ?_
                    refine W.seq ?_
                    refine W.reg (σ' := ⟨[(6, .v Enc.bool false)], []⟩) (J.cons (.none rfl) (JO.assign rfl) rfl rfl (J.fin (Sw.Sub.mk id (.cons rfl (.of_eq rfl) .nil) .nil rfl))) ?_
                    refine W.ret ?_
                    refine XQ.ret ?_
                    obtain rfl := Option.some.inj h
                    refine XQ.lret fun ho => ?_
                    obtain rfl := hr796 _ ho
                    refine XQ.bret ?_
                    refine XQ.lret fun ho => ?_
                    obtain rfl := hr632 _ ho
                    exact XQ.sub (σ' := ⟨[(6, .v Enc.bool false)], []⟩) (Sw.Sub.mk id (.cons rfl (.of_eq rfl) .nil) .nil rfl) (XQ.ret1 hF noR rfl (RV.tmp rfl) .nil rfl)
                  · replace h := cond_f hc817 h
                    refine W.condF rfl hc817 ?_
                    refine W.skip ?_
                    refine W.fall ?_
                    refine W.reg (σ' := ⟨[(1, .v (Enc.sl (Enc.pr (Enc.int .i64) eBlk)) a1), (5, .ptr 101 0), (10, .ptr 105002 0), (12, .ref 106000), (13, .v (Enc.int .i64) s436.1), (14, .v (Enc.int .i64) (ar .add .i64 s775.1 (1 : Int)))], [(101, .box 56 [.v eBlk a2]), (105002, .box 151 [.ref 325, .ref 326]), (106000, .arr 56 eBlk s436.2.1), (325, .arr 56 eBlk v804.2.2.1), (326, .dp (DE.mps false eBlk 3 (Enc.int .i64)) (v804.2.2.2, none) [])]⟩) (J.cons (.none rfl) (JO.move rfl) rfl rfl (J.cons (.none rfl) (JO.arith rfl rfl rfl) rfl rfl (J.cons (.none rfl) (JO.assign rfl) rfl rfl (J.fin (Sw.Sub.mk id (.cons rfl (.of_eq rfl) (.cons rfl (.of_eq rfl) (.cons rfl (.of_eq rfl) (.cons rfl (.of_eq rfl) (.cons rfl (.of_eq rfl) (.cons rfl (.of_eq rfl) .nil)))))) (.box rfl (.cons (.of_eq rfl) .nil) (.box rfl (.cons (.of_eq rfl) (.cons (.of_eq rfl) .nil)) (.arr rfl (.arr rfl (.dp rfl .nil))))) rfl))))) ?_
                    obtain rfl := Option.some.inj h
                    exact W.next (Sw.Sub.mk (rn [(101, 101), (105002, 105002), (106000, 106000), (319, 326), (318, 325)]) (.cons rfl (.of_eq rfl) (.cons rfl (.of_eq rfl) (.cons rfl (.of_eq rfl) (.cons rfl (.of_eq rfl) (.cons rfl (.of_eq rfl) (.cons rfl (.of_eq rfl) .nil)))))) (.box rfl (.cons (.of_eq rfl) .nil) (.box rfl (.cons (.of_eq rfl) (.cons (.of_eq rfl) .nil)) (.arr rfl (.arr rfl (.dp rfl .nil))))) rfl)
                · intro hc799
                  replace h := cond_t hc799 h
                  obtain ⟨z803, hz803, h⟩ := bind_e h
                  refine W.reg (σ' := ⟨[(1, .v (Enc.sl (Enc.pr (Enc.int .i64) eBlk)) a1), (5, .ptr 101 0), (10, .ptr 105002 0), (12, .ref 106000), (13, .v (Enc.int .i64) s436.1), (14, .v (Enc.int .i64) s775.1), (15, .ptr 324 0)], [(101, .box 56 [.v eBlk a2]), (105002, .box 151 [.ref 318, .ref 319]), (106000, .arr 56 eBlk s436.2.1), (324, .box 56 [.v eBlk z803]), (318, .arr 56 eBlk s775.2.1), (319, .dp (DE.mps false eBlk 3 (Enc.int .i64)) (s775.2.2, none) [])]⟩) (J.cons (.none rfl) (JO.move rfl) rfl rfl (J.cons (.none rfl) (JO.move rfl) rfl rfl (J.cons (.none rfl) (JO.idxR hz803 rfl rfl rfl Try.runUnderlying26 Try.sizeOf56) rfl rfl (J.cons (.none rfl) (JO.loadEl (idx_some hz803).2.2 rfl rfl .here Try.isAgg56 Try.sizeOf56) rfl rfl (J.mut (.none rfl) (JM.store rfl rfl rfl rfl rfl rfl rfl Try.sizeOf56) (J.fin (Sw.Sub.mk id (.cons rfl (.of_eq rfl) (.cons rfl (.of_eq rfl) (.cons rfl (.of_eq rfl) (.cons rfl (.of_eq rfl) (.cons rfl (.of_eq rfl) (.cons rfl (.of_eq rfl) (.cons rfl (.of_eq rfl) .nil))))))) (.box rfl (.cons (.of_eq rfl) .nil) (.box rfl (.cons (.of_eq rfl) (.cons (.of_eq rfl) .nil)) (.arr rfl (.box rfl (.cons (.of_eq rfl) .nil) (.arr rfl (.dp rfl .nil)))))) rfl))))))) ?_
                  exact W.jfall h (Sw.Sub.mk id (.cons rfl (.of_eq rfl) (.cons rfl (.of_eq rfl) (.cons rfl (.of_eq rfl) (.cons rfl (.of_eq rfl) (.cons rfl (.of_eq rfl) (.cons rfl (.of_eq rfl) (.cons rfl (.of_eq rfl) .nil))))))) (.box rfl (.cons (.of_eq rfl) .nil) (.box rfl (.cons (.of_eq rfl) (.cons (.of_eq rfl) .nil)) (.arr rfl (.box rfl (.cons (.of_eq rfl) .nil) (.arr rfl (.dp rfl .nil)))))) rfl)
                · intro hc799
                  replace h := cond_f hc799 h
                  refine W.skip ?_
                  exact W.jfall h (Sw.Sub.mk id (.cons rfl (.of_eq rfl) (.cons rfl (.of_eq rfl) (.cons rfl (.of_eq rfl) (.cons rfl (.of_eq rfl) (.cons rfl (.of_eq rfl) (.cons rfl (.of_eq rfl) (.cons rfl (.of_eq rfl) .nil))))))) (.box rfl (.cons (.of_eq rfl) .nil) (.box rfl (.cons (.of_eq rfl) (.cons (.of_eq rfl) .nil)) (.arr rfl (.box rfl (.cons (.of_eq rfl) .nil) (.arr rfl (.dp rfl .nil)))))) rfl)
              · replace h := cond_f hc798 h
                refine W.condF rfl hc798 ?_
                refine W.exit ?_
                obtain rfl := Option.some.inj h
                exact XQ.brk (Sw.Sub.mk id (.cons rfl (.of_eq rfl) (.cons rfl (.of_eq rfl) (.cons rfl (.of_eq rfl) (.cons rfl (.of_eq rfl) (.cons rfl (.of_eq rfl) .nil))))) (.box rfl (.cons (.of_eq rfl) .nil) (.box rfl (.cons (.of_eq rfl) (.cons (.of_eq rfl) .nil)) (.arr rfl (.arr rfl (.dp rfl .nil))))) rfl)
            · replace h := cond_f hc634 h
              refine W.condF rfl hc634 ?_
              refine W.exit ?_
              obtain rfl := Option.some.inj h
              exact XQ.brk (Sw.Sub.mk id .nil .nil rfl)
end Go.Cn
