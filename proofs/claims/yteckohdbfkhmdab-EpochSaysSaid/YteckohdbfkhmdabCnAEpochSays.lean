/- The functions that this law reaches come to what their models come to. Conditions: none. -/
import Derived.Test.YteckohdbfkhmdabMoEpochSays
import Derived.KernelRfl
import Derived.Test.YteckohdbfkhmdabChecked
set_option linter.unusedVariables false
set_option linter.unusedSimpArgs false
namespace Go.Cn
open Go Go.Sw Go.Mo Go.Proofs
abbrev ET : Nat := 29
theorem mixed : Try.prog.follows .mixedOrders = true := Try.checked.mixed
theorem eq56 : EqE 2 Try.prog 56 eBlk := EqE.arr Try.runUnderlying56 Try.sizeOf5 Try.isAgg5 (EqE.int Try.underlying5)
theorem eq85 : EqE 3 Try.prog 85 (Enc.pr (Enc.int .i64) eBlk) := EqE.struct Try.runUnderlying85 Try.stoodInHeld85 rfl (EqFs.cons (by decide) rfl (EqE.up 2 (EqE.int Try.underlying3) rfl) Try.isAgg3 Try.sizeOf3 (EqFs.last (by decide) rfl eq56 Try.isAgg56 Try.sizeOf56))
theorem built85 : ∀ parts, Try.prog.built 85 parts = Instr.fill (([(0, 1), (1, 8)] : List (Nat × Nat)).toArray[·]?) ([.int .i64 0, .int .u8 0, .int .u8 0, .int .u8 0, .int .u8 0, .int .u8 0, .int .u8 0, .int .u8 0, .int .u8 0] : List Value).toArray parts := built_struct Try.typeInfo85 Try.runUnderlying85 rfl rfl (.cons rfl (by kernel_rfl) (by kernel_rfl) (.cons rfl (by kernel_rfl) (by kernel_rfl) .nil))
theorem built112 : ∀ parts, Try.prog.built 112 parts = Instr.fill (([(0, 1), (1, 1), (2, 1), (3, 1)] : List (Nat × Nat)).toArray[·]?) ([.int .i64 0, .slice none 0 0, .slice none 0 0, .bool false] : List Value).toArray parts := built_struct Try.typeInfo112 Try.runUnderlying112 rfl rfl (.cons rfl (by kernel_rfl) (by kernel_rfl) (.cons rfl (by kernel_rfl) (by kernel_rfl) (.cons rfl (by kernel_rfl) (by kernel_rfl) (.cons rfl (by kernel_rfl) (by kernel_rfl) .nil))))
theorem built121 : ∀ parts, Try.prog.built 121 parts = Instr.fill (([(0, 1), (1, 1)] : List (Nat × Nat)).toArray[·]?) ([.int .i64 0, .slice none 0 0] : List Value).toArray parts := built_struct Try.typeInfo121 Try.runUnderlying121 rfl rfl (.cons rfl (by kernel_rfl) (by kernel_rfl) (.cons rfl (by kernel_rfl) (by kernel_rfl) .nil))
set_option maxRecDepth 100000 in
set_option maxHeartbeats 4000000 in
theorem con_law_hugeBuilder {a0 : (Int × (List (Int × Blk)) × (List (Int × (List (Int × Blk)))) × Bool)} {r : Bool} (h : m_law_hugeBuilder a0 = some r) :
    Con Try.prog 56 [.v (Enc.pr (Enc.int .i64) (Enc.pr (Enc.sl (Enc.pr (Enc.int .i64) eBlk)) (Enc.pr (Enc.sl (Enc.pr (Enc.int .i64) (Enc.sl (Enc.pr (Enc.int .i64) eBlk)))) Enc.bool))) a0] (.v Enc.bool r) [] := by
  refine Con.of Try.func56 rfl Try.ntmps56 rfl ?_
  intro S w hF
  unfold m_law_hugeBuilder at h
  refine W.seq ?_
  refine W.reg (σ' := ⟨[(1, .ptr 101 0)], [(101, .box 112 [.v (Enc.int .i64) a0.1, .v (Enc.sl (Enc.pr (Enc.int .i64) eBlk)) a0.2.1, .v (Enc.sl (Enc.pr (Enc.int .i64) (Enc.sl (Enc.pr (Enc.int .i64) eBlk)))) a0.2.2.1, .v Enc.bool a0.2.2.2])]⟩) (J.cons (.none rfl) (JO.box 101 rfl (.prm (.one _ _) (.prm (.one _ _) (.prm (.one _ _) (.one _ _)))) rfl) rfl rfl (J.cons (.none rfl) (JO.assign rfl) rfl rfl (J.fin (Sw.Sub.mk id (.cons rfl (.of_eq rfl) .nil) (.box rfl (.cons (.of_eq rfl) (.cons (.of_eq rfl) (.cons (.of_eq rfl) (.cons (.of_eq rfl) .nil)))) .nil) rfl)))) ?_
  refine W.seq ?_
  refine W.seq ?_
  refine W.reg (σ' := ⟨[(1, .ptr 101 0), (3, .v (Enc.int .i64) (0 : Int))], [(101, .box 112 [.v (Enc.int .i64) a0.1, .v (Enc.sl (Enc.pr (Enc.int .i64) eBlk)) a0.2.1, .v (Enc.sl (Enc.pr (Enc.int .i64) (Enc.sl (Enc.pr (Enc.int .i64) eBlk)))) a0.2.2.1, .v Enc.bool a0.2.2.2])]⟩) (J.cons (.none rfl) (JO.assign rfl) rfl rfl (J.fin (Sw.Sub.mk id (.cons rfl (.of_eq rfl) (.cons rfl (.of_eq rfl) .nil)) (.box rfl (.cons (.of_eq rfl) (.cons (.of_eq rfl) (.cons (.of_eq rfl) (.cons (.of_eq rfl) .nil)))) .nil) rfl))) ?_
  obtain ⟨o13, ho13, hb13, hr13⟩ := lp_elim h
  refine W.lp (σs := fun s9 : Int => ⟨[(1, .ptr 101 0), (3, .v (Enc.int .i64) s9)], [(101, .box 112 [.v (Enc.int .i64) a0.1, .v (Enc.sl (Enc.pr (Enc.int .i64) eBlk)) a0.2.1, .v (Enc.sl (Enc.pr (Enc.int .i64) (Enc.sl (Enc.pr (Enc.int .i64) eBlk)))) a0.2.2.1, .v Enc.bool a0.2.2.2])]⟩) (fun x14 : Unit => ⟨[(1, .ptr 101 0)], [(101, .box 112 [.v (Enc.int .i64) a0.1, .v (Enc.sl (Enc.pr (Enc.int .i64) eBlk)) a0.2.1, .v (Enc.sl (Enc.pr (Enc.int .i64) (Enc.sl (Enc.pr (Enc.int .i64) eBlk)))) a0.2.2.1, .v Enc.bool a0.2.2.2])]⟩) ho13 (Sw.Sub.mk id (.cons rfl (.of_eq rfl) (.cons rfl (.of_eq rfl) .nil)) (.box rfl (.cons (.of_eq rfl) (.cons (.of_eq rfl) (.cons (.of_eq rfl) (.cons (.of_eq rfl) .nil)))) .nil) rfl) ?_ ?_
  · intro x14 hy
    have h := hb13 _ hy
    refine W.seq ?_
    obtain ⟨x19, hx, h⟩ := bind_e h
    refine W.reg (σ' := ⟨[(2, .v Enc.bool x19)], []⟩) ?_ ?_
    · rcases Bool.eq_false_or_eq_true (cm .gtr (a0.2.2.1.length : Int) (20 : Int)) with hc20 | hc20
      · replace hx := cond_t hc20 hx
        obtain rfl := Option.some.inj hx
        exact (J.cons (.none rfl) (JO.fieldPtr 2 rfl Try.runUnderlying112 rfl Try.sizeOf110 rfl rfl) rfl rfl (J.cons (.none rfl) (JO.load rfl rfl rfl Try.isAgg110 Try.sizeOf110) rfl rfl (J.cons (.none rfl) (JO.len rfl Try.runUnderlying110) rfl rfl (J.cons (.none rfl) (JO.cmp rfl rfl rfl) rfl rfl (J.cons (.none rfl) (JO.move rfl) rfl rfl (J.left (GK.unmet 23 rfl rfl rfl hc20) rfl (J.left (GK.unmet 23 rfl rfl rfl hc20) rfl (J.left (GK.unmet 23 rfl rfl rfl hc20) rfl (J.left (GK.unmet 23 rfl rfl rfl hc20) rfl (J.cons (.none rfl) (JO.pT hc20 rfl rfl) rfl rfl (J.cons (.none rfl) (JO.assign rfl) rfl rfl (J.fin (Sw.Sub.mk id (.cons rfl (.of_eq rfl) .nil) .nil rfl)))))))))))))
      · replace hx := cond_f hc20 hx
        obtain rfl := Option.some.inj hx
        exact (J.cons (.none rfl) (JO.fieldPtr 2 rfl Try.runUnderlying112 rfl Try.sizeOf110 rfl rfl) rfl rfl (J.cons (.none rfl) (JO.load rfl rfl rfl Try.isAgg110 Try.sizeOf110) rfl rfl (J.cons (.none rfl) (JO.len rfl Try.runUnderlying110) rfl rfl (J.cons (.none rfl) (JO.cmp rfl rfl rfl) rfl rfl (J.cons (.none rfl) (JO.move rfl) rfl rfl (J.cons (GK.met 23 rfl rfl rfl hc20) (JO.fieldPtr 1 rfl Try.runUnderlying112 rfl Try.sizeOf76 rfl rfl) rfl rfl (J.cons (GK.met 23 rfl rfl rfl hc20) (JO.load rfl rfl rfl Try.isAgg76 Try.sizeOf76) rfl rfl (J.cons (GK.met 23 rfl rfl rfl hc20) (JO.len rfl Try.runUnderlying76) rfl rfl (J.cons (GK.met 23 rfl rfl rfl hc20) (JO.cmp rfl rfl rfl) rfl rfl (J.cons (.none rfl) (JO.pF hc20 rfl rfl) rfl rfl (J.cons (.none rfl) (JO.assign rfl) rfl rfl (J.fin (Sw.Sub.mk id (.cons rfl (.of_eq rfl) .nil) .nil rfl)))))))))))))
    refine W.ret ?_
    obtain rfl := Option.some.inj h
    exact XQ.sub (σ' := ⟨[(2, .v Enc.bool x19)], []⟩) (Sw.Sub.mk id (.cons rfl (.of_eq rfl) .nil) .nil rfl) (XQ.ret1 hF noR rfl (RV.tmp rfl) .nil rfl)
  intro s9 r13 h
  refine W.seq ?_
  refine W.seq ?_
  refine W.reg (σ' := ⟨[(1, .ptr 101 0), (3, .v (Enc.int .i64) s9), (8, .v Enc.bool (cm .lss s9 (a0.2.2.1.length : Int)))], [(101, .box 112 [.v (Enc.int .i64) a0.1, .v (Enc.sl (Enc.pr (Enc.int .i64) eBlk)) a0.2.1, .v (Enc.sl (Enc.pr (Enc.int .i64) (Enc.sl (Enc.pr (Enc.int .i64) eBlk)))) a0.2.2.1, .v Enc.bool a0.2.2.2])]⟩) (J.cons (.none rfl) (JO.move rfl) rfl rfl (J.cons (.none rfl) (JO.fieldPtr 2 rfl Try.runUnderlying112 rfl Try.sizeOf110 rfl rfl) rfl rfl (J.cons (.none rfl) (JO.load rfl rfl rfl Try.isAgg110 Try.sizeOf110) rfl rfl (J.cons (.none rfl) (JO.len rfl Try.runUnderlying110) rfl rfl (J.cons (.none rfl) (JO.cmp rfl rfl rfl) rfl rfl (J.fin (Sw.Sub.mk id (.cons rfl (.of_eq rfl) (.cons rfl (.of_eq rfl) (.cons rfl (.of_eq rfl) .nil))) (.box rfl (.cons (.of_eq rfl) (.cons (.of_eq rfl) (.cons (.of_eq rfl) (.cons (.of_eq rfl) .nil)))) .nil) rfl))))))) ?_
  rcases Bool.eq_false_or_eq_true (cm .lss s9 (a0.2.2.1.length : Int)) with hc15 | hc15
  · replace h := cond_t hc15 h
    refine W.condT rfl hc15 ?_
    refine W.skip ?_
    refine W.seq ?_
    refine W.block ?_
    refine W.seq ?_
    obtain ⟨z16, hz16, h⟩ := bind_e h
    refine W.reg (σ' := ⟨[(1, .ptr 101 0), (3, .v (Enc.int .i64) s9), (18, .v Enc.bool (cm .gtr (z16.2.length : Int) (100 : Int)))], [(101, .box 112 [.v (Enc.int .i64) a0.1, .v (Enc.sl (Enc.pr (Enc.int .i64) eBlk)) a0.2.1, .v (Enc.sl (Enc.pr (Enc.int .i64) (Enc.sl (Enc.pr (Enc.int .i64) eBlk)))) a0.2.2.1, .v Enc.bool a0.2.2.2])]⟩) (J.cons (.none rfl) (JO.fieldPtr 2 rfl Try.runUnderlying112 rfl Try.sizeOf110 rfl rfl) rfl rfl (J.cons (.none rfl) (JO.load rfl rfl rfl Try.isAgg110 Try.sizeOf110) rfl rfl (J.cons (.none rfl) (JO.move rfl) rfl rfl (J.cons (.none rfl) (JO.idx hz16 rfl rfl Try.runUnderlying110 Try.sizeOf121) rfl rfl (J.cons (.none rfl) (JO.fieldPst rfl Try.runUnderlying121 rfl Try.sizeOf76 rfl (.snd .here) rfl) rfl rfl (J.cons (.none rfl) (JO.loadPst rfl Try.isAgg76 Try.sizeOf76) rfl rfl (J.cons (.none rfl) (JO.len rfl Try.runUnderlying76) rfl rfl (J.cons (.none rfl) (JO.cmp rfl rfl rfl) rfl rfl (J.fin (Sw.Sub.mk id (.cons rfl (.of_eq rfl) (.cons rfl (.of_eq rfl) (.cons rfl (.of_eq rfl) .nil))) (.box rfl (.cons (.of_eq rfl) (.cons (.of_eq rfl) (.cons (.of_eq rfl) (.cons (.of_eq rfl) .nil)))) .nil) rfl)))))))))) ?_
    rcases Bool.eq_false_or_eq_true (cm .gtr (z16.2.length : Int) (100 : Int)) with hc17 | hc17
    · replace h := cond_t hc17 h
      refine W.condT rfl hc17 ?_
      refine W.seq ?_
      refine W.reg (σ' := ⟨[(2, .v Enc.bool true)], []⟩) (J.cons (.none rfl) (JO.assign rfl) rfl rfl (J.fin (Sw.Sub.mk id (.cons rfl (.of_eq rfl) .nil) .nil rfl))) ?_
      refine W.ret ?_
      refine XQ.ret ?_
      obtain rfl := Option.some.inj h
      refine XQ.lret fun ho => ?_
      obtain rfl := hr13 _ ho
      exact XQ.sub (σ' := ⟨[(2, .v Enc.bool true)], []⟩) (Sw.Sub.mk id (.cons rfl (.of_eq rfl) .nil) .nil rfl) (XQ.ret1 hF noR rfl (RV.tmp rfl) .nil rfl)
    · replace h := cond_f hc17 h
      refine W.condF rfl hc17 ?_
      refine W.skip ?_
      refine W.fall ?_
      refine W.reg (σ' := ⟨[(1, .ptr 101 0), (3, .v (Enc.int .i64) (ar .add .i64 s9 (1 : Int)))], [(101, .box 112 [.v (Enc.int .i64) a0.1, .v (Enc.sl (Enc.pr (Enc.int .i64) eBlk)) a0.2.1, .v (Enc.sl (Enc.pr (Enc.int .i64) (Enc.sl (Enc.pr (Enc.int .i64) eBlk)))) a0.2.2.1, .v Enc.bool a0.2.2.2])]⟩) (J.cons (.none rfl) (JO.move rfl) rfl rfl (J.cons (.none rfl) (JO.arith rfl rfl rfl) rfl rfl (J.cons (.none rfl) (JO.assign rfl) rfl rfl (J.fin (Sw.Sub.mk id (.cons rfl (.of_eq rfl) (.cons rfl (.of_eq rfl) .nil)) (.box rfl (.cons (.of_eq rfl) (.cons (.of_eq rfl) (.cons (.of_eq rfl) (.cons (.of_eq rfl) .nil)))) .nil) rfl))))) ?_
      obtain rfl := Option.some.inj h
      exact W.next (Sw.Sub.mk id (.cons rfl (.of_eq rfl) (.cons rfl (.of_eq rfl) .nil)) (.box rfl (.cons (.of_eq rfl) (.cons (.of_eq rfl) (.cons (.of_eq rfl) (.cons (.of_eq rfl) .nil)))) .nil) rfl)
  · replace h := cond_f hc15 h
    refine W.condF rfl hc15 ?_
    refine W.exit ?_
    obtain rfl := Option.some.inj h
    exact XQ.brk (Sw.Sub.mk id (.cons rfl (.of_eq rfl) .nil) (.box rfl (.cons (.of_eq rfl) (.cons (.of_eq rfl) (.cons (.of_eq rfl) (.cons (.of_eq rfl) .nil)))) .nil) rfl)
set_option maxRecDepth 100000 in
set_option maxHeartbeats 4000000 in
theorem con_ref_Rising {a0 : (List (Int × Blk))} {a1 : Int} {r : Bool} (h : m_ref_Rising a0 a1 = some r) :
    Con Try.prog 120 [.v (Enc.sl (Enc.pr (Enc.int .i64) eBlk)) a0, .v (Enc.int .i64) a1] (.v Enc.bool r) [] := by
  refine Con.of Try.func120 rfl Try.ntmps120 rfl ?_
  intro S w hF
  unfold m_ref_Rising at h
  refine W.seq ?_
  refine W.reg (σ' := ⟨[(0, .v (Enc.sl (Enc.pr (Enc.int .i64) eBlk)) a0), (1, .v (Enc.int .i64) a1)], []⟩) (J.cons (.none rfl) (JO.assign rfl) rfl rfl (J.fin (Sw.Sub.mk id (.cons rfl (.of_eq rfl) (.cons rfl (.of_eq rfl) .nil)) .nil rfl))) ?_
  refine W.seq ?_
  refine W.seq ?_
  refine W.reg (σ' := ⟨[(0, .v (Enc.sl (Enc.pr (Enc.int .i64) eBlk)) a0), (1, .v (Enc.int .i64) a1), (5, .v (Enc.int .i64) (0 : Int))], []⟩) (J.cons (.none rfl) (JO.assign rfl) rfl rfl (J.fin (Sw.Sub.mk id (.cons rfl (.of_eq rfl) (.cons rfl (.of_eq rfl) (.cons rfl (.of_eq rfl) .nil))) .nil rfl))) ?_
  obtain ⟨o55, ho55, hb55, hr55⟩ := lp_elim h
  refine W.lp (σs := fun s37 : Int => ⟨[(0, .v (Enc.sl (Enc.pr (Enc.int .i64) eBlk)) a0), (1, .v (Enc.int .i64) a1), (5, .v (Enc.int .i64) s37)], []⟩) (fun x56 : Unit => ⟨[], []⟩) ho55 (Sw.Sub.mk id (.cons rfl (.of_eq rfl) (.cons rfl (.of_eq rfl) (.cons rfl (.of_eq rfl) .nil))) .nil rfl) ?_ ?_
  · intro x56 hy
    have h := hb55 _ hy
    refine W.seq ?_
    refine W.reg (σ' := ⟨[(4, .v Enc.bool true)], []⟩) (J.cons (.none rfl) (JO.assign rfl) rfl rfl (J.fin (Sw.Sub.mk id (.cons rfl (.of_eq rfl) .nil) .nil rfl))) ?_
    refine W.ret ?_
    obtain rfl := Option.some.inj h
    exact XQ.sub (σ' := ⟨[(4, .v Enc.bool true)], []⟩) (Sw.Sub.mk id (.cons rfl (.of_eq rfl) .nil) .nil rfl) (XQ.ret1 hF noR rfl (RV.tmp rfl) .nil rfl)
  intro s37 r55 h
  refine W.seq ?_
  refine W.seq ?_
  refine W.reg (σ' := ⟨[(0, .v (Enc.sl (Enc.pr (Enc.int .i64) eBlk)) a0), (1, .v (Enc.int .i64) a1), (5, .v (Enc.int .i64) s37), (9, .v Enc.bool (cm .lss s37 (a0.length : Int)))], []⟩) (J.cons (.none rfl) (JO.move rfl) rfl rfl (J.cons (.none rfl) (JO.move rfl) rfl rfl (J.cons (.none rfl) (JO.len rfl Try.runUnderlying76) rfl rfl (J.cons (.none rfl) (JO.cmp rfl rfl rfl) rfl rfl (J.fin (Sw.Sub.mk id (.cons rfl (.of_eq rfl) (.cons rfl (.of_eq rfl) (.cons rfl (.of_eq rfl) (.cons rfl (.of_eq rfl) .nil)))) .nil rfl)))))) ?_
  rcases Bool.eq_false_or_eq_true (cm .lss s37 (a0.length : Int)) with hc57 | hc57
  · replace h := cond_t hc57 h
    refine W.condT rfl hc57 ?_
    refine W.skip ?_
    refine W.seq ?_
    refine W.block ?_
    refine W.seq ?_
    obtain ⟨x65, hx, h⟩ := bind_e h
    refine W.mg (σ' := ⟨[(0, .v (Enc.sl (Enc.pr (Enc.int .i64) eBlk)) a0), (1, .v (Enc.int .i64) a1), (5, .v (Enc.int .i64) s37), (44, .v Enc.bool x65)], []⟩) ?_ ?_
    · intro hk
      obtain ⟨z66, hz66, hx⟩ := bind_e hx
      rcases Bool.eq_false_or_eq_true (cm .lss z66.1 (0 : Int)) with hc67 | hc67
      · replace hx := cond_t hc67 hx
        obtain rfl := Option.some.inj hx
        exact W.dr2 (σ' := ⟨[(0, .v (Enc.sl (Enc.pr (Enc.int .i64) eBlk)) a0), (1, .v (Enc.int .i64) a1), (5, .v (Enc.int .i64) s37), (44, .v Enc.bool true)], []⟩) 33 [0, 0, 3, 7, 15, 31, 63, 127, 127, 511, 1023, 2047, 127, 8191, 16383, 32767, 65535, 131071, 262143, 524287, 524287, 2097151, 4194303, 8388607, 524287, 524287, 34078719, 117964799, 252182527, 520617983, 1073741823, 2147483647, 4294967295] mixed (by exact (.cons (.none rfl) (JO.move rfl) rfl rfl (.cons (.none rfl) (JO.move rfl) rfl rfl (.cons (.none rfl) (JO.idx hz66 rfl rfl Try.runUnderlying76 Try.sizeOf85) rfl rfl (.cons (.none rfl) (JO.fieldPst rfl Try.runUnderlying85 rfl Try.sizeOf3 rfl (.fst .here) rfl) rfl rfl (.cons (.none rfl) (JO.loadPst rfl Try.isAgg3 Try.sizeOf3) rfl rfl (.cons (.none rfl) (JO.cmp rfl rfl rfl) rfl rfl (.cons (.none rfl) (JO.move rfl) rfl rfl (.left (GK.unmet 18 rfl rfl rfl hc67) rfl (.left (GK.unmet 18 rfl rfl rfl hc67) rfl (.left (GK.unmet 18 rfl rfl rfl hc67) rfl (.left (GK.unmet 18 rfl rfl rfl hc67) rfl (.left (GK.unmet 18 rfl rfl rfl hc67) rfl (.left (GK.unmet 18 rfl rfl rfl hc67) rfl (.left (GK.unmet 18 rfl rfl rfl hc67) rfl (.cons (.none rfl) (JO.pT hc67 rfl rfl) rfl rfl (.cons (.none rfl) (JO.move rfl) rfl rfl (.left (GK.unmet 27 rfl rfl rfl rfl) rfl (.left (GK.unmet 27 rfl rfl rfl rfl) rfl (.left (GK.unmet 27 rfl rfl rfl rfl) rfl (.left (GK.und 30 rfl rfl rfl) rfl (.left (GK.und 30 rfl rfl rfl) rfl (.left (GK.und 30 rfl rfl rfl) rfl (.left (GK.und 30 rfl rfl rfl) rfl (.left (GK.und 30 rfl rfl rfl) rfl (.left (GK.und 30 rfl rfl rfl) rfl (.left (GK.und 30 rfl rfl rfl) rfl (.left (GK.und 30 rfl rfl rfl) rfl (.left (GK.und 30 rfl rfl rfl) rfl (.left (GK.und 30 rfl rfl rfl) rfl (.left (GK.und 30 rfl rfl rfl) rfl (.left (GK.und 30 rfl rfl rfl) rfl (.left (GK.unmet 27 rfl rfl rfl rfl) rfl (.cons (.none rfl) (JO.pT rfl rfl rfl) rfl rfl .nil)))))))))))))))))))))))))))))))))) (by exact (J.fin (Sw.Sub.mk id (.cons rfl (.of_eq rfl) (.cons rfl (.of_eq rfl) (.cons rfl (.of_eq rfl) (.cons rfl (.of_eq rfl) .nil)))) .nil rfl))) rfl (by decide +kernel) (by decide +kernel) (by decide +kernel) (by kernel_rfl) hk
      · replace hx := cond_f hc67 hx
        obtain ⟨z68, hz68, hx⟩ := bind_e hx
        rcases Bool.eq_false_or_eq_true (cm .geq z68.1 a1) with hc69 | hc69
        · replace hx := cond_t hc69 hx
          obtain rfl := Option.some.inj hx
          exact W.dr2 (σ' := ⟨[(0, .v (Enc.sl (Enc.pr (Enc.int .i64) eBlk)) a0), (1, .v (Enc.int .i64) a1), (5, .v (Enc.int .i64) s37), (44, .v Enc.bool true)], []⟩) 33 [0, 0, 3, 7, 15, 31, 63, 127, 127, 511, 1023, 2047, 127, 8191, 16383, 32767, 65535, 131071, 262143, 524287, 524287, 2097151, 4194303, 8388607, 524287, 524287, 34078719, 117964799, 252182527, 520617983, 1073741823, 2147483647, 4294967295] mixed (by exact (.cons (.none rfl) (JO.move rfl) rfl rfl (.cons (.none rfl) (JO.move rfl) rfl rfl (.cons (.none rfl) (JO.idx hz66 rfl rfl Try.runUnderlying76 Try.sizeOf85) rfl rfl (.cons (.none rfl) (JO.fieldPst rfl Try.runUnderlying85 rfl Try.sizeOf3 rfl (.fst .here) rfl) rfl rfl (.cons (.none rfl) (JO.loadPst rfl Try.isAgg3 Try.sizeOf3) rfl rfl (.cons (.none rfl) (JO.cmp rfl rfl rfl) rfl rfl (.cons (.none rfl) (JO.move rfl) rfl rfl (.cons (GK.met 18 rfl rfl rfl hc67) (JO.move rfl) rfl rfl (.cons (GK.met 18 rfl rfl rfl hc67) (JO.move rfl) rfl rfl (.cons (GK.met 18 rfl rfl rfl hc67) (JO.idx hz68 rfl rfl Try.runUnderlying76 Try.sizeOf85) rfl rfl (.cons (GK.met 18 rfl rfl rfl hc67) (JO.fieldPst rfl Try.runUnderlying85 rfl Try.sizeOf3 rfl (.fst .here) rfl) rfl rfl (.cons (GK.met 18 rfl rfl rfl hc67) (JO.loadPst rfl Try.isAgg3 Try.sizeOf3) rfl rfl (.cons (GK.met 18 rfl rfl rfl hc67) (JO.move rfl) rfl rfl (.cons (GK.met 18 rfl rfl rfl hc67) (JO.cmp rfl rfl rfl) rfl rfl (.cons (.none rfl) (JO.pF hc67 rfl rfl) rfl rfl (.cons (.none rfl) (JO.move rfl) rfl rfl (.left (GK.unmet 27 rfl rfl rfl hc69) rfl (.left (GK.unmet 27 rfl rfl rfl hc69) rfl (.left (GK.unmet 27 rfl rfl rfl hc69) rfl (.left (GK.und 30 rfl rfl rfl) rfl (.left (GK.und 30 rfl rfl rfl) rfl (.left (GK.und 30 rfl rfl rfl) rfl (.left (GK.und 30 rfl rfl rfl) rfl (.left (GK.und 30 rfl rfl rfl) rfl (.left (GK.und 30 rfl rfl rfl) rfl (.left (GK.und 30 rfl rfl rfl) rfl (.left (GK.und 30 rfl rfl rfl) rfl (.left (GK.und 30 rfl rfl rfl) rfl (.left (GK.und 30 rfl rfl rfl) rfl (.left (GK.und 30 rfl rfl rfl) rfl (.left (GK.und 30 rfl rfl rfl) rfl (.left (GK.unmet 27 rfl rfl rfl hc69) rfl (.cons (.none rfl) (JO.pT hc69 rfl rfl) rfl rfl .nil)))))))))))))))))))))))))))))))))) (by exact (J.fin (Sw.Sub.mk id (.cons rfl (.of_eq rfl) (.cons rfl (.of_eq rfl) (.cons rfl (.of_eq rfl) (.cons rfl (.of_eq rfl) .nil)))) .nil rfl))) rfl (by decide +kernel) (by decide +kernel) (by decide +kernel) (by kernel_rfl) hk
        · replace hx := cond_f hc69 hx
          rcases Bool.eq_false_or_eq_true (cm .gtr s37 (0 : Int)) with hc70 | hc70
          · replace hx := cond_t hc70 hx
            obtain ⟨z71, hz71, hx⟩ := bind_e hx
            obtain ⟨z72, hz72, hx⟩ := bind_e hx
            obtain rfl := Option.some.inj hx
            exact W.dr2 (σ' := ⟨[(0, .v (Enc.sl (Enc.pr (Enc.int .i64) eBlk)) a0), (1, .v (Enc.int .i64) a1), (5, .v (Enc.int .i64) s37), (44, .v Enc.bool (cm .leq z71.1 z72.1))], []⟩) 33 [0, 0, 3, 7, 15, 31, 63, 127, 127, 511, 1023, 2047, 127, 8191, 16383, 32767, 65535, 131071, 262143, 524287, 524287, 2097151, 4194303, 8388607, 524287, 524287, 34078719, 117964799, 252182527, 520617983, 1073741823, 2147483647, 4294967295] mixed (by exact (.cons (.none rfl) (JO.move rfl) rfl rfl (.cons (.none rfl) (JO.move rfl) rfl rfl (.cons (.none rfl) (JO.idx hz66 rfl rfl Try.runUnderlying76 Try.sizeOf85) rfl rfl (.cons (.none rfl) (JO.fieldPst rfl Try.runUnderlying85 rfl Try.sizeOf3 rfl (.fst .here) rfl) rfl rfl (.cons (.none rfl) (JO.loadPst rfl Try.isAgg3 Try.sizeOf3) rfl rfl (.cons (.none rfl) (JO.cmp rfl rfl rfl) rfl rfl (.cons (.none rfl) (JO.move rfl) rfl rfl (.cons (GK.met 18 rfl rfl rfl hc67) (JO.move rfl) rfl rfl (.cons (GK.met 18 rfl rfl rfl hc67) (JO.move rfl) rfl rfl (.cons (GK.met 18 rfl rfl rfl hc67) (JO.idx hz68 rfl rfl Try.runUnderlying76 Try.sizeOf85) rfl rfl (.cons (GK.met 18 rfl rfl rfl hc67) (JO.fieldPst rfl Try.runUnderlying85 rfl Try.sizeOf3 rfl (.fst .here) rfl) rfl rfl (.cons (GK.met 18 rfl rfl rfl hc67) (JO.loadPst rfl Try.isAgg3 Try.sizeOf3) rfl rfl (.cons (GK.met 18 rfl rfl rfl hc67) (JO.move rfl) rfl rfl (.cons (GK.met 18 rfl rfl rfl hc67) (JO.cmp rfl rfl rfl) rfl rfl (.cons (.none rfl) (JO.pF hc67 rfl rfl) rfl rfl (.cons (.none rfl) (JO.move rfl) rfl rfl (.cons (GK.met 27 rfl rfl rfl hc69) (JO.move rfl) rfl rfl (.cons (GK.met 27 rfl rfl rfl hc69) (JO.cmp rfl rfl rfl) rfl rfl (.cons (GK.met 27 rfl rfl rfl hc69) (JO.move rfl) rfl rfl (.cons (GK.met 30 rfl rfl rfl hc70) (JO.move rfl) rfl rfl (.cons (GK.met 30 rfl rfl rfl hc70) (JO.move rfl) rfl rfl (.cons (GK.met 30 rfl rfl rfl hc70) (JO.idx hz71 rfl rfl Try.runUnderlying76 Try.sizeOf85) rfl rfl (.cons (GK.met 30 rfl rfl rfl hc70) (JO.fieldPst rfl Try.runUnderlying85 rfl Try.sizeOf3 rfl (.fst .here) rfl) rfl rfl (.cons (GK.met 30 rfl rfl rfl hc70) (JO.loadPst rfl Try.isAgg3 Try.sizeOf3) rfl rfl (.cons (GK.met 30 rfl rfl rfl hc70) (JO.move rfl) rfl rfl (.cons (GK.met 30 rfl rfl rfl hc70) (JO.move rfl) rfl rfl (.cons (GK.met 30 rfl rfl rfl hc70) (JO.arith rfl rfl rfl) rfl rfl (.cons (GK.met 30 rfl rfl rfl hc70) (JO.idx hz72 rfl rfl Try.runUnderlying76 Try.sizeOf85) rfl rfl (.cons (GK.met 30 rfl rfl rfl hc70) (JO.fieldPst rfl Try.runUnderlying85 rfl Try.sizeOf3 rfl (.fst .here) rfl) rfl rfl (.cons (GK.met 30 rfl rfl rfl hc70) (JO.loadPst rfl Try.isAgg3 Try.sizeOf3) rfl rfl (.cons (GK.met 30 rfl rfl rfl hc70) (JO.cmp rfl rfl rfl) rfl rfl (.cons (GK.met 27 rfl rfl rfl hc69) (JO.pT hc70 rfl rfl) rfl rfl (.cons (.none rfl) (JO.pF hc69 rfl rfl) rfl rfl .nil)))))))))))))))))))))))))))))))))) (by exact (J.fin (Sw.Sub.mk id (.cons rfl (.of_eq rfl) (.cons rfl (.of_eq rfl) (.cons rfl (.of_eq rfl) (.cons rfl (.of_eq rfl) .nil)))) .nil rfl))) rfl (by decide +kernel) (by decide +kernel) (by decide +kernel) (by kernel_rfl) hk
          · replace hx := cond_f hc70 hx
            obtain rfl := Option.some.inj hx
            exact W.dr2 (σ' := ⟨[(0, .v (Enc.sl (Enc.pr (Enc.int .i64) eBlk)) a0), (1, .v (Enc.int .i64) a1), (5, .v (Enc.int .i64) s37), (44, .v Enc.bool false)], []⟩) 33 [0, 0, 3, 7, 15, 31, 63, 127, 127, 511, 1023, 2047, 127, 8191, 16383, 32767, 65535, 131071, 262143, 524287, 524287, 2097151, 4194303, 8388607, 524287, 524287, 34078719, 117964799, 252182527, 520617983, 1073741823, 2147483647, 4294967295] mixed (by exact (.cons (.none rfl) (JO.move rfl) rfl rfl (.cons (.none rfl) (JO.move rfl) rfl rfl (.cons (.none rfl) (JO.idx hz66 rfl rfl Try.runUnderlying76 Try.sizeOf85) rfl rfl (.cons (.none rfl) (JO.fieldPst rfl Try.runUnderlying85 rfl Try.sizeOf3 rfl (.fst .here) rfl) rfl rfl (.cons (.none rfl) (JO.loadPst rfl Try.isAgg3 Try.sizeOf3) rfl rfl (.cons (.none rfl) (JO.cmp rfl rfl rfl) rfl rfl (.cons (.none rfl) (JO.move rfl) rfl rfl (.cons (GK.met 18 rfl rfl rfl hc67) (JO.move rfl) rfl rfl (.cons (GK.met 18 rfl rfl rfl hc67) (JO.move rfl) rfl rfl (.cons (GK.met 18 rfl rfl rfl hc67) (JO.idx hz68 rfl rfl Try.runUnderlying76 Try.sizeOf85) rfl rfl (.cons (GK.met 18 rfl rfl rfl hc67) (JO.fieldPst rfl Try.runUnderlying85 rfl Try.sizeOf3 rfl (.fst .here) rfl) rfl rfl (.cons (GK.met 18 rfl rfl rfl hc67) (JO.loadPst rfl Try.isAgg3 Try.sizeOf3) rfl rfl (.cons (GK.met 18 rfl rfl rfl hc67) (JO.move rfl) rfl rfl (.cons (GK.met 18 rfl rfl rfl hc67) (JO.cmp rfl rfl rfl) rfl rfl (.cons (.none rfl) (JO.pF hc67 rfl rfl) rfl rfl (.cons (.none rfl) (JO.move rfl) rfl rfl (.cons (GK.met 27 rfl rfl rfl hc69) (JO.move rfl) rfl rfl (.cons (GK.met 27 rfl rfl rfl hc69) (JO.cmp rfl rfl rfl) rfl rfl (.cons (GK.met 27 rfl rfl rfl hc69) (JO.move rfl) rfl rfl (.left (GK.unmet 30 rfl rfl rfl hc70) rfl (.left (GK.unmet 30 rfl rfl rfl hc70) rfl (.left (GK.unmet 30 rfl rfl rfl hc70) rfl (.left (GK.unmet 30 rfl rfl rfl hc70) rfl (.left (GK.unmet 30 rfl rfl rfl hc70) rfl (.left (GK.unmet 30 rfl rfl rfl hc70) rfl (.left (GK.unmet 30 rfl rfl rfl hc70) rfl (.left (GK.unmet 30 rfl rfl rfl hc70) rfl (.left (GK.unmet 30 rfl rfl rfl hc70) rfl (.left (GK.unmet 30 rfl rfl rfl hc70) rfl (.left (GK.unmet 30 rfl rfl rfl hc70) rfl (.left (GK.unmet 30 rfl rfl rfl hc70) rfl (.cons (GK.met 27 rfl rfl rfl hc69) (JO.pF hc70 rfl rfl) rfl rfl (.cons (.none rfl) (JO.pF hc69 rfl rfl) rfl rfl .nil)))))))))))))))))))))))))))))))))) (by exact (J.fin (Sw.Sub.mk id (.cons rfl (.of_eq rfl) (.cons rfl (.of_eq rfl) (.cons rfl (.of_eq rfl) (.cons rfl (.of_eq rfl) .nil)))) .nil rfl))) rfl (by decide +kernel) (by decide +kernel) (by decide +kernel) (by kernel_rfl) hk
    rcases Bool.eq_false_or_eq_true x65 with hc73 | hc73
    · replace h := cond_t hc73 h
      refine W.condT rfl hc73 ?_
      refine W.seq ?_
      refine W.reg (σ' := ⟨[(4, .v Enc.bool false)], []⟩) (J.cons (.none rfl) (JO.assign rfl) rfl rfl (J.fin (Sw.Sub.mk id (.cons rfl (.of_eq rfl) .nil) .nil rfl))) ?_
      refine W.ret ?_
      refine XQ.ret ?_
      obtain rfl := Option.some.inj h
      refine XQ.lret fun ho => ?_
      obtain rfl := hr55 _ ho
      exact XQ.sub (σ' := ⟨[(4, .v Enc.bool false)], []⟩) (Sw.Sub.mk id (.cons rfl (.of_eq rfl) .nil) .nil rfl) (XQ.ret1 hF noR rfl (RV.tmp rfl) .nil rfl)
    · replace h := cond_f hc73 h
      refine W.condF rfl hc73 ?_
      refine W.skip ?_
      refine W.fall ?_
      refine W.reg (σ' := ⟨[(0, .v (Enc.sl (Enc.pr (Enc.int .i64) eBlk)) a0), (1, .v (Enc.int .i64) a1), (5, .v (Enc.int .i64) (ar .add .i64 s37 (1 : Int)))], []⟩) (J.cons (.none rfl) (JO.move rfl) rfl rfl (J.cons (.none rfl) (JO.arith rfl rfl rfl) rfl rfl (J.cons (.none rfl) (JO.assign rfl) rfl rfl (J.fin (Sw.Sub.mk id (.cons rfl (.of_eq rfl) (.cons rfl (.of_eq rfl) (.cons rfl (.of_eq rfl) .nil))) .nil rfl))))) ?_
      obtain rfl := Option.some.inj h
      exact W.next (Sw.Sub.mk id (.cons rfl (.of_eq rfl) (.cons rfl (.of_eq rfl) (.cons rfl (.of_eq rfl) .nil))) .nil rfl)
  · replace h := cond_f hc57 h
    refine W.condF rfl hc57 ?_
    refine W.exit ?_
    obtain rfl := Option.some.inj h
    exact XQ.brk (Sw.Sub.mk id .nil .nil rfl)
set_option maxRecDepth 100000 in
set_option maxHeartbeats 4000000 in
theorem con_ref_BuilderMay {a0 : (Int × (List (Int × Blk)) × (List (Int × (List (Int × Blk)))) × Bool)} {a1 : Int} {r : Int} (h : m_ref_BuilderMay a0 a1 = some r) :
    Con Try.prog 57 [.v (Enc.pr (Enc.int .i64) (Enc.pr (Enc.sl (Enc.pr (Enc.int .i64) eBlk)) (Enc.pr (Enc.sl (Enc.pr (Enc.int .i64) (Enc.sl (Enc.pr (Enc.int .i64) eBlk)))) Enc.bool))) a0, .v (Enc.int .i64) a1] (.v (Enc.int .i64) r) [] := by
  refine Con.of Try.func57 rfl Try.ntmps57 rfl ?_
  intro S w hF
  unfold m_ref_BuilderMay at h
  refine W.seq ?_
  refine W.reg (σ' := ⟨[(1, .v (Enc.int .i64) a1), (2, .ptr 101 0)], [(101, .box 112 [.v (Enc.int .i64) a0.1, .v (Enc.sl (Enc.pr (Enc.int .i64) eBlk)) a0.2.1, .v (Enc.sl (Enc.pr (Enc.int .i64) (Enc.sl (Enc.pr (Enc.int .i64) eBlk)))) a0.2.2.1, .v Enc.bool a0.2.2.2])]⟩) (J.cons (.none rfl) (JO.box 101 rfl (.prm (.one _ _) (.prm (.one _ _) (.prm (.one _ _) (.one _ _)))) rfl) rfl rfl (J.cons (.none rfl) (JO.assign rfl) rfl rfl (J.fin (Sw.Sub.mk id (.cons rfl (.of_eq rfl) (.cons rfl (.of_eq rfl) .nil)) (.box rfl (.cons (.of_eq rfl) (.cons (.of_eq rfl) (.cons (.of_eq rfl) (.cons (.of_eq rfl) .nil)))) .nil) rfl)))) ?_
  refine W.seq ?_
  refine W.seq ?_
  obtain ⟨x4, hx, h⟩ := bind_e h
  refine W.reg (σ' := ⟨[(1, .v (Enc.int .i64) a1), (2, .ptr 101 0), (21, .v Enc.bool x4)], [(101, .box 112 [.v (Enc.int .i64) a0.1, .v (Enc.sl (Enc.pr (Enc.int .i64) eBlk)) a0.2.1, .v (Enc.sl (Enc.pr (Enc.int .i64) (Enc.sl (Enc.pr (Enc.int .i64) eBlk)))) a0.2.2.1, .v Enc.bool a0.2.2.2])]⟩) ?_ ?_
  · rcases Bool.eq_false_or_eq_true (cm .lss a1 (1 : Int)) with hc5 | hc5
    · replace hx := cond_t hc5 hx
      obtain rfl := Option.some.inj hx
      exact (J.cons (.none rfl) (JO.move rfl) rfl rfl (J.cons (.none rfl) (JO.cmp rfl rfl rfl) rfl rfl (J.cons (.none rfl) (JO.move rfl) rfl rfl (J.left (GK.unmet 8 rfl rfl rfl hc5) rfl (J.left (GK.unmet 8 rfl rfl rfl hc5) rfl (J.cons (.none rfl) (JO.pT hc5 rfl rfl) rfl rfl (J.cons (.none rfl) (JO.move rfl) rfl rfl (J.left (GK.unmet 12 rfl rfl rfl rfl) rfl (J.left (GK.unmet 12 rfl rfl rfl rfl) rfl (J.left (GK.unmet 12 rfl rfl rfl rfl) rfl (J.cons (.none rfl) (JO.pT rfl rfl rfl) rfl rfl (J.cons (.none rfl) (JO.move rfl) rfl rfl (J.left (GK.unmet 17 rfl rfl rfl rfl) rfl (J.left (GK.unmet 17 rfl rfl rfl rfl) rfl (J.left (GK.unmet 17 rfl rfl rfl rfl) rfl (J.cons (.none rfl) (JO.pT rfl rfl rfl) rfl rfl (J.fin (Sw.Sub.mk id (.cons rfl (.of_eq rfl) (.cons rfl (.of_eq rfl) (.cons rfl (.of_eq rfl) .nil))) (.box rfl (.cons (.of_eq rfl) (.cons (.of_eq rfl) (.cons (.of_eq rfl) (.cons (.of_eq rfl) .nil)))) .nil) rfl))))))))))))))))))
    · replace hx := cond_f hc5 hx
      rcases Bool.eq_false_or_eq_true (cm .gtr a1 (32 : Int)) with hc6 | hc6
      · replace hx := cond_t hc6 hx
        obtain rfl := Option.some.inj hx
        exact (J.cons (.none rfl) (JO.move rfl) rfl rfl (J.cons (.none rfl) (JO.cmp rfl rfl rfl) rfl rfl (J.cons (.none rfl) (JO.move rfl) rfl rfl (J.cons (GK.met 8 rfl rfl rfl hc5) (JO.move rfl) rfl rfl (J.cons (GK.met 8 rfl rfl rfl hc5) (JO.cmp rfl rfl rfl) rfl rfl (J.cons (.none rfl) (JO.pF hc5 rfl rfl) rfl rfl (J.cons (.none rfl) (JO.move rfl) rfl rfl (J.left (GK.unmet 12 rfl rfl rfl hc6) rfl (J.left (GK.unmet 12 rfl rfl rfl hc6) rfl (J.left (GK.unmet 12 rfl rfl rfl hc6) rfl (J.cons (.none rfl) (JO.pT hc6 rfl rfl) rfl rfl (J.cons (.none rfl) (JO.move rfl) rfl rfl (J.left (GK.unmet 17 rfl rfl rfl rfl) rfl (J.left (GK.unmet 17 rfl rfl rfl rfl) rfl (J.left (GK.unmet 17 rfl rfl rfl rfl) rfl (J.cons (.none rfl) (JO.pT rfl rfl rfl) rfl rfl (J.fin (Sw.Sub.mk id (.cons rfl (.of_eq rfl) (.cons rfl (.of_eq rfl) (.cons rfl (.of_eq rfl) .nil))) (.box rfl (.cons (.of_eq rfl) (.cons (.of_eq rfl) (.cons (.of_eq rfl) (.cons (.of_eq rfl) .nil)))) .nil) rfl))))))))))))))))))
      · replace hx := cond_f hc6 hx
        rcases Bool.eq_false_or_eq_true (cm .lss a0.1 (0 : Int)) with hc7 | hc7
        · replace hx := cond_t hc7 hx
          obtain rfl := Option.some.inj hx
          exact (J.cons (.none rfl) (JO.move rfl) rfl rfl (J.cons (.none rfl) (JO.cmp rfl rfl rfl) rfl rfl (J.cons (.none rfl) (JO.move rfl) rfl rfl (J.cons (GK.met 8 rfl rfl rfl hc5) (JO.move rfl) rfl rfl (J.cons (GK.met 8 rfl rfl rfl hc5) (JO.cmp rfl rfl rfl) rfl rfl (J.cons (.none rfl) (JO.pF hc5 rfl rfl) rfl rfl (J.cons (.none rfl) (JO.move rfl) rfl rfl (J.cons (GK.met 12 rfl rfl rfl hc6) (JO.fieldPtr 0 rfl Try.runUnderlying112 rfl Try.sizeOf3 rfl rfl) rfl rfl (J.cons (GK.met 12 rfl rfl rfl hc6) (JO.load rfl rfl rfl Try.isAgg3 Try.sizeOf3) rfl rfl (J.cons (GK.met 12 rfl rfl rfl hc6) (JO.cmp rfl rfl rfl) rfl rfl (J.cons (.none rfl) (JO.pF hc6 rfl rfl) rfl rfl (J.cons (.none rfl) (JO.move rfl) rfl rfl (J.left (GK.unmet 17 rfl rfl rfl hc7) rfl (J.left (GK.unmet 17 rfl rfl rfl hc7) rfl (J.left (GK.unmet 17 rfl rfl rfl hc7) rfl (J.cons (.none rfl) (JO.pT hc7 rfl rfl) rfl rfl (J.fin (Sw.Sub.mk id (.cons rfl (.of_eq rfl) (.cons rfl (.of_eq rfl) (.cons rfl (.of_eq rfl) .nil))) (.box rfl (.cons (.of_eq rfl) (.cons (.of_eq rfl) (.cons (.of_eq rfl) (.cons (.of_eq rfl) .nil)))) .nil) rfl))))))))))))))))))
        · replace hx := cond_f hc7 hx
          obtain rfl := Option.some.inj hx
          exact (J.cons (.none rfl) (JO.move rfl) rfl rfl (J.cons (.none rfl) (JO.cmp rfl rfl rfl) rfl rfl (J.cons (.none rfl) (JO.move rfl) rfl rfl (J.cons (GK.met 8 rfl rfl rfl hc5) (JO.move rfl) rfl rfl (J.cons (GK.met 8 rfl rfl rfl hc5) (JO.cmp rfl rfl rfl) rfl rfl (J.cons (.none rfl) (JO.pF hc5 rfl rfl) rfl rfl (J.cons (.none rfl) (JO.move rfl) rfl rfl (J.cons (GK.met 12 rfl rfl rfl hc6) (JO.fieldPtr 0 rfl Try.runUnderlying112 rfl Try.sizeOf3 rfl rfl) rfl rfl (J.cons (GK.met 12 rfl rfl rfl hc6) (JO.load rfl rfl rfl Try.isAgg3 Try.sizeOf3) rfl rfl (J.cons (GK.met 12 rfl rfl rfl hc6) (JO.cmp rfl rfl rfl) rfl rfl (J.cons (.none rfl) (JO.pF hc6 rfl rfl) rfl rfl (J.cons (.none rfl) (JO.move rfl) rfl rfl (J.cons (GK.met 17 rfl rfl rfl hc7) (JO.fieldPtr 0 rfl Try.runUnderlying112 rfl Try.sizeOf3 rfl rfl) rfl rfl (J.cons (GK.met 17 rfl rfl rfl hc7) (JO.load rfl rfl rfl Try.isAgg3 Try.sizeOf3) rfl rfl (J.cons (GK.met 17 rfl rfl rfl hc7) (JO.cmp rfl rfl rfl) rfl rfl (J.cons (.none rfl) (JO.pF hc7 rfl rfl) rfl rfl (J.fin (Sw.Sub.mk id (.cons rfl (.of_eq rfl) (.cons rfl (.of_eq rfl) (.cons rfl (.of_eq rfl) .nil))) (.box rfl (.cons (.of_eq rfl) (.cons (.of_eq rfl) (.cons (.of_eq rfl) (.cons (.of_eq rfl) .nil)))) .nil) rfl))))))))))))))))))
  rcases Bool.eq_false_or_eq_true x4 with hc8 | hc8
  · replace h := cond_t hc8 h
    refine W.condT rfl hc8 ?_
    refine W.seq ?_
    refine W.reg (σ' := ⟨[(4, .v (Enc.int .i64) (1 : Int))], []⟩) (J.cons (.none rfl) (JO.assign rfl) rfl rfl (J.fin (Sw.Sub.mk id (.cons rfl (.of_eq rfl) .nil) .nil rfl))) ?_
    refine W.ret ?_
    obtain rfl := Option.some.inj h
    exact XQ.sub (σ' := ⟨[(4, .v (Enc.int .i64) (1 : Int))], []⟩) (Sw.Sub.mk id (.cons rfl (.of_eq rfl) .nil) .nil rfl) (XQ.ret1 hF noR rfl (RV.tmp rfl) .nil rfl)
  · replace h := cond_f hc8 h
    refine W.condF rfl hc8 ?_
    refine W.skip ?_
    refine W.seq ?_
    refine W.seq ?_
    refine W.reg (σ' := ⟨[(1, .v (Enc.int .i64) a1), (2, .ptr 101 0), (25, .v Enc.bool (cm .gtr (a0.2.2.1.length : Int) (4 : Int)))], [(101, .box 112 [.v (Enc.int .i64) a0.1, .v (Enc.sl (Enc.pr (Enc.int .i64) eBlk)) a0.2.1, .v (Enc.sl (Enc.pr (Enc.int .i64) (Enc.sl (Enc.pr (Enc.int .i64) eBlk)))) a0.2.2.1, .v Enc.bool a0.2.2.2])]⟩) (J.cons (.none rfl) (JO.fieldPtr 2 rfl Try.runUnderlying112 rfl Try.sizeOf110 rfl rfl) rfl rfl (J.cons (.none rfl) (JO.load rfl rfl rfl Try.isAgg110 Try.sizeOf110) rfl rfl (J.cons (.none rfl) (JO.len rfl Try.runUnderlying110) rfl rfl (J.cons (.none rfl) (JO.cmp rfl rfl rfl) rfl rfl (J.fin (Sw.Sub.mk id (.cons rfl (.of_eq rfl) (.cons rfl (.of_eq rfl) (.cons rfl (.of_eq rfl) .nil))) (.box rfl (.cons (.of_eq rfl) (.cons (.of_eq rfl) (.cons (.of_eq rfl) (.cons (.of_eq rfl) .nil)))) .nil) rfl)))))) ?_
    rcases Bool.eq_false_or_eq_true (cm .gtr (a0.2.2.1.length : Int) (4 : Int)) with hc9 | hc9
    · replace h := cond_t hc9 h
      refine W.condT rfl hc9 ?_
      refine W.seq ?_
      refine W.reg (σ' := ⟨[(4, .v (Enc.int .i64) (2 : Int))], []⟩) (J.cons (.none rfl) (JO.assign rfl) rfl rfl (J.fin (Sw.Sub.mk id (.cons rfl (.of_eq rfl) .nil) .nil rfl))) ?_
      refine W.ret ?_
      obtain rfl := Option.some.inj h
      exact XQ.sub (σ' := ⟨[(4, .v (Enc.int .i64) (2 : Int))], []⟩) (Sw.Sub.mk id (.cons rfl (.of_eq rfl) .nil) .nil rfl) (XQ.ret1 hF noR rfl (RV.tmp rfl) .nil rfl)
    · replace h := cond_f hc9 h
      refine W.condF rfl hc9 ?_
      refine W.skip ?_
      refine W.seq ?_
      refine W.seq ?_
      obtain ⟨x14, hx, h⟩ := bind_e h
      refine W.reg (σ' := ⟨[(1, .v (Enc.int .i64) a1), (2, .ptr 101 0), (48, .v Enc.bool x14)], [(101, .box 112 [.v (Enc.int .i64) a0.1, .v (Enc.sl (Enc.pr (Enc.int .i64) eBlk)) a0.2.1, .v (Enc.sl (Enc.pr (Enc.int .i64) (Enc.sl (Enc.pr (Enc.int .i64) eBlk)))) a0.2.2.1, .v Enc.bool a0.2.2.2])]⟩) ?_ ?_
      · obtain ⟨v15, hv15, hx⟩ := bind_e hx
        rcases Bool.eq_false_or_eq_true (!v15) with hc16 | hc16
        · replace hx := cond_t hc16 hx
          obtain rfl := Option.some.inj hx
          exact (J.cons (.none rfl) (JO.fieldPtr 1 rfl Try.runUnderlying112 rfl Try.sizeOf76 rfl rfl) rfl rfl (J.cons (.none rfl) (JO.load rfl rfl rfl Try.isAgg76 Try.sizeOf76) rfl rfl (J.cons (.none rfl) (JO.move rfl) rfl rfl (J.cons (.none rfl) (JO.call0 (con_ref_Rising hv15) Try.call120 (.cons (.dir rfl) (.cons (.dir rfl) .nil))) rfl rfl (J.cons (.none rfl) (JO.not rfl) rfl rfl (J.cons (.none rfl) (JO.move rfl) rfl rfl (J.left (GK.unmet 31 rfl rfl rfl hc16) rfl (J.left (GK.unmet 31 rfl rfl rfl hc16) rfl (J.left (GK.unmet 31 rfl rfl rfl hc16) rfl (J.left (GK.und 34 rfl rfl rfl) rfl (J.left (GK.und 34 rfl rfl rfl) rfl (J.left (GK.und 34 rfl rfl rfl) rfl (J.left (GK.und 34 rfl rfl rfl) rfl (J.left (GK.unmet 31 rfl rfl rfl hc16) rfl (J.cons (.none rfl) (JO.pT hc16 rfl rfl) rfl rfl (J.cons (.none rfl) (JO.move rfl) rfl rfl (J.left (GK.unmet 41 rfl rfl rfl rfl) rfl (J.left (GK.unmet 41 rfl rfl rfl rfl) rfl (J.left (GK.unmet 41 rfl rfl rfl rfl) rfl (J.left (GK.unmet 41 rfl rfl rfl rfl) rfl (J.left (GK.unmet 41 rfl rfl rfl rfl) rfl (J.left (GK.unmet 41 rfl rfl rfl rfl) rfl (J.cons (.none rfl) (JO.pT rfl rfl rfl) rfl rfl (J.fin (Sw.Sub.mk id (.cons rfl (.of_eq rfl) (.cons rfl (.of_eq rfl) (.cons rfl (.of_eq rfl) .nil))) (.box rfl (.cons (.of_eq rfl) (.cons (.of_eq rfl) (.cons (.of_eq rfl) (.cons (.of_eq rfl) .nil)))) .nil) rfl)))))))))))))))))))))))))
        · replace hx := cond_f hc16 hx
          rcases Bool.eq_false_or_eq_true a0.2.2.2 with hc17 | hc17
          · replace hx := cond_t hc17 hx
            rcases Bool.eq_false_or_eq_true (cm .gtr (a0.2.2.1.length : Int) (0 : Int)) with hc18 | hc18
            · replace hx := cond_t hc18 hx
              obtain rfl := Option.some.inj hx
              exact (J.cons (.none rfl) (JO.fieldPtr 1 rfl Try.runUnderlying112 rfl Try.sizeOf76 rfl rfl) rfl rfl (J.cons (.none rfl) (JO.load rfl rfl rfl Try.isAgg76 Try.sizeOf76) rfl rfl (J.cons (.none rfl) (JO.move rfl) rfl rfl (J.cons (.none rfl) (JO.call0 (con_ref_Rising hv15) Try.call120 (.cons (.dir rfl) (.cons (.dir rfl) .nil))) rfl rfl (J.cons (.none rfl) (JO.not rfl) rfl rfl (J.cons (.none rfl) (JO.move rfl) rfl rfl (J.cons (GK.met 31 rfl rfl rfl hc16) (JO.fieldPtr 3 rfl Try.runUnderlying112 rfl Try.sizeOf4 rfl rfl) rfl rfl (J.cons (GK.met 31 rfl rfl rfl hc16) (JO.load rfl rfl rfl Try.isAgg4 Try.sizeOf4) rfl rfl (J.cons (GK.met 31 rfl rfl rfl hc16) (JO.move rfl) rfl rfl (J.cons (GK.met 34 rfl rfl rfl hc17) (JO.fieldPtr 2 rfl Try.runUnderlying112 rfl Try.sizeOf110 rfl rfl) rfl rfl (J.cons (GK.met 34 rfl rfl rfl hc17) (JO.load rfl rfl rfl Try.isAgg110 Try.sizeOf110) rfl rfl (J.cons (GK.met 34 rfl rfl rfl hc17) (JO.len rfl Try.runUnderlying110) rfl rfl (J.cons (GK.met 34 rfl rfl rfl hc17) (JO.cmp rfl rfl rfl) rfl rfl (J.cons (GK.met 31 rfl rfl rfl hc16) (JO.pT hc17 rfl rfl) rfl rfl (J.cons (.none rfl) (JO.pF hc16 rfl rfl) rfl rfl (J.cons (.none rfl) (JO.move rfl) rfl rfl (J.left (GK.unmet 41 rfl rfl rfl hc18) rfl (J.left (GK.unmet 41 rfl rfl rfl hc18) rfl (J.left (GK.unmet 41 rfl rfl rfl hc18) rfl (J.left (GK.unmet 41 rfl rfl rfl hc18) rfl (J.left (GK.unmet 41 rfl rfl rfl hc18) rfl (J.left (GK.unmet 41 rfl rfl rfl hc18) rfl (J.cons (.none rfl) (JO.pT hc18 rfl rfl) rfl rfl (J.fin (Sw.Sub.mk id (.cons rfl (.of_eq rfl) (.cons rfl (.of_eq rfl) (.cons rfl (.of_eq rfl) .nil))) (.box rfl (.cons (.of_eq rfl) (.cons (.of_eq rfl) (.cons (.of_eq rfl) (.cons (.of_eq rfl) .nil)))) .nil) rfl)))))))))))))))))))))))))
            · replace hx := cond_f hc18 hx
              obtain rfl := Option.some.inj hx
              exact (J.cons (.none rfl) (JO.fieldPtr 1 rfl Try.runUnderlying112 rfl Try.sizeOf76 rfl rfl) rfl rfl (J.cons (.none rfl) (JO.load rfl rfl rfl Try.isAgg76 Try.sizeOf76) rfl rfl (J.cons (.none rfl) (JO.move rfl) rfl rfl (J.cons (.none rfl) (JO.call0 (con_ref_Rising hv15) Try.call120 (.cons (.dir rfl) (.cons (.dir rfl) .nil))) rfl rfl (J.cons (.none rfl) (JO.not rfl) rfl rfl (J.cons (.none rfl) (JO.move rfl) rfl rfl (J.cons (GK.met 31 rfl rfl rfl hc16) (JO.fieldPtr 3 rfl Try.runUnderlying112 rfl Try.sizeOf4 rfl rfl) rfl rfl (J.cons (GK.met 31 rfl rfl rfl hc16) (JO.load rfl rfl rfl Try.isAgg4 Try.sizeOf4) rfl rfl (J.cons (GK.met 31 rfl rfl rfl hc16) (JO.move rfl) rfl rfl (J.cons (GK.met 34 rfl rfl rfl hc17) (JO.fieldPtr 2 rfl Try.runUnderlying112 rfl Try.sizeOf110 rfl rfl) rfl rfl (J.cons (GK.met 34 rfl rfl rfl hc17) (JO.load rfl rfl rfl Try.isAgg110 Try.sizeOf110) rfl rfl (J.cons (GK.met 34 rfl rfl rfl hc17) (JO.len rfl Try.runUnderlying110) rfl rfl (J.cons (GK.met 34 rfl rfl rfl hc17) (JO.cmp rfl rfl rfl) rfl rfl (J.cons (GK.met 31 rfl rfl rfl hc16) (JO.pT hc17 rfl rfl) rfl rfl (J.cons (.none rfl) (JO.pF hc16 rfl rfl) rfl rfl (J.cons (.none rfl) (JO.move rfl) rfl rfl (J.cons (GK.met 41 rfl rfl rfl hc18) (JO.fieldPtr 2 rfl Try.runUnderlying112 rfl Try.sizeOf110 rfl rfl) rfl rfl (J.cons (GK.met 41 rfl rfl rfl hc18) (JO.load rfl rfl rfl Try.isAgg110 Try.sizeOf110) rfl rfl (J.cons (GK.met 41 rfl rfl rfl hc18) (JO.len rfl Try.runUnderlying110) rfl rfl (J.cons (GK.met 41 rfl rfl rfl hc18) (JO.fieldPtr 0 rfl Try.runUnderlying112 rfl Try.sizeOf3 rfl rfl) rfl rfl (J.cons (GK.met 41 rfl rfl rfl hc18) (JO.load rfl rfl rfl Try.isAgg3 Try.sizeOf3) rfl rfl (J.cons (GK.met 41 rfl rfl rfl hc18) (JO.cmp rfl rfl rfl) rfl rfl (J.cons (.none rfl) (JO.pF hc18 rfl rfl) rfl rfl (J.fin (Sw.Sub.mk id (.cons rfl (.of_eq rfl) (.cons rfl (.of_eq rfl) (.cons rfl (.of_eq rfl) .nil))) (.box rfl (.cons (.of_eq rfl) (.cons (.of_eq rfl) (.cons (.of_eq rfl) (.cons (.of_eq rfl) .nil)))) .nil) rfl)))))))))))))))))))))))))
          · replace hx := cond_f hc17 hx
            obtain rfl := Option.some.inj hx
            exact (J.cons (.none rfl) (JO.fieldPtr 1 rfl Try.runUnderlying112 rfl Try.sizeOf76 rfl rfl) rfl rfl (J.cons (.none rfl) (JO.load rfl rfl rfl Try.isAgg76 Try.sizeOf76) rfl rfl (J.cons (.none rfl) (JO.move rfl) rfl rfl (J.cons (.none rfl) (JO.call0 (con_ref_Rising hv15) Try.call120 (.cons (.dir rfl) (.cons (.dir rfl) .nil))) rfl rfl (J.cons (.none rfl) (JO.not rfl) rfl rfl (J.cons (.none rfl) (JO.move rfl) rfl rfl (J.cons (GK.met 31 rfl rfl rfl hc16) (JO.fieldPtr 3 rfl Try.runUnderlying112 rfl Try.sizeOf4 rfl rfl) rfl rfl (J.cons (GK.met 31 rfl rfl rfl hc16) (JO.load rfl rfl rfl Try.isAgg4 Try.sizeOf4) rfl rfl (J.cons (GK.met 31 rfl rfl rfl hc16) (JO.move rfl) rfl rfl (J.left (GK.unmet 34 rfl rfl rfl hc17) rfl (J.left (GK.unmet 34 rfl rfl rfl hc17) rfl (J.left (GK.unmet 34 rfl rfl rfl hc17) rfl (J.left (GK.unmet 34 rfl rfl rfl hc17) rfl (J.cons (GK.met 31 rfl rfl rfl hc16) (JO.pF hc17 rfl rfl) rfl rfl (J.cons (.none rfl) (JO.pF hc16 rfl rfl) rfl rfl (J.cons (.none rfl) (JO.move rfl) rfl rfl (J.cons (GK.met 41 rfl rfl rfl rfl) (JO.fieldPtr 2 rfl Try.runUnderlying112 rfl Try.sizeOf110 rfl rfl) rfl rfl (J.cons (GK.met 41 rfl rfl rfl rfl) (JO.load rfl rfl rfl Try.isAgg110 Try.sizeOf110) rfl rfl (J.cons (GK.met 41 rfl rfl rfl rfl) (JO.len rfl Try.runUnderlying110) rfl rfl (J.cons (GK.met 41 rfl rfl rfl rfl) (JO.fieldPtr 0 rfl Try.runUnderlying112 rfl Try.sizeOf3 rfl rfl) rfl rfl (J.cons (GK.met 41 rfl rfl rfl rfl) (JO.load rfl rfl rfl Try.isAgg3 Try.sizeOf3) rfl rfl (J.cons (GK.met 41 rfl rfl rfl rfl) (JO.cmp rfl rfl rfl) rfl rfl (J.cons (.none rfl) (JO.pF rfl rfl rfl) rfl rfl (J.fin (Sw.Sub.mk id (.cons rfl (.of_eq rfl) (.cons rfl (.of_eq rfl) (.cons rfl (.of_eq rfl) .nil))) (.box rfl (.cons (.of_eq rfl) (.cons (.of_eq rfl) (.cons (.of_eq rfl) (.cons (.of_eq rfl) .nil)))) .nil) rfl)))))))))))))))))))))))))
      rcases Bool.eq_false_or_eq_true x14 with hc19 | hc19
      · replace h := cond_t hc19 h
        refine W.condT rfl hc19 ?_
        refine W.seq ?_
        refine W.reg (σ' := ⟨[(4, .v (Enc.int .i64) (3 : Int))], []⟩) (J.cons (.none rfl) (JO.assign rfl) rfl rfl (J.fin (Sw.Sub.mk id (.cons rfl (.of_eq rfl) .nil) .nil rfl))) ?_
        refine W.ret ?_
        obtain rfl := Option.some.inj h
        exact XQ.sub (σ' := ⟨[(4, .v (Enc.int .i64) (3 : Int))], []⟩) (Sw.Sub.mk id (.cons rfl (.of_eq rfl) .nil) .nil rfl) (XQ.ret1 hF noR rfl (RV.tmp rfl) .nil rfl)
      · replace h := cond_f hc19 h
        refine W.condF rfl hc19 ?_
        refine W.skip ?_
        refine W.seq ?_
        refine W.seq ?_
        refine W.reg (σ' := ⟨[(1, .v (Enc.int .i64) a1), (2, .ptr 101 0), (5, .v (Enc.int .i64) (0 : Int))], [(101, .box 112 [.v (Enc.int .i64) a0.1, .v (Enc.sl (Enc.pr (Enc.int .i64) eBlk)) a0.2.1, .v (Enc.sl (Enc.pr (Enc.int .i64) (Enc.sl (Enc.pr (Enc.int .i64) eBlk)))) a0.2.2.1, .v Enc.bool a0.2.2.2])]⟩) (J.cons (.none rfl) (JO.assign rfl) rfl rfl (J.fin (Sw.Sub.mk id (.cons rfl (.of_eq rfl) (.cons rfl (.of_eq rfl) (.cons rfl (.of_eq rfl) .nil))) (.box rfl (.cons (.of_eq rfl) (.cons (.of_eq rfl) (.cons (.of_eq rfl) (.cons (.of_eq rfl) .nil)))) .nil) rfl))) ?_
        obtain ⟨o56, ho56, hb56, hr56⟩ := lp_elim h
        refine W.lp (σs := fun s44 : Int => ⟨[(1, .v (Enc.int .i64) a1), (2, .ptr 101 0), (5, .v (Enc.int .i64) s44)], [(101, .box 112 [.v (Enc.int .i64) a0.1, .v (Enc.sl (Enc.pr (Enc.int .i64) eBlk)) a0.2.1, .v (Enc.sl (Enc.pr (Enc.int .i64) (Enc.sl (Enc.pr (Enc.int .i64) eBlk)))) a0.2.2.1, .v Enc.bool a0.2.2.2])]⟩) (fun x57 : Unit => ⟨[], []⟩) ho56 (Sw.Sub.mk id (.cons rfl (.of_eq rfl) (.cons rfl (.of_eq rfl) (.cons rfl (.of_eq rfl) .nil))) (.box rfl (.cons (.of_eq rfl) (.cons (.of_eq rfl) (.cons (.of_eq rfl) (.cons (.of_eq rfl) .nil)))) .nil) rfl) ?_ ?_
        · intro x57 hy
          have h := hb56 _ hy
          refine W.seq ?_
          refine W.reg (σ' := ⟨[(4, .v (Enc.int .i64) (0 : Int))], []⟩) (J.cons (.none rfl) (JO.assign rfl) rfl rfl (J.fin (Sw.Sub.mk id (.cons rfl (.of_eq rfl) .nil) .nil rfl))) ?_
          refine W.ret ?_
          obtain rfl := Option.some.inj h
          exact XQ.sub (σ' := ⟨[(4, .v (Enc.int .i64) (0 : Int))], []⟩) (Sw.Sub.mk id (.cons rfl (.of_eq rfl) .nil) .nil rfl) (XQ.ret1 hF noR rfl (RV.tmp rfl) .nil rfl)
        intro s44 r56 h
        refine W.seq ?_
        refine W.seq ?_
        refine W.reg (σ' := ⟨[(1, .v (Enc.int .i64) a1), (2, .ptr 101 0), (5, .v (Enc.int .i64) s44), (53, .v Enc.bool (cm .lss s44 (a0.2.2.1.length : Int)))], [(101, .box 112 [.v (Enc.int .i64) a0.1, .v (Enc.sl (Enc.pr (Enc.int .i64) eBlk)) a0.2.1, .v (Enc.sl (Enc.pr (Enc.int .i64) (Enc.sl (Enc.pr (Enc.int .i64) eBlk)))) a0.2.2.1, .v Enc.bool a0.2.2.2])]⟩) (J.cons (.none rfl) (JO.move rfl) rfl rfl (J.cons (.none rfl) (JO.fieldPtr 2 rfl Try.runUnderlying112 rfl Try.sizeOf110 rfl rfl) rfl rfl (J.cons (.none rfl) (JO.load rfl rfl rfl Try.isAgg110 Try.sizeOf110) rfl rfl (J.cons (.none rfl) (JO.len rfl Try.runUnderlying110) rfl rfl (J.cons (.none rfl) (JO.cmp rfl rfl rfl) rfl rfl (J.fin (Sw.Sub.mk id (.cons rfl (.of_eq rfl) (.cons rfl (.of_eq rfl) (.cons rfl (.of_eq rfl) (.cons rfl (.of_eq rfl) .nil)))) (.box rfl (.cons (.of_eq rfl) (.cons (.of_eq rfl) (.cons (.of_eq rfl) (.cons (.of_eq rfl) .nil)))) .nil) rfl))))))) ?_
        rcases Bool.eq_false_or_eq_true (cm .lss s44 (a0.2.2.1.length : Int)) with hc58 | hc58
        · replace h := cond_t hc58 h
          refine W.condT rfl hc58 ?_
          refine W.skip ?_
          refine W.seq ?_
          refine W.block ?_
          refine W.seq ?_
          obtain ⟨x63, hx, h⟩ := bind_e h
          refine W.mg (σ' := ⟨[(1, .v (Enc.int .i64) a1), (2, .ptr 101 0), (5, .v (Enc.int .i64) s44), (82, .v Enc.bool x63)], [(101, .box 112 [.v (Enc.int .i64) a0.1, .v (Enc.sl (Enc.pr (Enc.int .i64) eBlk)) a0.2.1, .v (Enc.sl (Enc.pr (Enc.int .i64) (Enc.sl (Enc.pr (Enc.int .i64) eBlk)))) a0.2.2.1, .v Enc.bool a0.2.2.2])]⟩) ?_ ?_
          · intro hk
            obtain ⟨z64, hz64, hx⟩ := bind_e hx
            obtain ⟨v65, hv65, hx⟩ := bind_e hx
            rcases Bool.eq_false_or_eq_true (!v65) with hc66 | hc66
            · replace hx := cond_t hc66 hx
              obtain rfl := Option.some.inj hx
              exact W.dr2 (σ' := ⟨[(1, .v (Enc.int .i64) a1), (2, .ptr 101 0), (5, .v (Enc.int .i64) s44), (82, .v Enc.bool true)], [(101, .box 112 [.v (Enc.int .i64) a0.1, .v (Enc.sl (Enc.pr (Enc.int .i64) eBlk)) a0.2.1, .v (Enc.sl (Enc.pr (Enc.int .i64) (Enc.sl (Enc.pr (Enc.int .i64) eBlk)))) a0.2.2.1, .v Enc.bool a0.2.2.2])]⟩) 27 [0, 1, 0, 7, 15, 31, 0, 127, 255, 511, 1023, 2047, 1023, 8191, 16383, 32767, 1023, 66559, 1023, 263167, 787455, 1836031, 1023, 8127487, 16712703, 33554431, 67108863] mixed (by exact (.cons (.none rfl) (JO.fieldPtr 2 rfl Try.runUnderlying112 rfl Try.sizeOf110 rfl rfl) rfl rfl (.cons (.none rfl) (JO.load rfl rfl rfl Try.isAgg110 Try.sizeOf110) rfl rfl (.cons (.none rfl) (JO.move rfl) rfl rfl (.cons (.none rfl) (JO.idx hz64 rfl rfl Try.runUnderlying110 Try.sizeOf121) rfl rfl (.cons (.none rfl) (JO.fieldPst rfl Try.runUnderlying121 rfl Try.sizeOf76 rfl (.snd .here) rfl) rfl rfl (.cons (.none rfl) (JO.loadPst rfl Try.isAgg76 Try.sizeOf76) rfl rfl (.cons (.none rfl) (JO.move rfl) rfl rfl (.cons (.none rfl) (JO.call0 (con_ref_Rising hv65) Try.call120 (.cons (.dir rfl) (.cons (.dir rfl) .nil))) rfl rfl (.cons (.none rfl) (JO.not rfl) rfl rfl (.cons (.none rfl) (JO.move rfl) rfl rfl (.left (GK.unmet 65 rfl rfl rfl hc66) rfl (.left (GK.unmet 65 rfl rfl rfl hc66) rfl (.left (GK.unmet 65 rfl rfl rfl hc66) rfl (.left (GK.unmet 65 rfl rfl rfl hc66) rfl (.left (GK.unmet 65 rfl rfl rfl hc66) rfl (.left (GK.unmet 65 rfl rfl rfl hc66) rfl (.left (GK.unmet 65 rfl rfl rfl hc66) rfl (.left (GK.unmet 65 rfl rfl rfl hc66) rfl (.left (GK.unmet 65 rfl rfl rfl hc66) rfl (.left (GK.unmet 65 rfl rfl rfl hc66) rfl (.left (GK.unmet 65 rfl rfl rfl hc66) rfl (.left (GK.unmet 65 rfl rfl rfl hc66) rfl (.left (GK.unmet 65 rfl rfl rfl hc66) rfl (.left (GK.unmet 65 rfl rfl rfl hc66) rfl (.left (GK.unmet 65 rfl rfl rfl hc66) rfl (.left (GK.unmet 65 rfl rfl rfl hc66) rfl (.cons (.none rfl) (JO.pT hc66 rfl rfl) rfl rfl .nil)))))))))))))))))))))))))))) (by exact (J.fin (Sw.Sub.mk id (.cons rfl (.of_eq rfl) (.cons rfl (.of_eq rfl) (.cons rfl (.of_eq rfl) (.cons rfl (.of_eq rfl) .nil)))) (.box rfl (.cons (.of_eq rfl) (.cons (.of_eq rfl) (.cons (.of_eq rfl) (.cons (.of_eq rfl) .nil)))) .nil) rfl))) rfl (by decide +kernel) (by decide +kernel) (by decide +kernel) (by kernel_rfl) hk
            · replace hx := cond_f hc66 hx
              obtain ⟨z67, hz67, hx⟩ := bind_e hx
              obtain rfl := Option.some.inj hx
              exact W.dr2 (σ' := ⟨[(1, .v (Enc.int .i64) a1), (2, .ptr 101 0), (5, .v (Enc.int .i64) s44), (82, .v Enc.bool (cm .neq z67.1 (ar .sub .i64 a0.1 (ar .sub .i64 (ar .sub .i64 (a0.2.2.1.length : Int) (1 : Int)) s44))))], [(101, .box 112 [.v (Enc.int .i64) a0.1, .v (Enc.sl (Enc.pr (Enc.int .i64) eBlk)) a0.2.1, .v (Enc.sl (Enc.pr (Enc.int .i64) (Enc.sl (Enc.pr (Enc.int .i64) eBlk)))) a0.2.2.1, .v Enc.bool a0.2.2.2])]⟩) 27 [0, 1, 0, 7, 15, 31, 0, 127, 255, 511, 1023, 2047, 1023, 8191, 16383, 32767, 1023, 66559, 1023, 263167, 787455, 1836031, 1023, 8127487, 16712703, 33554431, 67108863] mixed (by exact (.cons (.none rfl) (JO.fieldPtr 2 rfl Try.runUnderlying112 rfl Try.sizeOf110 rfl rfl) rfl rfl (.cons (.none rfl) (JO.load rfl rfl rfl Try.isAgg110 Try.sizeOf110) rfl rfl (.cons (.none rfl) (JO.move rfl) rfl rfl (.cons (.none rfl) (JO.idx hz64 rfl rfl Try.runUnderlying110 Try.sizeOf121) rfl rfl (.cons (.none rfl) (JO.fieldPst rfl Try.runUnderlying121 rfl Try.sizeOf76 rfl (.snd .here) rfl) rfl rfl (.cons (.none rfl) (JO.loadPst rfl Try.isAgg76 Try.sizeOf76) rfl rfl (.cons (.none rfl) (JO.move rfl) rfl rfl (.cons (.none rfl) (JO.call0 (con_ref_Rising hv65) Try.call120 (.cons (.dir rfl) (.cons (.dir rfl) .nil))) rfl rfl (.cons (.none rfl) (JO.not rfl) rfl rfl (.cons (.none rfl) (JO.move rfl) rfl rfl (.cons (GK.met 65 rfl rfl rfl hc66) (JO.fieldPtr 2 rfl Try.runUnderlying112 rfl Try.sizeOf110 rfl rfl) rfl rfl (.cons (GK.met 65 rfl rfl rfl hc66) (JO.load rfl rfl rfl Try.isAgg110 Try.sizeOf110) rfl rfl (.cons (GK.met 65 rfl rfl rfl hc66) (JO.move rfl) rfl rfl (.cons (GK.met 65 rfl rfl rfl hc66) (JO.idx hz67 rfl rfl Try.runUnderlying110 Try.sizeOf121) rfl rfl (.cons (GK.met 65 rfl rfl rfl hc66) (JO.fieldPst rfl Try.runUnderlying121 rfl Try.sizeOf3 rfl (.fst .here) rfl) rfl rfl (.cons (GK.met 65 rfl rfl rfl hc66) (JO.loadPst rfl Try.isAgg3 Try.sizeOf3) rfl rfl (.cons (GK.met 65 rfl rfl rfl hc66) (JO.fieldPtr 0 rfl Try.runUnderlying112 rfl Try.sizeOf3 rfl rfl) rfl rfl (.cons (GK.met 65 rfl rfl rfl hc66) (JO.load rfl rfl rfl Try.isAgg3 Try.sizeOf3) rfl rfl (.cons (GK.met 65 rfl rfl rfl hc66) (JO.fieldPtr 2 rfl Try.runUnderlying112 rfl Try.sizeOf110 rfl rfl) rfl rfl (.cons (GK.met 65 rfl rfl rfl hc66) (JO.load rfl rfl rfl Try.isAgg110 Try.sizeOf110) rfl rfl (.cons (GK.met 65 rfl rfl rfl hc66) (JO.len rfl Try.runUnderlying110) rfl rfl (.cons (GK.met 65 rfl rfl rfl hc66) (JO.arith rfl rfl rfl) rfl rfl (.cons (GK.met 65 rfl rfl rfl hc66) (JO.move rfl) rfl rfl (.cons (GK.met 65 rfl rfl rfl hc66) (JO.arith rfl rfl rfl) rfl rfl (.cons (GK.met 65 rfl rfl rfl hc66) (JO.arith rfl rfl rfl) rfl rfl (.cons (GK.met 65 rfl rfl rfl hc66) (JO.cmp rfl rfl rfl) rfl rfl (.cons (.none rfl) (JO.pF hc66 rfl rfl) rfl rfl .nil)))))))))))))))))))))))))))) (by exact (J.fin (Sw.Sub.mk id (.cons rfl (.of_eq rfl) (.cons rfl (.of_eq rfl) (.cons rfl (.of_eq rfl) (.cons rfl (.of_eq rfl) .nil)))) (.box rfl (.cons (.of_eq rfl) (.cons (.of_eq rfl) (.cons (.of_eq rfl) (.cons (.of_eq rfl) .nil)))) .nil) rfl))) rfl (by decide +kernel) (by decide +kernel) (by decide +kernel) (by kernel_rfl) hk
          rcases Bool.eq_false_or_eq_true x63 with hc68 | hc68
          · replace h := cond_t hc68 h
            refine W.condT rfl hc68 ?_
            refine W.seq ?_
            refine W.reg (σ' := ⟨[(4, .v (Enc.int .i64) (3 : Int))], []⟩) (J.cons (.none rfl) (JO.assign rfl) rfl rfl (J.fin (Sw.Sub.mk id (.cons rfl (.of_eq rfl) .nil) .nil rfl))) ?_
            refine W.ret ?_
            refine XQ.ret ?_
            obtain rfl := Option.some.inj h
            refine XQ.lret fun ho => ?_
            obtain rfl := hr56 _ ho
            exact XQ.sub (σ' := ⟨[(4, .v (Enc.int .i64) (3 : Int))], []⟩) (Sw.Sub.mk id (.cons rfl (.of_eq rfl) .nil) .nil rfl) (XQ.ret1 hF noR rfl (RV.tmp rfl) .nil rfl)
          · replace h := cond_f hc68 h
            refine W.condF rfl hc68 ?_
            refine W.skip ?_
            refine W.fall ?_
            refine W.reg (σ' := ⟨[(1, .v (Enc.int .i64) a1), (2, .ptr 101 0), (5, .v (Enc.int .i64) (ar .add .i64 s44 (1 : Int)))], [(101, .box 112 [.v (Enc.int .i64) a0.1, .v (Enc.sl (Enc.pr (Enc.int .i64) eBlk)) a0.2.1, .v (Enc.sl (Enc.pr (Enc.int .i64) (Enc.sl (Enc.pr (Enc.int .i64) eBlk)))) a0.2.2.1, .v Enc.bool a0.2.2.2])]⟩) (J.cons (.none rfl) (JO.move rfl) rfl rfl (J.cons (.none rfl) (JO.arith rfl rfl rfl) rfl rfl (J.cons (.none rfl) (JO.assign rfl) rfl rfl (J.fin (Sw.Sub.mk id (.cons rfl (.of_eq rfl) (.cons rfl (.of_eq rfl) (.cons rfl (.of_eq rfl) .nil))) (.box rfl (.cons (.of_eq rfl) (.cons (.of_eq rfl) (.cons (.of_eq rfl) (.cons (.of_eq rfl) .nil)))) .nil) rfl))))) ?_
            obtain rfl := Option.some.inj h
            exact W.next (Sw.Sub.mk id (.cons rfl (.of_eq rfl) (.cons rfl (.of_eq rfl) (.cons rfl (.of_eq rfl) .nil))) (.box rfl (.cons (.of_eq rfl) (.cons (.of_eq rfl) (.cons (.of_eq rfl) (.cons (.of_eq rfl) .nil)))) .nil) rfl)
        · replace h := cond_f hc58 h
          refine W.condF rfl hc58 ?_
          refine W.exit ?_
          obtain rfl := Option.some.inj h
          exact XQ.brk (Sw.Sub.mk id .nil .nil rfl)
set_option maxRecDepth 100000 in
set_option maxHeartbeats 4000000 in
theorem con_epoch_rising {a0 : (List (Int × Blk))} {a1 : Int} {r : Bool} (h : m_epoch_rising a0 a1 = some r) :
    Con Try.prog 121 [.v (Enc.sl (Enc.pr (Enc.int .i64) eBlk)) a0, .v (Enc.int .i64) a1] (.v Enc.bool r) [] := by
  refine Con.of Try.func121 rfl Try.ntmps121 rfl ?_
  intro S w hF
  unfold m_epoch_rising at h
  refine W.seq ?_
  refine W.reg (σ' := ⟨[(0, .v (Enc.sl (Enc.pr (Enc.int .i64) eBlk)) a0), (1, .v (Enc.int .i64) a1)], []⟩) (J.cons (.none rfl) (JO.assign rfl) rfl rfl (J.fin (Sw.Sub.mk id (.cons rfl (.of_eq rfl) (.cons rfl (.of_eq rfl) .nil)) .nil rfl))) ?_
  refine W.seq ?_
  refine W.reg (σ' := ⟨[(0, .v (Enc.sl (Enc.pr (Enc.int .i64) eBlk)) a0), (1, .v (Enc.int .i64) a1), (5, .v (Enc.int .i64) (-1 : Int))], []⟩) (J.cons (.none rfl) (JO.assign rfl) rfl rfl (J.fin (Sw.Sub.mk id (.cons rfl (.of_eq rfl) (.cons rfl (.of_eq rfl) (.cons rfl (.of_eq rfl) .nil))) .nil rfl))) ?_
  refine W.seq ?_
  refine W.seq ?_
  refine W.reg (σ' := ⟨[(1, .v (Enc.int .i64) a1), (5, .v (Enc.int .i64) (-1 : Int)), (8, .v (Enc.sl (Enc.pr (Enc.int .i64) eBlk)) a0), (9, .v (Enc.int .i64) (a0.length : Int)), (10, .v (Enc.int .i64) (0 : Int))], []⟩) (J.cons (.none rfl) (JO.move rfl) rfl rfl (J.cons (.none rfl) (JO.len rfl Try.runUnderlying76) rfl rfl (J.cons (.none rfl) (JO.move rfl) rfl rfl (J.fin (Sw.Sub.mk id (.cons rfl (.of_eq rfl) (.cons rfl (.of_eq rfl) (.cons rfl (.of_eq rfl) (.cons rfl (.of_eq rfl) (.cons rfl (.of_eq rfl) .nil))))) .nil rfl))))) ?_
  obtain ⟨o22, ho22, hb22, hr22⟩ := lp_elim h
  refine W.lp (σs := fun s15 : Int × Int => ⟨[(1, .v (Enc.int .i64) a1), (5, .v (Enc.int .i64) s15.1), (8, .v (Enc.sl (Enc.pr (Enc.int .i64) eBlk)) a0), (9, .v (Enc.int .i64) (a0.length : Int)), (10, .v (Enc.int .i64) s15.2)], []⟩) (fun x23 : Unit => ⟨[], []⟩) ho22 (Sw.Sub.mk id (.cons rfl (.of_eq rfl) (.cons rfl (.of_eq rfl) (.cons rfl (.of_eq rfl) (.cons rfl (.of_eq rfl) (.cons rfl (.of_eq rfl) .nil))))) .nil rfl) ?_ ?_
  · intro x23 hy
    have h := hb22 _ hy
    refine W.seq ?_
    refine W.reg (σ' := ⟨[(4, .v Enc.bool true)], []⟩) (J.cons (.none rfl) (JO.assign rfl) rfl rfl (J.fin (Sw.Sub.mk id (.cons rfl (.of_eq rfl) .nil) .nil rfl))) ?_
    refine W.ret ?_
    obtain rfl := Option.some.inj h
    exact XQ.sub (σ' := ⟨[(4, .v Enc.bool true)], []⟩) (Sw.Sub.mk id (.cons rfl (.of_eq rfl) .nil) .nil rfl) (XQ.ret1 hF noR rfl (RV.tmp rfl) .nil rfl)
  intro s15 r22 h
  refine W.seq ?_
  refine W.reg (σ' := ⟨[(1, .v (Enc.int .i64) a1), (5, .v (Enc.int .i64) s15.1), (8, .v (Enc.sl (Enc.pr (Enc.int .i64) eBlk)) a0), (9, .v (Enc.int .i64) (a0.length : Int)), (10, .v (Enc.int .i64) s15.2), (11, .v Enc.bool (cm .lss s15.2 (a0.length : Int)))], []⟩) (J.cons (.none rfl) (JO.cmp rfl rfl rfl) rfl rfl (J.fin (Sw.Sub.mk id (.cons rfl (.of_eq rfl) (.cons rfl (.of_eq rfl) (.cons rfl (.of_eq rfl) (.cons rfl (.of_eq rfl) (.cons rfl (.of_eq rfl) (.cons rfl (.of_eq rfl) .nil)))))) .nil rfl))) ?_
  refine W.seq ?_
  rcases Bool.eq_false_or_eq_true (cm .lss s15.2 (a0.length : Int)) with hc24 | hc24
  · replace h := cond_t hc24 h
    refine W.condT rfl hc24 ?_
    refine W.skip ?_
    refine W.seq ?_
    refine W.block ?_
    refine W.seq ?_
    obtain ⟨z25, hz25, h⟩ := bind_e h
    refine W.reg (σ' := ⟨[(1, .v (Enc.int .i64) a1), (5, .v (Enc.int .i64) s15.1), (7, .ptr 104 0), (8, .v (Enc.sl (Enc.pr (Enc.int .i64) eBlk)) a0), (9, .v (Enc.int .i64) (a0.length : Int)), (10, .v (Enc.int .i64) s15.2)], [(104, .box 85 [.v (Enc.int .i64) z25.1, .v eBlk z25.2])]⟩) (J.cons (.none rfl) (JO.idx hz25 rfl rfl Try.runUnderlying76 Try.sizeOf85) rfl rfl (J.cons (.none rfl) (JO.loadPst rfl Try.isAgg85 Try.sizeOf85) rfl rfl (J.cons (.none rfl) (JO.alloc 104 Try.zeroValue85 rfl (.cons (Z.int .i64) (.cons (Z.arr 8 (Z.int .u8)) .nil)) rfl) rfl rfl (J.mut (.none rfl) (JM.storeAll rfl rfl rfl rfl (.prm (.one _ _) (.one _ _)) Try.sizeOf85) (J.fin (Sw.Sub.mk id (.cons rfl (.of_eq rfl) (.cons rfl (.of_eq rfl) (.cons rfl (.of_eq rfl) (.cons rfl (.of_eq rfl) (.cons rfl (.of_eq rfl) (.cons rfl (.of_eq rfl) .nil)))))) (.box rfl (.cons (.of_eq rfl) (.cons (.of_eq rfl) .nil)) .nil) rfl)))))) ?_
    refine W.seq ?_
    refine W.seq ?_
    obtain ⟨x27, hx, h⟩ := bind_e h
    refine W.reg (σ' := ⟨[(1, .v (Enc.int .i64) a1), (7, .ptr 104 0), (8, .v (Enc.sl (Enc.pr (Enc.int .i64) eBlk)) a0), (9, .v (Enc.int .i64) (a0.length : Int)), (10, .v (Enc.int .i64) s15.2), (23, .v Enc.bool x27)], [(104, .box 85 [.v (Enc.int .i64) z25.1, .v eBlk z25.2])]⟩) ?_ ?_
    · rcases Bool.eq_false_or_eq_true (cm .leq z25.1 s15.1) with hc28 | hc28
      · replace hx := cond_t hc28 hx
        obtain rfl := Option.some.inj hx
        exact (J.cons (.none rfl) (JO.fieldPtr 0 rfl Try.runUnderlying85 rfl Try.sizeOf3 rfl rfl) rfl rfl (J.cons (.none rfl) (JO.load rfl rfl rfl Try.isAgg3 Try.sizeOf3) rfl rfl (J.cons (.none rfl) (JO.move rfl) rfl rfl (J.cons (.none rfl) (JO.cmp rfl rfl rfl) rfl rfl (J.cons (.none rfl) (JO.move rfl) rfl rfl (J.left (GK.unmet 18 rfl rfl rfl hc28) rfl (J.left (GK.unmet 18 rfl rfl rfl hc28) rfl (J.left (GK.unmet 18 rfl rfl rfl hc28) rfl (J.left (GK.unmet 18 rfl rfl rfl hc28) rfl (J.cons (.none rfl) (JO.pT hc28 rfl rfl) rfl rfl (J.fin (Sw.Sub.mk id (.cons rfl (.of_eq rfl) (.cons rfl (.of_eq rfl) (.cons rfl (.of_eq rfl) (.cons rfl (.of_eq rfl) (.cons rfl (.of_eq rfl) (.cons rfl (.of_eq rfl) .nil)))))) (.box rfl (.cons (.of_eq rfl) (.cons (.of_eq rfl) .nil)) .nil) rfl))))))))))))
      · replace hx := cond_f hc28 hx
        obtain rfl := Option.some.inj hx
        exact (J.cons (.none rfl) (JO.fieldPtr 0 rfl Try.runUnderlying85 rfl Try.sizeOf3 rfl rfl) rfl rfl (J.cons (.none rfl) (JO.load rfl rfl rfl Try.isAgg3 Try.sizeOf3) rfl rfl (J.cons (.none rfl) (JO.move rfl) rfl rfl (J.cons (.none rfl) (JO.cmp rfl rfl rfl) rfl rfl (J.cons (.none rfl) (JO.move rfl) rfl rfl (J.cons (GK.met 18 rfl rfl rfl hc28) (JO.fieldPtr 0 rfl Try.runUnderlying85 rfl Try.sizeOf3 rfl rfl) rfl rfl (J.cons (GK.met 18 rfl rfl rfl hc28) (JO.load rfl rfl rfl Try.isAgg3 Try.sizeOf3) rfl rfl (J.cons (GK.met 18 rfl rfl rfl hc28) (JO.move rfl) rfl rfl (J.cons (GK.met 18 rfl rfl rfl hc28) (JO.cmp rfl rfl rfl) rfl rfl (J.cons (.none rfl) (JO.pF hc28 rfl rfl) rfl rfl (J.fin (Sw.Sub.mk id (.cons rfl (.of_eq rfl) (.cons rfl (.of_eq rfl) (.cons rfl (.of_eq rfl) (.cons rfl (.of_eq rfl) (.cons rfl (.of_eq rfl) (.cons rfl (.of_eq rfl) .nil)))))) (.box rfl (.cons (.of_eq rfl) (.cons (.of_eq rfl) .nil)) .nil) rfl))))))))))))
    rcases Bool.eq_false_or_eq_true x27 with hc29 | hc29
    · replace h := cond_t hc29 h
      refine W.condT rfl hc29 ?_
      refine W.seq ?_
      refine W.reg (σ' := ⟨[(4, .v Enc.bool false)], []⟩) (J.cons (.none rfl) (JO.assign rfl) rfl rfl (J.fin (Sw.Sub.mk id (.cons rfl (.of_eq rfl) .nil) .nil rfl))) ?_
      refine W.ret ?_
      refine XQ.ret ?_
      obtain rfl := Option.some.inj h
      refine XQ.lret fun ho => ?_
      obtain rfl := hr22 _ ho
      exact XQ.sub (σ' := ⟨[(4, .v Enc.bool false)], []⟩) (Sw.Sub.mk id (.cons rfl (.of_eq rfl) .nil) .nil rfl) (XQ.ret1 hF noR rfl (RV.tmp rfl) .nil rfl)
    · replace h := cond_f hc29 h
      refine W.condF rfl hc29 ?_
      refine W.skip ?_
      refine W.reg (σ' := ⟨[(1, .v (Enc.int .i64) a1), (5, .v (Enc.int .i64) z25.1), (8, .v (Enc.sl (Enc.pr (Enc.int .i64) eBlk)) a0), (9, .v (Enc.int .i64) (a0.length : Int)), (10, .v (Enc.int .i64) s15.2)], []⟩) (J.cons (.none rfl) (JO.fieldPtr 0 rfl Try.runUnderlying85 rfl Try.sizeOf3 rfl rfl) rfl rfl (J.cons (.none rfl) (JO.load rfl rfl rfl Try.isAgg3 Try.sizeOf3) rfl rfl (J.cons (.none rfl) (JO.assign rfl) rfl rfl (J.fin (Sw.Sub.mk id (.cons rfl (.of_eq rfl) (.cons rfl (.of_eq rfl) (.cons rfl (.of_eq rfl) (.cons rfl (.of_eq rfl) (.cons rfl (.of_eq rfl) .nil))))) .nil rfl))))) ?_
      refine W.fall ?_
      refine W.reg (σ' := ⟨[(1, .v (Enc.int .i64) a1), (5, .v (Enc.int .i64) z25.1), (8, .v (Enc.sl (Enc.pr (Enc.int .i64) eBlk)) a0), (9, .v (Enc.int .i64) (a0.length : Int)), (10, .v (Enc.int .i64) (ar .add .i64 s15.2 (1 : Int)))], []⟩) (J.cons (.none rfl) (JO.arith rfl rfl rfl) rfl rfl (J.cons (.none rfl) (JO.move rfl) rfl rfl (J.fin (Sw.Sub.mk id (.cons rfl (.of_eq rfl) (.cons rfl (.of_eq rfl) (.cons rfl (.of_eq rfl) (.cons rfl (.of_eq rfl) (.cons rfl (.of_eq rfl) .nil))))) .nil rfl)))) ?_
      obtain rfl := Option.some.inj h
      exact W.next (Sw.Sub.mk id (.cons rfl (.of_eq rfl) (.cons rfl (.of_eq rfl) (.cons rfl (.of_eq rfl) (.cons rfl (.of_eq rfl) (.cons rfl (.of_eq rfl) .nil))))) .nil rfl)
  · replace h := cond_f hc24 h
    refine W.condF rfl hc24 ?_
    refine W.exit ?_
    obtain rfl := Option.some.inj h
    exact XQ.brk (Sw.Sub.mk id .nil .nil rfl)
set_option maxRecDepth 100000 in
set_option maxHeartbeats 4000000 in
theorem con_epoch_Check {a0 : (Int × (List (Int × Blk)) × (List (Int × (List (Int × Blk)))) × Bool)} {a1 : Int} {r : (Option Int)} (h : m_epoch_Check a0 a1 = some r) :
    Con Try.prog 58 [.v (Enc.pr (Enc.int .i64) (Enc.pr (Enc.sl (Enc.pr (Enc.int .i64) eBlk)) (Enc.pr (Enc.sl (Enc.pr (Enc.int .i64) (Enc.sl (Enc.pr (Enc.int .i64) eBlk)))) Enc.bool))) a0, .v (Enc.int .i64) a1] (.v (Enc.err ET) r) [] := by
  refine Con.of Try.func58 rfl Try.ntmps58 rfl ?_
  intro S w hF
  unfold m_epoch_Check at h
  refine W.seq ?_
  refine W.reg (σ' := ⟨[(1, .v (Enc.int .i64) a1), (2, .ptr 101 0)], [(101, .box 112 [.v (Enc.int .i64) a0.1, .v (Enc.sl (Enc.pr (Enc.int .i64) eBlk)) a0.2.1, .v (Enc.sl (Enc.pr (Enc.int .i64) (Enc.sl (Enc.pr (Enc.int .i64) eBlk)))) a0.2.2.1, .v Enc.bool a0.2.2.2])]⟩) (J.cons (.none rfl) (JO.box 101 rfl (.prm (.one _ _) (.prm (.one _ _) (.prm (.one _ _) (.one _ _)))) rfl) rfl rfl (J.cons (.none rfl) (JO.assignNilE ET) rfl rfl (J.fin (Sw.Sub.mk id (.cons rfl (.of_eq rfl) (.cons rfl (.of_eq rfl) .nil)) (.box rfl (.cons (.of_eq rfl) (.cons (.of_eq rfl) (.cons (.of_eq rfl) (.cons (.of_eq rfl) .nil)))) .nil) rfl)))) ?_
  refine W.seq ?_
  refine W.seq ?_
  obtain ⟨x4, hx, h⟩ := bind_e h
  refine W.reg (σ' := ⟨[(1, .v (Enc.int .i64) a1), (2, .ptr 101 0), (22, .v Enc.bool x4)], [(101, .box 112 [.v (Enc.int .i64) a0.1, .v (Enc.sl (Enc.pr (Enc.int .i64) eBlk)) a0.2.1, .v (Enc.sl (Enc.pr (Enc.int .i64) (Enc.sl (Enc.pr (Enc.int .i64) eBlk)))) a0.2.2.1, .v Enc.bool a0.2.2.2])]⟩) ?_ ?_
  · rcases Bool.eq_false_or_eq_true (cm .lss a1 (1 : Int)) with hc5 | hc5
    · replace hx := cond_t hc5 hx
      obtain rfl := Option.some.inj hx
      exact (J.cons (.none rfl) (JO.move rfl) rfl rfl (J.cons (.none rfl) (JO.cmp rfl rfl rfl) rfl rfl (J.cons (.none rfl) (JO.move rfl) rfl rfl (J.left (GK.unmet 9 rfl rfl rfl hc5) rfl (J.left (GK.unmet 9 rfl rfl rfl hc5) rfl (J.cons (.none rfl) (JO.pT hc5 rfl rfl) rfl rfl (J.cons (.none rfl) (JO.move rfl) rfl rfl (J.left (GK.unmet 13 rfl rfl rfl rfl) rfl (J.left (GK.unmet 13 rfl rfl rfl rfl) rfl (J.left (GK.unmet 13 rfl rfl rfl rfl) rfl (J.cons (.none rfl) (JO.pT rfl rfl rfl) rfl rfl (J.cons (.none rfl) (JO.move rfl) rfl rfl (J.left (GK.unmet 18 rfl rfl rfl rfl) rfl (J.left (GK.unmet 18 rfl rfl rfl rfl) rfl (J.left (GK.unmet 18 rfl rfl rfl rfl) rfl (J.cons (.none rfl) (JO.pT rfl rfl rfl) rfl rfl (J.fin (Sw.Sub.mk id (.cons rfl (.of_eq rfl) (.cons rfl (.of_eq rfl) (.cons rfl (.of_eq rfl) .nil))) (.box rfl (.cons (.of_eq rfl) (.cons (.of_eq rfl) (.cons (.of_eq rfl) (.cons (.of_eq rfl) .nil)))) .nil) rfl))))))))))))))))))
    · replace hx := cond_f hc5 hx
      rcases Bool.eq_false_or_eq_true (cm .gtr a1 (32 : Int)) with hc6 | hc6
      · replace hx := cond_t hc6 hx
        obtain rfl := Option.some.inj hx
        exact (J.cons (.none rfl) (JO.move rfl) rfl rfl (J.cons (.none rfl) (JO.cmp rfl rfl rfl) rfl rfl (J.cons (.none rfl) (JO.move rfl) rfl rfl (J.cons (GK.met 9 rfl rfl rfl hc5) (JO.move rfl) rfl rfl (J.cons (GK.met 9 rfl rfl rfl hc5) (JO.cmp rfl rfl rfl) rfl rfl (J.cons (.none rfl) (JO.pF hc5 rfl rfl) rfl rfl (J.cons (.none rfl) (JO.move rfl) rfl rfl (J.left (GK.unmet 13 rfl rfl rfl hc6) rfl (J.left (GK.unmet 13 rfl rfl rfl hc6) rfl (J.left (GK.unmet 13 rfl rfl rfl hc6) rfl (J.cons (.none rfl) (JO.pT hc6 rfl rfl) rfl rfl (J.cons (.none rfl) (JO.move rfl) rfl rfl (J.left (GK.unmet 18 rfl rfl rfl rfl) rfl (J.left (GK.unmet 18 rfl rfl rfl rfl) rfl (J.left (GK.unmet 18 rfl rfl rfl rfl) rfl (J.cons (.none rfl) (JO.pT rfl rfl rfl) rfl rfl (J.fin (Sw.Sub.mk id (.cons rfl (.of_eq rfl) (.cons rfl (.of_eq rfl) (.cons rfl (.of_eq rfl) .nil))) (.box rfl (.cons (.of_eq rfl) (.cons (.of_eq rfl) (.cons (.of_eq rfl) (.cons (.of_eq rfl) .nil)))) .nil) rfl))))))))))))))))))
      · replace hx := cond_f hc6 hx
        rcases Bool.eq_false_or_eq_true (cm .lss a0.1 (0 : Int)) with hc7 | hc7
        · replace hx := cond_t hc7 hx
          obtain rfl := Option.some.inj hx
          exact (J.cons (.none rfl) (JO.move rfl) rfl rfl (J.cons (.none rfl) (JO.cmp rfl rfl rfl) rfl rfl (J.cons (.none rfl) (JO.move rfl) rfl rfl (J.cons (GK.met 9 rfl rfl rfl hc5) (JO.move rfl) rfl rfl (J.cons (GK.met 9 rfl rfl rfl hc5) (JO.cmp rfl rfl rfl) rfl rfl (J.cons (.none rfl) (JO.pF hc5 rfl rfl) rfl rfl (J.cons (.none rfl) (JO.move rfl) rfl rfl (J.cons (GK.met 13 rfl rfl rfl hc6) (JO.fieldPtr 0 rfl Try.runUnderlying112 rfl Try.sizeOf3 rfl rfl) rfl rfl (J.cons (GK.met 13 rfl rfl rfl hc6) (JO.load rfl rfl rfl Try.isAgg3 Try.sizeOf3) rfl rfl (J.cons (GK.met 13 rfl rfl rfl hc6) (JO.cmp rfl rfl rfl) rfl rfl (J.cons (.none rfl) (JO.pF hc6 rfl rfl) rfl rfl (J.cons (.none rfl) (JO.move rfl) rfl rfl (J.left (GK.unmet 18 rfl rfl rfl hc7) rfl (J.left (GK.unmet 18 rfl rfl rfl hc7) rfl (J.left (GK.unmet 18 rfl rfl rfl hc7) rfl (J.cons (.none rfl) (JO.pT hc7 rfl rfl) rfl rfl (J.fin (Sw.Sub.mk id (.cons rfl (.of_eq rfl) (.cons rfl (.of_eq rfl) (.cons rfl (.of_eq rfl) .nil))) (.box rfl (.cons (.of_eq rfl) (.cons (.of_eq rfl) (.cons (.of_eq rfl) (.cons (.of_eq rfl) .nil)))) .nil) rfl))))))))))))))))))
        · replace hx := cond_f hc7 hx
          obtain rfl := Option.some.inj hx
          exact (J.cons (.none rfl) (JO.move rfl) rfl rfl (J.cons (.none rfl) (JO.cmp rfl rfl rfl) rfl rfl (J.cons (.none rfl) (JO.move rfl) rfl rfl (J.cons (GK.met 9 rfl rfl rfl hc5) (JO.move rfl) rfl rfl (J.cons (GK.met 9 rfl rfl rfl hc5) (JO.cmp rfl rfl rfl) rfl rfl (J.cons (.none rfl) (JO.pF hc5 rfl rfl) rfl rfl (J.cons (.none rfl) (JO.move rfl) rfl rfl (J.cons (GK.met 13 rfl rfl rfl hc6) (JO.fieldPtr 0 rfl Try.runUnderlying112 rfl Try.sizeOf3 rfl rfl) rfl rfl (J.cons (GK.met 13 rfl rfl rfl hc6) (JO.load rfl rfl rfl Try.isAgg3 Try.sizeOf3) rfl rfl (J.cons (GK.met 13 rfl rfl rfl hc6) (JO.cmp rfl rfl rfl) rfl rfl (J.cons (.none rfl) (JO.pF hc6 rfl rfl) rfl rfl (J.cons (.none rfl) (JO.move rfl) rfl rfl (J.cons (GK.met 18 rfl rfl rfl hc7) (JO.fieldPtr 0 rfl Try.runUnderlying112 rfl Try.sizeOf3 rfl rfl) rfl rfl (J.cons (GK.met 18 rfl rfl rfl hc7) (JO.load rfl rfl rfl Try.isAgg3 Try.sizeOf3) rfl rfl (J.cons (GK.met 18 rfl rfl rfl hc7) (JO.cmp rfl rfl rfl) rfl rfl (J.cons (.none rfl) (JO.pF hc7 rfl rfl) rfl rfl (J.fin (Sw.Sub.mk id (.cons rfl (.of_eq rfl) (.cons rfl (.of_eq rfl) (.cons rfl (.of_eq rfl) .nil))) (.box rfl (.cons (.of_eq rfl) (.cons (.of_eq rfl) (.cons (.of_eq rfl) (.cons (.of_eq rfl) .nil)))) .nil) rfl))))))))))))))))))
  rcases Bool.eq_false_or_eq_true x4 with hc8 | hc8
  · replace h := cond_t hc8 h
    refine W.condT rfl hc8 ?_
    refine W.seq ?_
    refine W.reg (σ' := ⟨[(4, .v (Enc.err ET) (some (1 : Int)))], []⟩) (J.cons (.none rfl) (JO.mkErr Try.runUnderlying29 rfl) rfl rfl (J.cons (.none rfl) (JO.assign rfl) rfl rfl (J.fin (Sw.Sub.mk id (.cons rfl (.of_eq rfl) .nil) .nil rfl)))) ?_
    refine W.ret ?_
    obtain rfl := Option.some.inj h
    exact XQ.sub (σ' := ⟨[(4, .v (Enc.err ET) (some (1 : Int)))], []⟩) (Sw.Sub.mk id (.cons rfl (.of_eq rfl) .nil) .nil rfl) (XQ.ret1 hF noR rfl (RV.tmp rfl) .nil rfl)
  · replace h := cond_f hc8 h
    refine W.condF rfl hc8 ?_
    refine W.skip ?_
    refine W.seq ?_
    refine W.seq ?_
    refine W.reg (σ' := ⟨[(1, .v (Enc.int .i64) a1), (2, .ptr 101 0), (27, .v Enc.bool (cm .gtr (a0.2.2.1.length : Int) (4 : Int)))], [(101, .box 112 [.v (Enc.int .i64) a0.1, .v (Enc.sl (Enc.pr (Enc.int .i64) eBlk)) a0.2.1, .v (Enc.sl (Enc.pr (Enc.int .i64) (Enc.sl (Enc.pr (Enc.int .i64) eBlk)))) a0.2.2.1, .v Enc.bool a0.2.2.2])]⟩) (J.cons (.none rfl) (JO.fieldPtr 2 rfl Try.runUnderlying112 rfl Try.sizeOf110 rfl rfl) rfl rfl (J.cons (.none rfl) (JO.load rfl rfl rfl Try.isAgg110 Try.sizeOf110) rfl rfl (J.cons (.none rfl) (JO.len rfl Try.runUnderlying110) rfl rfl (J.cons (.none rfl) (JO.cmp rfl rfl rfl) rfl rfl (J.fin (Sw.Sub.mk id (.cons rfl (.of_eq rfl) (.cons rfl (.of_eq rfl) (.cons rfl (.of_eq rfl) .nil))) (.box rfl (.cons (.of_eq rfl) (.cons (.of_eq rfl) (.cons (.of_eq rfl) (.cons (.of_eq rfl) .nil)))) .nil) rfl)))))) ?_
    rcases Bool.eq_false_or_eq_true (cm .gtr (a0.2.2.1.length : Int) (4 : Int)) with hc9 | hc9
    · replace h := cond_t hc9 h
      refine W.condT rfl hc9 ?_
      refine W.seq ?_
      refine W.reg (σ' := ⟨[(4, .v (Enc.err ET) (some (2 : Int)))], []⟩) (J.cons (.none rfl) (JO.mkErr Try.runUnderlying29 rfl) rfl rfl (J.cons (.none rfl) (JO.assign rfl) rfl rfl (J.fin (Sw.Sub.mk id (.cons rfl (.of_eq rfl) .nil) .nil rfl)))) ?_
      refine W.ret ?_
      obtain rfl := Option.some.inj h
      exact XQ.sub (σ' := ⟨[(4, .v (Enc.err ET) (some (2 : Int)))], []⟩) (Sw.Sub.mk id (.cons rfl (.of_eq rfl) .nil) .nil rfl) (XQ.ret1 hF noR rfl (RV.tmp rfl) .nil rfl)
    · replace h := cond_f hc9 h
      refine W.condF rfl hc9 ?_
      refine W.skip ?_
      refine W.seq ?_
      refine W.seq ?_
      obtain ⟨x13, hx, h⟩ := bind_e h
      refine W.reg (σ' := ⟨[(1, .v (Enc.int .i64) a1), (2, .ptr 101 0), (43, .v Enc.bool x13)], [(101, .box 112 [.v (Enc.int .i64) a0.1, .v (Enc.sl (Enc.pr (Enc.int .i64) eBlk)) a0.2.1, .v (Enc.sl (Enc.pr (Enc.int .i64) (Enc.sl (Enc.pr (Enc.int .i64) eBlk)))) a0.2.2.1, .v Enc.bool a0.2.2.2])]⟩) ?_ ?_
      · obtain ⟨v14, hv14, hx⟩ := bind_e hx
        rcases Bool.eq_false_or_eq_true (!v14) with hc15 | hc15
        · replace hx := cond_t hc15 hx
          obtain rfl := Option.some.inj hx
          exact (J.cons (.none rfl) (JO.fieldPtr 1 rfl Try.runUnderlying112 rfl Try.sizeOf76 rfl rfl) rfl rfl (J.cons (.none rfl) (JO.load rfl rfl rfl Try.isAgg76 Try.sizeOf76) rfl rfl (J.cons (.none rfl) (JO.move rfl) rfl rfl (J.cons (.none rfl) (JO.call0 (con_epoch_rising hv14) Try.call121 (.cons (.dir rfl) (.cons (.dir rfl) .nil))) rfl rfl (J.cons (.none rfl) (JO.not rfl) rfl rfl (J.cons (.none rfl) (JO.move rfl) rfl rfl (J.left (GK.unmet 34 rfl rfl rfl hc15) rfl (J.left (GK.unmet 34 rfl rfl rfl hc15) rfl (J.left (GK.unmet 34 rfl rfl rfl hc15) rfl (J.left (GK.und 37 rfl rfl rfl) rfl (J.left (GK.und 37 rfl rfl rfl) rfl (J.left (GK.und 37 rfl rfl rfl) rfl (J.left (GK.und 37 rfl rfl rfl) rfl (J.left (GK.unmet 34 rfl rfl rfl hc15) rfl (J.cons (.none rfl) (JO.pT hc15 rfl rfl) rfl rfl (J.fin (Sw.Sub.mk id (.cons rfl (.of_eq rfl) (.cons rfl (.of_eq rfl) (.cons rfl (.of_eq rfl) .nil))) (.box rfl (.cons (.of_eq rfl) (.cons (.of_eq rfl) (.cons (.of_eq rfl) (.cons (.of_eq rfl) .nil)))) .nil) rfl)))))))))))))))))
        · replace hx := cond_f hc15 hx
          rcases Bool.eq_false_or_eq_true a0.2.2.2 with hc16 | hc16
          · replace hx := cond_t hc16 hx
            obtain rfl := Option.some.inj hx
            exact (J.cons (.none rfl) (JO.fieldPtr 1 rfl Try.runUnderlying112 rfl Try.sizeOf76 rfl rfl) rfl rfl (J.cons (.none rfl) (JO.load rfl rfl rfl Try.isAgg76 Try.sizeOf76) rfl rfl (J.cons (.none rfl) (JO.move rfl) rfl rfl (J.cons (.none rfl) (JO.call0 (con_epoch_rising hv14) Try.call121 (.cons (.dir rfl) (.cons (.dir rfl) .nil))) rfl rfl (J.cons (.none rfl) (JO.not rfl) rfl rfl (J.cons (.none rfl) (JO.move rfl) rfl rfl (J.cons (GK.met 34 rfl rfl rfl hc15) (JO.fieldPtr 3 rfl Try.runUnderlying112 rfl Try.sizeOf4 rfl rfl) rfl rfl (J.cons (GK.met 34 rfl rfl rfl hc15) (JO.load rfl rfl rfl Try.isAgg4 Try.sizeOf4) rfl rfl (J.cons (GK.met 34 rfl rfl rfl hc15) (JO.move rfl) rfl rfl (J.cons (GK.met 37 rfl rfl rfl hc16) (JO.fieldPtr 2 rfl Try.runUnderlying112 rfl Try.sizeOf110 rfl rfl) rfl rfl (J.cons (GK.met 37 rfl rfl rfl hc16) (JO.load rfl rfl rfl Try.isAgg110 Try.sizeOf110) rfl rfl (J.cons (GK.met 37 rfl rfl rfl hc16) (JO.len rfl Try.runUnderlying110) rfl rfl (J.cons (GK.met 37 rfl rfl rfl hc16) (JO.cmp rfl rfl rfl) rfl rfl (J.cons (GK.met 34 rfl rfl rfl hc15) (JO.pT hc16 rfl rfl) rfl rfl (J.cons (.none rfl) (JO.pF hc15 rfl rfl) rfl rfl (J.fin (Sw.Sub.mk id (.cons rfl (.of_eq rfl) (.cons rfl (.of_eq rfl) (.cons rfl (.of_eq rfl) .nil))) (.box rfl (.cons (.of_eq rfl) (.cons (.of_eq rfl) (.cons (.of_eq rfl) (.cons (.of_eq rfl) .nil)))) .nil) rfl)))))))))))))))))
          · replace hx := cond_f hc16 hx
            obtain rfl := Option.some.inj hx
            exact (J.cons (.none rfl) (JO.fieldPtr 1 rfl Try.runUnderlying112 rfl Try.sizeOf76 rfl rfl) rfl rfl (J.cons (.none rfl) (JO.load rfl rfl rfl Try.isAgg76 Try.sizeOf76) rfl rfl (J.cons (.none rfl) (JO.move rfl) rfl rfl (J.cons (.none rfl) (JO.call0 (con_epoch_rising hv14) Try.call121 (.cons (.dir rfl) (.cons (.dir rfl) .nil))) rfl rfl (J.cons (.none rfl) (JO.not rfl) rfl rfl (J.cons (.none rfl) (JO.move rfl) rfl rfl (J.cons (GK.met 34 rfl rfl rfl hc15) (JO.fieldPtr 3 rfl Try.runUnderlying112 rfl Try.sizeOf4 rfl rfl) rfl rfl (J.cons (GK.met 34 rfl rfl rfl hc15) (JO.load rfl rfl rfl Try.isAgg4 Try.sizeOf4) rfl rfl (J.cons (GK.met 34 rfl rfl rfl hc15) (JO.move rfl) rfl rfl (J.left (GK.unmet 37 rfl rfl rfl hc16) rfl (J.left (GK.unmet 37 rfl rfl rfl hc16) rfl (J.left (GK.unmet 37 rfl rfl rfl hc16) rfl (J.left (GK.unmet 37 rfl rfl rfl hc16) rfl (J.cons (GK.met 34 rfl rfl rfl hc15) (JO.pF hc16 rfl rfl) rfl rfl (J.cons (.none rfl) (JO.pF hc15 rfl rfl) rfl rfl (J.fin (Sw.Sub.mk id (.cons rfl (.of_eq rfl) (.cons rfl (.of_eq rfl) (.cons rfl (.of_eq rfl) .nil))) (.box rfl (.cons (.of_eq rfl) (.cons (.of_eq rfl) (.cons (.of_eq rfl) (.cons (.of_eq rfl) .nil)))) .nil) rfl)))))))))))))))))
      rcases Bool.eq_false_or_eq_true x13 with hc17 | hc17
      · replace h := cond_t hc17 h
        refine W.condT rfl hc17 ?_
        refine W.seq ?_
        refine W.reg (σ' := ⟨[(4, .v (Enc.err ET) (some (3 : Int)))], []⟩) (J.cons (.none rfl) (JO.mkErr Try.runUnderlying29 rfl) rfl rfl (J.cons (.none rfl) (JO.assign rfl) rfl rfl (J.fin (Sw.Sub.mk id (.cons rfl (.of_eq rfl) .nil) .nil rfl)))) ?_
        refine W.ret ?_
        obtain rfl := Option.some.inj h
        exact XQ.sub (σ' := ⟨[(4, .v (Enc.err ET) (some (3 : Int)))], []⟩) (Sw.Sub.mk id (.cons rfl (.of_eq rfl) .nil) .nil rfl) (XQ.ret1 hF noR rfl (RV.tmp rfl) .nil rfl)
      · replace h := cond_f hc17 h
        refine W.condF rfl hc17 ?_
        refine W.skip ?_
        refine W.seq ?_
        refine W.seq ?_
        refine W.reg (σ' := ⟨[(1, .v (Enc.int .i64) a1), (2, .ptr 101 0), (46, .v (Enc.sl (Enc.pr (Enc.int .i64) (Enc.sl (Enc.pr (Enc.int .i64) eBlk)))) a0.2.2.1), (47, .v (Enc.int .i64) (a0.2.2.1.length : Int)), (48, .v (Enc.int .i64) (0 : Int))], [(101, .box 112 [.v (Enc.int .i64) a0.1, .v (Enc.sl (Enc.pr (Enc.int .i64) eBlk)) a0.2.1, .v (Enc.sl (Enc.pr (Enc.int .i64) (Enc.sl (Enc.pr (Enc.int .i64) eBlk)))) a0.2.2.1, .v Enc.bool a0.2.2.2])]⟩) (J.cons (.none rfl) (JO.fieldPtr 2 rfl Try.runUnderlying112 rfl Try.sizeOf110 rfl rfl) rfl rfl (J.cons (.none rfl) (JO.load rfl rfl rfl Try.isAgg110 Try.sizeOf110) rfl rfl (J.cons (.none rfl) (JO.len rfl Try.runUnderlying110) rfl rfl (J.cons (.none rfl) (JO.move rfl) rfl rfl (J.fin (Sw.Sub.mk id (.cons rfl (.of_eq rfl) (.cons rfl (.of_eq rfl) (.cons rfl (.of_eq rfl) (.cons rfl (.of_eq rfl) (.cons rfl (.of_eq rfl) .nil))))) (.box rfl (.cons (.of_eq rfl) (.cons (.of_eq rfl) (.cons (.of_eq rfl) (.cons (.of_eq rfl) .nil)))) .nil) rfl)))))) ?_
        obtain ⟨o51, ho51, hb51, hr51⟩ := lp_elim h
        refine W.lp (σs := fun s40 : Int => ⟨[(1, .v (Enc.int .i64) a1), (2, .ptr 101 0), (46, .v (Enc.sl (Enc.pr (Enc.int .i64) (Enc.sl (Enc.pr (Enc.int .i64) eBlk)))) a0.2.2.1), (47, .v (Enc.int .i64) (a0.2.2.1.length : Int)), (48, .v (Enc.int .i64) s40)], [(101, .box 112 [.v (Enc.int .i64) a0.1, .v (Enc.sl (Enc.pr (Enc.int .i64) eBlk)) a0.2.1, .v (Enc.sl (Enc.pr (Enc.int .i64) (Enc.sl (Enc.pr (Enc.int .i64) eBlk)))) a0.2.2.1, .v Enc.bool a0.2.2.2])]⟩) (fun x52 : Unit => ⟨[], []⟩) ho51 (Sw.Sub.mk id (.cons rfl (.of_eq rfl) (.cons rfl (.of_eq rfl) (.cons rfl (.of_eq rfl) (.cons rfl (.of_eq rfl) (.cons rfl (.of_eq rfl) .nil))))) (.box rfl (.cons (.of_eq rfl) (.cons (.of_eq rfl) (.cons (.of_eq rfl) (.cons (.of_eq rfl) .nil)))) .nil) rfl) ?_ ?_
        · intro x52 hy
          have h := hb51 _ hy
          refine W.seq ?_
          refine W.reg (σ' := ⟨[(4, .v (Enc.err ET) (none : Option Int))], []⟩) (J.cons (.none rfl) (JO.assignNilE ET) rfl rfl (J.fin (Sw.Sub.mk id (.cons rfl (.of_eq rfl) .nil) .nil rfl))) ?_
          refine W.ret ?_
          obtain rfl := Option.some.inj h
          exact XQ.sub (σ' := ⟨[(4, .v (Enc.err ET) (none : Option Int))], []⟩) (Sw.Sub.mk id (.cons rfl (.of_eq rfl) .nil) .nil rfl) (XQ.ret1 hF noR rfl (RV.tmp rfl) .nil rfl)
        intro s40 r51 h
        refine W.seq ?_
        refine W.reg (σ' := ⟨[(1, .v (Enc.int .i64) a1), (2, .ptr 101 0), (46, .v (Enc.sl (Enc.pr (Enc.int .i64) (Enc.sl (Enc.pr (Enc.int .i64) eBlk)))) a0.2.2.1), (47, .v (Enc.int .i64) (a0.2.2.1.length : Int)), (48, .v (Enc.int .i64) s40), (49, .v Enc.bool (cm .lss s40 (a0.2.2.1.length : Int)))], [(101, .box 112 [.v (Enc.int .i64) a0.1, .v (Enc.sl (Enc.pr (Enc.int .i64) eBlk)) a0.2.1, .v (Enc.sl (Enc.pr (Enc.int .i64) (Enc.sl (Enc.pr (Enc.int .i64) eBlk)))) a0.2.2.1, .v Enc.bool a0.2.2.2])]⟩) (J.cons (.none rfl) (JO.cmp rfl rfl rfl) rfl rfl (J.fin (Sw.Sub.mk id (.cons rfl (.of_eq rfl) (.cons rfl (.of_eq rfl) (.cons rfl (.of_eq rfl) (.cons rfl (.of_eq rfl) (.cons rfl (.of_eq rfl) (.cons rfl (.of_eq rfl) .nil)))))) (.box rfl (.cons (.of_eq rfl) (.cons (.of_eq rfl) (.cons (.of_eq rfl) (.cons (.of_eq rfl) .nil)))) .nil) rfl))) ?_
        refine W.seq ?_
        rcases Bool.eq_false_or_eq_true (cm .lss s40 (a0.2.2.1.length : Int)) with hc53 | hc53
        · replace h := cond_t hc53 h
          refine W.condT rfl hc53 ?_
          refine W.skip ?_
          refine W.seq ?_
          refine W.block ?_
          refine W.seq ?_
          obtain ⟨z54, hz54, h⟩ := bind_e h
          refine W.reg (σ' := ⟨[(1, .v (Enc.int .i64) a1), (2, .ptr 101 0), (5, .v (Enc.int .i64) s40), (6, .ptr 113 0), (46, .v (Enc.sl (Enc.pr (Enc.int .i64) (Enc.sl (Enc.pr (Enc.int .i64) eBlk)))) a0.2.2.1), (47, .v (Enc.int .i64) (a0.2.2.1.length : Int)), (48, .v (Enc.int .i64) s40)], [(101, .box 112 [.v (Enc.int .i64) a0.1, .v (Enc.sl (Enc.pr (Enc.int .i64) eBlk)) a0.2.1, .v (Enc.sl (Enc.pr (Enc.int .i64) (Enc.sl (Enc.pr (Enc.int .i64) eBlk)))) a0.2.2.1, .v Enc.bool a0.2.2.2]), (113, .box 121 [.v (Enc.int .i64) z54.1, .v (Enc.sl (Enc.pr (Enc.int .i64) eBlk)) z54.2])]⟩) (J.cons (.none rfl) (JO.move rfl) rfl rfl (J.cons (.none rfl) (JO.idx hz54 rfl rfl Try.runUnderlying110 Try.sizeOf121) rfl rfl (J.cons (.none rfl) (JO.loadPst rfl Try.isAgg121 Try.sizeOf121) rfl rfl (J.cons (.none rfl) (JO.alloc 113 Try.zeroValue121 rfl (.cons (Z.int .i64) (.cons (Z.sl (Enc.pr (Enc.int .i64) eBlk)) .nil)) rfl) rfl rfl (J.cons (.none rfl) (JO.assign rfl) rfl rfl (J.mut (.none rfl) (JM.storeAll rfl rfl rfl rfl (.prm (.one _ _) (.one _ _)) Try.sizeOf121) (J.fin (Sw.Sub.mk id (.cons rfl (.of_eq rfl) (.cons rfl (.of_eq rfl) (.cons rfl (.of_eq rfl) (.cons rfl (.of_eq rfl) (.cons rfl (.of_eq rfl) (.cons rfl (.of_eq rfl) (.cons rfl (.of_eq rfl) .nil))))))) (.box rfl (.cons (.of_eq rfl) (.cons (.of_eq rfl) (.cons (.of_eq rfl) (.cons (.of_eq rfl) .nil)))) (.box rfl (.cons (.of_eq rfl) (.cons (.of_eq rfl) .nil)) .nil)) rfl)))))))) ?_
          refine W.seq ?_
          obtain ⟨x58, hx, h⟩ := bind_e h
          refine W.reg (σ' := ⟨[(1, .v (Enc.int .i64) a1), (2, .ptr 101 0), (46, .v (Enc.sl (Enc.pr (Enc.int .i64) (Enc.sl (Enc.pr (Enc.int .i64) eBlk)))) a0.2.2.1), (47, .v (Enc.int .i64) (a0.2.2.1.length : Int)), (48, .v (Enc.int .i64) s40), (76, .v Enc.bool x58)], [(101, .box 112 [.v (Enc.int .i64) a0.1, .v (Enc.sl (Enc.pr (Enc.int .i64) eBlk)) a0.2.1, .v (Enc.sl (Enc.pr (Enc.int .i64) (Enc.sl (Enc.pr (Enc.int .i64) eBlk)))) a0.2.2.1, .v Enc.bool a0.2.2.2])]⟩) ?_ ?_
          · obtain ⟨v59, hv59, hx⟩ := bind_e hx
            rcases Bool.eq_false_or_eq_true (!v59) with hc60 | hc60
            · replace hx := cond_t hc60 hx
              obtain rfl := Option.some.inj hx
              exact (J.cons (.none rfl) (JO.fieldPtr 1 rfl Try.runUnderlying121 rfl Try.sizeOf76 rfl rfl) rfl rfl (J.cons (.none rfl) (JO.load rfl rfl rfl Try.isAgg76 Try.sizeOf76) rfl rfl (J.cons (.none rfl) (JO.move rfl) rfl rfl (J.cons (.none rfl) (JO.call0 (con_epoch_rising hv59) Try.call121 (.cons (.dir rfl) (.cons (.dir rfl) .nil))) rfl rfl (J.cons (.none rfl) (JO.not rfl) rfl rfl (J.cons (.none rfl) (JO.move rfl) rfl rfl (J.left (GK.unmet 58 rfl rfl rfl hc60) rfl (J.left (GK.unmet 58 rfl rfl rfl hc60) rfl (J.left (GK.unmet 58 rfl rfl rfl hc60) rfl (J.left (GK.unmet 58 rfl rfl rfl hc60) rfl (J.left (GK.unmet 58 rfl rfl rfl hc60) rfl (J.left (GK.unmet 58 rfl rfl rfl hc60) rfl (J.left (GK.unmet 58 rfl rfl rfl hc60) rfl (J.left (GK.unmet 58 rfl rfl rfl hc60) rfl (J.left (GK.unmet 58 rfl rfl rfl hc60) rfl (J.left (GK.unmet 58 rfl rfl rfl hc60) rfl (J.left (GK.unmet 58 rfl rfl rfl hc60) rfl (J.left (GK.unmet 58 rfl rfl rfl hc60) rfl (J.cons (.none rfl) (JO.pT hc60 rfl rfl) rfl rfl (J.cons (.none rfl) (JO.move rfl) rfl rfl (J.left (GK.unmet 72 rfl rfl rfl rfl) rfl (J.left (GK.unmet 72 rfl rfl rfl rfl) rfl (J.left (GK.unmet 72 rfl rfl rfl rfl) rfl (J.cons (.none rfl) (JO.pT rfl rfl rfl) rfl rfl (J.fin (Sw.Sub.mk id (.cons rfl (.of_eq rfl) (.cons rfl (.of_eq rfl) (.cons rfl (.of_eq rfl) (.cons rfl (.of_eq rfl) (.cons rfl (.of_eq rfl) (.cons rfl (.of_eq rfl) .nil)))))) (.box rfl (.cons (.of_eq rfl) (.cons (.of_eq rfl) (.cons (.of_eq rfl) (.cons (.of_eq rfl) .nil)))) .nil) rfl))))))))))))))))))))))))))
            · replace hx := cond_f hc60 hx
              rcases Bool.eq_false_or_eq_true (cm .neq z54.1 (ar .add .i64 (ar .add .i64 (ar .sub .i64 a0.1 (a0.2.2.1.length : Int)) (1 : Int)) s40)) with hc61 | hc61
              · replace hx := cond_t hc61 hx
                obtain rfl := Option.some.inj hx
                exact (J.cons (.none rfl) (JO.fieldPtr 1 rfl Try.runUnderlying121 rfl Try.sizeOf76 rfl rfl) rfl rfl (J.cons (.none rfl) (JO.load rfl rfl rfl Try.isAgg76 Try.sizeOf76) rfl rfl (J.cons (.none rfl) (JO.move rfl) rfl rfl (J.cons (.none rfl) (JO.call0 (con_epoch_rising hv59) Try.call121 (.cons (.dir rfl) (.cons (.dir rfl) .nil))) rfl rfl (J.cons (.none rfl) (JO.not rfl) rfl rfl (J.cons (.none rfl) (JO.move rfl) rfl rfl (J.cons (GK.met 58 rfl rfl rfl hc60) (JO.fieldPtr 0 rfl Try.runUnderlying121 rfl Try.sizeOf3 rfl rfl) rfl rfl (J.cons (GK.met 58 rfl rfl rfl hc60) (JO.load rfl rfl rfl Try.isAgg3 Try.sizeOf3) rfl rfl (J.cons (GK.met 58 rfl rfl rfl hc60) (JO.fieldPtr 0 rfl Try.runUnderlying112 rfl Try.sizeOf3 rfl rfl) rfl rfl (J.cons (GK.met 58 rfl rfl rfl hc60) (JO.load rfl rfl rfl Try.isAgg3 Try.sizeOf3) rfl rfl (J.cons (GK.met 58 rfl rfl rfl hc60) (JO.fieldPtr 2 rfl Try.runUnderlying112 rfl Try.sizeOf110 rfl rfl) rfl rfl (J.cons (GK.met 58 rfl rfl rfl hc60) (JO.load rfl rfl rfl Try.isAgg110 Try.sizeOf110) rfl rfl (J.cons (GK.met 58 rfl rfl rfl hc60) (JO.len rfl Try.runUnderlying110) rfl rfl (J.cons (GK.met 58 rfl rfl rfl hc60) (JO.arith rfl rfl rfl) rfl rfl (J.cons (GK.met 58 rfl rfl rfl hc60) (JO.arith rfl rfl rfl) rfl rfl (J.cons (GK.met 58 rfl rfl rfl hc60) (JO.move rfl) rfl rfl (J.cons (GK.met 58 rfl rfl rfl hc60) (JO.arith rfl rfl rfl) rfl rfl (J.cons (GK.met 58 rfl rfl rfl hc60) (JO.cmp rfl rfl rfl) rfl rfl (J.cons (.none rfl) (JO.pF hc60 rfl rfl) rfl rfl (J.cons (.none rfl) (JO.move rfl) rfl rfl (J.left (GK.unmet 72 rfl rfl rfl hc61) rfl (J.left (GK.unmet 72 rfl rfl rfl hc61) rfl (J.left (GK.unmet 72 rfl rfl rfl hc61) rfl (J.cons (.none rfl) (JO.pT hc61 rfl rfl) rfl rfl (J.fin (Sw.Sub.mk id (.cons rfl (.of_eq rfl) (.cons rfl (.of_eq rfl) (.cons rfl (.of_eq rfl) (.cons rfl (.of_eq rfl) (.cons rfl (.of_eq rfl) (.cons rfl (.of_eq rfl) .nil)))))) (.box rfl (.cons (.of_eq rfl) (.cons (.of_eq rfl) (.cons (.of_eq rfl) (.cons (.of_eq rfl) .nil)))) .nil) rfl))))))))))))))))))))))))))
              · replace hx := cond_f hc61 hx
                obtain rfl := Option.some.inj hx
                exact (J.cons (.none rfl) (JO.fieldPtr 1 rfl Try.runUnderlying121 rfl Try.sizeOf76 rfl rfl) rfl rfl (J.cons (.none rfl) (JO.load rfl rfl rfl Try.isAgg76 Try.sizeOf76) rfl rfl (J.cons (.none rfl) (JO.move rfl) rfl rfl (J.cons (.none rfl) (JO.call0 (con_epoch_rising hv59) Try.call121 (.cons (.dir rfl) (.cons (.dir rfl) .nil))) rfl rfl (J.cons (.none rfl) (JO.not rfl) rfl rfl (J.cons (.none rfl) (JO.move rfl) rfl rfl (J.cons (GK.met 58 rfl rfl rfl hc60) (JO.fieldPtr 0 rfl Try.runUnderlying121 rfl Try.sizeOf3 rfl rfl) rfl rfl (J.cons (GK.met 58 rfl rfl rfl hc60) (JO.load rfl rfl rfl Try.isAgg3 Try.sizeOf3) rfl rfl (J.cons (GK.met 58 rfl rfl rfl hc60) (JO.fieldPtr 0 rfl Try.runUnderlying112 rfl Try.sizeOf3 rfl rfl) rfl rfl (J.cons (GK.met 58 rfl rfl rfl hc60) (JO.load rfl rfl rfl Try.isAgg3 Try.sizeOf3) rfl rfl (J.cons (GK.met 58 rfl rfl rfl hc60) (JO.fieldPtr 2 rfl Try.runUnderlying112 rfl Try.sizeOf110 rfl rfl) rfl rfl (J.cons (GK.met 58 rfl rfl rfl hc60) (JO.load rfl rfl rfl Try.isAgg110 Try.sizeOf110) rfl rfl (J.cons (GK.met 58 rfl rfl rfl hc60) (JO.len rfl Try.runUnderlying110) rfl rfl (J.cons (GK.met 58 rfl rfl rfl hc60) (JO.arith rfl rfl rfl) rfl rfl (J.cons (GK.met 58 rfl rfl rfl hc60) (JO.arith rfl rfl rfl) rfl rfl (J.cons (GK.met 58 rfl rfl rfl hc60) (JO.move rfl) rfl rfl (J.cons (GK.met 58 rfl rfl rfl hc60) (JO.arith rfl rfl rfl) rfl rfl (J.cons (GK.met 58 rfl rfl rfl hc60) (JO.cmp rfl rfl rfl) rfl rfl (J.cons (.none rfl) (JO.pF hc60 rfl rfl) rfl rfl (J.cons (.none rfl) (JO.move rfl) rfl rfl (J.cons (GK.met 72 rfl rfl rfl hc61) (JO.fieldPtr 0 rfl Try.runUnderlying121 rfl Try.sizeOf3 rfl rfl) rfl rfl (J.cons (GK.met 72 rfl rfl rfl hc61) (JO.load rfl rfl rfl Try.isAgg3 Try.sizeOf3) rfl rfl (J.cons (GK.met 72 rfl rfl rfl hc61) (JO.cmp rfl rfl rfl) rfl rfl (J.cons (.none rfl) (JO.pF hc61 rfl rfl) rfl rfl (J.fin (Sw.Sub.mk id (.cons rfl (.of_eq rfl) (.cons rfl (.of_eq rfl) (.cons rfl (.of_eq rfl) (.cons rfl (.of_eq rfl) (.cons rfl (.of_eq rfl) (.cons rfl (.of_eq rfl) .nil)))))) (.box rfl (.cons (.of_eq rfl) (.cons (.of_eq rfl) (.cons (.of_eq rfl) (.cons (.of_eq rfl) .nil)))) .nil) rfl))))))))))))))))))))))))))
          rcases Bool.eq_false_or_eq_true x58 with hc62 | hc62
          · replace h := cond_t hc62 h
            refine W.condT rfl hc62 ?_
            refine W.seq ?_
            refine W.reg (σ' := ⟨[(4, .v (Enc.err ET) (some (3 : Int)))], []⟩) (J.cons (.none rfl) (JO.mkErr Try.runUnderlying29 rfl) rfl rfl (J.cons (.none rfl) (JO.assign rfl) rfl rfl (J.fin (Sw.Sub.mk id (.cons rfl (.of_eq rfl) .nil) .nil rfl)))) ?_
            refine W.ret ?_
            refine XQ.ret ?_
            obtain rfl := Option.some.inj h
            refine XQ.lret fun ho => ?_
            obtain rfl := hr51 _ ho
            exact XQ.sub (σ' := ⟨[(4, .v (Enc.err ET) (some (3 : Int)))], []⟩) (Sw.Sub.mk id (.cons rfl (.of_eq rfl) .nil) .nil rfl) (XQ.ret1 hF noR rfl (RV.tmp rfl) .nil rfl)
          · replace h := cond_f hc62 h
            refine W.condF rfl hc62 ?_
            refine W.skip ?_
            refine W.fall ?_
            refine W.reg (σ' := ⟨[(1, .v (Enc.int .i64) a1), (2, .ptr 101 0), (46, .v (Enc.sl (Enc.pr (Enc.int .i64) (Enc.sl (Enc.pr (Enc.int .i64) eBlk)))) a0.2.2.1), (47, .v (Enc.int .i64) (a0.2.2.1.length : Int)), (48, .v (Enc.int .i64) (ar .add .i64 s40 (1 : Int)))], [(101, .box 112 [.v (Enc.int .i64) a0.1, .v (Enc.sl (Enc.pr (Enc.int .i64) eBlk)) a0.2.1, .v (Enc.sl (Enc.pr (Enc.int .i64) (Enc.sl (Enc.pr (Enc.int .i64) eBlk)))) a0.2.2.1, .v Enc.bool a0.2.2.2])]⟩) (J.cons (.none rfl) (JO.arith rfl rfl rfl) rfl rfl (J.cons (.none rfl) (JO.move rfl) rfl rfl (J.fin (Sw.Sub.mk id (.cons rfl (.of_eq rfl) (.cons rfl (.of_eq rfl) (.cons rfl (.of_eq rfl) (.cons rfl (.of_eq rfl) (.cons rfl (.of_eq rfl) .nil))))) (.box rfl (.cons (.of_eq rfl) (.cons (.of_eq rfl) (.cons (.of_eq rfl) (.cons (.of_eq rfl) .nil)))) .nil) rfl)))) ?_
            obtain rfl := Option.some.inj h
            exact W.next (Sw.Sub.mk id (.cons rfl (.of_eq rfl) (.cons rfl (.of_eq rfl) (.cons rfl (.of_eq rfl) (.cons rfl (.of_eq rfl) (.cons rfl (.of_eq rfl) .nil))))) (.box rfl (.cons (.of_eq rfl) (.cons (.of_eq rfl) (.cons (.of_eq rfl) (.cons (.of_eq rfl) .nil)))) .nil) rfl)
        · replace h := cond_f hc53 h
          refine W.condF rfl hc53 ?_
          refine W.exit ?_
          obtain rfl := Option.some.inj h
          exact XQ.brk (Sw.Sub.mk id .nil .nil rfl)
set_option maxRecDepth 100000 in
set_option maxHeartbeats 4000000 in
theorem con_ref_Is {a0 : (Option Int)} {a1 : Int} {r : Bool} (h : m_ref_Is a0 a1 = some r) :
    Con Try.prog 14 [.v (Enc.err ET) a0, .v (Enc.int .i64) a1] (.v Enc.bool r) [] := by
  refine Con.of Try.func14 rfl Try.ntmps14 rfl ?_
  intro S w hF
  unfold m_ref_Is at h
  refine W.seq ?_
  refine W.reg (σ' := ⟨[(0, .v (Enc.err ET) a0), (1, .v (Enc.int .i64) a1)], []⟩) (J.cons (.none rfl) (JO.assign rfl) rfl rfl (J.fin (Sw.Sub.mk id (.cons rfl (.of_eq rfl) (.cons rfl (.of_eq rfl) .nil)) .nil rfl))) ?_
  refine W.seq ?_
  refine W.seq ?_
  refine W.reg (σ' := ⟨[(0, .v (Enc.err ET) a0), (1, .v (Enc.int .i64) a1), (6, .v Enc.bool (Option.isNone a0))], []⟩) (J.cons (.none rfl) (JO.move rfl) rfl rfl (J.cons (.none rfl) (JO.errEq Try.runUnderlying33 rfl) rfl rfl (J.fin (Sw.Sub.mk id (.cons rfl (.of_eq rfl) (.cons rfl (.of_eq rfl) (.cons rfl (.of_eq rfl) .nil))) .nil rfl)))) ?_
  rcases Bool.eq_false_or_eq_true (Option.isNone a0) with hc1 | hc1
  · replace h := cond_t hc1 h
    refine W.condT rfl hc1 ?_
    refine W.seq ?_
    refine W.reg (σ' := ⟨[(4, .v Enc.bool (cm .eql a1 (0 : Int)))], []⟩) (J.cons (.none rfl) (JO.move rfl) rfl rfl (J.cons (.none rfl) (JO.cmp rfl rfl rfl) rfl rfl (J.cons (.none rfl) (JO.assign rfl) rfl rfl (J.fin (Sw.Sub.mk id (.cons rfl (.of_eq rfl) .nil) .nil rfl))))) ?_
    refine W.ret ?_
    obtain rfl := Option.some.inj h
    exact XQ.sub (σ' := ⟨[(4, .v Enc.bool (cm .eql a1 (0 : Int)))], []⟩) (Sw.Sub.mk id (.cons rfl (.of_eq rfl) .nil) .nil rfl) (XQ.ret1 hF noR rfl (RV.tmp rfl) .nil rfl)
  · replace h := cond_f hc1 h
    refine W.condF rfl hc1 ?_
    refine W.skip ?_
    refine W.seq ?_
    obtain ⟨x3, hx, h⟩ := bind_e h
    refine W.reg (σ' := ⟨[(4, .v Enc.bool x3)], []⟩) ?_ ?_
    · rcases Bool.eq_false_or_eq_true (cm .neq a1 (0 : Int)) with hc4 | hc4
      · replace hx := cond_t hc4 hx
        obtain rfl := Option.some.inj hx
        exact (J.cons (.none rfl) (JO.move rfl) rfl rfl (J.cons (.none rfl) (JO.cmp rfl rfl rfl) rfl rfl (J.cons (.none rfl) (JO.move rfl) rfl rfl (J.cons (GK.met 11 rfl rfl rfl hc4) (JO.move rfl) rfl rfl (J.cons (GK.met 11 rfl rfl rfl hc4) (JO.move rfl) rfl rfl (J.cons (GK.met 11 rfl rfl rfl hc4) (JO.mkErr Try.runUnderlying29 rfl) rfl rfl (J.cons (GK.met 11 rfl rfl rfl hc4) (JO.errEq2 Try.runUnderlying33 Try.runUnderlying29 Try.typeInfo29 rfl rfl rfl) rfl rfl (J.cons (.none rfl) (JO.pT hc4 rfl rfl) rfl rfl (J.cons (.none rfl) (JO.assign rfl) rfl rfl (J.fin (Sw.Sub.mk id (.cons rfl (.of_eq rfl) .nil) .nil rfl)))))))))))
      · replace hx := cond_f hc4 hx
        obtain rfl := Option.some.inj hx
        exact (J.cons (.none rfl) (JO.move rfl) rfl rfl (J.cons (.none rfl) (JO.cmp rfl rfl rfl) rfl rfl (J.cons (.none rfl) (JO.move rfl) rfl rfl (J.left (GK.unmet 11 rfl rfl rfl hc4) rfl (J.left (GK.unmet 11 rfl rfl rfl hc4) rfl (J.left (GK.unmet 11 rfl rfl rfl hc4) rfl (J.left (GK.unmet 11 rfl rfl rfl hc4) rfl (J.cons (.none rfl) (JO.pF hc4 rfl rfl) rfl rfl (J.cons (.none rfl) (JO.assign rfl) rfl rfl (J.fin (Sw.Sub.mk id (.cons rfl (.of_eq rfl) .nil) .nil rfl)))))))))))
    refine W.ret ?_
    obtain rfl := Option.some.inj h
    exact XQ.sub (σ' := ⟨[(4, .v Enc.bool x3)], []⟩) (Sw.Sub.mk id (.cons rfl (.of_eq rfl) .nil) .nil rfl) (XQ.ret1 hF noR rfl (RV.tmp rfl) .nil rfl)
set_option maxRecDepth 100000 in
set_option maxHeartbeats 4000000 in
theorem con_slices_Clone_api_Put_api_Put_nil {a0 : (Bool × (List (Int × Blk)))} {r : (List (Int × Blk))} (h : m_slices_Clone_api_Put_api_Put_nil a0 = some r) :
    Con Try.prog 109 [.v (Enc.slN (Enc.pr (Enc.int .i64) eBlk)) a0] (.ref 0) [(0, .arr 85 (Enc.pr (Enc.int .i64) eBlk) r)] := by
  refine Con.of Try.func109 rfl Try.ntmps109 rfl ?_
  intro S w hF
  unfold m_slices_Clone_api_Put_api_Put_nil at h
  refine W.seq ?_
  refine W.reg (σ' := ⟨[(0, .v (Enc.slN (Enc.pr (Enc.int .i64) eBlk)) a0)], []⟩) (J.cons (.none rfl) (JO.assignNilR 101 85 (Enc.pr (Enc.int .i64) eBlk)) rfl rfl (J.fin (Sw.Sub.mk id (.cons rfl (.of_eq rfl) .nil) .nil rfl))) ?_
  refine W.seq ?_
  refine W.seq ?_
  refine W.reg (σ' := ⟨[(0, .v (Enc.slN (Enc.pr (Enc.int .i64) eBlk)) a0), (4, .v Enc.bool a0.1)], []⟩) (J.cons (.none rfl) (JO.move rfl) rfl rfl (J.cons (.none rfl) (JO.eqNilS rfl Try.runUnderlying76) rfl rfl (J.fin (Sw.Sub.mk id (.cons rfl (.of_eq rfl) (.cons rfl (.of_eq rfl) .nil)) .nil rfl)))) ?_
  rcases Bool.eq_false_or_eq_true a0.1 with hc1 | hc1
  · replace h := cond_t hc1 h
    refine W.condT rfl hc1 ?_
    refine W.seq ?_
    refine W.reg (σ' := ⟨[(2, .ref 102)], [(102, .arr 85 (Enc.pr (Enc.int .i64) eBlk) ([] : (List (Int × Blk))))]⟩) (J.cons (.none rfl) (JO.assignNilR 102 85 (Enc.pr (Enc.int .i64) eBlk)) rfl rfl (J.fin (Sw.Sub.mk id (.cons rfl (.of_eq rfl) .nil) (.arr rfl .nil) rfl))) ?_
    refine W.ret ?_
    obtain rfl := Option.some.inj h
    exact XQ.sub (σ' := ⟨[(2, .ref 0)], [(0, .arr 85 (Enc.pr (Enc.int .i64) eBlk) ([] : (List (Int × Blk))))]⟩) (Sw.Sub.mk (rn [(0, 102)]) (.cons rfl (.of_eq rfl) .nil) (.arr rfl .nil) rfl) (XQ.ret1 hF noR rfl (RV.tmp rfl) (.cons rfl .nil) rfl)
  · replace h := cond_f hc1 h
    refine W.condF rfl hc1 ?_
    refine W.skip ?_
    refine W.seq ?_
    obtain ⟨v2, hv2, h⟩ := bind_e h
    refine W.reg (σ' := ⟨[(2, .ref 104)], [(104, .arr 85 (Enc.pr (Enc.int .i64) eBlk) v2)]⟩) (J.cons (.none rfl) (JO.litR (e := (Enc.pr (Enc.int .i64) eBlk)) 103 Try.runUnderlying76 Try.sizeOf85 Try.zeroValue85 rfl rfl rfl rfl .nil) rfl rfl (J.cons (.none rfl) (JO.move rfl) rfl rfl (J.mut (.none rfl) (JM.append 104 hv2 rfl rfl (.slN rfl) Try.runUnderlying76 Try.typeInfo85 Try.sizeOf85 rfl rfl rfl rfl rfl) (J.cons (.none rfl) (JO.assign rfl) rfl rfl (J.fin (Sw.Sub.mk id (.cons rfl (.of_eq rfl) .nil) (.arr rfl .nil) rfl)))))) ?_
    refine W.ret ?_
    obtain rfl := Option.some.inj h
    exact XQ.sub (σ' := ⟨[(2, .ref 0)], [(0, .arr 85 (Enc.pr (Enc.int .i64) eBlk) v2)]⟩) (Sw.Sub.mk (rn [(0, 104)]) (.cons rfl (.of_eq rfl) .nil) (.arr rfl .nil) rfl) (XQ.ret1 hF noR rfl (RV.tmp rfl) (.cons rfl .nil) rfl)
theorem con_slices_Clone_api_Put_api_Put {a0 : (List (Int × Blk))} {r : (List (Int × Blk))} (h : m_slices_Clone_api_Put_api_Put a0 = some r) :
    Con Try.prog 109 [.v (Enc.sl (Enc.pr (Enc.int .i64) eBlk)) a0] (.ref 0) [(0, .arr 85 (Enc.pr (Enc.int .i64) eBlk) r)] :=
  Con.nilCases fun b hb => con_slices_Clone_api_Put_api_Put_nil (by cases b with | true => rw [hb rfl] at h ⊢; exact h | false => exact clone_f h)
set_option maxRecDepth 100000 in
set_option maxHeartbeats 4000000 in
theorem con_slices_Clone_epoch_Epoch_epoch_Epoch_nil {a0 : (Bool × (List (Int × (List (Int × Blk)))))} {r : (List (Int × (List (Int × Blk))))} (h : m_slices_Clone_epoch_Epoch_epoch_Epoch_nil a0 = some r) :
    Con Try.prog 149 [.v (Enc.slN (Enc.pr (Enc.int .i64) (Enc.sl (Enc.pr (Enc.int .i64) eBlk)))) a0] (.ref 0) [(0, .arr 121 (Enc.pr (Enc.int .i64) (Enc.sl (Enc.pr (Enc.int .i64) eBlk))) r)] := by
  refine Con.of Try.func149 rfl Try.ntmps149 rfl ?_
  intro S w hF
  unfold m_slices_Clone_epoch_Epoch_epoch_Epoch_nil at h
  refine W.seq ?_
  refine W.reg (σ' := ⟨[(0, .v (Enc.slN (Enc.pr (Enc.int .i64) (Enc.sl (Enc.pr (Enc.int .i64) eBlk)))) a0)], []⟩) (J.cons (.none rfl) (JO.assignNilR 101 121 (Enc.pr (Enc.int .i64) (Enc.sl (Enc.pr (Enc.int .i64) eBlk)))) rfl rfl (J.fin (Sw.Sub.mk id (.cons rfl (.of_eq rfl) .nil) .nil rfl))) ?_
  refine W.seq ?_
  refine W.seq ?_
  refine W.reg (σ' := ⟨[(0, .v (Enc.slN (Enc.pr (Enc.int .i64) (Enc.sl (Enc.pr (Enc.int .i64) eBlk)))) a0), (4, .v Enc.bool a0.1)], []⟩) (J.cons (.none rfl) (JO.move rfl) rfl rfl (J.cons (.none rfl) (JO.eqNilS rfl Try.runUnderlying110) rfl rfl (J.fin (Sw.Sub.mk id (.cons rfl (.of_eq rfl) (.cons rfl (.of_eq rfl) .nil)) .nil rfl)))) ?_
  rcases Bool.eq_false_or_eq_true a0.1 with hc1 | hc1
  · replace h := cond_t hc1 h
    refine W.condT rfl hc1 ?_
    refine W.seq ?_
    refine W.reg (σ' := ⟨[(2, .ref 102)], [(102, .arr 121 (Enc.pr (Enc.int .i64) (Enc.sl (Enc.pr (Enc.int .i64) eBlk))) ([] : (List (Int × (List (Int × Blk))))))]⟩) (J.cons (.none rfl) (JO.assignNilR 102 121 (Enc.pr (Enc.int .i64) (Enc.sl (Enc.pr (Enc.int .i64) eBlk)))) rfl rfl (J.fin (Sw.Sub.mk id (.cons rfl (.of_eq rfl) .nil) (.arr rfl .nil) rfl))) ?_
    refine W.ret ?_
    obtain rfl := Option.some.inj h
    exact XQ.sub (σ' := ⟨[(2, .ref 0)], [(0, .arr 121 (Enc.pr (Enc.int .i64) (Enc.sl (Enc.pr (Enc.int .i64) eBlk))) ([] : (List (Int × (List (Int × Blk))))))]⟩) (Sw.Sub.mk (rn [(0, 102)]) (.cons rfl (.of_eq rfl) .nil) (.arr rfl .nil) rfl) (XQ.ret1 hF noR rfl (RV.tmp rfl) (.cons rfl .nil) rfl)
  · replace h := cond_f hc1 h
    refine W.condF rfl hc1 ?_
    refine W.skip ?_
    refine W.seq ?_
    obtain ⟨v2, hv2, h⟩ := bind_e h
    refine W.reg (σ' := ⟨[(2, .ref 104)], [(104, .arr 121 (Enc.pr (Enc.int .i64) (Enc.sl (Enc.pr (Enc.int .i64) eBlk))) v2)]⟩) (J.cons (.none rfl) (JO.litR (e := (Enc.pr (Enc.int .i64) (Enc.sl (Enc.pr (Enc.int .i64) eBlk)))) 103 Try.runUnderlying110 Try.sizeOf121 Try.zeroValue121 rfl rfl rfl rfl .nil) rfl rfl (J.cons (.none rfl) (JO.move rfl) rfl rfl (J.mut (.none rfl) (JM.append 104 hv2 rfl rfl (.slN rfl) Try.runUnderlying110 Try.typeInfo121 Try.sizeOf121 rfl rfl rfl rfl rfl) (J.cons (.none rfl) (JO.assign rfl) rfl rfl (J.fin (Sw.Sub.mk id (.cons rfl (.of_eq rfl) .nil) (.arr rfl .nil) rfl)))))) ?_
    refine W.ret ?_
    obtain rfl := Option.some.inj h
    exact XQ.sub (σ' := ⟨[(2, .ref 0)], [(0, .arr 121 (Enc.pr (Enc.int .i64) (Enc.sl (Enc.pr (Enc.int .i64) eBlk))) v2)]⟩) (Sw.Sub.mk (rn [(0, 104)]) (.cons rfl (.of_eq rfl) .nil) (.arr rfl .nil) rfl) (XQ.ret1 hF noR rfl (RV.tmp rfl) (.cons rfl .nil) rfl)
theorem con_slices_Clone_epoch_Epoch_epoch_Epoch {a0 : (List (Int × (List (Int × Blk))))} {r : (List (Int × (List (Int × Blk))))} (h : m_slices_Clone_epoch_Epoch_epoch_Epoch a0 = some r) :
    Con Try.prog 149 [.v (Enc.sl (Enc.pr (Enc.int .i64) (Enc.sl (Enc.pr (Enc.int .i64) eBlk)))) a0] (.ref 0) [(0, .arr 121 (Enc.pr (Enc.int .i64) (Enc.sl (Enc.pr (Enc.int .i64) eBlk))) r)] :=
  Con.nilCases fun b hb => con_slices_Clone_epoch_Epoch_epoch_Epoch_nil (by cases b with | true => rw [hb rfl] at h ⊢; exact h | false => exact clone_f h)
set_option maxRecDepth 100000 in
set_option maxHeartbeats 4000000 in
theorem con_epoch_clone {a0 : (Int × (List (Int × Blk)) × (List (Int × (List (Int × Blk)))) × Bool)} {r : (Int × (List (Int × Blk)) × (List (Int × (List (Int × Blk)))) × Bool)} (h : m_epoch_clone a0 = some r) :
    Con Try.prog 122 [.v (Enc.pr (Enc.int .i64) (Enc.pr (Enc.sl (Enc.pr (Enc.int .i64) eBlk)) (Enc.pr (Enc.sl (Enc.pr (Enc.int .i64) (Enc.sl (Enc.pr (Enc.int .i64) eBlk)))) Enc.bool))) a0] (.agg [.v (Enc.int .i64) r.1, .ref 0, .ref 1, .v Enc.bool r.2.2.2]) [(0, .arr 85 (Enc.pr (Enc.int .i64) eBlk) r.2.1), (1, .arr 121 (Enc.pr (Enc.int .i64) (Enc.sl (Enc.pr (Enc.int .i64) eBlk))) r.2.2.1)] := by
  refine Con.of Try.func122 rfl Try.ntmps122 rfl ?_
  intro S w hF
  unfold m_epoch_clone at h
  refine W.seq ?_
  refine W.reg (σ' := ⟨[(1, .ptr 101 0), (2, .ptr 102 0)], [(101, .box 112 [.v (Enc.int .i64) a0.1, .v (Enc.sl (Enc.pr (Enc.int .i64) eBlk)) a0.2.1, .v (Enc.sl (Enc.pr (Enc.int .i64) (Enc.sl (Enc.pr (Enc.int .i64) eBlk)))) a0.2.2.1, .v Enc.bool a0.2.2.2]), (102, .box 112 [.v (Enc.int .i64) (0 : Int), .v (Enc.sl (Enc.pr (Enc.int .i64) eBlk)) ([] : (List (Int × Blk))), .v (Enc.sl (Enc.pr (Enc.int .i64) (Enc.sl (Enc.pr (Enc.int .i64) eBlk)))) ([] : (List (Int × (List (Int × Blk))))), .v Enc.bool false])]⟩) (J.cons (.none rfl) (JO.box 101 rfl (.prm (.one _ _) (.prm (.one _ _) (.prm (.one _ _) (.one _ _)))) rfl) rfl rfl (J.cons (.none rfl) (JO.alloc 102 Try.zeroValue112 rfl (.cons (Z.int .i64) (.cons (Z.sl (Enc.pr (Enc.int .i64) eBlk)) (.cons (Z.sl (Enc.pr (Enc.int .i64) (Enc.sl (Enc.pr (Enc.int .i64) eBlk)))) (.cons Z.bool .nil)))) rfl) rfl rfl (J.fin (Sw.Sub.mk id (.cons rfl (.of_eq rfl) (.cons rfl (.of_eq rfl) .nil)) (.box rfl (.cons (.of_eq rfl) (.cons (.of_eq rfl) (.cons (.of_eq rfl) (.cons (.of_eq rfl) .nil)))) (.box rfl (.cons (.of_eq rfl) (.cons (.of_eq rfl) (.cons (.of_eq rfl) (.cons (.of_eq rfl) .nil)))) .nil)) rfl)))) ?_
  refine W.seq ?_
  obtain ⟨v1, hv1, h⟩ := bind_e h
  refine W.reg (σ' := ⟨[(1, .ptr 101 0), (2, .ptr 102 0)], [(101, .box 112 [.v (Enc.int .i64) a0.1, .ref 103000, .v (Enc.sl (Enc.pr (Enc.int .i64) (Enc.sl (Enc.pr (Enc.int .i64) eBlk)))) a0.2.2.1, .v Enc.bool a0.2.2.2]), (102, .box 112 [.v (Enc.int .i64) (0 : Int), .v (Enc.sl (Enc.pr (Enc.int .i64) eBlk)) ([] : (List (Int × Blk))), .v (Enc.sl (Enc.pr (Enc.int .i64) (Enc.sl (Enc.pr (Enc.int .i64) eBlk)))) ([] : (List (Int × (List (Int × Blk))))), .v Enc.bool false]), (103000, .arr 85 (Enc.pr (Enc.int .i64) eBlk) v1)]⟩) (J.cons (.none rfl) (JO.fieldPtr 1 rfl Try.runUnderlying112 rfl Try.sizeOf76 rfl rfl) rfl rfl (J.cons (.none rfl) (JO.load rfl rfl rfl Try.isAgg76 Try.sizeOf76) rfl rfl (J.cons (.none rfl) (JO.call 103000 (con_slices_Clone_api_Put_api_Put hv1) Try.call109 (.cons (.dir rfl) .nil) rfl) rfl rfl (J.cons (.none rfl) (JO.fieldPtr 1 rfl Try.runUnderlying112 rfl Try.sizeOf76 rfl rfl) rfl rfl (J.mut (.none rfl) (JM.store rfl rfl rfl rfl rfl rfl rfl Try.sizeOf76) (J.fin (Sw.Sub.mk id (.cons rfl (.of_eq rfl) (.cons rfl (.of_eq rfl) .nil)) (.box rfl (.cons (.of_eq rfl) (.cons (.of_eq rfl) (.cons (.of_eq rfl) (.cons (.of_eq rfl) .nil)))) (.box rfl (.cons (.of_eq rfl) (.cons (.of_eq rfl) (.cons (.of_eq rfl) (.cons (.of_eq rfl) .nil)))) (.arr rfl .nil))) rfl))))))) ?_
  refine W.seq ?_
  obtain ⟨v2, hv2, h⟩ := bind_e h
  refine W.reg (σ' := ⟨[(1, .ptr 101 0), (2, .ptr 102 0)], [(101, .box 112 [.v (Enc.int .i64) a0.1, .ref 103000, .ref 104000, .v Enc.bool a0.2.2.2]), (102, .box 112 [.v (Enc.int .i64) (0 : Int), .v (Enc.sl (Enc.pr (Enc.int .i64) eBlk)) ([] : (List (Int × Blk))), .v (Enc.sl (Enc.pr (Enc.int .i64) (Enc.sl (Enc.pr (Enc.int .i64) eBlk)))) ([] : (List (Int × (List (Int × Blk))))), .v Enc.bool false]), (103000, .arr 85 (Enc.pr (Enc.int .i64) eBlk) v1), (104000, .arr 121 (Enc.pr (Enc.int .i64) (Enc.sl (Enc.pr (Enc.int .i64) eBlk))) v2)]⟩) (J.cons (.none rfl) (JO.fieldPtr 2 rfl Try.runUnderlying112 rfl Try.sizeOf110 rfl rfl) rfl rfl (J.cons (.none rfl) (JO.load rfl rfl rfl Try.isAgg110 Try.sizeOf110) rfl rfl (J.cons (.none rfl) (JO.call 104000 (con_slices_Clone_epoch_Epoch_epoch_Epoch hv2) Try.call149 (.cons (.dir rfl) .nil) rfl) rfl rfl (J.cons (.none rfl) (JO.fieldPtr 2 rfl Try.runUnderlying112 rfl Try.sizeOf110 rfl rfl) rfl rfl (J.mut (.none rfl) (JM.store rfl rfl rfl rfl rfl rfl rfl Try.sizeOf110) (J.fin (Sw.Sub.mk id (.cons rfl (.of_eq rfl) (.cons rfl (.of_eq rfl) .nil)) (.box rfl (.cons (.of_eq rfl) (.cons (.of_eq rfl) (.cons (.of_eq rfl) (.cons (.of_eq rfl) .nil)))) (.box rfl (.cons (.of_eq rfl) (.cons (.of_eq rfl) (.cons (.of_eq rfl) (.cons (.of_eq rfl) .nil)))) (.arr rfl (.arr rfl .nil)))) rfl))))))) ?_
  refine W.seq ?_
  refine W.seq ?_
  refine W.reg (σ' := ⟨[(1, .ptr 101 0), (2, .ptr 102 0), (14, .ref 104000), (15, .v (Enc.int .i64) (v2.length : Int)), (16, .v (Enc.int .i64) (0 : Int))], [(101, .box 112 [.v (Enc.int .i64) a0.1, .ref 103000, .ref 104000, .v Enc.bool a0.2.2.2]), (102, .box 112 [.v (Enc.int .i64) (0 : Int), .v (Enc.sl (Enc.pr (Enc.int .i64) eBlk)) ([] : (List (Int × Blk))), .v (Enc.sl (Enc.pr (Enc.int .i64) (Enc.sl (Enc.pr (Enc.int .i64) eBlk)))) ([] : (List (Int × (List (Int × Blk))))), .v Enc.bool false]), (104000, .arr 121 (Enc.pr (Enc.int .i64) (Enc.sl (Enc.pr (Enc.int .i64) eBlk))) v2), (103000, .arr 85 (Enc.pr (Enc.int .i64) eBlk) v1)]⟩) (J.cons (.none rfl) (JO.fieldPtr 2 rfl Try.runUnderlying112 rfl Try.sizeOf110 rfl rfl) rfl rfl (J.cons (.none rfl) (JO.load rfl rfl rfl Try.isAgg110 Try.sizeOf110) rfl rfl (J.cons (.none rfl) (JO.lenR rfl rfl Try.runUnderlying110) rfl rfl (J.cons (.none rfl) (JO.move rfl) rfl rfl (J.fin (Sw.Sub.mk id (.cons rfl (.of_eq rfl) (.cons rfl (.of_eq rfl) (.cons rfl (.of_eq rfl) (.cons rfl (.of_eq rfl) (.cons rfl (.of_eq rfl) .nil))))) (.box rfl (.cons (.of_eq rfl) (.cons (.of_eq rfl) (.cons (.of_eq rfl) (.cons (.of_eq rfl) .nil)))) (.box rfl (.cons (.of_eq rfl) (.cons (.of_eq rfl) (.cons (.of_eq rfl) (.cons (.of_eq rfl) .nil)))) (.arr rfl (.arr rfl .nil)))) rfl)))))) ?_
  obtain ⟨o22, ho22, hb22, hr22⟩ := lp_elim h
  refine W.lp (σs := fun s17 : Int × (List (Int × (List (Int × Blk)))) => ⟨[(1, .ptr 101 0), (2, .ptr 102 0), (14, .ref 104000), (15, .v (Enc.int .i64) (v2.length : Int)), (16, .v (Enc.int .i64) s17.1)], [(101, .box 112 [.v (Enc.int .i64) a0.1, .ref 103000, .ref 104000, .v Enc.bool a0.2.2.2]), (102, .box 112 [.v (Enc.int .i64) (0 : Int), .v (Enc.sl (Enc.pr (Enc.int .i64) eBlk)) ([] : (List (Int × Blk))), .v (Enc.sl (Enc.pr (Enc.int .i64) (Enc.sl (Enc.pr (Enc.int .i64) eBlk)))) ([] : (List (Int × (List (Int × Blk))))), .v Enc.bool false]), (104000, .arr 121 (Enc.pr (Enc.int .i64) (Enc.sl (Enc.pr (Enc.int .i64) eBlk))) s17.2), (103000, .arr 85 (Enc.pr (Enc.int .i64) eBlk) v1)]⟩) (fun x23 : (List (Int × (List (Int × Blk)))) => ⟨[(1, .ptr 101 0), (2, .ptr 102 0)], [(101, .box 112 [.v (Enc.int .i64) a0.1, .ref 103000, .ref 104000, .v Enc.bool a0.2.2.2]), (102, .box 112 [.v (Enc.int .i64) (0 : Int), .v (Enc.sl (Enc.pr (Enc.int .i64) eBlk)) ([] : (List (Int × Blk))), .v (Enc.sl (Enc.pr (Enc.int .i64) (Enc.sl (Enc.pr (Enc.int .i64) eBlk)))) ([] : (List (Int × (List (Int × Blk))))), .v Enc.bool false]), (103000, .arr 85 (Enc.pr (Enc.int .i64) eBlk) v1), (104000, .arr 121 (Enc.pr (Enc.int .i64) (Enc.sl (Enc.pr (Enc.int .i64) eBlk))) x23)]⟩) ho22 (Sw.Sub.mk id (.cons rfl (.of_eq rfl) (.cons rfl (.of_eq rfl) (.cons rfl (.of_eq rfl) (.cons rfl (.of_eq rfl) (.cons rfl (.of_eq rfl) .nil))))) (.box rfl (.cons (.of_eq rfl) (.cons (.of_eq rfl) (.cons (.of_eq rfl) (.cons (.of_eq rfl) .nil)))) (.box rfl (.cons (.of_eq rfl) (.cons (.of_eq rfl) (.cons (.of_eq rfl) (.cons (.of_eq rfl) .nil)))) (.arr rfl (.arr rfl .nil)))) rfl) ?_ ?_
  · intro x23 hy
    have h := hb22 _ hy
    refine W.seq ?_
    refine W.reg (σ' := ⟨[(2, .ptr 102 0)], [(102, .box 112 [.v (Enc.int .i64) a0.1, .ref 103000, .ref 104000, .v Enc.bool a0.2.2.2]), (103000, .arr 85 (Enc.pr (Enc.int .i64) eBlk) v1), (104000, .arr 121 (Enc.pr (Enc.int .i64) (Enc.sl (Enc.pr (Enc.int .i64) eBlk))) x23)]⟩) (J.cons (.none rfl) (JO.loadAgg rfl rfl rfl Try.isAgg112 Try.sizeOf112) rfl rfl (J.mut (.none rfl) (JM.storeAgg rfl rfl rfl rfl rfl rfl Try.sizeOf112) (J.fin (Sw.Sub.mk id (.cons rfl (.of_eq rfl) .nil) (.box rfl (.cons (.of_eq rfl) (.cons (.of_eq rfl) (.cons (.of_eq rfl) (.cons (.of_eq rfl) .nil)))) (.arr rfl (.arr rfl .nil))) rfl)))) ?_
    refine W.ret ?_
    obtain rfl := Option.some.inj h
    exact XQ.sub (σ' := ⟨[(2, .ptr 90 0)], [(90, .box 112 [.v (Enc.int .i64) a0.1, .ref 0, .ref 1, .v Enc.bool a0.2.2.2]), (1, .arr 121 (Enc.pr (Enc.int .i64) (Enc.sl (Enc.pr (Enc.int .i64) eBlk))) x23), (0, .arr 85 (Enc.pr (Enc.int .i64) eBlk) v1)]⟩) (Sw.Sub.mk (rn [(90, 102), (1, 104000), (0, 103000)]) (.cons rfl (.of_eq rfl) .nil) (.box rfl (.cons (.of_eq rfl) (.cons (.of_eq rfl) (.cons (.of_eq rfl) (.cons (.of_eq rfl) .nil)))) (.arr rfl (.arr rfl .nil))) rfl) (XQ.ret1 hF noR rfl (RV.cellAgg rfl rfl rfl Try.isAgg112 Try.sizeOf112) (.cons rfl (.cons rfl .nil)) rfl)
  intro s17 r22 h
  refine W.seq ?_
  refine W.reg (σ' := ⟨[(1, .ptr 101 0), (2, .ptr 102 0), (14, .ref 104000), (15, .v (Enc.int .i64) (v2.length : Int)), (16, .v (Enc.int .i64) s17.1), (17, .v Enc.bool (cm .lss s17.1 (v2.length : Int)))], [(101, .box 112 [.v (Enc.int .i64) a0.1, .ref 103000, .ref 104000, .v Enc.bool a0.2.2.2]), (102, .box 112 [.v (Enc.int .i64) (0 : Int), .v (Enc.sl (Enc.pr (Enc.int .i64) eBlk)) ([] : (List (Int × Blk))), .v (Enc.sl (Enc.pr (Enc.int .i64) (Enc.sl (Enc.pr (Enc.int .i64) eBlk)))) ([] : (List (Int × (List (Int × Blk))))), .v Enc.bool false]), (104000, .arr 121 (Enc.pr (Enc.int .i64) (Enc.sl (Enc.pr (Enc.int .i64) eBlk))) s17.2), (103000, .arr 85 (Enc.pr (Enc.int .i64) eBlk) v1)]⟩) (J.cons (.none rfl) (JO.cmp rfl rfl rfl) rfl rfl (J.fin (Sw.Sub.mk id (.cons rfl (.of_eq rfl) (.cons rfl (.of_eq rfl) (.cons rfl (.of_eq rfl) (.cons rfl (.of_eq rfl) (.cons rfl (.of_eq rfl) (.cons rfl (.of_eq rfl) .nil)))))) (.box rfl (.cons (.of_eq rfl) (.cons (.of_eq rfl) (.cons (.of_eq rfl) (.cons (.of_eq rfl) .nil)))) (.box rfl (.cons (.of_eq rfl) (.cons (.of_eq rfl) (.cons (.of_eq rfl) (.cons (.of_eq rfl) .nil)))) (.arr rfl (.arr rfl .nil)))) rfl))) ?_
  refine W.seq ?_
  rcases Bool.eq_false_or_eq_true (cm .lss s17.1 (v2.length : Int)) with hc24 | hc24
  · replace h := cond_t hc24 h
    refine W.condT rfl hc24 ?_
    refine W.skip ?_
    refine W.seq ?_
    refine W.block ?_
    refine W.seq ?_
    obtain ⟨z25, hz25, h⟩ := bind_e h
    refine W.reg (σ' := ⟨[(1, .ptr 101 0), (2, .ptr 102 0), (3, .v (Enc.int .i64) s17.1), (4, .ptr 113 0), (14, .ref 104000), (15, .v (Enc.int .i64) (v2.length : Int)), (16, .v (Enc.int .i64) s17.1)], [(101, .box 112 [.v (Enc.int .i64) a0.1, .ref 103000, .ref 104000, .v Enc.bool a0.2.2.2]), (102, .box 112 [.v (Enc.int .i64) (0 : Int), .v (Enc.sl (Enc.pr (Enc.int .i64) eBlk)) ([] : (List (Int × Blk))), .v (Enc.sl (Enc.pr (Enc.int .i64) (Enc.sl (Enc.pr (Enc.int .i64) eBlk)))) ([] : (List (Int × (List (Int × Blk))))), .v Enc.bool false]), (113, .box 121 [.v (Enc.int .i64) z25.1, .v (Enc.sl (Enc.pr (Enc.int .i64) eBlk)) z25.2]), (104000, .arr 121 (Enc.pr (Enc.int .i64) (Enc.sl (Enc.pr (Enc.int .i64) eBlk))) s17.2), (103000, .arr 85 (Enc.pr (Enc.int .i64) eBlk) v1)]⟩) (J.cons (.none rfl) (JO.move rfl) rfl rfl (J.cons (.none rfl) (JO.idxR hz25 rfl rfl rfl Try.runUnderlying110 Try.sizeOf121) rfl rfl (J.cons (.none rfl) (JO.loadEl (idx_some hz25).2.2 rfl rfl .here Try.isAgg121 Try.sizeOf121) rfl rfl (J.cons (.none rfl) (JO.alloc 113 Try.zeroValue121 rfl (.cons (Z.int .i64) (.cons (Z.sl (Enc.pr (Enc.int .i64) eBlk)) .nil)) rfl) rfl rfl (J.cons (.none rfl) (JO.assign rfl) rfl rfl (J.mut (.none rfl) (JM.storeAll rfl rfl rfl rfl (.prm (.one _ _) (.one _ _)) Try.sizeOf121) (J.fin (Sw.Sub.mk id (.cons rfl (.of_eq rfl) (.cons rfl (.of_eq rfl) (.cons rfl (.of_eq rfl) (.cons rfl (.of_eq rfl) (.cons rfl (.of_eq rfl) (.cons rfl (.of_eq rfl) (.cons rfl (.of_eq rfl) .nil))))))) (.box rfl (.cons (.of_eq rfl) (.cons (.of_eq rfl) (.cons (.of_eq rfl) (.cons (.of_eq rfl) .nil)))) (.box rfl (.cons (.of_eq rfl) (.cons (.of_eq rfl) (.cons (.of_eq rfl) (.cons (.of_eq rfl) .nil)))) (.box rfl (.cons (.of_eq rfl) (.cons (.of_eq rfl) .nil)) (.arr rfl (.arr rfl .nil))))) rfl)))))))) ?_
    obtain ⟨v26, hv26, h⟩ := bind_e h
    obtain ⟨z27, hz27, h⟩ := bind_e h
    refine W.dr2 (σ' := ⟨[(1, .ptr 101 0), (2, .ptr 102 0), (14, .ref 104000), (15, .v (Enc.int .i64) (v2.length : Int)), (16, .v (Enc.int .i64) s17.1)], [(101, .box 112 [.v (Enc.int .i64) a0.1, .ref 103000, .ref 104000, .v Enc.bool a0.2.2.2]), (102, .box 112 [.v (Enc.int .i64) (0 : Int), .v (Enc.sl (Enc.pr (Enc.int .i64) eBlk)) ([] : (List (Int × Blk))), .v (Enc.sl (Enc.pr (Enc.int .i64) (Enc.sl (Enc.pr (Enc.int .i64) eBlk)))) ([] : (List (Int × (List (Int × Blk))))), .v Enc.bool false]), (104000, .arr 121 (Enc.pr (Enc.int .i64) (Enc.sl (Enc.pr (Enc.int .i64) eBlk))) (List.set s17.2 (Int.toNat s17.1) (z27.1, v26))), (103000, .arr 85 (Enc.pr (Enc.int .i64) eBlk) v1)]⟩) 8 [0, 1, 0, 0, 8, 24, 63, 127, 255] mixed (by exact (.cons (.none rfl) (JO.fieldPtr 2 rfl Try.runUnderlying112 rfl Try.sizeOf110 rfl rfl) rfl rfl (.cons (.none rfl) (JO.load rfl rfl rfl Try.isAgg110 Try.sizeOf110) rfl rfl (.cons (.none rfl) (JO.move rfl) rfl rfl (.cons (.none rfl) (JO.fieldPtr 1 rfl Try.runUnderlying121 rfl Try.sizeOf76 rfl rfl) rfl rfl (.cons (.none rfl) (JO.load rfl rfl rfl Try.isAgg76 Try.sizeOf76) rfl rfl (.cons (.none rfl) (JO.cv (JO.call 114000 (con_slices_Clone_api_Put_api_Put hv26) Try.call109 (.cons (.dir rfl) .nil) rfl) (fun _ => (Sw.Sub.mk id (.cons rfl (.frz rfl rfl) .nil) .nil rfl)) rfl) rfl rfl (.cons (.none rfl) (JO.idxR hz27 rfl rfl rfl Try.runUnderlying110 Try.sizeOf121) rfl rfl (.cons (.none rfl) (JO.fieldEl 1 rfl Try.runUnderlying121 rfl Try.sizeOf76 rfl rfl) rfl rfl .nil))))))))) (by exact (J.mut (.none rfl) (JM.storeElP (idx_some hz27).2.2 rfl rfl rfl (.snd .here) Try.sizeOf76) (J.fin (Sw.Sub.mk id (.cons rfl (.of_eq rfl) (.cons rfl (.of_eq rfl) (.cons rfl (.of_eq rfl) (.cons rfl (.of_eq rfl) (.cons rfl (.of_eq rfl) .nil))))) (.box rfl (.cons (.of_eq rfl) (.cons (.of_eq rfl) (.cons (.of_eq rfl) (.cons (.of_eq rfl) .nil)))) (.box rfl (.cons (.of_eq rfl) (.cons (.of_eq rfl) (.cons (.of_eq rfl) (.cons (.of_eq rfl) .nil)))) (.arr rfl (.arr rfl .nil)))) rfl)))) rfl (by decide +kernel) (by decide +kernel) (by decide +kernel) (by kernel_rfl) ?_
    refine W.fall ?_
    refine W.reg (σ' := ⟨[(1, .ptr 101 0), (2, .ptr 102 0), (14, .ref 104000), (15, .v (Enc.int .i64) (v2.length : Int)), (16, .v (Enc.int .i64) (ar .add .i64 s17.1 (1 : Int)))], [(101, .box 112 [.v (Enc.int .i64) a0.1, .ref 103000, .ref 104000, .v Enc.bool a0.2.2.2]), (102, .box 112 [.v (Enc.int .i64) (0 : Int), .v (Enc.sl (Enc.pr (Enc.int .i64) eBlk)) ([] : (List (Int × Blk))), .v (Enc.sl (Enc.pr (Enc.int .i64) (Enc.sl (Enc.pr (Enc.int .i64) eBlk)))) ([] : (List (Int × (List (Int × Blk))))), .v Enc.bool false]), (104000, .arr 121 (Enc.pr (Enc.int .i64) (Enc.sl (Enc.pr (Enc.int .i64) eBlk))) (List.set s17.2 (Int.toNat s17.1) (z27.1, v26))), (103000, .arr 85 (Enc.pr (Enc.int .i64) eBlk) v1)]⟩) (J.cons (.none rfl) (JO.arith rfl rfl rfl) rfl rfl (J.cons (.none rfl) (JO.move rfl) rfl rfl (J.fin (Sw.Sub.mk id (.cons rfl (.of_eq rfl) (.cons rfl (.of_eq rfl) (.cons rfl (.of_eq rfl) (.cons rfl (.of_eq rfl) (.cons rfl (.of_eq rfl) .nil))))) (.box rfl (.cons (.of_eq rfl) (.cons (.of_eq rfl) (.cons (.of_eq rfl) (.cons (.of_eq rfl) .nil)))) (.box rfl (.cons (.of_eq rfl) (.cons (.of_eq rfl) (.cons (.of_eq rfl) (.cons (.of_eq rfl) .nil)))) (.arr rfl (.arr rfl .nil)))) rfl)))) ?_
    obtain rfl := Option.some.inj h
    exact W.next (Sw.Sub.mk id (.cons rfl (.of_eq rfl) (.cons rfl (.of_eq rfl) (.cons rfl (.of_eq rfl) (.cons rfl (.of_eq rfl) (.cons rfl (.of_eq rfl) .nil))))) (.box rfl (.cons (.of_eq rfl) (.cons (.of_eq rfl) (.cons (.of_eq rfl) (.cons (.of_eq rfl) .nil)))) (.box rfl (.cons (.of_eq rfl) (.cons (.of_eq rfl) (.cons (.of_eq rfl) (.cons (.of_eq rfl) .nil)))) (.arr rfl (.arr rfl .nil)))) rfl)
  · replace h := cond_f hc24 h
    refine W.condF rfl hc24 ?_
    refine W.exit ?_
    obtain rfl := Option.some.inj h
    exact XQ.brk (Sw.Sub.mk id (.cons rfl (.of_eq rfl) (.cons rfl (.of_eq rfl) .nil)) (.box rfl (.cons (.of_eq rfl) (.cons (.of_eq rfl) (.cons (.of_eq rfl) (.cons (.of_eq rfl) .nil)))) (.box rfl (.cons (.of_eq rfl) (.cons (.of_eq rfl) (.cons (.of_eq rfl) (.cons (.of_eq rfl) .nil)))) (.arr rfl (.arr rfl .nil)))) rfl)
set_option maxRecDepth 100000 in
set_option maxHeartbeats 4000000 in
theorem con_epoch_Add_1 {a0 : (Int × Blk)} {a1 : Int} {r : Int} (h : m_epoch_Add_1 a0 a1 = some r) :
    Con Try.prog 124 [.v (Enc.pr (Enc.int .i64) eBlk) a0, .v (Enc.int .i64) a1] (.v (Enc.int .i64) r) [] := by
  refine Con.of Try.func124 rfl Try.ntmps124 rfl ?_
  intro S w hF
  unfold m_epoch_Add_1 at h
  refine W.seq ?_
  refine W.reg (σ' := ⟨[(1, .v (Enc.int .i64) a1), (2, .ptr 101 0)], [(101, .box 85 [.v (Enc.int .i64) a0.1, .v eBlk a0.2])]⟩) (J.cons (.none rfl) (JO.box 101 rfl (.prm (.one _ _) (.one _ _)) rfl) rfl rfl (J.cons (.none rfl) (JO.assign rfl) rfl rfl (J.fin (Sw.Sub.mk id (.cons rfl (.of_eq rfl) (.cons rfl (.of_eq rfl) .nil)) (.box rfl (.cons (.of_eq rfl) (.cons (.of_eq rfl) .nil)) .nil) rfl)))) ?_
  refine W.seq ?_
  refine W.reg (σ' := ⟨[(4, .v (Enc.int .i64) (ar .sub .i64 a0.1 a1))], []⟩) (J.cons (.none rfl) (JO.fieldPtr 0 rfl Try.runUnderlying85 rfl Try.sizeOf3 rfl rfl) rfl rfl (J.cons (.none rfl) (JO.load rfl rfl rfl Try.isAgg3 Try.sizeOf3) rfl rfl (J.cons (.none rfl) (JO.move rfl) rfl rfl (J.cons (.none rfl) (JO.arith rfl rfl rfl) rfl rfl (J.cons (.none rfl) (JO.assign rfl) rfl rfl (J.fin (Sw.Sub.mk id (.cons rfl (.of_eq rfl) .nil) .nil rfl))))))) ?_
  refine W.ret ?_
  obtain rfl := Option.some.inj h
  exact XQ.sub (σ' := ⟨[(4, .v (Enc.int .i64) (ar .sub .i64 a0.1 a1))], []⟩) (Sw.Sub.mk id (.cons rfl (.of_eq rfl) .nil) .nil rfl) (XQ.ret1 hF noR rfl (RV.tmp rfl) .nil rfl)
set_option maxRecDepth 100000 in
set_option maxHeartbeats 4000000 in
theorem con_slices_BinarySearchFunc_api_Put_api_Put_int__epoch_Add_1 {a0 : (List (Int × Blk))} {a1 : Int} {r : Int × Bool} (h : m_slices_BinarySearchFunc_api_Put_api_Put_int__epoch_Add_1 a0 a1 = some r) :
    Con Try.prog 123 [.v (Enc.sl (Enc.pr (Enc.int .i64) eBlk)) a0, .v (Enc.int .i64) a1, .fnc 124 []] (.tup [.v (Enc.int .i64) r.1, .v Enc.bool r.2]) [] := by
  refine Con.of Try.func123 rfl Try.ntmps123 rfl ?_
  intro S w hF
  unfold m_slices_BinarySearchFunc_api_Put_api_Put_int__epoch_Add_1 at h
  refine W.seq ?_
  refine W.reg (σ' := ⟨[(0, .v (Enc.sl (Enc.pr (Enc.int .i64) eBlk)) a0), (1, .v (Enc.int .i64) a1), (2, .fnc 124 [])], []⟩) (J.cons (.none rfl) (JO.assign rfl) rfl rfl (J.cons (.none rfl) (JO.assign rfl) rfl rfl (J.fin (Sw.Sub.mk id (.cons rfl (.of_eq rfl) (.cons rfl (.of_eq rfl) (.cons rfl (.of_eq rfl) .nil))) .nil rfl)))) ?_
  refine W.seq ?_
  refine W.reg (σ' := ⟨[(0, .v (Enc.sl (Enc.pr (Enc.int .i64) eBlk)) a0), (1, .v (Enc.int .i64) a1), (2, .fnc 124 []), (8, .v (Enc.int .i64) (a0.length : Int))], []⟩) (J.cons (.none rfl) (JO.move rfl) rfl rfl (J.cons (.none rfl) (JO.len rfl Try.runUnderlying76) rfl rfl (J.cons (.none rfl) (JO.assign rfl) rfl rfl (J.fin (Sw.Sub.mk id (.cons rfl (.of_eq rfl) (.cons rfl (.of_eq rfl) (.cons rfl (.of_eq rfl) (.cons rfl (.of_eq rfl) .nil)))) .nil rfl))))) ?_
  refine W.seq ?_
  refine W.reg (σ' := ⟨[(0, .v (Enc.sl (Enc.pr (Enc.int .i64) eBlk)) a0), (1, .v (Enc.int .i64) a1), (2, .fnc 124 []), (8, .v (Enc.int .i64) (a0.length : Int)), (9, .v (Enc.int .i64) (0 : Int)), (10, .v (Enc.int .i64) (a0.length : Int))], []⟩) (J.cons (.none rfl) (JO.move rfl) rfl rfl (J.cons (.none rfl) (JO.assign rfl) rfl rfl (J.cons (.none rfl) (JO.assign rfl) rfl rfl (J.fin (Sw.Sub.mk id (.cons rfl (.of_eq rfl) (.cons rfl (.of_eq rfl) (.cons rfl (.of_eq rfl) (.cons rfl (.of_eq rfl) (.cons rfl (.of_eq rfl) (.cons rfl (.of_eq rfl) .nil)))))) .nil rfl))))) ?_
  refine W.seq ?_
  obtain ⟨o16, ho16, hb16, hr16⟩ := lp_elim h
  refine W.lp (σs := fun s11 : Int × Int => ⟨[(0, .v (Enc.sl (Enc.pr (Enc.int .i64) eBlk)) a0), (1, .v (Enc.int .i64) a1), (2, .fnc 124 []), (8, .v (Enc.int .i64) (a0.length : Int)), (9, .v (Enc.int .i64) s11.1), (10, .v (Enc.int .i64) s11.2)], []⟩) (fun x17 : Int => ⟨[(0, .v (Enc.sl (Enc.pr (Enc.int .i64) eBlk)) a0), (1, .v (Enc.int .i64) a1), (2, .fnc 124 []), (8, .v (Enc.int .i64) (a0.length : Int)), (9, .v (Enc.int .i64) x17)], []⟩) ho16 (Sw.Sub.mk id (.cons rfl (.of_eq rfl) (.cons rfl (.of_eq rfl) (.cons rfl (.of_eq rfl) (.cons rfl (.of_eq rfl) (.cons rfl (.of_eq rfl) (.cons rfl (.of_eq rfl) .nil)))))) .nil rfl) ?_ ?_
  · intro x17 hy
    have h := hb16 _ hy
    refine W.seq ?_
    obtain ⟨x25, hx, h⟩ := bind_e h
    refine W.reg (σ' := ⟨[(6, .v (Enc.int .i64) x17), (7, .v Enc.bool x25)], []⟩) ?_ ?_
    · rcases Bool.eq_false_or_eq_true (cm .lss x17 (a0.length : Int)) with hc26 | hc26
      · replace hx := cond_t hc26 hx
        obtain ⟨z27, hz27, hx⟩ := bind_e hx
        obtain ⟨v28, hv28, hx⟩ := bind_e hx
        obtain rfl := Option.some.inj hx
        exact (J.cons (.none rfl) (JO.move rfl) rfl rfl (J.cons (.none rfl) (JO.move rfl) rfl rfl (J.cons (.none rfl) (JO.move rfl) rfl rfl (J.cons (.none rfl) (JO.cmp rfl rfl rfl) rfl rfl (J.cons (.none rfl) (JO.move rfl) rfl rfl (J.cons (GK.met 39 rfl rfl rfl hc26) (JO.move rfl) rfl rfl (J.cons (GK.met 39 rfl rfl rfl hc26) (JO.move rfl) rfl rfl (J.cons (GK.met 39 rfl rfl rfl hc26) (JO.move rfl) rfl rfl (J.cons (GK.met 39 rfl rfl rfl hc26) (JO.idx hz27 rfl rfl Try.runUnderlying76 Try.sizeOf85) rfl rfl (J.cons (GK.met 39 rfl rfl rfl hc26) (JO.loadPst rfl Try.isAgg85 Try.sizeOf85) rfl rfl (J.cons (GK.met 39 rfl rfl rfl hc26) (JO.move rfl) rfl rfl (J.cons (GK.met 39 rfl rfl rfl hc26) (JO.callF0 rfl (con_epoch_Add_1 hv28) Try.call124 (.cons (.dir rfl) (.cons (.dir rfl) .nil))) rfl rfl (J.cons (GK.met 39 rfl rfl rfl hc26) (JO.cmp rfl rfl rfl) rfl rfl (J.cons (.none rfl) (JO.pT hc26 rfl rfl) rfl rfl (J.cons (.none rfl) (JO.assign rfl) rfl rfl (J.cons (.none rfl) (JO.assign rfl) rfl rfl (J.fin (Sw.Sub.mk id (.cons rfl (.of_eq rfl) (.cons rfl (.of_eq rfl) .nil)) .nil rfl))))))))))))))))))
      · replace hx := cond_f hc26 hx
        obtain rfl := Option.some.inj hx
        exact (J.cons (.none rfl) (JO.move rfl) rfl rfl (J.cons (.none rfl) (JO.move rfl) rfl rfl (J.cons (.none rfl) (JO.move rfl) rfl rfl (J.cons (.none rfl) (JO.cmp rfl rfl rfl) rfl rfl (J.cons (.none rfl) (JO.move rfl) rfl rfl (J.left (GK.unmet 39 rfl rfl rfl hc26) rfl (J.left (GK.unmet 39 rfl rfl rfl hc26) rfl (J.left (GK.unmet 39 rfl rfl rfl hc26) rfl (J.left (GK.unmet 39 rfl rfl rfl hc26) rfl (J.left (GK.unmet 39 rfl rfl rfl hc26) rfl (J.left (GK.unmet 39 rfl rfl rfl hc26) rfl (J.left (GK.unmet 39 rfl rfl rfl hc26) rfl (J.left (GK.unmet 39 rfl rfl rfl hc26) rfl (J.cons (.none rfl) (JO.pF hc26 rfl rfl) rfl rfl (J.cons (.none rfl) (JO.assign rfl) rfl rfl (J.cons (.none rfl) (JO.assign rfl) rfl rfl (J.fin (Sw.Sub.mk id (.cons rfl (.of_eq rfl) (.cons rfl (.of_eq rfl) .nil)) .nil rfl))))))))))))))))))
    refine W.ret ?_
    obtain rfl := Option.some.inj h
    exact XQ.sub (σ' := ⟨[(6, .v (Enc.int .i64) x17), (7, .v Enc.bool x25)], []⟩) (Sw.Sub.mk id (.cons rfl (.of_eq rfl) (.cons rfl (.of_eq rfl) .nil)) .nil rfl) (XQ.ret2 hF noR rfl (RV.tmp rfl) (RV.tmp rfl) .nil rfl)
  intro s11 r16 h
  refine W.seq ?_
  refine W.seq ?_
  refine W.reg (σ' := ⟨[(0, .v (Enc.sl (Enc.pr (Enc.int .i64) eBlk)) a0), (1, .v (Enc.int .i64) a1), (2, .fnc 124 []), (8, .v (Enc.int .i64) (a0.length : Int)), (9, .v (Enc.int .i64) s11.1), (10, .v (Enc.int .i64) s11.2), (17, .v Enc.bool (cm .lss s11.1 s11.2))], []⟩) (J.cons (.none rfl) (JO.move rfl) rfl rfl (J.cons (.none rfl) (JO.move rfl) rfl rfl (J.cons (.none rfl) (JO.cmp rfl rfl rfl) rfl rfl (J.fin (Sw.Sub.mk id (.cons rfl (.of_eq rfl) (.cons rfl (.of_eq rfl) (.cons rfl (.of_eq rfl) (.cons rfl (.of_eq rfl) (.cons rfl (.of_eq rfl) (.cons rfl (.of_eq rfl) (.cons rfl (.of_eq rfl) .nil))))))) .nil rfl))))) ?_
  rcases Bool.eq_false_or_eq_true (cm .lss s11.1 s11.2) with hc18 | hc18
  · replace h := cond_t hc18 h
    refine W.condT rfl hc18 ?_
    refine W.skip ?_
    refine W.block ?_
    refine W.seq ?_
    refine W.reg (σ' := ⟨[(0, .v (Enc.sl (Enc.pr (Enc.int .i64) eBlk)) a0), (1, .v (Enc.int .i64) a1), (2, .fnc 124 []), (8, .v (Enc.int .i64) (a0.length : Int)), (9, .v (Enc.int .i64) s11.1), (10, .v (Enc.int .i64) s11.2), (11, .v (Enc.int .i64) (IntKind.wrap .i64 (sh .shr .u64 (IntKind.wrap .u64 (ar .add .i64 s11.1 s11.2)) (1 : Int))))], []⟩) (J.cons (.none rfl) (JO.move rfl) rfl rfl (J.cons (.none rfl) (JO.move rfl) rfl rfl (J.cons (.none rfl) (JO.arith rfl rfl rfl) rfl rfl (J.cons (.none rfl) (JO.conv Try.runUnderlying3 Try.runUnderlying156 rfl) rfl rfl (J.cons (.none rfl) (JO.shift (.inr rfl) (by decide) rfl rfl) rfl rfl (J.cons (.none rfl) (JO.conv Try.runUnderlying156 Try.runUnderlying3 rfl) rfl rfl (J.cons (.none rfl) (JO.assign rfl) rfl rfl (J.fin (Sw.Sub.mk id (.cons rfl (.of_eq rfl) (.cons rfl (.of_eq rfl) (.cons rfl (.of_eq rfl) (.cons rfl (.of_eq rfl) (.cons rfl (.of_eq rfl) (.cons rfl (.of_eq rfl) (.cons rfl (.of_eq rfl) .nil))))))) .nil rfl))))))))) ?_
    refine W.seq ?_
    obtain ⟨z19, hz19, h⟩ := bind_e h
    obtain ⟨v20, hv20, h⟩ := bind_e h
    refine W.reg (σ' := ⟨[(0, .v (Enc.sl (Enc.pr (Enc.int .i64) eBlk)) a0), (1, .v (Enc.int .i64) a1), (2, .fnc 124 []), (8, .v (Enc.int .i64) (a0.length : Int)), (9, .v (Enc.int .i64) s11.1), (10, .v (Enc.int .i64) s11.2), (11, .v (Enc.int .i64) (IntKind.wrap .i64 (sh .shr .u64 (IntKind.wrap .u64 (ar .add .i64 s11.1 s11.2)) (1 : Int)))), (31, .v Enc.bool (cm .lss v20 (0 : Int)))], []⟩) (J.cons (.none rfl) (JO.move rfl) rfl rfl (J.cons (.none rfl) (JO.move rfl) rfl rfl (J.cons (.none rfl) (JO.move rfl) rfl rfl (J.cons (.none rfl) (JO.idx hz19 rfl rfl Try.runUnderlying76 Try.sizeOf85) rfl rfl (J.cons (.none rfl) (JO.loadPst rfl Try.isAgg85 Try.sizeOf85) rfl rfl (J.cons (.none rfl) (JO.move rfl) rfl rfl (J.cons (.none rfl) (JO.callF0 rfl (con_epoch_Add_1 hv20) Try.call124 (.cons (.dir rfl) (.cons (.dir rfl) .nil))) rfl rfl (J.cons (.none rfl) (JO.cmp rfl rfl rfl) rfl rfl (J.fin (Sw.Sub.mk id (.cons rfl (.of_eq rfl) (.cons rfl (.of_eq rfl) (.cons rfl (.of_eq rfl) (.cons rfl (.of_eq rfl) (.cons rfl (.of_eq rfl) (.cons rfl (.of_eq rfl) (.cons rfl (.of_eq rfl) (.cons rfl (.of_eq rfl) .nil)))))))) .nil rfl)))))))))) ?_
    rcases Bool.eq_false_or_eq_true (cm .lss v20 (0 : Int)) with hc21 | hc21
    · replace h := cond_t hc21 h
      refine W.condT rfl hc21 ?_
      refine W.reg (σ' := ⟨[(0, .v (Enc.sl (Enc.pr (Enc.int .i64) eBlk)) a0), (1, .v (Enc.int .i64) a1), (2, .fnc 124 []), (8, .v (Enc.int .i64) (a0.length : Int)), (9, .v (Enc.int .i64) (ar .add .i64 (IntKind.wrap .i64 (sh .shr .u64 (IntKind.wrap .u64 (ar .add .i64 s11.1 s11.2)) (1 : Int))) (1 : Int))), (10, .v (Enc.int .i64) s11.2)], []⟩) (J.cons (.none rfl) (JO.move rfl) rfl rfl (J.cons (.none rfl) (JO.arith rfl rfl rfl) rfl rfl (J.cons (.none rfl) (JO.assign rfl) rfl rfl (J.fin (Sw.Sub.mk id (.cons rfl (.of_eq rfl) (.cons rfl (.of_eq rfl) (.cons rfl (.of_eq rfl) (.cons rfl (.of_eq rfl) (.cons rfl (.of_eq rfl) (.cons rfl (.of_eq rfl) .nil)))))) .nil rfl))))) ?_
      refine W.fall ?_
      obtain rfl := Option.some.inj h
      exact W.next (Sw.Sub.mk id (.cons rfl (.of_eq rfl) (.cons rfl (.of_eq rfl) (.cons rfl (.of_eq rfl) (.cons rfl (.of_eq rfl) (.cons rfl (.of_eq rfl) (.cons rfl (.of_eq rfl) .nil)))))) .nil rfl)
    · replace h := cond_f hc21 h
      refine W.condF rfl hc21 ?_
      refine W.reg (σ' := ⟨[(0, .v (Enc.sl (Enc.pr (Enc.int .i64) eBlk)) a0), (1, .v (Enc.int .i64) a1), (2, .fnc 124 []), (8, .v (Enc.int .i64) (a0.length : Int)), (9, .v (Enc.int .i64) s11.1), (10, .v (Enc.int .i64) (IntKind.wrap .i64 (sh .shr .u64 (IntKind.wrap .u64 (ar .add .i64 s11.1 s11.2)) (1 : Int))))], []⟩) (J.cons (.none rfl) (JO.move rfl) rfl rfl (J.cons (.none rfl) (JO.assign rfl) rfl rfl (J.fin (Sw.Sub.mk id (.cons rfl (.of_eq rfl) (.cons rfl (.of_eq rfl) (.cons rfl (.of_eq rfl) (.cons rfl (.of_eq rfl) (.cons rfl (.of_eq rfl) (.cons rfl (.of_eq rfl) .nil)))))) .nil rfl)))) ?_
      refine W.fall ?_
      obtain rfl := Option.some.inj h
      exact W.next (Sw.Sub.mk id (.cons rfl (.of_eq rfl) (.cons rfl (.of_eq rfl) (.cons rfl (.of_eq rfl) (.cons rfl (.of_eq rfl) (.cons rfl (.of_eq rfl) (.cons rfl (.of_eq rfl) .nil)))))) .nil rfl)
  · replace h := cond_f hc18 h
    refine W.condF rfl hc18 ?_
    refine W.exit ?_
    obtain rfl := Option.some.inj h
    exact XQ.brk (Sw.Sub.mk id (.cons rfl (.of_eq rfl) (.cons rfl (.of_eq rfl) (.cons rfl (.of_eq rfl) (.cons rfl (.of_eq rfl) (.cons rfl (.of_eq rfl) .nil))))) .nil rfl)
set_option maxRecDepth 100000 in
set_option maxHeartbeats 4000000 in
theorem con_slices_Insert_api_Put_api_Put (A0 : Nat → Nat) {a0 : (List (Int × Blk))} {a1 : Int} {a2 : (List (Int × Blk))} {r : (List (Int × Blk))} (h : m_slices_Insert_api_Put_api_Put a0 a1 a2 = some r) :
    ConM Try.prog 125 [.ref 9000, .v (Enc.int .i64) a1, .v (Enc.sl (Enc.pr (Enc.int .i64) eBlk)) a2] [(9000, .arr 85 (Enc.pr (Enc.int .i64) eBlk) a0)] (.ref 0) [(0, .arr 85 (Enc.pr (Enc.int .i64) eBlk) r)] := by
  obtain ⟨h0, h1, h2, rfl⟩ := ins_some h
  obtain ⟨i, rfl⟩ : ∃ i : Nat, a1 = (i : Int) := ⟨a1.toNat, by omega⟩
  obtain ⟨A, B, hA, rfl⟩ : ∃ A B, A.length = i ∧ a0 = A ++ B := ⟨a0.take i, a0.drop i, by rw [List.length_take]; omega, (List.take_append_drop _ _).symm⟩
  subst hA
  have hr : (A ++ B).take ((A.length : Int)).toNat ++ (a2 ++ (A ++ B).drop ((A.length : Int)).toNat) = A ++ (a2 ++ B) := by simp
  rw [hr]; clear hr h h0 h1
  have hn : (A ++ B).length = A.length + B.length := List.length_append
  have hs1 : Sw.sub (A ++ B) (A.length : Int) ((A ++ B).length : Int) = some B := by rw [Sw.sub, if_pos (by omega), Int.toNat_natCast, Int.toNat_natCast, List.take_length, List.drop_left]
  have hw1 : ar .add .i64 ((A ++ B).length : Int) (a2.length : Int) = ((A.length + B.length + a2.length : Nat) : Int) := by simp only [ar, IntKind.wrap_i64]; omega
  have hw2 : ar .sub .i64 (ar .add .i64 ((A ++ B).length : Int) (a2.length : Int)) (A.length : Int) = ((B.length + a2.length : Nat) : Int) := by rw [hw1]; simp only [ar, IntKind.wrap_i64]; omega
  have hw3 : ar .add .i64 (A.length : Int) (a2.length : Int) = ((A.length + a2.length : Nat) : Int) := by simp only [ar, IntKind.wrap_i64]; omega
  refine ConM.of Try.func125 rfl Try.ntmps125 rfl ?_
  intro S w R hF
  repeat refine W.seq ?_
  refine W.reg (σ' := ⟨[(0, .ref 9000), (1, .v (Enc.int .i64) (A.length : Int)), (2, .v (Enc.sl (Enc.pr (Enc.int .i64) eBlk)) a2)], [(9000, .arr 85 (Enc.pr (Enc.int .i64) eBlk) (A ++ B))]⟩) (J.cons (.none rfl) (JO.assignNil (Enc.pr (Enc.int .i64) eBlk)) rfl rfl (J.fin (Sw.Sub.mk id (.cons rfl (.of_eq rfl) (.cons rfl (.of_eq rfl) (.cons rfl (.of_eq rfl) .nil))) (.arr rfl .nil) rfl))) ?_
  repeat refine W.seq ?_
  refine W.reg (σ' := ⟨[(0, .ref 9000), (1, .v (Enc.int .i64) (A.length : Int)), (2, .v (Enc.sl (Enc.pr (Enc.int .i64) eBlk)) a2)], [(9000, .arr 85 (Enc.pr (Enc.int .i64) eBlk) (A ++ B))]⟩) (J.cons (.none rfl) (JO.move rfl) rfl rfl (J.cons (.none rfl) (JO.move rfl) rfl rfl (J.cons (.none rfl) (JO.srLo hs1 rfl rfl rfl Try.runUnderlying76 Try.sizeOf85) rfl rfl (J.fin (Sw.Sub.mk id (.cons rfl (.of_eq rfl) (.cons rfl (.of_eq rfl) (.cons rfl (.of_eq rfl) .nil))) (.arr rfl .nil) rfl))))) ?_
  repeat refine W.seq ?_
  refine W.reg (σ' := ⟨[(0, .ref 9000), (1, .v (Enc.int .i64) (A.length : Int)), (2, .v (Enc.sl (Enc.pr (Enc.int .i64) eBlk)) a2), (7, .v (Enc.int .i64) (a2.length : Int))], [(9000, .arr 85 (Enc.pr (Enc.int .i64) eBlk) (A ++ B))]⟩) (J.cons (.none rfl) (JO.move rfl) rfl rfl (J.cons (.none rfl) (JO.len rfl Try.runUnderlying76) rfl rfl (J.cons (.none rfl) (JO.assign rfl) rfl rfl (J.fin (Sw.Sub.mk id (.cons rfl (.of_eq rfl) (.cons rfl (.of_eq rfl) (.cons rfl (.of_eq rfl) (.cons rfl (.of_eq rfl) .nil)))) (.arr rfl .nil) rfl))))) ?_
  repeat refine W.seq ?_
  refine W.reg (σ' := ⟨[(0, .ref 9000), (1, .v (Enc.int .i64) (A.length : Int)), (2, .v (Enc.sl (Enc.pr (Enc.int .i64) eBlk)) a2), (7, .v (Enc.int .i64) (a2.length : Int)), (16, .v Enc.bool (cm .eql (a2.length : Int) (0 : Int)))], [(9000, .arr 85 (Enc.pr (Enc.int .i64) eBlk) (A ++ B))]⟩) (J.cons (.none rfl) (JO.move rfl) rfl rfl (J.cons (.none rfl) (JO.cmp rfl rfl rfl) rfl rfl (J.fin (Sw.Sub.mk id (.cons rfl (.of_eq rfl) (.cons rfl (.of_eq rfl) (.cons rfl (.of_eq rfl) (.cons rfl (.of_eq rfl) (.cons rfl (.of_eq rfl) .nil))))) (.arr rfl .nil) rfl)))) ?_
  repeat refine W.seq ?_
  rcases Bool.eq_false_or_eq_true (cm .eql (a2.length : Int) (0 : Int)) with hc | hc
  · have ha2 : a2 = [] := List.eq_nil_of_length_eq_zero (by simp [cm] at hc; simp [hc])
    have hfin : A ++ B = A ++ (a2 ++ B) := by rw [ha2]; rfl
    refine W.condT rfl hc ?_
    repeat refine W.seq ?_
    refine W.reg (σ' := ⟨[(0, .ref 9000), (1, .v (Enc.int .i64) (A.length : Int)), (2, .v (Enc.sl (Enc.pr (Enc.int .i64) eBlk)) a2), (6, .ref 9000), (7, .v (Enc.int .i64) (a2.length : Int)), (16, .v Enc.bool (cm .eql (a2.length : Int) (0 : Int))), (17, .ref 9000)], [(9000, .arr 85 (Enc.pr (Enc.int .i64) eBlk) (A ++ B))]⟩) (J.cons (.none rfl) (JO.move rfl) rfl rfl (J.cons (.none rfl) (JO.assign rfl) rfl rfl (J.fin (Sw.Sub.mk id (.cons rfl (.of_eq rfl) (.cons rfl (.of_eq rfl) (.cons rfl (.of_eq rfl) (.cons rfl (.of_eq rfl) (.cons rfl (.of_eq rfl) (.cons rfl (.of_eq rfl) (.cons rfl (.of_eq rfl) .nil))))))) (.arr rfl .nil) rfl)))) ?_
    refine W.ret ?_
    rw [hfin]
    exact XQ.sub (σ' := ⟨[(6, .ref 0)], [(0, .arr 85 (Enc.pr (Enc.int .i64) eBlk) (A ++ (a2 ++ B)))]⟩) (Sw.Sub.mk (rn [(0, 9000)]) (.cons rfl (.of_eq rfl) .nil) (.arr rfl .nil) rfl) (XQ.retM1 hF rfl (RV.tmp rfl) (.cons rfl .nil))
  have hm : 0 < a2.length := by
    simp [cm] at hc; exact List.length_pos_iff.2 hc
  have ha2 : a2 ≠ [] := List.length_pos_iff.1 hm
  refine W.condF rfl hc ?_
  clear hc
  repeat first | refine W.skip ?_ | refine W.seq ?_
  refine W.reg (σ' := ⟨[(0, .ref 9000), (1, .v (Enc.int .i64) (A.length : Int)), (2, .v (Enc.sl (Enc.pr (Enc.int .i64) eBlk)) a2), (7, .v (Enc.int .i64) (a2.length : Int)), (8, .v (Enc.int .i64) ((A ++ B).length : Int))], [(9000, .arr 85 (Enc.pr (Enc.int .i64) eBlk) (A ++ B))]⟩) (J.cons (.none rfl) (JO.move rfl) rfl rfl (J.cons (.none rfl) (JO.lenR rfl rfl Try.runUnderlying76) rfl rfl (J.cons (.none rfl) (JO.assign rfl) rfl rfl (J.fin (Sw.Sub.mk id (.cons rfl (.of_eq rfl) (.cons rfl (.of_eq rfl) (.cons rfl (.of_eq rfl) (.cons rfl (.of_eq rfl) (.cons rfl (.of_eq rfl) .nil))))) (.arr rfl .nil) rfl))))) ?_
  repeat refine W.seq ?_
  refine W.reg (σ' := ⟨[(0, .ref 9000), (1, .v (Enc.int .i64) (A.length : Int)), (2, .v (Enc.sl (Enc.pr (Enc.int .i64) eBlk)) a2), (7, .v (Enc.int .i64) (a2.length : Int)), (8, .v (Enc.int .i64) ((A ++ B).length : Int)), (22, .v Enc.bool (cm .eql (A.length : Int) ((A ++ B).length : Int)))], [(9000, .arr 85 (Enc.pr (Enc.int .i64) eBlk) (A ++ B))]⟩) (J.cons (.none rfl) (JO.move rfl) rfl rfl (J.cons (.none rfl) (JO.move rfl) rfl rfl (J.cons (.none rfl) (JO.cmp rfl rfl rfl) rfl rfl (J.fin (Sw.Sub.mk id (.cons rfl (.of_eq rfl) (.cons rfl (.of_eq rfl) (.cons rfl (.of_eq rfl) (.cons rfl (.of_eq rfl) (.cons rfl (.of_eq rfl) (.cons rfl (.of_eq rfl) .nil)))))) (.arr rfl .nil) rfl))))) ?_
  repeat refine W.seq ?_
  rcases Bool.eq_false_or_eq_true (cm .eql (A.length : Int) ((A ++ B).length : Int)) with hc | hc
  · have hB : B = [] := List.eq_nil_of_length_eq_zero (by simp [cm] at hc; omega)
    have happ : Sw.app (A ++ B) a2 = some (A ++ (a2 ++ B)) := by subst hB; rw [Sw.app, if_pos h2]; simp
    refine W.condT rfl hc ?_
    repeat refine W.seq ?_
    refine W.reg (σ' := ⟨[(1, .v (Enc.int .i64) (A.length : Int)), (2, .v (Enc.sl (Enc.pr (Enc.int .i64) eBlk)) a2), (6, .ref 1), (7, .v (Enc.int .i64) (a2.length : Int)), (8, .v (Enc.int .i64) ((A ++ B).length : Int)), (24, .v (Enc.sl (Enc.pr (Enc.int .i64) eBlk)) a2), (25, .ref 1)], [(1, .arr 85 (Enc.pr (Enc.int .i64) eBlk) (A ++ (a2 ++ B)))]⟩) (J.cons (.none rfl) (JO.move rfl) rfl rfl (J.cons (.none rfl) (JO.move rfl) rfl rfl (J.mut (.none rfl) (JM.append 1 happ rfl rfl (.sl rfl) Try.runUnderlying76 Try.typeInfo85 Try.sizeOf85 rfl rfl rfl rfl rfl) (J.cons (.none rfl) (JO.assign rfl) rfl rfl (J.fin (Sw.Sub.mk id (.cons rfl (.of_eq rfl) (.cons rfl (.of_eq rfl) (.cons rfl (.of_eq rfl) (.cons rfl (.of_eq rfl) (.cons rfl (.of_eq rfl) (.cons rfl (.of_eq rfl) (.cons rfl (.of_eq rfl) .nil))))))) (.arr rfl .nil) rfl)))))) ?_
    refine W.ret ?_
    exact XQ.sub (σ' := ⟨[(6, .ref 0)], [(0, .arr 85 (Enc.pr (Enc.int .i64) eBlk) (A ++ (a2 ++ B)))]⟩) (Sw.Sub.mk (rn [(0, 1)]) (.cons rfl (.of_eq rfl) .nil) (.arr rfl .nil) rfl) (XQ.retM1 hF rfl (RV.tmp rfl) (.cons rfl .nil))
  have hB : B ≠ [] := by
    rintro rfl; simp [cm] at hc
  have hBl := List.length_pos_iff.2 hB
  refine W.condF rfl hc ?_
  clear hc
  repeat first | refine W.skip ?_ | refine W.seq ?_
  refine W.openSeg (t := 0) (g' := [(1, .v (Enc.int .i64) (A.length : Int)), (2, .v (Enc.sl (Enc.pr (Enc.int .i64) eBlk)) a2), (7, .v (Enc.int .i64) (a2.length : Int)), (8, .v (Enc.int .i64) ((A ++ B).length : Int))]) rfl hB rfl (by exact (.cons rfl (.cons rfl (.cons rfl (.cons rfl .nil))))) rfl fun b p q c hc1 hc2 hc3 => ?_
  have hen : ((Enc.pr (Enc.int .i64) eBlk)).n = 9 := rfl
  refine W.reg (σ' := ⟨[(0, .asl 9000 p 0 ((A ++ B).length) c), (1, .v (Enc.int .i64) (A.length : Int)), (2, .v (Enc.sl (Enc.pr (Enc.int .i64) eBlk)) a2), (7, .v (Enc.int .i64) (a2.length : Int)), (8, .v (Enc.int .i64) ((A ++ B).length : Int)), (31, .v Enc.bool (cm .gtr (ar .add .i64 ((A ++ B).length : Int) (a2.length : Int)) (c : Int)))], [(9000, .dp (DE.seg 85 (Enc.pr (Enc.int .i64) eBlk) b) [.any p, .rows A, .rows B, .any q] [])]⟩) (J.cons (.none rfl) (JO.move rfl) rfl rfl (J.cons (.none rfl) (JO.move rfl) rfl rfl (J.cons (.none rfl) (JO.arith rfl rfl rfl) rfl rfl (J.cons (.none rfl) (JO.move rfl) rfl rfl (J.cons (.none rfl) (JO.capRaw rfl Try.runUnderlying76) rfl rfl (J.cons (.none rfl) (JO.gtrRaw rfl rfl) rfl rfl (J.fin (Sw.Sub.mk id (.cons rfl (.of_eq rfl) (.cons rfl (.of_eq rfl) (.cons rfl (.of_eq rfl) (.cons rfl (.of_eq rfl) (.cons rfl (.of_eq rfl) (.cons rfl (.of_eq rfl) .nil)))))) (.dp rfl .nil) rfl)))))))) ?_
  repeat refine W.seq ?_
  rcases Bool.eq_false_or_eq_true (cm .gtr (ar .add .i64 ((A ++ B).length : Int) (a2.length : Int)) (c : Int)) with hc | hc
  · have hcg : c < A.length + (B.length + a2.length) := by
      rw [hw1] at hc; simp [cm] at hc; omega
    refine W.condT rfl hc ?_
    clear hc
    repeat refine W.seq ?_
    refine W.reg (σ' := ⟨[(0, .asl 9000 p 0 ((A ++ B).length) c), (1, .v (Enc.int .i64) (A.length : Int)), (2, .v (Enc.sl (Enc.pr (Enc.int .i64) eBlk)) a2), (7, .v (Enc.int .i64) (a2.length : Int)), (8, .v (Enc.int .i64) ((A ++ B).length : Int)), (9, .ref 1)], [(1, .arr 85 (Enc.pr (Enc.int .i64) eBlk) (A ++ List.replicate (B.length + a2.length) ((0 : Int), zblk))), (9000, .dp (DE.seg 85 (Enc.pr (Enc.int .i64) eBlk) b) [.any p, .rows A, .rows B, .any q] [])]⟩) (J.cons (.none rfl) (JO.move rfl) rfl rfl (J.cons (.none rfl) (JO.move rfl) rfl rfl (J.cons (.none rfl) (JO.aslHi2 (e := (Enc.pr (Enc.int .i64) eBlk)) A.length rfl (by omega) rfl rfl rfl Try.runUnderlying76 Try.sizeOf85) rfl rfl (J.cons (.none rfl) (JO.move rfl) rfl rfl (J.cons (.none rfl) (JO.move rfl) rfl rfl (J.cons (.none rfl) (JO.arith rfl rfl rfl) rfl rfl (J.cons (.none rfl) (JO.move rfl) rfl rfl (J.cons (.none rfl) (JO.arith rfl rfl rfl) rfl rfl (J.cons (.none rfl) (JO.appMk (z0 := _) (zv := ((0 : Int), zblk)) 1 rfl rfl rfl rfl rfl hw2 (by omega) (by omega) (by omega) rfl Try.runUnderlying76 Try.runUnderlying3 Try.typeInfo85 Try.sizeOf85 rfl (Z.pr (Z.int .i64) (Z.arr 8 (Z.int .u8))) rfl) rfl rfl (J.cons (.none rfl) (JO.assign rfl) rfl rfl (J.fin (Sw.Sub.mk id (.cons rfl (.of_eq rfl) (.cons rfl (.of_eq rfl) (.cons rfl (.of_eq rfl) (.cons rfl (.of_eq rfl) (.cons rfl (.of_eq rfl) (.cons rfl (.of_eq rfl) .nil)))))) (.arr rfl (.dp rfl .nil)) rfl)))))))))))) ?_
    have hs2 : Sw.sub (A ++ List.replicate (B.length + a2.length) ((0 : Int), zblk)) (A.length : Int) (((A ++ List.replicate (B.length + a2.length) ((0 : Int), zblk))).length : Int) = some (List.replicate (B.length + a2.length) ((0 : Int), zblk)) := by
      rw [Sw.sub, if_pos (by simp only [List.length_append, List.length_replicate]; omega), Int.toNat_natCast, Int.toNat_natCast, List.take_length, List.drop_left]
    have hle2 : a2.length ≤ ((A ++ List.replicate (B.length + a2.length) ((0 : Int), zblk))).length - Int.toNat (A.length : Int) := by
      simp only [List.length_append, List.length_replicate]; omega
    repeat refine W.seq ?_
    refine W.reg (σ' := ⟨[(0, .asl 9000 p 0 ((A ++ B).length) c), (1, .v (Enc.int .i64) (A.length : Int)), (2, .v (Enc.sl (Enc.pr (Enc.int .i64) eBlk)) a2), (7, .v (Enc.int .i64) (a2.length : Int)), (8, .v (Enc.int .i64) ((A ++ B).length : Int)), (9, .ref 1)], [(1, .arr 85 (Enc.pr (Enc.int .i64) eBlk) (List.take (Int.toNat (A.length : Int)) (A ++ List.replicate (B.length + a2.length) ((0 : Int), zblk)) ++ a2 ++ List.drop (Int.toNat (A.length : Int) + a2.length) (A ++ List.replicate (B.length + a2.length) ((0 : Int), zblk)))), (9000, .dp (DE.seg 85 (Enc.pr (Enc.int .i64) eBlk) b) [.any p, .rows A, .rows B, .any q] [])]⟩) (J.cons (.none rfl) (JO.move rfl) rfl rfl (J.cons (.none rfl) (JO.move rfl) rfl rfl (J.cons (.none rfl) (JO.srLo hs2 rfl rfl rfl Try.runUnderlying76 Try.sizeOf85) rfl rfl (J.cons (.none rfl) (JO.move rfl) rfl rfl (J.mut (.none rfl) (JM.copySub hs2 rfl rfl (.sl rfl) hle2 Try.runUnderlying76 Try.sizeOf85 rfl) (J.fin (Sw.Sub.mk id (.cons rfl (.of_eq rfl) (.cons rfl (.of_eq rfl) (.cons rfl (.of_eq rfl) (.cons rfl (.of_eq rfl) (.cons rfl (.of_eq rfl) (.cons rfl (.of_eq rfl) .nil)))))) (.arr rfl (.dp rfl .nil)) rfl))))))) ?_
    have hz2 : List.take (Int.toNat (A.length : Int)) (A ++ List.replicate (B.length + a2.length) ((0 : Int), zblk)) ++ a2 ++ List.drop (Int.toNat (A.length : Int) + a2.length) (A ++ List.replicate (B.length + a2.length) ((0 : Int), zblk)) = (A ++ (a2 ++ List.replicate B.length ((0 : Int), zblk))) := by
      simp [List.drop_append, List.drop_replicate]
    rw [hz2]
    have hs3 : Sw.sub (A ++ (a2 ++ List.replicate B.length ((0 : Int), zblk))) (ar .add .i64 (A.length : Int) (a2.length : Int)) (((A ++ (a2 ++ List.replicate B.length ((0 : Int), zblk)))).length : Int) = some (List.replicate B.length ((0 : Int), zblk)) := by
      rw [hw3, Sw.sub, if_pos (by simp only [List.length_append, List.length_replicate]; omega), Int.toNat_natCast, Int.toNat_natCast, List.take_length, ← List.append_assoc, List.drop_left' (by rw [List.length_append])]
    have hle3 : B.length ≤ ((A ++ (a2 ++ List.replicate B.length ((0 : Int), zblk)))).length - Int.toNat (ar .add .i64 (A.length : Int) (a2.length : Int)) := by
      rw [hw3]; simp only [List.length_append, List.length_replicate]; omega
    repeat refine W.seq ?_
    refine W.dr2 (σ' := ⟨[(0, .asl 9000 p 0 ((A ++ B).length) c), (1, .v (Enc.int .i64) (A.length : Int)), (2, .v (Enc.sl (Enc.pr (Enc.int .i64) eBlk)) a2), (7, .v (Enc.int .i64) (a2.length : Int)), (8, .v (Enc.int .i64) ((A ++ B).length : Int)), (9, .ref 1), (53, .asl 9000 (p + A.length * ((Enc.pr (Enc.int .i64) eBlk)).n) 0 B.length (c - A.length))], [(1, .arr 85 (Enc.pr (Enc.int .i64) eBlk) (List.take (Int.toNat (ar .add .i64 (A.length : Int) (a2.length : Int))) (A ++ (a2 ++ List.replicate B.length ((0 : Int), zblk))) ++ B ++ List.drop (Int.toNat (ar .add .i64 (A.length : Int) (a2.length : Int)) + B.length) (A ++ (a2 ++ List.replicate B.length ((0 : Int), zblk))))), (9000, .dp (DE.seg 85 (Enc.pr (Enc.int .i64) eBlk) b) [.any p, .rows A, .rows B, .any q] [])]⟩) 8 [0, 0, 0, 6, 15, 0, 0, 96, 255] mixed (by exact (.cons (.none rfl) (JO.move rfl) rfl rfl (.cons (.none rfl) (JO.move rfl) rfl rfl (.cons (.none rfl) (JO.move rfl) rfl rfl (.cons (.none rfl) (JO.arith rfl rfl rfl) rfl rfl (.cons (.none rfl) (JO.srLo hs3 rfl rfl rfl Try.runUnderlying76 Try.sizeOf85) rfl rfl (.cons (.none rfl) (JO.move rfl) rfl rfl (.cons (.none rfl) (JO.move rfl) rfl rfl (.cons (.none rfl) (JO.aslLo (e := (Enc.pr (Enc.int .i64) eBlk)) (p + A.length * ((Enc.pr (Enc.int .i64) eBlk)).n) B.length (c - A.length) rfl (by omega) (by omega) rfl (by omega) rfl rfl rfl Try.runUnderlying76 Try.sizeOf85) rfl rfl .nil))))))))) (by exact (J.mut (.none rfl) (JM.copySub hs3 rfl rfl (.seg rfl rfl rfl rfl (by omega)) hle3 Try.runUnderlying76 Try.sizeOf85 rfl) (J.fin (Sw.Sub.mk id (.cons rfl (.of_eq rfl) (.cons rfl (.of_eq rfl) (.cons rfl (.of_eq rfl) (.cons rfl (.of_eq rfl) (.cons rfl (.of_eq rfl) (.cons rfl (.of_eq rfl) (.cons rfl (.of_eq rfl) .nil))))))) (.arr rfl (.dp rfl .nil)) rfl)))) rfl (by decide +kernel) (by decide +kernel) (by decide +kernel) (by kernel_rfl) ?_
    have hz3 : (List.take (Int.toNat (ar .add .i64 (A.length : Int) (a2.length : Int))) (A ++ (a2 ++ List.replicate B.length ((0 : Int), zblk))) ++ B ++ List.drop (Int.toNat (ar .add .i64 (A.length : Int) (a2.length : Int)) + B.length) (A ++ (a2 ++ List.replicate B.length ((0 : Int), zblk)))) = A ++ (a2 ++ B) := by
      rw [hw3, Int.toNat_natCast, ← List.append_assoc A a2 (List.replicate _ _), List.take_left' (by rw [List.length_append]), List.drop_eq_nil_of_le (by simp only [List.length_append, List.length_replicate]; omega)]; simp
    rw [hz3]
    repeat refine W.seq ?_
    refine W.reg (σ' := ⟨[(0, .asl 9000 p 0 ((A ++ B).length) c), (1, .v (Enc.int .i64) (A.length : Int)), (2, .v (Enc.sl (Enc.pr (Enc.int .i64) eBlk)) a2), (6, .ref 1), (7, .v (Enc.int .i64) (a2.length : Int)), (8, .v (Enc.int .i64) ((A ++ B).length : Int)), (9, .ref 1), (53, .asl 9000 (p + A.length * ((Enc.pr (Enc.int .i64) eBlk)).n) 0 B.length (c - A.length)), (55, .ref 1)], [(1, .arr 85 (Enc.pr (Enc.int .i64) eBlk) (A ++ (a2 ++ B))), (9000, .dp (DE.seg 85 (Enc.pr (Enc.int .i64) eBlk) b) [.any p, .rows A, .rows B, .any q] [])]⟩) (J.cons (.none rfl) (JO.move rfl) rfl rfl (J.cons (.none rfl) (JO.assign rfl) rfl rfl (J.fin (Sw.Sub.mk id (.cons rfl (.of_eq rfl) (.cons rfl (.of_eq rfl) (.cons rfl (.of_eq rfl) (.cons rfl (.of_eq rfl) (.cons rfl (.of_eq rfl) (.cons rfl (.of_eq rfl) (.cons rfl (.of_eq rfl) (.cons rfl (.of_eq rfl) (.cons rfl (.of_eq rfl) .nil))))))))) (.arr rfl (.dp rfl .nil)) rfl)))) ?_
    refine W.ret ?_
    exact XQ.sub (σ' := ⟨[(6, .ref 0)], [(0, .arr 85 (Enc.pr (Enc.int .i64) eBlk) (A ++ (a2 ++ B)))]⟩) (Sw.Sub.mk (rn [(0, 1)]) (.cons rfl (.of_eq rfl) .nil) (.arr rfl .nil) rfl) (XQ.retM1 hF rfl (RV.tmp rfl) (.cons rfl .nil))
  · have hcr : A.length + B.length + a2.length ≤ c := by
      rw [hw1] at hc; simp [cm] at hc; omega
    have hq : a2.length * ((Enc.pr (Enc.int .i64) eBlk)).n ≤ q := by
      rw [hen, hn] at hc2; rw [hen]; omega
    refine W.condF rfl hc ?_
    clear hc
    repeat first | refine W.skip ?_ | refine W.seq ?_
    refine W.reg (σ' := ⟨[(0, .asl 9000 p 0 (A.length + B.length + a2.length) c), (1, .v (Enc.int .i64) (A.length : Int)), (2, .v (Enc.sl (Enc.pr (Enc.int .i64) eBlk)) a2), (7, .v (Enc.int .i64) (a2.length : Int)), (8, .v (Enc.int .i64) ((A ++ B).length : Int))], [(9000, .dp (DE.seg 85 (Enc.pr (Enc.int .i64) eBlk) b) [.any p, .rows A, .rows B, .any q] [])]⟩) (J.cons (.none rfl) (JO.move rfl) rfl rfl (J.cons (.none rfl) (JO.move rfl) rfl rfl (J.cons (.none rfl) (JO.move rfl) rfl rfl (J.cons (.none rfl) (JO.arith rfl rfl rfl) rfl rfl (J.cons (.none rfl) (JO.aslHi2 (e := (Enc.pr (Enc.int .i64) eBlk)) (A.length + B.length + a2.length) hw1 (by omega) rfl rfl rfl Try.runUnderlying76 Try.sizeOf85) rfl rfl (J.cons (.none rfl) (JO.assign rfl) rfl rfl (J.fin (Sw.Sub.mk id (.cons rfl (.of_eq rfl) (.cons rfl (.of_eq rfl) (.cons rfl (.of_eq rfl) (.cons rfl (.of_eq rfl) (.cons rfl (.of_eq rfl) .nil))))) (.dp rfl .nil) rfl)))))))) ?_
    repeat refine W.seq ?_
    refine W.reg (σ' := ⟨[(0, .asl 9000 p 0 (A.length + B.length + a2.length) c), (1, .v (Enc.int .i64) (A.length : Int)), (2, .v (Enc.sl (Enc.pr (Enc.int .i64) eBlk)) a2), (7, .v (Enc.int .i64) (a2.length : Int)), (8, .v (Enc.int .i64) ((A ++ B).length : Int)), (68, .v Enc.bool (!false))], [(9000, .dp (DE.seg 85 (Enc.pr (Enc.int .i64) eBlk) b) [.any p, .rows A, .rows B, .any q] [])]⟩) (J.cons (.none rfl) (JO.move rfl) rfl rfl (J.cons (.none rfl) (JO.move rfl) rfl rfl (J.cons (.none rfl) (JO.move rfl) rfl rfl (J.cons (.none rfl) (JO.move rfl) rfl rfl (J.cons (.none rfl) (JO.arith rfl rfl rfl) rfl rfl (J.cons (.none rfl) (JO.aslLo (e := (Enc.pr (Enc.int .i64) eBlk)) (p + (A.length + a2.length) * ((Enc.pr (Enc.int .i64) eBlk)).n) B.length (c - (A.length + a2.length)) hw3 (by omega) (by omega) rfl (by omega) rfl rfl rfl Try.runUnderlying76 Try.sizeOf85) rfl rfl (J.cons (.none rfl) (JO.overlaps Try.func150 (by kernel_rfl) (by kernel_rfl) (by kernel_rfl) (R := 4) (by kernel_rfl) rfl rfl rfl ha2 hB rfl Try.runUnderlying76 Try.sizeOf85) rfl rfl (J.cons (.none rfl) (JO.not rfl) rfl rfl (J.fin (Sw.Sub.mk id (.cons rfl (.of_eq rfl) (.cons rfl (.of_eq rfl) (.cons rfl (.of_eq rfl) (.cons rfl (.of_eq rfl) (.cons rfl (.of_eq rfl) (.cons rfl (.of_eq rfl) .nil)))))) (.dp rfl .nil) rfl)))))))))) ?_
    repeat refine W.seq ?_
    refine W.condT rfl rfl ?_
    repeat refine W.seq ?_
    refine W.dr2 (σ' := ⟨[(0, .asl 9000 p 0 (A.length + B.length + a2.length) c), (1, .v (Enc.int .i64) (A.length : Int)), (2, .v (Enc.sl (Enc.pr (Enc.int .i64) eBlk)) a2), (7, .v (Enc.int .i64) (a2.length : Int)), (8, .v (Enc.int .i64) ((A ++ B).length : Int))], [(9000, .dp (DE.seg 85 (Enc.pr (Enc.int .i64) eBlk) b) [.any p, .rows A, .any (a2.length * ((Enc.pr (Enc.int .i64) eBlk)).n), .rows B, .any (q - a2.length * ((Enc.pr (Enc.int .i64) eBlk)).n)] [])]⟩) 8 [0, 0, 0, 6, 15, 0, 0, 96, 255] mixed (by exact (.cons (.none rfl) (JO.move rfl) rfl rfl (.cons (.none rfl) (JO.move rfl) rfl rfl (.cons (.none rfl) (JO.move rfl) rfl rfl (.cons (.none rfl) (JO.arith rfl rfl rfl) rfl rfl (.cons (.none rfl) (JO.aslLo (e := (Enc.pr (Enc.int .i64) eBlk)) (p + (A.length + a2.length) * ((Enc.pr (Enc.int .i64) eBlk)).n) B.length (c - (A.length + a2.length)) hw3 (by omega) (by omega) rfl (by omega) rfl rfl rfl Try.runUnderlying76 Try.sizeOf85) rfl rfl (.cons (.none rfl) (JO.move rfl) rfl rfl (.cons (.none rfl) (JO.move rfl) rfl rfl (.cons (.none rfl) (JO.aslLo (e := (Enc.pr (Enc.int .i64) eBlk)) (p + A.length * ((Enc.pr (Enc.int .i64) eBlk)).n) (B.length + a2.length) (c - A.length) rfl (by omega) (by omega) rfl (by omega) rfl rfl rfl Try.runUnderlying76 Try.sizeOf85) rfl rfl .nil))))))))) (by exact (J.mut (.none rfl) (JM.segShift (m := a2.length) rfl rfl rfl rfl rfl rfl rfl hq (by omega) Try.runUnderlying76 Try.sizeOf85 rfl) (J.fin (Sw.Sub.mk id (.cons rfl (.of_eq rfl) (.cons rfl (.of_eq rfl) (.cons rfl (.of_eq rfl) (.cons rfl (.of_eq rfl) (.cons rfl (.of_eq rfl) .nil))))) (.dp rfl .nil) rfl)))) rfl (by decide +kernel) (by decide +kernel) (by decide +kernel) (by kernel_rfl) ?_
    repeat refine W.seq ?_
    refine W.reg (σ' := ⟨[(0, .asl 9000 p 0 (A.length + B.length + a2.length) c)], [(9000, .dp (DE.seg 85 (Enc.pr (Enc.int .i64) eBlk) b) [.any p, .rows A, .rows a2, .rows B, .any (q - a2.length * ((Enc.pr (Enc.int .i64) eBlk)).n)] [])]⟩) (J.cons (.none rfl) (JO.move rfl) rfl rfl (J.cons (.none rfl) (JO.move rfl) rfl rfl (J.cons (.none rfl) (JO.aslLo (e := (Enc.pr (Enc.int .i64) eBlk)) (p + A.length * ((Enc.pr (Enc.int .i64) eBlk)).n) (B.length + a2.length) (c - A.length) rfl (by omega) (by omega) rfl (by omega) rfl rfl rfl Try.runUnderlying76 Try.sizeOf85) rfl rfl (J.cons (.none rfl) (JO.move rfl) rfl rfl (J.mut (.none rfl) (JM.segFill rfl rfl (.sl rfl) rfl rfl rfl (by omega) Try.runUnderlying76 Try.sizeOf85 rfl) (J.fin (Sw.Sub.mk id (.cons rfl (.of_eq rfl) .nil) (.dp rfl .nil) rfl))))))) ?_
    refine W.sub (Sub.closeSeg (t := 0) (by simp only [List.length_append]; omega) hcr (by rw [hen, hn] at hc2; rw [hen]; omega) (by omega) rfl) ?_
    repeat refine W.seq ?_
    refine W.reg (σ' := ⟨[(0, .ref 9000), (6, .ref 9000), (83, .ref 9000)], [(9000, .arr 85 (Enc.pr (Enc.int .i64) eBlk) (A ++ (a2 ++ B)))]⟩) (J.cons (.none rfl) (JO.move rfl) rfl rfl (J.cons (.none rfl) (JO.assign rfl) rfl rfl (J.fin (Sw.Sub.mk id (.cons rfl (.of_eq rfl) (.cons rfl (.of_eq rfl) (.cons rfl (.of_eq rfl) .nil))) (.arr rfl .nil) rfl)))) ?_
    refine W.ret ?_
    exact XQ.sub (σ' := ⟨[(6, .ref 0)], [(0, .arr 85 (Enc.pr (Enc.int .i64) eBlk) (A ++ (a2 ++ B)))]⟩) (Sw.Sub.mk (rn [(0, 9000)]) (.cons rfl (.of_eq rfl) .nil) (.arr rfl .nil) rfl) (XQ.retM1 hF rfl (RV.tmp rfl) (.cons rfl .nil))
set_option maxRecDepth 100000 in
set_option maxHeartbeats 4000000 in
theorem con_epoch_Add {a0 : (Int × (List (Int × Blk)) × (List (Int × (List (Int × Blk)))) × Bool)} {a1 : Int} {a2 : (Int × Blk)} {r : (Int × (List (Int × Blk)) × (List (Int × (List (Int × Blk)))) × Bool) × (Option Int)} (h : m_epoch_Add a0 a1 a2 = some r) :
    Con Try.prog 59 [.v (Enc.pr (Enc.int .i64) (Enc.pr (Enc.sl (Enc.pr (Enc.int .i64) eBlk)) (Enc.pr (Enc.sl (Enc.pr (Enc.int .i64) (Enc.sl (Enc.pr (Enc.int .i64) eBlk)))) Enc.bool))) a0, .v (Enc.int .i64) a1, .v (Enc.pr (Enc.int .i64) eBlk) a2] (.tup [.v (Enc.pr (Enc.int .i64) (Enc.pr (Enc.sl (Enc.pr (Enc.int .i64) eBlk)) (Enc.pr (Enc.sl (Enc.pr (Enc.int .i64) (Enc.sl (Enc.pr (Enc.int .i64) eBlk)))) Enc.bool))) r.1, .v (Enc.err ET) r.2]) [] := by
  refine Con.of Try.func59 rfl Try.ntmps59 rfl ?_
  intro S w hF
  unfold m_epoch_Add at h
  refine W.seq ?_
  refine W.reg (σ' := ⟨[(1, .v (Enc.int .i64) a1), (3, .ptr 101 0), (5, .ptr 102 0), (6, .ptr 103 0)], [(101, .box 112 [.v (Enc.int .i64) a0.1, .v (Enc.sl (Enc.pr (Enc.int .i64) eBlk)) a0.2.1, .v (Enc.sl (Enc.pr (Enc.int .i64) (Enc.sl (Enc.pr (Enc.int .i64) eBlk)))) a0.2.2.1, .v Enc.bool a0.2.2.2]), (102, .box 85 [.v (Enc.int .i64) a2.1, .v eBlk a2.2]), (103, .box 112 [.v (Enc.int .i64) (0 : Int), .v (Enc.sl (Enc.pr (Enc.int .i64) eBlk)) ([] : (List (Int × Blk))), .v (Enc.sl (Enc.pr (Enc.int .i64) (Enc.sl (Enc.pr (Enc.int .i64) eBlk)))) ([] : (List (Int × (List (Int × Blk))))), .v Enc.bool false])]⟩) (J.cons (.none rfl) (JO.box 101 rfl (.prm (.one _ _) (.prm (.one _ _) (.prm (.one _ _) (.one _ _)))) rfl) rfl rfl (J.cons (.none rfl) (JO.box 102 rfl (.prm (.one _ _) (.one _ _)) rfl) rfl rfl (J.cons (.none rfl) (JO.alloc 103 Try.zeroValue112 rfl (.cons (Z.int .i64) (.cons (Z.sl (Enc.pr (Enc.int .i64) eBlk)) (.cons (Z.sl (Enc.pr (Enc.int .i64) (Enc.sl (Enc.pr (Enc.int .i64) eBlk)))) (.cons Z.bool .nil)))) rfl) rfl rfl (J.cons (.none rfl) (JO.assignNilE ET) rfl rfl (J.fin (Sw.Sub.mk id (.cons rfl (.of_eq rfl) (.cons rfl (.of_eq rfl) (.cons rfl (.of_eq rfl) (.cons rfl (.of_eq rfl) .nil)))) (.box rfl (.cons (.of_eq rfl) (.cons (.of_eq rfl) (.cons (.of_eq rfl) (.cons (.of_eq rfl) .nil)))) (.box rfl (.cons (.of_eq rfl) (.cons (.of_eq rfl) .nil)) (.box rfl (.cons (.of_eq rfl) (.cons (.of_eq rfl) (.cons (.of_eq rfl) (.cons (.of_eq rfl) .nil)))) .nil))) rfl)))))) ?_
  refine W.seq ?_
  refine W.seq ?_
  obtain ⟨v1, hv1, h⟩ := bind_e h
  refine W.reg (σ' := ⟨[(1, .v (Enc.int .i64) a1), (3, .ptr 101 0), (5, .ptr 102 0), (6, .ptr 103 0), (8, .v (Enc.err ET) v1)], [(101, .box 112 [.v (Enc.int .i64) a0.1, .v (Enc.sl (Enc.pr (Enc.int .i64) eBlk)) a0.2.1, .v (Enc.sl (Enc.pr (Enc.int .i64) (Enc.sl (Enc.pr (Enc.int .i64) eBlk)))) a0.2.2.1, .v Enc.bool a0.2.2.2]), (102, .box 85 [.v (Enc.int .i64) a2.1, .v eBlk a2.2]), (103, .box 112 [.v (Enc.int .i64) (0 : Int), .v (Enc.sl (Enc.pr (Enc.int .i64) eBlk)) ([] : (List (Int × Blk))), .v (Enc.sl (Enc.pr (Enc.int .i64) (Enc.sl (Enc.pr (Enc.int .i64) eBlk)))) ([] : (List (Int × (List (Int × Blk))))), .v Enc.bool false])]⟩) (J.cons (.none rfl) (JO.loadAll rfl rfl (.prm (.one _ _) (.prm (.one _ _) (.prm (.one _ _) (.one _ _)))) Try.isAgg112 Try.sizeOf112) rfl rfl (J.cons (.none rfl) (JO.move rfl) rfl rfl (J.cons (.none rfl) (JO.call0 (con_epoch_Check hv1) Try.call58 (.cons (.dir rfl) (.cons (.dir rfl) .nil))) rfl rfl (J.cons (.none rfl) (JO.assign rfl) rfl rfl (J.fin (Sw.Sub.mk id (.cons rfl (.of_eq rfl) (.cons rfl (.of_eq rfl) (.cons rfl (.of_eq rfl) (.cons rfl (.of_eq rfl) (.cons rfl (.of_eq rfl) .nil))))) (.box rfl (.cons (.of_eq rfl) (.cons (.of_eq rfl) (.cons (.of_eq rfl) (.cons (.of_eq rfl) .nil)))) (.box rfl (.cons (.of_eq rfl) (.cons (.of_eq rfl) .nil)) (.box rfl (.cons (.of_eq rfl) (.cons (.of_eq rfl) (.cons (.of_eq rfl) (.cons (.of_eq rfl) .nil)))) .nil))) rfl)))))) ?_
  refine W.seq ?_
  refine W.reg (σ' := ⟨[(1, .v (Enc.int .i64) a1), (3, .ptr 101 0), (5, .ptr 102 0), (6, .ptr 103 0), (8, .v (Enc.err ET) v1), (15, .v Enc.bool (Option.isSome v1))], [(101, .box 112 [.v (Enc.int .i64) a0.1, .v (Enc.sl (Enc.pr (Enc.int .i64) eBlk)) a0.2.1, .v (Enc.sl (Enc.pr (Enc.int .i64) (Enc.sl (Enc.pr (Enc.int .i64) eBlk)))) a0.2.2.1, .v Enc.bool a0.2.2.2]), (102, .box 85 [.v (Enc.int .i64) a2.1, .v eBlk a2.2]), (103, .box 112 [.v (Enc.int .i64) (0 : Int), .v (Enc.sl (Enc.pr (Enc.int .i64) eBlk)) ([] : (List (Int × Blk))), .v (Enc.sl (Enc.pr (Enc.int .i64) (Enc.sl (Enc.pr (Enc.int .i64) eBlk)))) ([] : (List (Int × (List (Int × Blk))))), .v Enc.bool false])]⟩) (J.cons (.none rfl) (JO.move rfl) rfl rfl (J.cons (.none rfl) (JO.errNe Try.runUnderlying33 rfl) rfl rfl (J.fin (Sw.Sub.mk id (.cons rfl (.of_eq rfl) (.cons rfl (.of_eq rfl) (.cons rfl (.of_eq rfl) (.cons rfl (.of_eq rfl) (.cons rfl (.of_eq rfl) (.cons rfl (.of_eq rfl) .nil)))))) (.box rfl (.cons (.of_eq rfl) (.cons (.of_eq rfl) (.cons (.of_eq rfl) (.cons (.of_eq rfl) .nil)))) (.box rfl (.cons (.of_eq rfl) (.cons (.of_eq rfl) .nil)) (.box rfl (.cons (.of_eq rfl) (.cons (.of_eq rfl) (.cons (.of_eq rfl) (.cons (.of_eq rfl) .nil)))) .nil))) rfl)))) ?_
  rcases Bool.eq_false_or_eq_true (Option.isSome v1) with hc2 | hc2
  · replace h := cond_t hc2 h
    refine W.condT rfl hc2 ?_
    refine W.seq ?_
    refine W.reg (σ' := ⟨[(6, .ptr 103 0), (7, .v (Enc.err ET) v1)], [(103, .box 112 [.v (Enc.int .i64) (0 : Int), .v (Enc.sl (Enc.pr (Enc.int .i64) eBlk)) ([] : (List (Int × Blk))), .v (Enc.sl (Enc.pr (Enc.int .i64) (Enc.sl (Enc.pr (Enc.int .i64) eBlk)))) ([] : (List (Int × (List (Int × Blk))))), .v Enc.bool false])]⟩) (J.cons (.none rfl) (JO.build built112 (.cons (Z.int .i64) (.cons (Z.sl (Enc.pr (Enc.int .i64) eBlk)) (.cons (Z.sl (Enc.pr (Enc.int .i64) (Enc.sl (Enc.pr (Enc.int .i64) eBlk)))) (.cons Z.bool .nil)))) .nil) rfl rfl (J.cons (.none rfl) (JO.move rfl) rfl rfl (J.mut (.none rfl) (JM.storeAgg rfl rfl rfl rfl rfl rfl Try.sizeOf112) (J.cons (.none rfl) (JO.assign rfl) rfl rfl (J.fin (Sw.Sub.mk id (.cons rfl (.of_eq rfl) (.cons rfl (.of_eq rfl) .nil)) (.box rfl (.cons (.of_eq rfl) (.cons (.of_eq rfl) (.cons (.of_eq rfl) (.cons (.of_eq rfl) .nil)))) .nil) rfl)))))) ?_
    refine W.ret ?_
    obtain rfl := Option.some.inj h
    exact XQ.sub (σ' := ⟨[(6, .ptr 90 0), (7, .v (Enc.err ET) v1)], [(90, .box 112 [.v (Enc.int .i64) (0 : Int), .v (Enc.sl (Enc.pr (Enc.int .i64) eBlk)) ([] : (List (Int × Blk))), .v (Enc.sl (Enc.pr (Enc.int .i64) (Enc.sl (Enc.pr (Enc.int .i64) eBlk)))) ([] : (List (Int × (List (Int × Blk))))), .v Enc.bool false])]⟩) (Sw.Sub.mk (rn [(90, 103)]) (.cons rfl (.of_eq rfl) (.cons rfl (.of_eq rfl) .nil)) (.box rfl (.cons (.of_eq rfl) (.cons (.of_eq rfl) (.cons (.of_eq rfl) (.cons (.of_eq rfl) .nil)))) .nil) rfl) (XQ.ret2 hF noR rfl (RV.cellAll rfl rfl (.prm (.one _ _) (.prm (.one _ _) (.prm (.one _ _) (.one _ _)))) Try.isAgg112 Try.sizeOf112) (RV.tmp rfl) .nil rfl)
  · replace h := cond_f hc2 h
    refine W.condF rfl hc2 ?_
    refine W.skip ?_
    refine W.seq ?_
    refine W.seq ?_
    obtain ⟨x4, hx, h⟩ := bind_e h
    refine W.reg (σ' := ⟨[(3, .ptr 101 0), (5, .ptr 102 0), (6, .ptr 103 0), (26, .v Enc.bool x4)], [(101, .box 112 [.v (Enc.int .i64) a0.1, .v (Enc.sl (Enc.pr (Enc.int .i64) eBlk)) a0.2.1, .v (Enc.sl (Enc.pr (Enc.int .i64) (Enc.sl (Enc.pr (Enc.int .i64) eBlk)))) a0.2.2.1, .v Enc.bool a0.2.2.2]), (102, .box 85 [.v (Enc.int .i64) a2.1, .v eBlk a2.2]), (103, .box 112 [.v (Enc.int .i64) (0 : Int), .v (Enc.sl (Enc.pr (Enc.int .i64) eBlk)) ([] : (List (Int × Blk))), .v (Enc.sl (Enc.pr (Enc.int .i64) (Enc.sl (Enc.pr (Enc.int .i64) eBlk)))) ([] : (List (Int × (List (Int × Blk))))), .v Enc.bool false])]⟩) ?_ ?_
    · rcases Bool.eq_false_or_eq_true (cm .lss a2.1 (0 : Int)) with hc5 | hc5
      · replace hx := cond_t hc5 hx
        obtain rfl := Option.some.inj hx
        exact (J.cons (.none rfl) (JO.fieldPtr 0 rfl Try.runUnderlying85 rfl Try.sizeOf3 rfl rfl) rfl rfl (J.cons (.none rfl) (JO.load rfl rfl rfl Try.isAgg3 Try.sizeOf3) rfl rfl (J.cons (.none rfl) (JO.cmp rfl rfl rfl) rfl rfl (J.cons (.none rfl) (JO.move rfl) rfl rfl (J.left (GK.unmet 21 rfl rfl rfl hc5) rfl (J.left (GK.unmet 21 rfl rfl rfl hc5) rfl (J.left (GK.unmet 21 rfl rfl rfl hc5) rfl (J.left (GK.unmet 21 rfl rfl rfl hc5) rfl (J.cons (.none rfl) (JO.pT hc5 rfl rfl) rfl rfl (J.fin (Sw.Sub.mk id (.cons rfl (.of_eq rfl) (.cons rfl (.of_eq rfl) (.cons rfl (.of_eq rfl) (.cons rfl (.of_eq rfl) .nil)))) (.box rfl (.cons (.of_eq rfl) (.cons (.of_eq rfl) (.cons (.of_eq rfl) (.cons (.of_eq rfl) .nil)))) (.box rfl (.cons (.of_eq rfl) (.cons (.of_eq rfl) .nil)) (.box rfl (.cons (.of_eq rfl) (.cons (.of_eq rfl) (.cons (.of_eq rfl) (.cons (.of_eq rfl) .nil)))) .nil))) rfl)))))))))))
      · replace hx := cond_f hc5 hx
        obtain rfl := Option.some.inj hx
        exact (J.cons (.none rfl) (JO.fieldPtr 0 rfl Try.runUnderlying85 rfl Try.sizeOf3 rfl rfl) rfl rfl (J.cons (.none rfl) (JO.load rfl rfl rfl Try.isAgg3 Try.sizeOf3) rfl rfl (J.cons (.none rfl) (JO.cmp rfl rfl rfl) rfl rfl (J.cons (.none rfl) (JO.move rfl) rfl rfl (J.cons (GK.met 21 rfl rfl rfl hc5) (JO.fieldPtr 0 rfl Try.runUnderlying85 rfl Try.sizeOf3 rfl rfl) rfl rfl (J.cons (GK.met 21 rfl rfl rfl hc5) (JO.load rfl rfl rfl Try.isAgg3 Try.sizeOf3) rfl rfl (J.cons (GK.met 21 rfl rfl rfl hc5) (JO.move rfl) rfl rfl (J.cons (GK.met 21 rfl rfl rfl hc5) (JO.cmp rfl rfl rfl) rfl rfl (J.cons (.none rfl) (JO.pF hc5 rfl rfl) rfl rfl (J.fin (Sw.Sub.mk id (.cons rfl (.of_eq rfl) (.cons rfl (.of_eq rfl) (.cons rfl (.of_eq rfl) (.cons rfl (.of_eq rfl) .nil)))) (.box rfl (.cons (.of_eq rfl) (.cons (.of_eq rfl) (.cons (.of_eq rfl) (.cons (.of_eq rfl) .nil)))) (.box rfl (.cons (.of_eq rfl) (.cons (.of_eq rfl) .nil)) (.box rfl (.cons (.of_eq rfl) (.cons (.of_eq rfl) (.cons (.of_eq rfl) (.cons (.of_eq rfl) .nil)))) .nil))) rfl)))))))))))
    rcases Bool.eq_false_or_eq_true x4 with hc6 | hc6
    · replace h := cond_t hc6 h
      refine W.condT rfl hc6 ?_
      refine W.seq ?_
      refine W.reg (σ' := ⟨[(6, .ptr 103 0), (7, .v (Enc.err ET) (some (1 : Int)))], [(103, .box 112 [.v (Enc.int .i64) (0 : Int), .v (Enc.sl (Enc.pr (Enc.int .i64) eBlk)) ([] : (List (Int × Blk))), .v (Enc.sl (Enc.pr (Enc.int .i64) (Enc.sl (Enc.pr (Enc.int .i64) eBlk)))) ([] : (List (Int × (List (Int × Blk))))), .v Enc.bool false])]⟩) (J.cons (.none rfl) (JO.build built112 (.cons (Z.int .i64) (.cons (Z.sl (Enc.pr (Enc.int .i64) eBlk)) (.cons (Z.sl (Enc.pr (Enc.int .i64) (Enc.sl (Enc.pr (Enc.int .i64) eBlk)))) (.cons Z.bool .nil)))) .nil) rfl rfl (J.cons (.none rfl) (JO.mkErr Try.runUnderlying29 rfl) rfl rfl (J.mut (.none rfl) (JM.storeAgg rfl rfl rfl rfl rfl rfl Try.sizeOf112) (J.cons (.none rfl) (JO.assign rfl) rfl rfl (J.fin (Sw.Sub.mk id (.cons rfl (.of_eq rfl) (.cons rfl (.of_eq rfl) .nil)) (.box rfl (.cons (.of_eq rfl) (.cons (.of_eq rfl) (.cons (.of_eq rfl) (.cons (.of_eq rfl) .nil)))) .nil) rfl)))))) ?_
      refine W.ret ?_
      obtain rfl := Option.some.inj h
      exact XQ.sub (σ' := ⟨[(6, .ptr 90 0), (7, .v (Enc.err ET) (some (1 : Int)))], [(90, .box 112 [.v (Enc.int .i64) (0 : Int), .v (Enc.sl (Enc.pr (Enc.int .i64) eBlk)) ([] : (List (Int × Blk))), .v (Enc.sl (Enc.pr (Enc.int .i64) (Enc.sl (Enc.pr (Enc.int .i64) eBlk)))) ([] : (List (Int × (List (Int × Blk))))), .v Enc.bool false])]⟩) (Sw.Sub.mk (rn [(90, 103)]) (.cons rfl (.of_eq rfl) (.cons rfl (.of_eq rfl) .nil)) (.box rfl (.cons (.of_eq rfl) (.cons (.of_eq rfl) (.cons (.of_eq rfl) (.cons (.of_eq rfl) .nil)))) .nil) rfl) (XQ.ret2 hF noR rfl (RV.cellAll rfl rfl (.prm (.one _ _) (.prm (.one _ _) (.prm (.one _ _) (.one _ _)))) Try.isAgg112 Try.sizeOf112) (RV.tmp rfl) .nil rfl)
    · replace h := cond_f hc6 h
      refine W.condF rfl hc6 ?_
      refine W.skip ?_
      refine W.seq ?_
      obtain ⟨v7, hv7, h⟩ := bind_e h
      refine W.reg (σ' := ⟨[(3, .ptr 101 0), (5, .ptr 102 0), (6, .ptr 103 0)], [(101, .box 112 [.v (Enc.int .i64) v7.1, .ref 105000, .ref 105001, .v Enc.bool v7.2.2.2]), (102, .box 85 [.v (Enc.int .i64) a2.1, .v eBlk a2.2]), (103, .box 112 [.v (Enc.int .i64) (0 : Int), .v (Enc.sl (Enc.pr (Enc.int .i64) eBlk)) ([] : (List (Int × Blk))), .v (Enc.sl (Enc.pr (Enc.int .i64) (Enc.sl (Enc.pr (Enc.int .i64) eBlk)))) ([] : (List (Int × (List (Int × Blk))))), .v Enc.bool false]), (105000, .arr 85 (Enc.pr (Enc.int .i64) eBlk) v7.2.1), (105001, .arr 121 (Enc.pr (Enc.int .i64) (Enc.sl (Enc.pr (Enc.int .i64) eBlk))) v7.2.2.1)]⟩) (J.cons (.none rfl) (JO.loadAll rfl rfl (.prm (.one _ _) (.prm (.one _ _) (.prm (.one _ _) (.one _ _)))) Try.isAgg112 Try.sizeOf112) rfl rfl (J.cons (.none rfl) (JO.call 105000 (con_epoch_clone hv7) Try.call122 (.cons (.dir rfl) .nil) rfl) rfl rfl (J.mut (.none rfl) (JM.storeAgg rfl rfl rfl rfl rfl rfl Try.sizeOf112) (J.fin (Sw.Sub.mk id (.cons rfl (.of_eq rfl) (.cons rfl (.of_eq rfl) (.cons rfl (.of_eq rfl) .nil))) (.box rfl (.cons (.of_eq rfl) (.cons (.of_eq rfl) (.cons (.of_eq rfl) (.cons (.of_eq rfl) .nil)))) (.box rfl (.cons (.of_eq rfl) (.cons (.of_eq rfl) .nil)) (.box rfl (.cons (.of_eq rfl) (.cons (.of_eq rfl) (.cons (.of_eq rfl) (.cons (.of_eq rfl) .nil)))) (.arr rfl (.arr rfl .nil))))) rfl))))) ?_
      refine W.seq ?_
      obtain ⟨v8, hv8, h⟩ := bind_e h
      refine W.reg (σ' := ⟨[(3, .ptr 101 0), (5, .ptr 102 0), (6, .ptr 103 0), (9, .v (Enc.int .i64) v8.1), (10, .v Enc.bool v8.2)], [(101, .box 112 [.v (Enc.int .i64) v7.1, .ref 105000, .ref 105001, .v Enc.bool v7.2.2.2]), (102, .box 85 [.v (Enc.int .i64) a2.1, .v eBlk a2.2]), (103, .box 112 [.v (Enc.int .i64) (0 : Int), .v (Enc.sl (Enc.pr (Enc.int .i64) eBlk)) ([] : (List (Int × Blk))), .v (Enc.sl (Enc.pr (Enc.int .i64) (Enc.sl (Enc.pr (Enc.int .i64) eBlk)))) ([] : (List (Int × (List (Int × Blk))))), .v Enc.bool false]), (105000, .arr 85 (Enc.pr (Enc.int .i64) eBlk) v7.2.1), (105001, .arr 121 (Enc.pr (Enc.int .i64) (Enc.sl (Enc.pr (Enc.int .i64) eBlk))) v7.2.2.1)]⟩) (J.cons (.none rfl) (JO.fieldPtr 1 rfl Try.runUnderlying112 rfl Try.sizeOf76 rfl rfl) rfl rfl (J.cons (.none rfl) (JO.load rfl rfl rfl Try.isAgg76 Try.sizeOf76) rfl rfl (J.cons (.none rfl) (JO.fieldPtr 0 rfl Try.runUnderlying85 rfl Try.sizeOf3 rfl rfl) rfl rfl (J.cons (.none rfl) (JO.load rfl rfl rfl Try.isAgg3 Try.sizeOf3) rfl rfl (J.cons (.none rfl) (JO.callL0 (con_slices_BinarySearchFunc_api_Put_api_Put_int__epoch_Add_1 hv8) Try.call123 (.cons (.ref rfl rfl) (.cons (.dir rfl) (.cons .fn .nil))) (FlatS.tup (.v (.v .nil)))) rfl rfl (J.cons (.none rfl) (JO.move rfl) rfl rfl (J.cons (.none rfl) (JO.extract rfl rfl) rfl rfl (J.cons (.none rfl) (JO.extract rfl rfl) rfl rfl (J.cons (.none rfl) (JO.assign rfl) rfl rfl (J.cons (.none rfl) (JO.assign rfl) rfl rfl (J.fin (Sw.Sub.mk id (.cons rfl (.of_eq rfl) (.cons rfl (.of_eq rfl) (.cons rfl (.of_eq rfl) (.cons rfl (.of_eq rfl) (.cons rfl (.of_eq rfl) .nil))))) (.box rfl (.cons (.of_eq rfl) (.cons (.of_eq rfl) (.cons (.of_eq rfl) (.cons (.of_eq rfl) .nil)))) (.box rfl (.cons (.of_eq rfl) (.cons (.of_eq rfl) .nil)) (.box rfl (.cons (.of_eq rfl) (.cons (.of_eq rfl) (.cons (.of_eq rfl) (.cons (.of_eq rfl) .nil)))) (.arr rfl (.arr rfl .nil))))) rfl)))))))))))) ?_
      refine W.seq ?_
      refine W.seq ?_
      refine W.reg (σ' := ⟨[(3, .ptr 101 0), (5, .ptr 102 0), (6, .ptr 103 0), (9, .v (Enc.int .i64) v8.1), (39, .v Enc.bool v8.2)], [(101, .box 112 [.v (Enc.int .i64) v7.1, .ref 105000, .ref 105001, .v Enc.bool v7.2.2.2]), (102, .box 85 [.v (Enc.int .i64) a2.1, .v eBlk a2.2]), (103, .box 112 [.v (Enc.int .i64) (0 : Int), .v (Enc.sl (Enc.pr (Enc.int .i64) eBlk)) ([] : (List (Int × Blk))), .v (Enc.sl (Enc.pr (Enc.int .i64) (Enc.sl (Enc.pr (Enc.int .i64) eBlk)))) ([] : (List (Int × (List (Int × Blk))))), .v Enc.bool false]), (105000, .arr 85 (Enc.pr (Enc.int .i64) eBlk) v7.2.1), (105001, .arr 121 (Enc.pr (Enc.int .i64) (Enc.sl (Enc.pr (Enc.int .i64) eBlk))) v7.2.2.1)]⟩) (J.cons (.none rfl) (JO.move rfl) rfl rfl (J.fin (Sw.Sub.mk id (.cons rfl (.of_eq rfl) (.cons rfl (.of_eq rfl) (.cons rfl (.of_eq rfl) (.cons rfl (.of_eq rfl) (.cons rfl (.of_eq rfl) .nil))))) (.box rfl (.cons (.of_eq rfl) (.cons (.of_eq rfl) (.cons (.of_eq rfl) (.cons (.of_eq rfl) .nil)))) (.box rfl (.cons (.of_eq rfl) (.cons (.of_eq rfl) .nil)) (.box rfl (.cons (.of_eq rfl) (.cons (.of_eq rfl) (.cons (.of_eq rfl) (.cons (.of_eq rfl) .nil)))) (.arr rfl (.arr rfl .nil))))) rfl))) ?_
      obtain ⟨k12, hk12, h⟩ := jp_elim h
      refine W.jn (fun x13 : (List (Int × Blk)) => ⟨[(3, .ptr 101 0), (6, .ptr 103 0)], [(101, .box 112 [.v (Enc.int .i64) v7.1, .ref 108, .ref 105001, .v Enc.bool v7.2.2.2]), (103, .box 112 [.v (Enc.int .i64) (0 : Int), .v (Enc.sl (Enc.pr (Enc.int .i64) eBlk)) ([] : (List (Int × Blk))), .v (Enc.sl (Enc.pr (Enc.int .i64) (Enc.sl (Enc.pr (Enc.int .i64) eBlk)))) ([] : (List (Int × (List (Int × Blk))))), .v Enc.bool false]), (108, .arr 85 (Enc.pr (Enc.int .i64) eBlk) x13), (105001, .arr 121 (Enc.pr (Enc.int .i64) (Enc.sl (Enc.pr (Enc.int .i64) eBlk))) v7.2.2.1)]⟩) (fun x => k12 x = some r) rfl ?_ ?_ ?_
      · intro x13 h
        rw [hk12] at h
        refine W.seq ?_
        refine W.reg (σ' := ⟨[(6, .ptr 103 0), (7, .v (Enc.err ET) (none : Option Int))], [(103, .box 112 [.v (Enc.int .i64) v7.1, .ref 108, .ref 105001, .v Enc.bool v7.2.2.2]), (108, .arr 85 (Enc.pr (Enc.int .i64) eBlk) x13), (105001, .arr 121 (Enc.pr (Enc.int .i64) (Enc.sl (Enc.pr (Enc.int .i64) eBlk))) v7.2.2.1)]⟩) (J.cons (.none rfl) (JO.loadAgg rfl rfl rfl Try.isAgg112 Try.sizeOf112) rfl rfl (J.mut (.none rfl) (JM.storeAgg rfl rfl rfl rfl rfl rfl Try.sizeOf112) (J.cons (.none rfl) (JO.assignNilE ET) rfl rfl (J.fin (Sw.Sub.mk id (.cons rfl (.of_eq rfl) (.cons rfl (.of_eq rfl) .nil)) (.box rfl (.cons (.of_eq rfl) (.cons (.of_eq rfl) (.cons (.of_eq rfl) (.cons (.of_eq rfl) .nil)))) (.arr rfl (.arr rfl .nil))) rfl))))) ?_
        refine W.ret ?_
        obtain rfl := Option.some.inj h
        exact XQ.sub (σ' := ⟨[(6, .ptr 90 0), (7, .v (Enc.err ET) (none : Option Int))], [(90, .box 112 [.v (Enc.int .i64) v7.1, .v (Enc.sl (Enc.pr (Enc.int .i64) eBlk)) x13, .v (Enc.sl (Enc.pr (Enc.int .i64) (Enc.sl (Enc.pr (Enc.int .i64) eBlk)))) v7.2.2.1, .v Enc.bool v7.2.2.2])]⟩) (Sw.Sub.mk (rn [(90, 103)]) (.cons rfl (.of_eq rfl) (.cons rfl (.of_eq rfl) .nil)) (.box rfl (.cons (.of_eq rfl) (.cons (.frz rfl rfl) (.cons (.frz rfl rfl) (.cons (.of_eq rfl) .nil)))) .nil) rfl) (XQ.ret2 hF noR rfl (RV.cellAll rfl rfl (.prm (.one _ _) (.prm (.one _ _) (.prm (.one _ _) (.one _ _)))) Try.isAgg112 Try.sizeOf112) (RV.tmp rfl) .nil rfl)
      · intro hc9
        replace h := cond_t hc9 h
        obtain ⟨z14, hz14, h⟩ := bind_e h
        refine W.reg (σ' := ⟨[(3, .ptr 101 0), (6, .ptr 103 0)], [(101, .box 112 [.v (Enc.int .i64) v7.1, .ref 105000, .ref 105001, .v Enc.bool v7.2.2.2]), (103, .box 112 [.v (Enc.int .i64) (0 : Int), .v (Enc.sl (Enc.pr (Enc.int .i64) eBlk)) ([] : (List (Int × Blk))), .v (Enc.sl (Enc.pr (Enc.int .i64) (Enc.sl (Enc.pr (Enc.int .i64) eBlk)))) ([] : (List (Int × (List (Int × Blk))))), .v Enc.bool false]), (105000, .arr 85 (Enc.pr (Enc.int .i64) eBlk) (List.set v7.2.1 (Int.toNat v8.1) a2)), (105001, .arr 121 (Enc.pr (Enc.int .i64) (Enc.sl (Enc.pr (Enc.int .i64) eBlk))) v7.2.2.1)]⟩) (J.cons (.none rfl) (JO.fieldPtr 1 rfl Try.runUnderlying112 rfl Try.sizeOf76 rfl rfl) rfl rfl (J.cons (.none rfl) (JO.load rfl rfl rfl Try.isAgg76 Try.sizeOf76) rfl rfl (J.cons (.none rfl) (JO.move rfl) rfl rfl (J.cons (.none rfl) (JO.loadAll rfl rfl (.prm (.one _ _) (.one _ _)) Try.isAgg85 Try.sizeOf85) rfl rfl (J.cons (.none rfl) (JO.idxR hz14 rfl rfl rfl Try.runUnderlying76 Try.sizeOf85) rfl rfl (J.mut (.none rfl) (JM.storeEl (idx_some hz14).2.2 rfl rfl rfl Try.sizeOf85) (J.fin (Sw.Sub.mk id (.cons rfl (.of_eq rfl) (.cons rfl (.of_eq rfl) .nil)) (.box rfl (.cons (.of_eq rfl) (.cons (.of_eq rfl) (.cons (.of_eq rfl) (.cons (.of_eq rfl) .nil)))) (.box rfl (.cons (.of_eq rfl) (.cons (.of_eq rfl) (.cons (.of_eq rfl) (.cons (.of_eq rfl) .nil)))) (.arr rfl (.arr rfl .nil)))) rfl)))))))) ?_
        exact W.jfall h (Sw.Sub.mk (rn [(101, 101), (103, 103), (105001, 105001), (108, 105000)]) (.cons rfl (.of_eq rfl) (.cons rfl (.of_eq rfl) .nil)) (.box rfl (.cons (.of_eq rfl) (.cons (.of_eq rfl) (.cons (.of_eq rfl) (.cons (.of_eq rfl) .nil)))) (.box rfl (.cons (.of_eq rfl) (.cons (.of_eq rfl) (.cons (.of_eq rfl) (.cons (.of_eq rfl) .nil)))) (.arr rfl (.arr rfl .nil)))) rfl)
      · intro hc9
        replace h := cond_f hc9 h
        obtain ⟨v15, hv15, h⟩ := bind_e h
        refine W.reg (σ' := ⟨[(3, .ptr 101 0), (6, .ptr 103 0)], [(101, .box 112 [.v (Enc.int .i64) v7.1, .ref 109, .ref 105001, .v Enc.bool v7.2.2.2]), (103, .box 112 [.v (Enc.int .i64) (0 : Int), .v (Enc.sl (Enc.pr (Enc.int .i64) eBlk)) ([] : (List (Int × Blk))), .v (Enc.sl (Enc.pr (Enc.int .i64) (Enc.sl (Enc.pr (Enc.int .i64) eBlk)))) ([] : (List (Int × (List (Int × Blk))))), .v Enc.bool false]), (109, .arr 85 (Enc.pr (Enc.int .i64) eBlk) v15), (105001, .arr 121 (Enc.pr (Enc.int .i64) (Enc.sl (Enc.pr (Enc.int .i64) eBlk))) v7.2.2.1)]⟩) (J.cons (.none rfl) (JO.fieldPtr 1 rfl Try.runUnderlying112 rfl Try.sizeOf76 rfl rfl) rfl rfl (J.cons (.none rfl) (JO.load rfl rfl rfl Try.isAgg76 Try.sizeOf76) rfl rfl (J.cons (.none rfl) (JO.move rfl) rfl rfl (J.cons (.none rfl) (JO.loadAll rfl rfl (.prm (.one _ _) (.one _ _)) Try.isAgg85 Try.sizeOf85) rfl rfl (J.cons (.none rfl) (JO.lit (e := (Enc.pr (Enc.int .i64) eBlk)) Try.runUnderlying76 Try.sizeOf85 Try.zeroValue85 rfl rfl rfl rfl (.cons (.dir rfl) .nil)) rfl rfl (J.mut (.none rfl) (JM.callM (H := [105000]) (K := []) (swp [(9000, 105000), (0, 109)]) (swp_inj _) (fun A => con_slices_Insert_api_Put_api_Put A hv15) Try.call125 (.cons (.dir rfl) (.cons (.dir rfl) (.cons (.dir rfl) .nil))) (fun A => (.arr rfl .nil)) (fun A => (.arr .nil rfl)) (fun _ => rfl) rfl rfl (fun _ => rfl) rfl rfl) (J.cons (.none rfl) (JO.fieldPtr 1 rfl Try.runUnderlying112 rfl Try.sizeOf76 rfl rfl) rfl rfl (J.mut (.none rfl) (JM.store rfl rfl rfl rfl rfl rfl rfl Try.sizeOf76) (J.fin (Sw.Sub.mk id (.cons rfl (.of_eq rfl) (.cons rfl (.of_eq rfl) .nil)) (.box rfl (.cons (.of_eq rfl) (.cons (.of_eq rfl) (.cons (.of_eq rfl) (.cons (.of_eq rfl) .nil)))) (.box rfl (.cons (.of_eq rfl) (.cons (.of_eq rfl) (.cons (.of_eq rfl) (.cons (.of_eq rfl) .nil)))) (.arr rfl (.arr rfl .nil)))) rfl)))))))))) ?_
        exact W.jfall h (Sw.Sub.mk (rn [(101, 101), (103, 103), (105001, 105001), (108, 109)]) (.cons rfl (.of_eq rfl) (.cons rfl (.of_eq rfl) .nil)) (.box rfl (.cons (.of_eq rfl) (.cons (.of_eq rfl) (.cons (.of_eq rfl) (.cons (.of_eq rfl) .nil)))) (.box rfl (.cons (.of_eq rfl) (.cons (.of_eq rfl) (.cons (.of_eq rfl) (.cons (.of_eq rfl) .nil)))) (.arr rfl (.arr rfl .nil)))) rfl)
set_option maxRecDepth 100000 in
set_option maxHeartbeats 4000000 in
theorem con_epoch_Seal {a0 : (Int × (List (Int × Blk)) × (List (Int × (List (Int × Blk)))) × Bool)} {a1 : Int} {r : (Int × (List (Int × Blk)) × (List (Int × (List (Int × Blk)))) × Bool) × (Option Int)} (h : m_epoch_Seal a0 a1 = some r) :
    Con Try.prog 60 [.v (Enc.pr (Enc.int .i64) (Enc.pr (Enc.sl (Enc.pr (Enc.int .i64) eBlk)) (Enc.pr (Enc.sl (Enc.pr (Enc.int .i64) (Enc.sl (Enc.pr (Enc.int .i64) eBlk)))) Enc.bool))) a0, .v (Enc.int .i64) a1] (.tup [.v (Enc.pr (Enc.int .i64) (Enc.pr (Enc.sl (Enc.pr (Enc.int .i64) eBlk)) (Enc.pr (Enc.sl (Enc.pr (Enc.int .i64) (Enc.sl (Enc.pr (Enc.int .i64) eBlk)))) Enc.bool))) r.1, .v (Enc.err ET) r.2]) [] := by
  refine Con.of Try.func60 rfl Try.ntmps60 rfl ?_
  intro S w hF
  unfold m_epoch_Seal at h
  refine W.seq ?_
  refine W.reg (σ' := ⟨[(1, .v (Enc.int .i64) a1), (2, .ptr 101 0), (4, .ptr 102 0)], [(101, .box 112 [.v (Enc.int .i64) a0.1, .v (Enc.sl (Enc.pr (Enc.int .i64) eBlk)) a0.2.1, .v (Enc.sl (Enc.pr (Enc.int .i64) (Enc.sl (Enc.pr (Enc.int .i64) eBlk)))) a0.2.2.1, .v Enc.bool a0.2.2.2]), (102, .box 112 [.v (Enc.int .i64) (0 : Int), .v (Enc.sl (Enc.pr (Enc.int .i64) eBlk)) ([] : (List (Int × Blk))), .v (Enc.sl (Enc.pr (Enc.int .i64) (Enc.sl (Enc.pr (Enc.int .i64) eBlk)))) ([] : (List (Int × (List (Int × Blk))))), .v Enc.bool false])]⟩) (J.cons (.none rfl) (JO.box 101 rfl (.prm (.one _ _) (.prm (.one _ _) (.prm (.one _ _) (.one _ _)))) rfl) rfl rfl (J.cons (.none rfl) (JO.alloc 102 Try.zeroValue112 rfl (.cons (Z.int .i64) (.cons (Z.sl (Enc.pr (Enc.int .i64) eBlk)) (.cons (Z.sl (Enc.pr (Enc.int .i64) (Enc.sl (Enc.pr (Enc.int .i64) eBlk)))) (.cons Z.bool .nil)))) rfl) rfl rfl (J.cons (.none rfl) (JO.assignNilE ET) rfl rfl (J.fin (Sw.Sub.mk id (.cons rfl (.of_eq rfl) (.cons rfl (.of_eq rfl) (.cons rfl (.of_eq rfl) .nil))) (.box rfl (.cons (.of_eq rfl) (.cons (.of_eq rfl) (.cons (.of_eq rfl) (.cons (.of_eq rfl) .nil)))) (.box rfl (.cons (.of_eq rfl) (.cons (.of_eq rfl) (.cons (.of_eq rfl) (.cons (.of_eq rfl) .nil)))) .nil)) rfl))))) ?_
  refine W.seq ?_
  refine W.seq ?_
  obtain ⟨v1, hv1, h⟩ := bind_e h
  refine W.reg (σ' := ⟨[(2, .ptr 101 0), (4, .ptr 102 0), (6, .v (Enc.err ET) v1)], [(101, .box 112 [.v (Enc.int .i64) a0.1, .v (Enc.sl (Enc.pr (Enc.int .i64) eBlk)) a0.2.1, .v (Enc.sl (Enc.pr (Enc.int .i64) (Enc.sl (Enc.pr (Enc.int .i64) eBlk)))) a0.2.2.1, .v Enc.bool a0.2.2.2]), (102, .box 112 [.v (Enc.int .i64) (0 : Int), .v (Enc.sl (Enc.pr (Enc.int .i64) eBlk)) ([] : (List (Int × Blk))), .v (Enc.sl (Enc.pr (Enc.int .i64) (Enc.sl (Enc.pr (Enc.int .i64) eBlk)))) ([] : (List (Int × (List (Int × Blk))))), .v Enc.bool false])]⟩) (J.cons (.none rfl) (JO.loadAll rfl rfl (.prm (.one _ _) (.prm (.one _ _) (.prm (.one _ _) (.one _ _)))) Try.isAgg112 Try.sizeOf112) rfl rfl (J.cons (.none rfl) (JO.move rfl) rfl rfl (J.cons (.none rfl) (JO.call0 (con_epoch_Check hv1) Try.call58 (.cons (.dir rfl) (.cons (.dir rfl) .nil))) rfl rfl (J.cons (.none rfl) (JO.assign rfl) rfl rfl (J.fin (Sw.Sub.mk id (.cons rfl (.of_eq rfl) (.cons rfl (.of_eq rfl) (.cons rfl (.of_eq rfl) .nil))) (.box rfl (.cons (.of_eq rfl) (.cons (.of_eq rfl) (.cons (.of_eq rfl) (.cons (.of_eq rfl) .nil)))) (.box rfl (.cons (.of_eq rfl) (.cons (.of_eq rfl) (.cons (.of_eq rfl) (.cons (.of_eq rfl) .nil)))) .nil)) rfl)))))) ?_
  refine W.seq ?_
  refine W.reg (σ' := ⟨[(2, .ptr 101 0), (4, .ptr 102 0), (6, .v (Enc.err ET) v1), (11, .v Enc.bool (Option.isSome v1))], [(101, .box 112 [.v (Enc.int .i64) a0.1, .v (Enc.sl (Enc.pr (Enc.int .i64) eBlk)) a0.2.1, .v (Enc.sl (Enc.pr (Enc.int .i64) (Enc.sl (Enc.pr (Enc.int .i64) eBlk)))) a0.2.2.1, .v Enc.bool a0.2.2.2]), (102, .box 112 [.v (Enc.int .i64) (0 : Int), .v (Enc.sl (Enc.pr (Enc.int .i64) eBlk)) ([] : (List (Int × Blk))), .v (Enc.sl (Enc.pr (Enc.int .i64) (Enc.sl (Enc.pr (Enc.int .i64) eBlk)))) ([] : (List (Int × (List (Int × Blk))))), .v Enc.bool false])]⟩) (J.cons (.none rfl) (JO.move rfl) rfl rfl (J.cons (.none rfl) (JO.errNe Try.runUnderlying33 rfl) rfl rfl (J.fin (Sw.Sub.mk id (.cons rfl (.of_eq rfl) (.cons rfl (.of_eq rfl) (.cons rfl (.of_eq rfl) (.cons rfl (.of_eq rfl) .nil)))) (.box rfl (.cons (.of_eq rfl) (.cons (.of_eq rfl) (.cons (.of_eq rfl) (.cons (.of_eq rfl) .nil)))) (.box rfl (.cons (.of_eq rfl) (.cons (.of_eq rfl) (.cons (.of_eq rfl) (.cons (.of_eq rfl) .nil)))) .nil)) rfl)))) ?_
  rcases Bool.eq_false_or_eq_true (Option.isSome v1) with hc2 | hc2
  · replace h := cond_t hc2 h
    refine W.condT rfl hc2 ?_
    refine W.seq ?_
    refine W.reg (σ' := ⟨[(4, .ptr 102 0), (5, .v (Enc.err ET) v1)], [(102, .box 112 [.v (Enc.int .i64) (0 : Int), .v (Enc.sl (Enc.pr (Enc.int .i64) eBlk)) ([] : (List (Int × Blk))), .ref 104, .v Enc.bool false]), (104, .arr 121 (Enc.pr (Enc.int .i64) (Enc.sl (Enc.pr (Enc.int .i64) eBlk))) ([] : (List (Int × (List (Int × Blk))))))]⟩) (J.cons (.none rfl) (JO.buildN (new := [(104, .arr 121 (Enc.pr (Enc.int .i64) (Enc.sl (Enc.pr (Enc.int .i64) eBlk))) ([] : (List (Int × (List (Int × Blk))))))]) built112 (.cons (Z.int .i64) (.cons (Z.sl (Enc.pr (Enc.int .i64) eBlk)) (.ref 104 rfl (.cons Z.bool .nil)))) (.cons .nil) rfl .nil) rfl rfl (J.cons (.none rfl) (JO.move rfl) rfl rfl (J.mut (.none rfl) (JM.storeAgg rfl rfl rfl rfl rfl rfl Try.sizeOf112) (J.cons (.none rfl) (JO.assign rfl) rfl rfl (J.fin (Sw.Sub.mk id (.cons rfl (.of_eq rfl) (.cons rfl (.of_eq rfl) .nil)) (.box rfl (.cons (.of_eq rfl) (.cons (.of_eq rfl) (.cons (.of_eq rfl) (.cons (.of_eq rfl) .nil)))) (.arr rfl .nil)) rfl)))))) ?_
    refine W.ret ?_
    obtain rfl := Option.some.inj h
    exact XQ.sub (σ' := ⟨[(4, .ptr 90 0), (5, .v (Enc.err ET) v1)], [(90, .box 112 [.v (Enc.int .i64) (0 : Int), .v (Enc.sl (Enc.pr (Enc.int .i64) eBlk)) ([] : (List (Int × Blk))), .v (Enc.sl (Enc.pr (Enc.int .i64) (Enc.sl (Enc.pr (Enc.int .i64) eBlk)))) ([] : (List (Int × (List (Int × Blk))))), .v Enc.bool false])]⟩) (Sw.Sub.mk (rn [(90, 102)]) (.cons rfl (.of_eq rfl) (.cons rfl (.of_eq rfl) .nil)) (.box rfl (.cons (.of_eq rfl) (.cons (.of_eq rfl) (.cons (.frz rfl rfl) (.cons (.of_eq rfl) .nil)))) .nil) rfl) (XQ.ret2 hF noR rfl (RV.cellAll rfl rfl (.prm (.one _ _) (.prm (.one _ _) (.prm (.one _ _) (.one _ _)))) Try.isAgg112 Try.sizeOf112) (RV.tmp rfl) .nil rfl)
  · replace h := cond_f hc2 h
    refine W.condF rfl hc2 ?_
    refine W.skip ?_
    refine W.seq ?_
    refine W.seq ?_
    refine W.reg (σ' := ⟨[(2, .ptr 101 0), (4, .ptr 102 0), (16, .v Enc.bool (cm .eql a0.1 (2147483647 : Int)))], [(101, .box 112 [.v (Enc.int .i64) a0.1, .v (Enc.sl (Enc.pr (Enc.int .i64) eBlk)) a0.2.1, .v (Enc.sl (Enc.pr (Enc.int .i64) (Enc.sl (Enc.pr (Enc.int .i64) eBlk)))) a0.2.2.1, .v Enc.bool a0.2.2.2]), (102, .box 112 [.v (Enc.int .i64) (0 : Int), .v (Enc.sl (Enc.pr (Enc.int .i64) eBlk)) ([] : (List (Int × Blk))), .v (Enc.sl (Enc.pr (Enc.int .i64) (Enc.sl (Enc.pr (Enc.int .i64) eBlk)))) ([] : (List (Int × (List (Int × Blk))))), .v Enc.bool false])]⟩) (J.cons (.none rfl) (JO.fieldPtr 0 rfl Try.runUnderlying112 rfl Try.sizeOf3 rfl rfl) rfl rfl (J.cons (.none rfl) (JO.load rfl rfl rfl Try.isAgg3 Try.sizeOf3) rfl rfl (J.cons (.none rfl) (JO.cmp rfl rfl rfl) rfl rfl (J.fin (Sw.Sub.mk id (.cons rfl (.of_eq rfl) (.cons rfl (.of_eq rfl) (.cons rfl (.of_eq rfl) .nil))) (.box rfl (.cons (.of_eq rfl) (.cons (.of_eq rfl) (.cons (.of_eq rfl) (.cons (.of_eq rfl) .nil)))) (.box rfl (.cons (.of_eq rfl) (.cons (.of_eq rfl) (.cons (.of_eq rfl) (.cons (.of_eq rfl) .nil)))) .nil)) rfl))))) ?_
    rcases Bool.eq_false_or_eq_true (cm .eql a0.1 (2147483647 : Int)) with hc3 | hc3
    · replace h := cond_t hc3 h
      refine W.condT rfl hc3 ?_
      refine W.seq ?_
      refine W.reg (σ' := ⟨[(4, .ptr 102 0), (5, .v (Enc.err ET) (some (2 : Int)))], [(102, .box 112 [.v (Enc.int .i64) (0 : Int), .v (Enc.sl (Enc.pr (Enc.int .i64) eBlk)) ([] : (List (Int × Blk))), .ref 105, .v Enc.bool false]), (105, .arr 121 (Enc.pr (Enc.int .i64) (Enc.sl (Enc.pr (Enc.int .i64) eBlk))) ([] : (List (Int × (List (Int × Blk))))))]⟩) (J.cons (.none rfl) (JO.buildN (new := [(105, .arr 121 (Enc.pr (Enc.int .i64) (Enc.sl (Enc.pr (Enc.int .i64) eBlk))) ([] : (List (Int × (List (Int × Blk))))))]) built112 (.cons (Z.int .i64) (.cons (Z.sl (Enc.pr (Enc.int .i64) eBlk)) (.ref 105 rfl (.cons Z.bool .nil)))) (.cons .nil) rfl .nil) rfl rfl (J.cons (.none rfl) (JO.mkErr Try.runUnderlying29 rfl) rfl rfl (J.mut (.none rfl) (JM.storeAgg rfl rfl rfl rfl rfl rfl Try.sizeOf112) (J.cons (.none rfl) (JO.assign rfl) rfl rfl (J.fin (Sw.Sub.mk id (.cons rfl (.of_eq rfl) (.cons rfl (.of_eq rfl) .nil)) (.box rfl (.cons (.of_eq rfl) (.cons (.of_eq rfl) (.cons (.of_eq rfl) (.cons (.of_eq rfl) .nil)))) (.arr rfl .nil)) rfl)))))) ?_
      refine W.ret ?_
      obtain rfl := Option.some.inj h
      exact XQ.sub (σ' := ⟨[(4, .ptr 90 0), (5, .v (Enc.err ET) (some (2 : Int)))], [(90, .box 112 [.v (Enc.int .i64) (0 : Int), .v (Enc.sl (Enc.pr (Enc.int .i64) eBlk)) ([] : (List (Int × Blk))), .v (Enc.sl (Enc.pr (Enc.int .i64) (Enc.sl (Enc.pr (Enc.int .i64) eBlk)))) ([] : (List (Int × (List (Int × Blk))))), .v Enc.bool false])]⟩) (Sw.Sub.mk (rn [(90, 102)]) (.cons rfl (.of_eq rfl) (.cons rfl (.of_eq rfl) .nil)) (.box rfl (.cons (.of_eq rfl) (.cons (.of_eq rfl) (.cons (.frz rfl rfl) (.cons (.of_eq rfl) .nil)))) .nil) rfl) (XQ.ret2 hF noR rfl (RV.cellAll rfl rfl (.prm (.one _ _) (.prm (.one _ _) (.prm (.one _ _) (.one _ _)))) Try.isAgg112 Try.sizeOf112) (RV.tmp rfl) .nil rfl)
    · replace h := cond_f hc3 h
      refine W.condF rfl hc3 ?_
      refine W.skip ?_
      refine W.seq ?_
      obtain ⟨v4, hv4, h⟩ := bind_e h
      refine W.reg (σ' := ⟨[(2, .ptr 101 0), (4, .ptr 102 0)], [(101, .box 112 [.v (Enc.int .i64) v4.1, .ref 106000, .ref 106001, .v Enc.bool v4.2.2.2]), (102, .box 112 [.v (Enc.int .i64) (0 : Int), .v (Enc.sl (Enc.pr (Enc.int .i64) eBlk)) ([] : (List (Int × Blk))), .v (Enc.sl (Enc.pr (Enc.int .i64) (Enc.sl (Enc.pr (Enc.int .i64) eBlk)))) ([] : (List (Int × (List (Int × Blk))))), .v Enc.bool false]), (106000, .arr 85 (Enc.pr (Enc.int .i64) eBlk) v4.2.1), (106001, .arr 121 (Enc.pr (Enc.int .i64) (Enc.sl (Enc.pr (Enc.int .i64) eBlk))) v4.2.2.1)]⟩) (J.cons (.none rfl) (JO.loadAll rfl rfl (.prm (.one _ _) (.prm (.one _ _) (.prm (.one _ _) (.one _ _)))) Try.isAgg112 Try.sizeOf112) rfl rfl (J.cons (.none rfl) (JO.call 106000 (con_epoch_clone hv4) Try.call122 (.cons (.dir rfl) .nil) rfl) rfl rfl (J.mut (.none rfl) (JM.storeAgg rfl rfl rfl rfl rfl rfl Try.sizeOf112) (J.fin (Sw.Sub.mk id (.cons rfl (.of_eq rfl) (.cons rfl (.of_eq rfl) .nil)) (.box rfl (.cons (.of_eq rfl) (.cons (.of_eq rfl) (.cons (.of_eq rfl) (.cons (.of_eq rfl) .nil)))) (.box rfl (.cons (.of_eq rfl) (.cons (.of_eq rfl) (.cons (.of_eq rfl) (.cons (.of_eq rfl) .nil)))) (.arr rfl (.arr rfl .nil)))) rfl))))) ?_
      refine W.seq ?_
      refine W.reg (σ' := ⟨[(2, .ptr 101 0), (4, .ptr 102 0)], [(101, .box 112 [.v (Enc.int .i64) (ar .add .i64 v4.1 (1 : Int)), .ref 106000, .ref 106001, .v Enc.bool v4.2.2.2]), (102, .box 112 [.v (Enc.int .i64) (0 : Int), .v (Enc.sl (Enc.pr (Enc.int .i64) eBlk)) ([] : (List (Int × Blk))), .v (Enc.sl (Enc.pr (Enc.int .i64) (Enc.sl (Enc.pr (Enc.int .i64) eBlk)))) ([] : (List (Int × (List (Int × Blk))))), .v Enc.bool false]), (106000, .arr 85 (Enc.pr (Enc.int .i64) eBlk) v4.2.1), (106001, .arr 121 (Enc.pr (Enc.int .i64) (Enc.sl (Enc.pr (Enc.int .i64) eBlk))) v4.2.2.1)]⟩) (J.cons (.none rfl) (JO.fieldPtr 0 rfl Try.runUnderlying112 rfl Try.sizeOf3 rfl rfl) rfl rfl (J.cons (.none rfl) (JO.load rfl rfl rfl Try.isAgg3 Try.sizeOf3) rfl rfl (J.cons (.none rfl) (JO.arith rfl rfl rfl) rfl rfl (J.cons (.none rfl) (JO.fieldPtr 0 rfl Try.runUnderlying112 rfl Try.sizeOf3 rfl rfl) rfl rfl (J.mut (.none rfl) (JM.store rfl rfl rfl rfl rfl rfl rfl Try.sizeOf3) (J.fin (Sw.Sub.mk id (.cons rfl (.of_eq rfl) (.cons rfl (.of_eq rfl) .nil)) (.box rfl (.cons (.of_eq rfl) (.cons (.of_eq rfl) (.cons (.of_eq rfl) (.cons (.of_eq rfl) .nil)))) (.box rfl (.cons (.of_eq rfl) (.cons (.of_eq rfl) (.cons (.of_eq rfl) (.cons (.of_eq rfl) .nil)))) (.arr rfl (.arr rfl .nil)))) rfl))))))) ?_
      refine W.seq ?_
      refine W.block ?_
      refine W.seq ?_
      refine W.reg (σ' := ⟨[(2, .ptr 101 0), (4, .ptr 102 0), (35, .v Enc.bool v4.2.2.2)], [(101, .box 112 [.v (Enc.int .i64) (ar .add .i64 v4.1 (1 : Int)), .ref 106000, .ref 106001, .v Enc.bool v4.2.2.2]), (102, .box 112 [.v (Enc.int .i64) (0 : Int), .v (Enc.sl (Enc.pr (Enc.int .i64) eBlk)) ([] : (List (Int × Blk))), .v (Enc.sl (Enc.pr (Enc.int .i64) (Enc.sl (Enc.pr (Enc.int .i64) eBlk)))) ([] : (List (Int × (List (Int × Blk))))), .v Enc.bool false]), (106000, .arr 85 (Enc.pr (Enc.int .i64) eBlk) v4.2.1), (106001, .arr 121 (Enc.pr (Enc.int .i64) (Enc.sl (Enc.pr (Enc.int .i64) eBlk))) v4.2.2.1)]⟩) (J.cons (.none rfl) (JO.fieldPtr 3 rfl Try.runUnderlying112 rfl Try.sizeOf4 rfl rfl) rfl rfl (J.cons (.none rfl) (JO.load rfl rfl rfl Try.isAgg4 Try.sizeOf4) rfl rfl (J.cons (.none rfl) (JO.assign rfl) rfl rfl (J.fin (Sw.Sub.mk id (.cons rfl (.of_eq rfl) (.cons rfl (.of_eq rfl) (.cons rfl (.of_eq rfl) .nil))) (.box rfl (.cons (.of_eq rfl) (.cons (.of_eq rfl) (.cons (.of_eq rfl) (.cons (.of_eq rfl) .nil)))) (.box rfl (.cons (.of_eq rfl) (.cons (.of_eq rfl) (.cons (.of_eq rfl) (.cons (.of_eq rfl) .nil)))) (.arr rfl (.arr rfl .nil)))) rfl))))) ?_
      rcases Bool.eq_false_or_eq_true v4.2.2.2 with hc5 | hc5
      · replace h := cond_t hc5 h
        refine W.condT rfl hc5 ?_
        refine W.skip ?_
        refine W.fall ?_
        refine W.seq ?_
        refine W.reg (σ' := ⟨[(2, .ptr 101 0), (4, .ptr 102 0)], [(101, .box 112 [.v (Enc.int .i64) (ar .add .i64 v4.1 (1 : Int)), .v (Enc.sl (Enc.pr (Enc.int .i64) eBlk)) ([] : (List (Int × Blk))), .ref 106001, .v Enc.bool v4.2.2.2]), (102, .box 112 [.v (Enc.int .i64) (0 : Int), .v (Enc.sl (Enc.pr (Enc.int .i64) eBlk)) ([] : (List (Int × Blk))), .v (Enc.sl (Enc.pr (Enc.int .i64) (Enc.sl (Enc.pr (Enc.int .i64) eBlk)))) ([] : (List (Int × (List (Int × Blk))))), .v Enc.bool false]), (106001, .arr 121 (Enc.pr (Enc.int .i64) (Enc.sl (Enc.pr (Enc.int .i64) eBlk))) v4.2.2.1)]⟩) (J.cons (.none rfl) (JO.fieldPtr 1 rfl Try.runUnderlying112 rfl Try.sizeOf76 rfl rfl) rfl rfl (J.mut (.none rfl) (JM.storeA rfl rfl rfl (.nilS (Enc.pr (Enc.int .i64) eBlk)) rfl rfl rfl Try.sizeOf76) (J.fin (Sw.Sub.mk id (.cons rfl (.of_eq rfl) (.cons rfl (.of_eq rfl) .nil)) (.box rfl (.cons (.of_eq rfl) (.cons (.of_eq rfl) (.cons (.of_eq rfl) (.cons (.of_eq rfl) .nil)))) (.box rfl (.cons (.of_eq rfl) (.cons (.of_eq rfl) (.cons (.of_eq rfl) (.cons (.of_eq rfl) .nil)))) (.arr rfl .nil))) rfl)))) ?_
        refine W.seq ?_
        refine W.reg (σ' := ⟨[(4, .ptr 102 0), (5, .v (Enc.err ET) (none : Option Int))], [(102, .box 112 [.v (Enc.int .i64) (ar .add .i64 v4.1 (1 : Int)), .v (Enc.sl (Enc.pr (Enc.int .i64) eBlk)) ([] : (List (Int × Blk))), .ref 106001, .v Enc.bool v4.2.2.2]), (106001, .arr 121 (Enc.pr (Enc.int .i64) (Enc.sl (Enc.pr (Enc.int .i64) eBlk))) v4.2.2.1)]⟩) (J.cons (.none rfl) (JO.loadAgg rfl rfl rfl Try.isAgg112 Try.sizeOf112) rfl rfl (J.mut (.none rfl) (JM.storeAgg rfl rfl rfl rfl rfl rfl Try.sizeOf112) (J.cons (.none rfl) (JO.assignNilE ET) rfl rfl (J.fin (Sw.Sub.mk id (.cons rfl (.of_eq rfl) (.cons rfl (.of_eq rfl) .nil)) (.box rfl (.cons (.of_eq rfl) (.cons (.of_eq rfl) (.cons (.of_eq rfl) (.cons (.of_eq rfl) .nil)))) (.arr rfl .nil)) rfl))))) ?_
        refine W.ret ?_
        obtain rfl := Option.some.inj h
        exact XQ.sub (σ' := ⟨[(4, .ptr 90 0), (5, .v (Enc.err ET) (none : Option Int))], [(90, .box 112 [.v (Enc.int .i64) (ar .add .i64 v4.1 (1 : Int)), .v (Enc.sl (Enc.pr (Enc.int .i64) eBlk)) ([] : (List (Int × Blk))), .v (Enc.sl (Enc.pr (Enc.int .i64) (Enc.sl (Enc.pr (Enc.int .i64) eBlk)))) v4.2.2.1, .v Enc.bool v4.2.2.2])]⟩) (Sw.Sub.mk (rn [(90, 102)]) (.cons rfl (.of_eq rfl) (.cons rfl (.of_eq rfl) .nil)) (.box rfl (.cons (.of_eq rfl) (.cons (.of_eq rfl) (.cons (.frz rfl rfl) (.cons (.of_eq rfl) .nil)))) .nil) rfl) (XQ.ret2 hF noR rfl (RV.cellAll rfl rfl (.prm (.one _ _) (.prm (.one _ _) (.prm (.one _ _) (.one _ _)))) Try.isAgg112 Try.sizeOf112) (RV.tmp rfl) .nil rfl)
      · replace h := cond_f hc5 h
        refine W.condF rfl hc5 ?_
        refine W.seq ?_
        refine W.reg (σ' := ⟨[(2, .ptr 101 0), (4, .ptr 102 0), (38, .v Enc.bool (cm .eql (v4.2.2.1.length : Int) (4 : Int)))], [(101, .box 112 [.v (Enc.int .i64) (ar .add .i64 v4.1 (1 : Int)), .ref 106000, .ref 106001, .v Enc.bool v4.2.2.2]), (102, .box 112 [.v (Enc.int .i64) (0 : Int), .v (Enc.sl (Enc.pr (Enc.int .i64) eBlk)) ([] : (List (Int × Blk))), .v (Enc.sl (Enc.pr (Enc.int .i64) (Enc.sl (Enc.pr (Enc.int .i64) eBlk)))) ([] : (List (Int × (List (Int × Blk))))), .v Enc.bool false]), (106000, .arr 85 (Enc.pr (Enc.int .i64) eBlk) v4.2.1), (106001, .arr 121 (Enc.pr (Enc.int .i64) (Enc.sl (Enc.pr (Enc.int .i64) eBlk))) v4.2.2.1)]⟩) (J.cons (.none rfl) (JO.fieldPtr 2 rfl Try.runUnderlying112 rfl Try.sizeOf110 rfl rfl) rfl rfl (J.cons (.none rfl) (JO.load rfl rfl rfl Try.isAgg110 Try.sizeOf110) rfl rfl (J.cons (.none rfl) (JO.lenR rfl rfl Try.runUnderlying110) rfl rfl (J.cons (.none rfl) (JO.cmp rfl rfl rfl) rfl rfl (J.cons (.none rfl) (JO.assign rfl) rfl rfl (J.fin (Sw.Sub.mk id (.cons rfl (.of_eq rfl) (.cons rfl (.of_eq rfl) (.cons rfl (.of_eq rfl) .nil))) (.box rfl (.cons (.of_eq rfl) (.cons (.of_eq rfl) (.cons (.of_eq rfl) (.cons (.of_eq rfl) .nil)))) (.box rfl (.cons (.of_eq rfl) (.cons (.of_eq rfl) (.cons (.of_eq rfl) (.cons (.of_eq rfl) .nil)))) (.arr rfl (.arr rfl .nil)))) rfl))))))) ?_
        rcases Bool.eq_false_or_eq_true (cm .eql (v4.2.2.1.length : Int) (4 : Int)) with hc6 | hc6
        · replace h := cond_t hc6 h
          refine W.condT rfl hc6 ?_
          refine W.reg (σ' := ⟨[(2, .ptr 101 0), (4, .ptr 102 0)], [(101, .box 112 [.v (Enc.int .i64) (ar .add .i64 v4.1 (1 : Int)), .ref 106000, .v (Enc.sl (Enc.pr (Enc.int .i64) (Enc.sl (Enc.pr (Enc.int .i64) eBlk)))) ([] : (List (Int × (List (Int × Blk))))), .v Enc.bool true]), (102, .box 112 [.v (Enc.int .i64) (0 : Int), .v (Enc.sl (Enc.pr (Enc.int .i64) eBlk)) ([] : (List (Int × Blk))), .v (Enc.sl (Enc.pr (Enc.int .i64) (Enc.sl (Enc.pr (Enc.int .i64) eBlk)))) ([] : (List (Int × (List (Int × Blk))))), .v Enc.bool false]), (106000, .arr 85 (Enc.pr (Enc.int .i64) eBlk) v4.2.1)]⟩) (J.cons (.none rfl) (JO.fieldPtr 3 rfl Try.runUnderlying112 rfl Try.sizeOf4 rfl rfl) rfl rfl (J.mut (.none rfl) (JM.store rfl rfl rfl rfl rfl rfl rfl Try.sizeOf4) (J.cons (.none rfl) (JO.fieldPtr 2 rfl Try.runUnderlying112 rfl Try.sizeOf110 rfl rfl) rfl rfl (J.mut (.none rfl) (JM.storeA rfl rfl rfl (.nilS (Enc.pr (Enc.int .i64) (Enc.sl (Enc.pr (Enc.int .i64) eBlk)))) rfl rfl rfl Try.sizeOf110) (J.fin (Sw.Sub.mk id (.cons rfl (.of_eq rfl) (.cons rfl (.of_eq rfl) .nil)) (.box rfl (.cons (.of_eq rfl) (.cons (.of_eq rfl) (.cons (.of_eq rfl) (.cons (.of_eq rfl) .nil)))) (.box rfl (.cons (.of_eq rfl) (.cons (.of_eq rfl) (.cons (.of_eq rfl) (.cons (.of_eq rfl) .nil)))) (.arr rfl .nil))) rfl)))))) ?_
          refine W.fall ?_
          refine W.seq ?_
          refine W.reg (σ' := ⟨[(2, .ptr 101 0), (4, .ptr 102 0)], [(101, .box 112 [.v (Enc.int .i64) (ar .add .i64 v4.1 (1 : Int)), .v (Enc.sl (Enc.pr (Enc.int .i64) eBlk)) ([] : (List (Int × Blk))), .v (Enc.sl (Enc.pr (Enc.int .i64) (Enc.sl (Enc.pr (Enc.int .i64) eBlk)))) ([] : (List (Int × (List (Int × Blk))))), .v Enc.bool true]), (102, .box 112 [.v (Enc.int .i64) (0 : Int), .v (Enc.sl (Enc.pr (Enc.int .i64) eBlk)) ([] : (List (Int × Blk))), .v (Enc.sl (Enc.pr (Enc.int .i64) (Enc.sl (Enc.pr (Enc.int .i64) eBlk)))) ([] : (List (Int × (List (Int × Blk))))), .v Enc.bool false])]⟩) (J.cons (.none rfl) (JO.fieldPtr 1 rfl Try.runUnderlying112 rfl Try.sizeOf76 rfl rfl) rfl rfl (J.mut (.none rfl) (JM.storeA rfl rfl rfl (.nilS (Enc.pr (Enc.int .i64) eBlk)) rfl rfl rfl Try.sizeOf76) (J.fin (Sw.Sub.mk id (.cons rfl (.of_eq rfl) (.cons rfl (.of_eq rfl) .nil)) (.box rfl (.cons (.of_eq rfl) (.cons (.of_eq rfl) (.cons (.of_eq rfl) (.cons (.of_eq rfl) .nil)))) (.box rfl (.cons (.of_eq rfl) (.cons (.of_eq rfl) (.cons (.of_eq rfl) (.cons (.of_eq rfl) .nil)))) .nil)) rfl)))) ?_
          refine W.seq ?_
          refine W.reg (σ' := ⟨[(4, .ptr 102 0), (5, .v (Enc.err ET) (none : Option Int))], [(102, .box 112 [.v (Enc.int .i64) (((ar .add .i64 v4.1 (1 : Int)), ([] : (List (Int × Blk))), ([] : (List (Int × (List (Int × Blk))))), true).1), .v (Enc.sl (Enc.pr (Enc.int .i64) eBlk)) (((ar .add .i64 v4.1 (1 : Int)), ([] : (List (Int × Blk))), ([] : (List (Int × (List (Int × Blk))))), true).2.1), .v (Enc.sl (Enc.pr (Enc.int .i64) (Enc.sl (Enc.pr (Enc.int .i64) eBlk)))) (((ar .add .i64 v4.1 (1 : Int)), ([] : (List (Int × Blk))), ([] : (List (Int × (List (Int × Blk))))), true).2.2.1), .v Enc.bool (((ar .add .i64 v4.1 (1 : Int)), ([] : (List (Int × Blk))), ([] : (List (Int × (List (Int × Blk))))), true).2.2.2)])]⟩) (J.cons (.none rfl) (JO.loadAll rfl rfl (.prm (.one _ _) (.prm (.one _ _) (.prm (.one _ _) (.one _ _)))) Try.isAgg112 Try.sizeOf112) rfl rfl (J.mut (.none rfl) (JM.storeAll rfl rfl rfl rfl (.prm (.one _ _) (.prm (.one _ _) (.prm (.one _ _) (.one _ _)))) Try.sizeOf112) (J.cons (.none rfl) (JO.assignNilE ET) rfl rfl (J.fin (Sw.Sub.mk id (.cons rfl (.of_eq rfl) (.cons rfl (.of_eq rfl) .nil)) (.box rfl (.cons (.of_eq rfl) (.cons (.of_eq rfl) (.cons (.of_eq rfl) (.cons (.of_eq rfl) .nil)))) .nil) rfl))))) ?_
          refine W.ret ?_
          obtain rfl := Option.some.inj h
          exact XQ.sub (σ' := ⟨[(4, .ptr 90 0), (5, .v (Enc.err ET) (none : Option Int))], [(90, .box 112 [.v (Enc.int .i64) (((ar .add .i64 v4.1 (1 : Int)), ([] : (List (Int × Blk))), ([] : (List (Int × (List (Int × Blk))))), true).1), .v (Enc.sl (Enc.pr (Enc.int .i64) eBlk)) (((ar .add .i64 v4.1 (1 : Int)), ([] : (List (Int × Blk))), ([] : (List (Int × (List (Int × Blk))))), true).2.1), .v (Enc.sl (Enc.pr (Enc.int .i64) (Enc.sl (Enc.pr (Enc.int .i64) eBlk)))) (((ar .add .i64 v4.1 (1 : Int)), ([] : (List (Int × Blk))), ([] : (List (Int × (List (Int × Blk))))), true).2.2.1), .v Enc.bool (((ar .add .i64 v4.1 (1 : Int)), ([] : (List (Int × Blk))), ([] : (List (Int × (List (Int × Blk))))), true).2.2.2)])]⟩) (Sw.Sub.mk (rn [(90, 102)]) (.cons rfl (.of_eq rfl) (.cons rfl (.of_eq rfl) .nil)) (.box rfl (.cons (.of_eq rfl) (.cons (.of_eq rfl) (.cons (.of_eq rfl) (.cons (.of_eq rfl) .nil)))) .nil) rfl) (XQ.ret2 hF noR rfl (RV.cellAll rfl rfl (.prm (.one _ _) (.prm (.one _ _) (.prm (.one _ _) (.one _ _)))) Try.isAgg112 Try.sizeOf112) (RV.tmp rfl) .nil rfl)
        · replace h := cond_f hc6 h
          refine W.condF rfl hc6 ?_
          obtain ⟨v7, hv7, h⟩ := bind_e h
          refine W.reg (σ' := ⟨[(2, .ptr 101 0), (4, .ptr 102 0)], [(101, .box 112 [.v (Enc.int .i64) (ar .add .i64 v4.1 (1 : Int)), .v (Enc.sl (Enc.pr (Enc.int .i64) eBlk)) v4.2.1, .ref 107, .v Enc.bool v4.2.2.2]), (102, .box 112 [.v (Enc.int .i64) (0 : Int), .v (Enc.sl (Enc.pr (Enc.int .i64) eBlk)) ([] : (List (Int × Blk))), .v (Enc.sl (Enc.pr (Enc.int .i64) (Enc.sl (Enc.pr (Enc.int .i64) eBlk)))) ([] : (List (Int × (List (Int × Blk))))), .v Enc.bool false]), (107, .arr 121 (Enc.pr (Enc.int .i64) (Enc.sl (Enc.pr (Enc.int .i64) eBlk))) v7)]⟩) (J.cons (.none rfl) (JO.fieldPtr 2 rfl Try.runUnderlying112 rfl Try.sizeOf110 rfl rfl) rfl rfl (J.cons (.none rfl) (JO.load rfl rfl rfl Try.isAgg110 Try.sizeOf110) rfl rfl (J.cons (.none rfl) (JO.fieldPtr 0 rfl Try.runUnderlying112 rfl Try.sizeOf3 rfl rfl) rfl rfl (J.cons (.none rfl) (JO.load rfl rfl rfl Try.isAgg3 Try.sizeOf3) rfl rfl (J.cons (.none rfl) (JO.fieldPtr 1 rfl Try.runUnderlying112 rfl Try.sizeOf76 rfl rfl) rfl rfl (J.cons (.none rfl) (JO.load rfl rfl rfl Try.isAgg76 Try.sizeOf76) rfl rfl (J.cons (.none rfl) (JO.build built121 (.cons (Z.int .i64) (.cons (Z.sl (Enc.pr (Enc.int .i64) eBlk)) .nil)) (.cons rfl (.dir rfl) rfl rfl rfl rfl (.cons rfl (.dir rfl) rfl rfl rfl rfl .nil))) rfl rfl (J.sub (σ' := ⟨[(2, .ptr 101 0), (4, .ptr 102 0), (25, .ptr 101 2), (26, .ref 106001), (27, .ptr 101 0), (28, .v (Enc.int .i64) (ar .add .i64 v4.1 (1 : Int))), (29, .ptr 101 1), (30, .v (Enc.sl (Enc.pr (Enc.int .i64) eBlk)) v4.2.1), (31, .agg [.v (Enc.int .i64) (ar .add .i64 v4.1 (1 : Int)), .v (Enc.sl (Enc.pr (Enc.int .i64) eBlk)) v4.2.1]), (38, .v Enc.bool (cm .eql (v4.2.2.1.length : Int) (4 : Int)))], [(101, .box 112 [.v (Enc.int .i64) (ar .add .i64 v4.1 (1 : Int)), .v (Enc.sl (Enc.pr (Enc.int .i64) eBlk)) v4.2.1, .ref 106001, .v Enc.bool v4.2.2.2]), (102, .box 112 [.v (Enc.int .i64) (0 : Int), .v (Enc.sl (Enc.pr (Enc.int .i64) eBlk)) ([] : (List (Int × Blk))), .v (Enc.sl (Enc.pr (Enc.int .i64) (Enc.sl (Enc.pr (Enc.int .i64) eBlk)))) ([] : (List (Int × (List (Int × Blk))))), .v Enc.bool false]), (106001, .arr 121 (Enc.pr (Enc.int .i64) (Enc.sl (Enc.pr (Enc.int .i64) eBlk))) v4.2.2.1)]⟩) (Sw.Sub.mk id (.cons rfl (.of_eq rfl) (.cons rfl (.of_eq rfl) (.cons rfl (.of_eq rfl) (.cons rfl (.of_eq rfl) (.cons rfl (.of_eq rfl) (.cons rfl (.of_eq rfl) (.cons rfl (.of_eq rfl) (.cons rfl (.frz rfl rfl) (.cons rfl (.agg (.cons (.of_eq rfl) (.cons (.frz rfl rfl) .nil))) (.cons rfl (.of_eq rfl) .nil)))))))))) (.box rfl (.cons (.of_eq rfl) (.cons (.frz rfl rfl) (.cons (.of_eq rfl) (.cons (.of_eq rfl) .nil)))) (.box rfl (.cons (.of_eq rfl) (.cons (.of_eq rfl) (.cons (.of_eq rfl) (.cons (.of_eq rfl) .nil)))) (.arr rfl .nil))) rfl) (J.cons (.none rfl) (JO.lit (e := (Enc.pr (Enc.int .i64) (Enc.sl (Enc.pr (Enc.int .i64) eBlk)))) Try.runUnderlying110 Try.sizeOf121 Try.zeroValue121 rfl rfl rfl rfl (.cons (.agg rfl (.same (.same .nil)) (.prm (.one _ _) (.one _ _)) rfl) .nil)) rfl rfl (J.mut (.none rfl) (JM.append 107 hv7 rfl rfl (.sl rfl) Try.runUnderlying110 Try.typeInfo121 Try.sizeOf121 rfl rfl rfl rfl rfl) (J.cons (.none rfl) (JO.fieldPtr 2 rfl Try.runUnderlying112 rfl Try.sizeOf110 rfl rfl) rfl rfl (J.mut (.none rfl) (JM.store rfl rfl rfl rfl rfl rfl rfl Try.sizeOf110) (J.fin (Sw.Sub.mk id (.cons rfl (.of_eq rfl) (.cons rfl (.of_eq rfl) .nil)) (.box rfl (.cons (.of_eq rfl) (.cons (.of_eq rfl) (.cons (.of_eq rfl) (.cons (.of_eq rfl) .nil)))) (.box rfl (.cons (.of_eq rfl) (.cons (.of_eq rfl) (.cons (.of_eq rfl) (.cons (.of_eq rfl) .nil)))) (.arr rfl .nil))) rfl)))))))))))))) ?_
          refine W.fall ?_
          refine W.seq ?_
          refine W.reg (σ' := ⟨[(2, .ptr 101 0), (4, .ptr 102 0)], [(101, .box 112 [.v (Enc.int .i64) (ar .add .i64 v4.1 (1 : Int)), .v (Enc.sl (Enc.pr (Enc.int .i64) eBlk)) ([] : (List (Int × Blk))), .ref 107, .v Enc.bool v4.2.2.2]), (102, .box 112 [.v (Enc.int .i64) (0 : Int), .v (Enc.sl (Enc.pr (Enc.int .i64) eBlk)) ([] : (List (Int × Blk))), .v (Enc.sl (Enc.pr (Enc.int .i64) (Enc.sl (Enc.pr (Enc.int .i64) eBlk)))) ([] : (List (Int × (List (Int × Blk))))), .v Enc.bool false]), (107, .arr 121 (Enc.pr (Enc.int .i64) (Enc.sl (Enc.pr (Enc.int .i64) eBlk))) v7)]⟩) (J.cons (.none rfl) (JO.fieldPtr 1 rfl Try.runUnderlying112 rfl Try.sizeOf76 rfl rfl) rfl rfl (J.mut (.none rfl) (JM.storeA rfl rfl rfl (.nilS (Enc.pr (Enc.int .i64) eBlk)) rfl rfl rfl Try.sizeOf76) (J.fin (Sw.Sub.mk id (.cons rfl (.of_eq rfl) (.cons rfl (.of_eq rfl) .nil)) (.box rfl (.cons (.of_eq rfl) (.cons (.of_eq rfl) (.cons (.of_eq rfl) (.cons (.of_eq rfl) .nil)))) (.box rfl (.cons (.of_eq rfl) (.cons (.of_eq rfl) (.cons (.of_eq rfl) (.cons (.of_eq rfl) .nil)))) (.arr rfl .nil))) rfl)))) ?_
          refine W.seq ?_
          refine W.reg (σ' := ⟨[(4, .ptr 102 0), (5, .v (Enc.err ET) (none : Option Int))], [(102, .box 112 [.v (Enc.int .i64) (ar .add .i64 v4.1 (1 : Int)), .v (Enc.sl (Enc.pr (Enc.int .i64) eBlk)) ([] : (List (Int × Blk))), .ref 107, .v Enc.bool v4.2.2.2]), (107, .arr 121 (Enc.pr (Enc.int .i64) (Enc.sl (Enc.pr (Enc.int .i64) eBlk))) v7)]⟩) (J.cons (.none rfl) (JO.loadAgg rfl rfl rfl Try.isAgg112 Try.sizeOf112) rfl rfl (J.mut (.none rfl) (JM.storeAgg rfl rfl rfl rfl rfl rfl Try.sizeOf112) (J.cons (.none rfl) (JO.assignNilE ET) rfl rfl (J.fin (Sw.Sub.mk id (.cons rfl (.of_eq rfl) (.cons rfl (.of_eq rfl) .nil)) (.box rfl (.cons (.of_eq rfl) (.cons (.of_eq rfl) (.cons (.of_eq rfl) (.cons (.of_eq rfl) .nil)))) (.arr rfl .nil)) rfl))))) ?_
          refine W.ret ?_
          obtain rfl := Option.some.inj h
          exact XQ.sub (σ' := ⟨[(4, .ptr 90 0), (5, .v (Enc.err ET) (none : Option Int))], [(90, .box 112 [.v (Enc.int .i64) (ar .add .i64 v4.1 (1 : Int)), .v (Enc.sl (Enc.pr (Enc.int .i64) eBlk)) ([] : (List (Int × Blk))), .v (Enc.sl (Enc.pr (Enc.int .i64) (Enc.sl (Enc.pr (Enc.int .i64) eBlk)))) v7, .v Enc.bool v4.2.2.2])]⟩) (Sw.Sub.mk (rn [(90, 102)]) (.cons rfl (.of_eq rfl) (.cons rfl (.of_eq rfl) .nil)) (.box rfl (.cons (.of_eq rfl) (.cons (.of_eq rfl) (.cons (.frz rfl rfl) (.cons (.of_eq rfl) .nil)))) .nil) rfl) (XQ.ret2 hF noR rfl (RV.cellAll rfl rfl (.prm (.one _ _) (.prm (.one _ _) (.prm (.one _ _) (.one _ _)))) Try.isAgg112 Try.sizeOf112) (RV.tmp rfl) .nil rfl)
set_option maxRecDepth 100000 in
set_option maxHeartbeats 4000000 in
theorem con_epoch_Drop_1 {a0 : (Int × (List (Int × Blk)))} {a1 : Int} {r : Bool} (h : m_epoch_Drop_1 a0 a1 = some r) :
    Con Try.prog 127 [.v (Enc.pr (Enc.int .i64) (Enc.sl (Enc.pr (Enc.int .i64) eBlk))) a0, .pst (Enc.int .i64) a1] (.v Enc.bool r) [] := by
  refine Con.of Try.func127 rfl Try.ntmps127 rfl ?_
  intro S w hF
  unfold m_epoch_Drop_1 at h
  refine W.seq ?_
  refine W.reg (σ' := ⟨[(1, .pst (Enc.int .i64) a1), (2, .ptr 101 0)], [(101, .box 121 [.v (Enc.int .i64) a0.1, .v (Enc.sl (Enc.pr (Enc.int .i64) eBlk)) a0.2])]⟩) (J.cons (.none rfl) (JO.box 101 rfl (.prm (.one _ _) (.one _ _)) rfl) rfl rfl (J.cons (.none rfl) (JO.assign rfl) rfl rfl (J.fin (Sw.Sub.mk id (.cons rfl (.of_eq rfl) (.cons rfl (.of_eq rfl) .nil)) (.box rfl (.cons (.of_eq rfl) (.cons (.of_eq rfl) .nil)) .nil) rfl)))) ?_
  refine W.seq ?_
  refine W.reg (σ' := ⟨[(3, .v Enc.bool (cm .leq a0.1 a1))], []⟩) (J.cons (.none rfl) (JO.fieldPtr 0 rfl Try.runUnderlying121 rfl Try.sizeOf3 rfl rfl) rfl rfl (J.cons (.none rfl) (JO.load rfl rfl rfl Try.isAgg3 Try.sizeOf3) rfl rfl (J.cons (.none rfl) (JO.loadPst rfl Try.isAgg3 Try.sizeOf3) rfl rfl (J.cons (.none rfl) (JO.cmp rfl rfl rfl) rfl rfl (J.cons (.none rfl) (JO.assign rfl) rfl rfl (J.fin (Sw.Sub.mk id (.cons rfl (.of_eq rfl) .nil) .nil rfl))))))) ?_
  refine W.ret ?_
  obtain rfl := Option.some.inj h
  exact XQ.sub (σ' := ⟨[(3, .v Enc.bool (cm .leq a0.1 a1))], []⟩) (Sw.Sub.mk id (.cons rfl (.of_eq rfl) .nil) .nil rfl) (XQ.ret1 hF noR rfl (RV.tmp rfl) .nil rfl)
set_option maxRecDepth 100000 in
set_option maxHeartbeats 4000000 in
theorem con_slices_IndexFunc_epoch_Epoch_epoch_Epoch__epoch_Drop_1 {a0 : (List (Int × (List (Int × Blk))))} {a1_0 : Int} {r : Int} (h : m_slices_IndexFunc_epoch_Epoch_epoch_Epoch__epoch_Drop_1 a0 a1_0 = some r) :
    Con Try.prog 152 [.v (Enc.sl (Enc.pr (Enc.int .i64) (Enc.sl (Enc.pr (Enc.int .i64) eBlk)))) a0, .fnc 127 [.pst (Enc.int .i64) a1_0]] (.v (Enc.int .i64) r) [] := by
  refine Con.of Try.func152 rfl Try.ntmps152 rfl ?_
  intro S w hF
  unfold m_slices_IndexFunc_epoch_Epoch_epoch_Epoch__epoch_Drop_1 at h
  refine W.seq ?_
  refine W.reg (σ' := ⟨[(0, .v (Enc.sl (Enc.pr (Enc.int .i64) (Enc.sl (Enc.pr (Enc.int .i64) eBlk)))) a0), (1, .fnc 127 [.pst (Enc.int .i64) a1_0])], []⟩) (J.cons (.none rfl) (JO.assign rfl) rfl rfl (J.fin (Sw.Sub.mk id (.cons rfl (.of_eq rfl) (.cons rfl (.of_eq rfl) .nil)) .nil rfl))) ?_
  refine W.seq ?_
  refine W.seq ?_
  refine W.reg (σ' := ⟨[(0, .v (Enc.sl (Enc.pr (Enc.int .i64) (Enc.sl (Enc.pr (Enc.int .i64) eBlk)))) a0), (1, .fnc 127 [.pst (Enc.int .i64) a1_0]), (7, .v (Enc.int .i64) (a0.length : Int)), (8, .v (Enc.int .i64) (0 : Int))], []⟩) (J.cons (.none rfl) (JO.move rfl) rfl rfl (J.cons (.none rfl) (JO.len rfl Try.runUnderlying110) rfl rfl (J.cons (.none rfl) (JO.move rfl) rfl rfl (J.fin (Sw.Sub.mk id (.cons rfl (.of_eq rfl) (.cons rfl (.of_eq rfl) (.cons rfl (.of_eq rfl) (.cons rfl (.of_eq rfl) .nil)))) .nil rfl))))) ?_
  obtain ⟨o16, ho16, hb16, hr16⟩ := lp_elim h
  refine W.lp (σs := fun s11 : Int => ⟨[(0, .v (Enc.sl (Enc.pr (Enc.int .i64) (Enc.sl (Enc.pr (Enc.int .i64) eBlk)))) a0), (1, .fnc 127 [.pst (Enc.int .i64) a1_0]), (7, .v (Enc.int .i64) (a0.length : Int)), (8, .v (Enc.int .i64) s11)], []⟩) (fun x17 : Unit => ⟨[], []⟩) ho16 (Sw.Sub.mk id (.cons rfl (.of_eq rfl) (.cons rfl (.of_eq rfl) (.cons rfl (.of_eq rfl) (.cons rfl (.of_eq rfl) .nil)))) .nil rfl) ?_ ?_
  · intro x17 hy
    have h := hb16 _ hy
    refine W.seq ?_
    refine W.reg (σ' := ⟨[(4, .v (Enc.int .i64) (-1 : Int))], []⟩) (J.cons (.none rfl) (JO.assign rfl) rfl rfl (J.fin (Sw.Sub.mk id (.cons rfl (.of_eq rfl) .nil) .nil rfl))) ?_
    refine W.ret ?_
    obtain rfl := Option.some.inj h
    exact XQ.sub (σ' := ⟨[(4, .v (Enc.int .i64) (-1 : Int))], []⟩) (Sw.Sub.mk id (.cons rfl (.of_eq rfl) .nil) .nil rfl) (XQ.ret1 hF noR rfl (RV.tmp rfl) .nil rfl)
  intro s11 r16 h
  refine W.seq ?_
  refine W.reg (σ' := ⟨[(0, .v (Enc.sl (Enc.pr (Enc.int .i64) (Enc.sl (Enc.pr (Enc.int .i64) eBlk)))) a0), (1, .fnc 127 [.pst (Enc.int .i64) a1_0]), (7, .v (Enc.int .i64) (a0.length : Int)), (8, .v (Enc.int .i64) s11), (9, .v Enc.bool (cm .lss s11 (a0.length : Int)))], []⟩) (J.cons (.none rfl) (JO.cmp rfl rfl rfl) rfl rfl (J.fin (Sw.Sub.mk id (.cons rfl (.of_eq rfl) (.cons rfl (.of_eq rfl) (.cons rfl (.of_eq rfl) (.cons rfl (.of_eq rfl) (.cons rfl (.of_eq rfl) .nil))))) .nil rfl))) ?_
  refine W.seq ?_
  rcases Bool.eq_false_or_eq_true (cm .lss s11 (a0.length : Int)) with hc18 | hc18
  · replace h := cond_t hc18 h
    refine W.condT rfl hc18 ?_
    refine W.skip ?_
    refine W.seq ?_
    refine W.block ?_
    refine W.seq ?_
    refine W.reg (σ' := ⟨[(0, .v (Enc.sl (Enc.pr (Enc.int .i64) (Enc.sl (Enc.pr (Enc.int .i64) eBlk)))) a0), (1, .fnc 127 [.pst (Enc.int .i64) a1_0]), (5, .v (Enc.int .i64) s11), (7, .v (Enc.int .i64) (a0.length : Int)), (8, .v (Enc.int .i64) s11)], []⟩) (J.cons (.none rfl) (JO.move rfl) rfl rfl (J.cons (.none rfl) (JO.assign rfl) rfl rfl (J.fin (Sw.Sub.mk id (.cons rfl (.of_eq rfl) (.cons rfl (.of_eq rfl) (.cons rfl (.of_eq rfl) (.cons rfl (.of_eq rfl) (.cons rfl (.of_eq rfl) .nil))))) .nil rfl)))) ?_
    refine W.seq ?_
    obtain ⟨z19, hz19, h⟩ := bind_e h
    obtain ⟨v20, hv20, h⟩ := bind_e h
    refine W.reg (σ' := ⟨[(0, .v (Enc.sl (Enc.pr (Enc.int .i64) (Enc.sl (Enc.pr (Enc.int .i64) eBlk)))) a0), (1, .fnc 127 [.pst (Enc.int .i64) a1_0]), (5, .v (Enc.int .i64) s11), (7, .v (Enc.int .i64) (a0.length : Int)), (8, .v (Enc.int .i64) s11), (16, .v Enc.bool v20)], []⟩) (J.cons (.none rfl) (JO.move rfl) rfl rfl (J.cons (.none rfl) (JO.move rfl) rfl rfl (J.cons (.none rfl) (JO.move rfl) rfl rfl (J.cons (.none rfl) (JO.idx hz19 rfl rfl Try.runUnderlying110 Try.sizeOf121) rfl rfl (J.cons (.none rfl) (JO.loadPst rfl Try.isAgg121 Try.sizeOf121) rfl rfl (J.cons (.none rfl) (JO.callF0 rfl (con_epoch_Drop_1 hv20) Try.call127 (.cons (.dir rfl) .nil)) rfl rfl (J.fin (Sw.Sub.mk id (.cons rfl (.of_eq rfl) (.cons rfl (.of_eq rfl) (.cons rfl (.of_eq rfl) (.cons rfl (.of_eq rfl) (.cons rfl (.of_eq rfl) (.cons rfl (.of_eq rfl) .nil)))))) .nil rfl)))))))) ?_
    rcases Bool.eq_false_or_eq_true v20 with hc21 | hc21
    · replace h := cond_t hc21 h
      refine W.condT rfl hc21 ?_
      refine W.seq ?_
      refine W.reg (σ' := ⟨[(4, .v (Enc.int .i64) s11)], []⟩) (J.cons (.none rfl) (JO.move rfl) rfl rfl (J.cons (.none rfl) (JO.assign rfl) rfl rfl (J.fin (Sw.Sub.mk id (.cons rfl (.of_eq rfl) .nil) .nil rfl)))) ?_
      refine W.ret ?_
      refine XQ.ret ?_
      obtain rfl := Option.some.inj h
      refine XQ.lret fun ho => ?_
      obtain rfl := hr16 _ ho
      exact XQ.sub (σ' := ⟨[(4, .v (Enc.int .i64) s11)], []⟩) (Sw.Sub.mk id (.cons rfl (.of_eq rfl) .nil) .nil rfl) (XQ.ret1 hF noR rfl (RV.tmp rfl) .nil rfl)
    · replace h := cond_f hc21 h
      refine W.condF rfl hc21 ?_
      refine W.skip ?_
      refine W.fall ?_
      refine W.reg (σ' := ⟨[(0, .v (Enc.sl (Enc.pr (Enc.int .i64) (Enc.sl (Enc.pr (Enc.int .i64) eBlk)))) a0), (1, .fnc 127 [.pst (Enc.int .i64) a1_0]), (7, .v (Enc.int .i64) (a0.length : Int)), (8, .v (Enc.int .i64) (ar .add .i64 s11 (1 : Int)))], []⟩) (J.cons (.none rfl) (JO.arith rfl rfl rfl) rfl rfl (J.cons (.none rfl) (JO.move rfl) rfl rfl (J.fin (Sw.Sub.mk id (.cons rfl (.of_eq rfl) (.cons rfl (.of_eq rfl) (.cons rfl (.of_eq rfl) (.cons rfl (.of_eq rfl) .nil)))) .nil rfl)))) ?_
      obtain rfl := Option.some.inj h
      exact W.next (Sw.Sub.mk id (.cons rfl (.of_eq rfl) (.cons rfl (.of_eq rfl) (.cons rfl (.of_eq rfl) (.cons rfl (.of_eq rfl) .nil)))) .nil rfl)
  · replace h := cond_f hc18 h
    refine W.condF rfl hc18 ?_
    refine W.exit ?_
    obtain rfl := Option.some.inj h
    exact XQ.brk (Sw.Sub.mk id .nil .nil rfl)
set_option maxRecDepth 100000 in
set_option maxHeartbeats 4000000 in
theorem con_slices_DeleteFunc_epoch_Epoch_epoch_Epoch__epoch_Drop_1_io (A : Nat → Nat) {a0 : (List (Int × (List (Int × Blk))))} {a1_0 : Int} {r : (List (Int × (List (Int × Blk))))} (h : m_slices_DeleteFunc_epoch_Epoch_epoch_Epoch__epoch_Drop_1_io a0 a1_0 = some r) :
    ConM Try.prog 126 [.ref 9000, .fnc 127 [.pst (Enc.int .i64) a1_0]] [(9000, .arr 121 (Enc.pr (Enc.int .i64) (Enc.sl (Enc.pr (Enc.int .i64) eBlk))) a0)] (.ref 0) [(0, .arr 121 (Enc.pr (Enc.int .i64) (Enc.sl (Enc.pr (Enc.int .i64) eBlk))) r)] := by
  refine ConM.of Try.func126 rfl Try.ntmps126 rfl ?_
  intro S w R hF
  unfold m_slices_DeleteFunc_epoch_Epoch_epoch_Epoch__epoch_Drop_1_io at h
  refine W.seq ?_
  refine W.reg (σ' := ⟨[(0, .ref 9000), (1, .fnc 127 [.pst (Enc.int .i64) a1_0])], [(9000, .arr 121 (Enc.pr (Enc.int .i64) (Enc.sl (Enc.pr (Enc.int .i64) eBlk))) a0)]⟩) (J.cons (.none rfl) (JO.assignNilR 101 121 (Enc.pr (Enc.int .i64) (Enc.sl (Enc.pr (Enc.int .i64) eBlk)))) rfl rfl (J.fin (Sw.Sub.mk id (.cons rfl (.of_eq rfl) (.cons rfl (.of_eq rfl) .nil)) (.arr rfl .nil) rfl))) ?_
  refine W.seq ?_
  obtain ⟨v1, hv1, h⟩ := bind_e h
  refine W.reg (σ' := ⟨[(0, .ref 9000), (1, .fnc 127 [.pst (Enc.int .i64) a1_0]), (5, .v (Enc.int .i64) v1)], [(9000, .arr 121 (Enc.pr (Enc.int .i64) (Enc.sl (Enc.pr (Enc.int .i64) eBlk))) a0)]⟩) (J.cons (.none rfl) (JO.move rfl) rfl rfl (J.cons (.none rfl) (JO.move rfl) rfl rfl (J.cons (.none rfl) (JO.callL0 (con_slices_IndexFunc_epoch_Epoch_epoch_Epoch__epoch_Drop_1 hv1) Try.call152 (.cons (.ref rfl rfl) (.cons (.dir rfl) .nil)) FlatS.v) rfl rfl (J.cons (.none rfl) (JO.assign rfl) rfl rfl (J.fin (Sw.Sub.mk id (.cons rfl (.of_eq rfl) (.cons rfl (.of_eq rfl) (.cons rfl (.of_eq rfl) .nil))) (.arr rfl .nil) rfl)))))) ?_
  refine W.seq ?_
  refine W.seq ?_
  refine W.reg (σ' := ⟨[(0, .ref 9000), (1, .fnc 127 [.pst (Enc.int .i64) a1_0]), (5, .v (Enc.int .i64) v1), (12, .v Enc.bool (cm .eql v1 (-1 : Int)))], [(9000, .arr 121 (Enc.pr (Enc.int .i64) (Enc.sl (Enc.pr (Enc.int .i64) eBlk))) a0)]⟩) (J.cons (.none rfl) (JO.move rfl) rfl rfl (J.cons (.none rfl) (JO.cmp rfl rfl rfl) rfl rfl (J.fin (Sw.Sub.mk id (.cons rfl (.of_eq rfl) (.cons rfl (.of_eq rfl) (.cons rfl (.of_eq rfl) (.cons rfl (.of_eq rfl) .nil)))) (.arr rfl .nil) rfl)))) ?_
  rcases Bool.eq_false_or_eq_true (cm .eql v1 (-1 : Int)) with hc2 | hc2
  · replace h := cond_t hc2 h
    refine W.condT rfl hc2 ?_
    refine W.seq ?_
    refine W.reg (σ' := ⟨[(4, .ref 9000)], [(9000, .arr 121 (Enc.pr (Enc.int .i64) (Enc.sl (Enc.pr (Enc.int .i64) eBlk))) a0)]⟩) (J.cons (.none rfl) (JO.move rfl) rfl rfl (J.cons (.none rfl) (JO.assign rfl) rfl rfl (J.fin (Sw.Sub.mk id (.cons rfl (.of_eq rfl) .nil) (.arr rfl .nil) rfl)))) ?_
    refine W.ret ?_
    obtain rfl := Option.some.inj h
    exact XQ.sub (σ' := ⟨[(4, .ref 0)], [(0, .arr 121 (Enc.pr (Enc.int .i64) (Enc.sl (Enc.pr (Enc.int .i64) eBlk))) a0)]⟩) (Sw.Sub.mk (rn [(0, 9000)]) (.cons rfl (.of_eq rfl) .nil) (.arr rfl .nil) rfl) (XQ.retM1 hF rfl (RV.tmp rfl) (.cons rfl .nil))
  · replace h := cond_f hc2 h
    refine W.condF rfl hc2 ?_
    refine W.skip ?_
    refine W.seq ?_
    refine W.seq ?_
    refine W.reg (σ' := ⟨[(0, .ref 9000), (1, .fnc 127 [.pst (Enc.int .i64) a1_0]), (5, .v (Enc.int .i64) v1), (6, .v (Enc.int .i64) (ar .add .i64 v1 (1 : Int)))], [(9000, .arr 121 (Enc.pr (Enc.int .i64) (Enc.sl (Enc.pr (Enc.int .i64) eBlk))) a0)]⟩) (J.cons (.none rfl) (JO.move rfl) rfl rfl (J.cons (.none rfl) (JO.arith rfl rfl rfl) rfl rfl (J.cons (.none rfl) (JO.assign rfl) rfl rfl (J.fin (Sw.Sub.mk id (.cons rfl (.of_eq rfl) (.cons rfl (.of_eq rfl) (.cons rfl (.of_eq rfl) (.cons rfl (.of_eq rfl) .nil)))) (.arr rfl .nil) rfl))))) ?_
    obtain ⟨o21, ho21, hb21, hr21⟩ := lp_elim h
    refine W.lp (σs := fun s15 : Int × Int × (List (Int × (List (Int × Blk)))) => ⟨[(0, .ref 9000), (1, .fnc 127 [.pst (Enc.int .i64) a1_0]), (5, .v (Enc.int .i64) s15.1), (6, .v (Enc.int .i64) s15.2.1)], [(9000, .arr 121 (Enc.pr (Enc.int .i64) (Enc.sl (Enc.pr (Enc.int .i64) eBlk))) s15.2.2)]⟩) (fun x22 : Int × (List (Int × (List (Int × Blk)))) => ⟨[(0, .ref 9000), (5, .v (Enc.int .i64) x22.1)], [(9000, .arr 121 (Enc.pr (Enc.int .i64) (Enc.sl (Enc.pr (Enc.int .i64) eBlk))) x22.2)]⟩) ho21 (Sw.Sub.mk id (.cons rfl (.of_eq rfl) (.cons rfl (.of_eq rfl) (.cons rfl (.of_eq rfl) (.cons rfl (.of_eq rfl) .nil)))) (.arr rfl .nil) rfl) ?_ ?_
    · intro x22 hy
      have h := hb21 _ hy
      refine W.seq ?_
      obtain ⟨v28, hv28, h⟩ := bind_e h
      refine W.reg (σ' := ⟨[(0, .ref 9000), (5, .v (Enc.int .i64) x22.1)], [(9000, .arr 121 (Enc.pr (Enc.int .i64) (Enc.sl (Enc.pr (Enc.int .i64) eBlk))) (List.take (Int.toNat x22.1) x22.2 ++ List.replicate (x22.2.length - Int.toNat x22.1) ((0 : Int), ([] : (List (Int × Blk))))))]⟩) (J.cons (.none rfl) (JO.move rfl) rfl rfl (J.cons (.none rfl) (JO.move rfl) rfl rfl (J.cons (.none rfl) (JO.srLo hv28 rfl rfl rfl Try.runUnderlying110 Try.sizeOf121) rfl rfl (J.mut (.none rfl) (JM.clearLo (zv := ((0 : Int), ([] : (List (Int × Blk))))) hv28 rfl rfl Try.runUnderlying110 Try.zeroValue121 (Z.pr (Z.int .i64) (Z.sl (Enc.pr (Enc.int .i64) eBlk)))) (J.fin (Sw.Sub.mk id (.cons rfl (.of_eq rfl) (.cons rfl (.of_eq rfl) .nil)) (.arr rfl .nil) rfl)))))) ?_
      refine W.seq ?_
      obtain ⟨v29, hv29, h⟩ := bind_e h
      refine W.reg (σ' := ⟨[(4, .ref 111)], [(111, .arr 121 (Enc.pr (Enc.int .i64) (Enc.sl (Enc.pr (Enc.int .i64) eBlk))) v29)]⟩) (J.cons (.none rfl) (JO.move rfl) rfl rfl (J.cons (.none rfl) (JO.move rfl) rfl rfl (J.mut (.none rfl) (JM.slHi 111 hv29 rfl rfl rfl Try.runUnderlying110 Try.sizeOf121 rfl rfl) (J.cons (.none rfl) (JO.assign rfl) rfl rfl (J.fin (Sw.Sub.mk id (.cons rfl (.of_eq rfl) .nil) (.arr rfl .nil) rfl)))))) ?_
      refine W.ret ?_
      obtain rfl := Option.some.inj h
      exact XQ.sub (σ' := ⟨[(4, .ref 0)], [(0, .arr 121 (Enc.pr (Enc.int .i64) (Enc.sl (Enc.pr (Enc.int .i64) eBlk))) v29)]⟩) (Sw.Sub.mk (rn [(0, 111)]) (.cons rfl (.of_eq rfl) .nil) (.arr rfl .nil) rfl) (XQ.retM1 hF rfl (RV.tmp rfl) (.cons rfl .nil))
    intro s15 r21 h
    refine W.seq ?_
    refine W.seq ?_
    refine W.reg (σ' := ⟨[(0, .ref 9000), (1, .fnc 127 [.pst (Enc.int .i64) a1_0]), (5, .v (Enc.int .i64) s15.1), (6, .v (Enc.int .i64) s15.2.1), (19, .v Enc.bool (cm .lss s15.2.1 (s15.2.2.length : Int)))], [(9000, .arr 121 (Enc.pr (Enc.int .i64) (Enc.sl (Enc.pr (Enc.int .i64) eBlk))) s15.2.2)]⟩) (J.cons (.none rfl) (JO.move rfl) rfl rfl (J.cons (.none rfl) (JO.move rfl) rfl rfl (J.cons (.none rfl) (JO.lenR rfl rfl Try.runUnderlying110) rfl rfl (J.cons (.none rfl) (JO.cmp rfl rfl rfl) rfl rfl (J.fin (Sw.Sub.mk id (.cons rfl (.of_eq rfl) (.cons rfl (.of_eq rfl) (.cons rfl (.of_eq rfl) (.cons rfl (.of_eq rfl) (.cons rfl (.of_eq rfl) .nil))))) (.arr rfl .nil) rfl)))))) ?_
    rcases Bool.eq_false_or_eq_true (cm .lss s15.2.1 (s15.2.2.length : Int)) with hc23 | hc23
    · replace h := cond_t hc23 h
      refine W.condT rfl hc23 ?_
      refine W.skip ?_
      refine W.seq ?_
      refine W.block ?_
      refine W.seq ?_
      obtain ⟨z24, hz24, h⟩ := bind_e h
      refine W.reg (σ' := ⟨[(0, .ref 9000), (1, .fnc 127 [.pst (Enc.int .i64) a1_0]), (5, .v (Enc.int .i64) s15.1), (6, .v (Enc.int .i64) s15.2.1), (7, .ptr 109 0)], [(9000, .arr 121 (Enc.pr (Enc.int .i64) (Enc.sl (Enc.pr (Enc.int .i64) eBlk))) s15.2.2), (109, .box 121 [.v (Enc.int .i64) z24.1, .v (Enc.sl (Enc.pr (Enc.int .i64) eBlk)) z24.2])]⟩) (J.cons (.none rfl) (JO.move rfl) rfl rfl (J.cons (.none rfl) (JO.move rfl) rfl rfl (J.cons (.none rfl) (JO.idxR hz24 rfl rfl rfl Try.runUnderlying110 Try.sizeOf121) rfl rfl (J.cons (.none rfl) (JO.loadEl (idx_some hz24).2.2 rfl rfl .here Try.isAgg121 Try.sizeOf121) rfl rfl (J.cons (.none rfl) (JO.alloc 109 Try.zeroValue121 rfl (.cons (Z.int .i64) (.cons (Z.sl (Enc.pr (Enc.int .i64) eBlk)) .nil)) rfl) rfl rfl (J.mut (.none rfl) (JM.storeAll rfl rfl rfl rfl (.prm (.one _ _) (.one _ _)) Try.sizeOf121) (J.fin (Sw.Sub.mk id (.cons rfl (.of_eq rfl) (.cons rfl (.of_eq rfl) (.cons rfl (.of_eq rfl) (.cons rfl (.of_eq rfl) (.cons rfl (.of_eq rfl) .nil))))) (.arr rfl (.box rfl (.cons (.of_eq rfl) (.cons (.of_eq rfl) .nil)) .nil)) rfl)))))))) ?_
      refine W.seq ?_
      obtain ⟨v25, hv25, h⟩ := bind_e h
      refine W.reg (σ' := ⟨[(0, .ref 9000), (1, .fnc 127 [.pst (Enc.int .i64) a1_0]), (5, .v (Enc.int .i64) s15.1), (6, .v (Enc.int .i64) s15.2.1), (7, .ptr 109 0), (29, .v Enc.bool (!v25))], [(9000, .arr 121 (Enc.pr (Enc.int .i64) (Enc.sl (Enc.pr (Enc.int .i64) eBlk))) s15.2.2), (109, .box 121 [.v (Enc.int .i64) z24.1, .v (Enc.sl (Enc.pr (Enc.int .i64) eBlk)) z24.2])]⟩) (J.cons (.none rfl) (JO.move rfl) rfl rfl (J.cons (.none rfl) (JO.loadAll rfl rfl (.prm (.one _ _) (.one _ _)) Try.isAgg121 Try.sizeOf121) rfl rfl (J.cons (.none rfl) (JO.callF0 rfl (con_epoch_Drop_1 hv25) Try.call127 (.cons (.dir rfl) .nil)) rfl rfl (J.cons (.none rfl) (JO.not rfl) rfl rfl (J.fin (Sw.Sub.mk id (.cons rfl (.of_eq rfl) (.cons rfl (.of_eq rfl) (.cons rfl (.of_eq rfl) (.cons rfl (.of_eq rfl) (.cons rfl (.of_eq rfl) (.cons rfl (.of_eq rfl) .nil)))))) (.arr rfl (.box rfl (.cons (.of_eq rfl) (.cons (.of_eq rfl) .nil)) .nil)) rfl)))))) ?_
      rcases Bool.eq_false_or_eq_true (!v25) with hc26 | hc26
      · replace h := cond_t hc26 h
        refine W.condT rfl hc26 ?_
        refine W.seq ?_
        obtain ⟨z27, hz27, h⟩ := bind_e h
        refine W.reg (σ' := ⟨[(0, .ref 9000), (1, .fnc 127 [.pst (Enc.int .i64) a1_0]), (5, .v (Enc.int .i64) s15.1), (6, .v (Enc.int .i64) s15.2.1)], [(9000, .arr 121 (Enc.pr (Enc.int .i64) (Enc.sl (Enc.pr (Enc.int .i64) eBlk))) (List.set s15.2.2 (Int.toNat s15.1) z24))]⟩) (J.cons (.none rfl) (JO.move rfl) rfl rfl (J.cons (.none rfl) (JO.move rfl) rfl rfl (J.cons (.none rfl) (JO.loadAll rfl rfl (.prm (.one _ _) (.one _ _)) Try.isAgg121 Try.sizeOf121) rfl rfl (J.cons (.none rfl) (JO.idxR hz27 rfl rfl rfl Try.runUnderlying110 Try.sizeOf121) rfl rfl (J.mut (.none rfl) (JM.storeEl (idx_some hz27).2.2 rfl rfl rfl Try.sizeOf121) (J.fin (Sw.Sub.mk id (.cons rfl (.of_eq rfl) (.cons rfl (.of_eq rfl) (.cons rfl (.of_eq rfl) (.cons rfl (.of_eq rfl) .nil)))) (.arr rfl .nil) rfl))))))) ?_
        refine W.reg (σ' := ⟨[(0, .ref 9000), (1, .fnc 127 [.pst (Enc.int .i64) a1_0]), (5, .v (Enc.int .i64) (ar .add .i64 s15.1 (1 : Int))), (6, .v (Enc.int .i64) s15.2.1)], [(9000, .arr 121 (Enc.pr (Enc.int .i64) (Enc.sl (Enc.pr (Enc.int .i64) eBlk))) (List.set s15.2.2 (Int.toNat s15.1) z24))]⟩) (J.cons (.none rfl) (JO.move rfl) rfl rfl (J.cons (.none rfl) (JO.arith rfl rfl rfl) rfl rfl (J.cons (.none rfl) (JO.assign rfl) rfl rfl (J.fin (Sw.Sub.mk id (.cons rfl (.of_eq rfl) (.cons rfl (.of_eq rfl) (.cons rfl (.of_eq rfl) (.cons rfl (.of_eq rfl) .nil)))) (.arr rfl .nil) rfl))))) ?_
        refine W.fall ?_
        refine W.reg (σ' := ⟨[(0, .ref 9000), (1, .fnc 127 [.pst (Enc.int .i64) a1_0]), (5, .v (Enc.int .i64) (ar .add .i64 s15.1 (1 : Int))), (6, .v (Enc.int .i64) (ar .add .i64 s15.2.1 (1 : Int)))], [(9000, .arr 121 (Enc.pr (Enc.int .i64) (Enc.sl (Enc.pr (Enc.int .i64) eBlk))) (List.set s15.2.2 (Int.toNat s15.1) z24))]⟩) (J.cons (.none rfl) (JO.move rfl) rfl rfl (J.cons (.none rfl) (JO.arith rfl rfl rfl) rfl rfl (J.cons (.none rfl) (JO.assign rfl) rfl rfl (J.fin (Sw.Sub.mk id (.cons rfl (.of_eq rfl) (.cons rfl (.of_eq rfl) (.cons rfl (.of_eq rfl) (.cons rfl (.of_eq rfl) .nil)))) (.arr rfl .nil) rfl))))) ?_
        obtain rfl := Option.some.inj h
        exact W.next (Sw.Sub.mk id (.cons rfl (.of_eq rfl) (.cons rfl (.of_eq rfl) (.cons rfl (.of_eq rfl) (.cons rfl (.of_eq rfl) .nil)))) (.arr rfl .nil) rfl)
      · replace h := cond_f hc26 h
        refine W.condF rfl hc26 ?_
        refine W.skip ?_
        refine W.fall ?_
        refine W.reg (σ' := ⟨[(0, .ref 9000), (1, .fnc 127 [.pst (Enc.int .i64) a1_0]), (5, .v (Enc.int .i64) s15.1), (6, .v (Enc.int .i64) (ar .add .i64 s15.2.1 (1 : Int)))], [(9000, .arr 121 (Enc.pr (Enc.int .i64) (Enc.sl (Enc.pr (Enc.int .i64) eBlk))) s15.2.2)]⟩) (J.cons (.none rfl) (JO.move rfl) rfl rfl (J.cons (.none rfl) (JO.arith rfl rfl rfl) rfl rfl (J.cons (.none rfl) (JO.assign rfl) rfl rfl (J.fin (Sw.Sub.mk id (.cons rfl (.of_eq rfl) (.cons rfl (.of_eq rfl) (.cons rfl (.of_eq rfl) (.cons rfl (.of_eq rfl) .nil)))) (.arr rfl .nil) rfl))))) ?_
        obtain rfl := Option.some.inj h
        exact W.next (Sw.Sub.mk id (.cons rfl (.of_eq rfl) (.cons rfl (.of_eq rfl) (.cons rfl (.of_eq rfl) (.cons rfl (.of_eq rfl) .nil)))) (.arr rfl .nil) rfl)
    · replace h := cond_f hc23 h
      refine W.condF rfl hc23 ?_
      refine W.exit ?_
      obtain rfl := Option.some.inj h
      exact XQ.brk (Sw.Sub.mk id (.cons rfl (.of_eq rfl) (.cons rfl (.of_eq rfl) .nil)) (.arr rfl .nil) rfl)
set_option maxRecDepth 100000 in
set_option maxHeartbeats 4000000 in
theorem con_epoch_Drop {a0 : (Int × (List (Int × Blk)) × (List (Int × (List (Int × Blk)))) × Bool)} {a1 : Int} {a2 : Int} {r : (Int × (List (Int × Blk)) × (List (Int × (List (Int × Blk)))) × Bool) × (Option Int)} (h : m_epoch_Drop a0 a1 a2 = some r) :
    Con Try.prog 61 [.v (Enc.pr (Enc.int .i64) (Enc.pr (Enc.sl (Enc.pr (Enc.int .i64) eBlk)) (Enc.pr (Enc.sl (Enc.pr (Enc.int .i64) (Enc.sl (Enc.pr (Enc.int .i64) eBlk)))) Enc.bool))) a0, .v (Enc.int .i64) a1, .v (Enc.int .i64) a2] (.tup [.v (Enc.pr (Enc.int .i64) (Enc.pr (Enc.sl (Enc.pr (Enc.int .i64) eBlk)) (Enc.pr (Enc.sl (Enc.pr (Enc.int .i64) (Enc.sl (Enc.pr (Enc.int .i64) eBlk)))) Enc.bool))) r.1, .v (Enc.err ET) r.2]) [] := by
  refine Con.of Try.func61 rfl Try.ntmps61 rfl ?_
  intro S w hF
  unfold m_epoch_Drop at h
  refine W.seq ?_
  refine W.reg (σ' := ⟨[(1, .v (Enc.int .i64) a1), (3, .ptr 101 0), (5, .ptr 102 0), (6, .ptr 103 0)], [(101, .box 112 [.v (Enc.int .i64) a0.1, .v (Enc.sl (Enc.pr (Enc.int .i64) eBlk)) a0.2.1, .v (Enc.sl (Enc.pr (Enc.int .i64) (Enc.sl (Enc.pr (Enc.int .i64) eBlk)))) a0.2.2.1, .v Enc.bool a0.2.2.2]), (102, .box 3 [.v (Enc.int .i64) a2]), (103, .box 112 [.v (Enc.int .i64) (0 : Int), .v (Enc.sl (Enc.pr (Enc.int .i64) eBlk)) ([] : (List (Int × Blk))), .v (Enc.sl (Enc.pr (Enc.int .i64) (Enc.sl (Enc.pr (Enc.int .i64) eBlk)))) ([] : (List (Int × (List (Int × Blk))))), .v Enc.bool false])]⟩) (J.cons (.none rfl) (JO.box 101 rfl (.prm (.one _ _) (.prm (.one _ _) (.prm (.one _ _) (.one _ _)))) rfl) rfl rfl (J.cons (.none rfl) (JO.box 102 rfl (.one _ _) rfl) rfl rfl (J.cons (.none rfl) (JO.alloc 103 Try.zeroValue112 rfl (.cons (Z.int .i64) (.cons (Z.sl (Enc.pr (Enc.int .i64) eBlk)) (.cons (Z.sl (Enc.pr (Enc.int .i64) (Enc.sl (Enc.pr (Enc.int .i64) eBlk)))) (.cons Z.bool .nil)))) rfl) rfl rfl (J.cons (.none rfl) (JO.assignNilE ET) rfl rfl (J.fin (Sw.Sub.mk id (.cons rfl (.of_eq rfl) (.cons rfl (.of_eq rfl) (.cons rfl (.of_eq rfl) (.cons rfl (.of_eq rfl) .nil)))) (.box rfl (.cons (.of_eq rfl) (.cons (.of_eq rfl) (.cons (.of_eq rfl) (.cons (.of_eq rfl) .nil)))) (.box rfl (.cons (.of_eq rfl) .nil) (.box rfl (.cons (.of_eq rfl) (.cons (.of_eq rfl) (.cons (.of_eq rfl) (.cons (.of_eq rfl) .nil)))) .nil))) rfl)))))) ?_
  refine W.seq ?_
  refine W.seq ?_
  obtain ⟨v1, hv1, h⟩ := bind_e h
  refine W.reg (σ' := ⟨[(3, .ptr 101 0), (5, .ptr 102 0), (6, .ptr 103 0), (8, .v (Enc.err ET) v1)], [(101, .box 112 [.v (Enc.int .i64) a0.1, .v (Enc.sl (Enc.pr (Enc.int .i64) eBlk)) a0.2.1, .v (Enc.sl (Enc.pr (Enc.int .i64) (Enc.sl (Enc.pr (Enc.int .i64) eBlk)))) a0.2.2.1, .v Enc.bool a0.2.2.2]), (102, .box 3 [.v (Enc.int .i64) a2]), (103, .box 112 [.v (Enc.int .i64) (0 : Int), .v (Enc.sl (Enc.pr (Enc.int .i64) eBlk)) ([] : (List (Int × Blk))), .v (Enc.sl (Enc.pr (Enc.int .i64) (Enc.sl (Enc.pr (Enc.int .i64) eBlk)))) ([] : (List (Int × (List (Int × Blk))))), .v Enc.bool false])]⟩) (J.cons (.none rfl) (JO.loadAll rfl rfl (.prm (.one _ _) (.prm (.one _ _) (.prm (.one _ _) (.one _ _)))) Try.isAgg112 Try.sizeOf112) rfl rfl (J.cons (.none rfl) (JO.move rfl) rfl rfl (J.cons (.none rfl) (JO.call0 (con_epoch_Check hv1) Try.call58 (.cons (.dir rfl) (.cons (.dir rfl) .nil))) rfl rfl (J.cons (.none rfl) (JO.assign rfl) rfl rfl (J.fin (Sw.Sub.mk id (.cons rfl (.of_eq rfl) (.cons rfl (.of_eq rfl) (.cons rfl (.of_eq rfl) (.cons rfl (.of_eq rfl) .nil)))) (.box rfl (.cons (.of_eq rfl) (.cons (.of_eq rfl) (.cons (.of_eq rfl) (.cons (.of_eq rfl) .nil)))) (.box rfl (.cons (.of_eq rfl) .nil) (.box rfl (.cons (.of_eq rfl) (.cons (.of_eq rfl) (.cons (.of_eq rfl) (.cons (.of_eq rfl) .nil)))) .nil))) rfl)))))) ?_
  refine W.seq ?_
  refine W.reg (σ' := ⟨[(3, .ptr 101 0), (5, .ptr 102 0), (6, .ptr 103 0), (8, .v (Enc.err ET) v1), (13, .v Enc.bool (Option.isSome v1))], [(101, .box 112 [.v (Enc.int .i64) a0.1, .v (Enc.sl (Enc.pr (Enc.int .i64) eBlk)) a0.2.1, .v (Enc.sl (Enc.pr (Enc.int .i64) (Enc.sl (Enc.pr (Enc.int .i64) eBlk)))) a0.2.2.1, .v Enc.bool a0.2.2.2]), (102, .box 3 [.v (Enc.int .i64) a2]), (103, .box 112 [.v (Enc.int .i64) (0 : Int), .v (Enc.sl (Enc.pr (Enc.int .i64) eBlk)) ([] : (List (Int × Blk))), .v (Enc.sl (Enc.pr (Enc.int .i64) (Enc.sl (Enc.pr (Enc.int .i64) eBlk)))) ([] : (List (Int × (List (Int × Blk))))), .v Enc.bool false])]⟩) (J.cons (.none rfl) (JO.move rfl) rfl rfl (J.cons (.none rfl) (JO.errNe Try.runUnderlying33 rfl) rfl rfl (J.fin (Sw.Sub.mk id (.cons rfl (.of_eq rfl) (.cons rfl (.of_eq rfl) (.cons rfl (.of_eq rfl) (.cons rfl (.of_eq rfl) (.cons rfl (.of_eq rfl) .nil))))) (.box rfl (.cons (.of_eq rfl) (.cons (.of_eq rfl) (.cons (.of_eq rfl) (.cons (.of_eq rfl) .nil)))) (.box rfl (.cons (.of_eq rfl) .nil) (.box rfl (.cons (.of_eq rfl) (.cons (.of_eq rfl) (.cons (.of_eq rfl) (.cons (.of_eq rfl) .nil)))) .nil))) rfl)))) ?_
  rcases Bool.eq_false_or_eq_true (Option.isSome v1) with hc2 | hc2
  · replace h := cond_t hc2 h
    refine W.condT rfl hc2 ?_
    refine W.seq ?_
    refine W.reg (σ' := ⟨[(6, .ptr 103 0), (7, .v (Enc.err ET) v1)], [(103, .box 112 [.v (Enc.int .i64) (0 : Int), .v (Enc.sl (Enc.pr (Enc.int .i64) eBlk)) ([] : (List (Int × Blk))), .v (Enc.sl (Enc.pr (Enc.int .i64) (Enc.sl (Enc.pr (Enc.int .i64) eBlk)))) ([] : (List (Int × (List (Int × Blk))))), .v Enc.bool false])]⟩) (J.cons (.none rfl) (JO.build built112 (.cons (Z.int .i64) (.cons (Z.sl (Enc.pr (Enc.int .i64) eBlk)) (.cons (Z.sl (Enc.pr (Enc.int .i64) (Enc.sl (Enc.pr (Enc.int .i64) eBlk)))) (.cons Z.bool .nil)))) .nil) rfl rfl (J.cons (.none rfl) (JO.move rfl) rfl rfl (J.mut (.none rfl) (JM.storeAgg rfl rfl rfl rfl rfl rfl Try.sizeOf112) (J.cons (.none rfl) (JO.assign rfl) rfl rfl (J.fin (Sw.Sub.mk id (.cons rfl (.of_eq rfl) (.cons rfl (.of_eq rfl) .nil)) (.box rfl (.cons (.of_eq rfl) (.cons (.of_eq rfl) (.cons (.of_eq rfl) (.cons (.of_eq rfl) .nil)))) .nil) rfl)))))) ?_
    refine W.ret ?_
    obtain rfl := Option.some.inj h
    exact XQ.sub (σ' := ⟨[(6, .ptr 90 0), (7, .v (Enc.err ET) v1)], [(90, .box 112 [.v (Enc.int .i64) (0 : Int), .v (Enc.sl (Enc.pr (Enc.int .i64) eBlk)) ([] : (List (Int × Blk))), .v (Enc.sl (Enc.pr (Enc.int .i64) (Enc.sl (Enc.pr (Enc.int .i64) eBlk)))) ([] : (List (Int × (List (Int × Blk))))), .v Enc.bool false])]⟩) (Sw.Sub.mk (rn [(90, 103)]) (.cons rfl (.of_eq rfl) (.cons rfl (.of_eq rfl) .nil)) (.box rfl (.cons (.of_eq rfl) (.cons (.of_eq rfl) (.cons (.of_eq rfl) (.cons (.of_eq rfl) .nil)))) .nil) rfl) (XQ.ret2 hF noR rfl (RV.cellAll rfl rfl (.prm (.one _ _) (.prm (.one _ _) (.prm (.one _ _) (.one _ _)))) Try.isAgg112 Try.sizeOf112) (RV.tmp rfl) .nil rfl)
  · replace h := cond_f hc2 h
    refine W.condF rfl hc2 ?_
    refine W.skip ?_
    refine W.seq ?_
    refine W.seq ?_
    obtain ⟨x4, hx, h⟩ := bind_e h
    refine W.reg (σ' := ⟨[(3, .ptr 101 0), (5, .ptr 102 0), (6, .ptr 103 0), (23, .v Enc.bool x4)], [(101, .box 112 [.v (Enc.int .i64) a0.1, .v (Enc.sl (Enc.pr (Enc.int .i64) eBlk)) a0.2.1, .v (Enc.sl (Enc.pr (Enc.int .i64) (Enc.sl (Enc.pr (Enc.int .i64) eBlk)))) a0.2.2.1, .v Enc.bool a0.2.2.2]), (102, .box 3 [.v (Enc.int .i64) a2]), (103, .box 112 [.v (Enc.int .i64) (0 : Int), .v (Enc.sl (Enc.pr (Enc.int .i64) eBlk)) ([] : (List (Int × Blk))), .v (Enc.sl (Enc.pr (Enc.int .i64) (Enc.sl (Enc.pr (Enc.int .i64) eBlk)))) ([] : (List (Int × (List (Int × Blk))))), .v Enc.bool false])]⟩) ?_ ?_
    · rcases Bool.eq_false_or_eq_true (cm .lss a2 (0 : Int)) with hc5 | hc5
      · replace hx := cond_t hc5 hx
        obtain rfl := Option.some.inj hx
        exact (J.cons (.none rfl) (JO.load rfl rfl rfl Try.isAgg3 Try.sizeOf3) rfl rfl (J.cons (.none rfl) (JO.cmp rfl rfl rfl) rfl rfl (J.cons (.none rfl) (JO.move rfl) rfl rfl (J.left (GK.unmet 18 rfl rfl rfl hc5) rfl (J.left (GK.unmet 18 rfl rfl rfl hc5) rfl (J.left (GK.unmet 18 rfl rfl rfl hc5) rfl (J.left (GK.unmet 18 rfl rfl rfl hc5) rfl (J.cons (.none rfl) (JO.pT hc5 rfl rfl) rfl rfl (J.fin (Sw.Sub.mk id (.cons rfl (.of_eq rfl) (.cons rfl (.of_eq rfl) (.cons rfl (.of_eq rfl) (.cons rfl (.of_eq rfl) .nil)))) (.box rfl (.cons (.of_eq rfl) (.cons (.of_eq rfl) (.cons (.of_eq rfl) (.cons (.of_eq rfl) .nil)))) (.box rfl (.cons (.of_eq rfl) .nil) (.box rfl (.cons (.of_eq rfl) (.cons (.of_eq rfl) (.cons (.of_eq rfl) (.cons (.of_eq rfl) .nil)))) .nil))) rfl))))))))))
      · replace hx := cond_f hc5 hx
        obtain rfl := Option.some.inj hx
        exact (J.cons (.none rfl) (JO.load rfl rfl rfl Try.isAgg3 Try.sizeOf3) rfl rfl (J.cons (.none rfl) (JO.cmp rfl rfl rfl) rfl rfl (J.cons (.none rfl) (JO.move rfl) rfl rfl (J.cons (GK.met 18 rfl rfl rfl hc5) (JO.load rfl rfl rfl Try.isAgg3 Try.sizeOf3) rfl rfl (J.cons (GK.met 18 rfl rfl rfl hc5) (JO.fieldPtr 0 rfl Try.runUnderlying112 rfl Try.sizeOf3 rfl rfl) rfl rfl (J.cons (GK.met 18 rfl rfl rfl hc5) (JO.load rfl rfl rfl Try.isAgg3 Try.sizeOf3) rfl rfl (J.cons (GK.met 18 rfl rfl rfl hc5) (JO.cmp rfl rfl rfl) rfl rfl (J.cons (.none rfl) (JO.pF hc5 rfl rfl) rfl rfl (J.fin (Sw.Sub.mk id (.cons rfl (.of_eq rfl) (.cons rfl (.of_eq rfl) (.cons rfl (.of_eq rfl) (.cons rfl (.of_eq rfl) .nil)))) (.box rfl (.cons (.of_eq rfl) (.cons (.of_eq rfl) (.cons (.of_eq rfl) (.cons (.of_eq rfl) .nil)))) (.box rfl (.cons (.of_eq rfl) .nil) (.box rfl (.cons (.of_eq rfl) (.cons (.of_eq rfl) (.cons (.of_eq rfl) (.cons (.of_eq rfl) .nil)))) .nil))) rfl))))))))))
    rcases Bool.eq_false_or_eq_true x4 with hc6 | hc6
    · replace h := cond_t hc6 h
      refine W.condT rfl hc6 ?_
      refine W.seq ?_
      refine W.reg (σ' := ⟨[(6, .ptr 103 0), (7, .v (Enc.err ET) (some (1 : Int)))], [(103, .box 112 [.v (Enc.int .i64) (0 : Int), .v (Enc.sl (Enc.pr (Enc.int .i64) eBlk)) ([] : (List (Int × Blk))), .v (Enc.sl (Enc.pr (Enc.int .i64) (Enc.sl (Enc.pr (Enc.int .i64) eBlk)))) ([] : (List (Int × (List (Int × Blk))))), .v Enc.bool false])]⟩) (J.cons (.none rfl) (JO.build built112 (.cons (Z.int .i64) (.cons (Z.sl (Enc.pr (Enc.int .i64) eBlk)) (.cons (Z.sl (Enc.pr (Enc.int .i64) (Enc.sl (Enc.pr (Enc.int .i64) eBlk)))) (.cons Z.bool .nil)))) .nil) rfl rfl (J.cons (.none rfl) (JO.mkErr Try.runUnderlying29 rfl) rfl rfl (J.mut (.none rfl) (JM.storeAgg rfl rfl rfl rfl rfl rfl Try.sizeOf112) (J.cons (.none rfl) (JO.assign rfl) rfl rfl (J.fin (Sw.Sub.mk id (.cons rfl (.of_eq rfl) (.cons rfl (.of_eq rfl) .nil)) (.box rfl (.cons (.of_eq rfl) (.cons (.of_eq rfl) (.cons (.of_eq rfl) (.cons (.of_eq rfl) .nil)))) .nil) rfl)))))) ?_
      refine W.ret ?_
      obtain rfl := Option.some.inj h
      exact XQ.sub (σ' := ⟨[(6, .ptr 90 0), (7, .v (Enc.err ET) (some (1 : Int)))], [(90, .box 112 [.v (Enc.int .i64) (0 : Int), .v (Enc.sl (Enc.pr (Enc.int .i64) eBlk)) ([] : (List (Int × Blk))), .v (Enc.sl (Enc.pr (Enc.int .i64) (Enc.sl (Enc.pr (Enc.int .i64) eBlk)))) ([] : (List (Int × (List (Int × Blk))))), .v Enc.bool false])]⟩) (Sw.Sub.mk (rn [(90, 103)]) (.cons rfl (.of_eq rfl) (.cons rfl (.of_eq rfl) .nil)) (.box rfl (.cons (.of_eq rfl) (.cons (.of_eq rfl) (.cons (.of_eq rfl) (.cons (.of_eq rfl) .nil)))) .nil) rfl) (XQ.ret2 hF noR rfl (RV.cellAll rfl rfl (.prm (.one _ _) (.prm (.one _ _) (.prm (.one _ _) (.one _ _)))) Try.isAgg112 Try.sizeOf112) (RV.tmp rfl) .nil rfl)
    · replace h := cond_f hc6 h
      refine W.condF rfl hc6 ?_
      refine W.skip ?_
      refine W.seq ?_
      obtain ⟨v7, hv7, h⟩ := bind_e h
      refine W.reg (σ' := ⟨[(3, .ptr 101 0), (5, .ptr 102 0), (6, .ptr 103 0)], [(101, .box 112 [.v (Enc.int .i64) v7.1, .ref 105000, .ref 105001, .v Enc.bool v7.2.2.2]), (102, .box 3 [.v (Enc.int .i64) a2]), (103, .box 112 [.v (Enc.int .i64) (0 : Int), .v (Enc.sl (Enc.pr (Enc.int .i64) eBlk)) ([] : (List (Int × Blk))), .v (Enc.sl (Enc.pr (Enc.int .i64) (Enc.sl (Enc.pr (Enc.int .i64) eBlk)))) ([] : (List (Int × (List (Int × Blk))))), .v Enc.bool false]), (105000, .arr 85 (Enc.pr (Enc.int .i64) eBlk) v7.2.1), (105001, .arr 121 (Enc.pr (Enc.int .i64) (Enc.sl (Enc.pr (Enc.int .i64) eBlk))) v7.2.2.1)]⟩) (J.cons (.none rfl) (JO.loadAll rfl rfl (.prm (.one _ _) (.prm (.one _ _) (.prm (.one _ _) (.one _ _)))) Try.isAgg112 Try.sizeOf112) rfl rfl (J.cons (.none rfl) (JO.call 105000 (con_epoch_clone hv7) Try.call122 (.cons (.dir rfl) .nil) rfl) rfl rfl (J.mut (.none rfl) (JM.storeAgg rfl rfl rfl rfl rfl rfl Try.sizeOf112) (J.fin (Sw.Sub.mk id (.cons rfl (.of_eq rfl) (.cons rfl (.of_eq rfl) (.cons rfl (.of_eq rfl) .nil))) (.box rfl (.cons (.of_eq rfl) (.cons (.of_eq rfl) (.cons (.of_eq rfl) (.cons (.of_eq rfl) .nil)))) (.box rfl (.cons (.of_eq rfl) .nil) (.box rfl (.cons (.of_eq rfl) (.cons (.of_eq rfl) (.cons (.of_eq rfl) (.cons (.of_eq rfl) .nil)))) (.arr rfl (.arr rfl .nil))))) rfl))))) ?_
      refine W.seq ?_
      obtain ⟨v8, hv8, h⟩ := bind_e h
      refine W.reg (σ' := ⟨[(3, .ptr 101 0), (5, .pst (Enc.int .i64) a2), (6, .ptr 103 0)], [(101, .box 112 [.v (Enc.int .i64) v7.1, .ref 105000, .ref 106, .v Enc.bool v7.2.2.2]), (103, .box 112 [.v (Enc.int .i64) (0 : Int), .v (Enc.sl (Enc.pr (Enc.int .i64) eBlk)) ([] : (List (Int × Blk))), .v (Enc.sl (Enc.pr (Enc.int .i64) (Enc.sl (Enc.pr (Enc.int .i64) eBlk)))) ([] : (List (Int × (List (Int × Blk))))), .v Enc.bool false]), (105000, .arr 85 (Enc.pr (Enc.int .i64) eBlk) v7.2.1), (106, .arr 121 (Enc.pr (Enc.int .i64) (Enc.sl (Enc.pr (Enc.int .i64) eBlk))) v8)]⟩) (J.cons (.none rfl) (JO.fieldPtr 2 rfl Try.runUnderlying112 rfl Try.sizeOf110 rfl rfl) rfl rfl (J.cons (.none rfl) (JO.load rfl rfl rfl Try.isAgg110 Try.sizeOf110) rfl rfl (J.cons (.none rfl) (JO.makeFunc (.cons (.dir rfl) .nil)) rfl rfl (J.sub (σ' := ⟨[(3, .ptr 101 0), (5, .pst (Enc.int .i64) a2), (6, .ptr 103 0), (28, .ptr 101 2), (29, .ref 105001), (30, .fnc 127 [.pst (Enc.int .i64) a2])], [(101, .box 112 [.v (Enc.int .i64) v7.1, .ref 105000, .ref 105001, .v Enc.bool v7.2.2.2]), (103, .box 112 [.v (Enc.int .i64) (0 : Int), .v (Enc.sl (Enc.pr (Enc.int .i64) eBlk)) ([] : (List (Int × Blk))), .v (Enc.sl (Enc.pr (Enc.int .i64) (Enc.sl (Enc.pr (Enc.int .i64) eBlk)))) ([] : (List (Int × (List (Int × Blk))))), .v Enc.bool false]), (105000, .arr 85 (Enc.pr (Enc.int .i64) eBlk) v7.2.1), (105001, .arr 121 (Enc.pr (Enc.int .i64) (Enc.sl (Enc.pr (Enc.int .i64) eBlk))) v7.2.2.1)]⟩) (Sw.Sub.mk id (.cons rfl (.of_eq rfl) (.cons rfl (.frzP rfl rfl (.cons (.of_eq rfl) .nil) (.one _ _)) (.cons rfl (.of_eq rfl) (.cons rfl (.of_eq rfl) (.cons rfl (.of_eq rfl) (.cons rfl (.fnc (.cons (.frzP rfl rfl (.cons (.of_eq rfl) .nil) (.one _ _)) .nil)) .nil)))))) (.box rfl (.cons (.of_eq rfl) (.cons (.of_eq rfl) (.cons (.of_eq rfl) (.cons (.of_eq rfl) .nil)))) (.box rfl (.cons (.of_eq rfl) (.cons (.of_eq rfl) (.cons (.of_eq rfl) (.cons (.of_eq rfl) .nil)))) (.arr rfl (.arr rfl .nil)))) rfl) (J.mut (.none rfl) (JM.callM (H := [105001]) (K := []) (swp [(9000, 105001), (0, 106)]) (swp_inj _) (fun A => con_slices_DeleteFunc_epoch_Epoch_epoch_Epoch__epoch_Drop_1_io A hv8) Try.call126 (.cons (.dir rfl) (.cons (.dir rfl) .nil)) (fun A => (.arr rfl .nil)) (fun A => (.arr .nil rfl)) (fun _ => rfl) rfl rfl (fun _ => rfl) rfl rfl) (J.cons (.none rfl) (JO.fieldPtr 2 rfl Try.runUnderlying112 rfl Try.sizeOf110 rfl rfl) rfl rfl (J.mut (.none rfl) (JM.store rfl rfl rfl rfl rfl rfl rfl Try.sizeOf110) (J.fin (Sw.Sub.mk id (.cons rfl (.of_eq rfl) (.cons rfl (.of_eq rfl) (.cons rfl (.of_eq rfl) .nil))) (.box rfl (.cons (.of_eq rfl) (.cons (.of_eq rfl) (.cons (.of_eq rfl) (.cons (.of_eq rfl) .nil)))) (.box rfl (.cons (.of_eq rfl) (.cons (.of_eq rfl) (.cons (.of_eq rfl) (.cons (.of_eq rfl) .nil)))) (.arr rfl (.arr rfl .nil)))) rfl))))))))) ?_
      refine W.seq ?_
      refine W.seq ?_
      refine W.reg (σ' := ⟨[(3, .ptr 101 0), (6, .ptr 103 0), (36, .v Enc.bool (cm .eql a2 v7.1))], [(101, .box 112 [.v (Enc.int .i64) v7.1, .ref 105000, .ref 106, .v Enc.bool v7.2.2.2]), (103, .box 112 [.v (Enc.int .i64) (0 : Int), .v (Enc.sl (Enc.pr (Enc.int .i64) eBlk)) ([] : (List (Int × Blk))), .v (Enc.sl (Enc.pr (Enc.int .i64) (Enc.sl (Enc.pr (Enc.int .i64) eBlk)))) ([] : (List (Int × (List (Int × Blk))))), .v Enc.bool false]), (105000, .arr 85 (Enc.pr (Enc.int .i64) eBlk) v7.2.1), (106, .arr 121 (Enc.pr (Enc.int .i64) (Enc.sl (Enc.pr (Enc.int .i64) eBlk))) v8)]⟩) (J.cons (.none rfl) (JO.loadPst rfl Try.isAgg3 Try.sizeOf3) rfl rfl (J.cons (.none rfl) (JO.fieldPtr 0 rfl Try.runUnderlying112 rfl Try.sizeOf3 rfl rfl) rfl rfl (J.cons (.none rfl) (JO.load rfl rfl rfl Try.isAgg3 Try.sizeOf3) rfl rfl (J.cons (.none rfl) (JO.cmp rfl rfl rfl) rfl rfl (J.fin (Sw.Sub.mk id (.cons rfl (.of_eq rfl) (.cons rfl (.of_eq rfl) (.cons rfl (.of_eq rfl) .nil))) (.box rfl (.cons (.of_eq rfl) (.cons (.of_eq rfl) (.cons (.of_eq rfl) (.cons (.of_eq rfl) .nil)))) (.box rfl (.cons (.of_eq rfl) (.cons (.of_eq rfl) (.cons (.of_eq rfl) (.cons (.of_eq rfl) .nil)))) (.arr rfl (.arr rfl .nil)))) rfl)))))) ?_
      obtain ⟨k10, hk10, h⟩ := jp_elim h
      refine W.jn (fun x11 : Bool => ⟨[(3, .ptr 101 0), (6, .ptr 103 0)], [(101, .box 112 [.v (Enc.int .i64) v7.1, .ref 105000, .ref 106, .v Enc.bool x11]), (103, .box 112 [.v (Enc.int .i64) (0 : Int), .v (Enc.sl (Enc.pr (Enc.int .i64) eBlk)) ([] : (List (Int × Blk))), .v (Enc.sl (Enc.pr (Enc.int .i64) (Enc.sl (Enc.pr (Enc.int .i64) eBlk)))) ([] : (List (Int × (List (Int × Blk))))), .v Enc.bool false]), (105000, .arr 85 (Enc.pr (Enc.int .i64) eBlk) v7.2.1), (106, .arr 121 (Enc.pr (Enc.int .i64) (Enc.sl (Enc.pr (Enc.int .i64) eBlk))) v8)]⟩) (fun x => k10 x = some r) rfl ?_ ?_ ?_
      · intro x11 h
        rw [hk10] at h
        refine W.seq ?_
        refine W.reg (σ' := ⟨[(6, .ptr 103 0), (7, .v (Enc.err ET) (none : Option Int))], [(103, .box 112 [.v (Enc.int .i64) v7.1, .ref 105000, .ref 106, .v Enc.bool x11]), (105000, .arr 85 (Enc.pr (Enc.int .i64) eBlk) v7.2.1), (106, .arr 121 (Enc.pr (Enc.int .i64) (Enc.sl (Enc.pr (Enc.int .i64) eBlk))) v8)]⟩) (J.cons (.none rfl) (JO.loadAgg rfl rfl rfl Try.isAgg112 Try.sizeOf112) rfl rfl (J.mut (.none rfl) (JM.storeAgg rfl rfl rfl rfl rfl rfl Try.sizeOf112) (J.cons (.none rfl) (JO.assignNilE ET) rfl rfl (J.fin (Sw.Sub.mk id (.cons rfl (.of_eq rfl) (.cons rfl (.of_eq rfl) .nil)) (.box rfl (.cons (.of_eq rfl) (.cons (.of_eq rfl) (.cons (.of_eq rfl) (.cons (.of_eq rfl) .nil)))) (.arr rfl (.arr rfl .nil))) rfl))))) ?_
        refine W.ret ?_
        obtain rfl := Option.some.inj h
        exact XQ.sub (σ' := ⟨[(6, .ptr 90 0), (7, .v (Enc.err ET) (none : Option Int))], [(90, .box 112 [.v (Enc.int .i64) v7.1, .v (Enc.sl (Enc.pr (Enc.int .i64) eBlk)) v7.2.1, .v (Enc.sl (Enc.pr (Enc.int .i64) (Enc.sl (Enc.pr (Enc.int .i64) eBlk)))) v8, .v Enc.bool x11])]⟩) (Sw.Sub.mk (rn [(90, 103)]) (.cons rfl (.of_eq rfl) (.cons rfl (.of_eq rfl) .nil)) (.box rfl (.cons (.of_eq rfl) (.cons (.frz rfl rfl) (.cons (.frz rfl rfl) (.cons (.of_eq rfl) .nil)))) .nil) rfl) (XQ.ret2 hF noR rfl (RV.cellAll rfl rfl (.prm (.one _ _) (.prm (.one _ _) (.prm (.one _ _) (.one _ _)))) Try.isAgg112 Try.sizeOf112) (RV.tmp rfl) .nil rfl)
      · intro hc9
        replace h := cond_t hc9 h
        refine W.reg (σ' := ⟨[(3, .ptr 101 0), (6, .ptr 103 0)], [(101, .box 112 [.v (Enc.int .i64) v7.1, .ref 105000, .ref 106, .v Enc.bool false]), (103, .box 112 [.v (Enc.int .i64) (0 : Int), .v (Enc.sl (Enc.pr (Enc.int .i64) eBlk)) ([] : (List (Int × Blk))), .v (Enc.sl (Enc.pr (Enc.int .i64) (Enc.sl (Enc.pr (Enc.int .i64) eBlk)))) ([] : (List (Int × (List (Int × Blk))))), .v Enc.bool false]), (105000, .arr 85 (Enc.pr (Enc.int .i64) eBlk) v7.2.1), (106, .arr 121 (Enc.pr (Enc.int .i64) (Enc.sl (Enc.pr (Enc.int .i64) eBlk))) v8)]⟩) (J.cons (.none rfl) (JO.fieldPtr 3 rfl Try.runUnderlying112 rfl Try.sizeOf4 rfl rfl) rfl rfl (J.mut (.none rfl) (JM.store rfl rfl rfl rfl rfl rfl rfl Try.sizeOf4) (J.fin (Sw.Sub.mk id (.cons rfl (.of_eq rfl) (.cons rfl (.of_eq rfl) .nil)) (.box rfl (.cons (.of_eq rfl) (.cons (.of_eq rfl) (.cons (.of_eq rfl) (.cons (.of_eq rfl) .nil)))) (.box rfl (.cons (.of_eq rfl) (.cons (.of_eq rfl) (.cons (.of_eq rfl) (.cons (.of_eq rfl) .nil)))) (.arr rfl (.arr rfl .nil)))) rfl)))) ?_
        exact W.jfall h (Sw.Sub.mk id (.cons rfl (.of_eq rfl) (.cons rfl (.of_eq rfl) .nil)) (.box rfl (.cons (.of_eq rfl) (.cons (.of_eq rfl) (.cons (.of_eq rfl) (.cons (.of_eq rfl) .nil)))) (.box rfl (.cons (.of_eq rfl) (.cons (.of_eq rfl) (.cons (.of_eq rfl) (.cons (.of_eq rfl) .nil)))) (.arr rfl (.arr rfl .nil)))) rfl)
      · intro hc9
        replace h := cond_f hc9 h
        refine W.skip ?_
        exact W.jfall h (Sw.Sub.mk id (.cons rfl (.of_eq rfl) (.cons rfl (.of_eq rfl) .nil)) (.box rfl (.cons (.of_eq rfl) (.cons (.of_eq rfl) (.cons (.of_eq rfl) (.cons (.of_eq rfl) .nil)))) (.box rfl (.cons (.of_eq rfl) (.cons (.of_eq rfl) (.cons (.of_eq rfl) (.cons (.of_eq rfl) .nil)))) (.arr rfl (.arr rfl .nil)))) rfl)
end Go.Cn
