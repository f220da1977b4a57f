/- The functions that this law reaches come to what their models come to. Conditions: none. -/
import Derived.Test.YteckohdbfkhmdabMoLinkMade
import Derived.KernelRfl
import Derived.Test.YteckohdbfkhmdabChecked
set_option linter.unusedVariables false
set_option linter.unusedSimpArgs false
namespace Go.Cn
open Go Go.Sw Go.Mo Go.Proofs
abbrev ET : Nat := 29
theorem mixed : Try.prog.follows .mixedOrders = true := Try.checked.mixed
theorem eq56 : EqE 2 Try.prog 56 eBlk := EqE.arr Try.runUnderlying56 Try.sizeOf5 Try.isAgg5 (EqE.int Try.underlying5)
theorem eq67 : EqE 2 Try.prog 67 (Enc.pr (Enc.int .i64) (Enc.int .i64)) := EqE.struct Try.runUnderlying67 Try.stoodInHeld67 rfl (EqFs.cons (by decide) rfl (EqE.int Try.underlying3) Try.isAgg3 Try.sizeOf3 (EqFs.last (by decide) rfl (EqE.int Try.underlying3) Try.isAgg3 Try.sizeOf3))
theorem eq159 : EqE 2 Try.prog 159 (Enc.arr 4 (Enc.int .u8)) := EqE.arr Try.runUnderlying159 Try.sizeOf5 Try.isAgg5 (EqE.int Try.underlying5)
theorem built24 : ∀ parts, Try.prog.built 24 parts = Instr.fill (([(0, 1), (1, 1), (2, 1)] : List (Nat × Nat)).toArray[·]?) ([.int .i64 0, .int .i64 0, .slice none 0 0] : List Value).toArray parts := built_struct Try.typeInfo24 Try.runUnderlying24 rfl rfl (.cons rfl (by kernel_rfl) (by kernel_rfl) (.cons rfl (by kernel_rfl) (by kernel_rfl) (.cons rfl (by kernel_rfl) (by kernel_rfl) .nil)))
theorem built28 : ∀ parts, Try.prog.built 28 parts = Instr.fill (([(0, 1), (1, 1), (2, 1)] : List (Nat × Nat)).toArray[·]?) ([.int .i64 0, .slice none 0 0, .slice none 0 0] : List Value).toArray parts := built_struct Try.typeInfo28 Try.runUnderlying28 rfl rfl (.cons rfl (by kernel_rfl) (by kernel_rfl) (.cons rfl (by kernel_rfl) (by kernel_rfl) (.cons rfl (by kernel_rfl) (by kernel_rfl) .nil)))
theorem built67 : ∀ parts, Try.prog.built 67 parts = Instr.fill (([(0, 1), (1, 1)] : List (Nat × Nat)).toArray[·]?) ([.int .i64 0, .int .i64 0] : List Value).toArray parts := built_struct Try.typeInfo67 Try.runUnderlying67 rfl rfl (.cons rfl (by kernel_rfl) (by kernel_rfl) (.cons rfl (by kernel_rfl) (by kernel_rfl) .nil))
theorem built162 : ∀ parts, Try.prog.built 162 parts = Instr.fill (([(0, 1)] : List (Nat × Nat)).toArray[·]?) ([.slice none 0 0] : List Value).toArray parts := built_struct Try.typeInfo162 Try.runUnderlying162 rfl rfl (.cons rfl (by kernel_rfl) (by kernel_rfl) .nil)
set_option maxRecDepth 100000 in
set_option maxHeartbeats 4000000 in
theorem con_ref_FrameMay {a0 : (Int × (List Int) × (List Blk))} {r : Int} (h : m_ref_FrameMay a0 = some r) :
    Con Try.prog 68 [.v (Enc.pr (Enc.int .i64) (Enc.pr (Enc.sl (Enc.int .i64)) (Enc.sl eBlk))) a0] (.v (Enc.int .i64) r) [] := by
  refine Con.of Try.func68 rfl Try.ntmps68 rfl ?_
  intro S w hF
  unfold m_ref_FrameMay at h
  refine W.seq ?_
  refine W.reg (σ' := ⟨[(1, .ptr 101 0)], [(101, .box 28 [.v (Enc.int .i64) a0.1, .v (Enc.sl (Enc.int .i64)) a0.2.1, .v (Enc.sl eBlk) a0.2.2])]⟩) (J.cons (.none rfl) (JO.box 101 rfl (.prm (.one _ _) (.prm (.one _ _) (.one _ _))) rfl) rfl rfl (J.cons (.none rfl) (JO.assign rfl) rfl rfl (J.fin (Sw.Sub.mk id (.cons rfl (.of_eq rfl) .nil) (.box rfl (.cons (.of_eq rfl) (.cons (.of_eq rfl) (.cons (.of_eq rfl) .nil))) .nil) rfl)))) ?_
  refine W.seq ?_
  refine W.seq ?_
  obtain ⟨x2, hx, h⟩ := bind_e h
  refine W.reg (σ' := ⟨[(1, .ptr 101 0), (11, .v Enc.bool x2)], [(101, .box 28 [.v (Enc.int .i64) a0.1, .v (Enc.sl (Enc.int .i64)) a0.2.1, .v (Enc.sl eBlk) a0.2.2])]⟩) ?_ ?_
  · rcases Bool.eq_false_or_eq_true (cm .lss a0.1 (0 : Int)) with hc3 | hc3
    · replace hx := cond_t hc3 hx
      obtain rfl := Option.some.inj hx
      exact (J.cons (.none rfl) (JO.fieldPtr 0 rfl Try.runUnderlying28 rfl Try.sizeOf3 rfl rfl) rfl rfl (J.cons (.none rfl) (JO.load rfl rfl rfl Try.isAgg3 Try.sizeOf3) rfl rfl (J.cons (.none rfl) (JO.cmp rfl rfl rfl) rfl rfl (J.cons (.none rfl) (JO.move rfl) rfl rfl (J.left (GK.unmet 7 rfl rfl rfl hc3) rfl (J.left (GK.unmet 7 rfl rfl rfl hc3) rfl (J.left (GK.unmet 7 rfl rfl rfl hc3) rfl (J.cons (.none rfl) (JO.pT hc3 rfl rfl) rfl rfl (J.fin (Sw.Sub.mk id (.cons rfl (.of_eq rfl) (.cons rfl (.of_eq rfl) .nil)) (.box rfl (.cons (.of_eq rfl) (.cons (.of_eq rfl) (.cons (.of_eq rfl) .nil))) .nil) rfl))))))))))
    · replace hx := cond_f hc3 hx
      obtain rfl := Option.some.inj hx
      exact (J.cons (.none rfl) (JO.fieldPtr 0 rfl Try.runUnderlying28 rfl Try.sizeOf3 rfl rfl) rfl rfl (J.cons (.none rfl) (JO.load rfl rfl rfl Try.isAgg3 Try.sizeOf3) rfl rfl (J.cons (.none rfl) (JO.cmp rfl rfl rfl) rfl rfl (J.cons (.none rfl) (JO.move rfl) rfl rfl (J.cons (GK.met 7 rfl rfl rfl hc3) (JO.fieldPtr 0 rfl Try.runUnderlying28 rfl Try.sizeOf3 rfl rfl) rfl rfl (J.cons (GK.met 7 rfl rfl rfl hc3) (JO.load rfl rfl rfl Try.isAgg3 Try.sizeOf3) rfl rfl (J.cons (GK.met 7 rfl rfl rfl hc3) (JO.cmp rfl rfl rfl) rfl rfl (J.cons (.none rfl) (JO.pF hc3 rfl rfl) rfl rfl (J.fin (Sw.Sub.mk id (.cons rfl (.of_eq rfl) (.cons rfl (.of_eq rfl) .nil)) (.box rfl (.cons (.of_eq rfl) (.cons (.of_eq rfl) (.cons (.of_eq rfl) .nil))) .nil) rfl))))))))))
  rcases Bool.eq_false_or_eq_true x2 with hc4 | hc4
  · replace h := cond_t hc4 h
    refine W.condT rfl hc4 ?_
    refine W.seq ?_
    refine W.reg (σ' := ⟨[(2, .v (Enc.int .i64) (1 : Int))], []⟩) (J.cons (.none rfl) (JO.assign rfl) rfl rfl (J.fin (Sw.Sub.mk id (.cons rfl (.of_eq rfl) .nil) .nil rfl))) ?_
    refine W.ret ?_
    obtain rfl := Option.some.inj h
    exact XQ.sub (σ' := ⟨[(2, .v (Enc.int .i64) (1 : Int))], []⟩) (Sw.Sub.mk id (.cons rfl (.of_eq rfl) .nil) .nil rfl) (XQ.ret1 hF noR rfl (RV.tmp rfl) .nil rfl)
  · replace h := cond_f hc4 h
    refine W.condF rfl hc4 ?_
    refine W.skip ?_
    refine W.seq ?_
    refine W.seq ?_
    obtain ⟨x6, hx, h⟩ := bind_e h
    refine W.reg (σ' := ⟨[(1, .ptr 101 0), (21, .v Enc.bool x6)], [(101, .box 28 [.v (Enc.int .i64) a0.1, .v (Enc.sl (Enc.int .i64)) a0.2.1, .v (Enc.sl eBlk) a0.2.2])]⟩) ?_ ?_
    · rcases Bool.eq_false_or_eq_true (cm .gtr (a0.2.1.length : Int) (12 : Int)) with hc7 | hc7
      · replace hx := cond_t hc7 hx
        obtain rfl := Option.some.inj hx
        exact (J.cons (.none rfl) (JO.fieldPtr 1 rfl Try.runUnderlying28 rfl Try.sizeOf25 rfl rfl) rfl rfl (J.cons (.none rfl) (JO.load rfl rfl rfl Try.isAgg25 Try.sizeOf25) rfl rfl (J.cons (.none rfl) (JO.len rfl Try.runUnderlying25) rfl rfl (J.cons (.none rfl) (JO.cmp rfl rfl rfl) rfl rfl (J.cons (.none rfl) (JO.move rfl) rfl rfl (J.left (GK.unmet 16 rfl rfl rfl hc7) rfl (J.left (GK.unmet 16 rfl rfl rfl hc7) rfl (J.left (GK.unmet 16 rfl rfl rfl hc7) rfl (J.left (GK.unmet 16 rfl rfl rfl hc7) rfl (J.cons (.none rfl) (JO.pT hc7 rfl rfl) rfl rfl (J.fin (Sw.Sub.mk id (.cons rfl (.of_eq rfl) (.cons rfl (.of_eq rfl) .nil)) (.box rfl (.cons (.of_eq rfl) (.cons (.of_eq rfl) (.cons (.of_eq rfl) .nil))) .nil) rfl))))))))))))
      · replace hx := cond_f hc7 hx
        obtain rfl := Option.some.inj hx
        exact (J.cons (.none rfl) (JO.fieldPtr 1 rfl Try.runUnderlying28 rfl Try.sizeOf25 rfl rfl) rfl rfl (J.cons (.none rfl) (JO.load rfl rfl rfl Try.isAgg25 Try.sizeOf25) rfl rfl (J.cons (.none rfl) (JO.len rfl Try.runUnderlying25) rfl rfl (J.cons (.none rfl) (JO.cmp rfl rfl rfl) rfl rfl (J.cons (.none rfl) (JO.move rfl) rfl rfl (J.cons (GK.met 16 rfl rfl rfl hc7) (JO.fieldPtr 2 rfl Try.runUnderlying28 rfl Try.sizeOf26 rfl rfl) rfl rfl (J.cons (GK.met 16 rfl rfl rfl hc7) (JO.load rfl rfl rfl Try.isAgg26 Try.sizeOf26) rfl rfl (J.cons (GK.met 16 rfl rfl rfl hc7) (JO.len rfl Try.runUnderlying26) rfl rfl (J.cons (GK.met 16 rfl rfl rfl hc7) (JO.cmp rfl rfl rfl) rfl rfl (J.cons (.none rfl) (JO.pF hc7 rfl rfl) rfl rfl (J.fin (Sw.Sub.mk id (.cons rfl (.of_eq rfl) (.cons rfl (.of_eq rfl) .nil)) (.box rfl (.cons (.of_eq rfl) (.cons (.of_eq rfl) (.cons (.of_eq rfl) .nil))) .nil) rfl))))))))))))
    rcases Bool.eq_false_or_eq_true x6 with hc8 | hc8
    · replace h := cond_t hc8 h
      refine W.condT rfl hc8 ?_
      refine W.seq ?_
      refine W.reg (σ' := ⟨[(2, .v (Enc.int .i64) (2 : Int))], []⟩) (J.cons (.none rfl) (JO.assign rfl) rfl rfl (J.fin (Sw.Sub.mk id (.cons rfl (.of_eq rfl) .nil) .nil rfl))) ?_
      refine W.ret ?_
      obtain rfl := Option.some.inj h
      exact XQ.sub (σ' := ⟨[(2, .v (Enc.int .i64) (2 : Int))], []⟩) (Sw.Sub.mk id (.cons rfl (.of_eq rfl) .nil) .nil rfl) (XQ.ret1 hF noR rfl (RV.tmp rfl) .nil rfl)
    · replace h := cond_f hc8 h
      refine W.condF rfl hc8 ?_
      refine W.skip ?_
      refine W.seq ?_
      refine W.seq ?_
      refine W.reg (σ' := ⟨[(1, .ptr 101 0), (3, .v (Enc.int .i64) (0 : Int))], [(101, .box 28 [.v (Enc.int .i64) a0.1, .v (Enc.sl (Enc.int .i64)) a0.2.1, .v (Enc.sl eBlk) a0.2.2])]⟩) (J.cons (.none rfl) (JO.assign rfl) rfl rfl (J.fin (Sw.Sub.mk id (.cons rfl (.of_eq rfl) (.cons rfl (.of_eq rfl) .nil)) (.box rfl (.cons (.of_eq rfl) (.cons (.of_eq rfl) (.cons (.of_eq rfl) .nil))) .nil) rfl))) ?_
      obtain ⟨o39, ho39, hb39, hr39⟩ := lp_elim h
      refine W.lp (σs := fun s29 : Int => ⟨[(1, .ptr 101 0), (3, .v (Enc.int .i64) s29)], [(101, .box 28 [.v (Enc.int .i64) a0.1, .v (Enc.sl (Enc.int .i64)) a0.2.1, .v (Enc.sl eBlk) a0.2.2])]⟩) (fun x40 : Unit => ⟨[], []⟩) ho39 (Sw.Sub.mk id (.cons rfl (.of_eq rfl) (.cons rfl (.of_eq rfl) .nil)) (.box rfl (.cons (.of_eq rfl) (.cons (.of_eq rfl) (.cons (.of_eq rfl) .nil))) .nil) rfl) ?_ ?_
      · intro x40 hy
        have h := hb39 _ hy
        refine W.seq ?_
        refine W.reg (σ' := ⟨[(2, .v (Enc.int .i64) (0 : Int))], []⟩) (J.cons (.none rfl) (JO.assign rfl) rfl rfl (J.fin (Sw.Sub.mk id (.cons rfl (.of_eq rfl) .nil) .nil rfl))) ?_
        refine W.ret ?_
        obtain rfl := Option.some.inj h
        exact XQ.sub (σ' := ⟨[(2, .v (Enc.int .i64) (0 : Int))], []⟩) (Sw.Sub.mk id (.cons rfl (.of_eq rfl) .nil) .nil rfl) (XQ.ret1 hF noR rfl (RV.tmp rfl) .nil rfl)
      intro s29 r39 h
      refine W.seq ?_
      refine W.seq ?_
      refine W.reg (σ' := ⟨[(1, .ptr 101 0), (3, .v (Enc.int .i64) s29), (26, .v Enc.bool (cm .lss s29 (a0.2.1.length : Int)))], [(101, .box 28 [.v (Enc.int .i64) a0.1, .v (Enc.sl (Enc.int .i64)) a0.2.1, .v (Enc.sl eBlk) a0.2.2])]⟩) (J.cons (.none rfl) (JO.move rfl) rfl rfl (J.cons (.none rfl) (JO.fieldPtr 1 rfl Try.runUnderlying28 rfl Try.sizeOf25 rfl rfl) rfl rfl (J.cons (.none rfl) (JO.load rfl rfl rfl Try.isAgg25 Try.sizeOf25) rfl rfl (J.cons (.none rfl) (JO.len rfl Try.runUnderlying25) rfl rfl (J.cons (.none rfl) (JO.cmp rfl rfl rfl) rfl rfl (J.fin (Sw.Sub.mk id (.cons rfl (.of_eq rfl) (.cons rfl (.of_eq rfl) (.cons rfl (.of_eq rfl) .nil))) (.box rfl (.cons (.of_eq rfl) (.cons (.of_eq rfl) (.cons (.of_eq rfl) .nil))) .nil) rfl))))))) ?_
      rcases Bool.eq_false_or_eq_true (cm .lss s29 (a0.2.1.length : Int)) with hc41 | hc41
      · replace h := cond_t hc41 h
        refine W.condT rfl hc41 ?_
        refine W.skip ?_
        refine W.seq ?_
        refine W.block ?_
        refine W.seq ?_
        obtain ⟨x45, hx, h⟩ := bind_e h
        refine W.reg (σ' := ⟨[(1, .ptr 101 0), (3, .v (Enc.int .i64) s29), (42, .v Enc.bool x45)], [(101, .box 28 [.v (Enc.int .i64) a0.1, .v (Enc.sl (Enc.int .i64)) a0.2.1, .v (Enc.sl eBlk) a0.2.2])]⟩) ?_ ?_
        · obtain ⟨z46, hz46, hx⟩ := bind_e hx
          rcases Bool.eq_false_or_eq_true (cm .lss z46 (0 : Int)) with hc47 | hc47
          · replace hx := cond_t hc47 hx
            obtain rfl := Option.some.inj hx
            exact (J.cons (.none rfl) (JO.fieldPtr 1 rfl Try.runUnderlying28 rfl Try.sizeOf25 rfl rfl) rfl rfl (J.cons (.none rfl) (JO.load rfl rfl rfl Try.isAgg25 Try.sizeOf25) rfl rfl (J.cons (.none rfl) (JO.move rfl) rfl rfl (J.cons (.none rfl) (JO.idx hz46 rfl rfl Try.runUnderlying25 Try.sizeOf3) rfl rfl (J.cons (.none rfl) (JO.loadPst rfl Try.isAgg3 Try.sizeOf3) rfl rfl (J.cons (.none rfl) (JO.cmp rfl rfl rfl) rfl rfl (J.cons (.none rfl) (JO.move rfl) rfl rfl (J.left (GK.unmet 35 rfl rfl rfl hc47) rfl (J.left (GK.unmet 35 rfl rfl rfl hc47) rfl (J.left (GK.unmet 35 rfl rfl rfl hc47) rfl (J.left (GK.unmet 35 rfl rfl rfl hc47) rfl (J.left (GK.unmet 35 rfl rfl rfl hc47) rfl (J.left (GK.unmet 35 rfl rfl rfl hc47) rfl (J.cons (.none rfl) (JO.pT hc47 rfl rfl) rfl rfl (J.fin (Sw.Sub.mk id (.cons rfl (.of_eq rfl) (.cons rfl (.of_eq rfl) (.cons rfl (.of_eq rfl) .nil))) (.box rfl (.cons (.of_eq rfl) (.cons (.of_eq rfl) (.cons (.of_eq rfl) .nil))) .nil) rfl))))))))))))))))
          · replace hx := cond_f hc47 hx
            obtain ⟨z48, hz48, hx⟩ := bind_e hx
            obtain rfl := Option.some.inj hx
            exact (J.cons (.none rfl) (JO.fieldPtr 1 rfl Try.runUnderlying28 rfl Try.sizeOf25 rfl rfl) rfl rfl (J.cons (.none rfl) (JO.load rfl rfl rfl Try.isAgg25 Try.sizeOf25) rfl rfl (J.cons (.none rfl) (JO.move rfl) rfl rfl (J.cons (.none rfl) (JO.idx hz46 rfl rfl Try.runUnderlying25 Try.sizeOf3) rfl rfl (J.cons (.none rfl) (JO.loadPst rfl Try.isAgg3 Try.sizeOf3) rfl rfl (J.cons (.none rfl) (JO.cmp rfl rfl rfl) rfl rfl (J.cons (.none rfl) (JO.move rfl) rfl rfl (J.cons (GK.met 35 rfl rfl rfl hc47) (JO.fieldPtr 1 rfl Try.runUnderlying28 rfl Try.sizeOf25 rfl rfl) rfl rfl (J.cons (GK.met 35 rfl rfl rfl hc47) (JO.load rfl rfl rfl Try.isAgg25 Try.sizeOf25) rfl rfl (J.cons (GK.met 35 rfl rfl rfl hc47) (JO.move rfl) rfl rfl (J.cons (GK.met 35 rfl rfl rfl hc47) (JO.idx hz48 rfl rfl Try.runUnderlying25 Try.sizeOf3) rfl rfl (J.cons (GK.met 35 rfl rfl rfl hc47) (JO.loadPst rfl Try.isAgg3 Try.sizeOf3) rfl rfl (J.cons (GK.met 35 rfl rfl rfl hc47) (JO.cmp rfl rfl rfl) rfl rfl (J.cons (.none rfl) (JO.pF hc47 rfl rfl) rfl rfl (J.fin (Sw.Sub.mk id (.cons rfl (.of_eq rfl) (.cons rfl (.of_eq rfl) (.cons rfl (.of_eq rfl) .nil))) (.box rfl (.cons (.of_eq rfl) (.cons (.of_eq rfl) (.cons (.of_eq rfl) .nil))) .nil) rfl))))))))))))))))
        rcases Bool.eq_false_or_eq_true x45 with hc49 | hc49
        · replace h := cond_t hc49 h
          refine W.condT rfl hc49 ?_
          refine W.seq ?_
          refine W.reg (σ' := ⟨[(2, .v (Enc.int .i64) (1 : Int))], []⟩) (J.cons (.none rfl) (JO.assign rfl) rfl rfl (J.fin (Sw.Sub.mk id (.cons rfl (.of_eq rfl) .nil) .nil rfl))) ?_
          refine W.ret ?_
          refine XQ.ret ?_
          obtain rfl := Option.some.inj h
          refine XQ.lret fun ho => ?_
          obtain rfl := hr39 _ ho
          exact XQ.sub (σ' := ⟨[(2, .v (Enc.int .i64) (1 : Int))], []⟩) (Sw.Sub.mk id (.cons rfl (.of_eq rfl) .nil) .nil rfl) (XQ.ret1 hF noR rfl (RV.tmp rfl) .nil rfl)
        · replace h := cond_f hc49 h
          refine W.condF rfl hc49 ?_
          refine W.skip ?_
          refine W.fall ?_
          refine W.reg (σ' := ⟨[(1, .ptr 101 0), (3, .v (Enc.int .i64) (ar .add .i64 s29 (1 : Int)))], [(101, .box 28 [.v (Enc.int .i64) a0.1, .v (Enc.sl (Enc.int .i64)) a0.2.1, .v (Enc.sl eBlk) a0.2.2])]⟩) (J.cons (.none rfl) (JO.move rfl) rfl rfl (J.cons (.none rfl) (JO.arith rfl rfl rfl) rfl rfl (J.cons (.none rfl) (JO.assign rfl) rfl rfl (J.fin (Sw.Sub.mk id (.cons rfl (.of_eq rfl) (.cons rfl (.of_eq rfl) .nil)) (.box rfl (.cons (.of_eq rfl) (.cons (.of_eq rfl) (.cons (.of_eq rfl) .nil))) .nil) rfl))))) ?_
          obtain rfl := Option.some.inj h
          exact W.next (Sw.Sub.mk id (.cons rfl (.of_eq rfl) (.cons rfl (.of_eq rfl) .nil)) (.box rfl (.cons (.of_eq rfl) (.cons (.of_eq rfl) (.cons (.of_eq rfl) .nil))) .nil) rfl)
      · replace h := cond_f hc41 h
        refine W.condF rfl hc41 ?_
        refine W.exit ?_
        obtain rfl := Option.some.inj h
        exact XQ.brk (Sw.Sub.mk id .nil .nil rfl)
set_option maxRecDepth 100000 in
set_option maxHeartbeats 4000000 in
theorem con_ref_MessageMay {a0 : (Int × (List Int) × (List Blk))} {r : Int} (h : m_ref_MessageMay a0 = some r) :
    Con Try.prog 20 [.v (Enc.pr (Enc.int .i64) (Enc.pr (Enc.sl (Enc.int .i64)) (Enc.sl eBlk))) a0] (.v (Enc.int .i64) r) [] := by
  refine Con.of Try.func20 rfl Try.ntmps20 rfl ?_
  intro S w hF
  unfold m_ref_MessageMay at h
  refine W.seq ?_
  refine W.reg (σ' := ⟨[(1, .ptr 101 0)], [(101, .box 28 [.v (Enc.int .i64) a0.1, .v (Enc.sl (Enc.int .i64)) a0.2.1, .v (Enc.sl eBlk) a0.2.2])]⟩) (J.cons (.none rfl) (JO.box 101 rfl (.prm (.one _ _) (.prm (.one _ _) (.one _ _))) rfl) rfl rfl (J.cons (.none rfl) (JO.assign rfl) rfl rfl (J.fin (Sw.Sub.mk id (.cons rfl (.of_eq rfl) .nil) (.box rfl (.cons (.of_eq rfl) (.cons (.of_eq rfl) (.cons (.of_eq rfl) .nil))) .nil) rfl)))) ?_
  refine W.seq ?_
  obtain ⟨v1, hv1, h⟩ := bind_e h
  refine W.reg (σ' := ⟨[(1, .ptr 101 0), (3, .v (Enc.int .i64) v1)], [(101, .box 28 [.v (Enc.int .i64) a0.1, .v (Enc.sl (Enc.int .i64)) a0.2.1, .v (Enc.sl eBlk) a0.2.2])]⟩) (J.cons (.none rfl) (JO.loadAll rfl rfl (.prm (.one _ _) (.prm (.one _ _) (.one _ _))) Try.isAgg28 Try.sizeOf28) rfl rfl (J.cons (.none rfl) (JO.call0 (con_ref_FrameMay hv1) Try.call68 (.cons (.dir rfl) .nil)) rfl rfl (J.cons (.none rfl) (JO.assign rfl) rfl rfl (J.fin (Sw.Sub.mk id (.cons rfl (.of_eq rfl) (.cons rfl (.of_eq rfl) .nil)) (.box rfl (.cons (.of_eq rfl) (.cons (.of_eq rfl) (.cons (.of_eq rfl) .nil))) .nil) rfl))))) ?_
  refine W.seq ?_
  refine W.seq ?_
  obtain ⟨x3, hx, h⟩ := bind_e h
  refine W.reg (σ' := ⟨[(3, .v (Enc.int .i64) v1), (13, .v Enc.bool x3)], []⟩) ?_ ?_
  · rcases Bool.eq_false_or_eq_true (cm .eql v1 (0 : Int)) with hc4 | hc4
    · replace hx := cond_t hc4 hx
      obtain rfl := Option.some.inj hx
      exact (J.cons (.none rfl) (JO.move rfl) rfl rfl (J.cons (.none rfl) (JO.cmp rfl rfl rfl) rfl rfl (J.cons (.none rfl) (JO.move rfl) rfl rfl (J.cons (GK.met 8 rfl rfl rfl hc4) (JO.fieldPtr 1 rfl Try.runUnderlying28 rfl Try.sizeOf25 rfl rfl) rfl rfl (J.cons (GK.met 8 rfl rfl rfl hc4) (JO.load rfl rfl rfl Try.isAgg25 Try.sizeOf25) rfl rfl (J.cons (GK.met 8 rfl rfl rfl hc4) (JO.len rfl Try.runUnderlying25) rfl rfl (J.cons (GK.met 8 rfl rfl rfl hc4) (JO.cmp rfl rfl rfl) rfl rfl (J.cons (.none rfl) (JO.pT hc4 rfl rfl) rfl rfl (J.fin (Sw.Sub.mk id (.cons rfl (.of_eq rfl) (.cons rfl (.of_eq rfl) .nil)) .nil rfl))))))))))
    · replace hx := cond_f hc4 hx
      obtain rfl := Option.some.inj hx
      exact (J.cons (.none rfl) (JO.move rfl) rfl rfl (J.cons (.none rfl) (JO.cmp rfl rfl rfl) rfl rfl (J.cons (.none rfl) (JO.move rfl) rfl rfl (J.left (GK.unmet 8 rfl rfl rfl hc4) rfl (J.left (GK.unmet 8 rfl rfl rfl hc4) rfl (J.left (GK.unmet 8 rfl rfl rfl hc4) rfl (J.left (GK.unmet 8 rfl rfl rfl hc4) rfl (J.cons (.none rfl) (JO.pF hc4 rfl rfl) rfl rfl (J.fin (Sw.Sub.mk id (.cons rfl (.of_eq rfl) (.cons rfl (.of_eq rfl) .nil)) .nil rfl))))))))))
  rcases Bool.eq_false_or_eq_true x3 with hc5 | hc5
  · replace h := cond_t hc5 h
    refine W.condT rfl hc5 ?_
    refine W.seq ?_
    refine W.reg (σ' := ⟨[(2, .v (Enc.int .i64) (2 : Int))], []⟩) (J.cons (.none rfl) (JO.assign rfl) rfl rfl (J.fin (Sw.Sub.mk id (.cons rfl (.of_eq rfl) .nil) .nil rfl))) ?_
    refine W.ret ?_
    obtain rfl := Option.some.inj h
    exact XQ.sub (σ' := ⟨[(2, .v (Enc.int .i64) (2 : Int))], []⟩) (Sw.Sub.mk id (.cons rfl (.of_eq rfl) .nil) .nil rfl) (XQ.ret1 hF noR rfl (RV.tmp rfl) .nil rfl)
  · replace h := cond_f hc5 h
    refine W.condF rfl hc5 ?_
    refine W.skip ?_
    refine W.seq ?_
    refine W.reg (σ' := ⟨[(2, .v (Enc.int .i64) v1)], []⟩) (J.cons (.none rfl) (JO.move rfl) rfl rfl (J.cons (.none rfl) (JO.assign rfl) rfl rfl (J.fin (Sw.Sub.mk id (.cons rfl (.of_eq rfl) .nil) .nil rfl)))) ?_
    refine W.ret ?_
    obtain rfl := Option.some.inj h
    exact XQ.sub (σ' := ⟨[(2, .v (Enc.int .i64) v1)], []⟩) (Sw.Sub.mk id (.cons rfl (.of_eq rfl) .nil) .nil rfl) (XQ.ret1 hF noR rfl (RV.tmp rfl) .nil rfl)
set_option maxRecDepth 100000 in
set_option maxHeartbeats 4000000 in
theorem con_ref_SenderMay {a0 : (Int × Int × (List (Int × (List Int) × (List Blk))))} {r : Int} (h : m_ref_SenderMay a0 = some r) :
    Con Try.prog 13 [.v (Enc.pr (Enc.int .i64) (Enc.pr (Enc.int .i64) (Enc.sl (Enc.pr (Enc.int .i64) (Enc.pr (Enc.sl (Enc.int .i64)) (Enc.sl eBlk)))))) a0] (.v (Enc.int .i64) r) [] := by
  refine Con.of Try.func13 rfl Try.ntmps13 rfl ?_
  intro S w hF
  unfold m_ref_SenderMay at h
  refine W.seq ?_
  refine W.reg (σ' := ⟨[(1, .ptr 101 0)], [(101, .box 24 [.v (Enc.int .i64) a0.1, .v (Enc.int .i64) a0.2.1, .v (Enc.sl (Enc.pr (Enc.int .i64) (Enc.pr (Enc.sl (Enc.int .i64)) (Enc.sl eBlk)))) a0.2.2])]⟩) (J.cons (.none rfl) (JO.box 101 rfl (.prm (.one _ _) (.prm (.one _ _) (.one _ _))) rfl) rfl rfl (J.cons (.none rfl) (JO.assign rfl) rfl rfl (J.fin (Sw.Sub.mk id (.cons rfl (.of_eq rfl) .nil) (.box rfl (.cons (.of_eq rfl) (.cons (.of_eq rfl) (.cons (.of_eq rfl) .nil))) .nil) rfl)))) ?_
  refine W.seq ?_
  refine W.seq ?_
  obtain ⟨x4, hx, h⟩ := bind_e h
  refine W.reg (σ' := ⟨[(1, .ptr 101 0), (22, .v Enc.bool x4)], [(101, .box 24 [.v (Enc.int .i64) a0.1, .v (Enc.int .i64) a0.2.1, .v (Enc.sl (Enc.pr (Enc.int .i64) (Enc.pr (Enc.sl (Enc.int .i64)) (Enc.sl eBlk)))) a0.2.2])]⟩) ?_ ?_
  · rcases Bool.eq_false_or_eq_true (cm .lss a0.1 (0 : Int)) with hc5 | hc5
    · replace hx := cond_t hc5 hx
      obtain rfl := Option.some.inj hx
      exact (J.cons (.none rfl) (JO.fieldPtr 0 rfl Try.runUnderlying24 rfl Try.sizeOf3 rfl rfl) rfl rfl (J.cons (.none rfl) (JO.load rfl rfl rfl Try.isAgg3 Try.sizeOf3) rfl rfl (J.cons (.none rfl) (JO.cmp rfl rfl rfl) rfl rfl (J.cons (.none rfl) (JO.move rfl) rfl rfl (J.left (GK.unmet 8 rfl rfl rfl hc5) rfl (J.left (GK.unmet 8 rfl rfl rfl hc5) rfl (J.left (GK.unmet 8 rfl rfl rfl hc5) rfl (J.cons (.none rfl) (JO.pT hc5 rfl rfl) rfl rfl (J.cons (.none rfl) (JO.move rfl) rfl rfl (J.left (GK.unmet 13 rfl rfl rfl rfl) rfl (J.left (GK.unmet 13 rfl rfl rfl rfl) rfl (J.left (GK.unmet 13 rfl rfl rfl rfl) rfl (J.cons (.none rfl) (JO.pT rfl rfl rfl) rfl rfl (J.cons (.none rfl) (JO.move rfl) rfl rfl (J.left (GK.unmet 18 rfl rfl rfl rfl) rfl (J.left (GK.unmet 18 rfl rfl rfl rfl) rfl (J.left (GK.unmet 18 rfl rfl rfl rfl) rfl (J.cons (.none rfl) (JO.pT rfl rfl rfl) rfl rfl (J.fin (Sw.Sub.mk id (.cons rfl (.of_eq rfl) (.cons rfl (.of_eq rfl) .nil)) (.box rfl (.cons (.of_eq rfl) (.cons (.of_eq rfl) (.cons (.of_eq rfl) .nil))) .nil) rfl))))))))))))))))))))
    · replace hx := cond_f hc5 hx
      rcases Bool.eq_false_or_eq_true (cm .gtr a0.1 (2147483647 : Int)) with hc6 | hc6
      · replace hx := cond_t hc6 hx
        obtain rfl := Option.some.inj hx
        exact (J.cons (.none rfl) (JO.fieldPtr 0 rfl Try.runUnderlying24 rfl Try.sizeOf3 rfl rfl) rfl rfl (J.cons (.none rfl) (JO.load rfl rfl rfl Try.isAgg3 Try.sizeOf3) rfl rfl (J.cons (.none rfl) (JO.cmp rfl rfl rfl) rfl rfl (J.cons (.none rfl) (JO.move rfl) rfl rfl (J.cons (GK.met 8 rfl rfl rfl hc5) (JO.fieldPtr 0 rfl Try.runUnderlying24 rfl Try.sizeOf3 rfl rfl) rfl rfl (J.cons (GK.met 8 rfl rfl rfl hc5) (JO.load rfl rfl rfl Try.isAgg3 Try.sizeOf3) rfl rfl (J.cons (GK.met 8 rfl rfl rfl hc5) (JO.cmp rfl rfl rfl) rfl rfl (J.cons (.none rfl) (JO.pF hc5 rfl rfl) rfl rfl (J.cons (.none rfl) (JO.move rfl) rfl rfl (J.left (GK.unmet 13 rfl rfl rfl hc6) rfl (J.left (GK.unmet 13 rfl rfl rfl hc6) rfl (J.left (GK.unmet 13 rfl rfl rfl hc6) rfl (J.cons (.none rfl) (JO.pT hc6 rfl rfl) rfl rfl (J.cons (.none rfl) (JO.move rfl) rfl rfl (J.left (GK.unmet 18 rfl rfl rfl rfl) rfl (J.left (GK.unmet 18 rfl rfl rfl rfl) rfl (J.left (GK.unmet 18 rfl rfl rfl rfl) rfl (J.cons (.none rfl) (JO.pT rfl rfl rfl) rfl rfl (J.fin (Sw.Sub.mk id (.cons rfl (.of_eq rfl) (.cons rfl (.of_eq rfl) .nil)) (.box rfl (.cons (.of_eq rfl) (.cons (.of_eq rfl) (.cons (.of_eq rfl) .nil))) .nil) rfl))))))))))))))))))))
      · replace hx := cond_f hc6 hx
        rcases Bool.eq_false_or_eq_true (cm .lss a0.2.1 (0 : Int)) with hc7 | hc7
        · replace hx := cond_t hc7 hx
          obtain rfl := Option.some.inj hx
          exact (J.cons (.none rfl) (JO.fieldPtr 0 rfl Try.runUnderlying24 rfl Try.sizeOf3 rfl rfl) rfl rfl (J.cons (.none rfl) (JO.load rfl rfl rfl Try.isAgg3 Try.sizeOf3) rfl rfl (J.cons (.none rfl) (JO.cmp rfl rfl rfl) rfl rfl (J.cons (.none rfl) (JO.move rfl) rfl rfl (J.cons (GK.met 8 rfl rfl rfl hc5) (JO.fieldPtr 0 rfl Try.runUnderlying24 rfl Try.sizeOf3 rfl rfl) rfl rfl (J.cons (GK.met 8 rfl rfl rfl hc5) (JO.load rfl rfl rfl Try.isAgg3 Try.sizeOf3) rfl rfl (J.cons (GK.met 8 rfl rfl rfl hc5) (JO.cmp rfl rfl rfl) rfl rfl (J.cons (.none rfl) (JO.pF hc5 rfl rfl) rfl rfl (J.cons (.none rfl) (JO.move rfl) rfl rfl (J.cons (GK.met 13 rfl rfl rfl hc6) (JO.fieldPtr 1 rfl Try.runUnderlying24 rfl Try.sizeOf3 rfl rfl) rfl rfl (J.cons (GK.met 13 rfl rfl rfl hc6) (JO.load rfl rfl rfl Try.isAgg3 Try.sizeOf3) rfl rfl (J.cons (GK.met 13 rfl rfl rfl hc6) (JO.cmp rfl rfl rfl) rfl rfl (J.cons (.none rfl) (JO.pF hc6 rfl rfl) rfl rfl (J.cons (.none rfl) (JO.move rfl) rfl rfl (J.left (GK.unmet 18 rfl rfl rfl hc7) rfl (J.left (GK.unmet 18 rfl rfl rfl hc7) rfl (J.left (GK.unmet 18 rfl rfl rfl hc7) rfl (J.cons (.none rfl) (JO.pT hc7 rfl rfl) rfl rfl (J.fin (Sw.Sub.mk id (.cons rfl (.of_eq rfl) (.cons rfl (.of_eq rfl) .nil)) (.box rfl (.cons (.of_eq rfl) (.cons (.of_eq rfl) (.cons (.of_eq rfl) .nil))) .nil) rfl))))))))))))))))))))
        · replace hx := cond_f hc7 hx
          obtain rfl := Option.some.inj hx
          exact (J.cons (.none rfl) (JO.fieldPtr 0 rfl Try.runUnderlying24 rfl Try.sizeOf3 rfl rfl) rfl rfl (J.cons (.none rfl) (JO.load rfl rfl rfl Try.isAgg3 Try.sizeOf3) rfl rfl (J.cons (.none rfl) (JO.cmp rfl rfl rfl) rfl rfl (J.cons (.none rfl) (JO.move rfl) rfl rfl (J.cons (GK.met 8 rfl rfl rfl hc5) (JO.fieldPtr 0 rfl Try.runUnderlying24 rfl Try.sizeOf3 rfl rfl) rfl rfl (J.cons (GK.met 8 rfl rfl rfl hc5) (JO.load rfl rfl rfl Try.isAgg3 Try.sizeOf3) rfl rfl (J.cons (GK.met 8 rfl rfl rfl hc5) (JO.cmp rfl rfl rfl) rfl rfl (J.cons (.none rfl) (JO.pF hc5 rfl rfl) rfl rfl (J.cons (.none rfl) (JO.move rfl) rfl rfl (J.cons (GK.met 13 rfl rfl rfl hc6) (JO.fieldPtr 1 rfl Try.runUnderlying24 rfl Try.sizeOf3 rfl rfl) rfl rfl (J.cons (GK.met 13 rfl rfl rfl hc6) (JO.load rfl rfl rfl Try.isAgg3 Try.sizeOf3) rfl rfl (J.cons (GK.met 13 rfl rfl rfl hc6) (JO.cmp rfl rfl rfl) rfl rfl (J.cons (.none rfl) (JO.pF hc6 rfl rfl) rfl rfl (J.cons (.none rfl) (JO.move rfl) rfl rfl (J.cons (GK.met 18 rfl rfl rfl hc7) (JO.fieldPtr 1 rfl Try.runUnderlying24 rfl Try.sizeOf3 rfl rfl) rfl rfl (J.cons (GK.met 18 rfl rfl rfl hc7) (JO.load rfl rfl rfl Try.isAgg3 Try.sizeOf3) rfl rfl (J.cons (GK.met 18 rfl rfl rfl hc7) (JO.cmp rfl rfl rfl) rfl rfl (J.cons (.none rfl) (JO.pF hc7 rfl rfl) rfl rfl (J.fin (Sw.Sub.mk id (.cons rfl (.of_eq rfl) (.cons rfl (.of_eq rfl) .nil)) (.box rfl (.cons (.of_eq rfl) (.cons (.of_eq rfl) (.cons (.of_eq rfl) .nil))) .nil) rfl))))))))))))))))))))
  rcases Bool.eq_false_or_eq_true x4 with hc8 | hc8
  · replace h := cond_t hc8 h
    refine W.condT rfl hc8 ?_
    refine W.seq ?_
    refine W.reg (σ' := ⟨[(2, .v (Enc.int .i64) (1 : Int))], []⟩) (J.cons (.none rfl) (JO.assign rfl) rfl rfl (J.fin (Sw.Sub.mk id (.cons rfl (.of_eq rfl) .nil) .nil rfl))) ?_
    refine W.ret ?_
    obtain rfl := Option.some.inj h
    exact XQ.sub (σ' := ⟨[(2, .v (Enc.int .i64) (1 : Int))], []⟩) (Sw.Sub.mk id (.cons rfl (.of_eq rfl) .nil) .nil rfl) (XQ.ret1 hF noR rfl (RV.tmp rfl) .nil rfl)
  · replace h := cond_f hc8 h
    refine W.condF rfl hc8 ?_
    refine W.skip ?_
    refine W.seq ?_
    refine W.seq ?_
    refine W.reg (σ' := ⟨[(1, .ptr 101 0), (26, .v Enc.bool (cm .gtr (a0.2.2.length : Int) (64 : Int)))], [(101, .box 24 [.v (Enc.int .i64) a0.1, .v (Enc.int .i64) a0.2.1, .v (Enc.sl (Enc.pr (Enc.int .i64) (Enc.pr (Enc.sl (Enc.int .i64)) (Enc.sl eBlk)))) a0.2.2])]⟩) (J.cons (.none rfl) (JO.fieldPtr 2 rfl Try.runUnderlying24 rfl Try.sizeOf22 rfl rfl) rfl rfl (J.cons (.none rfl) (JO.load rfl rfl rfl Try.isAgg22 Try.sizeOf22) rfl rfl (J.cons (.none rfl) (JO.len rfl Try.runUnderlying22) rfl rfl (J.cons (.none rfl) (JO.cmp rfl rfl rfl) rfl rfl (J.fin (Sw.Sub.mk id (.cons rfl (.of_eq rfl) (.cons rfl (.of_eq rfl) .nil)) (.box rfl (.cons (.of_eq rfl) (.cons (.of_eq rfl) (.cons (.of_eq rfl) .nil))) .nil) rfl)))))) ?_
    rcases Bool.eq_false_or_eq_true (cm .gtr (a0.2.2.length : Int) (64 : Int)) with hc9 | hc9
    · replace h := cond_t hc9 h
      refine W.condT rfl hc9 ?_
      refine W.seq ?_
      refine W.reg (σ' := ⟨[(2, .v (Enc.int .i64) (2 : Int))], []⟩) (J.cons (.none rfl) (JO.assign rfl) rfl rfl (J.fin (Sw.Sub.mk id (.cons rfl (.of_eq rfl) .nil) .nil rfl))) ?_
      refine W.ret ?_
      obtain rfl := Option.some.inj h
      exact XQ.sub (σ' := ⟨[(2, .v (Enc.int .i64) (2 : Int))], []⟩) (Sw.Sub.mk id (.cons rfl (.of_eq rfl) .nil) .nil rfl) (XQ.ret1 hF noR rfl (RV.tmp rfl) .nil rfl)
    · replace h := cond_f hc9 h
      refine W.condF rfl hc9 ?_
      refine W.skip ?_
      refine W.seq ?_
      refine W.seq ?_
      refine W.reg (σ' := ⟨[(1, .ptr 101 0), (3, .v (Enc.int .i64) (0 : Int))], [(101, .box 24 [.v (Enc.int .i64) a0.1, .v (Enc.int .i64) a0.2.1, .v (Enc.sl (Enc.pr (Enc.int .i64) (Enc.pr (Enc.sl (Enc.int .i64)) (Enc.sl eBlk)))) a0.2.2])]⟩) (J.cons (.none rfl) (JO.assign rfl) rfl rfl (J.fin (Sw.Sub.mk id (.cons rfl (.of_eq rfl) (.cons rfl (.of_eq rfl) .nil)) (.box rfl (.cons (.of_eq rfl) (.cons (.of_eq rfl) (.cons (.of_eq rfl) .nil))) .nil) rfl))) ?_
      obtain ⟨o25, ho25, hb25, hr25⟩ := lp_elim h
      refine W.lp (σs := fun s20 : Int => ⟨[(1, .ptr 101 0), (3, .v (Enc.int .i64) s20)], [(101, .box 24 [.v (Enc.int .i64) a0.1, .v (Enc.int .i64) a0.2.1, .v (Enc.sl (Enc.pr (Enc.int .i64) (Enc.pr (Enc.sl (Enc.int .i64)) (Enc.sl eBlk)))) a0.2.2])]⟩) (fun x26 : Unit => ⟨[], []⟩) ho25 (Sw.Sub.mk id (.cons rfl (.of_eq rfl) (.cons rfl (.of_eq rfl) .nil)) (.box rfl (.cons (.of_eq rfl) (.cons (.of_eq rfl) (.cons (.of_eq rfl) .nil))) .nil) rfl) ?_ ?_
      · intro x26 hy
        have h := hb25 _ hy
        refine W.seq ?_
        refine W.reg (σ' := ⟨[(2, .v (Enc.int .i64) (0 : Int))], []⟩) (J.cons (.none rfl) (JO.assign rfl) rfl rfl (J.fin (Sw.Sub.mk id (.cons rfl (.of_eq rfl) .nil) .nil rfl))) ?_
        refine W.ret ?_
        obtain rfl := Option.some.inj h
        exact XQ.sub (σ' := ⟨[(2, .v (Enc.int .i64) (0 : Int))], []⟩) (Sw.Sub.mk id (.cons rfl (.of_eq rfl) .nil) .nil rfl) (XQ.ret1 hF noR rfl (RV.tmp rfl) .nil rfl)
      intro s20 r25 h
      refine W.seq ?_
      refine W.seq ?_
      refine W.reg (σ' := ⟨[(1, .ptr 101 0), (3, .v (Enc.int .i64) s20), (31, .v Enc.bool (cm .lss s20 (a0.2.2.length : Int)))], [(101, .box 24 [.v (Enc.int .i64) a0.1, .v (Enc.int .i64) a0.2.1, .v (Enc.sl (Enc.pr (Enc.int .i64) (Enc.pr (Enc.sl (Enc.int .i64)) (Enc.sl eBlk)))) a0.2.2])]⟩) (J.cons (.none rfl) (JO.move rfl) rfl rfl (J.cons (.none rfl) (JO.fieldPtr 2 rfl Try.runUnderlying24 rfl Try.sizeOf22 rfl rfl) rfl rfl (J.cons (.none rfl) (JO.load rfl rfl rfl Try.isAgg22 Try.sizeOf22) rfl rfl (J.cons (.none rfl) (JO.len rfl Try.runUnderlying22) rfl rfl (J.cons (.none rfl) (JO.cmp rfl rfl rfl) rfl rfl (J.fin (Sw.Sub.mk id (.cons rfl (.of_eq rfl) (.cons rfl (.of_eq rfl) (.cons rfl (.of_eq rfl) .nil))) (.box rfl (.cons (.of_eq rfl) (.cons (.of_eq rfl) (.cons (.of_eq rfl) .nil))) .nil) rfl))))))) ?_
      rcases Bool.eq_false_or_eq_true (cm .lss s20 (a0.2.2.length : Int)) with hc27 | hc27
      · replace h := cond_t hc27 h
        refine W.condT rfl hc27 ?_
        refine W.skip ?_
        refine W.seq ?_
        refine W.block ?_
        refine W.seq ?_
        obtain ⟨z28, hz28, h⟩ := bind_e h
        obtain ⟨v29, hv29, h⟩ := bind_e h
        refine W.reg (σ' := ⟨[(1, .ptr 101 0), (3, .v (Enc.int .i64) s20), (4, .v (Enc.int .i64) v29)], [(101, .box 24 [.v (Enc.int .i64) a0.1, .v (Enc.int .i64) a0.2.1, .v (Enc.sl (Enc.pr (Enc.int .i64) (Enc.pr (Enc.sl (Enc.int .i64)) (Enc.sl eBlk)))) a0.2.2])]⟩) (J.cons (.none rfl) (JO.fieldPtr 2 rfl Try.runUnderlying24 rfl Try.sizeOf22 rfl rfl) rfl rfl (J.cons (.none rfl) (JO.load rfl rfl rfl Try.isAgg22 Try.sizeOf22) rfl rfl (J.cons (.none rfl) (JO.move rfl) rfl rfl (J.cons (.none rfl) (JO.idx hz28 rfl rfl Try.runUnderlying22 Try.sizeOf28) rfl rfl (J.cons (.none rfl) (JO.loadPst rfl Try.isAgg28 Try.sizeOf28) rfl rfl (J.cons (.none rfl) (JO.call0 (con_ref_MessageMay hv29) Try.call20 (.cons (.dir rfl) .nil)) rfl rfl (J.cons (.none rfl) (JO.assign rfl) rfl rfl (J.fin (Sw.Sub.mk id (.cons rfl (.of_eq rfl) (.cons rfl (.of_eq rfl) (.cons rfl (.of_eq rfl) .nil))) (.box rfl (.cons (.of_eq rfl) (.cons (.of_eq rfl) (.cons (.of_eq rfl) .nil))) .nil) rfl))))))))) ?_
        refine W.seq ?_
        refine W.reg (σ' := ⟨[(1, .ptr 101 0), (3, .v (Enc.int .i64) s20), (4, .v (Enc.int .i64) v29), (41, .v Enc.bool (cm .neq v29 (0 : Int)))], [(101, .box 24 [.v (Enc.int .i64) a0.1, .v (Enc.int .i64) a0.2.1, .v (Enc.sl (Enc.pr (Enc.int .i64) (Enc.pr (Enc.sl (Enc.int .i64)) (Enc.sl eBlk)))) a0.2.2])]⟩) (J.cons (.none rfl) (JO.move rfl) rfl rfl (J.cons (.none rfl) (JO.cmp rfl rfl rfl) rfl rfl (J.fin (Sw.Sub.mk id (.cons rfl (.of_eq rfl) (.cons rfl (.of_eq rfl) (.cons rfl (.of_eq rfl) (.cons rfl (.of_eq rfl) .nil)))) (.box rfl (.cons (.of_eq rfl) (.cons (.of_eq rfl) (.cons (.of_eq rfl) .nil))) .nil) rfl)))) ?_
        rcases Bool.eq_false_or_eq_true (cm .neq v29 (0 : Int)) with hc30 | hc30
        · replace h := cond_t hc30 h
          refine W.condT rfl hc30 ?_
          refine W.seq ?_
          refine W.reg (σ' := ⟨[(2, .v (Enc.int .i64) v29)], []⟩) (J.cons (.none rfl) (JO.move rfl) rfl rfl (J.cons (.none rfl) (JO.assign rfl) rfl rfl (J.fin (Sw.Sub.mk id (.cons rfl (.of_eq rfl) .nil) .nil rfl)))) ?_
          refine W.ret ?_
          refine XQ.ret ?_
          obtain rfl := Option.some.inj h
          refine XQ.lret fun ho => ?_
          obtain rfl := hr25 _ ho
          exact XQ.sub (σ' := ⟨[(2, .v (Enc.int .i64) v29)], []⟩) (Sw.Sub.mk id (.cons rfl (.of_eq rfl) .nil) .nil rfl) (XQ.ret1 hF noR rfl (RV.tmp rfl) .nil rfl)
        · replace h := cond_f hc30 h
          refine W.condF rfl hc30 ?_
          refine W.skip ?_
          refine W.fall ?_
          refine W.reg (σ' := ⟨[(1, .ptr 101 0), (3, .v (Enc.int .i64) (ar .add .i64 s20 (1 : Int)))], [(101, .box 24 [.v (Enc.int .i64) a0.1, .v (Enc.int .i64) a0.2.1, .v (Enc.sl (Enc.pr (Enc.int .i64) (Enc.pr (Enc.sl (Enc.int .i64)) (Enc.sl eBlk)))) a0.2.2])]⟩) (J.cons (.none rfl) (JO.move rfl) rfl rfl (J.cons (.none rfl) (JO.arith rfl rfl rfl) rfl rfl (J.cons (.none rfl) (JO.assign rfl) rfl rfl (J.fin (Sw.Sub.mk id (.cons rfl (.of_eq rfl) (.cons rfl (.of_eq rfl) .nil)) (.box rfl (.cons (.of_eq rfl) (.cons (.of_eq rfl) (.cons (.of_eq rfl) .nil))) .nil) rfl))))) ?_
          obtain rfl := Option.some.inj h
          exact W.next (Sw.Sub.mk id (.cons rfl (.of_eq rfl) (.cons rfl (.of_eq rfl) .nil)) (.box rfl (.cons (.of_eq rfl) (.cons (.of_eq rfl) (.cons (.of_eq rfl) .nil))) .nil) rfl)
      · replace h := cond_f hc27 h
        refine W.condF rfl hc27 ?_
        refine W.exit ?_
        obtain rfl := Option.some.inj h
        exact XQ.brk (Sw.Sub.mk id .nil .nil rfl)
set_option maxRecDepth 100000 in
set_option maxHeartbeats 4000000 in
theorem con_ref_Pick {a0 : Int} {a1 : Int} {r : Int} (h : m_ref_Pick a0 a1 = some r) :
    Con Try.prog 23 [.v (Enc.int .i64) a0, .v (Enc.int .i64) a1] (.v (Enc.int .i64) r) [] := by
  refine Con.of Try.func23 rfl Try.ntmps23 rfl ?_
  intro S w hF
  unfold m_ref_Pick at h
  refine W.seq ?_
  refine W.reg (σ' := ⟨[(0, .v (Enc.int .i64) a0), (1, .v (Enc.int .i64) a1)], []⟩) (J.cons (.none rfl) (JO.assign rfl) rfl rfl (J.fin (Sw.Sub.mk id (.cons rfl (.of_eq rfl) (.cons rfl (.of_eq rfl) .nil)) .nil rfl))) ?_
  refine W.seq ?_
  refine W.seq ?_
  refine W.reg (σ' := ⟨[(0, .v (Enc.int .i64) a0), (1, .v (Enc.int .i64) a1), (6, .v Enc.bool (cm .lss a0 (0 : Int)))], []⟩) (J.cons (.none rfl) (JO.move rfl) rfl rfl (J.cons (.none rfl) (JO.cmp rfl rfl rfl) rfl rfl (J.fin (Sw.Sub.mk id (.cons rfl (.of_eq rfl) (.cons rfl (.of_eq rfl) (.cons rfl (.of_eq rfl) .nil))) .nil rfl)))) ?_
  obtain ⟨k2, hk2, h⟩ := jp_elim h
  refine W.jn (fun x3 : Int => ⟨[(0, .v (Enc.int .i64) x3), (1, .v (Enc.int .i64) a1)], []⟩) (fun x => k2 x = some r) rfl ?_ ?_ ?_
  · intro x3 h
    rw [hk2] at h
    refine W.seq ?_
    obtain ⟨u4, hu4, h⟩ := bind_e h
    refine W.reg (σ' := ⟨[(4, .v (Enc.int .i64) (ar .rem .i64 x3 a1))], []⟩) (J.cons (.none rfl) (JO.move rfl) rfl rfl (J.cons (.none rfl) (JO.move rfl) rfl rfl (J.cons (.none rfl) (JO.div (.inr rfl) (nz_some hu4) rfl rfl) rfl rfl (J.cons (.none rfl) (JO.assign rfl) rfl rfl (J.fin (Sw.Sub.mk id (.cons rfl (.of_eq rfl) .nil) .nil rfl)))))) ?_
    refine W.ret ?_
    obtain rfl := Option.some.inj h
    exact XQ.sub (σ' := ⟨[(4, .v (Enc.int .i64) (ar .rem .i64 x3 a1))], []⟩) (Sw.Sub.mk id (.cons rfl (.of_eq rfl) .nil) .nil rfl) (XQ.ret1 hF noR rfl (RV.tmp rfl) .nil rfl)
  · intro hc1
    replace h := cond_t hc1 h
    refine W.reg (σ' := ⟨[(0, .v (Enc.int .i64) (IntKind.wrap .i64 (0 - (ar .add .i64 a0 (1 : Int))))), (1, .v (Enc.int .i64) a1)], []⟩) (J.cons (.none rfl) (JO.move rfl) rfl rfl (J.cons (.none rfl) (JO.arith rfl rfl rfl) rfl rfl (J.cons (.none rfl) (JO.neg rfl) rfl rfl (J.cons (.none rfl) (JO.assign rfl) rfl rfl (J.fin (Sw.Sub.mk id (.cons rfl (.of_eq rfl) (.cons rfl (.of_eq rfl) .nil)) .nil rfl)))))) ?_
    exact W.jfall h (Sw.Sub.mk id (.cons rfl (.of_eq rfl) (.cons rfl (.of_eq rfl) .nil)) .nil rfl)
  · intro hc1
    replace h := cond_f hc1 h
    refine W.skip ?_
    exact W.jfall h (Sw.Sub.mk id (.cons rfl (.of_eq rfl) (.cons rfl (.of_eq rfl) .nil)) .nil rfl)
set_option maxRecDepth 100000 in
set_option maxHeartbeats 4000000 in
theorem con_ref_mixed {a0 : Int} {r : Int} (h : m_ref_mixed a0 = some r) :
    Con Try.prog 140 [.v (Enc.int .i64) a0] (.v (Enc.int .i64) r) [] := by
  refine Con.of Try.func140 rfl Try.ntmps140 rfl ?_
  intro S w hF
  unfold m_ref_mixed at h
  refine W.seq ?_
  refine W.reg (σ' := ⟨[(0, .v (Enc.int .i64) a0)], []⟩) (J.cons (.none rfl) (JO.assign rfl) rfl rfl (J.fin (Sw.Sub.mk id (.cons rfl (.of_eq rfl) .nil) .nil rfl))) ?_
  refine W.seq ?_
  refine W.reg (σ' := ⟨[(0, .v (Enc.int .i64) a0), (3, .v (Enc.int .i64) (3988292384 : Int))], []⟩) (J.cons (.none rfl) (JO.assign rfl) rfl rfl (J.fin (Sw.Sub.mk id (.cons rfl (.of_eq rfl) (.cons rfl (.of_eq rfl) .nil)) .nil rfl))) ?_
  refine W.seq ?_
  refine W.reg (σ' := ⟨[(0, .v (Enc.int .i64) a0), (3, .v (Enc.int .i64) (3988292384 : Int)), (4, .v (Enc.int .i64) (0 : Int))], []⟩) (J.cons (.none rfl) (JO.assign rfl) rfl rfl (J.fin (Sw.Sub.mk id (.cons rfl (.of_eq rfl) (.cons rfl (.of_eq rfl) (.cons rfl (.of_eq rfl) .nil))) .nil rfl))) ?_
  refine W.seq ?_
  refine W.seq ?_
  refine W.reg (σ' := ⟨[(0, .v (Enc.int .i64) a0), (3, .v (Enc.int .i64) (3988292384 : Int)), (4, .v (Enc.int .i64) (0 : Int)), (5, .v (Enc.int .i64) (1 : Int))], []⟩) (J.cons (.none rfl) (JO.assign rfl) rfl rfl (J.fin (Sw.Sub.mk id (.cons rfl (.of_eq rfl) (.cons rfl (.of_eq rfl) (.cons rfl (.of_eq rfl) (.cons rfl (.of_eq rfl) .nil)))) .nil rfl))) ?_
  obtain ⟨o14, ho14, hb14, hr14⟩ := lp_elim h
  refine W.lp (σs := fun s9 : Int × Int => ⟨[(0, .v (Enc.int .i64) a0), (3, .v (Enc.int .i64) (3988292384 : Int)), (4, .v (Enc.int .i64) s9.1), (5, .v (Enc.int .i64) s9.2)], []⟩) (fun x15 : Int => ⟨[(4, .v (Enc.int .i64) x15)], []⟩) ho14 (Sw.Sub.mk id (.cons rfl (.of_eq rfl) (.cons rfl (.of_eq rfl) (.cons rfl (.of_eq rfl) (.cons rfl (.of_eq rfl) .nil)))) .nil rfl) ?_ ?_
  · intro x15 hy
    have h := hb14 _ hy
    refine W.seq ?_
    refine W.reg (σ' := ⟨[(2, .v (Enc.int .i64) x15)], []⟩) (J.cons (.none rfl) (JO.move rfl) rfl rfl (J.cons (.none rfl) (JO.assign rfl) rfl rfl (J.fin (Sw.Sub.mk id (.cons rfl (.of_eq rfl) .nil) .nil rfl)))) ?_
    refine W.ret ?_
    obtain rfl := Option.some.inj h
    exact XQ.sub (σ' := ⟨[(2, .v (Enc.int .i64) x15)], []⟩) (Sw.Sub.mk id (.cons rfl (.of_eq rfl) .nil) .nil rfl) (XQ.ret1 hF noR rfl (RV.tmp rfl) .nil rfl)
  intro s9 r14 h
  refine W.seq ?_
  refine W.seq ?_
  refine W.reg (σ' := ⟨[(0, .v (Enc.int .i64) a0), (3, .v (Enc.int .i64) (3988292384 : Int)), (4, .v (Enc.int .i64) s9.1), (5, .v (Enc.int .i64) s9.2), (7, .v Enc.bool (cm .lss s9.2 (4294967296 : Int)))], []⟩) (J.cons (.none rfl) (JO.move rfl) rfl rfl (J.cons (.none rfl) (JO.cmp rfl rfl rfl) rfl rfl (J.fin (Sw.Sub.mk id (.cons rfl (.of_eq rfl) (.cons rfl (.of_eq rfl) (.cons rfl (.of_eq rfl) (.cons rfl (.of_eq rfl) (.cons rfl (.of_eq rfl) .nil))))) .nil rfl)))) ?_
  rcases Bool.eq_false_or_eq_true (cm .lss s9.2 (4294967296 : Int)) with hc16 | hc16
  · replace h := cond_t hc16 h
    refine W.condT rfl hc16 ?_
    refine W.skip ?_
    refine W.seq ?_
    refine W.block ?_
    refine W.seq ?_
    obtain ⟨u17, hu17, h⟩ := bind_e h
    obtain ⟨u18, hu18, h⟩ := bind_e h
    refine W.dr2 (σ' := ⟨[(0, .v (Enc.int .i64) a0), (3, .v (Enc.int .i64) (3988292384 : Int)), (4, .v (Enc.int .i64) s9.1), (5, .v (Enc.int .i64) s9.2), (18, .v Enc.bool (cm .neq (ar .rem .i64 (ar .quo .i64 a0 s9.2) (2 : Int)) (ar .rem .i64 (ar .quo .i64 (3988292384 : Int) s9.2) (2 : Int))))], []⟩) 9 [0, 0, 3, 7, 0, 0, 48, 112, 255] mixed (by exact (.cons (.none rfl) (JO.move rfl) rfl rfl (.cons (.none rfl) (JO.move rfl) rfl rfl (.cons (.none rfl) (JO.div (.inl rfl) (nz_some hu17) rfl rfl) rfl rfl (.cons (.none rfl) (JO.div (.inr rfl) (by decide) rfl rfl) rfl rfl (.cons (.none rfl) (JO.move rfl) rfl rfl (.cons (.none rfl) (JO.move rfl) rfl rfl (.cons (.none rfl) (JO.div (.inl rfl) (nz_some hu18) rfl rfl) rfl rfl (.cons (.none rfl) (JO.div (.inr rfl) (by decide) rfl rfl) rfl rfl (.cons (.none rfl) (JO.cmp rfl rfl rfl) rfl rfl .nil)))))))))) (by exact (J.fin (Sw.Sub.mk id (.cons rfl (.of_eq rfl) (.cons rfl (.of_eq rfl) (.cons rfl (.of_eq rfl) (.cons rfl (.of_eq rfl) (.cons rfl (.of_eq rfl) .nil))))) .nil rfl))) rfl (by decide +kernel) (by decide +kernel) (by decide +kernel) (by kernel_rfl) ?_
    rcases Bool.eq_false_or_eq_true (cm .neq (ar .rem .i64 (ar .quo .i64 a0 s9.2) (2 : Int)) (ar .rem .i64 (ar .quo .i64 (3988292384 : Int) s9.2) (2 : Int))) with hc19 | hc19
    · replace h := cond_t hc19 h
      refine W.condT rfl hc19 ?_
      refine W.reg (σ' := ⟨[(0, .v (Enc.int .i64) a0), (3, .v (Enc.int .i64) (3988292384 : Int)), (4, .v (Enc.int .i64) (ar .add .i64 s9.1 s9.2)), (5, .v (Enc.int .i64) s9.2)], []⟩) (J.cons (.none rfl) (JO.move rfl) rfl rfl (J.cons (.none rfl) (JO.move rfl) rfl rfl (J.cons (.none rfl) (JO.arith rfl rfl rfl) rfl rfl (J.cons (.none rfl) (JO.assign rfl) rfl rfl (J.fin (Sw.Sub.mk id (.cons rfl (.of_eq rfl) (.cons rfl (.of_eq rfl) (.cons rfl (.of_eq rfl) (.cons rfl (.of_eq rfl) .nil)))) .nil rfl)))))) ?_
      refine W.fall ?_
      refine W.reg (σ' := ⟨[(0, .v (Enc.int .i64) a0), (3, .v (Enc.int .i64) (3988292384 : Int)), (4, .v (Enc.int .i64) (ar .add .i64 s9.1 s9.2)), (5, .v (Enc.int .i64) (ar .mul .i64 s9.2 (2 : Int)))], []⟩) (J.cons (.none rfl) (JO.move rfl) rfl rfl (J.cons (.none rfl) (JO.arith rfl rfl rfl) rfl rfl (J.cons (.none rfl) (JO.assign rfl) rfl rfl (J.fin (Sw.Sub.mk id (.cons rfl (.of_eq rfl) (.cons rfl (.of_eq rfl) (.cons rfl (.of_eq rfl) (.cons rfl (.of_eq rfl) .nil)))) .nil rfl))))) ?_
      obtain rfl := Option.some.inj h
      exact W.next (Sw.Sub.mk id (.cons rfl (.of_eq rfl) (.cons rfl (.of_eq rfl) (.cons rfl (.of_eq rfl) (.cons rfl (.of_eq rfl) .nil)))) .nil rfl)
    · replace h := cond_f hc19 h
      refine W.condF rfl hc19 ?_
      refine W.skip ?_
      refine W.fall ?_
      refine W.reg (σ' := ⟨[(0, .v (Enc.int .i64) a0), (3, .v (Enc.int .i64) (3988292384 : Int)), (4, .v (Enc.int .i64) s9.1), (5, .v (Enc.int .i64) (ar .mul .i64 s9.2 (2 : Int)))], []⟩) (J.cons (.none rfl) (JO.move rfl) rfl rfl (J.cons (.none rfl) (JO.arith rfl rfl rfl) rfl rfl (J.cons (.none rfl) (JO.assign rfl) rfl rfl (J.fin (Sw.Sub.mk id (.cons rfl (.of_eq rfl) (.cons rfl (.of_eq rfl) (.cons rfl (.of_eq rfl) (.cons rfl (.of_eq rfl) .nil)))) .nil rfl))))) ?_
      obtain rfl := Option.some.inj h
      exact W.next (Sw.Sub.mk id (.cons rfl (.of_eq rfl) (.cons rfl (.of_eq rfl) (.cons rfl (.of_eq rfl) (.cons rfl (.of_eq rfl) .nil)))) .nil rfl)
  · replace h := cond_f hc16 h
    refine W.condF rfl hc16 ?_
    refine W.exit ?_
    obtain rfl := Option.some.inj h
    exact XQ.brk (Sw.Sub.mk id (.cons rfl (.of_eq rfl) .nil) .nil rfl)
set_option maxRecDepth 100000 in
set_option maxHeartbeats 4000000 in
theorem con_ref_SumOf {a0 : (List Int)} {r : Int} (h : m_ref_SumOf a0 = some r) :
    Con Try.prog 99 [.v (Enc.sl (Enc.int .u8)) a0] (.v (Enc.int .u32) r) [] := by
  refine Con.of Try.func99 rfl Try.ntmps99 rfl ?_
  intro S w hF
  unfold m_ref_SumOf at h
  refine W.seq ?_
  refine W.reg (σ' := ⟨[(0, .v (Enc.sl (Enc.int .u8)) a0)], []⟩) (J.cons (.none rfl) (JO.assign rfl) rfl rfl (J.fin (Sw.Sub.mk id (.cons rfl (.of_eq rfl) .nil) .nil rfl))) ?_
  refine W.seq ?_
  refine W.reg (σ' := ⟨[(0, .v (Enc.sl (Enc.int .u8)) a0), (3, .v (Enc.int .i64) (4294967295 : Int))], []⟩) (J.cons (.none rfl) (JO.assign rfl) rfl rfl (J.fin (Sw.Sub.mk id (.cons rfl (.of_eq rfl) (.cons rfl (.of_eq rfl) .nil)) .nil rfl))) ?_
  refine W.seq ?_
  refine W.seq ?_
  refine W.reg (σ' := ⟨[(0, .v (Enc.sl (Enc.int .u8)) a0), (3, .v (Enc.int .i64) (4294967295 : Int)), (4, .v (Enc.int .i64) (0 : Int))], []⟩) (J.cons (.none rfl) (JO.assign rfl) rfl rfl (J.fin (Sw.Sub.mk id (.cons rfl (.of_eq rfl) (.cons rfl (.of_eq rfl) (.cons rfl (.of_eq rfl) .nil))) .nil rfl))) ?_
  obtain ⟨o79, ho79, hb79, hr79⟩ := lp_elim h
  refine W.lp (σs := fun s53 : Int × Int => ⟨[(0, .v (Enc.sl (Enc.int .u8)) a0), (3, .v (Enc.int .i64) s53.1), (4, .v (Enc.int .i64) s53.2)], []⟩) (fun x80 : Int => ⟨[(3, .v (Enc.int .i64) x80)], []⟩) ho79 (Sw.Sub.mk id (.cons rfl (.of_eq rfl) (.cons rfl (.of_eq rfl) (.cons rfl (.of_eq rfl) .nil))) .nil rfl) ?_ ?_
  · intro x80 hy
    have h := hb79 _ hy
    refine W.seq ?_
    refine W.reg (σ' := ⟨[(2, .v (Enc.int .u32) (IntKind.wrap .u32 (ar .sub .i64 (4294967295 : Int) x80)))], []⟩) (J.cons (.none rfl) (JO.move rfl) rfl rfl (J.cons (.none rfl) (JO.arith rfl rfl rfl) rfl rfl (J.cons (.none rfl) (JO.conv Try.runUnderlying3 Try.runUnderlying157 rfl) rfl rfl (J.cons (.none rfl) (JO.assign rfl) rfl rfl (J.fin (Sw.Sub.mk id (.cons rfl (.of_eq rfl) .nil) .nil rfl)))))) ?_
    refine W.ret ?_
    obtain rfl := Option.some.inj h
    exact XQ.sub (σ' := ⟨[(2, .v (Enc.int .u32) (IntKind.wrap .u32 (ar .sub .i64 (4294967295 : Int) x80)))], []⟩) (Sw.Sub.mk id (.cons rfl (.of_eq rfl) .nil) .nil rfl) (XQ.ret1 hF noR rfl (RV.tmp rfl) .nil rfl)
  intro s53 r79 h
  refine W.seq ?_
  refine W.seq ?_
  refine W.reg (σ' := ⟨[(0, .v (Enc.sl (Enc.int .u8)) a0), (3, .v (Enc.int .i64) s53.1), (4, .v (Enc.int .i64) s53.2), (10, .v Enc.bool (cm .lss s53.2 (a0.length : Int)))], []⟩) (J.cons (.none rfl) (JO.move rfl) rfl rfl (J.cons (.none rfl) (JO.move rfl) rfl rfl (J.cons (.none rfl) (JO.len rfl Try.runUnderlying39) rfl rfl (J.cons (.none rfl) (JO.cmp rfl rfl rfl) rfl rfl (J.fin (Sw.Sub.mk id (.cons rfl (.of_eq rfl) (.cons rfl (.of_eq rfl) (.cons rfl (.of_eq rfl) (.cons rfl (.of_eq rfl) .nil)))) .nil rfl)))))) ?_
  rcases Bool.eq_false_or_eq_true (cm .lss s53.2 (a0.length : Int)) with hc81 | hc81
  · replace h := cond_t hc81 h
    refine W.condT rfl hc81 ?_
    refine W.skip ?_
    refine W.seq ?_
    refine W.block ?_
    refine W.seq ?_
    refine W.reg (σ' := ⟨[(0, .v (Enc.sl (Enc.int .u8)) a0), (3, .v (Enc.int .i64) s53.1), (4, .v (Enc.int .i64) s53.2), (5, .v (Enc.int .i64) (1 : Int))], []⟩) (J.cons (.none rfl) (JO.assign rfl) rfl rfl (J.fin (Sw.Sub.mk id (.cons rfl (.of_eq rfl) (.cons rfl (.of_eq rfl) (.cons rfl (.of_eq rfl) (.cons rfl (.of_eq rfl) .nil)))) .nil rfl))) ?_
    obtain ⟨o99, ho99, hb99, hr99⟩ := lp_elim h
    refine W.lp (σs := fun s93 : Int × Int => ⟨[(0, .v (Enc.sl (Enc.int .u8)) a0), (3, .v (Enc.int .i64) s93.1), (4, .v (Enc.int .i64) s53.2), (5, .v (Enc.int .i64) s93.2)], []⟩) (fun x100 : Int => ⟨[(0, .v (Enc.sl (Enc.int .u8)) a0), (3, .v (Enc.int .i64) x100), (4, .v (Enc.int .i64) s53.2)], []⟩) ho99 (Sw.Sub.mk id (.cons rfl (.of_eq rfl) (.cons rfl (.of_eq rfl) (.cons rfl (.of_eq rfl) (.cons rfl (.of_eq rfl) .nil)))) .nil rfl) ?_ ?_
    · intro x100 hy
      have h := hb99 _ hy
      refine W.fall ?_
      refine W.reg (σ' := ⟨[(0, .v (Enc.sl (Enc.int .u8)) a0), (3, .v (Enc.int .i64) x100), (4, .v (Enc.int .i64) (ar .add .i64 s53.2 (1 : Int)))], []⟩) (J.cons (.none rfl) (JO.move rfl) rfl rfl (J.cons (.none rfl) (JO.arith rfl rfl rfl) rfl rfl (J.cons (.none rfl) (JO.assign rfl) rfl rfl (J.fin (Sw.Sub.mk id (.cons rfl (.of_eq rfl) (.cons rfl (.of_eq rfl) (.cons rfl (.of_eq rfl) .nil))) .nil rfl))))) ?_
      obtain rfl := Option.some.inj h
      exact W.next (Sw.Sub.mk id (.cons rfl (.of_eq rfl) (.cons rfl (.of_eq rfl) (.cons rfl (.of_eq rfl) .nil))) .nil rfl)
    intro s93 r99 h
    refine W.seq ?_
    refine W.seq ?_
    refine W.reg (σ' := ⟨[(0, .v (Enc.sl (Enc.int .u8)) a0), (3, .v (Enc.int .i64) s93.1), (4, .v (Enc.int .i64) s53.2), (5, .v (Enc.int .i64) s93.2), (14, .v Enc.bool (cm .lss s93.2 (256 : Int)))], []⟩) (J.cons (.none rfl) (JO.move rfl) rfl rfl (J.cons (.none rfl) (JO.cmp rfl rfl rfl) rfl rfl (J.fin (Sw.Sub.mk id (.cons rfl (.of_eq rfl) (.cons rfl (.of_eq rfl) (.cons rfl (.of_eq rfl) (.cons rfl (.of_eq rfl) (.cons rfl (.of_eq rfl) .nil))))) .nil rfl)))) ?_
    rcases Bool.eq_false_or_eq_true (cm .lss s93.2 (256 : Int)) with hc101 | hc101
    · replace h := cond_t hc101 h
      refine W.condT rfl hc101 ?_
      refine W.skip ?_
      refine W.seq ?_
      refine W.block ?_
      refine W.seq ?_
      obtain ⟨z102, hz102, h⟩ := bind_e h
      obtain ⟨u103, hu103, h⟩ := bind_e h
      refine W.reg (σ' := ⟨[(0, .v (Enc.sl (Enc.int .u8)) a0), (3, .v (Enc.int .i64) s93.1), (4, .v (Enc.int .i64) s53.2), (5, .v (Enc.int .i64) s93.2), (6, .v Enc.bool (cm .eql (ar .rem .i64 (ar .add .i64 s93.1 (ar .quo .i64 z102 s93.2)) (2 : Int)) (1 : Int)))], []⟩) (J.cons (.none rfl) (JO.move rfl) rfl rfl (J.cons (.none rfl) (JO.move rfl) rfl rfl (J.cons (.none rfl) (JO.move rfl) rfl rfl (J.cons (.none rfl) (JO.idx hz102 rfl rfl Try.runUnderlying39 Try.sizeOf5) rfl rfl (J.cons (.none rfl) (JO.loadPst rfl Try.isAgg5 Try.sizeOf5) rfl rfl (J.cons (.none rfl) (JO.convUp Try.runUnderlying5 Try.runUnderlying3 rfl rfl) rfl rfl (J.cons (.none rfl) (JO.move rfl) rfl rfl (J.cons (.none rfl) (JO.div (.inl rfl) (nz_some hu103) rfl rfl) rfl rfl (J.cons (.none rfl) (JO.arith rfl rfl rfl) rfl rfl (J.cons (.none rfl) (JO.div (.inr rfl) (by decide) rfl rfl) rfl rfl (J.cons (.none rfl) (JO.cmp rfl rfl rfl) rfl rfl (J.cons (.none rfl) (JO.assign rfl) rfl rfl (J.fin (Sw.Sub.mk id (.cons rfl (.of_eq rfl) (.cons rfl (.of_eq rfl) (.cons rfl (.of_eq rfl) (.cons rfl (.of_eq rfl) (.cons rfl (.of_eq rfl) .nil))))) .nil rfl)))))))))))))) ?_
      refine W.seq ?_
      refine W.reg (σ' := ⟨[(0, .v (Enc.sl (Enc.int .u8)) a0), (3, .v (Enc.int .i64) (ar .quo .i64 s93.1 (2 : Int))), (4, .v (Enc.int .i64) s53.2), (5, .v (Enc.int .i64) s93.2), (6, .v Enc.bool (cm .eql (ar .rem .i64 (ar .add .i64 s93.1 (ar .quo .i64 z102 s93.2)) (2 : Int)) (1 : Int)))], []⟩) (J.cons (.none rfl) (JO.move rfl) rfl rfl (J.cons (.none rfl) (JO.div (.inl rfl) (by decide) rfl rfl) rfl rfl (J.cons (.none rfl) (JO.assign rfl) rfl rfl (J.fin (Sw.Sub.mk id (.cons rfl (.of_eq rfl) (.cons rfl (.of_eq rfl) (.cons rfl (.of_eq rfl) (.cons rfl (.of_eq rfl) (.cons rfl (.of_eq rfl) .nil))))) .nil rfl))))) ?_
      refine W.seq ?_
      refine W.reg (σ' := ⟨[(0, .v (Enc.sl (Enc.int .u8)) a0), (3, .v (Enc.int .i64) (ar .quo .i64 s93.1 (2 : Int))), (4, .v (Enc.int .i64) s53.2), (5, .v (Enc.int .i64) s93.2), (30, .v Enc.bool (cm .eql (ar .rem .i64 (ar .add .i64 s93.1 (ar .quo .i64 z102 s93.2)) (2 : Int)) (1 : Int)))], []⟩) (J.cons (.none rfl) (JO.move rfl) rfl rfl (J.fin (Sw.Sub.mk id (.cons rfl (.of_eq rfl) (.cons rfl (.of_eq rfl) (.cons rfl (.of_eq rfl) (.cons rfl (.of_eq rfl) (.cons rfl (.of_eq rfl) .nil))))) .nil rfl))) ?_
      rcases Bool.eq_false_or_eq_true (cm .eql (ar .rem .i64 (ar .add .i64 s93.1 (ar .quo .i64 z102 s93.2)) (2 : Int)) (1 : Int)) with hc104 | hc104
      · replace h := cond_t hc104 h
        refine W.condT rfl hc104 ?_
        obtain ⟨v105, hv105, h⟩ := bind_e h
        refine W.reg (σ' := ⟨[(0, .v (Enc.sl (Enc.int .u8)) a0), (3, .v (Enc.int .i64) v105), (4, .v (Enc.int .i64) s53.2), (5, .v (Enc.int .i64) s93.2)], []⟩) (J.cons (.none rfl) (JO.move rfl) rfl rfl (J.cons (.none rfl) (JO.call0 (con_ref_mixed hv105) Try.call140 (.cons (.dir rfl) .nil)) rfl rfl (J.cons (.none rfl) (JO.assign rfl) rfl rfl (J.fin (Sw.Sub.mk id (.cons rfl (.of_eq rfl) (.cons rfl (.of_eq rfl) (.cons rfl (.of_eq rfl) (.cons rfl (.of_eq rfl) .nil)))) .nil rfl))))) ?_
        refine W.fall ?_
        refine W.reg (σ' := ⟨[(0, .v (Enc.sl (Enc.int .u8)) a0), (3, .v (Enc.int .i64) v105), (4, .v (Enc.int .i64) s53.2), (5, .v (Enc.int .i64) (ar .mul .i64 s93.2 (2 : Int)))], []⟩) (J.cons (.none rfl) (JO.move rfl) rfl rfl (J.cons (.none rfl) (JO.arith rfl rfl rfl) rfl rfl (J.cons (.none rfl) (JO.assign rfl) rfl rfl (J.fin (Sw.Sub.mk id (.cons rfl (.of_eq rfl) (.cons rfl (.of_eq rfl) (.cons rfl (.of_eq rfl) (.cons rfl (.of_eq rfl) .nil)))) .nil rfl))))) ?_
        obtain rfl := Option.some.inj h
        exact W.next (Sw.Sub.mk id (.cons rfl (.of_eq rfl) (.cons rfl (.of_eq rfl) (.cons rfl (.of_eq rfl) (.cons rfl (.of_eq rfl) .nil)))) .nil rfl)
      · replace h := cond_f hc104 h
        refine W.condF rfl hc104 ?_
        refine W.skip ?_
        refine W.fall ?_
        refine W.reg (σ' := ⟨[(0, .v (Enc.sl (Enc.int .u8)) a0), (3, .v (Enc.int .i64) (ar .quo .i64 s93.1 (2 : Int))), (4, .v (Enc.int .i64) s53.2), (5, .v (Enc.int .i64) (ar .mul .i64 s93.2 (2 : Int)))], []⟩) (J.cons (.none rfl) (JO.move rfl) rfl rfl (J.cons (.none rfl) (JO.arith rfl rfl rfl) rfl rfl (J.cons (.none rfl) (JO.assign rfl) rfl rfl (J.fin (Sw.Sub.mk id (.cons rfl (.of_eq rfl) (.cons rfl (.of_eq rfl) (.cons rfl (.of_eq rfl) (.cons rfl (.of_eq rfl) .nil)))) .nil rfl))))) ?_
        obtain rfl := Option.some.inj h
        exact W.next (Sw.Sub.mk id (.cons rfl (.of_eq rfl) (.cons rfl (.of_eq rfl) (.cons rfl (.of_eq rfl) (.cons rfl (.of_eq rfl) .nil)))) .nil rfl)
    · replace h := cond_f hc101 h
      refine W.condF rfl hc101 ?_
      refine W.exit ?_
      obtain rfl := Option.some.inj h
      exact XQ.brk (Sw.Sub.mk id (.cons rfl (.of_eq rfl) (.cons rfl (.of_eq rfl) (.cons rfl (.of_eq rfl) .nil))) .nil rfl)
  · replace h := cond_f hc81 h
    refine W.condF rfl hc81 ?_
    refine W.exit ?_
    obtain rfl := Option.some.inj h
    exact XQ.brk (Sw.Sub.mk id (.cons rfl (.of_eq rfl) .nil) .nil rfl)
set_option maxRecDepth 100000 in
set_option maxHeartbeats 4000000 in
theorem con_ref_Packed {a0 : (Int × (List Int) × (List Blk))} {r : (List Int)} (h : m_ref_Packed a0 = some r) :
    Con Try.prog 48 [.v (Enc.pr (Enc.int .i64) (Enc.pr (Enc.sl (Enc.int .i64)) (Enc.sl eBlk))) a0] (.ref 0) [(0, .arr 5 (Enc.int .u8) r)] := by
  refine Con.of Try.func48 rfl Try.ntmps48 rfl ?_
  intro S w hF
  unfold m_ref_Packed at h
  refine W.seq ?_
  refine W.reg (σ' := ⟨[(1, .ptr 101 0)], [(101, .box 28 [.v (Enc.int .i64) a0.1, .v (Enc.sl (Enc.int .i64)) a0.2.1, .v (Enc.sl eBlk) a0.2.2])]⟩) (J.cons (.none rfl) (JO.box 101 rfl (.prm (.one _ _) (.prm (.one _ _) (.one _ _))) rfl) rfl rfl (J.cons (.none rfl) (JO.assignNilR 102 5 (Enc.int .u8)) rfl rfl (J.fin (Sw.Sub.mk id (.cons rfl (.of_eq rfl) .nil) (.box rfl (.cons (.of_eq rfl) (.cons (.of_eq rfl) (.cons (.of_eq rfl) .nil))) .nil) rfl)))) ?_
  refine W.seq ?_
  refine W.reg (σ' := ⟨[(1, .ptr 101 0), (3, .ref 103)], [(101, .box 28 [.v (Enc.int .i64) a0.1, .v (Enc.sl (Enc.int .i64)) a0.2.1, .v (Enc.sl eBlk) a0.2.2]), (103, .arr 5 (Enc.int .u8) ([(IntKind.wrap .u8 (ar .add .i64 (ar .mul .i64 (16 : Int) a0.1) (a0.2.1.length : Int))), (IntKind.wrap .u8 (a0.2.2.length : Int))] : (List Int)))]⟩) (J.cons (.none rfl) (JO.fieldPtr 0 rfl Try.runUnderlying28 rfl Try.sizeOf3 rfl rfl) rfl rfl (J.cons (.none rfl) (JO.load rfl rfl rfl Try.isAgg3 Try.sizeOf3) rfl rfl (J.cons (.none rfl) (JO.arith rfl rfl rfl) rfl rfl (J.cons (.none rfl) (JO.fieldPtr 1 rfl Try.runUnderlying28 rfl Try.sizeOf25 rfl rfl) rfl rfl (J.cons (.none rfl) (JO.load rfl rfl rfl Try.isAgg25 Try.sizeOf25) rfl rfl (J.cons (.none rfl) (JO.len rfl Try.runUnderlying25) rfl rfl (J.cons (.none rfl) (JO.arith rfl rfl rfl) rfl rfl (J.cons (.none rfl) (JO.conv Try.runUnderlying3 Try.runUnderlying5 rfl) rfl rfl (J.cons (.none rfl) (JO.fieldPtr 2 rfl Try.runUnderlying28 rfl Try.sizeOf26 rfl rfl) rfl rfl (J.cons (.none rfl) (JO.load rfl rfl rfl Try.isAgg26 Try.sizeOf26) rfl rfl (J.cons (.none rfl) (JO.len rfl Try.runUnderlying26) rfl rfl (J.cons (.none rfl) (JO.conv Try.runUnderlying3 Try.runUnderlying5 rfl) rfl rfl (J.cons (.none rfl) (JO.litR (e := (Enc.int .u8)) 103 Try.runUnderlying39 Try.sizeOf5 Try.zeroValue5 rfl rfl rfl rfl (.cons (.dir rfl) (.cons (.dir rfl) .nil))) rfl rfl (J.cons (.none rfl) (JO.assign rfl) rfl rfl (J.fin (Sw.Sub.mk id (.cons rfl (.of_eq rfl) (.cons rfl (.of_eq rfl) .nil)) (.box rfl (.cons (.of_eq rfl) (.cons (.of_eq rfl) (.cons (.of_eq rfl) .nil))) (.arr rfl .nil)) rfl)))))))))))))))) ?_
  refine W.seq ?_
  refine W.seq ?_
  refine W.reg (σ' := ⟨[(1, .ptr 101 0), (3, .ref 103), (4, .v (Enc.int .i64) (0 : Int))], [(101, .box 28 [.v (Enc.int .i64) a0.1, .v (Enc.sl (Enc.int .i64)) a0.2.1, .v (Enc.sl eBlk) a0.2.2]), (103, .arr 5 (Enc.int .u8) ([(IntKind.wrap .u8 (ar .add .i64 (ar .mul .i64 (16 : Int) a0.1) (a0.2.1.length : Int))), (IntKind.wrap .u8 (a0.2.2.length : Int))] : (List Int)))]⟩) (J.cons (.none rfl) (JO.assign rfl) rfl rfl (J.fin (Sw.Sub.mk id (.cons rfl (.of_eq rfl) (.cons rfl (.of_eq rfl) (.cons rfl (.of_eq rfl) .nil))) (.box rfl (.cons (.of_eq rfl) (.cons (.of_eq rfl) (.cons (.of_eq rfl) .nil))) (.arr rfl .nil)) rfl))) ?_
  obtain ⟨o52, ho52, hb52, hr52⟩ := lp_elim h
  refine W.lp (σs := fun s35 : Int × (List Int) => ⟨[(1, .ptr 101 0), (3, .ref 125), (4, .v (Enc.int .i64) s35.1)], [(101, .box 28 [.v (Enc.int .i64) a0.1, .v (Enc.sl (Enc.int .i64)) a0.2.1, .v (Enc.sl eBlk) a0.2.2]), (125, .arr 5 (Enc.int .u8) s35.2)]⟩) (fun x53 : (List Int) => ⟨[(1, .ptr 101 0), (3, .ref 125)], [(101, .box 28 [.v (Enc.int .i64) a0.1, .v (Enc.sl (Enc.int .i64)) a0.2.1, .v (Enc.sl eBlk) a0.2.2]), (125, .arr 5 (Enc.int .u8) x53)]⟩) ho52 (Sw.Sub.mk (rn [(101, 101), (125, 103)]) (.cons rfl (.of_eq rfl) (.cons rfl (.of_eq rfl) (.cons rfl (.of_eq rfl) .nil))) (.box rfl (.cons (.of_eq rfl) (.cons (.of_eq rfl) (.cons (.of_eq rfl) .nil))) (.arr rfl .nil)) rfl) ?_ ?_
  · intro x53 hy
    have h := hb52 _ hy
    refine W.seq ?_
    refine W.seq ?_
    refine W.reg (σ' := ⟨[(1, .ptr 101 0), (3, .ref 125), (6, .v (Enc.int .i64) (0 : Int))], [(101, .box 28 [.v (Enc.int .i64) a0.1, .v (Enc.sl (Enc.int .i64)) a0.2.1, .v (Enc.sl eBlk) a0.2.2]), (125, .arr 5 (Enc.int .u8) x53)]⟩) (J.cons (.none rfl) (JO.assign rfl) rfl rfl (J.fin (Sw.Sub.mk id (.cons rfl (.of_eq rfl) (.cons rfl (.of_eq rfl) (.cons rfl (.of_eq rfl) .nil))) (.box rfl (.cons (.of_eq rfl) (.cons (.of_eq rfl) (.cons (.of_eq rfl) .nil))) (.arr rfl .nil)) rfl))) ?_
    obtain ⟨o139, ho139, hb139, hr139⟩ := lp_elim h
    refine W.lp (σs := fun s116 : Int × (List Int) => ⟨[(1, .ptr 101 0), (3, .ref 163), (6, .v (Enc.int .i64) s116.1)], [(101, .box 28 [.v (Enc.int .i64) a0.1, .v (Enc.sl (Enc.int .i64)) a0.2.1, .v (Enc.sl eBlk) a0.2.2]), (163, .arr 5 (Enc.int .u8) s116.2)]⟩) (fun x140 : (List Int) => ⟨[(3, .ref 163)], [(163, .arr 5 (Enc.int .u8) x140)]⟩) ho139 (Sw.Sub.mk (rn [(101, 101), (163, 125)]) (.cons rfl (.of_eq rfl) (.cons rfl (.of_eq rfl) (.cons rfl (.of_eq rfl) .nil))) (.box rfl (.cons (.of_eq rfl) (.cons (.of_eq rfl) (.cons (.of_eq rfl) .nil))) (.arr rfl .nil)) rfl) ?_ ?_
    · intro x140 hy
      have h := hb139 _ hy
      refine W.seq ?_
      obtain ⟨v163, hv163, h⟩ := bind_e h
      refine W.reg (σ' := ⟨[(3, .ref 163), (8, .v (Enc.int .i64) v163)], [(163, .arr 5 (Enc.int .u8) x140)]⟩) (J.cons (.none rfl) (JO.move rfl) rfl rfl (J.cons (.none rfl) (JO.callL0 (con_ref_SumOf hv163) Try.call99 (.cons (.ref rfl rfl) .nil) FlatS.v) rfl rfl (J.cons (.none rfl) (JO.convUp Try.runUnderlying157 Try.runUnderlying3 rfl rfl) rfl rfl (J.cons (.none rfl) (JO.assign rfl) rfl rfl (J.fin (Sw.Sub.mk id (.cons rfl (.of_eq rfl) (.cons rfl (.of_eq rfl) .nil)) (.arr rfl .nil) rfl)))))) ?_
      refine W.seq ?_
      obtain ⟨v164, hv164, h⟩ := bind_e h
      refine W.reg (σ' := ⟨[(2, .ref 181)], [(181, .arr 5 (Enc.int .u8) v164)]⟩) (J.cons (.none rfl) (JO.move rfl) rfl rfl (J.cons (.none rfl) (JO.move rfl) rfl rfl (J.cons (.none rfl) (JO.div (.inl rfl) (by decide) rfl rfl) rfl rfl (J.cons (.none rfl) (JO.conv Try.runUnderlying3 Try.runUnderlying5 rfl) rfl rfl (J.cons (.none rfl) (JO.move rfl) rfl rfl (J.cons (.none rfl) (JO.div (.inl rfl) (by decide) rfl rfl) rfl rfl (J.cons (.none rfl) (JO.div (.inr rfl) (by decide) rfl rfl) rfl rfl (J.cons (.none rfl) (JO.conv Try.runUnderlying3 Try.runUnderlying5 rfl) rfl rfl (J.cons (.none rfl) (JO.move rfl) rfl rfl (J.cons (.none rfl) (JO.div (.inl rfl) (by decide) rfl rfl) rfl rfl (J.cons (.none rfl) (JO.div (.inr rfl) (by decide) rfl rfl) rfl rfl (J.cons (.none rfl) (JO.conv Try.runUnderlying3 Try.runUnderlying5 rfl) rfl rfl (J.cons (.none rfl) (JO.move rfl) rfl rfl (J.cons (.none rfl) (JO.div (.inr rfl) (by decide) rfl rfl) rfl rfl (J.cons (.none rfl) (JO.conv Try.runUnderlying3 Try.runUnderlying5 rfl) rfl rfl (J.cons (.none rfl) (JO.lit (e := (Enc.int .u8)) Try.runUnderlying39 Try.sizeOf5 Try.zeroValue5 rfl rfl rfl rfl (.cons (.dir rfl) (.cons (.dir rfl) (.cons (.dir rfl) (.cons (.dir rfl) .nil))))) rfl rfl (J.mut (.none rfl) (JM.append 181 hv164 rfl rfl (.sl rfl) Try.runUnderlying39 Try.typeInfo5 Try.sizeOf5 rfl rfl rfl rfl rfl) (J.cons (.none rfl) (JO.assign rfl) rfl rfl (J.fin (Sw.Sub.mk id (.cons rfl (.of_eq rfl) .nil) (.arr rfl .nil) rfl)))))))))))))))))))) ?_
      refine W.ret ?_
      obtain rfl := Option.some.inj h
      exact XQ.sub (σ' := ⟨[(2, .ref 0)], [(0, .arr 5 (Enc.int .u8) v164)]⟩) (Sw.Sub.mk (rn [(0, 181)]) (.cons rfl (.of_eq rfl) .nil) (.arr rfl .nil) rfl) (XQ.ret1 hF noR rfl (RV.tmp rfl) (.cons rfl .nil) rfl)
    intro s116 r139 h
    refine W.seq ?_
    refine W.seq ?_
    refine W.reg (σ' := ⟨[(1, .ptr 101 0), (3, .ref 163), (6, .v (Enc.int .i64) s116.1), (54, .v Enc.bool (cm .lss s116.1 (a0.2.2.length : Int)))], [(101, .box 28 [.v (Enc.int .i64) a0.1, .v (Enc.sl (Enc.int .i64)) a0.2.1, .v (Enc.sl eBlk) a0.2.2]), (163, .arr 5 (Enc.int .u8) s116.2)]⟩) (J.cons (.none rfl) (JO.move rfl) rfl rfl (J.cons (.none rfl) (JO.fieldPtr 2 rfl Try.runUnderlying28 rfl Try.sizeOf26 rfl rfl) rfl rfl (J.cons (.none rfl) (JO.load rfl rfl rfl Try.isAgg26 Try.sizeOf26) rfl rfl (J.cons (.none rfl) (JO.len rfl Try.runUnderlying26) rfl rfl (J.cons (.none rfl) (JO.cmp rfl rfl rfl) rfl rfl (J.fin (Sw.Sub.mk id (.cons rfl (.of_eq rfl) (.cons rfl (.of_eq rfl) (.cons rfl (.of_eq rfl) (.cons rfl (.of_eq rfl) .nil)))) (.box rfl (.cons (.of_eq rfl) (.cons (.of_eq rfl) (.cons (.of_eq rfl) .nil))) (.arr rfl .nil)) rfl))))))) ?_
    rcases Bool.eq_false_or_eq_true (cm .lss s116.1 (a0.2.2.length : Int)) with hc141 | hc141
    · replace h := cond_t hc141 h
      refine W.condT rfl hc141 ?_
      refine W.skip ?_
      refine W.seq ?_
      refine W.block ?_
      refine W.seq ?_
      refine W.reg (σ' := ⟨[(1, .ptr 101 0), (3, .ref 163), (6, .v (Enc.int .i64) s116.1), (7, .v (Enc.int .i64) (0 : Int))], [(101, .box 28 [.v (Enc.int .i64) a0.1, .v (Enc.sl (Enc.int .i64)) a0.2.1, .v (Enc.sl eBlk) a0.2.2]), (163, .arr 5 (Enc.int .u8) s116.2)]⟩) (J.cons (.none rfl) (JO.assign rfl) rfl rfl (J.fin (Sw.Sub.mk id (.cons rfl (.of_eq rfl) (.cons rfl (.of_eq rfl) (.cons rfl (.of_eq rfl) (.cons rfl (.of_eq rfl) .nil)))) (.box rfl (.cons (.of_eq rfl) (.cons (.of_eq rfl) (.cons (.of_eq rfl) .nil))) (.arr rfl .nil)) rfl))) ?_
      obtain ⟨o157, ho157, hb157, hr157⟩ := lp_elim h
      refine W.lp (σs := fun s152 : Int × (List Int) => ⟨[(1, .ptr 101 0), (3, .ref 177), (6, .v (Enc.int .i64) s116.1), (7, .v (Enc.int .i64) s152.1)], [(101, .box 28 [.v (Enc.int .i64) a0.1, .v (Enc.sl (Enc.int .i64)) a0.2.1, .v (Enc.sl eBlk) a0.2.2]), (177, .arr 5 (Enc.int .u8) s152.2)]⟩) (fun x158 : (List Int) => ⟨[(1, .ptr 101 0), (3, .ref 177), (6, .v (Enc.int .i64) s116.1)], [(101, .box 28 [.v (Enc.int .i64) a0.1, .v (Enc.sl (Enc.int .i64)) a0.2.1, .v (Enc.sl eBlk) a0.2.2]), (177, .arr 5 (Enc.int .u8) x158)]⟩) ho157 (Sw.Sub.mk (rn [(101, 101), (177, 163)]) (.cons rfl (.of_eq rfl) (.cons rfl (.of_eq rfl) (.cons rfl (.of_eq rfl) (.cons rfl (.of_eq rfl) .nil)))) (.box rfl (.cons (.of_eq rfl) (.cons (.of_eq rfl) (.cons (.of_eq rfl) .nil))) (.arr rfl .nil)) rfl) ?_ ?_
      · intro x158 hy
        have h := hb157 _ hy
        refine W.fall ?_
        refine W.reg (σ' := ⟨[(1, .ptr 101 0), (3, .ref 177), (6, .v (Enc.int .i64) (ar .add .i64 s116.1 (1 : Int)))], [(101, .box 28 [.v (Enc.int .i64) a0.1, .v (Enc.sl (Enc.int .i64)) a0.2.1, .v (Enc.sl eBlk) a0.2.2]), (177, .arr 5 (Enc.int .u8) x158)]⟩) (J.cons (.none rfl) (JO.move rfl) rfl rfl (J.cons (.none rfl) (JO.arith rfl rfl rfl) rfl rfl (J.cons (.none rfl) (JO.assign rfl) rfl rfl (J.fin (Sw.Sub.mk id (.cons rfl (.of_eq rfl) (.cons rfl (.of_eq rfl) (.cons rfl (.of_eq rfl) .nil))) (.box rfl (.cons (.of_eq rfl) (.cons (.of_eq rfl) (.cons (.of_eq rfl) .nil))) (.arr rfl .nil)) rfl))))) ?_
        obtain rfl := Option.some.inj h
        exact W.next (Sw.Sub.mk (rn [(101, 101), (163, 177)]) (.cons rfl (.of_eq rfl) (.cons rfl (.of_eq rfl) (.cons rfl (.of_eq rfl) .nil))) (.box rfl (.cons (.of_eq rfl) (.cons (.of_eq rfl) (.cons (.of_eq rfl) .nil))) (.arr rfl .nil)) rfl)
      intro s152 r157 h
      refine W.seq ?_
      refine W.seq ?_
      refine W.reg (σ' := ⟨[(1, .ptr 101 0), (3, .ref 177), (6, .v (Enc.int .i64) s116.1), (7, .v (Enc.int .i64) s152.1), (58, .v Enc.bool (cm .lss s152.1 (8 : Int)))], [(101, .box 28 [.v (Enc.int .i64) a0.1, .v (Enc.sl (Enc.int .i64)) a0.2.1, .v (Enc.sl eBlk) a0.2.2]), (177, .arr 5 (Enc.int .u8) s152.2)]⟩) (J.cons (.none rfl) (JO.move rfl) rfl rfl (J.cons (.none rfl) (JO.cmp rfl rfl rfl) rfl rfl (J.fin (Sw.Sub.mk id (.cons rfl (.of_eq rfl) (.cons rfl (.of_eq rfl) (.cons rfl (.of_eq rfl) (.cons rfl (.of_eq rfl) (.cons rfl (.of_eq rfl) .nil))))) (.box rfl (.cons (.of_eq rfl) (.cons (.of_eq rfl) (.cons (.of_eq rfl) .nil))) (.arr rfl .nil)) rfl)))) ?_
      rcases Bool.eq_false_or_eq_true (cm .lss s152.1 (8 : Int)) with hc159 | hc159
      · replace h := cond_t hc159 h
        refine W.condT rfl hc159 ?_
        refine W.skip ?_
        refine W.seq ?_
        refine W.block ?_
        obtain ⟨z160, hz160, h⟩ := bind_e h
        obtain ⟨z161, hz161, h⟩ := bind_e h
        obtain ⟨v162, hv162, h⟩ := bind_e h
        refine W.reg (σ' := ⟨[(1, .ptr 101 0), (3, .ref 179), (6, .v (Enc.int .i64) s116.1), (7, .v (Enc.int .i64) s152.1)], [(101, .box 28 [.v (Enc.int .i64) a0.1, .v (Enc.sl (Enc.int .i64)) a0.2.1, .v (Enc.sl eBlk) a0.2.2]), (179, .arr 5 (Enc.int .u8) v162)]⟩) (J.cons (.none rfl) (JO.move rfl) rfl rfl (J.cons (.none rfl) (JO.fieldPtr 2 rfl Try.runUnderlying28 rfl Try.sizeOf26 rfl rfl) rfl rfl (J.cons (.none rfl) (JO.load rfl rfl rfl Try.isAgg26 Try.sizeOf26) rfl rfl (J.cons (.none rfl) (JO.move rfl) rfl rfl (J.cons (.none rfl) (JO.move rfl) rfl rfl (J.cons (.none rfl) (JO.idx hz160 rfl rfl Try.runUnderlying26 Try.sizeOf56) rfl rfl (J.cons (.none rfl) (JO.idxPst hz161 rfl rfl Try.runUnderlying56 Try.sizeOf5) rfl rfl (J.cons (.none rfl) (JO.loadPst rfl Try.isAgg5 Try.sizeOf5) rfl rfl (J.cons (.none rfl) (JO.lit (e := (Enc.int .u8)) Try.runUnderlying39 Try.sizeOf5 Try.zeroValue5 rfl rfl rfl rfl (.cons (.dir rfl) .nil)) rfl rfl (J.mut (.none rfl) (JM.append 179 hv162 rfl rfl (.sl rfl) Try.runUnderlying39 Try.typeInfo5 Try.sizeOf5 rfl rfl rfl rfl rfl) (J.cons (.none rfl) (JO.assign rfl) rfl rfl (J.fin (Sw.Sub.mk id (.cons rfl (.of_eq rfl) (.cons rfl (.of_eq rfl) (.cons rfl (.of_eq rfl) (.cons rfl (.of_eq rfl) .nil)))) (.box rfl (.cons (.of_eq rfl) (.cons (.of_eq rfl) (.cons (.of_eq rfl) .nil))) (.arr rfl .nil)) rfl))))))))))))) ?_
        refine W.fall ?_
        refine W.reg (σ' := ⟨[(1, .ptr 101 0), (3, .ref 179), (6, .v (Enc.int .i64) s116.1), (7, .v (Enc.int .i64) (ar .add .i64 s152.1 (1 : Int)))], [(101, .box 28 [.v (Enc.int .i64) a0.1, .v (Enc.sl (Enc.int .i64)) a0.2.1, .v (Enc.sl eBlk) a0.2.2]), (179, .arr 5 (Enc.int .u8) v162)]⟩) (J.cons (.none rfl) (JO.move rfl) rfl rfl (J.cons (.none rfl) (JO.arith rfl rfl rfl) rfl rfl (J.cons (.none rfl) (JO.assign rfl) rfl rfl (J.fin (Sw.Sub.mk id (.cons rfl (.of_eq rfl) (.cons rfl (.of_eq rfl) (.cons rfl (.of_eq rfl) (.cons rfl (.of_eq rfl) .nil)))) (.box rfl (.cons (.of_eq rfl) (.cons (.of_eq rfl) (.cons (.of_eq rfl) .nil))) (.arr rfl .nil)) rfl))))) ?_
        obtain rfl := Option.some.inj h
        exact W.next (Sw.Sub.mk (rn [(101, 101), (177, 179)]) (.cons rfl (.of_eq rfl) (.cons rfl (.of_eq rfl) (.cons rfl (.of_eq rfl) (.cons rfl (.of_eq rfl) .nil)))) (.box rfl (.cons (.of_eq rfl) (.cons (.of_eq rfl) (.cons (.of_eq rfl) .nil))) (.arr rfl .nil)) rfl)
      · replace h := cond_f hc159 h
        refine W.condF rfl hc159 ?_
        refine W.exit ?_
        obtain rfl := Option.some.inj h
        exact XQ.brk (Sw.Sub.mk id (.cons rfl (.of_eq rfl) (.cons rfl (.of_eq rfl) (.cons rfl (.of_eq rfl) .nil))) (.box rfl (.cons (.of_eq rfl) (.cons (.of_eq rfl) (.cons (.of_eq rfl) .nil))) (.arr rfl .nil)) rfl)
    · replace h := cond_f hc141 h
      refine W.condF rfl hc141 ?_
      refine W.exit ?_
      obtain rfl := Option.some.inj h
      exact XQ.brk (Sw.Sub.mk id (.cons rfl (.of_eq rfl) .nil) (.arr rfl .nil) rfl)
  intro s35 r52 h
  refine W.seq ?_
  refine W.seq ?_
  refine W.reg (σ' := ⟨[(1, .ptr 101 0), (3, .ref 125), (4, .v (Enc.int .i64) s35.1), (26, .v Enc.bool (cm .lss s35.1 (a0.2.1.length : Int)))], [(101, .box 28 [.v (Enc.int .i64) a0.1, .v (Enc.sl (Enc.int .i64)) a0.2.1, .v (Enc.sl eBlk) a0.2.2]), (125, .arr 5 (Enc.int .u8) s35.2)]⟩) (J.cons (.none rfl) (JO.move rfl) rfl rfl (J.cons (.none rfl) (JO.fieldPtr 1 rfl Try.runUnderlying28 rfl Try.sizeOf25 rfl rfl) rfl rfl (J.cons (.none rfl) (JO.load rfl rfl rfl Try.isAgg25 Try.sizeOf25) rfl rfl (J.cons (.none rfl) (JO.len rfl Try.runUnderlying25) rfl rfl (J.cons (.none rfl) (JO.cmp rfl rfl rfl) rfl rfl (J.fin (Sw.Sub.mk id (.cons rfl (.of_eq rfl) (.cons rfl (.of_eq rfl) (.cons rfl (.of_eq rfl) (.cons rfl (.of_eq rfl) .nil)))) (.box rfl (.cons (.of_eq rfl) (.cons (.of_eq rfl) (.cons (.of_eq rfl) .nil))) (.arr rfl .nil)) rfl))))))) ?_
  rcases Bool.eq_false_or_eq_true (cm .lss s35.1 (a0.2.1.length : Int)) with hc54 | hc54
  · replace h := cond_t hc54 h
    refine W.condT rfl hc54 ?_
    refine W.skip ?_
    refine W.seq ?_
    refine W.block ?_
    refine W.seq ?_
    obtain ⟨z55, hz55, h⟩ := bind_e h
    refine W.reg (σ' := ⟨[(1, .ptr 101 0), (3, .ref 125), (4, .v (Enc.int .i64) s35.1), (5, .v (Enc.int .i64) z55)], [(101, .box 28 [.v (Enc.int .i64) a0.1, .v (Enc.sl (Enc.int .i64)) a0.2.1, .v (Enc.sl eBlk) a0.2.2]), (125, .arr 5 (Enc.int .u8) s35.2)]⟩) (J.cons (.none rfl) (JO.fieldPtr 1 rfl Try.runUnderlying28 rfl Try.sizeOf25 rfl rfl) rfl rfl (J.cons (.none rfl) (JO.load rfl rfl rfl Try.isAgg25 Try.sizeOf25) rfl rfl (J.cons (.none rfl) (JO.move rfl) rfl rfl (J.cons (.none rfl) (JO.idx hz55 rfl rfl Try.runUnderlying25 Try.sizeOf3) rfl rfl (J.cons (.none rfl) (JO.loadPst rfl Try.isAgg3 Try.sizeOf3) rfl rfl (J.cons (.none rfl) (JO.assign rfl) rfl rfl (J.fin (Sw.Sub.mk id (.cons rfl (.of_eq rfl) (.cons rfl (.of_eq rfl) (.cons rfl (.of_eq rfl) (.cons rfl (.of_eq rfl) .nil)))) (.box rfl (.cons (.of_eq rfl) (.cons (.of_eq rfl) (.cons (.of_eq rfl) .nil))) (.arr rfl .nil)) rfl)))))))) ?_
    refine W.seq ?_
    obtain ⟨o65, ho65, hb65, hr65⟩ := lp_elim h
    refine W.lp (σs := fun s62 : Int × (List Int) => ⟨[(1, .ptr 101 0), (3, .ref 140), (4, .v (Enc.int .i64) s35.1), (5, .v (Enc.int .i64) s62.1)], [(101, .box 28 [.v (Enc.int .i64) a0.1, .v (Enc.sl (Enc.int .i64)) a0.2.1, .v (Enc.sl eBlk) a0.2.2]), (140, .arr 5 (Enc.int .u8) s62.2)]⟩) (fun x66 : Int × (List Int) => ⟨[(1, .ptr 101 0), (3, .ref 140), (4, .v (Enc.int .i64) s35.1), (5, .v (Enc.int .i64) x66.1)], [(101, .box 28 [.v (Enc.int .i64) a0.1, .v (Enc.sl (Enc.int .i64)) a0.2.1, .v (Enc.sl eBlk) a0.2.2]), (140, .arr 5 (Enc.int .u8) x66.2)]⟩) ho65 (Sw.Sub.mk (rn [(101, 101), (140, 125)]) (.cons rfl (.of_eq rfl) (.cons rfl (.of_eq rfl) (.cons rfl (.of_eq rfl) (.cons rfl (.of_eq rfl) .nil)))) (.box rfl (.cons (.of_eq rfl) (.cons (.of_eq rfl) (.cons (.of_eq rfl) .nil))) (.arr rfl .nil)) rfl) ?_ ?_
    · intro x66 hy
      have h := hb65 _ hy
      obtain ⟨v69, hv69, h⟩ := bind_e h
      refine W.reg (σ' := ⟨[(1, .ptr 101 0), (3, .ref 143), (4, .v (Enc.int .i64) s35.1)], [(101, .box 28 [.v (Enc.int .i64) a0.1, .v (Enc.sl (Enc.int .i64)) a0.2.1, .v (Enc.sl eBlk) a0.2.2]), (143, .arr 5 (Enc.int .u8) v69)]⟩) (J.cons (.none rfl) (JO.move rfl) rfl rfl (J.cons (.none rfl) (JO.move rfl) rfl rfl (J.cons (.none rfl) (JO.conv Try.runUnderlying3 Try.runUnderlying5 rfl) rfl rfl (J.cons (.none rfl) (JO.lit (e := (Enc.int .u8)) Try.runUnderlying39 Try.sizeOf5 Try.zeroValue5 rfl rfl rfl rfl (.cons (.dir rfl) .nil)) rfl rfl (J.mut (.none rfl) (JM.append 143 hv69 rfl rfl (.sl rfl) Try.runUnderlying39 Try.typeInfo5 Try.sizeOf5 rfl rfl rfl rfl rfl) (J.cons (.none rfl) (JO.assign rfl) rfl rfl (J.fin (Sw.Sub.mk id (.cons rfl (.of_eq rfl) (.cons rfl (.of_eq rfl) (.cons rfl (.of_eq rfl) .nil))) (.box rfl (.cons (.of_eq rfl) (.cons (.of_eq rfl) (.cons (.of_eq rfl) .nil))) (.arr rfl .nil)) rfl)))))))) ?_
      refine W.fall ?_
      refine W.reg (σ' := ⟨[(1, .ptr 101 0), (3, .ref 143), (4, .v (Enc.int .i64) (ar .add .i64 s35.1 (1 : Int)))], [(101, .box 28 [.v (Enc.int .i64) a0.1, .v (Enc.sl (Enc.int .i64)) a0.2.1, .v (Enc.sl eBlk) a0.2.2]), (143, .arr 5 (Enc.int .u8) v69)]⟩) (J.cons (.none rfl) (JO.move rfl) rfl rfl (J.cons (.none rfl) (JO.arith rfl rfl rfl) rfl rfl (J.cons (.none rfl) (JO.assign rfl) rfl rfl (J.fin (Sw.Sub.mk id (.cons rfl (.of_eq rfl) (.cons rfl (.of_eq rfl) (.cons rfl (.of_eq rfl) .nil))) (.box rfl (.cons (.of_eq rfl) (.cons (.of_eq rfl) (.cons (.of_eq rfl) .nil))) (.arr rfl .nil)) rfl))))) ?_
      obtain rfl := Option.some.inj h
      exact W.next (Sw.Sub.mk (rn [(101, 101), (125, 143)]) (.cons rfl (.of_eq rfl) (.cons rfl (.of_eq rfl) (.cons rfl (.of_eq rfl) .nil))) (.box rfl (.cons (.of_eq rfl) (.cons (.of_eq rfl) (.cons (.of_eq rfl) .nil))) (.arr rfl .nil)) rfl)
    intro s62 r65 h
    refine W.seq ?_
    refine W.seq ?_
    refine W.reg (σ' := ⟨[(1, .ptr 101 0), (3, .ref 140), (4, .v (Enc.int .i64) s35.1), (5, .v (Enc.int .i64) s62.1), (35, .v Enc.bool (cm .geq s62.1 (128 : Int)))], [(101, .box 28 [.v (Enc.int .i64) a0.1, .v (Enc.sl (Enc.int .i64)) a0.2.1, .v (Enc.sl eBlk) a0.2.2]), (140, .arr 5 (Enc.int .u8) s62.2)]⟩) (J.cons (.none rfl) (JO.move rfl) rfl rfl (J.cons (.none rfl) (JO.cmp rfl rfl rfl) rfl rfl (J.fin (Sw.Sub.mk id (.cons rfl (.of_eq rfl) (.cons rfl (.of_eq rfl) (.cons rfl (.of_eq rfl) (.cons rfl (.of_eq rfl) (.cons rfl (.of_eq rfl) .nil))))) (.box rfl (.cons (.of_eq rfl) (.cons (.of_eq rfl) (.cons (.of_eq rfl) .nil))) (.arr rfl .nil)) rfl)))) ?_
    rcases Bool.eq_false_or_eq_true (cm .geq s62.1 (128 : Int)) with hc67 | hc67
    · replace h := cond_t hc67 h
      refine W.condT rfl hc67 ?_
      refine W.skip ?_
      refine W.block ?_
      refine W.seq ?_
      obtain ⟨v68, hv68, h⟩ := bind_e h
      refine W.reg (σ' := ⟨[(1, .ptr 101 0), (3, .ref 142), (4, .v (Enc.int .i64) s35.1), (5, .v (Enc.int .i64) s62.1)], [(101, .box 28 [.v (Enc.int .i64) a0.1, .v (Enc.sl (Enc.int .i64)) a0.2.1, .v (Enc.sl eBlk) a0.2.2]), (142, .arr 5 (Enc.int .u8) v68)]⟩) (J.cons (.none rfl) (JO.move rfl) rfl rfl (J.cons (.none rfl) (JO.move rfl) rfl rfl (J.cons (.none rfl) (JO.div (.inr rfl) (by decide) rfl rfl) rfl rfl (J.cons (.none rfl) (JO.arith rfl rfl rfl) rfl rfl (J.cons (.none rfl) (JO.conv Try.runUnderlying3 Try.runUnderlying5 rfl) rfl rfl (J.cons (.none rfl) (JO.lit (e := (Enc.int .u8)) Try.runUnderlying39 Try.sizeOf5 Try.zeroValue5 rfl rfl rfl rfl (.cons (.dir rfl) .nil)) rfl rfl (J.mut (.none rfl) (JM.append 142 hv68 rfl rfl (.sl rfl) Try.runUnderlying39 Try.typeInfo5 Try.sizeOf5 rfl rfl rfl rfl rfl) (J.cons (.none rfl) (JO.assign rfl) rfl rfl (J.fin (Sw.Sub.mk id (.cons rfl (.of_eq rfl) (.cons rfl (.of_eq rfl) (.cons rfl (.of_eq rfl) (.cons rfl (.of_eq rfl) .nil)))) (.box rfl (.cons (.of_eq rfl) (.cons (.of_eq rfl) (.cons (.of_eq rfl) .nil))) (.arr rfl .nil)) rfl)))))))))) ?_
      refine W.reg (σ' := ⟨[(1, .ptr 101 0), (3, .ref 142), (4, .v (Enc.int .i64) s35.1), (5, .v (Enc.int .i64) (ar .quo .i64 s62.1 (128 : Int)))], [(101, .box 28 [.v (Enc.int .i64) a0.1, .v (Enc.sl (Enc.int .i64)) a0.2.1, .v (Enc.sl eBlk) a0.2.2]), (142, .arr 5 (Enc.int .u8) v68)]⟩) (J.cons (.none rfl) (JO.move rfl) rfl rfl (J.cons (.none rfl) (JO.div (.inl rfl) (by decide) rfl rfl) rfl rfl (J.cons (.none rfl) (JO.assign rfl) rfl rfl (J.fin (Sw.Sub.mk id (.cons rfl (.of_eq rfl) (.cons rfl (.of_eq rfl) (.cons rfl (.of_eq rfl) (.cons rfl (.of_eq rfl) .nil)))) (.box rfl (.cons (.of_eq rfl) (.cons (.of_eq rfl) (.cons (.of_eq rfl) .nil))) (.arr rfl .nil)) rfl))))) ?_
      refine W.fall ?_
      obtain rfl := Option.some.inj h
      exact W.next (Sw.Sub.mk (rn [(101, 101), (140, 142)]) (.cons rfl (.of_eq rfl) (.cons rfl (.of_eq rfl) (.cons rfl (.of_eq rfl) (.cons rfl (.of_eq rfl) .nil)))) (.box rfl (.cons (.of_eq rfl) (.cons (.of_eq rfl) (.cons (.of_eq rfl) .nil))) (.arr rfl .nil)) rfl)
    · replace h := cond_f hc67 h
      refine W.condF rfl hc67 ?_
      refine W.exit ?_
      obtain rfl := Option.some.inj h
      exact XQ.brk (Sw.Sub.mk id (.cons rfl (.of_eq rfl) (.cons rfl (.of_eq rfl) (.cons rfl (.of_eq rfl) (.cons rfl (.of_eq rfl) .nil)))) (.box rfl (.cons (.of_eq rfl) (.cons (.of_eq rfl) (.cons (.of_eq rfl) .nil))) (.arr rfl .nil)) rfl)
  · replace h := cond_f hc54 h
    refine W.condF rfl hc54 ?_
    refine W.exit ?_
    obtain rfl := Option.some.inj h
    exact XQ.brk (Sw.Sub.mk id (.cons rfl (.of_eq rfl) (.cons rfl (.of_eq rfl) .nil)) (.box rfl (.cons (.of_eq rfl) (.cons (.of_eq rfl) (.cons (.of_eq rfl) .nil))) (.arr rfl .nil)) rfl)
set_option maxRecDepth 100000 in
set_option maxHeartbeats 4000000 in
theorem con_ref_DataOf {a0 : (Int × Int × (List (Int × (List Int) × (List Blk))))} {a1 : Int} {r : (List Int)} (h : m_ref_DataOf a0 a1 = some r) :
    Con Try.prog 18 [.v (Enc.pr (Enc.int .i64) (Enc.pr (Enc.int .i64) (Enc.sl (Enc.pr (Enc.int .i64) (Enc.pr (Enc.sl (Enc.int .i64)) (Enc.sl eBlk)))))) a0, .v (Enc.int .i64) a1] (.v (Enc.sl (Enc.int .u8)) r) [] := by
  refine Con.of Try.func18 rfl Try.ntmps18 rfl ?_
  intro S w hF
  unfold m_ref_DataOf at h
  refine W.seq ?_
  refine W.reg (σ' := ⟨[(1, .v (Enc.int .i64) a1), (2, .ptr 101 0)], [(101, .box 24 [.v (Enc.int .i64) a0.1, .v (Enc.int .i64) a0.2.1, .v (Enc.sl (Enc.pr (Enc.int .i64) (Enc.pr (Enc.sl (Enc.int .i64)) (Enc.sl eBlk)))) a0.2.2])]⟩) (J.cons (.none rfl) (JO.box 101 rfl (.prm (.one _ _) (.prm (.one _ _) (.one _ _))) rfl) rfl rfl (J.cons (.none rfl) (JO.assignNil (Enc.int .u8)) rfl rfl (J.fin (Sw.Sub.mk id (.cons rfl (.of_eq rfl) (.cons rfl (.of_eq rfl) .nil)) (.box rfl (.cons (.of_eq rfl) (.cons (.of_eq rfl) (.cons (.of_eq rfl) .nil))) .nil) rfl)))) ?_
  refine W.seq ?_
  obtain ⟨z1, hz1, h⟩ := bind_e h
  refine W.reg (σ' := ⟨[(1, .v (Enc.int .i64) a1), (2, .ptr 101 0), (5, .ptr 102 0)], [(101, .box 24 [.v (Enc.int .i64) a0.1, .v (Enc.int .i64) a0.2.1, .v (Enc.sl (Enc.pr (Enc.int .i64) (Enc.pr (Enc.sl (Enc.int .i64)) (Enc.sl eBlk)))) a0.2.2]), (102, .box 28 [.v (Enc.int .i64) z1.1, .v (Enc.sl (Enc.int .i64)) z1.2.1, .v (Enc.sl eBlk) z1.2.2])]⟩) (J.cons (.none rfl) (JO.fieldPtr 2 rfl Try.runUnderlying24 rfl Try.sizeOf22 rfl rfl) rfl rfl (J.cons (.none rfl) (JO.load rfl rfl rfl Try.isAgg22 Try.sizeOf22) rfl rfl (J.cons (.none rfl) (JO.move rfl) rfl rfl (J.cons (.none rfl) (JO.idx hz1 rfl rfl Try.runUnderlying22 Try.sizeOf28) rfl rfl (J.cons (.none rfl) (JO.loadPst rfl Try.isAgg28 Try.sizeOf28) rfl rfl (J.cons (.none rfl) (JO.alloc 102 Try.zeroValue28 rfl (.cons (Z.int .i64) (.cons (Z.sl (Enc.int .i64)) (.cons (Z.sl eBlk) .nil))) rfl) rfl rfl (J.mut (.none rfl) (JM.storeAll rfl rfl rfl rfl (.prm (.one _ _) (.prm (.one _ _) (.one _ _))) Try.sizeOf28) (J.fin (Sw.Sub.mk id (.cons rfl (.of_eq rfl) (.cons rfl (.of_eq rfl) (.cons rfl (.of_eq rfl) .nil))) (.box rfl (.cons (.of_eq rfl) (.cons (.of_eq rfl) (.cons (.of_eq rfl) .nil))) (.box rfl (.cons (.of_eq rfl) (.cons (.of_eq rfl) (.cons (.of_eq rfl) .nil))) .nil)) rfl))))))))) ?_
  refine W.seq ?_
  obtain ⟨v2, hv2, h⟩ := bind_e h
  obtain ⟨v3, hv3, h⟩ := bind_e h
  refine W.dr2 (σ' := ⟨[(4, .ref 103000)], [(103000, .arr 5 (Enc.int .u8) v3)]⟩) 17 [0, 1, 0, 4, 0, 28, 0, 64, 255, 0, 512, 2047, 0, 4096, 16383, 32767, 65535] mixed (by exact (.cons (.none rfl) (JO.fieldPtr 0 rfl Try.runUnderlying24 rfl Try.sizeOf3 rfl rfl) rfl rfl (.cons (.none rfl) (JO.load rfl rfl rfl Try.isAgg3 Try.sizeOf3) rfl rfl (.cons (.none rfl) (JO.fieldPtr 1 rfl Try.runUnderlying24 rfl Try.sizeOf3 rfl rfl) rfl rfl (.cons (.none rfl) (JO.load rfl rfl rfl Try.isAgg3 Try.sizeOf3) rfl rfl (.cons (.none rfl) (JO.move rfl) rfl rfl (.cons (.none rfl) (JO.arith rfl rfl rfl) rfl rfl (.cons (.none rfl) (JO.fieldPtr 0 rfl Try.runUnderlying28 rfl Try.sizeOf3 rfl rfl) rfl rfl (.cons (.none rfl) (JO.load rfl rfl rfl Try.isAgg3 Try.sizeOf3) rfl rfl (.cons (.none rfl) (JO.litC (e := (Enc.int .i64)) Try.runUnderlying25 Try.sizeOf3 Try.zeroValue3 rfl rfl rfl rfl (.cons (.dir rfl) (.cons (.dir rfl) (.cons (.dir rfl) .nil)))) rfl rfl (.cons (.none rfl) (JO.fieldPtr 1 rfl Try.runUnderlying28 rfl Try.sizeOf25 rfl rfl) rfl rfl (.cons (.none rfl) (JO.load rfl rfl rfl Try.isAgg25 Try.sizeOf25) rfl rfl (.cons (.none rfl) (JO.appC hv2 (List.cons_ne_nil _ _) rfl (.sl rfl) Try.runUnderlying25 Try.typeInfo3 Try.sizeOf3 rfl rfl rfl) rfl rfl (.cons (.none rfl) (JO.fieldPtr 2 rfl Try.runUnderlying28 rfl Try.sizeOf26 rfl rfl) rfl rfl (.cons (.none rfl) (JO.load rfl rfl rfl Try.isAgg26 Try.sizeOf26) rfl rfl (.cons (.none rfl) (JO.build built28 (.cons (Z.int .i64) (.cons (Z.sl (Enc.int .i64)) (.cons (Z.sl eBlk) .nil))) (.cons rfl (.dir rfl) rfl rfl rfl rfl (.cons rfl (.dir rfl) rfl rfl rfl rfl (.cons rfl (.dir rfl) rfl rfl rfl rfl .nil)))) rfl rfl (.cons (.none rfl) (JO.call 103000 (con_ref_Packed hv3) Try.call48 (.cons (.agg rfl (.same (.same (.same .nil))) (.prm (.one _ _) (.prm (.one _ _) (.one _ _))) rfl) .nil) rfl) rfl rfl (.cons (.none rfl) (JO.assign rfl) rfl rfl .nil)))))))))))))))))) (by exact (J.fin (Sw.Sub.mk id (.cons rfl (.of_eq rfl) .nil) (.arr rfl .nil) rfl))) rfl (by decide +kernel) (by decide +kernel) (by decide +kernel) (by kernel_rfl) ?_
  refine W.ret ?_
  obtain rfl := Option.some.inj h
  exact XQ.sub (σ' := ⟨[(4, .v (Enc.sl (Enc.int .u8)) v3)], []⟩) (Sw.Sub.mk id (.cons rfl (.frz rfl rfl) .nil) .nil rfl) (XQ.ret1 hF noR rfl (RV.tmp rfl) .nil rfl)
set_option maxRecDepth 100000 in
set_option maxHeartbeats 4000000 in
theorem con_ref_SameBytes {a0 : (List Int)} {a1 : (List Int)} {r : Bool} (h : m_ref_SameBytes a0 a1 = some r) :
    Con Try.prog 19 [.v (Enc.sl (Enc.int .u8)) a0, .v (Enc.sl (Enc.int .u8)) a1] (.v Enc.bool r) [] := by
  refine Con.of Try.func19 rfl Try.ntmps19 rfl ?_
  intro S w hF
  unfold m_ref_SameBytes at h
  refine W.seq ?_
  refine W.reg (σ' := ⟨[(0, .v (Enc.sl (Enc.int .u8)) a0), (1, .v (Enc.sl (Enc.int .u8)) a1)], []⟩) (J.cons (.none rfl) (JO.assign rfl) rfl rfl (J.fin (Sw.Sub.mk id (.cons rfl (.of_eq rfl) (.cons rfl (.of_eq rfl) .nil)) .nil rfl))) ?_
  refine W.seq ?_
  refine W.seq ?_
  refine W.reg (σ' := ⟨[(0, .v (Enc.sl (Enc.int .u8)) a0), (1, .v (Enc.sl (Enc.int .u8)) a1), (10, .v Enc.bool (cm .neq (a0.length : Int) (a1.length : Int)))], []⟩) (J.cons (.none rfl) (JO.move rfl) rfl rfl (J.cons (.none rfl) (JO.len rfl Try.runUnderlying39) rfl rfl (J.cons (.none rfl) (JO.move rfl) rfl rfl (J.cons (.none rfl) (JO.len rfl Try.runUnderlying39) rfl rfl (J.cons (.none rfl) (JO.cmp rfl rfl rfl) rfl rfl (J.fin (Sw.Sub.mk id (.cons rfl (.of_eq rfl) (.cons rfl (.of_eq rfl) (.cons rfl (.of_eq rfl) .nil))) .nil rfl))))))) ?_
  rcases Bool.eq_false_or_eq_true (cm .neq (a0.length : Int) (a1.length : Int)) with hc1 | hc1
  · replace h := cond_t hc1 h
    refine W.condT rfl hc1 ?_
    refine W.seq ?_
    refine W.reg (σ' := ⟨[(4, .v Enc.bool false)], []⟩) (J.cons (.none rfl) (JO.assign rfl) rfl rfl (J.fin (Sw.Sub.mk id (.cons rfl (.of_eq rfl) .nil) .nil rfl))) ?_
    refine W.ret ?_
    obtain rfl := Option.some.inj h
    exact XQ.sub (σ' := ⟨[(4, .v Enc.bool false)], []⟩) (Sw.Sub.mk id (.cons rfl (.of_eq rfl) .nil) .nil rfl) (XQ.ret1 hF noR rfl (RV.tmp rfl) .nil rfl)
  · replace h := cond_f hc1 h
    refine W.condF rfl hc1 ?_
    refine W.skip ?_
    refine W.seq ?_
    refine W.seq ?_
    refine W.reg (σ' := ⟨[(0, .v (Enc.sl (Enc.int .u8)) a0), (1, .v (Enc.sl (Enc.int .u8)) a1), (5, .v (Enc.int .i64) (0 : Int))], []⟩) (J.cons (.none rfl) (JO.assign rfl) rfl rfl (J.fin (Sw.Sub.mk id (.cons rfl (.of_eq rfl) (.cons rfl (.of_eq rfl) (.cons rfl (.of_eq rfl) .nil))) .nil rfl))) ?_
    obtain ⟨o17, ho17, hb17, hr17⟩ := lp_elim h
    refine W.lp (σs := fun s12 : Int => ⟨[(0, .v (Enc.sl (Enc.int .u8)) a0), (1, .v (Enc.sl (Enc.int .u8)) a1), (5, .v (Enc.int .i64) s12)], []⟩) (fun x18 : Unit => ⟨[], []⟩) ho17 (Sw.Sub.mk id (.cons rfl (.of_eq rfl) (.cons rfl (.of_eq rfl) (.cons rfl (.of_eq rfl) .nil))) .nil rfl) ?_ ?_
    · intro x18 hy
      have h := hb17 _ hy
      refine W.seq ?_
      refine W.reg (σ' := ⟨[(4, .v Enc.bool true)], []⟩) (J.cons (.none rfl) (JO.assign rfl) rfl rfl (J.fin (Sw.Sub.mk id (.cons rfl (.of_eq rfl) .nil) .nil rfl))) ?_
      refine W.ret ?_
      obtain rfl := Option.some.inj h
      exact XQ.sub (σ' := ⟨[(4, .v Enc.bool true)], []⟩) (Sw.Sub.mk id (.cons rfl (.of_eq rfl) .nil) .nil rfl) (XQ.ret1 hF noR rfl (RV.tmp rfl) .nil rfl)
    intro s12 r17 h
    refine W.seq ?_
    refine W.seq ?_
    refine W.reg (σ' := ⟨[(0, .v (Enc.sl (Enc.int .u8)) a0), (1, .v (Enc.sl (Enc.int .u8)) a1), (5, .v (Enc.int .i64) s12), (14, .v Enc.bool (cm .lss s12 (a0.length : Int)))], []⟩) (J.cons (.none rfl) (JO.move rfl) rfl rfl (J.cons (.none rfl) (JO.move rfl) rfl rfl (J.cons (.none rfl) (JO.len rfl Try.runUnderlying39) rfl rfl (J.cons (.none rfl) (JO.cmp rfl rfl rfl) rfl rfl (J.fin (Sw.Sub.mk id (.cons rfl (.of_eq rfl) (.cons rfl (.of_eq rfl) (.cons rfl (.of_eq rfl) (.cons rfl (.of_eq rfl) .nil)))) .nil rfl)))))) ?_
    rcases Bool.eq_false_or_eq_true (cm .lss s12 (a0.length : Int)) with hc19 | hc19
    · replace h := cond_t hc19 h
      refine W.condT rfl hc19 ?_
      refine W.skip ?_
      refine W.seq ?_
      refine W.block ?_
      refine W.seq ?_
      obtain ⟨z20, hz20, h⟩ := bind_e h
      obtain ⟨z21, hz21, h⟩ := bind_e h
      refine W.dr2 (σ' := ⟨[(0, .v (Enc.sl (Enc.int .u8)) a0), (1, .v (Enc.sl (Enc.int .u8)) a1), (5, .v (Enc.int .i64) s12), (25, .v Enc.bool (cm .neq z20 z21))], []⟩) 9 [0, 0, 3, 7, 0, 0, 48, 112, 255] mixed (by exact (.cons (.none rfl) (JO.move rfl) rfl rfl (.cons (.none rfl) (JO.move rfl) rfl rfl (.cons (.none rfl) (JO.idx hz20 rfl rfl Try.runUnderlying39 Try.sizeOf5) rfl rfl (.cons (.none rfl) (JO.loadPst rfl Try.isAgg5 Try.sizeOf5) rfl rfl (.cons (.none rfl) (JO.move rfl) rfl rfl (.cons (.none rfl) (JO.move rfl) rfl rfl (.cons (.none rfl) (JO.idx hz21 rfl rfl Try.runUnderlying39 Try.sizeOf5) rfl rfl (.cons (.none rfl) (JO.loadPst rfl Try.isAgg5 Try.sizeOf5) rfl rfl (.cons (.none rfl) (JO.cmp rfl rfl rfl) rfl rfl .nil)))))))))) (by exact (J.fin (Sw.Sub.mk id (.cons rfl (.of_eq rfl) (.cons rfl (.of_eq rfl) (.cons rfl (.of_eq rfl) (.cons rfl (.of_eq rfl) .nil)))) .nil rfl))) rfl (by decide +kernel) (by decide +kernel) (by decide +kernel) (by kernel_rfl) ?_
      rcases Bool.eq_false_or_eq_true (cm .neq z20 z21) with hc22 | hc22
      · replace h := cond_t hc22 h
        refine W.condT rfl hc22 ?_
        refine W.seq ?_
        refine W.reg (σ' := ⟨[(4, .v Enc.bool false)], []⟩) (J.cons (.none rfl) (JO.assign rfl) rfl rfl (J.fin (Sw.Sub.mk id (.cons rfl (.of_eq rfl) .nil) .nil rfl))) ?_
        refine W.ret ?_
        refine XQ.ret ?_
        obtain rfl := Option.some.inj h
        refine XQ.lret fun ho => ?_
        obtain rfl := hr17 _ ho
        exact XQ.sub (σ' := ⟨[(4, .v Enc.bool false)], []⟩) (Sw.Sub.mk id (.cons rfl (.of_eq rfl) .nil) .nil rfl) (XQ.ret1 hF noR rfl (RV.tmp rfl) .nil rfl)
      · replace h := cond_f hc22 h
        refine W.condF rfl hc22 ?_
        refine W.skip ?_
        refine W.fall ?_
        refine W.reg (σ' := ⟨[(0, .v (Enc.sl (Enc.int .u8)) a0), (1, .v (Enc.sl (Enc.int .u8)) a1), (5, .v (Enc.int .i64) (ar .add .i64 s12 (1 : Int)))], []⟩) (J.cons (.none rfl) (JO.move rfl) rfl rfl (J.cons (.none rfl) (JO.arith rfl rfl rfl) rfl rfl (J.cons (.none rfl) (JO.assign rfl) rfl rfl (J.fin (Sw.Sub.mk id (.cons rfl (.of_eq rfl) (.cons rfl (.of_eq rfl) (.cons rfl (.of_eq rfl) .nil))) .nil rfl))))) ?_
        obtain rfl := Option.some.inj h
        exact W.next (Sw.Sub.mk id (.cons rfl (.of_eq rfl) (.cons rfl (.of_eq rfl) (.cons rfl (.of_eq rfl) .nil))) .nil rfl)
    · replace h := cond_f hc19 h
      refine W.condF rfl hc19 ?_
      refine W.exit ?_
      obtain rfl := Option.some.inj h
      exact XQ.brk (Sw.Sub.mk id .nil .nil rfl)
set_option maxRecDepth 100000 in
set_option maxHeartbeats 4000000 in
theorem con_ref_Unpacked {a0 : (List Int)} {r : (Int × (List Int) × (List Blk)) × Bool} (h : m_ref_Unpacked a0 = some r) :
    Con Try.prog 85 [.v (Enc.sl (Enc.int .u8)) a0] (.tup [.v (Enc.pr (Enc.int .i64) (Enc.pr (Enc.sl (Enc.int .i64)) (Enc.sl eBlk))) r.1, .v Enc.bool r.2]) [] := by
  refine Con.of Try.func85 rfl Try.ntmps85 rfl ?_
  intro S w hF
  unfold m_ref_Unpacked at h
  refine W.seq ?_
  refine W.reg (σ' := ⟨[(0, .v (Enc.sl (Enc.int .u8)) a0), (2, .ptr 101 0)], [(101, .box 28 [.v (Enc.int .i64) (0 : Int), .v (Enc.sl (Enc.int .i64)) ([] : (List Int)), .v (Enc.sl eBlk) ([] : (List Blk))])]⟩) (J.cons (.none rfl) (JO.alloc 101 Try.zeroValue28 rfl (.cons (Z.int .i64) (.cons (Z.sl (Enc.int .i64)) (.cons (Z.sl eBlk) .nil))) rfl) rfl rfl (J.cons (.none rfl) (JO.assign rfl) rfl rfl (J.fin (Sw.Sub.mk id (.cons rfl (.of_eq rfl) (.cons rfl (.of_eq rfl) .nil)) (.box rfl (.cons (.of_eq rfl) (.cons (.of_eq rfl) (.cons (.of_eq rfl) .nil))) .nil) rfl)))) ?_
  refine W.seq ?_
  refine W.seq ?_
  refine W.reg (σ' := ⟨[(0, .v (Enc.sl (Enc.int .u8)) a0), (2, .ptr 101 0), (15, .v Enc.bool (cm .lss (a0.length : Int) (6 : Int)))], [(101, .box 28 [.v (Enc.int .i64) (0 : Int), .v (Enc.sl (Enc.int .i64)) ([] : (List Int)), .v (Enc.sl eBlk) ([] : (List Blk))])]⟩) (J.cons (.none rfl) (JO.move rfl) rfl rfl (J.cons (.none rfl) (JO.len rfl Try.runUnderlying39) rfl rfl (J.cons (.none rfl) (JO.cmp rfl rfl rfl) rfl rfl (J.fin (Sw.Sub.mk id (.cons rfl (.of_eq rfl) (.cons rfl (.of_eq rfl) (.cons rfl (.of_eq rfl) .nil))) (.box rfl (.cons (.of_eq rfl) (.cons (.of_eq rfl) (.cons (.of_eq rfl) .nil))) .nil) rfl))))) ?_
  rcases Bool.eq_false_or_eq_true (cm .lss (a0.length : Int) (6 : Int)) with hc1 | hc1
  · replace h := cond_t hc1 h
    refine W.condT rfl hc1 ?_
    refine W.seq ?_
    refine W.reg (σ' := ⟨[(2, .ptr 101 0), (3, .v Enc.bool false)], [(101, .box 28 [.v (Enc.int .i64) (0 : Int), .ref 103, .ref 102]), (103, .arr 3 (Enc.int .i64) ([] : (List Int))), (102, .arr 56 eBlk ([] : (List Blk)))]⟩) (J.cons (.none rfl) (JO.buildN (new := [(103, .arr 3 (Enc.int .i64) ([] : (List Int))), (102, .arr 56 eBlk ([] : (List Blk)))]) built28 (.cons (Z.int .i64) (.ref 103 rfl (.ref 102 rfl .nil))) (.cons (.cons .nil)) rfl .nil) rfl rfl (J.mut (.none rfl) (JM.storeAgg rfl rfl rfl rfl rfl rfl Try.sizeOf28) (J.cons (.none rfl) (JO.assign rfl) rfl rfl (J.fin (Sw.Sub.mk id (.cons rfl (.of_eq rfl) (.cons rfl (.of_eq rfl) .nil)) (.box rfl (.cons (.of_eq rfl) (.cons (.of_eq rfl) (.cons (.of_eq rfl) .nil))) (.arr rfl (.arr rfl .nil))) rfl))))) ?_
    refine W.ret ?_
    obtain rfl := Option.some.inj h
    exact XQ.sub (σ' := ⟨[(2, .ptr 90 0), (3, .v Enc.bool false)], [(90, .box 28 [.v (Enc.int .i64) (0 : Int), .v (Enc.sl (Enc.int .i64)) ([] : (List Int)), .v (Enc.sl eBlk) ([] : (List Blk))])]⟩) (Sw.Sub.mk (rn [(90, 101)]) (.cons rfl (.of_eq rfl) (.cons rfl (.of_eq rfl) .nil)) (.box rfl (.cons (.of_eq rfl) (.cons (.frz rfl rfl) (.cons (.frz rfl rfl) .nil))) .nil) rfl) (XQ.ret2 hF noR rfl (RV.cellAll rfl rfl (.prm (.one _ _) (.prm (.one _ _) (.one _ _))) Try.isAgg28 Try.sizeOf28) (RV.tmp rfl) .nil rfl)
  · replace h := cond_f hc1 h
    refine W.condF rfl hc1 ?_
    refine W.skip ?_
    refine W.seq ?_
    obtain ⟨z2, hz2, h⟩ := bind_e h
    refine W.reg (σ' := ⟨[(0, .v (Enc.sl (Enc.int .u8)) a0), (2, .ptr 101 0), (4, .ptr 106 0)], [(101, .box 28 [.v (Enc.int .i64) (0 : Int), .v (Enc.sl (Enc.int .i64)) ([] : (List Int)), .v (Enc.sl eBlk) ([] : (List Blk))]), (106, .box 28 [.v (Enc.int .i64) (ar .quo .i64 z2 (16 : Int)), .ref 105, .ref 104]), (105, .arr 3 (Enc.int .i64) ([] : (List Int))), (104, .arr 56 eBlk ([] : (List Blk)))]⟩) (J.cons (.none rfl) (JO.move rfl) rfl rfl (J.cons (.none rfl) (JO.idx hz2 rfl rfl Try.runUnderlying39 Try.sizeOf5) rfl rfl (J.cons (.none rfl) (JO.loadPst rfl Try.isAgg5 Try.sizeOf5) rfl rfl (J.cons (.none rfl) (JO.convUp Try.runUnderlying5 Try.runUnderlying3 rfl rfl) rfl rfl (J.cons (.none rfl) (JO.div (.inl rfl) (by decide) rfl rfl) rfl rfl (J.cons (.none rfl) (JO.buildN (new := [(105, .arr 3 (Enc.int .i64) ([] : (List Int))), (104, .arr 56 eBlk ([] : (List Blk)))]) built28 (.cons (Z.int .i64) (.ref 105 rfl (.ref 104 rfl .nil))) (.cons (.cons .nil)) rfl (.cons rfl (.dir rfl) rfl rfl rfl rfl .nil)) rfl rfl (J.cons (.none rfl) (JO.allocN (new := [(108, .arr 3 (Enc.int .i64) ([] : (List Int))), (107, .arr 56 eBlk ([] : (List Blk)))]) 106 Try.zeroValue28 rfl (.cons (Z.int .i64) (.ref 108 rfl (.ref 107 rfl .nil))) (.cons (.cons .nil)) rfl rfl) rfl rfl (J.mut (.none rfl) (JM.storeAgg rfl rfl rfl rfl rfl rfl Try.sizeOf28) (J.fin (Sw.Sub.mk id (.cons rfl (.of_eq rfl) (.cons rfl (.of_eq rfl) (.cons rfl (.of_eq rfl) .nil))) (.box rfl (.cons (.of_eq rfl) (.cons (.of_eq rfl) (.cons (.of_eq rfl) .nil))) (.box rfl (.cons (.of_eq rfl) (.cons (.of_eq rfl) (.cons (.of_eq rfl) .nil))) (.arr rfl (.arr rfl .nil)))) rfl)))))))))) ?_
    refine W.seq ?_
    refine W.reg (σ' := ⟨[(0, .v (Enc.sl (Enc.int .u8)) a0), (2, .ptr 101 0), (4, .ptr 106 0), (5, .v (Enc.int .i64) (2 : Int))], [(101, .box 28 [.v (Enc.int .i64) (0 : Int), .v (Enc.sl (Enc.int .i64)) ([] : (List Int)), .v (Enc.sl eBlk) ([] : (List Blk))]), (106, .box 28 [.v (Enc.int .i64) (ar .quo .i64 z2 (16 : Int)), .ref 105, .ref 104]), (105, .arr 3 (Enc.int .i64) ([] : (List Int))), (104, .arr 56 eBlk ([] : (List Blk)))]⟩) (J.cons (.none rfl) (JO.assign rfl) rfl rfl (J.fin (Sw.Sub.mk id (.cons rfl (.of_eq rfl) (.cons rfl (.of_eq rfl) (.cons rfl (.of_eq rfl) (.cons rfl (.of_eq rfl) .nil)))) (.box rfl (.cons (.of_eq rfl) (.cons (.of_eq rfl) (.cons (.of_eq rfl) .nil))) (.box rfl (.cons (.of_eq rfl) (.cons (.of_eq rfl) (.cons (.of_eq rfl) .nil))) (.arr rfl (.arr rfl .nil)))) rfl))) ?_
    refine W.seq ?_
    refine W.seq ?_
    refine W.reg (σ' := ⟨[(0, .v (Enc.sl (Enc.int .u8)) a0), (2, .ptr 101 0), (4, .ptr 106 0), (5, .v (Enc.int .i64) (2 : Int)), (6, .v (Enc.int .i64) (0 : Int))], [(101, .box 28 [.v (Enc.int .i64) (0 : Int), .v (Enc.sl (Enc.int .i64)) ([] : (List Int)), .v (Enc.sl eBlk) ([] : (List Blk))]), (106, .box 28 [.v (Enc.int .i64) (ar .quo .i64 z2 (16 : Int)), .ref 105, .ref 104]), (105, .arr 3 (Enc.int .i64) ([] : (List Int))), (104, .arr 56 eBlk ([] : (List Blk)))]⟩) (J.cons (.none rfl) (JO.assign rfl) rfl rfl (J.fin (Sw.Sub.mk id (.cons rfl (.of_eq rfl) (.cons rfl (.of_eq rfl) (.cons rfl (.of_eq rfl) (.cons rfl (.of_eq rfl) (.cons rfl (.of_eq rfl) .nil))))) (.box rfl (.cons (.of_eq rfl) (.cons (.of_eq rfl) (.cons (.of_eq rfl) .nil))) (.box rfl (.cons (.of_eq rfl) (.cons (.of_eq rfl) (.cons (.of_eq rfl) .nil))) (.arr rfl (.arr rfl .nil)))) rfl))) ?_
    obtain ⟨o105, ho105, hb105, hr105⟩ := lp_elim h
    refine W.lp (σs := fun s71 : Int × Int × (List Int) => ⟨[(0, .v (Enc.sl (Enc.int .u8)) a0), (2, .ptr 101 0), (4, .ptr 106 0), (5, .v (Enc.int .i64) s71.1), (6, .v (Enc.int .i64) s71.2.1)], [(101, .box 28 [.v (Enc.int .i64) (0 : Int), .v (Enc.sl (Enc.int .i64)) ([] : (List Int)), .v (Enc.sl eBlk) ([] : (List Blk))]), (106, .box 28 [.v (Enc.int .i64) (ar .quo .i64 z2 (16 : Int)), .ref 130, .ref 104]), (130, .arr 3 (Enc.int .i64) s71.2.2), (104, .arr 56 eBlk ([] : (List Blk)))]⟩) (fun x106 : Int × (List Int) => ⟨[(0, .v (Enc.sl (Enc.int .u8)) a0), (2, .ptr 101 0), (4, .ptr 106 0), (5, .v (Enc.int .i64) x106.1)], [(101, .box 28 [.v (Enc.int .i64) (0 : Int), .v (Enc.sl (Enc.int .i64)) ([] : (List Int)), .v (Enc.sl eBlk) ([] : (List Blk))]), (106, .box 28 [.v (Enc.int .i64) (ar .quo .i64 z2 (16 : Int)), .ref 130, .ref 104]), (130, .arr 3 (Enc.int .i64) x106.2), (104, .arr 56 eBlk ([] : (List Blk)))]⟩) ho105 (Sw.Sub.mk (rn [(101, 101), (106, 106), (104, 104), (130, 105)]) (.cons rfl (.of_eq rfl) (.cons rfl (.of_eq rfl) (.cons rfl (.of_eq rfl) (.cons rfl (.of_eq rfl) (.cons rfl (.of_eq rfl) .nil))))) (.box rfl (.cons (.of_eq rfl) (.cons (.of_eq rfl) (.cons (.of_eq rfl) .nil))) (.box rfl (.cons (.of_eq rfl) (.cons (.of_eq rfl) (.cons (.of_eq rfl) .nil))) (.arr rfl (.arr rfl .nil)))) rfl) ?_ ?_
    · intro x106 hy
      have h := hb105 _ hy
      refine W.seq ?_
      refine W.seq ?_
      refine W.reg (σ' := ⟨[(0, .v (Enc.sl (Enc.int .u8)) a0), (2, .ptr 101 0), (4, .ptr 106 0), (5, .v (Enc.int .i64) x106.1), (10, .v (Enc.int .i64) (0 : Int))], [(101, .box 28 [.v (Enc.int .i64) (0 : Int), .v (Enc.sl (Enc.int .i64)) ([] : (List Int)), .v (Enc.sl eBlk) ([] : (List Blk))]), (106, .box 28 [.v (Enc.int .i64) (ar .quo .i64 z2 (16 : Int)), .ref 130, .ref 104]), (130, .arr 3 (Enc.int .i64) x106.2), (104, .arr 56 eBlk ([] : (List Blk)))]⟩) (J.cons (.none rfl) (JO.assign rfl) rfl rfl (J.fin (Sw.Sub.mk id (.cons rfl (.of_eq rfl) (.cons rfl (.of_eq rfl) (.cons rfl (.of_eq rfl) (.cons rfl (.of_eq rfl) (.cons rfl (.of_eq rfl) .nil))))) (.box rfl (.cons (.of_eq rfl) (.cons (.of_eq rfl) (.cons (.of_eq rfl) .nil))) (.box rfl (.cons (.of_eq rfl) (.cons (.of_eq rfl) (.cons (.of_eq rfl) .nil))) (.arr rfl (.arr rfl .nil)))) rfl))) ?_
      obtain ⟨o205, ho205, hb205, hr205⟩ := lp_elim h
      refine W.lp (σs := fun s183 : Int × Int × (List Blk) => ⟨[(0, .v (Enc.sl (Enc.int .u8)) a0), (2, .ptr 101 0), (4, .ptr 106 0), (5, .v (Enc.int .i64) s183.1), (10, .v (Enc.int .i64) s183.2.1)], [(101, .box 28 [.v (Enc.int .i64) (0 : Int), .v (Enc.sl (Enc.int .i64)) ([] : (List Int)), .v (Enc.sl eBlk) ([] : (List Blk))]), (106, .box 28 [.v (Enc.int .i64) (ar .quo .i64 z2 (16 : Int)), .ref 130, .ref 160]), (130, .arr 3 (Enc.int .i64) x106.2), (160, .arr 56 eBlk s183.2.2)]⟩) (fun x206 : (List Blk) => ⟨[(0, .v (Enc.sl (Enc.int .u8)) a0), (2, .ptr 101 0), (4, .ptr 106 0)], [(101, .box 28 [.v (Enc.int .i64) (0 : Int), .v (Enc.sl (Enc.int .i64)) ([] : (List Int)), .v (Enc.sl eBlk) ([] : (List Blk))]), (106, .box 28 [.v (Enc.int .i64) (ar .quo .i64 z2 (16 : Int)), .ref 130, .ref 160]), (130, .arr 3 (Enc.int .i64) x106.2), (160, .arr 56 eBlk x206)]⟩) ho205 (Sw.Sub.mk (rn [(101, 101), (106, 106), (160, 104), (130, 130)]) (.cons rfl (.of_eq rfl) (.cons rfl (.of_eq rfl) (.cons rfl (.of_eq rfl) (.cons rfl (.of_eq rfl) (.cons rfl (.of_eq rfl) .nil))))) (.box rfl (.cons (.of_eq rfl) (.cons (.of_eq rfl) (.cons (.of_eq rfl) .nil))) (.box rfl (.cons (.of_eq rfl) (.cons (.of_eq rfl) (.cons (.of_eq rfl) .nil))) (.arr rfl (.arr rfl .nil)))) rfl) ?_ ?_
      · intro x206 hy
        have h := hb205 _ hy
        refine W.seq ?_
        refine W.seq ?_
        obtain ⟨x232, hx, h⟩ := bind_e h
        refine W.reg (σ' := ⟨[(2, .ptr 101 0), (4, .ptr 106 0), (110, .v Enc.bool x232)], [(101, .box 28 [.v (Enc.int .i64) (0 : Int), .v (Enc.sl (Enc.int .i64)) ([] : (List Int)), .v (Enc.sl eBlk) ([] : (List Blk))]), (106, .box 28 [.v (Enc.int .i64) (ar .quo .i64 z2 (16 : Int)), .ref 130, .ref 160]), (130, .arr 3 (Enc.int .i64) x106.2), (160, .arr 56 eBlk x206)]⟩) ?_ ?_
        · obtain ⟨v233, hv233, hx⟩ := bind_e hx
          rcases Bool.eq_false_or_eq_true (cm .neq v233 (0 : Int)) with hc234 | hc234
          · replace hx := cond_t hc234 hx
            obtain rfl := Option.some.inj hx
            exact (J.cons (.none rfl) (JO.loadAgg rfl rfl rfl Try.isAgg28 Try.sizeOf28) rfl rfl (J.cons (.none rfl) (JO.callL0 (con_ref_FrameMay hv233) Try.call68 (.cons (.agg rfl (.same (.ref rfl rfl (.ref rfl rfl .nil))) (.prm (.one _ _) (.prm (.one _ _) (.one _ _))) rfl) .nil) FlatS.v) rfl rfl (J.cons (.none rfl) (JO.cmp rfl rfl rfl) rfl rfl (J.cons (.none rfl) (JO.move rfl) rfl rfl (J.left (GK.unmet 104 rfl rfl rfl hc234) rfl (J.left (GK.unmet 104 rfl rfl rfl hc234) rfl (J.left (GK.unmet 104 rfl rfl rfl hc234) rfl (J.left (GK.unmet 104 rfl rfl rfl hc234) rfl (J.left (GK.unmet 104 rfl rfl rfl hc234) rfl (J.cons (.none rfl) (JO.pT hc234 rfl rfl) rfl rfl (J.fin (Sw.Sub.mk id (.cons rfl (.of_eq rfl) (.cons rfl (.of_eq rfl) (.cons rfl (.of_eq rfl) .nil))) (.box rfl (.cons (.of_eq rfl) (.cons (.of_eq rfl) (.cons (.of_eq rfl) .nil))) (.box rfl (.cons (.of_eq rfl) (.cons (.of_eq rfl) (.cons (.of_eq rfl) .nil))) (.arr rfl (.arr rfl .nil)))) rfl))))))))))))
          · replace hx := cond_f hc234 hx
            obtain ⟨v235, hv235, hx⟩ := bind_e hx
            obtain ⟨v236, hv236, hx⟩ := bind_e hx
            obtain rfl := Option.some.inj hx
            exact (J.cons (.none rfl) (JO.loadAgg rfl rfl rfl Try.isAgg28 Try.sizeOf28) rfl rfl (J.cons (.none rfl) (JO.callL0 (con_ref_FrameMay hv233) Try.call68 (.cons (.agg rfl (.same (.ref rfl rfl (.ref rfl rfl .nil))) (.prm (.one _ _) (.prm (.one _ _) (.one _ _))) rfl) .nil) FlatS.v) rfl rfl (J.cons (.none rfl) (JO.cmp rfl rfl rfl) rfl rfl (J.cons (.none rfl) (JO.move rfl) rfl rfl (J.cons (GK.met 104 rfl rfl rfl hc234) (JO.loadAgg rfl rfl rfl Try.isAgg28 Try.sizeOf28) rfl rfl (J.cons (GK.met 104 rfl rfl rfl hc234) (JO.callL 173000 (con_ref_Packed hv235) Try.call48 (.cons (.agg rfl (.same (.ref rfl rfl (.ref rfl rfl .nil))) (.prm (.one _ _) (.prm (.one _ _) (.one _ _))) rfl) .nil) rfl FlatS.ref (FlatN.arr FlatN.nil)) rfl rfl (J.cons (GK.met 104 rfl rfl rfl hc234) (JO.move rfl) rfl rfl (J.cons (GK.met 104 rfl rfl rfl hc234) (JO.callL0 (con_ref_SameBytes hv236) Try.call19 (.cons (.ref rfl rfl) (.cons (.dir rfl) .nil)) FlatS.v) rfl rfl (J.cons (GK.met 104 rfl rfl rfl hc234) (JO.not rfl) rfl rfl (J.cons (.none rfl) (JO.pF hc234 rfl rfl) rfl rfl (J.fin (Sw.Sub.mk id (.cons rfl (.of_eq rfl) (.cons rfl (.of_eq rfl) (.cons rfl (.of_eq rfl) .nil))) (.box rfl (.cons (.of_eq rfl) (.cons (.of_eq rfl) (.cons (.of_eq rfl) .nil))) (.box rfl (.cons (.of_eq rfl) (.cons (.of_eq rfl) (.cons (.of_eq rfl) .nil))) (.arr rfl (.arr rfl .nil)))) rfl))))))))))))
        rcases Bool.eq_false_or_eq_true x232 with hc237 | hc237
        · replace h := cond_t hc237 h
          refine W.condT rfl hc237 ?_
          refine W.seq ?_
          refine W.reg (σ' := ⟨[(2, .ptr 101 0), (3, .v Enc.bool false)], [(101, .box 28 [.v (Enc.int .i64) (0 : Int), .ref 176, .ref 175]), (176, .arr 3 (Enc.int .i64) ([] : (List Int))), (175, .arr 56 eBlk ([] : (List Blk)))]⟩) (J.cons (.none rfl) (JO.buildN (new := [(176, .arr 3 (Enc.int .i64) ([] : (List Int))), (175, .arr 56 eBlk ([] : (List Blk)))]) built28 (.cons (Z.int .i64) (.ref 176 rfl (.ref 175 rfl .nil))) (.cons (.cons .nil)) rfl .nil) rfl rfl (J.mut (.none rfl) (JM.storeAgg rfl rfl rfl rfl rfl rfl Try.sizeOf28) (J.cons (.none rfl) (JO.assign rfl) rfl rfl (J.fin (Sw.Sub.mk id (.cons rfl (.of_eq rfl) (.cons rfl (.of_eq rfl) .nil)) (.box rfl (.cons (.of_eq rfl) (.cons (.of_eq rfl) (.cons (.of_eq rfl) .nil))) (.arr rfl (.arr rfl .nil))) rfl))))) ?_
          refine W.ret ?_
          obtain rfl := Option.some.inj h
          exact XQ.sub (σ' := ⟨[(2, .ptr 90 0), (3, .v Enc.bool false)], [(90, .box 28 [.v (Enc.int .i64) (0 : Int), .v (Enc.sl (Enc.int .i64)) ([] : (List Int)), .v (Enc.sl eBlk) ([] : (List Blk))])]⟩) (Sw.Sub.mk (rn [(90, 101)]) (.cons rfl (.of_eq rfl) (.cons rfl (.of_eq rfl) .nil)) (.box rfl (.cons (.of_eq rfl) (.cons (.frz rfl rfl) (.cons (.frz rfl rfl) .nil))) .nil) rfl) (XQ.ret2 hF noR rfl (RV.cellAll rfl rfl (.prm (.one _ _) (.prm (.one _ _) (.one _ _))) Try.isAgg28 Try.sizeOf28) (RV.tmp rfl) .nil rfl)
        · replace h := cond_f hc237 h
          refine W.condF rfl hc237 ?_
          refine W.skip ?_
          refine W.seq ?_
          refine W.reg (σ' := ⟨[(2, .ptr 101 0), (3, .v Enc.bool true)], [(101, .box 28 [.v (Enc.int .i64) (ar .quo .i64 z2 (16 : Int)), .ref 130, .ref 160]), (130, .arr 3 (Enc.int .i64) x106.2), (160, .arr 56 eBlk x206)]⟩) (J.cons (.none rfl) (JO.loadAgg rfl rfl rfl Try.isAgg28 Try.sizeOf28) rfl rfl (J.mut (.none rfl) (JM.storeAgg rfl rfl rfl rfl rfl rfl Try.sizeOf28) (J.cons (.none rfl) (JO.assign rfl) rfl rfl (J.fin (Sw.Sub.mk id (.cons rfl (.of_eq rfl) (.cons rfl (.of_eq rfl) .nil)) (.box rfl (.cons (.of_eq rfl) (.cons (.of_eq rfl) (.cons (.of_eq rfl) .nil))) (.arr rfl (.arr rfl .nil))) rfl))))) ?_
          refine W.ret ?_
          obtain rfl := Option.some.inj h
          exact XQ.sub (σ' := ⟨[(2, .ptr 90 0), (3, .v Enc.bool true)], [(90, .box 28 [.v (Enc.int .i64) (ar .quo .i64 z2 (16 : Int)), .v (Enc.sl (Enc.int .i64)) x106.2, .v (Enc.sl eBlk) x206])]⟩) (Sw.Sub.mk (rn [(90, 101)]) (.cons rfl (.of_eq rfl) (.cons rfl (.of_eq rfl) .nil)) (.box rfl (.cons (.of_eq rfl) (.cons (.frz rfl rfl) (.cons (.frz rfl rfl) .nil))) .nil) rfl) (XQ.ret2 hF noR rfl (RV.cellAll rfl rfl (.prm (.one _ _) (.prm (.one _ _) (.one _ _))) Try.isAgg28 Try.sizeOf28) (RV.tmp rfl) .nil rfl)
      intro s183 r205 h
      refine W.seq ?_
      refine W.seq ?_
      obtain ⟨z207, hz207, h⟩ := bind_e h
      refine W.reg (σ' := ⟨[(0, .v (Enc.sl (Enc.int .u8)) a0), (2, .ptr 101 0), (4, .ptr 106 0), (5, .v (Enc.int .i64) s183.1), (10, .v (Enc.int .i64) s183.2.1), (70, .v Enc.bool (cm .lss s183.2.1 z207))], [(101, .box 28 [.v (Enc.int .i64) (0 : Int), .v (Enc.sl (Enc.int .i64)) ([] : (List Int)), .v (Enc.sl eBlk) ([] : (List Blk))]), (106, .box 28 [.v (Enc.int .i64) (ar .quo .i64 z2 (16 : Int)), .ref 130, .ref 160]), (130, .arr 3 (Enc.int .i64) x106.2), (160, .arr 56 eBlk s183.2.2)]⟩) (J.cons (.none rfl) (JO.move rfl) rfl rfl (J.cons (.none rfl) (JO.move rfl) rfl rfl (J.cons (.none rfl) (JO.idx hz207 rfl rfl Try.runUnderlying39 Try.sizeOf5) rfl rfl (J.cons (.none rfl) (JO.loadPst rfl Try.isAgg5 Try.sizeOf5) rfl rfl (J.cons (.none rfl) (JO.convUp Try.runUnderlying5 Try.runUnderlying3 rfl rfl) rfl rfl (J.cons (.none rfl) (JO.cmp rfl rfl rfl) rfl rfl (J.fin (Sw.Sub.mk id (.cons rfl (.of_eq rfl) (.cons rfl (.of_eq rfl) (.cons rfl (.of_eq rfl) (.cons rfl (.of_eq rfl) (.cons rfl (.of_eq rfl) (.cons rfl (.of_eq rfl) .nil)))))) (.box rfl (.cons (.of_eq rfl) (.cons (.of_eq rfl) (.cons (.of_eq rfl) .nil))) (.box rfl (.cons (.of_eq rfl) (.cons (.of_eq rfl) (.cons (.of_eq rfl) .nil))) (.arr rfl (.arr rfl .nil)))) rfl)))))))) ?_
      rcases Bool.eq_false_or_eq_true (cm .lss s183.2.1 z207) with hc208 | hc208
      · replace h := cond_t hc208 h
        refine W.condT rfl hc208 ?_
        refine W.skip ?_
        refine W.seq ?_
        refine W.block ?_
        refine W.seq ?_
        refine W.seq ?_
        refine W.reg (σ' := ⟨[(0, .v (Enc.sl (Enc.int .u8)) a0), (2, .ptr 101 0), (4, .ptr 106 0), (5, .v (Enc.int .i64) s183.1), (10, .v (Enc.int .i64) s183.2.1), (78, .v Enc.bool (cm .gtr (ar .add .i64 s183.1 (8 : Int)) (ar .sub .i64 (a0.length : Int) (4 : Int))))], [(101, .box 28 [.v (Enc.int .i64) (0 : Int), .v (Enc.sl (Enc.int .i64)) ([] : (List Int)), .v (Enc.sl eBlk) ([] : (List Blk))]), (106, .box 28 [.v (Enc.int .i64) (ar .quo .i64 z2 (16 : Int)), .ref 130, .ref 160]), (130, .arr 3 (Enc.int .i64) x106.2), (160, .arr 56 eBlk s183.2.2)]⟩) (J.cons (.none rfl) (JO.move rfl) rfl rfl (J.cons (.none rfl) (JO.arith rfl rfl rfl) rfl rfl (J.cons (.none rfl) (JO.move rfl) rfl rfl (J.cons (.none rfl) (JO.len rfl Try.runUnderlying39) rfl rfl (J.cons (.none rfl) (JO.arith rfl rfl rfl) rfl rfl (J.cons (.none rfl) (JO.cmp rfl rfl rfl) rfl rfl (J.fin (Sw.Sub.mk id (.cons rfl (.of_eq rfl) (.cons rfl (.of_eq rfl) (.cons rfl (.of_eq rfl) (.cons rfl (.of_eq rfl) (.cons rfl (.of_eq rfl) (.cons rfl (.of_eq rfl) .nil)))))) (.box rfl (.cons (.of_eq rfl) (.cons (.of_eq rfl) (.cons (.of_eq rfl) .nil))) (.box rfl (.cons (.of_eq rfl) (.cons (.of_eq rfl) (.cons (.of_eq rfl) .nil))) (.arr rfl (.arr rfl .nil)))) rfl)))))))) ?_
        rcases Bool.eq_false_or_eq_true (cm .gtr (ar .add .i64 s183.1 (8 : Int)) (ar .sub .i64 (a0.length : Int) (4 : Int))) with hc209 | hc209
        · replace h := cond_t hc209 h
          refine W.condT rfl hc209 ?_
          refine W.seq ?_
          refine W.reg (σ' := ⟨[(2, .ptr 101 0), (3, .v Enc.bool false)], [(101, .box 28 [.v (Enc.int .i64) (0 : Int), .ref 166, .ref 165]), (166, .arr 3 (Enc.int .i64) ([] : (List Int))), (165, .arr 56 eBlk ([] : (List Blk)))]⟩) (J.cons (.none rfl) (JO.buildN (new := [(166, .arr 3 (Enc.int .i64) ([] : (List Int))), (165, .arr 56 eBlk ([] : (List Blk)))]) built28 (.cons (Z.int .i64) (.ref 166 rfl (.ref 165 rfl .nil))) (.cons (.cons .nil)) rfl .nil) rfl rfl (J.mut (.none rfl) (JM.storeAgg rfl rfl rfl rfl rfl rfl Try.sizeOf28) (J.cons (.none rfl) (JO.assign rfl) rfl rfl (J.fin (Sw.Sub.mk id (.cons rfl (.of_eq rfl) (.cons rfl (.of_eq rfl) .nil)) (.box rfl (.cons (.of_eq rfl) (.cons (.of_eq rfl) (.cons (.of_eq rfl) .nil))) (.arr rfl (.arr rfl .nil))) rfl))))) ?_
          refine W.ret ?_
          refine XQ.ret ?_
          obtain rfl := Option.some.inj h
          refine XQ.lret fun ho => ?_
          obtain rfl := hr205 _ ho
          exact XQ.sub (σ' := ⟨[(2, .ptr 90 0), (3, .v Enc.bool false)], [(90, .box 28 [.v (Enc.int .i64) (0 : Int), .v (Enc.sl (Enc.int .i64)) ([] : (List Int)), .v (Enc.sl eBlk) ([] : (List Blk))])]⟩) (Sw.Sub.mk (rn [(90, 101)]) (.cons rfl (.of_eq rfl) (.cons rfl (.of_eq rfl) .nil)) (.box rfl (.cons (.of_eq rfl) (.cons (.frz rfl rfl) (.cons (.frz rfl rfl) .nil))) .nil) rfl) (XQ.ret2 hF noR rfl (RV.cellAll rfl rfl (.prm (.one _ _) (.prm (.one _ _) (.one _ _))) Try.isAgg28 Try.sizeOf28) (RV.tmp rfl) .nil rfl)
        · replace h := cond_f hc209 h
          refine W.condF rfl hc209 ?_
          refine W.skip ?_
          refine W.seq ?_
          refine W.reg (σ' := ⟨[(0, .v (Enc.sl (Enc.int .u8)) a0), (2, .ptr 101 0), (4, .ptr 106 0), (5, .v (Enc.int .i64) s183.1), (10, .v (Enc.int .i64) s183.2.1), (11, .ptr 167 0)], [(101, .box 28 [.v (Enc.int .i64) (0 : Int), .v (Enc.sl (Enc.int .i64)) ([] : (List Int)), .v (Enc.sl eBlk) ([] : (List Blk))]), (106, .box 28 [.v (Enc.int .i64) (ar .quo .i64 z2 (16 : Int)), .ref 130, .ref 160]), (167, .box 56 [.v eBlk zblk]), (130, .arr 3 (Enc.int .i64) x106.2), (160, .arr 56 eBlk s183.2.2)]⟩) (J.cons (.none rfl) (JO.zeroArr (e := eBlk) (v := zblk) Try.typeInfo56 Try.runUnderlying56 Try.typeInfo5 rfl rfl (Z.arr 8 (Z.int .u8))) rfl rfl (J.cons (.none rfl) (JO.alloc 167 Try.zeroValue56 rfl (.cons (Z.arr 8 (Z.int .u8)) .nil) rfl) rfl rfl (J.mut (.none rfl) (JM.store rfl rfl rfl rfl rfl rfl rfl Try.sizeOf56) (J.fin (Sw.Sub.mk id (.cons rfl (.of_eq rfl) (.cons rfl (.of_eq rfl) (.cons rfl (.of_eq rfl) (.cons rfl (.of_eq rfl) (.cons rfl (.of_eq rfl) (.cons rfl (.of_eq rfl) .nil)))))) (.box rfl (.cons (.of_eq rfl) (.cons (.of_eq rfl) (.cons (.of_eq rfl) .nil))) (.box rfl (.cons (.of_eq rfl) (.cons (.of_eq rfl) (.cons (.of_eq rfl) .nil))) (.box rfl (.cons (.of_eq rfl) .nil) (.arr rfl (.arr rfl .nil))))) rfl))))) ?_
          refine W.seq ?_
          refine W.seq ?_
          refine W.reg (σ' := ⟨[(0, .v (Enc.sl (Enc.int .u8)) a0), (2, .ptr 101 0), (4, .ptr 106 0), (5, .v (Enc.int .i64) s183.1), (10, .v (Enc.int .i64) s183.2.1), (11, .ptr 167 0), (12, .v (Enc.int .i64) (0 : Int))], [(101, .box 28 [.v (Enc.int .i64) (0 : Int), .v (Enc.sl (Enc.int .i64)) ([] : (List Int)), .v (Enc.sl eBlk) ([] : (List Blk))]), (106, .box 28 [.v (Enc.int .i64) (ar .quo .i64 z2 (16 : Int)), .ref 130, .ref 160]), (167, .box 56 [.v eBlk zblk]), (130, .arr 3 (Enc.int .i64) x106.2), (160, .arr 56 eBlk s183.2.2)]⟩) (J.cons (.none rfl) (JO.assign rfl) rfl rfl (J.fin (Sw.Sub.mk id (.cons rfl (.of_eq rfl) (.cons rfl (.of_eq rfl) (.cons rfl (.of_eq rfl) (.cons rfl (.of_eq rfl) (.cons rfl (.of_eq rfl) (.cons rfl (.of_eq rfl) (.cons rfl (.of_eq rfl) .nil))))))) (.box rfl (.cons (.of_eq rfl) (.cons (.of_eq rfl) (.cons (.of_eq rfl) .nil))) (.box rfl (.cons (.of_eq rfl) (.cons (.of_eq rfl) (.cons (.of_eq rfl) .nil))) (.box rfl (.cons (.of_eq rfl) .nil) (.arr rfl (.arr rfl .nil))))) rfl))) ?_
          obtain ⟨o222, ho222, hb222, hr222⟩ := lp_elim h
          refine W.lp (σs := fun s218 : Int × Blk => ⟨[(0, .v (Enc.sl (Enc.int .u8)) a0), (2, .ptr 101 0), (4, .ptr 106 0), (5, .v (Enc.int .i64) s183.1), (10, .v (Enc.int .i64) s183.2.1), (11, .ptr 167 0), (12, .v (Enc.int .i64) s218.1)], [(101, .box 28 [.v (Enc.int .i64) (0 : Int), .v (Enc.sl (Enc.int .i64)) ([] : (List Int)), .v (Enc.sl eBlk) ([] : (List Blk))]), (106, .box 28 [.v (Enc.int .i64) (ar .quo .i64 z2 (16 : Int)), .ref 130, .ref 160]), (167, .box 56 [.v eBlk s218.2]), (130, .arr 3 (Enc.int .i64) x106.2), (160, .arr 56 eBlk s183.2.2)]⟩) (fun x223 : Blk => ⟨[(0, .v (Enc.sl (Enc.int .u8)) a0), (2, .ptr 101 0), (4, .ptr 106 0), (5, .v (Enc.int .i64) s183.1), (10, .v (Enc.int .i64) s183.2.1), (11, .ptr 167 0)], [(101, .box 28 [.v (Enc.int .i64) (0 : Int), .v (Enc.sl (Enc.int .i64)) ([] : (List Int)), .v (Enc.sl eBlk) ([] : (List Blk))]), (106, .box 28 [.v (Enc.int .i64) (ar .quo .i64 z2 (16 : Int)), .ref 130, .ref 160]), (167, .box 56 [.v eBlk x223]), (130, .arr 3 (Enc.int .i64) x106.2), (160, .arr 56 eBlk s183.2.2)]⟩) ho222 (Sw.Sub.mk id (.cons rfl (.of_eq rfl) (.cons rfl (.of_eq rfl) (.cons rfl (.of_eq rfl) (.cons rfl (.of_eq rfl) (.cons rfl (.of_eq rfl) (.cons rfl (.of_eq rfl) (.cons rfl (.of_eq rfl) .nil))))))) (.box rfl (.cons (.of_eq rfl) (.cons (.of_eq rfl) (.cons (.of_eq rfl) .nil))) (.box rfl (.cons (.of_eq rfl) (.cons (.of_eq rfl) (.cons (.of_eq rfl) .nil))) (.box rfl (.cons (.of_eq rfl) .nil) (.arr rfl (.arr rfl .nil))))) rfl) ?_ ?_
          · intro x223 hy
            have h := hb222 _ hy
            refine W.seq ?_
            refine W.reg (σ' := ⟨[(0, .v (Enc.sl (Enc.int .u8)) a0), (2, .ptr 101 0), (4, .ptr 106 0), (5, .v (Enc.int .i64) (ar .add .i64 s183.1 (8 : Int))), (10, .v (Enc.int .i64) s183.2.1), (11, .ptr 167 0)], [(101, .box 28 [.v (Enc.int .i64) (0 : Int), .v (Enc.sl (Enc.int .i64)) ([] : (List Int)), .v (Enc.sl eBlk) ([] : (List Blk))]), (106, .box 28 [.v (Enc.int .i64) (ar .quo .i64 z2 (16 : Int)), .ref 130, .ref 160]), (167, .box 56 [.v eBlk x223]), (130, .arr 3 (Enc.int .i64) x106.2), (160, .arr 56 eBlk s183.2.2)]⟩) (J.cons (.none rfl) (JO.move rfl) rfl rfl (J.cons (.none rfl) (JO.arith rfl rfl rfl) rfl rfl (J.cons (.none rfl) (JO.assign rfl) rfl rfl (J.fin (Sw.Sub.mk id (.cons rfl (.of_eq rfl) (.cons rfl (.of_eq rfl) (.cons rfl (.of_eq rfl) (.cons rfl (.of_eq rfl) (.cons rfl (.of_eq rfl) (.cons rfl (.of_eq rfl) .nil)))))) (.box rfl (.cons (.of_eq rfl) (.cons (.of_eq rfl) (.cons (.of_eq rfl) .nil))) (.box rfl (.cons (.of_eq rfl) (.cons (.of_eq rfl) (.cons (.of_eq rfl) .nil))) (.box rfl (.cons (.of_eq rfl) .nil) (.arr rfl (.arr rfl .nil))))) rfl))))) ?_
            obtain ⟨v227, hv227, h⟩ := bind_e h
            refine W.reg (σ' := ⟨[(0, .v (Enc.sl (Enc.int .u8)) a0), (2, .ptr 101 0), (4, .ptr 106 0), (5, .v (Enc.int .i64) (ar .add .i64 s183.1 (8 : Int))), (10, .v (Enc.int .i64) s183.2.1)], [(101, .box 28 [.v (Enc.int .i64) (0 : Int), .v (Enc.sl (Enc.int .i64)) ([] : (List Int)), .v (Enc.sl eBlk) ([] : (List Blk))]), (106, .box 28 [.v (Enc.int .i64) (ar .quo .i64 z2 (16 : Int)), .ref 130, .ref 168]), (130, .arr 3 (Enc.int .i64) x106.2), (168, .arr 56 eBlk v227)]⟩) (J.cons (.none rfl) (JO.fieldPtr 2 rfl Try.runUnderlying28 rfl Try.sizeOf26 rfl rfl) rfl rfl (J.cons (.none rfl) (JO.load rfl rfl rfl Try.isAgg26 Try.sizeOf26) rfl rfl (J.cons (.none rfl) (JO.load rfl rfl rfl Try.isAgg56 Try.sizeOf56) rfl rfl (J.cons (.none rfl) (JO.lit (e := eBlk) Try.runUnderlying26 Try.sizeOf56 Try.zeroValue56 rfl rfl rfl rfl (.cons (.dir rfl) .nil)) rfl rfl (J.mut (.none rfl) (JM.append 168 hv227 rfl rfl (.sl rfl) Try.runUnderlying26 Try.typeInfo56 Try.sizeOf56 rfl rfl rfl rfl rfl) (J.cons (.none rfl) (JO.fieldPtr 2 rfl Try.runUnderlying28 rfl Try.sizeOf26 rfl rfl) rfl rfl (J.mut (.none rfl) (JM.store rfl rfl rfl rfl rfl rfl rfl Try.sizeOf26) (J.fin (Sw.Sub.mk id (.cons rfl (.of_eq rfl) (.cons rfl (.of_eq rfl) (.cons rfl (.of_eq rfl) (.cons rfl (.of_eq rfl) (.cons rfl (.of_eq rfl) .nil))))) (.box rfl (.cons (.of_eq rfl) (.cons (.of_eq rfl) (.cons (.of_eq rfl) .nil))) (.box rfl (.cons (.of_eq rfl) (.cons (.of_eq rfl) (.cons (.of_eq rfl) .nil))) (.arr rfl (.arr rfl .nil)))) rfl))))))))) ?_
            refine W.fall ?_
            refine W.reg (σ' := ⟨[(0, .v (Enc.sl (Enc.int .u8)) a0), (2, .ptr 101 0), (4, .ptr 106 0), (5, .v (Enc.int .i64) (ar .add .i64 s183.1 (8 : Int))), (10, .v (Enc.int .i64) (ar .add .i64 s183.2.1 (1 : Int)))], [(101, .box 28 [.v (Enc.int .i64) (0 : Int), .v (Enc.sl (Enc.int .i64)) ([] : (List Int)), .v (Enc.sl eBlk) ([] : (List Blk))]), (106, .box 28 [.v (Enc.int .i64) (ar .quo .i64 z2 (16 : Int)), .ref 130, .ref 168]), (130, .arr 3 (Enc.int .i64) x106.2), (168, .arr 56 eBlk v227)]⟩) (J.cons (.none rfl) (JO.move rfl) rfl rfl (J.cons (.none rfl) (JO.arith rfl rfl rfl) rfl rfl (J.cons (.none rfl) (JO.assign rfl) rfl rfl (J.fin (Sw.Sub.mk id (.cons rfl (.of_eq rfl) (.cons rfl (.of_eq rfl) (.cons rfl (.of_eq rfl) (.cons rfl (.of_eq rfl) (.cons rfl (.of_eq rfl) .nil))))) (.box rfl (.cons (.of_eq rfl) (.cons (.of_eq rfl) (.cons (.of_eq rfl) .nil))) (.box rfl (.cons (.of_eq rfl) (.cons (.of_eq rfl) (.cons (.of_eq rfl) .nil))) (.arr rfl (.arr rfl .nil)))) rfl))))) ?_
            obtain rfl := Option.some.inj h
            exact W.next (Sw.Sub.mk (rn [(101, 101), (106, 106), (160, 168), (130, 130)]) (.cons rfl (.of_eq rfl) (.cons rfl (.of_eq rfl) (.cons rfl (.of_eq rfl) (.cons rfl (.of_eq rfl) (.cons rfl (.of_eq rfl) .nil))))) (.box rfl (.cons (.of_eq rfl) (.cons (.of_eq rfl) (.cons (.of_eq rfl) .nil))) (.box rfl (.cons (.of_eq rfl) (.cons (.of_eq rfl) (.cons (.of_eq rfl) .nil))) (.arr rfl (.arr rfl .nil)))) rfl)
          intro s218 r222 h
          refine W.seq ?_
          refine W.seq ?_
          refine W.reg (σ' := ⟨[(0, .v (Enc.sl (Enc.int .u8)) a0), (2, .ptr 101 0), (4, .ptr 106 0), (5, .v (Enc.int .i64) s183.1), (10, .v (Enc.int .i64) s183.2.1), (11, .ptr 167 0), (12, .v (Enc.int .i64) s218.1), (82, .v Enc.bool (cm .lss s218.1 (8 : Int)))], [(101, .box 28 [.v (Enc.int .i64) (0 : Int), .v (Enc.sl (Enc.int .i64)) ([] : (List Int)), .v (Enc.sl eBlk) ([] : (List Blk))]), (106, .box 28 [.v (Enc.int .i64) (ar .quo .i64 z2 (16 : Int)), .ref 130, .ref 160]), (167, .box 56 [.v eBlk s218.2]), (130, .arr 3 (Enc.int .i64) x106.2), (160, .arr 56 eBlk s183.2.2)]⟩) (J.cons (.none rfl) (JO.move rfl) rfl rfl (J.cons (.none rfl) (JO.cmp rfl rfl rfl) rfl rfl (J.fin (Sw.Sub.mk id (.cons rfl (.of_eq rfl) (.cons rfl (.of_eq rfl) (.cons rfl (.of_eq rfl) (.cons rfl (.of_eq rfl) (.cons rfl (.of_eq rfl) (.cons rfl (.of_eq rfl) (.cons rfl (.of_eq rfl) (.cons rfl (.of_eq rfl) .nil)))))))) (.box rfl (.cons (.of_eq rfl) (.cons (.of_eq rfl) (.cons (.of_eq rfl) .nil))) (.box rfl (.cons (.of_eq rfl) (.cons (.of_eq rfl) (.cons (.of_eq rfl) .nil))) (.box rfl (.cons (.of_eq rfl) .nil) (.arr rfl (.arr rfl .nil))))) rfl)))) ?_
          rcases Bool.eq_false_or_eq_true (cm .lss s218.1 (8 : Int)) with hc224 | hc224
          · replace h := cond_t hc224 h
            refine W.condT rfl hc224 ?_
            refine W.skip ?_
            refine W.seq ?_
            refine W.block ?_
            obtain ⟨z225, hz225, h⟩ := bind_e h
            obtain ⟨z226, hz226, h⟩ := bind_e h
            refine W.reg (σ' := ⟨[(0, .v (Enc.sl (Enc.int .u8)) a0), (2, .ptr 101 0), (4, .ptr 106 0), (5, .v (Enc.int .i64) s183.1), (10, .v (Enc.int .i64) s183.2.1), (11, .ptr 167 0), (12, .v (Enc.int .i64) s218.1)], [(101, .box 28 [.v (Enc.int .i64) (0 : Int), .v (Enc.sl (Enc.int .i64)) ([] : (List Int)), .v (Enc.sl eBlk) ([] : (List Blk))]), (106, .box 28 [.v (Enc.int .i64) (ar .quo .i64 z2 (16 : Int)), .ref 130, .ref 160]), (167, .box 56 [.v eBlk (List.set s218.2 (Int.toNat s218.1) z225)]), (130, .arr 3 (Enc.int .i64) x106.2), (160, .arr 56 eBlk s183.2.2)]⟩) (J.cons (.none rfl) (JO.move rfl) rfl rfl (J.cons (.none rfl) (JO.move rfl) rfl rfl (J.cons (.none rfl) (JO.move rfl) rfl rfl (J.cons (.none rfl) (JO.move rfl) rfl rfl (J.cons (.none rfl) (JO.arith rfl rfl rfl) rfl rfl (J.cons (.none rfl) (JO.idx hz225 rfl rfl Try.runUnderlying39 Try.sizeOf5) rfl rfl (J.cons (.none rfl) (JO.loadPst rfl Try.isAgg5 Try.sizeOf5) rfl rfl (J.cons (.none rfl) (JO.idxBox hz226 rfl rfl rfl rfl Try.runUnderlying56 Try.sizeOf5) rfl rfl (J.mut (.none rfl) (JM.storePel (idx_some hz226).2.2 rfl rfl rfl rfl Try.sizeOf5) (J.fin (Sw.Sub.mk id (.cons rfl (.of_eq rfl) (.cons rfl (.of_eq rfl) (.cons rfl (.of_eq rfl) (.cons rfl (.of_eq rfl) (.cons rfl (.of_eq rfl) (.cons rfl (.of_eq rfl) (.cons rfl (.of_eq rfl) .nil))))))) (.box rfl (.cons (.of_eq rfl) (.cons (.of_eq rfl) (.cons (.of_eq rfl) .nil))) (.box rfl (.cons (.of_eq rfl) (.cons (.of_eq rfl) (.cons (.of_eq rfl) .nil))) (.box rfl (.cons (.of_eq rfl) .nil) (.arr rfl (.arr rfl .nil))))) rfl))))))))))) ?_
            refine W.fall ?_
            refine W.reg (σ' := ⟨[(0, .v (Enc.sl (Enc.int .u8)) a0), (2, .ptr 101 0), (4, .ptr 106 0), (5, .v (Enc.int .i64) s183.1), (10, .v (Enc.int .i64) s183.2.1), (11, .ptr 167 0), (12, .v (Enc.int .i64) (ar .add .i64 s218.1 (1 : Int)))], [(101, .box 28 [.v (Enc.int .i64) (0 : Int), .v (Enc.sl (Enc.int .i64)) ([] : (List Int)), .v (Enc.sl eBlk) ([] : (List Blk))]), (106, .box 28 [.v (Enc.int .i64) (ar .quo .i64 z2 (16 : Int)), .ref 130, .ref 160]), (167, .box 56 [.v eBlk (List.set s218.2 (Int.toNat s218.1) z225)]), (130, .arr 3 (Enc.int .i64) x106.2), (160, .arr 56 eBlk s183.2.2)]⟩) (J.cons (.none rfl) (JO.move rfl) rfl rfl (J.cons (.none rfl) (JO.arith rfl rfl rfl) rfl rfl (J.cons (.none rfl) (JO.assign rfl) rfl rfl (J.fin (Sw.Sub.mk id (.cons rfl (.of_eq rfl) (.cons rfl (.of_eq rfl) (.cons rfl (.of_eq rfl) (.cons rfl (.of_eq rfl) (.cons rfl (.of_eq rfl) (.cons rfl (.of_eq rfl) (.cons rfl (.of_eq rfl) .nil))))))) (.box rfl (.cons (.of_eq rfl) (.cons (.of_eq rfl) (.cons (.of_eq rfl) .nil))) (.box rfl (.cons (.of_eq rfl) (.cons (.of_eq rfl) (.cons (.of_eq rfl) .nil))) (.box rfl (.cons (.of_eq rfl) .nil) (.arr rfl (.arr rfl .nil))))) rfl))))) ?_
            obtain rfl := Option.some.inj h
            exact W.next (Sw.Sub.mk id (.cons rfl (.of_eq rfl) (.cons rfl (.of_eq rfl) (.cons rfl (.of_eq rfl) (.cons rfl (.of_eq rfl) (.cons rfl (.of_eq rfl) (.cons rfl (.of_eq rfl) (.cons rfl (.of_eq rfl) .nil))))))) (.box rfl (.cons (.of_eq rfl) (.cons (.of_eq rfl) (.cons (.of_eq rfl) .nil))) (.box rfl (.cons (.of_eq rfl) (.cons (.of_eq rfl) (.cons (.of_eq rfl) .nil))) (.box rfl (.cons (.of_eq rfl) .nil) (.arr rfl (.arr rfl .nil))))) rfl)
          · replace h := cond_f hc224 h
            refine W.condF rfl hc224 ?_
            refine W.exit ?_
            obtain rfl := Option.some.inj h
            exact XQ.brk (Sw.Sub.mk id (.cons rfl (.of_eq rfl) (.cons rfl (.of_eq rfl) (.cons rfl (.of_eq rfl) (.cons rfl (.of_eq rfl) (.cons rfl (.of_eq rfl) (.cons rfl (.of_eq rfl) .nil)))))) (.box rfl (.cons (.of_eq rfl) (.cons (.of_eq rfl) (.cons (.of_eq rfl) .nil))) (.box rfl (.cons (.of_eq rfl) (.cons (.of_eq rfl) (.cons (.of_eq rfl) .nil))) (.box rfl (.cons (.of_eq rfl) .nil) (.arr rfl (.arr rfl .nil))))) rfl)
      · replace h := cond_f hc208 h
        refine W.condF rfl hc208 ?_
        refine W.exit ?_
        obtain rfl := Option.some.inj h
        exact XQ.brk (Sw.Sub.mk id (.cons rfl (.of_eq rfl) (.cons rfl (.of_eq rfl) (.cons rfl (.of_eq rfl) .nil))) (.box rfl (.cons (.of_eq rfl) (.cons (.of_eq rfl) (.cons (.of_eq rfl) .nil))) (.box rfl (.cons (.of_eq rfl) (.cons (.of_eq rfl) (.cons (.of_eq rfl) .nil))) (.arr rfl (.arr rfl .nil)))) rfl)
    intro s71 r105 h
    refine W.seq ?_
    refine W.seq ?_
    obtain ⟨z107, hz107, h⟩ := bind_e h
    refine W.reg (σ' := ⟨[(0, .v (Enc.sl (Enc.int .u8)) a0), (2, .ptr 101 0), (4, .ptr 106 0), (5, .v (Enc.int .i64) s71.1), (6, .v (Enc.int .i64) s71.2.1), (29, .v Enc.bool (cm .lss s71.2.1 (ar .rem .i64 z107 (16 : Int))))], [(101, .box 28 [.v (Enc.int .i64) (0 : Int), .v (Enc.sl (Enc.int .i64)) ([] : (List Int)), .v (Enc.sl eBlk) ([] : (List Blk))]), (106, .box 28 [.v (Enc.int .i64) (ar .quo .i64 z2 (16 : Int)), .ref 130, .ref 104]), (130, .arr 3 (Enc.int .i64) s71.2.2), (104, .arr 56 eBlk ([] : (List Blk)))]⟩) (J.cons (.none rfl) (JO.move rfl) rfl rfl (J.cons (.none rfl) (JO.move rfl) rfl rfl (J.cons (.none rfl) (JO.idx hz107 rfl rfl Try.runUnderlying39 Try.sizeOf5) rfl rfl (J.cons (.none rfl) (JO.loadPst rfl Try.isAgg5 Try.sizeOf5) rfl rfl (J.cons (.none rfl) (JO.convUp Try.runUnderlying5 Try.runUnderlying3 rfl rfl) rfl rfl (J.cons (.none rfl) (JO.div (.inr rfl) (by decide) rfl rfl) rfl rfl (J.cons (.none rfl) (JO.cmp rfl rfl rfl) rfl rfl (J.fin (Sw.Sub.mk id (.cons rfl (.of_eq rfl) (.cons rfl (.of_eq rfl) (.cons rfl (.of_eq rfl) (.cons rfl (.of_eq rfl) (.cons rfl (.of_eq rfl) (.cons rfl (.of_eq rfl) .nil)))))) (.box rfl (.cons (.of_eq rfl) (.cons (.of_eq rfl) (.cons (.of_eq rfl) .nil))) (.box rfl (.cons (.of_eq rfl) (.cons (.of_eq rfl) (.cons (.of_eq rfl) .nil))) (.arr rfl (.arr rfl .nil)))) rfl))))))))) ?_
    rcases Bool.eq_false_or_eq_true (cm .lss s71.2.1 (ar .rem .i64 z107 (16 : Int))) with hc108 | hc108
    · replace h := cond_t hc108 h
      refine W.condT rfl hc108 ?_
      refine W.skip ?_
      refine W.seq ?_
      refine W.block ?_
      refine W.seq ?_
      refine W.reg (σ' := ⟨[(0, .v (Enc.sl (Enc.int .u8)) a0), (2, .ptr 101 0), (4, .ptr 106 0), (5, .v (Enc.int .i64) s71.1), (6, .v (Enc.int .i64) s71.2.1), (7, .v (Enc.int .i64) (0 : Int))], [(101, .box 28 [.v (Enc.int .i64) (0 : Int), .v (Enc.sl (Enc.int .i64)) ([] : (List Int)), .v (Enc.sl eBlk) ([] : (List Blk))]), (106, .box 28 [.v (Enc.int .i64) (ar .quo .i64 z2 (16 : Int)), .ref 130, .ref 104]), (130, .arr 3 (Enc.int .i64) s71.2.2), (104, .arr 56 eBlk ([] : (List Blk)))]⟩) (J.cons (.none rfl) (JO.assign rfl) rfl rfl (J.fin (Sw.Sub.mk id (.cons rfl (.of_eq rfl) (.cons rfl (.of_eq rfl) (.cons rfl (.of_eq rfl) (.cons rfl (.of_eq rfl) (.cons rfl (.of_eq rfl) (.cons rfl (.of_eq rfl) .nil)))))) (.box rfl (.cons (.of_eq rfl) (.cons (.of_eq rfl) (.cons (.of_eq rfl) .nil))) (.box rfl (.cons (.of_eq rfl) (.cons (.of_eq rfl) (.cons (.of_eq rfl) .nil))) (.arr rfl (.arr rfl .nil)))) rfl))) ?_
      refine W.seq ?_
      refine W.reg (σ' := ⟨[(0, .v (Enc.sl (Enc.int .u8)) a0), (2, .ptr 101 0), (4, .ptr 106 0), (5, .v (Enc.int .i64) s71.1), (6, .v (Enc.int .i64) s71.2.1), (7, .v (Enc.int .i64) (0 : Int)), (8, .v (Enc.int .i64) (1 : Int))], [(101, .box 28 [.v (Enc.int .i64) (0 : Int), .v (Enc.sl (Enc.int .i64)) ([] : (List Int)), .v (Enc.sl eBlk) ([] : (List Blk))]), (106, .box 28 [.v (Enc.int .i64) (ar .quo .i64 z2 (16 : Int)), .ref 130, .ref 104]), (130, .arr 3 (Enc.int .i64) s71.2.2), (104, .arr 56 eBlk ([] : (List Blk)))]⟩) (J.cons (.none rfl) (JO.assign rfl) rfl rfl (J.fin (Sw.Sub.mk id (.cons rfl (.of_eq rfl) (.cons rfl (.of_eq rfl) (.cons rfl (.of_eq rfl) (.cons rfl (.of_eq rfl) (.cons rfl (.of_eq rfl) (.cons rfl (.of_eq rfl) (.cons rfl (.of_eq rfl) .nil))))))) (.box rfl (.cons (.of_eq rfl) (.cons (.of_eq rfl) (.cons (.of_eq rfl) .nil))) (.box rfl (.cons (.of_eq rfl) (.cons (.of_eq rfl) (.cons (.of_eq rfl) .nil))) (.arr rfl (.arr rfl .nil)))) rfl))) ?_
      refine W.seq ?_
      obtain ⟨o130, ho130, hb130, hr130⟩ := lp_elim h
      refine W.lp (σs := fun s123 : Int × Int × Int => ⟨[(0, .v (Enc.sl (Enc.int .u8)) a0), (2, .ptr 101 0), (4, .ptr 106 0), (5, .v (Enc.int .i64) s123.1), (6, .v (Enc.int .i64) s71.2.1), (7, .v (Enc.int .i64) s123.2.1), (8, .v (Enc.int .i64) s123.2.2)], [(101, .box 28 [.v (Enc.int .i64) (0 : Int), .v (Enc.sl (Enc.int .i64)) ([] : (List Int)), .v (Enc.sl eBlk) ([] : (List Blk))]), (106, .box 28 [.v (Enc.int .i64) (ar .quo .i64 z2 (16 : Int)), .ref 130, .ref 104]), (130, .arr 3 (Enc.int .i64) s71.2.2), (104, .arr 56 eBlk ([] : (List Blk)))]⟩) (fun x131 : Int × Int => ⟨[(0, .v (Enc.sl (Enc.int .u8)) a0), (2, .ptr 101 0), (4, .ptr 106 0), (5, .v (Enc.int .i64) x131.1), (6, .v (Enc.int .i64) s71.2.1), (7, .v (Enc.int .i64) x131.2)], [(101, .box 28 [.v (Enc.int .i64) (0 : Int), .v (Enc.sl (Enc.int .i64)) ([] : (List Int)), .v (Enc.sl eBlk) ([] : (List Blk))]), (106, .box 28 [.v (Enc.int .i64) (ar .quo .i64 z2 (16 : Int)), .ref 130, .ref 104]), (130, .arr 3 (Enc.int .i64) s71.2.2), (104, .arr 56 eBlk ([] : (List Blk)))]⟩) ho130 (Sw.Sub.mk id (.cons rfl (.of_eq rfl) (.cons rfl (.of_eq rfl) (.cons rfl (.of_eq rfl) (.cons rfl (.of_eq rfl) (.cons rfl (.of_eq rfl) (.cons rfl (.of_eq rfl) (.cons rfl (.of_eq rfl) .nil))))))) (.box rfl (.cons (.of_eq rfl) (.cons (.of_eq rfl) (.cons (.of_eq rfl) .nil))) (.box rfl (.cons (.of_eq rfl) (.cons (.of_eq rfl) (.cons (.of_eq rfl) .nil))) (.arr rfl (.arr rfl .nil)))) rfl) ?_ ?_
      · intro x131 hy
        have h := hb130 _ hy
        obtain ⟨v138, hv138, h⟩ := bind_e h
        refine W.reg (σ' := ⟨[(0, .v (Enc.sl (Enc.int .u8)) a0), (2, .ptr 101 0), (4, .ptr 106 0), (5, .v (Enc.int .i64) x131.1), (6, .v (Enc.int .i64) s71.2.1)], [(101, .box 28 [.v (Enc.int .i64) (0 : Int), .v (Enc.sl (Enc.int .i64)) ([] : (List Int)), .v (Enc.sl eBlk) ([] : (List Blk))]), (106, .box 28 [.v (Enc.int .i64) (ar .quo .i64 z2 (16 : Int)), .ref 148, .ref 104]), (148, .arr 3 (Enc.int .i64) v138), (104, .arr 56 eBlk ([] : (List Blk)))]⟩) (J.cons (.none rfl) (JO.fieldPtr 1 rfl Try.runUnderlying28 rfl Try.sizeOf25 rfl rfl) rfl rfl (J.cons (.none rfl) (JO.load rfl rfl rfl Try.isAgg25 Try.sizeOf25) rfl rfl (J.cons (.none rfl) (JO.move rfl) rfl rfl (J.cons (.none rfl) (JO.lit (e := (Enc.int .i64)) Try.runUnderlying25 Try.sizeOf3 Try.zeroValue3 rfl rfl rfl rfl (.cons (.dir rfl) .nil)) rfl rfl (J.mut (.none rfl) (JM.append 148 hv138 rfl rfl (.sl rfl) Try.runUnderlying25 Try.typeInfo3 Try.sizeOf3 rfl rfl rfl rfl rfl) (J.cons (.none rfl) (JO.fieldPtr 1 rfl Try.runUnderlying28 rfl Try.sizeOf25 rfl rfl) rfl rfl (J.mut (.none rfl) (JM.store rfl rfl rfl rfl rfl rfl rfl Try.sizeOf25) (J.fin (Sw.Sub.mk id (.cons rfl (.of_eq rfl) (.cons rfl (.of_eq rfl) (.cons rfl (.of_eq rfl) (.cons rfl (.of_eq rfl) (.cons rfl (.of_eq rfl) .nil))))) (.box rfl (.cons (.of_eq rfl) (.cons (.of_eq rfl) (.cons (.of_eq rfl) .nil))) (.box rfl (.cons (.of_eq rfl) (.cons (.of_eq rfl) (.cons (.of_eq rfl) .nil))) (.arr rfl (.arr rfl .nil)))) rfl))))))))) ?_
        refine W.fall ?_
        refine W.reg (σ' := ⟨[(0, .v (Enc.sl (Enc.int .u8)) a0), (2, .ptr 101 0), (4, .ptr 106 0), (5, .v (Enc.int .i64) x131.1), (6, .v (Enc.int .i64) (ar .add .i64 s71.2.1 (1 : Int)))], [(101, .box 28 [.v (Enc.int .i64) (0 : Int), .v (Enc.sl (Enc.int .i64)) ([] : (List Int)), .v (Enc.sl eBlk) ([] : (List Blk))]), (106, .box 28 [.v (Enc.int .i64) (ar .quo .i64 z2 (16 : Int)), .ref 148, .ref 104]), (148, .arr 3 (Enc.int .i64) v138), (104, .arr 56 eBlk ([] : (List Blk)))]⟩) (J.cons (.none rfl) (JO.move rfl) rfl rfl (J.cons (.none rfl) (JO.arith rfl rfl rfl) rfl rfl (J.cons (.none rfl) (JO.assign rfl) rfl rfl (J.fin (Sw.Sub.mk id (.cons rfl (.of_eq rfl) (.cons rfl (.of_eq rfl) (.cons rfl (.of_eq rfl) (.cons rfl (.of_eq rfl) (.cons rfl (.of_eq rfl) .nil))))) (.box rfl (.cons (.of_eq rfl) (.cons (.of_eq rfl) (.cons (.of_eq rfl) .nil))) (.box rfl (.cons (.of_eq rfl) (.cons (.of_eq rfl) (.cons (.of_eq rfl) .nil))) (.arr rfl (.arr rfl .nil)))) rfl))))) ?_
        obtain rfl := Option.some.inj h
        exact W.next (Sw.Sub.mk (rn [(101, 101), (106, 106), (104, 104), (130, 148)]) (.cons rfl (.of_eq rfl) (.cons rfl (.of_eq rfl) (.cons rfl (.of_eq rfl) (.cons rfl (.of_eq rfl) (.cons rfl (.of_eq rfl) .nil))))) (.box rfl (.cons (.of_eq rfl) (.cons (.of_eq rfl) (.cons (.of_eq rfl) .nil))) (.box rfl (.cons (.of_eq rfl) (.cons (.of_eq rfl) (.cons (.of_eq rfl) .nil))) (.arr rfl (.arr rfl .nil)))) rfl)
      intro s123 r130 h
      refine W.block ?_
      refine W.seq ?_
      refine W.seq ?_
      obtain ⟨x133, hx, h⟩ := bind_e h
      refine W.reg (σ' := ⟨[(0, .v (Enc.sl (Enc.int .u8)) a0), (2, .ptr 101 0), (4, .ptr 106 0), (5, .v (Enc.int .i64) s123.1), (6, .v (Enc.int .i64) s71.2.1), (7, .v (Enc.int .i64) s123.2.1), (8, .v (Enc.int .i64) s123.2.2), (40, .v Enc.bool x133)], [(101, .box 28 [.v (Enc.int .i64) (0 : Int), .v (Enc.sl (Enc.int .i64)) ([] : (List Int)), .v (Enc.sl eBlk) ([] : (List Blk))]), (106, .box 28 [.v (Enc.int .i64) (ar .quo .i64 z2 (16 : Int)), .ref 130, .ref 104]), (130, .arr 3 (Enc.int .i64) s71.2.2), (104, .arr 56 eBlk ([] : (List Blk)))]⟩) ?_ ?_
      · rcases Bool.eq_false_or_eq_true (cm .geq s123.1 (ar .sub .i64 (a0.length : Int) (4 : Int))) with hc134 | hc134
        · replace hx := cond_t hc134 hx
          obtain rfl := Option.some.inj hx
          exact (J.cons (.none rfl) (JO.move rfl) rfl rfl (J.cons (.none rfl) (JO.move rfl) rfl rfl (J.cons (.none rfl) (JO.len rfl Try.runUnderlying39) rfl rfl (J.cons (.none rfl) (JO.arith rfl rfl rfl) rfl rfl (J.cons (.none rfl) (JO.cmp rfl rfl rfl) rfl rfl (J.cons (.none rfl) (JO.move rfl) rfl rfl (J.left (GK.unmet 37 rfl rfl rfl hc134) rfl (J.left (GK.unmet 37 rfl rfl rfl hc134) rfl (J.cons (.none rfl) (JO.pT hc134 rfl rfl) rfl rfl (J.fin (Sw.Sub.mk id (.cons rfl (.of_eq rfl) (.cons rfl (.of_eq rfl) (.cons rfl (.of_eq rfl) (.cons rfl (.of_eq rfl) (.cons rfl (.of_eq rfl) (.cons rfl (.of_eq rfl) (.cons rfl (.of_eq rfl) (.cons rfl (.of_eq rfl) .nil)))))))) (.box rfl (.cons (.of_eq rfl) (.cons (.of_eq rfl) (.cons (.of_eq rfl) .nil))) (.box rfl (.cons (.of_eq rfl) (.cons (.of_eq rfl) (.cons (.of_eq rfl) .nil))) (.arr rfl (.arr rfl .nil)))) rfl)))))))))))
        · replace hx := cond_f hc134 hx
          obtain rfl := Option.some.inj hx
          exact (J.cons (.none rfl) (JO.move rfl) rfl rfl (J.cons (.none rfl) (JO.move rfl) rfl rfl (J.cons (.none rfl) (JO.len rfl Try.runUnderlying39) rfl rfl (J.cons (.none rfl) (JO.arith rfl rfl rfl) rfl rfl (J.cons (.none rfl) (JO.cmp rfl rfl rfl) rfl rfl (J.cons (.none rfl) (JO.move rfl) rfl rfl (J.cons (GK.met 37 rfl rfl rfl hc134) (JO.move rfl) rfl rfl (J.cons (GK.met 37 rfl rfl rfl hc134) (JO.cmp rfl rfl rfl) rfl rfl (J.cons (.none rfl) (JO.pF hc134 rfl rfl) rfl rfl (J.fin (Sw.Sub.mk id (.cons rfl (.of_eq rfl) (.cons rfl (.of_eq rfl) (.cons rfl (.of_eq rfl) (.cons rfl (.of_eq rfl) (.cons rfl (.of_eq rfl) (.cons rfl (.of_eq rfl) (.cons rfl (.of_eq rfl) (.cons rfl (.of_eq rfl) .nil)))))))) (.box rfl (.cons (.of_eq rfl) (.cons (.of_eq rfl) (.cons (.of_eq rfl) .nil))) (.box rfl (.cons (.of_eq rfl) (.cons (.of_eq rfl) (.cons (.of_eq rfl) .nil))) (.arr rfl (.arr rfl .nil)))) rfl)))))))))))
      rcases Bool.eq_false_or_eq_true x133 with hc135 | hc135
      · replace h := cond_t hc135 h
        refine W.condT rfl hc135 ?_
        refine W.seq ?_
        refine W.reg (σ' := ⟨[(2, .ptr 101 0), (3, .v Enc.bool false)], [(101, .box 28 [.v (Enc.int .i64) (0 : Int), .ref 147, .ref 146]), (147, .arr 3 (Enc.int .i64) ([] : (List Int))), (146, .arr 56 eBlk ([] : (List Blk)))]⟩) (J.cons (.none rfl) (JO.buildN (new := [(147, .arr 3 (Enc.int .i64) ([] : (List Int))), (146, .arr 56 eBlk ([] : (List Blk)))]) built28 (.cons (Z.int .i64) (.ref 147 rfl (.ref 146 rfl .nil))) (.cons (.cons .nil)) rfl .nil) rfl rfl (J.mut (.none rfl) (JM.storeAgg rfl rfl rfl rfl rfl rfl Try.sizeOf28) (J.cons (.none rfl) (JO.assign rfl) rfl rfl (J.fin (Sw.Sub.mk id (.cons rfl (.of_eq rfl) (.cons rfl (.of_eq rfl) .nil)) (.box rfl (.cons (.of_eq rfl) (.cons (.of_eq rfl) (.cons (.of_eq rfl) .nil))) (.arr rfl (.arr rfl .nil))) rfl))))) ?_
        refine W.ret ?_
        refine XQ.ret ?_
        obtain rfl := Option.some.inj h
        refine XQ.lret fun ho => ?_
        obtain rfl := hr130 _ ho
        refine XQ.ret ?_
        refine XQ.lret fun ho => ?_
        obtain rfl := hr105 _ ho
        exact XQ.sub (σ' := ⟨[(2, .ptr 90 0), (3, .v Enc.bool false)], [(90, .box 28 [.v (Enc.int .i64) (0 : Int), .v (Enc.sl (Enc.int .i64)) ([] : (List Int)), .v (Enc.sl eBlk) ([] : (List Blk))])]⟩) (Sw.Sub.mk (rn [(90, 101)]) (.cons rfl (.of_eq rfl) (.cons rfl (.of_eq rfl) .nil)) (.box rfl (.cons (.of_eq rfl) (.cons (.frz rfl rfl) (.cons (.frz rfl rfl) .nil))) .nil) rfl) (XQ.ret2 hF noR rfl (RV.cellAll rfl rfl (.prm (.one _ _) (.prm (.one _ _) (.one _ _))) Try.isAgg28 Try.sizeOf28) (RV.tmp rfl) .nil rfl)
      · replace h := cond_f hc135 h
        refine W.condF rfl hc135 ?_
        refine W.skip ?_
        refine W.seq ?_
        obtain ⟨z136, hz136, h⟩ := bind_e h
        refine W.reg (σ' := ⟨[(0, .v (Enc.sl (Enc.int .u8)) a0), (2, .ptr 101 0), (4, .ptr 106 0), (5, .v (Enc.int .i64) s123.1), (6, .v (Enc.int .i64) s71.2.1), (7, .v (Enc.int .i64) s123.2.1), (8, .v (Enc.int .i64) s123.2.2), (9, .v (Enc.int .i64) z136)], [(101, .box 28 [.v (Enc.int .i64) (0 : Int), .v (Enc.sl (Enc.int .i64)) ([] : (List Int)), .v (Enc.sl eBlk) ([] : (List Blk))]), (106, .box 28 [.v (Enc.int .i64) (ar .quo .i64 z2 (16 : Int)), .ref 130, .ref 104]), (130, .arr 3 (Enc.int .i64) s71.2.2), (104, .arr 56 eBlk ([] : (List Blk)))]⟩) (J.cons (.none rfl) (JO.move rfl) rfl rfl (J.cons (.none rfl) (JO.move rfl) rfl rfl (J.cons (.none rfl) (JO.idx hz136 rfl rfl Try.runUnderlying39 Try.sizeOf5) rfl rfl (J.cons (.none rfl) (JO.loadPst rfl Try.isAgg5 Try.sizeOf5) rfl rfl (J.cons (.none rfl) (JO.convUp Try.runUnderlying5 Try.runUnderlying3 rfl rfl) rfl rfl (J.cons (.none rfl) (JO.assign rfl) rfl rfl (J.fin (Sw.Sub.mk id (.cons rfl (.of_eq rfl) (.cons rfl (.of_eq rfl) (.cons rfl (.of_eq rfl) (.cons rfl (.of_eq rfl) (.cons rfl (.of_eq rfl) (.cons rfl (.of_eq rfl) (.cons rfl (.of_eq rfl) (.cons rfl (.of_eq rfl) .nil)))))))) (.box rfl (.cons (.of_eq rfl) (.cons (.of_eq rfl) (.cons (.of_eq rfl) .nil))) (.box rfl (.cons (.of_eq rfl) (.cons (.of_eq rfl) (.cons (.of_eq rfl) .nil))) (.arr rfl (.arr rfl .nil)))) rfl)))))))) ?_
        refine W.seq ?_
        refine W.reg (σ' := ⟨[(0, .v (Enc.sl (Enc.int .u8)) a0), (2, .ptr 101 0), (4, .ptr 106 0), (5, .v (Enc.int .i64) (ar .add .i64 s123.1 (1 : Int))), (6, .v (Enc.int .i64) s71.2.1), (7, .v (Enc.int .i64) s123.2.1), (8, .v (Enc.int .i64) s123.2.2), (9, .v (Enc.int .i64) z136)], [(101, .box 28 [.v (Enc.int .i64) (0 : Int), .v (Enc.sl (Enc.int .i64)) ([] : (List Int)), .v (Enc.sl eBlk) ([] : (List Blk))]), (106, .box 28 [.v (Enc.int .i64) (ar .quo .i64 z2 (16 : Int)), .ref 130, .ref 104]), (130, .arr 3 (Enc.int .i64) s71.2.2), (104, .arr 56 eBlk ([] : (List Blk)))]⟩) (J.cons (.none rfl) (JO.move rfl) rfl rfl (J.cons (.none rfl) (JO.arith rfl rfl rfl) rfl rfl (J.cons (.none rfl) (JO.assign rfl) rfl rfl (J.fin (Sw.Sub.mk id (.cons rfl (.of_eq rfl) (.cons rfl (.of_eq rfl) (.cons rfl (.of_eq rfl) (.cons rfl (.of_eq rfl) (.cons rfl (.of_eq rfl) (.cons rfl (.of_eq rfl) (.cons rfl (.of_eq rfl) (.cons rfl (.of_eq rfl) .nil)))))))) (.box rfl (.cons (.of_eq rfl) (.cons (.of_eq rfl) (.cons (.of_eq rfl) .nil))) (.box rfl (.cons (.of_eq rfl) (.cons (.of_eq rfl) (.cons (.of_eq rfl) .nil))) (.arr rfl (.arr rfl .nil)))) rfl))))) ?_
        refine W.seq ?_
        refine W.reg (σ' := ⟨[(0, .v (Enc.sl (Enc.int .u8)) a0), (2, .ptr 101 0), (4, .ptr 106 0), (5, .v (Enc.int .i64) (ar .add .i64 s123.1 (1 : Int))), (6, .v (Enc.int .i64) s71.2.1), (7, .v (Enc.int .i64) (ar .add .i64 s123.2.1 (ar .mul .i64 (ar .rem .i64 z136 (128 : Int)) s123.2.2))), (8, .v (Enc.int .i64) s123.2.2), (9, .v (Enc.int .i64) z136)], [(101, .box 28 [.v (Enc.int .i64) (0 : Int), .v (Enc.sl (Enc.int .i64)) ([] : (List Int)), .v (Enc.sl eBlk) ([] : (List Blk))]), (106, .box 28 [.v (Enc.int .i64) (ar .quo .i64 z2 (16 : Int)), .ref 130, .ref 104]), (130, .arr 3 (Enc.int .i64) s71.2.2), (104, .arr 56 eBlk ([] : (List Blk)))]⟩) (J.cons (.none rfl) (JO.move rfl) rfl rfl (J.cons (.none rfl) (JO.move rfl) rfl rfl (J.cons (.none rfl) (JO.div (.inr rfl) (by decide) rfl rfl) rfl rfl (J.cons (.none rfl) (JO.move rfl) rfl rfl (J.cons (.none rfl) (JO.arith rfl rfl rfl) rfl rfl (J.cons (.none rfl) (JO.arith rfl rfl rfl) rfl rfl (J.cons (.none rfl) (JO.assign rfl) rfl rfl (J.fin (Sw.Sub.mk id (.cons rfl (.of_eq rfl) (.cons rfl (.of_eq rfl) (.cons rfl (.of_eq rfl) (.cons rfl (.of_eq rfl) (.cons rfl (.of_eq rfl) (.cons rfl (.of_eq rfl) (.cons rfl (.of_eq rfl) (.cons rfl (.of_eq rfl) .nil)))))))) (.box rfl (.cons (.of_eq rfl) (.cons (.of_eq rfl) (.cons (.of_eq rfl) .nil))) (.box rfl (.cons (.of_eq rfl) (.cons (.of_eq rfl) (.cons (.of_eq rfl) .nil))) (.arr rfl (.arr rfl .nil)))) rfl))))))))) ?_
        refine W.seq ?_
        refine W.reg (σ' := ⟨[(0, .v (Enc.sl (Enc.int .u8)) a0), (2, .ptr 101 0), (4, .ptr 106 0), (5, .v (Enc.int .i64) (ar .add .i64 s123.1 (1 : Int))), (6, .v (Enc.int .i64) s71.2.1), (7, .v (Enc.int .i64) (ar .add .i64 s123.2.1 (ar .mul .i64 (ar .rem .i64 z136 (128 : Int)) s123.2.2))), (8, .v (Enc.int .i64) (ar .mul .i64 s123.2.2 (128 : Int))), (9, .v (Enc.int .i64) z136)], [(101, .box 28 [.v (Enc.int .i64) (0 : Int), .v (Enc.sl (Enc.int .i64)) ([] : (List Int)), .v (Enc.sl eBlk) ([] : (List Blk))]), (106, .box 28 [.v (Enc.int .i64) (ar .quo .i64 z2 (16 : Int)), .ref 130, .ref 104]), (130, .arr 3 (Enc.int .i64) s71.2.2), (104, .arr 56 eBlk ([] : (List Blk)))]⟩) (J.cons (.none rfl) (JO.move rfl) rfl rfl (J.cons (.none rfl) (JO.arith rfl rfl rfl) rfl rfl (J.cons (.none rfl) (JO.assign rfl) rfl rfl (J.fin (Sw.Sub.mk id (.cons rfl (.of_eq rfl) (.cons rfl (.of_eq rfl) (.cons rfl (.of_eq rfl) (.cons rfl (.of_eq rfl) (.cons rfl (.of_eq rfl) (.cons rfl (.of_eq rfl) (.cons rfl (.of_eq rfl) (.cons rfl (.of_eq rfl) .nil)))))))) (.box rfl (.cons (.of_eq rfl) (.cons (.of_eq rfl) (.cons (.of_eq rfl) .nil))) (.box rfl (.cons (.of_eq rfl) (.cons (.of_eq rfl) (.cons (.of_eq rfl) .nil))) (.arr rfl (.arr rfl .nil)))) rfl))))) ?_
        refine W.seq ?_
        refine W.reg (σ' := ⟨[(0, .v (Enc.sl (Enc.int .u8)) a0), (2, .ptr 101 0), (4, .ptr 106 0), (5, .v (Enc.int .i64) (ar .add .i64 s123.1 (1 : Int))), (6, .v (Enc.int .i64) s71.2.1), (7, .v (Enc.int .i64) (ar .add .i64 s123.2.1 (ar .mul .i64 (ar .rem .i64 z136 (128 : Int)) s123.2.2))), (8, .v (Enc.int .i64) (ar .mul .i64 s123.2.2 (128 : Int))), (58, .v Enc.bool (cm .lss z136 (128 : Int)))], [(101, .box 28 [.v (Enc.int .i64) (0 : Int), .v (Enc.sl (Enc.int .i64)) ([] : (List Int)), .v (Enc.sl eBlk) ([] : (List Blk))]), (106, .box 28 [.v (Enc.int .i64) (ar .quo .i64 z2 (16 : Int)), .ref 130, .ref 104]), (130, .arr 3 (Enc.int .i64) s71.2.2), (104, .arr 56 eBlk ([] : (List Blk)))]⟩) (J.cons (.none rfl) (JO.move rfl) rfl rfl (J.cons (.none rfl) (JO.cmp rfl rfl rfl) rfl rfl (J.fin (Sw.Sub.mk id (.cons rfl (.of_eq rfl) (.cons rfl (.of_eq rfl) (.cons rfl (.of_eq rfl) (.cons rfl (.of_eq rfl) (.cons rfl (.of_eq rfl) (.cons rfl (.of_eq rfl) (.cons rfl (.of_eq rfl) (.cons rfl (.of_eq rfl) .nil)))))))) (.box rfl (.cons (.of_eq rfl) (.cons (.of_eq rfl) (.cons (.of_eq rfl) .nil))) (.box rfl (.cons (.of_eq rfl) (.cons (.of_eq rfl) (.cons (.of_eq rfl) .nil))) (.arr rfl (.arr rfl .nil)))) rfl)))) ?_
        rcases Bool.eq_false_or_eq_true (cm .lss z136 (128 : Int)) with hc137 | hc137
        · replace h := cond_t hc137 h
          refine W.condT rfl hc137 ?_
          refine W.exit ?_
          refine XQ.miss rfl ?_
          obtain rfl := Option.some.inj h
          exact XQ.brk (Sw.Sub.mk id (.cons rfl (.of_eq rfl) (.cons rfl (.of_eq rfl) (.cons rfl (.of_eq rfl) (.cons rfl (.of_eq rfl) (.cons rfl (.of_eq rfl) (.cons rfl (.of_eq rfl) .nil)))))) (.box rfl (.cons (.of_eq rfl) (.cons (.of_eq rfl) (.cons (.of_eq rfl) .nil))) (.box rfl (.cons (.of_eq rfl) (.cons (.of_eq rfl) (.cons (.of_eq rfl) .nil))) (.arr rfl (.arr rfl .nil)))) rfl)
        · replace h := cond_f hc137 h
          refine W.condF rfl hc137 ?_
          refine W.skip ?_
          refine W.fall ?_
          obtain rfl := Option.some.inj h
          exact W.next (Sw.Sub.mk id (.cons rfl (.of_eq rfl) (.cons rfl (.of_eq rfl) (.cons rfl (.of_eq rfl) (.cons rfl (.of_eq rfl) (.cons rfl (.of_eq rfl) (.cons rfl (.of_eq rfl) (.cons rfl (.of_eq rfl) .nil))))))) (.box rfl (.cons (.of_eq rfl) (.cons (.of_eq rfl) (.cons (.of_eq rfl) .nil))) (.box rfl (.cons (.of_eq rfl) (.cons (.of_eq rfl) (.cons (.of_eq rfl) .nil))) (.arr rfl (.arr rfl .nil)))) rfl)
    · replace h := cond_f hc108 h
      refine W.condF rfl hc108 ?_
      refine W.exit ?_
      obtain rfl := Option.some.inj h
      exact XQ.brk (Sw.Sub.mk id (.cons rfl (.of_eq rfl) (.cons rfl (.of_eq rfl) (.cons rfl (.of_eq rfl) (.cons rfl (.of_eq rfl) .nil)))) (.box rfl (.cons (.of_eq rfl) (.cons (.of_eq rfl) (.cons (.of_eq rfl) .nil))) (.box rfl (.cons (.of_eq rfl) (.cons (.of_eq rfl) (.cons (.of_eq rfl) .nil))) (.arr rfl (.arr rfl .nil)))) rfl)
set_option maxRecDepth 100000 in
set_option maxHeartbeats 4000000 in
theorem con_ref_Window {a0 : (Int × Int × (List (Int × (List Int) × (List Blk))))} {r : Int} (h : m_ref_Window a0 = some r) :
    Con Try.prog 17 [.v (Enc.pr (Enc.int .i64) (Enc.pr (Enc.int .i64) (Enc.sl (Enc.pr (Enc.int .i64) (Enc.pr (Enc.sl (Enc.int .i64)) (Enc.sl eBlk)))))) a0] (.v (Enc.int .i64) r) [] := by
  refine Con.of Try.func17 rfl Try.ntmps17 rfl ?_
  intro S w hF
  unfold m_ref_Window at h
  refine W.seq ?_
  refine W.reg (σ' := ⟨[(1, .ptr 101 0)], [(101, .box 24 [.v (Enc.int .i64) a0.1, .v (Enc.int .i64) a0.2.1, .v (Enc.sl (Enc.pr (Enc.int .i64) (Enc.pr (Enc.sl (Enc.int .i64)) (Enc.sl eBlk)))) a0.2.2])]⟩) (J.cons (.none rfl) (JO.box 101 rfl (.prm (.one _ _) (.prm (.one _ _) (.one _ _))) rfl) rfl rfl (J.cons (.none rfl) (JO.assign rfl) rfl rfl (J.fin (Sw.Sub.mk id (.cons rfl (.of_eq rfl) .nil) (.box rfl (.cons (.of_eq rfl) (.cons (.of_eq rfl) (.cons (.of_eq rfl) .nil))) .nil) rfl)))) ?_
  refine W.seq ?_
  refine W.seq ?_
  refine W.reg (σ' := ⟨[(1, .ptr 101 0), (6, .v Enc.bool (cm .lss (a0.2.2.length : Int) (4 : Int)))], [(101, .box 24 [.v (Enc.int .i64) a0.1, .v (Enc.int .i64) a0.2.1, .v (Enc.sl (Enc.pr (Enc.int .i64) (Enc.pr (Enc.sl (Enc.int .i64)) (Enc.sl eBlk)))) a0.2.2])]⟩) (J.cons (.none rfl) (JO.fieldPtr 2 rfl Try.runUnderlying24 rfl Try.sizeOf22 rfl rfl) rfl rfl (J.cons (.none rfl) (JO.load rfl rfl rfl Try.isAgg22 Try.sizeOf22) rfl rfl (J.cons (.none rfl) (JO.len rfl Try.runUnderlying22) rfl rfl (J.cons (.none rfl) (JO.cmp rfl rfl rfl) rfl rfl (J.fin (Sw.Sub.mk id (.cons rfl (.of_eq rfl) (.cons rfl (.of_eq rfl) .nil)) (.box rfl (.cons (.of_eq rfl) (.cons (.of_eq rfl) (.cons (.of_eq rfl) .nil))) .nil) rfl)))))) ?_
  rcases Bool.eq_false_or_eq_true (cm .lss (a0.2.2.length : Int) (4 : Int)) with hc1 | hc1
  · replace h := cond_t hc1 h
    refine W.condT rfl hc1 ?_
    refine W.seq ?_
    refine W.reg (σ' := ⟨[(2, .v (Enc.int .i64) (a0.2.2.length : Int))], []⟩) (J.cons (.none rfl) (JO.fieldPtr 2 rfl Try.runUnderlying24 rfl Try.sizeOf22 rfl rfl) rfl rfl (J.cons (.none rfl) (JO.load rfl rfl rfl Try.isAgg22 Try.sizeOf22) rfl rfl (J.cons (.none rfl) (JO.len rfl Try.runUnderlying22) rfl rfl (J.cons (.none rfl) (JO.assign rfl) rfl rfl (J.fin (Sw.Sub.mk id (.cons rfl (.of_eq rfl) .nil) .nil rfl)))))) ?_
    refine W.ret ?_
    obtain rfl := Option.some.inj h
    exact XQ.sub (σ' := ⟨[(2, .v (Enc.int .i64) (a0.2.2.length : Int))], []⟩) (Sw.Sub.mk id (.cons rfl (.of_eq rfl) .nil) .nil rfl) (XQ.ret1 hF noR rfl (RV.tmp rfl) .nil rfl)
  · replace h := cond_f hc1 h
    refine W.condF rfl hc1 ?_
    refine W.skip ?_
    refine W.seq ?_
    refine W.reg (σ' := ⟨[(2, .v (Enc.int .i64) (4 : Int))], []⟩) (J.cons (.none rfl) (JO.assign rfl) rfl rfl (J.fin (Sw.Sub.mk id (.cons rfl (.of_eq rfl) .nil) .nil rfl))) ?_
    refine W.ret ?_
    obtain rfl := Option.some.inj h
    exact XQ.sub (σ' := ⟨[(2, .v (Enc.int .i64) (4 : Int))], []⟩) (Sw.Sub.mk id (.cons rfl (.of_eq rfl) .nil) .nil rfl) (XQ.ret1 hF noR rfl (RV.tmp rfl) .nil rfl)
set_option maxRecDepth 100000 in
set_option maxHeartbeats 4000000 in
theorem con_ref_HeardOf {a0 : (Int × Int × (List (Int × (List Int) × (List Blk))))} {a1 : (List Int)} {r : (Int × Int × (List (Int × (List Int) × (List Blk))))} (h : m_ref_HeardOf a0 a1 = some r) :
    Con Try.prog 35 [.v (Enc.pr (Enc.int .i64) (Enc.pr (Enc.int .i64) (Enc.sl (Enc.pr (Enc.int .i64) (Enc.pr (Enc.sl (Enc.int .i64)) (Enc.sl eBlk)))))) a0, .v (Enc.sl (Enc.int .u8)) a1] (.v (Enc.pr (Enc.int .i64) (Enc.pr (Enc.int .i64) (Enc.sl (Enc.pr (Enc.int .i64) (Enc.pr (Enc.sl (Enc.int .i64)) (Enc.sl eBlk)))))) r) [] := by
  refine Con.of Try.func35 rfl Try.ntmps35 rfl ?_
  intro S w hF
  unfold m_ref_HeardOf at h
  refine W.seq ?_
  refine W.reg (σ' := ⟨[(1, .v (Enc.sl (Enc.int .u8)) a1), (2, .ptr 101 0), (4, .ptr 102 0)], [(101, .box 24 [.v (Enc.int .i64) a0.1, .v (Enc.int .i64) a0.2.1, .v (Enc.sl (Enc.pr (Enc.int .i64) (Enc.pr (Enc.sl (Enc.int .i64)) (Enc.sl eBlk)))) a0.2.2]), (102, .box 24 [.v (Enc.int .i64) (0 : Int), .v (Enc.int .i64) (0 : Int), .v (Enc.sl (Enc.pr (Enc.int .i64) (Enc.pr (Enc.sl (Enc.int .i64)) (Enc.sl eBlk)))) ([] : (List (Int × (List Int) × (List Blk))))])]⟩) (J.cons (.none rfl) (JO.box 101 rfl (.prm (.one _ _) (.prm (.one _ _) (.one _ _))) rfl) rfl rfl (J.cons (.none rfl) (JO.alloc 102 Try.zeroValue24 rfl (.cons (Z.int .i64) (.cons (Z.int .i64) (.cons (Z.sl (Enc.pr (Enc.int .i64) (Enc.pr (Enc.sl (Enc.int .i64)) (Enc.sl eBlk)))) .nil))) rfl) rfl rfl (J.fin (Sw.Sub.mk id (.cons rfl (.of_eq rfl) (.cons rfl (.of_eq rfl) (.cons rfl (.of_eq rfl) .nil))) (.box rfl (.cons (.of_eq rfl) (.cons (.of_eq rfl) (.cons (.of_eq rfl) .nil))) (.box rfl (.cons (.of_eq rfl) (.cons (.of_eq rfl) (.cons (.of_eq rfl) .nil))) .nil)) rfl)))) ?_
  refine W.seq ?_
  obtain ⟨v1, hv1, h⟩ := bind_e h
  refine W.reg (σ' := ⟨[(2, .ptr 101 0), (4, .ptr 102 0), (5, .ptr 104 0), (6, .v Enc.bool v1.2)], [(101, .box 24 [.v (Enc.int .i64) a0.1, .v (Enc.int .i64) a0.2.1, .v (Enc.sl (Enc.pr (Enc.int .i64) (Enc.pr (Enc.sl (Enc.int .i64)) (Enc.sl eBlk)))) a0.2.2]), (102, .box 24 [.v (Enc.int .i64) (0 : Int), .v (Enc.int .i64) (0 : Int), .v (Enc.sl (Enc.pr (Enc.int .i64) (Enc.pr (Enc.sl (Enc.int .i64)) (Enc.sl eBlk)))) ([] : (List (Int × (List Int) × (List Blk))))]), (104, .box 28 [.v (Enc.int .i64) v1.1.1, .v (Enc.sl (Enc.int .i64)) v1.1.2.1, .v (Enc.sl eBlk) v1.1.2.2])]⟩) (J.cons (.none rfl) (JO.move rfl) rfl rfl (J.cons (.none rfl) (JO.call0 (con_ref_Unpacked hv1) Try.call85 (.cons (.dir rfl) .nil)) rfl rfl (J.cons (.none rfl) (JO.move rfl) rfl rfl (J.cons (.none rfl) (JO.extract rfl rfl) rfl rfl (J.cons (.none rfl) (JO.extract rfl rfl) rfl rfl (J.cons (.none rfl) (JO.alloc 104 Try.zeroValue28 rfl (.cons (Z.int .i64) (.cons (Z.sl (Enc.int .i64)) (.cons (Z.sl eBlk) .nil))) rfl) rfl rfl (J.mut (.none rfl) (JM.storeAll rfl rfl rfl rfl (.prm (.one _ _) (.prm (.one _ _) (.one _ _))) Try.sizeOf28) (J.cons (.none rfl) (JO.assign rfl) rfl rfl (J.fin (Sw.Sub.mk id (.cons rfl (.of_eq rfl) (.cons rfl (.of_eq rfl) (.cons rfl (.of_eq rfl) (.cons rfl (.of_eq rfl) .nil)))) (.box rfl (.cons (.of_eq rfl) (.cons (.of_eq rfl) (.cons (.of_eq rfl) .nil))) (.box rfl (.cons (.of_eq rfl) (.cons (.of_eq rfl) (.cons (.of_eq rfl) .nil))) (.box rfl (.cons (.of_eq rfl) (.cons (.of_eq rfl) (.cons (.of_eq rfl) .nil))) .nil))) rfl)))))))))) ?_
  refine W.seq ?_
  refine W.seq ?_
  obtain ⟨x7, hx, h⟩ := bind_e h
  refine W.mg (σ' := ⟨[(2, .ptr 101 0), (4, .ptr 102 0), (5, .ptr 104 0), (40, .v Enc.bool x7)], [(101, .box 24 [.v (Enc.int .i64) a0.1, .v (Enc.int .i64) a0.2.1, .v (Enc.sl (Enc.pr (Enc.int .i64) (Enc.pr (Enc.sl (Enc.int .i64)) (Enc.sl eBlk)))) a0.2.2]), (102, .box 24 [.v (Enc.int .i64) (0 : Int), .v (Enc.int .i64) (0 : Int), .v (Enc.sl (Enc.pr (Enc.int .i64) (Enc.pr (Enc.sl (Enc.int .i64)) (Enc.sl eBlk)))) ([] : (List (Int × (List Int) × (List Blk))))]), (104, .box 28 [.v (Enc.int .i64) v1.1.1, .v (Enc.sl (Enc.int .i64)) v1.1.2.1, .v (Enc.sl eBlk) v1.1.2.2])]⟩) ?_ ?_
  · intro hk
    rcases Bool.eq_false_or_eq_true (!v1.2) with hc8 | hc8
    · replace hx := cond_t hc8 hx
      obtain rfl := Option.some.inj hx
      exact W.dr2 (σ' := ⟨[(2, .ptr 101 0), (4, .ptr 102 0), (5, .ptr 104 0), (40, .v Enc.bool true)], [(101, .box 24 [.v (Enc.int .i64) a0.1, .v (Enc.int .i64) a0.2.1, .v (Enc.sl (Enc.pr (Enc.int .i64) (Enc.pr (Enc.sl (Enc.int .i64)) (Enc.sl eBlk)))) a0.2.2]), (102, .box 24 [.v (Enc.int .i64) (0 : Int), .v (Enc.int .i64) (0 : Int), .v (Enc.sl (Enc.pr (Enc.int .i64) (Enc.pr (Enc.sl (Enc.int .i64)) (Enc.sl eBlk)))) ([] : (List (Int × (List Int) × (List Blk))))]), (104, .box 28 [.v (Enc.int .i64) v1.1.1, .v (Enc.sl (Enc.int .i64)) v1.1.2.1, .v (Enc.sl eBlk) v1.1.2.2])]⟩) 28 [0, 1, 3, 7, 15, 31, 63, 127, 255, 511, 1023, 2047, 4095, 8191, 16383, 32767, 65535, 131071, 262143, 524287, 1048575, 2097151, 4194303, 8388607, 1048575, 17825791, 67108863, 134217727] mixed (by exact (.cons (.none rfl) (JO.move rfl) rfl rfl (.cons (.none rfl) (JO.not rfl) rfl rfl (.cons (.none rfl) (JO.move rfl) rfl rfl (.left (GK.unmet 15 rfl rfl rfl hc8) rfl (.left (GK.unmet 15 rfl rfl rfl hc8) rfl (.left (GK.unmet 15 rfl rfl rfl hc8) rfl (.cons (.none rfl) (JO.pT hc8 rfl rfl) rfl rfl (.cons (.none rfl) (JO.move rfl) rfl rfl (.left (GK.unmet 20 rfl rfl rfl rfl) rfl (.left (GK.unmet 20 rfl rfl rfl rfl) rfl (.left (GK.unmet 20 rfl rfl rfl rfl) rfl (.left (GK.unmet 20 rfl rfl rfl rfl) rfl (.cons (.none rfl) (JO.pT rfl rfl rfl) rfl rfl (.cons (.none rfl) (JO.move rfl) rfl rfl (.left (GK.unmet 26 rfl rfl rfl rfl) rfl (.left (GK.unmet 26 rfl rfl rfl rfl) rfl (.left (GK.unmet 26 rfl rfl rfl rfl) rfl (.left (GK.unmet 26 rfl rfl rfl rfl) rfl (.cons (.none rfl) (JO.pT rfl rfl rfl) rfl rfl (.cons (.none rfl) (JO.move rfl) rfl rfl (.left (GK.unmet 32 rfl rfl rfl rfl) rfl (.left (GK.unmet 32 rfl rfl rfl rfl) rfl (.left (GK.unmet 32 rfl rfl rfl rfl) rfl (.left (GK.unmet 32 rfl rfl rfl rfl) rfl (.left (GK.unmet 32 rfl rfl rfl rfl) rfl (.left (GK.unmet 32 rfl rfl rfl rfl) rfl (.left (GK.unmet 32 rfl rfl rfl rfl) rfl (.cons (.none rfl) (JO.pT rfl rfl rfl) rfl rfl .nil))))))))))))))))))))))))))))) (by exact (J.fin (Sw.Sub.mk id (.cons rfl (.of_eq rfl) (.cons rfl (.of_eq rfl) (.cons rfl (.of_eq rfl) (.cons rfl (.of_eq rfl) .nil)))) (.box rfl (.cons (.of_eq rfl) (.cons (.of_eq rfl) (.cons (.of_eq rfl) .nil))) (.box rfl (.cons (.of_eq rfl) (.cons (.of_eq rfl) (.cons (.of_eq rfl) .nil))) (.box rfl (.cons (.of_eq rfl) (.cons (.of_eq rfl) (.cons (.of_eq rfl) .nil))) .nil))) rfl))) rfl (by decide +kernel) (by decide +kernel) (by decide +kernel) (by kernel_rfl) hk
    · replace hx := cond_f hc8 hx
      rcases Bool.eq_false_or_eq_true (cm .neq v1.1.1 (0 : Int)) with hc9 | hc9
      · replace hx := cond_t hc9 hx
        obtain rfl := Option.some.inj hx
        exact W.dr2 (σ' := ⟨[(2, .ptr 101 0), (4, .ptr 102 0), (5, .ptr 104 0), (40, .v Enc.bool true)], [(101, .box 24 [.v (Enc.int .i64) a0.1, .v (Enc.int .i64) a0.2.1, .v (Enc.sl (Enc.pr (Enc.int .i64) (Enc.pr (Enc.sl (Enc.int .i64)) (Enc.sl eBlk)))) a0.2.2]), (102, .box 24 [.v (Enc.int .i64) (0 : Int), .v (Enc.int .i64) (0 : Int), .v (Enc.sl (Enc.pr (Enc.int .i64) (Enc.pr (Enc.sl (Enc.int .i64)) (Enc.sl eBlk)))) ([] : (List (Int × (List Int) × (List Blk))))]), (104, .box 28 [.v (Enc.int .i64) v1.1.1, .v (Enc.sl (Enc.int .i64)) v1.1.2.1, .v (Enc.sl eBlk) v1.1.2.2])]⟩) 28 [0, 1, 3, 7, 15, 31, 63, 127, 255, 511, 1023, 2047, 4095, 8191, 16383, 32767, 65535, 131071, 262143, 524287, 1048575, 2097151, 4194303, 8388607, 1048575, 17825791, 67108863, 134217727] mixed (by exact (.cons (.none rfl) (JO.move rfl) rfl rfl (.cons (.none rfl) (JO.not rfl) rfl rfl (.cons (.none rfl) (JO.move rfl) rfl rfl (.cons (GK.met 15 rfl rfl rfl hc8) (JO.fieldPtr 0 rfl Try.runUnderlying28 rfl Try.sizeOf3 rfl rfl) rfl rfl (.cons (GK.met 15 rfl rfl rfl hc8) (JO.load rfl rfl rfl Try.isAgg3 Try.sizeOf3) rfl rfl (.cons (GK.met 15 rfl rfl rfl hc8) (JO.cmp rfl rfl rfl) rfl rfl (.cons (.none rfl) (JO.pF hc8 rfl rfl) rfl rfl (.cons (.none rfl) (JO.move rfl) rfl rfl (.left (GK.unmet 20 rfl rfl rfl hc9) rfl (.left (GK.unmet 20 rfl rfl rfl hc9) rfl (.left (GK.unmet 20 rfl rfl rfl hc9) rfl (.left (GK.unmet 20 rfl rfl rfl hc9) rfl (.cons (.none rfl) (JO.pT hc9 rfl rfl) rfl rfl (.cons (.none rfl) (JO.move rfl) rfl rfl (.left (GK.unmet 26 rfl rfl rfl rfl) rfl (.left (GK.unmet 26 rfl rfl rfl rfl) rfl (.left (GK.unmet 26 rfl rfl rfl rfl) rfl (.left (GK.unmet 26 rfl rfl rfl rfl) rfl (.cons (.none rfl) (JO.pT rfl rfl rfl) rfl rfl (.cons (.none rfl) (JO.move rfl) rfl rfl (.left (GK.unmet 32 rfl rfl rfl rfl) rfl (.left (GK.unmet 32 rfl rfl rfl rfl) rfl (.left (GK.unmet 32 rfl rfl rfl rfl) rfl (.left (GK.unmet 32 rfl rfl rfl rfl) rfl (.left (GK.unmet 32 rfl rfl rfl rfl) rfl (.left (GK.unmet 32 rfl rfl rfl rfl) rfl (.left (GK.unmet 32 rfl rfl rfl rfl) rfl (.cons (.none rfl) (JO.pT rfl rfl rfl) rfl rfl .nil))))))))))))))))))))))))))))) (by exact (J.fin (Sw.Sub.mk id (.cons rfl (.of_eq rfl) (.cons rfl (.of_eq rfl) (.cons rfl (.of_eq rfl) (.cons rfl (.of_eq rfl) .nil)))) (.box rfl (.cons (.of_eq rfl) (.cons (.of_eq rfl) (.cons (.of_eq rfl) .nil))) (.box rfl (.cons (.of_eq rfl) (.cons (.of_eq rfl) (.cons (.of_eq rfl) .nil))) (.box rfl (.cons (.of_eq rfl) (.cons (.of_eq rfl) (.cons (.of_eq rfl) .nil))) .nil))) rfl))) rfl (by decide +kernel) (by decide +kernel) (by decide +kernel) (by kernel_rfl) hk
      · replace hx := cond_f hc9 hx
        rcases Bool.eq_false_or_eq_true (cm .gtr (v1.1.2.2.length : Int) (0 : Int)) with hc10 | hc10
        · replace hx := cond_t hc10 hx
          obtain rfl := Option.some.inj hx
          exact W.dr2 (σ' := ⟨[(2, .ptr 101 0), (4, .ptr 102 0), (5, .ptr 104 0), (40, .v Enc.bool true)], [(101, .box 24 [.v (Enc.int .i64) a0.1, .v (Enc.int .i64) a0.2.1, .v (Enc.sl (Enc.pr (Enc.int .i64) (Enc.pr (Enc.sl (Enc.int .i64)) (Enc.sl eBlk)))) a0.2.2]), (102, .box 24 [.v (Enc.int .i64) (0 : Int), .v (Enc.int .i64) (0 : Int), .v (Enc.sl (Enc.pr (Enc.int .i64) (Enc.pr (Enc.sl (Enc.int .i64)) (Enc.sl eBlk)))) ([] : (List (Int × (List Int) × (List Blk))))]), (104, .box 28 [.v (Enc.int .i64) v1.1.1, .v (Enc.sl (Enc.int .i64)) v1.1.2.1, .v (Enc.sl eBlk) v1.1.2.2])]⟩) 28 [0, 1, 3, 7, 15, 31, 63, 127, 255, 511, 1023, 2047, 4095, 8191, 16383, 32767, 65535, 131071, 262143, 524287, 1048575, 2097151, 4194303, 8388607, 1048575, 17825791, 67108863, 134217727] mixed (by exact (.cons (.none rfl) (JO.move rfl) rfl rfl (.cons (.none rfl) (JO.not rfl) rfl rfl (.cons (.none rfl) (JO.move rfl) rfl rfl (.cons (GK.met 15 rfl rfl rfl hc8) (JO.fieldPtr 0 rfl Try.runUnderlying28 rfl Try.sizeOf3 rfl rfl) rfl rfl (.cons (GK.met 15 rfl rfl rfl hc8) (JO.load rfl rfl rfl Try.isAgg3 Try.sizeOf3) rfl rfl (.cons (GK.met 15 rfl rfl rfl hc8) (JO.cmp rfl rfl rfl) rfl rfl (.cons (.none rfl) (JO.pF hc8 rfl rfl) rfl rfl (.cons (.none rfl) (JO.move rfl) rfl rfl (.cons (GK.met 20 rfl rfl rfl hc9) (JO.fieldPtr 2 rfl Try.runUnderlying28 rfl Try.sizeOf26 rfl rfl) rfl rfl (.cons (GK.met 20 rfl rfl rfl hc9) (JO.load rfl rfl rfl Try.isAgg26 Try.sizeOf26) rfl rfl (.cons (GK.met 20 rfl rfl rfl hc9) (JO.len rfl Try.runUnderlying26) rfl rfl (.cons (GK.met 20 rfl rfl rfl hc9) (JO.cmp rfl rfl rfl) rfl rfl (.cons (.none rfl) (JO.pF hc9 rfl rfl) rfl rfl (.cons (.none rfl) (JO.move rfl) rfl rfl (.left (GK.unmet 26 rfl rfl rfl hc10) rfl (.left (GK.unmet 26 rfl rfl rfl hc10) rfl (.left (GK.unmet 26 rfl rfl rfl hc10) rfl (.left (GK.unmet 26 rfl rfl rfl hc10) rfl (.cons (.none rfl) (JO.pT hc10 rfl rfl) rfl rfl (.cons (.none rfl) (JO.move rfl) rfl rfl (.left (GK.unmet 32 rfl rfl rfl rfl) rfl (.left (GK.unmet 32 rfl rfl rfl rfl) rfl (.left (GK.unmet 32 rfl rfl rfl rfl) rfl (.left (GK.unmet 32 rfl rfl rfl rfl) rfl (.left (GK.unmet 32 rfl rfl rfl rfl) rfl (.left (GK.unmet 32 rfl rfl rfl rfl) rfl (.left (GK.unmet 32 rfl rfl rfl rfl) rfl (.cons (.none rfl) (JO.pT rfl rfl rfl) rfl rfl .nil))))))))))))))))))))))))))))) (by exact (J.fin (Sw.Sub.mk id (.cons rfl (.of_eq rfl) (.cons rfl (.of_eq rfl) (.cons rfl (.of_eq rfl) (.cons rfl (.of_eq rfl) .nil)))) (.box rfl (.cons (.of_eq rfl) (.cons (.of_eq rfl) (.cons (.of_eq rfl) .nil))) (.box rfl (.cons (.of_eq rfl) (.cons (.of_eq rfl) (.cons (.of_eq rfl) .nil))) (.box rfl (.cons (.of_eq rfl) (.cons (.of_eq rfl) (.cons (.of_eq rfl) .nil))) .nil))) rfl))) rfl (by decide +kernel) (by decide +kernel) (by decide +kernel) (by kernel_rfl) hk
        · replace hx := cond_f hc10 hx
          rcases Bool.eq_false_or_eq_true (cm .neq (v1.1.2.1.length : Int) (2 : Int)) with hc11 | hc11
          · replace hx := cond_t hc11 hx
            obtain rfl := Option.some.inj hx
            exact W.dr2 (σ' := ⟨[(2, .ptr 101 0), (4, .ptr 102 0), (5, .ptr 104 0), (40, .v Enc.bool true)], [(101, .box 24 [.v (Enc.int .i64) a0.1, .v (Enc.int .i64) a0.2.1, .v (Enc.sl (Enc.pr (Enc.int .i64) (Enc.pr (Enc.sl (Enc.int .i64)) (Enc.sl eBlk)))) a0.2.2]), (102, .box 24 [.v (Enc.int .i64) (0 : Int), .v (Enc.int .i64) (0 : Int), .v (Enc.sl (Enc.pr (Enc.int .i64) (Enc.pr (Enc.sl (Enc.int .i64)) (Enc.sl eBlk)))) ([] : (List (Int × (List Int) × (List Blk))))]), (104, .box 28 [.v (Enc.int .i64) v1.1.1, .v (Enc.sl (Enc.int .i64)) v1.1.2.1, .v (Enc.sl eBlk) v1.1.2.2])]⟩) 28 [0, 1, 3, 7, 15, 31, 63, 127, 255, 511, 1023, 2047, 4095, 8191, 16383, 32767, 65535, 131071, 262143, 524287, 1048575, 2097151, 4194303, 8388607, 1048575, 17825791, 67108863, 134217727] mixed (by exact (.cons (.none rfl) (JO.move rfl) rfl rfl (.cons (.none rfl) (JO.not rfl) rfl rfl (.cons (.none rfl) (JO.move rfl) rfl rfl (.cons (GK.met 15 rfl rfl rfl hc8) (JO.fieldPtr 0 rfl Try.runUnderlying28 rfl Try.sizeOf3 rfl rfl) rfl rfl (.cons (GK.met 15 rfl rfl rfl hc8) (JO.load rfl rfl rfl Try.isAgg3 Try.sizeOf3) rfl rfl (.cons (GK.met 15 rfl rfl rfl hc8) (JO.cmp rfl rfl rfl) rfl rfl (.cons (.none rfl) (JO.pF hc8 rfl rfl) rfl rfl (.cons (.none rfl) (JO.move rfl) rfl rfl (.cons (GK.met 20 rfl rfl rfl hc9) (JO.fieldPtr 2 rfl Try.runUnderlying28 rfl Try.sizeOf26 rfl rfl) rfl rfl (.cons (GK.met 20 rfl rfl rfl hc9) (JO.load rfl rfl rfl Try.isAgg26 Try.sizeOf26) rfl rfl (.cons (GK.met 20 rfl rfl rfl hc9) (JO.len rfl Try.runUnderlying26) rfl rfl (.cons (GK.met 20 rfl rfl rfl hc9) (JO.cmp rfl rfl rfl) rfl rfl (.cons (.none rfl) (JO.pF hc9 rfl rfl) rfl rfl (.cons (.none rfl) (JO.move rfl) rfl rfl (.cons (GK.met 26 rfl rfl rfl hc10) (JO.fieldPtr 1 rfl Try.runUnderlying28 rfl Try.sizeOf25 rfl rfl) rfl rfl (.cons (GK.met 26 rfl rfl rfl hc10) (JO.load rfl rfl rfl Try.isAgg25 Try.sizeOf25) rfl rfl (.cons (GK.met 26 rfl rfl rfl hc10) (JO.len rfl Try.runUnderlying25) rfl rfl (.cons (GK.met 26 rfl rfl rfl hc10) (JO.cmp rfl rfl rfl) rfl rfl (.cons (.none rfl) (JO.pF hc10 rfl rfl) rfl rfl (.cons (.none rfl) (JO.move rfl) rfl rfl (.left (GK.unmet 32 rfl rfl rfl hc11) rfl (.left (GK.unmet 32 rfl rfl rfl hc11) rfl (.left (GK.unmet 32 rfl rfl rfl hc11) rfl (.left (GK.unmet 32 rfl rfl rfl hc11) rfl (.left (GK.unmet 32 rfl rfl rfl hc11) rfl (.left (GK.unmet 32 rfl rfl rfl hc11) rfl (.left (GK.unmet 32 rfl rfl rfl hc11) rfl (.cons (.none rfl) (JO.pT hc11 rfl rfl) rfl rfl .nil))))))))))))))))))))))))))))) (by exact (J.fin (Sw.Sub.mk id (.cons rfl (.of_eq rfl) (.cons rfl (.of_eq rfl) (.cons rfl (.of_eq rfl) (.cons rfl (.of_eq rfl) .nil)))) (.box rfl (.cons (.of_eq rfl) (.cons (.of_eq rfl) (.cons (.of_eq rfl) .nil))) (.box rfl (.cons (.of_eq rfl) (.cons (.of_eq rfl) (.cons (.of_eq rfl) .nil))) (.box rfl (.cons (.of_eq rfl) (.cons (.of_eq rfl) (.cons (.of_eq rfl) .nil))) .nil))) rfl))) rfl (by decide +kernel) (by decide +kernel) (by decide +kernel) (by kernel_rfl) hk
          · replace hx := cond_f hc11 hx
            obtain ⟨z12, hz12, hx⟩ := bind_e hx
            obtain rfl := Option.some.inj hx
            exact W.dr2 (σ' := ⟨[(2, .ptr 101 0), (4, .ptr 102 0), (5, .ptr 104 0), (40, .v Enc.bool (cm .neq z12 a0.1))], [(101, .box 24 [.v (Enc.int .i64) a0.1, .v (Enc.int .i64) a0.2.1, .v (Enc.sl (Enc.pr (Enc.int .i64) (Enc.pr (Enc.sl (Enc.int .i64)) (Enc.sl eBlk)))) a0.2.2]), (102, .box 24 [.v (Enc.int .i64) (0 : Int), .v (Enc.int .i64) (0 : Int), .v (Enc.sl (Enc.pr (Enc.int .i64) (Enc.pr (Enc.sl (Enc.int .i64)) (Enc.sl eBlk)))) ([] : (List (Int × (List Int) × (List Blk))))]), (104, .box 28 [.v (Enc.int .i64) v1.1.1, .v (Enc.sl (Enc.int .i64)) v1.1.2.1, .v (Enc.sl eBlk) v1.1.2.2])]⟩) 28 [0, 1, 3, 7, 15, 31, 63, 127, 255, 511, 1023, 2047, 4095, 8191, 16383, 32767, 65535, 131071, 262143, 524287, 1048575, 2097151, 4194303, 8388607, 1048575, 17825791, 67108863, 134217727] mixed (by exact (.cons (.none rfl) (JO.move rfl) rfl rfl (.cons (.none rfl) (JO.not rfl) rfl rfl (.cons (.none rfl) (JO.move rfl) rfl rfl (.cons (GK.met 15 rfl rfl rfl hc8) (JO.fieldPtr 0 rfl Try.runUnderlying28 rfl Try.sizeOf3 rfl rfl) rfl rfl (.cons (GK.met 15 rfl rfl rfl hc8) (JO.load rfl rfl rfl Try.isAgg3 Try.sizeOf3) rfl rfl (.cons (GK.met 15 rfl rfl rfl hc8) (JO.cmp rfl rfl rfl) rfl rfl (.cons (.none rfl) (JO.pF hc8 rfl rfl) rfl rfl (.cons (.none rfl) (JO.move rfl) rfl rfl (.cons (GK.met 20 rfl rfl rfl hc9) (JO.fieldPtr 2 rfl Try.runUnderlying28 rfl Try.sizeOf26 rfl rfl) rfl rfl (.cons (GK.met 20 rfl rfl rfl hc9) (JO.load rfl rfl rfl Try.isAgg26 Try.sizeOf26) rfl rfl (.cons (GK.met 20 rfl rfl rfl hc9) (JO.len rfl Try.runUnderlying26) rfl rfl (.cons (GK.met 20 rfl rfl rfl hc9) (JO.cmp rfl rfl rfl) rfl rfl (.cons (.none rfl) (JO.pF hc9 rfl rfl) rfl rfl (.cons (.none rfl) (JO.move rfl) rfl rfl (.cons (GK.met 26 rfl rfl rfl hc10) (JO.fieldPtr 1 rfl Try.runUnderlying28 rfl Try.sizeOf25 rfl rfl) rfl rfl (.cons (GK.met 26 rfl rfl rfl hc10) (JO.load rfl rfl rfl Try.isAgg25 Try.sizeOf25) rfl rfl (.cons (GK.met 26 rfl rfl rfl hc10) (JO.len rfl Try.runUnderlying25) rfl rfl (.cons (GK.met 26 rfl rfl rfl hc10) (JO.cmp rfl rfl rfl) rfl rfl (.cons (.none rfl) (JO.pF hc10 rfl rfl) rfl rfl (.cons (.none rfl) (JO.move rfl) rfl rfl (.cons (GK.met 32 rfl rfl rfl hc11) (JO.fieldPtr 1 rfl Try.runUnderlying28 rfl Try.sizeOf25 rfl rfl) rfl rfl (.cons (GK.met 32 rfl rfl rfl hc11) (JO.load rfl rfl rfl Try.isAgg25 Try.sizeOf25) rfl rfl (.cons (GK.met 32 rfl rfl rfl hc11) (JO.idx hz12 rfl rfl Try.runUnderlying25 Try.sizeOf3) rfl rfl (.cons (GK.met 32 rfl rfl rfl hc11) (JO.loadPst rfl Try.isAgg3 Try.sizeOf3) rfl rfl (.cons (GK.met 32 rfl rfl rfl hc11) (JO.fieldPtr 0 rfl Try.runUnderlying24 rfl Try.sizeOf3 rfl rfl) rfl rfl (.cons (GK.met 32 rfl rfl rfl hc11) (JO.load rfl rfl rfl Try.isAgg3 Try.sizeOf3) rfl rfl (.cons (GK.met 32 rfl rfl rfl hc11) (JO.cmp rfl rfl rfl) rfl rfl (.cons (.none rfl) (JO.pF hc11 rfl rfl) rfl rfl .nil))))))))))))))))))))))))))))) (by exact (J.fin (Sw.Sub.mk id (.cons rfl (.of_eq rfl) (.cons rfl (.of_eq rfl) (.cons rfl (.of_eq rfl) (.cons rfl (.of_eq rfl) .nil)))) (.box rfl (.cons (.of_eq rfl) (.cons (.of_eq rfl) (.cons (.of_eq rfl) .nil))) (.box rfl (.cons (.of_eq rfl) (.cons (.of_eq rfl) (.cons (.of_eq rfl) .nil))) (.box rfl (.cons (.of_eq rfl) (.cons (.of_eq rfl) (.cons (.of_eq rfl) .nil))) .nil))) rfl))) rfl (by decide +kernel) (by decide +kernel) (by decide +kernel) (by kernel_rfl) hk
  rcases Bool.eq_false_or_eq_true x7 with hc13 | hc13
  · replace h := cond_t hc13 h
    refine W.condT rfl hc13 ?_
    refine W.seq ?_
    refine W.reg (σ' := ⟨[(4, .ptr 102 0)], [(102, .box 24 [.v (Enc.int .i64) a0.1, .v (Enc.int .i64) a0.2.1, .v (Enc.sl (Enc.pr (Enc.int .i64) (Enc.pr (Enc.sl (Enc.int .i64)) (Enc.sl eBlk)))) a0.2.2])]⟩) (J.cons (.none rfl) (JO.loadAll rfl rfl (.prm (.one _ _) (.prm (.one _ _) (.one _ _))) Try.isAgg24 Try.sizeOf24) rfl rfl (J.mut (.none rfl) (JM.storeAll rfl rfl rfl rfl (.prm (.one _ _) (.prm (.one _ _) (.one _ _))) Try.sizeOf24) (J.fin (Sw.Sub.mk id (.cons rfl (.of_eq rfl) .nil) (.box rfl (.cons (.of_eq rfl) (.cons (.of_eq rfl) (.cons (.of_eq rfl) .nil))) .nil) rfl)))) ?_
    refine W.ret ?_
    obtain rfl := Option.some.inj h
    exact XQ.sub (σ' := ⟨[(4, .ptr 90 0)], [(90, .box 24 [.v (Enc.int .i64) a0.1, .v (Enc.int .i64) a0.2.1, .v (Enc.sl (Enc.pr (Enc.int .i64) (Enc.pr (Enc.sl (Enc.int .i64)) (Enc.sl eBlk)))) a0.2.2])]⟩) (Sw.Sub.mk (rn [(90, 102)]) (.cons rfl (.of_eq rfl) .nil) (.box rfl (.cons (.of_eq rfl) (.cons (.of_eq rfl) (.cons (.of_eq rfl) .nil))) .nil) rfl) (XQ.ret1 hF noR rfl (RV.cellAll rfl rfl (.prm (.one _ _) (.prm (.one _ _) (.one _ _))) Try.isAgg24 Try.sizeOf24) .nil rfl)
  · replace h := cond_f hc13 h
    refine W.condF rfl hc13 ?_
    refine W.skip ?_
    refine W.seq ?_
    refine W.seq ?_
    refine W.reg (σ' := ⟨[(2, .ptr 101 0), (4, .ptr 102 0), (5, .ptr 104 0), (7, .v (Enc.int .i64) (1 : Int))], [(101, .box 24 [.v (Enc.int .i64) a0.1, .v (Enc.int .i64) a0.2.1, .v (Enc.sl (Enc.pr (Enc.int .i64) (Enc.pr (Enc.sl (Enc.int .i64)) (Enc.sl eBlk)))) a0.2.2]), (102, .box 24 [.v (Enc.int .i64) (0 : Int), .v (Enc.int .i64) (0 : Int), .v (Enc.sl (Enc.pr (Enc.int .i64) (Enc.pr (Enc.sl (Enc.int .i64)) (Enc.sl eBlk)))) ([] : (List (Int × (List Int) × (List Blk))))]), (104, .box 28 [.v (Enc.int .i64) v1.1.1, .v (Enc.sl (Enc.int .i64)) v1.1.2.1, .v (Enc.sl eBlk) v1.1.2.2])]⟩) (J.cons (.none rfl) (JO.assign rfl) rfl rfl (J.fin (Sw.Sub.mk id (.cons rfl (.of_eq rfl) (.cons rfl (.of_eq rfl) (.cons rfl (.of_eq rfl) (.cons rfl (.of_eq rfl) .nil)))) (.box rfl (.cons (.of_eq rfl) (.cons (.of_eq rfl) (.cons (.of_eq rfl) .nil))) (.box rfl (.cons (.of_eq rfl) (.cons (.of_eq rfl) (.cons (.of_eq rfl) .nil))) (.box rfl (.cons (.of_eq rfl) (.cons (.of_eq rfl) (.cons (.of_eq rfl) .nil))) .nil))) rfl))) ?_
    obtain ⟨o32, ho32, hb32, hr32⟩ := lp_elim h
    refine W.lp (σs := fun s26 : Int => ⟨[(2, .ptr 101 0), (4, .ptr 102 0), (5, .ptr 104 0), (7, .v (Enc.int .i64) s26)], [(101, .box 24 [.v (Enc.int .i64) a0.1, .v (Enc.int .i64) a0.2.1, .v (Enc.sl (Enc.pr (Enc.int .i64) (Enc.pr (Enc.sl (Enc.int .i64)) (Enc.sl eBlk)))) a0.2.2]), (102, .box 24 [.v (Enc.int .i64) (0 : Int), .v (Enc.int .i64) (0 : Int), .v (Enc.sl (Enc.pr (Enc.int .i64) (Enc.pr (Enc.sl (Enc.int .i64)) (Enc.sl eBlk)))) ([] : (List (Int × (List Int) × (List Blk))))]), (104, .box 28 [.v (Enc.int .i64) v1.1.1, .v (Enc.sl (Enc.int .i64)) v1.1.2.1, .v (Enc.sl eBlk) v1.1.2.2])]⟩) (fun x33 : Unit => ⟨[(2, .ptr 101 0), (4, .ptr 102 0)], [(101, .box 24 [.v (Enc.int .i64) a0.1, .v (Enc.int .i64) a0.2.1, .v (Enc.sl (Enc.pr (Enc.int .i64) (Enc.pr (Enc.sl (Enc.int .i64)) (Enc.sl eBlk)))) a0.2.2]), (102, .box 24 [.v (Enc.int .i64) (0 : Int), .v (Enc.int .i64) (0 : Int), .v (Enc.sl (Enc.pr (Enc.int .i64) (Enc.pr (Enc.sl (Enc.int .i64)) (Enc.sl eBlk)))) ([] : (List (Int × (List Int) × (List Blk))))])]⟩) ho32 (Sw.Sub.mk id (.cons rfl (.of_eq rfl) (.cons rfl (.of_eq rfl) (.cons rfl (.of_eq rfl) (.cons rfl (.of_eq rfl) .nil)))) (.box rfl (.cons (.of_eq rfl) (.cons (.of_eq rfl) (.cons (.of_eq rfl) .nil))) (.box rfl (.cons (.of_eq rfl) (.cons (.of_eq rfl) (.cons (.of_eq rfl) .nil))) (.box rfl (.cons (.of_eq rfl) (.cons (.of_eq rfl) (.cons (.of_eq rfl) .nil))) .nil))) rfl) ?_ ?_
    · intro x33 hy
      have h := hb32 _ hy
      refine W.seq ?_
      refine W.reg (σ' := ⟨[(4, .ptr 102 0)], [(102, .box 24 [.v (Enc.int .i64) a0.1, .v (Enc.int .i64) a0.2.1, .v (Enc.sl (Enc.pr (Enc.int .i64) (Enc.pr (Enc.sl (Enc.int .i64)) (Enc.sl eBlk)))) a0.2.2])]⟩) (J.cons (.none rfl) (JO.loadAll rfl rfl (.prm (.one _ _) (.prm (.one _ _) (.one _ _))) Try.isAgg24 Try.sizeOf24) rfl rfl (J.mut (.none rfl) (JM.storeAll rfl rfl rfl rfl (.prm (.one _ _) (.prm (.one _ _) (.one _ _))) Try.sizeOf24) (J.fin (Sw.Sub.mk id (.cons rfl (.of_eq rfl) .nil) (.box rfl (.cons (.of_eq rfl) (.cons (.of_eq rfl) (.cons (.of_eq rfl) .nil))) .nil) rfl)))) ?_
      refine W.ret ?_
      obtain rfl := Option.some.inj h
      exact XQ.sub (σ' := ⟨[(4, .ptr 90 0)], [(90, .box 24 [.v (Enc.int .i64) a0.1, .v (Enc.int .i64) a0.2.1, .v (Enc.sl (Enc.pr (Enc.int .i64) (Enc.pr (Enc.sl (Enc.int .i64)) (Enc.sl eBlk)))) a0.2.2])]⟩) (Sw.Sub.mk (rn [(90, 102)]) (.cons rfl (.of_eq rfl) .nil) (.box rfl (.cons (.of_eq rfl) (.cons (.of_eq rfl) (.cons (.of_eq rfl) .nil))) .nil) rfl) (XQ.ret1 hF noR rfl (RV.cellAll rfl rfl (.prm (.one _ _) (.prm (.one _ _) (.one _ _))) Try.isAgg24 Try.sizeOf24) .nil rfl)
    intro s26 r32 h
    refine W.seq ?_
    refine W.seq ?_
    obtain ⟨v34, hv34, h⟩ := bind_e h
    refine W.reg (σ' := ⟨[(2, .ptr 101 0), (4, .ptr 102 0), (5, .ptr 104 0), (7, .v (Enc.int .i64) s26), (45, .v Enc.bool (cm .leq s26 v34))], [(101, .box 24 [.v (Enc.int .i64) a0.1, .v (Enc.int .i64) a0.2.1, .v (Enc.sl (Enc.pr (Enc.int .i64) (Enc.pr (Enc.sl (Enc.int .i64)) (Enc.sl eBlk)))) a0.2.2]), (102, .box 24 [.v (Enc.int .i64) (0 : Int), .v (Enc.int .i64) (0 : Int), .v (Enc.sl (Enc.pr (Enc.int .i64) (Enc.pr (Enc.sl (Enc.int .i64)) (Enc.sl eBlk)))) ([] : (List (Int × (List Int) × (List Blk))))]), (104, .box 28 [.v (Enc.int .i64) v1.1.1, .v (Enc.sl (Enc.int .i64)) v1.1.2.1, .v (Enc.sl eBlk) v1.1.2.2])]⟩) (J.cons (.none rfl) (JO.move rfl) rfl rfl (J.cons (.none rfl) (JO.loadAll rfl rfl (.prm (.one _ _) (.prm (.one _ _) (.one _ _))) Try.isAgg24 Try.sizeOf24) rfl rfl (J.cons (.none rfl) (JO.call0 (con_ref_Window hv34) Try.call17 (.cons (.dir rfl) .nil)) rfl rfl (J.cons (.none rfl) (JO.cmp rfl rfl rfl) rfl rfl (J.fin (Sw.Sub.mk id (.cons rfl (.of_eq rfl) (.cons rfl (.of_eq rfl) (.cons rfl (.of_eq rfl) (.cons rfl (.of_eq rfl) (.cons rfl (.of_eq rfl) .nil))))) (.box rfl (.cons (.of_eq rfl) (.cons (.of_eq rfl) (.cons (.of_eq rfl) .nil))) (.box rfl (.cons (.of_eq rfl) (.cons (.of_eq rfl) (.cons (.of_eq rfl) .nil))) (.box rfl (.cons (.of_eq rfl) (.cons (.of_eq rfl) (.cons (.of_eq rfl) .nil))) .nil))) rfl)))))) ?_
    rcases Bool.eq_false_or_eq_true (cm .leq s26 v34) with hc35 | hc35
    · replace h := cond_t hc35 h
      refine W.condT rfl hc35 ?_
      refine W.skip ?_
      refine W.seq ?_
      refine W.block ?_
      refine W.seq ?_
      obtain ⟨z36, hz36, h⟩ := bind_e h
      refine W.dr2 (σ' := ⟨[(2, .ptr 101 0), (4, .ptr 102 0), (5, .ptr 104 0), (7, .v (Enc.int .i64) s26), (56, .v Enc.bool (cm .eql z36 (ar .add .i64 a0.2.1 s26)))], [(101, .box 24 [.v (Enc.int .i64) a0.1, .v (Enc.int .i64) a0.2.1, .v (Enc.sl (Enc.pr (Enc.int .i64) (Enc.pr (Enc.sl (Enc.int .i64)) (Enc.sl eBlk)))) a0.2.2]), (102, .box 24 [.v (Enc.int .i64) (0 : Int), .v (Enc.int .i64) (0 : Int), .v (Enc.sl (Enc.pr (Enc.int .i64) (Enc.pr (Enc.sl (Enc.int .i64)) (Enc.sl eBlk)))) ([] : (List (Int × (List Int) × (List Blk))))]), (104, .box 28 [.v (Enc.int .i64) v1.1.1, .v (Enc.sl (Enc.int .i64)) v1.1.2.1, .v (Enc.sl eBlk) v1.1.2.2])]⟩) 9 [0, 1, 3, 7, 0, 16, 0, 112, 255] mixed (by exact (.cons (.none rfl) (JO.fieldPtr 1 rfl Try.runUnderlying28 rfl Try.sizeOf25 rfl rfl) rfl rfl (.cons (.none rfl) (JO.load rfl rfl rfl Try.isAgg25 Try.sizeOf25) rfl rfl (.cons (.none rfl) (JO.idx hz36 rfl rfl Try.runUnderlying25 Try.sizeOf3) rfl rfl (.cons (.none rfl) (JO.loadPst rfl Try.isAgg3 Try.sizeOf3) rfl rfl (.cons (.none rfl) (JO.fieldPtr 1 rfl Try.runUnderlying24 rfl Try.sizeOf3 rfl rfl) rfl rfl (.cons (.none rfl) (JO.load rfl rfl rfl Try.isAgg3 Try.sizeOf3) rfl rfl (.cons (.none rfl) (JO.move rfl) rfl rfl (.cons (.none rfl) (JO.arith rfl rfl rfl) rfl rfl (.cons (.none rfl) (JO.cmp rfl rfl rfl) rfl rfl .nil)))))))))) (by exact (J.fin (Sw.Sub.mk id (.cons rfl (.of_eq rfl) (.cons rfl (.of_eq rfl) (.cons rfl (.of_eq rfl) (.cons rfl (.of_eq rfl) (.cons rfl (.of_eq rfl) .nil))))) (.box rfl (.cons (.of_eq rfl) (.cons (.of_eq rfl) (.cons (.of_eq rfl) .nil))) (.box rfl (.cons (.of_eq rfl) (.cons (.of_eq rfl) (.cons (.of_eq rfl) .nil))) (.box rfl (.cons (.of_eq rfl) (.cons (.of_eq rfl) (.cons (.of_eq rfl) .nil))) .nil))) rfl))) rfl (by decide +kernel) (by decide +kernel) (by decide +kernel) (by kernel_rfl) ?_
      rcases Bool.eq_false_or_eq_true (cm .eql z36 (ar .add .i64 a0.2.1 s26)) with hc37 | hc37
      · replace h := cond_t hc37 h
        refine W.condT rfl hc37 ?_
        refine W.seq ?_
        obtain ⟨v38, hv38, h⟩ := bind_e h
        refine W.dr2 (σ' := ⟨[(4, .ptr 102 0)], [(102, .box 24 [.v (Enc.int .i64) a0.1, .v (Enc.int .i64) (ar .add .i64 a0.2.1 s26), .v (Enc.sl (Enc.pr (Enc.int .i64) (Enc.pr (Enc.sl (Enc.int .i64)) (Enc.sl eBlk)))) v38])]⟩) 12 [0, 1, 0, 4, 0, 28, 0, 64, 0, 448, 1023, 2047] mixed (by exact (.cons (.none rfl) (JO.fieldPtr 0 rfl Try.runUnderlying24 rfl Try.sizeOf3 rfl rfl) rfl rfl (.cons (.none rfl) (JO.load rfl rfl rfl Try.isAgg3 Try.sizeOf3) rfl rfl (.cons (.none rfl) (JO.fieldPtr 1 rfl Try.runUnderlying24 rfl Try.sizeOf3 rfl rfl) rfl rfl (.cons (.none rfl) (JO.load rfl rfl rfl Try.isAgg3 Try.sizeOf3) rfl rfl (.cons (.none rfl) (JO.move rfl) rfl rfl (.cons (.none rfl) (JO.arith rfl rfl rfl) rfl rfl (.cons (.none rfl) (JO.fieldPtr 2 rfl Try.runUnderlying24 rfl Try.sizeOf22 rfl rfl) rfl rfl (.cons (.none rfl) (JO.load rfl rfl rfl Try.isAgg22 Try.sizeOf22) rfl rfl (.cons (.none rfl) (JO.move rfl) rfl rfl (.cons (.none rfl) (JO.slLo hv38 rfl rfl Try.runUnderlying22 Try.sizeOf28) rfl rfl (.cons (.none rfl) (JO.build built24 (.cons (Z.int .i64) (.cons (Z.int .i64) (.cons (Z.sl (Enc.pr (Enc.int .i64) (Enc.pr (Enc.sl (Enc.int .i64)) (Enc.sl eBlk)))) .nil))) (.cons rfl (.dir rfl) rfl rfl rfl rfl (.cons rfl (.dir rfl) rfl rfl rfl rfl (.cons rfl (.dir rfl) rfl rfl rfl rfl .nil)))) rfl rfl (JP2.storeAgg (.none rfl) rfl rfl rfl rfl rfl rfl Try.sizeOf24 .nil))))))))))))) (by exact (J.fin (Sw.Sub.mk id (.cons rfl (.of_eq rfl) .nil) (.box rfl (.cons (.of_eq rfl) (.cons (.of_eq rfl) (.cons (.of_eq rfl) .nil))) .nil) rfl))) rfl (by decide +kernel) (by decide +kernel) (by decide +kernel) (by kernel_rfl) ?_
        refine W.ret ?_
        refine XQ.ret ?_
        obtain rfl := Option.some.inj h
        refine XQ.lret fun ho => ?_
        obtain rfl := hr32 _ ho
        exact XQ.sub (σ' := ⟨[(4, .ptr 90 0)], [(90, .box 24 [.v (Enc.int .i64) a0.1, .v (Enc.int .i64) (ar .add .i64 a0.2.1 s26), .v (Enc.sl (Enc.pr (Enc.int .i64) (Enc.pr (Enc.sl (Enc.int .i64)) (Enc.sl eBlk)))) v38])]⟩) (Sw.Sub.mk (rn [(90, 102)]) (.cons rfl (.of_eq rfl) .nil) (.box rfl (.cons (.of_eq rfl) (.cons (.of_eq rfl) (.cons (.of_eq rfl) .nil))) .nil) rfl) (XQ.ret1 hF noR rfl (RV.cellAll rfl rfl (.prm (.one _ _) (.prm (.one _ _) (.one _ _))) Try.isAgg24 Try.sizeOf24) .nil rfl)
      · replace h := cond_f hc37 h
        refine W.condF rfl hc37 ?_
        refine W.skip ?_
        refine W.fall ?_
        refine W.reg (σ' := ⟨[(2, .ptr 101 0), (4, .ptr 102 0), (5, .ptr 104 0), (7, .v (Enc.int .i64) (ar .add .i64 s26 (1 : Int)))], [(101, .box 24 [.v (Enc.int .i64) a0.1, .v (Enc.int .i64) a0.2.1, .v (Enc.sl (Enc.pr (Enc.int .i64) (Enc.pr (Enc.sl (Enc.int .i64)) (Enc.sl eBlk)))) a0.2.2]), (102, .box 24 [.v (Enc.int .i64) (0 : Int), .v (Enc.int .i64) (0 : Int), .v (Enc.sl (Enc.pr (Enc.int .i64) (Enc.pr (Enc.sl (Enc.int .i64)) (Enc.sl eBlk)))) ([] : (List (Int × (List Int) × (List Blk))))]), (104, .box 28 [.v (Enc.int .i64) v1.1.1, .v (Enc.sl (Enc.int .i64)) v1.1.2.1, .v (Enc.sl eBlk) v1.1.2.2])]⟩) (J.cons (.none rfl) (JO.move rfl) rfl rfl (J.cons (.none rfl) (JO.arith rfl rfl rfl) rfl rfl (J.cons (.none rfl) (JO.assign rfl) rfl rfl (J.fin (Sw.Sub.mk id (.cons rfl (.of_eq rfl) (.cons rfl (.of_eq rfl) (.cons rfl (.of_eq rfl) (.cons rfl (.of_eq rfl) .nil)))) (.box rfl (.cons (.of_eq rfl) (.cons (.of_eq rfl) (.cons (.of_eq rfl) .nil))) (.box rfl (.cons (.of_eq rfl) (.cons (.of_eq rfl) (.cons (.of_eq rfl) .nil))) (.box rfl (.cons (.of_eq rfl) (.cons (.of_eq rfl) (.cons (.of_eq rfl) .nil))) .nil))) rfl))))) ?_
        obtain rfl := Option.some.inj h
        exact W.next (Sw.Sub.mk id (.cons rfl (.of_eq rfl) (.cons rfl (.of_eq rfl) (.cons rfl (.of_eq rfl) (.cons rfl (.of_eq rfl) .nil)))) (.box rfl (.cons (.of_eq rfl) (.cons (.of_eq rfl) (.cons (.of_eq rfl) .nil))) (.box rfl (.cons (.of_eq rfl) (.cons (.of_eq rfl) (.cons (.of_eq rfl) .nil))) (.box rfl (.cons (.of_eq rfl) (.cons (.of_eq rfl) (.cons (.of_eq rfl) .nil))) .nil))) rfl)
    · replace h := cond_f hc35 h
      refine W.condF rfl hc35 ?_
      refine W.exit ?_
      obtain rfl := Option.some.inj h
      exact XQ.brk (Sw.Sub.mk id (.cons rfl (.of_eq rfl) (.cons rfl (.of_eq rfl) .nil)) (.box rfl (.cons (.of_eq rfl) (.cons (.of_eq rfl) (.cons (.of_eq rfl) .nil))) (.box rfl (.cons (.of_eq rfl) (.cons (.of_eq rfl) (.cons (.of_eq rfl) .nil))) .nil)) rfl)
set_option maxRecDepth 100000 in
set_option maxHeartbeats 4000000 in
theorem con_link_number_1 {a0 : Int} {r : Bool} (h : m_link_number_1 a0 = some r) :
    Con Try.prog 129 [.v (Enc.int .i64) a0] (.v Enc.bool r) [] := by
  refine Con.of Try.func129 rfl Try.ntmps129 rfl ?_
  intro S w hF
  unfold m_link_number_1 at h
  refine W.seq ?_
  refine W.reg (σ' := ⟨[(0, .v (Enc.int .i64) a0)], []⟩) (J.cons (.none rfl) (JO.assign rfl) rfl rfl (J.fin (Sw.Sub.mk id (.cons rfl (.of_eq rfl) .nil) .nil rfl))) ?_
  refine W.seq ?_
  obtain ⟨x2, hx, h⟩ := bind_e h
  refine W.reg (σ' := ⟨[(2, .v Enc.bool x2)], []⟩) ?_ ?_
  · rcases Bool.eq_false_or_eq_true (cm .lss a0 (0 : Int)) with hc3 | hc3
    · replace hx := cond_t hc3 hx
      obtain rfl := Option.some.inj hx
      exact (J.cons (.none rfl) (JO.move rfl) rfl rfl (J.cons (.none rfl) (JO.cmp rfl rfl rfl) rfl rfl (J.cons (.none rfl) (JO.move rfl) rfl rfl (J.left (GK.unmet 5 rfl rfl rfl hc3) rfl (J.left (GK.unmet 5 rfl rfl rfl hc3) rfl (J.cons (.none rfl) (JO.pT hc3 rfl rfl) rfl rfl (J.cons (.none rfl) (JO.assign rfl) rfl rfl (J.fin (Sw.Sub.mk id (.cons rfl (.of_eq rfl) .nil) .nil rfl)))))))))
    · replace hx := cond_f hc3 hx
      obtain rfl := Option.some.inj hx
      exact (J.cons (.none rfl) (JO.move rfl) rfl rfl (J.cons (.none rfl) (JO.cmp rfl rfl rfl) rfl rfl (J.cons (.none rfl) (JO.move rfl) rfl rfl (J.cons (GK.met 5 rfl rfl rfl hc3) (JO.move rfl) rfl rfl (J.cons (GK.met 5 rfl rfl rfl hc3) (JO.cmp rfl rfl rfl) rfl rfl (J.cons (.none rfl) (JO.pF hc3 rfl rfl) rfl rfl (J.cons (.none rfl) (JO.assign rfl) rfl rfl (J.fin (Sw.Sub.mk id (.cons rfl (.of_eq rfl) .nil) .nil rfl)))))))))
  refine W.ret ?_
  obtain rfl := Option.some.inj h
  exact XQ.sub (σ' := ⟨[(2, .v Enc.bool x2)], []⟩) (Sw.Sub.mk id (.cons rfl (.of_eq rfl) .nil) .nil rfl) (XQ.ret1 hF noR rfl (RV.tmp rfl) .nil rfl)
set_option maxRecDepth 100000 in
set_option maxHeartbeats 4000000 in
theorem con_slices_IndexFunc_int_int__link_number_1 {a0 : (List Int)} {r : Int} (h : m_slices_IndexFunc_int_int__link_number_1 a0 = some r) :
    Con Try.prog 134 [.v (Enc.sl (Enc.int .i64)) a0, .fnc 129 []] (.v (Enc.int .i64) r) [] := by
  refine Con.of Try.func134 rfl Try.ntmps134 rfl ?_
  intro S w hF
  unfold m_slices_IndexFunc_int_int__link_number_1 at h
  refine W.seq ?_
  refine W.reg (σ' := ⟨[(0, .v (Enc.sl (Enc.int .i64)) a0), (1, .fnc 129 [])], []⟩) (J.cons (.none rfl) (JO.assign rfl) rfl rfl (J.fin (Sw.Sub.mk id (.cons rfl (.of_eq rfl) (.cons rfl (.of_eq rfl) .nil)) .nil rfl))) ?_
  refine W.seq ?_
  refine W.seq ?_
  refine W.reg (σ' := ⟨[(0, .v (Enc.sl (Enc.int .i64)) a0), (1, .fnc 129 []), (7, .v (Enc.int .i64) (a0.length : Int)), (8, .v (Enc.int .i64) (0 : Int))], []⟩) (J.cons (.none rfl) (JO.move rfl) rfl rfl (J.cons (.none rfl) (JO.len rfl Try.runUnderlying25) rfl rfl (J.cons (.none rfl) (JO.move rfl) rfl rfl (J.fin (Sw.Sub.mk id (.cons rfl (.of_eq rfl) (.cons rfl (.of_eq rfl) (.cons rfl (.of_eq rfl) (.cons rfl (.of_eq rfl) .nil)))) .nil rfl))))) ?_
  obtain ⟨o16, ho16, hb16, hr16⟩ := lp_elim h
  refine W.lp (σs := fun s11 : Int => ⟨[(0, .v (Enc.sl (Enc.int .i64)) a0), (1, .fnc 129 []), (7, .v (Enc.int .i64) (a0.length : Int)), (8, .v (Enc.int .i64) s11)], []⟩) (fun x17 : Unit => ⟨[], []⟩) ho16 (Sw.Sub.mk id (.cons rfl (.of_eq rfl) (.cons rfl (.of_eq rfl) (.cons rfl (.of_eq rfl) (.cons rfl (.of_eq rfl) .nil)))) .nil rfl) ?_ ?_
  · intro x17 hy
    have h := hb16 _ hy
    refine W.seq ?_
    refine W.reg (σ' := ⟨[(4, .v (Enc.int .i64) (-1 : Int))], []⟩) (J.cons (.none rfl) (JO.assign rfl) rfl rfl (J.fin (Sw.Sub.mk id (.cons rfl (.of_eq rfl) .nil) .nil rfl))) ?_
    refine W.ret ?_
    obtain rfl := Option.some.inj h
    exact XQ.sub (σ' := ⟨[(4, .v (Enc.int .i64) (-1 : Int))], []⟩) (Sw.Sub.mk id (.cons rfl (.of_eq rfl) .nil) .nil rfl) (XQ.ret1 hF noR rfl (RV.tmp rfl) .nil rfl)
  intro s11 r16 h
  refine W.seq ?_
  refine W.reg (σ' := ⟨[(0, .v (Enc.sl (Enc.int .i64)) a0), (1, .fnc 129 []), (7, .v (Enc.int .i64) (a0.length : Int)), (8, .v (Enc.int .i64) s11), (9, .v Enc.bool (cm .lss s11 (a0.length : Int)))], []⟩) (J.cons (.none rfl) (JO.cmp rfl rfl rfl) rfl rfl (J.fin (Sw.Sub.mk id (.cons rfl (.of_eq rfl) (.cons rfl (.of_eq rfl) (.cons rfl (.of_eq rfl) (.cons rfl (.of_eq rfl) (.cons rfl (.of_eq rfl) .nil))))) .nil rfl))) ?_
  refine W.seq ?_
  rcases Bool.eq_false_or_eq_true (cm .lss s11 (a0.length : Int)) with hc18 | hc18
  · replace h := cond_t hc18 h
    refine W.condT rfl hc18 ?_
    refine W.skip ?_
    refine W.seq ?_
    refine W.block ?_
    refine W.seq ?_
    refine W.reg (σ' := ⟨[(0, .v (Enc.sl (Enc.int .i64)) a0), (1, .fnc 129 []), (5, .v (Enc.int .i64) s11), (7, .v (Enc.int .i64) (a0.length : Int)), (8, .v (Enc.int .i64) s11)], []⟩) (J.cons (.none rfl) (JO.move rfl) rfl rfl (J.cons (.none rfl) (JO.assign rfl) rfl rfl (J.fin (Sw.Sub.mk id (.cons rfl (.of_eq rfl) (.cons rfl (.of_eq rfl) (.cons rfl (.of_eq rfl) (.cons rfl (.of_eq rfl) (.cons rfl (.of_eq rfl) .nil))))) .nil rfl)))) ?_
    refine W.seq ?_
    obtain ⟨z19, hz19, h⟩ := bind_e h
    obtain ⟨v20, hv20, h⟩ := bind_e h
    refine W.reg (σ' := ⟨[(0, .v (Enc.sl (Enc.int .i64)) a0), (1, .fnc 129 []), (5, .v (Enc.int .i64) s11), (7, .v (Enc.int .i64) (a0.length : Int)), (8, .v (Enc.int .i64) s11), (16, .v Enc.bool v20)], []⟩) (J.cons (.none rfl) (JO.move rfl) rfl rfl (J.cons (.none rfl) (JO.move rfl) rfl rfl (J.cons (.none rfl) (JO.move rfl) rfl rfl (J.cons (.none rfl) (JO.idx hz19 rfl rfl Try.runUnderlying25 Try.sizeOf3) rfl rfl (J.cons (.none rfl) (JO.loadPst rfl Try.isAgg3 Try.sizeOf3) rfl rfl (J.cons (.none rfl) (JO.callF0 rfl (con_link_number_1 hv20) Try.call129 (.cons (.dir rfl) .nil)) rfl rfl (J.fin (Sw.Sub.mk id (.cons rfl (.of_eq rfl) (.cons rfl (.of_eq rfl) (.cons rfl (.of_eq rfl) (.cons rfl (.of_eq rfl) (.cons rfl (.of_eq rfl) (.cons rfl (.of_eq rfl) .nil)))))) .nil rfl)))))))) ?_
    rcases Bool.eq_false_or_eq_true v20 with hc21 | hc21
    · replace h := cond_t hc21 h
      refine W.condT rfl hc21 ?_
      refine W.seq ?_
      refine W.reg (σ' := ⟨[(4, .v (Enc.int .i64) s11)], []⟩) (J.cons (.none rfl) (JO.move rfl) rfl rfl (J.cons (.none rfl) (JO.assign rfl) rfl rfl (J.fin (Sw.Sub.mk id (.cons rfl (.of_eq rfl) .nil) .nil rfl)))) ?_
      refine W.ret ?_
      refine XQ.ret ?_
      obtain rfl := Option.some.inj h
      refine XQ.lret fun ho => ?_
      obtain rfl := hr16 _ ho
      exact XQ.sub (σ' := ⟨[(4, .v (Enc.int .i64) s11)], []⟩) (Sw.Sub.mk id (.cons rfl (.of_eq rfl) .nil) .nil rfl) (XQ.ret1 hF noR rfl (RV.tmp rfl) .nil rfl)
    · replace h := cond_f hc21 h
      refine W.condF rfl hc21 ?_
      refine W.skip ?_
      refine W.fall ?_
      refine W.reg (σ' := ⟨[(0, .v (Enc.sl (Enc.int .i64)) a0), (1, .fnc 129 []), (7, .v (Enc.int .i64) (a0.length : Int)), (8, .v (Enc.int .i64) (ar .add .i64 s11 (1 : Int)))], []⟩) (J.cons (.none rfl) (JO.arith rfl rfl rfl) rfl rfl (J.cons (.none rfl) (JO.move rfl) rfl rfl (J.fin (Sw.Sub.mk id (.cons rfl (.of_eq rfl) (.cons rfl (.of_eq rfl) (.cons rfl (.of_eq rfl) (.cons rfl (.of_eq rfl) .nil)))) .nil rfl)))) ?_
      obtain rfl := Option.some.inj h
      exact W.next (Sw.Sub.mk id (.cons rfl (.of_eq rfl) (.cons rfl (.of_eq rfl) (.cons rfl (.of_eq rfl) (.cons rfl (.of_eq rfl) .nil)))) .nil rfl)
  · replace h := cond_f hc18 h
    refine W.condF rfl hc18 ?_
    refine W.exit ?_
    obtain rfl := Option.some.inj h
    exact XQ.brk (Sw.Sub.mk id .nil .nil rfl)
set_option maxRecDepth 100000 in
set_option maxHeartbeats 4000000 in
theorem con_slices_ContainsFunc_int_int__link_number_1 {a0 : (List Int)} {r : Bool} (h : m_slices_ContainsFunc_int_int__link_number_1 a0 = some r) :
    Con Try.prog 97 [.v (Enc.sl (Enc.int .i64)) a0, .fnc 129 []] (.v Enc.bool r) [] := by
  refine Con.of Try.func97 rfl Try.ntmps97 rfl ?_
  intro S w hF
  unfold m_slices_ContainsFunc_int_int__link_number_1 at h
  refine W.seq ?_
  refine W.reg (σ' := ⟨[(0, .v (Enc.sl (Enc.int .i64)) a0), (1, .fnc 129 [])], []⟩) (J.cons (.none rfl) (JO.assign rfl) rfl rfl (J.fin (Sw.Sub.mk id (.cons rfl (.of_eq rfl) (.cons rfl (.of_eq rfl) .nil)) .nil rfl))) ?_
  refine W.seq ?_
  obtain ⟨v1, hv1, h⟩ := bind_e h
  refine W.reg (σ' := ⟨[(4, .v Enc.bool (cm .geq v1 (0 : Int)))], []⟩) (J.cons (.none rfl) (JO.move rfl) rfl rfl (J.cons (.none rfl) (JO.move rfl) rfl rfl (J.cons (.none rfl) (JO.call0 (con_slices_IndexFunc_int_int__link_number_1 hv1) Try.call134 (.cons (.dir rfl) (.cons (.dir rfl) .nil))) rfl rfl (J.cons (.none rfl) (JO.cmp rfl rfl rfl) rfl rfl (J.cons (.none rfl) (JO.assign rfl) rfl rfl (J.fin (Sw.Sub.mk id (.cons rfl (.of_eq rfl) .nil) .nil rfl))))))) ?_
  refine W.ret ?_
  obtain rfl := Option.some.inj h
  exact XQ.sub (σ' := ⟨[(4, .v Enc.bool (cm .geq v1 (0 : Int)))], []⟩) (Sw.Sub.mk id (.cons rfl (.of_eq rfl) .nil) .nil rfl) (XQ.ret1 hF noR rfl (RV.tmp rfl) .nil rfl)
set_option maxRecDepth 100000 in
set_option maxHeartbeats 4000000 in
theorem con_link_number {a0 : (List Int)} {r : Bool} (h : m_link_number a0 = some r) :
    Con Try.prog 66 [.v (Enc.sl (Enc.int .i64)) a0] (.v Enc.bool r) [] := by
  refine Con.of Try.func66 rfl Try.ntmps66 rfl ?_
  intro S w hF
  unfold m_link_number at h
  refine W.seq ?_
  refine W.reg (σ' := ⟨[(0, .v (Enc.sl (Enc.int .i64)) a0)], []⟩) (J.cons (.none rfl) (JO.assign rfl) rfl rfl (J.fin (Sw.Sub.mk id (.cons rfl (.of_eq rfl) .nil) .nil rfl))) ?_
  refine W.seq ?_
  obtain ⟨v1, hv1, h⟩ := bind_e h
  refine W.reg (σ' := ⟨[(2, .v Enc.bool (!v1))], []⟩) (J.cons (.none rfl) (JO.move rfl) rfl rfl (J.cons (.none rfl) (JO.call0 (con_slices_ContainsFunc_int_int__link_number_1 hv1) Try.call97 (.cons (.dir rfl) (.cons .fn .nil))) rfl rfl (J.cons (.none rfl) (JO.not rfl) rfl rfl (J.cons (.none rfl) (JO.assign rfl) rfl rfl (J.fin (Sw.Sub.mk id (.cons rfl (.of_eq rfl) .nil) .nil rfl)))))) ?_
  refine W.ret ?_
  obtain rfl := Option.some.inj h
  exact XQ.sub (σ' := ⟨[(2, .v Enc.bool (!v1))], []⟩) (Sw.Sub.mk id (.cons rfl (.of_eq rfl) .nil) .nil rfl) (XQ.ret1 hF noR rfl (RV.tmp rfl) .nil rfl)
set_option maxRecDepth 100000 in
set_option maxHeartbeats 4000000 in
theorem con_frame_Check_1 {a0 : Int} {r : Bool} (h : m_frame_Check_1 a0 = some r) :
    Con Try.prog 98 [.v (Enc.int .i64) a0] (.v Enc.bool r) [] := by
  refine Con.of Try.func98 rfl Try.ntmps98 rfl ?_
  intro S w hF
  unfold m_frame_Check_1 at h
  refine W.seq ?_
  refine W.reg (σ' := ⟨[(0, .v (Enc.int .i64) a0)], []⟩) (J.cons (.none rfl) (JO.assign rfl) rfl rfl (J.fin (Sw.Sub.mk id (.cons rfl (.of_eq rfl) .nil) .nil rfl))) ?_
  refine W.seq ?_
  obtain ⟨x2, hx, h⟩ := bind_e h
  refine W.reg (σ' := ⟨[(2, .v Enc.bool x2)], []⟩) ?_ ?_
  · rcases Bool.eq_false_or_eq_true (cm .lss a0 (0 : Int)) with hc3 | hc3
    · replace hx := cond_t hc3 hx
      obtain rfl := Option.some.inj hx
      exact (J.cons (.none rfl) (JO.move rfl) rfl rfl (J.cons (.none rfl) (JO.cmp rfl rfl rfl) rfl rfl (J.cons (.none rfl) (JO.move rfl) rfl rfl (J.left (GK.unmet 5 rfl rfl rfl hc3) rfl (J.left (GK.unmet 5 rfl rfl rfl hc3) rfl (J.cons (.none rfl) (JO.pT hc3 rfl rfl) rfl rfl (J.cons (.none rfl) (JO.assign rfl) rfl rfl (J.fin (Sw.Sub.mk id (.cons rfl (.of_eq rfl) .nil) .nil rfl)))))))))
    · replace hx := cond_f hc3 hx
      obtain rfl := Option.some.inj hx
      exact (J.cons (.none rfl) (JO.move rfl) rfl rfl (J.cons (.none rfl) (JO.cmp rfl rfl rfl) rfl rfl (J.cons (.none rfl) (JO.move rfl) rfl rfl (J.cons (GK.met 5 rfl rfl rfl hc3) (JO.move rfl) rfl rfl (J.cons (GK.met 5 rfl rfl rfl hc3) (JO.cmp rfl rfl rfl) rfl rfl (J.cons (.none rfl) (JO.pF hc3 rfl rfl) rfl rfl (J.cons (.none rfl) (JO.assign rfl) rfl rfl (J.fin (Sw.Sub.mk id (.cons rfl (.of_eq rfl) .nil) .nil rfl)))))))))
  refine W.ret ?_
  obtain rfl := Option.some.inj h
  exact XQ.sub (σ' := ⟨[(2, .v Enc.bool x2)], []⟩) (Sw.Sub.mk id (.cons rfl (.of_eq rfl) .nil) .nil rfl) (XQ.ret1 hF noR rfl (RV.tmp rfl) .nil rfl)
set_option maxRecDepth 100000 in
set_option maxHeartbeats 4000000 in
theorem con_slices_IndexFunc_int_int__frame_Check_1 {a0 : (List Int)} {r : Int} (h : m_slices_IndexFunc_int_int__frame_Check_1 a0 = some r) :
    Con Try.prog 134 [.v (Enc.sl (Enc.int .i64)) a0, .fnc 98 []] (.v (Enc.int .i64) r) [] := by
  refine Con.of Try.func134 rfl Try.ntmps134 rfl ?_
  intro S w hF
  unfold m_slices_IndexFunc_int_int__frame_Check_1 at h
  refine W.seq ?_
  refine W.reg (σ' := ⟨[(0, .v (Enc.sl (Enc.int .i64)) a0), (1, .fnc 98 [])], []⟩) (J.cons (.none rfl) (JO.assign rfl) rfl rfl (J.fin (Sw.Sub.mk id (.cons rfl (.of_eq rfl) (.cons rfl (.of_eq rfl) .nil)) .nil rfl))) ?_
  refine W.seq ?_
  refine W.seq ?_
  refine W.reg (σ' := ⟨[(0, .v (Enc.sl (Enc.int .i64)) a0), (1, .fnc 98 []), (7, .v (Enc.int .i64) (a0.length : Int)), (8, .v (Enc.int .i64) (0 : Int))], []⟩) (J.cons (.none rfl) (JO.move rfl) rfl rfl (J.cons (.none rfl) (JO.len rfl Try.runUnderlying25) rfl rfl (J.cons (.none rfl) (JO.move rfl) rfl rfl (J.fin (Sw.Sub.mk id (.cons rfl (.of_eq rfl) (.cons rfl (.of_eq rfl) (.cons rfl (.of_eq rfl) (.cons rfl (.of_eq rfl) .nil)))) .nil rfl))))) ?_
  obtain ⟨o16, ho16, hb16, hr16⟩ := lp_elim h
  refine W.lp (σs := fun s11 : Int => ⟨[(0, .v (Enc.sl (Enc.int .i64)) a0), (1, .fnc 98 []), (7, .v (Enc.int .i64) (a0.length : Int)), (8, .v (Enc.int .i64) s11)], []⟩) (fun x17 : Unit => ⟨[], []⟩) ho16 (Sw.Sub.mk id (.cons rfl (.of_eq rfl) (.cons rfl (.of_eq rfl) (.cons rfl (.of_eq rfl) (.cons rfl (.of_eq rfl) .nil)))) .nil rfl) ?_ ?_
  · intro x17 hy
    have h := hb16 _ hy
    refine W.seq ?_
    refine W.reg (σ' := ⟨[(4, .v (Enc.int .i64) (-1 : Int))], []⟩) (J.cons (.none rfl) (JO.assign rfl) rfl rfl (J.fin (Sw.Sub.mk id (.cons rfl (.of_eq rfl) .nil) .nil rfl))) ?_
    refine W.ret ?_
    obtain rfl := Option.some.inj h
    exact XQ.sub (σ' := ⟨[(4, .v (Enc.int .i64) (-1 : Int))], []⟩) (Sw.Sub.mk id (.cons rfl (.of_eq rfl) .nil) .nil rfl) (XQ.ret1 hF noR rfl (RV.tmp rfl) .nil rfl)
  intro s11 r16 h
  refine W.seq ?_
  refine W.reg (σ' := ⟨[(0, .v (Enc.sl (Enc.int .i64)) a0), (1, .fnc 98 []), (7, .v (Enc.int .i64) (a0.length : Int)), (8, .v (Enc.int .i64) s11), (9, .v Enc.bool (cm .lss s11 (a0.length : Int)))], []⟩) (J.cons (.none rfl) (JO.cmp rfl rfl rfl) rfl rfl (J.fin (Sw.Sub.mk id (.cons rfl (.of_eq rfl) (.cons rfl (.of_eq rfl) (.cons rfl (.of_eq rfl) (.cons rfl (.of_eq rfl) (.cons rfl (.of_eq rfl) .nil))))) .nil rfl))) ?_
  refine W.seq ?_
  rcases Bool.eq_false_or_eq_true (cm .lss s11 (a0.length : Int)) with hc18 | hc18
  · replace h := cond_t hc18 h
    refine W.condT rfl hc18 ?_
    refine W.skip ?_
    refine W.seq ?_
    refine W.block ?_
    refine W.seq ?_
    refine W.reg (σ' := ⟨[(0, .v (Enc.sl (Enc.int .i64)) a0), (1, .fnc 98 []), (5, .v (Enc.int .i64) s11), (7, .v (Enc.int .i64) (a0.length : Int)), (8, .v (Enc.int .i64) s11)], []⟩) (J.cons (.none rfl) (JO.move rfl) rfl rfl (J.cons (.none rfl) (JO.assign rfl) rfl rfl (J.fin (Sw.Sub.mk id (.cons rfl (.of_eq rfl) (.cons rfl (.of_eq rfl) (.cons rfl (.of_eq rfl) (.cons rfl (.of_eq rfl) (.cons rfl (.of_eq rfl) .nil))))) .nil rfl)))) ?_
    refine W.seq ?_
    obtain ⟨z19, hz19, h⟩ := bind_e h
    obtain ⟨v20, hv20, h⟩ := bind_e h
    refine W.reg (σ' := ⟨[(0, .v (Enc.sl (Enc.int .i64)) a0), (1, .fnc 98 []), (5, .v (Enc.int .i64) s11), (7, .v (Enc.int .i64) (a0.length : Int)), (8, .v (Enc.int .i64) s11), (16, .v Enc.bool v20)], []⟩) (J.cons (.none rfl) (JO.move rfl) rfl rfl (J.cons (.none rfl) (JO.move rfl) rfl rfl (J.cons (.none rfl) (JO.move rfl) rfl rfl (J.cons (.none rfl) (JO.idx hz19 rfl rfl Try.runUnderlying25 Try.sizeOf3) rfl rfl (J.cons (.none rfl) (JO.loadPst rfl Try.isAgg3 Try.sizeOf3) rfl rfl (J.cons (.none rfl) (JO.callF0 rfl (con_frame_Check_1 hv20) Try.call98 (.cons (.dir rfl) .nil)) rfl rfl (J.fin (Sw.Sub.mk id (.cons rfl (.of_eq rfl) (.cons rfl (.of_eq rfl) (.cons rfl (.of_eq rfl) (.cons rfl (.of_eq rfl) (.cons rfl (.of_eq rfl) (.cons rfl (.of_eq rfl) .nil)))))) .nil rfl)))))))) ?_
    rcases Bool.eq_false_or_eq_true v20 with hc21 | hc21
    · replace h := cond_t hc21 h
      refine W.condT rfl hc21 ?_
      refine W.seq ?_
      refine W.reg (σ' := ⟨[(4, .v (Enc.int .i64) s11)], []⟩) (J.cons (.none rfl) (JO.move rfl) rfl rfl (J.cons (.none rfl) (JO.assign rfl) rfl rfl (J.fin (Sw.Sub.mk id (.cons rfl (.of_eq rfl) .nil) .nil rfl)))) ?_
      refine W.ret ?_
      refine XQ.ret ?_
      obtain rfl := Option.some.inj h
      refine XQ.lret fun ho => ?_
      obtain rfl := hr16 _ ho
      exact XQ.sub (σ' := ⟨[(4, .v (Enc.int .i64) s11)], []⟩) (Sw.Sub.mk id (.cons rfl (.of_eq rfl) .nil) .nil rfl) (XQ.ret1 hF noR rfl (RV.tmp rfl) .nil rfl)
    · replace h := cond_f hc21 h
      refine W.condF rfl hc21 ?_
      refine W.skip ?_
      refine W.fall ?_
      refine W.reg (σ' := ⟨[(0, .v (Enc.sl (Enc.int .i64)) a0), (1, .fnc 98 []), (7, .v (Enc.int .i64) (a0.length : Int)), (8, .v (Enc.int .i64) (ar .add .i64 s11 (1 : Int)))], []⟩) (J.cons (.none rfl) (JO.arith rfl rfl rfl) rfl rfl (J.cons (.none rfl) (JO.move rfl) rfl rfl (J.fin (Sw.Sub.mk id (.cons rfl (.of_eq rfl) (.cons rfl (.of_eq rfl) (.cons rfl (.of_eq rfl) (.cons rfl (.of_eq rfl) .nil)))) .nil rfl)))) ?_
      obtain rfl := Option.some.inj h
      exact W.next (Sw.Sub.mk id (.cons rfl (.of_eq rfl) (.cons rfl (.of_eq rfl) (.cons rfl (.of_eq rfl) (.cons rfl (.of_eq rfl) .nil)))) .nil rfl)
  · replace h := cond_f hc18 h
    refine W.condF rfl hc18 ?_
    refine W.exit ?_
    obtain rfl := Option.some.inj h
    exact XQ.brk (Sw.Sub.mk id .nil .nil rfl)
set_option maxRecDepth 100000 in
set_option maxHeartbeats 4000000 in
theorem con_slices_ContainsFunc_int_int__frame_Check_1 {a0 : (List Int)} {r : Bool} (h : m_slices_ContainsFunc_int_int__frame_Check_1 a0 = some r) :
    Con Try.prog 97 [.v (Enc.sl (Enc.int .i64)) a0, .fnc 98 []] (.v Enc.bool r) [] := by
  refine Con.of Try.func97 rfl Try.ntmps97 rfl ?_
  intro S w hF
  unfold m_slices_ContainsFunc_int_int__frame_Check_1 at h
  refine W.seq ?_
  refine W.reg (σ' := ⟨[(0, .v (Enc.sl (Enc.int .i64)) a0), (1, .fnc 98 [])], []⟩) (J.cons (.none rfl) (JO.assign rfl) rfl rfl (J.fin (Sw.Sub.mk id (.cons rfl (.of_eq rfl) (.cons rfl (.of_eq rfl) .nil)) .nil rfl))) ?_
  refine W.seq ?_
  obtain ⟨v1, hv1, h⟩ := bind_e h
  refine W.reg (σ' := ⟨[(4, .v Enc.bool (cm .geq v1 (0 : Int)))], []⟩) (J.cons (.none rfl) (JO.move rfl) rfl rfl (J.cons (.none rfl) (JO.move rfl) rfl rfl (J.cons (.none rfl) (JO.call0 (con_slices_IndexFunc_int_int__frame_Check_1 hv1) Try.call134 (.cons (.dir rfl) (.cons (.dir rfl) .nil))) rfl rfl (J.cons (.none rfl) (JO.cmp rfl rfl rfl) rfl rfl (J.cons (.none rfl) (JO.assign rfl) rfl rfl (J.fin (Sw.Sub.mk id (.cons rfl (.of_eq rfl) .nil) .nil rfl))))))) ?_
  refine W.ret ?_
  obtain rfl := Option.some.inj h
  exact XQ.sub (σ' := ⟨[(4, .v Enc.bool (cm .geq v1 (0 : Int)))], []⟩) (Sw.Sub.mk id (.cons rfl (.of_eq rfl) .nil) .nil rfl) (XQ.ret1 hF noR rfl (RV.tmp rfl) .nil rfl)
set_option maxRecDepth 100000 in
set_option maxHeartbeats 4000000 in
theorem con_frame_Check {a0 : (Int × (List Int) × (List Blk))} {r : (Option Int)} (h : m_frame_Check a0 = some r) :
    Con Try.prog 47 [.v (Enc.pr (Enc.int .i64) (Enc.pr (Enc.sl (Enc.int .i64)) (Enc.sl eBlk))) a0] (.v (Enc.err ET) r) [] := by
  refine Con.of Try.func47 rfl Try.ntmps47 rfl ?_
  intro S w hF
  unfold m_frame_Check at h
  refine W.seq ?_
  refine W.reg (σ' := ⟨[(1, .ptr 101 0)], [(101, .box 28 [.v (Enc.int .i64) a0.1, .v (Enc.sl (Enc.int .i64)) a0.2.1, .v (Enc.sl eBlk) a0.2.2])]⟩) (J.cons (.none rfl) (JO.box 101 rfl (.prm (.one _ _) (.prm (.one _ _) (.one _ _))) rfl) rfl rfl (J.cons (.none rfl) (JO.assignNilE ET) rfl rfl (J.fin (Sw.Sub.mk id (.cons rfl (.of_eq rfl) .nil) (.box rfl (.cons (.of_eq rfl) (.cons (.of_eq rfl) (.cons (.of_eq rfl) .nil))) .nil) rfl)))) ?_
  refine W.seq ?_
  refine W.seq ?_
  obtain ⟨x2, hx, h⟩ := bind_e h
  refine W.reg (σ' := ⟨[(1, .ptr 101 0), (10, .v Enc.bool x2)], [(101, .box 28 [.v (Enc.int .i64) a0.1, .v (Enc.sl (Enc.int .i64)) a0.2.1, .v (Enc.sl eBlk) a0.2.2])]⟩) ?_ ?_
  · rcases Bool.eq_false_or_eq_true (cm .lss a0.1 (0 : Int)) with hc3 | hc3
    · replace hx := cond_t hc3 hx
      obtain rfl := Option.some.inj hx
      exact (J.cons (.none rfl) (JO.fieldPtr 0 rfl Try.runUnderlying28 rfl Try.sizeOf3 rfl rfl) rfl rfl (J.cons (.none rfl) (JO.load rfl rfl rfl Try.isAgg3 Try.sizeOf3) rfl rfl (J.cons (.none rfl) (JO.cmp rfl rfl rfl) rfl rfl (J.cons (.none rfl) (JO.move rfl) rfl rfl (J.left (GK.unmet 6 rfl rfl rfl hc3) rfl (J.left (GK.unmet 6 rfl rfl rfl hc3) rfl (J.left (GK.unmet 6 rfl rfl rfl hc3) rfl (J.cons (.none rfl) (JO.pT hc3 rfl rfl) rfl rfl (J.fin (Sw.Sub.mk id (.cons rfl (.of_eq rfl) (.cons rfl (.of_eq rfl) .nil)) (.box rfl (.cons (.of_eq rfl) (.cons (.of_eq rfl) (.cons (.of_eq rfl) .nil))) .nil) rfl))))))))))
    · replace hx := cond_f hc3 hx
      obtain rfl := Option.some.inj hx
      exact (J.cons (.none rfl) (JO.fieldPtr 0 rfl Try.runUnderlying28 rfl Try.sizeOf3 rfl rfl) rfl rfl (J.cons (.none rfl) (JO.load rfl rfl rfl Try.isAgg3 Try.sizeOf3) rfl rfl (J.cons (.none rfl) (JO.cmp rfl rfl rfl) rfl rfl (J.cons (.none rfl) (JO.move rfl) rfl rfl (J.cons (GK.met 6 rfl rfl rfl hc3) (JO.fieldPtr 0 rfl Try.runUnderlying28 rfl Try.sizeOf3 rfl rfl) rfl rfl (J.cons (GK.met 6 rfl rfl rfl hc3) (JO.load rfl rfl rfl Try.isAgg3 Try.sizeOf3) rfl rfl (J.cons (GK.met 6 rfl rfl rfl hc3) (JO.cmp rfl rfl rfl) rfl rfl (J.cons (.none rfl) (JO.pF hc3 rfl rfl) rfl rfl (J.fin (Sw.Sub.mk id (.cons rfl (.of_eq rfl) (.cons rfl (.of_eq rfl) .nil)) (.box rfl (.cons (.of_eq rfl) (.cons (.of_eq rfl) (.cons (.of_eq rfl) .nil))) .nil) rfl))))))))))
  rcases Bool.eq_false_or_eq_true x2 with hc4 | hc4
  · replace h := cond_t hc4 h
    refine W.condT rfl hc4 ?_
    refine W.seq ?_
    refine W.reg (σ' := ⟨[(2, .v (Enc.err ET) (some (1 : Int)))], []⟩) (J.cons (.none rfl) (JO.mkErr Try.runUnderlying29 rfl) rfl rfl (J.cons (.none rfl) (JO.assign rfl) rfl rfl (J.fin (Sw.Sub.mk id (.cons rfl (.of_eq rfl) .nil) .nil rfl)))) ?_
    refine W.ret ?_
    obtain rfl := Option.some.inj h
    exact XQ.sub (σ' := ⟨[(2, .v (Enc.err ET) (some (1 : Int)))], []⟩) (Sw.Sub.mk id (.cons rfl (.of_eq rfl) .nil) .nil rfl) (XQ.ret1 hF noR rfl (RV.tmp rfl) .nil rfl)
  · replace h := cond_f hc4 h
    refine W.condF rfl hc4 ?_
    refine W.skip ?_
    refine W.seq ?_
    refine W.seq ?_
    obtain ⟨x6, hx, h⟩ := bind_e h
    refine W.reg (σ' := ⟨[(1, .ptr 101 0), (21, .v Enc.bool x6)], [(101, .box 28 [.v (Enc.int .i64) a0.1, .v (Enc.sl (Enc.int .i64)) a0.2.1, .v (Enc.sl eBlk) a0.2.2])]⟩) ?_ ?_
    · rcases Bool.eq_false_or_eq_true (cm .gtr (a0.2.1.length : Int) (12 : Int)) with hc7 | hc7
      · replace hx := cond_t hc7 hx
        obtain rfl := Option.some.inj hx
        exact (J.cons (.none rfl) (JO.fieldPtr 1 rfl Try.runUnderlying28 rfl Try.sizeOf25 rfl rfl) rfl rfl (J.cons (.none rfl) (JO.load rfl rfl rfl Try.isAgg25 Try.sizeOf25) rfl rfl (J.cons (.none rfl) (JO.len rfl Try.runUnderlying25) rfl rfl (J.cons (.none rfl) (JO.cmp rfl rfl rfl) rfl rfl (J.cons (.none rfl) (JO.move rfl) rfl rfl (J.left (GK.unmet 16 rfl rfl rfl hc7) rfl (J.left (GK.unmet 16 rfl rfl rfl hc7) rfl (J.left (GK.unmet 16 rfl rfl rfl hc7) rfl (J.left (GK.unmet 16 rfl rfl rfl hc7) rfl (J.cons (.none rfl) (JO.pT hc7 rfl rfl) rfl rfl (J.fin (Sw.Sub.mk id (.cons rfl (.of_eq rfl) (.cons rfl (.of_eq rfl) .nil)) (.box rfl (.cons (.of_eq rfl) (.cons (.of_eq rfl) (.cons (.of_eq rfl) .nil))) .nil) rfl))))))))))))
      · replace hx := cond_f hc7 hx
        obtain rfl := Option.some.inj hx
        exact (J.cons (.none rfl) (JO.fieldPtr 1 rfl Try.runUnderlying28 rfl Try.sizeOf25 rfl rfl) rfl rfl (J.cons (.none rfl) (JO.load rfl rfl rfl Try.isAgg25 Try.sizeOf25) rfl rfl (J.cons (.none rfl) (JO.len rfl Try.runUnderlying25) rfl rfl (J.cons (.none rfl) (JO.cmp rfl rfl rfl) rfl rfl (J.cons (.none rfl) (JO.move rfl) rfl rfl (J.cons (GK.met 16 rfl rfl rfl hc7) (JO.fieldPtr 2 rfl Try.runUnderlying28 rfl Try.sizeOf26 rfl rfl) rfl rfl (J.cons (GK.met 16 rfl rfl rfl hc7) (JO.load rfl rfl rfl Try.isAgg26 Try.sizeOf26) rfl rfl (J.cons (GK.met 16 rfl rfl rfl hc7) (JO.len rfl Try.runUnderlying26) rfl rfl (J.cons (GK.met 16 rfl rfl rfl hc7) (JO.cmp rfl rfl rfl) rfl rfl (J.cons (.none rfl) (JO.pF hc7 rfl rfl) rfl rfl (J.fin (Sw.Sub.mk id (.cons rfl (.of_eq rfl) (.cons rfl (.of_eq rfl) .nil)) (.box rfl (.cons (.of_eq rfl) (.cons (.of_eq rfl) (.cons (.of_eq rfl) .nil))) .nil) rfl))))))))))))
    rcases Bool.eq_false_or_eq_true x6 with hc8 | hc8
    · replace h := cond_t hc8 h
      refine W.condT rfl hc8 ?_
      refine W.seq ?_
      refine W.reg (σ' := ⟨[(2, .v (Enc.err ET) (some (2 : Int)))], []⟩) (J.cons (.none rfl) (JO.mkErr Try.runUnderlying29 rfl) rfl rfl (J.cons (.none rfl) (JO.assign rfl) rfl rfl (J.fin (Sw.Sub.mk id (.cons rfl (.of_eq rfl) .nil) .nil rfl)))) ?_
      refine W.ret ?_
      obtain rfl := Option.some.inj h
      exact XQ.sub (σ' := ⟨[(2, .v (Enc.err ET) (some (2 : Int)))], []⟩) (Sw.Sub.mk id (.cons rfl (.of_eq rfl) .nil) .nil rfl) (XQ.ret1 hF noR rfl (RV.tmp rfl) .nil rfl)
    · replace h := cond_f hc8 h
      refine W.condF rfl hc8 ?_
      refine W.skip ?_
      refine W.seq ?_
      refine W.seq ?_
      obtain ⟨v9, hv9, h⟩ := bind_e h
      refine W.reg (σ' := ⟨[(25, .v Enc.bool v9)], []⟩) (J.cons (.none rfl) (JO.fieldPtr 1 rfl Try.runUnderlying28 rfl Try.sizeOf25 rfl rfl) rfl rfl (J.cons (.none rfl) (JO.load rfl rfl rfl Try.isAgg25 Try.sizeOf25) rfl rfl (J.cons (.none rfl) (JO.call0 (con_slices_ContainsFunc_int_int__frame_Check_1 hv9) Try.call97 (.cons (.dir rfl) (.cons .fn .nil))) rfl rfl (J.fin (Sw.Sub.mk id (.cons rfl (.of_eq rfl) .nil) .nil rfl))))) ?_
      rcases Bool.eq_false_or_eq_true v9 with hc10 | hc10
      · replace h := cond_t hc10 h
        refine W.condT rfl hc10 ?_
        refine W.seq ?_
        refine W.reg (σ' := ⟨[(2, .v (Enc.err ET) (some (1 : Int)))], []⟩) (J.cons (.none rfl) (JO.mkErr Try.runUnderlying29 rfl) rfl rfl (J.cons (.none rfl) (JO.assign rfl) rfl rfl (J.fin (Sw.Sub.mk id (.cons rfl (.of_eq rfl) .nil) .nil rfl)))) ?_
        refine W.ret ?_
        obtain rfl := Option.some.inj h
        exact XQ.sub (σ' := ⟨[(2, .v (Enc.err ET) (some (1 : Int)))], []⟩) (Sw.Sub.mk id (.cons rfl (.of_eq rfl) .nil) .nil rfl) (XQ.ret1 hF noR rfl (RV.tmp rfl) .nil rfl)
      · replace h := cond_f hc10 h
        refine W.condF rfl hc10 ?_
        refine W.skip ?_
        refine W.seq ?_
        refine W.reg (σ' := ⟨[(2, .v (Enc.err ET) (none : Option Int))], []⟩) (J.cons (.none rfl) (JO.assignNilE ET) rfl rfl (J.fin (Sw.Sub.mk id (.cons rfl (.of_eq rfl) .nil) .nil rfl))) ?_
        refine W.ret ?_
        obtain rfl := Option.some.inj h
        exact XQ.sub (σ' := ⟨[(2, .v (Enc.err ET) (none : Option Int))], []⟩) (Sw.Sub.mk id (.cons rfl (.of_eq rfl) .nil) .nil rfl) (XQ.ret1 hF noR rfl (RV.tmp rfl) .nil rfl)
set_option maxRecDepth 100000 in
set_option maxHeartbeats 4000000 in
theorem con_link_load {a0 : (Int × (List Int) × (List Blk))} {r : (Option Int)} (h : m_link_load a0 = some r) :
    Con Try.prog 67 [.v (Enc.pr (Enc.int .i64) (Enc.pr (Enc.sl (Enc.int .i64)) (Enc.sl eBlk))) a0] (.v (Enc.err ET) r) [] := by
  refine Con.of Try.func67 rfl Try.ntmps67 rfl ?_
  intro S w hF
  unfold m_link_load at h
  refine W.seq ?_
  refine W.reg (σ' := ⟨[(1, .ptr 101 0)], [(101, .box 28 [.v (Enc.int .i64) a0.1, .v (Enc.sl (Enc.int .i64)) a0.2.1, .v (Enc.sl eBlk) a0.2.2])]⟩) (J.cons (.none rfl) (JO.box 101 rfl (.prm (.one _ _) (.prm (.one _ _) (.one _ _))) rfl) rfl rfl (J.cons (.none rfl) (JO.assignNilE ET) rfl rfl (J.fin (Sw.Sub.mk id (.cons rfl (.of_eq rfl) .nil) (.box rfl (.cons (.of_eq rfl) (.cons (.of_eq rfl) (.cons (.of_eq rfl) .nil))) .nil) rfl)))) ?_
  refine W.seq ?_
  refine W.seq ?_
  obtain ⟨v1, hv1, h⟩ := bind_e h
  refine W.reg (σ' := ⟨[(1, .ptr 101 0), (3, .v (Enc.err ET) v1)], [(101, .box 28 [.v (Enc.int .i64) a0.1, .v (Enc.sl (Enc.int .i64)) a0.2.1, .v (Enc.sl eBlk) a0.2.2])]⟩) (J.cons (.none rfl) (JO.loadAll rfl rfl (.prm (.one _ _) (.prm (.one _ _) (.one _ _))) Try.isAgg28 Try.sizeOf28) rfl rfl (J.cons (.none rfl) (JO.call0 (con_frame_Check hv1) Try.call47 (.cons (.dir rfl) .nil)) rfl rfl (J.cons (.none rfl) (JO.assign rfl) rfl rfl (J.fin (Sw.Sub.mk id (.cons rfl (.of_eq rfl) (.cons rfl (.of_eq rfl) .nil)) (.box rfl (.cons (.of_eq rfl) (.cons (.of_eq rfl) (.cons (.of_eq rfl) .nil))) .nil) rfl))))) ?_
  refine W.seq ?_
  refine W.reg (σ' := ⟨[(1, .ptr 101 0), (3, .v (Enc.err ET) v1), (7, .v Enc.bool (Option.isSome v1))], [(101, .box 28 [.v (Enc.int .i64) a0.1, .v (Enc.sl (Enc.int .i64)) a0.2.1, .v (Enc.sl eBlk) a0.2.2])]⟩) (J.cons (.none rfl) (JO.move rfl) rfl rfl (J.cons (.none rfl) (JO.errNe Try.runUnderlying33 rfl) rfl rfl (J.fin (Sw.Sub.mk id (.cons rfl (.of_eq rfl) (.cons rfl (.of_eq rfl) (.cons rfl (.of_eq rfl) .nil))) (.box rfl (.cons (.of_eq rfl) (.cons (.of_eq rfl) (.cons (.of_eq rfl) .nil))) .nil) rfl)))) ?_
  rcases Bool.eq_false_or_eq_true (Option.isSome v1) with hc2 | hc2
  · replace h := cond_t hc2 h
    refine W.condT rfl hc2 ?_
    refine W.seq ?_
    refine W.reg (σ' := ⟨[(2, .v (Enc.err ET) v1)], []⟩) (J.cons (.none rfl) (JO.move rfl) rfl rfl (J.cons (.none rfl) (JO.assign rfl) rfl rfl (J.fin (Sw.Sub.mk id (.cons rfl (.of_eq rfl) .nil) .nil rfl)))) ?_
    refine W.ret ?_
    obtain rfl := Option.some.inj h
    exact XQ.sub (σ' := ⟨[(2, .v (Enc.err ET) v1)], []⟩) (Sw.Sub.mk id (.cons rfl (.of_eq rfl) .nil) .nil rfl) (XQ.ret1 hF noR rfl (RV.tmp rfl) .nil rfl)
  · replace h := cond_f hc2 h
    refine W.condF rfl hc2 ?_
    refine W.skip ?_
    refine W.seq ?_
    refine W.seq ?_
    refine W.reg (σ' := ⟨[(12, .v Enc.bool (cm .gtr (a0.2.1.length : Int) (9 : Int)))], []⟩) (J.cons (.none rfl) (JO.fieldPtr 1 rfl Try.runUnderlying28 rfl Try.sizeOf25 rfl rfl) rfl rfl (J.cons (.none rfl) (JO.load rfl rfl rfl Try.isAgg25 Try.sizeOf25) rfl rfl (J.cons (.none rfl) (JO.len rfl Try.runUnderlying25) rfl rfl (J.cons (.none rfl) (JO.cmp rfl rfl rfl) rfl rfl (J.fin (Sw.Sub.mk id (.cons rfl (.of_eq rfl) .nil) .nil rfl)))))) ?_
    rcases Bool.eq_false_or_eq_true (cm .gtr (a0.2.1.length : Int) (9 : Int)) with hc3 | hc3
    · replace h := cond_t hc3 h
      refine W.condT rfl hc3 ?_
      refine W.seq ?_
      refine W.reg (σ' := ⟨[(2, .v (Enc.err ET) (some (2 : Int)))], []⟩) (J.cons (.none rfl) (JO.mkErr Try.runUnderlying29 rfl) rfl rfl (J.cons (.none rfl) (JO.assign rfl) rfl rfl (J.fin (Sw.Sub.mk id (.cons rfl (.of_eq rfl) .nil) .nil rfl)))) ?_
      refine W.ret ?_
      obtain rfl := Option.some.inj h
      exact XQ.sub (σ' := ⟨[(2, .v (Enc.err ET) (some (2 : Int)))], []⟩) (Sw.Sub.mk id (.cons rfl (.of_eq rfl) .nil) .nil rfl) (XQ.ret1 hF noR rfl (RV.tmp rfl) .nil rfl)
    · replace h := cond_f hc3 h
      refine W.condF rfl hc3 ?_
      refine W.skip ?_
      refine W.seq ?_
      refine W.reg (σ' := ⟨[(2, .v (Enc.err ET) (none : Option Int))], []⟩) (J.cons (.none rfl) (JO.assignNilE ET) rfl rfl (J.fin (Sw.Sub.mk id (.cons rfl (.of_eq rfl) .nil) .nil rfl))) ?_
      refine W.ret ?_
      obtain rfl := Option.some.inj h
      exact XQ.sub (σ' := ⟨[(2, .v (Enc.err ET) (none : Option Int))], []⟩) (Sw.Sub.mk id (.cons rfl (.of_eq rfl) .nil) .nil rfl) (XQ.ret1 hF noR rfl (RV.tmp rfl) .nil rfl)
set_option maxRecDepth 100000 in
set_option maxHeartbeats 4000000 in
theorem con_link_Check {a0 : (Int × Int × (List (Int × (List Int) × (List Blk))))} {r : (Option Int)} (h : m_link_Check a0 = some r) :
    Con Try.prog 15 [.v (Enc.pr (Enc.int .i64) (Enc.pr (Enc.int .i64) (Enc.sl (Enc.pr (Enc.int .i64) (Enc.pr (Enc.sl (Enc.int .i64)) (Enc.sl eBlk)))))) a0] (.v (Enc.err ET) r) [] := by
  refine Con.of Try.func15 rfl Try.ntmps15 rfl ?_
  intro S w hF
  unfold m_link_Check at h
  refine W.seq ?_
  refine W.reg (σ' := ⟨[(1, .ptr 101 0)], [(101, .box 24 [.v (Enc.int .i64) a0.1, .v (Enc.int .i64) a0.2.1, .v (Enc.sl (Enc.pr (Enc.int .i64) (Enc.pr (Enc.sl (Enc.int .i64)) (Enc.sl eBlk)))) a0.2.2])]⟩) (J.cons (.none rfl) (JO.box 101 rfl (.prm (.one _ _) (.prm (.one _ _) (.one _ _))) rfl) rfl rfl (J.cons (.none rfl) (JO.assignNilE ET) rfl rfl (J.fin (Sw.Sub.mk id (.cons rfl (.of_eq rfl) .nil) (.box rfl (.cons (.of_eq rfl) (.cons (.of_eq rfl) (.cons (.of_eq rfl) .nil))) .nil) rfl)))) ?_
  refine W.seq ?_
  refine W.seq ?_
  obtain ⟨v1, hv1, h⟩ := bind_e h
  refine W.reg (σ' := ⟨[(1, .ptr 101 0), (12, .v Enc.bool (!v1))], [(101, .box 24 [.v (Enc.int .i64) a0.1, .v (Enc.int .i64) a0.2.1, .v (Enc.sl (Enc.pr (Enc.int .i64) (Enc.pr (Enc.sl (Enc.int .i64)) (Enc.sl eBlk)))) a0.2.2])]⟩) (J.cons (.none rfl) (JO.fieldPtr 0 rfl Try.runUnderlying24 rfl Try.sizeOf3 rfl rfl) rfl rfl (J.cons (.none rfl) (JO.load rfl rfl rfl Try.isAgg3 Try.sizeOf3) rfl rfl (J.cons (.none rfl) (JO.fieldPtr 1 rfl Try.runUnderlying24 rfl Try.sizeOf3 rfl rfl) rfl rfl (J.cons (.none rfl) (JO.load rfl rfl rfl Try.isAgg3 Try.sizeOf3) rfl rfl (J.cons (.none rfl) (JO.lit (e := (Enc.int .i64)) Try.runUnderlying25 Try.sizeOf3 Try.zeroValue3 rfl rfl rfl rfl (.cons (.dir rfl) (.cons (.dir rfl) .nil))) rfl rfl (J.cons (.none rfl) (JO.call0 (con_link_number hv1) Try.call66 (.cons (.dir rfl) .nil)) rfl rfl (J.cons (.none rfl) (JO.not rfl) rfl rfl (J.fin (Sw.Sub.mk id (.cons rfl (.of_eq rfl) (.cons rfl (.of_eq rfl) .nil)) (.box rfl (.cons (.of_eq rfl) (.cons (.of_eq rfl) (.cons (.of_eq rfl) .nil))) .nil) rfl))))))))) ?_
  rcases Bool.eq_false_or_eq_true (!v1) with hc2 | hc2
  · replace h := cond_t hc2 h
    refine W.condT rfl hc2 ?_
    refine W.seq ?_
    refine W.reg (σ' := ⟨[(2, .v (Enc.err ET) (some (1 : Int)))], []⟩) (J.cons (.none rfl) (JO.mkErr Try.runUnderlying29 rfl) rfl rfl (J.cons (.none rfl) (JO.assign rfl) rfl rfl (J.fin (Sw.Sub.mk id (.cons rfl (.of_eq rfl) .nil) .nil rfl)))) ?_
    refine W.ret ?_
    obtain rfl := Option.some.inj h
    exact XQ.sub (σ' := ⟨[(2, .v (Enc.err ET) (some (1 : Int)))], []⟩) (Sw.Sub.mk id (.cons rfl (.of_eq rfl) .nil) .nil rfl) (XQ.ret1 hF noR rfl (RV.tmp rfl) .nil rfl)
  · replace h := cond_f hc2 h
    refine W.condF rfl hc2 ?_
    refine W.skip ?_
    refine W.seq ?_
    refine W.seq ?_
    refine W.reg (σ' := ⟨[(1, .ptr 101 0), (17, .v Enc.bool (cm .gtr (a0.2.2.length : Int) (64 : Int)))], [(101, .box 24 [.v (Enc.int .i64) a0.1, .v (Enc.int .i64) a0.2.1, .v (Enc.sl (Enc.pr (Enc.int .i64) (Enc.pr (Enc.sl (Enc.int .i64)) (Enc.sl eBlk)))) a0.2.2])]⟩) (J.cons (.none rfl) (JO.fieldPtr 2 rfl Try.runUnderlying24 rfl Try.sizeOf22 rfl rfl) rfl rfl (J.cons (.none rfl) (JO.load rfl rfl rfl Try.isAgg22 Try.sizeOf22) rfl rfl (J.cons (.none rfl) (JO.len rfl Try.runUnderlying22) rfl rfl (J.cons (.none rfl) (JO.cmp rfl rfl rfl) rfl rfl (J.fin (Sw.Sub.mk id (.cons rfl (.of_eq rfl) (.cons rfl (.of_eq rfl) .nil)) (.box rfl (.cons (.of_eq rfl) (.cons (.of_eq rfl) (.cons (.of_eq rfl) .nil))) .nil) rfl)))))) ?_
    rcases Bool.eq_false_or_eq_true (cm .gtr (a0.2.2.length : Int) (64 : Int)) with hc3 | hc3
    · replace h := cond_t hc3 h
      refine W.condT rfl hc3 ?_
      refine W.seq ?_
      refine W.reg (σ' := ⟨[(2, .v (Enc.err ET) (some (2 : Int)))], []⟩) (J.cons (.none rfl) (JO.mkErr Try.runUnderlying29 rfl) rfl rfl (J.cons (.none rfl) (JO.assign rfl) rfl rfl (J.fin (Sw.Sub.mk id (.cons rfl (.of_eq rfl) .nil) .nil rfl)))) ?_
      refine W.ret ?_
      obtain rfl := Option.some.inj h
      exact XQ.sub (σ' := ⟨[(2, .v (Enc.err ET) (some (2 : Int)))], []⟩) (Sw.Sub.mk id (.cons rfl (.of_eq rfl) .nil) .nil rfl) (XQ.ret1 hF noR rfl (RV.tmp rfl) .nil rfl)
    · replace h := cond_f hc3 h
      refine W.condF rfl hc3 ?_
      refine W.skip ?_
      refine W.seq ?_
      refine W.seq ?_
      refine W.reg (σ' := ⟨[(20, .v (Enc.sl (Enc.pr (Enc.int .i64) (Enc.pr (Enc.sl (Enc.int .i64)) (Enc.sl eBlk)))) a0.2.2), (21, .v (Enc.int .i64) (a0.2.2.length : Int)), (22, .v (Enc.int .i64) (0 : Int))], []⟩) (J.cons (.none rfl) (JO.fieldPtr 2 rfl Try.runUnderlying24 rfl Try.sizeOf22 rfl rfl) rfl rfl (J.cons (.none rfl) (JO.load rfl rfl rfl Try.isAgg22 Try.sizeOf22) rfl rfl (J.cons (.none rfl) (JO.len rfl Try.runUnderlying22) rfl rfl (J.cons (.none rfl) (JO.move rfl) rfl rfl (J.fin (Sw.Sub.mk id (.cons rfl (.of_eq rfl) (.cons rfl (.of_eq rfl) (.cons rfl (.of_eq rfl) .nil))) .nil rfl)))))) ?_
      obtain ⟨o19, ho19, hb19, hr19⟩ := lp_elim h
      refine W.lp (σs := fun s14 : Int => ⟨[(20, .v (Enc.sl (Enc.pr (Enc.int .i64) (Enc.pr (Enc.sl (Enc.int .i64)) (Enc.sl eBlk)))) a0.2.2), (21, .v (Enc.int .i64) (a0.2.2.length : Int)), (22, .v (Enc.int .i64) s14)], []⟩) (fun x20 : Unit => ⟨[], []⟩) ho19 (Sw.Sub.mk id (.cons rfl (.of_eq rfl) (.cons rfl (.of_eq rfl) (.cons rfl (.of_eq rfl) .nil))) .nil rfl) ?_ ?_
      · intro x20 hy
        have h := hb19 _ hy
        refine W.seq ?_
        refine W.reg (σ' := ⟨[(2, .v (Enc.err ET) (none : Option Int))], []⟩) (J.cons (.none rfl) (JO.assignNilE ET) rfl rfl (J.fin (Sw.Sub.mk id (.cons rfl (.of_eq rfl) .nil) .nil rfl))) ?_
        refine W.ret ?_
        obtain rfl := Option.some.inj h
        exact XQ.sub (σ' := ⟨[(2, .v (Enc.err ET) (none : Option Int))], []⟩) (Sw.Sub.mk id (.cons rfl (.of_eq rfl) .nil) .nil rfl) (XQ.ret1 hF noR rfl (RV.tmp rfl) .nil rfl)
      intro s14 r19 h
      refine W.seq ?_
      refine W.reg (σ' := ⟨[(20, .v (Enc.sl (Enc.pr (Enc.int .i64) (Enc.pr (Enc.sl (Enc.int .i64)) (Enc.sl eBlk)))) a0.2.2), (21, .v (Enc.int .i64) (a0.2.2.length : Int)), (22, .v (Enc.int .i64) s14), (23, .v Enc.bool (cm .lss s14 (a0.2.2.length : Int)))], []⟩) (J.cons (.none rfl) (JO.cmp rfl rfl rfl) rfl rfl (J.fin (Sw.Sub.mk id (.cons rfl (.of_eq rfl) (.cons rfl (.of_eq rfl) (.cons rfl (.of_eq rfl) (.cons rfl (.of_eq rfl) .nil)))) .nil rfl))) ?_
      refine W.seq ?_
      rcases Bool.eq_false_or_eq_true (cm .lss s14 (a0.2.2.length : Int)) with hc21 | hc21
      · replace h := cond_t hc21 h
        refine W.condT rfl hc21 ?_
        refine W.skip ?_
        refine W.seq ?_
        refine W.block ?_
        refine W.seq ?_
        obtain ⟨z22, hz22, h⟩ := bind_e h
        refine W.reg (σ' := ⟨[(4, .ptr 109 0), (20, .v (Enc.sl (Enc.pr (Enc.int .i64) (Enc.pr (Enc.sl (Enc.int .i64)) (Enc.sl eBlk)))) a0.2.2), (21, .v (Enc.int .i64) (a0.2.2.length : Int)), (22, .v (Enc.int .i64) s14)], [(109, .box 28 [.v (Enc.int .i64) z22.1, .v (Enc.sl (Enc.int .i64)) z22.2.1, .v (Enc.sl eBlk) z22.2.2])]⟩) (J.cons (.none rfl) (JO.idx hz22 rfl rfl Try.runUnderlying22 Try.sizeOf28) rfl rfl (J.cons (.none rfl) (JO.loadPst rfl Try.isAgg28 Try.sizeOf28) rfl rfl (J.cons (.none rfl) (JO.alloc 109 Try.zeroValue28 rfl (.cons (Z.int .i64) (.cons (Z.sl (Enc.int .i64)) (.cons (Z.sl eBlk) .nil))) rfl) rfl rfl (J.mut (.none rfl) (JM.storeAll rfl rfl rfl rfl (.prm (.one _ _) (.prm (.one _ _) (.one _ _))) Try.sizeOf28) (J.fin (Sw.Sub.mk id (.cons rfl (.of_eq rfl) (.cons rfl (.of_eq rfl) (.cons rfl (.of_eq rfl) (.cons rfl (.of_eq rfl) .nil)))) (.box rfl (.cons (.of_eq rfl) (.cons (.of_eq rfl) (.cons (.of_eq rfl) .nil))) .nil) rfl)))))) ?_
        refine W.seq ?_
        obtain ⟨v23, hv23, h⟩ := bind_e h
        refine W.reg (σ' := ⟨[(5, .v (Enc.err ET) v23), (20, .v (Enc.sl (Enc.pr (Enc.int .i64) (Enc.pr (Enc.sl (Enc.int .i64)) (Enc.sl eBlk)))) a0.2.2), (21, .v (Enc.int .i64) (a0.2.2.length : Int)), (22, .v (Enc.int .i64) s14)], []⟩) (J.cons (.none rfl) (JO.loadAll rfl rfl (.prm (.one _ _) (.prm (.one _ _) (.one _ _))) Try.isAgg28 Try.sizeOf28) rfl rfl (J.cons (.none rfl) (JO.call0 (con_link_load hv23) Try.call67 (.cons (.dir rfl) .nil)) rfl rfl (J.cons (.none rfl) (JO.assign rfl) rfl rfl (J.fin (Sw.Sub.mk id (.cons rfl (.of_eq rfl) (.cons rfl (.of_eq rfl) (.cons rfl (.of_eq rfl) (.cons rfl (.of_eq rfl) .nil)))) .nil rfl))))) ?_
        refine W.seq ?_
        refine W.reg (σ' := ⟨[(5, .v (Enc.err ET) v23), (20, .v (Enc.sl (Enc.pr (Enc.int .i64) (Enc.pr (Enc.sl (Enc.int .i64)) (Enc.sl eBlk)))) a0.2.2), (21, .v (Enc.int .i64) (a0.2.2.length : Int)), (22, .v (Enc.int .i64) s14), (29, .v Enc.bool (Option.isSome v23))], []⟩) (J.cons (.none rfl) (JO.move rfl) rfl rfl (J.cons (.none rfl) (JO.errNe Try.runUnderlying33 rfl) rfl rfl (J.fin (Sw.Sub.mk id (.cons rfl (.of_eq rfl) (.cons rfl (.of_eq rfl) (.cons rfl (.of_eq rfl) (.cons rfl (.of_eq rfl) (.cons rfl (.of_eq rfl) .nil))))) .nil rfl)))) ?_
        rcases Bool.eq_false_or_eq_true (Option.isSome v23) with hc24 | hc24
        · replace h := cond_t hc24 h
          refine W.condT rfl hc24 ?_
          refine W.seq ?_
          refine W.reg (σ' := ⟨[(2, .v (Enc.err ET) v23)], []⟩) (J.cons (.none rfl) (JO.move rfl) rfl rfl (J.cons (.none rfl) (JO.assign rfl) rfl rfl (J.fin (Sw.Sub.mk id (.cons rfl (.of_eq rfl) .nil) .nil rfl)))) ?_
          refine W.ret ?_
          refine XQ.ret ?_
          obtain rfl := Option.some.inj h
          refine XQ.lret fun ho => ?_
          obtain rfl := hr19 _ ho
          exact XQ.sub (σ' := ⟨[(2, .v (Enc.err ET) v23)], []⟩) (Sw.Sub.mk id (.cons rfl (.of_eq rfl) .nil) .nil rfl) (XQ.ret1 hF noR rfl (RV.tmp rfl) .nil rfl)
        · replace h := cond_f hc24 h
          refine W.condF rfl hc24 ?_
          refine W.skip ?_
          refine W.fall ?_
          refine W.reg (σ' := ⟨[(20, .v (Enc.sl (Enc.pr (Enc.int .i64) (Enc.pr (Enc.sl (Enc.int .i64)) (Enc.sl eBlk)))) a0.2.2), (21, .v (Enc.int .i64) (a0.2.2.length : Int)), (22, .v (Enc.int .i64) (ar .add .i64 s14 (1 : Int)))], []⟩) (J.cons (.none rfl) (JO.arith rfl rfl rfl) rfl rfl (J.cons (.none rfl) (JO.move rfl) rfl rfl (J.fin (Sw.Sub.mk id (.cons rfl (.of_eq rfl) (.cons rfl (.of_eq rfl) (.cons rfl (.of_eq rfl) .nil))) .nil rfl)))) ?_
          obtain rfl := Option.some.inj h
          exact W.next (Sw.Sub.mk id (.cons rfl (.of_eq rfl) (.cons rfl (.of_eq rfl) (.cons rfl (.of_eq rfl) .nil))) .nil rfl)
      · replace h := cond_f hc21 h
        refine W.condF rfl hc21 ?_
        refine W.exit ?_
        obtain rfl := Option.some.inj h
        exact XQ.brk (Sw.Sub.mk id .nil .nil rfl)
set_option maxRecDepth 100000 in
set_option maxHeartbeats 4000000 in
theorem con_slices_Clone_int_int_nil {a0 : (Bool × (List Int))} {r : (List Int)} (h : m_slices_Clone_int_int_nil a0 = some r) :
    Con Try.prog 130 [.v (Enc.slN (Enc.int .i64)) a0] (.v (Enc.sl (Enc.int .i64)) r) [] := by
  refine Con.of Try.func130 rfl Try.ntmps130 rfl ?_
  intro S w hF
  unfold m_slices_Clone_int_int_nil at h
  refine W.seq ?_
  refine W.reg (σ' := ⟨[(0, .v (Enc.slN (Enc.int .i64)) a0)], []⟩) (J.cons (.none rfl) (JO.assignNil (Enc.int .i64)) rfl rfl (J.fin (Sw.Sub.mk id (.cons rfl (.of_eq rfl) .nil) .nil rfl))) ?_
  refine W.seq ?_
  refine W.seq ?_
  refine W.reg (σ' := ⟨[(0, .v (Enc.slN (Enc.int .i64)) a0), (4, .v Enc.bool a0.1)], []⟩) (J.cons (.none rfl) (JO.move rfl) rfl rfl (J.cons (.none rfl) (JO.eqNilS rfl Try.runUnderlying25) rfl rfl (J.fin (Sw.Sub.mk id (.cons rfl (.of_eq rfl) (.cons rfl (.of_eq rfl) .nil)) .nil rfl)))) ?_
  rcases Bool.eq_false_or_eq_true a0.1 with hc1 | hc1
  · replace h := cond_t hc1 h
    refine W.condT rfl hc1 ?_
    refine W.seq ?_
    refine W.reg (σ' := ⟨[(2, .v (Enc.sl (Enc.int .i64)) ([] : (List Int)))], []⟩) (J.cons (.none rfl) (JO.assignNil (Enc.int .i64)) rfl rfl (J.fin (Sw.Sub.mk id (.cons rfl (.of_eq rfl) .nil) .nil rfl))) ?_
    refine W.ret ?_
    obtain rfl := Option.some.inj h
    exact XQ.sub (σ' := ⟨[(2, .v (Enc.sl (Enc.int .i64)) ([] : (List Int)))], []⟩) (Sw.Sub.mk id (.cons rfl (.of_eq rfl) .nil) .nil rfl) (XQ.ret1 hF noR rfl (RV.tmp rfl) .nil rfl)
  · replace h := cond_f hc1 h
    refine W.condF rfl hc1 ?_
    refine W.skip ?_
    refine W.seq ?_
    obtain ⟨v2, hv2, h⟩ := bind_e h
    refine W.reg (σ' := ⟨[(2, .ref 102)], [(102, .arr 3 (Enc.int .i64) v2)]⟩) (J.cons (.none rfl) (JO.litR (e := (Enc.int .i64)) 101 Try.runUnderlying25 Try.sizeOf3 Try.zeroValue3 rfl rfl rfl rfl .nil) rfl rfl (J.cons (.none rfl) (JO.move rfl) rfl rfl (J.mut (.none rfl) (JM.append 102 hv2 rfl rfl (.slN rfl) Try.runUnderlying25 Try.typeInfo3 Try.sizeOf3 rfl rfl rfl rfl rfl) (J.cons (.none rfl) (JO.assign rfl) rfl rfl (J.fin (Sw.Sub.mk id (.cons rfl (.of_eq rfl) .nil) (.arr rfl .nil) rfl)))))) ?_
    refine W.ret ?_
    obtain rfl := Option.some.inj h
    exact XQ.sub (σ' := ⟨[(2, .v (Enc.sl (Enc.int .i64)) v2)], []⟩) (Sw.Sub.mk id (.cons rfl (.frz rfl rfl) .nil) .nil rfl) (XQ.ret1 hF noR rfl (RV.tmp rfl) .nil rfl)
theorem con_slices_Clone_int_int {a0 : (List Int)} {r : (List Int)} (h : m_slices_Clone_int_int a0 = some r) :
    Con Try.prog 130 [.v (Enc.sl (Enc.int .i64)) a0] (.v (Enc.sl (Enc.int .i64)) r) [] :=
  Con.nilCases fun b hb => con_slices_Clone_int_int_nil (by cases b with | true => rw [hb rfl] at h ⊢; exact h | false => exact clone_f h)
set_option maxRecDepth 100000 in
set_option maxHeartbeats 4000000 in
theorem con_slices_Clone_api_Block_api_Block_nil {a0 : (Bool × (List Blk))} {r : (List Blk)} (h : m_slices_Clone_api_Block_api_Block_nil a0 = some r) :
    Con Try.prog 88 [.v (Enc.slN eBlk) a0] (.ref 0) [(0, .arr 56 eBlk r)] := by
  refine Con.of Try.func88 rfl Try.ntmps88 rfl ?_
  intro S w hF
  unfold m_slices_Clone_api_Block_api_Block_nil at h
  refine W.seq ?_
  refine W.reg (σ' := ⟨[(0, .v (Enc.slN eBlk) a0)], []⟩) (J.cons (.none rfl) (JO.assignNilR 101 56 eBlk) rfl rfl (J.fin (Sw.Sub.mk id (.cons rfl (.of_eq rfl) .nil) .nil rfl))) ?_
  refine W.seq ?_
  refine W.seq ?_
  refine W.reg (σ' := ⟨[(0, .v (Enc.slN eBlk) a0), (4, .v Enc.bool a0.1)], []⟩) (J.cons (.none rfl) (JO.move rfl) rfl rfl (J.cons (.none rfl) (JO.eqNilS rfl Try.runUnderlying26) rfl rfl (J.fin (Sw.Sub.mk id (.cons rfl (.of_eq rfl) (.cons rfl (.of_eq rfl) .nil)) .nil rfl)))) ?_
  rcases Bool.eq_false_or_eq_true a0.1 with hc1 | hc1
  · replace h := cond_t hc1 h
    refine W.condT rfl hc1 ?_
    refine W.seq ?_
    refine W.reg (σ' := ⟨[(2, .ref 102)], [(102, .arr 56 eBlk ([] : (List Blk)))]⟩) (J.cons (.none rfl) (JO.assignNilR 102 56 eBlk) rfl rfl (J.fin (Sw.Sub.mk id (.cons rfl (.of_eq rfl) .nil) (.arr rfl .nil) rfl))) ?_
    refine W.ret ?_
    obtain rfl := Option.some.inj h
    exact XQ.sub (σ' := ⟨[(2, .ref 0)], [(0, .arr 56 eBlk ([] : (List Blk)))]⟩) (Sw.Sub.mk (rn [(0, 102)]) (.cons rfl (.of_eq rfl) .nil) (.arr rfl .nil) rfl) (XQ.ret1 hF noR rfl (RV.tmp rfl) (.cons rfl .nil) rfl)
  · replace h := cond_f hc1 h
    refine W.condF rfl hc1 ?_
    refine W.skip ?_
    refine W.seq ?_
    obtain ⟨v2, hv2, h⟩ := bind_e h
    refine W.reg (σ' := ⟨[(2, .ref 104)], [(104, .arr 56 eBlk v2)]⟩) (J.cons (.none rfl) (JO.litR (e := eBlk) 103 Try.runUnderlying26 Try.sizeOf56 Try.zeroValue56 rfl rfl rfl rfl .nil) rfl rfl (J.cons (.none rfl) (JO.move rfl) rfl rfl (J.mut (.none rfl) (JM.append 104 hv2 rfl rfl (.slN rfl) Try.runUnderlying26 Try.typeInfo56 Try.sizeOf56 rfl rfl rfl rfl rfl) (J.cons (.none rfl) (JO.assign rfl) rfl rfl (J.fin (Sw.Sub.mk id (.cons rfl (.of_eq rfl) .nil) (.arr rfl .nil) rfl)))))) ?_
    refine W.ret ?_
    obtain rfl := Option.some.inj h
    exact XQ.sub (σ' := ⟨[(2, .ref 0)], [(0, .arr 56 eBlk v2)]⟩) (Sw.Sub.mk (rn [(0, 104)]) (.cons rfl (.of_eq rfl) .nil) (.arr rfl .nil) rfl) (XQ.ret1 hF noR rfl (RV.tmp rfl) (.cons rfl .nil) rfl)
theorem con_slices_Clone_api_Block_api_Block {a0 : (List Blk)} {r : (List Blk)} (h : m_slices_Clone_api_Block_api_Block a0 = some r) :
    Con Try.prog 88 [.v (Enc.sl eBlk) a0] (.ref 0) [(0, .arr 56 eBlk r)] :=
  Con.nilCases fun b hb => con_slices_Clone_api_Block_api_Block_nil (by cases b with | true => rw [hb rfl] at h ⊢; exact h | false => exact clone_f h)
set_option maxRecDepth 100000 in
set_option maxHeartbeats 4000000 in
theorem con_link_clone {a0 : (Int × (List Int) × (List Blk))} {r : (Int × (List Int) × (List Blk))} (h : m_link_clone a0 = some r) :
    Con Try.prog 70 [.v (Enc.pr (Enc.int .i64) (Enc.pr (Enc.sl (Enc.int .i64)) (Enc.sl eBlk))) a0] (.v (Enc.pr (Enc.int .i64) (Enc.pr (Enc.sl (Enc.int .i64)) (Enc.sl eBlk))) r) [] := by
  refine Con.of Try.func70 rfl Try.ntmps70 rfl ?_
  intro S w hF
  unfold m_link_clone at h
  refine W.seq ?_
  refine W.reg (σ' := ⟨[(1, .ptr 101 0), (2, .ptr 102 0)], [(101, .box 28 [.v (Enc.int .i64) a0.1, .v (Enc.sl (Enc.int .i64)) a0.2.1, .v (Enc.sl eBlk) a0.2.2]), (102, .box 28 [.v (Enc.int .i64) (0 : Int), .v (Enc.sl (Enc.int .i64)) ([] : (List Int)), .v (Enc.sl eBlk) ([] : (List Blk))])]⟩) (J.cons (.none rfl) (JO.box 101 rfl (.prm (.one _ _) (.prm (.one _ _) (.one _ _))) rfl) rfl rfl (J.cons (.none rfl) (JO.alloc 102 Try.zeroValue28 rfl (.cons (Z.int .i64) (.cons (Z.sl (Enc.int .i64)) (.cons (Z.sl eBlk) .nil))) rfl) rfl rfl (J.fin (Sw.Sub.mk id (.cons rfl (.of_eq rfl) (.cons rfl (.of_eq rfl) .nil)) (.box rfl (.cons (.of_eq rfl) (.cons (.of_eq rfl) (.cons (.of_eq rfl) .nil))) (.box rfl (.cons (.of_eq rfl) (.cons (.of_eq rfl) (.cons (.of_eq rfl) .nil))) .nil)) rfl)))) ?_
  refine W.seq ?_
  obtain ⟨v1, hv1, h⟩ := bind_e h
  obtain ⟨v2, hv2, h⟩ := bind_e h
  refine W.dr2 (σ' := ⟨[(1, .ptr 101 0), (2, .ptr 102 0)], [(101, .box 28 [.v (Enc.int .i64) a0.1, .v (Enc.sl (Enc.int .i64)) v1, .ref 104000]), (102, .box 28 [.v (Enc.int .i64) (0 : Int), .v (Enc.sl (Enc.int .i64)) ([] : (List Int)), .v (Enc.sl eBlk) ([] : (List Blk))]), (104000, .arr 56 eBlk v2)]⟩) 10 [0, 1, 3, 0, 8, 31, 31, 127, 255, 511] mixed (by exact (.cons (.none rfl) (JO.fieldPtr 1 rfl Try.runUnderlying28 rfl Try.sizeOf25 rfl rfl) rfl rfl (.cons (.none rfl) (JO.load rfl rfl rfl Try.isAgg25 Try.sizeOf25) rfl rfl (.cons (.none rfl) (JO.call0 (con_slices_Clone_int_int hv1) Try.call130 (.cons (.dir rfl) .nil)) rfl rfl (.cons (.none rfl) (JO.fieldPtr 2 rfl Try.runUnderlying28 rfl Try.sizeOf26 rfl rfl) rfl rfl (.cons (.none rfl) (JO.load rfl rfl rfl Try.isAgg26 Try.sizeOf26) rfl rfl (.cons (.none rfl) (JO.call 104000 (con_slices_Clone_api_Block_api_Block hv2) Try.call88 (.cons (.dir rfl) .nil) rfl) rfl rfl (.cons (.none rfl) (JO.fieldPtr 1 rfl Try.runUnderlying28 rfl Try.sizeOf25 rfl rfl) rfl rfl (JP2.store (.none rfl) rfl rfl rfl rfl rfl rfl rfl Try.sizeOf25 (.cons (.none rfl) (JO.fieldPtr 2 rfl Try.runUnderlying28 rfl Try.sizeOf26 rfl rfl) rfl rfl (JP2.store (.none rfl) rfl rfl rfl rfl rfl rfl rfl Try.sizeOf26 .nil))))))))))) (by exact (J.fin (Sw.Sub.mk id (.cons rfl (.of_eq rfl) (.cons rfl (.of_eq rfl) .nil)) (.box rfl (.cons (.of_eq rfl) (.cons (.of_eq rfl) (.cons (.of_eq rfl) .nil))) (.box rfl (.cons (.of_eq rfl) (.cons (.of_eq rfl) (.cons (.of_eq rfl) .nil))) (.arr rfl .nil))) rfl))) rfl (by decide +kernel) (by decide +kernel) (by decide +kernel) (by kernel_rfl) ?_
  refine W.seq ?_
  refine W.reg (σ' := ⟨[(2, .ptr 102 0)], [(102, .box 28 [.v (Enc.int .i64) a0.1, .v (Enc.sl (Enc.int .i64)) v1, .ref 104000]), (104000, .arr 56 eBlk v2)]⟩) (J.cons (.none rfl) (JO.loadAgg rfl rfl rfl Try.isAgg28 Try.sizeOf28) rfl rfl (J.mut (.none rfl) (JM.storeAgg rfl rfl rfl rfl rfl rfl Try.sizeOf28) (J.fin (Sw.Sub.mk id (.cons rfl (.of_eq rfl) .nil) (.box rfl (.cons (.of_eq rfl) (.cons (.of_eq rfl) (.cons (.of_eq rfl) .nil))) (.arr rfl .nil)) rfl)))) ?_
  refine W.ret ?_
  obtain rfl := Option.some.inj h
  exact XQ.sub (σ' := ⟨[(2, .ptr 90 0)], [(90, .box 28 [.v (Enc.int .i64) a0.1, .v (Enc.sl (Enc.int .i64)) v1, .v (Enc.sl eBlk) v2])]⟩) (Sw.Sub.mk (rn [(90, 102)]) (.cons rfl (.of_eq rfl) .nil) (.box rfl (.cons (.of_eq rfl) (.cons (.of_eq rfl) (.cons (.frz rfl rfl) .nil))) .nil) rfl) (XQ.ret1 hF noR rfl (RV.cellAll rfl rfl (.prm (.one _ _) (.prm (.one _ _) (.one _ _))) Try.isAgg28 Try.sizeOf28) .nil rfl)
set_option maxRecDepth 100000 in
set_option maxHeartbeats 4000000 in
theorem con_link_queue {a0 : (List (Int × (List Int) × (List Blk)))} {r : (List (Int × (List Int) × (List Blk)))} (h : m_link_queue a0 = some r) :
    Con Try.prog 69 [.v (Enc.sl (Enc.pr (Enc.int .i64) (Enc.pr (Enc.sl (Enc.int .i64)) (Enc.sl eBlk)))) a0] (.ref 0) [(0, .arr 28 (Enc.pr (Enc.int .i64) (Enc.pr (Enc.sl (Enc.int .i64)) (Enc.sl eBlk))) r)] := by
  refine Con.of Try.func69 rfl Try.ntmps69 rfl ?_
  intro S w hF
  unfold m_link_queue at h
  refine W.seq ?_
  refine W.reg (σ' := ⟨[(0, .v (Enc.sl (Enc.pr (Enc.int .i64) (Enc.pr (Enc.sl (Enc.int .i64)) (Enc.sl eBlk)))) a0)], []⟩) (J.cons (.none rfl) (JO.assignNilR 101 28 (Enc.pr (Enc.int .i64) (Enc.pr (Enc.sl (Enc.int .i64)) (Enc.sl eBlk)))) rfl rfl (J.fin (Sw.Sub.mk id (.cons rfl (.of_eq rfl) .nil) .nil rfl))) ?_
  refine W.seq ?_
  refine W.reg (σ' := ⟨[(0, .v (Enc.sl (Enc.pr (Enc.int .i64) (Enc.pr (Enc.sl (Enc.int .i64)) (Enc.sl eBlk)))) a0), (3, .ref 102)], [(102, .arr 28 (Enc.pr (Enc.int .i64) (Enc.pr (Enc.sl (Enc.int .i64)) (Enc.sl eBlk))) ([] : (List (Int × (List Int) × (List Blk)))))]⟩) (J.cons (.none rfl) (JO.assignNilR 102 28 (Enc.pr (Enc.int .i64) (Enc.pr (Enc.sl (Enc.int .i64)) (Enc.sl eBlk)))) rfl rfl (J.fin (Sw.Sub.mk id (.cons rfl (.of_eq rfl) (.cons rfl (.of_eq rfl) .nil)) (.arr rfl .nil) rfl))) ?_
  refine W.seq ?_
  refine W.seq ?_
  refine W.reg (σ' := ⟨[(3, .ref 102), (6, .v (Enc.sl (Enc.pr (Enc.int .i64) (Enc.pr (Enc.sl (Enc.int .i64)) (Enc.sl eBlk)))) a0), (7, .v (Enc.int .i64) (a0.length : Int)), (8, .v (Enc.int .i64) (0 : Int))], [(102, .arr 28 (Enc.pr (Enc.int .i64) (Enc.pr (Enc.sl (Enc.int .i64)) (Enc.sl eBlk))) ([] : (List (Int × (List Int) × (List Blk)))))]⟩) (J.cons (.none rfl) (JO.move rfl) rfl rfl (J.cons (.none rfl) (JO.len rfl Try.runUnderlying22) rfl rfl (J.cons (.none rfl) (JO.move rfl) rfl rfl (J.fin (Sw.Sub.mk id (.cons rfl (.of_eq rfl) (.cons rfl (.of_eq rfl) (.cons rfl (.of_eq rfl) (.cons rfl (.of_eq rfl) .nil)))) (.arr rfl .nil) rfl))))) ?_
  obtain ⟨o16, ho16, hb16, hr16⟩ := lp_elim h
  refine W.lp (σs := fun s11 : Int × (List (Int × (List Int) × (List Blk))) => ⟨[(3, .ref 112), (6, .v (Enc.sl (Enc.pr (Enc.int .i64) (Enc.pr (Enc.sl (Enc.int .i64)) (Enc.sl eBlk)))) a0), (7, .v (Enc.int .i64) (a0.length : Int)), (8, .v (Enc.int .i64) s11.1)], [(112, .arr 28 (Enc.pr (Enc.int .i64) (Enc.pr (Enc.sl (Enc.int .i64)) (Enc.sl eBlk))) s11.2)]⟩) (fun x17 : (List (Int × (List Int) × (List Blk))) => ⟨[(3, .ref 112)], [(112, .arr 28 (Enc.pr (Enc.int .i64) (Enc.pr (Enc.sl (Enc.int .i64)) (Enc.sl eBlk))) x17)]⟩) ho16 (Sw.Sub.mk (rn [(112, 102)]) (.cons rfl (.of_eq rfl) (.cons rfl (.of_eq rfl) (.cons rfl (.of_eq rfl) (.cons rfl (.of_eq rfl) .nil)))) (.arr rfl .nil) rfl) ?_ ?_
  · intro x17 hy
    have h := hb16 _ hy
    refine W.seq ?_
    refine W.reg (σ' := ⟨[(2, .ref 112)], [(112, .arr 28 (Enc.pr (Enc.int .i64) (Enc.pr (Enc.sl (Enc.int .i64)) (Enc.sl eBlk))) x17)]⟩) (J.cons (.none rfl) (JO.move rfl) rfl rfl (J.cons (.none rfl) (JO.assign rfl) rfl rfl (J.fin (Sw.Sub.mk id (.cons rfl (.of_eq rfl) .nil) (.arr rfl .nil) rfl)))) ?_
    refine W.ret ?_
    obtain rfl := Option.some.inj h
    exact XQ.sub (σ' := ⟨[(2, .ref 0)], [(0, .arr 28 (Enc.pr (Enc.int .i64) (Enc.pr (Enc.sl (Enc.int .i64)) (Enc.sl eBlk))) x17)]⟩) (Sw.Sub.mk (rn [(0, 112)]) (.cons rfl (.of_eq rfl) .nil) (.arr rfl .nil) rfl) (XQ.ret1 hF noR rfl (RV.tmp rfl) (.cons rfl .nil) rfl)
  intro s11 r16 h
  refine W.seq ?_
  refine W.reg (σ' := ⟨[(3, .ref 112), (6, .v (Enc.sl (Enc.pr (Enc.int .i64) (Enc.pr (Enc.sl (Enc.int .i64)) (Enc.sl eBlk)))) a0), (7, .v (Enc.int .i64) (a0.length : Int)), (8, .v (Enc.int .i64) s11.1), (9, .v Enc.bool (cm .lss s11.1 (a0.length : Int)))], [(112, .arr 28 (Enc.pr (Enc.int .i64) (Enc.pr (Enc.sl (Enc.int .i64)) (Enc.sl eBlk))) s11.2)]⟩) (J.cons (.none rfl) (JO.cmp rfl rfl rfl) rfl rfl (J.fin (Sw.Sub.mk id (.cons rfl (.of_eq rfl) (.cons rfl (.of_eq rfl) (.cons rfl (.of_eq rfl) (.cons rfl (.of_eq rfl) (.cons rfl (.of_eq rfl) .nil))))) (.arr rfl .nil) rfl))) ?_
  refine W.seq ?_
  rcases Bool.eq_false_or_eq_true (cm .lss s11.1 (a0.length : Int)) with hc18 | hc18
  · replace h := cond_t hc18 h
    refine W.condT rfl hc18 ?_
    refine W.skip ?_
    refine W.seq ?_
    refine W.block ?_
    refine W.seq ?_
    obtain ⟨z19, hz19, h⟩ := bind_e h
    refine W.reg (σ' := ⟨[(3, .ref 112), (5, .ptr 116 0), (6, .v (Enc.sl (Enc.pr (Enc.int .i64) (Enc.pr (Enc.sl (Enc.int .i64)) (Enc.sl eBlk)))) a0), (7, .v (Enc.int .i64) (a0.length : Int)), (8, .v (Enc.int .i64) s11.1)], [(112, .arr 28 (Enc.pr (Enc.int .i64) (Enc.pr (Enc.sl (Enc.int .i64)) (Enc.sl eBlk))) s11.2), (116, .box 28 [.v (Enc.int .i64) z19.1, .v (Enc.sl (Enc.int .i64)) z19.2.1, .v (Enc.sl eBlk) z19.2.2])]⟩) (J.cons (.none rfl) (JO.idx hz19 rfl rfl Try.runUnderlying22 Try.sizeOf28) rfl rfl (J.cons (.none rfl) (JO.loadPst rfl Try.isAgg28 Try.sizeOf28) rfl rfl (J.cons (.none rfl) (JO.alloc 116 Try.zeroValue28 rfl (.cons (Z.int .i64) (.cons (Z.sl (Enc.int .i64)) (.cons (Z.sl eBlk) .nil))) rfl) rfl rfl (J.mut (.none rfl) (JM.storeAll rfl rfl rfl rfl (.prm (.one _ _) (.prm (.one _ _) (.one _ _))) Try.sizeOf28) (J.fin (Sw.Sub.mk id (.cons rfl (.of_eq rfl) (.cons rfl (.of_eq rfl) (.cons rfl (.of_eq rfl) (.cons rfl (.of_eq rfl) (.cons rfl (.of_eq rfl) .nil))))) (.arr rfl (.box rfl (.cons (.of_eq rfl) (.cons (.of_eq rfl) (.cons (.of_eq rfl) .nil))) .nil)) rfl)))))) ?_
    obtain ⟨v20, hv20, h⟩ := bind_e h
    obtain ⟨v21, hv21, h⟩ := bind_e h
    refine W.reg (σ' := ⟨[(3, .ref 118), (6, .v (Enc.sl (Enc.pr (Enc.int .i64) (Enc.pr (Enc.sl (Enc.int .i64)) (Enc.sl eBlk)))) a0), (7, .v (Enc.int .i64) (a0.length : Int)), (8, .v (Enc.int .i64) s11.1)], [(118, .arr 28 (Enc.pr (Enc.int .i64) (Enc.pr (Enc.sl (Enc.int .i64)) (Enc.sl eBlk))) v21)]⟩) (J.cons (.none rfl) (JO.move rfl) rfl rfl (J.cons (.none rfl) (JO.loadAll rfl rfl (.prm (.one _ _) (.prm (.one _ _) (.one _ _))) Try.isAgg28 Try.sizeOf28) rfl rfl (J.cons (.none rfl) (JO.call0 (con_link_clone hv20) Try.call70 (.cons (.dir rfl) .nil)) rfl rfl (J.cons (.none rfl) (JO.lit (e := (Enc.pr (Enc.int .i64) (Enc.pr (Enc.sl (Enc.int .i64)) (Enc.sl eBlk)))) Try.runUnderlying22 Try.sizeOf28 Try.zeroValue28 rfl rfl rfl rfl (.cons (.dir rfl) .nil)) rfl rfl (J.mut (.none rfl) (JM.append 118 hv21 rfl rfl (.sl rfl) Try.runUnderlying22 Try.typeInfo28 Try.sizeOf28 rfl rfl rfl rfl rfl) (J.cons (.none rfl) (JO.assign rfl) rfl rfl (J.fin (Sw.Sub.mk id (.cons rfl (.of_eq rfl) (.cons rfl (.of_eq rfl) (.cons rfl (.of_eq rfl) (.cons rfl (.of_eq rfl) .nil)))) (.arr rfl .nil) rfl)))))))) ?_
    refine W.fall ?_
    refine W.reg (σ' := ⟨[(3, .ref 118), (6, .v (Enc.sl (Enc.pr (Enc.int .i64) (Enc.pr (Enc.sl (Enc.int .i64)) (Enc.sl eBlk)))) a0), (7, .v (Enc.int .i64) (a0.length : Int)), (8, .v (Enc.int .i64) (ar .add .i64 s11.1 (1 : Int)))], [(118, .arr 28 (Enc.pr (Enc.int .i64) (Enc.pr (Enc.sl (Enc.int .i64)) (Enc.sl eBlk))) v21)]⟩) (J.cons (.none rfl) (JO.arith rfl rfl rfl) rfl rfl (J.cons (.none rfl) (JO.move rfl) rfl rfl (J.fin (Sw.Sub.mk id (.cons rfl (.of_eq rfl) (.cons rfl (.of_eq rfl) (.cons rfl (.of_eq rfl) (.cons rfl (.of_eq rfl) .nil)))) (.arr rfl .nil) rfl)))) ?_
    obtain rfl := Option.some.inj h
    exact W.next (Sw.Sub.mk (rn [(112, 118)]) (.cons rfl (.of_eq rfl) (.cons rfl (.of_eq rfl) (.cons rfl (.of_eq rfl) (.cons rfl (.of_eq rfl) .nil)))) (.arr rfl .nil) rfl)
  · replace h := cond_f hc18 h
    refine W.condF rfl hc18 ?_
    refine W.exit ?_
    obtain rfl := Option.some.inj h
    exact XQ.brk (Sw.Sub.mk id (.cons rfl (.of_eq rfl) .nil) (.arr rfl .nil) rfl)
set_option maxRecDepth 100000 in
set_option maxHeartbeats 4000000 in
theorem con_frame_Sum {a0 : (List Int)} {r : Int} (h : m_frame_Sum a0 = some r) :
    Con Try.prog 93 [.v (Enc.sl (Enc.int .u8)) a0] (.v (Enc.int .u32) r) [] := by
  refine Con.of Try.func93 rfl Try.ntmps93 rfl ?_
  intro S w hF
  unfold m_frame_Sum at h
  refine W.seq ?_
  refine W.reg (σ' := ⟨[(0, .v (Enc.sl (Enc.int .u8)) a0)], []⟩) (J.cons (.none rfl) (JO.assign rfl) rfl rfl (J.fin (Sw.Sub.mk id (.cons rfl (.of_eq rfl) .nil) .nil rfl))) ?_
  refine W.seq ?_
  refine W.reg (σ' := ⟨[(0, .v (Enc.sl (Enc.int .u8)) a0), (3, .v (Enc.int .u32) (4294967295 : Int))], []⟩) (J.cons (.none rfl) (JO.assign rfl) rfl rfl (J.fin (Sw.Sub.mk id (.cons rfl (.of_eq rfl) (.cons rfl (.of_eq rfl) .nil)) .nil rfl))) ?_
  refine W.seq ?_
  refine W.seq ?_
  refine W.reg (σ' := ⟨[(3, .v (Enc.int .u32) (4294967295 : Int)), (6, .v (Enc.sl (Enc.int .u8)) a0), (7, .v (Enc.int .i64) (a0.length : Int)), (8, .v (Enc.int .i64) (0 : Int))], []⟩) (J.cons (.none rfl) (JO.move rfl) rfl rfl (J.cons (.none rfl) (JO.len rfl Try.runUnderlying39) rfl rfl (J.cons (.none rfl) (JO.move rfl) rfl rfl (J.fin (Sw.Sub.mk id (.cons rfl (.of_eq rfl) (.cons rfl (.of_eq rfl) (.cons rfl (.of_eq rfl) (.cons rfl (.of_eq rfl) .nil)))) .nil rfl))))) ?_
  obtain ⟨o37, ho37, hb37, hr37⟩ := lp_elim h
  refine W.lp (σs := fun s25 : Int × Int => ⟨[(3, .v (Enc.int .u32) s25.1), (6, .v (Enc.sl (Enc.int .u8)) a0), (7, .v (Enc.int .i64) (a0.length : Int)), (8, .v (Enc.int .i64) s25.2)], []⟩) (fun x38 : Int => ⟨[(3, .v (Enc.int .u32) x38)], []⟩) ho37 (Sw.Sub.mk id (.cons rfl (.of_eq rfl) (.cons rfl (.of_eq rfl) (.cons rfl (.of_eq rfl) (.cons rfl (.of_eq rfl) .nil)))) .nil rfl) ?_ ?_
  · intro x38 hy
    have h := hb37 _ hy
    refine W.seq ?_
    refine W.reg (σ' := ⟨[(2, .v (Enc.int .u32) (bnot .u32 x38))], []⟩) (J.cons (.none rfl) (JO.move rfl) rfl rfl (J.cons (.none rfl) (JO.xor rfl) rfl rfl (J.cons (.none rfl) (JO.assign rfl) rfl rfl (J.fin (Sw.Sub.mk id (.cons rfl (.of_eq rfl) .nil) .nil rfl))))) ?_
    refine W.ret ?_
    obtain rfl := Option.some.inj h
    exact XQ.sub (σ' := ⟨[(2, .v (Enc.int .u32) (bnot .u32 x38))], []⟩) (Sw.Sub.mk id (.cons rfl (.of_eq rfl) .nil) .nil rfl) (XQ.ret1 hF noR rfl (RV.tmp rfl) .nil rfl)
  intro s25 r37 h
  refine W.seq ?_
  refine W.reg (σ' := ⟨[(3, .v (Enc.int .u32) s25.1), (6, .v (Enc.sl (Enc.int .u8)) a0), (7, .v (Enc.int .i64) (a0.length : Int)), (8, .v (Enc.int .i64) s25.2), (9, .v Enc.bool (cm .lss s25.2 (a0.length : Int)))], []⟩) (J.cons (.none rfl) (JO.cmp rfl rfl rfl) rfl rfl (J.fin (Sw.Sub.mk id (.cons rfl (.of_eq rfl) (.cons rfl (.of_eq rfl) (.cons rfl (.of_eq rfl) (.cons rfl (.of_eq rfl) (.cons rfl (.of_eq rfl) .nil))))) .nil rfl))) ?_
  refine W.seq ?_
  rcases Bool.eq_false_or_eq_true (cm .lss s25.2 (a0.length : Int)) with hc39 | hc39
  · replace h := cond_t hc39 h
    refine W.condT rfl hc39 ?_
    refine W.skip ?_
    refine W.seq ?_
    refine W.block ?_
    refine W.seq ?_
    obtain ⟨z40, hz40, h⟩ := bind_e h
    refine W.reg (σ' := ⟨[(3, .v (Enc.int .u32) s25.1), (5, .v (Enc.int .u8) z40), (6, .v (Enc.sl (Enc.int .u8)) a0), (7, .v (Enc.int .i64) (a0.length : Int)), (8, .v (Enc.int .i64) s25.2)], []⟩) (J.cons (.none rfl) (JO.idx hz40 rfl rfl Try.runUnderlying39 Try.sizeOf5) rfl rfl (J.cons (.none rfl) (JO.loadPst rfl Try.isAgg5 Try.sizeOf5) rfl rfl (J.cons (.none rfl) (JO.assign rfl) rfl rfl (J.fin (Sw.Sub.mk id (.cons rfl (.of_eq rfl) (.cons rfl (.of_eq rfl) (.cons rfl (.of_eq rfl) (.cons rfl (.of_eq rfl) (.cons rfl (.of_eq rfl) .nil))))) .nil rfl))))) ?_
    refine W.seq ?_
    refine W.reg (σ' := ⟨[(3, .v (Enc.int .u32) (ar .xor .u32 s25.1 z40)), (6, .v (Enc.sl (Enc.int .u8)) a0), (7, .v (Enc.int .i64) (a0.length : Int)), (8, .v (Enc.int .i64) s25.2)], []⟩) (J.cons (.none rfl) (JO.move rfl) rfl rfl (J.cons (.none rfl) (JO.move rfl) rfl rfl (J.cons (.none rfl) (JO.convUp Try.runUnderlying5 Try.runUnderlying157 rfl rfl) rfl rfl (J.cons (.none rfl) (JO.arith rfl rfl rfl) rfl rfl (J.cons (.none rfl) (JO.assign rfl) rfl rfl (J.fin (Sw.Sub.mk id (.cons rfl (.of_eq rfl) (.cons rfl (.of_eq rfl) (.cons rfl (.of_eq rfl) (.cons rfl (.of_eq rfl) .nil)))) .nil rfl))))))) ?_
    refine W.seq ?_
    refine W.reg (σ' := ⟨[(3, .v (Enc.int .u32) (ar .xor .u32 s25.1 z40)), (6, .v (Enc.sl (Enc.int .u8)) a0), (7, .v (Enc.int .i64) (a0.length : Int)), (8, .v (Enc.int .i64) s25.2), (16, .v (Enc.int .i64) (0 : Int))], []⟩) (J.cons (.none rfl) (JO.move rfl) rfl rfl (J.fin (Sw.Sub.mk id (.cons rfl (.of_eq rfl) (.cons rfl (.of_eq rfl) (.cons rfl (.of_eq rfl) (.cons rfl (.of_eq rfl) (.cons rfl (.of_eq rfl) .nil))))) .nil rfl))) ?_
    obtain ⟨o47, ho47, hb47, hr47⟩ := lp_elim h
    refine W.lp (σs := fun s45 : Int × Int => ⟨[(3, .v (Enc.int .u32) s45.1), (6, .v (Enc.sl (Enc.int .u8)) a0), (7, .v (Enc.int .i64) (a0.length : Int)), (8, .v (Enc.int .i64) s25.2), (16, .v (Enc.int .i64) s45.2)], []⟩) (fun x48 : Int => ⟨[(3, .v (Enc.int .u32) x48), (6, .v (Enc.sl (Enc.int .u8)) a0), (7, .v (Enc.int .i64) (a0.length : Int)), (8, .v (Enc.int .i64) s25.2)], []⟩) ho47 (Sw.Sub.mk id (.cons rfl (.of_eq rfl) (.cons rfl (.of_eq rfl) (.cons rfl (.of_eq rfl) (.cons rfl (.of_eq rfl) (.cons rfl (.of_eq rfl) .nil))))) .nil rfl) ?_ ?_
    · intro x48 hy
      have h := hb47 _ hy
      refine W.fall ?_
      refine W.reg (σ' := ⟨[(3, .v (Enc.int .u32) x48), (6, .v (Enc.sl (Enc.int .u8)) a0), (7, .v (Enc.int .i64) (a0.length : Int)), (8, .v (Enc.int .i64) (ar .add .i64 s25.2 (1 : Int)))], []⟩) (J.cons (.none rfl) (JO.arith rfl rfl rfl) rfl rfl (J.cons (.none rfl) (JO.move rfl) rfl rfl (J.fin (Sw.Sub.mk id (.cons rfl (.of_eq rfl) (.cons rfl (.of_eq rfl) (.cons rfl (.of_eq rfl) (.cons rfl (.of_eq rfl) .nil)))) .nil rfl)))) ?_
      obtain rfl := Option.some.inj h
      exact W.next (Sw.Sub.mk id (.cons rfl (.of_eq rfl) (.cons rfl (.of_eq rfl) (.cons rfl (.of_eq rfl) (.cons rfl (.of_eq rfl) .nil)))) .nil rfl)
    intro s45 r47 h
    refine W.seq ?_
    refine W.reg (σ' := ⟨[(3, .v (Enc.int .u32) s45.1), (6, .v (Enc.sl (Enc.int .u8)) a0), (7, .v (Enc.int .i64) (a0.length : Int)), (8, .v (Enc.int .i64) s25.2), (16, .v (Enc.int .i64) s45.2), (17, .v Enc.bool (cm .lss s45.2 (8 : Int)))], []⟩) (J.cons (.none rfl) (JO.cmp rfl rfl rfl) rfl rfl (J.fin (Sw.Sub.mk id (.cons rfl (.of_eq rfl) (.cons rfl (.of_eq rfl) (.cons rfl (.of_eq rfl) (.cons rfl (.of_eq rfl) (.cons rfl (.of_eq rfl) (.cons rfl (.of_eq rfl) .nil)))))) .nil rfl))) ?_
    refine W.seq ?_
    rcases Bool.eq_false_or_eq_true (cm .lss s45.2 (8 : Int)) with hc49 | hc49
    · replace h := cond_t hc49 h
      refine W.condT rfl hc49 ?_
      refine W.skip ?_
      refine W.seq ?_
      refine W.block ?_
      refine W.reg (σ' := ⟨[(3, .v (Enc.int .u32) (ar .xor .u32 (sh .shr .u32 s45.1 (1 : Int)) (ar .mul .u32 (3988292384 : Int) (ar .and .u32 s45.1 (1 : Int))))), (6, .v (Enc.sl (Enc.int .u8)) a0), (7, .v (Enc.int .i64) (a0.length : Int)), (8, .v (Enc.int .i64) s25.2), (16, .v (Enc.int .i64) s45.2)], []⟩) (J.cons (.none rfl) (JO.move rfl) rfl rfl (J.cons (.none rfl) (JO.shift (.inr rfl) (by decide) rfl rfl) rfl rfl (J.cons (.none rfl) (JO.move rfl) rfl rfl (J.cons (.none rfl) (JO.arith rfl rfl rfl) rfl rfl (J.cons (.none rfl) (JO.arith rfl rfl rfl) rfl rfl (J.cons (.none rfl) (JO.arith rfl rfl rfl) rfl rfl (J.cons (.none rfl) (JO.assign rfl) rfl rfl (J.fin (Sw.Sub.mk id (.cons rfl (.of_eq rfl) (.cons rfl (.of_eq rfl) (.cons rfl (.of_eq rfl) (.cons rfl (.of_eq rfl) (.cons rfl (.of_eq rfl) .nil))))) .nil rfl))))))))) ?_
      refine W.fall ?_
      refine W.reg (σ' := ⟨[(3, .v (Enc.int .u32) (ar .xor .u32 (sh .shr .u32 s45.1 (1 : Int)) (ar .mul .u32 (3988292384 : Int) (ar .and .u32 s45.1 (1 : Int))))), (6, .v (Enc.sl (Enc.int .u8)) a0), (7, .v (Enc.int .i64) (a0.length : Int)), (8, .v (Enc.int .i64) s25.2), (16, .v (Enc.int .i64) (ar .add .i64 s45.2 (1 : Int)))], []⟩) (J.cons (.none rfl) (JO.arith rfl rfl rfl) rfl rfl (J.cons (.none rfl) (JO.move rfl) rfl rfl (J.fin (Sw.Sub.mk id (.cons rfl (.of_eq rfl) (.cons rfl (.of_eq rfl) (.cons rfl (.of_eq rfl) (.cons rfl (.of_eq rfl) (.cons rfl (.of_eq rfl) .nil))))) .nil rfl)))) ?_
      obtain rfl := Option.some.inj h
      exact W.next (Sw.Sub.mk id (.cons rfl (.of_eq rfl) (.cons rfl (.of_eq rfl) (.cons rfl (.of_eq rfl) (.cons rfl (.of_eq rfl) (.cons rfl (.of_eq rfl) .nil))))) .nil rfl)
    · replace h := cond_f hc49 h
      refine W.condF rfl hc49 ?_
      refine W.exit ?_
      obtain rfl := Option.some.inj h
      exact XQ.brk (Sw.Sub.mk id (.cons rfl (.of_eq rfl) (.cons rfl (.of_eq rfl) (.cons rfl (.of_eq rfl) (.cons rfl (.of_eq rfl) .nil)))) .nil rfl)
  · replace h := cond_f hc39 h
    refine W.condF rfl hc39 ?_
    refine W.exit ?_
    obtain rfl := Option.some.inj h
    exact XQ.brk (Sw.Sub.mk id (.cons rfl (.of_eq rfl) .nil) .nil rfl)
set_option maxRecDepth 100000 in
set_option maxHeartbeats 4000000 in
theorem con_frame_taker_byte_io (A : Nat → Nat) {a0_0 : (List Int)} {r : Int × Bool × (List Int)} (h : m_frame_taker_byte_io a0_0 = some r) :
    ConM Try.prog 94 [.ptr 9000 0] [(9000, .box 162 [.v (Enc.sl (Enc.int .u8)) a0_0] (some (A 9000)))] (.tup [.v (Enc.int .u8) r.1, .v Enc.bool r.2.1]) [(9000, .box 162 [.v (Enc.sl (Enc.int .u8)) r.2.2] (some (A 9000)))] := by
  refine ConM.of Try.func94 rfl Try.ntmps94 rfl ?_
  intro S w R hF
  unfold m_frame_taker_byte_io at h
  refine W.seq ?_
  refine W.reg (σ' := ⟨[(0, .ptr 9000 0)], [(9000, .box 162 [.v (Enc.sl (Enc.int .u8)) a0_0] (some (A 9000)))]⟩) (J.cons (.none rfl) (JO.assign rfl) rfl rfl (J.cons (.none rfl) (JO.assign rfl) rfl rfl (J.fin (Sw.Sub.mk id (.cons rfl (.of_eq rfl) .nil) (.box rfl (.cons (.of_eq rfl) .nil) .nil) rfl)))) ?_
  refine W.seq ?_
  refine W.seq ?_
  refine W.reg (σ' := ⟨[(0, .ptr 9000 0), (10, .v Enc.bool (cm .eql (a0_0.length : Int) (0 : Int)))], [(9000, .box 162 [.v (Enc.sl (Enc.int .u8)) a0_0] (some (A 9000)))]⟩) (J.cons (.none rfl) (JO.move rfl) rfl rfl (J.cons (.none rfl) (JO.nilPtr rfl) rfl rfl (J.cons (.none rfl) (JO.fieldPtr 0 rfl Try.runUnderlying162 rfl Try.sizeOf39 rfl rfl) rfl rfl (J.cons (.none rfl) (JO.load rfl rfl rfl Try.isAgg39 Try.sizeOf39) rfl rfl (J.cons (.none rfl) (JO.len rfl Try.runUnderlying39) rfl rfl (J.cons (.none rfl) (JO.cmp rfl rfl rfl) rfl rfl (J.fin (Sw.Sub.mk id (.cons rfl (.of_eq rfl) (.cons rfl (.of_eq rfl) .nil)) (.box rfl (.cons (.of_eq rfl) .nil) .nil) rfl)))))))) ?_
  rcases Bool.eq_false_or_eq_true (cm .eql (a0_0.length : Int) (0 : Int)) with hc1 | hc1
  · replace h := cond_t hc1 h
    refine W.condT rfl hc1 ?_
    refine W.seq ?_
    refine W.reg (σ' := ⟨[(0, .ptr 9000 0), (2, .v (Enc.int .u8) (0 : Int)), (3, .v Enc.bool false)], [(9000, .box 162 [.v (Enc.sl (Enc.int .u8)) a0_0] (some (A 9000)))]⟩) (J.cons (.none rfl) (JO.assign rfl) rfl rfl (J.cons (.none rfl) (JO.assign rfl) rfl rfl (J.fin (Sw.Sub.mk id (.cons rfl (.of_eq rfl) (.cons rfl (.of_eq rfl) (.cons rfl (.of_eq rfl) .nil))) (.box rfl (.cons (.of_eq rfl) .nil) .nil) rfl)))) ?_
    refine W.ret ?_
    obtain rfl := Option.some.inj h
    exact XQ.sub (σ' := ⟨[(0, .ptr 9000 0), (2, .v (Enc.int .u8) (0 : Int)), (3, .v Enc.bool false)], [(9000, .box 162 [.v (Enc.sl (Enc.int .u8)) a0_0] (some (A 9000)))]⟩) (Sw.Sub.mk id (.cons rfl (.of_eq rfl) (.cons rfl (.of_eq rfl) (.cons rfl (.of_eq rfl) .nil))) (.box rfl (.cons (.of_eq rfl) .nil) .nil) rfl) (XQ.retM2 hF rfl (RV.tmp rfl) (RV.tmp rfl) (.cons rfl .nil))
  · replace h := cond_f hc1 h
    refine W.condF rfl hc1 ?_
    refine W.skip ?_
    refine W.seq ?_
    obtain ⟨z2, hz2, h⟩ := bind_e h
    refine W.reg (σ' := ⟨[(0, .ptr 9000 0), (4, .v (Enc.int .u8) z2)], [(9000, .box 162 [.v (Enc.sl (Enc.int .u8)) a0_0] (some (A 9000)))]⟩) (J.cons (.none rfl) (JO.move rfl) rfl rfl (J.cons (.none rfl) (JO.nilPtr rfl) rfl rfl (J.cons (.none rfl) (JO.fieldPtr 0 rfl Try.runUnderlying162 rfl Try.sizeOf39 rfl rfl) rfl rfl (J.cons (.none rfl) (JO.load rfl rfl rfl Try.isAgg39 Try.sizeOf39) rfl rfl (J.cons (.none rfl) (JO.idx hz2 rfl rfl Try.runUnderlying39 Try.sizeOf5) rfl rfl (J.cons (.none rfl) (JO.loadPst rfl Try.isAgg5 Try.sizeOf5) rfl rfl (J.cons (.none rfl) (JO.assign rfl) rfl rfl (J.fin (Sw.Sub.mk id (.cons rfl (.of_eq rfl) (.cons rfl (.of_eq rfl) .nil)) (.box rfl (.cons (.of_eq rfl) .nil) .nil) rfl))))))))) ?_
    refine W.seq ?_
    obtain ⟨v3, hv3, h⟩ := bind_e h
    refine W.reg (σ' := ⟨[(0, .ptr 9000 0), (4, .v (Enc.int .u8) z2)], [(9000, .box 162 [.v (Enc.sl (Enc.int .u8)) v3] (some (A 9000)))]⟩) (J.cons (.none rfl) (JO.move rfl) rfl rfl (J.cons (.none rfl) (JO.move rfl) rfl rfl (J.cons (.none rfl) (JO.nilPtr rfl) rfl rfl (J.cons (.none rfl) (JO.fieldPtr 0 rfl Try.runUnderlying162 rfl Try.sizeOf39 rfl rfl) rfl rfl (J.cons (.none rfl) (JO.load rfl rfl rfl Try.isAgg39 Try.sizeOf39) rfl rfl (J.cons (.none rfl) (JO.slLo hv3 rfl rfl Try.runUnderlying39 Try.sizeOf5) rfl rfl (J.cons (.none rfl) (JO.nilPtr rfl) rfl rfl (J.cons (.none rfl) (JO.fieldPtr 0 rfl Try.runUnderlying162 rfl Try.sizeOf39 rfl rfl) rfl rfl (J.mut (.none rfl) (JM.store rfl rfl rfl rfl rfl rfl rfl Try.sizeOf39) (J.fin (Sw.Sub.mk id (.cons rfl (.of_eq rfl) (.cons rfl (.of_eq rfl) .nil)) (.box rfl (.cons (.of_eq rfl) .nil) .nil) rfl))))))))))) ?_
    refine W.seq ?_
    refine W.reg (σ' := ⟨[(0, .ptr 9000 0), (2, .v (Enc.int .u8) z2), (3, .v Enc.bool true)], [(9000, .box 162 [.v (Enc.sl (Enc.int .u8)) v3] (some (A 9000)))]⟩) (J.cons (.none rfl) (JO.move rfl) rfl rfl (J.cons (.none rfl) (JO.assign rfl) rfl rfl (J.cons (.none rfl) (JO.assign rfl) rfl rfl (J.fin (Sw.Sub.mk id (.cons rfl (.of_eq rfl) (.cons rfl (.of_eq rfl) (.cons rfl (.of_eq rfl) .nil))) (.box rfl (.cons (.of_eq rfl) .nil) .nil) rfl))))) ?_
    refine W.ret ?_
    obtain rfl := Option.some.inj h
    exact XQ.sub (σ' := ⟨[(0, .ptr 9000 0), (2, .v (Enc.int .u8) z2), (3, .v Enc.bool true)], [(9000, .box 162 [.v (Enc.sl (Enc.int .u8)) v3] (some (A 9000)))]⟩) (Sw.Sub.mk id (.cons rfl (.of_eq rfl) (.cons rfl (.of_eq rfl) (.cons rfl (.of_eq rfl) .nil))) (.box rfl (.cons (.of_eq rfl) .nil) .nil) rfl) (XQ.retM2 hF rfl (RV.tmp rfl) (RV.tmp rfl) (.cons rfl .nil))
set_option maxRecDepth 100000 in
set_option maxHeartbeats 4000000 in
theorem con_frame_taker_number_io (A : Nat → Nat) {a0_0 : (List Int)} {r : Int × Bool × (List Int)} (h : m_frame_taker_number_io a0_0 = some r) :
    ConM Try.prog 95 [.ptr 9000 0] [(9000, .box 162 [.v (Enc.sl (Enc.int .u8)) a0_0] (some (A 9000)))] (.tup [.v (Enc.int .i64) r.1, .v Enc.bool r.2.1]) [(9000, .box 162 [.v (Enc.sl (Enc.int .u8)) r.2.2] (some (A 9000)))] := by
  refine ConM.of Try.func95 rfl Try.ntmps95 rfl ?_
  intro S w R hF
  unfold m_frame_taker_number_io at h
  refine W.seq ?_
  refine W.reg (σ' := ⟨[(0, .ptr 9000 0)], [(9000, .box 162 [.v (Enc.sl (Enc.int .u8)) a0_0] (some (A 9000)))]⟩) (J.cons (.none rfl) (JO.assign rfl) rfl rfl (J.cons (.none rfl) (JO.assign rfl) rfl rfl (J.fin (Sw.Sub.mk id (.cons rfl (.of_eq rfl) .nil) (.box rfl (.cons (.of_eq rfl) .nil) .nil) rfl)))) ?_
  refine W.seq ?_
  refine W.reg (σ' := ⟨[(0, .ptr 9000 0), (4, .v (Enc.int .i64) (0 : Int))], [(9000, .box 162 [.v (Enc.sl (Enc.int .u8)) a0_0] (some (A 9000)))]⟩) (J.cons (.none rfl) (JO.assign rfl) rfl rfl (J.fin (Sw.Sub.mk id (.cons rfl (.of_eq rfl) (.cons rfl (.of_eq rfl) .nil)) (.box rfl (.cons (.of_eq rfl) .nil) .nil) rfl))) ?_
  refine W.seq ?_
  refine W.seq ?_
  refine W.reg (σ' := ⟨[(0, .ptr 9000 0), (4, .v (Enc.int .i64) (0 : Int)), (5, .v (Enc.int .i64) (0 : Int))], [(9000, .box 162 [.v (Enc.sl (Enc.int .u8)) a0_0] (some (A 9000)))]⟩) (J.cons (.none rfl) (JO.assign rfl) rfl rfl (J.fin (Sw.Sub.mk id (.cons rfl (.of_eq rfl) (.cons rfl (.of_eq rfl) (.cons rfl (.of_eq rfl) .nil))) (.box rfl (.cons (.of_eq rfl) .nil) .nil) rfl))) ?_
  obtain ⟨o33, ho33, hb33, hr33⟩ := lp_elim h
  refine W.lp (σs := fun s22 : Int × Int × (List Int) => ⟨[(0, .ptr 9000 0), (4, .v (Enc.int .i64) s22.1), (5, .v (Enc.int .i64) s22.2.1)], [(9000, .box 162 [.v (Enc.sl (Enc.int .u8)) s22.2.2] (some (A 9000)))]⟩) (fun x34 : (List Int) => ⟨[(0, .ptr 9000 0)], [(9000, .box 162 [.v (Enc.sl (Enc.int .u8)) x34] (some (A 9000)))]⟩) ho33 (Sw.Sub.mk id (.cons rfl (.of_eq rfl) (.cons rfl (.of_eq rfl) (.cons rfl (.of_eq rfl) .nil))) (.box rfl (.cons (.of_eq rfl) .nil) .nil) rfl) ?_ ?_
  · intro x34 hy
    have h := hb33 _ hy
    refine W.seq ?_
    refine W.reg (σ' := ⟨[(0, .ptr 9000 0), (2, .v (Enc.int .i64) (0 : Int)), (3, .v Enc.bool false)], [(9000, .box 162 [.v (Enc.sl (Enc.int .u8)) x34] (some (A 9000)))]⟩) (J.cons (.none rfl) (JO.assign rfl) rfl rfl (J.cons (.none rfl) (JO.assign rfl) rfl rfl (J.fin (Sw.Sub.mk id (.cons rfl (.of_eq rfl) (.cons rfl (.of_eq rfl) (.cons rfl (.of_eq rfl) .nil))) (.box rfl (.cons (.of_eq rfl) .nil) .nil) rfl)))) ?_
    refine W.ret ?_
    obtain rfl := Option.some.inj h
    exact XQ.sub (σ' := ⟨[(0, .ptr 9000 0), (2, .v (Enc.int .i64) (0 : Int)), (3, .v Enc.bool false)], [(9000, .box 162 [.v (Enc.sl (Enc.int .u8)) x34] (some (A 9000)))]⟩) (Sw.Sub.mk id (.cons rfl (.of_eq rfl) (.cons rfl (.of_eq rfl) (.cons rfl (.of_eq rfl) .nil))) (.box rfl (.cons (.of_eq rfl) .nil) .nil) rfl) (XQ.retM2 hF rfl (RV.tmp rfl) (RV.tmp rfl) (.cons rfl .nil))
  intro s22 r33 h
  refine W.seq ?_
  refine W.seq ?_
  refine W.reg (σ' := ⟨[(0, .ptr 9000 0), (4, .v (Enc.int .i64) s22.1), (5, .v (Enc.int .i64) s22.2.1), (9, .v Enc.bool (cm .lss s22.2.1 (35 : Int)))], [(9000, .box 162 [.v (Enc.sl (Enc.int .u8)) s22.2.2] (some (A 9000)))]⟩) (J.cons (.none rfl) (JO.move rfl) rfl rfl (J.cons (.none rfl) (JO.cmp rfl rfl rfl) rfl rfl (J.fin (Sw.Sub.mk id (.cons rfl (.of_eq rfl) (.cons rfl (.of_eq rfl) (.cons rfl (.of_eq rfl) (.cons rfl (.of_eq rfl) .nil)))) (.box rfl (.cons (.of_eq rfl) .nil) .nil) rfl)))) ?_
  rcases Bool.eq_false_or_eq_true (cm .lss s22.2.1 (35 : Int)) with hc35 | hc35
  · replace h := cond_t hc35 h
    refine W.condT rfl hc35 ?_
    refine W.skip ?_
    refine W.seq ?_
    refine W.block ?_
    refine W.seq ?_
    obtain ⟨v36, hv36, h⟩ := bind_e h
    refine W.reg (σ' := ⟨[(0, .ptr 9000 0), (4, .v (Enc.int .i64) s22.1), (5, .v (Enc.int .i64) s22.2.1), (6, .v (Enc.int .u8) v36.1), (7, .v Enc.bool v36.2.1)], [(9000, .box 162 [.v (Enc.sl (Enc.int .u8)) v36.2.2] (some (A 9000)))]⟩) (J.cons (.none rfl) (JO.move rfl) rfl rfl (J.mut (.none rfl) (JM.callM (H := [9000]) (K := [9000]) (swp [(9000, 9000)]) (swp_inj _) (fun A => con_frame_taker_byte_io A hv36) Try.call94 (.cons (.dir rfl) .nil) (fun A => (.box rfl .nil)) (fun A => (.box rfl .nil rfl)) (fun _ => rfl) rfl rfl (fun _ => rfl) rfl rfl) (J.cons (.none rfl) (JO.move rfl) rfl rfl (J.cons (.none rfl) (JO.extract rfl rfl) rfl rfl (J.cons (.none rfl) (JO.extract rfl rfl) rfl rfl (J.cons (.none rfl) (JO.assign rfl) rfl rfl (J.cons (.none rfl) (JO.assign rfl) rfl rfl (J.fin (Sw.Sub.mk id (.cons rfl (.of_eq rfl) (.cons rfl (.of_eq rfl) (.cons rfl (.of_eq rfl) (.cons rfl (.of_eq rfl) (.cons rfl (.of_eq rfl) .nil))))) (.box rfl (.cons (.of_eq rfl) .nil) .nil) rfl))))))))) ?_
    refine W.seq ?_
    refine W.seq ?_
    refine W.reg (σ' := ⟨[(0, .ptr 9000 0), (4, .v (Enc.int .i64) s22.1), (5, .v (Enc.int .i64) s22.2.1), (6, .v (Enc.int .u8) v36.1), (18, .v Enc.bool (!v36.2.1))], [(9000, .box 162 [.v (Enc.sl (Enc.int .u8)) v36.2.2] (some (A 9000)))]⟩) (J.cons (.none rfl) (JO.move rfl) rfl rfl (J.cons (.none rfl) (JO.not rfl) rfl rfl (J.fin (Sw.Sub.mk id (.cons rfl (.of_eq rfl) (.cons rfl (.of_eq rfl) (.cons rfl (.of_eq rfl) (.cons rfl (.of_eq rfl) (.cons rfl (.of_eq rfl) .nil))))) (.box rfl (.cons (.of_eq rfl) .nil) .nil) rfl)))) ?_
    rcases Bool.eq_false_or_eq_true (!v36.2.1) with hc37 | hc37
    · replace h := cond_t hc37 h
      refine W.condT rfl hc37 ?_
      refine W.seq ?_
      refine W.reg (σ' := ⟨[(0, .ptr 9000 0), (2, .v (Enc.int .i64) (0 : Int)), (3, .v Enc.bool false)], [(9000, .box 162 [.v (Enc.sl (Enc.int .u8)) v36.2.2] (some (A 9000)))]⟩) (J.cons (.none rfl) (JO.assign rfl) rfl rfl (J.cons (.none rfl) (JO.assign rfl) rfl rfl (J.fin (Sw.Sub.mk id (.cons rfl (.of_eq rfl) (.cons rfl (.of_eq rfl) (.cons rfl (.of_eq rfl) .nil))) (.box rfl (.cons (.of_eq rfl) .nil) .nil) rfl)))) ?_
      refine W.ret ?_
      refine XQ.ret ?_
      obtain rfl := Option.some.inj h
      refine XQ.lret fun ho => ?_
      obtain rfl := hr33 _ ho
      exact XQ.sub (σ' := ⟨[(0, .ptr 9000 0), (2, .v (Enc.int .i64) (0 : Int)), (3, .v Enc.bool false)], [(9000, .box 162 [.v (Enc.sl (Enc.int .u8)) v36.2.2] (some (A 9000)))]⟩) (Sw.Sub.mk id (.cons rfl (.of_eq rfl) (.cons rfl (.of_eq rfl) (.cons rfl (.of_eq rfl) .nil))) (.box rfl (.cons (.of_eq rfl) .nil) .nil) rfl) (XQ.retM2 hF rfl (RV.tmp rfl) (RV.tmp rfl) (.cons rfl .nil))
    · replace h := cond_f hc37 h
      refine W.condF rfl hc37 ?_
      refine W.skip ?_
      refine W.seq ?_
      obtain ⟨u38, hu38, h⟩ := bind_e h
      refine W.reg (σ' := ⟨[(0, .ptr 9000 0), (4, .v (Enc.int .i64) (ar .or .i64 s22.1 (sh .shl .i64 (ar .and .u8 v36.1 (127 : Int)) s22.2.1))), (5, .v (Enc.int .i64) s22.2.1), (6, .v (Enc.int .u8) v36.1)], [(9000, .box 162 [.v (Enc.sl (Enc.int .u8)) v36.2.2] (some (A 9000)))]⟩) (J.cons (.none rfl) (JO.move rfl) rfl rfl (J.cons (.none rfl) (JO.move rfl) rfl rfl (J.cons (.none rfl) (JO.arith rfl rfl rfl) rfl rfl (J.cons (.none rfl) (JO.convUp Try.runUnderlying5 Try.runUnderlying3 rfl rfl) rfl rfl (J.cons (.none rfl) (JO.move rfl) rfl rfl (J.cons (.none rfl) (JO.shift (.inl rfl) (nn_some hu38) rfl rfl) rfl rfl (J.cons (.none rfl) (JO.arith rfl rfl rfl) rfl rfl (J.cons (.none rfl) (JO.assign rfl) rfl rfl (J.fin (Sw.Sub.mk id (.cons rfl (.of_eq rfl) (.cons rfl (.of_eq rfl) (.cons rfl (.of_eq rfl) (.cons rfl (.of_eq rfl) .nil)))) (.box rfl (.cons (.of_eq rfl) .nil) .nil) rfl)))))))))) ?_
      refine W.seq ?_
      refine W.reg (σ' := ⟨[(0, .ptr 9000 0), (4, .v (Enc.int .i64) (ar .or .i64 s22.1 (sh .shl .i64 (ar .and .u8 v36.1 (127 : Int)) s22.2.1))), (5, .v (Enc.int .i64) s22.2.1), (6, .v (Enc.int .u8) v36.1), (27, .v Enc.bool (cm .lss v36.1 (128 : Int)))], [(9000, .box 162 [.v (Enc.sl (Enc.int .u8)) v36.2.2] (some (A 9000)))]⟩) (J.cons (.none rfl) (JO.move rfl) rfl rfl (J.cons (.none rfl) (JO.cmp rfl rfl rfl) rfl rfl (J.fin (Sw.Sub.mk id (.cons rfl (.of_eq rfl) (.cons rfl (.of_eq rfl) (.cons rfl (.of_eq rfl) (.cons rfl (.of_eq rfl) (.cons rfl (.of_eq rfl) .nil))))) (.box rfl (.cons (.of_eq rfl) .nil) .nil) rfl)))) ?_
      rcases Bool.eq_false_or_eq_true (cm .lss v36.1 (128 : Int)) with hc39 | hc39
      · replace h := cond_t hc39 h
        refine W.condT rfl hc39 ?_
        refine W.seq ?_
        obtain ⟨x42, hx, h⟩ := bind_e h
        refine W.reg (σ' := ⟨[(0, .ptr 9000 0), (2, .v (Enc.int .i64) (ar .or .i64 s22.1 (sh .shl .i64 (ar .and .u8 v36.1 (127 : Int)) s22.2.1))), (3, .v Enc.bool x42)], [(9000, .box 162 [.v (Enc.sl (Enc.int .u8)) v36.2.2] (some (A 9000)))]⟩) ?_ ?_
        · rcases Bool.eq_false_or_eq_true (cm .leq (ar .or .i64 s22.1 (sh .shl .i64 (ar .and .u8 v36.1 (127 : Int)) s22.2.1)) (2147483647 : Int)) with hc43 | hc43
          · replace hx := cond_t hc43 hx
            rcases Bool.eq_false_or_eq_true (cm .gtr v36.1 (0 : Int)) with hc44 | hc44
            · replace hx := cond_t hc44 hx
              obtain rfl := Option.some.inj hx
              exact (J.cons (.none rfl) (JO.move rfl) rfl rfl (J.cons (.none rfl) (JO.move rfl) rfl rfl (J.cons (.none rfl) (JO.cmp rfl rfl rfl) rfl rfl (J.cons (.none rfl) (JO.move rfl) rfl rfl (J.cons (GK.met 31 rfl rfl rfl hc43) (JO.move rfl) rfl rfl (J.cons (GK.met 31 rfl rfl rfl hc43) (JO.cmp rfl rfl rfl) rfl rfl (J.cons (GK.met 31 rfl rfl rfl hc43) (JO.move rfl) rfl rfl (J.left (GK.unmet 34 rfl rfl rfl hc44) rfl (J.left (GK.unmet 34 rfl rfl rfl hc44) rfl (J.cons (GK.met 31 rfl rfl rfl hc43) (JO.pT hc44 rfl rfl) rfl rfl (J.cons (.none rfl) (JO.pT hc43 rfl rfl) rfl rfl (J.cons (.none rfl) (JO.assign rfl) rfl rfl (J.cons (.none rfl) (JO.assign rfl) rfl rfl (J.fin (Sw.Sub.mk id (.cons rfl (.of_eq rfl) (.cons rfl (.of_eq rfl) (.cons rfl (.of_eq rfl) .nil))) (.box rfl (.cons (.of_eq rfl) .nil) .nil) rfl)))))))))))))))
            · replace hx := cond_f hc44 hx
              obtain rfl := Option.some.inj hx
              exact (J.cons (.none rfl) (JO.move rfl) rfl rfl (J.cons (.none rfl) (JO.move rfl) rfl rfl (J.cons (.none rfl) (JO.cmp rfl rfl rfl) rfl rfl (J.cons (.none rfl) (JO.move rfl) rfl rfl (J.cons (GK.met 31 rfl rfl rfl hc43) (JO.move rfl) rfl rfl (J.cons (GK.met 31 rfl rfl rfl hc43) (JO.cmp rfl rfl rfl) rfl rfl (J.cons (GK.met 31 rfl rfl rfl hc43) (JO.move rfl) rfl rfl (J.cons (GK.met 34 rfl rfl rfl hc44) (JO.move rfl) rfl rfl (J.cons (GK.met 34 rfl rfl rfl hc44) (JO.cmp rfl rfl rfl) rfl rfl (J.cons (GK.met 31 rfl rfl rfl hc43) (JO.pF hc44 rfl rfl) rfl rfl (J.cons (.none rfl) (JO.pT hc43 rfl rfl) rfl rfl (J.cons (.none rfl) (JO.assign rfl) rfl rfl (J.cons (.none rfl) (JO.assign rfl) rfl rfl (J.fin (Sw.Sub.mk id (.cons rfl (.of_eq rfl) (.cons rfl (.of_eq rfl) (.cons rfl (.of_eq rfl) .nil))) (.box rfl (.cons (.of_eq rfl) .nil) .nil) rfl)))))))))))))))
          · replace hx := cond_f hc43 hx
            obtain rfl := Option.some.inj hx
            exact (J.cons (.none rfl) (JO.move rfl) rfl rfl (J.cons (.none rfl) (JO.move rfl) rfl rfl (J.cons (.none rfl) (JO.cmp rfl rfl rfl) rfl rfl (J.cons (.none rfl) (JO.move rfl) rfl rfl (J.left (GK.unmet 31 rfl rfl rfl hc43) rfl (J.left (GK.unmet 31 rfl rfl rfl hc43) rfl (J.left (GK.unmet 31 rfl rfl rfl hc43) rfl (J.left (GK.und 34 rfl rfl rfl) rfl (J.left (GK.und 34 rfl rfl rfl) rfl (J.left (GK.unmet 31 rfl rfl rfl hc43) rfl (J.cons (.none rfl) (JO.pF hc43 rfl rfl) rfl rfl (J.cons (.none rfl) (JO.assign rfl) rfl rfl (J.cons (.none rfl) (JO.assign rfl) rfl rfl (J.fin (Sw.Sub.mk id (.cons rfl (.of_eq rfl) (.cons rfl (.of_eq rfl) (.cons rfl (.of_eq rfl) .nil))) (.box rfl (.cons (.of_eq rfl) .nil) .nil) rfl)))))))))))))))
        refine W.ret ?_
        refine XQ.ret ?_
        obtain rfl := Option.some.inj h
        refine XQ.lret fun ho => ?_
        obtain rfl := hr33 _ ho
        exact XQ.sub (σ' := ⟨[(0, .ptr 9000 0), (2, .v (Enc.int .i64) (ar .or .i64 s22.1 (sh .shl .i64 (ar .and .u8 v36.1 (127 : Int)) s22.2.1))), (3, .v Enc.bool x42)], [(9000, .box 162 [.v (Enc.sl (Enc.int .u8)) v36.2.2] (some (A 9000)))]⟩) (Sw.Sub.mk id (.cons rfl (.of_eq rfl) (.cons rfl (.of_eq rfl) (.cons rfl (.of_eq rfl) .nil))) (.box rfl (.cons (.of_eq rfl) .nil) .nil) rfl) (XQ.retM2 hF rfl (RV.tmp rfl) (RV.tmp rfl) (.cons rfl .nil))
      · replace h := cond_f hc39 h
        refine W.condF rfl hc39 ?_
        refine W.skip ?_
        refine W.fall ?_
        refine W.reg (σ' := ⟨[(0, .ptr 9000 0), (4, .v (Enc.int .i64) (ar .or .i64 s22.1 (sh .shl .i64 (ar .and .u8 v36.1 (127 : Int)) s22.2.1))), (5, .v (Enc.int .i64) (ar .add .i64 s22.2.1 (7 : Int)))], [(9000, .box 162 [.v (Enc.sl (Enc.int .u8)) v36.2.2] (some (A 9000)))]⟩) (J.cons (.none rfl) (JO.move rfl) rfl rfl (J.cons (.none rfl) (JO.arith rfl rfl rfl) rfl rfl (J.cons (.none rfl) (JO.assign rfl) rfl rfl (J.fin (Sw.Sub.mk id (.cons rfl (.of_eq rfl) (.cons rfl (.of_eq rfl) (.cons rfl (.of_eq rfl) .nil))) (.box rfl (.cons (.of_eq rfl) .nil) .nil) rfl))))) ?_
        obtain rfl := Option.some.inj h
        exact W.next (Sw.Sub.mk id (.cons rfl (.of_eq rfl) (.cons rfl (.of_eq rfl) (.cons rfl (.of_eq rfl) .nil))) (.box rfl (.cons (.of_eq rfl) .nil) .nil) rfl)
  · replace h := cond_f hc35 h
    refine W.condF rfl hc35 ?_
    refine W.exit ?_
    obtain rfl := Option.some.inj h
    exact XQ.brk (Sw.Sub.mk id (.cons rfl (.of_eq rfl) .nil) (.box rfl (.cons (.of_eq rfl) .nil) .nil) rfl)
set_option maxRecDepth 100000 in
set_option maxHeartbeats 4000000 in
theorem con_slices_Chunk_byte_byte {a0 : (List Int)} {a1 : Int} {r : ((List Int) × Int)} (h : m_slices_Chunk_byte_byte a0 a1 = some r) :
    Con Try.prog 96 [.v (Enc.sl (Enc.int .u8)) a0, .v (Enc.int .i64) a1] (.fnc 139 [.pst (Enc.sl (Enc.int .u8)) r.1, .pst (Enc.int .i64) r.2]) [] := by
  refine Con.of Try.func96 rfl Try.ntmps96 rfl ?_
  intro S w hF
  unfold m_slices_Chunk_byte_byte at h
  refine W.seq ?_
  refine W.reg (σ' := ⟨[(2, .ptr 101 0), (3, .ptr 102 0)], [(101, .box 39 [.v (Enc.sl (Enc.int .u8)) a0]), (102, .box 3 [.v (Enc.int .i64) a1])]⟩) (J.cons (.none rfl) (JO.box 101 rfl (.one _ _) rfl) rfl rfl (J.cons (.none rfl) (JO.box 102 rfl (.one _ _) rfl) rfl rfl (J.cons (.none rfl) (JO.assignCst rfl) rfl rfl (J.fin (Sw.Sub.mk id (.cons rfl (.of_eq rfl) (.cons rfl (.of_eq rfl) .nil)) (.box rfl (.cons (.of_eq rfl) .nil) (.box rfl (.cons (.of_eq rfl) .nil) .nil)) rfl))))) ?_
  refine W.seq ?_
  refine W.seq ?_
  refine W.reg (σ' := ⟨[(2, .ptr 101 0), (3, .ptr 102 0), (6, .v Enc.bool (cm .lss a1 (1 : Int)))], [(101, .box 39 [.v (Enc.sl (Enc.int .u8)) a0]), (102, .box 3 [.v (Enc.int .i64) a1])]⟩) (J.cons (.none rfl) (JO.load rfl rfl rfl Try.isAgg3 Try.sizeOf3) rfl rfl (J.cons (.none rfl) (JO.cmp rfl rfl rfl) rfl rfl (J.fin (Sw.Sub.mk id (.cons rfl (.of_eq rfl) (.cons rfl (.of_eq rfl) (.cons rfl (.of_eq rfl) .nil))) (.box rfl (.cons (.of_eq rfl) .nil) (.box rfl (.cons (.of_eq rfl) .nil) .nil)) rfl)))) ?_
  obtain ⟨k2, hk2, h⟩ := jp_elim h
  refine W.jn (fun x3 : Unit => ⟨[(2, .ptr 101 0), (3, .ptr 102 0)], [(101, .box 39 [.v (Enc.sl (Enc.int .u8)) a0]), (102, .box 3 [.v (Enc.int .i64) a1])]⟩) (fun x => k2 x = some r) rfl ?_ ?_ ?_
  · intro x3 h
    rw [hk2] at h
    refine W.seq ?_
    refine W.reg (σ' := ⟨[(4, .fnc 139 [.ptr 101 0, .ptr 102 0])], [(101, .box 39 [.v (Enc.sl (Enc.int .u8)) a0]), (102, .box 3 [.v (Enc.int .i64) a1])]⟩) (J.cons (.none rfl) (JO.makeFunc (.cons (.dir rfl) (.cons (.dir rfl) .nil))) rfl rfl (J.cons (.none rfl) (JO.assign rfl) rfl rfl (J.fin (Sw.Sub.mk id (.cons rfl (.of_eq rfl) .nil) (.box rfl (.cons (.of_eq rfl) .nil) (.box rfl (.cons (.of_eq rfl) .nil) .nil)) rfl)))) ?_
    refine W.ret ?_
    obtain rfl := Option.some.inj h
    exact XQ.sub (σ' := ⟨[(4, .fnc 139 [.pst (Enc.sl (Enc.int .u8)) a0, .pst (Enc.int .i64) a1])], []⟩) (Sw.Sub.mk id (.cons rfl (.fnc (.cons (.frzP rfl rfl (.cons (.of_eq rfl) .nil) (.one _ _)) (.cons (.frzP rfl rfl (.cons (.of_eq rfl) .nil) (.one _ _)) .nil))) .nil) .nil rfl) (XQ.ret1 hF noR rfl (RV.tmp rfl) .nil rfl)
  · intro hc1
    replace h := cond_t hc1 h
    cases h
  · intro hc1
    replace h := cond_f hc1 h
    refine W.skip ?_
    exact W.jfall h (Sw.Sub.mk id (.cons rfl (.of_eq rfl) (.cons rfl (.of_eq rfl) .nil)) (.box rfl (.cons (.of_eq rfl) .nil) (.box rfl (.cons (.of_eq rfl) .nil) .nil)) rfl)
set_option maxRecDepth 100000 in
set_option maxHeartbeats 4000000 in
theorem it_139 {xs : List Int} {n : Int} (hn : 1 ≤ n) (hlen : (xs.length : Int) ≤ 4294967296) (hn2 : n ≤ 4294967296) :
    IterC Try.prog 139 [.pst (Enc.sl (Enc.int .u8)) xs, .pst (Enc.int .i64) n] ((chunks n.toNat xs).map fun c => [.v (Enc.sl (Enc.int .u8)) c]) := by
  refine IterC.of2 Try.func139 rfl Try.ntmps139 rfl ?_
  intro S w ρ l Jp Jx b off b' off' I hJ0 h1 h2
  refine W.seq ?_
  refine W.reg (σ' := ⟨[(0, .v (Enc.cst (.func (.yield l) #[] #[]) rfl) ()), (1, .v (Enc.cp b off (Enc.sl (Enc.int .u8))) xs), (2, .v (Enc.cp b' off' (Enc.int .i64)) n), (4, .v (Enc.int .i64) ((0 : Nat) * n))], []⟩) (J.cons (.none rfl) (JO.assign rfl) rfl rfl (J.fin (Sub.keepE (by rfl) (by exact (.cons rfl (.cons rfl (.cons rfl (.cons (by simp [lk, AS.put]) .nil)))))))) ?_
  refine W.block ?_
  refine W.iloop I (fun k => [(0, .v (Enc.cst (.func (.yield l) #[] #[]) rfl) ()), (1, .v (Enc.cp b off (Enc.sl (Enc.int .u8))) xs), (2, .v (Enc.cp b' off' (Enc.int .i64)) n), (4, .v (Enc.int .i64) ((k : Nat) * n))]) (fun k => (.cons (@Again.flat _ _ ⟨fun h => h⟩ _ _ _ _) (.cons h1 (.cons h2 (.cons .flat .nil))))) (fun _ _ h => h) hJ0 ?_
  intro k V hJ hk
  have hm : ((chunks n.toNat xs).map fun c => ([.v (Enc.sl (Enc.int .u8)) c] : List Slot)).length = (chunks n.toNat xs).length := List.length_map ..
  refine W.seq (W.seq ?_)
  refine W.reg (σ' := ⟨[(0, .v (Enc.cst (.func (.yield l) #[] #[]) rfl) ()), (1, .v (Enc.cp b off (Enc.sl (Enc.int .u8))) xs), (2, .v (Enc.cp b' off' (Enc.int .i64)) n), (4, .v (Enc.int .i64) (k * n)), (9, .v Enc.bool (cm .lss (k * n) xs.length))], []⟩) (J.cons (.none rfl) (JO.move rfl) rfl rfl (J.cons (.none rfl) (JO.loadCp rfl Try.isAgg39 Try.sizeOf39) rfl rfl (J.cons (.none rfl) (JO.len rfl Try.runUnderlying39) rfl rfl (J.cons (.none rfl) (JO.cmp rfl rfl rfl) rfl rfl (J.fin (Sub.keepE (by rfl) (by exact (.cons rfl (.cons rfl (.cons rfl (.cons rfl (.cons rfl .nil)))))))))))) ?_
  refine W.cond rfl (fun hc => ?_) (fun hc => ?_)
  · refine W.skip ?_
    have hlt : (k : Int) * n < xs.length := by simpa [cm] using hc
    obtain ⟨hklt, hs1, hs2, hs3, hadd⟩ := chunk_facts hn hn2 hlen hlt
    have hkm : k < (chunks n.toNat xs).length := (chunks_len (by omega) xs).2 hklt
    refine W.seq ?_
    refine W.block ?_
    refine W.seq ?_
    refine W.draw (σ' := ⟨[(0, .v (Enc.cst (.func (.yield l) #[] #[]) rfl) ()), (1, .v (Enc.cp b off (Enc.sl (Enc.int .u8))) xs), (2, .v (Enc.cp b' off' (Enc.int .i64)) n), (4, .v (Enc.int .i64) (k * n)), (5, .v (Enc.int .i64) (min n ((xs.drop (k * n.toNat)).length : Int)))], []⟩) (n := 7) mixed rfl rfl (by decide +kernel) (by decide +kernel) (.cons (.none rfl) (JO.loadCp rfl Try.isAgg3 Try.sizeOf3) rfl rfl (.cons (.none rfl) (JO.loadCp rfl Try.isAgg39 Try.sizeOf39) rfl rfl (.cons (.none rfl) (JO.move rfl) rfl rfl (.cons (.none rfl) (JO.slLo hs1 rfl rfl Try.runUnderlying39 Try.sizeOf5) rfl rfl (.cons (.none rfl) (JO.len rfl Try.runUnderlying39) rfl rfl (.cons (.none rfl) (JO.gmin rfl rfl) rfl rfl (.cons (.none rfl) (JO.assign rfl) rfl rfl .nil))))))) (J.fin (Sub.keepE (by rfl) (by exact (.cons rfl (.cons rfl (.cons rfl (.cons rfl (.cons rfl .nil)))))))) ?_
    refine W.seq ?_
    refine W.iyield (σ1 := ⟨[(19, .v (Enc.cst (.func (.yield l) #[] #[]) rfl) ()), (28, .v (Enc.sl (Enc.int .u8)) ((xs.drop (k * n.toNat)).take n.toNat)), (0, .v (Enc.cst (.func (.yield l) #[] #[]) rfl) ()), (1, .v (Enc.cp b off (Enc.sl (Enc.int .u8))) xs), (2, .v (Enc.cp b' off' (Enc.int .i64)) n), (4, .v (Enc.int .i64) (k * n))], []⟩) (g2 := [(0, .v (Enc.cst (.func (.yield l) #[] #[]) rfl) ()), (1, .v (Enc.cp b off (Enc.sl (Enc.int .u8))) xs), (2, .v (Enc.cp b' off' (Enc.int .i64)) n), (4, .v (Enc.int .i64) (k * n))]) (pre := [_, _, _, _, _, _, _, _, _, _]) I hJ (item := [.v (Enc.sl (Enc.int .u8)) ((xs.drop (k * n.toNat)).take n.toNat)]) (by rw [List.getElem?_map, chunks_get (by omega) hklt]; rfl)
      (J.cons (.none rfl) (JO.move rfl) rfl rfl (J.cons (.none rfl) (JO.loadCp rfl Try.isAgg39 Try.sizeOf39) rfl rfl (J.cons (.none rfl) (JO.move rfl) rfl rfl (J.cons (.none rfl) (JO.move rfl) rfl rfl (J.cons (.none rfl) (JO.move rfl) rfl rfl (J.cons (.none rfl) (JO.arith rfl rfl rfl) rfl rfl (J.cons (.none rfl) (JO.move rfl) rfl rfl (J.cons (.none rfl) (JO.move rfl) rfl rfl (J.cons (.none rfl) (JO.arith rfl rfl rfl) rfl rfl (J.cons (.none rfl) (JO.sl3 hs2 hs3 rfl rfl rfl rfl Try.runUnderlying39 Try.sizeOf5) rfl rfl (J.fin (Sub.keepE (by rfl) (by exact (.cons rfl (.cons rfl (.cons rfl (.cons rfl (.cons rfl (.cons rfl .nil)))))))))))))))))))
      rfl (.cons (.dir rfl) .nil) rfl rfl rfl rfl (.cons (@Again.flat _ _ ⟨fun h => h⟩ _ _ _ _) (.cons h1 (.cons h2 (.cons .flat .nil)))) (.cons rfl (.cons rfl (.cons rfl (.cons rfl .nil)))) (fun V' hJ' => ?_) (fun V' hJx => ?_)
    · refine W.condF rfl rfl (W.skip (W.fall ?_))
      refine W.reg (σ' := ⟨[(0, .v (Enc.cst (.func (.yield l) #[] #[]) rfl) ()), (1, .v (Enc.cp b off (Enc.sl (Enc.int .u8))) xs), (2, .v (Enc.cp b' off' (Enc.int .i64)) n), (4, .v (Enc.int .i64) (ar .add .i64 (k * n) n))], []⟩) (J.cons (.none rfl) (JO.move rfl) rfl rfl (J.cons (.none rfl) (JO.loadCp rfl Try.isAgg3 Try.sizeOf3) rfl rfl (J.cons (.none rfl) (JO.arith rfl rfl rfl) rfl rfl (J.cons (.none rfl) (JO.assign rfl) rfl rfl (J.fin (Sub.keepE (by rfl) (by exact (.cons rfl (.cons rfl (.cons rfl (.cons rfl .nil))))))))))) ?_
      exact W.inext I hJ' (by rw [hm]; exact hkm) (by rw [hadd]; exact fun _ _ h => h)
    · refine W.condT rfl rfl (W.ret (W.istop (fn := Try.f139) I rfl hJx fun a V' h => h))
  · refine W.exit (W.iend (fn := Try.f139) I rfl hJ ?_ (fun a V' h => ?_))
    · have hge : ¬ (k : Int) * n < xs.length := by simpa [cm] using hc
      have hkn : ((k : Int) * n) = ((k * n.toNat : Nat) : Int) := by push_cast; rw [Int.toNat_of_nonneg (by omega)]
      have : ¬ k * n.toNat < xs.length := fun h => hge (by rw [hkn]; exact_mod_cast h)
      rw [hm] at hk ⊢
      have := mt (chunks_len (n := n.toNat) (by omega) xs (k := k)).1 this
      omega
    · simp only [Exit.inBlock, if_true]; exact h

end Go.Cn
