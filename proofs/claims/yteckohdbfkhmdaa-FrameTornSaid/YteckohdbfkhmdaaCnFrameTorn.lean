/- The functions that this law reaches come to what their models come to. Conditions: none. -/
import Derived.Test.YteckohdbfkhmdaaMoFrameTorn
import Derived.KernelRfl
import Derived.Test.YteckohdbfkhmdaaChecked
namespace Go.Cn
open Go Go.Sw Go.Mo Go.Proofs
abbrev ET : Nat := 25
theorem mixed : Try.prog.follows .mixedOrders = true := Try.checked.mixed
theorem eq24 : EqE 2 Try.prog 24 eBlk := EqE.arr Try.runUnderlying24 Try.sizeOf5 Try.isAgg5 (EqE.int Try.underlying5)
theorem eq126 : EqE 2 Try.prog 126 (Enc.arr 4 (Enc.int .u8)) := EqE.arr Try.runUnderlying126 Try.sizeOf5 Try.isAgg5 (EqE.int Try.underlying5)
theorem built38 : ∀ parts, Try.prog.built 38 parts = Instr.fill (([(0, 1), (1, 1), (2, 1)] : List (Nat × Nat)).toArray[·]?) ([.int .i64 0, .slice none 0 0, .slice none 0 0] : List Value).toArray parts := built_struct Try.typeInfo38 Try.runUnderlying38 rfl rfl (.cons rfl (by kernel_rfl) (by kernel_rfl) (.cons rfl (by kernel_rfl) (by kernel_rfl) (.cons rfl (by kernel_rfl) (by kernel_rfl) .nil)))
theorem built129 : ∀ parts, Try.prog.built 129 parts = Instr.fill (([(0, 1)] : List (Nat × Nat)).toArray[·]?) ([.slice none 0 0] : List Value).toArray parts := built_struct Try.typeInfo129 Try.runUnderlying129 rfl rfl (.cons rfl (by kernel_rfl) (by kernel_rfl) .nil)
set_option maxRecDepth 100000 in
set_option maxHeartbeats 4000000 in
theorem con_ref_FrameMay {a0 : (Int × (List Int) × (List Blk))} {r : Int} (h : m_ref_FrameMay a0 = some r) :
    Con Try.prog 21 [.v (Enc.pr (Enc.int .i64) (Enc.pr (Enc.sl (Enc.int .i64)) (Enc.sl eBlk))) a0] (.v (Enc.int .i64) r) [] := by
  refine Con.of Try.func21 rfl Try.ntmps21 rfl ?_
  intro S w hF
  unfold m_ref_FrameMay at h
  refine W.seq ?_
  refine W.reg (σ' := ⟨[(1, .ptr 101 0)], [(101, .box 38 [.v (Enc.int .i64) a0.1, .v (Enc.sl (Enc.int .i64)) a0.2.1, .v (Enc.sl eBlk) a0.2.2])]⟩) (J.cons (.none rfl) (JO.box 101 rfl (.prm (.one _ _) (.prm (.one _ _) (.one _ _))) rfl) rfl rfl (J.cons (.none rfl) (JO.assign rfl) rfl rfl (J.fin (Sw.Sub.mk id (.cons rfl (.of_eq rfl) .nil) (.box rfl (.cons (.of_eq rfl) (.cons (.of_eq rfl) (.cons (.of_eq rfl) .nil))) .nil) rfl)))) ?_
  refine W.seq ?_
  refine W.seq ?_
  obtain ⟨x2, hx, h⟩ := bind_e h
  refine W.reg (σ' := ⟨[(1, .ptr 101 0), (11, .v Enc.bool x2)], [(101, .box 38 [.v (Enc.int .i64) a0.1, .v (Enc.sl (Enc.int .i64)) a0.2.1, .v (Enc.sl eBlk) a0.2.2])]⟩) ?_ ?_
  · rcases Bool.eq_false_or_eq_true (cm .lss a0.1 (0 : Int)) with hc3 | hc3
    · replace hx := cond_t hc3 hx
      obtain rfl := Option.some.inj hx
      exact (J.cons (.none rfl) (JO.fieldPtr 0 rfl Try.runUnderlying38 rfl Try.sizeOf3 rfl rfl) rfl rfl (J.cons (.none rfl) (JO.load rfl rfl rfl Try.isAgg3 Try.sizeOf3) rfl rfl (J.cons (.none rfl) (JO.cmp rfl rfl rfl) rfl rfl (J.cons (.none rfl) (JO.move rfl) rfl rfl (J.left (GK.unmet 7 rfl rfl rfl hc3) rfl (J.left (GK.unmet 7 rfl rfl rfl hc3) rfl (J.left (GK.unmet 7 rfl rfl rfl hc3) rfl (J.cons (.none rfl) (JO.pT hc3 rfl rfl) rfl rfl (J.fin (Sw.Sub.mk id (.cons rfl (.of_eq rfl) (.cons rfl (.of_eq rfl) .nil)) (.box rfl (.cons (.of_eq rfl) (.cons (.of_eq rfl) (.cons (.of_eq rfl) .nil))) .nil) rfl))))))))))
    · replace hx := cond_f hc3 hx
      obtain rfl := Option.some.inj hx
      exact (J.cons (.none rfl) (JO.fieldPtr 0 rfl Try.runUnderlying38 rfl Try.sizeOf3 rfl rfl) rfl rfl (J.cons (.none rfl) (JO.load rfl rfl rfl Try.isAgg3 Try.sizeOf3) rfl rfl (J.cons (.none rfl) (JO.cmp rfl rfl rfl) rfl rfl (J.cons (.none rfl) (JO.move rfl) rfl rfl (J.cons (GK.met 7 rfl rfl rfl hc3) (JO.fieldPtr 0 rfl Try.runUnderlying38 rfl Try.sizeOf3 rfl rfl) rfl rfl (J.cons (GK.met 7 rfl rfl rfl hc3) (JO.load rfl rfl rfl Try.isAgg3 Try.sizeOf3) rfl rfl (J.cons (GK.met 7 rfl rfl rfl hc3) (JO.cmp rfl rfl rfl) rfl rfl (J.cons (.none rfl) (JO.pF hc3 rfl rfl) rfl rfl (J.fin (Sw.Sub.mk id (.cons rfl (.of_eq rfl) (.cons rfl (.of_eq rfl) .nil)) (.box rfl (.cons (.of_eq rfl) (.cons (.of_eq rfl) (.cons (.of_eq rfl) .nil))) .nil) rfl))))))))))
  rcases Bool.eq_false_or_eq_true x2 with hc4 | hc4
  · replace h := cond_t hc4 h
    refine W.condT rfl hc4 ?_
    refine W.seq ?_
    refine W.reg (σ' := ⟨[(2, .v (Enc.int .i64) (1 : Int))], []⟩) (J.cons (.none rfl) (JO.assign rfl) rfl rfl (J.fin (Sw.Sub.mk id (.cons rfl (.of_eq rfl) .nil) .nil rfl))) ?_
    refine W.ret ?_
    obtain rfl := Option.some.inj h
    exact XQ.sub (σ' := ⟨[(2, .v (Enc.int .i64) (1 : Int))], []⟩) (Sw.Sub.mk id (.cons rfl (.of_eq rfl) .nil) .nil rfl) (XQ.ret1 hF noR rfl (RV.tmp rfl) .nil rfl)
  · replace h := cond_f hc4 h
    refine W.condF rfl hc4 ?_
    refine W.skip ?_
    refine W.seq ?_
    refine W.seq ?_
    obtain ⟨x6, hx, h⟩ := bind_e h
    refine W.reg (σ' := ⟨[(1, .ptr 101 0), (21, .v Enc.bool x6)], [(101, .box 38 [.v (Enc.int .i64) a0.1, .v (Enc.sl (Enc.int .i64)) a0.2.1, .v (Enc.sl eBlk) a0.2.2])]⟩) ?_ ?_
    · rcases Bool.eq_false_or_eq_true (cm .gtr (a0.2.1.length : Int) (12 : Int)) with hc7 | hc7
      · replace hx := cond_t hc7 hx
        obtain rfl := Option.some.inj hx
        exact (J.cons (.none rfl) (JO.fieldPtr 1 rfl Try.runUnderlying38 rfl Try.sizeOf36 rfl rfl) rfl rfl (J.cons (.none rfl) (JO.load rfl rfl rfl Try.isAgg36 Try.sizeOf36) rfl rfl (J.cons (.none rfl) (JO.len rfl Try.runUnderlying36) rfl rfl (J.cons (.none rfl) (JO.cmp rfl rfl rfl) rfl rfl (J.cons (.none rfl) (JO.move rfl) rfl rfl (J.left (GK.unmet 16 rfl rfl rfl hc7) rfl (J.left (GK.unmet 16 rfl rfl rfl hc7) rfl (J.left (GK.unmet 16 rfl rfl rfl hc7) rfl (J.left (GK.unmet 16 rfl rfl rfl hc7) rfl (J.cons (.none rfl) (JO.pT hc7 rfl rfl) rfl rfl (J.fin (Sw.Sub.mk id (.cons rfl (.of_eq rfl) (.cons rfl (.of_eq rfl) .nil)) (.box rfl (.cons (.of_eq rfl) (.cons (.of_eq rfl) (.cons (.of_eq rfl) .nil))) .nil) rfl))))))))))))
      · replace hx := cond_f hc7 hx
        obtain rfl := Option.some.inj hx
        exact (J.cons (.none rfl) (JO.fieldPtr 1 rfl Try.runUnderlying38 rfl Try.sizeOf36 rfl rfl) rfl rfl (J.cons (.none rfl) (JO.load rfl rfl rfl Try.isAgg36 Try.sizeOf36) rfl rfl (J.cons (.none rfl) (JO.len rfl Try.runUnderlying36) rfl rfl (J.cons (.none rfl) (JO.cmp rfl rfl rfl) rfl rfl (J.cons (.none rfl) (JO.move rfl) rfl rfl (J.cons (GK.met 16 rfl rfl rfl hc7) (JO.fieldPtr 2 rfl Try.runUnderlying38 rfl Try.sizeOf22 rfl rfl) rfl rfl (J.cons (GK.met 16 rfl rfl rfl hc7) (JO.load rfl rfl rfl Try.isAgg22 Try.sizeOf22) rfl rfl (J.cons (GK.met 16 rfl rfl rfl hc7) (JO.len rfl Try.runUnderlying22) rfl rfl (J.cons (GK.met 16 rfl rfl rfl hc7) (JO.cmp rfl rfl rfl) rfl rfl (J.cons (.none rfl) (JO.pF hc7 rfl rfl) rfl rfl (J.fin (Sw.Sub.mk id (.cons rfl (.of_eq rfl) (.cons rfl (.of_eq rfl) .nil)) (.box rfl (.cons (.of_eq rfl) (.cons (.of_eq rfl) (.cons (.of_eq rfl) .nil))) .nil) rfl))))))))))))
    rcases Bool.eq_false_or_eq_true x6 with hc8 | hc8
    · replace h := cond_t hc8 h
      refine W.condT rfl hc8 ?_
      refine W.seq ?_
      refine W.reg (σ' := ⟨[(2, .v (Enc.int .i64) (2 : Int))], []⟩) (J.cons (.none rfl) (JO.assign rfl) rfl rfl (J.fin (Sw.Sub.mk id (.cons rfl (.of_eq rfl) .nil) .nil rfl))) ?_
      refine W.ret ?_
      obtain rfl := Option.some.inj h
      exact XQ.sub (σ' := ⟨[(2, .v (Enc.int .i64) (2 : Int))], []⟩) (Sw.Sub.mk id (.cons rfl (.of_eq rfl) .nil) .nil rfl) (XQ.ret1 hF noR rfl (RV.tmp rfl) .nil rfl)
    · replace h := cond_f hc8 h
      refine W.condF rfl hc8 ?_
      refine W.skip ?_
      refine W.seq ?_
      refine W.seq ?_
      refine W.reg (σ' := ⟨[(1, .ptr 101 0), (3, .v (Enc.int .i64) (0 : Int))], [(101, .box 38 [.v (Enc.int .i64) a0.1, .v (Enc.sl (Enc.int .i64)) a0.2.1, .v (Enc.sl eBlk) a0.2.2])]⟩) (J.cons (.none rfl) (JO.assign rfl) rfl rfl (J.fin (Sw.Sub.mk id (.cons rfl (.of_eq rfl) (.cons rfl (.of_eq rfl) .nil)) (.box rfl (.cons (.of_eq rfl) (.cons (.of_eq rfl) (.cons (.of_eq rfl) .nil))) .nil) rfl))) ?_
      obtain ⟨o39, ho39, hb39, hr39⟩ := lp_elim h
      refine W.lp (σs := fun s29 : Int => ⟨[(1, .ptr 101 0), (3, .v (Enc.int .i64) s29)], [(101, .box 38 [.v (Enc.int .i64) a0.1, .v (Enc.sl (Enc.int .i64)) a0.2.1, .v (Enc.sl eBlk) a0.2.2])]⟩) (fun x40 : Unit => ⟨[], []⟩) ho39 (Sw.Sub.mk id (.cons rfl (.of_eq rfl) (.cons rfl (.of_eq rfl) .nil)) (.box rfl (.cons (.of_eq rfl) (.cons (.of_eq rfl) (.cons (.of_eq rfl) .nil))) .nil) rfl) ?_ ?_
      · intro x40 hy
        have h := hb39 _ hy
        refine W.seq ?_
        refine W.reg (σ' := ⟨[(2, .v (Enc.int .i64) (0 : Int))], []⟩) (J.cons (.none rfl) (JO.assign rfl) rfl rfl (J.fin (Sw.Sub.mk id (.cons rfl (.of_eq rfl) .nil) .nil rfl))) ?_
        refine W.ret ?_
        obtain rfl := Option.some.inj h
        exact XQ.sub (σ' := ⟨[(2, .v (Enc.int .i64) (0 : Int))], []⟩) (Sw.Sub.mk id (.cons rfl (.of_eq rfl) .nil) .nil rfl) (XQ.ret1 hF noR rfl (RV.tmp rfl) .nil rfl)
      intro s29 r39 h
      refine W.seq ?_
      refine W.seq ?_
      refine W.reg (σ' := ⟨[(1, .ptr 101 0), (3, .v (Enc.int .i64) s29), (26, .v Enc.bool (cm .lss s29 (a0.2.1.length : Int)))], [(101, .box 38 [.v (Enc.int .i64) a0.1, .v (Enc.sl (Enc.int .i64)) a0.2.1, .v (Enc.sl eBlk) a0.2.2])]⟩) (J.cons (.none rfl) (JO.move rfl) rfl rfl (J.cons (.none rfl) (JO.fieldPtr 1 rfl Try.runUnderlying38 rfl Try.sizeOf36 rfl rfl) rfl rfl (J.cons (.none rfl) (JO.load rfl rfl rfl Try.isAgg36 Try.sizeOf36) rfl rfl (J.cons (.none rfl) (JO.len rfl Try.runUnderlying36) rfl rfl (J.cons (.none rfl) (JO.cmp rfl rfl rfl) rfl rfl (J.fin (Sw.Sub.mk id (.cons rfl (.of_eq rfl) (.cons rfl (.of_eq rfl) (.cons rfl (.of_eq rfl) .nil))) (.box rfl (.cons (.of_eq rfl) (.cons (.of_eq rfl) (.cons (.of_eq rfl) .nil))) .nil) rfl))))))) ?_
      rcases Bool.eq_false_or_eq_true (cm .lss s29 (a0.2.1.length : Int)) with hc41 | hc41
      · replace h := cond_t hc41 h
        refine W.condT rfl hc41 ?_
        refine W.skip ?_
        refine W.seq ?_
        refine W.block ?_
        refine W.seq ?_
        obtain ⟨x45, hx, h⟩ := bind_e h
        refine W.reg (σ' := ⟨[(1, .ptr 101 0), (3, .v (Enc.int .i64) s29), (42, .v Enc.bool x45)], [(101, .box 38 [.v (Enc.int .i64) a0.1, .v (Enc.sl (Enc.int .i64)) a0.2.1, .v (Enc.sl eBlk) a0.2.2])]⟩) ?_ ?_
        · obtain ⟨z46, hz46, hx⟩ := bind_e hx
          rcases Bool.eq_false_or_eq_true (cm .lss z46 (0 : Int)) with hc47 | hc47
          · replace hx := cond_t hc47 hx
            obtain rfl := Option.some.inj hx
            exact (J.cons (.none rfl) (JO.fieldPtr 1 rfl Try.runUnderlying38 rfl Try.sizeOf36 rfl rfl) rfl rfl (J.cons (.none rfl) (JO.load rfl rfl rfl Try.isAgg36 Try.sizeOf36) rfl rfl (J.cons (.none rfl) (JO.move rfl) rfl rfl (J.cons (.none rfl) (JO.idx hz46 rfl rfl Try.runUnderlying36 Try.sizeOf3) rfl rfl (J.cons (.none rfl) (JO.loadPst rfl Try.isAgg3 Try.sizeOf3) rfl rfl (J.cons (.none rfl) (JO.cmp rfl rfl rfl) rfl rfl (J.cons (.none rfl) (JO.move rfl) rfl rfl (J.left (GK.unmet 35 rfl rfl rfl hc47) rfl (J.left (GK.unmet 35 rfl rfl rfl hc47) rfl (J.left (GK.unmet 35 rfl rfl rfl hc47) rfl (J.left (GK.unmet 35 rfl rfl rfl hc47) rfl (J.left (GK.unmet 35 rfl rfl rfl hc47) rfl (J.left (GK.unmet 35 rfl rfl rfl hc47) rfl (J.cons (.none rfl) (JO.pT hc47 rfl rfl) rfl rfl (J.fin (Sw.Sub.mk id (.cons rfl (.of_eq rfl) (.cons rfl (.of_eq rfl) (.cons rfl (.of_eq rfl) .nil))) (.box rfl (.cons (.of_eq rfl) (.cons (.of_eq rfl) (.cons (.of_eq rfl) .nil))) .nil) rfl))))))))))))))))
          · replace hx := cond_f hc47 hx
            obtain ⟨z48, hz48, hx⟩ := bind_e hx
            obtain rfl := Option.some.inj hx
            exact (J.cons (.none rfl) (JO.fieldPtr 1 rfl Try.runUnderlying38 rfl Try.sizeOf36 rfl rfl) rfl rfl (J.cons (.none rfl) (JO.load rfl rfl rfl Try.isAgg36 Try.sizeOf36) rfl rfl (J.cons (.none rfl) (JO.move rfl) rfl rfl (J.cons (.none rfl) (JO.idx hz46 rfl rfl Try.runUnderlying36 Try.sizeOf3) rfl rfl (J.cons (.none rfl) (JO.loadPst rfl Try.isAgg3 Try.sizeOf3) rfl rfl (J.cons (.none rfl) (JO.cmp rfl rfl rfl) rfl rfl (J.cons (.none rfl) (JO.move rfl) rfl rfl (J.cons (GK.met 35 rfl rfl rfl hc47) (JO.fieldPtr 1 rfl Try.runUnderlying38 rfl Try.sizeOf36 rfl rfl) rfl rfl (J.cons (GK.met 35 rfl rfl rfl hc47) (JO.load rfl rfl rfl Try.isAgg36 Try.sizeOf36) rfl rfl (J.cons (GK.met 35 rfl rfl rfl hc47) (JO.move rfl) rfl rfl (J.cons (GK.met 35 rfl rfl rfl hc47) (JO.idx hz48 rfl rfl Try.runUnderlying36 Try.sizeOf3) rfl rfl (J.cons (GK.met 35 rfl rfl rfl hc47) (JO.loadPst rfl Try.isAgg3 Try.sizeOf3) rfl rfl (J.cons (GK.met 35 rfl rfl rfl hc47) (JO.cmp rfl rfl rfl) rfl rfl (J.cons (.none rfl) (JO.pF hc47 rfl rfl) rfl rfl (J.fin (Sw.Sub.mk id (.cons rfl (.of_eq rfl) (.cons rfl (.of_eq rfl) (.cons rfl (.of_eq rfl) .nil))) (.box rfl (.cons (.of_eq rfl) (.cons (.of_eq rfl) (.cons (.of_eq rfl) .nil))) .nil) rfl))))))))))))))))
        rcases Bool.eq_false_or_eq_true x45 with hc49 | hc49
        · replace h := cond_t hc49 h
          refine W.condT rfl hc49 ?_
          refine W.seq ?_
          refine W.reg (σ' := ⟨[(2, .v (Enc.int .i64) (1 : Int))], []⟩) (J.cons (.none rfl) (JO.assign rfl) rfl rfl (J.fin (Sw.Sub.mk id (.cons rfl (.of_eq rfl) .nil) .nil rfl))) ?_
          refine W.ret ?_
          refine XQ.ret ?_
          obtain rfl := Option.some.inj h
          refine XQ.lret fun ho => ?_
          obtain rfl := hr39 _ ho
          exact XQ.sub (σ' := ⟨[(2, .v (Enc.int .i64) (1 : Int))], []⟩) (Sw.Sub.mk id (.cons rfl (.of_eq rfl) .nil) .nil rfl) (XQ.ret1 hF noR rfl (RV.tmp rfl) .nil rfl)
        · replace h := cond_f hc49 h
          refine W.condF rfl hc49 ?_
          refine W.skip ?_
          refine W.fall ?_
          refine W.reg (σ' := ⟨[(1, .ptr 101 0), (3, .v (Enc.int .i64) (ar .add .i64 s29 (1 : Int)))], [(101, .box 38 [.v (Enc.int .i64) a0.1, .v (Enc.sl (Enc.int .i64)) a0.2.1, .v (Enc.sl eBlk) a0.2.2])]⟩) (J.cons (.none rfl) (JO.move rfl) rfl rfl (J.cons (.none rfl) (JO.arith rfl rfl rfl) rfl rfl (J.cons (.none rfl) (JO.assign rfl) rfl rfl (J.fin (Sw.Sub.mk id (.cons rfl (.of_eq rfl) (.cons rfl (.of_eq rfl) .nil)) (.box rfl (.cons (.of_eq rfl) (.cons (.of_eq rfl) (.cons (.of_eq rfl) .nil))) .nil) rfl))))) ?_
          obtain rfl := Option.some.inj h
          exact W.next (Sw.Sub.mk id (.cons rfl (.of_eq rfl) (.cons rfl (.of_eq rfl) .nil)) (.box rfl (.cons (.of_eq rfl) (.cons (.of_eq rfl) (.cons (.of_eq rfl) .nil))) .nil) rfl)
      · replace h := cond_f hc41 h
        refine W.condF rfl hc41 ?_
        refine W.exit ?_
        obtain rfl := Option.some.inj h
        exact XQ.brk (Sw.Sub.mk id .nil .nil rfl)
set_option maxRecDepth 100000 in
set_option maxHeartbeats 4000000 in
theorem con_ref_mixed {a0 : Int} {r : Int} (h : m_ref_mixed a0 = some r) :
    Con Try.prog 75 [.v (Enc.int .i64) a0] (.v (Enc.int .i64) r) [] := by
  refine Con.of Try.func75 rfl Try.ntmps75 rfl ?_
  intro S w hF
  unfold m_ref_mixed at h
  refine W.seq ?_
  refine W.reg (σ' := ⟨[(0, .v (Enc.int .i64) a0)], []⟩) (J.cons (.none rfl) (JO.assign rfl) rfl rfl (J.fin (Sw.Sub.mk id (.cons rfl (.of_eq rfl) .nil) .nil rfl))) ?_
  refine W.seq ?_
  refine W.reg (σ' := ⟨[(0, .v (Enc.int .i64) a0), (3, .v (Enc.int .i64) (3988292384 : Int))], []⟩) (J.cons (.none rfl) (JO.assign rfl) rfl rfl (J.fin (Sw.Sub.mk id (.cons rfl (.of_eq rfl) (.cons rfl (.of_eq rfl) .nil)) .nil rfl))) ?_
  refine W.seq ?_
  refine W.reg (σ' := ⟨[(0, .v (Enc.int .i64) a0), (3, .v (Enc.int .i64) (3988292384 : Int)), (4, .v (Enc.int .i64) (0 : Int))], []⟩) (J.cons (.none rfl) (JO.assign rfl) rfl rfl (J.fin (Sw.Sub.mk id (.cons rfl (.of_eq rfl) (.cons rfl (.of_eq rfl) (.cons rfl (.of_eq rfl) .nil))) .nil rfl))) ?_
  refine W.seq ?_
  refine W.seq ?_
  refine W.reg (σ' := ⟨[(0, .v (Enc.int .i64) a0), (3, .v (Enc.int .i64) (3988292384 : Int)), (4, .v (Enc.int .i64) (0 : Int)), (5, .v (Enc.int .i64) (1 : Int))], []⟩) (J.cons (.none rfl) (JO.assign rfl) rfl rfl (J.fin (Sw.Sub.mk id (.cons rfl (.of_eq rfl) (.cons rfl (.of_eq rfl) (.cons rfl (.of_eq rfl) (.cons rfl (.of_eq rfl) .nil)))) .nil rfl))) ?_
  obtain ⟨o14, ho14, hb14, hr14⟩ := lp_elim h
  refine W.lp (σs := fun s9 : Int × Int => ⟨[(0, .v (Enc.int .i64) a0), (3, .v (Enc.int .i64) (3988292384 : Int)), (4, .v (Enc.int .i64) s9.1), (5, .v (Enc.int .i64) s9.2)], []⟩) (fun x15 : Int => ⟨[(4, .v (Enc.int .i64) x15)], []⟩) ho14 (Sw.Sub.mk id (.cons rfl (.of_eq rfl) (.cons rfl (.of_eq rfl) (.cons rfl (.of_eq rfl) (.cons rfl (.of_eq rfl) .nil)))) .nil rfl) ?_ ?_
  · intro x15 hy
    have h := hb14 _ hy
    refine W.seq ?_
    refine W.reg (σ' := ⟨[(2, .v (Enc.int .i64) x15)], []⟩) (J.cons (.none rfl) (JO.move rfl) rfl rfl (J.cons (.none rfl) (JO.assign rfl) rfl rfl (J.fin (Sw.Sub.mk id (.cons rfl (.of_eq rfl) .nil) .nil rfl)))) ?_
    refine W.ret ?_
    obtain rfl := Option.some.inj h
    exact XQ.sub (σ' := ⟨[(2, .v (Enc.int .i64) x15)], []⟩) (Sw.Sub.mk id (.cons rfl (.of_eq rfl) .nil) .nil rfl) (XQ.ret1 hF noR rfl (RV.tmp rfl) .nil rfl)
  intro s9 r14 h
  refine W.seq ?_
  refine W.seq ?_
  refine W.reg (σ' := ⟨[(0, .v (Enc.int .i64) a0), (3, .v (Enc.int .i64) (3988292384 : Int)), (4, .v (Enc.int .i64) s9.1), (5, .v (Enc.int .i64) s9.2), (7, .v Enc.bool (cm .lss s9.2 (4294967296 : Int)))], []⟩) (J.cons (.none rfl) (JO.move rfl) rfl rfl (J.cons (.none rfl) (JO.cmp rfl rfl rfl) rfl rfl (J.fin (Sw.Sub.mk id (.cons rfl (.of_eq rfl) (.cons rfl (.of_eq rfl) (.cons rfl (.of_eq rfl) (.cons rfl (.of_eq rfl) (.cons rfl (.of_eq rfl) .nil))))) .nil rfl)))) ?_
  rcases Bool.eq_false_or_eq_true (cm .lss s9.2 (4294967296 : Int)) with hc16 | hc16
  · replace h := cond_t hc16 h
    refine W.condT rfl hc16 ?_
    refine W.skip ?_
    refine W.seq ?_
    refine W.block ?_
    refine W.seq ?_
    obtain ⟨u17, hu17, h⟩ := bind_e h
    obtain ⟨u18, hu18, h⟩ := bind_e h
    refine W.dr (σ' := ⟨[(0, .v (Enc.int .i64) a0), (3, .v (Enc.int .i64) (3988292384 : Int)), (4, .v (Enc.int .i64) s9.1), (5, .v (Enc.int .i64) s9.2), (18, .v Enc.bool (cm .neq (ar .rem .i64 (ar .quo .i64 a0 s9.2) (2 : Int)) (ar .rem .i64 (ar .quo .i64 (3988292384 : Int) s9.2) (2 : Int))))], []⟩) 9 mixed (by exact (.cons (.none rfl) (JO.move rfl) rfl rfl (.cons (.none rfl) (JO.move rfl) rfl rfl (.cons (.none rfl) (JO.div (.inl rfl) (nz_some hu17) rfl rfl) rfl rfl (.cons (.none rfl) (JO.div (.inr rfl) (by decide) rfl rfl) rfl rfl (.cons (.none rfl) (JO.move rfl) rfl rfl (.cons (.none rfl) (JO.move rfl) rfl rfl (.cons (.none rfl) (JO.div (.inl rfl) (nz_some hu18) rfl rfl) rfl rfl (.cons (.none rfl) (JO.div (.inr rfl) (by decide) rfl rfl) rfl rfl (.cons (.none rfl) (JO.cmp rfl rfl rfl) rfl rfl .nil)))))))))) (by exact (J.fin (Sw.Sub.mk id (.cons rfl (.of_eq rfl) (.cons rfl (.of_eq rfl) (.cons rfl (.of_eq rfl) (.cons rfl (.of_eq rfl) (.cons rfl (.of_eq rfl) .nil))))) .nil rfl))) (by decide +kernel) (by decide +kernel) (by decide +kernel) ?_
    rcases Bool.eq_false_or_eq_true (cm .neq (ar .rem .i64 (ar .quo .i64 a0 s9.2) (2 : Int)) (ar .rem .i64 (ar .quo .i64 (3988292384 : Int) s9.2) (2 : Int))) with hc19 | hc19
    · replace h := cond_t hc19 h
      refine W.condT rfl hc19 ?_
      refine W.reg (σ' := ⟨[(0, .v (Enc.int .i64) a0), (3, .v (Enc.int .i64) (3988292384 : Int)), (4, .v (Enc.int .i64) (ar .add .i64 s9.1 s9.2)), (5, .v (Enc.int .i64) s9.2)], []⟩) (J.cons (.none rfl) (JO.move rfl) rfl rfl (J.cons (.none rfl) (JO.move rfl) rfl rfl (J.cons (.none rfl) (JO.arith rfl rfl rfl) rfl rfl (J.cons (.none rfl) (JO.assign rfl) rfl rfl (J.fin (Sw.Sub.mk id (.cons rfl (.of_eq rfl) (.cons rfl (.of_eq rfl) (.cons rfl (.of_eq rfl) (.cons rfl (.of_eq rfl) .nil)))) .nil rfl)))))) ?_
      refine W.fall ?_
      refine W.reg (σ' := ⟨[(0, .v (Enc.int .i64) a0), (3, .v (Enc.int .i64) (3988292384 : Int)), (4, .v (Enc.int .i64) (ar .add .i64 s9.1 s9.2)), (5, .v (Enc.int .i64) (ar .mul .i64 s9.2 (2 : Int)))], []⟩) (J.cons (.none rfl) (JO.move rfl) rfl rfl (J.cons (.none rfl) (JO.arith rfl rfl rfl) rfl rfl (J.cons (.none rfl) (JO.assign rfl) rfl rfl (J.fin (Sw.Sub.mk id (.cons rfl (.of_eq rfl) (.cons rfl (.of_eq rfl) (.cons rfl (.of_eq rfl) (.cons rfl (.of_eq rfl) .nil)))) .nil rfl))))) ?_
      obtain rfl := Option.some.inj h
      exact W.next (Sw.Sub.mk id (.cons rfl (.of_eq rfl) (.cons rfl (.of_eq rfl) (.cons rfl (.of_eq rfl) (.cons rfl (.of_eq rfl) .nil)))) .nil rfl)
    · replace h := cond_f hc19 h
      refine W.condF rfl hc19 ?_
      refine W.skip ?_
      refine W.fall ?_
      refine W.reg (σ' := ⟨[(0, .v (Enc.int .i64) a0), (3, .v (Enc.int .i64) (3988292384 : Int)), (4, .v (Enc.int .i64) s9.1), (5, .v (Enc.int .i64) (ar .mul .i64 s9.2 (2 : Int)))], []⟩) (J.cons (.none rfl) (JO.move rfl) rfl rfl (J.cons (.none rfl) (JO.arith rfl rfl rfl) rfl rfl (J.cons (.none rfl) (JO.assign rfl) rfl rfl (J.fin (Sw.Sub.mk id (.cons rfl (.of_eq rfl) (.cons rfl (.of_eq rfl) (.cons rfl (.of_eq rfl) (.cons rfl (.of_eq rfl) .nil)))) .nil rfl))))) ?_
      obtain rfl := Option.some.inj h
      exact W.next (Sw.Sub.mk id (.cons rfl (.of_eq rfl) (.cons rfl (.of_eq rfl) (.cons rfl (.of_eq rfl) (.cons rfl (.of_eq rfl) .nil)))) .nil rfl)
  · replace h := cond_f hc16 h
    refine W.condF rfl hc16 ?_
    refine W.exit ?_
    obtain rfl := Option.some.inj h
    exact XQ.brk (Sw.Sub.mk id (.cons rfl (.of_eq rfl) .nil) .nil rfl)
set_option maxRecDepth 100000 in
set_option maxHeartbeats 4000000 in
theorem con_ref_SumOf {a0 : (List Int)} {r : Int} (h : m_ref_SumOf a0 = some r) :
    Con Try.prog 34 [.v (Enc.sl (Enc.int .u8)) a0] (.v (Enc.int .u32) r) [] := by
  refine Con.of Try.func34 rfl Try.ntmps34 rfl ?_
  intro S w hF
  unfold m_ref_SumOf at h
  refine W.seq ?_
  refine W.reg (σ' := ⟨[(0, .v (Enc.sl (Enc.int .u8)) a0)], []⟩) (J.cons (.none rfl) (JO.assign rfl) rfl rfl (J.fin (Sw.Sub.mk id (.cons rfl (.of_eq rfl) .nil) .nil rfl))) ?_
  refine W.seq ?_
  refine W.reg (σ' := ⟨[(0, .v (Enc.sl (Enc.int .u8)) a0), (3, .v (Enc.int .i64) (4294967295 : Int))], []⟩) (J.cons (.none rfl) (JO.assign rfl) rfl rfl (J.fin (Sw.Sub.mk id (.cons rfl (.of_eq rfl) (.cons rfl (.of_eq rfl) .nil)) .nil rfl))) ?_
  refine W.seq ?_
  refine W.seq ?_
  refine W.reg (σ' := ⟨[(0, .v (Enc.sl (Enc.int .u8)) a0), (3, .v (Enc.int .i64) (4294967295 : Int)), (4, .v (Enc.int .i64) (0 : Int))], []⟩) (J.cons (.none rfl) (JO.assign rfl) rfl rfl (J.fin (Sw.Sub.mk id (.cons rfl (.of_eq rfl) (.cons rfl (.of_eq rfl) (.cons rfl (.of_eq rfl) .nil))) .nil rfl))) ?_
  obtain ⟨o79, ho79, hb79, hr79⟩ := lp_elim h
  refine W.lp (σs := fun s53 : Int × Int => ⟨[(0, .v (Enc.sl (Enc.int .u8)) a0), (3, .v (Enc.int .i64) s53.1), (4, .v (Enc.int .i64) s53.2)], []⟩) (fun x80 : Int => ⟨[(3, .v (Enc.int .i64) x80)], []⟩) ho79 (Sw.Sub.mk id (.cons rfl (.of_eq rfl) (.cons rfl (.of_eq rfl) (.cons rfl (.of_eq rfl) .nil))) .nil rfl) ?_ ?_
  · intro x80 hy
    have h := hb79 _ hy
    refine W.seq ?_
    refine W.reg (σ' := ⟨[(2, .v (Enc.int .u32) (IntKind.wrap .u32 (ar .sub .i64 (4294967295 : Int) x80)))], []⟩) (J.cons (.none rfl) (JO.move rfl) rfl rfl (J.cons (.none rfl) (JO.arith rfl rfl rfl) rfl rfl (J.cons (.none rfl) (JO.conv Try.runUnderlying3 Try.runUnderlying61 rfl) rfl rfl (J.cons (.none rfl) (JO.assign rfl) rfl rfl (J.fin (Sw.Sub.mk id (.cons rfl (.of_eq rfl) .nil) .nil rfl)))))) ?_
    refine W.ret ?_
    obtain rfl := Option.some.inj h
    exact XQ.sub (σ' := ⟨[(2, .v (Enc.int .u32) (IntKind.wrap .u32 (ar .sub .i64 (4294967295 : Int) x80)))], []⟩) (Sw.Sub.mk id (.cons rfl (.of_eq rfl) .nil) .nil rfl) (XQ.ret1 hF noR rfl (RV.tmp rfl) .nil rfl)
  intro s53 r79 h
  refine W.seq ?_
  refine W.seq ?_
  refine W.reg (σ' := ⟨[(0, .v (Enc.sl (Enc.int .u8)) a0), (3, .v (Enc.int .i64) s53.1), (4, .v (Enc.int .i64) s53.2), (10, .v Enc.bool (cm .lss s53.2 (a0.length : Int)))], []⟩) (J.cons (.none rfl) (JO.move rfl) rfl rfl (J.cons (.none rfl) (JO.move rfl) rfl rfl (J.cons (.none rfl) (JO.len rfl Try.runUnderlying40) rfl rfl (J.cons (.none rfl) (JO.cmp rfl rfl rfl) rfl rfl (J.fin (Sw.Sub.mk id (.cons rfl (.of_eq rfl) (.cons rfl (.of_eq rfl) (.cons rfl (.of_eq rfl) (.cons rfl (.of_eq rfl) .nil)))) .nil rfl)))))) ?_
  rcases Bool.eq_false_or_eq_true (cm .lss s53.2 (a0.length : Int)) with hc81 | hc81
  · replace h := cond_t hc81 h
    refine W.condT rfl hc81 ?_
    refine W.skip ?_
    refine W.seq ?_
    refine W.block ?_
    refine W.seq ?_
    refine W.reg (σ' := ⟨[(0, .v (Enc.sl (Enc.int .u8)) a0), (3, .v (Enc.int .i64) s53.1), (4, .v (Enc.int .i64) s53.2), (5, .v (Enc.int .i64) (1 : Int))], []⟩) (J.cons (.none rfl) (JO.assign rfl) rfl rfl (J.fin (Sw.Sub.mk id (.cons rfl (.of_eq rfl) (.cons rfl (.of_eq rfl) (.cons rfl (.of_eq rfl) (.cons rfl (.of_eq rfl) .nil)))) .nil rfl))) ?_
    obtain ⟨o99, ho99, hb99, hr99⟩ := lp_elim h
    refine W.lp (σs := fun s93 : Int × Int => ⟨[(0, .v (Enc.sl (Enc.int .u8)) a0), (3, .v (Enc.int .i64) s93.1), (4, .v (Enc.int .i64) s53.2), (5, .v (Enc.int .i64) s93.2)], []⟩) (fun x100 : Int => ⟨[(0, .v (Enc.sl (Enc.int .u8)) a0), (3, .v (Enc.int .i64) x100), (4, .v (Enc.int .i64) s53.2)], []⟩) ho99 (Sw.Sub.mk id (.cons rfl (.of_eq rfl) (.cons rfl (.of_eq rfl) (.cons rfl (.of_eq rfl) (.cons rfl (.of_eq rfl) .nil)))) .nil rfl) ?_ ?_
    · intro x100 hy
      have h := hb99 _ hy
      refine W.fall ?_
      refine W.reg (σ' := ⟨[(0, .v (Enc.sl (Enc.int .u8)) a0), (3, .v (Enc.int .i64) x100), (4, .v (Enc.int .i64) (ar .add .i64 s53.2 (1 : Int)))], []⟩) (J.cons (.none rfl) (JO.move rfl) rfl rfl (J.cons (.none rfl) (JO.arith rfl rfl rfl) rfl rfl (J.cons (.none rfl) (JO.assign rfl) rfl rfl (J.fin (Sw.Sub.mk id (.cons rfl (.of_eq rfl) (.cons rfl (.of_eq rfl) (.cons rfl (.of_eq rfl) .nil))) .nil rfl))))) ?_
      obtain rfl := Option.some.inj h
      exact W.next (Sw.Sub.mk id (.cons rfl (.of_eq rfl) (.cons rfl (.of_eq rfl) (.cons rfl (.of_eq rfl) .nil))) .nil rfl)
    intro s93 r99 h
    refine W.seq ?_
    refine W.seq ?_
    refine W.reg (σ' := ⟨[(0, .v (Enc.sl (Enc.int .u8)) a0), (3, .v (Enc.int .i64) s93.1), (4, .v (Enc.int .i64) s53.2), (5, .v (Enc.int .i64) s93.2), (14, .v Enc.bool (cm .lss s93.2 (256 : Int)))], []⟩) (J.cons (.none rfl) (JO.move rfl) rfl rfl (J.cons (.none rfl) (JO.cmp rfl rfl rfl) rfl rfl (J.fin (Sw.Sub.mk id (.cons rfl (.of_eq rfl) (.cons rfl (.of_eq rfl) (.cons rfl (.of_eq rfl) (.cons rfl (.of_eq rfl) (.cons rfl (.of_eq rfl) .nil))))) .nil rfl)))) ?_
    rcases Bool.eq_false_or_eq_true (cm .lss s93.2 (256 : Int)) with hc101 | hc101
    · replace h := cond_t hc101 h
      refine W.condT rfl hc101 ?_
      refine W.skip ?_
      refine W.seq ?_
      refine W.block ?_
      refine W.seq ?_
      obtain ⟨z102, hz102, h⟩ := bind_e h
      obtain ⟨u103, hu103, h⟩ := bind_e h
      refine W.reg (σ' := ⟨[(0, .v (Enc.sl (Enc.int .u8)) a0), (3, .v (Enc.int .i64) s93.1), (4, .v (Enc.int .i64) s53.2), (5, .v (Enc.int .i64) s93.2), (6, .v Enc.bool (cm .eql (ar .rem .i64 (ar .add .i64 s93.1 (ar .quo .i64 z102 s93.2)) (2 : Int)) (1 : Int)))], []⟩) (J.cons (.none rfl) (JO.move rfl) rfl rfl (J.cons (.none rfl) (JO.move rfl) rfl rfl (J.cons (.none rfl) (JO.move rfl) rfl rfl (J.cons (.none rfl) (JO.idx hz102 rfl rfl Try.runUnderlying40 Try.sizeOf5) rfl rfl (J.cons (.none rfl) (JO.loadPst rfl Try.isAgg5 Try.sizeOf5) rfl rfl (J.cons (.none rfl) (JO.convUp Try.runUnderlying5 Try.runUnderlying3 rfl rfl) rfl rfl (J.cons (.none rfl) (JO.move rfl) rfl rfl (J.cons (.none rfl) (JO.div (.inl rfl) (nz_some hu103) rfl rfl) rfl rfl (J.cons (.none rfl) (JO.arith rfl rfl rfl) rfl rfl (J.cons (.none rfl) (JO.div (.inr rfl) (by decide) rfl rfl) rfl rfl (J.cons (.none rfl) (JO.cmp rfl rfl rfl) rfl rfl (J.cons (.none rfl) (JO.assign rfl) rfl rfl (J.fin (Sw.Sub.mk id (.cons rfl (.of_eq rfl) (.cons rfl (.of_eq rfl) (.cons rfl (.of_eq rfl) (.cons rfl (.of_eq rfl) (.cons rfl (.of_eq rfl) .nil))))) .nil rfl)))))))))))))) ?_
      refine W.seq ?_
      refine W.reg (σ' := ⟨[(0, .v (Enc.sl (Enc.int .u8)) a0), (3, .v (Enc.int .i64) (ar .quo .i64 s93.1 (2 : Int))), (4, .v (Enc.int .i64) s53.2), (5, .v (Enc.int .i64) s93.2), (6, .v Enc.bool (cm .eql (ar .rem .i64 (ar .add .i64 s93.1 (ar .quo .i64 z102 s93.2)) (2 : Int)) (1 : Int)))], []⟩) (J.cons (.none rfl) (JO.move rfl) rfl rfl (J.cons (.none rfl) (JO.div (.inl rfl) (by decide) rfl rfl) rfl rfl (J.cons (.none rfl) (JO.assign rfl) rfl rfl (J.fin (Sw.Sub.mk id (.cons rfl (.of_eq rfl) (.cons rfl (.of_eq rfl) (.cons rfl (.of_eq rfl) (.cons rfl (.of_eq rfl) (.cons rfl (.of_eq rfl) .nil))))) .nil rfl))))) ?_
      refine W.seq ?_
      refine W.reg (σ' := ⟨[(0, .v (Enc.sl (Enc.int .u8)) a0), (3, .v (Enc.int .i64) (ar .quo .i64 s93.1 (2 : Int))), (4, .v (Enc.int .i64) s53.2), (5, .v (Enc.int .i64) s93.2), (30, .v Enc.bool (cm .eql (ar .rem .i64 (ar .add .i64 s93.1 (ar .quo .i64 z102 s93.2)) (2 : Int)) (1 : Int)))], []⟩) (J.cons (.none rfl) (JO.move rfl) rfl rfl (J.fin (Sw.Sub.mk id (.cons rfl (.of_eq rfl) (.cons rfl (.of_eq rfl) (.cons rfl (.of_eq rfl) (.cons rfl (.of_eq rfl) (.cons rfl (.of_eq rfl) .nil))))) .nil rfl))) ?_
      rcases Bool.eq_false_or_eq_true (cm .eql (ar .rem .i64 (ar .add .i64 s93.1 (ar .quo .i64 z102 s93.2)) (2 : Int)) (1 : Int)) with hc104 | hc104
      · replace h := cond_t hc104 h
        refine W.condT rfl hc104 ?_
        obtain ⟨v105, hv105, h⟩ := bind_e h
        refine W.reg (σ' := ⟨[(0, .v (Enc.sl (Enc.int .u8)) a0), (3, .v (Enc.int .i64) v105), (4, .v (Enc.int .i64) s53.2), (5, .v (Enc.int .i64) s93.2)], []⟩) (J.cons (.none rfl) (JO.move rfl) rfl rfl (J.cons (.none rfl) (JO.call0 (con_ref_mixed hv105) Try.call75 (.cons (.dir rfl) .nil)) rfl rfl (J.cons (.none rfl) (JO.assign rfl) rfl rfl (J.fin (Sw.Sub.mk id (.cons rfl (.of_eq rfl) (.cons rfl (.of_eq rfl) (.cons rfl (.of_eq rfl) (.cons rfl (.of_eq rfl) .nil)))) .nil rfl))))) ?_
        refine W.fall ?_
        refine W.reg (σ' := ⟨[(0, .v (Enc.sl (Enc.int .u8)) a0), (3, .v (Enc.int .i64) v105), (4, .v (Enc.int .i64) s53.2), (5, .v (Enc.int .i64) (ar .mul .i64 s93.2 (2 : Int)))], []⟩) (J.cons (.none rfl) (JO.move rfl) rfl rfl (J.cons (.none rfl) (JO.arith rfl rfl rfl) rfl rfl (J.cons (.none rfl) (JO.assign rfl) rfl rfl (J.fin (Sw.Sub.mk id (.cons rfl (.of_eq rfl) (.cons rfl (.of_eq rfl) (.cons rfl (.of_eq rfl) (.cons rfl (.of_eq rfl) .nil)))) .nil rfl))))) ?_
        obtain rfl := Option.some.inj h
        exact W.next (Sw.Sub.mk id (.cons rfl (.of_eq rfl) (.cons rfl (.of_eq rfl) (.cons rfl (.of_eq rfl) (.cons rfl (.of_eq rfl) .nil)))) .nil rfl)
      · replace h := cond_f hc104 h
        refine W.condF rfl hc104 ?_
        refine W.skip ?_
        refine W.fall ?_
        refine W.reg (σ' := ⟨[(0, .v (Enc.sl (Enc.int .u8)) a0), (3, .v (Enc.int .i64) (ar .quo .i64 s93.1 (2 : Int))), (4, .v (Enc.int .i64) s53.2), (5, .v (Enc.int .i64) (ar .mul .i64 s93.2 (2 : Int)))], []⟩) (J.cons (.none rfl) (JO.move rfl) rfl rfl (J.cons (.none rfl) (JO.arith rfl rfl rfl) rfl rfl (J.cons (.none rfl) (JO.assign rfl) rfl rfl (J.fin (Sw.Sub.mk id (.cons rfl (.of_eq rfl) (.cons rfl (.of_eq rfl) (.cons rfl (.of_eq rfl) (.cons rfl (.of_eq rfl) .nil)))) .nil rfl))))) ?_
        obtain rfl := Option.some.inj h
        exact W.next (Sw.Sub.mk id (.cons rfl (.of_eq rfl) (.cons rfl (.of_eq rfl) (.cons rfl (.of_eq rfl) (.cons rfl (.of_eq rfl) .nil)))) .nil rfl)
    · replace h := cond_f hc101 h
      refine W.condF rfl hc101 ?_
      refine W.exit ?_
      obtain rfl := Option.some.inj h
      exact XQ.brk (Sw.Sub.mk id (.cons rfl (.of_eq rfl) (.cons rfl (.of_eq rfl) (.cons rfl (.of_eq rfl) .nil))) .nil rfl)
  · replace h := cond_f hc81 h
    refine W.condF rfl hc81 ?_
    refine W.exit ?_
    obtain rfl := Option.some.inj h
    exact XQ.brk (Sw.Sub.mk id (.cons rfl (.of_eq rfl) .nil) .nil rfl)
set_option maxRecDepth 100000 in
set_option maxHeartbeats 4000000 in
theorem con_ref_Packed {a0 : (Int × (List Int) × (List Blk))} {r : (List Int)} (h : m_ref_Packed a0 = some r) :
    Con Try.prog 22 [.v (Enc.pr (Enc.int .i64) (Enc.pr (Enc.sl (Enc.int .i64)) (Enc.sl eBlk))) a0] (.ref 0) [(0, .arr 5 (Enc.int .u8) r)] := by
  refine Con.of Try.func22 rfl Try.ntmps22 rfl ?_
  intro S w hF
  unfold m_ref_Packed at h
  refine W.seq ?_
  refine W.reg (σ' := ⟨[(1, .ptr 101 0)], [(101, .box 38 [.v (Enc.int .i64) a0.1, .v (Enc.sl (Enc.int .i64)) a0.2.1, .v (Enc.sl eBlk) a0.2.2])]⟩) (J.cons (.none rfl) (JO.box 101 rfl (.prm (.one _ _) (.prm (.one _ _) (.one _ _))) rfl) rfl rfl (J.cons (.none rfl) (JO.assignNilR 102 5 (Enc.int .u8)) rfl rfl (J.fin (Sw.Sub.mk id (.cons rfl (.of_eq rfl) .nil) (.box rfl (.cons (.of_eq rfl) (.cons (.of_eq rfl) (.cons (.of_eq rfl) .nil))) .nil) rfl)))) ?_
  refine W.seq ?_
  refine W.reg (σ' := ⟨[(1, .ptr 101 0), (3, .ref 103)], [(101, .box 38 [.v (Enc.int .i64) a0.1, .v (Enc.sl (Enc.int .i64)) a0.2.1, .v (Enc.sl eBlk) a0.2.2]), (103, .arr 5 (Enc.int .u8) ([(IntKind.wrap .u8 (ar .add .i64 (ar .mul .i64 (16 : Int) a0.1) (a0.2.1.length : Int))), (IntKind.wrap .u8 (a0.2.2.length : Int))] : (List Int)))]⟩) (J.cons (.none rfl) (JO.fieldPtr 0 rfl Try.runUnderlying38 rfl Try.sizeOf3 rfl rfl) rfl rfl (J.cons (.none rfl) (JO.load rfl rfl rfl Try.isAgg3 Try.sizeOf3) rfl rfl (J.cons (.none rfl) (JO.arith rfl rfl rfl) rfl rfl (J.cons (.none rfl) (JO.fieldPtr 1 rfl Try.runUnderlying38 rfl Try.sizeOf36 rfl rfl) rfl rfl (J.cons (.none rfl) (JO.load rfl rfl rfl Try.isAgg36 Try.sizeOf36) rfl rfl (J.cons (.none rfl) (JO.len rfl Try.runUnderlying36) rfl rfl (J.cons (.none rfl) (JO.arith rfl rfl rfl) rfl rfl (J.cons (.none rfl) (JO.conv Try.runUnderlying3 Try.runUnderlying5 rfl) rfl rfl (J.cons (.none rfl) (JO.fieldPtr 2 rfl Try.runUnderlying38 rfl Try.sizeOf22 rfl rfl) rfl rfl (J.cons (.none rfl) (JO.load rfl rfl rfl Try.isAgg22 Try.sizeOf22) rfl rfl (J.cons (.none rfl) (JO.len rfl Try.runUnderlying22) rfl rfl (J.cons (.none rfl) (JO.conv Try.runUnderlying3 Try.runUnderlying5 rfl) rfl rfl (J.cons (.none rfl) (JO.litR (e := (Enc.int .u8)) 103 Try.runUnderlying40 Try.sizeOf5 Try.zeroValue5 rfl rfl rfl rfl (.cons (.dir rfl) (.cons (.dir rfl) .nil))) rfl rfl (J.cons (.none rfl) (JO.assign rfl) rfl rfl (J.fin (Sw.Sub.mk id (.cons rfl (.of_eq rfl) (.cons rfl (.of_eq rfl) .nil)) (.box rfl (.cons (.of_eq rfl) (.cons (.of_eq rfl) (.cons (.of_eq rfl) .nil))) (.arr rfl .nil)) rfl)))))))))))))))) ?_
  refine W.seq ?_
  refine W.seq ?_
  refine W.reg (σ' := ⟨[(1, .ptr 101 0), (3, .ref 103), (4, .v (Enc.int .i64) (0 : Int))], [(101, .box 38 [.v (Enc.int .i64) a0.1, .v (Enc.sl (Enc.int .i64)) a0.2.1, .v (Enc.sl eBlk) a0.2.2]), (103, .arr 5 (Enc.int .u8) ([(IntKind.wrap .u8 (ar .add .i64 (ar .mul .i64 (16 : Int) a0.1) (a0.2.1.length : Int))), (IntKind.wrap .u8 (a0.2.2.length : Int))] : (List Int)))]⟩) (J.cons (.none rfl) (JO.assign rfl) rfl rfl (J.fin (Sw.Sub.mk id (.cons rfl (.of_eq rfl) (.cons rfl (.of_eq rfl) (.cons rfl (.of_eq rfl) .nil))) (.box rfl (.cons (.of_eq rfl) (.cons (.of_eq rfl) (.cons (.of_eq rfl) .nil))) (.arr rfl .nil)) rfl))) ?_
  obtain ⟨o52, ho52, hb52, hr52⟩ := lp_elim h
  refine W.lp (σs := fun s35 : Int × (List Int) => ⟨[(1, .ptr 101 0), (3, .ref 125), (4, .v (Enc.int .i64) s35.1)], [(101, .box 38 [.v (Enc.int .i64) a0.1, .v (Enc.sl (Enc.int .i64)) a0.2.1, .v (Enc.sl eBlk) a0.2.2]), (125, .arr 5 (Enc.int .u8) s35.2)]⟩) (fun x53 : (List Int) => ⟨[(1, .ptr 101 0), (3, .ref 125)], [(101, .box 38 [.v (Enc.int .i64) a0.1, .v (Enc.sl (Enc.int .i64)) a0.2.1, .v (Enc.sl eBlk) a0.2.2]), (125, .arr 5 (Enc.int .u8) x53)]⟩) ho52 (Sw.Sub.mk (rn [(101, 101), (125, 103)]) (.cons rfl (.of_eq rfl) (.cons rfl (.of_eq rfl) (.cons rfl (.of_eq rfl) .nil))) (.box rfl (.cons (.of_eq rfl) (.cons (.of_eq rfl) (.cons (.of_eq rfl) .nil))) (.arr rfl .nil)) rfl) ?_ ?_
  · intro x53 hy
    have h := hb52 _ hy
    refine W.seq ?_
    refine W.seq ?_
    refine W.reg (σ' := ⟨[(1, .ptr 101 0), (3, .ref 125), (6, .v (Enc.int .i64) (0 : Int))], [(101, .box 38 [.v (Enc.int .i64) a0.1, .v (Enc.sl (Enc.int .i64)) a0.2.1, .v (Enc.sl eBlk) a0.2.2]), (125, .arr 5 (Enc.int .u8) x53)]⟩) (J.cons (.none rfl) (JO.assign rfl) rfl rfl (J.fin (Sw.Sub.mk id (.cons rfl (.of_eq rfl) (.cons rfl (.of_eq rfl) (.cons rfl (.of_eq rfl) .nil))) (.box rfl (.cons (.of_eq rfl) (.cons (.of_eq rfl) (.cons (.of_eq rfl) .nil))) (.arr rfl .nil)) rfl))) ?_
    obtain ⟨o139, ho139, hb139, hr139⟩ := lp_elim h
    refine W.lp (σs := fun s116 : Int × (List Int) => ⟨[(1, .ptr 101 0), (3, .ref 163), (6, .v (Enc.int .i64) s116.1)], [(101, .box 38 [.v (Enc.int .i64) a0.1, .v (Enc.sl (Enc.int .i64)) a0.2.1, .v (Enc.sl eBlk) a0.2.2]), (163, .arr 5 (Enc.int .u8) s116.2)]⟩) (fun x140 : (List Int) => ⟨[(3, .ref 163)], [(163, .arr 5 (Enc.int .u8) x140)]⟩) ho139 (Sw.Sub.mk (rn [(101, 101), (163, 125)]) (.cons rfl (.of_eq rfl) (.cons rfl (.of_eq rfl) (.cons rfl (.of_eq rfl) .nil))) (.box rfl (.cons (.of_eq rfl) (.cons (.of_eq rfl) (.cons (.of_eq rfl) .nil))) (.arr rfl .nil)) rfl) ?_ ?_
    · intro x140 hy
      have h := hb139 _ hy
      refine W.seq ?_
      obtain ⟨v163, hv163, h⟩ := bind_e h
      refine W.reg (σ' := ⟨[(3, .ref 163), (8, .v (Enc.int .i64) v163)], [(163, .arr 5 (Enc.int .u8) x140)]⟩) (J.cons (.none rfl) (JO.move rfl) rfl rfl (J.cons (.none rfl) (JO.callL0 (con_ref_SumOf hv163) Try.call34 (.cons (.ref rfl rfl) .nil) FlatS.v) rfl rfl (J.cons (.none rfl) (JO.convUp Try.runUnderlying61 Try.runUnderlying3 rfl rfl) rfl rfl (J.cons (.none rfl) (JO.assign rfl) rfl rfl (J.fin (Sw.Sub.mk id (.cons rfl (.of_eq rfl) (.cons rfl (.of_eq rfl) .nil)) (.arr rfl .nil) rfl)))))) ?_
      refine W.seq ?_
      obtain ⟨v164, hv164, h⟩ := bind_e h
      refine W.reg (σ' := ⟨[(2, .ref 181)], [(181, .arr 5 (Enc.int .u8) v164)]⟩) (J.cons (.none rfl) (JO.move rfl) rfl rfl (J.cons (.none rfl) (JO.move rfl) rfl rfl (J.cons (.none rfl) (JO.div (.inl rfl) (by decide) rfl rfl) rfl rfl (J.cons (.none rfl) (JO.conv Try.runUnderlying3 Try.runUnderlying5 rfl) rfl rfl (J.cons (.none rfl) (JO.move rfl) rfl rfl (J.cons (.none rfl) (JO.div (.inl rfl) (by decide) rfl rfl) rfl rfl (J.cons (.none rfl) (JO.div (.inr rfl) (by decide) rfl rfl) rfl rfl (J.cons (.none rfl) (JO.conv Try.runUnderlying3 Try.runUnderlying5 rfl) rfl rfl (J.cons (.none rfl) (JO.move rfl) rfl rfl (J.cons (.none rfl) (JO.div (.inl rfl) (by decide) rfl rfl) rfl rfl (J.cons (.none rfl) (JO.div (.inr rfl) (by decide) rfl rfl) rfl rfl (J.cons (.none rfl) (JO.conv Try.runUnderlying3 Try.runUnderlying5 rfl) rfl rfl (J.cons (.none rfl) (JO.move rfl) rfl rfl (J.cons (.none rfl) (JO.div (.inr rfl) (by decide) rfl rfl) rfl rfl (J.cons (.none rfl) (JO.conv Try.runUnderlying3 Try.runUnderlying5 rfl) rfl rfl (J.cons (.none rfl) (JO.lit (e := (Enc.int .u8)) Try.runUnderlying40 Try.sizeOf5 Try.zeroValue5 rfl rfl rfl rfl (.cons (.dir rfl) (.cons (.dir rfl) (.cons (.dir rfl) (.cons (.dir rfl) .nil))))) rfl rfl (J.mut (.none rfl) (JM.append 181 hv164 rfl rfl (.sl rfl) Try.runUnderlying40 Try.typeInfo5 Try.sizeOf5 rfl rfl rfl rfl rfl) (J.cons (.none rfl) (JO.assign rfl) rfl rfl (J.fin (Sw.Sub.mk id (.cons rfl (.of_eq rfl) .nil) (.arr rfl .nil) rfl)))))))))))))))))))) ?_
      refine W.ret ?_
      obtain rfl := Option.some.inj h
      exact XQ.sub (σ' := ⟨[(2, .ref 0)], [(0, .arr 5 (Enc.int .u8) v164)]⟩) (Sw.Sub.mk (rn [(0, 181)]) (.cons rfl (.of_eq rfl) .nil) (.arr rfl .nil) rfl) (XQ.ret1 hF noR rfl (RV.tmp rfl) (.cons rfl .nil) rfl)
    intro s116 r139 h
    refine W.seq ?_
    refine W.seq ?_
    refine W.reg (σ' := ⟨[(1, .ptr 101 0), (3, .ref 163), (6, .v (Enc.int .i64) s116.1), (54, .v Enc.bool (cm .lss s116.1 (a0.2.2.length : Int)))], [(101, .box 38 [.v (Enc.int .i64) a0.1, .v (Enc.sl (Enc.int .i64)) a0.2.1, .v (Enc.sl eBlk) a0.2.2]), (163, .arr 5 (Enc.int .u8) s116.2)]⟩) (J.cons (.none rfl) (JO.move rfl) rfl rfl (J.cons (.none rfl) (JO.fieldPtr 2 rfl Try.runUnderlying38 rfl Try.sizeOf22 rfl rfl) rfl rfl (J.cons (.none rfl) (JO.load rfl rfl rfl Try.isAgg22 Try.sizeOf22) rfl rfl (J.cons (.none rfl) (JO.len rfl Try.runUnderlying22) rfl rfl (J.cons (.none rfl) (JO.cmp rfl rfl rfl) rfl rfl (J.fin (Sw.Sub.mk id (.cons rfl (.of_eq rfl) (.cons rfl (.of_eq rfl) (.cons rfl (.of_eq rfl) (.cons rfl (.of_eq rfl) .nil)))) (.box rfl (.cons (.of_eq rfl) (.cons (.of_eq rfl) (.cons (.of_eq rfl) .nil))) (.arr rfl .nil)) rfl))))))) ?_
    rcases Bool.eq_false_or_eq_true (cm .lss s116.1 (a0.2.2.length : Int)) with hc141 | hc141
    · replace h := cond_t hc141 h
      refine W.condT rfl hc141 ?_
      refine W.skip ?_
      refine W.seq ?_
      refine W.block ?_
      refine W.seq ?_
      refine W.reg (σ' := ⟨[(1, .ptr 101 0), (3, .ref 163), (6, .v (Enc.int .i64) s116.1), (7, .v (Enc.int .i64) (0 : Int))], [(101, .box 38 [.v (Enc.int .i64) a0.1, .v (Enc.sl (Enc.int .i64)) a0.2.1, .v (Enc.sl eBlk) a0.2.2]), (163, .arr 5 (Enc.int .u8) s116.2)]⟩) (J.cons (.none rfl) (JO.assign rfl) rfl rfl (J.fin (Sw.Sub.mk id (.cons rfl (.of_eq rfl) (.cons rfl (.of_eq rfl) (.cons rfl (.of_eq rfl) (.cons rfl (.of_eq rfl) .nil)))) (.box rfl (.cons (.of_eq rfl) (.cons (.of_eq rfl) (.cons (.of_eq rfl) .nil))) (.arr rfl .nil)) rfl))) ?_
      obtain ⟨o157, ho157, hb157, hr157⟩ := lp_elim h
      refine W.lp (σs := fun s152 : Int × (List Int) => ⟨[(1, .ptr 101 0), (3, .ref 177), (6, .v (Enc.int .i64) s116.1), (7, .v (Enc.int .i64) s152.1)], [(101, .box 38 [.v (Enc.int .i64) a0.1, .v (Enc.sl (Enc.int .i64)) a0.2.1, .v (Enc.sl eBlk) a0.2.2]), (177, .arr 5 (Enc.int .u8) s152.2)]⟩) (fun x158 : (List Int) => ⟨[(1, .ptr 101 0), (3, .ref 177), (6, .v (Enc.int .i64) s116.1)], [(101, .box 38 [.v (Enc.int .i64) a0.1, .v (Enc.sl (Enc.int .i64)) a0.2.1, .v (Enc.sl eBlk) a0.2.2]), (177, .arr 5 (Enc.int .u8) x158)]⟩) ho157 (Sw.Sub.mk (rn [(101, 101), (177, 163)]) (.cons rfl (.of_eq rfl) (.cons rfl (.of_eq rfl) (.cons rfl (.of_eq rfl) (.cons rfl (.of_eq rfl) .nil)))) (.box rfl (.cons (.of_eq rfl) (.cons (.of_eq rfl) (.cons (.of_eq rfl) .nil))) (.arr rfl .nil)) rfl) ?_ ?_
      · intro x158 hy
        have h := hb157 _ hy
        refine W.fall ?_
        refine W.reg (σ' := ⟨[(1, .ptr 101 0), (3, .ref 177), (6, .v (Enc.int .i64) (ar .add .i64 s116.1 (1 : Int)))], [(101, .box 38 [.v (Enc.int .i64) a0.1, .v (Enc.sl (Enc.int .i64)) a0.2.1, .v (Enc.sl eBlk) a0.2.2]), (177, .arr 5 (Enc.int .u8) x158)]⟩) (J.cons (.none rfl) (JO.move rfl) rfl rfl (J.cons (.none rfl) (JO.arith rfl rfl rfl) rfl rfl (J.cons (.none rfl) (JO.assign rfl) rfl rfl (J.fin (Sw.Sub.mk id (.cons rfl (.of_eq rfl) (.cons rfl (.of_eq rfl) (.cons rfl (.of_eq rfl) .nil))) (.box rfl (.cons (.of_eq rfl) (.cons (.of_eq rfl) (.cons (.of_eq rfl) .nil))) (.arr rfl .nil)) rfl))))) ?_
        obtain rfl := Option.some.inj h
        exact W.next (Sw.Sub.mk (rn [(101, 101), (163, 177)]) (.cons rfl (.of_eq rfl) (.cons rfl (.of_eq rfl) (.cons rfl (.of_eq rfl) .nil))) (.box rfl (.cons (.of_eq rfl) (.cons (.of_eq rfl) (.cons (.of_eq rfl) .nil))) (.arr rfl .nil)) rfl)
      intro s152 r157 h
      refine W.seq ?_
      refine W.seq ?_
      refine W.reg (σ' := ⟨[(1, .ptr 101 0), (3, .ref 177), (6, .v (Enc.int .i64) s116.1), (7, .v (Enc.int .i64) s152.1), (58, .v Enc.bool (cm .lss s152.1 (8 : Int)))], [(101, .box 38 [.v (Enc.int .i64) a0.1, .v (Enc.sl (Enc.int .i64)) a0.2.1, .v (Enc.sl eBlk) a0.2.2]), (177, .arr 5 (Enc.int .u8) s152.2)]⟩) (J.cons (.none rfl) (JO.move rfl) rfl rfl (J.cons (.none rfl) (JO.cmp rfl rfl rfl) rfl rfl (J.fin (Sw.Sub.mk id (.cons rfl (.of_eq rfl) (.cons rfl (.of_eq rfl) (.cons rfl (.of_eq rfl) (.cons rfl (.of_eq rfl) (.cons rfl (.of_eq rfl) .nil))))) (.box rfl (.cons (.of_eq rfl) (.cons (.of_eq rfl) (.cons (.of_eq rfl) .nil))) (.arr rfl .nil)) rfl)))) ?_
      rcases Bool.eq_false_or_eq_true (cm .lss s152.1 (8 : Int)) with hc159 | hc159
      · replace h := cond_t hc159 h
        refine W.condT rfl hc159 ?_
        refine W.skip ?_
        refine W.seq ?_
        refine W.block ?_
        obtain ⟨z160, hz160, h⟩ := bind_e h
        obtain ⟨z161, hz161, h⟩ := bind_e h
        obtain ⟨v162, hv162, h⟩ := bind_e h
        refine W.reg (σ' := ⟨[(1, .ptr 101 0), (3, .ref 179), (6, .v (Enc.int .i64) s116.1), (7, .v (Enc.int .i64) s152.1)], [(101, .box 38 [.v (Enc.int .i64) a0.1, .v (Enc.sl (Enc.int .i64)) a0.2.1, .v (Enc.sl eBlk) a0.2.2]), (179, .arr 5 (Enc.int .u8) v162)]⟩) (J.cons (.none rfl) (JO.move rfl) rfl rfl (J.cons (.none rfl) (JO.fieldPtr 2 rfl Try.runUnderlying38 rfl Try.sizeOf22 rfl rfl) rfl rfl (J.cons (.none rfl) (JO.load rfl rfl rfl Try.isAgg22 Try.sizeOf22) rfl rfl (J.cons (.none rfl) (JO.move rfl) rfl rfl (J.cons (.none rfl) (JO.move rfl) rfl rfl (J.cons (.none rfl) (JO.idx hz160 rfl rfl Try.runUnderlying22 Try.sizeOf24) rfl rfl (J.cons (.none rfl) (JO.idxPst hz161 rfl rfl Try.runUnderlying24 Try.sizeOf5) rfl rfl (J.cons (.none rfl) (JO.loadPst rfl Try.isAgg5 Try.sizeOf5) rfl rfl (J.cons (.none rfl) (JO.lit (e := (Enc.int .u8)) Try.runUnderlying40 Try.sizeOf5 Try.zeroValue5 rfl rfl rfl rfl (.cons (.dir rfl) .nil)) rfl rfl (J.mut (.none rfl) (JM.append 179 hv162 rfl rfl (.sl rfl) Try.runUnderlying40 Try.typeInfo5 Try.sizeOf5 rfl rfl rfl rfl rfl) (J.cons (.none rfl) (JO.assign rfl) rfl rfl (J.fin (Sw.Sub.mk id (.cons rfl (.of_eq rfl) (.cons rfl (.of_eq rfl) (.cons rfl (.of_eq rfl) (.cons rfl (.of_eq rfl) .nil)))) (.box rfl (.cons (.of_eq rfl) (.cons (.of_eq rfl) (.cons (.of_eq rfl) .nil))) (.arr rfl .nil)) rfl))))))))))))) ?_
        refine W.fall ?_
        refine W.reg (σ' := ⟨[(1, .ptr 101 0), (3, .ref 179), (6, .v (Enc.int .i64) s116.1), (7, .v (Enc.int .i64) (ar .add .i64 s152.1 (1 : Int)))], [(101, .box 38 [.v (Enc.int .i64) a0.1, .v (Enc.sl (Enc.int .i64)) a0.2.1, .v (Enc.sl eBlk) a0.2.2]), (179, .arr 5 (Enc.int .u8) v162)]⟩) (J.cons (.none rfl) (JO.move rfl) rfl rfl (J.cons (.none rfl) (JO.arith rfl rfl rfl) rfl rfl (J.cons (.none rfl) (JO.assign rfl) rfl rfl (J.fin (Sw.Sub.mk id (.cons rfl (.of_eq rfl) (.cons rfl (.of_eq rfl) (.cons rfl (.of_eq rfl) (.cons rfl (.of_eq rfl) .nil)))) (.box rfl (.cons (.of_eq rfl) (.cons (.of_eq rfl) (.cons (.of_eq rfl) .nil))) (.arr rfl .nil)) rfl))))) ?_
        obtain rfl := Option.some.inj h
        exact W.next (Sw.Sub.mk (rn [(101, 101), (177, 179)]) (.cons rfl (.of_eq rfl) (.cons rfl (.of_eq rfl) (.cons rfl (.of_eq rfl) (.cons rfl (.of_eq rfl) .nil)))) (.box rfl (.cons (.of_eq rfl) (.cons (.of_eq rfl) (.cons (.of_eq rfl) .nil))) (.arr rfl .nil)) rfl)
      · replace h := cond_f hc159 h
        refine W.condF rfl hc159 ?_
        refine W.exit ?_
        obtain rfl := Option.some.inj h
        exact XQ.brk (Sw.Sub.mk id (.cons rfl (.of_eq rfl) (.cons rfl (.of_eq rfl) (.cons rfl (.of_eq rfl) .nil))) (.box rfl (.cons (.of_eq rfl) (.cons (.of_eq rfl) (.cons (.of_eq rfl) .nil))) (.arr rfl .nil)) rfl)
    · replace h := cond_f hc141 h
      refine W.condF rfl hc141 ?_
      refine W.exit ?_
      obtain rfl := Option.some.inj h
      exact XQ.brk (Sw.Sub.mk id (.cons rfl (.of_eq rfl) .nil) (.arr rfl .nil) rfl)
  intro s35 r52 h
  refine W.seq ?_
  refine W.seq ?_
  refine W.reg (σ' := ⟨[(1, .ptr 101 0), (3, .ref 125), (4, .v (Enc.int .i64) s35.1), (26, .v Enc.bool (cm .lss s35.1 (a0.2.1.length : Int)))], [(101, .box 38 [.v (Enc.int .i64) a0.1, .v (Enc.sl (Enc.int .i64)) a0.2.1, .v (Enc.sl eBlk) a0.2.2]), (125, .arr 5 (Enc.int .u8) s35.2)]⟩) (J.cons (.none rfl) (JO.move rfl) rfl rfl (J.cons (.none rfl) (JO.fieldPtr 1 rfl Try.runUnderlying38 rfl Try.sizeOf36 rfl rfl) rfl rfl (J.cons (.none rfl) (JO.load rfl rfl rfl Try.isAgg36 Try.sizeOf36) rfl rfl (J.cons (.none rfl) (JO.len rfl Try.runUnderlying36) rfl rfl (J.cons (.none rfl) (JO.cmp rfl rfl rfl) rfl rfl (J.fin (Sw.Sub.mk id (.cons rfl (.of_eq rfl) (.cons rfl (.of_eq rfl) (.cons rfl (.of_eq rfl) (.cons rfl (.of_eq rfl) .nil)))) (.box rfl (.cons (.of_eq rfl) (.cons (.of_eq rfl) (.cons (.of_eq rfl) .nil))) (.arr rfl .nil)) rfl))))))) ?_
  rcases Bool.eq_false_or_eq_true (cm .lss s35.1 (a0.2.1.length : Int)) with hc54 | hc54
  · replace h := cond_t hc54 h
    refine W.condT rfl hc54 ?_
    refine W.skip ?_
    refine W.seq ?_
    refine W.block ?_
    refine W.seq ?_
    obtain ⟨z55, hz55, h⟩ := bind_e h
    refine W.reg (σ' := ⟨[(1, .ptr 101 0), (3, .ref 125), (4, .v (Enc.int .i64) s35.1), (5, .v (Enc.int .i64) z55)], [(101, .box 38 [.v (Enc.int .i64) a0.1, .v (Enc.sl (Enc.int .i64)) a0.2.1, .v (Enc.sl eBlk) a0.2.2]), (125, .arr 5 (Enc.int .u8) s35.2)]⟩) (J.cons (.none rfl) (JO.fieldPtr 1 rfl Try.runUnderlying38 rfl Try.sizeOf36 rfl rfl) rfl rfl (J.cons (.none rfl) (JO.load rfl rfl rfl Try.isAgg36 Try.sizeOf36) rfl rfl (J.cons (.none rfl) (JO.move rfl) rfl rfl (J.cons (.none rfl) (JO.idx hz55 rfl rfl Try.runUnderlying36 Try.sizeOf3) rfl rfl (J.cons (.none rfl) (JO.loadPst rfl Try.isAgg3 Try.sizeOf3) rfl rfl (J.cons (.none rfl) (JO.assign rfl) rfl rfl (J.fin (Sw.Sub.mk id (.cons rfl (.of_eq rfl) (.cons rfl (.of_eq rfl) (.cons rfl (.of_eq rfl) (.cons rfl (.of_eq rfl) .nil)))) (.box rfl (.cons (.of_eq rfl) (.cons (.of_eq rfl) (.cons (.of_eq rfl) .nil))) (.arr rfl .nil)) rfl)))))))) ?_
    refine W.seq ?_
    obtain ⟨o65, ho65, hb65, hr65⟩ := lp_elim h
    refine W.lp (σs := fun s62 : Int × (List Int) => ⟨[(1, .ptr 101 0), (3, .ref 140), (4, .v (Enc.int .i64) s35.1), (5, .v (Enc.int .i64) s62.1)], [(101, .box 38 [.v (Enc.int .i64) a0.1, .v (Enc.sl (Enc.int .i64)) a0.2.1, .v (Enc.sl eBlk) a0.2.2]), (140, .arr 5 (Enc.int .u8) s62.2)]⟩) (fun x66 : Int × (List Int) => ⟨[(1, .ptr 101 0), (3, .ref 140), (4, .v (Enc.int .i64) s35.1), (5, .v (Enc.int .i64) x66.1)], [(101, .box 38 [.v (Enc.int .i64) a0.1, .v (Enc.sl (Enc.int .i64)) a0.2.1, .v (Enc.sl eBlk) a0.2.2]), (140, .arr 5 (Enc.int .u8) x66.2)]⟩) ho65 (Sw.Sub.mk (rn [(101, 101), (140, 125)]) (.cons rfl (.of_eq rfl) (.cons rfl (.of_eq rfl) (.cons rfl (.of_eq rfl) (.cons rfl (.of_eq rfl) .nil)))) (.box rfl (.cons (.of_eq rfl) (.cons (.of_eq rfl) (.cons (.of_eq rfl) .nil))) (.arr rfl .nil)) rfl) ?_ ?_
    · intro x66 hy
      have h := hb65 _ hy
      obtain ⟨v69, hv69, h⟩ := bind_e h
      refine W.reg (σ' := ⟨[(1, .ptr 101 0), (3, .ref 143), (4, .v (Enc.int .i64) s35.1)], [(101, .box 38 [.v (Enc.int .i64) a0.1, .v (Enc.sl (Enc.int .i64)) a0.2.1, .v (Enc.sl eBlk) a0.2.2]), (143, .arr 5 (Enc.int .u8) v69)]⟩) (J.cons (.none rfl) (JO.move rfl) rfl rfl (J.cons (.none rfl) (JO.move rfl) rfl rfl (J.cons (.none rfl) (JO.conv Try.runUnderlying3 Try.runUnderlying5 rfl) rfl rfl (J.cons (.none rfl) (JO.lit (e := (Enc.int .u8)) Try.runUnderlying40 Try.sizeOf5 Try.zeroValue5 rfl rfl rfl rfl (.cons (.dir rfl) .nil)) rfl rfl (J.mut (.none rfl) (JM.append 143 hv69 rfl rfl (.sl rfl) Try.runUnderlying40 Try.typeInfo5 Try.sizeOf5 rfl rfl rfl rfl rfl) (J.cons (.none rfl) (JO.assign rfl) rfl rfl (J.fin (Sw.Sub.mk id (.cons rfl (.of_eq rfl) (.cons rfl (.of_eq rfl) (.cons rfl (.of_eq rfl) .nil))) (.box rfl (.cons (.of_eq rfl) (.cons (.of_eq rfl) (.cons (.of_eq rfl) .nil))) (.arr rfl .nil)) rfl)))))))) ?_
      refine W.fall ?_
      refine W.reg (σ' := ⟨[(1, .ptr 101 0), (3, .ref 143), (4, .v (Enc.int .i64) (ar .add .i64 s35.1 (1 : Int)))], [(101, .box 38 [.v (Enc.int .i64) a0.1, .v (Enc.sl (Enc.int .i64)) a0.2.1, .v (Enc.sl eBlk) a0.2.2]), (143, .arr 5 (Enc.int .u8) v69)]⟩) (J.cons (.none rfl) (JO.move rfl) rfl rfl (J.cons (.none rfl) (JO.arith rfl rfl rfl) rfl rfl (J.cons (.none rfl) (JO.assign rfl) rfl rfl (J.fin (Sw.Sub.mk id (.cons rfl (.of_eq rfl) (.cons rfl (.of_eq rfl) (.cons rfl (.of_eq rfl) .nil))) (.box rfl (.cons (.of_eq rfl) (.cons (.of_eq rfl) (.cons (.of_eq rfl) .nil))) (.arr rfl .nil)) rfl))))) ?_
      obtain rfl := Option.some.inj h
      exact W.next (Sw.Sub.mk (rn [(101, 101), (125, 143)]) (.cons rfl (.of_eq rfl) (.cons rfl (.of_eq rfl) (.cons rfl (.of_eq rfl) .nil))) (.box rfl (.cons (.of_eq rfl) (.cons (.of_eq rfl) (.cons (.of_eq rfl) .nil))) (.arr rfl .nil)) rfl)
    intro s62 r65 h
    refine W.seq ?_
    refine W.seq ?_
    refine W.reg (σ' := ⟨[(1, .ptr 101 0), (3, .ref 140), (4, .v (Enc.int .i64) s35.1), (5, .v (Enc.int .i64) s62.1), (35, .v Enc.bool (cm .geq s62.1 (128 : Int)))], [(101, .box 38 [.v (Enc.int .i64) a0.1, .v (Enc.sl (Enc.int .i64)) a0.2.1, .v (Enc.sl eBlk) a0.2.2]), (140, .arr 5 (Enc.int .u8) s62.2)]⟩) (J.cons (.none rfl) (JO.move rfl) rfl rfl (J.cons (.none rfl) (JO.cmp rfl rfl rfl) rfl rfl (J.fin (Sw.Sub.mk id (.cons rfl (.of_eq rfl) (.cons rfl (.of_eq rfl) (.cons rfl (.of_eq rfl) (.cons rfl (.of_eq rfl) (.cons rfl (.of_eq rfl) .nil))))) (.box rfl (.cons (.of_eq rfl) (.cons (.of_eq rfl) (.cons (.of_eq rfl) .nil))) (.arr rfl .nil)) rfl)))) ?_
    rcases Bool.eq_false_or_eq_true (cm .geq s62.1 (128 : Int)) with hc67 | hc67
    · replace h := cond_t hc67 h
      refine W.condT rfl hc67 ?_
      refine W.skip ?_
      refine W.block ?_
      refine W.seq ?_
      obtain ⟨v68, hv68, h⟩ := bind_e h
      refine W.reg (σ' := ⟨[(1, .ptr 101 0), (3, .ref 142), (4, .v (Enc.int .i64) s35.1), (5, .v (Enc.int .i64) s62.1)], [(101, .box 38 [.v (Enc.int .i64) a0.1, .v (Enc.sl (Enc.int .i64)) a0.2.1, .v (Enc.sl eBlk) a0.2.2]), (142, .arr 5 (Enc.int .u8) v68)]⟩) (J.cons (.none rfl) (JO.move rfl) rfl rfl (J.cons (.none rfl) (JO.move rfl) rfl rfl (J.cons (.none rfl) (JO.div (.inr rfl) (by decide) rfl rfl) rfl rfl (J.cons (.none rfl) (JO.arith rfl rfl rfl) rfl rfl (J.cons (.none rfl) (JO.conv Try.runUnderlying3 Try.runUnderlying5 rfl) rfl rfl (J.cons (.none rfl) (JO.lit (e := (Enc.int .u8)) Try.runUnderlying40 Try.sizeOf5 Try.zeroValue5 rfl rfl rfl rfl (.cons (.dir rfl) .nil)) rfl rfl (J.mut (.none rfl) (JM.append 142 hv68 rfl rfl (.sl rfl) Try.runUnderlying40 Try.typeInfo5 Try.sizeOf5 rfl rfl rfl rfl rfl) (J.cons (.none rfl) (JO.assign rfl) rfl rfl (J.fin (Sw.Sub.mk id (.cons rfl (.of_eq rfl) (.cons rfl (.of_eq rfl) (.cons rfl (.of_eq rfl) (.cons rfl (.of_eq rfl) .nil)))) (.box rfl (.cons (.of_eq rfl) (.cons (.of_eq rfl) (.cons (.of_eq rfl) .nil))) (.arr rfl .nil)) rfl)))))))))) ?_
      refine W.reg (σ' := ⟨[(1, .ptr 101 0), (3, .ref 142), (4, .v (Enc.int .i64) s35.1), (5, .v (Enc.int .i64) (ar .quo .i64 s62.1 (128 : Int)))], [(101, .box 38 [.v (Enc.int .i64) a0.1, .v (Enc.sl (Enc.int .i64)) a0.2.1, .v (Enc.sl eBlk) a0.2.2]), (142, .arr 5 (Enc.int .u8) v68)]⟩) (J.cons (.none rfl) (JO.move rfl) rfl rfl (J.cons (.none rfl) (JO.div (.inl rfl) (by decide) rfl rfl) rfl rfl (J.cons (.none rfl) (JO.assign rfl) rfl rfl (J.fin (Sw.Sub.mk id (.cons rfl (.of_eq rfl) (.cons rfl (.of_eq rfl) (.cons rfl (.of_eq rfl) (.cons rfl (.of_eq rfl) .nil)))) (.box rfl (.cons (.of_eq rfl) (.cons (.of_eq rfl) (.cons (.of_eq rfl) .nil))) (.arr rfl .nil)) rfl))))) ?_
      refine W.fall ?_
      obtain rfl := Option.some.inj h
      exact W.next (Sw.Sub.mk (rn [(101, 101), (140, 142)]) (.cons rfl (.of_eq rfl) (.cons rfl (.of_eq rfl) (.cons rfl (.of_eq rfl) (.cons rfl (.of_eq rfl) .nil)))) (.box rfl (.cons (.of_eq rfl) (.cons (.of_eq rfl) (.cons (.of_eq rfl) .nil))) (.arr rfl .nil)) rfl)
    · replace h := cond_f hc67 h
      refine W.condF rfl hc67 ?_
      refine W.exit ?_
      obtain rfl := Option.some.inj h
      exact XQ.brk (Sw.Sub.mk id (.cons rfl (.of_eq rfl) (.cons rfl (.of_eq rfl) (.cons rfl (.of_eq rfl) (.cons rfl (.of_eq rfl) .nil)))) (.box rfl (.cons (.of_eq rfl) (.cons (.of_eq rfl) (.cons (.of_eq rfl) .nil))) (.arr rfl .nil)) rfl)
  · replace h := cond_f hc54 h
    refine W.condF rfl hc54 ?_
    refine W.exit ?_
    obtain rfl := Option.some.inj h
    exact XQ.brk (Sw.Sub.mk id (.cons rfl (.of_eq rfl) (.cons rfl (.of_eq rfl) .nil)) (.box rfl (.cons (.of_eq rfl) (.cons (.of_eq rfl) (.cons (.of_eq rfl) .nil))) (.arr rfl .nil)) rfl)
set_option maxRecDepth 100000 in
set_option maxHeartbeats 4000000 in
theorem con_frame_Check_1 {a0 : Int} {r : Bool} (h : m_frame_Check_1 a0 = some r) :
    Con Try.prog 70 [.v (Enc.int .i64) a0] (.v Enc.bool r) [] := by
  refine Con.of Try.func70 rfl Try.ntmps70 rfl ?_
  intro S w hF
  unfold m_frame_Check_1 at h
  refine W.seq ?_
  refine W.reg (σ' := ⟨[(0, .v (Enc.int .i64) a0)], []⟩) (J.cons (.none rfl) (JO.assign rfl) rfl rfl (J.fin (Sw.Sub.mk id (.cons rfl (.of_eq rfl) .nil) .nil rfl))) ?_
  refine W.seq ?_
  obtain ⟨x2, hx, h⟩ := bind_e h
  refine W.reg (σ' := ⟨[(2, .v Enc.bool x2)], []⟩) ?_ ?_
  · rcases Bool.eq_false_or_eq_true (cm .lss a0 (0 : Int)) with hc3 | hc3
    · replace hx := cond_t hc3 hx
      obtain rfl := Option.some.inj hx
      exact (J.cons (.none rfl) (JO.move rfl) rfl rfl (J.cons (.none rfl) (JO.cmp rfl rfl rfl) rfl rfl (J.cons (.none rfl) (JO.move rfl) rfl rfl (J.left (GK.unmet 5 rfl rfl rfl hc3) rfl (J.left (GK.unmet 5 rfl rfl rfl hc3) rfl (J.cons (.none rfl) (JO.pT hc3 rfl rfl) rfl rfl (J.cons (.none rfl) (JO.assign rfl) rfl rfl (J.fin (Sw.Sub.mk id (.cons rfl (.of_eq rfl) .nil) .nil rfl)))))))))
    · replace hx := cond_f hc3 hx
      obtain rfl := Option.some.inj hx
      exact (J.cons (.none rfl) (JO.move rfl) rfl rfl (J.cons (.none rfl) (JO.cmp rfl rfl rfl) rfl rfl (J.cons (.none rfl) (JO.move rfl) rfl rfl (J.cons (GK.met 5 rfl rfl rfl hc3) (JO.move rfl) rfl rfl (J.cons (GK.met 5 rfl rfl rfl hc3) (JO.cmp rfl rfl rfl) rfl rfl (J.cons (.none rfl) (JO.pF hc3 rfl rfl) rfl rfl (J.cons (.none rfl) (JO.assign rfl) rfl rfl (J.fin (Sw.Sub.mk id (.cons rfl (.of_eq rfl) .nil) .nil rfl)))))))))
  refine W.ret ?_
  obtain rfl := Option.some.inj h
  exact XQ.sub (σ' := ⟨[(2, .v Enc.bool x2)], []⟩) (Sw.Sub.mk id (.cons rfl (.of_eq rfl) .nil) .nil rfl) (XQ.ret1 hF noR rfl (RV.tmp rfl) .nil rfl)
set_option maxRecDepth 100000 in
set_option maxHeartbeats 4000000 in
theorem con_slices_IndexFunc_int_int__frame_Check_1 {a0 : (List Int)} {r : Int} (h : m_slices_IndexFunc_int_int__frame_Check_1 a0 = some r) :
    Con Try.prog 91 [.v (Enc.sl (Enc.int .i64)) a0, .fnc 70 []] (.v (Enc.int .i64) r) [] := by
  refine Con.of Try.func91 rfl Try.ntmps91 rfl ?_
  intro S w hF
  unfold m_slices_IndexFunc_int_int__frame_Check_1 at h
  refine W.seq ?_
  refine W.reg (σ' := ⟨[(0, .v (Enc.sl (Enc.int .i64)) a0), (1, .fnc 70 [])], []⟩) (J.cons (.none rfl) (JO.assign rfl) rfl rfl (J.fin (Sw.Sub.mk id (.cons rfl (.of_eq rfl) (.cons rfl (.of_eq rfl) .nil)) .nil rfl))) ?_
  refine W.seq ?_
  refine W.seq ?_
  refine W.reg (σ' := ⟨[(0, .v (Enc.sl (Enc.int .i64)) a0), (1, .fnc 70 []), (7, .v (Enc.int .i64) (a0.length : Int)), (8, .v (Enc.int .i64) (0 : Int))], []⟩) (J.cons (.none rfl) (JO.move rfl) rfl rfl (J.cons (.none rfl) (JO.len rfl Try.runUnderlying36) rfl rfl (J.cons (.none rfl) (JO.move rfl) rfl rfl (J.fin (Sw.Sub.mk id (.cons rfl (.of_eq rfl) (.cons rfl (.of_eq rfl) (.cons rfl (.of_eq rfl) (.cons rfl (.of_eq rfl) .nil)))) .nil rfl))))) ?_
  obtain ⟨o16, ho16, hb16, hr16⟩ := lp_elim h
  refine W.lp (σs := fun s11 : Int => ⟨[(0, .v (Enc.sl (Enc.int .i64)) a0), (1, .fnc 70 []), (7, .v (Enc.int .i64) (a0.length : Int)), (8, .v (Enc.int .i64) s11)], []⟩) (fun x17 : Unit => ⟨[], []⟩) ho16 (Sw.Sub.mk id (.cons rfl (.of_eq rfl) (.cons rfl (.of_eq rfl) (.cons rfl (.of_eq rfl) (.cons rfl (.of_eq rfl) .nil)))) .nil rfl) ?_ ?_
  · intro x17 hy
    have h := hb16 _ hy
    refine W.seq ?_
    refine W.reg (σ' := ⟨[(4, .v (Enc.int .i64) (-1 : Int))], []⟩) (J.cons (.none rfl) (JO.assign rfl) rfl rfl (J.fin (Sw.Sub.mk id (.cons rfl (.of_eq rfl) .nil) .nil rfl))) ?_
    refine W.ret ?_
    obtain rfl := Option.some.inj h
    exact XQ.sub (σ' := ⟨[(4, .v (Enc.int .i64) (-1 : Int))], []⟩) (Sw.Sub.mk id (.cons rfl (.of_eq rfl) .nil) .nil rfl) (XQ.ret1 hF noR rfl (RV.tmp rfl) .nil rfl)
  intro s11 r16 h
  refine W.seq ?_
  refine W.reg (σ' := ⟨[(0, .v (Enc.sl (Enc.int .i64)) a0), (1, .fnc 70 []), (7, .v (Enc.int .i64) (a0.length : Int)), (8, .v (Enc.int .i64) s11), (9, .v Enc.bool (cm .lss s11 (a0.length : Int)))], []⟩) (J.cons (.none rfl) (JO.cmp rfl rfl rfl) rfl rfl (J.fin (Sw.Sub.mk id (.cons rfl (.of_eq rfl) (.cons rfl (.of_eq rfl) (.cons rfl (.of_eq rfl) (.cons rfl (.of_eq rfl) (.cons rfl (.of_eq rfl) .nil))))) .nil rfl))) ?_
  refine W.seq ?_
  rcases Bool.eq_false_or_eq_true (cm .lss s11 (a0.length : Int)) with hc18 | hc18
  · replace h := cond_t hc18 h
    refine W.condT rfl hc18 ?_
    refine W.skip ?_
    refine W.seq ?_
    refine W.block ?_
    refine W.seq ?_
    refine W.reg (σ' := ⟨[(0, .v (Enc.sl (Enc.int .i64)) a0), (1, .fnc 70 []), (5, .v (Enc.int .i64) s11), (7, .v (Enc.int .i64) (a0.length : Int)), (8, .v (Enc.int .i64) s11)], []⟩) (J.cons (.none rfl) (JO.move rfl) rfl rfl (J.cons (.none rfl) (JO.assign rfl) rfl rfl (J.fin (Sw.Sub.mk id (.cons rfl (.of_eq rfl) (.cons rfl (.of_eq rfl) (.cons rfl (.of_eq rfl) (.cons rfl (.of_eq rfl) (.cons rfl (.of_eq rfl) .nil))))) .nil rfl)))) ?_
    refine W.seq ?_
    obtain ⟨z19, hz19, h⟩ := bind_e h
    obtain ⟨v20, hv20, h⟩ := bind_e h
    refine W.reg (σ' := ⟨[(0, .v (Enc.sl (Enc.int .i64)) a0), (1, .fnc 70 []), (5, .v (Enc.int .i64) s11), (7, .v (Enc.int .i64) (a0.length : Int)), (8, .v (Enc.int .i64) s11), (16, .v Enc.bool v20)], []⟩) (J.cons (.none rfl) (JO.move rfl) rfl rfl (J.cons (.none rfl) (JO.move rfl) rfl rfl (J.cons (.none rfl) (JO.move rfl) rfl rfl (J.cons (.none rfl) (JO.idx hz19 rfl rfl Try.runUnderlying36 Try.sizeOf3) rfl rfl (J.cons (.none rfl) (JO.loadPst rfl Try.isAgg3 Try.sizeOf3) rfl rfl (J.cons (.none rfl) (JO.callF0 rfl (con_frame_Check_1 hv20) Try.call70 (.cons (.dir rfl) .nil)) rfl rfl (J.fin (Sw.Sub.mk id (.cons rfl (.of_eq rfl) (.cons rfl (.of_eq rfl) (.cons rfl (.of_eq rfl) (.cons rfl (.of_eq rfl) (.cons rfl (.of_eq rfl) (.cons rfl (.of_eq rfl) .nil)))))) .nil rfl)))))))) ?_
    rcases Bool.eq_false_or_eq_true v20 with hc21 | hc21
    · replace h := cond_t hc21 h
      refine W.condT rfl hc21 ?_
      refine W.seq ?_
      refine W.reg (σ' := ⟨[(4, .v (Enc.int .i64) s11)], []⟩) (J.cons (.none rfl) (JO.move rfl) rfl rfl (J.cons (.none rfl) (JO.assign rfl) rfl rfl (J.fin (Sw.Sub.mk id (.cons rfl (.of_eq rfl) .nil) .nil rfl)))) ?_
      refine W.ret ?_
      refine XQ.ret ?_
      obtain rfl := Option.some.inj h
      refine XQ.lret fun ho => ?_
      obtain rfl := hr16 _ ho
      exact XQ.sub (σ' := ⟨[(4, .v (Enc.int .i64) s11)], []⟩) (Sw.Sub.mk id (.cons rfl (.of_eq rfl) .nil) .nil rfl) (XQ.ret1 hF noR rfl (RV.tmp rfl) .nil rfl)
    · replace h := cond_f hc21 h
      refine W.condF rfl hc21 ?_
      refine W.skip ?_
      refine W.fall ?_
      refine W.reg (σ' := ⟨[(0, .v (Enc.sl (Enc.int .i64)) a0), (1, .fnc 70 []), (7, .v (Enc.int .i64) (a0.length : Int)), (8, .v (Enc.int .i64) (ar .add .i64 s11 (1 : Int)))], []⟩) (J.cons (.none rfl) (JO.arith rfl rfl rfl) rfl rfl (J.cons (.none rfl) (JO.move rfl) rfl rfl (J.fin (Sw.Sub.mk id (.cons rfl (.of_eq rfl) (.cons rfl (.of_eq rfl) (.cons rfl (.of_eq rfl) (.cons rfl (.of_eq rfl) .nil)))) .nil rfl)))) ?_
      obtain rfl := Option.some.inj h
      exact W.next (Sw.Sub.mk id (.cons rfl (.of_eq rfl) (.cons rfl (.of_eq rfl) (.cons rfl (.of_eq rfl) (.cons rfl (.of_eq rfl) .nil)))) .nil rfl)
  · replace h := cond_f hc18 h
    refine W.condF rfl hc18 ?_
    refine W.exit ?_
    obtain rfl := Option.some.inj h
    exact XQ.brk (Sw.Sub.mk id .nil .nil rfl)
set_option maxRecDepth 100000 in
set_option maxHeartbeats 4000000 in
theorem con_slices_ContainsFunc_int_int__frame_Check_1 {a0 : (List Int)} {r : Bool} (h : m_slices_ContainsFunc_int_int__frame_Check_1 a0 = some r) :
    Con Try.prog 69 [.v (Enc.sl (Enc.int .i64)) a0, .fnc 70 []] (.v Enc.bool r) [] := by
  refine Con.of Try.func69 rfl Try.ntmps69 rfl ?_
  intro S w hF
  unfold m_slices_ContainsFunc_int_int__frame_Check_1 at h
  refine W.seq ?_
  refine W.reg (σ' := ⟨[(0, .v (Enc.sl (Enc.int .i64)) a0), (1, .fnc 70 [])], []⟩) (J.cons (.none rfl) (JO.assign rfl) rfl rfl (J.fin (Sw.Sub.mk id (.cons rfl (.of_eq rfl) (.cons rfl (.of_eq rfl) .nil)) .nil rfl))) ?_
  refine W.seq ?_
  obtain ⟨v1, hv1, h⟩ := bind_e h
  refine W.reg (σ' := ⟨[(4, .v Enc.bool (cm .geq v1 (0 : Int)))], []⟩) (J.cons (.none rfl) (JO.move rfl) rfl rfl (J.cons (.none rfl) (JO.move rfl) rfl rfl (J.cons (.none rfl) (JO.call0 (con_slices_IndexFunc_int_int__frame_Check_1 hv1) Try.call91 (.cons (.dir rfl) (.cons (.dir rfl) .nil))) rfl rfl (J.cons (.none rfl) (JO.cmp rfl rfl rfl) rfl rfl (J.cons (.none rfl) (JO.assign rfl) rfl rfl (J.fin (Sw.Sub.mk id (.cons rfl (.of_eq rfl) .nil) .nil rfl))))))) ?_
  refine W.ret ?_
  obtain rfl := Option.some.inj h
  exact XQ.sub (σ' := ⟨[(4, .v Enc.bool (cm .geq v1 (0 : Int)))], []⟩) (Sw.Sub.mk id (.cons rfl (.of_eq rfl) .nil) .nil rfl) (XQ.ret1 hF noR rfl (RV.tmp rfl) .nil rfl)
set_option maxRecDepth 100000 in
set_option maxHeartbeats 4000000 in
theorem con_frame_Check {a0 : (Int × (List Int) × (List Blk))} {r : (Option Int)} (h : m_frame_Check a0 = some r) :
    Con Try.prog 24 [.v (Enc.pr (Enc.int .i64) (Enc.pr (Enc.sl (Enc.int .i64)) (Enc.sl eBlk))) a0] (.v (Enc.err ET) r) [] := by
  refine Con.of Try.func24 rfl Try.ntmps24 rfl ?_
  intro S w hF
  unfold m_frame_Check at h
  refine W.seq ?_
  refine W.reg (σ' := ⟨[(1, .ptr 101 0)], [(101, .box 38 [.v (Enc.int .i64) a0.1, .v (Enc.sl (Enc.int .i64)) a0.2.1, .v (Enc.sl eBlk) a0.2.2])]⟩) (J.cons (.none rfl) (JO.box 101 rfl (.prm (.one _ _) (.prm (.one _ _) (.one _ _))) rfl) rfl rfl (J.cons (.none rfl) (JO.assignNilE ET) rfl rfl (J.fin (Sw.Sub.mk id (.cons rfl (.of_eq rfl) .nil) (.box rfl (.cons (.of_eq rfl) (.cons (.of_eq rfl) (.cons (.of_eq rfl) .nil))) .nil) rfl)))) ?_
  refine W.seq ?_
  refine W.seq ?_
  obtain ⟨x2, hx, h⟩ := bind_e h
  refine W.reg (σ' := ⟨[(1, .ptr 101 0), (10, .v Enc.bool x2)], [(101, .box 38 [.v (Enc.int .i64) a0.1, .v (Enc.sl (Enc.int .i64)) a0.2.1, .v (Enc.sl eBlk) a0.2.2])]⟩) ?_ ?_
  · rcases Bool.eq_false_or_eq_true (cm .lss a0.1 (0 : Int)) with hc3 | hc3
    · replace hx := cond_t hc3 hx
      obtain rfl := Option.some.inj hx
      exact (J.cons (.none rfl) (JO.fieldPtr 0 rfl Try.runUnderlying38 rfl Try.sizeOf3 rfl rfl) rfl rfl (J.cons (.none rfl) (JO.load rfl rfl rfl Try.isAgg3 Try.sizeOf3) rfl rfl (J.cons (.none rfl) (JO.cmp rfl rfl rfl) rfl rfl (J.cons (.none rfl) (JO.move rfl) rfl rfl (J.left (GK.unmet 6 rfl rfl rfl hc3) rfl (J.left (GK.unmet 6 rfl rfl rfl hc3) rfl (J.left (GK.unmet 6 rfl rfl rfl hc3) rfl (J.cons (.none rfl) (JO.pT hc3 rfl rfl) rfl rfl (J.fin (Sw.Sub.mk id (.cons rfl (.of_eq rfl) (.cons rfl (.of_eq rfl) .nil)) (.box rfl (.cons (.of_eq rfl) (.cons (.of_eq rfl) (.cons (.of_eq rfl) .nil))) .nil) rfl))))))))))
    · replace hx := cond_f hc3 hx
      obtain rfl := Option.some.inj hx
      exact (J.cons (.none rfl) (JO.fieldPtr 0 rfl Try.runUnderlying38 rfl Try.sizeOf3 rfl rfl) rfl rfl (J.cons (.none rfl) (JO.load rfl rfl rfl Try.isAgg3 Try.sizeOf3) rfl rfl (J.cons (.none rfl) (JO.cmp rfl rfl rfl) rfl rfl (J.cons (.none rfl) (JO.move rfl) rfl rfl (J.cons (GK.met 6 rfl rfl rfl hc3) (JO.fieldPtr 0 rfl Try.runUnderlying38 rfl Try.sizeOf3 rfl rfl) rfl rfl (J.cons (GK.met 6 rfl rfl rfl hc3) (JO.load rfl rfl rfl Try.isAgg3 Try.sizeOf3) rfl rfl (J.cons (GK.met 6 rfl rfl rfl hc3) (JO.cmp rfl rfl rfl) rfl rfl (J.cons (.none rfl) (JO.pF hc3 rfl rfl) rfl rfl (J.fin (Sw.Sub.mk id (.cons rfl (.of_eq rfl) (.cons rfl (.of_eq rfl) .nil)) (.box rfl (.cons (.of_eq rfl) (.cons (.of_eq rfl) (.cons (.of_eq rfl) .nil))) .nil) rfl))))))))))
  rcases Bool.eq_false_or_eq_true x2 with hc4 | hc4
  · replace h := cond_t hc4 h
    refine W.condT rfl hc4 ?_
    refine W.seq ?_
    refine W.reg (σ' := ⟨[(2, .v (Enc.err ET) (some (1 : Int)))], []⟩) (J.cons (.none rfl) (JO.mkErr Try.runUnderlying25 rfl) rfl rfl (J.cons (.none rfl) (JO.assign rfl) rfl rfl (J.fin (Sw.Sub.mk id (.cons rfl (.of_eq rfl) .nil) .nil rfl)))) ?_
    refine W.ret ?_
    obtain rfl := Option.some.inj h
    exact XQ.sub (σ' := ⟨[(2, .v (Enc.err ET) (some (1 : Int)))], []⟩) (Sw.Sub.mk id (.cons rfl (.of_eq rfl) .nil) .nil rfl) (XQ.ret1 hF noR rfl (RV.tmp rfl) .nil rfl)
  · replace h := cond_f hc4 h
    refine W.condF rfl hc4 ?_
    refine W.skip ?_
    refine W.seq ?_
    refine W.seq ?_
    obtain ⟨x6, hx, h⟩ := bind_e h
    refine W.reg (σ' := ⟨[(1, .ptr 101 0), (21, .v Enc.bool x6)], [(101, .box 38 [.v (Enc.int .i64) a0.1, .v (Enc.sl (Enc.int .i64)) a0.2.1, .v (Enc.sl eBlk) a0.2.2])]⟩) ?_ ?_
    · rcases Bool.eq_false_or_eq_true (cm .gtr (a0.2.1.length : Int) (12 : Int)) with hc7 | hc7
      · replace hx := cond_t hc7 hx
        obtain rfl := Option.some.inj hx
        exact (J.cons (.none rfl) (JO.fieldPtr 1 rfl Try.runUnderlying38 rfl Try.sizeOf36 rfl rfl) rfl rfl (J.cons (.none rfl) (JO.load rfl rfl rfl Try.isAgg36 Try.sizeOf36) rfl rfl (J.cons (.none rfl) (JO.len rfl Try.runUnderlying36) rfl rfl (J.cons (.none rfl) (JO.cmp rfl rfl rfl) rfl rfl (J.cons (.none rfl) (JO.move rfl) rfl rfl (J.left (GK.unmet 16 rfl rfl rfl hc7) rfl (J.left (GK.unmet 16 rfl rfl rfl hc7) rfl (J.left (GK.unmet 16 rfl rfl rfl hc7) rfl (J.left (GK.unmet 16 rfl rfl rfl hc7) rfl (J.cons (.none rfl) (JO.pT hc7 rfl rfl) rfl rfl (J.fin (Sw.Sub.mk id (.cons rfl (.of_eq rfl) (.cons rfl (.of_eq rfl) .nil)) (.box rfl (.cons (.of_eq rfl) (.cons (.of_eq rfl) (.cons (.of_eq rfl) .nil))) .nil) rfl))))))))))))
      · replace hx := cond_f hc7 hx
        obtain rfl := Option.some.inj hx
        exact (J.cons (.none rfl) (JO.fieldPtr 1 rfl Try.runUnderlying38 rfl Try.sizeOf36 rfl rfl) rfl rfl (J.cons (.none rfl) (JO.load rfl rfl rfl Try.isAgg36 Try.sizeOf36) rfl rfl (J.cons (.none rfl) (JO.len rfl Try.runUnderlying36) rfl rfl (J.cons (.none rfl) (JO.cmp rfl rfl rfl) rfl rfl (J.cons (.none rfl) (JO.move rfl) rfl rfl (J.cons (GK.met 16 rfl rfl rfl hc7) (JO.fieldPtr 2 rfl Try.runUnderlying38 rfl Try.sizeOf22 rfl rfl) rfl rfl (J.cons (GK.met 16 rfl rfl rfl hc7) (JO.load rfl rfl rfl Try.isAgg22 Try.sizeOf22) rfl rfl (J.cons (GK.met 16 rfl rfl rfl hc7) (JO.len rfl Try.runUnderlying22) rfl rfl (J.cons (GK.met 16 rfl rfl rfl hc7) (JO.cmp rfl rfl rfl) rfl rfl (J.cons (.none rfl) (JO.pF hc7 rfl rfl) rfl rfl (J.fin (Sw.Sub.mk id (.cons rfl (.of_eq rfl) (.cons rfl (.of_eq rfl) .nil)) (.box rfl (.cons (.of_eq rfl) (.cons (.of_eq rfl) (.cons (.of_eq rfl) .nil))) .nil) rfl))))))))))))
    rcases Bool.eq_false_or_eq_true x6 with hc8 | hc8
    · replace h := cond_t hc8 h
      refine W.condT rfl hc8 ?_
      refine W.seq ?_
      refine W.reg (σ' := ⟨[(2, .v (Enc.err ET) (some (2 : Int)))], []⟩) (J.cons (.none rfl) (JO.mkErr Try.runUnderlying25 rfl) rfl rfl (J.cons (.none rfl) (JO.assign rfl) rfl rfl (J.fin (Sw.Sub.mk id (.cons rfl (.of_eq rfl) .nil) .nil rfl)))) ?_
      refine W.ret ?_
      obtain rfl := Option.some.inj h
      exact XQ.sub (σ' := ⟨[(2, .v (Enc.err ET) (some (2 : Int)))], []⟩) (Sw.Sub.mk id (.cons rfl (.of_eq rfl) .nil) .nil rfl) (XQ.ret1 hF noR rfl (RV.tmp rfl) .nil rfl)
    · replace h := cond_f hc8 h
      refine W.condF rfl hc8 ?_
      refine W.skip ?_
      refine W.seq ?_
      refine W.seq ?_
      obtain ⟨v9, hv9, h⟩ := bind_e h
      refine W.reg (σ' := ⟨[(25, .v Enc.bool v9)], []⟩) (J.cons (.none rfl) (JO.fieldPtr 1 rfl Try.runUnderlying38 rfl Try.sizeOf36 rfl rfl) rfl rfl (J.cons (.none rfl) (JO.load rfl rfl rfl Try.isAgg36 Try.sizeOf36) rfl rfl (J.cons (.none rfl) (JO.call0 (con_slices_ContainsFunc_int_int__frame_Check_1 hv9) Try.call69 (.cons (.dir rfl) (.cons .fn .nil))) rfl rfl (J.fin (Sw.Sub.mk id (.cons rfl (.of_eq rfl) .nil) .nil rfl))))) ?_
      rcases Bool.eq_false_or_eq_true v9 with hc10 | hc10
      · replace h := cond_t hc10 h
        refine W.condT rfl hc10 ?_
        refine W.seq ?_
        refine W.reg (σ' := ⟨[(2, .v (Enc.err ET) (some (1 : Int)))], []⟩) (J.cons (.none rfl) (JO.mkErr Try.runUnderlying25 rfl) rfl rfl (J.cons (.none rfl) (JO.assign rfl) rfl rfl (J.fin (Sw.Sub.mk id (.cons rfl (.of_eq rfl) .nil) .nil rfl)))) ?_
        refine W.ret ?_
        obtain rfl := Option.some.inj h
        exact XQ.sub (σ' := ⟨[(2, .v (Enc.err ET) (some (1 : Int)))], []⟩) (Sw.Sub.mk id (.cons rfl (.of_eq rfl) .nil) .nil rfl) (XQ.ret1 hF noR rfl (RV.tmp rfl) .nil rfl)
      · replace h := cond_f hc10 h
        refine W.condF rfl hc10 ?_
        refine W.skip ?_
        refine W.seq ?_
        refine W.reg (σ' := ⟨[(2, .v (Enc.err ET) (none : Option Int))], []⟩) (J.cons (.none rfl) (JO.assignNilE ET) rfl rfl (J.fin (Sw.Sub.mk id (.cons rfl (.of_eq rfl) .nil) .nil rfl))) ?_
        refine W.ret ?_
        obtain rfl := Option.some.inj h
        exact XQ.sub (σ' := ⟨[(2, .v (Enc.err ET) (none : Option Int))], []⟩) (Sw.Sub.mk id (.cons rfl (.of_eq rfl) .nil) .nil rfl) (XQ.ret1 hF noR rfl (RV.tmp rfl) .nil rfl)
set_option maxRecDepth 100000 in
set_option maxHeartbeats 4000000 in
theorem con_frame_Sum {a0 : (List Int)} {r : Int} (h : m_frame_Sum a0 = some r) :
    Con Try.prog 33 [.v (Enc.sl (Enc.int .u8)) a0] (.v (Enc.int .u32) r) [] := by
  refine Con.of Try.func33 rfl Try.ntmps33 rfl ?_
  intro S w hF
  unfold m_frame_Sum at h
  refine W.seq ?_
  refine W.reg (σ' := ⟨[(0, .v (Enc.sl (Enc.int .u8)) a0)], []⟩) (J.cons (.none rfl) (JO.assign rfl) rfl rfl (J.fin (Sw.Sub.mk id (.cons rfl (.of_eq rfl) .nil) .nil rfl))) ?_
  refine W.seq ?_
  refine W.reg (σ' := ⟨[(0, .v (Enc.sl (Enc.int .u8)) a0), (3, .v (Enc.int .u32) (4294967295 : Int))], []⟩) (J.cons (.none rfl) (JO.assign rfl) rfl rfl (J.fin (Sw.Sub.mk id (.cons rfl (.of_eq rfl) (.cons rfl (.of_eq rfl) .nil)) .nil rfl))) ?_
  refine W.seq ?_
  refine W.seq ?_
  refine W.reg (σ' := ⟨[(3, .v (Enc.int .u32) (4294967295 : Int)), (6, .v (Enc.sl (Enc.int .u8)) a0), (7, .v (Enc.int .i64) (a0.length : Int)), (8, .v (Enc.int .i64) (0 : Int))], []⟩) (J.cons (.none rfl) (JO.move rfl) rfl rfl (J.cons (.none rfl) (JO.len rfl Try.runUnderlying40) rfl rfl (J.cons (.none rfl) (JO.move rfl) rfl rfl (J.fin (Sw.Sub.mk id (.cons rfl (.of_eq rfl) (.cons rfl (.of_eq rfl) (.cons rfl (.of_eq rfl) (.cons rfl (.of_eq rfl) .nil)))) .nil rfl))))) ?_
  obtain ⟨o37, ho37, hb37, hr37⟩ := lp_elim h
  refine W.lp (σs := fun s25 : Int × Int => ⟨[(3, .v (Enc.int .u32) s25.1), (6, .v (Enc.sl (Enc.int .u8)) a0), (7, .v (Enc.int .i64) (a0.length : Int)), (8, .v (Enc.int .i64) s25.2)], []⟩) (fun x38 : Int => ⟨[(3, .v (Enc.int .u32) x38)], []⟩) ho37 (Sw.Sub.mk id (.cons rfl (.of_eq rfl) (.cons rfl (.of_eq rfl) (.cons rfl (.of_eq rfl) (.cons rfl (.of_eq rfl) .nil)))) .nil rfl) ?_ ?_
  · intro x38 hy
    have h := hb37 _ hy
    refine W.seq ?_
    refine W.reg (σ' := ⟨[(2, .v (Enc.int .u32) (bnot .u32 x38))], []⟩) (J.cons (.none rfl) (JO.move rfl) rfl rfl (J.cons (.none rfl) (JO.xor rfl) rfl rfl (J.cons (.none rfl) (JO.assign rfl) rfl rfl (J.fin (Sw.Sub.mk id (.cons rfl (.of_eq rfl) .nil) .nil rfl))))) ?_
    refine W.ret ?_
    obtain rfl := Option.some.inj h
    exact XQ.sub (σ' := ⟨[(2, .v (Enc.int .u32) (bnot .u32 x38))], []⟩) (Sw.Sub.mk id (.cons rfl (.of_eq rfl) .nil) .nil rfl) (XQ.ret1 hF noR rfl (RV.tmp rfl) .nil rfl)
  intro s25 r37 h
  refine W.seq ?_
  refine W.reg (σ' := ⟨[(3, .v (Enc.int .u32) s25.1), (6, .v (Enc.sl (Enc.int .u8)) a0), (7, .v (Enc.int .i64) (a0.length : Int)), (8, .v (Enc.int .i64) s25.2), (9, .v Enc.bool (cm .lss s25.2 (a0.length : Int)))], []⟩) (J.cons (.none rfl) (JO.cmp rfl rfl rfl) rfl rfl (J.fin (Sw.Sub.mk id (.cons rfl (.of_eq rfl) (.cons rfl (.of_eq rfl) (.cons rfl (.of_eq rfl) (.cons rfl (.of_eq rfl) (.cons rfl (.of_eq rfl) .nil))))) .nil rfl))) ?_
  refine W.seq ?_
  rcases Bool.eq_false_or_eq_true (cm .lss s25.2 (a0.length : Int)) with hc39 | hc39
  · replace h := cond_t hc39 h
    refine W.condT rfl hc39 ?_
    refine W.skip ?_
    refine W.seq ?_
    refine W.block ?_
    refine W.seq ?_
    obtain ⟨z40, hz40, h⟩ := bind_e h
    refine W.reg (σ' := ⟨[(3, .v (Enc.int .u32) s25.1), (5, .v (Enc.int .u8) z40), (6, .v (Enc.sl (Enc.int .u8)) a0), (7, .v (Enc.int .i64) (a0.length : Int)), (8, .v (Enc.int .i64) s25.2)], []⟩) (J.cons (.none rfl) (JO.idx hz40 rfl rfl Try.runUnderlying40 Try.sizeOf5) rfl rfl (J.cons (.none rfl) (JO.loadPst rfl Try.isAgg5 Try.sizeOf5) rfl rfl (J.cons (.none rfl) (JO.assign rfl) rfl rfl (J.fin (Sw.Sub.mk id (.cons rfl (.of_eq rfl) (.cons rfl (.of_eq rfl) (.cons rfl (.of_eq rfl) (.cons rfl (.of_eq rfl) (.cons rfl (.of_eq rfl) .nil))))) .nil rfl))))) ?_
    refine W.seq ?_
    refine W.reg (σ' := ⟨[(3, .v (Enc.int .u32) (ar .xor .u32 s25.1 z40)), (6, .v (Enc.sl (Enc.int .u8)) a0), (7, .v (Enc.int .i64) (a0.length : Int)), (8, .v (Enc.int .i64) s25.2)], []⟩) (J.cons (.none rfl) (JO.move rfl) rfl rfl (J.cons (.none rfl) (JO.move rfl) rfl rfl (J.cons (.none rfl) (JO.convUp Try.runUnderlying5 Try.runUnderlying61 rfl rfl) rfl rfl (J.cons (.none rfl) (JO.arith rfl rfl rfl) rfl rfl (J.cons (.none rfl) (JO.assign rfl) rfl rfl (J.fin (Sw.Sub.mk id (.cons rfl (.of_eq rfl) (.cons rfl (.of_eq rfl) (.cons rfl (.of_eq rfl) (.cons rfl (.of_eq rfl) .nil)))) .nil rfl))))))) ?_
    refine W.seq ?_
    refine W.reg (σ' := ⟨[(3, .v (Enc.int .u32) (ar .xor .u32 s25.1 z40)), (6, .v (Enc.sl (Enc.int .u8)) a0), (7, .v (Enc.int .i64) (a0.length : Int)), (8, .v (Enc.int .i64) s25.2), (16, .v (Enc.int .i64) (0 : Int))], []⟩) (J.cons (.none rfl) (JO.move rfl) rfl rfl (J.fin (Sw.Sub.mk id (.cons rfl (.of_eq rfl) (.cons rfl (.of_eq rfl) (.cons rfl (.of_eq rfl) (.cons rfl (.of_eq rfl) (.cons rfl (.of_eq rfl) .nil))))) .nil rfl))) ?_
    obtain ⟨o47, ho47, hb47, hr47⟩ := lp_elim h
    refine W.lp (σs := fun s45 : Int × Int => ⟨[(3, .v (Enc.int .u32) s45.1), (6, .v (Enc.sl (Enc.int .u8)) a0), (7, .v (Enc.int .i64) (a0.length : Int)), (8, .v (Enc.int .i64) s25.2), (16, .v (Enc.int .i64) s45.2)], []⟩) (fun x48 : Int => ⟨[(3, .v (Enc.int .u32) x48), (6, .v (Enc.sl (Enc.int .u8)) a0), (7, .v (Enc.int .i64) (a0.length : Int)), (8, .v (Enc.int .i64) s25.2)], []⟩) ho47 (Sw.Sub.mk id (.cons rfl (.of_eq rfl) (.cons rfl (.of_eq rfl) (.cons rfl (.of_eq rfl) (.cons rfl (.of_eq rfl) (.cons rfl (.of_eq rfl) .nil))))) .nil rfl) ?_ ?_
    · intro x48 hy
      have h := hb47 _ hy
      refine W.fall ?_
      refine W.reg (σ' := ⟨[(3, .v (Enc.int .u32) x48), (6, .v (Enc.sl (Enc.int .u8)) a0), (7, .v (Enc.int .i64) (a0.length : Int)), (8, .v (Enc.int .i64) (ar .add .i64 s25.2 (1 : Int)))], []⟩) (J.cons (.none rfl) (JO.arith rfl rfl rfl) rfl rfl (J.cons (.none rfl) (JO.move rfl) rfl rfl (J.fin (Sw.Sub.mk id (.cons rfl (.of_eq rfl) (.cons rfl (.of_eq rfl) (.cons rfl (.of_eq rfl) (.cons rfl (.of_eq rfl) .nil)))) .nil rfl)))) ?_
      obtain rfl := Option.some.inj h
      exact W.next (Sw.Sub.mk id (.cons rfl (.of_eq rfl) (.cons rfl (.of_eq rfl) (.cons rfl (.of_eq rfl) (.cons rfl (.of_eq rfl) .nil)))) .nil rfl)
    intro s45 r47 h
    refine W.seq ?_
    refine W.reg (σ' := ⟨[(3, .v (Enc.int .u32) s45.1), (6, .v (Enc.sl (Enc.int .u8)) a0), (7, .v (Enc.int .i64) (a0.length : Int)), (8, .v (Enc.int .i64) s25.2), (16, .v (Enc.int .i64) s45.2), (17, .v Enc.bool (cm .lss s45.2 (8 : Int)))], []⟩) (J.cons (.none rfl) (JO.cmp rfl rfl rfl) rfl rfl (J.fin (Sw.Sub.mk id (.cons rfl (.of_eq rfl) (.cons rfl (.of_eq rfl) (.cons rfl (.of_eq rfl) (.cons rfl (.of_eq rfl) (.cons rfl (.of_eq rfl) (.cons rfl (.of_eq rfl) .nil)))))) .nil rfl))) ?_
    refine W.seq ?_
    rcases Bool.eq_false_or_eq_true (cm .lss s45.2 (8 : Int)) with hc49 | hc49
    · replace h := cond_t hc49 h
      refine W.condT rfl hc49 ?_
      refine W.skip ?_
      refine W.seq ?_
      refine W.block ?_
      refine W.reg (σ' := ⟨[(3, .v (Enc.int .u32) (ar .xor .u32 (sh .shr .u32 s45.1 (1 : Int)) (ar .mul .u32 (3988292384 : Int) (ar .and .u32 s45.1 (1 : Int))))), (6, .v (Enc.sl (Enc.int .u8)) a0), (7, .v (Enc.int .i64) (a0.length : Int)), (8, .v (Enc.int .i64) s25.2), (16, .v (Enc.int .i64) s45.2)], []⟩) (J.cons (.none rfl) (JO.move rfl) rfl rfl (J.cons (.none rfl) (JO.shift (.inr rfl) (by decide) rfl rfl) rfl rfl (J.cons (.none rfl) (JO.move rfl) rfl rfl (J.cons (.none rfl) (JO.arith rfl rfl rfl) rfl rfl (J.cons (.none rfl) (JO.arith rfl rfl rfl) rfl rfl (J.cons (.none rfl) (JO.arith rfl rfl rfl) rfl rfl (J.cons (.none rfl) (JO.assign rfl) rfl rfl (J.fin (Sw.Sub.mk id (.cons rfl (.of_eq rfl) (.cons rfl (.of_eq rfl) (.cons rfl (.of_eq rfl) (.cons rfl (.of_eq rfl) (.cons rfl (.of_eq rfl) .nil))))) .nil rfl))))))))) ?_
      refine W.fall ?_
      refine W.reg (σ' := ⟨[(3, .v (Enc.int .u32) (ar .xor .u32 (sh .shr .u32 s45.1 (1 : Int)) (ar .mul .u32 (3988292384 : Int) (ar .and .u32 s45.1 (1 : Int))))), (6, .v (Enc.sl (Enc.int .u8)) a0), (7, .v (Enc.int .i64) (a0.length : Int)), (8, .v (Enc.int .i64) s25.2), (16, .v (Enc.int .i64) (ar .add .i64 s45.2 (1 : Int)))], []⟩) (J.cons (.none rfl) (JO.arith rfl rfl rfl) rfl rfl (J.cons (.none rfl) (JO.move rfl) rfl rfl (J.fin (Sw.Sub.mk id (.cons rfl (.of_eq rfl) (.cons rfl (.of_eq rfl) (.cons rfl (.of_eq rfl) (.cons rfl (.of_eq rfl) (.cons rfl (.of_eq rfl) .nil))))) .nil rfl)))) ?_
      obtain rfl := Option.some.inj h
      exact W.next (Sw.Sub.mk id (.cons rfl (.of_eq rfl) (.cons rfl (.of_eq rfl) (.cons rfl (.of_eq rfl) (.cons rfl (.of_eq rfl) (.cons rfl (.of_eq rfl) .nil))))) .nil rfl)
    · replace h := cond_f hc49 h
      refine W.condF rfl hc49 ?_
      refine W.exit ?_
      obtain rfl := Option.some.inj h
      exact XQ.brk (Sw.Sub.mk id (.cons rfl (.of_eq rfl) (.cons rfl (.of_eq rfl) (.cons rfl (.of_eq rfl) (.cons rfl (.of_eq rfl) .nil)))) .nil rfl)
  · replace h := cond_f hc39 h
    refine W.condF rfl hc39 ?_
    refine W.exit ?_
    obtain rfl := Option.some.inj h
    exact XQ.brk (Sw.Sub.mk id (.cons rfl (.of_eq rfl) .nil) .nil rfl)
set_option maxRecDepth 100000 in
set_option maxHeartbeats 4000000 in
theorem con_frame_Pack {a0 : (Int × (List Int) × (List Blk))} {r : (List Int) × (Option Int)} (h : m_frame_Pack a0 = some r) :
    Con Try.prog 23 [.v (Enc.pr (Enc.int .i64) (Enc.pr (Enc.sl (Enc.int .i64)) (Enc.sl eBlk))) a0] (.tup [.v (Enc.sl (Enc.int .u8)) r.1, .v (Enc.err ET) r.2]) [] := by
  refine Con.of Try.func23 rfl Try.ntmps23 rfl ?_
  intro S w hF
  unfold m_frame_Pack at h
  refine W.seq ?_
  refine W.reg (σ' := ⟨[(1, .ptr 101 0)], [(101, .box 38 [.v (Enc.int .i64) a0.1, .v (Enc.sl (Enc.int .i64)) a0.2.1, .v (Enc.sl eBlk) a0.2.2])]⟩) (J.cons (.none rfl) (JO.box 101 rfl (.prm (.one _ _) (.prm (.one _ _) (.one _ _))) rfl) rfl rfl (J.cons (.none rfl) (JO.assignNil (Enc.int .u8)) rfl rfl (J.cons (.none rfl) (JO.assignNilE ET) rfl rfl (J.fin (Sw.Sub.mk id (.cons rfl (.of_eq rfl) .nil) (.box rfl (.cons (.of_eq rfl) (.cons (.of_eq rfl) (.cons (.of_eq rfl) .nil))) .nil) rfl))))) ?_
  refine W.seq ?_
  refine W.seq ?_
  obtain ⟨v1, hv1, h⟩ := bind_e h
  refine W.reg (σ' := ⟨[(1, .ptr 101 0), (4, .v (Enc.err ET) v1)], [(101, .box 38 [.v (Enc.int .i64) a0.1, .v (Enc.sl (Enc.int .i64)) a0.2.1, .v (Enc.sl eBlk) a0.2.2])]⟩) (J.cons (.none rfl) (JO.loadAll rfl rfl (.prm (.one _ _) (.prm (.one _ _) (.one _ _))) Try.isAgg38 Try.sizeOf38) rfl rfl (J.cons (.none rfl) (JO.call0 (con_frame_Check hv1) Try.call24 (.cons (.dir rfl) .nil)) rfl rfl (J.cons (.none rfl) (JO.assign rfl) rfl rfl (J.fin (Sw.Sub.mk id (.cons rfl (.of_eq rfl) (.cons rfl (.of_eq rfl) .nil)) (.box rfl (.cons (.of_eq rfl) (.cons (.of_eq rfl) (.cons (.of_eq rfl) .nil))) .nil) rfl))))) ?_
  refine W.seq ?_
  refine W.reg (σ' := ⟨[(1, .ptr 101 0), (4, .v (Enc.err ET) v1), (14, .v Enc.bool (Option.isSome v1))], [(101, .box 38 [.v (Enc.int .i64) a0.1, .v (Enc.sl (Enc.int .i64)) a0.2.1, .v (Enc.sl eBlk) a0.2.2])]⟩) (J.cons (.none rfl) (JO.move rfl) rfl rfl (J.cons (.none rfl) (JO.errNe Try.runUnderlying29 rfl) rfl rfl (J.fin (Sw.Sub.mk id (.cons rfl (.of_eq rfl) (.cons rfl (.of_eq rfl) (.cons rfl (.of_eq rfl) .nil))) (.box rfl (.cons (.of_eq rfl) (.cons (.of_eq rfl) (.cons (.of_eq rfl) .nil))) .nil) rfl)))) ?_
  rcases Bool.eq_false_or_eq_true (Option.isSome v1) with hc2 | hc2
  · replace h := cond_t hc2 h
    refine W.condT rfl hc2 ?_
    refine W.seq ?_
    refine W.reg (σ' := ⟨[(2, .v (Enc.sl (Enc.int .u8)) ([] : (List Int))), (3, .v (Enc.err ET) v1)], []⟩) (J.cons (.none rfl) (JO.move rfl) rfl rfl (J.cons (.none rfl) (JO.assignNil (Enc.int .u8)) rfl rfl (J.cons (.none rfl) (JO.assign rfl) rfl rfl (J.fin (Sw.Sub.mk id (.cons rfl (.of_eq rfl) (.cons rfl (.of_eq rfl) .nil)) .nil rfl))))) ?_
    refine W.ret ?_
    obtain rfl := Option.some.inj h
    exact XQ.sub (σ' := ⟨[(2, .v (Enc.sl (Enc.int .u8)) ([] : (List Int))), (3, .v (Enc.err ET) v1)], []⟩) (Sw.Sub.mk id (.cons rfl (.of_eq rfl) (.cons rfl (.of_eq rfl) .nil)) .nil rfl) (XQ.ret2 hF noR rfl (RV.tmp rfl) (RV.tmp rfl) .nil rfl)
  · replace h := cond_f hc2 h
    refine W.condF rfl hc2 ?_
    refine W.skip ?_
    refine W.seq ?_
    refine W.reg (σ' := ⟨[(1, .ptr 101 0), (5, .ref 103)], [(101, .box 38 [.v (Enc.int .i64) a0.1, .v (Enc.sl (Enc.int .i64)) a0.2.1, .v (Enc.sl eBlk) a0.2.2]), (103, .arr 5 (Enc.int .u8) ([(ar .or .u8 (sh .shl .u8 (IntKind.wrap .u8 a0.1) (4 : Int)) (IntKind.wrap .u8 (a0.2.1.length : Int))), (IntKind.wrap .u8 (a0.2.2.length : Int))] : (List Int)))]⟩) (J.cons (.none rfl) (JO.fieldPtr 0 rfl Try.runUnderlying38 rfl Try.sizeOf3 rfl rfl) rfl rfl (J.cons (.none rfl) (JO.load rfl rfl rfl Try.isAgg3 Try.sizeOf3) rfl rfl (J.cons (.none rfl) (JO.conv Try.runUnderlying3 Try.runUnderlying5 rfl) rfl rfl (J.cons (.none rfl) (JO.shift (.inl rfl) (by decide) rfl rfl) rfl rfl (J.cons (.none rfl) (JO.fieldPtr 1 rfl Try.runUnderlying38 rfl Try.sizeOf36 rfl rfl) rfl rfl (J.cons (.none rfl) (JO.load rfl rfl rfl Try.isAgg36 Try.sizeOf36) rfl rfl (J.cons (.none rfl) (JO.len rfl Try.runUnderlying36) rfl rfl (J.cons (.none rfl) (JO.conv Try.runUnderlying3 Try.runUnderlying5 rfl) rfl rfl (J.cons (.none rfl) (JO.arith rfl rfl rfl) rfl rfl (J.cons (.none rfl) (JO.fieldPtr 2 rfl Try.runUnderlying38 rfl Try.sizeOf22 rfl rfl) rfl rfl (J.cons (.none rfl) (JO.load rfl rfl rfl Try.isAgg22 Try.sizeOf22) rfl rfl (J.cons (.none rfl) (JO.len rfl Try.runUnderlying22) rfl rfl (J.cons (.none rfl) (JO.conv Try.runUnderlying3 Try.runUnderlying5 rfl) rfl rfl (J.cons (.none rfl) (JO.litR (e := (Enc.int .u8)) 103 Try.runUnderlying40 Try.sizeOf5 Try.zeroValue5 rfl rfl rfl rfl (.cons (.dir rfl) (.cons (.dir rfl) .nil))) rfl rfl (J.cons (.none rfl) (JO.assign rfl) rfl rfl (J.fin (Sw.Sub.mk id (.cons rfl (.of_eq rfl) (.cons rfl (.of_eq rfl) .nil)) (.box rfl (.cons (.of_eq rfl) (.cons (.of_eq rfl) (.cons (.of_eq rfl) .nil))) (.arr rfl .nil)) rfl))))))))))))))))) ?_
    refine W.seq ?_
    refine W.seq ?_
    refine W.reg (σ' := ⟨[(1, .ptr 101 0), (5, .ref 103), (31, .v (Enc.sl (Enc.int .i64)) a0.2.1), (32, .v (Enc.int .i64) (a0.2.1.length : Int)), (33, .v (Enc.int .i64) (0 : Int))], [(101, .box 38 [.v (Enc.int .i64) a0.1, .v (Enc.sl (Enc.int .i64)) a0.2.1, .v (Enc.sl eBlk) a0.2.2]), (103, .arr 5 (Enc.int .u8) ([(ar .or .u8 (sh .shl .u8 (IntKind.wrap .u8 a0.1) (4 : Int)) (IntKind.wrap .u8 (a0.2.1.length : Int))), (IntKind.wrap .u8 (a0.2.2.length : Int))] : (List Int)))]⟩) (J.cons (.none rfl) (JO.fieldPtr 1 rfl Try.runUnderlying38 rfl Try.sizeOf36 rfl rfl) rfl rfl (J.cons (.none rfl) (JO.load rfl rfl rfl Try.isAgg36 Try.sizeOf36) rfl rfl (J.cons (.none rfl) (JO.len rfl Try.runUnderlying36) rfl rfl (J.cons (.none rfl) (JO.move rfl) rfl rfl (J.fin (Sw.Sub.mk id (.cons rfl (.of_eq rfl) (.cons rfl (.of_eq rfl) (.cons rfl (.of_eq rfl) (.cons rfl (.of_eq rfl) (.cons rfl (.of_eq rfl) .nil))))) (.box rfl (.cons (.of_eq rfl) (.cons (.of_eq rfl) (.cons (.of_eq rfl) .nil))) (.arr rfl .nil)) rfl)))))) ?_
    obtain ⟨o54, ho54, hb54, hr54⟩ := lp_elim h
    refine W.lp (σs := fun s37 : Int × (List Int) => ⟨[(1, .ptr 101 0), (5, .ref 125), (31, .v (Enc.sl (Enc.int .i64)) a0.2.1), (32, .v (Enc.int .i64) (a0.2.1.length : Int)), (33, .v (Enc.int .i64) s37.1)], [(101, .box 38 [.v (Enc.int .i64) a0.1, .v (Enc.sl (Enc.int .i64)) a0.2.1, .v (Enc.sl eBlk) a0.2.2]), (125, .arr 5 (Enc.int .u8) s37.2)]⟩) (fun x55 : (List Int) => ⟨[(1, .ptr 101 0), (5, .ref 125)], [(101, .box 38 [.v (Enc.int .i64) a0.1, .v (Enc.sl (Enc.int .i64)) a0.2.1, .v (Enc.sl eBlk) a0.2.2]), (125, .arr 5 (Enc.int .u8) x55)]⟩) ho54 (Sw.Sub.mk (rn [(101, 101), (125, 103)]) (.cons rfl (.of_eq rfl) (.cons rfl (.of_eq rfl) (.cons rfl (.of_eq rfl) (.cons rfl (.of_eq rfl) (.cons rfl (.of_eq rfl) .nil))))) (.box rfl (.cons (.of_eq rfl) (.cons (.of_eq rfl) (.cons (.of_eq rfl) .nil))) (.arr rfl .nil)) rfl) ?_ ?_
    · intro x55 hy
      have h := hb54 _ hy
      refine W.seq ?_
      refine W.seq ?_
      refine W.reg (σ' := ⟨[(5, .ref 125), (54, .v (Enc.sl eBlk) a0.2.2), (55, .v (Enc.int .i64) (a0.2.2.length : Int)), (56, .v (Enc.int .i64) (0 : Int))], [(125, .arr 5 (Enc.int .u8) x55)]⟩) (J.cons (.none rfl) (JO.fieldPtr 2 rfl Try.runUnderlying38 rfl Try.sizeOf22 rfl rfl) rfl rfl (J.cons (.none rfl) (JO.load rfl rfl rfl Try.isAgg22 Try.sizeOf22) rfl rfl (J.cons (.none rfl) (JO.len rfl Try.runUnderlying22) rfl rfl (J.cons (.none rfl) (JO.move rfl) rfl rfl (J.fin (Sw.Sub.mk id (.cons rfl (.of_eq rfl) (.cons rfl (.of_eq rfl) (.cons rfl (.of_eq rfl) (.cons rfl (.of_eq rfl) .nil)))) (.arr rfl .nil) rfl)))))) ?_
      obtain ⟨o84, ho84, hb84, hr84⟩ := lp_elim h
      refine W.lp (σs := fun s80 : Int × (List Int) => ⟨[(5, .ref 151), (54, .v (Enc.sl eBlk) a0.2.2), (55, .v (Enc.int .i64) (a0.2.2.length : Int)), (56, .v (Enc.int .i64) s80.1)], [(151, .arr 5 (Enc.int .u8) s80.2)]⟩) (fun x85 : (List Int) => ⟨[(5, .ref 151)], [(151, .arr 5 (Enc.int .u8) x85)]⟩) ho84 (Sw.Sub.mk (rn [(151, 125)]) (.cons rfl (.of_eq rfl) (.cons rfl (.of_eq rfl) (.cons rfl (.of_eq rfl) (.cons rfl (.of_eq rfl) .nil)))) (.arr rfl .nil) rfl) ?_ ?_
      · intro x85 hy
        have h := hb84 _ hy
        refine W.seq ?_
        obtain ⟨v89, hv89, h⟩ := bind_e h
        refine W.reg (σ' := ⟨[(5, .ref 151), (10, .v (Enc.int .u32) v89)], [(151, .arr 5 (Enc.int .u8) x85)]⟩) (J.cons (.none rfl) (JO.move rfl) rfl rfl (J.cons (.none rfl) (JO.callL0 (con_frame_Sum hv89) Try.call33 (.cons (.ref rfl rfl) .nil) FlatS.v) rfl rfl (J.cons (.none rfl) (JO.assign rfl) rfl rfl (J.fin (Sw.Sub.mk id (.cons rfl (.of_eq rfl) (.cons rfl (.of_eq rfl) .nil)) (.arr rfl .nil) rfl))))) ?_
        refine W.seq ?_
        obtain ⟨v90, hv90, h⟩ := bind_e h
        refine W.reg (σ' := ⟨[(2, .ref 157), (3, .v (Enc.err ET) (none : Option Int))], [(157, .arr 5 (Enc.int .u8) v90)]⟩) (J.cons (.none rfl) (JO.move rfl) rfl rfl (J.cons (.none rfl) (JO.move rfl) rfl rfl (J.cons (.none rfl) (JO.shift (.inr rfl) (by decide) rfl rfl) rfl rfl (J.cons (.none rfl) (JO.conv Try.runUnderlying61 Try.runUnderlying5 rfl) rfl rfl (J.cons (.none rfl) (JO.move rfl) rfl rfl (J.cons (.none rfl) (JO.shift (.inr rfl) (by decide) rfl rfl) rfl rfl (J.cons (.none rfl) (JO.conv Try.runUnderlying61 Try.runUnderlying5 rfl) rfl rfl (J.cons (.none rfl) (JO.move rfl) rfl rfl (J.cons (.none rfl) (JO.shift (.inr rfl) (by decide) rfl rfl) rfl rfl (J.cons (.none rfl) (JO.conv Try.runUnderlying61 Try.runUnderlying5 rfl) rfl rfl (J.cons (.none rfl) (JO.move rfl) rfl rfl (J.cons (.none rfl) (JO.conv Try.runUnderlying61 Try.runUnderlying5 rfl) rfl rfl (J.cons (.none rfl) (JO.lit (e := (Enc.int .u8)) Try.runUnderlying40 Try.sizeOf5 Try.zeroValue5 rfl rfl rfl rfl (.cons (.dir rfl) (.cons (.dir rfl) (.cons (.dir rfl) (.cons (.dir rfl) .nil))))) rfl rfl (J.mut (.none rfl) (JM.append 157 hv90 rfl rfl (.sl rfl) Try.runUnderlying40 Try.typeInfo5 Try.sizeOf5 rfl rfl rfl rfl rfl) (J.cons (.none rfl) (JO.assign rfl) rfl rfl (J.cons (.none rfl) (JO.assignNilE ET) rfl rfl (J.fin (Sw.Sub.mk id (.cons rfl (.of_eq rfl) (.cons rfl (.of_eq rfl) .nil)) (.arr rfl .nil) rfl)))))))))))))))))) ?_
        refine W.ret ?_
        obtain rfl := Option.some.inj h
        exact XQ.sub (σ' := ⟨[(2, .v (Enc.sl (Enc.int .u8)) v90), (3, .v (Enc.err ET) (none : Option Int))], []⟩) (Sw.Sub.mk id (.cons rfl (.frz rfl rfl) (.cons rfl (.of_eq rfl) .nil)) .nil rfl) (XQ.ret2 hF noR rfl (RV.tmp rfl) (RV.tmp rfl) .nil rfl)
      intro s80 r84 h
      refine W.seq ?_
      refine W.reg (σ' := ⟨[(5, .ref 151), (54, .v (Enc.sl eBlk) a0.2.2), (55, .v (Enc.int .i64) (a0.2.2.length : Int)), (56, .v (Enc.int .i64) s80.1), (57, .v Enc.bool (cm .lss s80.1 (a0.2.2.length : Int)))], [(151, .arr 5 (Enc.int .u8) s80.2)]⟩) (J.cons (.none rfl) (JO.cmp rfl rfl rfl) rfl rfl (J.fin (Sw.Sub.mk id (.cons rfl (.of_eq rfl) (.cons rfl (.of_eq rfl) (.cons rfl (.of_eq rfl) (.cons rfl (.of_eq rfl) (.cons rfl (.of_eq rfl) .nil))))) (.arr rfl .nil) rfl))) ?_
      refine W.seq ?_
      rcases Bool.eq_false_or_eq_true (cm .lss s80.1 (a0.2.2.length : Int)) with hc86 | hc86
      · replace h := cond_t hc86 h
        refine W.condT rfl hc86 ?_
        refine W.skip ?_
        refine W.seq ?_
        refine W.block ?_
        refine W.seq ?_
        obtain ⟨z87, hz87, h⟩ := bind_e h
        refine W.reg (σ' := ⟨[(5, .ref 151), (9, .ptr 154 0), (54, .v (Enc.sl eBlk) a0.2.2), (55, .v (Enc.int .i64) (a0.2.2.length : Int)), (56, .v (Enc.int .i64) s80.1)], [(151, .arr 5 (Enc.int .u8) s80.2), (154, .box 24 [.v eBlk z87])]⟩) (J.cons (.none rfl) (JO.idx hz87 rfl rfl Try.runUnderlying22 Try.sizeOf24) rfl rfl (J.cons (.none rfl) (JO.loadPst rfl Try.isAgg24 Try.sizeOf24) rfl rfl (J.cons (.none rfl) (JO.alloc 154 Try.zeroValue24 rfl (.cons (Z.arr 8 (Z.int .u8)) .nil) rfl) rfl rfl (J.mut (.none rfl) (JM.store rfl rfl rfl rfl rfl rfl rfl Try.sizeOf24) (J.fin (Sw.Sub.mk id (.cons rfl (.of_eq rfl) (.cons rfl (.of_eq rfl) (.cons rfl (.of_eq rfl) (.cons rfl (.of_eq rfl) (.cons rfl (.of_eq rfl) .nil))))) (.arr rfl (.box rfl (.cons (.of_eq rfl) .nil) .nil)) rfl)))))) ?_
        obtain ⟨v88, hv88, h⟩ := bind_e h
        refine W.reg (σ' := ⟨[(5, .ref 155), (54, .v (Enc.sl eBlk) a0.2.2), (55, .v (Enc.int .i64) (a0.2.2.length : Int)), (56, .v (Enc.int .i64) s80.1)], [(155, .arr 5 (Enc.int .u8) v88)]⟩) (J.cons (.none rfl) (JO.move rfl) rfl rfl (J.cons (.none rfl) (JO.aslAll rfl rfl rfl Try.runUnderlying24 Try.sizeOf5) rfl rfl (J.mut (.none rfl) (JM.append 155 hv88 rfl rfl (.asl rfl rfl rfl rfl) Try.runUnderlying40 Try.typeInfo5 Try.sizeOf5 rfl rfl rfl rfl rfl) (J.cons (.none rfl) (JO.assign rfl) rfl rfl (J.fin (Sw.Sub.mk id (.cons rfl (.of_eq rfl) (.cons rfl (.of_eq rfl) (.cons rfl (.of_eq rfl) (.cons rfl (.of_eq rfl) .nil)))) (.arr rfl .nil) rfl)))))) ?_
        refine W.fall ?_
        refine W.reg (σ' := ⟨[(5, .ref 155), (54, .v (Enc.sl eBlk) a0.2.2), (55, .v (Enc.int .i64) (a0.2.2.length : Int)), (56, .v (Enc.int .i64) (ar .add .i64 s80.1 (1 : Int)))], [(155, .arr 5 (Enc.int .u8) v88)]⟩) (J.cons (.none rfl) (JO.arith rfl rfl rfl) rfl rfl (J.cons (.none rfl) (JO.move rfl) rfl rfl (J.fin (Sw.Sub.mk id (.cons rfl (.of_eq rfl) (.cons rfl (.of_eq rfl) (.cons rfl (.of_eq rfl) (.cons rfl (.of_eq rfl) .nil)))) (.arr rfl .nil) rfl)))) ?_
        obtain rfl := Option.some.inj h
        exact W.next (Sw.Sub.mk (rn [(151, 155)]) (.cons rfl (.of_eq rfl) (.cons rfl (.of_eq rfl) (.cons rfl (.of_eq rfl) (.cons rfl (.of_eq rfl) .nil)))) (.arr rfl .nil) rfl)
      · replace h := cond_f hc86 h
        refine W.condF rfl hc86 ?_
        refine W.exit ?_
        obtain rfl := Option.some.inj h
        exact XQ.brk (Sw.Sub.mk id (.cons rfl (.of_eq rfl) .nil) (.arr rfl .nil) rfl)
    intro s37 r54 h
    refine W.seq ?_
    refine W.reg (σ' := ⟨[(1, .ptr 101 0), (5, .ref 125), (31, .v (Enc.sl (Enc.int .i64)) a0.2.1), (32, .v (Enc.int .i64) (a0.2.1.length : Int)), (33, .v (Enc.int .i64) s37.1), (34, .v Enc.bool (cm .lss s37.1 (a0.2.1.length : Int)))], [(101, .box 38 [.v (Enc.int .i64) a0.1, .v (Enc.sl (Enc.int .i64)) a0.2.1, .v (Enc.sl eBlk) a0.2.2]), (125, .arr 5 (Enc.int .u8) s37.2)]⟩) (J.cons (.none rfl) (JO.cmp rfl rfl rfl) rfl rfl (J.fin (Sw.Sub.mk id (.cons rfl (.of_eq rfl) (.cons rfl (.of_eq rfl) (.cons rfl (.of_eq rfl) (.cons rfl (.of_eq rfl) (.cons rfl (.of_eq rfl) (.cons rfl (.of_eq rfl) .nil)))))) (.box rfl (.cons (.of_eq rfl) (.cons (.of_eq rfl) (.cons (.of_eq rfl) .nil))) (.arr rfl .nil)) rfl))) ?_
    refine W.seq ?_
    rcases Bool.eq_false_or_eq_true (cm .lss s37.1 (a0.2.1.length : Int)) with hc56 | hc56
    · replace h := cond_t hc56 h
      refine W.condT rfl hc56 ?_
      refine W.skip ?_
      refine W.seq ?_
      refine W.block ?_
      refine W.seq ?_
      obtain ⟨z57, hz57, h⟩ := bind_e h
      refine W.reg (σ' := ⟨[(1, .ptr 101 0), (5, .ref 125), (7, .v (Enc.int .i64) z57), (31, .v (Enc.sl (Enc.int .i64)) a0.2.1), (32, .v (Enc.int .i64) (a0.2.1.length : Int)), (33, .v (Enc.int .i64) s37.1)], [(101, .box 38 [.v (Enc.int .i64) a0.1, .v (Enc.sl (Enc.int .i64)) a0.2.1, .v (Enc.sl eBlk) a0.2.2]), (125, .arr 5 (Enc.int .u8) s37.2)]⟩) (J.cons (.none rfl) (JO.idx hz57 rfl rfl Try.runUnderlying36 Try.sizeOf3) rfl rfl (J.cons (.none rfl) (JO.loadPst rfl Try.isAgg3 Try.sizeOf3) rfl rfl (J.cons (.none rfl) (JO.assign rfl) rfl rfl (J.fin (Sw.Sub.mk id (.cons rfl (.of_eq rfl) (.cons rfl (.of_eq rfl) (.cons rfl (.of_eq rfl) (.cons rfl (.of_eq rfl) (.cons rfl (.of_eq rfl) (.cons rfl (.of_eq rfl) .nil)))))) (.box rfl (.cons (.of_eq rfl) (.cons (.of_eq rfl) (.cons (.of_eq rfl) .nil))) (.arr rfl .nil)) rfl))))) ?_
      refine W.seq ?_
      obtain ⟨o67, ho67, hb67, hr67⟩ := lp_elim h
      refine W.lp (σs := fun s64 : Int × (List Int) => ⟨[(1, .ptr 101 0), (5, .ref 140), (7, .v (Enc.int .i64) s64.1), (31, .v (Enc.sl (Enc.int .i64)) a0.2.1), (32, .v (Enc.int .i64) (a0.2.1.length : Int)), (33, .v (Enc.int .i64) s37.1)], [(101, .box 38 [.v (Enc.int .i64) a0.1, .v (Enc.sl (Enc.int .i64)) a0.2.1, .v (Enc.sl eBlk) a0.2.2]), (140, .arr 5 (Enc.int .u8) s64.2)]⟩) (fun x68 : Int × (List Int) => ⟨[(1, .ptr 101 0), (5, .ref 140), (7, .v (Enc.int .i64) x68.1), (31, .v (Enc.sl (Enc.int .i64)) a0.2.1), (32, .v (Enc.int .i64) (a0.2.1.length : Int)), (33, .v (Enc.int .i64) s37.1)], [(101, .box 38 [.v (Enc.int .i64) a0.1, .v (Enc.sl (Enc.int .i64)) a0.2.1, .v (Enc.sl eBlk) a0.2.2]), (140, .arr 5 (Enc.int .u8) x68.2)]⟩) ho67 (Sw.Sub.mk (rn [(101, 101), (140, 125)]) (.cons rfl (.of_eq rfl) (.cons rfl (.of_eq rfl) (.cons rfl (.of_eq rfl) (.cons rfl (.of_eq rfl) (.cons rfl (.of_eq rfl) (.cons rfl (.of_eq rfl) .nil)))))) (.box rfl (.cons (.of_eq rfl) (.cons (.of_eq rfl) (.cons (.of_eq rfl) .nil))) (.arr rfl .nil)) rfl) ?_ ?_
      · intro x68 hy
        have h := hb67 _ hy
        obtain ⟨v71, hv71, h⟩ := bind_e h
        refine W.reg (σ' := ⟨[(1, .ptr 101 0), (5, .ref 143), (31, .v (Enc.sl (Enc.int .i64)) a0.2.1), (32, .v (Enc.int .i64) (a0.2.1.length : Int)), (33, .v (Enc.int .i64) s37.1)], [(101, .box 38 [.v (Enc.int .i64) a0.1, .v (Enc.sl (Enc.int .i64)) a0.2.1, .v (Enc.sl eBlk) a0.2.2]), (143, .arr 5 (Enc.int .u8) v71)]⟩) (J.cons (.none rfl) (JO.move rfl) rfl rfl (J.cons (.none rfl) (JO.move rfl) rfl rfl (J.cons (.none rfl) (JO.conv Try.runUnderlying3 Try.runUnderlying5 rfl) rfl rfl (J.cons (.none rfl) (JO.lit (e := (Enc.int .u8)) Try.runUnderlying40 Try.sizeOf5 Try.zeroValue5 rfl rfl rfl rfl (.cons (.dir rfl) .nil)) rfl rfl (J.mut (.none rfl) (JM.append 143 hv71 rfl rfl (.sl rfl) Try.runUnderlying40 Try.typeInfo5 Try.sizeOf5 rfl rfl rfl rfl rfl) (J.cons (.none rfl) (JO.assign rfl) rfl rfl (J.fin (Sw.Sub.mk id (.cons rfl (.of_eq rfl) (.cons rfl (.of_eq rfl) (.cons rfl (.of_eq rfl) (.cons rfl (.of_eq rfl) (.cons rfl (.of_eq rfl) .nil))))) (.box rfl (.cons (.of_eq rfl) (.cons (.of_eq rfl) (.cons (.of_eq rfl) .nil))) (.arr rfl .nil)) rfl)))))))) ?_
        refine W.fall ?_
        refine W.reg (σ' := ⟨[(1, .ptr 101 0), (5, .ref 143), (31, .v (Enc.sl (Enc.int .i64)) a0.2.1), (32, .v (Enc.int .i64) (a0.2.1.length : Int)), (33, .v (Enc.int .i64) (ar .add .i64 s37.1 (1 : Int)))], [(101, .box 38 [.v (Enc.int .i64) a0.1, .v (Enc.sl (Enc.int .i64)) a0.2.1, .v (Enc.sl eBlk) a0.2.2]), (143, .arr 5 (Enc.int .u8) v71)]⟩) (J.cons (.none rfl) (JO.arith rfl rfl rfl) rfl rfl (J.cons (.none rfl) (JO.move rfl) rfl rfl (J.fin (Sw.Sub.mk id (.cons rfl (.of_eq rfl) (.cons rfl (.of_eq rfl) (.cons rfl (.of_eq rfl) (.cons rfl (.of_eq rfl) (.cons rfl (.of_eq rfl) .nil))))) (.box rfl (.cons (.of_eq rfl) (.cons (.of_eq rfl) (.cons (.of_eq rfl) .nil))) (.arr rfl .nil)) rfl)))) ?_
        obtain rfl := Option.some.inj h
        exact W.next (Sw.Sub.mk (rn [(101, 101), (125, 143)]) (.cons rfl (.of_eq rfl) (.cons rfl (.of_eq rfl) (.cons rfl (.of_eq rfl) (.cons rfl (.of_eq rfl) (.cons rfl (.of_eq rfl) .nil))))) (.box rfl (.cons (.of_eq rfl) (.cons (.of_eq rfl) (.cons (.of_eq rfl) .nil))) (.arr rfl .nil)) rfl)
      intro s64 r67 h
      refine W.seq ?_
      refine W.seq ?_
      refine W.reg (σ' := ⟨[(1, .ptr 101 0), (5, .ref 140), (7, .v (Enc.int .i64) s64.1), (31, .v (Enc.sl (Enc.int .i64)) a0.2.1), (32, .v (Enc.int .i64) (a0.2.1.length : Int)), (33, .v (Enc.int .i64) s37.1), (38, .v Enc.bool (cm .gtr s64.1 (127 : Int)))], [(101, .box 38 [.v (Enc.int .i64) a0.1, .v (Enc.sl (Enc.int .i64)) a0.2.1, .v (Enc.sl eBlk) a0.2.2]), (140, .arr 5 (Enc.int .u8) s64.2)]⟩) (J.cons (.none rfl) (JO.move rfl) rfl rfl (J.cons (.none rfl) (JO.cmp rfl rfl rfl) rfl rfl (J.fin (Sw.Sub.mk id (.cons rfl (.of_eq rfl) (.cons rfl (.of_eq rfl) (.cons rfl (.of_eq rfl) (.cons rfl (.of_eq rfl) (.cons rfl (.of_eq rfl) (.cons rfl (.of_eq rfl) (.cons rfl (.of_eq rfl) .nil))))))) (.box rfl (.cons (.of_eq rfl) (.cons (.of_eq rfl) (.cons (.of_eq rfl) .nil))) (.arr rfl .nil)) rfl)))) ?_
      rcases Bool.eq_false_or_eq_true (cm .gtr s64.1 (127 : Int)) with hc69 | hc69
      · replace h := cond_t hc69 h
        refine W.condT rfl hc69 ?_
        refine W.skip ?_
        refine W.seq ?_
        refine W.block ?_
        obtain ⟨v70, hv70, h⟩ := bind_e h
        refine W.reg (σ' := ⟨[(1, .ptr 101 0), (5, .ref 142), (7, .v (Enc.int .i64) s64.1), (31, .v (Enc.sl (Enc.int .i64)) a0.2.1), (32, .v (Enc.int .i64) (a0.2.1.length : Int)), (33, .v (Enc.int .i64) s37.1)], [(101, .box 38 [.v (Enc.int .i64) a0.1, .v (Enc.sl (Enc.int .i64)) a0.2.1, .v (Enc.sl eBlk) a0.2.2]), (142, .arr 5 (Enc.int .u8) v70)]⟩) (J.cons (.none rfl) (JO.move rfl) rfl rfl (J.cons (.none rfl) (JO.move rfl) rfl rfl (J.cons (.none rfl) (JO.conv Try.runUnderlying3 Try.runUnderlying5 rfl) rfl rfl (J.cons (.none rfl) (JO.arith rfl rfl rfl) rfl rfl (J.cons (.none rfl) (JO.lit (e := (Enc.int .u8)) Try.runUnderlying40 Try.sizeOf5 Try.zeroValue5 rfl rfl rfl rfl (.cons (.dir rfl) .nil)) rfl rfl (J.mut (.none rfl) (JM.append 142 hv70 rfl rfl (.sl rfl) Try.runUnderlying40 Try.typeInfo5 Try.sizeOf5 rfl rfl rfl rfl rfl) (J.cons (.none rfl) (JO.assign rfl) rfl rfl (J.fin (Sw.Sub.mk id (.cons rfl (.of_eq rfl) (.cons rfl (.of_eq rfl) (.cons rfl (.of_eq rfl) (.cons rfl (.of_eq rfl) (.cons rfl (.of_eq rfl) (.cons rfl (.of_eq rfl) .nil)))))) (.box rfl (.cons (.of_eq rfl) (.cons (.of_eq rfl) (.cons (.of_eq rfl) .nil))) (.arr rfl .nil)) rfl))))))))) ?_
        refine W.fall ?_
        refine W.reg (σ' := ⟨[(1, .ptr 101 0), (5, .ref 142), (7, .v (Enc.int .i64) (sh .shr .i64 s64.1 (7 : Int))), (31, .v (Enc.sl (Enc.int .i64)) a0.2.1), (32, .v (Enc.int .i64) (a0.2.1.length : Int)), (33, .v (Enc.int .i64) s37.1)], [(101, .box 38 [.v (Enc.int .i64) a0.1, .v (Enc.sl (Enc.int .i64)) a0.2.1, .v (Enc.sl eBlk) a0.2.2]), (142, .arr 5 (Enc.int .u8) v70)]⟩) (J.cons (.none rfl) (JO.move rfl) rfl rfl (J.cons (.none rfl) (JO.shift (.inr rfl) (by decide) rfl rfl) rfl rfl (J.cons (.none rfl) (JO.assign rfl) rfl rfl (J.fin (Sw.Sub.mk id (.cons rfl (.of_eq rfl) (.cons rfl (.of_eq rfl) (.cons rfl (.of_eq rfl) (.cons rfl (.of_eq rfl) (.cons rfl (.of_eq rfl) (.cons rfl (.of_eq rfl) .nil)))))) (.box rfl (.cons (.of_eq rfl) (.cons (.of_eq rfl) (.cons (.of_eq rfl) .nil))) (.arr rfl .nil)) rfl))))) ?_
        obtain rfl := Option.some.inj h
        exact W.next (Sw.Sub.mk (rn [(101, 101), (140, 142)]) (.cons rfl (.of_eq rfl) (.cons rfl (.of_eq rfl) (.cons rfl (.of_eq rfl) (.cons rfl (.of_eq rfl) (.cons rfl (.of_eq rfl) (.cons rfl (.of_eq rfl) .nil)))))) (.box rfl (.cons (.of_eq rfl) (.cons (.of_eq rfl) (.cons (.of_eq rfl) .nil))) (.arr rfl .nil)) rfl)
      · replace h := cond_f hc69 h
        refine W.condF rfl hc69 ?_
        refine W.exit ?_
        obtain rfl := Option.some.inj h
        exact XQ.brk (Sw.Sub.mk id (.cons rfl (.of_eq rfl) (.cons rfl (.of_eq rfl) (.cons rfl (.of_eq rfl) (.cons rfl (.of_eq rfl) (.cons rfl (.of_eq rfl) (.cons rfl (.of_eq rfl) .nil)))))) (.box rfl (.cons (.of_eq rfl) (.cons (.of_eq rfl) (.cons (.of_eq rfl) .nil))) (.arr rfl .nil)) rfl)
    · replace h := cond_f hc56 h
      refine W.condF rfl hc56 ?_
      refine W.exit ?_
      obtain rfl := Option.some.inj h
      exact XQ.brk (Sw.Sub.mk id (.cons rfl (.of_eq rfl) (.cons rfl (.of_eq rfl) .nil)) (.box rfl (.cons (.of_eq rfl) (.cons (.of_eq rfl) (.cons (.of_eq rfl) .nil))) (.arr rfl .nil)) rfl)
set_option maxRecDepth 100000 in
set_option maxHeartbeats 4000000 in
theorem con_ref_Is {a0 : (Option Int)} {a1 : Int} {r : Bool} (h : m_ref_Is a0 a1 = some r) :
    Con Try.prog 18 [.v (Enc.err ET) a0, .v (Enc.int .i64) a1] (.v Enc.bool r) [] := by
  refine Con.of Try.func18 rfl Try.ntmps18 rfl ?_
  intro S w hF
  unfold m_ref_Is at h
  refine W.seq ?_
  refine W.reg (σ' := ⟨[(0, .v (Enc.err ET) a0), (1, .v (Enc.int .i64) a1)], []⟩) (J.cons (.none rfl) (JO.assign rfl) rfl rfl (J.fin (Sw.Sub.mk id (.cons rfl (.of_eq rfl) (.cons rfl (.of_eq rfl) .nil)) .nil rfl))) ?_
  refine W.seq ?_
  refine W.seq ?_
  refine W.reg (σ' := ⟨[(0, .v (Enc.err ET) a0), (1, .v (Enc.int .i64) a1), (6, .v Enc.bool (Option.isNone a0))], []⟩) (J.cons (.none rfl) (JO.move rfl) rfl rfl (J.cons (.none rfl) (JO.errEq Try.runUnderlying29 rfl) rfl rfl (J.fin (Sw.Sub.mk id (.cons rfl (.of_eq rfl) (.cons rfl (.of_eq rfl) (.cons rfl (.of_eq rfl) .nil))) .nil rfl)))) ?_
  rcases Bool.eq_false_or_eq_true (Option.isNone a0) with hc1 | hc1
  · replace h := cond_t hc1 h
    refine W.condT rfl hc1 ?_
    refine W.seq ?_
    refine W.reg (σ' := ⟨[(4, .v Enc.bool (cm .eql a1 (0 : Int)))], []⟩) (J.cons (.none rfl) (JO.move rfl) rfl rfl (J.cons (.none rfl) (JO.cmp rfl rfl rfl) rfl rfl (J.cons (.none rfl) (JO.assign rfl) rfl rfl (J.fin (Sw.Sub.mk id (.cons rfl (.of_eq rfl) .nil) .nil rfl))))) ?_
    refine W.ret ?_
    obtain rfl := Option.some.inj h
    exact XQ.sub (σ' := ⟨[(4, .v Enc.bool (cm .eql a1 (0 : Int)))], []⟩) (Sw.Sub.mk id (.cons rfl (.of_eq rfl) .nil) .nil rfl) (XQ.ret1 hF noR rfl (RV.tmp rfl) .nil rfl)
  · replace h := cond_f hc1 h
    refine W.condF rfl hc1 ?_
    refine W.skip ?_
    refine W.seq ?_
    obtain ⟨x3, hx, h⟩ := bind_e h
    refine W.reg (σ' := ⟨[(4, .v Enc.bool x3)], []⟩) ?_ ?_
    · rcases Bool.eq_false_or_eq_true (cm .neq a1 (0 : Int)) with hc4 | hc4
      · replace hx := cond_t hc4 hx
        obtain rfl := Option.some.inj hx
        exact (J.cons (.none rfl) (JO.move rfl) rfl rfl (J.cons (.none rfl) (JO.cmp rfl rfl rfl) rfl rfl (J.cons (.none rfl) (JO.move rfl) rfl rfl (J.cons (GK.met 11 rfl rfl rfl hc4) (JO.move rfl) rfl rfl (J.cons (GK.met 11 rfl rfl rfl hc4) (JO.move rfl) rfl rfl (J.cons (GK.met 11 rfl rfl rfl hc4) (JO.mkErr Try.runUnderlying25 rfl) rfl rfl (J.cons (GK.met 11 rfl rfl rfl hc4) (JO.errEq2 Try.runUnderlying29 Try.runUnderlying25 Try.typeInfo25 rfl rfl rfl) rfl rfl (J.cons (.none rfl) (JO.pT hc4 rfl rfl) rfl rfl (J.cons (.none rfl) (JO.assign rfl) rfl rfl (J.fin (Sw.Sub.mk id (.cons rfl (.of_eq rfl) .nil) .nil rfl)))))))))))
      · replace hx := cond_f hc4 hx
        obtain rfl := Option.some.inj hx
        exact (J.cons (.none rfl) (JO.move rfl) rfl rfl (J.cons (.none rfl) (JO.cmp rfl rfl rfl) rfl rfl (J.cons (.none rfl) (JO.move rfl) rfl rfl (J.left (GK.unmet 11 rfl rfl rfl hc4) rfl (J.left (GK.unmet 11 rfl rfl rfl hc4) rfl (J.left (GK.unmet 11 rfl rfl rfl hc4) rfl (J.left (GK.unmet 11 rfl rfl rfl hc4) rfl (J.cons (.none rfl) (JO.pF hc4 rfl rfl) rfl rfl (J.cons (.none rfl) (JO.assign rfl) rfl rfl (J.fin (Sw.Sub.mk id (.cons rfl (.of_eq rfl) .nil) .nil rfl)))))))))))
    refine W.ret ?_
    obtain rfl := Option.some.inj h
    exact XQ.sub (σ' := ⟨[(4, .v Enc.bool x3)], []⟩) (Sw.Sub.mk id (.cons rfl (.of_eq rfl) .nil) .nil rfl) (XQ.ret1 hF noR rfl (RV.tmp rfl) .nil rfl)
set_option maxRecDepth 100000 in
set_option maxHeartbeats 4000000 in
theorem con_ref_SameBytes {a0 : (List Int)} {a1 : (List Int)} {r : Bool} (h : m_ref_SameBytes a0 a1 = some r) :
    Con Try.prog 25 [.v (Enc.sl (Enc.int .u8)) a0, .v (Enc.sl (Enc.int .u8)) a1] (.v Enc.bool r) [] := by
  refine Con.of Try.func25 rfl Try.ntmps25 rfl ?_
  intro S w hF
  unfold m_ref_SameBytes at h
  refine W.seq ?_
  refine W.reg (σ' := ⟨[(0, .v (Enc.sl (Enc.int .u8)) a0), (1, .v (Enc.sl (Enc.int .u8)) a1)], []⟩) (J.cons (.none rfl) (JO.assign rfl) rfl rfl (J.fin (Sw.Sub.mk id (.cons rfl (.of_eq rfl) (.cons rfl (.of_eq rfl) .nil)) .nil rfl))) ?_
  refine W.seq ?_
  refine W.seq ?_
  refine W.reg (σ' := ⟨[(0, .v (Enc.sl (Enc.int .u8)) a0), (1, .v (Enc.sl (Enc.int .u8)) a1), (10, .v Enc.bool (cm .neq (a0.length : Int) (a1.length : Int)))], []⟩) (J.cons (.none rfl) (JO.move rfl) rfl rfl (J.cons (.none rfl) (JO.len rfl Try.runUnderlying40) rfl rfl (J.cons (.none rfl) (JO.move rfl) rfl rfl (J.cons (.none rfl) (JO.len rfl Try.runUnderlying40) rfl rfl (J.cons (.none rfl) (JO.cmp rfl rfl rfl) rfl rfl (J.fin (Sw.Sub.mk id (.cons rfl (.of_eq rfl) (.cons rfl (.of_eq rfl) (.cons rfl (.of_eq rfl) .nil))) .nil rfl))))))) ?_
  rcases Bool.eq_false_or_eq_true (cm .neq (a0.length : Int) (a1.length : Int)) with hc1 | hc1
  · replace h := cond_t hc1 h
    refine W.condT rfl hc1 ?_
    refine W.seq ?_
    refine W.reg (σ' := ⟨[(4, .v Enc.bool false)], []⟩) (J.cons (.none rfl) (JO.assign rfl) rfl rfl (J.fin (Sw.Sub.mk id (.cons rfl (.of_eq rfl) .nil) .nil rfl))) ?_
    refine W.ret ?_
    obtain rfl := Option.some.inj h
    exact XQ.sub (σ' := ⟨[(4, .v Enc.bool false)], []⟩) (Sw.Sub.mk id (.cons rfl (.of_eq rfl) .nil) .nil rfl) (XQ.ret1 hF noR rfl (RV.tmp rfl) .nil rfl)
  · replace h := cond_f hc1 h
    refine W.condF rfl hc1 ?_
    refine W.skip ?_
    refine W.seq ?_
    refine W.seq ?_
    refine W.reg (σ' := ⟨[(0, .v (Enc.sl (Enc.int .u8)) a0), (1, .v (Enc.sl (Enc.int .u8)) a1), (5, .v (Enc.int .i64) (0 : Int))], []⟩) (J.cons (.none rfl) (JO.assign rfl) rfl rfl (J.fin (Sw.Sub.mk id (.cons rfl (.of_eq rfl) (.cons rfl (.of_eq rfl) (.cons rfl (.of_eq rfl) .nil))) .nil rfl))) ?_
    obtain ⟨o17, ho17, hb17, hr17⟩ := lp_elim h
    refine W.lp (σs := fun s12 : Int => ⟨[(0, .v (Enc.sl (Enc.int .u8)) a0), (1, .v (Enc.sl (Enc.int .u8)) a1), (5, .v (Enc.int .i64) s12)], []⟩) (fun x18 : Unit => ⟨[], []⟩) ho17 (Sw.Sub.mk id (.cons rfl (.of_eq rfl) (.cons rfl (.of_eq rfl) (.cons rfl (.of_eq rfl) .nil))) .nil rfl) ?_ ?_
    · intro x18 hy
      have h := hb17 _ hy
      refine W.seq ?_
      refine W.reg (σ' := ⟨[(4, .v Enc.bool true)], []⟩) (J.cons (.none rfl) (JO.assign rfl) rfl rfl (J.fin (Sw.Sub.mk id (.cons rfl (.of_eq rfl) .nil) .nil rfl))) ?_
      refine W.ret ?_
      obtain rfl := Option.some.inj h
      exact XQ.sub (σ' := ⟨[(4, .v Enc.bool true)], []⟩) (Sw.Sub.mk id (.cons rfl (.of_eq rfl) .nil) .nil rfl) (XQ.ret1 hF noR rfl (RV.tmp rfl) .nil rfl)
    intro s12 r17 h
    refine W.seq ?_
    refine W.seq ?_
    refine W.reg (σ' := ⟨[(0, .v (Enc.sl (Enc.int .u8)) a0), (1, .v (Enc.sl (Enc.int .u8)) a1), (5, .v (Enc.int .i64) s12), (14, .v Enc.bool (cm .lss s12 (a0.length : Int)))], []⟩) (J.cons (.none rfl) (JO.move rfl) rfl rfl (J.cons (.none rfl) (JO.move rfl) rfl rfl (J.cons (.none rfl) (JO.len rfl Try.runUnderlying40) rfl rfl (J.cons (.none rfl) (JO.cmp rfl rfl rfl) rfl rfl (J.fin (Sw.Sub.mk id (.cons rfl (.of_eq rfl) (.cons rfl (.of_eq rfl) (.cons rfl (.of_eq rfl) (.cons rfl (.of_eq rfl) .nil)))) .nil rfl)))))) ?_
    rcases Bool.eq_false_or_eq_true (cm .lss s12 (a0.length : Int)) with hc19 | hc19
    · replace h := cond_t hc19 h
      refine W.condT rfl hc19 ?_
      refine W.skip ?_
      refine W.seq ?_
      refine W.block ?_
      refine W.seq ?_
      obtain ⟨z20, hz20, h⟩ := bind_e h
      obtain ⟨z21, hz21, h⟩ := bind_e h
      refine W.dr (σ' := ⟨[(0, .v (Enc.sl (Enc.int .u8)) a0), (1, .v (Enc.sl (Enc.int .u8)) a1), (5, .v (Enc.int .i64) s12), (25, .v Enc.bool (cm .neq z20 z21))], []⟩) 9 mixed (by exact (.cons (.none rfl) (JO.move rfl) rfl rfl (.cons (.none rfl) (JO.move rfl) rfl rfl (.cons (.none rfl) (JO.idx hz20 rfl rfl Try.runUnderlying40 Try.sizeOf5) rfl rfl (.cons (.none rfl) (JO.loadPst rfl Try.isAgg5 Try.sizeOf5) rfl rfl (.cons (.none rfl) (JO.move rfl) rfl rfl (.cons (.none rfl) (JO.move rfl) rfl rfl (.cons (.none rfl) (JO.idx hz21 rfl rfl Try.runUnderlying40 Try.sizeOf5) rfl rfl (.cons (.none rfl) (JO.loadPst rfl Try.isAgg5 Try.sizeOf5) rfl rfl (.cons (.none rfl) (JO.cmp rfl rfl rfl) rfl rfl .nil)))))))))) (by exact (J.fin (Sw.Sub.mk id (.cons rfl (.of_eq rfl) (.cons rfl (.of_eq rfl) (.cons rfl (.of_eq rfl) (.cons rfl (.of_eq rfl) .nil)))) .nil rfl))) (by decide +kernel) (by decide +kernel) (by decide +kernel) ?_
      rcases Bool.eq_false_or_eq_true (cm .neq z20 z21) with hc22 | hc22
      · replace h := cond_t hc22 h
        refine W.condT rfl hc22 ?_
        refine W.seq ?_
        refine W.reg (σ' := ⟨[(4, .v Enc.bool false)], []⟩) (J.cons (.none rfl) (JO.assign rfl) rfl rfl (J.fin (Sw.Sub.mk id (.cons rfl (.of_eq rfl) .nil) .nil rfl))) ?_
        refine W.ret ?_
        refine XQ.ret ?_
        obtain rfl := Option.some.inj h
        refine XQ.lret fun ho => ?_
        obtain rfl := hr17 _ ho
        exact XQ.sub (σ' := ⟨[(4, .v Enc.bool false)], []⟩) (Sw.Sub.mk id (.cons rfl (.of_eq rfl) .nil) .nil rfl) (XQ.ret1 hF noR rfl (RV.tmp rfl) .nil rfl)
      · replace h := cond_f hc22 h
        refine W.condF rfl hc22 ?_
        refine W.skip ?_
        refine W.fall ?_
        refine W.reg (σ' := ⟨[(0, .v (Enc.sl (Enc.int .u8)) a0), (1, .v (Enc.sl (Enc.int .u8)) a1), (5, .v (Enc.int .i64) (ar .add .i64 s12 (1 : Int)))], []⟩) (J.cons (.none rfl) (JO.move rfl) rfl rfl (J.cons (.none rfl) (JO.arith rfl rfl rfl) rfl rfl (J.cons (.none rfl) (JO.assign rfl) rfl rfl (J.fin (Sw.Sub.mk id (.cons rfl (.of_eq rfl) (.cons rfl (.of_eq rfl) (.cons rfl (.of_eq rfl) .nil))) .nil rfl))))) ?_
        obtain rfl := Option.some.inj h
        exact W.next (Sw.Sub.mk id (.cons rfl (.of_eq rfl) (.cons rfl (.of_eq rfl) (.cons rfl (.of_eq rfl) .nil))) .nil rfl)
    · replace h := cond_f hc19 h
      refine W.condF rfl hc19 ?_
      refine W.exit ?_
      obtain rfl := Option.some.inj h
      exact XQ.brk (Sw.Sub.mk id .nil .nil rfl)
set_option maxRecDepth 100000 in
set_option maxHeartbeats 4000000 in
theorem con_law_FrameSays {a0 : (Int × (List Int) × (List Blk))} {r : Bool} (h : m_law_FrameSays a0 = some r) :
    Con Try.prog 4 [.v (Enc.pr (Enc.int .i64) (Enc.pr (Enc.sl (Enc.int .i64)) (Enc.sl eBlk))) a0] (.v Enc.bool r) [] := by
  refine Con.of Try.func4 rfl Try.ntmps4 rfl ?_
  intro S w hF
  unfold m_law_FrameSays at h
  refine W.seq ?_
  refine W.reg (σ' := ⟨[(1, .ptr 101 0)], [(101, .box 38 [.v (Enc.int .i64) a0.1, .v (Enc.sl (Enc.int .i64)) a0.2.1, .v (Enc.sl eBlk) a0.2.2])]⟩) (J.cons (.none rfl) (JO.box 101 rfl (.prm (.one _ _) (.prm (.one _ _) (.one _ _))) rfl) rfl rfl (J.cons (.none rfl) (JO.assign rfl) rfl rfl (J.fin (Sw.Sub.mk id (.cons rfl (.of_eq rfl) .nil) (.box rfl (.cons (.of_eq rfl) (.cons (.of_eq rfl) (.cons (.of_eq rfl) .nil))) .nil) rfl)))) ?_
  refine W.seq ?_
  obtain ⟨v1, hv1, h⟩ := bind_e h
  refine W.reg (σ' := ⟨[(1, .ptr 101 0), (3, .v (Enc.int .i64) v1)], [(101, .box 38 [.v (Enc.int .i64) a0.1, .v (Enc.sl (Enc.int .i64)) a0.2.1, .v (Enc.sl eBlk) a0.2.2])]⟩) (J.cons (.none rfl) (JO.loadAll rfl rfl (.prm (.one _ _) (.prm (.one _ _) (.one _ _))) Try.isAgg38 Try.sizeOf38) rfl rfl (J.cons (.none rfl) (JO.call0 (con_ref_FrameMay hv1) Try.call21 (.cons (.dir rfl) .nil)) rfl rfl (J.cons (.none rfl) (JO.assign rfl) rfl rfl (J.fin (Sw.Sub.mk id (.cons rfl (.of_eq rfl) (.cons rfl (.of_eq rfl) .nil)) (.box rfl (.cons (.of_eq rfl) (.cons (.of_eq rfl) (.cons (.of_eq rfl) .nil))) .nil) rfl))))) ?_
  refine W.seq ?_
  refine W.reg (σ' := ⟨[(1, .ptr 101 0), (3, .v (Enc.int .i64) v1), (4, .v (Enc.sl (Enc.int .u8)) ([] : (List Int)))], [(101, .box 38 [.v (Enc.int .i64) a0.1, .v (Enc.sl (Enc.int .i64)) a0.2.1, .v (Enc.sl eBlk) a0.2.2])]⟩) (J.cons (.none rfl) (JO.assignNil (Enc.int .u8)) rfl rfl (J.fin (Sw.Sub.mk id (.cons rfl (.of_eq rfl) (.cons rfl (.of_eq rfl) (.cons rfl (.of_eq rfl) .nil))) (.box rfl (.cons (.of_eq rfl) (.cons (.of_eq rfl) (.cons (.of_eq rfl) .nil))) .nil) rfl))) ?_
  refine W.seq ?_
  refine W.seq ?_
  refine W.reg (σ' := ⟨[(1, .ptr 101 0), (3, .v (Enc.int .i64) v1), (4, .v (Enc.sl (Enc.int .u8)) ([] : (List Int))), (10, .v Enc.bool (cm .eql v1 (0 : Int)))], [(101, .box 38 [.v (Enc.int .i64) a0.1, .v (Enc.sl (Enc.int .i64)) a0.2.1, .v (Enc.sl eBlk) a0.2.2])]⟩) (J.cons (.none rfl) (JO.move rfl) rfl rfl (J.cons (.none rfl) (JO.cmp rfl rfl rfl) rfl rfl (J.fin (Sw.Sub.mk id (.cons rfl (.of_eq rfl) (.cons rfl (.of_eq rfl) (.cons rfl (.of_eq rfl) (.cons rfl (.of_eq rfl) .nil)))) (.box rfl (.cons (.of_eq rfl) (.cons (.of_eq rfl) (.cons (.of_eq rfl) .nil))) .nil) rfl)))) ?_
  obtain ⟨k4, hk4, h⟩ := jp_elim h
  refine W.jn (fun x5 : (List Int) => ⟨[(1, .ptr 101 0), (3, .v (Enc.int .i64) v1), (4, .v (Enc.sl (Enc.int .u8)) x5)], [(101, .box 38 [.v (Enc.int .i64) a0.1, .v (Enc.sl (Enc.int .i64)) a0.2.1, .v (Enc.sl eBlk) a0.2.2])]⟩) (fun x => k4 x = some r) rfl ?_ ?_ ?_
  · intro x5 h
    rw [hk4] at h
    refine W.seq ?_
    obtain ⟨v7, hv7, h⟩ := bind_e h
    refine W.reg (σ' := ⟨[(1, .ptr 101 0), (3, .v (Enc.int .i64) v1), (4, .v (Enc.sl (Enc.int .u8)) x5), (5, .v (Enc.sl (Enc.int .u8)) v7.1), (6, .v (Enc.err ET) v7.2)], [(101, .box 38 [.v (Enc.int .i64) a0.1, .v (Enc.sl (Enc.int .i64)) a0.2.1, .v (Enc.sl eBlk) a0.2.2])]⟩) (J.cons (.none rfl) (JO.loadAll rfl rfl (.prm (.one _ _) (.prm (.one _ _) (.one _ _))) Try.isAgg38 Try.sizeOf38) rfl rfl (J.cons (.none rfl) (JO.call0 (con_frame_Pack hv7) Try.call23 (.cons (.dir rfl) .nil)) rfl rfl (J.cons (.none rfl) (JO.move rfl) rfl rfl (J.cons (.none rfl) (JO.extract rfl rfl) rfl rfl (J.cons (.none rfl) (JO.extract rfl rfl) rfl rfl (J.cons (.none rfl) (JO.assign rfl) rfl rfl (J.cons (.none rfl) (JO.assign rfl) rfl rfl (J.fin (Sw.Sub.mk id (.cons rfl (.of_eq rfl) (.cons rfl (.of_eq rfl) (.cons rfl (.of_eq rfl) (.cons rfl (.of_eq rfl) (.cons rfl (.of_eq rfl) .nil))))) (.box rfl (.cons (.of_eq rfl) (.cons (.of_eq rfl) (.cons (.of_eq rfl) .nil))) .nil) rfl))))))))) ?_
    refine W.seq ?_
    obtain ⟨x14, hx, h⟩ := bind_e h
    refine W.reg (σ' := ⟨[(2, .v Enc.bool x14)], []⟩) ?_ ?_
    · obtain ⟨v15, hv15, hx⟩ := bind_e hx
      obtain ⟨v16, hv16, hx⟩ := bind_e hx
      rcases Bool.eq_false_or_eq_true v16 with hc17 | hc17
      · replace hx := cond_t hc17 hx
        obtain ⟨v18, hv18, hx⟩ := bind_e hx
        rcases Bool.eq_false_or_eq_true v18 with hc19 | hc19
        · replace hx := cond_t hc19 hx
          obtain ⟨v20, hv20, hx⟩ := bind_e hx
          obtain rfl := Option.some.inj hx
          exact (J.cons (.none rfl) (JO.loadAll rfl rfl (.prm (.one _ _) (.prm (.one _ _) (.one _ _))) Try.isAgg38 Try.sizeOf38) rfl rfl (J.cons (.none rfl) (JO.call0 (con_frame_Check hv15) Try.call24 (.cons (.dir rfl) .nil)) rfl rfl (J.cons (.none rfl) (JO.move rfl) rfl rfl (J.cons (.none rfl) (JO.call0 (con_ref_Is hv16) Try.call18 (.cons (.dir rfl) (.cons (.dir rfl) .nil))) rfl rfl (J.cons (.none rfl) (JO.move rfl) rfl rfl (J.cons (GK.met 22 rfl rfl rfl hc17) (JO.move rfl) rfl rfl (J.cons (GK.met 22 rfl rfl rfl hc17) (JO.move rfl) rfl rfl (J.cons (GK.met 22 rfl rfl rfl hc17) (JO.call0 (con_ref_Is hv18) Try.call18 (.cons (.dir rfl) (.cons (.dir rfl) .nil))) rfl rfl (J.cons (.none rfl) (JO.pT hc17 rfl rfl) rfl rfl (J.cons (.none rfl) (JO.move rfl) rfl rfl (J.cons (GK.met 27 rfl rfl rfl hc19) (JO.move rfl) rfl rfl (J.cons (GK.met 27 rfl rfl rfl hc19) (JO.move rfl) rfl rfl (J.cons (GK.met 27 rfl rfl rfl hc19) (JO.call0 (con_ref_SameBytes hv20) Try.call25 (.cons (.dir rfl) (.cons (.dir rfl) .nil))) rfl rfl (J.cons (.none rfl) (JO.pT hc19 rfl rfl) rfl rfl (J.cons (.none rfl) (JO.assign rfl) rfl rfl (J.fin (Sw.Sub.mk id (.cons rfl (.of_eq rfl) .nil) .nil rfl)))))))))))))))))
        · replace hx := cond_f hc19 hx
          obtain rfl := Option.some.inj hx
          exact (J.cons (.none rfl) (JO.loadAll rfl rfl (.prm (.one _ _) (.prm (.one _ _) (.one _ _))) Try.isAgg38 Try.sizeOf38) rfl rfl (J.cons (.none rfl) (JO.call0 (con_frame_Check hv15) Try.call24 (.cons (.dir rfl) .nil)) rfl rfl (J.cons (.none rfl) (JO.move rfl) rfl rfl (J.cons (.none rfl) (JO.call0 (con_ref_Is hv16) Try.call18 (.cons (.dir rfl) (.cons (.dir rfl) .nil))) rfl rfl (J.cons (.none rfl) (JO.move rfl) rfl rfl (J.cons (GK.met 22 rfl rfl rfl hc17) (JO.move rfl) rfl rfl (J.cons (GK.met 22 rfl rfl rfl hc17) (JO.move rfl) rfl rfl (J.cons (GK.met 22 rfl rfl rfl hc17) (JO.call0 (con_ref_Is hv18) Try.call18 (.cons (.dir rfl) (.cons (.dir rfl) .nil))) rfl rfl (J.cons (.none rfl) (JO.pT hc17 rfl rfl) rfl rfl (J.cons (.none rfl) (JO.move rfl) rfl rfl (J.left (GK.unmet 27 rfl rfl rfl hc19) rfl (J.left (GK.unmet 27 rfl rfl rfl hc19) rfl (J.left (GK.unmet 27 rfl rfl rfl hc19) rfl (J.cons (.none rfl) (JO.pF hc19 rfl rfl) rfl rfl (J.cons (.none rfl) (JO.assign rfl) rfl rfl (J.fin (Sw.Sub.mk id (.cons rfl (.of_eq rfl) .nil) .nil rfl)))))))))))))))))
      · replace hx := cond_f hc17 hx
        obtain rfl := Option.some.inj hx
        exact (J.cons (.none rfl) (JO.loadAll rfl rfl (.prm (.one _ _) (.prm (.one _ _) (.one _ _))) Try.isAgg38 Try.sizeOf38) rfl rfl (J.cons (.none rfl) (JO.call0 (con_frame_Check hv15) Try.call24 (.cons (.dir rfl) .nil)) rfl rfl (J.cons (.none rfl) (JO.move rfl) rfl rfl (J.cons (.none rfl) (JO.call0 (con_ref_Is hv16) Try.call18 (.cons (.dir rfl) (.cons (.dir rfl) .nil))) rfl rfl (J.cons (.none rfl) (JO.move rfl) rfl rfl (J.left (GK.unmet 22 rfl rfl rfl hc17) rfl (J.left (GK.unmet 22 rfl rfl rfl hc17) rfl (J.left (GK.unmet 22 rfl rfl rfl hc17) rfl (J.cons (.none rfl) (JO.pF hc17 rfl rfl) rfl rfl (J.cons (.none rfl) (JO.move rfl) rfl rfl (J.left (GK.unmet 27 rfl rfl rfl rfl) rfl (J.left (GK.unmet 27 rfl rfl rfl rfl) rfl (J.left (GK.unmet 27 rfl rfl rfl rfl) rfl (J.cons (.none rfl) (JO.pF rfl rfl rfl) rfl rfl (J.cons (.none rfl) (JO.assign rfl) rfl rfl (J.fin (Sw.Sub.mk id (.cons rfl (.of_eq rfl) .nil) .nil rfl)))))))))))))))))
    refine W.ret ?_
    obtain rfl := Option.some.inj h
    exact XQ.sub (σ' := ⟨[(2, .v Enc.bool x14)], []⟩) (Sw.Sub.mk id (.cons rfl (.of_eq rfl) .nil) .nil rfl) (XQ.ret1 hF noR rfl (RV.tmp rfl) .nil rfl)
  · intro hc2
    replace h := cond_t hc2 h
    obtain ⟨v6, hv6, h⟩ := bind_e h
    refine W.reg (σ' := ⟨[(1, .ptr 101 0), (3, .v (Enc.int .i64) v1), (4, .ref 104000)], [(101, .box 38 [.v (Enc.int .i64) a0.1, .v (Enc.sl (Enc.int .i64)) a0.2.1, .v (Enc.sl eBlk) a0.2.2]), (104000, .arr 5 (Enc.int .u8) v6)]⟩) (J.cons (.none rfl) (JO.loadAll rfl rfl (.prm (.one _ _) (.prm (.one _ _) (.one _ _))) Try.isAgg38 Try.sizeOf38) rfl rfl (J.cons (.none rfl) (JO.call 104000 (con_ref_Packed hv6) Try.call22 (.cons (.dir rfl) .nil) rfl) rfl rfl (J.cons (.none rfl) (JO.assign rfl) rfl rfl (J.fin (Sw.Sub.mk id (.cons rfl (.of_eq rfl) (.cons rfl (.of_eq rfl) (.cons rfl (.of_eq rfl) .nil))) (.box rfl (.cons (.of_eq rfl) (.cons (.of_eq rfl) (.cons (.of_eq rfl) .nil))) (.arr rfl .nil)) rfl))))) ?_
    exact W.jfall h (Sw.Sub.mk id (.cons rfl (.of_eq rfl) (.cons rfl (.of_eq rfl) (.cons rfl (.frz rfl rfl) .nil))) (.box rfl (.cons (.of_eq rfl) (.cons (.of_eq rfl) (.cons (.of_eq rfl) .nil))) .nil) rfl)
  · intro hc2
    replace h := cond_f hc2 h
    refine W.skip ?_
    exact W.jfall h (Sw.Sub.mk id (.cons rfl (.of_eq rfl) (.cons rfl (.of_eq rfl) (.cons rfl (.of_eq rfl) .nil))) (.box rfl (.cons (.of_eq rfl) (.cons (.of_eq rfl) (.cons (.of_eq rfl) .nil))) .nil) rfl)
set_option maxRecDepth 100000 in
set_option maxHeartbeats 4000000 in
theorem con_ref_Pick {a0 : Int} {a1 : Int} {r : Int} (h : m_ref_Pick a0 a1 = some r) :
    Con Try.prog 36 [.v (Enc.int .i64) a0, .v (Enc.int .i64) a1] (.v (Enc.int .i64) r) [] := by
  refine Con.of Try.func36 rfl Try.ntmps36 rfl ?_
  intro S w hF
  unfold m_ref_Pick at h
  refine W.seq ?_
  refine W.reg (σ' := ⟨[(0, .v (Enc.int .i64) a0), (1, .v (Enc.int .i64) a1)], []⟩) (J.cons (.none rfl) (JO.assign rfl) rfl rfl (J.fin (Sw.Sub.mk id (.cons rfl (.of_eq rfl) (.cons rfl (.of_eq rfl) .nil)) .nil rfl))) ?_
  refine W.seq ?_
  refine W.seq ?_
  refine W.reg (σ' := ⟨[(0, .v (Enc.int .i64) a0), (1, .v (Enc.int .i64) a1), (6, .v Enc.bool (cm .lss a0 (0 : Int)))], []⟩) (J.cons (.none rfl) (JO.move rfl) rfl rfl (J.cons (.none rfl) (JO.cmp rfl rfl rfl) rfl rfl (J.fin (Sw.Sub.mk id (.cons rfl (.of_eq rfl) (.cons rfl (.of_eq rfl) (.cons rfl (.of_eq rfl) .nil))) .nil rfl)))) ?_
  obtain ⟨k2, hk2, h⟩ := jp_elim h
  refine W.jn (fun x3 : Int => ⟨[(0, .v (Enc.int .i64) x3), (1, .v (Enc.int .i64) a1)], []⟩) (fun x => k2 x = some r) rfl ?_ ?_ ?_
  · intro x3 h
    rw [hk2] at h
    refine W.seq ?_
    obtain ⟨u4, hu4, h⟩ := bind_e h
    refine W.reg (σ' := ⟨[(4, .v (Enc.int .i64) (ar .rem .i64 x3 a1))], []⟩) (J.cons (.none rfl) (JO.move rfl) rfl rfl (J.cons (.none rfl) (JO.move rfl) rfl rfl (J.cons (.none rfl) (JO.div (.inr rfl) (nz_some hu4) rfl rfl) rfl rfl (J.cons (.none rfl) (JO.assign rfl) rfl rfl (J.fin (Sw.Sub.mk id (.cons rfl (.of_eq rfl) .nil) .nil rfl)))))) ?_
    refine W.ret ?_
    obtain rfl := Option.some.inj h
    exact XQ.sub (σ' := ⟨[(4, .v (Enc.int .i64) (ar .rem .i64 x3 a1))], []⟩) (Sw.Sub.mk id (.cons rfl (.of_eq rfl) .nil) .nil rfl) (XQ.ret1 hF noR rfl (RV.tmp rfl) .nil rfl)
  · intro hc1
    replace h := cond_t hc1 h
    refine W.reg (σ' := ⟨[(0, .v (Enc.int .i64) (IntKind.wrap .i64 (0 - (ar .add .i64 a0 (1 : Int))))), (1, .v (Enc.int .i64) a1)], []⟩) (J.cons (.none rfl) (JO.move rfl) rfl rfl (J.cons (.none rfl) (JO.arith rfl rfl rfl) rfl rfl (J.cons (.none rfl) (JO.neg rfl) rfl rfl (J.cons (.none rfl) (JO.assign rfl) rfl rfl (J.fin (Sw.Sub.mk id (.cons rfl (.of_eq rfl) (.cons rfl (.of_eq rfl) .nil)) .nil rfl)))))) ?_
    exact W.jfall h (Sw.Sub.mk id (.cons rfl (.of_eq rfl) (.cons rfl (.of_eq rfl) .nil)) .nil rfl)
  · intro hc1
    replace h := cond_f hc1 h
    refine W.skip ?_
    exact W.jfall h (Sw.Sub.mk id (.cons rfl (.of_eq rfl) (.cons rfl (.of_eq rfl) .nil)) .nil rfl)
set_option maxRecDepth 100000 in
set_option maxHeartbeats 4000000 in
theorem con_ref_Unpacked {a0 : (List Int)} {r : (Int × (List Int) × (List Blk)) × Bool} (h : m_ref_Unpacked a0 = some r) :
    Con Try.prog 31 [.v (Enc.sl (Enc.int .u8)) a0] (.tup [.v (Enc.pr (Enc.int .i64) (Enc.pr (Enc.sl (Enc.int .i64)) (Enc.sl eBlk))) r.1, .v Enc.bool r.2]) [] := by
  refine Con.of Try.func31 rfl Try.ntmps31 rfl ?_
  intro S w hF
  unfold m_ref_Unpacked at h
  refine W.seq ?_
  refine W.reg (σ' := ⟨[(0, .v (Enc.sl (Enc.int .u8)) a0), (2, .ptr 101 0)], [(101, .box 38 [.v (Enc.int .i64) (0 : Int), .v (Enc.sl (Enc.int .i64)) ([] : (List Int)), .v (Enc.sl eBlk) ([] : (List Blk))])]⟩) (J.cons (.none rfl) (JO.alloc 101 Try.zeroValue38 rfl (.cons (Z.int .i64) (.cons (Z.sl (Enc.int .i64)) (.cons (Z.sl eBlk) .nil))) rfl) rfl rfl (J.cons (.none rfl) (JO.assign rfl) rfl rfl (J.fin (Sw.Sub.mk id (.cons rfl (.of_eq rfl) (.cons rfl (.of_eq rfl) .nil)) (.box rfl (.cons (.of_eq rfl) (.cons (.of_eq rfl) (.cons (.of_eq rfl) .nil))) .nil) rfl)))) ?_
  refine W.seq ?_
  refine W.seq ?_
  refine W.reg (σ' := ⟨[(0, .v (Enc.sl (Enc.int .u8)) a0), (2, .ptr 101 0), (15, .v Enc.bool (cm .lss (a0.length : Int) (6 : Int)))], [(101, .box 38 [.v (Enc.int .i64) (0 : Int), .v (Enc.sl (Enc.int .i64)) ([] : (List Int)), .v (Enc.sl eBlk) ([] : (List Blk))])]⟩) (J.cons (.none rfl) (JO.move rfl) rfl rfl (J.cons (.none rfl) (JO.len rfl Try.runUnderlying40) rfl rfl (J.cons (.none rfl) (JO.cmp rfl rfl rfl) rfl rfl (J.fin (Sw.Sub.mk id (.cons rfl (.of_eq rfl) (.cons rfl (.of_eq rfl) (.cons rfl (.of_eq rfl) .nil))) (.box rfl (.cons (.of_eq rfl) (.cons (.of_eq rfl) (.cons (.of_eq rfl) .nil))) .nil) rfl))))) ?_
  rcases Bool.eq_false_or_eq_true (cm .lss (a0.length : Int) (6 : Int)) with hc1 | hc1
  · replace h := cond_t hc1 h
    refine W.condT rfl hc1 ?_
    refine W.seq ?_
    refine W.reg (σ' := ⟨[(2, .ptr 101 0), (3, .v Enc.bool false)], [(101, .box 38 [.v (Enc.int .i64) (0 : Int), .ref 103, .ref 102]), (103, .arr 3 (Enc.int .i64) ([] : (List Int))), (102, .arr 24 eBlk ([] : (List Blk)))]⟩) (J.cons (.none rfl) (JO.buildN (new := [(103, .arr 3 (Enc.int .i64) ([] : (List Int))), (102, .arr 24 eBlk ([] : (List Blk)))]) built38 (.cons (Z.int .i64) (.ref 103 rfl (.ref 102 rfl .nil))) (.cons (.cons .nil)) rfl .nil) rfl rfl (J.mut (.none rfl) (JM.storeAgg rfl rfl rfl rfl rfl rfl Try.sizeOf38) (J.cons (.none rfl) (JO.assign rfl) rfl rfl (J.fin (Sw.Sub.mk id (.cons rfl (.of_eq rfl) (.cons rfl (.of_eq rfl) .nil)) (.box rfl (.cons (.of_eq rfl) (.cons (.of_eq rfl) (.cons (.of_eq rfl) .nil))) (.arr rfl (.arr rfl .nil))) rfl))))) ?_
    refine W.ret ?_
    obtain rfl := Option.some.inj h
    exact XQ.sub (σ' := ⟨[(2, .ptr 90 0), (3, .v Enc.bool false)], [(90, .box 38 [.v (Enc.int .i64) (0 : Int), .v (Enc.sl (Enc.int .i64)) ([] : (List Int)), .v (Enc.sl eBlk) ([] : (List Blk))])]⟩) (Sw.Sub.mk (rn [(90, 101)]) (.cons rfl (.of_eq rfl) (.cons rfl (.of_eq rfl) .nil)) (.box rfl (.cons (.of_eq rfl) (.cons (.frz rfl rfl) (.cons (.frz rfl rfl) .nil))) .nil) rfl) (XQ.ret2 hF noR rfl (RV.cellAll rfl rfl (.prm (.one _ _) (.prm (.one _ _) (.one _ _))) Try.isAgg38 Try.sizeOf38) (RV.tmp rfl) .nil rfl)
  · replace h := cond_f hc1 h
    refine W.condF rfl hc1 ?_
    refine W.skip ?_
    refine W.seq ?_
    obtain ⟨z2, hz2, h⟩ := bind_e h
    refine W.reg (σ' := ⟨[(0, .v (Enc.sl (Enc.int .u8)) a0), (2, .ptr 101 0), (4, .ptr 106 0)], [(101, .box 38 [.v (Enc.int .i64) (0 : Int), .v (Enc.sl (Enc.int .i64)) ([] : (List Int)), .v (Enc.sl eBlk) ([] : (List Blk))]), (106, .box 38 [.v (Enc.int .i64) (ar .quo .i64 z2 (16 : Int)), .ref 105, .ref 104]), (105, .arr 3 (Enc.int .i64) ([] : (List Int))), (104, .arr 24 eBlk ([] : (List Blk)))]⟩) (J.cons (.none rfl) (JO.move rfl) rfl rfl (J.cons (.none rfl) (JO.idx hz2 rfl rfl Try.runUnderlying40 Try.sizeOf5) rfl rfl (J.cons (.none rfl) (JO.loadPst rfl Try.isAgg5 Try.sizeOf5) rfl rfl (J.cons (.none rfl) (JO.convUp Try.runUnderlying5 Try.runUnderlying3 rfl rfl) rfl rfl (J.cons (.none rfl) (JO.div (.inl rfl) (by decide) rfl rfl) rfl rfl (J.cons (.none rfl) (JO.buildN (new := [(105, .arr 3 (Enc.int .i64) ([] : (List Int))), (104, .arr 24 eBlk ([] : (List Blk)))]) built38 (.cons (Z.int .i64) (.ref 105 rfl (.ref 104 rfl .nil))) (.cons (.cons .nil)) rfl (.cons rfl (.dir rfl) rfl rfl rfl rfl .nil)) rfl rfl (J.cons (.none rfl) (JO.allocN (new := [(108, .arr 3 (Enc.int .i64) ([] : (List Int))), (107, .arr 24 eBlk ([] : (List Blk)))]) 106 Try.zeroValue38 rfl (.cons (Z.int .i64) (.ref 108 rfl (.ref 107 rfl .nil))) (.cons (.cons .nil)) rfl rfl) rfl rfl (J.mut (.none rfl) (JM.storeAgg rfl rfl rfl rfl rfl rfl Try.sizeOf38) (J.fin (Sw.Sub.mk id (.cons rfl (.of_eq rfl) (.cons rfl (.of_eq rfl) (.cons rfl (.of_eq rfl) .nil))) (.box rfl (.cons (.of_eq rfl) (.cons (.of_eq rfl) (.cons (.of_eq rfl) .nil))) (.box rfl (.cons (.of_eq rfl) (.cons (.of_eq rfl) (.cons (.of_eq rfl) .nil))) (.arr rfl (.arr rfl .nil)))) rfl)))))))))) ?_
    refine W.seq ?_
    refine W.reg (σ' := ⟨[(0, .v (Enc.sl (Enc.int .u8)) a0), (2, .ptr 101 0), (4, .ptr 106 0), (5, .v (Enc.int .i64) (2 : Int))], [(101, .box 38 [.v (Enc.int .i64) (0 : Int), .v (Enc.sl (Enc.int .i64)) ([] : (List Int)), .v (Enc.sl eBlk) ([] : (List Blk))]), (106, .box 38 [.v (Enc.int .i64) (ar .quo .i64 z2 (16 : Int)), .ref 105, .ref 104]), (105, .arr 3 (Enc.int .i64) ([] : (List Int))), (104, .arr 24 eBlk ([] : (List Blk)))]⟩) (J.cons (.none rfl) (JO.assign rfl) rfl rfl (J.fin (Sw.Sub.mk id (.cons rfl (.of_eq rfl) (.cons rfl (.of_eq rfl) (.cons rfl (.of_eq rfl) (.cons rfl (.of_eq rfl) .nil)))) (.box rfl (.cons (.of_eq rfl) (.cons (.of_eq rfl) (.cons (.of_eq rfl) .nil))) (.box rfl (.cons (.of_eq rfl) (.cons (.of_eq rfl) (.cons (.of_eq rfl) .nil))) (.arr rfl (.arr rfl .nil)))) rfl))) ?_
    refine W.seq ?_
    refine W.seq ?_
    refine W.reg (σ' := ⟨[(0, .v (Enc.sl (Enc.int .u8)) a0), (2, .ptr 101 0), (4, .ptr 106 0), (5, .v (Enc.int .i64) (2 : Int)), (6, .v (Enc.int .i64) (0 : Int))], [(101, .box 38 [.v (Enc.int .i64) (0 : Int), .v (Enc.sl (Enc.int .i64)) ([] : (List Int)), .v (Enc.sl eBlk) ([] : (List Blk))]), (106, .box 38 [.v (Enc.int .i64) (ar .quo .i64 z2 (16 : Int)), .ref 105, .ref 104]), (105, .arr 3 (Enc.int .i64) ([] : (List Int))), (104, .arr 24 eBlk ([] : (List Blk)))]⟩) (J.cons (.none rfl) (JO.assign rfl) rfl rfl (J.fin (Sw.Sub.mk id (.cons rfl (.of_eq rfl) (.cons rfl (.of_eq rfl) (.cons rfl (.of_eq rfl) (.cons rfl (.of_eq rfl) (.cons rfl (.of_eq rfl) .nil))))) (.box rfl (.cons (.of_eq rfl) (.cons (.of_eq rfl) (.cons (.of_eq rfl) .nil))) (.box rfl (.cons (.of_eq rfl) (.cons (.of_eq rfl) (.cons (.of_eq rfl) .nil))) (.arr rfl (.arr rfl .nil)))) rfl))) ?_
    obtain ⟨o105, ho105, hb105, hr105⟩ := lp_elim h
    refine W.lp (σs := fun s71 : Int × Int × (List Int) => ⟨[(0, .v (Enc.sl (Enc.int .u8)) a0), (2, .ptr 101 0), (4, .ptr 106 0), (5, .v (Enc.int .i64) s71.1), (6, .v (Enc.int .i64) s71.2.1)], [(101, .box 38 [.v (Enc.int .i64) (0 : Int), .v (Enc.sl (Enc.int .i64)) ([] : (List Int)), .v (Enc.sl eBlk) ([] : (List Blk))]), (106, .box 38 [.v (Enc.int .i64) (ar .quo .i64 z2 (16 : Int)), .ref 130, .ref 104]), (130, .arr 3 (Enc.int .i64) s71.2.2), (104, .arr 24 eBlk ([] : (List Blk)))]⟩) (fun x106 : Int × (List Int) => ⟨[(0, .v (Enc.sl (Enc.int .u8)) a0), (2, .ptr 101 0), (4, .ptr 106 0), (5, .v (Enc.int .i64) x106.1)], [(101, .box 38 [.v (Enc.int .i64) (0 : Int), .v (Enc.sl (Enc.int .i64)) ([] : (List Int)), .v (Enc.sl eBlk) ([] : (List Blk))]), (106, .box 38 [.v (Enc.int .i64) (ar .quo .i64 z2 (16 : Int)), .ref 130, .ref 104]), (130, .arr 3 (Enc.int .i64) x106.2), (104, .arr 24 eBlk ([] : (List Blk)))]⟩) ho105 (Sw.Sub.mk (rn [(101, 101), (106, 106), (104, 104), (130, 105)]) (.cons rfl (.of_eq rfl) (.cons rfl (.of_eq rfl) (.cons rfl (.of_eq rfl) (.cons rfl (.of_eq rfl) (.cons rfl (.of_eq rfl) .nil))))) (.box rfl (.cons (.of_eq rfl) (.cons (.of_eq rfl) (.cons (.of_eq rfl) .nil))) (.box rfl (.cons (.of_eq rfl) (.cons (.of_eq rfl) (.cons (.of_eq rfl) .nil))) (.arr rfl (.arr rfl .nil)))) rfl) ?_ ?_
    · intro x106 hy
      have h := hb105 _ hy
      refine W.seq ?_
      refine W.seq ?_
      refine W.reg (σ' := ⟨[(0, .v (Enc.sl (Enc.int .u8)) a0), (2, .ptr 101 0), (4, .ptr 106 0), (5, .v (Enc.int .i64) x106.1), (10, .v (Enc.int .i64) (0 : Int))], [(101, .box 38 [.v (Enc.int .i64) (0 : Int), .v (Enc.sl (Enc.int .i64)) ([] : (List Int)), .v (Enc.sl eBlk) ([] : (List Blk))]), (106, .box 38 [.v (Enc.int .i64) (ar .quo .i64 z2 (16 : Int)), .ref 130, .ref 104]), (130, .arr 3 (Enc.int .i64) x106.2), (104, .arr 24 eBlk ([] : (List Blk)))]⟩) (J.cons (.none rfl) (JO.assign rfl) rfl rfl (J.fin (Sw.Sub.mk id (.cons rfl (.of_eq rfl) (.cons rfl (.of_eq rfl) (.cons rfl (.of_eq rfl) (.cons rfl (.of_eq rfl) (.cons rfl (.of_eq rfl) .nil))))) (.box rfl (.cons (.of_eq rfl) (.cons (.of_eq rfl) (.cons (.of_eq rfl) .nil))) (.box rfl (.cons (.of_eq rfl) (.cons (.of_eq rfl) (.cons (.of_eq rfl) .nil))) (.arr rfl (.arr rfl .nil)))) rfl))) ?_
      obtain ⟨o205, ho205, hb205, hr205⟩ := lp_elim h
      refine W.lp (σs := fun s183 : Int × Int × (List Blk) => ⟨[(0, .v (Enc.sl (Enc.int .u8)) a0), (2, .ptr 101 0), (4, .ptr 106 0), (5, .v (Enc.int .i64) s183.1), (10, .v (Enc.int .i64) s183.2.1)], [(101, .box 38 [.v (Enc.int .i64) (0 : Int), .v (Enc.sl (Enc.int .i64)) ([] : (List Int)), .v (Enc.sl eBlk) ([] : (List Blk))]), (106, .box 38 [.v (Enc.int .i64) (ar .quo .i64 z2 (16 : Int)), .ref 130, .ref 160]), (130, .arr 3 (Enc.int .i64) x106.2), (160, .arr 24 eBlk s183.2.2)]⟩) (fun x206 : (List Blk) => ⟨[(0, .v (Enc.sl (Enc.int .u8)) a0), (2, .ptr 101 0), (4, .ptr 106 0)], [(101, .box 38 [.v (Enc.int .i64) (0 : Int), .v (Enc.sl (Enc.int .i64)) ([] : (List Int)), .v (Enc.sl eBlk) ([] : (List Blk))]), (106, .box 38 [.v (Enc.int .i64) (ar .quo .i64 z2 (16 : Int)), .ref 130, .ref 160]), (130, .arr 3 (Enc.int .i64) x106.2), (160, .arr 24 eBlk x206)]⟩) ho205 (Sw.Sub.mk (rn [(101, 101), (106, 106), (160, 104), (130, 130)]) (.cons rfl (.of_eq rfl) (.cons rfl (.of_eq rfl) (.cons rfl (.of_eq rfl) (.cons rfl (.of_eq rfl) (.cons rfl (.of_eq rfl) .nil))))) (.box rfl (.cons (.of_eq rfl) (.cons (.of_eq rfl) (.cons (.of_eq rfl) .nil))) (.box rfl (.cons (.of_eq rfl) (.cons (.of_eq rfl) (.cons (.of_eq rfl) .nil))) (.arr rfl (.arr rfl .nil)))) rfl) ?_ ?_
      · intro x206 hy
        have h := hb205 _ hy
        refine W.seq ?_
        refine W.seq ?_
        obtain ⟨x232, hx, h⟩ := bind_e h
        refine W.reg (σ' := ⟨[(2, .ptr 101 0), (4, .ptr 106 0), (110, .v Enc.bool x232)], [(101, .box 38 [.v (Enc.int .i64) (0 : Int), .v (Enc.sl (Enc.int .i64)) ([] : (List Int)), .v (Enc.sl eBlk) ([] : (List Blk))]), (106, .box 38 [.v (Enc.int .i64) (ar .quo .i64 z2 (16 : Int)), .ref 130, .ref 160]), (130, .arr 3 (Enc.int .i64) x106.2), (160, .arr 24 eBlk x206)]⟩) ?_ ?_
        · obtain ⟨v233, hv233, hx⟩ := bind_e hx
          rcases Bool.eq_false_or_eq_true (cm .neq v233 (0 : Int)) with hc234 | hc234
          · replace hx := cond_t hc234 hx
            obtain rfl := Option.some.inj hx
            exact (J.cons (.none rfl) (JO.loadAgg rfl rfl rfl Try.isAgg38 Try.sizeOf38) rfl rfl (J.cons (.none rfl) (JO.callL0 (con_ref_FrameMay hv233) Try.call21 (.cons (.agg rfl (.same (.ref rfl rfl (.ref rfl rfl .nil))) (.prm (.one _ _) (.prm (.one _ _) (.one _ _))) rfl) .nil) FlatS.v) rfl rfl (J.cons (.none rfl) (JO.cmp rfl rfl rfl) rfl rfl (J.cons (.none rfl) (JO.move rfl) rfl rfl (J.left (GK.unmet 104 rfl rfl rfl hc234) rfl (J.left (GK.unmet 104 rfl rfl rfl hc234) rfl (J.left (GK.unmet 104 rfl rfl rfl hc234) rfl (J.left (GK.unmet 104 rfl rfl rfl hc234) rfl (J.left (GK.unmet 104 rfl rfl rfl hc234) rfl (J.cons (.none rfl) (JO.pT hc234 rfl rfl) rfl rfl (J.fin (Sw.Sub.mk id (.cons rfl (.of_eq rfl) (.cons rfl (.of_eq rfl) (.cons rfl (.of_eq rfl) .nil))) (.box rfl (.cons (.of_eq rfl) (.cons (.of_eq rfl) (.cons (.of_eq rfl) .nil))) (.box rfl (.cons (.of_eq rfl) (.cons (.of_eq rfl) (.cons (.of_eq rfl) .nil))) (.arr rfl (.arr rfl .nil)))) rfl))))))))))))
          · replace hx := cond_f hc234 hx
            obtain ⟨v235, hv235, hx⟩ := bind_e hx
            obtain ⟨v236, hv236, hx⟩ := bind_e hx
            obtain rfl := Option.some.inj hx
            exact (J.cons (.none rfl) (JO.loadAgg rfl rfl rfl Try.isAgg38 Try.sizeOf38) rfl rfl (J.cons (.none rfl) (JO.callL0 (con_ref_FrameMay hv233) Try.call21 (.cons (.agg rfl (.same (.ref rfl rfl (.ref rfl rfl .nil))) (.prm (.one _ _) (.prm (.one _ _) (.one _ _))) rfl) .nil) FlatS.v) rfl rfl (J.cons (.none rfl) (JO.cmp rfl rfl rfl) rfl rfl (J.cons (.none rfl) (JO.move rfl) rfl rfl (J.cons (GK.met 104 rfl rfl rfl hc234) (JO.loadAgg rfl rfl rfl Try.isAgg38 Try.sizeOf38) rfl rfl (J.cons (GK.met 104 rfl rfl rfl hc234) (JO.callL 173000 (con_ref_Packed hv235) Try.call22 (.cons (.agg rfl (.same (.ref rfl rfl (.ref rfl rfl .nil))) (.prm (.one _ _) (.prm (.one _ _) (.one _ _))) rfl) .nil) rfl FlatS.ref (FlatN.arr FlatN.nil)) rfl rfl (J.cons (GK.met 104 rfl rfl rfl hc234) (JO.move rfl) rfl rfl (J.cons (GK.met 104 rfl rfl rfl hc234) (JO.callL0 (con_ref_SameBytes hv236) Try.call25 (.cons (.ref rfl rfl) (.cons (.dir rfl) .nil)) FlatS.v) rfl rfl (J.cons (GK.met 104 rfl rfl rfl hc234) (JO.not rfl) rfl rfl (J.cons (.none rfl) (JO.pF hc234 rfl rfl) rfl rfl (J.fin (Sw.Sub.mk id (.cons rfl (.of_eq rfl) (.cons rfl (.of_eq rfl) (.cons rfl (.of_eq rfl) .nil))) (.box rfl (.cons (.of_eq rfl) (.cons (.of_eq rfl) (.cons (.of_eq rfl) .nil))) (.box rfl (.cons (.of_eq rfl) (.cons (.of_eq rfl) (.cons (.of_eq rfl) .nil))) (.arr rfl (.arr rfl .nil)))) rfl))))))))))))
        rcases Bool.eq_false_or_eq_true x232 with hc237 | hc237
        · replace h := cond_t hc237 h
          refine W.condT rfl hc237 ?_
          refine W.seq ?_
          refine W.reg (σ' := ⟨[(2, .ptr 101 0), (3, .v Enc.bool false)], [(101, .box 38 [.v (Enc.int .i64) (0 : Int), .ref 176, .ref 175]), (176, .arr 3 (Enc.int .i64) ([] : (List Int))), (175, .arr 24 eBlk ([] : (List Blk)))]⟩) (J.cons (.none rfl) (JO.buildN (new := [(176, .arr 3 (Enc.int .i64) ([] : (List Int))), (175, .arr 24 eBlk ([] : (List Blk)))]) built38 (.cons (Z.int .i64) (.ref 176 rfl (.ref 175 rfl .nil))) (.cons (.cons .nil)) rfl .nil) rfl rfl (J.mut (.none rfl) (JM.storeAgg rfl rfl rfl rfl rfl rfl Try.sizeOf38) (J.cons (.none rfl) (JO.assign rfl) rfl rfl (J.fin (Sw.Sub.mk id (.cons rfl (.of_eq rfl) (.cons rfl (.of_eq rfl) .nil)) (.box rfl (.cons (.of_eq rfl) (.cons (.of_eq rfl) (.cons (.of_eq rfl) .nil))) (.arr rfl (.arr rfl .nil))) rfl))))) ?_
          refine W.ret ?_
          obtain rfl := Option.some.inj h
          exact XQ.sub (σ' := ⟨[(2, .ptr 90 0), (3, .v Enc.bool false)], [(90, .box 38 [.v (Enc.int .i64) (0 : Int), .v (Enc.sl (Enc.int .i64)) ([] : (List Int)), .v (Enc.sl eBlk) ([] : (List Blk))])]⟩) (Sw.Sub.mk (rn [(90, 101)]) (.cons rfl (.of_eq rfl) (.cons rfl (.of_eq rfl) .nil)) (.box rfl (.cons (.of_eq rfl) (.cons (.frz rfl rfl) (.cons (.frz rfl rfl) .nil))) .nil) rfl) (XQ.ret2 hF noR rfl (RV.cellAll rfl rfl (.prm (.one _ _) (.prm (.one _ _) (.one _ _))) Try.isAgg38 Try.sizeOf38) (RV.tmp rfl) .nil rfl)
        · replace h := cond_f hc237 h
          refine W.condF rfl hc237 ?_
          refine W.skip ?_
          refine W.seq ?_
          refine W.reg (σ' := ⟨[(2, .ptr 101 0), (3, .v Enc.bool true)], [(101, .box 38 [.v (Enc.int .i64) (ar .quo .i64 z2 (16 : Int)), .ref 130, .ref 160]), (130, .arr 3 (Enc.int .i64) x106.2), (160, .arr 24 eBlk x206)]⟩) (J.cons (.none rfl) (JO.loadAgg rfl rfl rfl Try.isAgg38 Try.sizeOf38) rfl rfl (J.mut (.none rfl) (JM.storeAgg rfl rfl rfl rfl rfl rfl Try.sizeOf38) (J.cons (.none rfl) (JO.assign rfl) rfl rfl (J.fin (Sw.Sub.mk id (.cons rfl (.of_eq rfl) (.cons rfl (.of_eq rfl) .nil)) (.box rfl (.cons (.of_eq rfl) (.cons (.of_eq rfl) (.cons (.of_eq rfl) .nil))) (.arr rfl (.arr rfl .nil))) rfl))))) ?_
          refine W.ret ?_
          obtain rfl := Option.some.inj h
          exact XQ.sub (σ' := ⟨[(2, .ptr 90 0), (3, .v Enc.bool true)], [(90, .box 38 [.v (Enc.int .i64) (ar .quo .i64 z2 (16 : Int)), .v (Enc.sl (Enc.int .i64)) x106.2, .v (Enc.sl eBlk) x206])]⟩) (Sw.Sub.mk (rn [(90, 101)]) (.cons rfl (.of_eq rfl) (.cons rfl (.of_eq rfl) .nil)) (.box rfl (.cons (.of_eq rfl) (.cons (.frz rfl rfl) (.cons (.frz rfl rfl) .nil))) .nil) rfl) (XQ.ret2 hF noR rfl (RV.cellAll rfl rfl (.prm (.one _ _) (.prm (.one _ _) (.one _ _))) Try.isAgg38 Try.sizeOf38) (RV.tmp rfl) .nil rfl)
      intro s183 r205 h
      refine W.seq ?_
      refine W.seq ?_
      obtain ⟨z207, hz207, h⟩ := bind_e h
      refine W.reg (σ' := ⟨[(0, .v (Enc.sl (Enc.int .u8)) a0), (2, .ptr 101 0), (4, .ptr 106 0), (5, .v (Enc.int .i64) s183.1), (10, .v (Enc.int .i64) s183.2.1), (70, .v Enc.bool (cm .lss s183.2.1 z207))], [(101, .box 38 [.v (Enc.int .i64) (0 : Int), .v (Enc.sl (Enc.int .i64)) ([] : (List Int)), .v (Enc.sl eBlk) ([] : (List Blk))]), (106, .box 38 [.v (Enc.int .i64) (ar .quo .i64 z2 (16 : Int)), .ref 130, .ref 160]), (130, .arr 3 (Enc.int .i64) x106.2), (160, .arr 24 eBlk s183.2.2)]⟩) (J.cons (.none rfl) (JO.move rfl) rfl rfl (J.cons (.none rfl) (JO.move rfl) rfl rfl (J.cons (.none rfl) (JO.idx hz207 rfl rfl Try.runUnderlying40 Try.sizeOf5) rfl rfl (J.cons (.none rfl) (JO.loadPst rfl Try.isAgg5 Try.sizeOf5) rfl rfl (J.cons (.none rfl) (JO.convUp Try.runUnderlying5 Try.runUnderlying3 rfl rfl) rfl rfl (J.cons (.none rfl) (JO.cmp rfl rfl rfl) rfl rfl (J.fin (Sw.Sub.mk id (.cons rfl (.of_eq rfl) (.cons rfl (.of_eq rfl) (.cons rfl (.of_eq rfl) (.cons rfl (.of_eq rfl) (.cons rfl (.of_eq rfl) (.cons rfl (.of_eq rfl) .nil)))))) (.box rfl (.cons (.of_eq rfl) (.cons (.of_eq rfl) (.cons (.of_eq rfl) .nil))) (.box rfl (.cons (.of_eq rfl) (.cons (.of_eq rfl) (.cons (.of_eq rfl) .nil))) (.arr rfl (.arr rfl .nil)))) rfl)))))))) ?_
      rcases Bool.eq_false_or_eq_true (cm .lss s183.2.1 z207) with hc208 | hc208
      · replace h := cond_t hc208 h
        refine W.condT rfl hc208 ?_
        refine W.skip ?_
        refine W.seq ?_
        refine W.block ?_
        refine W.seq ?_
        refine W.seq ?_
        refine W.reg (σ' := ⟨[(0, .v (Enc.sl (Enc.int .u8)) a0), (2, .ptr 101 0), (4, .ptr 106 0), (5, .v (Enc.int .i64) s183.1), (10, .v (Enc.int .i64) s183.2.1), (78, .v Enc.bool (cm .gtr (ar .add .i64 s183.1 (8 : Int)) (ar .sub .i64 (a0.length : Int) (4 : Int))))], [(101, .box 38 [.v (Enc.int .i64) (0 : Int), .v (Enc.sl (Enc.int .i64)) ([] : (List Int)), .v (Enc.sl eBlk) ([] : (List Blk))]), (106, .box 38 [.v (Enc.int .i64) (ar .quo .i64 z2 (16 : Int)), .ref 130, .ref 160]), (130, .arr 3 (Enc.int .i64) x106.2), (160, .arr 24 eBlk s183.2.2)]⟩) (J.cons (.none rfl) (JO.move rfl) rfl rfl (J.cons (.none rfl) (JO.arith rfl rfl rfl) rfl rfl (J.cons (.none rfl) (JO.move rfl) rfl rfl (J.cons (.none rfl) (JO.len rfl Try.runUnderlying40) rfl rfl (J.cons (.none rfl) (JO.arith rfl rfl rfl) rfl rfl (J.cons (.none rfl) (JO.cmp rfl rfl rfl) rfl rfl (J.fin (Sw.Sub.mk id (.cons rfl (.of_eq rfl) (.cons rfl (.of_eq rfl) (.cons rfl (.of_eq rfl) (.cons rfl (.of_eq rfl) (.cons rfl (.of_eq rfl) (.cons rfl (.of_eq rfl) .nil)))))) (.box rfl (.cons (.of_eq rfl) (.cons (.of_eq rfl) (.cons (.of_eq rfl) .nil))) (.box rfl (.cons (.of_eq rfl) (.cons (.of_eq rfl) (.cons (.of_eq rfl) .nil))) (.arr rfl (.arr rfl .nil)))) rfl)))))))) ?_
        rcases Bool.eq_false_or_eq_true (cm .gtr (ar .add .i64 s183.1 (8 : Int)) (ar .sub .i64 (a0.length : Int) (4 : Int))) with hc209 | hc209
        · replace h := cond_t hc209 h
          refine W.condT rfl hc209 ?_
          refine W.seq ?_
          refine W.reg (σ' := ⟨[(2, .ptr 101 0), (3, .v Enc.bool false)], [(101, .box 38 [.v (Enc.int .i64) (0 : Int), .ref 166, .ref 165]), (166, .arr 3 (Enc.int .i64) ([] : (List Int))), (165, .arr 24 eBlk ([] : (List Blk)))]⟩) (J.cons (.none rfl) (JO.buildN (new := [(166, .arr 3 (Enc.int .i64) ([] : (List Int))), (165, .arr 24 eBlk ([] : (List Blk)))]) built38 (.cons (Z.int .i64) (.ref 166 rfl (.ref 165 rfl .nil))) (.cons (.cons .nil)) rfl .nil) rfl rfl (J.mut (.none rfl) (JM.storeAgg rfl rfl rfl rfl rfl rfl Try.sizeOf38) (J.cons (.none rfl) (JO.assign rfl) rfl rfl (J.fin (Sw.Sub.mk id (.cons rfl (.of_eq rfl) (.cons rfl (.of_eq rfl) .nil)) (.box rfl (.cons (.of_eq rfl) (.cons (.of_eq rfl) (.cons (.of_eq rfl) .nil))) (.arr rfl (.arr rfl .nil))) rfl))))) ?_
          refine W.ret ?_
          refine XQ.ret ?_
          obtain rfl := Option.some.inj h
          refine XQ.lret fun ho => ?_
          obtain rfl := hr205 _ ho
          exact XQ.sub (σ' := ⟨[(2, .ptr 90 0), (3, .v Enc.bool false)], [(90, .box 38 [.v (Enc.int .i64) (0 : Int), .v (Enc.sl (Enc.int .i64)) ([] : (List Int)), .v (Enc.sl eBlk) ([] : (List Blk))])]⟩) (Sw.Sub.mk (rn [(90, 101)]) (.cons rfl (.of_eq rfl) (.cons rfl (.of_eq rfl) .nil)) (.box rfl (.cons (.of_eq rfl) (.cons (.frz rfl rfl) (.cons (.frz rfl rfl) .nil))) .nil) rfl) (XQ.ret2 hF noR rfl (RV.cellAll rfl rfl (.prm (.one _ _) (.prm (.one _ _) (.one _ _))) Try.isAgg38 Try.sizeOf38) (RV.tmp rfl) .nil rfl)
        · replace h := cond_f hc209 h
          refine W.condF rfl hc209 ?_
          refine W.skip ?_
          refine W.seq ?_
          refine W.reg (σ' := ⟨[(0, .v (Enc.sl (Enc.int .u8)) a0), (2, .ptr 101 0), (4, .ptr 106 0), (5, .v (Enc.int .i64) s183.1), (10, .v (Enc.int .i64) s183.2.1), (11, .ptr 167 0)], [(101, .box 38 [.v (Enc.int .i64) (0 : Int), .v (Enc.sl (Enc.int .i64)) ([] : (List Int)), .v (Enc.sl eBlk) ([] : (List Blk))]), (106, .box 38 [.v (Enc.int .i64) (ar .quo .i64 z2 (16 : Int)), .ref 130, .ref 160]), (167, .box 24 [.v eBlk zblk]), (130, .arr 3 (Enc.int .i64) x106.2), (160, .arr 24 eBlk s183.2.2)]⟩) (J.cons (.none rfl) (JO.zeroArr (e := eBlk) (v := zblk) Try.typeInfo24 Try.runUnderlying24 Try.typeInfo5 rfl rfl (Z.arr 8 (Z.int .u8))) rfl rfl (J.cons (.none rfl) (JO.alloc 167 Try.zeroValue24 rfl (.cons (Z.arr 8 (Z.int .u8)) .nil) rfl) rfl rfl (J.mut (.none rfl) (JM.store rfl rfl rfl rfl rfl rfl rfl Try.sizeOf24) (J.fin (Sw.Sub.mk id (.cons rfl (.of_eq rfl) (.cons rfl (.of_eq rfl) (.cons rfl (.of_eq rfl) (.cons rfl (.of_eq rfl) (.cons rfl (.of_eq rfl) (.cons rfl (.of_eq rfl) .nil)))))) (.box rfl (.cons (.of_eq rfl) (.cons (.of_eq rfl) (.cons (.of_eq rfl) .nil))) (.box rfl (.cons (.of_eq rfl) (.cons (.of_eq rfl) (.cons (.of_eq rfl) .nil))) (.box rfl (.cons (.of_eq rfl) .nil) (.arr rfl (.arr rfl .nil))))) rfl))))) ?_
          refine W.seq ?_
          refine W.seq ?_
          refine W.reg (σ' := ⟨[(0, .v (Enc.sl (Enc.int .u8)) a0), (2, .ptr 101 0), (4, .ptr 106 0), (5, .v (Enc.int .i64) s183.1), (10, .v (Enc.int .i64) s183.2.1), (11, .ptr 167 0), (12, .v (Enc.int .i64) (0 : Int))], [(101, .box 38 [.v (Enc.int .i64) (0 : Int), .v (Enc.sl (Enc.int .i64)) ([] : (List Int)), .v (Enc.sl eBlk) ([] : (List Blk))]), (106, .box 38 [.v (Enc.int .i64) (ar .quo .i64 z2 (16 : Int)), .ref 130, .ref 160]), (167, .box 24 [.v eBlk zblk]), (130, .arr 3 (Enc.int .i64) x106.2), (160, .arr 24 eBlk s183.2.2)]⟩) (J.cons (.none rfl) (JO.assign rfl) rfl rfl (J.fin (Sw.Sub.mk id (.cons rfl (.of_eq rfl) (.cons rfl (.of_eq rfl) (.cons rfl (.of_eq rfl) (.cons rfl (.of_eq rfl) (.cons rfl (.of_eq rfl) (.cons rfl (.of_eq rfl) (.cons rfl (.of_eq rfl) .nil))))))) (.box rfl (.cons (.of_eq rfl) (.cons (.of_eq rfl) (.cons (.of_eq rfl) .nil))) (.box rfl (.cons (.of_eq rfl) (.cons (.of_eq rfl) (.cons (.of_eq rfl) .nil))) (.box rfl (.cons (.of_eq rfl) .nil) (.arr rfl (.arr rfl .nil))))) rfl))) ?_
          obtain ⟨o222, ho222, hb222, hr222⟩ := lp_elim h
          refine W.lp (σs := fun s218 : Int × Blk => ⟨[(0, .v (Enc.sl (Enc.int .u8)) a0), (2, .ptr 101 0), (4, .ptr 106 0), (5, .v (Enc.int .i64) s183.1), (10, .v (Enc.int .i64) s183.2.1), (11, .ptr 167 0), (12, .v (Enc.int .i64) s218.1)], [(101, .box 38 [.v (Enc.int .i64) (0 : Int), .v (Enc.sl (Enc.int .i64)) ([] : (List Int)), .v (Enc.sl eBlk) ([] : (List Blk))]), (106, .box 38 [.v (Enc.int .i64) (ar .quo .i64 z2 (16 : Int)), .ref 130, .ref 160]), (167, .box 24 [.v eBlk s218.2]), (130, .arr 3 (Enc.int .i64) x106.2), (160, .arr 24 eBlk s183.2.2)]⟩) (fun x223 : Blk => ⟨[(0, .v (Enc.sl (Enc.int .u8)) a0), (2, .ptr 101 0), (4, .ptr 106 0), (5, .v (Enc.int .i64) s183.1), (10, .v (Enc.int .i64) s183.2.1), (11, .ptr 167 0)], [(101, .box 38 [.v (Enc.int .i64) (0 : Int), .v (Enc.sl (Enc.int .i64)) ([] : (List Int)), .v (Enc.sl eBlk) ([] : (List Blk))]), (106, .box 38 [.v (Enc.int .i64) (ar .quo .i64 z2 (16 : Int)), .ref 130, .ref 160]), (167, .box 24 [.v eBlk x223]), (130, .arr 3 (Enc.int .i64) x106.2), (160, .arr 24 eBlk s183.2.2)]⟩) ho222 (Sw.Sub.mk id (.cons rfl (.of_eq rfl) (.cons rfl (.of_eq rfl) (.cons rfl (.of_eq rfl) (.cons rfl (.of_eq rfl) (.cons rfl (.of_eq rfl) (.cons rfl (.of_eq rfl) (.cons rfl (.of_eq rfl) .nil))))))) (.box rfl (.cons (.of_eq rfl) (.cons (.of_eq rfl) (.cons (.of_eq rfl) .nil))) (.box rfl (.cons (.of_eq rfl) (.cons (.of_eq rfl) (.cons (.of_eq rfl) .nil))) (.box rfl (.cons (.of_eq rfl) .nil) (.arr rfl (.arr rfl .nil))))) rfl) ?_ ?_
          · intro x223 hy
            have h := hb222 _ hy
            refine W.seq ?_
            refine W.reg (σ' := ⟨[(0, .v (Enc.sl (Enc.int .u8)) a0), (2, .ptr 101 0), (4, .ptr 106 0), (5, .v (Enc.int .i64) (ar .add .i64 s183.1 (8 : Int))), (10, .v (Enc.int .i64) s183.2.1), (11, .ptr 167 0)], [(101, .box 38 [.v (Enc.int .i64) (0 : Int), .v (Enc.sl (Enc.int .i64)) ([] : (List Int)), .v (Enc.sl eBlk) ([] : (List Blk))]), (106, .box 38 [.v (Enc.int .i64) (ar .quo .i64 z2 (16 : Int)), .ref 130, .ref 160]), (167, .box 24 [.v eBlk x223]), (130, .arr 3 (Enc.int .i64) x106.2), (160, .arr 24 eBlk s183.2.2)]⟩) (J.cons (.none rfl) (JO.move rfl) rfl rfl (J.cons (.none rfl) (JO.arith rfl rfl rfl) rfl rfl (J.cons (.none rfl) (JO.assign rfl) rfl rfl (J.fin (Sw.Sub.mk id (.cons rfl (.of_eq rfl) (.cons rfl (.of_eq rfl) (.cons rfl (.of_eq rfl) (.cons rfl (.of_eq rfl) (.cons rfl (.of_eq rfl) (.cons rfl (.of_eq rfl) .nil)))))) (.box rfl (.cons (.of_eq rfl) (.cons (.of_eq rfl) (.cons (.of_eq rfl) .nil))) (.box rfl (.cons (.of_eq rfl) (.cons (.of_eq rfl) (.cons (.of_eq rfl) .nil))) (.box rfl (.cons (.of_eq rfl) .nil) (.arr rfl (.arr rfl .nil))))) rfl))))) ?_
            obtain ⟨v227, hv227, h⟩ := bind_e h
            refine W.reg (σ' := ⟨[(0, .v (Enc.sl (Enc.int .u8)) a0), (2, .ptr 101 0), (4, .ptr 106 0), (5, .v (Enc.int .i64) (ar .add .i64 s183.1 (8 : Int))), (10, .v (Enc.int .i64) s183.2.1)], [(101, .box 38 [.v (Enc.int .i64) (0 : Int), .v (Enc.sl (Enc.int .i64)) ([] : (List Int)), .v (Enc.sl eBlk) ([] : (List Blk))]), (106, .box 38 [.v (Enc.int .i64) (ar .quo .i64 z2 (16 : Int)), .ref 130, .ref 168]), (130, .arr 3 (Enc.int .i64) x106.2), (168, .arr 24 eBlk v227)]⟩) (J.cons (.none rfl) (JO.fieldPtr 2 rfl Try.runUnderlying38 rfl Try.sizeOf22 rfl rfl) rfl rfl (J.cons (.none rfl) (JO.load rfl rfl rfl Try.isAgg22 Try.sizeOf22) rfl rfl (J.cons (.none rfl) (JO.load rfl rfl rfl Try.isAgg24 Try.sizeOf24) rfl rfl (J.cons (.none rfl) (JO.lit (e := eBlk) Try.runUnderlying22 Try.sizeOf24 Try.zeroValue24 rfl rfl rfl rfl (.cons (.dir rfl) .nil)) rfl rfl (J.mut (.none rfl) (JM.append 168 hv227 rfl rfl (.sl rfl) Try.runUnderlying22 Try.typeInfo24 Try.sizeOf24 rfl rfl rfl rfl rfl) (J.cons (.none rfl) (JO.fieldPtr 2 rfl Try.runUnderlying38 rfl Try.sizeOf22 rfl rfl) rfl rfl (J.mut (.none rfl) (JM.store rfl rfl rfl rfl rfl rfl rfl Try.sizeOf22) (J.fin (Sw.Sub.mk id (.cons rfl (.of_eq rfl) (.cons rfl (.of_eq rfl) (.cons rfl (.of_eq rfl) (.cons rfl (.of_eq rfl) (.cons rfl (.of_eq rfl) .nil))))) (.box rfl (.cons (.of_eq rfl) (.cons (.of_eq rfl) (.cons (.of_eq rfl) .nil))) (.box rfl (.cons (.of_eq rfl) (.cons (.of_eq rfl) (.cons (.of_eq rfl) .nil))) (.arr rfl (.arr rfl .nil)))) rfl))))))))) ?_
            refine W.fall ?_
            refine W.reg (σ' := ⟨[(0, .v (Enc.sl (Enc.int .u8)) a0), (2, .ptr 101 0), (4, .ptr 106 0), (5, .v (Enc.int .i64) (ar .add .i64 s183.1 (8 : Int))), (10, .v (Enc.int .i64) (ar .add .i64 s183.2.1 (1 : Int)))], [(101, .box 38 [.v (Enc.int .i64) (0 : Int), .v (Enc.sl (Enc.int .i64)) ([] : (List Int)), .v (Enc.sl eBlk) ([] : (List Blk))]), (106, .box 38 [.v (Enc.int .i64) (ar .quo .i64 z2 (16 : Int)), .ref 130, .ref 168]), (130, .arr 3 (Enc.int .i64) x106.2), (168, .arr 24 eBlk v227)]⟩) (J.cons (.none rfl) (JO.move rfl) rfl rfl (J.cons (.none rfl) (JO.arith rfl rfl rfl) rfl rfl (J.cons (.none rfl) (JO.assign rfl) rfl rfl (J.fin (Sw.Sub.mk id (.cons rfl (.of_eq rfl) (.cons rfl (.of_eq rfl) (.cons rfl (.of_eq rfl) (.cons rfl (.of_eq rfl) (.cons rfl (.of_eq rfl) .nil))))) (.box rfl (.cons (.of_eq rfl) (.cons (.of_eq rfl) (.cons (.of_eq rfl) .nil))) (.box rfl (.cons (.of_eq rfl) (.cons (.of_eq rfl) (.cons (.of_eq rfl) .nil))) (.arr rfl (.arr rfl .nil)))) rfl))))) ?_
            obtain rfl := Option.some.inj h
            exact W.next (Sw.Sub.mk (rn [(101, 101), (106, 106), (160, 168), (130, 130)]) (.cons rfl (.of_eq rfl) (.cons rfl (.of_eq rfl) (.cons rfl (.of_eq rfl) (.cons rfl (.of_eq rfl) (.cons rfl (.of_eq rfl) .nil))))) (.box rfl (.cons (.of_eq rfl) (.cons (.of_eq rfl) (.cons (.of_eq rfl) .nil))) (.box rfl (.cons (.of_eq rfl) (.cons (.of_eq rfl) (.cons (.of_eq rfl) .nil))) (.arr rfl (.arr rfl .nil)))) rfl)
          intro s218 r222 h
          refine W.seq ?_
          refine W.seq ?_
          refine W.reg (σ' := ⟨[(0, .v (Enc.sl (Enc.int .u8)) a0), (2, .ptr 101 0), (4, .ptr 106 0), (5, .v (Enc.int .i64) s183.1), (10, .v (Enc.int .i64) s183.2.1), (11, .ptr 167 0), (12, .v (Enc.int .i64) s218.1), (82, .v Enc.bool (cm .lss s218.1 (8 : Int)))], [(101, .box 38 [.v (Enc.int .i64) (0 : Int), .v (Enc.sl (Enc.int .i64)) ([] : (List Int)), .v (Enc.sl eBlk) ([] : (List Blk))]), (106, .box 38 [.v (Enc.int .i64) (ar .quo .i64 z2 (16 : Int)), .ref 130, .ref 160]), (167, .box 24 [.v eBlk s218.2]), (130, .arr 3 (Enc.int .i64) x106.2), (160, .arr 24 eBlk s183.2.2)]⟩) (J.cons (.none rfl) (JO.move rfl) rfl rfl (J.cons (.none rfl) (JO.cmp rfl rfl rfl) rfl rfl (J.fin (Sw.Sub.mk id (.cons rfl (.of_eq rfl) (.cons rfl (.of_eq rfl) (.cons rfl (.of_eq rfl) (.cons rfl (.of_eq rfl) (.cons rfl (.of_eq rfl) (.cons rfl (.of_eq rfl) (.cons rfl (.of_eq rfl) (.cons rfl (.of_eq rfl) .nil)))))))) (.box rfl (.cons (.of_eq rfl) (.cons (.of_eq rfl) (.cons (.of_eq rfl) .nil))) (.box rfl (.cons (.of_eq rfl) (.cons (.of_eq rfl) (.cons (.of_eq rfl) .nil))) (.box rfl (.cons (.of_eq rfl) .nil) (.arr rfl (.arr rfl .nil))))) rfl)))) ?_
          rcases Bool.eq_false_or_eq_true (cm .lss s218.1 (8 : Int)) with hc224 | hc224
          · replace h := cond_t hc224 h
            refine W.condT rfl hc224 ?_
            refine W.skip ?_
            refine W.seq ?_
            refine W.block ?_
            obtain ⟨z225, hz225, h⟩ := bind_e h
            obtain ⟨z226, hz226, h⟩ := bind_e h
            refine W.reg (σ' := ⟨[(0, .v (Enc.sl (Enc.int .u8)) a0), (2, .ptr 101 0), (4, .ptr 106 0), (5, .v (Enc.int .i64) s183.1), (10, .v (Enc.int .i64) s183.2.1), (11, .ptr 167 0), (12, .v (Enc.int .i64) s218.1)], [(101, .box 38 [.v (Enc.int .i64) (0 : Int), .v (Enc.sl (Enc.int .i64)) ([] : (List Int)), .v (Enc.sl eBlk) ([] : (List Blk))]), (106, .box 38 [.v (Enc.int .i64) (ar .quo .i64 z2 (16 : Int)), .ref 130, .ref 160]), (167, .box 24 [.v eBlk (List.set s218.2 (Int.toNat s218.1) z225)]), (130, .arr 3 (Enc.int .i64) x106.2), (160, .arr 24 eBlk s183.2.2)]⟩) (J.cons (.none rfl) (JO.move rfl) rfl rfl (J.cons (.none rfl) (JO.move rfl) rfl rfl (J.cons (.none rfl) (JO.move rfl) rfl rfl (J.cons (.none rfl) (JO.move rfl) rfl rfl (J.cons (.none rfl) (JO.arith rfl rfl rfl) rfl rfl (J.cons (.none rfl) (JO.idx hz225 rfl rfl Try.runUnderlying40 Try.sizeOf5) rfl rfl (J.cons (.none rfl) (JO.loadPst rfl Try.isAgg5 Try.sizeOf5) rfl rfl (J.cons (.none rfl) (JO.idxBox hz226 rfl rfl rfl rfl Try.runUnderlying24 Try.sizeOf5) rfl rfl (J.mut (.none rfl) (JM.storePel (idx_some hz226).2.2 rfl rfl rfl rfl Try.sizeOf5) (J.fin (Sw.Sub.mk id (.cons rfl (.of_eq rfl) (.cons rfl (.of_eq rfl) (.cons rfl (.of_eq rfl) (.cons rfl (.of_eq rfl) (.cons rfl (.of_eq rfl) (.cons rfl (.of_eq rfl) (.cons rfl (.of_eq rfl) .nil))))))) (.box rfl (.cons (.of_eq rfl) (.cons (.of_eq rfl) (.cons (.of_eq rfl) .nil))) (.box rfl (.cons (.of_eq rfl) (.cons (.of_eq rfl) (.cons (.of_eq rfl) .nil))) (.box rfl (.cons (.of_eq rfl) .nil) (.arr rfl (.arr rfl .nil))))) rfl))))))))))) ?_
            refine W.fall ?_
            refine W.reg (σ' := ⟨[(0, .v (Enc.sl (Enc.int .u8)) a0), (2, .ptr 101 0), (4, .ptr 106 0), (5, .v (Enc.int .i64) s183.1), (10, .v (Enc.int .i64) s183.2.1), (11, .ptr 167 0), (12, .v (Enc.int .i64) (ar .add .i64 s218.1 (1 : Int)))], [(101, .box 38 [.v (Enc.int .i64) (0 : Int), .v (Enc.sl (Enc.int .i64)) ([] : (List Int)), .v (Enc.sl eBlk) ([] : (List Blk))]), (106, .box 38 [.v (Enc.int .i64) (ar .quo .i64 z2 (16 : Int)), .ref 130, .ref 160]), (167, .box 24 [.v eBlk (List.set s218.2 (Int.toNat s218.1) z225)]), (130, .arr 3 (Enc.int .i64) x106.2), (160, .arr 24 eBlk s183.2.2)]⟩) (J.cons (.none rfl) (JO.move rfl) rfl rfl (J.cons (.none rfl) (JO.arith rfl rfl rfl) rfl rfl (J.cons (.none rfl) (JO.assign rfl) rfl rfl (J.fin (Sw.Sub.mk id (.cons rfl (.of_eq rfl) (.cons rfl (.of_eq rfl) (.cons rfl (.of_eq rfl) (.cons rfl (.of_eq rfl) (.cons rfl (.of_eq rfl) (.cons rfl (.of_eq rfl) (.cons rfl (.of_eq rfl) .nil))))))) (.box rfl (.cons (.of_eq rfl) (.cons (.of_eq rfl) (.cons (.of_eq rfl) .nil))) (.box rfl (.cons (.of_eq rfl) (.cons (.of_eq rfl) (.cons (.of_eq rfl) .nil))) (.box rfl (.cons (.of_eq rfl) .nil) (.arr rfl (.arr rfl .nil))))) rfl))))) ?_
            obtain rfl := Option.some.inj h
            exact W.next (Sw.Sub.mk id (.cons rfl (.of_eq rfl) (.cons rfl (.of_eq rfl) (.cons rfl (.of_eq rfl) (.cons rfl (.of_eq rfl) (.cons rfl (.of_eq rfl) (.cons rfl (.of_eq rfl) (.cons rfl (.of_eq rfl) .nil))))))) (.box rfl (.cons (.of_eq rfl) (.cons (.of_eq rfl) (.cons (.of_eq rfl) .nil))) (.box rfl (.cons (.of_eq rfl) (.cons (.of_eq rfl) (.cons (.of_eq rfl) .nil))) (.box rfl (.cons (.of_eq rfl) .nil) (.arr rfl (.arr rfl .nil))))) rfl)
          · replace h := cond_f hc224 h
            refine W.condF rfl hc224 ?_
            refine W.exit ?_
            obtain rfl := Option.some.inj h
            exact XQ.brk (Sw.Sub.mk id (.cons rfl (.of_eq rfl) (.cons rfl (.of_eq rfl) (.cons rfl (.of_eq rfl) (.cons rfl (.of_eq rfl) (.cons rfl (.of_eq rfl) (.cons rfl (.of_eq rfl) .nil)))))) (.box rfl (.cons (.of_eq rfl) (.cons (.of_eq rfl) (.cons (.of_eq rfl) .nil))) (.box rfl (.cons (.of_eq rfl) (.cons (.of_eq rfl) (.cons (.of_eq rfl) .nil))) (.box rfl (.cons (.of_eq rfl) .nil) (.arr rfl (.arr rfl .nil))))) rfl)
      · replace h := cond_f hc208 h
        refine W.condF rfl hc208 ?_
        refine W.exit ?_
        obtain rfl := Option.some.inj h
        exact XQ.brk (Sw.Sub.mk id (.cons rfl (.of_eq rfl) (.cons rfl (.of_eq rfl) (.cons rfl (.of_eq rfl) .nil))) (.box rfl (.cons (.of_eq rfl) (.cons (.of_eq rfl) (.cons (.of_eq rfl) .nil))) (.box rfl (.cons (.of_eq rfl) (.cons (.of_eq rfl) (.cons (.of_eq rfl) .nil))) (.arr rfl (.arr rfl .nil)))) rfl)
    intro s71 r105 h
    refine W.seq ?_
    refine W.seq ?_
    obtain ⟨z107, hz107, h⟩ := bind_e h
    refine W.reg (σ' := ⟨[(0, .v (Enc.sl (Enc.int .u8)) a0), (2, .ptr 101 0), (4, .ptr 106 0), (5, .v (Enc.int .i64) s71.1), (6, .v (Enc.int .i64) s71.2.1), (29, .v Enc.bool (cm .lss s71.2.1 (ar .rem .i64 z107 (16 : Int))))], [(101, .box 38 [.v (Enc.int .i64) (0 : Int), .v (Enc.sl (Enc.int .i64)) ([] : (List Int)), .v (Enc.sl eBlk) ([] : (List Blk))]), (106, .box 38 [.v (Enc.int .i64) (ar .quo .i64 z2 (16 : Int)), .ref 130, .ref 104]), (130, .arr 3 (Enc.int .i64) s71.2.2), (104, .arr 24 eBlk ([] : (List Blk)))]⟩) (J.cons (.none rfl) (JO.move rfl) rfl rfl (J.cons (.none rfl) (JO.move rfl) rfl rfl (J.cons (.none rfl) (JO.idx hz107 rfl rfl Try.runUnderlying40 Try.sizeOf5) rfl rfl (J.cons (.none rfl) (JO.loadPst rfl Try.isAgg5 Try.sizeOf5) rfl rfl (J.cons (.none rfl) (JO.convUp Try.runUnderlying5 Try.runUnderlying3 rfl rfl) rfl rfl (J.cons (.none rfl) (JO.div (.inr rfl) (by decide) rfl rfl) rfl rfl (J.cons (.none rfl) (JO.cmp rfl rfl rfl) rfl rfl (J.fin (Sw.Sub.mk id (.cons rfl (.of_eq rfl) (.cons rfl (.of_eq rfl) (.cons rfl (.of_eq rfl) (.cons rfl (.of_eq rfl) (.cons rfl (.of_eq rfl) (.cons rfl (.of_eq rfl) .nil)))))) (.box rfl (.cons (.of_eq rfl) (.cons (.of_eq rfl) (.cons (.of_eq rfl) .nil))) (.box rfl (.cons (.of_eq rfl) (.cons (.of_eq rfl) (.cons (.of_eq rfl) .nil))) (.arr rfl (.arr rfl .nil)))) rfl))))))))) ?_
    rcases Bool.eq_false_or_eq_true (cm .lss s71.2.1 (ar .rem .i64 z107 (16 : Int))) with hc108 | hc108
    · replace h := cond_t hc108 h
      refine W.condT rfl hc108 ?_
      refine W.skip ?_
      refine W.seq ?_
      refine W.block ?_
      refine W.seq ?_
      refine W.reg (σ' := ⟨[(0, .v (Enc.sl (Enc.int .u8)) a0), (2, .ptr 101 0), (4, .ptr 106 0), (5, .v (Enc.int .i64) s71.1), (6, .v (Enc.int .i64) s71.2.1), (7, .v (Enc.int .i64) (0 : Int))], [(101, .box 38 [.v (Enc.int .i64) (0 : Int), .v (Enc.sl (Enc.int .i64)) ([] : (List Int)), .v (Enc.sl eBlk) ([] : (List Blk))]), (106, .box 38 [.v (Enc.int .i64) (ar .quo .i64 z2 (16 : Int)), .ref 130, .ref 104]), (130, .arr 3 (Enc.int .i64) s71.2.2), (104, .arr 24 eBlk ([] : (List Blk)))]⟩) (J.cons (.none rfl) (JO.assign rfl) rfl rfl (J.fin (Sw.Sub.mk id (.cons rfl (.of_eq rfl) (.cons rfl (.of_eq rfl) (.cons rfl (.of_eq rfl) (.cons rfl (.of_eq rfl) (.cons rfl (.of_eq rfl) (.cons rfl (.of_eq rfl) .nil)))))) (.box rfl (.cons (.of_eq rfl) (.cons (.of_eq rfl) (.cons (.of_eq rfl) .nil))) (.box rfl (.cons (.of_eq rfl) (.cons (.of_eq rfl) (.cons (.of_eq rfl) .nil))) (.arr rfl (.arr rfl .nil)))) rfl))) ?_
      refine W.seq ?_
      refine W.reg (σ' := ⟨[(0, .v (Enc.sl (Enc.int .u8)) a0), (2, .ptr 101 0), (4, .ptr 106 0), (5, .v (Enc.int .i64) s71.1), (6, .v (Enc.int .i64) s71.2.1), (7, .v (Enc.int .i64) (0 : Int)), (8, .v (Enc.int .i64) (1 : Int))], [(101, .box 38 [.v (Enc.int .i64) (0 : Int), .v (Enc.sl (Enc.int .i64)) ([] : (List Int)), .v (Enc.sl eBlk) ([] : (List Blk))]), (106, .box 38 [.v (Enc.int .i64) (ar .quo .i64 z2 (16 : Int)), .ref 130, .ref 104]), (130, .arr 3 (Enc.int .i64) s71.2.2), (104, .arr 24 eBlk ([] : (List Blk)))]⟩) (J.cons (.none rfl) (JO.assign rfl) rfl rfl (J.fin (Sw.Sub.mk id (.cons rfl (.of_eq rfl) (.cons rfl (.of_eq rfl) (.cons rfl (.of_eq rfl) (.cons rfl (.of_eq rfl) (.cons rfl (.of_eq rfl) (.cons rfl (.of_eq rfl) (.cons rfl (.of_eq rfl) .nil))))))) (.box rfl (.cons (.of_eq rfl) (.cons (.of_eq rfl) (.cons (.of_eq rfl) .nil))) (.box rfl (.cons (.of_eq rfl) (.cons (.of_eq rfl) (.cons (.of_eq rfl) .nil))) (.arr rfl (.arr rfl .nil)))) rfl))) ?_
      refine W.seq ?_
      obtain ⟨o130, ho130, hb130, hr130⟩ := lp_elim h
      refine W.lp (σs := fun s123 : Int × Int × Int => ⟨[(0, .v (Enc.sl (Enc.int .u8)) a0), (2, .ptr 101 0), (4, .ptr 106 0), (5, .v (Enc.int .i64) s123.1), (6, .v (Enc.int .i64) s71.2.1), (7, .v (Enc.int .i64) s123.2.1), (8, .v (Enc.int .i64) s123.2.2)], [(101, .box 38 [.v (Enc.int .i64) (0 : Int), .v (Enc.sl (Enc.int .i64)) ([] : (List Int)), .v (Enc.sl eBlk) ([] : (List Blk))]), (106, .box 38 [.v (Enc.int .i64) (ar .quo .i64 z2 (16 : Int)), .ref 130, .ref 104]), (130, .arr 3 (Enc.int .i64) s71.2.2), (104, .arr 24 eBlk ([] : (List Blk)))]⟩) (fun x131 : Int × Int => ⟨[(0, .v (Enc.sl (Enc.int .u8)) a0), (2, .ptr 101 0), (4, .ptr 106 0), (5, .v (Enc.int .i64) x131.1), (6, .v (Enc.int .i64) s71.2.1), (7, .v (Enc.int .i64) x131.2)], [(101, .box 38 [.v (Enc.int .i64) (0 : Int), .v (Enc.sl (Enc.int .i64)) ([] : (List Int)), .v (Enc.sl eBlk) ([] : (List Blk))]), (106, .box 38 [.v (Enc.int .i64) (ar .quo .i64 z2 (16 : Int)), .ref 130, .ref 104]), (130, .arr 3 (Enc.int .i64) s71.2.2), (104, .arr 24 eBlk ([] : (List Blk)))]⟩) ho130 (Sw.Sub.mk id (.cons rfl (.of_eq rfl) (.cons rfl (.of_eq rfl) (.cons rfl (.of_eq rfl) (.cons rfl (.of_eq rfl) (.cons rfl (.of_eq rfl) (.cons rfl (.of_eq rfl) (.cons rfl (.of_eq rfl) .nil))))))) (.box rfl (.cons (.of_eq rfl) (.cons (.of_eq rfl) (.cons (.of_eq rfl) .nil))) (.box rfl (.cons (.of_eq rfl) (.cons (.of_eq rfl) (.cons (.of_eq rfl) .nil))) (.arr rfl (.arr rfl .nil)))) rfl) ?_ ?_
      · intro x131 hy
        have h := hb130 _ hy
        obtain ⟨v138, hv138, h⟩ := bind_e h
        refine W.reg (σ' := ⟨[(0, .v (Enc.sl (Enc.int .u8)) a0), (2, .ptr 101 0), (4, .ptr 106 0), (5, .v (Enc.int .i64) x131.1), (6, .v (Enc.int .i64) s71.2.1)], [(101, .box 38 [.v (Enc.int .i64) (0 : Int), .v (Enc.sl (Enc.int .i64)) ([] : (List Int)), .v (Enc.sl eBlk) ([] : (List Blk))]), (106, .box 38 [.v (Enc.int .i64) (ar .quo .i64 z2 (16 : Int)), .ref 148, .ref 104]), (148, .arr 3 (Enc.int .i64) v138), (104, .arr 24 eBlk ([] : (List Blk)))]⟩) (J.cons (.none rfl) (JO.fieldPtr 1 rfl Try.runUnderlying38 rfl Try.sizeOf36 rfl rfl) rfl rfl (J.cons (.none rfl) (JO.load rfl rfl rfl Try.isAgg36 Try.sizeOf36) rfl rfl (J.cons (.none rfl) (JO.move rfl) rfl rfl (J.cons (.none rfl) (JO.lit (e := (Enc.int .i64)) Try.runUnderlying36 Try.sizeOf3 Try.zeroValue3 rfl rfl rfl rfl (.cons (.dir rfl) .nil)) rfl rfl (J.mut (.none rfl) (JM.append 148 hv138 rfl rfl (.sl rfl) Try.runUnderlying36 Try.typeInfo3 Try.sizeOf3 rfl rfl rfl rfl rfl) (J.cons (.none rfl) (JO.fieldPtr 1 rfl Try.runUnderlying38 rfl Try.sizeOf36 rfl rfl) rfl rfl (J.mut (.none rfl) (JM.store rfl rfl rfl rfl rfl rfl rfl Try.sizeOf36) (J.fin (Sw.Sub.mk id (.cons rfl (.of_eq rfl) (.cons rfl (.of_eq rfl) (.cons rfl (.of_eq rfl) (.cons rfl (.of_eq rfl) (.cons rfl (.of_eq rfl) .nil))))) (.box rfl (.cons (.of_eq rfl) (.cons (.of_eq rfl) (.cons (.of_eq rfl) .nil))) (.box rfl (.cons (.of_eq rfl) (.cons (.of_eq rfl) (.cons (.of_eq rfl) .nil))) (.arr rfl (.arr rfl .nil)))) rfl))))))))) ?_
        refine W.fall ?_
        refine W.reg (σ' := ⟨[(0, .v (Enc.sl (Enc.int .u8)) a0), (2, .ptr 101 0), (4, .ptr 106 0), (5, .v (Enc.int .i64) x131.1), (6, .v (Enc.int .i64) (ar .add .i64 s71.2.1 (1 : Int)))], [(101, .box 38 [.v (Enc.int .i64) (0 : Int), .v (Enc.sl (Enc.int .i64)) ([] : (List Int)), .v (Enc.sl eBlk) ([] : (List Blk))]), (106, .box 38 [.v (Enc.int .i64) (ar .quo .i64 z2 (16 : Int)), .ref 148, .ref 104]), (148, .arr 3 (Enc.int .i64) v138), (104, .arr 24 eBlk ([] : (List Blk)))]⟩) (J.cons (.none rfl) (JO.move rfl) rfl rfl (J.cons (.none rfl) (JO.arith rfl rfl rfl) rfl rfl (J.cons (.none rfl) (JO.assign rfl) rfl rfl (J.fin (Sw.Sub.mk id (.cons rfl (.of_eq rfl) (.cons rfl (.of_eq rfl) (.cons rfl (.of_eq rfl) (.cons rfl (.of_eq rfl) (.cons rfl (.of_eq rfl) .nil))))) (.box rfl (.cons (.of_eq rfl) (.cons (.of_eq rfl) (.cons (.of_eq rfl) .nil))) (.box rfl (.cons (.of_eq rfl) (.cons (.of_eq rfl) (.cons (.of_eq rfl) .nil))) (.arr rfl (.arr rfl .nil)))) rfl))))) ?_
        obtain rfl := Option.some.inj h
        exact W.next (Sw.Sub.mk (rn [(101, 101), (106, 106), (104, 104), (130, 148)]) (.cons rfl (.of_eq rfl) (.cons rfl (.of_eq rfl) (.cons rfl (.of_eq rfl) (.cons rfl (.of_eq rfl) (.cons rfl (.of_eq rfl) .nil))))) (.box rfl (.cons (.of_eq rfl) (.cons (.of_eq rfl) (.cons (.of_eq rfl) .nil))) (.box rfl (.cons (.of_eq rfl) (.cons (.of_eq rfl) (.cons (.of_eq rfl) .nil))) (.arr rfl (.arr rfl .nil)))) rfl)
      intro s123 r130 h
      refine W.block ?_
      refine W.seq ?_
      refine W.seq ?_
      obtain ⟨x133, hx, h⟩ := bind_e h
      refine W.reg (σ' := ⟨[(0, .v (Enc.sl (Enc.int .u8)) a0), (2, .ptr 101 0), (4, .ptr 106 0), (5, .v (Enc.int .i64) s123.1), (6, .v (Enc.int .i64) s71.2.1), (7, .v (Enc.int .i64) s123.2.1), (8, .v (Enc.int .i64) s123.2.2), (40, .v Enc.bool x133)], [(101, .box 38 [.v (Enc.int .i64) (0 : Int), .v (Enc.sl (Enc.int .i64)) ([] : (List Int)), .v (Enc.sl eBlk) ([] : (List Blk))]), (106, .box 38 [.v (Enc.int .i64) (ar .quo .i64 z2 (16 : Int)), .ref 130, .ref 104]), (130, .arr 3 (Enc.int .i64) s71.2.2), (104, .arr 24 eBlk ([] : (List Blk)))]⟩) ?_ ?_
      · rcases Bool.eq_false_or_eq_true (cm .geq s123.1 (ar .sub .i64 (a0.length : Int) (4 : Int))) with hc134 | hc134
        · replace hx := cond_t hc134 hx
          obtain rfl := Option.some.inj hx
          exact (J.cons (.none rfl) (JO.move rfl) rfl rfl (J.cons (.none rfl) (JO.move rfl) rfl rfl (J.cons (.none rfl) (JO.len rfl Try.runUnderlying40) rfl rfl (J.cons (.none rfl) (JO.arith rfl rfl rfl) rfl rfl (J.cons (.none rfl) (JO.cmp rfl rfl rfl) rfl rfl (J.cons (.none rfl) (JO.move rfl) rfl rfl (J.left (GK.unmet 37 rfl rfl rfl hc134) rfl (J.left (GK.unmet 37 rfl rfl rfl hc134) rfl (J.cons (.none rfl) (JO.pT hc134 rfl rfl) rfl rfl (J.fin (Sw.Sub.mk id (.cons rfl (.of_eq rfl) (.cons rfl (.of_eq rfl) (.cons rfl (.of_eq rfl) (.cons rfl (.of_eq rfl) (.cons rfl (.of_eq rfl) (.cons rfl (.of_eq rfl) (.cons rfl (.of_eq rfl) (.cons rfl (.of_eq rfl) .nil)))))))) (.box rfl (.cons (.of_eq rfl) (.cons (.of_eq rfl) (.cons (.of_eq rfl) .nil))) (.box rfl (.cons (.of_eq rfl) (.cons (.of_eq rfl) (.cons (.of_eq rfl) .nil))) (.arr rfl (.arr rfl .nil)))) rfl)))))))))))
        · replace hx := cond_f hc134 hx
          obtain rfl := Option.some.inj hx
          exact (J.cons (.none rfl) (JO.move rfl) rfl rfl (J.cons (.none rfl) (JO.move rfl) rfl rfl (J.cons (.none rfl) (JO.len rfl Try.runUnderlying40) rfl rfl (J.cons (.none rfl) (JO.arith rfl rfl rfl) rfl rfl (J.cons (.none rfl) (JO.cmp rfl rfl rfl) rfl rfl (J.cons (.none rfl) (JO.move rfl) rfl rfl (J.cons (GK.met 37 rfl rfl rfl hc134) (JO.move rfl) rfl rfl (J.cons (GK.met 37 rfl rfl rfl hc134) (JO.cmp rfl rfl rfl) rfl rfl (J.cons (.none rfl) (JO.pF hc134 rfl rfl) rfl rfl (J.fin (Sw.Sub.mk id (.cons rfl (.of_eq rfl) (.cons rfl (.of_eq rfl) (.cons rfl (.of_eq rfl) (.cons rfl (.of_eq rfl) (.cons rfl (.of_eq rfl) (.cons rfl (.of_eq rfl) (.cons rfl (.of_eq rfl) (.cons rfl (.of_eq rfl) .nil)))))))) (.box rfl (.cons (.of_eq rfl) (.cons (.of_eq rfl) (.cons (.of_eq rfl) .nil))) (.box rfl (.cons (.of_eq rfl) (.cons (.of_eq rfl) (.cons (.of_eq rfl) .nil))) (.arr rfl (.arr rfl .nil)))) rfl)))))))))))
      rcases Bool.eq_false_or_eq_true x133 with hc135 | hc135
      · replace h := cond_t hc135 h
        refine W.condT rfl hc135 ?_
        refine W.seq ?_
        refine W.reg (σ' := ⟨[(2, .ptr 101 0), (3, .v Enc.bool false)], [(101, .box 38 [.v (Enc.int .i64) (0 : Int), .ref 147, .ref 146]), (147, .arr 3 (Enc.int .i64) ([] : (List Int))), (146, .arr 24 eBlk ([] : (List Blk)))]⟩) (J.cons (.none rfl) (JO.buildN (new := [(147, .arr 3 (Enc.int .i64) ([] : (List Int))), (146, .arr 24 eBlk ([] : (List Blk)))]) built38 (.cons (Z.int .i64) (.ref 147 rfl (.ref 146 rfl .nil))) (.cons (.cons .nil)) rfl .nil) rfl rfl (J.mut (.none rfl) (JM.storeAgg rfl rfl rfl rfl rfl rfl Try.sizeOf38) (J.cons (.none rfl) (JO.assign rfl) rfl rfl (J.fin (Sw.Sub.mk id (.cons rfl (.of_eq rfl) (.cons rfl (.of_eq rfl) .nil)) (.box rfl (.cons (.of_eq rfl) (.cons (.of_eq rfl) (.cons (.of_eq rfl) .nil))) (.arr rfl (.arr rfl .nil))) rfl))))) ?_
        refine W.ret ?_
        refine XQ.ret ?_
        obtain rfl := Option.some.inj h
        refine XQ.lret fun ho => ?_
        obtain rfl := hr130 _ ho
        refine XQ.ret ?_
        refine XQ.lret fun ho => ?_
        obtain rfl := hr105 _ ho
        exact XQ.sub (σ' := ⟨[(2, .ptr 90 0), (3, .v Enc.bool false)], [(90, .box 38 [.v (Enc.int .i64) (0 : Int), .v (Enc.sl (Enc.int .i64)) ([] : (List Int)), .v (Enc.sl eBlk) ([] : (List Blk))])]⟩) (Sw.Sub.mk (rn [(90, 101)]) (.cons rfl (.of_eq rfl) (.cons rfl (.of_eq rfl) .nil)) (.box rfl (.cons (.of_eq rfl) (.cons (.frz rfl rfl) (.cons (.frz rfl rfl) .nil))) .nil) rfl) (XQ.ret2 hF noR rfl (RV.cellAll rfl rfl (.prm (.one _ _) (.prm (.one _ _) (.one _ _))) Try.isAgg38 Try.sizeOf38) (RV.tmp rfl) .nil rfl)
      · replace h := cond_f hc135 h
        refine W.condF rfl hc135 ?_
        refine W.skip ?_
        refine W.seq ?_
        obtain ⟨z136, hz136, h⟩ := bind_e h
        refine W.reg (σ' := ⟨[(0, .v (Enc.sl (Enc.int .u8)) a0), (2, .ptr 101 0), (4, .ptr 106 0), (5, .v (Enc.int .i64) s123.1), (6, .v (Enc.int .i64) s71.2.1), (7, .v (Enc.int .i64) s123.2.1), (8, .v (Enc.int .i64) s123.2.2), (9, .v (Enc.int .i64) z136)], [(101, .box 38 [.v (Enc.int .i64) (0 : Int), .v (Enc.sl (Enc.int .i64)) ([] : (List Int)), .v (Enc.sl eBlk) ([] : (List Blk))]), (106, .box 38 [.v (Enc.int .i64) (ar .quo .i64 z2 (16 : Int)), .ref 130, .ref 104]), (130, .arr 3 (Enc.int .i64) s71.2.2), (104, .arr 24 eBlk ([] : (List Blk)))]⟩) (J.cons (.none rfl) (JO.move rfl) rfl rfl (J.cons (.none rfl) (JO.move rfl) rfl rfl (J.cons (.none rfl) (JO.idx hz136 rfl rfl Try.runUnderlying40 Try.sizeOf5) rfl rfl (J.cons (.none rfl) (JO.loadPst rfl Try.isAgg5 Try.sizeOf5) rfl rfl (J.cons (.none rfl) (JO.convUp Try.runUnderlying5 Try.runUnderlying3 rfl rfl) rfl rfl (J.cons (.none rfl) (JO.assign rfl) rfl rfl (J.fin (Sw.Sub.mk id (.cons rfl (.of_eq rfl) (.cons rfl (.of_eq rfl) (.cons rfl (.of_eq rfl) (.cons rfl (.of_eq rfl) (.cons rfl (.of_eq rfl) (.cons rfl (.of_eq rfl) (.cons rfl (.of_eq rfl) (.cons rfl (.of_eq rfl) .nil)))))))) (.box rfl (.cons (.of_eq rfl) (.cons (.of_eq rfl) (.cons (.of_eq rfl) .nil))) (.box rfl (.cons (.of_eq rfl) (.cons (.of_eq rfl) (.cons (.of_eq rfl) .nil))) (.arr rfl (.arr rfl .nil)))) rfl)))))))) ?_
        refine W.seq ?_
        refine W.reg (σ' := ⟨[(0, .v (Enc.sl (Enc.int .u8)) a0), (2, .ptr 101 0), (4, .ptr 106 0), (5, .v (Enc.int .i64) (ar .add .i64 s123.1 (1 : Int))), (6, .v (Enc.int .i64) s71.2.1), (7, .v (Enc.int .i64) s123.2.1), (8, .v (Enc.int .i64) s123.2.2), (9, .v (Enc.int .i64) z136)], [(101, .box 38 [.v (Enc.int .i64) (0 : Int), .v (Enc.sl (Enc.int .i64)) ([] : (List Int)), .v (Enc.sl eBlk) ([] : (List Blk))]), (106, .box 38 [.v (Enc.int .i64) (ar .quo .i64 z2 (16 : Int)), .ref 130, .ref 104]), (130, .arr 3 (Enc.int .i64) s71.2.2), (104, .arr 24 eBlk ([] : (List Blk)))]⟩) (J.cons (.none rfl) (JO.move rfl) rfl rfl (J.cons (.none rfl) (JO.arith rfl rfl rfl) rfl rfl (J.cons (.none rfl) (JO.assign rfl) rfl rfl (J.fin (Sw.Sub.mk id (.cons rfl (.of_eq rfl) (.cons rfl (.of_eq rfl) (.cons rfl (.of_eq rfl) (.cons rfl (.of_eq rfl) (.cons rfl (.of_eq rfl) (.cons rfl (.of_eq rfl) (.cons rfl (.of_eq rfl) (.cons rfl (.of_eq rfl) .nil)))))))) (.box rfl (.cons (.of_eq rfl) (.cons (.of_eq rfl) (.cons (.of_eq rfl) .nil))) (.box rfl (.cons (.of_eq rfl) (.cons (.of_eq rfl) (.cons (.of_eq rfl) .nil))) (.arr rfl (.arr rfl .nil)))) rfl))))) ?_
        refine W.seq ?_
        refine W.reg (σ' := ⟨[(0, .v (Enc.sl (Enc.int .u8)) a0), (2, .ptr 101 0), (4, .ptr 106 0), (5, .v (Enc.int .i64) (ar .add .i64 s123.1 (1 : Int))), (6, .v (Enc.int .i64) s71.2.1), (7, .v (Enc.int .i64) (ar .add .i64 s123.2.1 (ar .mul .i64 (ar .rem .i64 z136 (128 : Int)) s123.2.2))), (8, .v (Enc.int .i64) s123.2.2), (9, .v (Enc.int .i64) z136)], [(101, .box 38 [.v (Enc.int .i64) (0 : Int), .v (Enc.sl (Enc.int .i64)) ([] : (List Int)), .v (Enc.sl eBlk) ([] : (List Blk))]), (106, .box 38 [.v (Enc.int .i64) (ar .quo .i64 z2 (16 : Int)), .ref 130, .ref 104]), (130, .arr 3 (Enc.int .i64) s71.2.2), (104, .arr 24 eBlk ([] : (List Blk)))]⟩) (J.cons (.none rfl) (JO.move rfl) rfl rfl (J.cons (.none rfl) (JO.move rfl) rfl rfl (J.cons (.none rfl) (JO.div (.inr rfl) (by decide) rfl rfl) rfl rfl (J.cons (.none rfl) (JO.move rfl) rfl rfl (J.cons (.none rfl) (JO.arith rfl rfl rfl) rfl rfl (J.cons (.none rfl) (JO.arith rfl rfl rfl) rfl rfl (J.cons (.none rfl) (JO.assign rfl) rfl rfl (J.fin (Sw.Sub.mk id (.cons rfl (.of_eq rfl) (.cons rfl (.of_eq rfl) (.cons rfl (.of_eq rfl) (.cons rfl (.of_eq rfl) (.cons rfl (.of_eq rfl) (.cons rfl (.of_eq rfl) (.cons rfl (.of_eq rfl) (.cons rfl (.of_eq rfl) .nil)))))))) (.box rfl (.cons (.of_eq rfl) (.cons (.of_eq rfl) (.cons (.of_eq rfl) .nil))) (.box rfl (.cons (.of_eq rfl) (.cons (.of_eq rfl) (.cons (.of_eq rfl) .nil))) (.arr rfl (.arr rfl .nil)))) rfl))))))))) ?_
        refine W.seq ?_
        refine W.reg (σ' := ⟨[(0, .v (Enc.sl (Enc.int .u8)) a0), (2, .ptr 101 0), (4, .ptr 106 0), (5, .v (Enc.int .i64) (ar .add .i64 s123.1 (1 : Int))), (6, .v (Enc.int .i64) s71.2.1), (7, .v (Enc.int .i64) (ar .add .i64 s123.2.1 (ar .mul .i64 (ar .rem .i64 z136 (128 : Int)) s123.2.2))), (8, .v (Enc.int .i64) (ar .mul .i64 s123.2.2 (128 : Int))), (9, .v (Enc.int .i64) z136)], [(101, .box 38 [.v (Enc.int .i64) (0 : Int), .v (Enc.sl (Enc.int .i64)) ([] : (List Int)), .v (Enc.sl eBlk) ([] : (List Blk))]), (106, .box 38 [.v (Enc.int .i64) (ar .quo .i64 z2 (16 : Int)), .ref 130, .ref 104]), (130, .arr 3 (Enc.int .i64) s71.2.2), (104, .arr 24 eBlk ([] : (List Blk)))]⟩) (J.cons (.none rfl) (JO.move rfl) rfl rfl (J.cons (.none rfl) (JO.arith rfl rfl rfl) rfl rfl (J.cons (.none rfl) (JO.assign rfl) rfl rfl (J.fin (Sw.Sub.mk id (.cons rfl (.of_eq rfl) (.cons rfl (.of_eq rfl) (.cons rfl (.of_eq rfl) (.cons rfl (.of_eq rfl) (.cons rfl (.of_eq rfl) (.cons rfl (.of_eq rfl) (.cons rfl (.of_eq rfl) (.cons rfl (.of_eq rfl) .nil)))))))) (.box rfl (.cons (.of_eq rfl) (.cons (.of_eq rfl) (.cons (.of_eq rfl) .nil))) (.box rfl (.cons (.of_eq rfl) (.cons (.of_eq rfl) (.cons (.of_eq rfl) .nil))) (.arr rfl (.arr rfl .nil)))) rfl))))) ?_
        refine W.seq ?_
        refine W.reg (σ' := ⟨[(0, .v (Enc.sl (Enc.int .u8)) a0), (2, .ptr 101 0), (4, .ptr 106 0), (5, .v (Enc.int .i64) (ar .add .i64 s123.1 (1 : Int))), (6, .v (Enc.int .i64) s71.2.1), (7, .v (Enc.int .i64) (ar .add .i64 s123.2.1 (ar .mul .i64 (ar .rem .i64 z136 (128 : Int)) s123.2.2))), (8, .v (Enc.int .i64) (ar .mul .i64 s123.2.2 (128 : Int))), (58, .v Enc.bool (cm .lss z136 (128 : Int)))], [(101, .box 38 [.v (Enc.int .i64) (0 : Int), .v (Enc.sl (Enc.int .i64)) ([] : (List Int)), .v (Enc.sl eBlk) ([] : (List Blk))]), (106, .box 38 [.v (Enc.int .i64) (ar .quo .i64 z2 (16 : Int)), .ref 130, .ref 104]), (130, .arr 3 (Enc.int .i64) s71.2.2), (104, .arr 24 eBlk ([] : (List Blk)))]⟩) (J.cons (.none rfl) (JO.move rfl) rfl rfl (J.cons (.none rfl) (JO.cmp rfl rfl rfl) rfl rfl (J.fin (Sw.Sub.mk id (.cons rfl (.of_eq rfl) (.cons rfl (.of_eq rfl) (.cons rfl (.of_eq rfl) (.cons rfl (.of_eq rfl) (.cons rfl (.of_eq rfl) (.cons rfl (.of_eq rfl) (.cons rfl (.of_eq rfl) (.cons rfl (.of_eq rfl) .nil)))))))) (.box rfl (.cons (.of_eq rfl) (.cons (.of_eq rfl) (.cons (.of_eq rfl) .nil))) (.box rfl (.cons (.of_eq rfl) (.cons (.of_eq rfl) (.cons (.of_eq rfl) .nil))) (.arr rfl (.arr rfl .nil)))) rfl)))) ?_
        rcases Bool.eq_false_or_eq_true (cm .lss z136 (128 : Int)) with hc137 | hc137
        · replace h := cond_t hc137 h
          refine W.condT rfl hc137 ?_
          refine W.exit ?_
          refine XQ.miss rfl ?_
          obtain rfl := Option.some.inj h
          exact XQ.brk (Sw.Sub.mk id (.cons rfl (.of_eq rfl) (.cons rfl (.of_eq rfl) (.cons rfl (.of_eq rfl) (.cons rfl (.of_eq rfl) (.cons rfl (.of_eq rfl) (.cons rfl (.of_eq rfl) .nil)))))) (.box rfl (.cons (.of_eq rfl) (.cons (.of_eq rfl) (.cons (.of_eq rfl) .nil))) (.box rfl (.cons (.of_eq rfl) (.cons (.of_eq rfl) (.cons (.of_eq rfl) .nil))) (.arr rfl (.arr rfl .nil)))) rfl)
        · replace h := cond_f hc137 h
          refine W.condF rfl hc137 ?_
          refine W.skip ?_
          refine W.fall ?_
          obtain rfl := Option.some.inj h
          exact W.next (Sw.Sub.mk id (.cons rfl (.of_eq rfl) (.cons rfl (.of_eq rfl) (.cons rfl (.of_eq rfl) (.cons rfl (.of_eq rfl) (.cons rfl (.of_eq rfl) (.cons rfl (.of_eq rfl) (.cons rfl (.of_eq rfl) .nil))))))) (.box rfl (.cons (.of_eq rfl) (.cons (.of_eq rfl) (.cons (.of_eq rfl) .nil))) (.box rfl (.cons (.of_eq rfl) (.cons (.of_eq rfl) (.cons (.of_eq rfl) .nil))) (.arr rfl (.arr rfl .nil)))) rfl)
    · replace h := cond_f hc108 h
      refine W.condF rfl hc108 ?_
      refine W.exit ?_
      obtain rfl := Option.some.inj h
      exact XQ.brk (Sw.Sub.mk id (.cons rfl (.of_eq rfl) (.cons rfl (.of_eq rfl) (.cons rfl (.of_eq rfl) (.cons rfl (.of_eq rfl) .nil)))) (.box rfl (.cons (.of_eq rfl) (.cons (.of_eq rfl) (.cons (.of_eq rfl) .nil))) (.box rfl (.cons (.of_eq rfl) (.cons (.of_eq rfl) (.cons (.of_eq rfl) .nil))) (.arr rfl (.arr rfl .nil)))) rfl)
set_option maxRecDepth 100000 in
set_option maxHeartbeats 4000000 in
theorem con_frame_taker_byte_io (A : Nat → Nat) {a0_0 : (List Int)} {r : Int × Bool × (List Int)} (h : m_frame_taker_byte_io a0_0 = some r) :
    ConM Try.prog 72 [.ptr 9000 0] [(9000, .box 129 [.v (Enc.sl (Enc.int .u8)) a0_0] (some (A 9000)))] (.tup [.v (Enc.int .u8) r.1, .v Enc.bool r.2.1]) [(9000, .box 129 [.v (Enc.sl (Enc.int .u8)) r.2.2] (some (A 9000)))] := by
  refine ConM.of Try.func72 rfl Try.ntmps72 rfl ?_
  intro S w R hF
  unfold m_frame_taker_byte_io at h
  refine W.seq ?_
  refine W.reg (σ' := ⟨[(0, .ptr 9000 0)], [(9000, .box 129 [.v (Enc.sl (Enc.int .u8)) a0_0] (some (A 9000)))]⟩) (J.cons (.none rfl) (JO.assign rfl) rfl rfl (J.cons (.none rfl) (JO.assign rfl) rfl rfl (J.fin (Sw.Sub.mk id (.cons rfl (.of_eq rfl) .nil) (.box rfl (.cons (.of_eq rfl) .nil) .nil) rfl)))) ?_
  refine W.seq ?_
  refine W.seq ?_
  refine W.reg (σ' := ⟨[(0, .ptr 9000 0), (10, .v Enc.bool (cm .eql (a0_0.length : Int) (0 : Int)))], [(9000, .box 129 [.v (Enc.sl (Enc.int .u8)) a0_0] (some (A 9000)))]⟩) (J.cons (.none rfl) (JO.move rfl) rfl rfl (J.cons (.none rfl) (JO.nilPtr rfl) rfl rfl (J.cons (.none rfl) (JO.fieldPtr 0 rfl Try.runUnderlying129 rfl Try.sizeOf40 rfl rfl) rfl rfl (J.cons (.none rfl) (JO.load rfl rfl rfl Try.isAgg40 Try.sizeOf40) rfl rfl (J.cons (.none rfl) (JO.len rfl Try.runUnderlying40) rfl rfl (J.cons (.none rfl) (JO.cmp rfl rfl rfl) rfl rfl (J.fin (Sw.Sub.mk id (.cons rfl (.of_eq rfl) (.cons rfl (.of_eq rfl) .nil)) (.box rfl (.cons (.of_eq rfl) .nil) .nil) rfl)))))))) ?_
  rcases Bool.eq_false_or_eq_true (cm .eql (a0_0.length : Int) (0 : Int)) with hc1 | hc1
  · replace h := cond_t hc1 h
    refine W.condT rfl hc1 ?_
    refine W.seq ?_
    refine W.reg (σ' := ⟨[(0, .ptr 9000 0), (2, .v (Enc.int .u8) (0 : Int)), (3, .v Enc.bool false)], [(9000, .box 129 [.v (Enc.sl (Enc.int .u8)) a0_0] (some (A 9000)))]⟩) (J.cons (.none rfl) (JO.assign rfl) rfl rfl (J.cons (.none rfl) (JO.assign rfl) rfl rfl (J.fin (Sw.Sub.mk id (.cons rfl (.of_eq rfl) (.cons rfl (.of_eq rfl) (.cons rfl (.of_eq rfl) .nil))) (.box rfl (.cons (.of_eq rfl) .nil) .nil) rfl)))) ?_
    refine W.ret ?_
    obtain rfl := Option.some.inj h
    exact XQ.sub (σ' := ⟨[(0, .ptr 9000 0), (2, .v (Enc.int .u8) (0 : Int)), (3, .v Enc.bool false)], [(9000, .box 129 [.v (Enc.sl (Enc.int .u8)) a0_0] (some (A 9000)))]⟩) (Sw.Sub.mk id (.cons rfl (.of_eq rfl) (.cons rfl (.of_eq rfl) (.cons rfl (.of_eq rfl) .nil))) (.box rfl (.cons (.of_eq rfl) .nil) .nil) rfl) (XQ.retM2 hF rfl (RV.tmp rfl) (RV.tmp rfl) (.cons rfl .nil))
  · replace h := cond_f hc1 h
    refine W.condF rfl hc1 ?_
    refine W.skip ?_
    refine W.seq ?_
    obtain ⟨z2, hz2, h⟩ := bind_e h
    refine W.reg (σ' := ⟨[(0, .ptr 9000 0), (4, .v (Enc.int .u8) z2)], [(9000, .box 129 [.v (Enc.sl (Enc.int .u8)) a0_0] (some (A 9000)))]⟩) (J.cons (.none rfl) (JO.move rfl) rfl rfl (J.cons (.none rfl) (JO.nilPtr rfl) rfl rfl (J.cons (.none rfl) (JO.fieldPtr 0 rfl Try.runUnderlying129 rfl Try.sizeOf40 rfl rfl) rfl rfl (J.cons (.none rfl) (JO.load rfl rfl rfl Try.isAgg40 Try.sizeOf40) rfl rfl (J.cons (.none rfl) (JO.idx hz2 rfl rfl Try.runUnderlying40 Try.sizeOf5) rfl rfl (J.cons (.none rfl) (JO.loadPst rfl Try.isAgg5 Try.sizeOf5) rfl rfl (J.cons (.none rfl) (JO.assign rfl) rfl rfl (J.fin (Sw.Sub.mk id (.cons rfl (.of_eq rfl) (.cons rfl (.of_eq rfl) .nil)) (.box rfl (.cons (.of_eq rfl) .nil) .nil) rfl))))))))) ?_
    refine W.seq ?_
    obtain ⟨v3, hv3, h⟩ := bind_e h
    refine W.reg (σ' := ⟨[(0, .ptr 9000 0), (4, .v (Enc.int .u8) z2)], [(9000, .box 129 [.v (Enc.sl (Enc.int .u8)) v3] (some (A 9000)))]⟩) (J.cons (.none rfl) (JO.move rfl) rfl rfl (J.cons (.none rfl) (JO.move rfl) rfl rfl (J.cons (.none rfl) (JO.nilPtr rfl) rfl rfl (J.cons (.none rfl) (JO.fieldPtr 0 rfl Try.runUnderlying129 rfl Try.sizeOf40 rfl rfl) rfl rfl (J.cons (.none rfl) (JO.load rfl rfl rfl Try.isAgg40 Try.sizeOf40) rfl rfl (J.cons (.none rfl) (JO.slLo hv3 rfl rfl Try.runUnderlying40 Try.sizeOf5) rfl rfl (J.cons (.none rfl) (JO.nilPtr rfl) rfl rfl (J.cons (.none rfl) (JO.fieldPtr 0 rfl Try.runUnderlying129 rfl Try.sizeOf40 rfl rfl) rfl rfl (J.mut (.none rfl) (JM.store rfl rfl rfl rfl rfl rfl rfl Try.sizeOf40) (J.fin (Sw.Sub.mk id (.cons rfl (.of_eq rfl) (.cons rfl (.of_eq rfl) .nil)) (.box rfl (.cons (.of_eq rfl) .nil) .nil) rfl))))))))))) ?_
    refine W.seq ?_
    refine W.reg (σ' := ⟨[(0, .ptr 9000 0), (2, .v (Enc.int .u8) z2), (3, .v Enc.bool true)], [(9000, .box 129 [.v (Enc.sl (Enc.int .u8)) v3] (some (A 9000)))]⟩) (J.cons (.none rfl) (JO.move rfl) rfl rfl (J.cons (.none rfl) (JO.assign rfl) rfl rfl (J.cons (.none rfl) (JO.assign rfl) rfl rfl (J.fin (Sw.Sub.mk id (.cons rfl (.of_eq rfl) (.cons rfl (.of_eq rfl) (.cons rfl (.of_eq rfl) .nil))) (.box rfl (.cons (.of_eq rfl) .nil) .nil) rfl))))) ?_
    refine W.ret ?_
    obtain rfl := Option.some.inj h
    exact XQ.sub (σ' := ⟨[(0, .ptr 9000 0), (2, .v (Enc.int .u8) z2), (3, .v Enc.bool true)], [(9000, .box 129 [.v (Enc.sl (Enc.int .u8)) v3] (some (A 9000)))]⟩) (Sw.Sub.mk id (.cons rfl (.of_eq rfl) (.cons rfl (.of_eq rfl) (.cons rfl (.of_eq rfl) .nil))) (.box rfl (.cons (.of_eq rfl) .nil) .nil) rfl) (XQ.retM2 hF rfl (RV.tmp rfl) (RV.tmp rfl) (.cons rfl .nil))
set_option maxRecDepth 100000 in
set_option maxHeartbeats 4000000 in
theorem con_frame_taker_number_io (A : Nat → Nat) {a0_0 : (List Int)} {r : Int × Bool × (List Int)} (h : m_frame_taker_number_io a0_0 = some r) :
    ConM Try.prog 73 [.ptr 9000 0] [(9000, .box 129 [.v (Enc.sl (Enc.int .u8)) a0_0] (some (A 9000)))] (.tup [.v (Enc.int .i64) r.1, .v Enc.bool r.2.1]) [(9000, .box 129 [.v (Enc.sl (Enc.int .u8)) r.2.2] (some (A 9000)))] := by
  refine ConM.of Try.func73 rfl Try.ntmps73 rfl ?_
  intro S w R hF
  unfold m_frame_taker_number_io at h
  refine W.seq ?_
  refine W.reg (σ' := ⟨[(0, .ptr 9000 0)], [(9000, .box 129 [.v (Enc.sl (Enc.int .u8)) a0_0] (some (A 9000)))]⟩) (J.cons (.none rfl) (JO.assign rfl) rfl rfl (J.cons (.none rfl) (JO.assign rfl) rfl rfl (J.fin (Sw.Sub.mk id (.cons rfl (.of_eq rfl) .nil) (.box rfl (.cons (.of_eq rfl) .nil) .nil) rfl)))) ?_
  refine W.seq ?_
  refine W.reg (σ' := ⟨[(0, .ptr 9000 0), (4, .v (Enc.int .i64) (0 : Int))], [(9000, .box 129 [.v (Enc.sl (Enc.int .u8)) a0_0] (some (A 9000)))]⟩) (J.cons (.none rfl) (JO.assign rfl) rfl rfl (J.fin (Sw.Sub.mk id (.cons rfl (.of_eq rfl) (.cons rfl (.of_eq rfl) .nil)) (.box rfl (.cons (.of_eq rfl) .nil) .nil) rfl))) ?_
  refine W.seq ?_
  refine W.seq ?_
  refine W.reg (σ' := ⟨[(0, .ptr 9000 0), (4, .v (Enc.int .i64) (0 : Int)), (5, .v (Enc.int .i64) (0 : Int))], [(9000, .box 129 [.v (Enc.sl (Enc.int .u8)) a0_0] (some (A 9000)))]⟩) (J.cons (.none rfl) (JO.assign rfl) rfl rfl (J.fin (Sw.Sub.mk id (.cons rfl (.of_eq rfl) (.cons rfl (.of_eq rfl) (.cons rfl (.of_eq rfl) .nil))) (.box rfl (.cons (.of_eq rfl) .nil) .nil) rfl))) ?_
  obtain ⟨o33, ho33, hb33, hr33⟩ := lp_elim h
  refine W.lp (σs := fun s22 : Int × Int × (List Int) => ⟨[(0, .ptr 9000 0), (4, .v (Enc.int .i64) s22.1), (5, .v (Enc.int .i64) s22.2.1)], [(9000, .box 129 [.v (Enc.sl (Enc.int .u8)) s22.2.2] (some (A 9000)))]⟩) (fun x34 : (List Int) => ⟨[(0, .ptr 9000 0)], [(9000, .box 129 [.v (Enc.sl (Enc.int .u8)) x34] (some (A 9000)))]⟩) ho33 (Sw.Sub.mk id (.cons rfl (.of_eq rfl) (.cons rfl (.of_eq rfl) (.cons rfl (.of_eq rfl) .nil))) (.box rfl (.cons (.of_eq rfl) .nil) .nil) rfl) ?_ ?_
  · intro x34 hy
    have h := hb33 _ hy
    refine W.seq ?_
    refine W.reg (σ' := ⟨[(0, .ptr 9000 0), (2, .v (Enc.int .i64) (0 : Int)), (3, .v Enc.bool false)], [(9000, .box 129 [.v (Enc.sl (Enc.int .u8)) x34] (some (A 9000)))]⟩) (J.cons (.none rfl) (JO.assign rfl) rfl rfl (J.cons (.none rfl) (JO.assign rfl) rfl rfl (J.fin (Sw.Sub.mk id (.cons rfl (.of_eq rfl) (.cons rfl (.of_eq rfl) (.cons rfl (.of_eq rfl) .nil))) (.box rfl (.cons (.of_eq rfl) .nil) .nil) rfl)))) ?_
    refine W.ret ?_
    obtain rfl := Option.some.inj h
    exact XQ.sub (σ' := ⟨[(0, .ptr 9000 0), (2, .v (Enc.int .i64) (0 : Int)), (3, .v Enc.bool false)], [(9000, .box 129 [.v (Enc.sl (Enc.int .u8)) x34] (some (A 9000)))]⟩) (Sw.Sub.mk id (.cons rfl (.of_eq rfl) (.cons rfl (.of_eq rfl) (.cons rfl (.of_eq rfl) .nil))) (.box rfl (.cons (.of_eq rfl) .nil) .nil) rfl) (XQ.retM2 hF rfl (RV.tmp rfl) (RV.tmp rfl) (.cons rfl .nil))
  intro s22 r33 h
  refine W.seq ?_
  refine W.seq ?_
  refine W.reg (σ' := ⟨[(0, .ptr 9000 0), (4, .v (Enc.int .i64) s22.1), (5, .v (Enc.int .i64) s22.2.1), (9, .v Enc.bool (cm .lss s22.2.1 (35 : Int)))], [(9000, .box 129 [.v (Enc.sl (Enc.int .u8)) s22.2.2] (some (A 9000)))]⟩) (J.cons (.none rfl) (JO.move rfl) rfl rfl (J.cons (.none rfl) (JO.cmp rfl rfl rfl) rfl rfl (J.fin (Sw.Sub.mk id (.cons rfl (.of_eq rfl) (.cons rfl (.of_eq rfl) (.cons rfl (.of_eq rfl) (.cons rfl (.of_eq rfl) .nil)))) (.box rfl (.cons (.of_eq rfl) .nil) .nil) rfl)))) ?_
  rcases Bool.eq_false_or_eq_true (cm .lss s22.2.1 (35 : Int)) with hc35 | hc35
  · replace h := cond_t hc35 h
    refine W.condT rfl hc35 ?_
    refine W.skip ?_
    refine W.seq ?_
    refine W.block ?_
    refine W.seq ?_
    obtain ⟨v36, hv36, h⟩ := bind_e h
    refine W.reg (σ' := ⟨[(0, .ptr 9000 0), (4, .v (Enc.int .i64) s22.1), (5, .v (Enc.int .i64) s22.2.1), (6, .v (Enc.int .u8) v36.1), (7, .v Enc.bool v36.2.1)], [(9000, .box 129 [.v (Enc.sl (Enc.int .u8)) v36.2.2] (some (A 9000)))]⟩) (J.cons (.none rfl) (JO.move rfl) rfl rfl (J.mut (.none rfl) (JM.callM (H := [9000]) (K := [9000]) (swp [(9000, 9000)]) (swp_inj _) (fun A => con_frame_taker_byte_io A hv36) Try.call72 (.cons (.dir rfl) .nil) (fun A => (.box rfl .nil)) (fun A => (.box rfl .nil rfl)) (fun _ => rfl) rfl rfl (fun _ => rfl) rfl rfl) (J.cons (.none rfl) (JO.move rfl) rfl rfl (J.cons (.none rfl) (JO.extract rfl rfl) rfl rfl (J.cons (.none rfl) (JO.extract rfl rfl) rfl rfl (J.cons (.none rfl) (JO.assign rfl) rfl rfl (J.cons (.none rfl) (JO.assign rfl) rfl rfl (J.fin (Sw.Sub.mk id (.cons rfl (.of_eq rfl) (.cons rfl (.of_eq rfl) (.cons rfl (.of_eq rfl) (.cons rfl (.of_eq rfl) (.cons rfl (.of_eq rfl) .nil))))) (.box rfl (.cons (.of_eq rfl) .nil) .nil) rfl))))))))) ?_
    refine W.seq ?_
    refine W.seq ?_
    refine W.reg (σ' := ⟨[(0, .ptr 9000 0), (4, .v (Enc.int .i64) s22.1), (5, .v (Enc.int .i64) s22.2.1), (6, .v (Enc.int .u8) v36.1), (18, .v Enc.bool (!v36.2.1))], [(9000, .box 129 [.v (Enc.sl (Enc.int .u8)) v36.2.2] (some (A 9000)))]⟩) (J.cons (.none rfl) (JO.move rfl) rfl rfl (J.cons (.none rfl) (JO.not rfl) rfl rfl (J.fin (Sw.Sub.mk id (.cons rfl (.of_eq rfl) (.cons rfl (.of_eq rfl) (.cons rfl (.of_eq rfl) (.cons rfl (.of_eq rfl) (.cons rfl (.of_eq rfl) .nil))))) (.box rfl (.cons (.of_eq rfl) .nil) .nil) rfl)))) ?_
    rcases Bool.eq_false_or_eq_true (!v36.2.1) with hc37 | hc37
    · replace h := cond_t hc37 h
      refine W.condT rfl hc37 ?_
      refine W.seq ?_
      refine W.reg (σ' := ⟨[(0, .ptr 9000 0), (2, .v (Enc.int .i64) (0 : Int)), (3, .v Enc.bool false)], [(9000, .box 129 [.v (Enc.sl (Enc.int .u8)) v36.2.2] (some (A 9000)))]⟩) (J.cons (.none rfl) (JO.assign rfl) rfl rfl (J.cons (.none rfl) (JO.assign rfl) rfl rfl (J.fin (Sw.Sub.mk id (.cons rfl (.of_eq rfl) (.cons rfl (.of_eq rfl) (.cons rfl (.of_eq rfl) .nil))) (.box rfl (.cons (.of_eq rfl) .nil) .nil) rfl)))) ?_
      refine W.ret ?_
      refine XQ.ret ?_
      obtain rfl := Option.some.inj h
      refine XQ.lret fun ho => ?_
      obtain rfl := hr33 _ ho
      exact XQ.sub (σ' := ⟨[(0, .ptr 9000 0), (2, .v (Enc.int .i64) (0 : Int)), (3, .v Enc.bool false)], [(9000, .box 129 [.v (Enc.sl (Enc.int .u8)) v36.2.2] (some (A 9000)))]⟩) (Sw.Sub.mk id (.cons rfl (.of_eq rfl) (.cons rfl (.of_eq rfl) (.cons rfl (.of_eq rfl) .nil))) (.box rfl (.cons (.of_eq rfl) .nil) .nil) rfl) (XQ.retM2 hF rfl (RV.tmp rfl) (RV.tmp rfl) (.cons rfl .nil))
    · replace h := cond_f hc37 h
      refine W.condF rfl hc37 ?_
      refine W.skip ?_
      refine W.seq ?_
      obtain ⟨u38, hu38, h⟩ := bind_e h
      refine W.reg (σ' := ⟨[(0, .ptr 9000 0), (4, .v (Enc.int .i64) (ar .or .i64 s22.1 (sh .shl .i64 (ar .and .u8 v36.1 (127 : Int)) s22.2.1))), (5, .v (Enc.int .i64) s22.2.1), (6, .v (Enc.int .u8) v36.1)], [(9000, .box 129 [.v (Enc.sl (Enc.int .u8)) v36.2.2] (some (A 9000)))]⟩) (J.cons (.none rfl) (JO.move rfl) rfl rfl (J.cons (.none rfl) (JO.move rfl) rfl rfl (J.cons (.none rfl) (JO.arith rfl rfl rfl) rfl rfl (J.cons (.none rfl) (JO.convUp Try.runUnderlying5 Try.runUnderlying3 rfl rfl) rfl rfl (J.cons (.none rfl) (JO.move rfl) rfl rfl (J.cons (.none rfl) (JO.shift (.inl rfl) (nn_some hu38) rfl rfl) rfl rfl (J.cons (.none rfl) (JO.arith rfl rfl rfl) rfl rfl (J.cons (.none rfl) (JO.assign rfl) rfl rfl (J.fin (Sw.Sub.mk id (.cons rfl (.of_eq rfl) (.cons rfl (.of_eq rfl) (.cons rfl (.of_eq rfl) (.cons rfl (.of_eq rfl) .nil)))) (.box rfl (.cons (.of_eq rfl) .nil) .nil) rfl)))))))))) ?_
      refine W.seq ?_
      refine W.reg (σ' := ⟨[(0, .ptr 9000 0), (4, .v (Enc.int .i64) (ar .or .i64 s22.1 (sh .shl .i64 (ar .and .u8 v36.1 (127 : Int)) s22.2.1))), (5, .v (Enc.int .i64) s22.2.1), (6, .v (Enc.int .u8) v36.1), (27, .v Enc.bool (cm .lss v36.1 (128 : Int)))], [(9000, .box 129 [.v (Enc.sl (Enc.int .u8)) v36.2.2] (some (A 9000)))]⟩) (J.cons (.none rfl) (JO.move rfl) rfl rfl (J.cons (.none rfl) (JO.cmp rfl rfl rfl) rfl rfl (J.fin (Sw.Sub.mk id (.cons rfl (.of_eq rfl) (.cons rfl (.of_eq rfl) (.cons rfl (.of_eq rfl) (.cons rfl (.of_eq rfl) (.cons rfl (.of_eq rfl) .nil))))) (.box rfl (.cons (.of_eq rfl) .nil) .nil) rfl)))) ?_
      rcases Bool.eq_false_or_eq_true (cm .lss v36.1 (128 : Int)) with hc39 | hc39
      · replace h := cond_t hc39 h
        refine W.condT rfl hc39 ?_
        refine W.seq ?_
        obtain ⟨x42, hx, h⟩ := bind_e h
        refine W.reg (σ' := ⟨[(0, .ptr 9000 0), (2, .v (Enc.int .i64) (ar .or .i64 s22.1 (sh .shl .i64 (ar .and .u8 v36.1 (127 : Int)) s22.2.1))), (3, .v Enc.bool x42)], [(9000, .box 129 [.v (Enc.sl (Enc.int .u8)) v36.2.2] (some (A 9000)))]⟩) ?_ ?_
        · rcases Bool.eq_false_or_eq_true (cm .leq (ar .or .i64 s22.1 (sh .shl .i64 (ar .and .u8 v36.1 (127 : Int)) s22.2.1)) (2147483647 : Int)) with hc43 | hc43
          · replace hx := cond_t hc43 hx
            rcases Bool.eq_false_or_eq_true (cm .gtr v36.1 (0 : Int)) with hc44 | hc44
            · replace hx := cond_t hc44 hx
              obtain rfl := Option.some.inj hx
              exact (J.cons (.none rfl) (JO.move rfl) rfl rfl (J.cons (.none rfl) (JO.move rfl) rfl rfl (J.cons (.none rfl) (JO.cmp rfl rfl rfl) rfl rfl (J.cons (.none rfl) (JO.move rfl) rfl rfl (J.cons (GK.met 31 rfl rfl rfl hc43) (JO.move rfl) rfl rfl (J.cons (GK.met 31 rfl rfl rfl hc43) (JO.cmp rfl rfl rfl) rfl rfl (J.cons (GK.met 31 rfl rfl rfl hc43) (JO.move rfl) rfl rfl (J.left (GK.unmet 34 rfl rfl rfl hc44) rfl (J.left (GK.unmet 34 rfl rfl rfl hc44) rfl (J.cons (GK.met 31 rfl rfl rfl hc43) (JO.pT hc44 rfl rfl) rfl rfl (J.cons (.none rfl) (JO.pT hc43 rfl rfl) rfl rfl (J.cons (.none rfl) (JO.assign rfl) rfl rfl (J.cons (.none rfl) (JO.assign rfl) rfl rfl (J.fin (Sw.Sub.mk id (.cons rfl (.of_eq rfl) (.cons rfl (.of_eq rfl) (.cons rfl (.of_eq rfl) .nil))) (.box rfl (.cons (.of_eq rfl) .nil) .nil) rfl)))))))))))))))
            · replace hx := cond_f hc44 hx
              obtain rfl := Option.some.inj hx
              exact (J.cons (.none rfl) (JO.move rfl) rfl rfl (J.cons (.none rfl) (JO.move rfl) rfl rfl (J.cons (.none rfl) (JO.cmp rfl rfl rfl) rfl rfl (J.cons (.none rfl) (JO.move rfl) rfl rfl (J.cons (GK.met 31 rfl rfl rfl hc43) (JO.move rfl) rfl rfl (J.cons (GK.met 31 rfl rfl rfl hc43) (JO.cmp rfl rfl rfl) rfl rfl (J.cons (GK.met 31 rfl rfl rfl hc43) (JO.move rfl) rfl rfl (J.cons (GK.met 34 rfl rfl rfl hc44) (JO.move rfl) rfl rfl (J.cons (GK.met 34 rfl rfl rfl hc44) (JO.cmp rfl rfl rfl) rfl rfl (J.cons (GK.met 31 rfl rfl rfl hc43) (JO.pF hc44 rfl rfl) rfl rfl (J.cons (.none rfl) (JO.pT hc43 rfl rfl) rfl rfl (J.cons (.none rfl) (JO.assign rfl) rfl rfl (J.cons (.none rfl) (JO.assign rfl) rfl rfl (J.fin (Sw.Sub.mk id (.cons rfl (.of_eq rfl) (.cons rfl (.of_eq rfl) (.cons rfl (.of_eq rfl) .nil))) (.box rfl (.cons (.of_eq rfl) .nil) .nil) rfl)))))))))))))))
          · replace hx := cond_f hc43 hx
            obtain rfl := Option.some.inj hx
            exact (J.cons (.none rfl) (JO.move rfl) rfl rfl (J.cons (.none rfl) (JO.move rfl) rfl rfl (J.cons (.none rfl) (JO.cmp rfl rfl rfl) rfl rfl (J.cons (.none rfl) (JO.move rfl) rfl rfl (J.left (GK.unmet 31 rfl rfl rfl hc43) rfl (J.left (GK.unmet 31 rfl rfl rfl hc43) rfl (J.left (GK.unmet 31 rfl rfl rfl hc43) rfl (J.left (GK.und 34 rfl rfl rfl) rfl (J.left (GK.und 34 rfl rfl rfl) rfl (J.left (GK.unmet 31 rfl rfl rfl hc43) rfl (J.cons (.none rfl) (JO.pF hc43 rfl rfl) rfl rfl (J.cons (.none rfl) (JO.assign rfl) rfl rfl (J.cons (.none rfl) (JO.assign rfl) rfl rfl (J.fin (Sw.Sub.mk id (.cons rfl (.of_eq rfl) (.cons rfl (.of_eq rfl) (.cons rfl (.of_eq rfl) .nil))) (.box rfl (.cons (.of_eq rfl) .nil) .nil) rfl)))))))))))))))
        refine W.ret ?_
        refine XQ.ret ?_
        obtain rfl := Option.some.inj h
        refine XQ.lret fun ho => ?_
        obtain rfl := hr33 _ ho
        exact XQ.sub (σ' := ⟨[(0, .ptr 9000 0), (2, .v (Enc.int .i64) (ar .or .i64 s22.1 (sh .shl .i64 (ar .and .u8 v36.1 (127 : Int)) s22.2.1))), (3, .v Enc.bool x42)], [(9000, .box 129 [.v (Enc.sl (Enc.int .u8)) v36.2.2] (some (A 9000)))]⟩) (Sw.Sub.mk id (.cons rfl (.of_eq rfl) (.cons rfl (.of_eq rfl) (.cons rfl (.of_eq rfl) .nil))) (.box rfl (.cons (.of_eq rfl) .nil) .nil) rfl) (XQ.retM2 hF rfl (RV.tmp rfl) (RV.tmp rfl) (.cons rfl .nil))
      · replace h := cond_f hc39 h
        refine W.condF rfl hc39 ?_
        refine W.skip ?_
        refine W.fall ?_
        refine W.reg (σ' := ⟨[(0, .ptr 9000 0), (4, .v (Enc.int .i64) (ar .or .i64 s22.1 (sh .shl .i64 (ar .and .u8 v36.1 (127 : Int)) s22.2.1))), (5, .v (Enc.int .i64) (ar .add .i64 s22.2.1 (7 : Int)))], [(9000, .box 129 [.v (Enc.sl (Enc.int .u8)) v36.2.2] (some (A 9000)))]⟩) (J.cons (.none rfl) (JO.move rfl) rfl rfl (J.cons (.none rfl) (JO.arith rfl rfl rfl) rfl rfl (J.cons (.none rfl) (JO.assign rfl) rfl rfl (J.fin (Sw.Sub.mk id (.cons rfl (.of_eq rfl) (.cons rfl (.of_eq rfl) (.cons rfl (.of_eq rfl) .nil))) (.box rfl (.cons (.of_eq rfl) .nil) .nil) rfl))))) ?_
        obtain rfl := Option.some.inj h
        exact W.next (Sw.Sub.mk id (.cons rfl (.of_eq rfl) (.cons rfl (.of_eq rfl) (.cons rfl (.of_eq rfl) .nil))) (.box rfl (.cons (.of_eq rfl) .nil) .nil) rfl)
  · replace h := cond_f hc35 h
    refine W.condF rfl hc35 ?_
    refine W.exit ?_
    obtain rfl := Option.some.inj h
    exact XQ.brk (Sw.Sub.mk id (.cons rfl (.of_eq rfl) .nil) (.box rfl (.cons (.of_eq rfl) .nil) .nil) rfl)
set_option maxRecDepth 100000 in
set_option maxHeartbeats 4000000 in
theorem con_slices_Chunk_byte_byte {a0 : (List Int)} {a1 : Int} {r : ((List Int) × Int)} (h : m_slices_Chunk_byte_byte a0 a1 = some r) :
    Con Try.prog 74 [.v (Enc.sl (Enc.int .u8)) a0, .v (Enc.int .i64) a1] (.fnc 93 [.pst (Enc.sl (Enc.int .u8)) r.1, .pst (Enc.int .i64) r.2]) [] := by
  refine Con.of Try.func74 rfl Try.ntmps74 rfl ?_
  intro S w hF
  unfold m_slices_Chunk_byte_byte at h
  refine W.seq ?_
  refine W.reg (σ' := ⟨[(2, .ptr 101 0), (3, .ptr 102 0)], [(101, .box 40 [.v (Enc.sl (Enc.int .u8)) a0]), (102, .box 3 [.v (Enc.int .i64) a1])]⟩) (J.cons (.none rfl) (JO.box 101 rfl (.one _ _) rfl) rfl rfl (J.cons (.none rfl) (JO.box 102 rfl (.one _ _) rfl) rfl rfl (J.cons (.none rfl) (JO.assignCst rfl) rfl rfl (J.fin (Sw.Sub.mk id (.cons rfl (.of_eq rfl) (.cons rfl (.of_eq rfl) .nil)) (.box rfl (.cons (.of_eq rfl) .nil) (.box rfl (.cons (.of_eq rfl) .nil) .nil)) rfl))))) ?_
  refine W.seq ?_
  refine W.seq ?_
  refine W.reg (σ' := ⟨[(2, .ptr 101 0), (3, .ptr 102 0), (6, .v Enc.bool (cm .lss a1 (1 : Int)))], [(101, .box 40 [.v (Enc.sl (Enc.int .u8)) a0]), (102, .box 3 [.v (Enc.int .i64) a1])]⟩) (J.cons (.none rfl) (JO.load rfl rfl rfl Try.isAgg3 Try.sizeOf3) rfl rfl (J.cons (.none rfl) (JO.cmp rfl rfl rfl) rfl rfl (J.fin (Sw.Sub.mk id (.cons rfl (.of_eq rfl) (.cons rfl (.of_eq rfl) (.cons rfl (.of_eq rfl) .nil))) (.box rfl (.cons (.of_eq rfl) .nil) (.box rfl (.cons (.of_eq rfl) .nil) .nil)) rfl)))) ?_
  obtain ⟨k2, hk2, h⟩ := jp_elim h
  refine W.jn (fun x3 : Unit => ⟨[(2, .ptr 101 0), (3, .ptr 102 0)], [(101, .box 40 [.v (Enc.sl (Enc.int .u8)) a0]), (102, .box 3 [.v (Enc.int .i64) a1])]⟩) (fun x => k2 x = some r) rfl ?_ ?_ ?_
  · intro x3 h
    rw [hk2] at h
    refine W.seq ?_
    refine W.reg (σ' := ⟨[(4, .fnc 93 [.ptr 101 0, .ptr 102 0])], [(101, .box 40 [.v (Enc.sl (Enc.int .u8)) a0]), (102, .box 3 [.v (Enc.int .i64) a1])]⟩) (J.cons (.none rfl) (JO.makeFunc (.cons (.dir rfl) (.cons (.dir rfl) .nil))) rfl rfl (J.cons (.none rfl) (JO.assign rfl) rfl rfl (J.fin (Sw.Sub.mk id (.cons rfl (.of_eq rfl) .nil) (.box rfl (.cons (.of_eq rfl) .nil) (.box rfl (.cons (.of_eq rfl) .nil) .nil)) rfl)))) ?_
    refine W.ret ?_
    obtain rfl := Option.some.inj h
    exact XQ.sub (σ' := ⟨[(4, .fnc 93 [.pst (Enc.sl (Enc.int .u8)) a0, .pst (Enc.int .i64) a1])], []⟩) (Sw.Sub.mk id (.cons rfl (.fnc (.cons (.frzP rfl rfl (.cons (.of_eq rfl) .nil) (.one _ _)) (.cons (.frzP rfl rfl (.cons (.of_eq rfl) .nil) (.one _ _)) .nil))) .nil) .nil rfl) (XQ.ret1 hF noR rfl (RV.tmp rfl) .nil rfl)
  · intro hc1
    replace h := cond_t hc1 h
    cases h
  · intro hc1
    replace h := cond_f hc1 h
    refine W.skip ?_
    exact W.jfall h (Sw.Sub.mk id (.cons rfl (.of_eq rfl) (.cons rfl (.of_eq rfl) .nil)) (.box rfl (.cons (.of_eq rfl) .nil) (.box rfl (.cons (.of_eq rfl) .nil) .nil)) rfl)
set_option maxRecDepth 100000 in
set_option maxHeartbeats 4000000 in
theorem it_93 {xs : List Int} {n : Int} (hn : 1 ≤ n) (hlen : (xs.length : Int) ≤ 4294967296) (hn2 : n ≤ 4294967296) :
    IterC Try.prog 93 [.pst (Enc.sl (Enc.int .u8)) xs, .pst (Enc.int .i64) n] ((chunks n.toNat xs).map fun c => [.v (Enc.sl (Enc.int .u8)) c]) := by
  refine IterC.of2 Try.func93 rfl Try.ntmps93 rfl ?_
  intro S w ρ l Jp Jx b off b' off' I hJ0 h1 h2
  refine W.seq ?_
  refine W.reg (σ' := ⟨[(0, .v (Enc.cst (.func (.yield l) #[] #[]) rfl) ()), (1, .v (Enc.cp b off (Enc.sl (Enc.int .u8))) xs), (2, .v (Enc.cp b' off' (Enc.int .i64)) n), (4, .v (Enc.int .i64) ((0 : Nat) * n))], []⟩) (J.cons (.none rfl) (JO.assign rfl) rfl rfl (J.fin (Sub.keepE (by rfl) (by exact (.cons rfl (.cons rfl (.cons rfl (.cons (by simp [lk, AS.put]) .nil)))))))) ?_
  refine W.block ?_
  refine W.iloop I (fun k => [(0, .v (Enc.cst (.func (.yield l) #[] #[]) rfl) ()), (1, .v (Enc.cp b off (Enc.sl (Enc.int .u8))) xs), (2, .v (Enc.cp b' off' (Enc.int .i64)) n), (4, .v (Enc.int .i64) ((k : Nat) * n))]) (fun k => (.cons (@Again.flat _ _ ⟨fun h => h⟩ _ _ _ _) (.cons h1 (.cons h2 (.cons .flat .nil))))) (fun _ _ h => h) hJ0 ?_
  intro k V hJ hk
  have hm : ((chunks n.toNat xs).map fun c => ([.v (Enc.sl (Enc.int .u8)) c] : List Slot)).length = (chunks n.toNat xs).length := List.length_map ..
  refine W.seq (W.seq ?_)
  refine W.reg (σ' := ⟨[(0, .v (Enc.cst (.func (.yield l) #[] #[]) rfl) ()), (1, .v (Enc.cp b off (Enc.sl (Enc.int .u8))) xs), (2, .v (Enc.cp b' off' (Enc.int .i64)) n), (4, .v (Enc.int .i64) (k * n)), (9, .v Enc.bool (cm .lss (k * n) xs.length))], []⟩) (J.cons (.none rfl) (JO.move rfl) rfl rfl (J.cons (.none rfl) (JO.loadCp rfl Try.isAgg40 Try.sizeOf40) rfl rfl (J.cons (.none rfl) (JO.len rfl Try.runUnderlying40) rfl rfl (J.cons (.none rfl) (JO.cmp rfl rfl rfl) rfl rfl (J.fin (Sub.keepE (by rfl) (by exact (.cons rfl (.cons rfl (.cons rfl (.cons rfl (.cons rfl .nil)))))))))))) ?_
  refine W.cond rfl (fun hc => ?_) (fun hc => ?_)
  · refine W.skip ?_
    have hlt : (k : Int) * n < xs.length := by simpa [cm] using hc
    obtain ⟨hklt, hs1, hs2, hs3, hadd⟩ := chunk_facts hn hn2 hlen hlt
    have hkm : k < (chunks n.toNat xs).length := (chunks_len (by omega) xs).2 hklt
    refine W.seq ?_
    refine W.block ?_
    refine W.seq ?_
    refine W.draw (σ' := ⟨[(0, .v (Enc.cst (.func (.yield l) #[] #[]) rfl) ()), (1, .v (Enc.cp b off (Enc.sl (Enc.int .u8))) xs), (2, .v (Enc.cp b' off' (Enc.int .i64)) n), (4, .v (Enc.int .i64) (k * n)), (5, .v (Enc.int .i64) (min n ((xs.drop (k * n.toNat)).length : Int)))], []⟩) (n := 7) mixed rfl rfl (by decide +kernel) (by decide +kernel) (.cons (.none rfl) (JO.loadCp rfl Try.isAgg3 Try.sizeOf3) rfl rfl (.cons (.none rfl) (JO.loadCp rfl Try.isAgg40 Try.sizeOf40) rfl rfl (.cons (.none rfl) (JO.move rfl) rfl rfl (.cons (.none rfl) (JO.slLo hs1 rfl rfl Try.runUnderlying40 Try.sizeOf5) rfl rfl (.cons (.none rfl) (JO.len rfl Try.runUnderlying40) rfl rfl (.cons (.none rfl) (JO.gmin rfl rfl) rfl rfl (.cons (.none rfl) (JO.assign rfl) rfl rfl .nil))))))) (J.fin (Sub.keepE (by rfl) (by exact (.cons rfl (.cons rfl (.cons rfl (.cons rfl (.cons rfl .nil)))))))) ?_
    refine W.seq ?_
    refine W.iyield (σ1 := ⟨[(19, .v (Enc.cst (.func (.yield l) #[] #[]) rfl) ()), (28, .v (Enc.sl (Enc.int .u8)) ((xs.drop (k * n.toNat)).take n.toNat)), (0, .v (Enc.cst (.func (.yield l) #[] #[]) rfl) ()), (1, .v (Enc.cp b off (Enc.sl (Enc.int .u8))) xs), (2, .v (Enc.cp b' off' (Enc.int .i64)) n), (4, .v (Enc.int .i64) (k * n))], []⟩) (g2 := [(0, .v (Enc.cst (.func (.yield l) #[] #[]) rfl) ()), (1, .v (Enc.cp b off (Enc.sl (Enc.int .u8))) xs), (2, .v (Enc.cp b' off' (Enc.int .i64)) n), (4, .v (Enc.int .i64) (k * n))]) (pre := [_, _, _, _, _, _, _, _, _, _]) I hJ (item := [.v (Enc.sl (Enc.int .u8)) ((xs.drop (k * n.toNat)).take n.toNat)]) (by rw [List.getElem?_map, chunks_get (by omega) hklt]; rfl)
      (J.cons (.none rfl) (JO.move rfl) rfl rfl (J.cons (.none rfl) (JO.loadCp rfl Try.isAgg40 Try.sizeOf40) rfl rfl (J.cons (.none rfl) (JO.move rfl) rfl rfl (J.cons (.none rfl) (JO.move rfl) rfl rfl (J.cons (.none rfl) (JO.move rfl) rfl rfl (J.cons (.none rfl) (JO.arith rfl rfl rfl) rfl rfl (J.cons (.none rfl) (JO.move rfl) rfl rfl (J.cons (.none rfl) (JO.move rfl) rfl rfl (J.cons (.none rfl) (JO.arith rfl rfl rfl) rfl rfl (J.cons (.none rfl) (JO.sl3 hs2 hs3 rfl rfl rfl rfl Try.runUnderlying40 Try.sizeOf5) rfl rfl (J.fin (Sub.keepE (by rfl) (by exact (.cons rfl (.cons rfl (.cons rfl (.cons rfl (.cons rfl (.cons rfl .nil)))))))))))))))))))
      rfl (.cons (.dir rfl) .nil) rfl rfl rfl rfl (.cons (@Again.flat _ _ ⟨fun h => h⟩ _ _ _ _) (.cons h1 (.cons h2 (.cons .flat .nil)))) (.cons rfl (.cons rfl (.cons rfl (.cons rfl .nil)))) (fun V' hJ' => ?_) (fun V' hJx => ?_)
    · refine W.condF rfl rfl (W.skip (W.fall ?_))
      refine W.reg (σ' := ⟨[(0, .v (Enc.cst (.func (.yield l) #[] #[]) rfl) ()), (1, .v (Enc.cp b off (Enc.sl (Enc.int .u8))) xs), (2, .v (Enc.cp b' off' (Enc.int .i64)) n), (4, .v (Enc.int .i64) (ar .add .i64 (k * n) n))], []⟩) (J.cons (.none rfl) (JO.move rfl) rfl rfl (J.cons (.none rfl) (JO.loadCp rfl Try.isAgg3 Try.sizeOf3) rfl rfl (J.cons (.none rfl) (JO.arith rfl rfl rfl) rfl rfl (J.cons (.none rfl) (JO.assign rfl) rfl rfl (J.fin (Sub.keepE (by rfl) (by exact (.cons rfl (.cons rfl (.cons rfl (.cons rfl .nil))))))))))) ?_
      exact W.inext I hJ' (by rw [hm]; exact hkm) (by rw [hadd]; exact fun _ _ h => h)
    · refine W.condT rfl rfl (W.ret (W.istop (fn := Try.f93) I rfl hJx fun a V' h => h))
  · refine W.exit (W.iend (fn := Try.f93) I rfl hJ ?_ (fun a V' h => ?_))
    · have hge : ¬ (k : Int) * n < xs.length := by simpa [cm] using hc
      have hkn : ((k : Int) * n) = ((k * n.toNat : Nat) : Int) := by push_cast; rw [Int.toNat_of_nonneg (by omega)]
      have : ¬ k * n.toNat < xs.length := fun h => hge (by rw [hkn]; exact_mod_cast h)
      rw [hm] at hk ⊢
      have := mt (chunks_len (n := n.toNat) (by omega) xs (k := k)).1 this
      omega
    · simp only [Exit.inBlock, if_true]; exact h

set_option maxRecDepth 100000 in
set_option maxHeartbeats 4000000 in
theorem con_frame_Unpack {a0 : (List Int)} {r : (Int × (List Int) × (List Blk)) × (Option Int)} (h : m_frame_Unpack a0 = some r) :
    Con Try.prog 32 [.v (Enc.sl (Enc.int .u8)) a0] (.tup [.v (Enc.pr (Enc.int .i64) (Enc.pr (Enc.sl (Enc.int .i64)) (Enc.sl eBlk))) r.1, .v (Enc.err ET) r.2]) [] := by
  refine Con.of Try.func32 rfl Try.ntmps32 rfl ?_
  intro S w hF
  unfold m_frame_Unpack at h
  refine W.seq ?_
  refine W.reg (σ' := ⟨[(0, .v (Enc.sl (Enc.int .u8)) a0), (2, .ptr 101 0), (3, .v (Enc.err ET) (none : Option Int))], [(101, .box 38 [.v (Enc.int .i64) (0 : Int), .v (Enc.sl (Enc.int .i64)) ([] : (List Int)), .v (Enc.sl eBlk) ([] : (List Blk))])]⟩) (J.cons (.none rfl) (JO.alloc 101 Try.zeroValue38 rfl (.cons (Z.int .i64) (.cons (Z.sl (Enc.int .i64)) (.cons (Z.sl eBlk) .nil))) rfl) rfl rfl (J.cons (.none rfl) (JO.assignNilE ET) rfl rfl (J.fin (Sw.Sub.mk id (.cons rfl (.of_eq rfl) (.cons rfl (.of_eq rfl) (.cons rfl (.of_eq rfl) .nil))) (.box rfl (.cons (.of_eq rfl) (.cons (.of_eq rfl) (.cons (.of_eq rfl) .nil))) .nil) rfl)))) ?_
  refine W.seq ?_
  refine W.seq ?_
  refine W.reg (σ' := ⟨[(0, .v (Enc.sl (Enc.int .u8)) a0), (2, .ptr 101 0), (3, .v (Enc.err ET) (none : Option Int)), (17, .v Enc.bool (cm .lss (a0.length : Int) (6 : Int)))], [(101, .box 38 [.v (Enc.int .i64) (0 : Int), .v (Enc.sl (Enc.int .i64)) ([] : (List Int)), .v (Enc.sl eBlk) ([] : (List Blk))])]⟩) (J.cons (.none rfl) (JO.move rfl) rfl rfl (J.cons (.none rfl) (JO.len rfl Try.runUnderlying40) rfl rfl (J.cons (.none rfl) (JO.cmp rfl rfl rfl) rfl rfl (J.fin (Sw.Sub.mk id (.cons rfl (.of_eq rfl) (.cons rfl (.of_eq rfl) (.cons rfl (.of_eq rfl) (.cons rfl (.of_eq rfl) .nil)))) (.box rfl (.cons (.of_eq rfl) (.cons (.of_eq rfl) (.cons (.of_eq rfl) .nil))) .nil) rfl))))) ?_
  rcases Bool.eq_false_or_eq_true (cm .lss (a0.length : Int) (6 : Int)) with hc1 | hc1
  · replace h := cond_t hc1 h
    refine W.condT rfl hc1 ?_
    refine W.seq ?_
    refine W.reg (σ' := ⟨[(2, .ptr 101 0), (3, .v (Enc.err ET) (some (3 : Int)))], [(101, .box 38 [.v (Enc.int .i64) (0 : Int), .ref 103, .ref 102]), (103, .arr 3 (Enc.int .i64) ([] : (List Int))), (102, .arr 24 eBlk ([] : (List Blk)))]⟩) (J.cons (.none rfl) (JO.buildN (new := [(103, .arr 3 (Enc.int .i64) ([] : (List Int))), (102, .arr 24 eBlk ([] : (List Blk)))]) built38 (.cons (Z.int .i64) (.ref 103 rfl (.ref 102 rfl .nil))) (.cons (.cons .nil)) rfl .nil) rfl rfl (J.cons (.none rfl) (JO.mkErr Try.runUnderlying25 rfl) rfl rfl (J.mut (.none rfl) (JM.storeAgg rfl rfl rfl rfl rfl rfl Try.sizeOf38) (J.cons (.none rfl) (JO.assign rfl) rfl rfl (J.fin (Sw.Sub.mk id (.cons rfl (.of_eq rfl) (.cons rfl (.of_eq rfl) .nil)) (.box rfl (.cons (.of_eq rfl) (.cons (.of_eq rfl) (.cons (.of_eq rfl) .nil))) (.arr rfl (.arr rfl .nil))) rfl)))))) ?_
    refine W.ret ?_
    obtain rfl := Option.some.inj h
    exact XQ.sub (σ' := ⟨[(2, .ptr 90 0), (3, .v (Enc.err ET) (some (3 : Int)))], [(90, .box 38 [.v (Enc.int .i64) (0 : Int), .v (Enc.sl (Enc.int .i64)) ([] : (List Int)), .v (Enc.sl eBlk) ([] : (List Blk))])]⟩) (Sw.Sub.mk (rn [(90, 101)]) (.cons rfl (.of_eq rfl) (.cons rfl (.of_eq rfl) .nil)) (.box rfl (.cons (.of_eq rfl) (.cons (.frz rfl rfl) (.cons (.frz rfl rfl) .nil))) .nil) rfl) (XQ.ret2 hF noR rfl (RV.cellAll rfl rfl (.prm (.one _ _) (.prm (.one _ _) (.one _ _))) Try.isAgg38 Try.sizeOf38) (RV.tmp rfl) .nil rfl)
  · replace h := cond_f hc1 h
    refine W.condF rfl hc1 ?_
    refine W.skip ?_
    refine W.seq ?_
    obtain ⟨v2, hv2, h⟩ := bind_e h
    refine W.reg (σ' := ⟨[(0, .v (Enc.sl (Enc.int .u8)) a0), (2, .ptr 101 0), (3, .v (Enc.err ET) (none : Option Int)), (4, .v (Enc.sl (Enc.int .u8)) v2)], [(101, .box 38 [.v (Enc.int .i64) (0 : Int), .v (Enc.sl (Enc.int .i64)) ([] : (List Int)), .v (Enc.sl eBlk) ([] : (List Blk))])]⟩) (J.cons (.none rfl) (JO.move rfl) rfl rfl (J.cons (.none rfl) (JO.move rfl) rfl rfl (J.cons (.none rfl) (JO.len rfl Try.runUnderlying40) rfl rfl (J.cons (.none rfl) (JO.arith rfl rfl rfl) rfl rfl (J.cons (.none rfl) (JO.slHi hv2 rfl rfl Try.runUnderlying40 Try.sizeOf5) rfl rfl (J.cons (.none rfl) (JO.assign rfl) rfl rfl (J.fin (Sw.Sub.mk id (.cons rfl (.of_eq rfl) (.cons rfl (.of_eq rfl) (.cons rfl (.of_eq rfl) (.cons rfl (.of_eq rfl) .nil)))) (.box rfl (.cons (.of_eq rfl) (.cons (.of_eq rfl) (.cons (.of_eq rfl) .nil))) .nil) rfl)))))))) ?_
    refine W.seq ?_
    obtain ⟨v3, hv3, h⟩ := bind_e h
    refine W.reg (σ' := ⟨[(0, .v (Enc.sl (Enc.int .u8)) a0), (2, .ptr 101 0), (3, .v (Enc.err ET) (none : Option Int)), (4, .v (Enc.sl (Enc.int .u8)) v2), (5, .v (Enc.int .u32) v3)], [(101, .box 38 [.v (Enc.int .i64) (0 : Int), .v (Enc.sl (Enc.int .i64)) ([] : (List Int)), .v (Enc.sl eBlk) ([] : (List Blk))])]⟩) (J.cons (.none rfl) (JO.move rfl) rfl rfl (J.cons (.none rfl) (JO.call0 (con_frame_Sum hv3) Try.call33 (.cons (.dir rfl) .nil)) rfl rfl (J.cons (.none rfl) (JO.assign rfl) rfl rfl (J.fin (Sw.Sub.mk id (.cons rfl (.of_eq rfl) (.cons rfl (.of_eq rfl) (.cons rfl (.of_eq rfl) (.cons rfl (.of_eq rfl) (.cons rfl (.of_eq rfl) .nil))))) (.box rfl (.cons (.of_eq rfl) (.cons (.of_eq rfl) (.cons (.of_eq rfl) .nil))) .nil) rfl))))) ?_
    refine W.seq ?_
    refine W.seq ?_
    obtain ⟨v4, hv4, h⟩ := bind_e h
    obtain ⟨z5, hz5, h⟩ := bind_e h
    refine W.reg (σ' := ⟨[(2, .ptr 101 0), (3, .v (Enc.err ET) (none : Option Int)), (4, .v (Enc.sl (Enc.int .u8)) v2), (45, .v Enc.bool (!decide (z5 = ([(IntKind.wrap .u8 (sh .shr .u32 v3 (24 : Int))), (IntKind.wrap .u8 (sh .shr .u32 v3 (16 : Int))), (IntKind.wrap .u8 (sh .shr .u32 v3 (8 : Int))), (IntKind.wrap .u8 v3)] : (List Int)))))], [(101, .box 38 [.v (Enc.int .i64) (0 : Int), .v (Enc.sl (Enc.int .i64)) ([] : (List Int)), .v (Enc.sl eBlk) ([] : (List Blk))])]⟩) (J.cons (.none rfl) (JO.move rfl) rfl rfl (J.cons (.none rfl) (JO.move rfl) rfl rfl (J.cons (.none rfl) (JO.len rfl Try.runUnderlying40) rfl rfl (J.cons (.none rfl) (JO.slLo hv4 rfl rfl Try.runUnderlying40 Try.sizeOf5) rfl rfl (J.cons (.none rfl) (JO.arrPtr hz5 rfl Try.runUnderlying126) rfl rfl (J.cons (.none rfl) (JO.loadPst rfl Try.isAgg126 Try.sizeOf126) rfl rfl (J.cons (.none rfl) (JO.move rfl) rfl rfl (J.cons (.none rfl) (JO.shift (.inr rfl) (by decide) rfl rfl) rfl rfl (J.cons (.none rfl) (JO.conv Try.runUnderlying61 Try.runUnderlying5 rfl) rfl rfl (J.cons (.none rfl) (JO.move rfl) rfl rfl (J.cons (.none rfl) (JO.shift (.inr rfl) (by decide) rfl rfl) rfl rfl (J.cons (.none rfl) (JO.conv Try.runUnderlying61 Try.runUnderlying5 rfl) rfl rfl (J.cons (.none rfl) (JO.move rfl) rfl rfl (J.cons (.none rfl) (JO.shift (.inr rfl) (by decide) rfl rfl) rfl rfl (J.cons (.none rfl) (JO.conv Try.runUnderlying61 Try.runUnderlying5 rfl) rfl rfl (J.cons (.none rfl) (JO.move rfl) rfl rfl (J.cons (.none rfl) (JO.conv Try.runUnderlying61 Try.runUnderlying5 rfl) rfl rfl (J.cons (.none rfl) (JO.litArr (e := (Enc.int .u8)) Try.typeInfo126 Try.runUnderlying126 Try.typeInfo5 rfl rfl rfl rfl rfl (.cons (.dir rfl) (.cons (.dir rfl) (.cons (.dir rfl) (.cons (.dir rfl) .nil))))) rfl rfl (J.cons (.none rfl) (JO.neV eq126 rfl rfl Try.eqGuardType126 rfl rfl) rfl rfl (J.fin (Sw.Sub.mk id (.cons rfl (.of_eq rfl) (.cons rfl (.of_eq rfl) (.cons rfl (.of_eq rfl) (.cons rfl (.of_eq rfl) .nil)))) (.box rfl (.cons (.of_eq rfl) (.cons (.of_eq rfl) (.cons (.of_eq rfl) .nil))) .nil) rfl))))))))))))))))))))) ?_
    rcases Bool.eq_false_or_eq_true (!decide (z5 = ([(IntKind.wrap .u8 (sh .shr .u32 v3 (24 : Int))), (IntKind.wrap .u8 (sh .shr .u32 v3 (16 : Int))), (IntKind.wrap .u8 (sh .shr .u32 v3 (8 : Int))), (IntKind.wrap .u8 v3)] : (List Int)))) with hc6 | hc6
    · replace h := cond_t hc6 h
      refine W.condT rfl hc6 ?_
      refine W.seq ?_
      refine W.reg (σ' := ⟨[(2, .ptr 101 0), (3, .v (Enc.err ET) (some (3 : Int)))], [(101, .box 38 [.v (Enc.int .i64) (0 : Int), .ref 106, .ref 105]), (106, .arr 3 (Enc.int .i64) ([] : (List Int))), (105, .arr 24 eBlk ([] : (List Blk)))]⟩) (J.cons (.none rfl) (JO.buildN (new := [(106, .arr 3 (Enc.int .i64) ([] : (List Int))), (105, .arr 24 eBlk ([] : (List Blk)))]) built38 (.cons (Z.int .i64) (.ref 106 rfl (.ref 105 rfl .nil))) (.cons (.cons .nil)) rfl .nil) rfl rfl (J.cons (.none rfl) (JO.mkErr Try.runUnderlying25 rfl) rfl rfl (J.mut (.none rfl) (JM.storeAgg rfl rfl rfl rfl rfl rfl Try.sizeOf38) (J.cons (.none rfl) (JO.assign rfl) rfl rfl (J.fin (Sw.Sub.mk id (.cons rfl (.of_eq rfl) (.cons rfl (.of_eq rfl) .nil)) (.box rfl (.cons (.of_eq rfl) (.cons (.of_eq rfl) (.cons (.of_eq rfl) .nil))) (.arr rfl (.arr rfl .nil))) rfl)))))) ?_
      refine W.ret ?_
      obtain rfl := Option.some.inj h
      exact XQ.sub (σ' := ⟨[(2, .ptr 90 0), (3, .v (Enc.err ET) (some (3 : Int)))], [(90, .box 38 [.v (Enc.int .i64) (0 : Int), .v (Enc.sl (Enc.int .i64)) ([] : (List Int)), .v (Enc.sl eBlk) ([] : (List Blk))])]⟩) (Sw.Sub.mk (rn [(90, 101)]) (.cons rfl (.of_eq rfl) (.cons rfl (.of_eq rfl) .nil)) (.box rfl (.cons (.of_eq rfl) (.cons (.frz rfl rfl) (.cons (.frz rfl rfl) .nil))) .nil) rfl) (XQ.ret2 hF noR rfl (RV.cellAll rfl rfl (.prm (.one _ _) (.prm (.one _ _) (.one _ _))) Try.isAgg38 Try.sizeOf38) (RV.tmp rfl) .nil rfl)
    · replace h := cond_f hc6 h
      refine W.condF rfl hc6 ?_
      refine W.skip ?_
      refine W.seq ?_
      refine W.reg (σ' := ⟨[(2, .ptr 101 0), (3, .v (Enc.err ET) (none : Option Int)), (6, .ptr 107 0)], [(101, .box 38 [.v (Enc.int .i64) (0 : Int), .v (Enc.sl (Enc.int .i64)) ([] : (List Int)), .v (Enc.sl eBlk) ([] : (List Blk))]), (107, .box 129 [.v (Enc.sl (Enc.int .u8)) v2])]⟩) (J.cons (.none rfl) (JO.move rfl) rfl rfl (J.cons (.none rfl) (JO.build built129 (.cons (Z.sl (Enc.int .u8)) .nil) (.cons rfl (.dir rfl) rfl rfl rfl rfl .nil)) rfl rfl (J.cons (.none rfl) (JO.boxAgg 107 rfl rfl) rfl rfl (J.cons (.none rfl) (JO.assign rfl) rfl rfl (J.fin (Sw.Sub.mk id (.cons rfl (.of_eq rfl) (.cons rfl (.of_eq rfl) (.cons rfl (.of_eq rfl) .nil))) (.box rfl (.cons (.of_eq rfl) (.cons (.of_eq rfl) (.cons (.of_eq rfl) .nil))) (.box rfl (.cons (.of_eq rfl) .nil) .nil)) rfl)))))) ?_
      refine W.seq ?_
      obtain ⟨v7, hv7, h⟩ := bind_e h
      refine W.reg (σ' := ⟨[(2, .ptr 101 0), (3, .v (Enc.err ET) (none : Option Int)), (6, .ptr 107 0), (7, .v (Enc.int .u8) v7.1)], [(101, .box 38 [.v (Enc.int .i64) (0 : Int), .v (Enc.sl (Enc.int .i64)) ([] : (List Int)), .v (Enc.sl eBlk) ([] : (List Blk))]), (107, .box 129 [.v (Enc.sl (Enc.int .u8)) v7.2.2])]⟩) (J.cons (.none rfl) (JO.move rfl) rfl rfl (J.mut (.none rfl) (JM.callM (H := [107]) (K := [107]) (swp [(9000, 107)]) (swp_inj _) (fun A => con_frame_taker_byte_io A hv7) Try.call72 (.cons (.dir rfl) .nil) (fun A => (.box rfl .nil)) (fun A => (.box rfl .nil rfl)) (fun _ => rfl) rfl rfl (fun _ => rfl) rfl rfl) (J.cons (.none rfl) (JO.move rfl) rfl rfl (J.cons (.none rfl) (JO.extract rfl rfl) rfl rfl (J.cons (.none rfl) (JO.extract rfl rfl) rfl rfl (J.cons (.none rfl) (JO.assign rfl) rfl rfl (J.cons (.none rfl) (JO.assign rfl) rfl rfl (J.fin (Sw.Sub.mk id (.cons rfl (.of_eq rfl) (.cons rfl (.of_eq rfl) (.cons rfl (.of_eq rfl) (.cons rfl (.of_eq rfl) .nil)))) (.box rfl (.cons (.of_eq rfl) (.cons (.of_eq rfl) (.cons (.of_eq rfl) .nil))) (.box rfl (.cons (.of_eq rfl) .nil) .nil)) rfl))))))))) ?_
      refine W.seq ?_
      obtain ⟨v8, hv8, h⟩ := bind_e h
      refine W.reg (σ' := ⟨[(2, .ptr 101 0), (3, .v (Enc.err ET) (none : Option Int)), (6, .ptr 107 0), (7, .v (Enc.int .u8) v7.1), (9, .v (Enc.int .u8) v8.1)], [(101, .box 38 [.v (Enc.int .i64) (0 : Int), .v (Enc.sl (Enc.int .i64)) ([] : (List Int)), .v (Enc.sl eBlk) ([] : (List Blk))]), (107, .box 129 [.v (Enc.sl (Enc.int .u8)) v8.2.2])]⟩) (J.cons (.none rfl) (JO.move rfl) rfl rfl (J.mut (.none rfl) (JM.callM (H := [107]) (K := [107]) (swp [(9000, 107)]) (swp_inj _) (fun A => con_frame_taker_byte_io A hv8) Try.call72 (.cons (.dir rfl) .nil) (fun A => (.box rfl .nil)) (fun A => (.box rfl .nil rfl)) (fun _ => rfl) rfl rfl (fun _ => rfl) rfl rfl) (J.cons (.none rfl) (JO.move rfl) rfl rfl (J.cons (.none rfl) (JO.extract rfl rfl) rfl rfl (J.cons (.none rfl) (JO.extract rfl rfl) rfl rfl (J.cons (.none rfl) (JO.assign rfl) rfl rfl (J.cons (.none rfl) (JO.assign rfl) rfl rfl (J.fin (Sw.Sub.mk id (.cons rfl (.of_eq rfl) (.cons rfl (.of_eq rfl) (.cons rfl (.of_eq rfl) (.cons rfl (.of_eq rfl) (.cons rfl (.of_eq rfl) .nil))))) (.box rfl (.cons (.of_eq rfl) (.cons (.of_eq rfl) (.cons (.of_eq rfl) .nil))) (.box rfl (.cons (.of_eq rfl) .nil) .nil)) rfl))))))))) ?_
      refine W.seq ?_
      refine W.reg (σ' := ⟨[(2, .ptr 101 0), (3, .v (Enc.err ET) (none : Option Int)), (6, .ptr 107 0), (7, .v (Enc.int .u8) v7.1), (9, .v (Enc.int .u8) v8.1), (11, .ptr 110 0)], [(101, .box 38 [.v (Enc.int .i64) (0 : Int), .v (Enc.sl (Enc.int .i64)) ([] : (List Int)), .v (Enc.sl eBlk) ([] : (List Blk))]), (107, .box 129 [.v (Enc.sl (Enc.int .u8)) v8.2.2]), (110, .box 38 [.v (Enc.int .i64) (sh .shr .u8 v7.1 (4 : Int)), .ref 109, .ref 108]), (109, .arr 3 (Enc.int .i64) ([] : (List Int))), (108, .arr 24 eBlk ([] : (List Blk)))]⟩) (J.cons (.none rfl) (JO.move rfl) rfl rfl (J.cons (.none rfl) (JO.shift (.inr rfl) (by decide) rfl rfl) rfl rfl (J.cons (.none rfl) (JO.convUp Try.runUnderlying5 Try.runUnderlying3 rfl rfl) rfl rfl (J.cons (.none rfl) (JO.buildN (new := [(109, .arr 3 (Enc.int .i64) ([] : (List Int))), (108, .arr 24 eBlk ([] : (List Blk)))]) built38 (.cons (Z.int .i64) (.ref 109 rfl (.ref 108 rfl .nil))) (.cons (.cons .nil)) rfl (.cons rfl (.dir rfl) rfl rfl rfl rfl .nil)) rfl rfl (J.cons (.none rfl) (JO.allocN (new := [(112, .arr 3 (Enc.int .i64) ([] : (List Int))), (111, .arr 24 eBlk ([] : (List Blk)))]) 110 Try.zeroValue38 rfl (.cons (Z.int .i64) (.ref 112 rfl (.ref 111 rfl .nil))) (.cons (.cons .nil)) rfl rfl) rfl rfl (J.mut (.none rfl) (JM.storeAgg rfl rfl rfl rfl rfl rfl Try.sizeOf38) (J.fin (Sw.Sub.mk id (.cons rfl (.of_eq rfl) (.cons rfl (.of_eq rfl) (.cons rfl (.of_eq rfl) (.cons rfl (.of_eq rfl) (.cons rfl (.of_eq rfl) (.cons rfl (.of_eq rfl) .nil)))))) (.box rfl (.cons (.of_eq rfl) (.cons (.of_eq rfl) (.cons (.of_eq rfl) .nil))) (.box rfl (.cons (.of_eq rfl) .nil) (.box rfl (.cons (.of_eq rfl) (.cons (.of_eq rfl) (.cons (.of_eq rfl) .nil))) (.arr rfl (.arr rfl .nil))))) rfl)))))))) ?_
      refine W.seq ?_
      refine W.seq ?_
      refine W.reg (σ' := ⟨[(2, .ptr 101 0), (3, .v (Enc.err ET) (none : Option Int)), (6, .ptr 107 0), (9, .v (Enc.int .u8) v8.1), (11, .ptr 110 0), (66, .v (Enc.int .u8) (ar .and .u8 v7.1 (15 : Int))), (67, .v (Enc.int .u8) (0 : Int))], [(101, .box 38 [.v (Enc.int .i64) (0 : Int), .v (Enc.sl (Enc.int .i64)) ([] : (List Int)), .v (Enc.sl eBlk) ([] : (List Blk))]), (107, .box 129 [.v (Enc.sl (Enc.int .u8)) v8.2.2]), (110, .box 38 [.v (Enc.int .i64) (sh .shr .u8 v7.1 (4 : Int)), .ref 109, .ref 108]), (109, .arr 3 (Enc.int .i64) ([] : (List Int))), (108, .arr 24 eBlk ([] : (List Blk)))]⟩) (J.cons (.none rfl) (JO.move rfl) rfl rfl (J.cons (.none rfl) (JO.arith rfl rfl rfl) rfl rfl (J.cons (.none rfl) (JO.move rfl) rfl rfl (J.fin (Sw.Sub.mk id (.cons rfl (.of_eq rfl) (.cons rfl (.of_eq rfl) (.cons rfl (.of_eq rfl) (.cons rfl (.of_eq rfl) (.cons rfl (.of_eq rfl) (.cons rfl (.of_eq rfl) (.cons rfl (.of_eq rfl) .nil))))))) (.box rfl (.cons (.of_eq rfl) (.cons (.of_eq rfl) (.cons (.of_eq rfl) .nil))) (.box rfl (.cons (.of_eq rfl) .nil) (.box rfl (.cons (.of_eq rfl) (.cons (.of_eq rfl) (.cons (.of_eq rfl) .nil))) (.arr rfl (.arr rfl .nil))))) rfl))))) ?_
      obtain ⟨o24, ho24, hb24, hr24⟩ := lp_elim h
      refine W.lp (σs := fun s19 : Int × (List Int) × (List Int) => ⟨[(2, .ptr 101 0), (3, .v (Enc.err ET) (none : Option Int)), (6, .ptr 107 0), (9, .v (Enc.int .u8) v8.1), (11, .ptr 110 0), (66, .v (Enc.int .u8) (ar .and .u8 v7.1 (15 : Int))), (67, .v (Enc.int .u8) s19.1)], [(101, .box 38 [.v (Enc.int .i64) (0 : Int), .v (Enc.sl (Enc.int .i64)) ([] : (List Int)), .v (Enc.sl eBlk) ([] : (List Blk))]), (107, .box 129 [.v (Enc.sl (Enc.int .u8)) s19.2.1]), (110, .box 38 [.v (Enc.int .i64) (sh .shr .u8 v7.1 (4 : Int)), .ref 122, .ref 108]), (122, .arr 3 (Enc.int .i64) s19.2.2), (108, .arr 24 eBlk ([] : (List Blk)))]⟩) (fun x25 : (List Int) × (List Int) => ⟨[(2, .ptr 101 0), (3, .v (Enc.err ET) (none : Option Int)), (6, .ptr 107 0), (9, .v (Enc.int .u8) v8.1), (11, .ptr 110 0)], [(101, .box 38 [.v (Enc.int .i64) (0 : Int), .v (Enc.sl (Enc.int .i64)) ([] : (List Int)), .v (Enc.sl eBlk) ([] : (List Blk))]), (107, .box 129 [.v (Enc.sl (Enc.int .u8)) x25.1]), (110, .box 38 [.v (Enc.int .i64) (sh .shr .u8 v7.1 (4 : Int)), .ref 122, .ref 108]), (122, .arr 3 (Enc.int .i64) x25.2), (108, .arr 24 eBlk ([] : (List Blk)))]⟩) ho24 (Sw.Sub.mk (rn [(101, 101), (107, 107), (110, 110), (108, 108), (122, 109)]) (.cons rfl (.of_eq rfl) (.cons rfl (.of_eq rfl) (.cons rfl (.of_eq rfl) (.cons rfl (.of_eq rfl) (.cons rfl (.of_eq rfl) (.cons rfl (.of_eq rfl) (.cons rfl (.of_eq rfl) .nil))))))) (.box rfl (.cons (.of_eq rfl) (.cons (.of_eq rfl) (.cons (.of_eq rfl) .nil))) (.box rfl (.cons (.of_eq rfl) .nil) (.box rfl (.cons (.of_eq rfl) (.cons (.of_eq rfl) (.cons (.of_eq rfl) .nil))) (.arr rfl (.arr rfl .nil))))) rfl) ?_ ?_
      · intro x25 hy
        have h := hb24 _ hy
        refine W.seq ?_
        refine W.seq ?_
        obtain ⟨x32, hx, h⟩ := bind_e h
        refine W.reg (σ' := ⟨[(2, .ptr 101 0), (3, .v (Enc.err ET) (none : Option Int)), (6, .ptr 107 0), (11, .ptr 110 0), (104, .v Enc.bool x32)], [(101, .box 38 [.v (Enc.int .i64) (0 : Int), .v (Enc.sl (Enc.int .i64)) ([] : (List Int)), .v (Enc.sl eBlk) ([] : (List Blk))]), (107, .box 129 [.v (Enc.sl (Enc.int .u8)) x25.1]), (110, .box 38 [.v (Enc.int .i64) (sh .shr .u8 v7.1 (4 : Int)), .ref 122, .ref 108]), (122, .arr 3 (Enc.int .i64) x25.2), (108, .arr 24 eBlk ([] : (List Blk)))]⟩) ?_ ?_
        · rcases Bool.eq_false_or_eq_true (cm .gtr v8.1 (32 : Int)) with hc33 | hc33
          · replace hx := cond_t hc33 hx
            obtain rfl := Option.some.inj hx
            exact (J.cons (.none rfl) (JO.move rfl) rfl rfl (J.cons (.none rfl) (JO.convUp Try.runUnderlying5 Try.runUnderlying3 rfl rfl) rfl rfl (J.cons (.none rfl) (JO.cmp rfl rfl rfl) rfl rfl (J.cons (.none rfl) (JO.move rfl) rfl rfl (J.left (GK.unmet 88 rfl rfl rfl hc33) rfl (J.left (GK.unmet 88 rfl rfl rfl hc33) rfl (J.left (GK.unmet 88 rfl rfl rfl hc33) rfl (J.left (GK.unmet 88 rfl rfl rfl hc33) rfl (J.cons (.none rfl) (JO.pT hc33 rfl rfl) rfl rfl (J.cons (.none rfl) (JO.move rfl) rfl rfl (J.left (GK.unmet 94 rfl rfl rfl rfl) rfl (J.left (GK.unmet 94 rfl rfl rfl rfl) rfl (J.left (GK.unmet 94 rfl rfl rfl rfl) rfl (J.left (GK.unmet 94 rfl rfl rfl rfl) rfl (J.left (GK.unmet 94 rfl rfl rfl rfl) rfl (J.left (GK.unmet 94 rfl rfl rfl rfl) rfl (J.left (GK.unmet 94 rfl rfl rfl rfl) rfl (J.left (GK.unmet 94 rfl rfl rfl rfl) rfl (J.left (GK.unmet 94 rfl rfl rfl rfl) rfl (J.cons (.none rfl) (JO.pT rfl rfl rfl) rfl rfl (J.fin (Sw.Sub.mk id (.cons rfl (.of_eq rfl) (.cons rfl (.of_eq rfl) (.cons rfl (.of_eq rfl) (.cons rfl (.of_eq rfl) (.cons rfl (.of_eq rfl) .nil))))) (.box rfl (.cons (.of_eq rfl) (.cons (.of_eq rfl) (.cons (.of_eq rfl) .nil))) (.box rfl (.cons (.of_eq rfl) .nil) (.box rfl (.cons (.of_eq rfl) (.cons (.of_eq rfl) (.cons (.of_eq rfl) .nil))) (.arr rfl (.arr rfl .nil))))) rfl))))))))))))))))))))))
          · replace hx := cond_f hc33 hx
            rcases Bool.eq_false_or_eq_true (cm .gtr (x25.2.length : Int) (12 : Int)) with hc34 | hc34
            · replace hx := cond_t hc34 hx
              obtain rfl := Option.some.inj hx
              exact (J.cons (.none rfl) (JO.move rfl) rfl rfl (J.cons (.none rfl) (JO.convUp Try.runUnderlying5 Try.runUnderlying3 rfl rfl) rfl rfl (J.cons (.none rfl) (JO.cmp rfl rfl rfl) rfl rfl (J.cons (.none rfl) (JO.move rfl) rfl rfl (J.cons (GK.met 88 rfl rfl rfl hc33) (JO.fieldPtr 1 rfl Try.runUnderlying38 rfl Try.sizeOf36 rfl rfl) rfl rfl (J.cons (GK.met 88 rfl rfl rfl hc33) (JO.load rfl rfl rfl Try.isAgg36 Try.sizeOf36) rfl rfl (J.cons (GK.met 88 rfl rfl rfl hc33) (JO.lenR rfl rfl Try.runUnderlying36) rfl rfl (J.cons (GK.met 88 rfl rfl rfl hc33) (JO.cmp rfl rfl rfl) rfl rfl (J.cons (.none rfl) (JO.pF hc33 rfl rfl) rfl rfl (J.cons (.none rfl) (JO.move rfl) rfl rfl (J.left (GK.unmet 94 rfl rfl rfl hc34) rfl (J.left (GK.unmet 94 rfl rfl rfl hc34) rfl (J.left (GK.unmet 94 rfl rfl rfl hc34) rfl (J.left (GK.unmet 94 rfl rfl rfl hc34) rfl (J.left (GK.unmet 94 rfl rfl rfl hc34) rfl (J.left (GK.unmet 94 rfl rfl rfl hc34) rfl (J.left (GK.unmet 94 rfl rfl rfl hc34) rfl (J.left (GK.unmet 94 rfl rfl rfl hc34) rfl (J.left (GK.unmet 94 rfl rfl rfl hc34) rfl (J.cons (.none rfl) (JO.pT hc34 rfl rfl) rfl rfl (J.fin (Sw.Sub.mk id (.cons rfl (.of_eq rfl) (.cons rfl (.of_eq rfl) (.cons rfl (.of_eq rfl) (.cons rfl (.of_eq rfl) (.cons rfl (.of_eq rfl) .nil))))) (.box rfl (.cons (.of_eq rfl) (.cons (.of_eq rfl) (.cons (.of_eq rfl) .nil))) (.box rfl (.cons (.of_eq rfl) .nil) (.box rfl (.cons (.of_eq rfl) (.cons (.of_eq rfl) (.cons (.of_eq rfl) .nil))) (.arr rfl (.arr rfl .nil))))) rfl))))))))))))))))))))))
            · replace hx := cond_f hc34 hx
              obtain rfl := Option.some.inj hx
              exact (J.cons (.none rfl) (JO.move rfl) rfl rfl (J.cons (.none rfl) (JO.convUp Try.runUnderlying5 Try.runUnderlying3 rfl rfl) rfl rfl (J.cons (.none rfl) (JO.cmp rfl rfl rfl) rfl rfl (J.cons (.none rfl) (JO.move rfl) rfl rfl (J.cons (GK.met 88 rfl rfl rfl hc33) (JO.fieldPtr 1 rfl Try.runUnderlying38 rfl Try.sizeOf36 rfl rfl) rfl rfl (J.cons (GK.met 88 rfl rfl rfl hc33) (JO.load rfl rfl rfl Try.isAgg36 Try.sizeOf36) rfl rfl (J.cons (GK.met 88 rfl rfl rfl hc33) (JO.lenR rfl rfl Try.runUnderlying36) rfl rfl (J.cons (GK.met 88 rfl rfl rfl hc33) (JO.cmp rfl rfl rfl) rfl rfl (J.cons (.none rfl) (JO.pF hc33 rfl rfl) rfl rfl (J.cons (.none rfl) (JO.move rfl) rfl rfl (J.cons (GK.met 94 rfl rfl rfl hc34) (JO.move rfl) rfl rfl (J.cons (GK.met 94 rfl rfl rfl hc34) (JO.nilPtr rfl) rfl rfl (J.cons (GK.met 94 rfl rfl rfl hc34) (JO.fieldPtr 0 rfl Try.runUnderlying129 rfl Try.sizeOf40 rfl rfl) rfl rfl (J.cons (GK.met 94 rfl rfl rfl hc34) (JO.load rfl rfl rfl Try.isAgg40 Try.sizeOf40) rfl rfl (J.cons (GK.met 94 rfl rfl rfl hc34) (JO.len rfl Try.runUnderlying40) rfl rfl (J.cons (GK.met 94 rfl rfl rfl hc34) (JO.move rfl) rfl rfl (J.cons (GK.met 94 rfl rfl rfl hc34) (JO.convUp Try.runUnderlying5 Try.runUnderlying3 rfl rfl) rfl rfl (J.cons (GK.met 94 rfl rfl rfl hc34) (JO.arith rfl rfl rfl) rfl rfl (J.cons (GK.met 94 rfl rfl rfl hc34) (JO.cmp rfl rfl rfl) rfl rfl (J.cons (.none rfl) (JO.pF hc34 rfl rfl) rfl rfl (J.fin (Sw.Sub.mk id (.cons rfl (.of_eq rfl) (.cons rfl (.of_eq rfl) (.cons rfl (.of_eq rfl) (.cons rfl (.of_eq rfl) (.cons rfl (.of_eq rfl) .nil))))) (.box rfl (.cons (.of_eq rfl) (.cons (.of_eq rfl) (.cons (.of_eq rfl) .nil))) (.box rfl (.cons (.of_eq rfl) .nil) (.box rfl (.cons (.of_eq rfl) (.cons (.of_eq rfl) (.cons (.of_eq rfl) .nil))) (.arr rfl (.arr rfl .nil))))) rfl))))))))))))))))))))))
        rcases Bool.eq_false_or_eq_true x32 with hc35 | hc35
        · replace h := cond_t hc35 h
          refine W.condT rfl hc35 ?_
          refine W.seq ?_
          refine W.reg (σ' := ⟨[(2, .ptr 101 0), (3, .v (Enc.err ET) (some (3 : Int)))], [(101, .box 38 [.v (Enc.int .i64) (0 : Int), .ref 130, .ref 129]), (130, .arr 3 (Enc.int .i64) ([] : (List Int))), (129, .arr 24 eBlk ([] : (List Blk)))]⟩) (J.cons (.none rfl) (JO.buildN (new := [(130, .arr 3 (Enc.int .i64) ([] : (List Int))), (129, .arr 24 eBlk ([] : (List Blk)))]) built38 (.cons (Z.int .i64) (.ref 130 rfl (.ref 129 rfl .nil))) (.cons (.cons .nil)) rfl .nil) rfl rfl (J.cons (.none rfl) (JO.mkErr Try.runUnderlying25 rfl) rfl rfl (J.mut (.none rfl) (JM.storeAgg rfl rfl rfl rfl rfl rfl Try.sizeOf38) (J.cons (.none rfl) (JO.assign rfl) rfl rfl (J.fin (Sw.Sub.mk id (.cons rfl (.of_eq rfl) (.cons rfl (.of_eq rfl) .nil)) (.box rfl (.cons (.of_eq rfl) (.cons (.of_eq rfl) (.cons (.of_eq rfl) .nil))) (.arr rfl (.arr rfl .nil))) rfl)))))) ?_
          refine W.ret ?_
          obtain rfl := Option.some.inj h
          exact XQ.sub (σ' := ⟨[(2, .ptr 90 0), (3, .v (Enc.err ET) (some (3 : Int)))], [(90, .box 38 [.v (Enc.int .i64) (0 : Int), .v (Enc.sl (Enc.int .i64)) ([] : (List Int)), .v (Enc.sl eBlk) ([] : (List Blk))])]⟩) (Sw.Sub.mk (rn [(90, 101)]) (.cons rfl (.of_eq rfl) (.cons rfl (.of_eq rfl) .nil)) (.box rfl (.cons (.of_eq rfl) (.cons (.frz rfl rfl) (.cons (.frz rfl rfl) .nil))) .nil) rfl) (XQ.ret2 hF noR rfl (RV.cellAll rfl rfl (.prm (.one _ _) (.prm (.one _ _) (.one _ _))) Try.isAgg38 Try.sizeOf38) (RV.tmp rfl) .nil rfl)
        · replace h := cond_f hc35 h
          refine W.condF rfl hc35 ?_
          refine W.skip ?_
          refine W.seq ?_
          refine W.seq ?_
          obtain ⟨v36, hv36, h⟩ := bind_e h
          refine W.reg (σ' := ⟨[(2, .ptr 101 0), (3, .v (Enc.err ET) (none : Option Int)), (11, .ptr 110 0), (111, .fnc 93 [.pst (Enc.sl (Enc.int .u8)) v36.1, .pst (Enc.int .i64) v36.2])], [(101, .box 38 [.v (Enc.int .i64) (0 : Int), .v (Enc.sl (Enc.int .i64)) ([] : (List Int)), .v (Enc.sl eBlk) ([] : (List Blk))]), (110, .box 38 [.v (Enc.int .i64) (sh .shr .u8 v7.1 (4 : Int)), .ref 122, .ref 108]), (122, .arr 3 (Enc.int .i64) x25.2), (108, .arr 24 eBlk ([] : (List Blk)))]⟩) (J.cons (.none rfl) (JO.move rfl) rfl rfl (J.cons (.none rfl) (JO.nilPtr rfl) rfl rfl (J.cons (.none rfl) (JO.fieldPtr 0 rfl Try.runUnderlying129 rfl Try.sizeOf40 rfl rfl) rfl rfl (J.cons (.none rfl) (JO.load rfl rfl rfl Try.isAgg40 Try.sizeOf40) rfl rfl (J.cons (.none rfl) (JO.call0 (con_slices_Chunk_byte_byte hv36) Try.call74 (.cons (.dir rfl) (.cons (.dir rfl) .nil))) rfl rfl (J.fin (Sw.Sub.mk id (.cons rfl (.of_eq rfl) (.cons rfl (.of_eq rfl) (.cons rfl (.of_eq rfl) (.cons rfl (.of_eq rfl) .nil)))) (.box rfl (.cons (.of_eq rfl) (.cons (.of_eq rfl) (.cons (.of_eq rfl) .nil))) (.box rfl (.cons (.of_eq rfl) (.cons (.of_eq rfl) (.cons (.of_eq rfl) .nil))) (.arr rfl (.arr rfl .nil)))) rfl))))))) ?_
          refine W.block ?_
          obtain ⟨u49, hu49, h⟩ := bind_e h
          obtain ⟨u50, hu50, h⟩ := bind_e h
          obtain ⟨o37, ho37, hb37, hx37⟩ := rg_elim h
          refine W.range (g := [(2, .ptr 101 0), (3, .v (Enc.err ET) (none : Option Int)), (11, .ptr 110 0), (111, .fnc 93 [.pst (Enc.sl (Enc.int .u8)) v36.1, .pst (Enc.int .i64) v36.2])]) (ds0 := [(101, .box 38 [.v (Enc.int .i64) (0 : Int), .v (Enc.sl (Enc.int .i64)) ([] : (List Int)), .v (Enc.sl eBlk) ([] : (List Blk))]), (110, .box 38 [.v (Enc.int .i64) (sh .shr .u8 v7.1 (4 : Int)), .ref 122, .ref 137]), (122, .arr 3 (Enc.int .i64) x25.2), (137, .arr 24 eBlk ([] : (List Blk)))]) (L := [101, 110]) (fun z38 : (List Int) => [.v (Enc.sl (Enc.int .u8)) z38]) (fun A37 (s45 : (List Blk)) => [(101, .box 38 [.v (Enc.int .i64) (0 : Int), .v (Enc.sl (Enc.int .i64)) ([] : (List Int)), .v (Enc.sl eBlk) ([] : (List Blk))] (some (A37 101))), (110, .box 38 [.v (Enc.int .i64) (sh .shr .u8 v7.1 (4 : Int)), .ref 122, .ref 137] (some (A37 110))), (122, .arr 3 (Enc.int .i64) x25.2), (137, .arr 24 eBlk s45)]) (fun _ (z : Empty) => nomatch z) (fun A37 z38 s45 => ⟨[(2, .ptr 101 0), (3, .v (Enc.err ET) (none : Option Int)), (11, .ptr 110 0), (14, .v (Enc.sl (Enc.int .u8)) z38), (111, .fnc 93 [.pst (Enc.sl (Enc.int .u8)) v36.1, .pst (Enc.int .i64) v36.2])], [(101, .box 38 [.v (Enc.int .i64) (0 : Int), .v (Enc.sl (Enc.int .i64)) ([] : (List Int)), .v (Enc.sl eBlk) ([] : (List Blk))] (some (A37 101))), (110, .box 38 [.v (Enc.int .i64) (sh .shr .u8 v7.1 (4 : Int)), .ref 122, .ref 137] (some (A37 110))), (122, .arr 3 (Enc.int .i64) x25.2), (137, .arr 24 eBlk s45)]⟩) hF rfl ho37 (Sw.Sub.mk (rn [(101, 101), (110, 110), (137, 108), (122, 122)]) (.cons rfl (.of_eq rfl) (.cons rfl (.of_eq rfl) (.cons rfl (.of_eq rfl) (.cons rfl (.of_eq rfl) .nil)))) (.box rfl (.cons (.of_eq rfl) (.cons (.of_eq rfl) (.cons (.of_eq rfl) .nil))) (.box rfl (.cons (.of_eq rfl) (.cons (.of_eq rfl) (.cons (.of_eq rfl) .nil))) (.arr rfl (.arr rfl .nil)))) rfl) (fun _ => rfl) rfl (it_93 (chkn_some hu50).1 (small_some hu49) (chkn_some hu50).2) Try.call93 (fun _ => rfl) rfl (fun _ => rfl) rfl (fun _ _ => (.cons rfl (.cons rfl .nil))) (fun _ z => nomatch z) ?_ ?_ ?_ ?_
          · intro A37 S w R l z38 s45
            refine W.reg (σ' := ⟨[(2, .ptr 101 0), (3, .v (Enc.err ET) (none : Option Int)), (11, .ptr 110 0), (14, .v (Enc.sl (Enc.int .u8)) z38), (111, .fnc 93 [.pst (Enc.sl (Enc.int .u8)) v36.1, .pst (Enc.int .i64) v36.2])], [(101, .box 38 [.v (Enc.int .i64) (0 : Int), .v (Enc.sl (Enc.int .i64)) ([] : (List Int)), .v (Enc.sl eBlk) ([] : (List Blk))] (some (A37 101))), (110, .box 38 [.v (Enc.int .i64) (sh .shr .u8 v7.1 (4 : Int)), .ref 122, .ref 137] (some (A37 110))), (122, .arr 3 (Enc.int .i64) x25.2), (137, .arr 24 eBlk s45)]⟩) (J.cons (.none rfl) (JO.assign rfl) rfl rfl (J.fin (Sw.Sub.mk id (.cons rfl (.of_eq rfl) (.cons rfl (.of_eq rfl) (.cons rfl (.of_eq rfl) (.cons rfl (.of_eq rfl) (.cons rfl (.of_eq rfl) .nil))))) (.box rfl (.cons (.of_eq rfl) (.cons (.of_eq rfl) (.cons (.of_eq rfl) .nil))) (.box rfl (.cons (.of_eq rfl) (.cons (.of_eq rfl) (.cons (.of_eq rfl) .nil))) (.arr rfl (.arr rfl .nil)))) rfl))) ?_
            exact W.aq (Sw.Sub.mk id (.cons rfl (.of_eq rfl) (.cons rfl (.of_eq rfl) (.cons rfl (.of_eq rfl) (.cons rfl (.of_eq rfl) (.cons rfl (.of_eq rfl) .nil))))) (.box rfl (.cons (.of_eq rfl) (.cons (.of_eq rfl) (.cons (.of_eq rfl) .nil))) (.box rfl (.cons (.of_eq rfl) (.cons (.of_eq rfl) (.cons (.of_eq rfl) .nil))) (.arr rfl (.arr rfl .nil)))) rfl)
          · intro A37 S w R l z38 s45 r37 h
            refine W.block ?_
            obtain ⟨z46, hz46, h⟩ := bind_e h
            obtain ⟨v47, hv47, h⟩ := bind_e h
            refine W.dr (σ' := ⟨[(2, .ptr 101 0), (3, .v (Enc.err ET) (none : Option Int)), (11, .ptr 110 0), (111, .fnc 93 [.pst (Enc.sl (Enc.int .u8)) v36.1, .pst (Enc.int .i64) v36.2])], [(101, .box 38 [.v (Enc.int .i64) (0 : Int), .v (Enc.sl (Enc.int .i64)) ([] : (List Int)), .v (Enc.sl eBlk) ([] : (List Blk))] (some (A37 101))), (110, .box 38 [.v (Enc.int .i64) (sh .shr .u8 v7.1 (4 : Int)), .ref 122, .ref 138] (some (A37 110))), (122, .arr 3 (Enc.int .i64) x25.2), (138, .arr 24 eBlk v47)]⟩) 6 mixed (by exact (.cons (.none rfl) (JO.fieldPtr 2 rfl Try.runUnderlying38 rfl Try.sizeOf22 rfl rfl) rfl rfl (.cons (.none rfl) (JO.load rfl rfl rfl Try.isAgg22 Try.sizeOf22) rfl rfl (.cons (.none rfl) (JO.move rfl) rfl rfl (.cons (.none rfl) (JO.arrPtr hz46 rfl Try.runUnderlying24) rfl rfl (.cons (.none rfl) (JO.loadPst rfl Try.isAgg24 Try.sizeOf24) rfl rfl (.cons (.none rfl) (JO.lit (e := eBlk) Try.runUnderlying22 Try.sizeOf24 Try.zeroValue24 rfl rfl rfl rfl (.cons (.dir rfl) .nil)) rfl rfl .nil))))))) (by exact (J.mut (.none rfl) (JM.append 138 hv47 rfl rfl (.sl rfl) Try.runUnderlying22 Try.typeInfo24 Try.sizeOf24 rfl rfl rfl rfl rfl) (J.cons (.none rfl) (JO.fieldPtr 2 rfl Try.runUnderlying38 rfl Try.sizeOf22 rfl rfl) rfl rfl (J.mut (.none rfl) (JM.store rfl rfl rfl rfl rfl rfl rfl Try.sizeOf22) (J.fin (Sw.Sub.mk id (.cons rfl (.of_eq rfl) (.cons rfl (.of_eq rfl) (.cons rfl (.of_eq rfl) (.cons rfl (.of_eq rfl) .nil)))) (.box rfl (.cons (.of_eq rfl) (.cons (.of_eq rfl) (.cons (.of_eq rfl) .nil))) (.box rfl (.cons (.of_eq rfl) (.cons (.of_eq rfl) (.cons (.of_eq rfl) .nil))) (.arr rfl (.arr rfl .nil)))) rfl)))))) (by decide +kernel) (by decide +kernel) (by decide +kernel) ?_
            refine W.fall ?_
            obtain rfl := Option.some.inj h
            exact W.rnext (Sw.Sub.mk (rn [(101, 101), (110, 110), (137, 138), (122, 122)]) .nil (.box rfl (.cons (.of_eq rfl) (.cons (.of_eq rfl) (.cons (.of_eq rfl) .nil))) (.box rfl (.cons (.of_eq rfl) (.cons (.of_eq rfl) (.cons (.of_eq rfl) .nil))) (.arr rfl (.arr rfl .nil)))) rfl)
          · intro A37 x48 hy S w R df hF
            have h := hb37 _ hy
            refine W.fall ?_
            refine W.seq ?_
            refine W.reg (σ' := ⟨[(2, .ptr 101 0), (3, .v (Enc.err ET) (none : Option Int))], [(101, .box 38 [.v (Enc.int .i64) (sh .shr .u8 v7.1 (4 : Int)), .ref 122, .ref 137] (some (A37 101))), (122, .arr 3 (Enc.int .i64) x25.2), (137, .arr 24 eBlk x48)]⟩) (J.cons (.none rfl) (JO.loadAgg rfl rfl rfl Try.isAgg38 Try.sizeOf38) rfl rfl (J.mut (.none rfl) (JM.storeAgg rfl rfl rfl rfl rfl rfl Try.sizeOf38) (J.cons (.none rfl) (JO.assignNilE ET) rfl rfl (J.fin (Sw.Sub.mk id (.cons rfl (.of_eq rfl) (.cons rfl (.of_eq rfl) .nil)) (.box rfl (.cons (.of_eq rfl) (.cons (.of_eq rfl) (.cons (.of_eq rfl) .nil))) (.arr rfl (.arr rfl .nil))) rfl))))) ?_
            refine W.ret ?_
            obtain rfl := Option.some.inj h
            exact XQ.sub (σ' := ⟨[(2, .ptr 90 0), (3, .v (Enc.err ET) (none : Option Int))], [(90, .box 38 [.v (Enc.int .i64) (sh .shr .u8 v7.1 (4 : Int)), .v (Enc.sl (Enc.int .i64)) x25.2, .v (Enc.sl eBlk) x48])]⟩) (Sw.Sub.mk (rn [(90, 101)]) (.cons rfl (.of_eq rfl) (.cons rfl (.of_eq rfl) .nil)) (.boxU rfl (.cons (.of_eq rfl) (.cons (.frz rfl rfl) (.cons (.frz rfl rfl) .nil))) .nil) rfl) (XQ.ret2 hF noR rfl (RV.cellAll rfl rfl (.prm (.one _ _) (.prm (.one _ _) (.one _ _))) Try.isAgg38 Try.sizeOf38) (RV.tmp rfl) .nil rfl)
          · exact fun _ z => nomatch z
      intro s19 r24 h
      refine W.seq ?_
      refine W.reg (σ' := ⟨[(2, .ptr 101 0), (3, .v (Enc.err ET) (none : Option Int)), (6, .ptr 107 0), (9, .v (Enc.int .u8) v8.1), (11, .ptr 110 0), (66, .v (Enc.int .u8) (ar .and .u8 v7.1 (15 : Int))), (67, .v (Enc.int .u8) s19.1), (68, .v Enc.bool (cm .lss s19.1 (ar .and .u8 v7.1 (15 : Int))))], [(101, .box 38 [.v (Enc.int .i64) (0 : Int), .v (Enc.sl (Enc.int .i64)) ([] : (List Int)), .v (Enc.sl eBlk) ([] : (List Blk))]), (107, .box 129 [.v (Enc.sl (Enc.int .u8)) s19.2.1]), (110, .box 38 [.v (Enc.int .i64) (sh .shr .u8 v7.1 (4 : Int)), .ref 122, .ref 108]), (122, .arr 3 (Enc.int .i64) s19.2.2), (108, .arr 24 eBlk ([] : (List Blk)))]⟩) (J.cons (.none rfl) (JO.cmp rfl rfl rfl) rfl rfl (J.fin (Sw.Sub.mk id (.cons rfl (.of_eq rfl) (.cons rfl (.of_eq rfl) (.cons rfl (.of_eq rfl) (.cons rfl (.of_eq rfl) (.cons rfl (.of_eq rfl) (.cons rfl (.of_eq rfl) (.cons rfl (.of_eq rfl) (.cons rfl (.of_eq rfl) .nil)))))))) (.box rfl (.cons (.of_eq rfl) (.cons (.of_eq rfl) (.cons (.of_eq rfl) .nil))) (.box rfl (.cons (.of_eq rfl) .nil) (.box rfl (.cons (.of_eq rfl) (.cons (.of_eq rfl) (.cons (.of_eq rfl) .nil))) (.arr rfl (.arr rfl .nil))))) rfl))) ?_
      refine W.seq ?_
      rcases Bool.eq_false_or_eq_true (cm .lss s19.1 (ar .and .u8 v7.1 (15 : Int))) with hc26 | hc26
      · replace h := cond_t hc26 h
        refine W.condT rfl hc26 ?_
        refine W.skip ?_
        refine W.seq ?_
        refine W.block ?_
        refine W.seq ?_
        obtain ⟨v27, hv27, h⟩ := bind_e h
        refine W.reg (σ' := ⟨[(2, .ptr 101 0), (3, .v (Enc.err ET) (none : Option Int)), (6, .ptr 107 0), (9, .v (Enc.int .u8) v8.1), (11, .ptr 110 0), (12, .v (Enc.int .i64) v27.1), (13, .v Enc.bool v27.2.1), (66, .v (Enc.int .u8) (ar .and .u8 v7.1 (15 : Int))), (67, .v (Enc.int .u8) s19.1)], [(101, .box 38 [.v (Enc.int .i64) (0 : Int), .v (Enc.sl (Enc.int .i64)) ([] : (List Int)), .v (Enc.sl eBlk) ([] : (List Blk))]), (107, .box 129 [.v (Enc.sl (Enc.int .u8)) v27.2.2]), (110, .box 38 [.v (Enc.int .i64) (sh .shr .u8 v7.1 (4 : Int)), .ref 122, .ref 108]), (122, .arr 3 (Enc.int .i64) s19.2.2), (108, .arr 24 eBlk ([] : (List Blk)))]⟩) (J.cons (.none rfl) (JO.move rfl) rfl rfl (J.mut (.none rfl) (JM.callM (H := [107]) (K := [107]) (swp [(9000, 107)]) (swp_inj _) (fun A => con_frame_taker_number_io A hv27) Try.call73 (.cons (.dir rfl) .nil) (fun A => (.box rfl .nil)) (fun A => (.box rfl .nil rfl)) (fun _ => rfl) rfl rfl (fun _ => rfl) rfl rfl) (J.cons (.none rfl) (JO.move rfl) rfl rfl (J.cons (.none rfl) (JO.extract rfl rfl) rfl rfl (J.cons (.none rfl) (JO.extract rfl rfl) rfl rfl (J.cons (.none rfl) (JO.assign rfl) rfl rfl (J.cons (.none rfl) (JO.assign rfl) rfl rfl (J.fin (Sw.Sub.mk id (.cons rfl (.of_eq rfl) (.cons rfl (.of_eq rfl) (.cons rfl (.of_eq rfl) (.cons rfl (.of_eq rfl) (.cons rfl (.of_eq rfl) (.cons rfl (.of_eq rfl) (.cons rfl (.of_eq rfl) (.cons rfl (.of_eq rfl) (.cons rfl (.of_eq rfl) .nil))))))))) (.box rfl (.cons (.of_eq rfl) (.cons (.of_eq rfl) (.cons (.of_eq rfl) .nil))) (.box rfl (.cons (.of_eq rfl) .nil) (.box rfl (.cons (.of_eq rfl) (.cons (.of_eq rfl) (.cons (.of_eq rfl) .nil))) (.arr rfl (.arr rfl .nil))))) rfl))))))))) ?_
        refine W.seq ?_
        refine W.seq ?_
        refine W.reg (σ' := ⟨[(2, .ptr 101 0), (3, .v (Enc.err ET) (none : Option Int)), (6, .ptr 107 0), (9, .v (Enc.int .u8) v8.1), (11, .ptr 110 0), (12, .v (Enc.int .i64) v27.1), (66, .v (Enc.int .u8) (ar .and .u8 v7.1 (15 : Int))), (67, .v (Enc.int .u8) s19.1), (75, .v Enc.bool (!v27.2.1))], [(101, .box 38 [.v (Enc.int .i64) (0 : Int), .v (Enc.sl (Enc.int .i64)) ([] : (List Int)), .v (Enc.sl eBlk) ([] : (List Blk))]), (107, .box 129 [.v (Enc.sl (Enc.int .u8)) v27.2.2]), (110, .box 38 [.v (Enc.int .i64) (sh .shr .u8 v7.1 (4 : Int)), .ref 122, .ref 108]), (122, .arr 3 (Enc.int .i64) s19.2.2), (108, .arr 24 eBlk ([] : (List Blk)))]⟩) (J.cons (.none rfl) (JO.move rfl) rfl rfl (J.cons (.none rfl) (JO.not rfl) rfl rfl (J.fin (Sw.Sub.mk id (.cons rfl (.of_eq rfl) (.cons rfl (.of_eq rfl) (.cons rfl (.of_eq rfl) (.cons rfl (.of_eq rfl) (.cons rfl (.of_eq rfl) (.cons rfl (.of_eq rfl) (.cons rfl (.of_eq rfl) (.cons rfl (.of_eq rfl) (.cons rfl (.of_eq rfl) .nil))))))))) (.box rfl (.cons (.of_eq rfl) (.cons (.of_eq rfl) (.cons (.of_eq rfl) .nil))) (.box rfl (.cons (.of_eq rfl) .nil) (.box rfl (.cons (.of_eq rfl) (.cons (.of_eq rfl) (.cons (.of_eq rfl) .nil))) (.arr rfl (.arr rfl .nil))))) rfl)))) ?_
        rcases Bool.eq_false_or_eq_true (!v27.2.1) with hc28 | hc28
        · replace h := cond_t hc28 h
          refine W.condT rfl hc28 ?_
          refine W.seq ?_
          refine W.reg (σ' := ⟨[(2, .ptr 101 0), (3, .v (Enc.err ET) (some (3 : Int)))], [(101, .box 38 [.v (Enc.int .i64) (0 : Int), .ref 127, .ref 126]), (127, .arr 3 (Enc.int .i64) ([] : (List Int))), (126, .arr 24 eBlk ([] : (List Blk)))]⟩) (J.cons (.none rfl) (JO.buildN (new := [(127, .arr 3 (Enc.int .i64) ([] : (List Int))), (126, .arr 24 eBlk ([] : (List Blk)))]) built38 (.cons (Z.int .i64) (.ref 127 rfl (.ref 126 rfl .nil))) (.cons (.cons .nil)) rfl .nil) rfl rfl (J.cons (.none rfl) (JO.mkErr Try.runUnderlying25 rfl) rfl rfl (J.mut (.none rfl) (JM.storeAgg rfl rfl rfl rfl rfl rfl Try.sizeOf38) (J.cons (.none rfl) (JO.assign rfl) rfl rfl (J.fin (Sw.Sub.mk id (.cons rfl (.of_eq rfl) (.cons rfl (.of_eq rfl) .nil)) (.box rfl (.cons (.of_eq rfl) (.cons (.of_eq rfl) (.cons (.of_eq rfl) .nil))) (.arr rfl (.arr rfl .nil))) rfl)))))) ?_
          refine W.ret ?_
          refine XQ.ret ?_
          obtain rfl := Option.some.inj h
          refine XQ.lret fun ho => ?_
          obtain rfl := hr24 _ ho
          exact XQ.sub (σ' := ⟨[(2, .ptr 90 0), (3, .v (Enc.err ET) (some (3 : Int)))], [(90, .box 38 [.v (Enc.int .i64) (0 : Int), .v (Enc.sl (Enc.int .i64)) ([] : (List Int)), .v (Enc.sl eBlk) ([] : (List Blk))])]⟩) (Sw.Sub.mk (rn [(90, 101)]) (.cons rfl (.of_eq rfl) (.cons rfl (.of_eq rfl) .nil)) (.box rfl (.cons (.of_eq rfl) (.cons (.frz rfl rfl) (.cons (.frz rfl rfl) .nil))) .nil) rfl) (XQ.ret2 hF noR rfl (RV.cellAll rfl rfl (.prm (.one _ _) (.prm (.one _ _) (.one _ _))) Try.isAgg38 Try.sizeOf38) (RV.tmp rfl) .nil rfl)
        · replace h := cond_f hc28 h
          refine W.condF rfl hc28 ?_
          refine W.skip ?_
          obtain ⟨v29, hv29, h⟩ := bind_e h
          refine W.reg (σ' := ⟨[(2, .ptr 101 0), (3, .v (Enc.err ET) (none : Option Int)), (6, .ptr 107 0), (9, .v (Enc.int .u8) v8.1), (11, .ptr 110 0), (66, .v (Enc.int .u8) (ar .and .u8 v7.1 (15 : Int))), (67, .v (Enc.int .u8) s19.1)], [(101, .box 38 [.v (Enc.int .i64) (0 : Int), .v (Enc.sl (Enc.int .i64)) ([] : (List Int)), .v (Enc.sl eBlk) ([] : (List Blk))]), (107, .box 129 [.v (Enc.sl (Enc.int .u8)) v27.2.2]), (110, .box 38 [.v (Enc.int .i64) (sh .shr .u8 v7.1 (4 : Int)), .ref 128, .ref 108]), (128, .arr 3 (Enc.int .i64) v29), (108, .arr 24 eBlk ([] : (List Blk)))]⟩) (J.cons (.none rfl) (JO.fieldPtr 1 rfl Try.runUnderlying38 rfl Try.sizeOf36 rfl rfl) rfl rfl (J.cons (.none rfl) (JO.load rfl rfl rfl Try.isAgg36 Try.sizeOf36) rfl rfl (J.cons (.none rfl) (JO.move rfl) rfl rfl (J.cons (.none rfl) (JO.lit (e := (Enc.int .i64)) Try.runUnderlying36 Try.sizeOf3 Try.zeroValue3 rfl rfl rfl rfl (.cons (.dir rfl) .nil)) rfl rfl (J.mut (.none rfl) (JM.append 128 hv29 rfl rfl (.sl rfl) Try.runUnderlying36 Try.typeInfo3 Try.sizeOf3 rfl rfl rfl rfl rfl) (J.cons (.none rfl) (JO.fieldPtr 1 rfl Try.runUnderlying38 rfl Try.sizeOf36 rfl rfl) rfl rfl (J.mut (.none rfl) (JM.store rfl rfl rfl rfl rfl rfl rfl Try.sizeOf36) (J.fin (Sw.Sub.mk id (.cons rfl (.of_eq rfl) (.cons rfl (.of_eq rfl) (.cons rfl (.of_eq rfl) (.cons rfl (.of_eq rfl) (.cons rfl (.of_eq rfl) (.cons rfl (.of_eq rfl) (.cons rfl (.of_eq rfl) .nil))))))) (.box rfl (.cons (.of_eq rfl) (.cons (.of_eq rfl) (.cons (.of_eq rfl) .nil))) (.box rfl (.cons (.of_eq rfl) .nil) (.box rfl (.cons (.of_eq rfl) (.cons (.of_eq rfl) (.cons (.of_eq rfl) .nil))) (.arr rfl (.arr rfl .nil))))) rfl))))))))) ?_
          refine W.fall ?_
          refine W.reg (σ' := ⟨[(2, .ptr 101 0), (3, .v (Enc.err ET) (none : Option Int)), (6, .ptr 107 0), (9, .v (Enc.int .u8) v8.1), (11, .ptr 110 0), (66, .v (Enc.int .u8) (ar .and .u8 v7.1 (15 : Int))), (67, .v (Enc.int .u8) (ar .add .u8 s19.1 (1 : Int)))], [(101, .box 38 [.v (Enc.int .i64) (0 : Int), .v (Enc.sl (Enc.int .i64)) ([] : (List Int)), .v (Enc.sl eBlk) ([] : (List Blk))]), (107, .box 129 [.v (Enc.sl (Enc.int .u8)) v27.2.2]), (110, .box 38 [.v (Enc.int .i64) (sh .shr .u8 v7.1 (4 : Int)), .ref 128, .ref 108]), (128, .arr 3 (Enc.int .i64) v29), (108, .arr 24 eBlk ([] : (List Blk)))]⟩) (J.cons (.none rfl) (JO.arith rfl rfl rfl) rfl rfl (J.cons (.none rfl) (JO.move rfl) rfl rfl (J.fin (Sw.Sub.mk id (.cons rfl (.of_eq rfl) (.cons rfl (.of_eq rfl) (.cons rfl (.of_eq rfl) (.cons rfl (.of_eq rfl) (.cons rfl (.of_eq rfl) (.cons rfl (.of_eq rfl) (.cons rfl (.of_eq rfl) .nil))))))) (.box rfl (.cons (.of_eq rfl) (.cons (.of_eq rfl) (.cons (.of_eq rfl) .nil))) (.box rfl (.cons (.of_eq rfl) .nil) (.box rfl (.cons (.of_eq rfl) (.cons (.of_eq rfl) (.cons (.of_eq rfl) .nil))) (.arr rfl (.arr rfl .nil))))) rfl)))) ?_
          obtain rfl := Option.some.inj h
          exact W.next (Sw.Sub.mk (rn [(101, 101), (107, 107), (110, 110), (108, 108), (122, 128)]) (.cons rfl (.of_eq rfl) (.cons rfl (.of_eq rfl) (.cons rfl (.of_eq rfl) (.cons rfl (.of_eq rfl) (.cons rfl (.of_eq rfl) (.cons rfl (.of_eq rfl) (.cons rfl (.of_eq rfl) .nil))))))) (.box rfl (.cons (.of_eq rfl) (.cons (.of_eq rfl) (.cons (.of_eq rfl) .nil))) (.box rfl (.cons (.of_eq rfl) .nil) (.box rfl (.cons (.of_eq rfl) (.cons (.of_eq rfl) (.cons (.of_eq rfl) .nil))) (.arr rfl (.arr rfl .nil))))) rfl)
      · replace h := cond_f hc26 h
        refine W.condF rfl hc26 ?_
        refine W.exit ?_
        obtain rfl := Option.some.inj h
        exact XQ.brk (Sw.Sub.mk id (.cons rfl (.of_eq rfl) (.cons rfl (.of_eq rfl) (.cons rfl (.of_eq rfl) (.cons rfl (.of_eq rfl) (.cons rfl (.of_eq rfl) .nil))))) (.box rfl (.cons (.of_eq rfl) (.cons (.of_eq rfl) (.cons (.of_eq rfl) .nil))) (.box rfl (.cons (.of_eq rfl) .nil) (.box rfl (.cons (.of_eq rfl) (.cons (.of_eq rfl) (.cons (.of_eq rfl) .nil))) (.arr rfl (.arr rfl .nil))))) rfl)
set_option maxRecDepth 100000 in
set_option maxHeartbeats 4000000 in
theorem con_ref_SameInts {a0 : (List Int)} {a1 : (List Int)} {r : Bool} (h : m_ref_SameInts a0 a1 = some r) :
    Con Try.prog 47 [.v (Enc.sl (Enc.int .i64)) a0, .v (Enc.sl (Enc.int .i64)) a1] (.v Enc.bool r) [] := by
  refine Con.of Try.func47 rfl Try.ntmps47 rfl ?_
  intro S w hF
  unfold m_ref_SameInts at h
  refine W.seq ?_
  refine W.reg (σ' := ⟨[(0, .v (Enc.sl (Enc.int .i64)) a0), (1, .v (Enc.sl (Enc.int .i64)) a1)], []⟩) (J.cons (.none rfl) (JO.assign rfl) rfl rfl (J.fin (Sw.Sub.mk id (.cons rfl (.of_eq rfl) (.cons rfl (.of_eq rfl) .nil)) .nil rfl))) ?_
  refine W.seq ?_
  refine W.seq ?_
  refine W.reg (σ' := ⟨[(0, .v (Enc.sl (Enc.int .i64)) a0), (1, .v (Enc.sl (Enc.int .i64)) a1), (10, .v Enc.bool (cm .neq (a0.length : Int) (a1.length : Int)))], []⟩) (J.cons (.none rfl) (JO.move rfl) rfl rfl (J.cons (.none rfl) (JO.len rfl Try.runUnderlying36) rfl rfl (J.cons (.none rfl) (JO.move rfl) rfl rfl (J.cons (.none rfl) (JO.len rfl Try.runUnderlying36) rfl rfl (J.cons (.none rfl) (JO.cmp rfl rfl rfl) rfl rfl (J.fin (Sw.Sub.mk id (.cons rfl (.of_eq rfl) (.cons rfl (.of_eq rfl) (.cons rfl (.of_eq rfl) .nil))) .nil rfl))))))) ?_
  rcases Bool.eq_false_or_eq_true (cm .neq (a0.length : Int) (a1.length : Int)) with hc1 | hc1
  · replace h := cond_t hc1 h
    refine W.condT rfl hc1 ?_
    refine W.seq ?_
    refine W.reg (σ' := ⟨[(4, .v Enc.bool false)], []⟩) (J.cons (.none rfl) (JO.assign rfl) rfl rfl (J.fin (Sw.Sub.mk id (.cons rfl (.of_eq rfl) .nil) .nil rfl))) ?_
    refine W.ret ?_
    obtain rfl := Option.some.inj h
    exact XQ.sub (σ' := ⟨[(4, .v Enc.bool false)], []⟩) (Sw.Sub.mk id (.cons rfl (.of_eq rfl) .nil) .nil rfl) (XQ.ret1 hF noR rfl (RV.tmp rfl) .nil rfl)
  · replace h := cond_f hc1 h
    refine W.condF rfl hc1 ?_
    refine W.skip ?_
    refine W.seq ?_
    refine W.seq ?_
    refine W.reg (σ' := ⟨[(0, .v (Enc.sl (Enc.int .i64)) a0), (1, .v (Enc.sl (Enc.int .i64)) a1), (5, .v (Enc.int .i64) (0 : Int))], []⟩) (J.cons (.none rfl) (JO.assign rfl) rfl rfl (J.fin (Sw.Sub.mk id (.cons rfl (.of_eq rfl) (.cons rfl (.of_eq rfl) (.cons rfl (.of_eq rfl) .nil))) .nil rfl))) ?_
    obtain ⟨o17, ho17, hb17, hr17⟩ := lp_elim h
    refine W.lp (σs := fun s12 : Int => ⟨[(0, .v (Enc.sl (Enc.int .i64)) a0), (1, .v (Enc.sl (Enc.int .i64)) a1), (5, .v (Enc.int .i64) s12)], []⟩) (fun x18 : Unit => ⟨[], []⟩) ho17 (Sw.Sub.mk id (.cons rfl (.of_eq rfl) (.cons rfl (.of_eq rfl) (.cons rfl (.of_eq rfl) .nil))) .nil rfl) ?_ ?_
    · intro x18 hy
      have h := hb17 _ hy
      refine W.seq ?_
      refine W.reg (σ' := ⟨[(4, .v Enc.bool true)], []⟩) (J.cons (.none rfl) (JO.assign rfl) rfl rfl (J.fin (Sw.Sub.mk id (.cons rfl (.of_eq rfl) .nil) .nil rfl))) ?_
      refine W.ret ?_
      obtain rfl := Option.some.inj h
      exact XQ.sub (σ' := ⟨[(4, .v Enc.bool true)], []⟩) (Sw.Sub.mk id (.cons rfl (.of_eq rfl) .nil) .nil rfl) (XQ.ret1 hF noR rfl (RV.tmp rfl) .nil rfl)
    intro s12 r17 h
    refine W.seq ?_
    refine W.seq ?_
    refine W.reg (σ' := ⟨[(0, .v (Enc.sl (Enc.int .i64)) a0), (1, .v (Enc.sl (Enc.int .i64)) a1), (5, .v (Enc.int .i64) s12), (14, .v Enc.bool (cm .lss s12 (a0.length : Int)))], []⟩) (J.cons (.none rfl) (JO.move rfl) rfl rfl (J.cons (.none rfl) (JO.move rfl) rfl rfl (J.cons (.none rfl) (JO.len rfl Try.runUnderlying36) rfl rfl (J.cons (.none rfl) (JO.cmp rfl rfl rfl) rfl rfl (J.fin (Sw.Sub.mk id (.cons rfl (.of_eq rfl) (.cons rfl (.of_eq rfl) (.cons rfl (.of_eq rfl) (.cons rfl (.of_eq rfl) .nil)))) .nil rfl)))))) ?_
    rcases Bool.eq_false_or_eq_true (cm .lss s12 (a0.length : Int)) with hc19 | hc19
    · replace h := cond_t hc19 h
      refine W.condT rfl hc19 ?_
      refine W.skip ?_
      refine W.seq ?_
      refine W.block ?_
      refine W.seq ?_
      obtain ⟨z20, hz20, h⟩ := bind_e h
      obtain ⟨z21, hz21, h⟩ := bind_e h
      refine W.dr (σ' := ⟨[(0, .v (Enc.sl (Enc.int .i64)) a0), (1, .v (Enc.sl (Enc.int .i64)) a1), (5, .v (Enc.int .i64) s12), (25, .v Enc.bool (cm .neq z20 z21))], []⟩) 9 mixed (by exact (.cons (.none rfl) (JO.move rfl) rfl rfl (.cons (.none rfl) (JO.move rfl) rfl rfl (.cons (.none rfl) (JO.idx hz20 rfl rfl Try.runUnderlying36 Try.sizeOf3) rfl rfl (.cons (.none rfl) (JO.loadPst rfl Try.isAgg3 Try.sizeOf3) rfl rfl (.cons (.none rfl) (JO.move rfl) rfl rfl (.cons (.none rfl) (JO.move rfl) rfl rfl (.cons (.none rfl) (JO.idx hz21 rfl rfl Try.runUnderlying36 Try.sizeOf3) rfl rfl (.cons (.none rfl) (JO.loadPst rfl Try.isAgg3 Try.sizeOf3) rfl rfl (.cons (.none rfl) (JO.cmp rfl rfl rfl) rfl rfl .nil)))))))))) (by exact (J.fin (Sw.Sub.mk id (.cons rfl (.of_eq rfl) (.cons rfl (.of_eq rfl) (.cons rfl (.of_eq rfl) (.cons rfl (.of_eq rfl) .nil)))) .nil rfl))) (by decide +kernel) (by decide +kernel) (by decide +kernel) ?_
      rcases Bool.eq_false_or_eq_true (cm .neq z20 z21) with hc22 | hc22
      · replace h := cond_t hc22 h
        refine W.condT rfl hc22 ?_
        refine W.seq ?_
        refine W.reg (σ' := ⟨[(4, .v Enc.bool false)], []⟩) (J.cons (.none rfl) (JO.assign rfl) rfl rfl (J.fin (Sw.Sub.mk id (.cons rfl (.of_eq rfl) .nil) .nil rfl))) ?_
        refine W.ret ?_
        refine XQ.ret ?_
        obtain rfl := Option.some.inj h
        refine XQ.lret fun ho => ?_
        obtain rfl := hr17 _ ho
        exact XQ.sub (σ' := ⟨[(4, .v Enc.bool false)], []⟩) (Sw.Sub.mk id (.cons rfl (.of_eq rfl) .nil) .nil rfl) (XQ.ret1 hF noR rfl (RV.tmp rfl) .nil rfl)
      · replace h := cond_f hc22 h
        refine W.condF rfl hc22 ?_
        refine W.skip ?_
        refine W.fall ?_
        refine W.reg (σ' := ⟨[(0, .v (Enc.sl (Enc.int .i64)) a0), (1, .v (Enc.sl (Enc.int .i64)) a1), (5, .v (Enc.int .i64) (ar .add .i64 s12 (1 : Int)))], []⟩) (J.cons (.none rfl) (JO.move rfl) rfl rfl (J.cons (.none rfl) (JO.arith rfl rfl rfl) rfl rfl (J.cons (.none rfl) (JO.assign rfl) rfl rfl (J.fin (Sw.Sub.mk id (.cons rfl (.of_eq rfl) (.cons rfl (.of_eq rfl) (.cons rfl (.of_eq rfl) .nil))) .nil rfl))))) ?_
        obtain rfl := Option.some.inj h
        exact W.next (Sw.Sub.mk id (.cons rfl (.of_eq rfl) (.cons rfl (.of_eq rfl) (.cons rfl (.of_eq rfl) .nil))) .nil rfl)
    · replace h := cond_f hc19 h
      refine W.condF rfl hc19 ?_
      refine W.exit ?_
      obtain rfl := Option.some.inj h
      exact XQ.brk (Sw.Sub.mk id .nil .nil rfl)
set_option maxRecDepth 100000 in
set_option maxHeartbeats 4000000 in
theorem con_ref_SameBlocks {a0 : (List Blk)} {a1 : (List Blk)} {r : Bool} (h : m_ref_SameBlocks a0 a1 = some r) :
    Con Try.prog 20 [.v (Enc.sl eBlk) a0, .v (Enc.sl eBlk) a1] (.v Enc.bool r) [] := by
  refine Con.of Try.func20 rfl Try.ntmps20 rfl ?_
  intro S w hF
  unfold m_ref_SameBlocks at h
  refine W.seq ?_
  refine W.reg (σ' := ⟨[(0, .v (Enc.sl eBlk) a0), (1, .v (Enc.sl eBlk) a1)], []⟩) (J.cons (.none rfl) (JO.assign rfl) rfl rfl (J.fin (Sw.Sub.mk id (.cons rfl (.of_eq rfl) (.cons rfl (.of_eq rfl) .nil)) .nil rfl))) ?_
  refine W.seq ?_
  refine W.seq ?_
  refine W.reg (σ' := ⟨[(0, .v (Enc.sl eBlk) a0), (1, .v (Enc.sl eBlk) a1), (10, .v Enc.bool (cm .neq (a0.length : Int) (a1.length : Int)))], []⟩) (J.cons (.none rfl) (JO.move rfl) rfl rfl (J.cons (.none rfl) (JO.len rfl Try.runUnderlying22) rfl rfl (J.cons (.none rfl) (JO.move rfl) rfl rfl (J.cons (.none rfl) (JO.len rfl Try.runUnderlying22) rfl rfl (J.cons (.none rfl) (JO.cmp rfl rfl rfl) rfl rfl (J.fin (Sw.Sub.mk id (.cons rfl (.of_eq rfl) (.cons rfl (.of_eq rfl) (.cons rfl (.of_eq rfl) .nil))) .nil rfl))))))) ?_
  rcases Bool.eq_false_or_eq_true (cm .neq (a0.length : Int) (a1.length : Int)) with hc1 | hc1
  · replace h := cond_t hc1 h
    refine W.condT rfl hc1 ?_
    refine W.seq ?_
    refine W.reg (σ' := ⟨[(4, .v Enc.bool false)], []⟩) (J.cons (.none rfl) (JO.assign rfl) rfl rfl (J.fin (Sw.Sub.mk id (.cons rfl (.of_eq rfl) .nil) .nil rfl))) ?_
    refine W.ret ?_
    obtain rfl := Option.some.inj h
    exact XQ.sub (σ' := ⟨[(4, .v Enc.bool false)], []⟩) (Sw.Sub.mk id (.cons rfl (.of_eq rfl) .nil) .nil rfl) (XQ.ret1 hF noR rfl (RV.tmp rfl) .nil rfl)
  · replace h := cond_f hc1 h
    refine W.condF rfl hc1 ?_
    refine W.skip ?_
    refine W.seq ?_
    refine W.seq ?_
    refine W.reg (σ' := ⟨[(0, .v (Enc.sl eBlk) a0), (1, .v (Enc.sl eBlk) a1), (5, .v (Enc.int .i64) (0 : Int))], []⟩) (J.cons (.none rfl) (JO.assign rfl) rfl rfl (J.fin (Sw.Sub.mk id (.cons rfl (.of_eq rfl) (.cons rfl (.of_eq rfl) (.cons rfl (.of_eq rfl) .nil))) .nil rfl))) ?_
    obtain ⟨o17, ho17, hb17, hr17⟩ := lp_elim h
    refine W.lp (σs := fun s12 : Int => ⟨[(0, .v (Enc.sl eBlk) a0), (1, .v (Enc.sl eBlk) a1), (5, .v (Enc.int .i64) s12)], []⟩) (fun x18 : Unit => ⟨[], []⟩) ho17 (Sw.Sub.mk id (.cons rfl (.of_eq rfl) (.cons rfl (.of_eq rfl) (.cons rfl (.of_eq rfl) .nil))) .nil rfl) ?_ ?_
    · intro x18 hy
      have h := hb17 _ hy
      refine W.seq ?_
      refine W.reg (σ' := ⟨[(4, .v Enc.bool true)], []⟩) (J.cons (.none rfl) (JO.assign rfl) rfl rfl (J.fin (Sw.Sub.mk id (.cons rfl (.of_eq rfl) .nil) .nil rfl))) ?_
      refine W.ret ?_
      obtain rfl := Option.some.inj h
      exact XQ.sub (σ' := ⟨[(4, .v Enc.bool true)], []⟩) (Sw.Sub.mk id (.cons rfl (.of_eq rfl) .nil) .nil rfl) (XQ.ret1 hF noR rfl (RV.tmp rfl) .nil rfl)
    intro s12 r17 h
    refine W.seq ?_
    refine W.seq ?_
    refine W.reg (σ' := ⟨[(0, .v (Enc.sl eBlk) a0), (1, .v (Enc.sl eBlk) a1), (5, .v (Enc.int .i64) s12), (14, .v Enc.bool (cm .lss s12 (a0.length : Int)))], []⟩) (J.cons (.none rfl) (JO.move rfl) rfl rfl (J.cons (.none rfl) (JO.move rfl) rfl rfl (J.cons (.none rfl) (JO.len rfl Try.runUnderlying22) rfl rfl (J.cons (.none rfl) (JO.cmp rfl rfl rfl) rfl rfl (J.fin (Sw.Sub.mk id (.cons rfl (.of_eq rfl) (.cons rfl (.of_eq rfl) (.cons rfl (.of_eq rfl) (.cons rfl (.of_eq rfl) .nil)))) .nil rfl)))))) ?_
    rcases Bool.eq_false_or_eq_true (cm .lss s12 (a0.length : Int)) with hc19 | hc19
    · replace h := cond_t hc19 h
      refine W.condT rfl hc19 ?_
      refine W.skip ?_
      refine W.seq ?_
      refine W.block ?_
      refine W.seq ?_
      obtain ⟨z20, hz20, h⟩ := bind_e h
      obtain ⟨z21, hz21, h⟩ := bind_e h
      refine W.dr (σ' := ⟨[(0, .v (Enc.sl eBlk) a0), (1, .v (Enc.sl eBlk) a1), (5, .v (Enc.int .i64) s12), (25, .v Enc.bool (!decide (z20 = z21)))], []⟩) 9 mixed (by exact (.cons (.none rfl) (JO.move rfl) rfl rfl (.cons (.none rfl) (JO.move rfl) rfl rfl (.cons (.none rfl) (JO.idx hz20 rfl rfl Try.runUnderlying22 Try.sizeOf24) rfl rfl (.cons (.none rfl) (JO.loadPst rfl Try.isAgg24 Try.sizeOf24) rfl rfl (.cons (.none rfl) (JO.move rfl) rfl rfl (.cons (.none rfl) (JO.move rfl) rfl rfl (.cons (.none rfl) (JO.idx hz21 rfl rfl Try.runUnderlying22 Try.sizeOf24) rfl rfl (.cons (.none rfl) (JO.loadPst rfl Try.isAgg24 Try.sizeOf24) rfl rfl (.cons (.none rfl) (JO.neV eq24 rfl rfl Try.eqGuardType24 rfl rfl) rfl rfl .nil)))))))))) (by exact (J.fin (Sw.Sub.mk id (.cons rfl (.of_eq rfl) (.cons rfl (.of_eq rfl) (.cons rfl (.of_eq rfl) (.cons rfl (.of_eq rfl) .nil)))) .nil rfl))) (by decide +kernel) (by decide +kernel) (by decide +kernel) ?_
      rcases Bool.eq_false_or_eq_true (!decide (z20 = z21)) with hc22 | hc22
      · replace h := cond_t hc22 h
        refine W.condT rfl hc22 ?_
        refine W.seq ?_
        refine W.reg (σ' := ⟨[(4, .v Enc.bool false)], []⟩) (J.cons (.none rfl) (JO.assign rfl) rfl rfl (J.fin (Sw.Sub.mk id (.cons rfl (.of_eq rfl) .nil) .nil rfl))) ?_
        refine W.ret ?_
        refine XQ.ret ?_
        obtain rfl := Option.some.inj h
        refine XQ.lret fun ho => ?_
        obtain rfl := hr17 _ ho
        exact XQ.sub (σ' := ⟨[(4, .v Enc.bool false)], []⟩) (Sw.Sub.mk id (.cons rfl (.of_eq rfl) .nil) .nil rfl) (XQ.ret1 hF noR rfl (RV.tmp rfl) .nil rfl)
      · replace h := cond_f hc22 h
        refine W.condF rfl hc22 ?_
        refine W.skip ?_
        refine W.fall ?_
        refine W.reg (σ' := ⟨[(0, .v (Enc.sl eBlk) a0), (1, .v (Enc.sl eBlk) a1), (5, .v (Enc.int .i64) (ar .add .i64 s12 (1 : Int)))], []⟩) (J.cons (.none rfl) (JO.move rfl) rfl rfl (J.cons (.none rfl) (JO.arith rfl rfl rfl) rfl rfl (J.cons (.none rfl) (JO.assign rfl) rfl rfl (J.fin (Sw.Sub.mk id (.cons rfl (.of_eq rfl) (.cons rfl (.of_eq rfl) (.cons rfl (.of_eq rfl) .nil))) .nil rfl))))) ?_
        obtain rfl := Option.some.inj h
        exact W.next (Sw.Sub.mk id (.cons rfl (.of_eq rfl) (.cons rfl (.of_eq rfl) (.cons rfl (.of_eq rfl) .nil))) .nil rfl)
    · replace h := cond_f hc19 h
      refine W.condF rfl hc19 ?_
      refine W.exit ?_
      obtain rfl := Option.some.inj h
      exact XQ.brk (Sw.Sub.mk id .nil .nil rfl)
set_option maxRecDepth 100000 in
set_option maxHeartbeats 4000000 in
theorem con_ref_SameFrame {a0 : (Int × (List Int) × (List Blk))} {a1 : (Int × (List Int) × (List Blk))} {r : Bool} (h : m_ref_SameFrame a0 a1 = some r) :
    Con Try.prog 35 [.v (Enc.pr (Enc.int .i64) (Enc.pr (Enc.sl (Enc.int .i64)) (Enc.sl eBlk))) a0, .v (Enc.pr (Enc.int .i64) (Enc.pr (Enc.sl (Enc.int .i64)) (Enc.sl eBlk))) a1] (.v Enc.bool r) [] := by
  refine Con.of Try.func35 rfl Try.ntmps35 rfl ?_
  intro S w hF
  unfold m_ref_SameFrame at h
  refine W.seq ?_
  refine W.reg (σ' := ⟨[(2, .ptr 101 0), (3, .ptr 102 0)], [(101, .box 38 [.v (Enc.int .i64) a0.1, .v (Enc.sl (Enc.int .i64)) a0.2.1, .v (Enc.sl eBlk) a0.2.2]), (102, .box 38 [.v (Enc.int .i64) a1.1, .v (Enc.sl (Enc.int .i64)) a1.2.1, .v (Enc.sl eBlk) a1.2.2])]⟩) (J.cons (.none rfl) (JO.box 101 rfl (.prm (.one _ _) (.prm (.one _ _) (.one _ _))) rfl) rfl rfl (J.cons (.none rfl) (JO.box 102 rfl (.prm (.one _ _) (.prm (.one _ _) (.one _ _))) rfl) rfl rfl (J.cons (.none rfl) (JO.assign rfl) rfl rfl (J.fin (Sw.Sub.mk id (.cons rfl (.of_eq rfl) (.cons rfl (.of_eq rfl) .nil)) (.box rfl (.cons (.of_eq rfl) (.cons (.of_eq rfl) (.cons (.of_eq rfl) .nil))) (.box rfl (.cons (.of_eq rfl) (.cons (.of_eq rfl) (.cons (.of_eq rfl) .nil))) .nil)) rfl))))) ?_
  refine W.seq ?_
  obtain ⟨x5, hx, h⟩ := bind_e h
  refine W.reg (σ' := ⟨[(4, .v Enc.bool x5)], []⟩) ?_ ?_
  · rcases Bool.eq_false_or_eq_true (cm .eql a0.1 a1.1) with hc6 | hc6
    · replace hx := cond_t hc6 hx
      obtain ⟨v7, hv7, hx⟩ := bind_e hx
      rcases Bool.eq_false_or_eq_true v7 with hc8 | hc8
      · replace hx := cond_t hc8 hx
        obtain ⟨v9, hv9, hx⟩ := bind_e hx
        obtain rfl := Option.some.inj hx
        exact (J.cons (.none rfl) (JO.fieldPtr 0 rfl Try.runUnderlying38 rfl Try.sizeOf3 rfl rfl) rfl rfl (J.cons (.none rfl) (JO.load rfl rfl rfl Try.isAgg3 Try.sizeOf3) rfl rfl (J.cons (.none rfl) (JO.fieldPtr 0 rfl Try.runUnderlying38 rfl Try.sizeOf3 rfl rfl) rfl rfl (J.cons (.none rfl) (JO.load rfl rfl rfl Try.isAgg3 Try.sizeOf3) rfl rfl (J.cons (.none rfl) (JO.cmp rfl rfl rfl) rfl rfl (J.cons (.none rfl) (JO.move rfl) rfl rfl (J.cons (GK.met 10 rfl rfl rfl hc6) (JO.fieldPtr 1 rfl Try.runUnderlying38 rfl Try.sizeOf36 rfl rfl) rfl rfl (J.cons (GK.met 10 rfl rfl rfl hc6) (JO.load rfl rfl rfl Try.isAgg36 Try.sizeOf36) rfl rfl (J.cons (GK.met 10 rfl rfl rfl hc6) (JO.fieldPtr 1 rfl Try.runUnderlying38 rfl Try.sizeOf36 rfl rfl) rfl rfl (J.cons (GK.met 10 rfl rfl rfl hc6) (JO.load rfl rfl rfl Try.isAgg36 Try.sizeOf36) rfl rfl (J.cons (GK.met 10 rfl rfl rfl hc6) (JO.call0 (con_ref_SameInts hv7) Try.call47 (.cons (.dir rfl) (.cons (.dir rfl) .nil))) rfl rfl (J.cons (.none rfl) (JO.pT hc6 rfl rfl) rfl rfl (J.cons (.none rfl) (JO.move rfl) rfl rfl (J.cons (GK.met 17 rfl rfl rfl hc8) (JO.fieldPtr 2 rfl Try.runUnderlying38 rfl Try.sizeOf22 rfl rfl) rfl rfl (J.cons (GK.met 17 rfl rfl rfl hc8) (JO.load rfl rfl rfl Try.isAgg22 Try.sizeOf22) rfl rfl (J.cons (GK.met 17 rfl rfl rfl hc8) (JO.fieldPtr 2 rfl Try.runUnderlying38 rfl Try.sizeOf22 rfl rfl) rfl rfl (J.cons (GK.met 17 rfl rfl rfl hc8) (JO.load rfl rfl rfl Try.isAgg22 Try.sizeOf22) rfl rfl (J.cons (GK.met 17 rfl rfl rfl hc8) (JO.call0 (con_ref_SameBlocks hv9) Try.call20 (.cons (.dir rfl) (.cons (.dir rfl) .nil))) rfl rfl (J.cons (.none rfl) (JO.pT hc8 rfl rfl) rfl rfl (J.cons (.none rfl) (JO.assign rfl) rfl rfl (J.fin (Sw.Sub.mk id (.cons rfl (.of_eq rfl) .nil) .nil rfl))))))))))))))))))))))
      · replace hx := cond_f hc8 hx
        obtain rfl := Option.some.inj hx
        exact (J.cons (.none rfl) (JO.fieldPtr 0 rfl Try.runUnderlying38 rfl Try.sizeOf3 rfl rfl) rfl rfl (J.cons (.none rfl) (JO.load rfl rfl rfl Try.isAgg3 Try.sizeOf3) rfl rfl (J.cons (.none rfl) (JO.fieldPtr 0 rfl Try.runUnderlying38 rfl Try.sizeOf3 rfl rfl) rfl rfl (J.cons (.none rfl) (JO.load rfl rfl rfl Try.isAgg3 Try.sizeOf3) rfl rfl (J.cons (.none rfl) (JO.cmp rfl rfl rfl) rfl rfl (J.cons (.none rfl) (JO.move rfl) rfl rfl (J.cons (GK.met 10 rfl rfl rfl hc6) (JO.fieldPtr 1 rfl Try.runUnderlying38 rfl Try.sizeOf36 rfl rfl) rfl rfl (J.cons (GK.met 10 rfl rfl rfl hc6) (JO.load rfl rfl rfl Try.isAgg36 Try.sizeOf36) rfl rfl (J.cons (GK.met 10 rfl rfl rfl hc6) (JO.fieldPtr 1 rfl Try.runUnderlying38 rfl Try.sizeOf36 rfl rfl) rfl rfl (J.cons (GK.met 10 rfl rfl rfl hc6) (JO.load rfl rfl rfl Try.isAgg36 Try.sizeOf36) rfl rfl (J.cons (GK.met 10 rfl rfl rfl hc6) (JO.call0 (con_ref_SameInts hv7) Try.call47 (.cons (.dir rfl) (.cons (.dir rfl) .nil))) rfl rfl (J.cons (.none rfl) (JO.pT hc6 rfl rfl) rfl rfl (J.cons (.none rfl) (JO.move rfl) rfl rfl (J.left (GK.unmet 17 rfl rfl rfl hc8) rfl (J.left (GK.unmet 17 rfl rfl rfl hc8) rfl (J.left (GK.unmet 17 rfl rfl rfl hc8) rfl (J.left (GK.unmet 17 rfl rfl rfl hc8) rfl (J.left (GK.unmet 17 rfl rfl rfl hc8) rfl (J.cons (.none rfl) (JO.pF hc8 rfl rfl) rfl rfl (J.cons (.none rfl) (JO.assign rfl) rfl rfl (J.fin (Sw.Sub.mk id (.cons rfl (.of_eq rfl) .nil) .nil rfl))))))))))))))))))))))
    · replace hx := cond_f hc6 hx
      obtain rfl := Option.some.inj hx
      exact (J.cons (.none rfl) (JO.fieldPtr 0 rfl Try.runUnderlying38 rfl Try.sizeOf3 rfl rfl) rfl rfl (J.cons (.none rfl) (JO.load rfl rfl rfl Try.isAgg3 Try.sizeOf3) rfl rfl (J.cons (.none rfl) (JO.fieldPtr 0 rfl Try.runUnderlying38 rfl Try.sizeOf3 rfl rfl) rfl rfl (J.cons (.none rfl) (JO.load rfl rfl rfl Try.isAgg3 Try.sizeOf3) rfl rfl (J.cons (.none rfl) (JO.cmp rfl rfl rfl) rfl rfl (J.cons (.none rfl) (JO.move rfl) rfl rfl (J.left (GK.unmet 10 rfl rfl rfl hc6) rfl (J.left (GK.unmet 10 rfl rfl rfl hc6) rfl (J.left (GK.unmet 10 rfl rfl rfl hc6) rfl (J.left (GK.unmet 10 rfl rfl rfl hc6) rfl (J.left (GK.unmet 10 rfl rfl rfl hc6) rfl (J.cons (.none rfl) (JO.pF hc6 rfl rfl) rfl rfl (J.cons (.none rfl) (JO.move rfl) rfl rfl (J.left (GK.unmet 17 rfl rfl rfl rfl) rfl (J.left (GK.unmet 17 rfl rfl rfl rfl) rfl (J.left (GK.unmet 17 rfl rfl rfl rfl) rfl (J.left (GK.unmet 17 rfl rfl rfl rfl) rfl (J.left (GK.unmet 17 rfl rfl rfl rfl) rfl (J.cons (.none rfl) (JO.pF rfl rfl rfl) rfl rfl (J.cons (.none rfl) (JO.assign rfl) rfl rfl (J.fin (Sw.Sub.mk id (.cons rfl (.of_eq rfl) .nil) .nil rfl))))))))))))))))))))))
  refine W.ret ?_
  obtain rfl := Option.some.inj h
  exact XQ.sub (σ' := ⟨[(4, .v Enc.bool x5)], []⟩) (Sw.Sub.mk id (.cons rfl (.of_eq rfl) .nil) .nil rfl) (XQ.ret1 hF noR rfl (RV.tmp rfl) .nil rfl)
set_option maxRecDepth 100000 in
set_option maxHeartbeats 4000000 in
theorem con_law_FrameReads {a0 : (List Int)} {r : Bool} (h : m_law_FrameReads a0 = some r) :
    Con Try.prog 6 [.v (Enc.sl (Enc.int .u8)) a0] (.v Enc.bool r) [] := by
  refine Con.of Try.func6 rfl Try.ntmps6 rfl ?_
  intro S w hF
  unfold m_law_FrameReads at h
  refine W.seq ?_
  refine W.reg (σ' := ⟨[(0, .v (Enc.sl (Enc.int .u8)) a0)], []⟩) (J.cons (.none rfl) (JO.assign rfl) rfl rfl (J.fin (Sw.Sub.mk id (.cons rfl (.of_eq rfl) .nil) .nil rfl))) ?_
  refine W.seq ?_
  refine W.seq ?_
  refine W.reg (σ' := ⟨[(0, .v (Enc.sl (Enc.int .u8)) a0), (9, .v Enc.bool (cm .gtr (a0.length : Int) (2000 : Int)))], []⟩) (J.cons (.none rfl) (JO.move rfl) rfl rfl (J.cons (.none rfl) (JO.len rfl Try.runUnderlying40) rfl rfl (J.cons (.none rfl) (JO.cmp rfl rfl rfl) rfl rfl (J.fin (Sw.Sub.mk id (.cons rfl (.of_eq rfl) (.cons rfl (.of_eq rfl) .nil)) .nil rfl))))) ?_
  rcases Bool.eq_false_or_eq_true (cm .gtr (a0.length : Int) (2000 : Int)) with hc1 | hc1
  · replace h := cond_t hc1 h
    refine W.condT rfl hc1 ?_
    refine W.seq ?_
    refine W.reg (σ' := ⟨[(2, .v Enc.bool true)], []⟩) (J.cons (.none rfl) (JO.assign rfl) rfl rfl (J.fin (Sw.Sub.mk id (.cons rfl (.of_eq rfl) .nil) .nil rfl))) ?_
    refine W.ret ?_
    obtain rfl := Option.some.inj h
    exact XQ.sub (σ' := ⟨[(2, .v Enc.bool true)], []⟩) (Sw.Sub.mk id (.cons rfl (.of_eq rfl) .nil) .nil rfl) (XQ.ret1 hF noR rfl (RV.tmp rfl) .nil rfl)
  · replace h := cond_f hc1 h
    refine W.condF rfl hc1 ?_
    refine W.skip ?_
    refine W.seq ?_
    obtain ⟨v2, hv2, h⟩ := bind_e h
    refine W.reg (σ' := ⟨[(0, .v (Enc.sl (Enc.int .u8)) a0), (3, .ptr 102 0), (4, .v Enc.bool v2.2)], [(102, .box 38 [.v (Enc.int .i64) v2.1.1, .v (Enc.sl (Enc.int .i64)) v2.1.2.1, .v (Enc.sl eBlk) v2.1.2.2])]⟩) (J.cons (.none rfl) (JO.move rfl) rfl rfl (J.cons (.none rfl) (JO.call0 (con_ref_Unpacked hv2) Try.call31 (.cons (.dir rfl) .nil)) rfl rfl (J.cons (.none rfl) (JO.move rfl) rfl rfl (J.cons (.none rfl) (JO.extract rfl rfl) rfl rfl (J.cons (.none rfl) (JO.extract rfl rfl) rfl rfl (J.cons (.none rfl) (JO.alloc 102 Try.zeroValue38 rfl (.cons (Z.int .i64) (.cons (Z.sl (Enc.int .i64)) (.cons (Z.sl eBlk) .nil))) rfl) rfl rfl (J.mut (.none rfl) (JM.storeAll rfl rfl rfl rfl (.prm (.one _ _) (.prm (.one _ _) (.one _ _))) Try.sizeOf38) (J.cons (.none rfl) (JO.assign rfl) rfl rfl (J.fin (Sw.Sub.mk id (.cons rfl (.of_eq rfl) (.cons rfl (.of_eq rfl) (.cons rfl (.of_eq rfl) .nil))) (.box rfl (.cons (.of_eq rfl) (.cons (.of_eq rfl) (.cons (.of_eq rfl) .nil))) .nil) rfl)))))))))) ?_
    refine W.seq ?_
    obtain ⟨v3, hv3, h⟩ := bind_e h
    refine W.reg (σ' := ⟨[(0, .v (Enc.sl (Enc.int .u8)) a0), (3, .ptr 102 0), (4, .v Enc.bool v2.2), (5, .ptr 104 0), (6, .v (Enc.err ET) v3.2)], [(102, .box 38 [.v (Enc.int .i64) v2.1.1, .v (Enc.sl (Enc.int .i64)) v2.1.2.1, .v (Enc.sl eBlk) v2.1.2.2]), (104, .box 38 [.v (Enc.int .i64) v3.1.1, .v (Enc.sl (Enc.int .i64)) v3.1.2.1, .v (Enc.sl eBlk) v3.1.2.2])]⟩) (J.cons (.none rfl) (JO.move rfl) rfl rfl (J.cons (.none rfl) (JO.call0 (con_frame_Unpack hv3) Try.call32 (.cons (.dir rfl) .nil)) rfl rfl (J.cons (.none rfl) (JO.move rfl) rfl rfl (J.cons (.none rfl) (JO.extract rfl rfl) rfl rfl (J.cons (.none rfl) (JO.extract rfl rfl) rfl rfl (J.cons (.none rfl) (JO.alloc 104 Try.zeroValue38 rfl (.cons (Z.int .i64) (.cons (Z.sl (Enc.int .i64)) (.cons (Z.sl eBlk) .nil))) rfl) rfl rfl (J.mut (.none rfl) (JM.storeAll rfl rfl rfl rfl (.prm (.one _ _) (.prm (.one _ _) (.one _ _))) Try.sizeOf38) (J.cons (.none rfl) (JO.assign rfl) rfl rfl (J.fin (Sw.Sub.mk id (.cons rfl (.of_eq rfl) (.cons rfl (.of_eq rfl) (.cons rfl (.of_eq rfl) (.cons rfl (.of_eq rfl) (.cons rfl (.of_eq rfl) .nil))))) (.box rfl (.cons (.of_eq rfl) (.cons (.of_eq rfl) (.cons (.of_eq rfl) .nil))) (.box rfl (.cons (.of_eq rfl) (.cons (.of_eq rfl) (.cons (.of_eq rfl) .nil))) .nil)) rfl)))))))))) ?_
    refine W.seq ?_
    refine W.seq ?_
    obtain ⟨x9, hx, h⟩ := bind_e h
    refine W.reg (σ' := ⟨[(3, .ptr 102 0), (5, .ptr 104 0), (39, .v Enc.bool x9)], [(102, .box 38 [.v (Enc.int .i64) v2.1.1, .v (Enc.sl (Enc.int .i64)) v2.1.2.1, .v (Enc.sl eBlk) v2.1.2.2]), (104, .box 38 [.v (Enc.int .i64) v3.1.1, .v (Enc.sl (Enc.int .i64)) v3.1.2.1, .v (Enc.sl eBlk) v3.1.2.2])]⟩) ?_ ?_
    · obtain ⟨v10, hv10, hx⟩ := bind_e hx
      obtain ⟨v11, hv11, hx⟩ := bind_e hx
      rcases Bool.eq_false_or_eq_true (cm .neq v10 v11) with hc12 | hc12
      · replace hx := cond_t hc12 hx
        obtain rfl := Option.some.inj hx
        exact (J.cons (.none rfl) (JO.move rfl) rfl rfl (J.cons (.none rfl) (JO.call0 (con_frame_Sum hv10) Try.call33 (.cons (.dir rfl) .nil)) rfl rfl (J.cons (.none rfl) (JO.move rfl) rfl rfl (J.cons (.none rfl) (JO.call0 (con_ref_SumOf hv11) Try.call34 (.cons (.dir rfl) .nil)) rfl rfl (J.cons (.none rfl) (JO.cmp rfl rfl rfl) rfl rfl (J.cons (.none rfl) (JO.move rfl) rfl rfl (J.left (GK.unmet 25 rfl rfl rfl hc12) rfl (J.left (GK.unmet 25 rfl rfl rfl hc12) rfl (J.left (GK.unmet 25 rfl rfl rfl hc12) rfl (J.left (GK.unmet 25 rfl rfl rfl hc12) rfl (J.cons (.none rfl) (JO.pT hc12 rfl rfl) rfl rfl (J.cons (.none rfl) (JO.move rfl) rfl rfl (J.left (GK.unmet 31 rfl rfl rfl rfl) rfl (J.left (GK.unmet 31 rfl rfl rfl rfl) rfl (J.left (GK.unmet 31 rfl rfl rfl rfl) rfl (J.left (GK.und 34 rfl rfl rfl) rfl (J.left (GK.und 34 rfl rfl rfl) rfl (J.left (GK.und 34 rfl rfl rfl) rfl (J.left (GK.unmet 31 rfl rfl rfl rfl) rfl (J.cons (.none rfl) (JO.pT rfl rfl rfl) rfl rfl (J.fin (Sw.Sub.mk id (.cons rfl (.of_eq rfl) (.cons rfl (.of_eq rfl) (.cons rfl (.of_eq rfl) .nil))) (.box rfl (.cons (.of_eq rfl) (.cons (.of_eq rfl) (.cons (.of_eq rfl) .nil))) (.box rfl (.cons (.of_eq rfl) (.cons (.of_eq rfl) (.cons (.of_eq rfl) .nil))) .nil)) rfl))))))))))))))))))))))
      · replace hx := cond_f hc12 hx
        rcases Bool.eq_false_or_eq_true (!((Option.isNone v3.2) == v2.2)) with hc13 | hc13
        · replace hx := cond_t hc13 hx
          obtain rfl := Option.some.inj hx
          exact (J.cons (.none rfl) (JO.move rfl) rfl rfl (J.cons (.none rfl) (JO.call0 (con_frame_Sum hv10) Try.call33 (.cons (.dir rfl) .nil)) rfl rfl (J.cons (.none rfl) (JO.move rfl) rfl rfl (J.cons (.none rfl) (JO.call0 (con_ref_SumOf hv11) Try.call34 (.cons (.dir rfl) .nil)) rfl rfl (J.cons (.none rfl) (JO.cmp rfl rfl rfl) rfl rfl (J.cons (.none rfl) (JO.move rfl) rfl rfl (J.cons (GK.met 25 rfl rfl rfl hc12) (JO.move rfl) rfl rfl (J.cons (GK.met 25 rfl rfl rfl hc12) (JO.errEq Try.runUnderlying29 rfl) rfl rfl (J.cons (GK.met 25 rfl rfl rfl hc12) (JO.move rfl) rfl rfl (J.cons (GK.met 25 rfl rfl rfl hc12) (JO.boolNe Try.runUnderlying4 rfl rfl) rfl rfl (J.cons (.none rfl) (JO.pF hc12 rfl rfl) rfl rfl (J.cons (.none rfl) (JO.move rfl) rfl rfl (J.left (GK.unmet 31 rfl rfl rfl hc13) rfl (J.left (GK.unmet 31 rfl rfl rfl hc13) rfl (J.left (GK.unmet 31 rfl rfl rfl hc13) rfl (J.left (GK.und 34 rfl rfl rfl) rfl (J.left (GK.und 34 rfl rfl rfl) rfl (J.left (GK.und 34 rfl rfl rfl) rfl (J.left (GK.unmet 31 rfl rfl rfl hc13) rfl (J.cons (.none rfl) (JO.pT hc13 rfl rfl) rfl rfl (J.fin (Sw.Sub.mk id (.cons rfl (.of_eq rfl) (.cons rfl (.of_eq rfl) (.cons rfl (.of_eq rfl) .nil))) (.box rfl (.cons (.of_eq rfl) (.cons (.of_eq rfl) (.cons (.of_eq rfl) .nil))) (.box rfl (.cons (.of_eq rfl) (.cons (.of_eq rfl) (.cons (.of_eq rfl) .nil))) .nil)) rfl))))))))))))))))))))))
        · replace hx := cond_f hc13 hx
          rcases Bool.eq_false_or_eq_true (!v2.2) with hc14 | hc14
          · replace hx := cond_t hc14 hx
            obtain rfl := Option.some.inj hx
            exact (J.cons (.none rfl) (JO.move rfl) rfl rfl (J.cons (.none rfl) (JO.call0 (con_frame_Sum hv10) Try.call33 (.cons (.dir rfl) .nil)) rfl rfl (J.cons (.none rfl) (JO.move rfl) rfl rfl (J.cons (.none rfl) (JO.call0 (con_ref_SumOf hv11) Try.call34 (.cons (.dir rfl) .nil)) rfl rfl (J.cons (.none rfl) (JO.cmp rfl rfl rfl) rfl rfl (J.cons (.none rfl) (JO.move rfl) rfl rfl (J.cons (GK.met 25 rfl rfl rfl hc12) (JO.move rfl) rfl rfl (J.cons (GK.met 25 rfl rfl rfl hc12) (JO.errEq Try.runUnderlying29 rfl) rfl rfl (J.cons (GK.met 25 rfl rfl rfl hc12) (JO.move rfl) rfl rfl (J.cons (GK.met 25 rfl rfl rfl hc12) (JO.boolNe Try.runUnderlying4 rfl rfl) rfl rfl (J.cons (.none rfl) (JO.pF hc12 rfl rfl) rfl rfl (J.cons (.none rfl) (JO.move rfl) rfl rfl (J.cons (GK.met 31 rfl rfl rfl hc13) (JO.move rfl) rfl rfl (J.cons (GK.met 31 rfl rfl rfl hc13) (JO.not rfl) rfl rfl (J.cons (GK.met 31 rfl rfl rfl hc13) (JO.move rfl) rfl rfl (J.cons (GK.met 34 rfl rfl rfl hc14) (JO.move rfl) rfl rfl (J.cons (GK.met 34 rfl rfl rfl hc14) (JO.mkErr Try.runUnderlying25 rfl) rfl rfl (J.cons (GK.met 34 rfl rfl rfl hc14) (JO.errNe2 Try.runUnderlying29 Try.runUnderlying25 Try.typeInfo25 rfl rfl rfl) rfl rfl (J.cons (GK.met 31 rfl rfl rfl hc13) (JO.pT hc14 rfl rfl) rfl rfl (J.cons (.none rfl) (JO.pF hc13 rfl rfl) rfl rfl (J.fin (Sw.Sub.mk id (.cons rfl (.of_eq rfl) (.cons rfl (.of_eq rfl) (.cons rfl (.of_eq rfl) .nil))) (.box rfl (.cons (.of_eq rfl) (.cons (.of_eq rfl) (.cons (.of_eq rfl) .nil))) (.box rfl (.cons (.of_eq rfl) (.cons (.of_eq rfl) (.cons (.of_eq rfl) .nil))) .nil)) rfl))))))))))))))))))))))
          · replace hx := cond_f hc14 hx
            obtain rfl := Option.some.inj hx
            exact (J.cons (.none rfl) (JO.move rfl) rfl rfl (J.cons (.none rfl) (JO.call0 (con_frame_Sum hv10) Try.call33 (.cons (.dir rfl) .nil)) rfl rfl (J.cons (.none rfl) (JO.move rfl) rfl rfl (J.cons (.none rfl) (JO.call0 (con_ref_SumOf hv11) Try.call34 (.cons (.dir rfl) .nil)) rfl rfl (J.cons (.none rfl) (JO.cmp rfl rfl rfl) rfl rfl (J.cons (.none rfl) (JO.move rfl) rfl rfl (J.cons (GK.met 25 rfl rfl rfl hc12) (JO.move rfl) rfl rfl (J.cons (GK.met 25 rfl rfl rfl hc12) (JO.errEq Try.runUnderlying29 rfl) rfl rfl (J.cons (GK.met 25 rfl rfl rfl hc12) (JO.move rfl) rfl rfl (J.cons (GK.met 25 rfl rfl rfl hc12) (JO.boolNe Try.runUnderlying4 rfl rfl) rfl rfl (J.cons (.none rfl) (JO.pF hc12 rfl rfl) rfl rfl (J.cons (.none rfl) (JO.move rfl) rfl rfl (J.cons (GK.met 31 rfl rfl rfl hc13) (JO.move rfl) rfl rfl (J.cons (GK.met 31 rfl rfl rfl hc13) (JO.not rfl) rfl rfl (J.cons (GK.met 31 rfl rfl rfl hc13) (JO.move rfl) rfl rfl (J.left (GK.unmet 34 rfl rfl rfl hc14) rfl (J.left (GK.unmet 34 rfl rfl rfl hc14) rfl (J.left (GK.unmet 34 rfl rfl rfl hc14) rfl (J.cons (GK.met 31 rfl rfl rfl hc13) (JO.pF hc14 rfl rfl) rfl rfl (J.cons (.none rfl) (JO.pF hc13 rfl rfl) rfl rfl (J.fin (Sw.Sub.mk id (.cons rfl (.of_eq rfl) (.cons rfl (.of_eq rfl) (.cons rfl (.of_eq rfl) .nil))) (.box rfl (.cons (.of_eq rfl) (.cons (.of_eq rfl) (.cons (.of_eq rfl) .nil))) (.box rfl (.cons (.of_eq rfl) (.cons (.of_eq rfl) (.cons (.of_eq rfl) .nil))) .nil)) rfl))))))))))))))))))))))
    rcases Bool.eq_false_or_eq_true x9 with hc15 | hc15
    · replace h := cond_t hc15 h
      refine W.condT rfl hc15 ?_
      refine W.seq ?_
      refine W.reg (σ' := ⟨[(2, .v Enc.bool false)], []⟩) (J.cons (.none rfl) (JO.assign rfl) rfl rfl (J.fin (Sw.Sub.mk id (.cons rfl (.of_eq rfl) .nil) .nil rfl))) ?_
      refine W.ret ?_
      obtain rfl := Option.some.inj h
      exact XQ.sub (σ' := ⟨[(2, .v Enc.bool false)], []⟩) (Sw.Sub.mk id (.cons rfl (.of_eq rfl) .nil) .nil rfl) (XQ.ret1 hF noR rfl (RV.tmp rfl) .nil rfl)
    · replace h := cond_f hc15 h
      refine W.condF rfl hc15 ?_
      refine W.skip ?_
      refine W.seq ?_
      obtain ⟨v16, hv16, h⟩ := bind_e h
      refine W.reg (σ' := ⟨[(2, .v Enc.bool v16)], []⟩) (J.cons (.none rfl) (JO.loadAll rfl rfl (.prm (.one _ _) (.prm (.one _ _) (.one _ _))) Try.isAgg38 Try.sizeOf38) rfl rfl (J.cons (.none rfl) (JO.loadAll rfl rfl (.prm (.one _ _) (.prm (.one _ _) (.one _ _))) Try.isAgg38 Try.sizeOf38) rfl rfl (J.cons (.none rfl) (JO.call0 (con_ref_SameFrame hv16) Try.call35 (.cons (.dir rfl) (.cons (.dir rfl) .nil))) rfl rfl (J.cons (.none rfl) (JO.assign rfl) rfl rfl (J.fin (Sw.Sub.mk id (.cons rfl (.of_eq rfl) .nil) .nil rfl)))))) ?_
      refine W.ret ?_
      obtain rfl := Option.some.inj h
      exact XQ.sub (σ' := ⟨[(2, .v Enc.bool v16)], []⟩) (Sw.Sub.mk id (.cons rfl (.of_eq rfl) .nil) .nil rfl) (XQ.ret1 hF noR rfl (RV.tmp rfl) .nil rfl)
set_option maxRecDepth 100000 in
set_option maxHeartbeats 4000000 in
theorem con_law_FrameTorn {a0 : (Int × (List Int) × (List Blk))} {a1 : Int} {a2 : Int} {a3 : Int} {r : Bool} (h : m_law_FrameTorn a0 a1 a2 a3 = some r) :
    Con Try.prog 7 [.v (Enc.pr (Enc.int .i64) (Enc.pr (Enc.sl (Enc.int .i64)) (Enc.sl eBlk))) a0, .v (Enc.int .i64) a1, .v (Enc.int .i64) a2, .v (Enc.int .i64) a3] (.v Enc.bool r) [] := by
  refine Con.of Try.func7 rfl Try.ntmps7 rfl ?_
  intro S w hF
  unfold m_law_FrameTorn at h
  refine W.seq ?_
  refine W.reg (σ' := ⟨[(1, .v (Enc.int .i64) a1), (2, .v (Enc.int .i64) a2), (3, .v (Enc.int .i64) a3), (4, .ptr 101 0)], [(101, .box 38 [.v (Enc.int .i64) a0.1, .v (Enc.sl (Enc.int .i64)) a0.2.1, .v (Enc.sl eBlk) a0.2.2])]⟩) (J.cons (.none rfl) (JO.box 101 rfl (.prm (.one _ _) (.prm (.one _ _) (.one _ _))) rfl) rfl rfl (J.cons (.none rfl) (JO.assign rfl) rfl rfl (J.fin (Sw.Sub.mk id (.cons rfl (.of_eq rfl) (.cons rfl (.of_eq rfl) (.cons rfl (.of_eq rfl) (.cons rfl (.of_eq rfl) .nil)))) (.box rfl (.cons (.of_eq rfl) (.cons (.of_eq rfl) (.cons (.of_eq rfl) .nil))) .nil) rfl)))) ?_
  refine W.seq ?_
  refine W.seq ?_
  obtain ⟨v1, hv1, h⟩ := bind_e h
  refine W.reg (σ' := ⟨[(1, .v (Enc.int .i64) a1), (2, .v (Enc.int .i64) a2), (3, .v (Enc.int .i64) a3), (4, .ptr 101 0), (12, .v Enc.bool (cm .neq v1 (0 : Int)))], [(101, .box 38 [.v (Enc.int .i64) a0.1, .v (Enc.sl (Enc.int .i64)) a0.2.1, .v (Enc.sl eBlk) a0.2.2])]⟩) (J.cons (.none rfl) (JO.loadAll rfl rfl (.prm (.one _ _) (.prm (.one _ _) (.one _ _))) Try.isAgg38 Try.sizeOf38) rfl rfl (J.cons (.none rfl) (JO.call0 (con_ref_FrameMay hv1) Try.call21 (.cons (.dir rfl) .nil)) rfl rfl (J.cons (.none rfl) (JO.cmp rfl rfl rfl) rfl rfl (J.fin (Sw.Sub.mk id (.cons rfl (.of_eq rfl) (.cons rfl (.of_eq rfl) (.cons rfl (.of_eq rfl) (.cons rfl (.of_eq rfl) (.cons rfl (.of_eq rfl) .nil))))) (.box rfl (.cons (.of_eq rfl) (.cons (.of_eq rfl) (.cons (.of_eq rfl) .nil))) .nil) rfl))))) ?_
  rcases Bool.eq_false_or_eq_true (cm .neq v1 (0 : Int)) with hc2 | hc2
  · replace h := cond_t hc2 h
    refine W.condT rfl hc2 ?_
    refine W.seq ?_
    refine W.reg (σ' := ⟨[(8, .v Enc.bool true)], []⟩) (J.cons (.none rfl) (JO.assign rfl) rfl rfl (J.fin (Sw.Sub.mk id (.cons rfl (.of_eq rfl) .nil) .nil rfl))) ?_
    refine W.ret ?_
    obtain rfl := Option.some.inj h
    exact XQ.sub (σ' := ⟨[(8, .v Enc.bool true)], []⟩) (Sw.Sub.mk id (.cons rfl (.of_eq rfl) .nil) .nil rfl) (XQ.ret1 hF noR rfl (RV.tmp rfl) .nil rfl)
  · replace h := cond_f hc2 h
    refine W.condF rfl hc2 ?_
    refine W.skip ?_
    refine W.seq ?_
    obtain ⟨v3, hv3, h⟩ := bind_e h
    refine W.reg (σ' := ⟨[(1, .v (Enc.int .i64) a1), (2, .v (Enc.int .i64) a2), (3, .v (Enc.int .i64) a3), (9, .ref 103000)], [(103000, .arr 5 (Enc.int .u8) v3)]⟩) (J.cons (.none rfl) (JO.loadAll rfl rfl (.prm (.one _ _) (.prm (.one _ _) (.one _ _))) Try.isAgg38 Try.sizeOf38) rfl rfl (J.cons (.none rfl) (JO.call 103000 (con_ref_Packed hv3) Try.call22 (.cons (.dir rfl) .nil) rfl) rfl rfl (J.cons (.none rfl) (JO.assign rfl) rfl rfl (J.fin (Sw.Sub.mk id (.cons rfl (.of_eq rfl) (.cons rfl (.of_eq rfl) (.cons rfl (.of_eq rfl) (.cons rfl (.of_eq rfl) .nil)))) (.arr rfl .nil) rfl))))) ?_
    refine W.seq ?_
    obtain ⟨v4, hv4, h⟩ := bind_e h
    refine W.reg (σ' := ⟨[(1, .v (Enc.int .i64) v4), (2, .v (Enc.int .i64) a2), (3, .v (Enc.int .i64) a3), (9, .ref 103000)], [(103000, .arr 5 (Enc.int .u8) v3)]⟩) (J.cons (.none rfl) (JO.move rfl) rfl rfl (J.cons (.none rfl) (JO.move rfl) rfl rfl (J.cons (.none rfl) (JO.lenR rfl rfl Try.runUnderlying40) rfl rfl (J.cons (.none rfl) (JO.call0 (con_ref_Pick hv4) Try.call36 (.cons (.dir rfl) (.cons (.dir rfl) .nil))) rfl rfl (J.cons (.none rfl) (JO.assign rfl) rfl rfl (J.fin (Sw.Sub.mk id (.cons rfl (.of_eq rfl) (.cons rfl (.of_eq rfl) (.cons rfl (.of_eq rfl) (.cons rfl (.of_eq rfl) .nil)))) (.arr rfl .nil) rfl))))))) ?_
    refine W.seq ?_
    refine W.seq ?_
    obtain ⟨v5, hv5, h⟩ := bind_e h
    refine W.reg (σ' := ⟨[(1, .v (Enc.int .i64) v4), (2, .v (Enc.int .i64) a2), (9, .ref 103000), (20, .v (Enc.int .i64) v5)], [(103000, .arr 5 (Enc.int .u8) v3)]⟩) (J.cons (.none rfl) (JO.move rfl) rfl rfl (J.cons (.none rfl) (JO.call0 (con_ref_Pick hv5) Try.call36 (.cons (.dir rfl) (.cons (.dir rfl) .nil))) rfl rfl (J.fin (Sw.Sub.mk id (.cons rfl (.of_eq rfl) (.cons rfl (.of_eq rfl) (.cons rfl (.of_eq rfl) (.cons rfl (.of_eq rfl) .nil)))) (.arr rfl .nil) rfl)))) ?_
    refine W.block ?_
    refine W.seq ?_
    refine W.reg (σ' := ⟨[(1, .v (Enc.int .i64) v4), (2, .v (Enc.int .i64) a2), (9, .ref 103000), (20, .v (Enc.int .i64) v5), (27, .v Enc.bool (cm .eql v5 (0 : Int)))], [(103000, .arr 5 (Enc.int .u8) v3)]⟩) (J.cons (.none rfl) (JO.cmp rfl rfl rfl) rfl rfl (J.cons (.none rfl) (JO.assign rfl) rfl rfl (J.fin (Sw.Sub.mk id (.cons rfl (.of_eq rfl) (.cons rfl (.of_eq rfl) (.cons rfl (.of_eq rfl) (.cons rfl (.of_eq rfl) (.cons rfl (.of_eq rfl) .nil))))) (.arr rfl .nil) rfl)))) ?_
    rcases Bool.eq_false_or_eq_true (cm .eql v5 (0 : Int)) with hc6 | hc6
    · replace h := cond_t hc6 h
      refine W.condT rfl hc6 ?_
      obtain ⟨v7, hv7, h⟩ := bind_e h
      obtain ⟨z8, hz8, h⟩ := bind_e h
      refine W.reg (σ' := ⟨[(9, .ref 103000)], [(103000, .arr 5 (Enc.int .u8) (List.set v3 (Int.toNat v4) (IntKind.wrap .u8 v7)))]⟩) (J.cons (.none rfl) (JO.move rfl) rfl rfl (J.cons (.none rfl) (JO.move rfl) rfl rfl (J.cons (.none rfl) (JO.move rfl) rfl rfl (J.cons (.none rfl) (JO.call0 (con_ref_Pick hv7) Try.call36 (.cons (.dir rfl) (.cons (.dir rfl) .nil))) rfl rfl (J.cons (.none rfl) (JO.conv Try.runUnderlying3 Try.runUnderlying5 rfl) rfl rfl (J.cons (.none rfl) (JO.idxR hz8 rfl rfl rfl Try.runUnderlying40 Try.sizeOf5) rfl rfl (J.mut (.none rfl) (JM.storeEl (idx_some hz8).2.2 rfl rfl rfl Try.sizeOf5) (J.fin (Sw.Sub.mk id (.cons rfl (.of_eq rfl) .nil) (.arr rfl .nil) rfl))))))))) ?_
      refine W.fall ?_
      refine W.seq ?_
      obtain ⟨v9, hv9, h⟩ := bind_e h
      refine W.reg (σ' := ⟨[(8, .v Enc.bool v9)], []⟩) (J.cons (.none rfl) (JO.move rfl) rfl rfl (J.cons (.none rfl) (JO.callL0 (con_law_FrameReads hv9) Try.call6 (.cons (.ref rfl rfl) .nil) FlatS.v) rfl rfl (J.cons (.none rfl) (JO.assign rfl) rfl rfl (J.fin (Sw.Sub.mk id (.cons rfl (.of_eq rfl) .nil) .nil rfl))))) ?_
      refine W.ret ?_
      obtain rfl := Option.some.inj h
      exact XQ.sub (σ' := ⟨[(8, .v Enc.bool v9)], []⟩) (Sw.Sub.mk id (.cons rfl (.of_eq rfl) .nil) .nil rfl) (XQ.ret1 hF noR rfl (RV.tmp rfl) .nil rfl)
    · replace h := cond_f hc6 h
      refine W.condF rfl hc6 ?_
      refine W.seq ?_
      refine W.reg (σ' := ⟨[(1, .v (Enc.int .i64) v4), (2, .v (Enc.int .i64) a2), (9, .ref 103000), (35, .v Enc.bool (cm .eql v5 (1 : Int)))], [(103000, .arr 5 (Enc.int .u8) v3)]⟩) (J.cons (.none rfl) (JO.cmp rfl rfl rfl) rfl rfl (J.cons (.none rfl) (JO.assign rfl) rfl rfl (J.fin (Sw.Sub.mk id (.cons rfl (.of_eq rfl) (.cons rfl (.of_eq rfl) (.cons rfl (.of_eq rfl) (.cons rfl (.of_eq rfl) .nil)))) (.arr rfl .nil) rfl)))) ?_
      rcases Bool.eq_false_or_eq_true (cm .eql v5 (1 : Int)) with hc10 | hc10
      · replace h := cond_t hc10 h
        refine W.condT rfl hc10 ?_
        obtain ⟨v11, hv11, h⟩ := bind_e h
        refine W.reg (σ' := ⟨[(9, .v (Enc.sl (Enc.int .u8)) v11)], []⟩) (J.cons (.none rfl) (JO.move rfl) rfl rfl (J.cons (.none rfl) (JO.move rfl) rfl rfl (J.sub (σ' := ⟨[(1, .v (Enc.int .i64) v4), (2, .v (Enc.int .i64) a2), (9, .v (Enc.sl (Enc.int .u8)) v3), (35, .v Enc.bool (cm .eql v5 (1 : Int))), (37, .v (Enc.sl (Enc.int .u8)) v3), (38, .v (Enc.int .i64) v4)], []⟩) (Sw.Sub.mk id (.cons rfl (.of_eq rfl) (.cons rfl (.of_eq rfl) (.cons rfl (.frz rfl rfl) (.cons rfl (.of_eq rfl) (.cons rfl (.frz rfl rfl) (.cons rfl (.of_eq rfl) .nil)))))) .nil rfl) (J.cons (.none rfl) (JO.slHi hv11 rfl rfl Try.runUnderlying40 Try.sizeOf5) rfl rfl (J.cons (.none rfl) (JO.assign rfl) rfl rfl (J.fin (Sw.Sub.mk id (.cons rfl (.of_eq rfl) .nil) .nil rfl))))))) ?_
        refine W.fall ?_
        refine W.seq ?_
        obtain ⟨v12, hv12, h⟩ := bind_e h
        refine W.reg (σ' := ⟨[(8, .v Enc.bool v12)], []⟩) (J.cons (.none rfl) (JO.move rfl) rfl rfl (J.cons (.none rfl) (JO.call0 (con_law_FrameReads hv12) Try.call6 (.cons (.dir rfl) .nil)) rfl rfl (J.cons (.none rfl) (JO.assign rfl) rfl rfl (J.fin (Sw.Sub.mk id (.cons rfl (.of_eq rfl) .nil) .nil rfl))))) ?_
        refine W.ret ?_
        obtain rfl := Option.some.inj h
        exact XQ.sub (σ' := ⟨[(8, .v Enc.bool v12)], []⟩) (Sw.Sub.mk id (.cons rfl (.of_eq rfl) .nil) .nil rfl) (XQ.ret1 hF noR rfl (RV.tmp rfl) .nil rfl)
      · replace h := cond_f hc10 h
        refine W.condF rfl hc10 ?_
        obtain ⟨v13, hv13, h⟩ := bind_e h
        obtain ⟨v14, hv14, h⟩ := bind_e h
        refine W.reg (σ' := ⟨[(9, .ref 110)], [(110, .arr 5 (Enc.int .u8) v14)]⟩) (J.cons (.none rfl) (JO.move rfl) rfl rfl (J.cons (.none rfl) (JO.move rfl) rfl rfl (J.cons (.none rfl) (JO.call0 (con_ref_Pick hv13) Try.call36 (.cons (.dir rfl) (.cons (.dir rfl) .nil))) rfl rfl (J.cons (.none rfl) (JO.conv Try.runUnderlying3 Try.runUnderlying5 rfl) rfl rfl (J.cons (.none rfl) (JO.lit (e := (Enc.int .u8)) Try.runUnderlying40 Try.sizeOf5 Try.zeroValue5 rfl rfl rfl rfl (.cons (.dir rfl) .nil)) rfl rfl (J.mut (.none rfl) (JM.append 110 hv14 rfl rfl (.sl rfl) Try.runUnderlying40 Try.typeInfo5 Try.sizeOf5 rfl rfl rfl rfl rfl) (J.cons (.none rfl) (JO.assign rfl) rfl rfl (J.fin (Sw.Sub.mk id (.cons rfl (.of_eq rfl) .nil) (.arr rfl .nil) rfl))))))))) ?_
        refine W.fall ?_
        refine W.seq ?_
        obtain ⟨v15, hv15, h⟩ := bind_e h
        refine W.reg (σ' := ⟨[(8, .v Enc.bool v15)], []⟩) (J.cons (.none rfl) (JO.move rfl) rfl rfl (J.cons (.none rfl) (JO.callL0 (con_law_FrameReads hv15) Try.call6 (.cons (.ref rfl rfl) .nil) FlatS.v) rfl rfl (J.cons (.none rfl) (JO.assign rfl) rfl rfl (J.fin (Sw.Sub.mk id (.cons rfl (.of_eq rfl) .nil) .nil rfl))))) ?_
        refine W.ret ?_
        obtain rfl := Option.some.inj h
        exact XQ.sub (σ' := ⟨[(8, .v Enc.bool v15)], []⟩) (Sw.Sub.mk id (.cons rfl (.of_eq rfl) .nil) .nil rfl) (XQ.ret1 hF noR rfl (RV.tmp rfl) .nil rfl)
end Go.Cn
