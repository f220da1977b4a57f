/- The functions that this law reaches come to what their models come to. Conditions: none. -/
import Derived.Test.YteckohdbfkhmdaaMoFrameSays
import Derived.KernelRfl
import Derived.Test.YteckohdbfkhmdaaChecked
namespace Go.Cn
open Go Go.Sw Go.Mo Go.Proofs
abbrev ET : Nat := 25
theorem mixed : Try.prog.follows .mixedOrders = true := Try.checked.mixed

set_option maxRecDepth 100000 in
set_option maxHeartbeats 4000000 in
theorem con_ref_FrameMay {a0 : (Int × (List Int) × (List Blk))} {r : Int} (h : m_ref_FrameMay a0 = some r) :
    Con Try.prog 21 [.v (Enc.pr (Enc.int .i64) (Enc.pr (Enc.sl (Enc.int .i64)) (Enc.sl eBlk))) a0] (.v (Enc.int .i64) r) [] := by
  refine Con.of Try.func21 rfl Try.ntmps21 rfl ?_
  intro S w
  unfold m_ref_FrameMay at h
  refine W.seq ?_
  refine W.reg (σ' := ⟨[(1, .ptr 101 0)], [(101, .box 38 [.v (Enc.int .i64) a0.1, .v (Enc.sl (Enc.int .i64)) a0.2.1, .v (Enc.sl eBlk) a0.2.2])]⟩) (J.cons (.none rfl) (JO.box 101 rfl (.prm (.one _ _) (.prm (.one _ _) (.one _ _))) rfl) rfl rfl (J.cons (.none rfl) (JO.assign rfl) rfl rfl (J.fin (Sw.Sub.mk id (.cons rfl (.of_eq rfl) .nil) (.box rfl (.cons (.of_eq rfl) (.cons (.of_eq rfl) (.cons (.of_eq rfl) .nil))) .nil) rfl)))) ?_
  refine W.seq ?_
  refine W.seq ?_
  obtain ⟨x2, hx, h⟩ := bind_e h
  refine W.reg (σ' := ⟨[(1, .ptr 101 0), (11, .v Enc.bool x2)], [(101, .box 38 [.v (Enc.int .i64) a0.1, .v (Enc.sl (Enc.int .i64)) a0.2.1, .v (Enc.sl eBlk) a0.2.2])]⟩) ?_ ?_
  · rcases Bool.eq_false_or_eq_true (cm .lss a0.1 (0 : Int)) with hc3 | hc3
    · replace hx := cond_t hc3 hx
      obtain rfl := Option.some.inj hx
      exact (J.cons (.none rfl) (JO.fieldPtr 0 rfl Try.runUnderlying38 rfl Try.sizeOf3 rfl rfl) rfl rfl (J.cons (.none rfl) (JO.load rfl rfl rfl Try.isAgg3 Try.sizeOf3) rfl rfl (J.cons (.none rfl) (JO.cmp rfl rfl rfl) rfl rfl (J.cons (.none rfl) (JO.move rfl) rfl rfl (J.left (GK.unmet 7 rfl rfl rfl hc3) rfl (J.left (GK.unmet 7 rfl rfl rfl hc3) rfl (J.left (GK.unmet 7 rfl rfl rfl hc3) rfl (J.cons (.none rfl) (JO.pT hc3 rfl rfl) rfl rfl (J.fin (Sw.Sub.mk id (.cons rfl (.of_eq rfl) (.cons rfl (.of_eq rfl) .nil)) (.box rfl (.cons (.of_eq rfl) (.cons (.of_eq rfl) (.cons (.of_eq rfl) .nil))) .nil) rfl))))))))))
    · replace hx := cond_f hc3 hx
      obtain rfl := Option.some.inj hx
      exact (J.cons (.none rfl) (JO.fieldPtr 0 rfl Try.runUnderlying38 rfl Try.sizeOf3 rfl rfl) rfl rfl (J.cons (.none rfl) (JO.load rfl rfl rfl Try.isAgg3 Try.sizeOf3) rfl rfl (J.cons (.none rfl) (JO.cmp rfl rfl rfl) rfl rfl (J.cons (.none rfl) (JO.move rfl) rfl rfl (J.cons (GK.met 7 rfl rfl rfl hc3) (JO.fieldPtr 0 rfl Try.runUnderlying38 rfl Try.sizeOf3 rfl rfl) rfl rfl (J.cons (GK.met 7 rfl rfl rfl hc3) (JO.load rfl rfl rfl Try.isAgg3 Try.sizeOf3) rfl rfl (J.cons (GK.met 7 rfl rfl rfl hc3) (JO.cmp rfl rfl rfl) rfl rfl (J.cons (.none rfl) (JO.pF hc3 rfl rfl) rfl rfl (J.fin (Sw.Sub.mk id (.cons rfl (.of_eq rfl) (.cons rfl (.of_eq rfl) .nil)) (.box rfl (.cons (.of_eq rfl) (.cons (.of_eq rfl) (.cons (.of_eq rfl) .nil))) .nil) rfl))))))))))
  rcases Bool.eq_false_or_eq_true x2 with hc4 | hc4
  · replace h := cond_t hc4 h
    refine W.condT rfl hc4 ?_
    refine W.seq ?_
    refine W.reg (σ' := ⟨[(2, .v (Enc.int .i64) (1 : Int))], []⟩) (J.cons (.none rfl) (JO.assign rfl) rfl rfl (J.fin (Sw.Sub.mk id (.cons rfl (.of_eq rfl) .nil) .nil rfl))) ?_
    refine W.ret ?_
    obtain rfl := Option.some.inj h
    exact XQ.sub (σ' := ⟨[(2, .v (Enc.int .i64) (1 : Int))], []⟩) (Sw.Sub.mk id (.cons rfl (.of_eq rfl) .nil) .nil rfl) (XQ.ret1 noR rfl (RV.tmp rfl) .nil rfl)
  · replace h := cond_f hc4 h
    refine W.condF rfl hc4 ?_
    refine W.skip ?_
    refine W.seq ?_
    refine W.seq ?_
    obtain ⟨x6, hx, h⟩ := bind_e h
    refine W.reg (σ' := ⟨[(1, .ptr 101 0), (21, .v Enc.bool x6)], [(101, .box 38 [.v (Enc.int .i64) a0.1, .v (Enc.sl (Enc.int .i64)) a0.2.1, .v (Enc.sl eBlk) a0.2.2])]⟩) ?_ ?_
    · rcases Bool.eq_false_or_eq_true (cm .gtr (a0.2.1.length : Int) (12 : Int)) with hc7 | hc7
      · replace hx := cond_t hc7 hx
        obtain rfl := Option.some.inj hx
        exact (J.cons (.none rfl) (JO.fieldPtr 1 rfl Try.runUnderlying38 rfl Try.sizeOf36 rfl rfl) rfl rfl (J.cons (.none rfl) (JO.load rfl rfl rfl Try.isAgg36 Try.sizeOf36) rfl rfl (J.cons (.none rfl) (JO.len rfl Try.runUnderlying36) rfl rfl (J.cons (.none rfl) (JO.cmp rfl rfl rfl) rfl rfl (J.cons (.none rfl) (JO.move rfl) rfl rfl (J.left (GK.unmet 16 rfl rfl rfl hc7) rfl (J.left (GK.unmet 16 rfl rfl rfl hc7) rfl (J.left (GK.unmet 16 rfl rfl rfl hc7) rfl (J.left (GK.unmet 16 rfl rfl rfl hc7) rfl (J.cons (.none rfl) (JO.pT hc7 rfl rfl) rfl rfl (J.fin (Sw.Sub.mk id (.cons rfl (.of_eq rfl) (.cons rfl (.of_eq rfl) .nil)) (.box rfl (.cons (.of_eq rfl) (.cons (.of_eq rfl) (.cons (.of_eq rfl) .nil))) .nil) rfl))))))))))))
      · replace hx := cond_f hc7 hx
        obtain rfl := Option.some.inj hx
        exact (J.cons (.none rfl) (JO.fieldPtr 1 rfl Try.runUnderlying38 rfl Try.sizeOf36 rfl rfl) rfl rfl (J.cons (.none rfl) (JO.load rfl rfl rfl Try.isAgg36 Try.sizeOf36) rfl rfl (J.cons (.none rfl) (JO.len rfl Try.runUnderlying36) rfl rfl (J.cons (.none rfl) (JO.cmp rfl rfl rfl) rfl rfl (J.cons (.none rfl) (JO.move rfl) rfl rfl (J.cons (GK.met 16 rfl rfl rfl hc7) (JO.fieldPtr 2 rfl Try.runUnderlying38 rfl Try.sizeOf22 rfl rfl) rfl rfl (J.cons (GK.met 16 rfl rfl rfl hc7) (JO.load rfl rfl rfl Try.isAgg22 Try.sizeOf22) rfl rfl (J.cons (GK.met 16 rfl rfl rfl hc7) (JO.len rfl Try.runUnderlying22) rfl rfl (J.cons (GK.met 16 rfl rfl rfl hc7) (JO.cmp rfl rfl rfl) rfl rfl (J.cons (.none rfl) (JO.pF hc7 rfl rfl) rfl rfl (J.fin (Sw.Sub.mk id (.cons rfl (.of_eq rfl) (.cons rfl (.of_eq rfl) .nil)) (.box rfl (.cons (.of_eq rfl) (.cons (.of_eq rfl) (.cons (.of_eq rfl) .nil))) .nil) rfl))))))))))))
    rcases Bool.eq_false_or_eq_true x6 with hc8 | hc8
    · replace h := cond_t hc8 h
      refine W.condT rfl hc8 ?_
      refine W.seq ?_
      refine W.reg (σ' := ⟨[(2, .v (Enc.int .i64) (2 : Int))], []⟩) (J.cons (.none rfl) (JO.assign rfl) rfl rfl (J.fin (Sw.Sub.mk id (.cons rfl (.of_eq rfl) .nil) .nil rfl))) ?_
      refine W.ret ?_
      obtain rfl := Option.some.inj h
      exact XQ.sub (σ' := ⟨[(2, .v (Enc.int .i64) (2 : Int))], []⟩) (Sw.Sub.mk id (.cons rfl (.of_eq rfl) .nil) .nil rfl) (XQ.ret1 noR rfl (RV.tmp rfl) .nil rfl)
    · replace h := cond_f hc8 h
      refine W.condF rfl hc8 ?_
      refine W.skip ?_
      refine W.seq ?_
      refine W.seq ?_
      refine W.reg (σ' := ⟨[(1, .ptr 101 0), (3, .v (Enc.int .i64) (0 : Int))], [(101, .box 38 [.v (Enc.int .i64) a0.1, .v (Enc.sl (Enc.int .i64)) a0.2.1, .v (Enc.sl eBlk) a0.2.2])]⟩) (J.cons (.none rfl) (JO.assign rfl) rfl rfl (J.fin (Sw.Sub.mk id (.cons rfl (.of_eq rfl) (.cons rfl (.of_eq rfl) .nil)) (.box rfl (.cons (.of_eq rfl) (.cons (.of_eq rfl) (.cons (.of_eq rfl) .nil))) .nil) rfl))) ?_
      obtain ⟨o39, ho39, hb39, hr39⟩ := lp_elim h
      refine W.lp (σs := fun s29 : Int => ⟨[(1, .ptr 101 0), (3, .v (Enc.int .i64) s29)], [(101, .box 38 [.v (Enc.int .i64) a0.1, .v (Enc.sl (Enc.int .i64)) a0.2.1, .v (Enc.sl eBlk) a0.2.2])]⟩) (fun x40 : Unit => ⟨[], []⟩) ho39 (Sw.Sub.mk id (.cons rfl (.of_eq rfl) (.cons rfl (.of_eq rfl) .nil)) (.box rfl (.cons (.of_eq rfl) (.cons (.of_eq rfl) (.cons (.of_eq rfl) .nil))) .nil) rfl) ?_ ?_
      · intro x40 hy
        have h := hb39 _ hy
        refine W.seq ?_
        refine W.reg (σ' := ⟨[(2, .v (Enc.int .i64) (0 : Int))], []⟩) (J.cons (.none rfl) (JO.assign rfl) rfl rfl (J.fin (Sw.Sub.mk id (.cons rfl (.of_eq rfl) .nil) .nil rfl))) ?_
        refine W.ret ?_
        obtain rfl := Option.some.inj h
        exact XQ.sub (σ' := ⟨[(2, .v (Enc.int .i64) (0 : Int))], []⟩) (Sw.Sub.mk id (.cons rfl (.of_eq rfl) .nil) .nil rfl) (XQ.ret1 noR rfl (RV.tmp rfl) .nil rfl)
      intro s29 r39 h
      refine W.seq ?_
      refine W.seq ?_
      refine W.reg (σ' := ⟨[(1, .ptr 101 0), (3, .v (Enc.int .i64) s29), (26, .v Enc.bool (cm .lss s29 (a0.2.1.length : Int)))], [(101, .box 38 [.v (Enc.int .i64) a0.1, .v (Enc.sl (Enc.int .i64)) a0.2.1, .v (Enc.sl eBlk) a0.2.2])]⟩) (J.cons (.none rfl) (JO.move rfl) rfl rfl (J.cons (.none rfl) (JO.fieldPtr 1 rfl Try.runUnderlying38 rfl Try.sizeOf36 rfl rfl) rfl rfl (J.cons (.none rfl) (JO.load rfl rfl rfl Try.isAgg36 Try.sizeOf36) rfl rfl (J.cons (.none rfl) (JO.len rfl Try.runUnderlying36) rfl rfl (J.cons (.none rfl) (JO.cmp rfl rfl rfl) rfl rfl (J.fin (Sw.Sub.mk id (.cons rfl (.of_eq rfl) (.cons rfl (.of_eq rfl) (.cons rfl (.of_eq rfl) .nil))) (.box rfl (.cons (.of_eq rfl) (.cons (.of_eq rfl) (.cons (.of_eq rfl) .nil))) .nil) rfl))))))) ?_
      rcases Bool.eq_false_or_eq_true (cm .lss s29 (a0.2.1.length : Int)) with hc41 | hc41
      · replace h := cond_t hc41 h
        refine W.condT rfl hc41 ?_
        refine W.skip ?_
        refine W.seq ?_
        refine W.block ?_
        refine W.seq ?_
        obtain ⟨x45, hx, h⟩ := bind_e h
        refine W.reg (σ' := ⟨[(1, .ptr 101 0), (3, .v (Enc.int .i64) s29), (42, .v Enc.bool x45)], [(101, .box 38 [.v (Enc.int .i64) a0.1, .v (Enc.sl (Enc.int .i64)) a0.2.1, .v (Enc.sl eBlk) a0.2.2])]⟩) ?_ ?_
        · obtain ⟨z46, hz46, hx⟩ := bind_e hx
          rcases Bool.eq_false_or_eq_true (cm .lss z46 (0 : Int)) with hc47 | hc47
          · replace hx := cond_t hc47 hx
            obtain rfl := Option.some.inj hx
            exact (J.cons (.none rfl) (JO.fieldPtr 1 rfl Try.runUnderlying38 rfl Try.sizeOf36 rfl rfl) rfl rfl (J.cons (.none rfl) (JO.load rfl rfl rfl Try.isAgg36 Try.sizeOf36) rfl rfl (J.cons (.none rfl) (JO.move rfl) rfl rfl (J.cons (.none rfl) (JO.idx hz46 rfl rfl Try.runUnderlying36 Try.sizeOf3) rfl rfl (J.cons (.none rfl) (JO.loadPst rfl Try.isAgg3 Try.sizeOf3) rfl rfl (J.cons (.none rfl) (JO.cmp rfl rfl rfl) rfl rfl (J.cons (.none rfl) (JO.move rfl) rfl rfl (J.left (GK.unmet 35 rfl rfl rfl hc47) rfl (J.left (GK.unmet 35 rfl rfl rfl hc47) rfl (J.left (GK.unmet 35 rfl rfl rfl hc47) rfl (J.left (GK.unmet 35 rfl rfl rfl hc47) rfl (J.left (GK.unmet 35 rfl rfl rfl hc47) rfl (J.left (GK.unmet 35 rfl rfl rfl hc47) rfl (J.cons (.none rfl) (JO.pT hc47 rfl rfl) rfl rfl (J.fin (Sw.Sub.mk id (.cons rfl (.of_eq rfl) (.cons rfl (.of_eq rfl) (.cons rfl (.of_eq rfl) .nil))) (.box rfl (.cons (.of_eq rfl) (.cons (.of_eq rfl) (.cons (.of_eq rfl) .nil))) .nil) rfl))))))))))))))))
          · replace hx := cond_f hc47 hx
            obtain ⟨z48, hz48, hx⟩ := bind_e hx
            obtain rfl := Option.some.inj hx
            exact (J.cons (.none rfl) (JO.fieldPtr 1 rfl Try.runUnderlying38 rfl Try.sizeOf36 rfl rfl) rfl rfl (J.cons (.none rfl) (JO.load rfl rfl rfl Try.isAgg36 Try.sizeOf36) rfl rfl (J.cons (.none rfl) (JO.move rfl) rfl rfl (J.cons (.none rfl) (JO.idx hz46 rfl rfl Try.runUnderlying36 Try.sizeOf3) rfl rfl (J.cons (.none rfl) (JO.loadPst rfl Try.isAgg3 Try.sizeOf3) rfl rfl (J.cons (.none rfl) (JO.cmp rfl rfl rfl) rfl rfl (J.cons (.none rfl) (JO.move rfl) rfl rfl (J.cons (GK.met 35 rfl rfl rfl hc47) (JO.fieldPtr 1 rfl Try.runUnderlying38 rfl Try.sizeOf36 rfl rfl) rfl rfl (J.cons (GK.met 35 rfl rfl rfl hc47) (JO.load rfl rfl rfl Try.isAgg36 Try.sizeOf36) rfl rfl (J.cons (GK.met 35 rfl rfl rfl hc47) (JO.move rfl) rfl rfl (J.cons (GK.met 35 rfl rfl rfl hc47) (JO.idx hz48 rfl rfl Try.runUnderlying36 Try.sizeOf3) rfl rfl (J.cons (GK.met 35 rfl rfl rfl hc47) (JO.loadPst rfl Try.isAgg3 Try.sizeOf3) rfl rfl (J.cons (GK.met 35 rfl rfl rfl hc47) (JO.cmp rfl rfl rfl) rfl rfl (J.cons (.none rfl) (JO.pF hc47 rfl rfl) rfl rfl (J.fin (Sw.Sub.mk id (.cons rfl (.of_eq rfl) (.cons rfl (.of_eq rfl) (.cons rfl (.of_eq rfl) .nil))) (.box rfl (.cons (.of_eq rfl) (.cons (.of_eq rfl) (.cons (.of_eq rfl) .nil))) .nil) rfl))))))))))))))))
        rcases Bool.eq_false_or_eq_true x45 with hc49 | hc49
        · replace h := cond_t hc49 h
          refine W.condT rfl hc49 ?_
          refine W.seq ?_
          refine W.reg (σ' := ⟨[(2, .v (Enc.int .i64) (1 : Int))], []⟩) (J.cons (.none rfl) (JO.assign rfl) rfl rfl (J.fin (Sw.Sub.mk id (.cons rfl (.of_eq rfl) .nil) .nil rfl))) ?_
          refine W.ret ?_
          refine XQ.ret ?_
          obtain rfl := Option.some.inj h
          refine XQ.lret fun ho => ?_
          obtain rfl := hr39 _ ho
          exact XQ.sub (σ' := ⟨[(2, .v (Enc.int .i64) (1 : Int))], []⟩) (Sw.Sub.mk id (.cons rfl (.of_eq rfl) .nil) .nil rfl) (XQ.ret1 noR rfl (RV.tmp rfl) .nil rfl)
        · replace h := cond_f hc49 h
          refine W.condF rfl hc49 ?_
          refine W.skip ?_
          refine W.fall ?_
          refine W.reg (σ' := ⟨[(1, .ptr 101 0), (3, .v (Enc.int .i64) (ar .add .i64 s29 (1 : Int)))], [(101, .box 38 [.v (Enc.int .i64) a0.1, .v (Enc.sl (Enc.int .i64)) a0.2.1, .v (Enc.sl eBlk) a0.2.2])]⟩) (J.cons (.none rfl) (JO.move rfl) rfl rfl (J.cons (.none rfl) (JO.arith rfl rfl rfl) rfl rfl (J.cons (.none rfl) (JO.assign rfl) rfl rfl (J.fin (Sw.Sub.mk id (.cons rfl (.of_eq rfl) (.cons rfl (.of_eq rfl) .nil)) (.box rfl (.cons (.of_eq rfl) (.cons (.of_eq rfl) (.cons (.of_eq rfl) .nil))) .nil) rfl))))) ?_
          obtain rfl := Option.some.inj h
          exact W.next (Sw.Sub.mk id (.cons rfl (.of_eq rfl) (.cons rfl (.of_eq rfl) .nil)) (.box rfl (.cons (.of_eq rfl) (.cons (.of_eq rfl) (.cons (.of_eq rfl) .nil))) .nil) rfl)
      · replace h := cond_f hc41 h
        refine W.condF rfl hc41 ?_
        refine W.exit ?_
        obtain rfl := Option.some.inj h
        exact XQ.brk (Sw.Sub.mk id .nil .nil rfl)
set_option maxRecDepth 100000 in
set_option maxHeartbeats 4000000 in
theorem con_ref_mixed {a0 : Int} {r : Int} (h : m_ref_mixed a0 = some r) :
    Con Try.prog 75 [.v (Enc.int .i64) a0] (.v (Enc.int .i64) r) [] := by
  refine Con.of Try.func75 rfl Try.ntmps75 rfl ?_
  intro S w
  unfold m_ref_mixed at h
  refine W.seq ?_
  refine W.reg (σ' := ⟨[(0, .v (Enc.int .i64) a0)], []⟩) (J.cons (.none rfl) (JO.assign rfl) rfl rfl (J.fin (Sw.Sub.mk id (.cons rfl (.of_eq rfl) .nil) .nil rfl))) ?_
  refine W.seq ?_
  refine W.reg (σ' := ⟨[(0, .v (Enc.int .i64) a0), (3, .v (Enc.int .i64) (3988292384 : Int))], []⟩) (J.cons (.none rfl) (JO.assign rfl) rfl rfl (J.fin (Sw.Sub.mk id (.cons rfl (.of_eq rfl) (.cons rfl (.of_eq rfl) .nil)) .nil rfl))) ?_
  refine W.seq ?_
  refine W.reg (σ' := ⟨[(0, .v (Enc.int .i64) a0), (3, .v (Enc.int .i64) (3988292384 : Int)), (4, .v (Enc.int .i64) (0 : Int))], []⟩) (J.cons (.none rfl) (JO.assign rfl) rfl rfl (J.fin (Sw.Sub.mk id (.cons rfl (.of_eq rfl) (.cons rfl (.of_eq rfl) (.cons rfl (.of_eq rfl) .nil))) .nil rfl))) ?_
  refine W.seq ?_
  refine W.seq ?_
  refine W.reg (σ' := ⟨[(0, .v (Enc.int .i64) a0), (3, .v (Enc.int .i64) (3988292384 : Int)), (4, .v (Enc.int .i64) (0 : Int)), (5, .v (Enc.int .i64) (1 : Int))], []⟩) (J.cons (.none rfl) (JO.assign rfl) rfl rfl (J.fin (Sw.Sub.mk id (.cons rfl (.of_eq rfl) (.cons rfl (.of_eq rfl) (.cons rfl (.of_eq rfl) (.cons rfl (.of_eq rfl) .nil)))) .nil rfl))) ?_
  obtain ⟨o14, ho14, hb14, hr14⟩ := lp_elim h
  refine W.lp (σs := fun s9 : Int × Int => ⟨[(0, .v (Enc.int .i64) a0), (3, .v (Enc.int .i64) (3988292384 : Int)), (4, .v (Enc.int .i64) s9.1), (5, .v (Enc.int .i64) s9.2)], []⟩) (fun x15 : Int => ⟨[(4, .v (Enc.int .i64) x15)], []⟩) ho14 (Sw.Sub.mk id (.cons rfl (.of_eq rfl) (.cons rfl (.of_eq rfl) (.cons rfl (.of_eq rfl) (.cons rfl (.of_eq rfl) .nil)))) .nil rfl) ?_ ?_
  · intro x15 hy
    have h := hb14 _ hy
    refine W.seq ?_
    refine W.reg (σ' := ⟨[(2, .v (Enc.int .i64) x15)], []⟩) (J.cons (.none rfl) (JO.move rfl) rfl rfl (J.cons (.none rfl) (JO.assign rfl) rfl rfl (J.fin (Sw.Sub.mk id (.cons rfl (.of_eq rfl) .nil) .nil rfl)))) ?_
    refine W.ret ?_
    obtain rfl := Option.some.inj h
    exact XQ.sub (σ' := ⟨[(2, .v (Enc.int .i64) x15)], []⟩) (Sw.Sub.mk id (.cons rfl (.of_eq rfl) .nil) .nil rfl) (XQ.ret1 noR rfl (RV.tmp rfl) .nil rfl)
  intro s9 r14 h
  refine W.seq ?_
  refine W.seq ?_
  refine W.reg (σ' := ⟨[(0, .v (Enc.int .i64) a0), (3, .v (Enc.int .i64) (3988292384 : Int)), (4, .v (Enc.int .i64) s9.1), (5, .v (Enc.int .i64) s9.2), (7, .v Enc.bool (cm .lss s9.2 (4294967296 : Int)))], []⟩) (J.cons (.none rfl) (JO.move rfl) rfl rfl (J.cons (.none rfl) (JO.cmp rfl rfl rfl) rfl rfl (J.fin (Sw.Sub.mk id (.cons rfl (.of_eq rfl) (.cons rfl (.of_eq rfl) (.cons rfl (.of_eq rfl) (.cons rfl (.of_eq rfl) (.cons rfl (.of_eq rfl) .nil))))) .nil rfl)))) ?_
  rcases Bool.eq_false_or_eq_true (cm .lss s9.2 (4294967296 : Int)) with hc16 | hc16
  · replace h := cond_t hc16 h
    refine W.condT rfl hc16 ?_
    refine W.skip ?_
    refine W.seq ?_
    refine W.block ?_
    refine W.seq ?_
    obtain ⟨u17, hu17, h⟩ := bind_e h
    obtain ⟨u18, hu18, h⟩ := bind_e h
    refine W.draw (σ' := ⟨[(0, .v (Enc.int .i64) a0), (3, .v (Enc.int .i64) (3988292384 : Int)), (4, .v (Enc.int .i64) s9.1), (5, .v (Enc.int .i64) s9.2), (18, .v Enc.bool (cm .neq (ar .rem .i64 (ar .quo .i64 a0 s9.2) (2 : Int)) (ar .rem .i64 (ar .quo .i64 (3988292384 : Int) s9.2) (2 : Int))))], []⟩) (n := 9) mixed rfl rfl (by decide +kernel) (by decide +kernel) (.cons (.none rfl) (JO.move rfl) rfl (.cons (.none rfl) (JO.move rfl) rfl (.cons (.none rfl) (JO.div (.inl rfl) (nz_some hu17) rfl rfl) rfl (.cons (.none rfl) (JO.div (.inr rfl) (by decide) rfl rfl) rfl (.cons (.none rfl) (JO.move rfl) rfl (.cons (.none rfl) (JO.move rfl) rfl (.cons (.none rfl) (JO.div (.inl rfl) (nz_some hu18) rfl rfl) rfl (.cons (.none rfl) (JO.div (.inr rfl) (by decide) rfl rfl) rfl (.cons (.none rfl) (JO.cmp rfl rfl rfl) rfl .nil))))))))) (J.fin (Sw.Sub.mk id (.cons rfl (.of_eq rfl) (.cons rfl (.of_eq rfl) (.cons rfl (.of_eq rfl) (.cons rfl (.of_eq rfl) (.cons rfl (.of_eq rfl) .nil))))) .nil rfl)) ?_
    rcases Bool.eq_false_or_eq_true (cm .neq (ar .rem .i64 (ar .quo .i64 a0 s9.2) (2 : Int)) (ar .rem .i64 (ar .quo .i64 (3988292384 : Int) s9.2) (2 : Int))) with hc19 | hc19
    · replace h := cond_t hc19 h
      refine W.condT rfl hc19 ?_
      refine W.reg (σ' := ⟨[(0, .v (Enc.int .i64) a0), (3, .v (Enc.int .i64) (3988292384 : Int)), (4, .v (Enc.int .i64) (ar .add .i64 s9.1 s9.2)), (5, .v (Enc.int .i64) s9.2)], []⟩) (J.cons (.none rfl) (JO.move rfl) rfl rfl (J.cons (.none rfl) (JO.move rfl) rfl rfl (J.cons (.none rfl) (JO.arith rfl rfl rfl) rfl rfl (J.cons (.none rfl) (JO.assign rfl) rfl rfl (J.fin (Sw.Sub.mk id (.cons rfl (.of_eq rfl) (.cons rfl (.of_eq rfl) (.cons rfl (.of_eq rfl) (.cons rfl (.of_eq rfl) .nil)))) .nil rfl)))))) ?_
      refine W.fall ?_
      refine W.reg (σ' := ⟨[(0, .v (Enc.int .i64) a0), (3, .v (Enc.int .i64) (3988292384 : Int)), (4, .v (Enc.int .i64) (ar .add .i64 s9.1 s9.2)), (5, .v (Enc.int .i64) (ar .mul .i64 s9.2 (2 : Int)))], []⟩) (J.cons (.none rfl) (JO.move rfl) rfl rfl (J.cons (.none rfl) (JO.arith rfl rfl rfl) rfl rfl (J.cons (.none rfl) (JO.assign rfl) rfl rfl (J.fin (Sw.Sub.mk id (.cons rfl (.of_eq rfl) (.cons rfl (.of_eq rfl) (.cons rfl (.of_eq rfl) (.cons rfl (.of_eq rfl) .nil)))) .nil rfl))))) ?_
      obtain rfl := Option.some.inj h
      exact W.next (Sw.Sub.mk id (.cons rfl (.of_eq rfl) (.cons rfl (.of_eq rfl) (.cons rfl (.of_eq rfl) (.cons rfl (.of_eq rfl) .nil)))) .nil rfl)
    · replace h := cond_f hc19 h
      refine W.condF rfl hc19 ?_
      refine W.skip ?_
      refine W.fall ?_
      refine W.reg (σ' := ⟨[(0, .v (Enc.int .i64) a0), (3, .v (Enc.int .i64) (3988292384 : Int)), (4, .v (Enc.int .i64) s9.1), (5, .v (Enc.int .i64) (ar .mul .i64 s9.2 (2 : Int)))], []⟩) (J.cons (.none rfl) (JO.move rfl) rfl rfl (J.cons (.none rfl) (JO.arith rfl rfl rfl) rfl rfl (J.cons (.none rfl) (JO.assign rfl) rfl rfl (J.fin (Sw.Sub.mk id (.cons rfl (.of_eq rfl) (.cons rfl (.of_eq rfl) (.cons rfl (.of_eq rfl) (.cons rfl (.of_eq rfl) .nil)))) .nil rfl))))) ?_
      obtain rfl := Option.some.inj h
      exact W.next (Sw.Sub.mk id (.cons rfl (.of_eq rfl) (.cons rfl (.of_eq rfl) (.cons rfl (.of_eq rfl) (.cons rfl (.of_eq rfl) .nil)))) .nil rfl)
  · replace h := cond_f hc16 h
    refine W.condF rfl hc16 ?_
    refine W.exit ?_
    obtain rfl := Option.some.inj h
    exact XQ.brk (Sw.Sub.mk id (.cons rfl (.of_eq rfl) .nil) .nil rfl)
set_option maxRecDepth 100000 in
set_option maxHeartbeats 4000000 in
theorem con_ref_SumOf {a0 : (List Int)} {r : Int} (h : m_ref_SumOf a0 = some r) :
    Con Try.prog 34 [.v (Enc.sl (Enc.int .u8)) a0] (.v (Enc.int .u32) r) [] := by
  refine Con.of Try.func34 rfl Try.ntmps34 rfl ?_
  intro S w
  unfold m_ref_SumOf at h
  refine W.seq ?_
  refine W.reg (σ' := ⟨[(0, .v (Enc.sl (Enc.int .u8)) a0)], []⟩) (J.cons (.none rfl) (JO.assign rfl) rfl rfl (J.fin (Sw.Sub.mk id (.cons rfl (.of_eq rfl) .nil) .nil rfl))) ?_
  refine W.seq ?_
  refine W.reg (σ' := ⟨[(0, .v (Enc.sl (Enc.int .u8)) a0), (3, .v (Enc.int .i64) (4294967295 : Int))], []⟩) (J.cons (.none rfl) (JO.assign rfl) rfl rfl (J.fin (Sw.Sub.mk id (.cons rfl (.of_eq rfl) (.cons rfl (.of_eq rfl) .nil)) .nil rfl))) ?_
  refine W.seq ?_
  refine W.seq ?_
  refine W.reg (σ' := ⟨[(0, .v (Enc.sl (Enc.int .u8)) a0), (3, .v (Enc.int .i64) (4294967295 : Int)), (4, .v (Enc.int .i64) (0 : Int))], []⟩) (J.cons (.none rfl) (JO.assign rfl) rfl rfl (J.fin (Sw.Sub.mk id (.cons rfl (.of_eq rfl) (.cons rfl (.of_eq rfl) (.cons rfl (.of_eq rfl) .nil))) .nil rfl))) ?_
  obtain ⟨o79, ho79, hb79, hr79⟩ := lp_elim h
  refine W.lp (σs := fun s53 : Int × Int => ⟨[(0, .v (Enc.sl (Enc.int .u8)) a0), (3, .v (Enc.int .i64) s53.1), (4, .v (Enc.int .i64) s53.2)], []⟩) (fun x80 : Int => ⟨[(3, .v (Enc.int .i64) x80)], []⟩) ho79 (Sw.Sub.mk id (.cons rfl (.of_eq rfl) (.cons rfl (.of_eq rfl) (.cons rfl (.of_eq rfl) .nil))) .nil rfl) ?_ ?_
  · intro x80 hy
    have h := hb79 _ hy
    refine W.seq ?_
    refine W.reg (σ' := ⟨[(2, .v (Enc.int .u32) (IntKind.wrap .u32 (ar .sub .i64 (4294967295 : Int) x80)))], []⟩) (J.cons (.none rfl) (JO.move rfl) rfl rfl (J.cons (.none rfl) (JO.arith rfl rfl rfl) rfl rfl (J.cons (.none rfl) (JO.conv Try.runUnderlying3 Try.runUnderlying61 rfl) rfl rfl (J.cons (.none rfl) (JO.assign rfl) rfl rfl (J.fin (Sw.Sub.mk id (.cons rfl (.of_eq rfl) .nil) .nil rfl)))))) ?_
    refine W.ret ?_
    obtain rfl := Option.some.inj h
    exact XQ.sub (σ' := ⟨[(2, .v (Enc.int .u32) (IntKind.wrap .u32 (ar .sub .i64 (4294967295 : Int) x80)))], []⟩) (Sw.Sub.mk id (.cons rfl (.of_eq rfl) .nil) .nil rfl) (XQ.ret1 noR rfl (RV.tmp rfl) .nil rfl)
  intro s53 r79 h
  refine W.seq ?_
  refine W.seq ?_
  refine W.reg (σ' := ⟨[(0, .v (Enc.sl (Enc.int .u8)) a0), (3, .v (Enc.int .i64) s53.1), (4, .v (Enc.int .i64) s53.2), (10, .v Enc.bool (cm .lss s53.2 (a0.length : Int)))], []⟩) (J.cons (.none rfl) (JO.move rfl) rfl rfl (J.cons (.none rfl) (JO.move rfl) rfl rfl (J.cons (.none rfl) (JO.len rfl Try.runUnderlying40) rfl rfl (J.cons (.none rfl) (JO.cmp rfl rfl rfl) rfl rfl (J.fin (Sw.Sub.mk id (.cons rfl (.of_eq rfl) (.cons rfl (.of_eq rfl) (.cons rfl (.of_eq rfl) (.cons rfl (.of_eq rfl) .nil)))) .nil rfl)))))) ?_
  rcases Bool.eq_false_or_eq_true (cm .lss s53.2 (a0.length : Int)) with hc81 | hc81
  · replace h := cond_t hc81 h
    refine W.condT rfl hc81 ?_
    refine W.skip ?_
    refine W.seq ?_
    refine W.block ?_
    refine W.seq ?_
    refine W.reg (σ' := ⟨[(0, .v (Enc.sl (Enc.int .u8)) a0), (3, .v (Enc.int .i64) s53.1), (4, .v (Enc.int .i64) s53.2), (5, .v (Enc.int .i64) (1 : Int))], []⟩) (J.cons (.none rfl) (JO.assign rfl) rfl rfl (J.fin (Sw.Sub.mk id (.cons rfl (.of_eq rfl) (.cons rfl (.of_eq rfl) (.cons rfl (.of_eq rfl) (.cons rfl (.of_eq rfl) .nil)))) .nil rfl))) ?_
    obtain ⟨o99, ho99, hb99, hr99⟩ := lp_elim h
    refine W.lp (σs := fun s93 : Int × Int => ⟨[(0, .v (Enc.sl (Enc.int .u8)) a0), (3, .v (Enc.int .i64) s93.1), (4, .v (Enc.int .i64) s53.2), (5, .v (Enc.int .i64) s93.2)], []⟩) (fun x100 : Int => ⟨[(0, .v (Enc.sl (Enc.int .u8)) a0), (3, .v (Enc.int .i64) x100), (4, .v (Enc.int .i64) s53.2)], []⟩) ho99 (Sw.Sub.mk id (.cons rfl (.of_eq rfl) (.cons rfl (.of_eq rfl) (.cons rfl (.of_eq rfl) (.cons rfl (.of_eq rfl) .nil)))) .nil rfl) ?_ ?_
    · intro x100 hy
      have h := hb99 _ hy
      refine W.fall ?_
      refine W.reg (σ' := ⟨[(0, .v (Enc.sl (Enc.int .u8)) a0), (3, .v (Enc.int .i64) x100), (4, .v (Enc.int .i64) (ar .add .i64 s53.2 (1 : Int)))], []⟩) (J.cons (.none rfl) (JO.move rfl) rfl rfl (J.cons (.none rfl) (JO.arith rfl rfl rfl) rfl rfl (J.cons (.none rfl) (JO.assign rfl) rfl rfl (J.fin (Sw.Sub.mk id (.cons rfl (.of_eq rfl) (.cons rfl (.of_eq rfl) (.cons rfl (.of_eq rfl) .nil))) .nil rfl))))) ?_
      obtain rfl := Option.some.inj h
      exact W.next (Sw.Sub.mk id (.cons rfl (.of_eq rfl) (.cons rfl (.of_eq rfl) (.cons rfl (.of_eq rfl) .nil))) .nil rfl)
    intro s93 r99 h
    refine W.seq ?_
    refine W.seq ?_
    refine W.reg (σ' := ⟨[(0, .v (Enc.sl (Enc.int .u8)) a0), (3, .v (Enc.int .i64) s93.1), (4, .v (Enc.int .i64) s53.2), (5, .v (Enc.int .i64) s93.2), (14, .v Enc.bool (cm .lss s93.2 (256 : Int)))], []⟩) (J.cons (.none rfl) (JO.move rfl) rfl rfl (J.cons (.none rfl) (JO.cmp rfl rfl rfl) rfl rfl (J.fin (Sw.Sub.mk id (.cons rfl (.of_eq rfl) (.cons rfl (.of_eq rfl) (.cons rfl (.of_eq rfl) (.cons rfl (.of_eq rfl) (.cons rfl (.of_eq rfl) .nil))))) .nil rfl)))) ?_
    rcases Bool.eq_false_or_eq_true (cm .lss s93.2 (256 : Int)) with hc101 | hc101
    · replace h := cond_t hc101 h
      refine W.condT rfl hc101 ?_
      refine W.skip ?_
      refine W.seq ?_
      refine W.block ?_
      refine W.seq ?_
      obtain ⟨z102, hz102, h⟩ := bind_e h
      obtain ⟨u103, hu103, h⟩ := bind_e h
      refine W.reg (σ' := ⟨[(0, .v (Enc.sl (Enc.int .u8)) a0), (3, .v (Enc.int .i64) s93.1), (4, .v (Enc.int .i64) s53.2), (5, .v (Enc.int .i64) s93.2), (6, .v Enc.bool (cm .eql (ar .rem .i64 (ar .add .i64 s93.1 (ar .quo .i64 z102 s93.2)) (2 : Int)) (1 : Int)))], []⟩) (J.cons (.none rfl) (JO.move rfl) rfl rfl (J.cons (.none rfl) (JO.move rfl) rfl rfl (J.cons (.none rfl) (JO.move rfl) rfl rfl (J.cons (.none rfl) (JO.idx hz102 rfl rfl Try.runUnderlying40 Try.sizeOf5) rfl rfl (J.cons (.none rfl) (JO.loadPst rfl Try.isAgg5 Try.sizeOf5) rfl rfl (J.cons (.none rfl) (JO.convUp Try.runUnderlying5 Try.runUnderlying3 rfl rfl) rfl rfl (J.cons (.none rfl) (JO.move rfl) rfl rfl (J.cons (.none rfl) (JO.div (.inl rfl) (nz_some hu103) rfl rfl) rfl rfl (J.cons (.none rfl) (JO.arith rfl rfl rfl) rfl rfl (J.cons (.none rfl) (JO.div (.inr rfl) (by decide) rfl rfl) rfl rfl (J.cons (.none rfl) (JO.cmp rfl rfl rfl) rfl rfl (J.cons (.none rfl) (JO.assign rfl) rfl rfl (J.fin (Sw.Sub.mk id (.cons rfl (.of_eq rfl) (.cons rfl (.of_eq rfl) (.cons rfl (.of_eq rfl) (.cons rfl (.of_eq rfl) (.cons rfl (.of_eq rfl) .nil))))) .nil rfl)))))))))))))) ?_
      refine W.seq ?_
      refine W.reg (σ' := ⟨[(0, .v (Enc.sl (Enc.int .u8)) a0), (3, .v (Enc.int .i64) (ar .quo .i64 s93.1 (2 : Int))), (4, .v (Enc.int .i64) s53.2), (5, .v (Enc.int .i64) s93.2), (6, .v Enc.bool (cm .eql (ar .rem .i64 (ar .add .i64 s93.1 (ar .quo .i64 z102 s93.2)) (2 : Int)) (1 : Int)))], []⟩) (J.cons (.none rfl) (JO.move rfl) rfl rfl (J.cons (.none rfl) (JO.div (.inl rfl) (by decide) rfl rfl) rfl rfl (J.cons (.none rfl) (JO.assign rfl) rfl rfl (J.fin (Sw.Sub.mk id (.cons rfl (.of_eq rfl) (.cons rfl (.of_eq rfl) (.cons rfl (.of_eq rfl) (.cons rfl (.of_eq rfl) (.cons rfl (.of_eq rfl) .nil))))) .nil rfl))))) ?_
      refine W.seq ?_
      refine W.reg (σ' := ⟨[(0, .v (Enc.sl (Enc.int .u8)) a0), (3, .v (Enc.int .i64) (ar .quo .i64 s93.1 (2 : Int))), (4, .v (Enc.int .i64) s53.2), (5, .v (Enc.int .i64) s93.2), (30, .v Enc.bool (cm .eql (ar .rem .i64 (ar .add .i64 s93.1 (ar .quo .i64 z102 s93.2)) (2 : Int)) (1 : Int)))], []⟩) (J.cons (.none rfl) (JO.move rfl) rfl rfl (J.fin (Sw.Sub.mk id (.cons rfl (.of_eq rfl) (.cons rfl (.of_eq rfl) (.cons rfl (.of_eq rfl) (.cons rfl (.of_eq rfl) (.cons rfl (.of_eq rfl) .nil))))) .nil rfl))) ?_
      rcases Bool.eq_false_or_eq_true (cm .eql (ar .rem .i64 (ar .add .i64 s93.1 (ar .quo .i64 z102 s93.2)) (2 : Int)) (1 : Int)) with hc104 | hc104
      · replace h := cond_t hc104 h
        refine W.condT rfl hc104 ?_
        obtain ⟨v105, hv105, h⟩ := bind_e h
        refine W.reg (σ' := ⟨[(0, .v (Enc.sl (Enc.int .u8)) a0), (3, .v (Enc.int .i64) v105), (4, .v (Enc.int .i64) s53.2), (5, .v (Enc.int .i64) s93.2)], []⟩) (J.cons (.none rfl) (JO.move rfl) rfl rfl (J.cons (.none rfl) (JO.call0 (con_ref_mixed hv105) Try.call75 (.cons (.dir rfl) .nil)) rfl rfl (J.cons (.none rfl) (JO.assign rfl) rfl rfl (J.fin (Sw.Sub.mk id (.cons rfl (.of_eq rfl) (.cons rfl (.of_eq rfl) (.cons rfl (.of_eq rfl) (.cons rfl (.of_eq rfl) .nil)))) .nil rfl))))) ?_
        refine W.fall ?_
        refine W.reg (σ' := ⟨[(0, .v (Enc.sl (Enc.int .u8)) a0), (3, .v (Enc.int .i64) v105), (4, .v (Enc.int .i64) s53.2), (5, .v (Enc.int .i64) (ar .mul .i64 s93.2 (2 : Int)))], []⟩) (J.cons (.none rfl) (JO.move rfl) rfl rfl (J.cons (.none rfl) (JO.arith rfl rfl rfl) rfl rfl (J.cons (.none rfl) (JO.assign rfl) rfl rfl (J.fin (Sw.Sub.mk id (.cons rfl (.of_eq rfl) (.cons rfl (.of_eq rfl) (.cons rfl (.of_eq rfl) (.cons rfl (.of_eq rfl) .nil)))) .nil rfl))))) ?_
        obtain rfl := Option.some.inj h
        exact W.next (Sw.Sub.mk id (.cons rfl (.of_eq rfl) (.cons rfl (.of_eq rfl) (.cons rfl (.of_eq rfl) (.cons rfl (.of_eq rfl) .nil)))) .nil rfl)
      · replace h := cond_f hc104 h
        refine W.condF rfl hc104 ?_
        refine W.skip ?_
        refine W.fall ?_
        refine W.reg (σ' := ⟨[(0, .v (Enc.sl (Enc.int .u8)) a0), (3, .v (Enc.int .i64) (ar .quo .i64 s93.1 (2 : Int))), (4, .v (Enc.int .i64) s53.2), (5, .v (Enc.int .i64) (ar .mul .i64 s93.2 (2 : Int)))], []⟩) (J.cons (.none rfl) (JO.move rfl) rfl rfl (J.cons (.none rfl) (JO.arith rfl rfl rfl) rfl rfl (J.cons (.none rfl) (JO.assign rfl) rfl rfl (J.fin (Sw.Sub.mk id (.cons rfl (.of_eq rfl) (.cons rfl (.of_eq rfl) (.cons rfl (.of_eq rfl) (.cons rfl (.of_eq rfl) .nil)))) .nil rfl))))) ?_
        obtain rfl := Option.some.inj h
        exact W.next (Sw.Sub.mk id (.cons rfl (.of_eq rfl) (.cons rfl (.of_eq rfl) (.cons rfl (.of_eq rfl) (.cons rfl (.of_eq rfl) .nil)))) .nil rfl)
    · replace h := cond_f hc101 h
      refine W.condF rfl hc101 ?_
      refine W.exit ?_
      obtain rfl := Option.some.inj h
      exact XQ.brk (Sw.Sub.mk id (.cons rfl (.of_eq rfl) (.cons rfl (.of_eq rfl) (.cons rfl (.of_eq rfl) .nil))) .nil rfl)
  · replace h := cond_f hc81 h
    refine W.condF rfl hc81 ?_
    refine W.exit ?_
    obtain rfl := Option.some.inj h
    exact XQ.brk (Sw.Sub.mk id (.cons rfl (.of_eq rfl) .nil) .nil rfl)
set_option maxRecDepth 100000 in
set_option maxHeartbeats 4000000 in
theorem con_ref_Packed {a0 : (Int × (List Int) × (List Blk))} {r : (List Int)} (h : m_ref_Packed a0 = some r) :
    Con Try.prog 22 [.v (Enc.pr (Enc.int .i64) (Enc.pr (Enc.sl (Enc.int .i64)) (Enc.sl eBlk))) a0] (.ref 0) [(0, .arr 5 (Enc.int .u8) r)] := by
  refine Con.of Try.func22 rfl Try.ntmps22 rfl ?_
  intro S w
  unfold m_ref_Packed at h
  refine W.seq ?_
  refine W.reg (σ' := ⟨[(1, .ptr 101 0)], [(101, .box 38 [.v (Enc.int .i64) a0.1, .v (Enc.sl (Enc.int .i64)) a0.2.1, .v (Enc.sl eBlk) a0.2.2])]⟩) (J.cons (.none rfl) (JO.box 101 rfl (.prm (.one _ _) (.prm (.one _ _) (.one _ _))) rfl) rfl rfl (J.cons (.none rfl) (JO.assignNilR 102 5 (Enc.int .u8)) rfl rfl (J.fin (Sw.Sub.mk id (.cons rfl (.of_eq rfl) .nil) (.box rfl (.cons (.of_eq rfl) (.cons (.of_eq rfl) (.cons (.of_eq rfl) .nil))) .nil) rfl)))) ?_
  refine W.seq ?_
  refine W.reg (σ' := ⟨[(1, .ptr 101 0), (3, .ref 103)], [(101, .box 38 [.v (Enc.int .i64) a0.1, .v (Enc.sl (Enc.int .i64)) a0.2.1, .v (Enc.sl eBlk) a0.2.2]), (103, .arr 5 (Enc.int .u8) ([(IntKind.wrap .u8 (ar .add .i64 (ar .mul .i64 (16 : Int) a0.1) (a0.2.1.length : Int))), (IntKind.wrap .u8 (a0.2.2.length : Int))] : (List Int)))]⟩) (J.cons (.none rfl) (JO.fieldPtr 0 rfl Try.runUnderlying38 rfl Try.sizeOf3 rfl rfl) rfl rfl (J.cons (.none rfl) (JO.load rfl rfl rfl Try.isAgg3 Try.sizeOf3) rfl rfl (J.cons (.none rfl) (JO.arith rfl rfl rfl) rfl rfl (J.cons (.none rfl) (JO.fieldPtr 1 rfl Try.runUnderlying38 rfl Try.sizeOf36 rfl rfl) rfl rfl (J.cons (.none rfl) (JO.load rfl rfl rfl Try.isAgg36 Try.sizeOf36) rfl rfl (J.cons (.none rfl) (JO.len rfl Try.runUnderlying36) rfl rfl (J.cons (.none rfl) (JO.arith rfl rfl rfl) rfl rfl (J.cons (.none rfl) (JO.conv Try.runUnderlying3 Try.runUnderlying5 rfl) rfl rfl (J.cons (.none rfl) (JO.fieldPtr 2 rfl Try.runUnderlying38 rfl Try.sizeOf22 rfl rfl) rfl rfl (J.cons (.none rfl) (JO.load rfl rfl rfl Try.isAgg22 Try.sizeOf22) rfl rfl (J.cons (.none rfl) (JO.len rfl Try.runUnderlying22) rfl rfl (J.cons (.none rfl) (JO.conv Try.runUnderlying3 Try.runUnderlying5 rfl) rfl rfl (J.cons (.none rfl) (JO.litR (e := (Enc.int .u8)) 103 Try.runUnderlying40 Try.sizeOf5 Try.zeroValue5 rfl rfl rfl rfl (.cons (.dir rfl) (.cons (.dir rfl) .nil))) rfl rfl (J.cons (.none rfl) (JO.assign rfl) rfl rfl (J.fin (Sw.Sub.mk id (.cons rfl (.of_eq rfl) (.cons rfl (.of_eq rfl) .nil)) (.box rfl (.cons (.of_eq rfl) (.cons (.of_eq rfl) (.cons (.of_eq rfl) .nil))) (.arr rfl .nil)) rfl)))))))))))))))) ?_
  refine W.seq ?_
  refine W.seq ?_
  refine W.reg (σ' := ⟨[(1, .ptr 101 0), (3, .ref 103), (4, .v (Enc.int .i64) (0 : Int))], [(101, .box 38 [.v (Enc.int .i64) a0.1, .v (Enc.sl (Enc.int .i64)) a0.2.1, .v (Enc.sl eBlk) a0.2.2]), (103, .arr 5 (Enc.int .u8) ([(IntKind.wrap .u8 (ar .add .i64 (ar .mul .i64 (16 : Int) a0.1) (a0.2.1.length : Int))), (IntKind.wrap .u8 (a0.2.2.length : Int))] : (List Int)))]⟩) (J.cons (.none rfl) (JO.assign rfl) rfl rfl (J.fin (Sw.Sub.mk id (.cons rfl (.of_eq rfl) (.cons rfl (.of_eq rfl) (.cons rfl (.of_eq rfl) .nil))) (.box rfl (.cons (.of_eq rfl) (.cons (.of_eq rfl) (.cons (.of_eq rfl) .nil))) (.arr rfl .nil)) rfl))) ?_
  obtain ⟨o52, ho52, hb52, hr52⟩ := lp_elim h
  refine W.lp (σs := fun s35 : Int × (List Int) => ⟨[(1, .ptr 101 0), (3, .ref 125), (4, .v (Enc.int .i64) s35.1)], [(101, .box 38 [.v (Enc.int .i64) a0.1, .v (Enc.sl (Enc.int .i64)) a0.2.1, .v (Enc.sl eBlk) a0.2.2]), (125, .arr 5 (Enc.int .u8) s35.2)]⟩) (fun x53 : (List Int) => ⟨[(1, .ptr 101 0), (3, .ref 125)], [(101, .box 38 [.v (Enc.int .i64) a0.1, .v (Enc.sl (Enc.int .i64)) a0.2.1, .v (Enc.sl eBlk) a0.2.2]), (125, .arr 5 (Enc.int .u8) x53)]⟩) ho52 (Sw.Sub.mk (rn [(101, 101), (125, 103)]) (.cons rfl (.of_eq rfl) (.cons rfl (.of_eq rfl) (.cons rfl (.of_eq rfl) .nil))) (.box rfl (.cons (.of_eq rfl) (.cons (.of_eq rfl) (.cons (.of_eq rfl) .nil))) (.arr rfl .nil)) rfl) ?_ ?_
  · intro x53 hy
    have h := hb52 _ hy
    refine W.seq ?_
    refine W.seq ?_
    refine W.reg (σ' := ⟨[(1, .ptr 101 0), (3, .ref 125), (6, .v (Enc.int .i64) (0 : Int))], [(101, .box 38 [.v (Enc.int .i64) a0.1, .v (Enc.sl (Enc.int .i64)) a0.2.1, .v (Enc.sl eBlk) a0.2.2]), (125, .arr 5 (Enc.int .u8) x53)]⟩) (J.cons (.none rfl) (JO.assign rfl) rfl rfl (J.fin (Sw.Sub.mk id (.cons rfl (.of_eq rfl) (.cons rfl (.of_eq rfl) (.cons rfl (.of_eq rfl) .nil))) (.box rfl (.cons (.of_eq rfl) (.cons (.of_eq rfl) (.cons (.of_eq rfl) .nil))) (.arr rfl .nil)) rfl))) ?_
    obtain ⟨o139, ho139, hb139, hr139⟩ := lp_elim h
    refine W.lp (σs := fun s116 : Int × (List Int) => ⟨[(1, .ptr 101 0), (3, .ref 163), (6, .v (Enc.int .i64) s116.1)], [(101, .box 38 [.v (Enc.int .i64) a0.1, .v (Enc.sl (Enc.int .i64)) a0.2.1, .v (Enc.sl eBlk) a0.2.2]), (163, .arr 5 (Enc.int .u8) s116.2)]⟩) (fun x140 : (List Int) => ⟨[(3, .ref 163)], [(163, .arr 5 (Enc.int .u8) x140)]⟩) ho139 (Sw.Sub.mk (rn [(101, 101), (163, 125)]) (.cons rfl (.of_eq rfl) (.cons rfl (.of_eq rfl) (.cons rfl (.of_eq rfl) .nil))) (.box rfl (.cons (.of_eq rfl) (.cons (.of_eq rfl) (.cons (.of_eq rfl) .nil))) (.arr rfl .nil)) rfl) ?_ ?_
    · intro x140 hy
      have h := hb139 _ hy
      refine W.seq ?_
      obtain ⟨v163, hv163, h⟩ := bind_e h
      refine W.reg (σ' := ⟨[(3, .ref 163), (8, .v (Enc.int .i64) v163)], [(163, .arr 5 (Enc.int .u8) x140)]⟩) (J.cons (.none rfl) (JO.move rfl) rfl rfl (J.cons (.none rfl) (JO.callL0 (con_ref_SumOf hv163) Try.call34 (.cons (.ref rfl rfl) .nil) FlatS.v) rfl rfl (J.cons (.none rfl) (JO.convUp Try.runUnderlying61 Try.runUnderlying3 rfl rfl) rfl rfl (J.cons (.none rfl) (JO.assign rfl) rfl rfl (J.fin (Sw.Sub.mk id (.cons rfl (.of_eq rfl) (.cons rfl (.of_eq rfl) .nil)) (.arr rfl .nil) rfl)))))) ?_
      refine W.seq ?_
      obtain ⟨v164, hv164, h⟩ := bind_e h
      refine W.reg (σ' := ⟨[(2, .ref 181)], [(181, .arr 5 (Enc.int .u8) v164)]⟩) (J.cons (.none rfl) (JO.move rfl) rfl rfl (J.cons (.none rfl) (JO.move rfl) rfl rfl (J.cons (.none rfl) (JO.div (.inl rfl) (by decide) rfl rfl) rfl rfl (J.cons (.none rfl) (JO.conv Try.runUnderlying3 Try.runUnderlying5 rfl) rfl rfl (J.cons (.none rfl) (JO.move rfl) rfl rfl (J.cons (.none rfl) (JO.div (.inl rfl) (by decide) rfl rfl) rfl rfl (J.cons (.none rfl) (JO.div (.inr rfl) (by decide) rfl rfl) rfl rfl (J.cons (.none rfl) (JO.conv Try.runUnderlying3 Try.runUnderlying5 rfl) rfl rfl (J.cons (.none rfl) (JO.move rfl) rfl rfl (J.cons (.none rfl) (JO.div (.inl rfl) (by decide) rfl rfl) rfl rfl (J.cons (.none rfl) (JO.div (.inr rfl) (by decide) rfl rfl) rfl rfl (J.cons (.none rfl) (JO.conv Try.runUnderlying3 Try.runUnderlying5 rfl) rfl rfl (J.cons (.none rfl) (JO.move rfl) rfl rfl (J.cons (.none rfl) (JO.div (.inr rfl) (by decide) rfl rfl) rfl rfl (J.cons (.none rfl) (JO.conv Try.runUnderlying3 Try.runUnderlying5 rfl) rfl rfl (J.cons (.none rfl) (JO.lit (e := (Enc.int .u8)) Try.runUnderlying40 Try.sizeOf5 Try.zeroValue5 rfl rfl rfl rfl (.cons (.dir rfl) (.cons (.dir rfl) (.cons (.dir rfl) (.cons (.dir rfl) .nil))))) rfl rfl (J.mut (.none rfl) (JM.append 181 hv164 rfl rfl (.sl rfl) Try.runUnderlying40 Try.typeInfo5 Try.sizeOf5 rfl rfl rfl rfl rfl) (J.cons (.none rfl) (JO.assign rfl) rfl rfl (J.fin (Sw.Sub.mk id (.cons rfl (.of_eq rfl) .nil) (.arr rfl .nil) rfl)))))))))))))))))))) ?_
      refine W.ret ?_
      obtain rfl := Option.some.inj h
      exact XQ.sub (σ' := ⟨[(2, .ref 0)], [(0, .arr 5 (Enc.int .u8) v164)]⟩) (Sw.Sub.mk (rn [(0, 181)]) (.cons rfl (.of_eq rfl) .nil) (.arr rfl .nil) rfl) (XQ.ret1 noR rfl (RV.tmp rfl) (.cons rfl .nil) rfl)
    intro s116 r139 h
    refine W.seq ?_
    refine W.seq ?_
    refine W.reg (σ' := ⟨[(1, .ptr 101 0), (3, .ref 163), (6, .v (Enc.int .i64) s116.1), (54, .v Enc.bool (cm .lss s116.1 (a0.2.2.length : Int)))], [(101, .box 38 [.v (Enc.int .i64) a0.1, .v (Enc.sl (Enc.int .i64)) a0.2.1, .v (Enc.sl eBlk) a0.2.2]), (163, .arr 5 (Enc.int .u8) s116.2)]⟩) (J.cons (.none rfl) (JO.move rfl) rfl rfl (J.cons (.none rfl) (JO.fieldPtr 2 rfl Try.runUnderlying38 rfl Try.sizeOf22 rfl rfl) rfl rfl (J.cons (.none rfl) (JO.load rfl rfl rfl Try.isAgg22 Try.sizeOf22) rfl rfl (J.cons (.none rfl) (JO.len rfl Try.runUnderlying22) rfl rfl (J.cons (.none rfl) (JO.cmp rfl rfl rfl) rfl rfl (J.fin (Sw.Sub.mk id (.cons rfl (.of_eq rfl) (.cons rfl (.of_eq rfl) (.cons rfl (.of_eq rfl) (.cons rfl (.of_eq rfl) .nil)))) (.box rfl (.cons (.of_eq rfl) (.cons (.of_eq rfl) (.cons (.of_eq rfl) .nil))) (.arr rfl .nil)) rfl))))))) ?_
    rcases Bool.eq_false_or_eq_true (cm .lss s116.1 (a0.2.2.length : Int)) with hc141 | hc141
    · replace h := cond_t hc141 h
      refine W.condT rfl hc141 ?_
      refine W.skip ?_
      refine W.seq ?_
      refine W.block ?_
      refine W.seq ?_
      refine W.reg (σ' := ⟨[(1, .ptr 101 0), (3, .ref 163), (6, .v (Enc.int .i64) s116.1), (7, .v (Enc.int .i64) (0 : Int))], [(101, .box 38 [.v (Enc.int .i64) a0.1, .v (Enc.sl (Enc.int .i64)) a0.2.1, .v (Enc.sl eBlk) a0.2.2]), (163, .arr 5 (Enc.int .u8) s116.2)]⟩) (J.cons (.none rfl) (JO.assign rfl) rfl rfl (J.fin (Sw.Sub.mk id (.cons rfl (.of_eq rfl) (.cons rfl (.of_eq rfl) (.cons rfl (.of_eq rfl) (.cons rfl (.of_eq rfl) .nil)))) (.box rfl (.cons (.of_eq rfl) (.cons (.of_eq rfl) (.cons (.of_eq rfl) .nil))) (.arr rfl .nil)) rfl))) ?_
      obtain ⟨o157, ho157, hb157, hr157⟩ := lp_elim h
      refine W.lp (σs := fun s152 : Int × (List Int) => ⟨[(1, .ptr 101 0), (3, .ref 177), (6, .v (Enc.int .i64) s116.1), (7, .v (Enc.int .i64) s152.1)], [(101, .box 38 [.v (Enc.int .i64) a0.1, .v (Enc.sl (Enc.int .i64)) a0.2.1, .v (Enc.sl eBlk) a0.2.2]), (177, .arr 5 (Enc.int .u8) s152.2)]⟩) (fun x158 : (List Int) => ⟨[(1, .ptr 101 0), (3, .ref 177), (6, .v (Enc.int .i64) s116.1)], [(101, .box 38 [.v (Enc.int .i64) a0.1, .v (Enc.sl (Enc.int .i64)) a0.2.1, .v (Enc.sl eBlk) a0.2.2]), (177, .arr 5 (Enc.int .u8) x158)]⟩) ho157 (Sw.Sub.mk (rn [(101, 101), (177, 163)]) (.cons rfl (.of_eq rfl) (.cons rfl (.of_eq rfl) (.cons rfl (.of_eq rfl) (.cons rfl (.of_eq rfl) .nil)))) (.box rfl (.cons (.of_eq rfl) (.cons (.of_eq rfl) (.cons (.of_eq rfl) .nil))) (.arr rfl .nil)) rfl) ?_ ?_
      · intro x158 hy
        have h := hb157 _ hy
        refine W.fall ?_
        refine W.reg (σ' := ⟨[(1, .ptr 101 0), (3, .ref 177), (6, .v (Enc.int .i64) (ar .add .i64 s116.1 (1 : Int)))], [(101, .box 38 [.v (Enc.int .i64) a0.1, .v (Enc.sl (Enc.int .i64)) a0.2.1, .v (Enc.sl eBlk) a0.2.2]), (177, .arr 5 (Enc.int .u8) x158)]⟩) (J.cons (.none rfl) (JO.move rfl) rfl rfl (J.cons (.none rfl) (JO.arith rfl rfl rfl) rfl rfl (J.cons (.none rfl) (JO.assign rfl) rfl rfl (J.fin (Sw.Sub.mk id (.cons rfl (.of_eq rfl) (.cons rfl (.of_eq rfl) (.cons rfl (.of_eq rfl) .nil))) (.box rfl (.cons (.of_eq rfl) (.cons (.of_eq rfl) (.cons (.of_eq rfl) .nil))) (.arr rfl .nil)) rfl))))) ?_
        obtain rfl := Option.some.inj h
        exact W.next (Sw.Sub.mk (rn [(101, 101), (163, 177)]) (.cons rfl (.of_eq rfl) (.cons rfl (.of_eq rfl) (.cons rfl (.of_eq rfl) .nil))) (.box rfl (.cons (.of_eq rfl) (.cons (.of_eq rfl) (.cons (.of_eq rfl) .nil))) (.arr rfl .nil)) rfl)
      intro s152 r157 h
      refine W.seq ?_
      refine W.seq ?_
      refine W.reg (σ' := ⟨[(1, .ptr 101 0), (3, .ref 177), (6, .v (Enc.int .i64) s116.1), (7, .v (Enc.int .i64) s152.1), (58, .v Enc.bool (cm .lss s152.1 (8 : Int)))], [(101, .box 38 [.v (Enc.int .i64) a0.1, .v (Enc.sl (Enc.int .i64)) a0.2.1, .v (Enc.sl eBlk) a0.2.2]), (177, .arr 5 (Enc.int .u8) s152.2)]⟩) (J.cons (.none rfl) (JO.move rfl) rfl rfl (J.cons (.none rfl) (JO.cmp rfl rfl rfl) rfl rfl (J.fin (Sw.Sub.mk id (.cons rfl (.of_eq rfl) (.cons rfl (.of_eq rfl) (.cons rfl (.of_eq rfl) (.cons rfl (.of_eq rfl) (.cons rfl (.of_eq rfl) .nil))))) (.box rfl (.cons (.of_eq rfl) (.cons (.of_eq rfl) (.cons (.of_eq rfl) .nil))) (.arr rfl .nil)) rfl)))) ?_
      rcases Bool.eq_false_or_eq_true (cm .lss s152.1 (8 : Int)) with hc159 | hc159
      · replace h := cond_t hc159 h
        refine W.condT rfl hc159 ?_
        refine W.skip ?_
        refine W.seq ?_
        refine W.block ?_
        obtain ⟨z160, hz160, h⟩ := bind_e h
        obtain ⟨z161, hz161, h⟩ := bind_e h
        obtain ⟨v162, hv162, h⟩ := bind_e h
        refine W.reg (σ' := ⟨[(1, .ptr 101 0), (3, .ref 179), (6, .v (Enc.int .i64) s116.1), (7, .v (Enc.int .i64) s152.1)], [(101, .box 38 [.v (Enc.int .i64) a0.1, .v (Enc.sl (Enc.int .i64)) a0.2.1, .v (Enc.sl eBlk) a0.2.2]), (179, .arr 5 (Enc.int .u8) v162)]⟩) (J.cons (.none rfl) (JO.move rfl) rfl rfl (J.cons (.none rfl) (JO.fieldPtr 2 rfl Try.runUnderlying38 rfl Try.sizeOf22 rfl rfl) rfl rfl (J.cons (.none rfl) (JO.load rfl rfl rfl Try.isAgg22 Try.sizeOf22) rfl rfl (J.cons (.none rfl) (JO.move rfl) rfl rfl (J.cons (.none rfl) (JO.move rfl) rfl rfl (J.cons (.none rfl) (JO.idx hz160 rfl rfl Try.runUnderlying22 Try.sizeOf24) rfl rfl (J.cons (.none rfl) (JO.idxPst hz161 rfl rfl Try.runUnderlying24 Try.sizeOf5) rfl rfl (J.cons (.none rfl) (JO.loadPst rfl Try.isAgg5 Try.sizeOf5) rfl rfl (J.cons (.none rfl) (JO.lit (e := (Enc.int .u8)) Try.runUnderlying40 Try.sizeOf5 Try.zeroValue5 rfl rfl rfl rfl (.cons (.dir rfl) .nil)) rfl rfl (J.mut (.none rfl) (JM.append 179 hv162 rfl rfl (.sl rfl) Try.runUnderlying40 Try.typeInfo5 Try.sizeOf5 rfl rfl rfl rfl rfl) (J.cons (.none rfl) (JO.assign rfl) rfl rfl (J.fin (Sw.Sub.mk id (.cons rfl (.of_eq rfl) (.cons rfl (.of_eq rfl) (.cons rfl (.of_eq rfl) (.cons rfl (.of_eq rfl) .nil)))) (.box rfl (.cons (.of_eq rfl) (.cons (.of_eq rfl) (.cons (.of_eq rfl) .nil))) (.arr rfl .nil)) rfl))))))))))))) ?_
        refine W.fall ?_
        refine W.reg (σ' := ⟨[(1, .ptr 101 0), (3, .ref 179), (6, .v (Enc.int .i64) s116.1), (7, .v (Enc.int .i64) (ar .add .i64 s152.1 (1 : Int)))], [(101, .box 38 [.v (Enc.int .i64) a0.1, .v (Enc.sl (Enc.int .i64)) a0.2.1, .v (Enc.sl eBlk) a0.2.2]), (179, .arr 5 (Enc.int .u8) v162)]⟩) (J.cons (.none rfl) (JO.move rfl) rfl rfl (J.cons (.none rfl) (JO.arith rfl rfl rfl) rfl rfl (J.cons (.none rfl) (JO.assign rfl) rfl rfl (J.fin (Sw.Sub.mk id (.cons rfl (.of_eq rfl) (.cons rfl (.of_eq rfl) (.cons rfl (.of_eq rfl) (.cons rfl (.of_eq rfl) .nil)))) (.box rfl (.cons (.of_eq rfl) (.cons (.of_eq rfl) (.cons (.of_eq rfl) .nil))) (.arr rfl .nil)) rfl))))) ?_
        obtain rfl := Option.some.inj h
        exact W.next (Sw.Sub.mk (rn [(101, 101), (177, 179)]) (.cons rfl (.of_eq rfl) (.cons rfl (.of_eq rfl) (.cons rfl (.of_eq rfl) (.cons rfl (.of_eq rfl) .nil)))) (.box rfl (.cons (.of_eq rfl) (.cons (.of_eq rfl) (.cons (.of_eq rfl) .nil))) (.arr rfl .nil)) rfl)
      · replace h := cond_f hc159 h
        refine W.condF rfl hc159 ?_
        refine W.exit ?_
        obtain rfl := Option.some.inj h
        exact XQ.brk (Sw.Sub.mk id (.cons rfl (.of_eq rfl) (.cons rfl (.of_eq rfl) (.cons rfl (.of_eq rfl) .nil))) (.box rfl (.cons (.of_eq rfl) (.cons (.of_eq rfl) (.cons (.of_eq rfl) .nil))) (.arr rfl .nil)) rfl)
    · replace h := cond_f hc141 h
      refine W.condF rfl hc141 ?_
      refine W.exit ?_
      obtain rfl := Option.some.inj h
      exact XQ.brk (Sw.Sub.mk id (.cons rfl (.of_eq rfl) .nil) (.arr rfl .nil) rfl)
  intro s35 r52 h
  refine W.seq ?_
  refine W.seq ?_
  refine W.reg (σ' := ⟨[(1, .ptr 101 0), (3, .ref 125), (4, .v (Enc.int .i64) s35.1), (26, .v Enc.bool (cm .lss s35.1 (a0.2.1.length : Int)))], [(101, .box 38 [.v (Enc.int .i64) a0.1, .v (Enc.sl (Enc.int .i64)) a0.2.1, .v (Enc.sl eBlk) a0.2.2]), (125, .arr 5 (Enc.int .u8) s35.2)]⟩) (J.cons (.none rfl) (JO.move rfl) rfl rfl (J.cons (.none rfl) (JO.fieldPtr 1 rfl Try.runUnderlying38 rfl Try.sizeOf36 rfl rfl) rfl rfl (J.cons (.none rfl) (JO.load rfl rfl rfl Try.isAgg36 Try.sizeOf36) rfl rfl (J.cons (.none rfl) (JO.len rfl Try.runUnderlying36) rfl rfl (J.cons (.none rfl) (JO.cmp rfl rfl rfl) rfl rfl (J.fin (Sw.Sub.mk id (.cons rfl (.of_eq rfl) (.cons rfl (.of_eq rfl) (.cons rfl (.of_eq rfl) (.cons rfl (.of_eq rfl) .nil)))) (.box rfl (.cons (.of_eq rfl) (.cons (.of_eq rfl) (.cons (.of_eq rfl) .nil))) (.arr rfl .nil)) rfl))))))) ?_
  rcases Bool.eq_false_or_eq_true (cm .lss s35.1 (a0.2.1.length : Int)) with hc54 | hc54
  · replace h := cond_t hc54 h
    refine W.condT rfl hc54 ?_
    refine W.skip ?_
    refine W.seq ?_
    refine W.block ?_
    refine W.seq ?_
    obtain ⟨z55, hz55, h⟩ := bind_e h
    refine W.reg (σ' := ⟨[(1, .ptr 101 0), (3, .ref 125), (4, .v (Enc.int .i64) s35.1), (5, .v (Enc.int .i64) z55)], [(101, .box 38 [.v (Enc.int .i64) a0.1, .v (Enc.sl (Enc.int .i64)) a0.2.1, .v (Enc.sl eBlk) a0.2.2]), (125, .arr 5 (Enc.int .u8) s35.2)]⟩) (J.cons (.none rfl) (JO.fieldPtr 1 rfl Try.runUnderlying38 rfl Try.sizeOf36 rfl rfl) rfl rfl (J.cons (.none rfl) (JO.load rfl rfl rfl Try.isAgg36 Try.sizeOf36) rfl rfl (J.cons (.none rfl) (JO.move rfl) rfl rfl (J.cons (.none rfl) (JO.idx hz55 rfl rfl Try.runUnderlying36 Try.sizeOf3) rfl rfl (J.cons (.none rfl) (JO.loadPst rfl Try.isAgg3 Try.sizeOf3) rfl rfl (J.cons (.none rfl) (JO.assign rfl) rfl rfl (J.fin (Sw.Sub.mk id (.cons rfl (.of_eq rfl) (.cons rfl (.of_eq rfl) (.cons rfl (.of_eq rfl) (.cons rfl (.of_eq rfl) .nil)))) (.box rfl (.cons (.of_eq rfl) (.cons (.of_eq rfl) (.cons (.of_eq rfl) .nil))) (.arr rfl .nil)) rfl)))))))) ?_
    refine W.seq ?_
    obtain ⟨o65, ho65, hb65, hr65⟩ := lp_elim h
    refine W.lp (σs := fun s62 : Int × (List Int) => ⟨[(1, .ptr 101 0), (3, .ref 140), (4, .v (Enc.int .i64) s35.1), (5, .v (Enc.int .i64) s62.1)], [(101, .box 38 [.v (Enc.int .i64) a0.1, .v (Enc.sl (Enc.int .i64)) a0.2.1, .v (Enc.sl eBlk) a0.2.2]), (140, .arr 5 (Enc.int .u8) s62.2)]⟩) (fun x66 : Int × (List Int) => ⟨[(1, .ptr 101 0), (3, .ref 140), (4, .v (Enc.int .i64) s35.1), (5, .v (Enc.int .i64) x66.1)], [(101, .box 38 [.v (Enc.int .i64) a0.1, .v (Enc.sl (Enc.int .i64)) a0.2.1, .v (Enc.sl eBlk) a0.2.2]), (140, .arr 5 (Enc.int .u8) x66.2)]⟩) ho65 (Sw.Sub.mk (rn [(101, 101), (140, 125)]) (.cons rfl (.of_eq rfl) (.cons rfl (.of_eq rfl) (.cons rfl (.of_eq rfl) (.cons rfl (.of_eq rfl) .nil)))) (.box rfl (.cons (.of_eq rfl) (.cons (.of_eq rfl) (.cons (.of_eq rfl) .nil))) (.arr rfl .nil)) rfl) ?_ ?_
    · intro x66 hy
      have h := hb65 _ hy
      obtain ⟨v69, hv69, h⟩ := bind_e h
      refine W.reg (σ' := ⟨[(1, .ptr 101 0), (3, .ref 143), (4, .v (Enc.int .i64) s35.1)], [(101, .box 38 [.v (Enc.int .i64) a0.1, .v (Enc.sl (Enc.int .i64)) a0.2.1, .v (Enc.sl eBlk) a0.2.2]), (143, .arr 5 (Enc.int .u8) v69)]⟩) (J.cons (.none rfl) (JO.move rfl) rfl rfl (J.cons (.none rfl) (JO.move rfl) rfl rfl (J.cons (.none rfl) (JO.conv Try.runUnderlying3 Try.runUnderlying5 rfl) rfl rfl (J.cons (.none rfl) (JO.lit (e := (Enc.int .u8)) Try.runUnderlying40 Try.sizeOf5 Try.zeroValue5 rfl rfl rfl rfl (.cons (.dir rfl) .nil)) rfl rfl (J.mut (.none rfl) (JM.append 143 hv69 rfl rfl (.sl rfl) Try.runUnderlying40 Try.typeInfo5 Try.sizeOf5 rfl rfl rfl rfl rfl) (J.cons (.none rfl) (JO.assign rfl) rfl rfl (J.fin (Sw.Sub.mk id (.cons rfl (.of_eq rfl) (.cons rfl (.of_eq rfl) (.cons rfl (.of_eq rfl) .nil))) (.box rfl (.cons (.of_eq rfl) (.cons (.of_eq rfl) (.cons (.of_eq rfl) .nil))) (.arr rfl .nil)) rfl)))))))) ?_
      refine W.fall ?_
      refine W.reg (σ' := ⟨[(1, .ptr 101 0), (3, .ref 143), (4, .v (Enc.int .i64) (ar .add .i64 s35.1 (1 : Int)))], [(101, .box 38 [.v (Enc.int .i64) a0.1, .v (Enc.sl (Enc.int .i64)) a0.2.1, .v (Enc.sl eBlk) a0.2.2]), (143, .arr 5 (Enc.int .u8) v69)]⟩) (J.cons (.none rfl) (JO.move rfl) rfl rfl (J.cons (.none rfl) (JO.arith rfl rfl rfl) rfl rfl (J.cons (.none rfl) (JO.assign rfl) rfl rfl (J.fin (Sw.Sub.mk id (.cons rfl (.of_eq rfl) (.cons rfl (.of_eq rfl) (.cons rfl (.of_eq rfl) .nil))) (.box rfl (.cons (.of_eq rfl) (.cons (.of_eq rfl) (.cons (.of_eq rfl) .nil))) (.arr rfl .nil)) rfl))))) ?_
      obtain rfl := Option.some.inj h
      exact W.next (Sw.Sub.mk (rn [(101, 101), (125, 143)]) (.cons rfl (.of_eq rfl) (.cons rfl (.of_eq rfl) (.cons rfl (.of_eq rfl) .nil))) (.box rfl (.cons (.of_eq rfl) (.cons (.of_eq rfl) (.cons (.of_eq rfl) .nil))) (.arr rfl .nil)) rfl)
    intro s62 r65 h
    refine W.seq ?_
    refine W.seq ?_
    refine W.reg (σ' := ⟨[(1, .ptr 101 0), (3, .ref 140), (4, .v (Enc.int .i64) s35.1), (5, .v (Enc.int .i64) s62.1), (35, .v Enc.bool (cm .geq s62.1 (128 : Int)))], [(101, .box 38 [.v (Enc.int .i64) a0.1, .v (Enc.sl (Enc.int .i64)) a0.2.1, .v (Enc.sl eBlk) a0.2.2]), (140, .arr 5 (Enc.int .u8) s62.2)]⟩) (J.cons (.none rfl) (JO.move rfl) rfl rfl (J.cons (.none rfl) (JO.cmp rfl rfl rfl) rfl rfl (J.fin (Sw.Sub.mk id (.cons rfl (.of_eq rfl) (.cons rfl (.of_eq rfl) (.cons rfl (.of_eq rfl) (.cons rfl (.of_eq rfl) (.cons rfl (.of_eq rfl) .nil))))) (.box rfl (.cons (.of_eq rfl) (.cons (.of_eq rfl) (.cons (.of_eq rfl) .nil))) (.arr rfl .nil)) rfl)))) ?_
    rcases Bool.eq_false_or_eq_true (cm .geq s62.1 (128 : Int)) with hc67 | hc67
    · replace h := cond_t hc67 h
      refine W.condT rfl hc67 ?_
      refine W.skip ?_
      refine W.block ?_
      refine W.seq ?_
      obtain ⟨v68, hv68, h⟩ := bind_e h
      refine W.reg (σ' := ⟨[(1, .ptr 101 0), (3, .ref 142), (4, .v (Enc.int .i64) s35.1), (5, .v (Enc.int .i64) s62.1)], [(101, .box 38 [.v (Enc.int .i64) a0.1, .v (Enc.sl (Enc.int .i64)) a0.2.1, .v (Enc.sl eBlk) a0.2.2]), (142, .arr 5 (Enc.int .u8) v68)]⟩) (J.cons (.none rfl) (JO.move rfl) rfl rfl (J.cons (.none rfl) (JO.move rfl) rfl rfl (J.cons (.none rfl) (JO.div (.inr rfl) (by decide) rfl rfl) rfl rfl (J.cons (.none rfl) (JO.arith rfl rfl rfl) rfl rfl (J.cons (.none rfl) (JO.conv Try.runUnderlying3 Try.runUnderlying5 rfl) rfl rfl (J.cons (.none rfl) (JO.lit (e := (Enc.int .u8)) Try.runUnderlying40 Try.sizeOf5 Try.zeroValue5 rfl rfl rfl rfl (.cons (.dir rfl) .nil)) rfl rfl (J.mut (.none rfl) (JM.append 142 hv68 rfl rfl (.sl rfl) Try.runUnderlying40 Try.typeInfo5 Try.sizeOf5 rfl rfl rfl rfl rfl) (J.cons (.none rfl) (JO.assign rfl) rfl rfl (J.fin (Sw.Sub.mk id (.cons rfl (.of_eq rfl) (.cons rfl (.of_eq rfl) (.cons rfl (.of_eq rfl) (.cons rfl (.of_eq rfl) .nil)))) (.box rfl (.cons (.of_eq rfl) (.cons (.of_eq rfl) (.cons (.of_eq rfl) .nil))) (.arr rfl .nil)) rfl)))))))))) ?_
      refine W.reg (σ' := ⟨[(1, .ptr 101 0), (3, .ref 142), (4, .v (Enc.int .i64) s35.1), (5, .v (Enc.int .i64) (ar .quo .i64 s62.1 (128 : Int)))], [(101, .box 38 [.v (Enc.int .i64) a0.1, .v (Enc.sl (Enc.int .i64)) a0.2.1, .v (Enc.sl eBlk) a0.2.2]), (142, .arr 5 (Enc.int .u8) v68)]⟩) (J.cons (.none rfl) (JO.move rfl) rfl rfl (J.cons (.none rfl) (JO.div (.inl rfl) (by decide) rfl rfl) rfl rfl (J.cons (.none rfl) (JO.assign rfl) rfl rfl (J.fin (Sw.Sub.mk id (.cons rfl (.of_eq rfl) (.cons rfl (.of_eq rfl) (.cons rfl (.of_eq rfl) (.cons rfl (.of_eq rfl) .nil)))) (.box rfl (.cons (.of_eq rfl) (.cons (.of_eq rfl) (.cons (.of_eq rfl) .nil))) (.arr rfl .nil)) rfl))))) ?_
      refine W.fall ?_
      obtain rfl := Option.some.inj h
      exact W.next (Sw.Sub.mk (rn [(101, 101), (140, 142)]) (.cons rfl (.of_eq rfl) (.cons rfl (.of_eq rfl) (.cons rfl (.of_eq rfl) (.cons rfl (.of_eq rfl) .nil)))) (.box rfl (.cons (.of_eq rfl) (.cons (.of_eq rfl) (.cons (.of_eq rfl) .nil))) (.arr rfl .nil)) rfl)
    · replace h := cond_f hc67 h
      refine W.condF rfl hc67 ?_
      refine W.exit ?_
      obtain rfl := Option.some.inj h
      exact XQ.brk (Sw.Sub.mk id (.cons rfl (.of_eq rfl) (.cons rfl (.of_eq rfl) (.cons rfl (.of_eq rfl) (.cons rfl (.of_eq rfl) .nil)))) (.box rfl (.cons (.of_eq rfl) (.cons (.of_eq rfl) (.cons (.of_eq rfl) .nil))) (.arr rfl .nil)) rfl)
  · replace h := cond_f hc54 h
    refine W.condF rfl hc54 ?_
    refine W.exit ?_
    obtain rfl := Option.some.inj h
    exact XQ.brk (Sw.Sub.mk id (.cons rfl (.of_eq rfl) (.cons rfl (.of_eq rfl) .nil)) (.box rfl (.cons (.of_eq rfl) (.cons (.of_eq rfl) (.cons (.of_eq rfl) .nil))) (.arr rfl .nil)) rfl)
set_option maxRecDepth 100000 in
set_option maxHeartbeats 4000000 in
theorem con_frame_Check_1 {a0 : Int} {r : Bool} (h : m_frame_Check_1 a0 = some r) :
    Con Try.prog 70 [.v (Enc.int .i64) a0] (.v Enc.bool r) [] := by
  refine Con.of Try.func70 rfl Try.ntmps70 rfl ?_
  intro S w
  unfold m_frame_Check_1 at h
  refine W.seq ?_
  refine W.reg (σ' := ⟨[(0, .v (Enc.int .i64) a0)], []⟩) (J.cons (.none rfl) (JO.assign rfl) rfl rfl (J.fin (Sw.Sub.mk id (.cons rfl (.of_eq rfl) .nil) .nil rfl))) ?_
  refine W.seq ?_
  obtain ⟨x2, hx, h⟩ := bind_e h
  refine W.reg (σ' := ⟨[(2, .v Enc.bool x2)], []⟩) ?_ ?_
  · rcases Bool.eq_false_or_eq_true (cm .lss a0 (0 : Int)) with hc3 | hc3
    · replace hx := cond_t hc3 hx
      obtain rfl := Option.some.inj hx
      exact (J.cons (.none rfl) (JO.move rfl) rfl rfl (J.cons (.none rfl) (JO.cmp rfl rfl rfl) rfl rfl (J.cons (.none rfl) (JO.move rfl) rfl rfl (J.left (GK.unmet 5 rfl rfl rfl hc3) rfl (J.left (GK.unmet 5 rfl rfl rfl hc3) rfl (J.cons (.none rfl) (JO.pT hc3 rfl rfl) rfl rfl (J.cons (.none rfl) (JO.assign rfl) rfl rfl (J.fin (Sw.Sub.mk id (.cons rfl (.of_eq rfl) .nil) .nil rfl)))))))))
    · replace hx := cond_f hc3 hx
      obtain rfl := Option.some.inj hx
      exact (J.cons (.none rfl) (JO.move rfl) rfl rfl (J.cons (.none rfl) (JO.cmp rfl rfl rfl) rfl rfl (J.cons (.none rfl) (JO.move rfl) rfl rfl (J.cons (GK.met 5 rfl rfl rfl hc3) (JO.move rfl) rfl rfl (J.cons (GK.met 5 rfl rfl rfl hc3) (JO.cmp rfl rfl rfl) rfl rfl (J.cons (.none rfl) (JO.pF hc3 rfl rfl) rfl rfl (J.cons (.none rfl) (JO.assign rfl) rfl rfl (J.fin (Sw.Sub.mk id (.cons rfl (.of_eq rfl) .nil) .nil rfl)))))))))
  refine W.ret ?_
  obtain rfl := Option.some.inj h
  exact XQ.sub (σ' := ⟨[(2, .v Enc.bool x2)], []⟩) (Sw.Sub.mk id (.cons rfl (.of_eq rfl) .nil) .nil rfl) (XQ.ret1 noR rfl (RV.tmp rfl) .nil rfl)
set_option maxRecDepth 100000 in
set_option maxHeartbeats 4000000 in
theorem con_slices_IndexFunc_int_int__frame_Check_1 {a0 : (List Int)} {r : Int} (h : m_slices_IndexFunc_int_int__frame_Check_1 a0 = some r) :
    Con Try.prog 91 [.v (Enc.sl (Enc.int .i64)) a0, .fnc 70 []] (.v (Enc.int .i64) r) [] := by
  refine Con.of Try.func91 rfl Try.ntmps91 rfl ?_
  intro S w
  unfold m_slices_IndexFunc_int_int__frame_Check_1 at h
  refine W.seq ?_
  refine W.reg (σ' := ⟨[(0, .v (Enc.sl (Enc.int .i64)) a0), (1, .fnc 70 [])], []⟩) (J.cons (.none rfl) (JO.assign rfl) rfl rfl (J.fin (Sw.Sub.mk id (.cons rfl (.of_eq rfl) (.cons rfl (.of_eq rfl) .nil)) .nil rfl))) ?_
  refine W.seq ?_
  refine W.seq ?_
  refine W.reg (σ' := ⟨[(0, .v (Enc.sl (Enc.int .i64)) a0), (1, .fnc 70 []), (7, .v (Enc.int .i64) (a0.length : Int)), (8, .v (Enc.int .i64) (0 : Int))], []⟩) (J.cons (.none rfl) (JO.move rfl) rfl rfl (J.cons (.none rfl) (JO.len rfl Try.runUnderlying36) rfl rfl (J.cons (.none rfl) (JO.move rfl) rfl rfl (J.fin (Sw.Sub.mk id (.cons rfl (.of_eq rfl) (.cons rfl (.of_eq rfl) (.cons rfl (.of_eq rfl) (.cons rfl (.of_eq rfl) .nil)))) .nil rfl))))) ?_
  obtain ⟨o16, ho16, hb16, hr16⟩ := lp_elim h
  refine W.lp (σs := fun s11 : Int => ⟨[(0, .v (Enc.sl (Enc.int .i64)) a0), (1, .fnc 70 []), (7, .v (Enc.int .i64) (a0.length : Int)), (8, .v (Enc.int .i64) s11)], []⟩) (fun x17 : Unit => ⟨[], []⟩) ho16 (Sw.Sub.mk id (.cons rfl (.of_eq rfl) (.cons rfl (.of_eq rfl) (.cons rfl (.of_eq rfl) (.cons rfl (.of_eq rfl) .nil)))) .nil rfl) ?_ ?_
  · intro x17 hy
    have h := hb16 _ hy
    refine W.seq ?_
    refine W.reg (σ' := ⟨[(4, .v (Enc.int .i64) (-1 : Int))], []⟩) (J.cons (.none rfl) (JO.assign rfl) rfl rfl (J.fin (Sw.Sub.mk id (.cons rfl (.of_eq rfl) .nil) .nil rfl))) ?_
    refine W.ret ?_
    obtain rfl := Option.some.inj h
    exact XQ.sub (σ' := ⟨[(4, .v (Enc.int .i64) (-1 : Int))], []⟩) (Sw.Sub.mk id (.cons rfl (.of_eq rfl) .nil) .nil rfl) (XQ.ret1 noR rfl (RV.tmp rfl) .nil rfl)
  intro s11 r16 h
  refine W.seq ?_
  refine W.reg (σ' := ⟨[(0, .v (Enc.sl (Enc.int .i64)) a0), (1, .fnc 70 []), (7, .v (Enc.int .i64) (a0.length : Int)), (8, .v (Enc.int .i64) s11), (9, .v Enc.bool (cm .lss s11 (a0.length : Int)))], []⟩) (J.cons (.none rfl) (JO.cmp rfl rfl rfl) rfl rfl (J.fin (Sw.Sub.mk id (.cons rfl (.of_eq rfl) (.cons rfl (.of_eq rfl) (.cons rfl (.of_eq rfl) (.cons rfl (.of_eq rfl) (.cons rfl (.of_eq rfl) .nil))))) .nil rfl))) ?_
  refine W.seq ?_
  rcases Bool.eq_false_or_eq_true (cm .lss s11 (a0.length : Int)) with hc18 | hc18
  · replace h := cond_t hc18 h
    refine W.condT rfl hc18 ?_
    refine W.skip ?_
    refine W.seq ?_
    refine W.block ?_
    refine W.seq ?_
    refine W.reg (σ' := ⟨[(0, .v (Enc.sl (Enc.int .i64)) a0), (1, .fnc 70 []), (5, .v (Enc.int .i64) s11), (7, .v (Enc.int .i64) (a0.length : Int)), (8, .v (Enc.int .i64) s11)], []⟩) (J.cons (.none rfl) (JO.move rfl) rfl rfl (J.cons (.none rfl) (JO.assign rfl) rfl rfl (J.fin (Sw.Sub.mk id (.cons rfl (.of_eq rfl) (.cons rfl (.of_eq rfl) (.cons rfl (.of_eq rfl) (.cons rfl (.of_eq rfl) (.cons rfl (.of_eq rfl) .nil))))) .nil rfl)))) ?_
    refine W.seq ?_
    obtain ⟨z19, hz19, h⟩ := bind_e h
    obtain ⟨v20, hv20, h⟩ := bind_e h
    refine W.reg (σ' := ⟨[(0, .v (Enc.sl (Enc.int .i64)) a0), (1, .fnc 70 []), (5, .v (Enc.int .i64) s11), (7, .v (Enc.int .i64) (a0.length : Int)), (8, .v (Enc.int .i64) s11), (16, .v Enc.bool v20)], []⟩) (J.cons (.none rfl) (JO.move rfl) rfl rfl (J.cons (.none rfl) (JO.move rfl) rfl rfl (J.cons (.none rfl) (JO.move rfl) rfl rfl (J.cons (.none rfl) (JO.idx hz19 rfl rfl Try.runUnderlying36 Try.sizeOf3) rfl rfl (J.cons (.none rfl) (JO.loadPst rfl Try.isAgg3 Try.sizeOf3) rfl rfl (J.cons (.none rfl) (JO.callF0 rfl (con_frame_Check_1 hv20) Try.call70 (.cons (.dir rfl) .nil)) rfl rfl (J.fin (Sw.Sub.mk id (.cons rfl (.of_eq rfl) (.cons rfl (.of_eq rfl) (.cons rfl (.of_eq rfl) (.cons rfl (.of_eq rfl) (.cons rfl (.of_eq rfl) (.cons rfl (.of_eq rfl) .nil)))))) .nil rfl)))))))) ?_
    rcases Bool.eq_false_or_eq_true v20 with hc21 | hc21
    · replace h := cond_t hc21 h
      refine W.condT rfl hc21 ?_
      refine W.seq ?_
      refine W.reg (σ' := ⟨[(4, .v (Enc.int .i64) s11)], []⟩) (J.cons (.none rfl) (JO.move rfl) rfl rfl (J.cons (.none rfl) (JO.assign rfl) rfl rfl (J.fin (Sw.Sub.mk id (.cons rfl (.of_eq rfl) .nil) .nil rfl)))) ?_
      refine W.ret ?_
      refine XQ.ret ?_
      obtain rfl := Option.some.inj h
      refine XQ.lret fun ho => ?_
      obtain rfl := hr16 _ ho
      exact XQ.sub (σ' := ⟨[(4, .v (Enc.int .i64) s11)], []⟩) (Sw.Sub.mk id (.cons rfl (.of_eq rfl) .nil) .nil rfl) (XQ.ret1 noR rfl (RV.tmp rfl) .nil rfl)
    · replace h := cond_f hc21 h
      refine W.condF rfl hc21 ?_
      refine W.skip ?_
      refine W.fall ?_
      refine W.reg (σ' := ⟨[(0, .v (Enc.sl (Enc.int .i64)) a0), (1, .fnc 70 []), (7, .v (Enc.int .i64) (a0.length : Int)), (8, .v (Enc.int .i64) (ar .add .i64 s11 (1 : Int)))], []⟩) (J.cons (.none rfl) (JO.arith rfl rfl rfl) rfl rfl (J.cons (.none rfl) (JO.move rfl) rfl rfl (J.fin (Sw.Sub.mk id (.cons rfl (.of_eq rfl) (.cons rfl (.of_eq rfl) (.cons rfl (.of_eq rfl) (.cons rfl (.of_eq rfl) .nil)))) .nil rfl)))) ?_
      obtain rfl := Option.some.inj h
      exact W.next (Sw.Sub.mk id (.cons rfl (.of_eq rfl) (.cons rfl (.of_eq rfl) (.cons rfl (.of_eq rfl) (.cons rfl (.of_eq rfl) .nil)))) .nil rfl)
  · replace h := cond_f hc18 h
    refine W.condF rfl hc18 ?_
    refine W.exit ?_
    obtain rfl := Option.some.inj h
    exact XQ.brk (Sw.Sub.mk id .nil .nil rfl)
set_option maxRecDepth 100000 in
set_option maxHeartbeats 4000000 in
theorem con_slices_ContainsFunc_int_int__frame_Check_1 {a0 : (List Int)} {r : Bool} (h : m_slices_ContainsFunc_int_int__frame_Check_1 a0 = some r) :
    Con Try.prog 69 [.v (Enc.sl (Enc.int .i64)) a0, .fnc 70 []] (.v Enc.bool r) [] := by
  refine Con.of Try.func69 rfl Try.ntmps69 rfl ?_
  intro S w
  unfold m_slices_ContainsFunc_int_int__frame_Check_1 at h
  refine W.seq ?_
  refine W.reg (σ' := ⟨[(0, .v (Enc.sl (Enc.int .i64)) a0), (1, .fnc 70 [])], []⟩) (J.cons (.none rfl) (JO.assign rfl) rfl rfl (J.fin (Sw.Sub.mk id (.cons rfl (.of_eq rfl) (.cons rfl (.of_eq rfl) .nil)) .nil rfl))) ?_
  refine W.seq ?_
  obtain ⟨v1, hv1, h⟩ := bind_e h
  refine W.reg (σ' := ⟨[(4, .v Enc.bool (cm .geq v1 (0 : Int)))], []⟩) (J.cons (.none rfl) (JO.move rfl) rfl rfl (J.cons (.none rfl) (JO.move rfl) rfl rfl (J.cons (.none rfl) (JO.call0 (con_slices_IndexFunc_int_int__frame_Check_1 hv1) Try.call91 (.cons (.dir rfl) (.cons (.dir rfl) .nil))) rfl rfl (J.cons (.none rfl) (JO.cmp rfl rfl rfl) rfl rfl (J.cons (.none rfl) (JO.assign rfl) rfl rfl (J.fin (Sw.Sub.mk id (.cons rfl (.of_eq rfl) .nil) .nil rfl))))))) ?_
  refine W.ret ?_
  obtain rfl := Option.some.inj h
  exact XQ.sub (σ' := ⟨[(4, .v Enc.bool (cm .geq v1 (0 : Int)))], []⟩) (Sw.Sub.mk id (.cons rfl (.of_eq rfl) .nil) .nil rfl) (XQ.ret1 noR rfl (RV.tmp rfl) .nil rfl)
set_option maxRecDepth 100000 in
set_option maxHeartbeats 4000000 in
theorem con_frame_Check {a0 : (Int × (List Int) × (List Blk))} {r : (Option Int)} (h : m_frame_Check a0 = some r) :
    Con Try.prog 24 [.v (Enc.pr (Enc.int .i64) (Enc.pr (Enc.sl (Enc.int .i64)) (Enc.sl eBlk))) a0] (.v (Enc.err ET) r) [] := by
  refine Con.of Try.func24 rfl Try.ntmps24 rfl ?_
  intro S w
  unfold m_frame_Check at h
  refine W.seq ?_
  refine W.reg (σ' := ⟨[(1, .ptr 101 0)], [(101, .box 38 [.v (Enc.int .i64) a0.1, .v (Enc.sl (Enc.int .i64)) a0.2.1, .v (Enc.sl eBlk) a0.2.2])]⟩) (J.cons (.none rfl) (JO.box 101 rfl (.prm (.one _ _) (.prm (.one _ _) (.one _ _))) rfl) rfl rfl (J.cons (.none rfl) (JO.assignNilE ET) rfl rfl (J.fin (Sw.Sub.mk id (.cons rfl (.of_eq rfl) .nil) (.box rfl (.cons (.of_eq rfl) (.cons (.of_eq rfl) (.cons (.of_eq rfl) .nil))) .nil) rfl)))) ?_
  refine W.seq ?_
  refine W.seq ?_
  obtain ⟨x2, hx, h⟩ := bind_e h
  refine W.reg (σ' := ⟨[(1, .ptr 101 0), (10, .v Enc.bool x2)], [(101, .box 38 [.v (Enc.int .i64) a0.1, .v (Enc.sl (Enc.int .i64)) a0.2.1, .v (Enc.sl eBlk) a0.2.2])]⟩) ?_ ?_
  · rcases Bool.eq_false_or_eq_true (cm .lss a0.1 (0 : Int)) with hc3 | hc3
    · replace hx := cond_t hc3 hx
      obtain rfl := Option.some.inj hx
      exact (J.cons (.none rfl) (JO.fieldPtr 0 rfl Try.runUnderlying38 rfl Try.sizeOf3 rfl rfl) rfl rfl (J.cons (.none rfl) (JO.load rfl rfl rfl Try.isAgg3 Try.sizeOf3) rfl rfl (J.cons (.none rfl) (JO.cmp rfl rfl rfl) rfl rfl (J.cons (.none rfl) (JO.move rfl) rfl rfl (J.left (GK.unmet 6 rfl rfl rfl hc3) rfl (J.left (GK.unmet 6 rfl rfl rfl hc3) rfl (J.left (GK.unmet 6 rfl rfl rfl hc3) rfl (J.cons (.none rfl) (JO.pT hc3 rfl rfl) rfl rfl (J.fin (Sw.Sub.mk id (.cons rfl (.of_eq rfl) (.cons rfl (.of_eq rfl) .nil)) (.box rfl (.cons (.of_eq rfl) (.cons (.of_eq rfl) (.cons (.of_eq rfl) .nil))) .nil) rfl))))))))))
    · replace hx := cond_f hc3 hx
      obtain rfl := Option.some.inj hx
      exact (J.cons (.none rfl) (JO.fieldPtr 0 rfl Try.runUnderlying38 rfl Try.sizeOf3 rfl rfl) rfl rfl (J.cons (.none rfl) (JO.load rfl rfl rfl Try.isAgg3 Try.sizeOf3) rfl rfl (J.cons (.none rfl) (JO.cmp rfl rfl rfl) rfl rfl (J.cons (.none rfl) (JO.move rfl) rfl rfl (J.cons (GK.met 6 rfl rfl rfl hc3) (JO.fieldPtr 0 rfl Try.runUnderlying38 rfl Try.sizeOf3 rfl rfl) rfl rfl (J.cons (GK.met 6 rfl rfl rfl hc3) (JO.load rfl rfl rfl Try.isAgg3 Try.sizeOf3) rfl rfl (J.cons (GK.met 6 rfl rfl rfl hc3) (JO.cmp rfl rfl rfl) rfl rfl (J.cons (.none rfl) (JO.pF hc3 rfl rfl) rfl rfl (J.fin (Sw.Sub.mk id (.cons rfl (.of_eq rfl) (.cons rfl (.of_eq rfl) .nil)) (.box rfl (.cons (.of_eq rfl) (.cons (.of_eq rfl) (.cons (.of_eq rfl) .nil))) .nil) rfl))))))))))
  rcases Bool.eq_false_or_eq_true x2 with hc4 | hc4
  · replace h := cond_t hc4 h
    refine W.condT rfl hc4 ?_
    refine W.seq ?_
    refine W.reg (σ' := ⟨[(2, .v (Enc.err ET) (some (1 : Int)))], []⟩) (J.cons (.none rfl) (JO.mkErr Try.runUnderlying25 rfl) rfl rfl (J.cons (.none rfl) (JO.assign rfl) rfl rfl (J.fin (Sw.Sub.mk id (.cons rfl (.of_eq rfl) .nil) .nil rfl)))) ?_
    refine W.ret ?_
    obtain rfl := Option.some.inj h
    exact XQ.sub (σ' := ⟨[(2, .v (Enc.err ET) (some (1 : Int)))], []⟩) (Sw.Sub.mk id (.cons rfl (.of_eq rfl) .nil) .nil rfl) (XQ.ret1 noR rfl (RV.tmp rfl) .nil rfl)
  · replace h := cond_f hc4 h
    refine W.condF rfl hc4 ?_
    refine W.skip ?_
    refine W.seq ?_
    refine W.seq ?_
    obtain ⟨x6, hx, h⟩ := bind_e h
    refine W.reg (σ' := ⟨[(1, .ptr 101 0), (21, .v Enc.bool x6)], [(101, .box 38 [.v (Enc.int .i64) a0.1, .v (Enc.sl (Enc.int .i64)) a0.2.1, .v (Enc.sl eBlk) a0.2.2])]⟩) ?_ ?_
    · rcases Bool.eq_false_or_eq_true (cm .gtr (a0.2.1.length : Int) (12 : Int)) with hc7 | hc7
      · replace hx := cond_t hc7 hx
        obtain rfl := Option.some.inj hx
        exact (J.cons (.none rfl) (JO.fieldPtr 1 rfl Try.runUnderlying38 rfl Try.sizeOf36 rfl rfl) rfl rfl (J.cons (.none rfl) (JO.load rfl rfl rfl Try.isAgg36 Try.sizeOf36) rfl rfl (J.cons (.none rfl) (JO.len rfl Try.runUnderlying36) rfl rfl (J.cons (.none rfl) (JO.cmp rfl rfl rfl) rfl rfl (J.cons (.none rfl) (JO.move rfl) rfl rfl (J.left (GK.unmet 16 rfl rfl rfl hc7) rfl (J.left (GK.unmet 16 rfl rfl rfl hc7) rfl (J.left (GK.unmet 16 rfl rfl rfl hc7) rfl (J.left (GK.unmet 16 rfl rfl rfl hc7) rfl (J.cons (.none rfl) (JO.pT hc7 rfl rfl) rfl rfl (J.fin (Sw.Sub.mk id (.cons rfl (.of_eq rfl) (.cons rfl (.of_eq rfl) .nil)) (.box rfl (.cons (.of_eq rfl) (.cons (.of_eq rfl) (.cons (.of_eq rfl) .nil))) .nil) rfl))))))))))))
      · replace hx := cond_f hc7 hx
        obtain rfl := Option.some.inj hx
        exact (J.cons (.none rfl) (JO.fieldPtr 1 rfl Try.runUnderlying38 rfl Try.sizeOf36 rfl rfl) rfl rfl (J.cons (.none rfl) (JO.load rfl rfl rfl Try.isAgg36 Try.sizeOf36) rfl rfl (J.cons (.none rfl) (JO.len rfl Try.runUnderlying36) rfl rfl (J.cons (.none rfl) (JO.cmp rfl rfl rfl) rfl rfl (J.cons (.none rfl) (JO.move rfl) rfl rfl (J.cons (GK.met 16 rfl rfl rfl hc7) (JO.fieldPtr 2 rfl Try.runUnderlying38 rfl Try.sizeOf22 rfl rfl) rfl rfl (J.cons (GK.met 16 rfl rfl rfl hc7) (JO.load rfl rfl rfl Try.isAgg22 Try.sizeOf22) rfl rfl (J.cons (GK.met 16 rfl rfl rfl hc7) (JO.len rfl Try.runUnderlying22) rfl rfl (J.cons (GK.met 16 rfl rfl rfl hc7) (JO.cmp rfl rfl rfl) rfl rfl (J.cons (.none rfl) (JO.pF hc7 rfl rfl) rfl rfl (J.fin (Sw.Sub.mk id (.cons rfl (.of_eq rfl) (.cons rfl (.of_eq rfl) .nil)) (.box rfl (.cons (.of_eq rfl) (.cons (.of_eq rfl) (.cons (.of_eq rfl) .nil))) .nil) rfl))))))))))))
    rcases Bool.eq_false_or_eq_true x6 with hc8 | hc8
    · replace h := cond_t hc8 h
      refine W.condT rfl hc8 ?_
      refine W.seq ?_
      refine W.reg (σ' := ⟨[(2, .v (Enc.err ET) (some (2 : Int)))], []⟩) (J.cons (.none rfl) (JO.mkErr Try.runUnderlying25 rfl) rfl rfl (J.cons (.none rfl) (JO.assign rfl) rfl rfl (J.fin (Sw.Sub.mk id (.cons rfl (.of_eq rfl) .nil) .nil rfl)))) ?_
      refine W.ret ?_
      obtain rfl := Option.some.inj h
      exact XQ.sub (σ' := ⟨[(2, .v (Enc.err ET) (some (2 : Int)))], []⟩) (Sw.Sub.mk id (.cons rfl (.of_eq rfl) .nil) .nil rfl) (XQ.ret1 noR rfl (RV.tmp rfl) .nil rfl)
    · replace h := cond_f hc8 h
      refine W.condF rfl hc8 ?_
      refine W.skip ?_
      refine W.seq ?_
      refine W.seq ?_
      obtain ⟨v9, hv9, h⟩ := bind_e h
      refine W.reg (σ' := ⟨[(25, .v Enc.bool v9)], []⟩) (J.cons (.none rfl) (JO.fieldPtr 1 rfl Try.runUnderlying38 rfl Try.sizeOf36 rfl rfl) rfl rfl (J.cons (.none rfl) (JO.load rfl rfl rfl Try.isAgg36 Try.sizeOf36) rfl rfl (J.cons (.none rfl) (JO.call0 (con_slices_ContainsFunc_int_int__frame_Check_1 hv9) Try.call69 (.cons (.dir rfl) (.cons .fn .nil))) rfl rfl (J.fin (Sw.Sub.mk id (.cons rfl (.of_eq rfl) .nil) .nil rfl))))) ?_
      rcases Bool.eq_false_or_eq_true v9 with hc10 | hc10
      · replace h := cond_t hc10 h
        refine W.condT rfl hc10 ?_
        refine W.seq ?_
        refine W.reg (σ' := ⟨[(2, .v (Enc.err ET) (some (1 : Int)))], []⟩) (J.cons (.none rfl) (JO.mkErr Try.runUnderlying25 rfl) rfl rfl (J.cons (.none rfl) (JO.assign rfl) rfl rfl (J.fin (Sw.Sub.mk id (.cons rfl (.of_eq rfl) .nil) .nil rfl)))) ?_
        refine W.ret ?_
        obtain rfl := Option.some.inj h
        exact XQ.sub (σ' := ⟨[(2, .v (Enc.err ET) (some (1 : Int)))], []⟩) (Sw.Sub.mk id (.cons rfl (.of_eq rfl) .nil) .nil rfl) (XQ.ret1 noR rfl (RV.tmp rfl) .nil rfl)
      · replace h := cond_f hc10 h
        refine W.condF rfl hc10 ?_
        refine W.skip ?_
        refine W.seq ?_
        refine W.reg (σ' := ⟨[(2, .v (Enc.err ET) (none : Option Int))], []⟩) (J.cons (.none rfl) (JO.assignNilE ET) rfl rfl (J.fin (Sw.Sub.mk id (.cons rfl (.of_eq rfl) .nil) .nil rfl))) ?_
        refine W.ret ?_
        obtain rfl := Option.some.inj h
        exact XQ.sub (σ' := ⟨[(2, .v (Enc.err ET) (none : Option Int))], []⟩) (Sw.Sub.mk id (.cons rfl (.of_eq rfl) .nil) .nil rfl) (XQ.ret1 noR rfl (RV.tmp rfl) .nil rfl)
set_option maxRecDepth 100000 in
set_option maxHeartbeats 4000000 in
theorem con_frame_Sum {a0 : (List Int)} {r : Int} (h : m_frame_Sum a0 = some r) :
    Con Try.prog 33 [.v (Enc.sl (Enc.int .u8)) a0] (.v (Enc.int .u32) r) [] := by
  refine Con.of Try.func33 rfl Try.ntmps33 rfl ?_
  intro S w
  unfold m_frame_Sum at h
  refine W.seq ?_
  refine W.reg (σ' := ⟨[(0, .v (Enc.sl (Enc.int .u8)) a0)], []⟩) (J.cons (.none rfl) (JO.assign rfl) rfl rfl (J.fin (Sw.Sub.mk id (.cons rfl (.of_eq rfl) .nil) .nil rfl))) ?_
  refine W.seq ?_
  refine W.reg (σ' := ⟨[(0, .v (Enc.sl (Enc.int .u8)) a0), (3, .v (Enc.int .u32) (4294967295 : Int))], []⟩) (J.cons (.none rfl) (JO.assign rfl) rfl rfl (J.fin (Sw.Sub.mk id (.cons rfl (.of_eq rfl) (.cons rfl (.of_eq rfl) .nil)) .nil rfl))) ?_
  refine W.seq ?_
  refine W.seq ?_
  refine W.reg (σ' := ⟨[(3, .v (Enc.int .u32) (4294967295 : Int)), (6, .v (Enc.sl (Enc.int .u8)) a0), (7, .v (Enc.int .i64) (a0.length : Int)), (8, .v (Enc.int .i64) (0 : Int))], []⟩) (J.cons (.none rfl) (JO.move rfl) rfl rfl (J.cons (.none rfl) (JO.len rfl Try.runUnderlying40) rfl rfl (J.cons (.none rfl) (JO.move rfl) rfl rfl (J.fin (Sw.Sub.mk id (.cons rfl (.of_eq rfl) (.cons rfl (.of_eq rfl) (.cons rfl (.of_eq rfl) (.cons rfl (.of_eq rfl) .nil)))) .nil rfl))))) ?_
  obtain ⟨o37, ho37, hb37, hr37⟩ := lp_elim h
  refine W.lp (σs := fun s25 : Int × Int => ⟨[(3, .v (Enc.int .u32) s25.1), (6, .v (Enc.sl (Enc.int .u8)) a0), (7, .v (Enc.int .i64) (a0.length : Int)), (8, .v (Enc.int .i64) s25.2)], []⟩) (fun x38 : Int => ⟨[(3, .v (Enc.int .u32) x38)], []⟩) ho37 (Sw.Sub.mk id (.cons rfl (.of_eq rfl) (.cons rfl (.of_eq rfl) (.cons rfl (.of_eq rfl) (.cons rfl (.of_eq rfl) .nil)))) .nil rfl) ?_ ?_
  · intro x38 hy
    have h := hb37 _ hy
    refine W.seq ?_
    refine W.reg (σ' := ⟨[(2, .v (Enc.int .u32) (bnot .u32 x38))], []⟩) (J.cons (.none rfl) (JO.move rfl) rfl rfl (J.cons (.none rfl) (JO.xor rfl) rfl rfl (J.cons (.none rfl) (JO.assign rfl) rfl rfl (J.fin (Sw.Sub.mk id (.cons rfl (.of_eq rfl) .nil) .nil rfl))))) ?_
    refine W.ret ?_
    obtain rfl := Option.some.inj h
    exact XQ.sub (σ' := ⟨[(2, .v (Enc.int .u32) (bnot .u32 x38))], []⟩) (Sw.Sub.mk id (.cons rfl (.of_eq rfl) .nil) .nil rfl) (XQ.ret1 noR rfl (RV.tmp rfl) .nil rfl)
  intro s25 r37 h
  refine W.seq ?_
  refine W.reg (σ' := ⟨[(3, .v (Enc.int .u32) s25.1), (6, .v (Enc.sl (Enc.int .u8)) a0), (7, .v (Enc.int .i64) (a0.length : Int)), (8, .v (Enc.int .i64) s25.2), (9, .v Enc.bool (cm .lss s25.2 (a0.length : Int)))], []⟩) (J.cons (.none rfl) (JO.cmp rfl rfl rfl) rfl rfl (J.fin (Sw.Sub.mk id (.cons rfl (.of_eq rfl) (.cons rfl (.of_eq rfl) (.cons rfl (.of_eq rfl) (.cons rfl (.of_eq rfl) (.cons rfl (.of_eq rfl) .nil))))) .nil rfl))) ?_
  refine W.seq ?_
  rcases Bool.eq_false_or_eq_true (cm .lss s25.2 (a0.length : Int)) with hc39 | hc39
  · replace h := cond_t hc39 h
    refine W.condT rfl hc39 ?_
    refine W.skip ?_
    refine W.seq ?_
    refine W.block ?_
    refine W.seq ?_
    obtain ⟨z40, hz40, h⟩ := bind_e h
    refine W.reg (σ' := ⟨[(3, .v (Enc.int .u32) s25.1), (5, .v (Enc.int .u8) z40), (6, .v (Enc.sl (Enc.int .u8)) a0), (7, .v (Enc.int .i64) (a0.length : Int)), (8, .v (Enc.int .i64) s25.2)], []⟩) (J.cons (.none rfl) (JO.idx hz40 rfl rfl Try.runUnderlying40 Try.sizeOf5) rfl rfl (J.cons (.none rfl) (JO.loadPst rfl Try.isAgg5 Try.sizeOf5) rfl rfl (J.cons (.none rfl) (JO.assign rfl) rfl rfl (J.fin (Sw.Sub.mk id (.cons rfl (.of_eq rfl) (.cons rfl (.of_eq rfl) (.cons rfl (.of_eq rfl) (.cons rfl (.of_eq rfl) (.cons rfl (.of_eq rfl) .nil))))) .nil rfl))))) ?_
    refine W.seq ?_
    refine W.reg (σ' := ⟨[(3, .v (Enc.int .u32) (ar .xor .u32 s25.1 z40)), (6, .v (Enc.sl (Enc.int .u8)) a0), (7, .v (Enc.int .i64) (a0.length : Int)), (8, .v (Enc.int .i64) s25.2)], []⟩) (J.cons (.none rfl) (JO.move rfl) rfl rfl (J.cons (.none rfl) (JO.move rfl) rfl rfl (J.cons (.none rfl) (JO.convUp Try.runUnderlying5 Try.runUnderlying61 rfl rfl) rfl rfl (J.cons (.none rfl) (JO.arith rfl rfl rfl) rfl rfl (J.cons (.none rfl) (JO.assign rfl) rfl rfl (J.fin (Sw.Sub.mk id (.cons rfl (.of_eq rfl) (.cons rfl (.of_eq rfl) (.cons rfl (.of_eq rfl) (.cons rfl (.of_eq rfl) .nil)))) .nil rfl))))))) ?_
    refine W.seq ?_
    refine W.reg (σ' := ⟨[(3, .v (Enc.int .u32) (ar .xor .u32 s25.1 z40)), (6, .v (Enc.sl (Enc.int .u8)) a0), (7, .v (Enc.int .i64) (a0.length : Int)), (8, .v (Enc.int .i64) s25.2), (16, .v (Enc.int .i64) (0 : Int))], []⟩) (J.cons (.none rfl) (JO.move rfl) rfl rfl (J.fin (Sw.Sub.mk id (.cons rfl (.of_eq rfl) (.cons rfl (.of_eq rfl) (.cons rfl (.of_eq rfl) (.cons rfl (.of_eq rfl) (.cons rfl (.of_eq rfl) .nil))))) .nil rfl))) ?_
    obtain ⟨o47, ho47, hb47, hr47⟩ := lp_elim h
    refine W.lp (σs := fun s45 : Int × Int => ⟨[(3, .v (Enc.int .u32) s45.1), (6, .v (Enc.sl (Enc.int .u8)) a0), (7, .v (Enc.int .i64) (a0.length : Int)), (8, .v (Enc.int .i64) s25.2), (16, .v (Enc.int .i64) s45.2)], []⟩) (fun x48 : Int => ⟨[(3, .v (Enc.int .u32) x48), (6, .v (Enc.sl (Enc.int .u8)) a0), (7, .v (Enc.int .i64) (a0.length : Int)), (8, .v (Enc.int .i64) s25.2)], []⟩) ho47 (Sw.Sub.mk id (.cons rfl (.of_eq rfl) (.cons rfl (.of_eq rfl) (.cons rfl (.of_eq rfl) (.cons rfl (.of_eq rfl) (.cons rfl (.of_eq rfl) .nil))))) .nil rfl) ?_ ?_
    · intro x48 hy
      have h := hb47 _ hy
      refine W.fall ?_
      refine W.reg (σ' := ⟨[(3, .v (Enc.int .u32) x48), (6, .v (Enc.sl (Enc.int .u8)) a0), (7, .v (Enc.int .i64) (a0.length : Int)), (8, .v (Enc.int .i64) (ar .add .i64 s25.2 (1 : Int)))], []⟩) (J.cons (.none rfl) (JO.arith rfl rfl rfl) rfl rfl (J.cons (.none rfl) (JO.move rfl) rfl rfl (J.fin (Sw.Sub.mk id (.cons rfl (.of_eq rfl) (.cons rfl (.of_eq rfl) (.cons rfl (.of_eq rfl) (.cons rfl (.of_eq rfl) .nil)))) .nil rfl)))) ?_
      obtain rfl := Option.some.inj h
      exact W.next (Sw.Sub.mk id (.cons rfl (.of_eq rfl) (.cons rfl (.of_eq rfl) (.cons rfl (.of_eq rfl) (.cons rfl (.of_eq rfl) .nil)))) .nil rfl)
    intro s45 r47 h
    refine W.seq ?_
    refine W.reg (σ' := ⟨[(3, .v (Enc.int .u32) s45.1), (6, .v (Enc.sl (Enc.int .u8)) a0), (7, .v (Enc.int .i64) (a0.length : Int)), (8, .v (Enc.int .i64) s25.2), (16, .v (Enc.int .i64) s45.2), (17, .v Enc.bool (cm .lss s45.2 (8 : Int)))], []⟩) (J.cons (.none rfl) (JO.cmp rfl rfl rfl) rfl rfl (J.fin (Sw.Sub.mk id (.cons rfl (.of_eq rfl) (.cons rfl (.of_eq rfl) (.cons rfl (.of_eq rfl) (.cons rfl (.of_eq rfl) (.cons rfl (.of_eq rfl) (.cons rfl (.of_eq rfl) .nil)))))) .nil rfl))) ?_
    refine W.seq ?_
    rcases Bool.eq_false_or_eq_true (cm .lss s45.2 (8 : Int)) with hc49 | hc49
    · replace h := cond_t hc49 h
      refine W.condT rfl hc49 ?_
      refine W.skip ?_
      refine W.seq ?_
      refine W.block ?_
      refine W.reg (σ' := ⟨[(3, .v (Enc.int .u32) (ar .xor .u32 (sh .shr .u32 s45.1 (1 : Int)) (ar .mul .u32 (3988292384 : Int) (ar .and .u32 s45.1 (1 : Int))))), (6, .v (Enc.sl (Enc.int .u8)) a0), (7, .v (Enc.int .i64) (a0.length : Int)), (8, .v (Enc.int .i64) s25.2), (16, .v (Enc.int .i64) s45.2)], []⟩) (J.cons (.none rfl) (JO.move rfl) rfl rfl (J.cons (.none rfl) (JO.shift (.inr rfl) (by decide) rfl rfl) rfl rfl (J.cons (.none rfl) (JO.move rfl) rfl rfl (J.cons (.none rfl) (JO.arith rfl rfl rfl) rfl rfl (J.cons (.none rfl) (JO.arith rfl rfl rfl) rfl rfl (J.cons (.none rfl) (JO.arith rfl rfl rfl) rfl rfl (J.cons (.none rfl) (JO.assign rfl) rfl rfl (J.fin (Sw.Sub.mk id (.cons rfl (.of_eq rfl) (.cons rfl (.of_eq rfl) (.cons rfl (.of_eq rfl) (.cons rfl (.of_eq rfl) (.cons rfl (.of_eq rfl) .nil))))) .nil rfl))))))))) ?_
      refine W.fall ?_
      refine W.reg (σ' := ⟨[(3, .v (Enc.int .u32) (ar .xor .u32 (sh .shr .u32 s45.1 (1 : Int)) (ar .mul .u32 (3988292384 : Int) (ar .and .u32 s45.1 (1 : Int))))), (6, .v (Enc.sl (Enc.int .u8)) a0), (7, .v (Enc.int .i64) (a0.length : Int)), (8, .v (Enc.int .i64) s25.2), (16, .v (Enc.int .i64) (ar .add .i64 s45.2 (1 : Int)))], []⟩) (J.cons (.none rfl) (JO.arith rfl rfl rfl) rfl rfl (J.cons (.none rfl) (JO.move rfl) rfl rfl (J.fin (Sw.Sub.mk id (.cons rfl (.of_eq rfl) (.cons rfl (.of_eq rfl) (.cons rfl (.of_eq rfl) (.cons rfl (.of_eq rfl) (.cons rfl (.of_eq rfl) .nil))))) .nil rfl)))) ?_
      obtain rfl := Option.some.inj h
      exact W.next (Sw.Sub.mk id (.cons rfl (.of_eq rfl) (.cons rfl (.of_eq rfl) (.cons rfl (.of_eq rfl) (.cons rfl (.of_eq rfl) (.cons rfl (.of_eq rfl) .nil))))) .nil rfl)
    · replace h := cond_f hc49 h
      refine W.condF rfl hc49 ?_
      refine W.exit ?_
      obtain rfl := Option.some.inj h
      exact XQ.brk (Sw.Sub.mk id (.cons rfl (.of_eq rfl) (.cons rfl (.of_eq rfl) (.cons rfl (.of_eq rfl) (.cons rfl (.of_eq rfl) .nil)))) .nil rfl)
  · replace h := cond_f hc39 h
    refine W.condF rfl hc39 ?_
    refine W.exit ?_
    obtain rfl := Option.some.inj h
    exact XQ.brk (Sw.Sub.mk id (.cons rfl (.of_eq rfl) .nil) .nil rfl)
set_option maxRecDepth 100000 in
set_option maxHeartbeats 4000000 in
theorem con_frame_Pack {a0 : (Int × (List Int) × (List Blk))} {r : (List Int) × (Option Int)} (h : m_frame_Pack a0 = some r) :
    Con Try.prog 23 [.v (Enc.pr (Enc.int .i64) (Enc.pr (Enc.sl (Enc.int .i64)) (Enc.sl eBlk))) a0] (.tup [.v (Enc.sl (Enc.int .u8)) r.1, .v (Enc.err ET) r.2]) [] := by
  refine Con.of Try.func23 rfl Try.ntmps23 rfl ?_
  intro S w
  unfold m_frame_Pack at h
  refine W.seq ?_
  refine W.reg (σ' := ⟨[(1, .ptr 101 0)], [(101, .box 38 [.v (Enc.int .i64) a0.1, .v (Enc.sl (Enc.int .i64)) a0.2.1, .v (Enc.sl eBlk) a0.2.2])]⟩) (J.cons (.none rfl) (JO.box 101 rfl (.prm (.one _ _) (.prm (.one _ _) (.one _ _))) rfl) rfl rfl (J.cons (.none rfl) (JO.assignNil (Enc.int .u8)) rfl rfl (J.cons (.none rfl) (JO.assignNilE ET) rfl rfl (J.fin (Sw.Sub.mk id (.cons rfl (.of_eq rfl) .nil) (.box rfl (.cons (.of_eq rfl) (.cons (.of_eq rfl) (.cons (.of_eq rfl) .nil))) .nil) rfl))))) ?_
  refine W.seq ?_
  refine W.seq ?_
  obtain ⟨v1, hv1, h⟩ := bind_e h
  refine W.reg (σ' := ⟨[(1, .ptr 101 0), (4, .v (Enc.err ET) v1)], [(101, .box 38 [.v (Enc.int .i64) a0.1, .v (Enc.sl (Enc.int .i64)) a0.2.1, .v (Enc.sl eBlk) a0.2.2])]⟩) (J.cons (.none rfl) (JO.loadAll rfl rfl (.prm (.one _ _) (.prm (.one _ _) (.one _ _))) Try.isAgg38 Try.sizeOf38) rfl rfl (J.cons (.none rfl) (JO.call0 (con_frame_Check hv1) Try.call24 (.cons (.dir rfl) .nil)) rfl rfl (J.cons (.none rfl) (JO.assign rfl) rfl rfl (J.fin (Sw.Sub.mk id (.cons rfl (.of_eq rfl) (.cons rfl (.of_eq rfl) .nil)) (.box rfl (.cons (.of_eq rfl) (.cons (.of_eq rfl) (.cons (.of_eq rfl) .nil))) .nil) rfl))))) ?_
  refine W.seq ?_
  refine W.reg (σ' := ⟨[(1, .ptr 101 0), (4, .v (Enc.err ET) v1), (14, .v Enc.bool (Option.isSome v1))], [(101, .box 38 [.v (Enc.int .i64) a0.1, .v (Enc.sl (Enc.int .i64)) a0.2.1, .v (Enc.sl eBlk) a0.2.2])]⟩) (J.cons (.none rfl) (JO.move rfl) rfl rfl (J.cons (.none rfl) (JO.errNe Try.runUnderlying29 rfl) rfl rfl (J.fin (Sw.Sub.mk id (.cons rfl (.of_eq rfl) (.cons rfl (.of_eq rfl) (.cons rfl (.of_eq rfl) .nil))) (.box rfl (.cons (.of_eq rfl) (.cons (.of_eq rfl) (.cons (.of_eq rfl) .nil))) .nil) rfl)))) ?_
  rcases Bool.eq_false_or_eq_true (Option.isSome v1) with hc2 | hc2
  · replace h := cond_t hc2 h
    refine W.condT rfl hc2 ?_
    refine W.seq ?_
    refine W.reg (σ' := ⟨[(2, .v (Enc.sl (Enc.int .u8)) ([] : (List Int))), (3, .v (Enc.err ET) v1)], []⟩) (J.cons (.none rfl) (JO.move rfl) rfl rfl (J.cons (.none rfl) (JO.assignNil (Enc.int .u8)) rfl rfl (J.cons (.none rfl) (JO.assign rfl) rfl rfl (J.fin (Sw.Sub.mk id (.cons rfl (.of_eq rfl) (.cons rfl (.of_eq rfl) .nil)) .nil rfl))))) ?_
    refine W.ret ?_
    obtain rfl := Option.some.inj h
    exact XQ.sub (σ' := ⟨[(2, .v (Enc.sl (Enc.int .u8)) ([] : (List Int))), (3, .v (Enc.err ET) v1)], []⟩) (Sw.Sub.mk id (.cons rfl (.of_eq rfl) (.cons rfl (.of_eq rfl) .nil)) .nil rfl) (XQ.ret2 noR rfl (RV.tmp rfl) (RV.tmp rfl) .nil rfl)
  · replace h := cond_f hc2 h
    refine W.condF rfl hc2 ?_
    refine W.skip ?_
    refine W.seq ?_
    refine W.reg (σ' := ⟨[(1, .ptr 101 0), (5, .ref 103)], [(101, .box 38 [.v (Enc.int .i64) a0.1, .v (Enc.sl (Enc.int .i64)) a0.2.1, .v (Enc.sl eBlk) a0.2.2]), (103, .arr 5 (Enc.int .u8) ([(ar .or .u8 (sh .shl .u8 (IntKind.wrap .u8 a0.1) (4 : Int)) (IntKind.wrap .u8 (a0.2.1.length : Int))), (IntKind.wrap .u8 (a0.2.2.length : Int))] : (List Int)))]⟩) (J.cons (.none rfl) (JO.fieldPtr 0 rfl Try.runUnderlying38 rfl Try.sizeOf3 rfl rfl) rfl rfl (J.cons (.none rfl) (JO.load rfl rfl rfl Try.isAgg3 Try.sizeOf3) rfl rfl (J.cons (.none rfl) (JO.conv Try.runUnderlying3 Try.runUnderlying5 rfl) rfl rfl (J.cons (.none rfl) (JO.shift (.inl rfl) (by decide) rfl rfl) rfl rfl (J.cons (.none rfl) (JO.fieldPtr 1 rfl Try.runUnderlying38 rfl Try.sizeOf36 rfl rfl) rfl rfl (J.cons (.none rfl) (JO.load rfl rfl rfl Try.isAgg36 Try.sizeOf36) rfl rfl (J.cons (.none rfl) (JO.len rfl Try.runUnderlying36) rfl rfl (J.cons (.none rfl) (JO.conv Try.runUnderlying3 Try.runUnderlying5 rfl) rfl rfl (J.cons (.none rfl) (JO.arith rfl rfl rfl) rfl rfl (J.cons (.none rfl) (JO.fieldPtr 2 rfl Try.runUnderlying38 rfl Try.sizeOf22 rfl rfl) rfl rfl (J.cons (.none rfl) (JO.load rfl rfl rfl Try.isAgg22 Try.sizeOf22) rfl rfl (J.cons (.none rfl) (JO.len rfl Try.runUnderlying22) rfl rfl (J.cons (.none rfl) (JO.conv Try.runUnderlying3 Try.runUnderlying5 rfl) rfl rfl (J.cons (.none rfl) (JO.litR (e := (Enc.int .u8)) 103 Try.runUnderlying40 Try.sizeOf5 Try.zeroValue5 rfl rfl rfl rfl (.cons (.dir rfl) (.cons (.dir rfl) .nil))) rfl rfl (J.cons (.none rfl) (JO.assign rfl) rfl rfl (J.fin (Sw.Sub.mk id (.cons rfl (.of_eq rfl) (.cons rfl (.of_eq rfl) .nil)) (.box rfl (.cons (.of_eq rfl) (.cons (.of_eq rfl) (.cons (.of_eq rfl) .nil))) (.arr rfl .nil)) rfl))))))))))))))))) ?_
    refine W.seq ?_
    refine W.seq ?_
    refine W.reg (σ' := ⟨[(1, .ptr 101 0), (5, .ref 103), (31, .v (Enc.sl (Enc.int .i64)) a0.2.1), (32, .v (Enc.int .i64) (a0.2.1.length : Int)), (33, .v (Enc.int .i64) (0 : Int))], [(101, .box 38 [.v (Enc.int .i64) a0.1, .v (Enc.sl (Enc.int .i64)) a0.2.1, .v (Enc.sl eBlk) a0.2.2]), (103, .arr 5 (Enc.int .u8) ([(ar .or .u8 (sh .shl .u8 (IntKind.wrap .u8 a0.1) (4 : Int)) (IntKind.wrap .u8 (a0.2.1.length : Int))), (IntKind.wrap .u8 (a0.2.2.length : Int))] : (List Int)))]⟩) (J.cons (.none rfl) (JO.fieldPtr 1 rfl Try.runUnderlying38 rfl Try.sizeOf36 rfl rfl) rfl rfl (J.cons (.none rfl) (JO.load rfl rfl rfl Try.isAgg36 Try.sizeOf36) rfl rfl (J.cons (.none rfl) (JO.len rfl Try.runUnderlying36) rfl rfl (J.cons (.none rfl) (JO.move rfl) rfl rfl (J.fin (Sw.Sub.mk id (.cons rfl (.of_eq rfl) (.cons rfl (.of_eq rfl) (.cons rfl (.of_eq rfl) (.cons rfl (.of_eq rfl) (.cons rfl (.of_eq rfl) .nil))))) (.box rfl (.cons (.of_eq rfl) (.cons (.of_eq rfl) (.cons (.of_eq rfl) .nil))) (.arr rfl .nil)) rfl)))))) ?_
    obtain ⟨o54, ho54, hb54, hr54⟩ := lp_elim h
    refine W.lp (σs := fun s37 : Int × (List Int) => ⟨[(1, .ptr 101 0), (5, .ref 125), (31, .v (Enc.sl (Enc.int .i64)) a0.2.1), (32, .v (Enc.int .i64) (a0.2.1.length : Int)), (33, .v (Enc.int .i64) s37.1)], [(101, .box 38 [.v (Enc.int .i64) a0.1, .v (Enc.sl (Enc.int .i64)) a0.2.1, .v (Enc.sl eBlk) a0.2.2]), (125, .arr 5 (Enc.int .u8) s37.2)]⟩) (fun x55 : (List Int) => ⟨[(1, .ptr 101 0), (5, .ref 125)], [(101, .box 38 [.v (Enc.int .i64) a0.1, .v (Enc.sl (Enc.int .i64)) a0.2.1, .v (Enc.sl eBlk) a0.2.2]), (125, .arr 5 (Enc.int .u8) x55)]⟩) ho54 (Sw.Sub.mk (rn [(101, 101), (125, 103)]) (.cons rfl (.of_eq rfl) (.cons rfl (.of_eq rfl) (.cons rfl (.of_eq rfl) (.cons rfl (.of_eq rfl) (.cons rfl (.of_eq rfl) .nil))))) (.box rfl (.cons (.of_eq rfl) (.cons (.of_eq rfl) (.cons (.of_eq rfl) .nil))) (.arr rfl .nil)) rfl) ?_ ?_
    · intro x55 hy
      have h := hb54 _ hy
      refine W.seq ?_
      refine W.seq ?_
      refine W.reg (σ' := ⟨[(5, .ref 125), (54, .v (Enc.sl eBlk) a0.2.2), (55, .v (Enc.int .i64) (a0.2.2.length : Int)), (56, .v (Enc.int .i64) (0 : Int))], [(125, .arr 5 (Enc.int .u8) x55)]⟩) (J.cons (.none rfl) (JO.fieldPtr 2 rfl Try.runUnderlying38 rfl Try.sizeOf22 rfl rfl) rfl rfl (J.cons (.none rfl) (JO.load rfl rfl rfl Try.isAgg22 Try.sizeOf22) rfl rfl (J.cons (.none rfl) (JO.len rfl Try.runUnderlying22) rfl rfl (J.cons (.none rfl) (JO.move rfl) rfl rfl (J.fin (Sw.Sub.mk id (.cons rfl (.of_eq rfl) (.cons rfl (.of_eq rfl) (.cons rfl (.of_eq rfl) (.cons rfl (.of_eq rfl) .nil)))) (.arr rfl .nil) rfl)))))) ?_
      obtain ⟨o84, ho84, hb84, hr84⟩ := lp_elim h
      refine W.lp (σs := fun s80 : Int × (List Int) => ⟨[(5, .ref 151), (54, .v (Enc.sl eBlk) a0.2.2), (55, .v (Enc.int .i64) (a0.2.2.length : Int)), (56, .v (Enc.int .i64) s80.1)], [(151, .arr 5 (Enc.int .u8) s80.2)]⟩) (fun x85 : (List Int) => ⟨[(5, .ref 151)], [(151, .arr 5 (Enc.int .u8) x85)]⟩) ho84 (Sw.Sub.mk (rn [(151, 125)]) (.cons rfl (.of_eq rfl) (.cons rfl (.of_eq rfl) (.cons rfl (.of_eq rfl) (.cons rfl (.of_eq rfl) .nil)))) (.arr rfl .nil) rfl) ?_ ?_
      · intro x85 hy
        have h := hb84 _ hy
        refine W.seq ?_
        obtain ⟨v89, hv89, h⟩ := bind_e h
        refine W.reg (σ' := ⟨[(5, .ref 151), (10, .v (Enc.int .u32) v89)], [(151, .arr 5 (Enc.int .u8) x85)]⟩) (J.cons (.none rfl) (JO.move rfl) rfl rfl (J.cons (.none rfl) (JO.callL0 (con_frame_Sum hv89) Try.call33 (.cons (.ref rfl rfl) .nil) FlatS.v) rfl rfl (J.cons (.none rfl) (JO.assign rfl) rfl rfl (J.fin (Sw.Sub.mk id (.cons rfl (.of_eq rfl) (.cons rfl (.of_eq rfl) .nil)) (.arr rfl .nil) rfl))))) ?_
        refine W.seq ?_
        obtain ⟨v90, hv90, h⟩ := bind_e h
        refine W.reg (σ' := ⟨[(2, .ref 157), (3, .v (Enc.err ET) (none : Option Int))], [(157, .arr 5 (Enc.int .u8) v90)]⟩) (J.cons (.none rfl) (JO.move rfl) rfl rfl (J.cons (.none rfl) (JO.move rfl) rfl rfl (J.cons (.none rfl) (JO.shift (.inr rfl) (by decide) rfl rfl) rfl rfl (J.cons (.none rfl) (JO.conv Try.runUnderlying61 Try.runUnderlying5 rfl) rfl rfl (J.cons (.none rfl) (JO.move rfl) rfl rfl (J.cons (.none rfl) (JO.shift (.inr rfl) (by decide) rfl rfl) rfl rfl (J.cons (.none rfl) (JO.conv Try.runUnderlying61 Try.runUnderlying5 rfl) rfl rfl (J.cons (.none rfl) (JO.move rfl) rfl rfl (J.cons (.none rfl) (JO.shift (.inr rfl) (by decide) rfl rfl) rfl rfl (J.cons (.none rfl) (JO.conv Try.runUnderlying61 Try.runUnderlying5 rfl) rfl rfl (J.cons (.none rfl) (JO.move rfl) rfl rfl (J.cons (.none rfl) (JO.conv Try.runUnderlying61 Try.runUnderlying5 rfl) rfl rfl (J.cons (.none rfl) (JO.lit (e := (Enc.int .u8)) Try.runUnderlying40 Try.sizeOf5 Try.zeroValue5 rfl rfl rfl rfl (.cons (.dir rfl) (.cons (.dir rfl) (.cons (.dir rfl) (.cons (.dir rfl) .nil))))) rfl rfl (J.mut (.none rfl) (JM.append 157 hv90 rfl rfl (.sl rfl) Try.runUnderlying40 Try.typeInfo5 Try.sizeOf5 rfl rfl rfl rfl rfl) (J.cons (.none rfl) (JO.assign rfl) rfl rfl (J.cons (.none rfl) (JO.assignNilE ET) rfl rfl (J.fin (Sw.Sub.mk id (.cons rfl (.of_eq rfl) (.cons rfl (.of_eq rfl) .nil)) (.arr rfl .nil) rfl)))))))))))))))))) ?_
        refine W.ret ?_
        obtain rfl := Option.some.inj h
        exact XQ.sub (σ' := ⟨[(2, .v (Enc.sl (Enc.int .u8)) v90), (3, .v (Enc.err ET) (none : Option Int))], []⟩) (Sw.Sub.mk id (.cons rfl (.frz rfl rfl) (.cons rfl (.of_eq rfl) .nil)) .nil rfl) (XQ.ret2 noR rfl (RV.tmp rfl) (RV.tmp rfl) .nil rfl)
      intro s80 r84 h
      refine W.seq ?_
      refine W.reg (σ' := ⟨[(5, .ref 151), (54, .v (Enc.sl eBlk) a0.2.2), (55, .v (Enc.int .i64) (a0.2.2.length : Int)), (56, .v (Enc.int .i64) s80.1), (57, .v Enc.bool (cm .lss s80.1 (a0.2.2.length : Int)))], [(151, .arr 5 (Enc.int .u8) s80.2)]⟩) (J.cons (.none rfl) (JO.cmp rfl rfl rfl) rfl rfl (J.fin (Sw.Sub.mk id (.cons rfl (.of_eq rfl) (.cons rfl (.of_eq rfl) (.cons rfl (.of_eq rfl) (.cons rfl (.of_eq rfl) (.cons rfl (.of_eq rfl) .nil))))) (.arr rfl .nil) rfl))) ?_
      refine W.seq ?_
      rcases Bool.eq_false_or_eq_true (cm .lss s80.1 (a0.2.2.length : Int)) with hc86 | hc86
      · replace h := cond_t hc86 h
        refine W.condT rfl hc86 ?_
        refine W.skip ?_
        refine W.seq ?_
        refine W.block ?_
        refine W.seq ?_
        obtain ⟨z87, hz87, h⟩ := bind_e h
        refine W.reg (σ' := ⟨[(5, .ref 151), (9, .ptr 154 0), (54, .v (Enc.sl eBlk) a0.2.2), (55, .v (Enc.int .i64) (a0.2.2.length : Int)), (56, .v (Enc.int .i64) s80.1)], [(151, .arr 5 (Enc.int .u8) s80.2), (154, .box 24 [.v eBlk z87])]⟩) (J.cons (.none rfl) (JO.idx hz87 rfl rfl Try.runUnderlying22 Try.sizeOf24) rfl rfl (J.cons (.none rfl) (JO.loadPst rfl Try.isAgg24 Try.sizeOf24) rfl rfl (J.cons (.none rfl) (JO.alloc 154 Try.zeroValue24 rfl (.cons (Z.arr 8 (Z.int .u8)) .nil) rfl) rfl rfl (J.mut (.none rfl) (JM.store rfl rfl rfl rfl rfl rfl rfl Try.sizeOf24) (J.fin (Sw.Sub.mk id (.cons rfl (.of_eq rfl) (.cons rfl (.of_eq rfl) (.cons rfl (.of_eq rfl) (.cons rfl (.of_eq rfl) (.cons rfl (.of_eq rfl) .nil))))) (.arr rfl (.box rfl (.cons (.of_eq rfl) .nil) .nil)) rfl)))))) ?_
        obtain ⟨v88, hv88, h⟩ := bind_e h
        refine W.reg (σ' := ⟨[(5, .ref 155), (54, .v (Enc.sl eBlk) a0.2.2), (55, .v (Enc.int .i64) (a0.2.2.length : Int)), (56, .v (Enc.int .i64) s80.1)], [(155, .arr 5 (Enc.int .u8) v88)]⟩) (J.cons (.none rfl) (JO.move rfl) rfl rfl (J.cons (.none rfl) (JO.aslAll rfl rfl rfl Try.runUnderlying24 Try.sizeOf5) rfl rfl (J.mut (.none rfl) (JM.append 155 hv88 rfl rfl (.asl rfl rfl rfl rfl) Try.runUnderlying40 Try.typeInfo5 Try.sizeOf5 rfl rfl rfl rfl rfl) (J.cons (.none rfl) (JO.assign rfl) rfl rfl (J.fin (Sw.Sub.mk id (.cons rfl (.of_eq rfl) (.cons rfl (.of_eq rfl) (.cons rfl (.of_eq rfl) (.cons rfl (.of_eq rfl) .nil)))) (.arr rfl .nil) rfl)))))) ?_
        refine W.fall ?_
        refine W.reg (σ' := ⟨[(5, .ref 155), (54, .v (Enc.sl eBlk) a0.2.2), (55, .v (Enc.int .i64) (a0.2.2.length : Int)), (56, .v (Enc.int .i64) (ar .add .i64 s80.1 (1 : Int)))], [(155, .arr 5 (Enc.int .u8) v88)]⟩) (J.cons (.none rfl) (JO.arith rfl rfl rfl) rfl rfl (J.cons (.none rfl) (JO.move rfl) rfl rfl (J.fin (Sw.Sub.mk id (.cons rfl (.of_eq rfl) (.cons rfl (.of_eq rfl) (.cons rfl (.of_eq rfl) (.cons rfl (.of_eq rfl) .nil)))) (.arr rfl .nil) rfl)))) ?_
        obtain rfl := Option.some.inj h
        exact W.next (Sw.Sub.mk (rn [(151, 155)]) (.cons rfl (.of_eq rfl) (.cons rfl (.of_eq rfl) (.cons rfl (.of_eq rfl) (.cons rfl (.of_eq rfl) .nil)))) (.arr rfl .nil) rfl)
      · replace h := cond_f hc86 h
        refine W.condF rfl hc86 ?_
        refine W.exit ?_
        obtain rfl := Option.some.inj h
        exact XQ.brk (Sw.Sub.mk id (.cons rfl (.of_eq rfl) .nil) (.arr rfl .nil) rfl)
    intro s37 r54 h
    refine W.seq ?_
    refine W.reg (σ' := ⟨[(1, .ptr 101 0), (5, .ref 125), (31, .v (Enc.sl (Enc.int .i64)) a0.2.1), (32, .v (Enc.int .i64) (a0.2.1.length : Int)), (33, .v (Enc.int .i64) s37.1), (34, .v Enc.bool (cm .lss s37.1 (a0.2.1.length : Int)))], [(101, .box 38 [.v (Enc.int .i64) a0.1, .v (Enc.sl (Enc.int .i64)) a0.2.1, .v (Enc.sl eBlk) a0.2.2]), (125, .arr 5 (Enc.int .u8) s37.2)]⟩) (J.cons (.none rfl) (JO.cmp rfl rfl rfl) rfl rfl (J.fin (Sw.Sub.mk id (.cons rfl (.of_eq rfl) (.cons rfl (.of_eq rfl) (.cons rfl (.of_eq rfl) (.cons rfl (.of_eq rfl) (.cons rfl (.of_eq rfl) (.cons rfl (.of_eq rfl) .nil)))))) (.box rfl (.cons (.of_eq rfl) (.cons (.of_eq rfl) (.cons (.of_eq rfl) .nil))) (.arr rfl .nil)) rfl))) ?_
    refine W.seq ?_
    rcases Bool.eq_false_or_eq_true (cm .lss s37.1 (a0.2.1.length : Int)) with hc56 | hc56
    · replace h := cond_t hc56 h
      refine W.condT rfl hc56 ?_
      refine W.skip ?_
      refine W.seq ?_
      refine W.block ?_
      refine W.seq ?_
      obtain ⟨z57, hz57, h⟩ := bind_e h
      refine W.reg (σ' := ⟨[(1, .ptr 101 0), (5, .ref 125), (7, .v (Enc.int .i64) z57), (31, .v (Enc.sl (Enc.int .i64)) a0.2.1), (32, .v (Enc.int .i64) (a0.2.1.length : Int)), (33, .v (Enc.int .i64) s37.1)], [(101, .box 38 [.v (Enc.int .i64) a0.1, .v (Enc.sl (Enc.int .i64)) a0.2.1, .v (Enc.sl eBlk) a0.2.2]), (125, .arr 5 (Enc.int .u8) s37.2)]⟩) (J.cons (.none rfl) (JO.idx hz57 rfl rfl Try.runUnderlying36 Try.sizeOf3) rfl rfl (J.cons (.none rfl) (JO.loadPst rfl Try.isAgg3 Try.sizeOf3) rfl rfl (J.cons (.none rfl) (JO.assign rfl) rfl rfl (J.fin (Sw.Sub.mk id (.cons rfl (.of_eq rfl) (.cons rfl (.of_eq rfl) (.cons rfl (.of_eq rfl) (.cons rfl (.of_eq rfl) (.cons rfl (.of_eq rfl) (.cons rfl (.of_eq rfl) .nil)))))) (.box rfl (.cons (.of_eq rfl) (.cons (.of_eq rfl) (.cons (.of_eq rfl) .nil))) (.arr rfl .nil)) rfl))))) ?_
      refine W.seq ?_
      obtain ⟨o67, ho67, hb67, hr67⟩ := lp_elim h
      refine W.lp (σs := fun s64 : Int × (List Int) => ⟨[(1, .ptr 101 0), (5, .ref 140), (7, .v (Enc.int .i64) s64.1), (31, .v (Enc.sl (Enc.int .i64)) a0.2.1), (32, .v (Enc.int .i64) (a0.2.1.length : Int)), (33, .v (Enc.int .i64) s37.1)], [(101, .box 38 [.v (Enc.int .i64) a0.1, .v (Enc.sl (Enc.int .i64)) a0.2.1, .v (Enc.sl eBlk) a0.2.2]), (140, .arr 5 (Enc.int .u8) s64.2)]⟩) (fun x68 : Int × (List Int) => ⟨[(1, .ptr 101 0), (5, .ref 140), (7, .v (Enc.int .i64) x68.1), (31, .v (Enc.sl (Enc.int .i64)) a0.2.1), (32, .v (Enc.int .i64) (a0.2.1.length : Int)), (33, .v (Enc.int .i64) s37.1)], [(101, .box 38 [.v (Enc.int .i64) a0.1, .v (Enc.sl (Enc.int .i64)) a0.2.1, .v (Enc.sl eBlk) a0.2.2]), (140, .arr 5 (Enc.int .u8) x68.2)]⟩) ho67 (Sw.Sub.mk (rn [(101, 101), (140, 125)]) (.cons rfl (.of_eq rfl) (.cons rfl (.of_eq rfl) (.cons rfl (.of_eq rfl) (.cons rfl (.of_eq rfl) (.cons rfl (.of_eq rfl) (.cons rfl (.of_eq rfl) .nil)))))) (.box rfl (.cons (.of_eq rfl) (.cons (.of_eq rfl) (.cons (.of_eq rfl) .nil))) (.arr rfl .nil)) rfl) ?_ ?_
      · intro x68 hy
        have h := hb67 _ hy
        obtain ⟨v71, hv71, h⟩ := bind_e h
        refine W.reg (σ' := ⟨[(1, .ptr 101 0), (5, .ref 143), (31, .v (Enc.sl (Enc.int .i64)) a0.2.1), (32, .v (Enc.int .i64) (a0.2.1.length : Int)), (33, .v (Enc.int .i64) s37.1)], [(101, .box 38 [.v (Enc.int .i64) a0.1, .v (Enc.sl (Enc.int .i64)) a0.2.1, .v (Enc.sl eBlk) a0.2.2]), (143, .arr 5 (Enc.int .u8) v71)]⟩) (J.cons (.none rfl) (JO.move rfl) rfl rfl (J.cons (.none rfl) (JO.move rfl) rfl rfl (J.cons (.none rfl) (JO.conv Try.runUnderlying3 Try.runUnderlying5 rfl) rfl rfl (J.cons (.none rfl) (JO.lit (e := (Enc.int .u8)) Try.runUnderlying40 Try.sizeOf5 Try.zeroValue5 rfl rfl rfl rfl (.cons (.dir rfl) .nil)) rfl rfl (J.mut (.none rfl) (JM.append 143 hv71 rfl rfl (.sl rfl) Try.runUnderlying40 Try.typeInfo5 Try.sizeOf5 rfl rfl rfl rfl rfl) (J.cons (.none rfl) (JO.assign rfl) rfl rfl (J.fin (Sw.Sub.mk id (.cons rfl (.of_eq rfl) (.cons rfl (.of_eq rfl) (.cons rfl (.of_eq rfl) (.cons rfl (.of_eq rfl) (.cons rfl (.of_eq rfl) .nil))))) (.box rfl (.cons (.of_eq rfl) (.cons (.of_eq rfl) (.cons (.of_eq rfl) .nil))) (.arr rfl .nil)) rfl)))))))) ?_
        refine W.fall ?_
        refine W.reg (σ' := ⟨[(1, .ptr 101 0), (5, .ref 143), (31, .v (Enc.sl (Enc.int .i64)) a0.2.1), (32, .v (Enc.int .i64) (a0.2.1.length : Int)), (33, .v (Enc.int .i64) (ar .add .i64 s37.1 (1 : Int)))], [(101, .box 38 [.v (Enc.int .i64) a0.1, .v (Enc.sl (Enc.int .i64)) a0.2.1, .v (Enc.sl eBlk) a0.2.2]), (143, .arr 5 (Enc.int .u8) v71)]⟩) (J.cons (.none rfl) (JO.arith rfl rfl rfl) rfl rfl (J.cons (.none rfl) (JO.move rfl) rfl rfl (J.fin (Sw.Sub.mk id (.cons rfl (.of_eq rfl) (.cons rfl (.of_eq rfl) (.cons rfl (.of_eq rfl) (.cons rfl (.of_eq rfl) (.cons rfl (.of_eq rfl) .nil))))) (.box rfl (.cons (.of_eq rfl) (.cons (.of_eq rfl) (.cons (.of_eq rfl) .nil))) (.arr rfl .nil)) rfl)))) ?_
        obtain rfl := Option.some.inj h
        exact W.next (Sw.Sub.mk (rn [(101, 101), (125, 143)]) (.cons rfl (.of_eq rfl) (.cons rfl (.of_eq rfl) (.cons rfl (.of_eq rfl) (.cons rfl (.of_eq rfl) (.cons rfl (.of_eq rfl) .nil))))) (.box rfl (.cons (.of_eq rfl) (.cons (.of_eq rfl) (.cons (.of_eq rfl) .nil))) (.arr rfl .nil)) rfl)
      intro s64 r67 h
      refine W.seq ?_
      refine W.seq ?_
      refine W.reg (σ' := ⟨[(1, .ptr 101 0), (5, .ref 140), (7, .v (Enc.int .i64) s64.1), (31, .v (Enc.sl (Enc.int .i64)) a0.2.1), (32, .v (Enc.int .i64) (a0.2.1.length : Int)), (33, .v (Enc.int .i64) s37.1), (38, .v Enc.bool (cm .gtr s64.1 (127 : Int)))], [(101, .box 38 [.v (Enc.int .i64) a0.1, .v (Enc.sl (Enc.int .i64)) a0.2.1, .v (Enc.sl eBlk) a0.2.2]), (140, .arr 5 (Enc.int .u8) s64.2)]⟩) (J.cons (.none rfl) (JO.move rfl) rfl rfl (J.cons (.none rfl) (JO.cmp rfl rfl rfl) rfl rfl (J.fin (Sw.Sub.mk id (.cons rfl (.of_eq rfl) (.cons rfl (.of_eq rfl) (.cons rfl (.of_eq rfl) (.cons rfl (.of_eq rfl) (.cons rfl (.of_eq rfl) (.cons rfl (.of_eq rfl) (.cons rfl (.of_eq rfl) .nil))))))) (.box rfl (.cons (.of_eq rfl) (.cons (.of_eq rfl) (.cons (.of_eq rfl) .nil))) (.arr rfl .nil)) rfl)))) ?_
      rcases Bool.eq_false_or_eq_true (cm .gtr s64.1 (127 : Int)) with hc69 | hc69
      · replace h := cond_t hc69 h
        refine W.condT rfl hc69 ?_
        refine W.skip ?_
        refine W.seq ?_
        refine W.block ?_
        obtain ⟨v70, hv70, h⟩ := bind_e h
        refine W.reg (σ' := ⟨[(1, .ptr 101 0), (5, .ref 142), (7, .v (Enc.int .i64) s64.1), (31, .v (Enc.sl (Enc.int .i64)) a0.2.1), (32, .v (Enc.int .i64) (a0.2.1.length : Int)), (33, .v (Enc.int .i64) s37.1)], [(101, .box 38 [.v (Enc.int .i64) a0.1, .v (Enc.sl (Enc.int .i64)) a0.2.1, .v (Enc.sl eBlk) a0.2.2]), (142, .arr 5 (Enc.int .u8) v70)]⟩) (J.cons (.none rfl) (JO.move rfl) rfl rfl (J.cons (.none rfl) (JO.move rfl) rfl rfl (J.cons (.none rfl) (JO.conv Try.runUnderlying3 Try.runUnderlying5 rfl) rfl rfl (J.cons (.none rfl) (JO.arith rfl rfl rfl) rfl rfl (J.cons (.none rfl) (JO.lit (e := (Enc.int .u8)) Try.runUnderlying40 Try.sizeOf5 Try.zeroValue5 rfl rfl rfl rfl (.cons (.dir rfl) .nil)) rfl rfl (J.mut (.none rfl) (JM.append 142 hv70 rfl rfl (.sl rfl) Try.runUnderlying40 Try.typeInfo5 Try.sizeOf5 rfl rfl rfl rfl rfl) (J.cons (.none rfl) (JO.assign rfl) rfl rfl (J.fin (Sw.Sub.mk id (.cons rfl (.of_eq rfl) (.cons rfl (.of_eq rfl) (.cons rfl (.of_eq rfl) (.cons rfl (.of_eq rfl) (.cons rfl (.of_eq rfl) (.cons rfl (.of_eq rfl) .nil)))))) (.box rfl (.cons (.of_eq rfl) (.cons (.of_eq rfl) (.cons (.of_eq rfl) .nil))) (.arr rfl .nil)) rfl))))))))) ?_
        refine W.fall ?_
        refine W.reg (σ' := ⟨[(1, .ptr 101 0), (5, .ref 142), (7, .v (Enc.int .i64) (sh .shr .i64 s64.1 (7 : Int))), (31, .v (Enc.sl (Enc.int .i64)) a0.2.1), (32, .v (Enc.int .i64) (a0.2.1.length : Int)), (33, .v (Enc.int .i64) s37.1)], [(101, .box 38 [.v (Enc.int .i64) a0.1, .v (Enc.sl (Enc.int .i64)) a0.2.1, .v (Enc.sl eBlk) a0.2.2]), (142, .arr 5 (Enc.int .u8) v70)]⟩) (J.cons (.none rfl) (JO.move rfl) rfl rfl (J.cons (.none rfl) (JO.shift (.inr rfl) (by decide) rfl rfl) rfl rfl (J.cons (.none rfl) (JO.assign rfl) rfl rfl (J.fin (Sw.Sub.mk id (.cons rfl (.of_eq rfl) (.cons rfl (.of_eq rfl) (.cons rfl (.of_eq rfl) (.cons rfl (.of_eq rfl) (.cons rfl (.of_eq rfl) (.cons rfl (.of_eq rfl) .nil)))))) (.box rfl (.cons (.of_eq rfl) (.cons (.of_eq rfl) (.cons (.of_eq rfl) .nil))) (.arr rfl .nil)) rfl))))) ?_
        obtain rfl := Option.some.inj h
        exact W.next (Sw.Sub.mk (rn [(101, 101), (140, 142)]) (.cons rfl (.of_eq rfl) (.cons rfl (.of_eq rfl) (.cons rfl (.of_eq rfl) (.cons rfl (.of_eq rfl) (.cons rfl (.of_eq rfl) (.cons rfl (.of_eq rfl) .nil)))))) (.box rfl (.cons (.of_eq rfl) (.cons (.of_eq rfl) (.cons (.of_eq rfl) .nil))) (.arr rfl .nil)) rfl)
      · replace h := cond_f hc69 h
        refine W.condF rfl hc69 ?_
        refine W.exit ?_
        obtain rfl := Option.some.inj h
        exact XQ.brk (Sw.Sub.mk id (.cons rfl (.of_eq rfl) (.cons rfl (.of_eq rfl) (.cons rfl (.of_eq rfl) (.cons rfl (.of_eq rfl) (.cons rfl (.of_eq rfl) (.cons rfl (.of_eq rfl) .nil)))))) (.box rfl (.cons (.of_eq rfl) (.cons (.of_eq rfl) (.cons (.of_eq rfl) .nil))) (.arr rfl .nil)) rfl)
    · replace h := cond_f hc56 h
      refine W.condF rfl hc56 ?_
      refine W.exit ?_
      obtain rfl := Option.some.inj h
      exact XQ.brk (Sw.Sub.mk id (.cons rfl (.of_eq rfl) (.cons rfl (.of_eq rfl) .nil)) (.box rfl (.cons (.of_eq rfl) (.cons (.of_eq rfl) (.cons (.of_eq rfl) .nil))) (.arr rfl .nil)) rfl)
set_option maxRecDepth 100000 in
set_option maxHeartbeats 4000000 in
theorem con_ref_Is {a0 : (Option Int)} {a1 : Int} {r : Bool} (h : m_ref_Is a0 a1 = some r) :
    Con Try.prog 18 [.v (Enc.err ET) a0, .v (Enc.int .i64) a1] (.v Enc.bool r) [] := by
  refine Con.of Try.func18 rfl Try.ntmps18 rfl ?_
  intro S w
  unfold m_ref_Is at h
  refine W.seq ?_
  refine W.reg (σ' := ⟨[(0, .v (Enc.err ET) a0), (1, .v (Enc.int .i64) a1)], []⟩) (J.cons (.none rfl) (JO.assign rfl) rfl rfl (J.fin (Sw.Sub.mk id (.cons rfl (.of_eq rfl) (.cons rfl (.of_eq rfl) .nil)) .nil rfl))) ?_
  refine W.seq ?_
  refine W.seq ?_
  refine W.reg (σ' := ⟨[(0, .v (Enc.err ET) a0), (1, .v (Enc.int .i64) a1), (6, .v Enc.bool (Option.isNone a0))], []⟩) (J.cons (.none rfl) (JO.move rfl) rfl rfl (J.cons (.none rfl) (JO.errEq Try.runUnderlying29 rfl) rfl rfl (J.fin (Sw.Sub.mk id (.cons rfl (.of_eq rfl) (.cons rfl (.of_eq rfl) (.cons rfl (.of_eq rfl) .nil))) .nil rfl)))) ?_
  rcases Bool.eq_false_or_eq_true (Option.isNone a0) with hc1 | hc1
  · replace h := cond_t hc1 h
    refine W.condT rfl hc1 ?_
    refine W.seq ?_
    refine W.reg (σ' := ⟨[(4, .v Enc.bool (cm .eql a1 (0 : Int)))], []⟩) (J.cons (.none rfl) (JO.move rfl) rfl rfl (J.cons (.none rfl) (JO.cmp rfl rfl rfl) rfl rfl (J.cons (.none rfl) (JO.assign rfl) rfl rfl (J.fin (Sw.Sub.mk id (.cons rfl (.of_eq rfl) .nil) .nil rfl))))) ?_
    refine W.ret ?_
    obtain rfl := Option.some.inj h
    exact XQ.sub (σ' := ⟨[(4, .v Enc.bool (cm .eql a1 (0 : Int)))], []⟩) (Sw.Sub.mk id (.cons rfl (.of_eq rfl) .nil) .nil rfl) (XQ.ret1 noR rfl (RV.tmp rfl) .nil rfl)
  · replace h := cond_f hc1 h
    refine W.condF rfl hc1 ?_
    refine W.skip ?_
    refine W.seq ?_
    obtain ⟨x3, hx, h⟩ := bind_e h
    refine W.reg (σ' := ⟨[(4, .v Enc.bool x3)], []⟩) ?_ ?_
    · rcases Bool.eq_false_or_eq_true (cm .neq a1 (0 : Int)) with hc4 | hc4
      · replace hx := cond_t hc4 hx
        obtain rfl := Option.some.inj hx
        exact (J.cons (.none rfl) (JO.move rfl) rfl rfl (J.cons (.none rfl) (JO.cmp rfl rfl rfl) rfl rfl (J.cons (.none rfl) (JO.move rfl) rfl rfl (J.cons (GK.met 11 rfl rfl rfl hc4) (JO.move rfl) rfl rfl (J.cons (GK.met 11 rfl rfl rfl hc4) (JO.move rfl) rfl rfl (J.cons (GK.met 11 rfl rfl rfl hc4) (JO.mkErr Try.runUnderlying25 rfl) rfl rfl (J.cons (GK.met 11 rfl rfl rfl hc4) (JO.errEq2 Try.runUnderlying29 Try.runUnderlying25 Try.typeInfo25 rfl rfl rfl) rfl rfl (J.cons (.none rfl) (JO.pT hc4 rfl rfl) rfl rfl (J.cons (.none rfl) (JO.assign rfl) rfl rfl (J.fin (Sw.Sub.mk id (.cons rfl (.of_eq rfl) .nil) .nil rfl)))))))))))
      · replace hx := cond_f hc4 hx
        obtain rfl := Option.some.inj hx
        exact (J.cons (.none rfl) (JO.move rfl) rfl rfl (J.cons (.none rfl) (JO.cmp rfl rfl rfl) rfl rfl (J.cons (.none rfl) (JO.move rfl) rfl rfl (J.left (GK.unmet 11 rfl rfl rfl hc4) rfl (J.left (GK.unmet 11 rfl rfl rfl hc4) rfl (J.left (GK.unmet 11 rfl rfl rfl hc4) rfl (J.left (GK.unmet 11 rfl rfl rfl hc4) rfl (J.cons (.none rfl) (JO.pF hc4 rfl rfl) rfl rfl (J.cons (.none rfl) (JO.assign rfl) rfl rfl (J.fin (Sw.Sub.mk id (.cons rfl (.of_eq rfl) .nil) .nil rfl)))))))))))
    refine W.ret ?_
    obtain rfl := Option.some.inj h
    exact XQ.sub (σ' := ⟨[(4, .v Enc.bool x3)], []⟩) (Sw.Sub.mk id (.cons rfl (.of_eq rfl) .nil) .nil rfl) (XQ.ret1 noR rfl (RV.tmp rfl) .nil rfl)
set_option maxRecDepth 100000 in
set_option maxHeartbeats 4000000 in
theorem con_ref_SameBytes {a0 : (List Int)} {a1 : (List Int)} {r : Bool} (h : m_ref_SameBytes a0 a1 = some r) :
    Con Try.prog 25 [.v (Enc.sl (Enc.int .u8)) a0, .v (Enc.sl (Enc.int .u8)) a1] (.v Enc.bool r) [] := by
  refine Con.of Try.func25 rfl Try.ntmps25 rfl ?_
  intro S w
  unfold m_ref_SameBytes at h
  refine W.seq ?_
  refine W.reg (σ' := ⟨[(0, .v (Enc.sl (Enc.int .u8)) a0), (1, .v (Enc.sl (Enc.int .u8)) a1)], []⟩) (J.cons (.none rfl) (JO.assign rfl) rfl rfl (J.fin (Sw.Sub.mk id (.cons rfl (.of_eq rfl) (.cons rfl (.of_eq rfl) .nil)) .nil rfl))) ?_
  refine W.seq ?_
  refine W.seq ?_
  refine W.reg (σ' := ⟨[(0, .v (Enc.sl (Enc.int .u8)) a0), (1, .v (Enc.sl (Enc.int .u8)) a1), (10, .v Enc.bool (cm .neq (a0.length : Int) (a1.length : Int)))], []⟩) (J.cons (.none rfl) (JO.move rfl) rfl rfl (J.cons (.none rfl) (JO.len rfl Try.runUnderlying40) rfl rfl (J.cons (.none rfl) (JO.move rfl) rfl rfl (J.cons (.none rfl) (JO.len rfl Try.runUnderlying40) rfl rfl (J.cons (.none rfl) (JO.cmp rfl rfl rfl) rfl rfl (J.fin (Sw.Sub.mk id (.cons rfl (.of_eq rfl) (.cons rfl (.of_eq rfl) (.cons rfl (.of_eq rfl) .nil))) .nil rfl))))))) ?_
  rcases Bool.eq_false_or_eq_true (cm .neq (a0.length : Int) (a1.length : Int)) with hc1 | hc1
  · replace h := cond_t hc1 h
    refine W.condT rfl hc1 ?_
    refine W.seq ?_
    refine W.reg (σ' := ⟨[(4, .v Enc.bool false)], []⟩) (J.cons (.none rfl) (JO.assign rfl) rfl rfl (J.fin (Sw.Sub.mk id (.cons rfl (.of_eq rfl) .nil) .nil rfl))) ?_
    refine W.ret ?_
    obtain rfl := Option.some.inj h
    exact XQ.sub (σ' := ⟨[(4, .v Enc.bool false)], []⟩) (Sw.Sub.mk id (.cons rfl (.of_eq rfl) .nil) .nil rfl) (XQ.ret1 noR rfl (RV.tmp rfl) .nil rfl)
  · replace h := cond_f hc1 h
    refine W.condF rfl hc1 ?_
    refine W.skip ?_
    refine W.seq ?_
    refine W.seq ?_
    refine W.reg (σ' := ⟨[(0, .v (Enc.sl (Enc.int .u8)) a0), (1, .v (Enc.sl (Enc.int .u8)) a1), (5, .v (Enc.int .i64) (0 : Int))], []⟩) (J.cons (.none rfl) (JO.assign rfl) rfl rfl (J.fin (Sw.Sub.mk id (.cons rfl (.of_eq rfl) (.cons rfl (.of_eq rfl) (.cons rfl (.of_eq rfl) .nil))) .nil rfl))) ?_
    obtain ⟨o17, ho17, hb17, hr17⟩ := lp_elim h
    refine W.lp (σs := fun s12 : Int => ⟨[(0, .v (Enc.sl (Enc.int .u8)) a0), (1, .v (Enc.sl (Enc.int .u8)) a1), (5, .v (Enc.int .i64) s12)], []⟩) (fun x18 : Unit => ⟨[], []⟩) ho17 (Sw.Sub.mk id (.cons rfl (.of_eq rfl) (.cons rfl (.of_eq rfl) (.cons rfl (.of_eq rfl) .nil))) .nil rfl) ?_ ?_
    · intro x18 hy
      have h := hb17 _ hy
      refine W.seq ?_
      refine W.reg (σ' := ⟨[(4, .v Enc.bool true)], []⟩) (J.cons (.none rfl) (JO.assign rfl) rfl rfl (J.fin (Sw.Sub.mk id (.cons rfl (.of_eq rfl) .nil) .nil rfl))) ?_
      refine W.ret ?_
      obtain rfl := Option.some.inj h
      exact XQ.sub (σ' := ⟨[(4, .v Enc.bool true)], []⟩) (Sw.Sub.mk id (.cons rfl (.of_eq rfl) .nil) .nil rfl) (XQ.ret1 noR rfl (RV.tmp rfl) .nil rfl)
    intro s12 r17 h
    refine W.seq ?_
    refine W.seq ?_
    refine W.reg (σ' := ⟨[(0, .v (Enc.sl (Enc.int .u8)) a0), (1, .v (Enc.sl (Enc.int .u8)) a1), (5, .v (Enc.int .i64) s12), (14, .v Enc.bool (cm .lss s12 (a0.length : Int)))], []⟩) (J.cons (.none rfl) (JO.move rfl) rfl rfl (J.cons (.none rfl) (JO.move rfl) rfl rfl (J.cons (.none rfl) (JO.len rfl Try.runUnderlying40) rfl rfl (J.cons (.none rfl) (JO.cmp rfl rfl rfl) rfl rfl (J.fin (Sw.Sub.mk id (.cons rfl (.of_eq rfl) (.cons rfl (.of_eq rfl) (.cons rfl (.of_eq rfl) (.cons rfl (.of_eq rfl) .nil)))) .nil rfl)))))) ?_
    rcases Bool.eq_false_or_eq_true (cm .lss s12 (a0.length : Int)) with hc19 | hc19
    · replace h := cond_t hc19 h
      refine W.condT rfl hc19 ?_
      refine W.skip ?_
      refine W.seq ?_
      refine W.block ?_
      refine W.seq ?_
      obtain ⟨z20, hz20, h⟩ := bind_e h
      obtain ⟨z21, hz21, h⟩ := bind_e h
      refine W.draw (σ' := ⟨[(0, .v (Enc.sl (Enc.int .u8)) a0), (1, .v (Enc.sl (Enc.int .u8)) a1), (5, .v (Enc.int .i64) s12), (25, .v Enc.bool (cm .neq z20 z21))], []⟩) (n := 9) mixed rfl rfl (by decide +kernel) (by decide +kernel) (.cons (.none rfl) (JO.move rfl) rfl (.cons (.none rfl) (JO.move rfl) rfl (.cons (.none rfl) (JO.idx hz20 rfl rfl Try.runUnderlying40 Try.sizeOf5) rfl (.cons (.none rfl) (JO.loadPst rfl Try.isAgg5 Try.sizeOf5) rfl (.cons (.none rfl) (JO.move rfl) rfl (.cons (.none rfl) (JO.move rfl) rfl (.cons (.none rfl) (JO.idx hz21 rfl rfl Try.runUnderlying40 Try.sizeOf5) rfl (.cons (.none rfl) (JO.loadPst rfl Try.isAgg5 Try.sizeOf5) rfl (.cons (.none rfl) (JO.cmp rfl rfl rfl) rfl .nil))))))))) (J.fin (Sw.Sub.mk id (.cons rfl (.of_eq rfl) (.cons rfl (.of_eq rfl) (.cons rfl (.of_eq rfl) (.cons rfl (.of_eq rfl) .nil)))) .nil rfl)) ?_
      rcases Bool.eq_false_or_eq_true (cm .neq z20 z21) with hc22 | hc22
      · replace h := cond_t hc22 h
        refine W.condT rfl hc22 ?_
        refine W.seq ?_
        refine W.reg (σ' := ⟨[(4, .v Enc.bool false)], []⟩) (J.cons (.none rfl) (JO.assign rfl) rfl rfl (J.fin (Sw.Sub.mk id (.cons rfl (.of_eq rfl) .nil) .nil rfl))) ?_
        refine W.ret ?_
        refine XQ.ret ?_
        obtain rfl := Option.some.inj h
        refine XQ.lret fun ho => ?_
        obtain rfl := hr17 _ ho
        exact XQ.sub (σ' := ⟨[(4, .v Enc.bool false)], []⟩) (Sw.Sub.mk id (.cons rfl (.of_eq rfl) .nil) .nil rfl) (XQ.ret1 noR rfl (RV.tmp rfl) .nil rfl)
      · replace h := cond_f hc22 h
        refine W.condF rfl hc22 ?_
        refine W.skip ?_
        refine W.fall ?_
        refine W.reg (σ' := ⟨[(0, .v (Enc.sl (Enc.int .u8)) a0), (1, .v (Enc.sl (Enc.int .u8)) a1), (5, .v (Enc.int .i64) (ar .add .i64 s12 (1 : Int)))], []⟩) (J.cons (.none rfl) (JO.move rfl) rfl rfl (J.cons (.none rfl) (JO.arith rfl rfl rfl) rfl rfl (J.cons (.none rfl) (JO.assign rfl) rfl rfl (J.fin (Sw.Sub.mk id (.cons rfl (.of_eq rfl) (.cons rfl (.of_eq rfl) (.cons rfl (.of_eq rfl) .nil))) .nil rfl))))) ?_
        obtain rfl := Option.some.inj h
        exact W.next (Sw.Sub.mk id (.cons rfl (.of_eq rfl) (.cons rfl (.of_eq rfl) (.cons rfl (.of_eq rfl) .nil))) .nil rfl)
    · replace h := cond_f hc19 h
      refine W.condF rfl hc19 ?_
      refine W.exit ?_
      obtain rfl := Option.some.inj h
      exact XQ.brk (Sw.Sub.mk id .nil .nil rfl)
set_option maxRecDepth 100000 in
set_option maxHeartbeats 4000000 in
theorem con_law_FrameSays {a0 : (Int × (List Int) × (List Blk))} {r : Bool} (h : m_law_FrameSays a0 = some r) :
    Con Try.prog 4 [.v (Enc.pr (Enc.int .i64) (Enc.pr (Enc.sl (Enc.int .i64)) (Enc.sl eBlk))) a0] (.v Enc.bool r) [] := by
  refine Con.of Try.func4 rfl Try.ntmps4 rfl ?_
  intro S w
  unfold m_law_FrameSays at h
  refine W.seq ?_
  refine W.reg (σ' := ⟨[(1, .ptr 101 0)], [(101, .box 38 [.v (Enc.int .i64) a0.1, .v (Enc.sl (Enc.int .i64)) a0.2.1, .v (Enc.sl eBlk) a0.2.2])]⟩) (J.cons (.none rfl) (JO.box 101 rfl (.prm (.one _ _) (.prm (.one _ _) (.one _ _))) rfl) rfl rfl (J.cons (.none rfl) (JO.assign rfl) rfl rfl (J.fin (Sw.Sub.mk id (.cons rfl (.of_eq rfl) .nil) (.box rfl (.cons (.of_eq rfl) (.cons (.of_eq rfl) (.cons (.of_eq rfl) .nil))) .nil) rfl)))) ?_
  refine W.seq ?_
  obtain ⟨v1, hv1, h⟩ := bind_e h
  refine W.reg (σ' := ⟨[(1, .ptr 101 0), (3, .v (Enc.int .i64) v1)], [(101, .box 38 [.v (Enc.int .i64) a0.1, .v (Enc.sl (Enc.int .i64)) a0.2.1, .v (Enc.sl eBlk) a0.2.2])]⟩) (J.cons (.none rfl) (JO.loadAll rfl rfl (.prm (.one _ _) (.prm (.one _ _) (.one _ _))) Try.isAgg38 Try.sizeOf38) rfl rfl (J.cons (.none rfl) (JO.call0 (con_ref_FrameMay hv1) Try.call21 (.cons (.dir rfl) .nil)) rfl rfl (J.cons (.none rfl) (JO.assign rfl) rfl rfl (J.fin (Sw.Sub.mk id (.cons rfl (.of_eq rfl) (.cons rfl (.of_eq rfl) .nil)) (.box rfl (.cons (.of_eq rfl) (.cons (.of_eq rfl) (.cons (.of_eq rfl) .nil))) .nil) rfl))))) ?_
  refine W.seq ?_
  refine W.reg (σ' := ⟨[(1, .ptr 101 0), (3, .v (Enc.int .i64) v1), (4, .v (Enc.sl (Enc.int .u8)) ([] : (List Int)))], [(101, .box 38 [.v (Enc.int .i64) a0.1, .v (Enc.sl (Enc.int .i64)) a0.2.1, .v (Enc.sl eBlk) a0.2.2])]⟩) (J.cons (.none rfl) (JO.assignNil (Enc.int .u8)) rfl rfl (J.fin (Sw.Sub.mk id (.cons rfl (.of_eq rfl) (.cons rfl (.of_eq rfl) (.cons rfl (.of_eq rfl) .nil))) (.box rfl (.cons (.of_eq rfl) (.cons (.of_eq rfl) (.cons (.of_eq rfl) .nil))) .nil) rfl))) ?_
  refine W.seq ?_
  refine W.seq ?_
  refine W.reg (σ' := ⟨[(1, .ptr 101 0), (3, .v (Enc.int .i64) v1), (4, .v (Enc.sl (Enc.int .u8)) ([] : (List Int))), (10, .v Enc.bool (cm .eql v1 (0 : Int)))], [(101, .box 38 [.v (Enc.int .i64) a0.1, .v (Enc.sl (Enc.int .i64)) a0.2.1, .v (Enc.sl eBlk) a0.2.2])]⟩) (J.cons (.none rfl) (JO.move rfl) rfl rfl (J.cons (.none rfl) (JO.cmp rfl rfl rfl) rfl rfl (J.fin (Sw.Sub.mk id (.cons rfl (.of_eq rfl) (.cons rfl (.of_eq rfl) (.cons rfl (.of_eq rfl) (.cons rfl (.of_eq rfl) .nil)))) (.box rfl (.cons (.of_eq rfl) (.cons (.of_eq rfl) (.cons (.of_eq rfl) .nil))) .nil) rfl)))) ?_
  obtain ⟨k4, hk4, h⟩ := jp_elim h
  refine W.jn (fun x5 : (List Int) => ⟨[(1, .ptr 101 0), (3, .v (Enc.int .i64) v1), (4, .v (Enc.sl (Enc.int .u8)) x5)], [(101, .box 38 [.v (Enc.int .i64) a0.1, .v (Enc.sl (Enc.int .i64)) a0.2.1, .v (Enc.sl eBlk) a0.2.2])]⟩) (fun x => k4 x = some r) rfl ?_ ?_ ?_
  · intro x5 h
    rw [hk4] at h
    refine W.seq ?_
    obtain ⟨v7, hv7, h⟩ := bind_e h
    refine W.reg (σ' := ⟨[(1, .ptr 101 0), (3, .v (Enc.int .i64) v1), (4, .v (Enc.sl (Enc.int .u8)) x5), (5, .v (Enc.sl (Enc.int .u8)) v7.1), (6, .v (Enc.err ET) v7.2)], [(101, .box 38 [.v (Enc.int .i64) a0.1, .v (Enc.sl (Enc.int .i64)) a0.2.1, .v (Enc.sl eBlk) a0.2.2])]⟩) (J.cons (.none rfl) (JO.loadAll rfl rfl (.prm (.one _ _) (.prm (.one _ _) (.one _ _))) Try.isAgg38 Try.sizeOf38) rfl rfl (J.cons (.none rfl) (JO.call0 (con_frame_Pack hv7) Try.call23 (.cons (.dir rfl) .nil)) rfl rfl (J.cons (.none rfl) (JO.move rfl) rfl rfl (J.cons (.none rfl) (JO.extract rfl rfl) rfl rfl (J.cons (.none rfl) (JO.extract rfl rfl) rfl rfl (J.cons (.none rfl) (JO.assign rfl) rfl rfl (J.cons (.none rfl) (JO.assign rfl) rfl rfl (J.fin (Sw.Sub.mk id (.cons rfl (.of_eq rfl) (.cons rfl (.of_eq rfl) (.cons rfl (.of_eq rfl) (.cons rfl (.of_eq rfl) (.cons rfl (.of_eq rfl) .nil))))) (.box rfl (.cons (.of_eq rfl) (.cons (.of_eq rfl) (.cons (.of_eq rfl) .nil))) .nil) rfl))))))))) ?_
    refine W.seq ?_
    obtain ⟨x14, hx, h⟩ := bind_e h
    refine W.reg (σ' := ⟨[(2, .v Enc.bool x14)], []⟩) ?_ ?_
    · obtain ⟨v15, hv15, hx⟩ := bind_e hx
      obtain ⟨v16, hv16, hx⟩ := bind_e hx
      rcases Bool.eq_false_or_eq_true v16 with hc17 | hc17
      · replace hx := cond_t hc17 hx
        obtain ⟨v18, hv18, hx⟩ := bind_e hx
        rcases Bool.eq_false_or_eq_true v18 with hc19 | hc19
        · replace hx := cond_t hc19 hx
          obtain ⟨v20, hv20, hx⟩ := bind_e hx
          obtain rfl := Option.some.inj hx
          exact (J.cons (.none rfl) (JO.loadAll rfl rfl (.prm (.one _ _) (.prm (.one _ _) (.one _ _))) Try.isAgg38 Try.sizeOf38) rfl rfl (J.cons (.none rfl) (JO.call0 (con_frame_Check hv15) Try.call24 (.cons (.dir rfl) .nil)) rfl rfl (J.cons (.none rfl) (JO.move rfl) rfl rfl (J.cons (.none rfl) (JO.call0 (con_ref_Is hv16) Try.call18 (.cons (.dir rfl) (.cons (.dir rfl) .nil))) rfl rfl (J.cons (.none rfl) (JO.move rfl) rfl rfl (J.cons (GK.met 22 rfl rfl rfl hc17) (JO.move rfl) rfl rfl (J.cons (GK.met 22 rfl rfl rfl hc17) (JO.move rfl) rfl rfl (J.cons (GK.met 22 rfl rfl rfl hc17) (JO.call0 (con_ref_Is hv18) Try.call18 (.cons (.dir rfl) (.cons (.dir rfl) .nil))) rfl rfl (J.cons (.none rfl) (JO.pT hc17 rfl rfl) rfl rfl (J.cons (.none rfl) (JO.move rfl) rfl rfl (J.cons (GK.met 27 rfl rfl rfl hc19) (JO.move rfl) rfl rfl (J.cons (GK.met 27 rfl rfl rfl hc19) (JO.move rfl) rfl rfl (J.cons (GK.met 27 rfl rfl rfl hc19) (JO.call0 (con_ref_SameBytes hv20) Try.call25 (.cons (.dir rfl) (.cons (.dir rfl) .nil))) rfl rfl (J.cons (.none rfl) (JO.pT hc19 rfl rfl) rfl rfl (J.cons (.none rfl) (JO.assign rfl) rfl rfl (J.fin (Sw.Sub.mk id (.cons rfl (.of_eq rfl) .nil) .nil rfl)))))))))))))))))
        · replace hx := cond_f hc19 hx
          obtain rfl := Option.some.inj hx
          exact (J.cons (.none rfl) (JO.loadAll rfl rfl (.prm (.one _ _) (.prm (.one _ _) (.one _ _))) Try.isAgg38 Try.sizeOf38) rfl rfl (J.cons (.none rfl) (JO.call0 (con_frame_Check hv15) Try.call24 (.cons (.dir rfl) .nil)) rfl rfl (J.cons (.none rfl) (JO.move rfl) rfl rfl (J.cons (.none rfl) (JO.call0 (con_ref_Is hv16) Try.call18 (.cons (.dir rfl) (.cons (.dir rfl) .nil))) rfl rfl (J.cons (.none rfl) (JO.move rfl) rfl rfl (J.cons (GK.met 22 rfl rfl rfl hc17) (JO.move rfl) rfl rfl (J.cons (GK.met 22 rfl rfl rfl hc17) (JO.move rfl) rfl rfl (J.cons (GK.met 22 rfl rfl rfl hc17) (JO.call0 (con_ref_Is hv18) Try.call18 (.cons (.dir rfl) (.cons (.dir rfl) .nil))) rfl rfl (J.cons (.none rfl) (JO.pT hc17 rfl rfl) rfl rfl (J.cons (.none rfl) (JO.move rfl) rfl rfl (J.left (GK.unmet 27 rfl rfl rfl hc19) rfl (J.left (GK.unmet 27 rfl rfl rfl hc19) rfl (J.left (GK.unmet 27 rfl rfl rfl hc19) rfl (J.cons (.none rfl) (JO.pF hc19 rfl rfl) rfl rfl (J.cons (.none rfl) (JO.assign rfl) rfl rfl (J.fin (Sw.Sub.mk id (.cons rfl (.of_eq rfl) .nil) .nil rfl)))))))))))))))))
      · replace hx := cond_f hc17 hx
        obtain rfl := Option.some.inj hx
        exact (J.cons (.none rfl) (JO.loadAll rfl rfl (.prm (.one _ _) (.prm (.one _ _) (.one _ _))) Try.isAgg38 Try.sizeOf38) rfl rfl (J.cons (.none rfl) (JO.call0 (con_frame_Check hv15) Try.call24 (.cons (.dir rfl) .nil)) rfl rfl (J.cons (.none rfl) (JO.move rfl) rfl rfl (J.cons (.none rfl) (JO.call0 (con_ref_Is hv16) Try.call18 (.cons (.dir rfl) (.cons (.dir rfl) .nil))) rfl rfl (J.cons (.none rfl) (JO.move rfl) rfl rfl (J.left (GK.unmet 22 rfl rfl rfl hc17) rfl (J.left (GK.unmet 22 rfl rfl rfl hc17) rfl (J.left (GK.unmet 22 rfl rfl rfl hc17) rfl (J.cons (.none rfl) (JO.pF hc17 rfl rfl) rfl rfl (J.cons (.none rfl) (JO.move rfl) rfl rfl (J.left (GK.unmet 27 rfl rfl rfl rfl) rfl (J.left (GK.unmet 27 rfl rfl rfl rfl) rfl (J.left (GK.unmet 27 rfl rfl rfl rfl) rfl (J.cons (.none rfl) (JO.pF rfl rfl rfl) rfl rfl (J.cons (.none rfl) (JO.assign rfl) rfl rfl (J.fin (Sw.Sub.mk id (.cons rfl (.of_eq rfl) .nil) .nil rfl)))))))))))))))))
    refine W.ret ?_
    obtain rfl := Option.some.inj h
    exact XQ.sub (σ' := ⟨[(2, .v Enc.bool x14)], []⟩) (Sw.Sub.mk id (.cons rfl (.of_eq rfl) .nil) .nil rfl) (XQ.ret1 noR rfl (RV.tmp rfl) .nil rfl)
  · intro hc2
    replace h := cond_t hc2 h
    obtain ⟨v6, hv6, h⟩ := bind_e h
    refine W.reg (σ' := ⟨[(1, .ptr 101 0), (3, .v (Enc.int .i64) v1), (4, .ref 104000)], [(101, .box 38 [.v (Enc.int .i64) a0.1, .v (Enc.sl (Enc.int .i64)) a0.2.1, .v (Enc.sl eBlk) a0.2.2]), (104000, .arr 5 (Enc.int .u8) v6)]⟩) (J.cons (.none rfl) (JO.loadAll rfl rfl (.prm (.one _ _) (.prm (.one _ _) (.one _ _))) Try.isAgg38 Try.sizeOf38) rfl rfl (J.cons (.none rfl) (JO.call 104000 (con_ref_Packed hv6) Try.call22 (.cons (.dir rfl) .nil) rfl) rfl rfl (J.cons (.none rfl) (JO.assign rfl) rfl rfl (J.fin (Sw.Sub.mk id (.cons rfl (.of_eq rfl) (.cons rfl (.of_eq rfl) (.cons rfl (.of_eq rfl) .nil))) (.box rfl (.cons (.of_eq rfl) (.cons (.of_eq rfl) (.cons (.of_eq rfl) .nil))) (.arr rfl .nil)) rfl))))) ?_
    exact W.jfall h (Sw.Sub.mk id (.cons rfl (.of_eq rfl) (.cons rfl (.of_eq rfl) (.cons rfl (.frz rfl rfl) .nil))) (.box rfl (.cons (.of_eq rfl) (.cons (.of_eq rfl) (.cons (.of_eq rfl) .nil))) .nil) rfl)
  · intro hc2
    replace h := cond_f hc2 h
    refine W.skip ?_
    exact W.jfall h (Sw.Sub.mk id (.cons rfl (.of_eq rfl) (.cons rfl (.of_eq rfl) (.cons rfl (.of_eq rfl) .nil))) (.box rfl (.cons (.of_eq rfl) (.cons (.of_eq rfl) (.cons (.of_eq rfl) .nil))) .nil) rfl)
end Go.Cn
