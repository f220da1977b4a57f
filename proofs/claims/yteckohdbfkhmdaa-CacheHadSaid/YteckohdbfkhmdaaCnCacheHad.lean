/- The functions that this law reaches come to what their models come to. Conditions: none. -/
import Derived.Test.YteckohdbfkhmdaaMoCacheHad
import Derived.Test.YteckohdbfkhmdaaChecked
namespace Go.Cn
open Go Go.Sw Go.Mo Go.Proofs
abbrev ET : Nat := 25
theorem mixed : Try.prog.follows .mixedOrders = true := Try.checked.mixed
theorem eq24 : EqE 2 Try.prog 24 eBlk := EqE.arr Try.runUnderlying24 Try.sizeOf5 Try.isAgg5 (EqE.int Try.underlying5)
theorem key24 : KeyE 2 Try.prog 24 eBlk := KeyE.arr Try.runUnderlying24 Try.sizeOf5 Try.isAgg5 (KeyE.int Try.runUnderlying5)
set_option maxRecDepth 100000 in
set_option maxHeartbeats 4000000 in
theorem con_ref_First {a0 : (List Blk)} {a1 : Blk} {r : Int} (h : m_ref_First a0 a1 = some r) :
    Con Try.prog 68 [.v (Enc.sl eBlk) a0, .v eBlk a1] (.v (Enc.int .i64) r) [] := by
  refine Con.of Try.func68 rfl Try.ntmps68 rfl ?_
  intro S w
  unfold m_ref_First at h
  refine W.seq ?_
  refine W.reg (σ' := ⟨[(0, .v (Enc.sl eBlk) a0), (3, .ptr 101 0)], [(101, .box 24 [.v eBlk a1])]⟩) (J.cons (.none rfl) (JO.box 101 rfl (.one _ _) rfl) rfl rfl (J.cons (.none rfl) (JO.assign rfl) rfl rfl (J.fin (Sw.Sub.mk id (.cons rfl (.of_eq rfl) (.cons rfl (.of_eq rfl) .nil)) (.box rfl (.cons (.of_eq rfl) .nil) .nil) rfl)))) ?_
  refine W.seq ?_
  refine W.seq ?_
  refine W.reg (σ' := ⟨[(0, .v (Enc.sl eBlk) a0), (3, .ptr 101 0), (5, .v (Enc.int .i64) (0 : Int))], [(101, .box 24 [.v eBlk a1])]⟩) (J.cons (.none rfl) (JO.assign rfl) rfl rfl (J.fin (Sw.Sub.mk id (.cons rfl (.of_eq rfl) (.cons rfl (.of_eq rfl) (.cons rfl (.of_eq rfl) .nil))) (.box rfl (.cons (.of_eq rfl) .nil) .nil) rfl))) ?_
  obtain ⟨o13, ho13, hb13, hr13⟩ := lp_elim h
  refine W.lp (σs := fun s9 : Int => ⟨[(0, .v (Enc.sl eBlk) a0), (3, .ptr 101 0), (5, .v (Enc.int .i64) s9)], [(101, .box 24 [.v eBlk a1])]⟩) (fun x14 : Unit => ⟨[], []⟩) ho13 (Sw.Sub.mk id (.cons rfl (.of_eq rfl) (.cons rfl (.of_eq rfl) (.cons rfl (.of_eq rfl) .nil))) (.box rfl (.cons (.of_eq rfl) .nil) .nil) rfl) ?_ ?_
  · intro x14 hy
    have h := hb13 _ hy
    refine W.seq ?_
    refine W.reg (σ' := ⟨[(4, .v (Enc.int .i64) (-1 : Int))], []⟩) (J.cons (.none rfl) (JO.assign rfl) rfl rfl (J.fin (Sw.Sub.mk id (.cons rfl (.of_eq rfl) .nil) .nil rfl))) ?_
    refine W.ret ?_
    obtain rfl := Option.some.inj h
    exact XQ.sub (σ' := ⟨[(4, .v (Enc.int .i64) (-1 : Int))], []⟩) (Sw.Sub.mk id (.cons rfl (.of_eq rfl) .nil) .nil rfl) (XQ.ret1 noR rfl (RV.tmp rfl) .nil rfl)
  intro s9 r13 h
  refine W.seq ?_
  refine W.seq ?_
  refine W.reg (σ' := ⟨[(0, .v (Enc.sl eBlk) a0), (3, .ptr 101 0), (5, .v (Enc.int .i64) s9), (9, .v Enc.bool (cm .lss s9 (a0.length : Int)))], [(101, .box 24 [.v eBlk a1])]⟩) (J.cons (.none rfl) (JO.move rfl) rfl rfl (J.cons (.none rfl) (JO.move rfl) rfl rfl (J.cons (.none rfl) (JO.len rfl Try.runUnderlying22) rfl rfl (J.cons (.none rfl) (JO.cmp rfl rfl rfl) rfl rfl (J.fin (Sw.Sub.mk id (.cons rfl (.of_eq rfl) (.cons rfl (.of_eq rfl) (.cons rfl (.of_eq rfl) (.cons rfl (.of_eq rfl) .nil)))) (.box rfl (.cons (.of_eq rfl) .nil) .nil) rfl)))))) ?_
  rcases Bool.eq_false_or_eq_true (cm .lss s9 (a0.length : Int)) with hc15 | hc15
  · replace h := cond_t hc15 h
    refine W.condT rfl hc15 ?_
    refine W.skip ?_
    refine W.seq ?_
    refine W.block ?_
    refine W.seq ?_
    obtain ⟨z16, hz16, h⟩ := bind_e h
    refine W.draw (σ' := ⟨[(0, .v (Enc.sl eBlk) a0), (3, .ptr 101 0), (5, .v (Enc.int .i64) s9), (17, .v Enc.bool (decide (z16 = a1)))], [(101, .box 24 [.v eBlk a1])]⟩) (n := 6) mixed rfl rfl (by decide +kernel) (by decide +kernel) (.cons (.none rfl) (JO.move rfl) rfl (.cons (.none rfl) (JO.move rfl) rfl (.cons (.none rfl) (JO.idx hz16 rfl rfl Try.runUnderlying22 Try.sizeOf24) rfl (.cons (.none rfl) (JO.loadPst rfl Try.isAgg24 Try.sizeOf24) rfl (.cons (.none rfl) (JO.load rfl rfl rfl Try.isAgg24 Try.sizeOf24) rfl (.cons (.none rfl) (JO.eqV eq24 rfl rfl Try.eqGuardType24 rfl rfl) rfl .nil)))))) (J.fin (Sw.Sub.mk id (.cons rfl (.of_eq rfl) (.cons rfl (.of_eq rfl) (.cons rfl (.of_eq rfl) (.cons rfl (.of_eq rfl) .nil)))) (.box rfl (.cons (.of_eq rfl) .nil) .nil) rfl)) ?_
    rcases Bool.eq_false_or_eq_true (decide (z16 = a1)) with hc17 | hc17
    · replace h := cond_t hc17 h
      refine W.condT rfl hc17 ?_
      refine W.seq ?_
      refine W.reg (σ' := ⟨[(4, .v (Enc.int .i64) s9)], []⟩) (J.cons (.none rfl) (JO.move rfl) rfl rfl (J.cons (.none rfl) (JO.assign rfl) rfl rfl (J.fin (Sw.Sub.mk id (.cons rfl (.of_eq rfl) .nil) .nil rfl)))) ?_
      refine W.ret ?_
      refine XQ.ret ?_
      obtain rfl := Option.some.inj h
      refine XQ.lret fun ho => ?_
      obtain rfl := hr13 _ ho
      exact XQ.sub (σ' := ⟨[(4, .v (Enc.int .i64) s9)], []⟩) (Sw.Sub.mk id (.cons rfl (.of_eq rfl) .nil) .nil rfl) (XQ.ret1 noR rfl (RV.tmp rfl) .nil rfl)
    · replace h := cond_f hc17 h
      refine W.condF rfl hc17 ?_
      refine W.skip ?_
      refine W.fall ?_
      refine W.reg (σ' := ⟨[(0, .v (Enc.sl eBlk) a0), (3, .ptr 101 0), (5, .v (Enc.int .i64) (ar .add .i64 s9 (1 : Int)))], [(101, .box 24 [.v eBlk a1])]⟩) (J.cons (.none rfl) (JO.move rfl) rfl rfl (J.cons (.none rfl) (JO.arith rfl rfl rfl) rfl rfl (J.cons (.none rfl) (JO.assign rfl) rfl rfl (J.fin (Sw.Sub.mk id (.cons rfl (.of_eq rfl) (.cons rfl (.of_eq rfl) (.cons rfl (.of_eq rfl) .nil))) (.box rfl (.cons (.of_eq rfl) .nil) .nil) rfl))))) ?_
      obtain rfl := Option.some.inj h
      exact W.next (Sw.Sub.mk id (.cons rfl (.of_eq rfl) (.cons rfl (.of_eq rfl) (.cons rfl (.of_eq rfl) .nil))) (.box rfl (.cons (.of_eq rfl) .nil) .nil) rfl)
  · replace h := cond_f hc15 h
    refine W.condF rfl hc15 ?_
    refine W.exit ?_
    obtain rfl := Option.some.inj h
    exact XQ.brk (Sw.Sub.mk id .nil .nil rfl)
set_option maxRecDepth 100000 in
set_option maxHeartbeats 4000000 in
theorem con_ref_HadMay {a0 : (List Blk)} {r : Int} (h : m_ref_HadMay a0 = some r) :
    Con Try.prog 15 [.v (Enc.sl eBlk) a0] (.v (Enc.int .i64) r) [] := by
  refine Con.of Try.func15 rfl Try.ntmps15 rfl ?_
  intro S w
  unfold m_ref_HadMay at h
  refine W.seq ?_
  refine W.reg (σ' := ⟨[(0, .v (Enc.sl eBlk) a0)], []⟩) (J.cons (.none rfl) (JO.assign rfl) rfl rfl (J.fin (Sw.Sub.mk id (.cons rfl (.of_eq rfl) .nil) .nil rfl))) ?_
  refine W.seq ?_
  refine W.seq ?_
  refine W.reg (σ' := ⟨[(0, .v (Enc.sl eBlk) a0), (6, .v Enc.bool (cm .gtr (a0.length : Int) (8 : Int)))], []⟩) (J.cons (.none rfl) (JO.move rfl) rfl rfl (J.cons (.none rfl) (JO.len rfl Try.runUnderlying22) rfl rfl (J.cons (.none rfl) (JO.cmp rfl rfl rfl) rfl rfl (J.fin (Sw.Sub.mk id (.cons rfl (.of_eq rfl) (.cons rfl (.of_eq rfl) .nil)) .nil rfl))))) ?_
  rcases Bool.eq_false_or_eq_true (cm .gtr (a0.length : Int) (8 : Int)) with hc1 | hc1
  · replace h := cond_t hc1 h
    refine W.condT rfl hc1 ?_
    refine W.seq ?_
    refine W.reg (σ' := ⟨[(2, .v (Enc.int .i64) (2 : Int))], []⟩) (J.cons (.none rfl) (JO.assign rfl) rfl rfl (J.fin (Sw.Sub.mk id (.cons rfl (.of_eq rfl) .nil) .nil rfl))) ?_
    refine W.ret ?_
    obtain rfl := Option.some.inj h
    exact XQ.sub (σ' := ⟨[(2, .v (Enc.int .i64) (2 : Int))], []⟩) (Sw.Sub.mk id (.cons rfl (.of_eq rfl) .nil) .nil rfl) (XQ.ret1 noR rfl (RV.tmp rfl) .nil rfl)
  · replace h := cond_f hc1 h
    refine W.condF rfl hc1 ?_
    refine W.skip ?_
    refine W.seq ?_
    refine W.seq ?_
    refine W.reg (σ' := ⟨[(0, .v (Enc.sl eBlk) a0), (3, .v (Enc.int .i64) (0 : Int))], []⟩) (J.cons (.none rfl) (JO.assign rfl) rfl rfl (J.fin (Sw.Sub.mk id (.cons rfl (.of_eq rfl) (.cons rfl (.of_eq rfl) .nil)) .nil rfl))) ?_
    obtain ⟨o17, ho17, hb17, hr17⟩ := lp_elim h
    refine W.lp (σs := fun s12 : Int => ⟨[(0, .v (Enc.sl eBlk) a0), (3, .v (Enc.int .i64) s12)], []⟩) (fun x18 : Unit => ⟨[], []⟩) ho17 (Sw.Sub.mk id (.cons rfl (.of_eq rfl) (.cons rfl (.of_eq rfl) .nil)) .nil rfl) ?_ ?_
    · intro x18 hy
      have h := hb17 _ hy
      refine W.seq ?_
      refine W.reg (σ' := ⟨[(2, .v (Enc.int .i64) (0 : Int))], []⟩) (J.cons (.none rfl) (JO.assign rfl) rfl rfl (J.fin (Sw.Sub.mk id (.cons rfl (.of_eq rfl) .nil) .nil rfl))) ?_
      refine W.ret ?_
      obtain rfl := Option.some.inj h
      exact XQ.sub (σ' := ⟨[(2, .v (Enc.int .i64) (0 : Int))], []⟩) (Sw.Sub.mk id (.cons rfl (.of_eq rfl) .nil) .nil rfl) (XQ.ret1 noR rfl (RV.tmp rfl) .nil rfl)
    intro s12 r17 h
    refine W.seq ?_
    refine W.seq ?_
    refine W.reg (σ' := ⟨[(0, .v (Enc.sl eBlk) a0), (3, .v (Enc.int .i64) s12), (10, .v Enc.bool (cm .lss s12 (a0.length : Int)))], []⟩) (J.cons (.none rfl) (JO.move rfl) rfl rfl (J.cons (.none rfl) (JO.move rfl) rfl rfl (J.cons (.none rfl) (JO.len rfl Try.runUnderlying22) rfl rfl (J.cons (.none rfl) (JO.cmp rfl rfl rfl) rfl rfl (J.fin (Sw.Sub.mk id (.cons rfl (.of_eq rfl) (.cons rfl (.of_eq rfl) (.cons rfl (.of_eq rfl) .nil))) .nil rfl)))))) ?_
    rcases Bool.eq_false_or_eq_true (cm .lss s12 (a0.length : Int)) with hc19 | hc19
    · replace h := cond_t hc19 h
      refine W.condT rfl hc19 ?_
      refine W.skip ?_
      refine W.seq ?_
      refine W.block ?_
      refine W.seq ?_
      obtain ⟨z20, hz20, h⟩ := bind_e h
      obtain ⟨v21, hv21, h⟩ := bind_e h
      refine W.reg (σ' := ⟨[(0, .v (Enc.sl eBlk) a0), (3, .v (Enc.int .i64) s12), (20, .v Enc.bool (cm .lss v21 s12))], []⟩) (J.cons (.none rfl) (JO.move rfl) rfl rfl (J.cons (.none rfl) (JO.move rfl) rfl rfl (J.cons (.none rfl) (JO.move rfl) rfl rfl (J.cons (.none rfl) (JO.idx hz20 rfl rfl Try.runUnderlying22 Try.sizeOf24) rfl rfl (J.cons (.none rfl) (JO.loadPst rfl Try.isAgg24 Try.sizeOf24) rfl rfl (J.cons (.none rfl) (JO.call 104000 (con_ref_First hv21) Try.call68 (.cons (.dir rfl) (.cons (.dir rfl) .nil)) rfl) rfl rfl (J.cons (.none rfl) (JO.move rfl) rfl rfl (J.cons (.none rfl) (JO.cmp rfl rfl rfl) rfl rfl (J.fin (Sw.Sub.mk id (.cons rfl (.of_eq rfl) (.cons rfl (.of_eq rfl) (.cons rfl (.of_eq rfl) .nil))) .nil rfl)))))))))) ?_
      rcases Bool.eq_false_or_eq_true (cm .lss v21 s12) with hc22 | hc22
      · replace h := cond_t hc22 h
        refine W.condT rfl hc22 ?_
        refine W.seq ?_
        refine W.reg (σ' := ⟨[(2, .v (Enc.int .i64) (3 : Int))], []⟩) (J.cons (.none rfl) (JO.assign rfl) rfl rfl (J.fin (Sw.Sub.mk id (.cons rfl (.of_eq rfl) .nil) .nil rfl))) ?_
        refine W.ret ?_
        refine XQ.ret ?_
        obtain rfl := Option.some.inj h
        refine XQ.lret fun ho => ?_
        obtain rfl := hr17 _ ho
        exact XQ.sub (σ' := ⟨[(2, .v (Enc.int .i64) (3 : Int))], []⟩) (Sw.Sub.mk id (.cons rfl (.of_eq rfl) .nil) .nil rfl) (XQ.ret1 noR rfl (RV.tmp rfl) .nil rfl)
      · replace h := cond_f hc22 h
        refine W.condF rfl hc22 ?_
        refine W.skip ?_
        refine W.fall ?_
        refine W.reg (σ' := ⟨[(0, .v (Enc.sl eBlk) a0), (3, .v (Enc.int .i64) (ar .add .i64 s12 (1 : Int)))], []⟩) (J.cons (.none rfl) (JO.move rfl) rfl rfl (J.cons (.none rfl) (JO.arith rfl rfl rfl) rfl rfl (J.cons (.none rfl) (JO.assign rfl) rfl rfl (J.fin (Sw.Sub.mk id (.cons rfl (.of_eq rfl) (.cons rfl (.of_eq rfl) .nil)) .nil rfl))))) ?_
        obtain rfl := Option.some.inj h
        exact W.next (Sw.Sub.mk id (.cons rfl (.of_eq rfl) (.cons rfl (.of_eq rfl) .nil)) .nil rfl)
    · replace h := cond_f hc19 h
      refine W.condF rfl hc19 ?_
      refine W.exit ?_
      obtain rfl := Option.some.inj h
      exact XQ.brk (Sw.Sub.mk id .nil .nil rfl)
set_option maxRecDepth 100000 in
set_option maxHeartbeats 4000000 in
theorem con_ref_Touched {a0 : (List Blk)} {a1 : Blk} {r : (List Blk)} (h : m_ref_Touched a0 a1 = some r) :
    Con Try.prog 16 [.v (Enc.sl eBlk) a0, .v eBlk a1] (.v (Enc.sl eBlk) r) [] := by
  refine Con.of Try.func16 rfl Try.ntmps16 rfl ?_
  intro S w
  unfold m_ref_Touched at h
  refine W.seq ?_
  refine W.reg (σ' := ⟨[(0, .v (Enc.sl eBlk) a0), (3, .ptr 101 0)], [(101, .box 24 [.v eBlk a1])]⟩) (J.cons (.none rfl) (JO.box 101 rfl (.one _ _) rfl) rfl rfl (J.cons (.none rfl) (JO.assignNilR 102 24 eBlk) rfl rfl (J.fin (Sw.Sub.mk id (.cons rfl (.of_eq rfl) (.cons rfl (.of_eq rfl) .nil)) (.box rfl (.cons (.of_eq rfl) .nil) .nil) rfl)))) ?_
  refine W.seq ?_
  refine W.reg (σ' := ⟨[(0, .v (Enc.sl eBlk) a0), (3, .ptr 101 0), (5, .ref 103)], [(101, .box 24 [.v eBlk a1]), (103, .arr 24 eBlk ([a1] : (List Blk)))]⟩) (J.cons (.none rfl) (JO.load rfl rfl rfl Try.isAgg24 Try.sizeOf24) rfl rfl (J.cons (.none rfl) (JO.litR (e := eBlk) 103 Try.runUnderlying22 Try.sizeOf24 Try.zeroValue24 rfl rfl rfl rfl (.cons (.dir rfl) .nil)) rfl rfl (J.cons (.none rfl) (JO.assign rfl) rfl rfl (J.fin (Sw.Sub.mk id (.cons rfl (.of_eq rfl) (.cons rfl (.of_eq rfl) (.cons rfl (.of_eq rfl) .nil))) (.box rfl (.cons (.of_eq rfl) .nil) (.arr rfl .nil)) rfl))))) ?_
  refine W.seq ?_
  refine W.seq ?_
  refine W.reg (σ' := ⟨[(0, .v (Enc.sl eBlk) a0), (3, .ptr 101 0), (5, .ref 103), (6, .v (Enc.int .i64) (0 : Int))], [(101, .box 24 [.v eBlk a1]), (103, .arr 24 eBlk ([a1] : (List Blk)))]⟩) (J.cons (.none rfl) (JO.assign rfl) rfl rfl (J.fin (Sw.Sub.mk id (.cons rfl (.of_eq rfl) (.cons rfl (.of_eq rfl) (.cons rfl (.of_eq rfl) (.cons rfl (.of_eq rfl) .nil)))) (.box rfl (.cons (.of_eq rfl) .nil) (.arr rfl .nil)) rfl))) ?_
  obtain ⟨o28, ho28, hb28, hr28⟩ := lp_elim h
  refine W.lp (σs := fun s19 : Int × (List Blk) => ⟨[(0, .v (Enc.sl eBlk) a0), (3, .ptr 101 0), (5, .ref 109), (6, .v (Enc.int .i64) s19.1)], [(101, .box 24 [.v eBlk a1]), (109, .arr 24 eBlk s19.2)]⟩) (fun x29 : (List Blk) => ⟨[(5, .ref 109)], [(109, .arr 24 eBlk x29)]⟩) ho28 (Sw.Sub.mk (rn [(101, 101), (109, 103)]) (.cons rfl (.of_eq rfl) (.cons rfl (.of_eq rfl) (.cons rfl (.of_eq rfl) (.cons rfl (.of_eq rfl) .nil)))) (.box rfl (.cons (.of_eq rfl) .nil) (.arr rfl .nil)) rfl) ?_ ?_
  · intro x29 hy
    have h := hb28 _ hy
    refine W.seq ?_
    refine W.reg (σ' := ⟨[(4, .ref 109)], [(109, .arr 24 eBlk x29)]⟩) (J.cons (.none rfl) (JO.move rfl) rfl rfl (J.cons (.none rfl) (JO.assign rfl) rfl rfl (J.fin (Sw.Sub.mk id (.cons rfl (.of_eq rfl) .nil) (.arr rfl .nil) rfl)))) ?_
    refine W.ret ?_
    obtain rfl := Option.some.inj h
    exact XQ.sub (σ' := ⟨[(4, .v (Enc.sl eBlk) x29)], []⟩) (Sw.Sub.mk id (.cons rfl (.frz rfl rfl) .nil) .nil rfl) (XQ.ret1 noR rfl (RV.tmp rfl) .nil rfl)
  intro s19 r28 h
  refine W.seq ?_
  refine W.seq ?_
  obtain ⟨x31, hx, h⟩ := bind_e h
  refine W.reg (σ' := ⟨[(0, .v (Enc.sl eBlk) a0), (3, .ptr 101 0), (5, .ref 109), (6, .v (Enc.int .i64) s19.1), (17, .v Enc.bool x31)], [(101, .box 24 [.v eBlk a1]), (109, .arr 24 eBlk s19.2)]⟩) ?_ ?_
  · rcases Bool.eq_false_or_eq_true (cm .lss s19.1 (a0.length : Int)) with hc32 | hc32
    · replace hx := cond_t hc32 hx
      obtain rfl := Option.some.inj hx
      exact (J.cons (.none rfl) (JO.move rfl) rfl rfl (J.cons (.none rfl) (JO.move rfl) rfl rfl (J.cons (.none rfl) (JO.len rfl Try.runUnderlying22) rfl rfl (J.cons (.none rfl) (JO.cmp rfl rfl rfl) rfl rfl (J.cons (.none rfl) (JO.move rfl) rfl rfl (J.cons (GK.met 13 rfl rfl rfl hc32) (JO.move rfl) rfl rfl (J.cons (GK.met 13 rfl rfl rfl hc32) (JO.lenR rfl rfl Try.runUnderlying22) rfl rfl (J.cons (GK.met 13 rfl rfl rfl hc32) (JO.cmp rfl rfl rfl) rfl rfl (J.cons (.none rfl) (JO.pT hc32 rfl rfl) rfl rfl (J.fin (Sw.Sub.mk id (.cons rfl (.of_eq rfl) (.cons rfl (.of_eq rfl) (.cons rfl (.of_eq rfl) (.cons rfl (.of_eq rfl) (.cons rfl (.of_eq rfl) .nil))))) (.box rfl (.cons (.of_eq rfl) .nil) (.arr rfl .nil)) rfl)))))))))))
    · replace hx := cond_f hc32 hx
      obtain rfl := Option.some.inj hx
      exact (J.cons (.none rfl) (JO.move rfl) rfl rfl (J.cons (.none rfl) (JO.move rfl) rfl rfl (J.cons (.none rfl) (JO.len rfl Try.runUnderlying22) rfl rfl (J.cons (.none rfl) (JO.cmp rfl rfl rfl) rfl rfl (J.cons (.none rfl) (JO.move rfl) rfl rfl (J.left (GK.unmet 13 rfl rfl rfl hc32) rfl (J.left (GK.unmet 13 rfl rfl rfl hc32) rfl (J.left (GK.unmet 13 rfl rfl rfl hc32) rfl (J.cons (.none rfl) (JO.pF hc32 rfl rfl) rfl rfl (J.fin (Sw.Sub.mk id (.cons rfl (.of_eq rfl) (.cons rfl (.of_eq rfl) (.cons rfl (.of_eq rfl) (.cons rfl (.of_eq rfl) (.cons rfl (.of_eq rfl) .nil))))) (.box rfl (.cons (.of_eq rfl) .nil) (.arr rfl .nil)) rfl)))))))))))
  rcases Bool.eq_false_or_eq_true x31 with hc33 | hc33
  · replace h := cond_t hc33 h
    refine W.condT rfl hc33 ?_
    refine W.skip ?_
    refine W.seq ?_
    refine W.block ?_
    refine W.seq ?_
    obtain ⟨z34, hz34, h⟩ := bind_e h
    refine W.draw (σ' := ⟨[(0, .v (Enc.sl eBlk) a0), (3, .ptr 101 0), (5, .ref 109), (6, .v (Enc.int .i64) s19.1), (25, .v Enc.bool (!decide (z34 = a1)))], [(101, .box 24 [.v eBlk a1]), (109, .arr 24 eBlk s19.2)]⟩) (n := 6) mixed rfl rfl (by decide +kernel) (by decide +kernel) (.cons (.none rfl) (JO.move rfl) rfl (.cons (.none rfl) (JO.move rfl) rfl (.cons (.none rfl) (JO.idx hz34 rfl rfl Try.runUnderlying22 Try.sizeOf24) rfl (.cons (.none rfl) (JO.loadPst rfl Try.isAgg24 Try.sizeOf24) rfl (.cons (.none rfl) (JO.load rfl rfl rfl Try.isAgg24 Try.sizeOf24) rfl (.cons (.none rfl) (JO.neV eq24 rfl rfl Try.eqGuardType24 rfl rfl) rfl .nil)))))) (J.fin (Sw.Sub.mk id (.cons rfl (.of_eq rfl) (.cons rfl (.of_eq rfl) (.cons rfl (.of_eq rfl) (.cons rfl (.of_eq rfl) (.cons rfl (.of_eq rfl) .nil))))) (.box rfl (.cons (.of_eq rfl) .nil) (.arr rfl .nil)) rfl)) ?_
    rcases Bool.eq_false_or_eq_true (!decide (z34 = a1)) with hc35 | hc35
    · replace h := cond_t hc35 h
      refine W.condT rfl hc35 ?_
      obtain ⟨z36, hz36, h⟩ := bind_e h
      obtain ⟨v37, hv37, h⟩ := bind_e h
      refine W.reg (σ' := ⟨[(0, .v (Enc.sl eBlk) a0), (3, .ptr 101 0), (5, .ref 111), (6, .v (Enc.int .i64) s19.1)], [(101, .box 24 [.v eBlk a1]), (111, .arr 24 eBlk v37)]⟩) (J.cons (.none rfl) (JO.move rfl) rfl rfl (J.cons (.none rfl) (JO.move rfl) rfl rfl (J.cons (.none rfl) (JO.move rfl) rfl rfl (J.cons (.none rfl) (JO.idx hz36 rfl rfl Try.runUnderlying22 Try.sizeOf24) rfl rfl (J.cons (.none rfl) (JO.loadPst rfl Try.isAgg24 Try.sizeOf24) rfl rfl (J.cons (.none rfl) (JO.lit (e := eBlk) Try.runUnderlying22 Try.sizeOf24 Try.zeroValue24 rfl rfl rfl rfl (.cons (.dir rfl) .nil)) rfl rfl (J.mut (.none rfl) (JM.append 111 hv37 rfl rfl (.sl rfl) Try.runUnderlying22 Try.typeInfo24 Try.sizeOf24 rfl rfl rfl rfl rfl) (J.cons (.none rfl) (JO.assign rfl) rfl rfl (J.fin (Sw.Sub.mk id (.cons rfl (.of_eq rfl) (.cons rfl (.of_eq rfl) (.cons rfl (.of_eq rfl) (.cons rfl (.of_eq rfl) .nil)))) (.box rfl (.cons (.of_eq rfl) .nil) (.arr rfl .nil)) rfl)))))))))) ?_
      refine W.fall ?_
      refine W.reg (σ' := ⟨[(0, .v (Enc.sl eBlk) a0), (3, .ptr 101 0), (5, .ref 111), (6, .v (Enc.int .i64) (ar .add .i64 s19.1 (1 : Int)))], [(101, .box 24 [.v eBlk a1]), (111, .arr 24 eBlk v37)]⟩) (J.cons (.none rfl) (JO.move rfl) rfl rfl (J.cons (.none rfl) (JO.arith rfl rfl rfl) rfl rfl (J.cons (.none rfl) (JO.assign rfl) rfl rfl (J.fin (Sw.Sub.mk id (.cons rfl (.of_eq rfl) (.cons rfl (.of_eq rfl) (.cons rfl (.of_eq rfl) (.cons rfl (.of_eq rfl) .nil)))) (.box rfl (.cons (.of_eq rfl) .nil) (.arr rfl .nil)) rfl))))) ?_
      obtain rfl := Option.some.inj h
      exact W.next (Sw.Sub.mk (rn [(101, 101), (109, 111)]) (.cons rfl (.of_eq rfl) (.cons rfl (.of_eq rfl) (.cons rfl (.of_eq rfl) (.cons rfl (.of_eq rfl) .nil)))) (.box rfl (.cons (.of_eq rfl) .nil) (.arr rfl .nil)) rfl)
    · replace h := cond_f hc35 h
      refine W.condF rfl hc35 ?_
      refine W.skip ?_
      refine W.fall ?_
      refine W.reg (σ' := ⟨[(0, .v (Enc.sl eBlk) a0), (3, .ptr 101 0), (5, .ref 109), (6, .v (Enc.int .i64) (ar .add .i64 s19.1 (1 : Int)))], [(101, .box 24 [.v eBlk a1]), (109, .arr 24 eBlk s19.2)]⟩) (J.cons (.none rfl) (JO.move rfl) rfl rfl (J.cons (.none rfl) (JO.arith rfl rfl rfl) rfl rfl (J.cons (.none rfl) (JO.assign rfl) rfl rfl (J.fin (Sw.Sub.mk id (.cons rfl (.of_eq rfl) (.cons rfl (.of_eq rfl) (.cons rfl (.of_eq rfl) (.cons rfl (.of_eq rfl) .nil)))) (.box rfl (.cons (.of_eq rfl) .nil) (.arr rfl .nil)) rfl))))) ?_
      obtain rfl := Option.some.inj h
      exact W.next (Sw.Sub.mk id (.cons rfl (.of_eq rfl) (.cons rfl (.of_eq rfl) (.cons rfl (.of_eq rfl) (.cons rfl (.of_eq rfl) .nil)))) (.box rfl (.cons (.of_eq rfl) .nil) (.arr rfl .nil)) rfl)
  · replace h := cond_f hc33 h
    refine W.condF rfl hc33 ?_
    refine W.exit ?_
    obtain rfl := Option.some.inj h
    exact XQ.brk (Sw.Sub.mk id (.cons rfl (.of_eq rfl) .nil) (.arr rfl .nil) rfl)
set_option maxRecDepth 100000 in
set_option maxHeartbeats 4000000 in
theorem con_cache_Check {a0 : (List Blk)} {r : (Option Int)} (h : m_cache_Check a0 = some r) :
    Con Try.prog 19 [.v (Enc.sl eBlk) a0] (.v (Enc.err ET) r) [] := by
  refine Con.of Try.func19 rfl Try.ntmps19 rfl ?_
  intro S w
  unfold m_cache_Check at h
  refine W.seq ?_
  refine W.reg (σ' := ⟨[(0, .v (Enc.sl eBlk) a0)], []⟩) (J.cons (.none rfl) (JO.assignNilE ET) rfl rfl (J.fin (Sw.Sub.mk id (.cons rfl (.of_eq rfl) .nil) .nil rfl))) ?_
  refine W.seq ?_
  refine W.seq ?_
  refine W.reg (σ' := ⟨[(0, .v (Enc.sl eBlk) a0), (8, .v Enc.bool (cm .gtr (a0.length : Int) (8 : Int)))], []⟩) (J.cons (.none rfl) (JO.move rfl) rfl rfl (J.cons (.none rfl) (JO.len rfl Try.runUnderlying22) rfl rfl (J.cons (.none rfl) (JO.cmp rfl rfl rfl) rfl rfl (J.fin (Sw.Sub.mk id (.cons rfl (.of_eq rfl) (.cons rfl (.of_eq rfl) .nil)) .nil rfl))))) ?_
  rcases Bool.eq_false_or_eq_true (cm .gtr (a0.length : Int) (8 : Int)) with hc1 | hc1
  · replace h := cond_t hc1 h
    refine W.condT rfl hc1 ?_
    refine W.seq ?_
    refine W.reg (σ' := ⟨[(2, .v (Enc.err ET) (some (2 : Int)))], []⟩) (J.cons (.none rfl) (JO.mkErr Try.runUnderlying25 rfl) rfl rfl (J.cons (.none rfl) (JO.assign rfl) rfl rfl (J.fin (Sw.Sub.mk id (.cons rfl (.of_eq rfl) .nil) .nil rfl)))) ?_
    refine W.ret ?_
    obtain rfl := Option.some.inj h
    exact XQ.sub (σ' := ⟨[(2, .v (Enc.err ET) (some (2 : Int)))], []⟩) (Sw.Sub.mk id (.cons rfl (.of_eq rfl) .nil) .nil rfl) (XQ.ret1 noR rfl (RV.tmp rfl) .nil rfl)
  · replace h := cond_f hc1 h
    refine W.condF rfl hc1 ?_
    refine W.skip ?_
    refine W.seq ?_
    refine W.reg (σ' := ⟨[(0, .v (Enc.sl eBlk) a0), (3, .ref 101)], [(101, .mp eBlk Enc.bool ([] : List (Blk × Bool)))]⟩) (J.cons (.none rfl) (JO.makeMap 101 eBlk Enc.bool) rfl rfl (J.cons (.none rfl) (JO.assign rfl) rfl rfl (J.fin (Sw.Sub.mk id (.cons rfl (.of_eq rfl) (.cons rfl (.of_eq rfl) .nil)) (.mp rfl .nil) rfl)))) ?_
    refine W.seq ?_
    refine W.seq ?_
    refine W.reg (σ' := ⟨[(3, .ref 101), (11, .v (Enc.sl eBlk) a0), (12, .v (Enc.int .i64) (a0.length : Int)), (13, .v (Enc.int .i64) (0 : Int))], [(101, .mp eBlk Enc.bool ([] : List (Blk × Bool)))]⟩) (J.cons (.none rfl) (JO.move rfl) rfl rfl (J.cons (.none rfl) (JO.len rfl Try.runUnderlying22) rfl rfl (J.cons (.none rfl) (JO.move rfl) rfl rfl (J.fin (Sw.Sub.mk id (.cons rfl (.of_eq rfl) (.cons rfl (.of_eq rfl) (.cons rfl (.of_eq rfl) (.cons rfl (.of_eq rfl) .nil)))) (.mp rfl .nil) rfl))))) ?_
    obtain ⟨o17, ho17, hb17, hr17⟩ := lp_elim h
    refine W.lp (σs := fun s12 : Int × (List (Blk × Bool)) => ⟨[(3, .ref 101), (11, .v (Enc.sl eBlk) a0), (12, .v (Enc.int .i64) (a0.length : Int)), (13, .v (Enc.int .i64) s12.1)], [(101, .mp eBlk Enc.bool s12.2)]⟩) (fun x18 : Unit => ⟨[], []⟩) ho17 (Sw.Sub.mk id (.cons rfl (.of_eq rfl) (.cons rfl (.of_eq rfl) (.cons rfl (.of_eq rfl) (.cons rfl (.of_eq rfl) .nil)))) (.mp rfl .nil) rfl) ?_ ?_
    · intro x18 hy
      have h := hb17 _ hy
      refine W.seq ?_
      refine W.reg (σ' := ⟨[(2, .v (Enc.err ET) (none : Option Int))], []⟩) (J.cons (.none rfl) (JO.assignNilE ET) rfl rfl (J.fin (Sw.Sub.mk id (.cons rfl (.of_eq rfl) .nil) .nil rfl))) ?_
      refine W.ret ?_
      obtain rfl := Option.some.inj h
      exact XQ.sub (σ' := ⟨[(2, .v (Enc.err ET) (none : Option Int))], []⟩) (Sw.Sub.mk id (.cons rfl (.of_eq rfl) .nil) .nil rfl) (XQ.ret1 noR rfl (RV.tmp rfl) .nil rfl)
    intro s12 r17 h
    refine W.seq ?_
    refine W.reg (σ' := ⟨[(3, .ref 101), (11, .v (Enc.sl eBlk) a0), (12, .v (Enc.int .i64) (a0.length : Int)), (13, .v (Enc.int .i64) s12.1), (14, .v Enc.bool (cm .lss s12.1 (a0.length : Int)))], [(101, .mp eBlk Enc.bool s12.2)]⟩) (J.cons (.none rfl) (JO.cmp rfl rfl rfl) rfl rfl (J.fin (Sw.Sub.mk id (.cons rfl (.of_eq rfl) (.cons rfl (.of_eq rfl) (.cons rfl (.of_eq rfl) (.cons rfl (.of_eq rfl) (.cons rfl (.of_eq rfl) .nil))))) (.mp rfl .nil) rfl))) ?_
    refine W.seq ?_
    rcases Bool.eq_false_or_eq_true (cm .lss s12.1 (a0.length : Int)) with hc19 | hc19
    · replace h := cond_t hc19 h
      refine W.condT rfl hc19 ?_
      refine W.skip ?_
      refine W.seq ?_
      refine W.block ?_
      refine W.seq ?_
      obtain ⟨z20, hz20, h⟩ := bind_e h
      refine W.reg (σ' := ⟨[(3, .ref 101), (5, .ptr 105 0), (11, .v (Enc.sl eBlk) a0), (12, .v (Enc.int .i64) (a0.length : Int)), (13, .v (Enc.int .i64) s12.1)], [(101, .mp eBlk Enc.bool s12.2), (105, .box 24 [.v eBlk z20])]⟩) (J.cons (.none rfl) (JO.idx hz20 rfl rfl Try.runUnderlying22 Try.sizeOf24) rfl rfl (J.cons (.none rfl) (JO.loadPst rfl Try.isAgg24 Try.sizeOf24) rfl rfl (J.cons (.none rfl) (JO.alloc 105 Try.zeroValue24 rfl (.cons (Z.arr 8 (Z.int .u8)) .nil) rfl) rfl rfl (J.mut (.none rfl) (JM.store rfl rfl rfl rfl rfl rfl rfl Try.sizeOf24) (J.fin (Sw.Sub.mk id (.cons rfl (.of_eq rfl) (.cons rfl (.of_eq rfl) (.cons rfl (.of_eq rfl) (.cons rfl (.of_eq rfl) (.cons rfl (.of_eq rfl) .nil))))) (.mp rfl (.box rfl (.cons (.of_eq rfl) .nil) .nil)) rfl)))))) ?_
      refine W.seq ?_
      refine W.seq ?_
      refine W.reg (σ' := ⟨[(3, .ref 101), (5, .ptr 105 0), (11, .v (Enc.sl eBlk) a0), (12, .v (Enc.int .i64) (a0.length : Int)), (13, .v (Enc.int .i64) s12.1), (19, .v Enc.bool ((mget s12.2 z20).getD false))], [(101, .mp eBlk Enc.bool s12.2), (105, .box 24 [.v eBlk z20])]⟩) (J.cons (.none rfl) (JO.move rfl) rfl rfl (J.cons (.none rfl) (JO.load rfl rfl rfl Try.isAgg24 Try.sizeOf24) rfl rfl (J.cons (.none rfl) (JO.lookup rfl rfl rfl Try.runUnderlying122 Try.runUnderlying24 eq24 rfl key24 rfl Try.zeroValue4 (fun _ _ => ⟨_, rfl, rfl⟩)) rfl rfl (J.fin (Sw.Sub.mk id (.cons rfl (.of_eq rfl) (.cons rfl (.of_eq rfl) (.cons rfl (.of_eq rfl) (.cons rfl (.of_eq rfl) (.cons rfl (.of_eq rfl) (.cons rfl (.of_eq rfl) .nil)))))) (.mp rfl (.box rfl (.cons (.of_eq rfl) .nil) .nil)) rfl))))) ?_
      rcases Bool.eq_false_or_eq_true ((mget s12.2 z20).getD false) with hc21 | hc21
      · replace h := cond_t hc21 h
        refine W.condT rfl hc21 ?_
        refine W.seq ?_
        refine W.reg (σ' := ⟨[(2, .v (Enc.err ET) (some (3 : Int)))], []⟩) (J.cons (.none rfl) (JO.mkErr Try.runUnderlying25 rfl) rfl rfl (J.cons (.none rfl) (JO.assign rfl) rfl rfl (J.fin (Sw.Sub.mk id (.cons rfl (.of_eq rfl) .nil) .nil rfl)))) ?_
        refine W.ret ?_
        refine XQ.ret ?_
        obtain rfl := Option.some.inj h
        refine XQ.lret fun ho => ?_
        obtain rfl := hr17 _ ho
        exact XQ.sub (σ' := ⟨[(2, .v (Enc.err ET) (some (3 : Int)))], []⟩) (Sw.Sub.mk id (.cons rfl (.of_eq rfl) .nil) .nil rfl) (XQ.ret1 noR rfl (RV.tmp rfl) .nil rfl)
      · replace h := cond_f hc21 h
        refine W.condF rfl hc21 ?_
        refine W.skip ?_
        obtain ⟨v22, hv22, h⟩ := bind_e h
        refine W.reg (σ' := ⟨[(3, .ref 101), (11, .v (Enc.sl eBlk) a0), (12, .v (Enc.int .i64) (a0.length : Int)), (13, .v (Enc.int .i64) s12.1)], [(101, .mp eBlk Enc.bool v22)]⟩) (J.cons (.none rfl) (JO.move rfl) rfl rfl (J.cons (.none rfl) (JO.load rfl rfl rfl Try.isAgg24 Try.sizeOf24) rfl rfl (J.mut (.none rfl) (JM.mapPut hv22 rfl rfl rfl rfl Try.runUnderlying122 Try.runUnderlying24 eq24 rfl key24 rfl) (J.fin (Sw.Sub.mk id (.cons rfl (.of_eq rfl) (.cons rfl (.of_eq rfl) (.cons rfl (.of_eq rfl) (.cons rfl (.of_eq rfl) .nil)))) (.mp rfl .nil) rfl))))) ?_
        refine W.fall ?_
        refine W.reg (σ' := ⟨[(3, .ref 101), (11, .v (Enc.sl eBlk) a0), (12, .v (Enc.int .i64) (a0.length : Int)), (13, .v (Enc.int .i64) (ar .add .i64 s12.1 (1 : Int)))], [(101, .mp eBlk Enc.bool v22)]⟩) (J.cons (.none rfl) (JO.arith rfl rfl rfl) rfl rfl (J.cons (.none rfl) (JO.move rfl) rfl rfl (J.fin (Sw.Sub.mk id (.cons rfl (.of_eq rfl) (.cons rfl (.of_eq rfl) (.cons rfl (.of_eq rfl) (.cons rfl (.of_eq rfl) .nil)))) (.mp rfl .nil) rfl)))) ?_
        obtain rfl := Option.some.inj h
        exact W.next (Sw.Sub.mk id (.cons rfl (.of_eq rfl) (.cons rfl (.of_eq rfl) (.cons rfl (.of_eq rfl) (.cons rfl (.of_eq rfl) .nil)))) (.mp rfl .nil) rfl)
    · replace h := cond_f hc19 h
      refine W.condF rfl hc19 ?_
      refine W.exit ?_
      obtain rfl := Option.some.inj h
      exact XQ.brk (Sw.Sub.mk id .nil .nil rfl)
set_option maxRecDepth 100000 in
set_option maxHeartbeats 4000000 in
theorem con_cache_Touch {a0 : (List Blk)} {a1 : Blk} {r : (List Blk) × (Option Int)} (h : m_cache_Touch a0 a1 = some r) :
    Con Try.prog 17 [.v (Enc.sl eBlk) a0, .v eBlk a1] (.tup [.v (Enc.sl eBlk) r.1, .v (Enc.err ET) r.2]) [] := by
  refine Con.of Try.func17 rfl Try.ntmps17 rfl ?_
  intro S w
  unfold m_cache_Touch at h
  refine W.seq ?_
  refine W.reg (σ' := ⟨[(0, .v (Enc.sl eBlk) a0), (3, .ptr 101 0)], [(101, .box 24 [.v eBlk a1])]⟩) (J.cons (.none rfl) (JO.box 101 rfl (.one _ _) rfl) rfl rfl (J.cons (.none rfl) (JO.assignNilR 102 24 eBlk) rfl rfl (J.cons (.none rfl) (JO.assignNilE ET) rfl rfl (J.fin (Sw.Sub.mk id (.cons rfl (.of_eq rfl) (.cons rfl (.of_eq rfl) .nil)) (.box rfl (.cons (.of_eq rfl) .nil) .nil) rfl))))) ?_
  refine W.seq ?_
  refine W.seq ?_
  obtain ⟨v1, hv1, h⟩ := bind_e h
  refine W.reg (σ' := ⟨[(0, .v (Enc.sl eBlk) a0), (3, .ptr 101 0), (6, .v (Enc.err ET) v1)], [(101, .box 24 [.v eBlk a1])]⟩) (J.cons (.none rfl) (JO.move rfl) rfl rfl (J.cons (.none rfl) (JO.call 103000 (con_cache_Check hv1) Try.call19 (.cons (.dir rfl) .nil) rfl) rfl rfl (J.cons (.none rfl) (JO.assign rfl) rfl rfl (J.fin (Sw.Sub.mk id (.cons rfl (.of_eq rfl) (.cons rfl (.of_eq rfl) (.cons rfl (.of_eq rfl) .nil))) (.box rfl (.cons (.of_eq rfl) .nil) .nil) rfl))))) ?_
  refine W.seq ?_
  refine W.reg (σ' := ⟨[(0, .v (Enc.sl eBlk) a0), (3, .ptr 101 0), (6, .v (Enc.err ET) v1), (13, .v Enc.bool (Option.isSome v1))], [(101, .box 24 [.v eBlk a1])]⟩) (J.cons (.none rfl) (JO.move rfl) rfl rfl (J.cons (.none rfl) (JO.errNe Try.runUnderlying29 rfl) rfl rfl (J.fin (Sw.Sub.mk id (.cons rfl (.of_eq rfl) (.cons rfl (.of_eq rfl) (.cons rfl (.of_eq rfl) (.cons rfl (.of_eq rfl) .nil)))) (.box rfl (.cons (.of_eq rfl) .nil) .nil) rfl)))) ?_
  rcases Bool.eq_false_or_eq_true (Option.isSome v1) with hc2 | hc2
  · replace h := cond_t hc2 h
    refine W.condT rfl hc2 ?_
    refine W.seq ?_
    refine W.reg (σ' := ⟨[(4, .ref 104), (5, .v (Enc.err ET) v1)], [(104, .arr 24 eBlk ([] : (List Blk)))]⟩) (J.cons (.none rfl) (JO.move rfl) rfl rfl (J.cons (.none rfl) (JO.assignNilR 104 24 eBlk) rfl rfl (J.cons (.none rfl) (JO.assign rfl) rfl rfl (J.fin (Sw.Sub.mk id (.cons rfl (.of_eq rfl) (.cons rfl (.of_eq rfl) .nil)) (.arr rfl .nil) rfl))))) ?_
    refine W.ret ?_
    obtain rfl := Option.some.inj h
    exact XQ.sub (σ' := ⟨[(4, .v (Enc.sl eBlk) ([] : (List Blk))), (5, .v (Enc.err ET) v1)], []⟩) (Sw.Sub.mk id (.cons rfl (.frz rfl rfl) (.cons rfl (.of_eq rfl) .nil)) .nil rfl) (XQ.ret2 noR rfl (RV.tmp rfl) (RV.tmp rfl) .nil rfl)
  · replace h := cond_f hc2 h
    refine W.condF rfl hc2 ?_
    refine W.skip ?_
    refine W.seq ?_
    refine W.reg (σ' := ⟨[(0, .v (Enc.sl eBlk) a0), (3, .ptr 101 0), (7, .ref 105)], [(101, .box 24 [.v eBlk a1]), (105, .arr 24 eBlk ([a1] : (List Blk)))]⟩) (J.cons (.none rfl) (JO.load rfl rfl rfl Try.isAgg24 Try.sizeOf24) rfl rfl (J.cons (.none rfl) (JO.litR (e := eBlk) 105 Try.runUnderlying22 Try.sizeOf24 Try.zeroValue24 rfl rfl rfl rfl (.cons (.dir rfl) .nil)) rfl rfl (J.cons (.none rfl) (JO.assign rfl) rfl rfl (J.fin (Sw.Sub.mk id (.cons rfl (.of_eq rfl) (.cons rfl (.of_eq rfl) (.cons rfl (.of_eq rfl) .nil))) (.box rfl (.cons (.of_eq rfl) .nil) (.arr rfl .nil)) rfl))))) ?_
    refine W.seq ?_
    refine W.seq ?_
    refine W.reg (σ' := ⟨[(3, .ptr 101 0), (7, .ref 105), (17, .v (Enc.sl eBlk) a0), (18, .v (Enc.int .i64) (a0.length : Int)), (19, .v (Enc.int .i64) (0 : Int))], [(101, .box 24 [.v eBlk a1]), (105, .arr 24 eBlk ([a1] : (List Blk)))]⟩) (J.cons (.none rfl) (JO.move rfl) rfl rfl (J.cons (.none rfl) (JO.len rfl Try.runUnderlying22) rfl rfl (J.cons (.none rfl) (JO.move rfl) rfl rfl (J.fin (Sw.Sub.mk id (.cons rfl (.of_eq rfl) (.cons rfl (.of_eq rfl) (.cons rfl (.of_eq rfl) (.cons rfl (.of_eq rfl) (.cons rfl (.of_eq rfl) .nil))))) (.box rfl (.cons (.of_eq rfl) .nil) (.arr rfl .nil)) rfl))))) ?_
    obtain ⟨o27, ho27, hb27, hr27⟩ := lp_elim h
    refine W.lp (σs := fun s19 : Int × (List Blk) => ⟨[(3, .ptr 101 0), (7, .ref 113), (17, .v (Enc.sl eBlk) a0), (18, .v (Enc.int .i64) (a0.length : Int)), (19, .v (Enc.int .i64) s19.1)], [(101, .box 24 [.v eBlk a1]), (113, .arr 24 eBlk s19.2)]⟩) (fun x28 : (List Blk) => ⟨[(7, .ref 113)], [(113, .arr 24 eBlk x28)]⟩) ho27 (Sw.Sub.mk (rn [(101, 101), (113, 105)]) (.cons rfl (.of_eq rfl) (.cons rfl (.of_eq rfl) (.cons rfl (.of_eq rfl) (.cons rfl (.of_eq rfl) (.cons rfl (.of_eq rfl) .nil))))) (.box rfl (.cons (.of_eq rfl) .nil) (.arr rfl .nil)) rfl) ?_ ?_
    · intro x28 hy
      have h := hb27 _ hy
      refine W.seq ?_
      refine W.reg (σ' := ⟨[(4, .ref 113), (5, .v (Enc.err ET) (none : Option Int))], [(113, .arr 24 eBlk x28)]⟩) (J.cons (.none rfl) (JO.move rfl) rfl rfl (J.cons (.none rfl) (JO.assign rfl) rfl rfl (J.cons (.none rfl) (JO.assignNilE ET) rfl rfl (J.fin (Sw.Sub.mk id (.cons rfl (.of_eq rfl) (.cons rfl (.of_eq rfl) .nil)) (.arr rfl .nil) rfl))))) ?_
      refine W.ret ?_
      obtain rfl := Option.some.inj h
      exact XQ.sub (σ' := ⟨[(4, .v (Enc.sl eBlk) x28), (5, .v (Enc.err ET) (none : Option Int))], []⟩) (Sw.Sub.mk id (.cons rfl (.frz rfl rfl) (.cons rfl (.of_eq rfl) .nil)) .nil rfl) (XQ.ret2 noR rfl (RV.tmp rfl) (RV.tmp rfl) .nil rfl)
    intro s19 r27 h
    refine W.seq ?_
    refine W.reg (σ' := ⟨[(3, .ptr 101 0), (7, .ref 113), (17, .v (Enc.sl eBlk) a0), (18, .v (Enc.int .i64) (a0.length : Int)), (19, .v (Enc.int .i64) s19.1), (20, .v Enc.bool (cm .lss s19.1 (a0.length : Int)))], [(101, .box 24 [.v eBlk a1]), (113, .arr 24 eBlk s19.2)]⟩) (J.cons (.none rfl) (JO.cmp rfl rfl rfl) rfl rfl (J.fin (Sw.Sub.mk id (.cons rfl (.of_eq rfl) (.cons rfl (.of_eq rfl) (.cons rfl (.of_eq rfl) (.cons rfl (.of_eq rfl) (.cons rfl (.of_eq rfl) (.cons rfl (.of_eq rfl) .nil)))))) (.box rfl (.cons (.of_eq rfl) .nil) (.arr rfl .nil)) rfl))) ?_
    refine W.seq ?_
    rcases Bool.eq_false_or_eq_true (cm .lss s19.1 (a0.length : Int)) with hc29 | hc29
    · replace h := cond_t hc29 h
      refine W.condT rfl hc29 ?_
      refine W.skip ?_
      refine W.seq ?_
      refine W.block ?_
      refine W.seq ?_
      obtain ⟨z30, hz30, h⟩ := bind_e h
      refine W.reg (σ' := ⟨[(3, .ptr 101 0), (7, .ref 113), (9, .ptr 116 0), (17, .v (Enc.sl eBlk) a0), (18, .v (Enc.int .i64) (a0.length : Int)), (19, .v (Enc.int .i64) s19.1)], [(101, .box 24 [.v eBlk a1]), (113, .arr 24 eBlk s19.2), (116, .box 24 [.v eBlk z30])]⟩) (J.cons (.none rfl) (JO.idx hz30 rfl rfl Try.runUnderlying22 Try.sizeOf24) rfl rfl (J.cons (.none rfl) (JO.loadPst rfl Try.isAgg24 Try.sizeOf24) rfl rfl (J.cons (.none rfl) (JO.alloc 116 Try.zeroValue24 rfl (.cons (Z.arr 8 (Z.int .u8)) .nil) rfl) rfl rfl (J.mut (.none rfl) (JM.store rfl rfl rfl rfl rfl rfl rfl Try.sizeOf24) (J.fin (Sw.Sub.mk id (.cons rfl (.of_eq rfl) (.cons rfl (.of_eq rfl) (.cons rfl (.of_eq rfl) (.cons rfl (.of_eq rfl) (.cons rfl (.of_eq rfl) (.cons rfl (.of_eq rfl) .nil)))))) (.box rfl (.cons (.of_eq rfl) .nil) (.arr rfl (.box rfl (.cons (.of_eq rfl) .nil) .nil))) rfl)))))) ?_
      refine W.seq ?_
      obtain ⟨x32, hx, h⟩ := bind_e h
      refine W.reg (σ' := ⟨[(3, .ptr 101 0), (7, .ref 113), (9, .ptr 116 0), (17, .v (Enc.sl eBlk) a0), (18, .v (Enc.int .i64) (a0.length : Int)), (19, .v (Enc.int .i64) s19.1), (30, .v Enc.bool x32)], [(101, .box 24 [.v eBlk a1]), (113, .arr 24 eBlk s19.2), (116, .box 24 [.v eBlk z30])]⟩) ?_ ?_
      · rcases Bool.eq_false_or_eq_true (!decide (z30 = a1)) with hc33 | hc33
        · replace hx := cond_t hc33 hx
          obtain rfl := Option.some.inj hx
          exact (J.cons (.none rfl) (JO.load rfl rfl rfl Try.isAgg24 Try.sizeOf24) rfl rfl (J.cons (.none rfl) (JO.load rfl rfl rfl Try.isAgg24 Try.sizeOf24) rfl rfl (J.cons (.none rfl) (JO.neV eq24 rfl rfl Try.eqGuardType24 rfl rfl) rfl rfl (J.cons (.none rfl) (JO.move rfl) rfl rfl (J.cons (GK.met 26 rfl rfl rfl hc33) (JO.move rfl) rfl rfl (J.cons (GK.met 26 rfl rfl rfl hc33) (JO.lenR rfl rfl Try.runUnderlying22) rfl rfl (J.cons (GK.met 26 rfl rfl rfl hc33) (JO.cmp rfl rfl rfl) rfl rfl (J.cons (.none rfl) (JO.pT hc33 rfl rfl) rfl rfl (J.fin (Sw.Sub.mk id (.cons rfl (.of_eq rfl) (.cons rfl (.of_eq rfl) (.cons rfl (.of_eq rfl) (.cons rfl (.of_eq rfl) (.cons rfl (.of_eq rfl) (.cons rfl (.of_eq rfl) (.cons rfl (.of_eq rfl) .nil))))))) (.box rfl (.cons (.of_eq rfl) .nil) (.arr rfl (.box rfl (.cons (.of_eq rfl) .nil) .nil))) rfl))))))))))
        · replace hx := cond_f hc33 hx
          obtain rfl := Option.some.inj hx
          exact (J.cons (.none rfl) (JO.load rfl rfl rfl Try.isAgg24 Try.sizeOf24) rfl rfl (J.cons (.none rfl) (JO.load rfl rfl rfl Try.isAgg24 Try.sizeOf24) rfl rfl (J.cons (.none rfl) (JO.neV eq24 rfl rfl Try.eqGuardType24 rfl rfl) rfl rfl (J.cons (.none rfl) (JO.move rfl) rfl rfl (J.left (GK.unmet 26 rfl rfl rfl hc33) rfl (J.left (GK.unmet 26 rfl rfl rfl hc33) rfl (J.left (GK.unmet 26 rfl rfl rfl hc33) rfl (J.cons (.none rfl) (JO.pF hc33 rfl rfl) rfl rfl (J.fin (Sw.Sub.mk id (.cons rfl (.of_eq rfl) (.cons rfl (.of_eq rfl) (.cons rfl (.of_eq rfl) (.cons rfl (.of_eq rfl) (.cons rfl (.of_eq rfl) (.cons rfl (.of_eq rfl) (.cons rfl (.of_eq rfl) .nil))))))) (.box rfl (.cons (.of_eq rfl) .nil) (.arr rfl (.box rfl (.cons (.of_eq rfl) .nil) .nil))) rfl))))))))))
      rcases Bool.eq_false_or_eq_true x32 with hc34 | hc34
      · replace h := cond_t hc34 h
        refine W.condT rfl hc34 ?_
        obtain ⟨v35, hv35, h⟩ := bind_e h
        refine W.reg (σ' := ⟨[(3, .ptr 101 0), (7, .ref 117), (17, .v (Enc.sl eBlk) a0), (18, .v (Enc.int .i64) (a0.length : Int)), (19, .v (Enc.int .i64) s19.1)], [(101, .box 24 [.v eBlk a1]), (117, .arr 24 eBlk v35)]⟩) (J.cons (.none rfl) (JO.move rfl) rfl rfl (J.cons (.none rfl) (JO.load rfl rfl rfl Try.isAgg24 Try.sizeOf24) rfl rfl (J.cons (.none rfl) (JO.lit (e := eBlk) Try.runUnderlying22 Try.sizeOf24 Try.zeroValue24 rfl rfl rfl rfl (.cons (.dir rfl) .nil)) rfl rfl (J.mut (.none rfl) (JM.append 117 hv35 rfl rfl (.sl rfl) Try.runUnderlying22 Try.typeInfo24 Try.sizeOf24 rfl rfl rfl rfl rfl) (J.cons (.none rfl) (JO.assign rfl) rfl rfl (J.fin (Sw.Sub.mk id (.cons rfl (.of_eq rfl) (.cons rfl (.of_eq rfl) (.cons rfl (.of_eq rfl) (.cons rfl (.of_eq rfl) (.cons rfl (.of_eq rfl) .nil))))) (.box rfl (.cons (.of_eq rfl) .nil) (.arr rfl .nil)) rfl))))))) ?_
        refine W.fall ?_
        refine W.reg (σ' := ⟨[(3, .ptr 101 0), (7, .ref 117), (17, .v (Enc.sl eBlk) a0), (18, .v (Enc.int .i64) (a0.length : Int)), (19, .v (Enc.int .i64) (ar .add .i64 s19.1 (1 : Int)))], [(101, .box 24 [.v eBlk a1]), (117, .arr 24 eBlk v35)]⟩) (J.cons (.none rfl) (JO.arith rfl rfl rfl) rfl rfl (J.cons (.none rfl) (JO.move rfl) rfl rfl (J.fin (Sw.Sub.mk id (.cons rfl (.of_eq rfl) (.cons rfl (.of_eq rfl) (.cons rfl (.of_eq rfl) (.cons rfl (.of_eq rfl) (.cons rfl (.of_eq rfl) .nil))))) (.box rfl (.cons (.of_eq rfl) .nil) (.arr rfl .nil)) rfl)))) ?_
        obtain rfl := Option.some.inj h
        exact W.next (Sw.Sub.mk (rn [(101, 101), (113, 117)]) (.cons rfl (.of_eq rfl) (.cons rfl (.of_eq rfl) (.cons rfl (.of_eq rfl) (.cons rfl (.of_eq rfl) (.cons rfl (.of_eq rfl) .nil))))) (.box rfl (.cons (.of_eq rfl) .nil) (.arr rfl .nil)) rfl)
      · replace h := cond_f hc34 h
        refine W.condF rfl hc34 ?_
        refine W.skip ?_
        refine W.fall ?_
        refine W.reg (σ' := ⟨[(3, .ptr 101 0), (7, .ref 113), (17, .v (Enc.sl eBlk) a0), (18, .v (Enc.int .i64) (a0.length : Int)), (19, .v (Enc.int .i64) (ar .add .i64 s19.1 (1 : Int)))], [(101, .box 24 [.v eBlk a1]), (113, .arr 24 eBlk s19.2)]⟩) (J.cons (.none rfl) (JO.arith rfl rfl rfl) rfl rfl (J.cons (.none rfl) (JO.move rfl) rfl rfl (J.fin (Sw.Sub.mk id (.cons rfl (.of_eq rfl) (.cons rfl (.of_eq rfl) (.cons rfl (.of_eq rfl) (.cons rfl (.of_eq rfl) (.cons rfl (.of_eq rfl) .nil))))) (.box rfl (.cons (.of_eq rfl) .nil) (.arr rfl .nil)) rfl)))) ?_
        obtain rfl := Option.some.inj h
        exact W.next (Sw.Sub.mk id (.cons rfl (.of_eq rfl) (.cons rfl (.of_eq rfl) (.cons rfl (.of_eq rfl) (.cons rfl (.of_eq rfl) (.cons rfl (.of_eq rfl) .nil))))) (.box rfl (.cons (.of_eq rfl) .nil) (.arr rfl .nil)) rfl)
    · replace h := cond_f hc29 h
      refine W.condF rfl hc29 ?_
      refine W.exit ?_
      obtain rfl := Option.some.inj h
      exact XQ.brk (Sw.Sub.mk id (.cons rfl (.of_eq rfl) .nil) (.arr rfl .nil) rfl)
set_option maxRecDepth 100000 in
set_option maxHeartbeats 4000000 in
theorem con_ref_Is {a0 : (Option Int)} {a1 : Int} {r : Bool} (h : m_ref_Is a0 a1 = some r) :
    Con Try.prog 18 [.v (Enc.err ET) a0, .v (Enc.int .i64) a1] (.v Enc.bool r) [] := by
  refine Con.of Try.func18 rfl Try.ntmps18 rfl ?_
  intro S w
  unfold m_ref_Is at h
  refine W.seq ?_
  refine W.reg (σ' := ⟨[(0, .v (Enc.err ET) a0), (1, .v (Enc.int .i64) a1)], []⟩) (J.cons (.none rfl) (JO.assign rfl) rfl rfl (J.fin (Sw.Sub.mk id (.cons rfl (.of_eq rfl) (.cons rfl (.of_eq rfl) .nil)) .nil rfl))) ?_
  refine W.seq ?_
  refine W.seq ?_
  refine W.reg (σ' := ⟨[(0, .v (Enc.err ET) a0), (1, .v (Enc.int .i64) a1), (6, .v Enc.bool (Option.isNone a0))], []⟩) (J.cons (.none rfl) (JO.move rfl) rfl rfl (J.cons (.none rfl) (JO.errEq Try.runUnderlying29 rfl) rfl rfl (J.fin (Sw.Sub.mk id (.cons rfl (.of_eq rfl) (.cons rfl (.of_eq rfl) (.cons rfl (.of_eq rfl) .nil))) .nil rfl)))) ?_
  rcases Bool.eq_false_or_eq_true (Option.isNone a0) with hc1 | hc1
  · replace h := cond_t hc1 h
    refine W.condT rfl hc1 ?_
    refine W.seq ?_
    refine W.reg (σ' := ⟨[(4, .v Enc.bool (cm .eql a1 (0 : Int)))], []⟩) (J.cons (.none rfl) (JO.move rfl) rfl rfl (J.cons (.none rfl) (JO.cmp rfl rfl rfl) rfl rfl (J.cons (.none rfl) (JO.assign rfl) rfl rfl (J.fin (Sw.Sub.mk id (.cons rfl (.of_eq rfl) .nil) .nil rfl))))) ?_
    refine W.ret ?_
    obtain rfl := Option.some.inj h
    exact XQ.sub (σ' := ⟨[(4, .v Enc.bool (cm .eql a1 (0 : Int)))], []⟩) (Sw.Sub.mk id (.cons rfl (.of_eq rfl) .nil) .nil rfl) (XQ.ret1 noR rfl (RV.tmp rfl) .nil rfl)
  · replace h := cond_f hc1 h
    refine W.condF rfl hc1 ?_
    refine W.skip ?_
    refine W.seq ?_
    obtain ⟨x3, hx, h⟩ := bind_e h
    refine W.reg (σ' := ⟨[(4, .v Enc.bool x3)], []⟩) ?_ ?_
    · rcases Bool.eq_false_or_eq_true (cm .neq a1 (0 : Int)) with hc4 | hc4
      · replace hx := cond_t hc4 hx
        obtain rfl := Option.some.inj hx
        exact (J.cons (.none rfl) (JO.move rfl) rfl rfl (J.cons (.none rfl) (JO.cmp rfl rfl rfl) rfl rfl (J.cons (.none rfl) (JO.move rfl) rfl rfl (J.cons (GK.met 11 rfl rfl rfl hc4) (JO.move rfl) rfl rfl (J.cons (GK.met 11 rfl rfl rfl hc4) (JO.move rfl) rfl rfl (J.cons (GK.met 11 rfl rfl rfl hc4) (JO.mkErr Try.runUnderlying25 rfl) rfl rfl (J.cons (GK.met 11 rfl rfl rfl hc4) (JO.errEq2 Try.runUnderlying29 Try.runUnderlying25 Try.typeInfo25 rfl rfl rfl) rfl rfl (J.cons (.none rfl) (JO.pT hc4 rfl rfl) rfl rfl (J.cons (.none rfl) (JO.assign rfl) rfl rfl (J.fin (Sw.Sub.mk id (.cons rfl (.of_eq rfl) .nil) .nil rfl)))))))))))
      · replace hx := cond_f hc4 hx
        obtain rfl := Option.some.inj hx
        exact (J.cons (.none rfl) (JO.move rfl) rfl rfl (J.cons (.none rfl) (JO.cmp rfl rfl rfl) rfl rfl (J.cons (.none rfl) (JO.move rfl) rfl rfl (J.left (GK.unmet 11 rfl rfl rfl hc4) rfl (J.left (GK.unmet 11 rfl rfl rfl hc4) rfl (J.left (GK.unmet 11 rfl rfl rfl hc4) rfl (J.left (GK.unmet 11 rfl rfl rfl hc4) rfl (J.cons (.none rfl) (JO.pF hc4 rfl rfl) rfl rfl (J.cons (.none rfl) (JO.assign rfl) rfl rfl (J.fin (Sw.Sub.mk id (.cons rfl (.of_eq rfl) .nil) .nil rfl)))))))))))
    refine W.ret ?_
    obtain rfl := Option.some.inj h
    exact XQ.sub (σ' := ⟨[(4, .v Enc.bool x3)], []⟩) (Sw.Sub.mk id (.cons rfl (.of_eq rfl) .nil) .nil rfl) (XQ.ret1 noR rfl (RV.tmp rfl) .nil rfl)
set_option maxRecDepth 100000 in
set_option maxHeartbeats 4000000 in
theorem con_ref_SameBlocks {a0 : (List Blk)} {a1 : (List Blk)} {r : Bool} (h : m_ref_SameBlocks a0 a1 = some r) :
    Con Try.prog 20 [.v (Enc.sl eBlk) a0, .v (Enc.sl eBlk) a1] (.v Enc.bool r) [] := by
  refine Con.of Try.func20 rfl Try.ntmps20 rfl ?_
  intro S w
  unfold m_ref_SameBlocks at h
  refine W.seq ?_
  refine W.reg (σ' := ⟨[(0, .v (Enc.sl eBlk) a0), (1, .v (Enc.sl eBlk) a1)], []⟩) (J.cons (.none rfl) (JO.assign rfl) rfl rfl (J.fin (Sw.Sub.mk id (.cons rfl (.of_eq rfl) (.cons rfl (.of_eq rfl) .nil)) .nil rfl))) ?_
  refine W.seq ?_
  refine W.seq ?_
  refine W.reg (σ' := ⟨[(0, .v (Enc.sl eBlk) a0), (1, .v (Enc.sl eBlk) a1), (10, .v Enc.bool (cm .neq (a0.length : Int) (a1.length : Int)))], []⟩) (J.cons (.none rfl) (JO.move rfl) rfl rfl (J.cons (.none rfl) (JO.len rfl Try.runUnderlying22) rfl rfl (J.cons (.none rfl) (JO.move rfl) rfl rfl (J.cons (.none rfl) (JO.len rfl Try.runUnderlying22) rfl rfl (J.cons (.none rfl) (JO.cmp rfl rfl rfl) rfl rfl (J.fin (Sw.Sub.mk id (.cons rfl (.of_eq rfl) (.cons rfl (.of_eq rfl) (.cons rfl (.of_eq rfl) .nil))) .nil rfl))))))) ?_
  rcases Bool.eq_false_or_eq_true (cm .neq (a0.length : Int) (a1.length : Int)) with hc1 | hc1
  · replace h := cond_t hc1 h
    refine W.condT rfl hc1 ?_
    refine W.seq ?_
    refine W.reg (σ' := ⟨[(4, .v Enc.bool false)], []⟩) (J.cons (.none rfl) (JO.assign rfl) rfl rfl (J.fin (Sw.Sub.mk id (.cons rfl (.of_eq rfl) .nil) .nil rfl))) ?_
    refine W.ret ?_
    obtain rfl := Option.some.inj h
    exact XQ.sub (σ' := ⟨[(4, .v Enc.bool false)], []⟩) (Sw.Sub.mk id (.cons rfl (.of_eq rfl) .nil) .nil rfl) (XQ.ret1 noR rfl (RV.tmp rfl) .nil rfl)
  · replace h := cond_f hc1 h
    refine W.condF rfl hc1 ?_
    refine W.skip ?_
    refine W.seq ?_
    refine W.seq ?_
    refine W.reg (σ' := ⟨[(0, .v (Enc.sl eBlk) a0), (1, .v (Enc.sl eBlk) a1), (5, .v (Enc.int .i64) (0 : Int))], []⟩) (J.cons (.none rfl) (JO.assign rfl) rfl rfl (J.fin (Sw.Sub.mk id (.cons rfl (.of_eq rfl) (.cons rfl (.of_eq rfl) (.cons rfl (.of_eq rfl) .nil))) .nil rfl))) ?_
    obtain ⟨o17, ho17, hb17, hr17⟩ := lp_elim h
    refine W.lp (σs := fun s12 : Int => ⟨[(0, .v (Enc.sl eBlk) a0), (1, .v (Enc.sl eBlk) a1), (5, .v (Enc.int .i64) s12)], []⟩) (fun x18 : Unit => ⟨[], []⟩) ho17 (Sw.Sub.mk id (.cons rfl (.of_eq rfl) (.cons rfl (.of_eq rfl) (.cons rfl (.of_eq rfl) .nil))) .nil rfl) ?_ ?_
    · intro x18 hy
      have h := hb17 _ hy
      refine W.seq ?_
      refine W.reg (σ' := ⟨[(4, .v Enc.bool true)], []⟩) (J.cons (.none rfl) (JO.assign rfl) rfl rfl (J.fin (Sw.Sub.mk id (.cons rfl (.of_eq rfl) .nil) .nil rfl))) ?_
      refine W.ret ?_
      obtain rfl := Option.some.inj h
      exact XQ.sub (σ' := ⟨[(4, .v Enc.bool true)], []⟩) (Sw.Sub.mk id (.cons rfl (.of_eq rfl) .nil) .nil rfl) (XQ.ret1 noR rfl (RV.tmp rfl) .nil rfl)
    intro s12 r17 h
    refine W.seq ?_
    refine W.seq ?_
    refine W.reg (σ' := ⟨[(0, .v (Enc.sl eBlk) a0), (1, .v (Enc.sl eBlk) a1), (5, .v (Enc.int .i64) s12), (14, .v Enc.bool (cm .lss s12 (a0.length : Int)))], []⟩) (J.cons (.none rfl) (JO.move rfl) rfl rfl (J.cons (.none rfl) (JO.move rfl) rfl rfl (J.cons (.none rfl) (JO.len rfl Try.runUnderlying22) rfl rfl (J.cons (.none rfl) (JO.cmp rfl rfl rfl) rfl rfl (J.fin (Sw.Sub.mk id (.cons rfl (.of_eq rfl) (.cons rfl (.of_eq rfl) (.cons rfl (.of_eq rfl) (.cons rfl (.of_eq rfl) .nil)))) .nil rfl)))))) ?_
    rcases Bool.eq_false_or_eq_true (cm .lss s12 (a0.length : Int)) with hc19 | hc19
    · replace h := cond_t hc19 h
      refine W.condT rfl hc19 ?_
      refine W.skip ?_
      refine W.seq ?_
      refine W.block ?_
      refine W.seq ?_
      obtain ⟨z20, hz20, h⟩ := bind_e h
      obtain ⟨z21, hz21, h⟩ := bind_e h
      refine W.draw (σ' := ⟨[(0, .v (Enc.sl eBlk) a0), (1, .v (Enc.sl eBlk) a1), (5, .v (Enc.int .i64) s12), (25, .v Enc.bool (!decide (z20 = z21)))], []⟩) (n := 9) mixed rfl rfl (by decide +kernel) (by decide +kernel) (.cons (.none rfl) (JO.move rfl) rfl (.cons (.none rfl) (JO.move rfl) rfl (.cons (.none rfl) (JO.idx hz20 rfl rfl Try.runUnderlying22 Try.sizeOf24) rfl (.cons (.none rfl) (JO.loadPst rfl Try.isAgg24 Try.sizeOf24) rfl (.cons (.none rfl) (JO.move rfl) rfl (.cons (.none rfl) (JO.move rfl) rfl (.cons (.none rfl) (JO.idx hz21 rfl rfl Try.runUnderlying22 Try.sizeOf24) rfl (.cons (.none rfl) (JO.loadPst rfl Try.isAgg24 Try.sizeOf24) rfl (.cons (.none rfl) (JO.neV eq24 rfl rfl Try.eqGuardType24 rfl rfl) rfl .nil))))))))) (J.fin (Sw.Sub.mk id (.cons rfl (.of_eq rfl) (.cons rfl (.of_eq rfl) (.cons rfl (.of_eq rfl) (.cons rfl (.of_eq rfl) .nil)))) .nil rfl)) ?_
      rcases Bool.eq_false_or_eq_true (!decide (z20 = z21)) with hc22 | hc22
      · replace h := cond_t hc22 h
        refine W.condT rfl hc22 ?_
        refine W.seq ?_
        refine W.reg (σ' := ⟨[(4, .v Enc.bool false)], []⟩) (J.cons (.none rfl) (JO.assign rfl) rfl rfl (J.fin (Sw.Sub.mk id (.cons rfl (.of_eq rfl) .nil) .nil rfl))) ?_
        refine W.ret ?_
        refine XQ.ret ?_
        obtain rfl := Option.some.inj h
        refine XQ.lret fun ho => ?_
        obtain rfl := hr17 _ ho
        exact XQ.sub (σ' := ⟨[(4, .v Enc.bool false)], []⟩) (Sw.Sub.mk id (.cons rfl (.of_eq rfl) .nil) .nil rfl) (XQ.ret1 noR rfl (RV.tmp rfl) .nil rfl)
      · replace h := cond_f hc22 h
        refine W.condF rfl hc22 ?_
        refine W.skip ?_
        refine W.fall ?_
        refine W.reg (σ' := ⟨[(0, .v (Enc.sl eBlk) a0), (1, .v (Enc.sl eBlk) a1), (5, .v (Enc.int .i64) (ar .add .i64 s12 (1 : Int)))], []⟩) (J.cons (.none rfl) (JO.move rfl) rfl rfl (J.cons (.none rfl) (JO.arith rfl rfl rfl) rfl rfl (J.cons (.none rfl) (JO.assign rfl) rfl rfl (J.fin (Sw.Sub.mk id (.cons rfl (.of_eq rfl) (.cons rfl (.of_eq rfl) (.cons rfl (.of_eq rfl) .nil))) .nil rfl))))) ?_
        obtain rfl := Option.some.inj h
        exact W.next (Sw.Sub.mk id (.cons rfl (.of_eq rfl) (.cons rfl (.of_eq rfl) (.cons rfl (.of_eq rfl) .nil))) .nil rfl)
    · replace h := cond_f hc19 h
      refine W.condF rfl hc19 ?_
      refine W.exit ?_
      obtain rfl := Option.some.inj h
      exact XQ.brk (Sw.Sub.mk id .nil .nil rfl)
set_option maxRecDepth 100000 in
set_option maxHeartbeats 4000000 in
theorem con_law_CacheHad {a0 : (List Blk)} {a1 : Blk} {r : Bool} (h : m_law_CacheHad a0 a1 = some r) :
    Con Try.prog 3 [.v (Enc.sl eBlk) a0, .v eBlk a1] (.v Enc.bool r) [] := by
  refine Con.of Try.func3 rfl Try.ntmps3 rfl ?_
  intro S w
  unfold m_law_CacheHad at h
  refine W.seq ?_
  refine W.reg (σ' := ⟨[(0, .v (Enc.sl eBlk) a0), (3, .ptr 101 0)], [(101, .box 24 [.v eBlk a1])]⟩) (J.cons (.none rfl) (JO.box 101 rfl (.one _ _) rfl) rfl rfl (J.cons (.none rfl) (JO.assign rfl) rfl rfl (J.fin (Sw.Sub.mk id (.cons rfl (.of_eq rfl) (.cons rfl (.of_eq rfl) .nil)) (.box rfl (.cons (.of_eq rfl) .nil) .nil) rfl)))) ?_
  refine W.seq ?_
  refine W.seq ?_
  refine W.reg (σ' := ⟨[(0, .v (Enc.sl eBlk) a0), (3, .ptr 101 0), (11, .v Enc.bool (cm .gtr (a0.length : Int) (100 : Int)))], [(101, .box 24 [.v eBlk a1])]⟩) (J.cons (.none rfl) (JO.move rfl) rfl rfl (J.cons (.none rfl) (JO.len rfl Try.runUnderlying22) rfl rfl (J.cons (.none rfl) (JO.cmp rfl rfl rfl) rfl rfl (J.fin (Sw.Sub.mk id (.cons rfl (.of_eq rfl) (.cons rfl (.of_eq rfl) (.cons rfl (.of_eq rfl) .nil))) (.box rfl (.cons (.of_eq rfl) .nil) .nil) rfl))))) ?_
  rcases Bool.eq_false_or_eq_true (cm .gtr (a0.length : Int) (100 : Int)) with hc1 | hc1
  · replace h := cond_t hc1 h
    refine W.condT rfl hc1 ?_
    refine W.seq ?_
    refine W.reg (σ' := ⟨[(4, .v Enc.bool true)], []⟩) (J.cons (.none rfl) (JO.assign rfl) rfl rfl (J.fin (Sw.Sub.mk id (.cons rfl (.of_eq rfl) .nil) .nil rfl))) ?_
    refine W.ret ?_
    obtain rfl := Option.some.inj h
    exact XQ.sub (σ' := ⟨[(4, .v Enc.bool true)], []⟩) (Sw.Sub.mk id (.cons rfl (.of_eq rfl) .nil) .nil rfl) (XQ.ret1 noR rfl (RV.tmp rfl) .nil rfl)
  · replace h := cond_f hc1 h
    refine W.condF rfl hc1 ?_
    refine W.skip ?_
    refine W.seq ?_
    obtain ⟨v2, hv2, h⟩ := bind_e h
    refine W.reg (σ' := ⟨[(0, .v (Enc.sl eBlk) a0), (3, .ptr 101 0), (5, .v (Enc.int .i64) v2)], [(101, .box 24 [.v eBlk a1])]⟩) (J.cons (.none rfl) (JO.move rfl) rfl rfl (J.cons (.none rfl) (JO.call 102000 (con_ref_HadMay hv2) Try.call15 (.cons (.dir rfl) .nil) rfl) rfl rfl (J.cons (.none rfl) (JO.assign rfl) rfl rfl (J.fin (Sw.Sub.mk id (.cons rfl (.of_eq rfl) (.cons rfl (.of_eq rfl) (.cons rfl (.of_eq rfl) .nil))) (.box rfl (.cons (.of_eq rfl) .nil) .nil) rfl))))) ?_
    refine W.seq ?_
    refine W.reg (σ' := ⟨[(0, .v (Enc.sl eBlk) a0), (3, .ptr 101 0), (5, .v (Enc.int .i64) v2), (6, .v (Enc.sl eBlk) ([] : (List Blk)))], [(101, .box 24 [.v eBlk a1])]⟩) (J.cons (.none rfl) (JO.assignNil eBlk) rfl rfl (J.fin (Sw.Sub.mk id (.cons rfl (.of_eq rfl) (.cons rfl (.of_eq rfl) (.cons rfl (.of_eq rfl) (.cons rfl (.of_eq rfl) .nil)))) (.box rfl (.cons (.of_eq rfl) .nil) .nil) rfl))) ?_
    refine W.seq ?_
    refine W.seq ?_
    refine W.reg (σ' := ⟨[(0, .v (Enc.sl eBlk) a0), (3, .ptr 101 0), (5, .v (Enc.int .i64) v2), (6, .v (Enc.sl eBlk) ([] : (List Blk))), (15, .v Enc.bool (cm .eql v2 (0 : Int)))], [(101, .box 24 [.v eBlk a1])]⟩) (J.cons (.none rfl) (JO.move rfl) rfl rfl (J.cons (.none rfl) (JO.cmp rfl rfl rfl) rfl rfl (J.fin (Sw.Sub.mk id (.cons rfl (.of_eq rfl) (.cons rfl (.of_eq rfl) (.cons rfl (.of_eq rfl) (.cons rfl (.of_eq rfl) (.cons rfl (.of_eq rfl) .nil))))) (.box rfl (.cons (.of_eq rfl) .nil) .nil) rfl)))) ?_
    obtain ⟨k5, hk5, h⟩ := jp_elim h
    refine W.jn (fun x6 : (List Blk) => ⟨[(0, .v (Enc.sl eBlk) a0), (3, .ptr 101 0), (5, .v (Enc.int .i64) v2), (6, .v (Enc.sl eBlk) x6)], [(101, .box 24 [.v eBlk a1])]⟩) (fun x => k5 x = some r) rfl ?_ ?_ ?_
    · intro x6 h
      rw [hk5] at h
      refine W.seq ?_
      obtain ⟨v8, hv8, h⟩ := bind_e h
      refine W.reg (σ' := ⟨[(0, .v (Enc.sl eBlk) a0), (5, .v (Enc.int .i64) v2), (6, .v (Enc.sl eBlk) x6), (7, .v (Enc.sl eBlk) v8.1), (8, .v (Enc.err ET) v8.2)], []⟩) (J.cons (.none rfl) (JO.move rfl) rfl rfl (J.cons (.none rfl) (JO.load rfl rfl rfl Try.isAgg24 Try.sizeOf24) rfl rfl (J.cons (.none rfl) (JO.call 105000 (con_cache_Touch hv8) Try.call17 (.cons (.dir rfl) (.cons (.dir rfl) .nil)) rfl) rfl rfl (J.cons (.none rfl) (JO.move rfl) rfl rfl (J.cons (.none rfl) (JO.extract rfl rfl) rfl rfl (J.cons (.none rfl) (JO.extract rfl rfl) rfl rfl (J.cons (.none rfl) (JO.assign rfl) rfl rfl (J.cons (.none rfl) (JO.assign rfl) rfl rfl (J.fin (Sw.Sub.mk id (.cons rfl (.of_eq rfl) (.cons rfl (.of_eq rfl) (.cons rfl (.of_eq rfl) (.cons rfl (.of_eq rfl) (.cons rfl (.of_eq rfl) .nil))))) .nil rfl)))))))))) ?_
      refine W.seq ?_
      obtain ⟨x15, hx, h⟩ := bind_e h
      refine W.reg (σ' := ⟨[(4, .v Enc.bool x15)], []⟩) ?_ ?_
      · obtain ⟨v16, hv16, hx⟩ := bind_e hx
        obtain ⟨v17, hv17, hx⟩ := bind_e hx
        rcases Bool.eq_false_or_eq_true v17 with hc18 | hc18
        · replace hx := cond_t hc18 hx
          obtain ⟨v19, hv19, hx⟩ := bind_e hx
          rcases Bool.eq_false_or_eq_true v19 with hc20 | hc20
          · replace hx := cond_t hc20 hx
            obtain ⟨v21, hv21, hx⟩ := bind_e hx
            obtain rfl := Option.some.inj hx
            exact (J.cons (.none rfl) (JO.move rfl) rfl rfl (J.cons (.none rfl) (JO.call 110000 (con_cache_Check hv16) Try.call19 (.cons (.dir rfl) .nil) rfl) rfl rfl (J.cons (.none rfl) (JO.move rfl) rfl rfl (J.cons (.none rfl) (JO.call 111000 (con_ref_Is hv17) Try.call18 (.cons (.dir rfl) (.cons (.dir rfl) .nil)) rfl) rfl rfl (J.cons (.none rfl) (JO.move rfl) rfl rfl (J.cons (GK.met 29 rfl rfl rfl hc18) (JO.move rfl) rfl rfl (J.cons (GK.met 29 rfl rfl rfl hc18) (JO.move rfl) rfl rfl (J.cons (GK.met 29 rfl rfl rfl hc18) (JO.call 112000 (con_ref_Is hv19) Try.call18 (.cons (.dir rfl) (.cons (.dir rfl) .nil)) rfl) rfl rfl (J.cons (.none rfl) (JO.pT hc18 rfl rfl) rfl rfl (J.cons (.none rfl) (JO.move rfl) rfl rfl (J.cons (GK.met 34 rfl rfl rfl hc20) (JO.move rfl) rfl rfl (J.cons (GK.met 34 rfl rfl rfl hc20) (JO.move rfl) rfl rfl (J.cons (GK.met 34 rfl rfl rfl hc20) (JO.call 113000 (con_ref_SameBlocks hv21) Try.call20 (.cons (.dir rfl) (.cons (.dir rfl) .nil)) rfl) rfl rfl (J.cons (.none rfl) (JO.pT hc20 rfl rfl) rfl rfl (J.cons (.none rfl) (JO.assign rfl) rfl rfl (J.fin (Sw.Sub.mk id (.cons rfl (.of_eq rfl) .nil) .nil rfl)))))))))))))))))
          · replace hx := cond_f hc20 hx
            obtain rfl := Option.some.inj hx
            exact (J.cons (.none rfl) (JO.move rfl) rfl rfl (J.cons (.none rfl) (JO.call 110000 (con_cache_Check hv16) Try.call19 (.cons (.dir rfl) .nil) rfl) rfl rfl (J.cons (.none rfl) (JO.move rfl) rfl rfl (J.cons (.none rfl) (JO.call 111000 (con_ref_Is hv17) Try.call18 (.cons (.dir rfl) (.cons (.dir rfl) .nil)) rfl) rfl rfl (J.cons (.none rfl) (JO.move rfl) rfl rfl (J.cons (GK.met 29 rfl rfl rfl hc18) (JO.move rfl) rfl rfl (J.cons (GK.met 29 rfl rfl rfl hc18) (JO.move rfl) rfl rfl (J.cons (GK.met 29 rfl rfl rfl hc18) (JO.call 112000 (con_ref_Is hv19) Try.call18 (.cons (.dir rfl) (.cons (.dir rfl) .nil)) rfl) rfl rfl (J.cons (.none rfl) (JO.pT hc18 rfl rfl) rfl rfl (J.cons (.none rfl) (JO.move rfl) rfl rfl (J.left (GK.unmet 34 rfl rfl rfl hc20) rfl (J.left (GK.unmet 34 rfl rfl rfl hc20) rfl (J.left (GK.unmet 34 rfl rfl rfl hc20) rfl (J.cons (.none rfl) (JO.pF hc20 rfl rfl) rfl rfl (J.cons (.none rfl) (JO.assign rfl) rfl rfl (J.fin (Sw.Sub.mk id (.cons rfl (.of_eq rfl) .nil) .nil rfl)))))))))))))))))
        · replace hx := cond_f hc18 hx
          obtain rfl := Option.some.inj hx
          exact (J.cons (.none rfl) (JO.move rfl) rfl rfl (J.cons (.none rfl) (JO.call 110000 (con_cache_Check hv16) Try.call19 (.cons (.dir rfl) .nil) rfl) rfl rfl (J.cons (.none rfl) (JO.move rfl) rfl rfl (J.cons (.none rfl) (JO.call 111000 (con_ref_Is hv17) Try.call18 (.cons (.dir rfl) (.cons (.dir rfl) .nil)) rfl) rfl rfl (J.cons (.none rfl) (JO.move rfl) rfl rfl (J.left (GK.unmet 29 rfl rfl rfl hc18) rfl (J.left (GK.unmet 29 rfl rfl rfl hc18) rfl (J.left (GK.unmet 29 rfl rfl rfl hc18) rfl (J.cons (.none rfl) (JO.pF hc18 rfl rfl) rfl rfl (J.cons (.none rfl) (JO.move rfl) rfl rfl (J.left (GK.unmet 34 rfl rfl rfl rfl) rfl (J.left (GK.unmet 34 rfl rfl rfl rfl) rfl (J.left (GK.unmet 34 rfl rfl rfl rfl) rfl (J.cons (.none rfl) (JO.pF rfl rfl rfl) rfl rfl (J.cons (.none rfl) (JO.assign rfl) rfl rfl (J.fin (Sw.Sub.mk id (.cons rfl (.of_eq rfl) .nil) .nil rfl)))))))))))))))))
      refine W.ret ?_
      obtain rfl := Option.some.inj h
      exact XQ.sub (σ' := ⟨[(4, .v Enc.bool x15)], []⟩) (Sw.Sub.mk id (.cons rfl (.of_eq rfl) .nil) .nil rfl) (XQ.ret1 noR rfl (RV.tmp rfl) .nil rfl)
    · intro hc3
      replace h := cond_t hc3 h
      obtain ⟨v7, hv7, h⟩ := bind_e h
      refine W.reg (σ' := ⟨[(0, .v (Enc.sl eBlk) a0), (3, .ptr 101 0), (5, .v (Enc.int .i64) v2), (6, .v (Enc.sl eBlk) v7)], [(101, .box 24 [.v eBlk a1])]⟩) (J.cons (.none rfl) (JO.move rfl) rfl rfl (J.cons (.none rfl) (JO.load rfl rfl rfl Try.isAgg24 Try.sizeOf24) rfl rfl (J.cons (.none rfl) (JO.call 104000 (con_ref_Touched hv7) Try.call16 (.cons (.dir rfl) (.cons (.dir rfl) .nil)) rfl) rfl rfl (J.cons (.none rfl) (JO.assign rfl) rfl rfl (J.fin (Sw.Sub.mk id (.cons rfl (.of_eq rfl) (.cons rfl (.of_eq rfl) (.cons rfl (.of_eq rfl) (.cons rfl (.of_eq rfl) .nil)))) (.box rfl (.cons (.of_eq rfl) .nil) .nil) rfl)))))) ?_
      exact W.jfall h (Sw.Sub.mk id (.cons rfl (.of_eq rfl) (.cons rfl (.of_eq rfl) (.cons rfl (.of_eq rfl) (.cons rfl (.of_eq rfl) .nil)))) (.box rfl (.cons (.of_eq rfl) .nil) .nil) rfl)
    · intro hc3
      replace h := cond_f hc3 h
      refine W.skip ?_
      exact W.jfall h (Sw.Sub.mk id (.cons rfl (.of_eq rfl) (.cons rfl (.of_eq rfl) (.cons rfl (.of_eq rfl) (.cons rfl (.of_eq rfl) .nil)))) (.box rfl (.cons (.of_eq rfl) .nil) .nil) rfl)
end Go.Cn
