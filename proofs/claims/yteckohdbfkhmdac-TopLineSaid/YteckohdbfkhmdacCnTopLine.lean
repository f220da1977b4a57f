/- The functions that this law reaches come to what their models come to. Conditions: none. -/
import Derived.Test.YteckohdbfkhmdacCnATopLine
set_option linter.unusedVariables false
set_option linter.unusedSimpArgs false
namespace Go.Cn
open Go Go.Sw Go.Mo Go.Proofs
set_option maxRecDepth 100000 in
set_option maxHeartbeats 4000000 in
theorem con_top_TopLine {a0 : Int} {a1 : Int} {a2 : (List Int)} {r : Bool} (h : m_top_TopLine a0 a1 a2 = some r) :
  Con Try.prog 5 [.v Q0 a0, .v Q0 a1, .v (Enc.sl Q0) a2] (.v Enc.bool r) [] := by
 refine Con.of Try.func5 rfl Try.ntmps5 rfl ?_
 intro S w hF
 unfold m_top_TopLine at h
 refine W.seq ?_
 refine W.reg (σ' := ⟨[(0, .v Q0 a0), (1, .v Q0 a1), (2, .v (Enc.sl Q0) a2)], []⟩) (J.k (JO.assign rfl) (J.fin (Sw.Sub.mk id (.c rfl (.c rfl (.c rfl .nil))) .nil rfl))) ?_
 refine W.seq ?_
 refine W.seq ?_
 refine W.reg (σ' := ⟨[(0, .v Q0 a0), (1, .v Q0 a1), (2, .v (Enc.sl Q0) a2), (19, .v Enc.bool (cm .gtr (a2.length : Int) (100 : Int)))], []⟩) (J.mv rfl (J.k (JO.len rfl Try.runUnderlying22) (J.k (JO.cmp rfl rfl rfl) (J.fin (Sw.Sub.mk id (.c rfl (.c rfl (.c rfl (.c rfl .nil)))) .nil rfl))))) ?_
 rcases Bool.eq_false_or_eq_true (cm .gtr (a2.length : Int) (100 : Int)) with hc1 | hc1
 ·replace h := cond_t hc1 h
  refine W.condT rfl hc1 ?_
  refine W.seq ?_
  refine W.reg (σ' := ⟨[(6, .v Enc.bool true)], []⟩) (J.k (JO.assign rfl) (J.fin (Sw.Sub.mk id (.c rfl .nil) .nil rfl))) ?_
  refine W.ret ?_
  obtain rfl := Option.some.inj h
  exact XQ.sub (σ' := ⟨[(6, .v Enc.bool true)], []⟩) (Sw.Sub.mk id (.c rfl .nil) .nil rfl) (XQ.ret1 hF noR rfl (RV.tmp rfl) .nil rfl)
 ·replace h := cond_f hc1 h
  refine W.condF rfl hc1 ?_
  refine W.skip ?_
  refine W.seq ?_
  obtain ⟨v2, hv2, h⟩ := bind_e h
  refine W.reg (σ' := ⟨[(0, .v Q0 v2), (1, .v Q0 a1), (2, .v (Enc.sl Q0) a2)], []⟩) (J.mv rfl (J.k (JO.call0 (con_ref_Pick hv2) Try.call8 (.cons (.dir rfl) (.cons (.dir rfl) .nil))) (J.k (JO.assign rfl) (J.fin (Sw.Sub.mk id (.c rfl (.c rfl (.c rfl .nil))) .nil rfl))))) ?_
  refine W.seq ?_
  obtain ⟨v3, hv3, h⟩ := bind_e h
  refine W.reg (σ' := ⟨[(0, .v Q0 v2), (1, .v Q0 v3), (2, .v (Enc.sl Q0) a2)], []⟩) (J.mv rfl (J.k (JO.call0 (con_ref_Pick hv3) Try.call8 (.cons (.dir rfl) (.cons (.dir rfl) .nil))) (J.k (JO.assign rfl) (J.fin (Sw.Sub.mk id (.c rfl (.c rfl (.c rfl .nil))) .nil rfl))))) ?_
  refine W.seq ?_
  refine W.reg (σ' := ⟨[(1, .v Q0 v3), (2, .v (Enc.sl Q0) a2), (7, .ptr 105 0)], [(105, .box 56 [.v Q2 (v2, (0 : Int), ([] : Q3)), .v (Enc.pr Q0 Q0) (v2, (0 : Int)), .ref 104, .ref 103, .v Enc.bool true]), (104, .arr 64 (Enc.pr Enc.bool (Enc.sl (Enc.int .u8))) ([] : (List (Bool × (List Int))))), (103, .arr 3 Q0 ([] : (List Int)))]⟩) (J.mv rfl (J.k (JO.build built51 (.cons (Z.int .i64) (.cons (Z.int .i64) (.cons (Z.sl Q1) .nil))) (.cons rfl (.dir rfl) rfl rfl rfl rfl .nil)) (J.mv rfl (J.k (JO.build built53 (.cons (Z.int .i64) (.cons (Z.int .i64) .nil)) (.cons rfl (.dir rfl) rfl rfl rfl rfl .nil)) (J.k (JO.buildN (new := [(104, .arr 64 (Enc.pr Enc.bool (Enc.sl (Enc.int .u8))) ([] : (List (Bool × (List Int))))), (103, .arr 3 Q0 ([] : (List Int)))]) built56 (.cons (Z.pr (Z.int .i64) (Z.pr (Z.int .i64) (Z.sl Q1))) (.cons (Z.pr (Z.int .i64) (Z.int .i64)) (.ref 104 rfl (.ref 103 rfl (.cons Z.bool .nil))))) (.cons (.cons .nil)) rfl (.cons rfl (.agg rfl (.same (.same (.same .nil))) (.prm (.one _ _) (.prm (.one _ _) (.one _ _))) rfl) rfl rfl rfl rfl (.cons rfl (.agg rfl (.same (.same .nil)) (.prm (.one _ _) (.one _ _)) rfl) rfl rfl rfl rfl (.cons rfl (.dir rfl) rfl rfl rfl rfl .nil)))) (J.k (JO.boxAgg 105 rfl rfl) (J.k (JO.assign rfl) (J.fin (Sw.Sub.mk id (.c rfl (.c rfl (.c rfl .nil))) (.box rfl (.c rfl (.c rfl (.c rfl (.c rfl (.c rfl .nil))))) (.arr rfl (.arr rfl .nil))) rfl))))))))) ?_
  refine W.seq ?_
  refine W.seq ?_
  refine W.reg (σ' := ⟨[(1, .v Q0 v3), (2, .v (Enc.sl Q0) a2), (7, .ptr 105 0), (8, .v Q0 (0 : Int))], [(105, .box 56 [.v Q2 (v2, (0 : Int), ([] : Q3)), .v (Enc.pr Q0 Q0) (v2, (0 : Int)), .ref 104, .ref 103, .v Enc.bool true]), (104, .arr 64 (Enc.pr Enc.bool (Enc.sl (Enc.int .u8))) ([] : (List (Bool × (List Int))))), (103, .arr 3 Q0 ([] : (List Int)))]⟩) (J.k (JO.assign rfl) (J.fin (Sw.Sub.mk id (.c rfl (.c rfl (.c rfl (.c rfl .nil)))) (.box rfl (.c rfl (.c rfl (.c rfl (.c rfl (.c rfl .nil))))) (.arr rfl (.arr rfl .nil))) rfl))) ?_
  obtain ⟨o16, ho16, hb16, hr16⟩ := lp_elim h
  refine W.lp (σs := fun s12 : Int × (Int × Int × Q3) => ⟨[(1, .v Q0 v3), (2, .v (Enc.sl Q0) a2), (7, .ptr 105 0), (8, .v Q0 s12.1)], [(105, .box 56 [.v Q2 s12.2, .v (Enc.pr Q0 Q0) (v2, (0 : Int)), .ref 104, .ref 103, .v Enc.bool true]), (104, .arr 64 (Enc.pr Enc.bool (Enc.sl (Enc.int .u8))) ([] : (List (Bool × (List Int))))), (103, .arr 3 Q0 ([] : (List Int)))]⟩) (fun x17 : (Int × Int × Q3) => ⟨[(1, .v Q0 v3), (2, .v (Enc.sl Q0) a2), (7, .ptr 105 0)], [(105, .box 56 [.v Q2 x17, .v (Enc.pr Q0 Q0) (v2, (0 : Int)), .ref 104, .ref 103, .v Enc.bool true]), (104, .arr 64 (Enc.pr Enc.bool (Enc.sl (Enc.int .u8))) ([] : (List (Bool × (List Int))))), (103, .arr 3 Q0 ([] : (List Int)))]⟩) ho16 (Sw.Sub.mk id (.c rfl (.c rfl (.c rfl (.c rfl .nil)))) (.box rfl (.c rfl (.c rfl (.c rfl (.c rfl (.c rfl .nil))))) (.arr rfl (.arr rfl .nil))) rfl) ?_ ?_
  ·intro x17 hy
   have h := hb16 _ hy
   refine W.seq ?_
   refine W.seq ?_
   refine W.reg (σ' := ⟨[(1, .v Q0 v3), (2, .v (Enc.sl Q0) a2), (7, .ptr 105 0), (11, .v Q0 (0 : Int))], [(105, .box 56 [.v Q2 x17, .v (Enc.pr Q0 Q0) (v2, (0 : Int)), .ref 104, .ref 103, .v Enc.bool true]), (104, .arr 64 (Enc.pr Enc.bool (Enc.sl (Enc.int .u8))) ([] : (List (Bool × (List Int))))), (103, .arr 3 Q0 ([] : (List Int)))]⟩) (J.k (JO.assign rfl) (J.fin (Sw.Sub.mk id (.c rfl (.c rfl (.c rfl (.c rfl .nil)))) (.box rfl (.c rfl (.c rfl (.c rfl (.c rfl (.c rfl .nil))))) (.arr rfl (.arr rfl .nil))) rfl))) ?_
   obtain ⟨o204, ho204, hb204, hr204⟩ := lp_elim h
   refine W.lp (σs := fun s143 : Int × (Int × Int × Q3) × (Int × Int) × Bool × (List (Bool × (List Int))) × (List Int) => ⟨[(1, .v Q0 v3), (2, .v (Enc.sl Q0) a2), (7, .ptr 105 0), (11, .v Q0 s143.1)], [(105, .box 56 [.v Q2 s143.2.1, .v (Enc.pr Q0 Q0) s143.2.2.1, .ref 196, .ref 197, .v Enc.bool s143.2.2.2.1]), (196, .arr 64 (Enc.pr Enc.bool (Enc.sl (Enc.int .u8))) s143.2.2.2.2.1), (197, .arr 3 Q0 s143.2.2.2.2.2)]⟩) (fun x205 : (Int × Int × Q3) × (Int × Int) × Bool × (List (Bool × (List Int))) × (List Int) => ⟨[(1, .v Q0 v3), (7, .ptr 105 0)], [(105, .box 56 [.v Q2 x205.1, .v (Enc.pr Q0 Q0) x205.2.1, .ref 196, .ref 197, .v Enc.bool x205.2.2.1]), (196, .arr 64 (Enc.pr Enc.bool (Enc.sl (Enc.int .u8))) x205.2.2.2.1), (197, .arr 3 Q0 x205.2.2.2.2)]⟩) ho204 (Sw.Sub.mk (rn [(105, 105), (197, 103), (196, 104)]) (.c rfl (.c rfl (.c rfl (.c rfl .nil)))) (.box rfl (.c rfl (.c rfl (.c rfl (.c rfl (.c rfl .nil))))) (.arr rfl (.arr rfl .nil))) rfl) ?_ ?_
   ·intro x205 hy
    have h := hb204 _ hy
    refine W.seq ?_
    refine W.seq ?_
    refine W.reg (σ' := ⟨[(1, .v Q0 v3), (7, .ptr 105 0), (14, .v Q0 (0 : Int))], [(105, .box 56 [.v Q2 x205.1, .v (Enc.pr Q0 Q0) x205.2.1, .ref 196, .ref 197, .v Enc.bool x205.2.2.1]), (196, .arr 64 (Enc.pr Enc.bool (Enc.sl (Enc.int .u8))) x205.2.2.2.1), (197, .arr 3 Q0 x205.2.2.2.2)]⟩) (J.k (JO.assign rfl) (J.fin (Sw.Sub.mk id (.c rfl (.c rfl (.c rfl .nil))) (.box rfl (.c rfl (.c rfl (.c rfl (.c rfl (.c rfl .nil))))) (.arr rfl (.arr rfl .nil))) rfl))) ?_
    obtain ⟨o278, ho278, hb278, hr278⟩ := lp_elim h
    refine W.lp (σs := fun s274 : Int => ⟨[(1, .v Q0 v3), (7, .ptr 105 0), (14, .v Q0 s274)], [(105, .box 56 [.v Q2 x205.1, .v (Enc.pr Q0 Q0) x205.2.1, .ref 196, .ref 197, .v Enc.bool x205.2.2.1]), (196, .arr 64 (Enc.pr Enc.bool (Enc.sl (Enc.int .u8))) x205.2.2.2.1), (197, .arr 3 Q0 x205.2.2.2.2)]⟩) (fun x279 : Unit => ⟨[(1, .v Q0 v3), (7, .ptr 105 0)], [(105, .box 56 [.v Q2 x205.1, .v (Enc.pr Q0 Q0) x205.2.1, .ref 196, .ref 197, .v Enc.bool x205.2.2.1]), (196, .arr 64 (Enc.pr Enc.bool (Enc.sl (Enc.int .u8))) x205.2.2.2.1), (197, .arr 3 Q0 x205.2.2.2.2)]⟩) ho278 (Sw.Sub.mk id (.c rfl (.c rfl (.c rfl .nil))) (.box rfl (.c rfl (.c rfl (.c rfl (.c rfl (.c rfl .nil))))) (.arr rfl (.arr rfl .nil))) rfl) ?_ ?_
    ·intro x279 hy
     have h := hb278 _ hy
     refine W.seq ?_
     refine W.seq ?_
     refine W.reg (σ' := ⟨[(1, .v Q0 v3), (7, .ptr 105 0), (15, .v Q0 (0 : Int))], [(105, .box 56 [.v Q2 x205.1, .v (Enc.pr Q0 Q0) x205.2.1, .ref 196, .ref 197, .v Enc.bool x205.2.2.1]), (196, .arr 64 (Enc.pr Enc.bool (Enc.sl (Enc.int .u8))) x205.2.2.2.1), (197, .arr 3 Q0 x205.2.2.2.2)]⟩) (J.k (JO.assign rfl) (J.fin (Sw.Sub.mk id (.c rfl (.c rfl (.c rfl .nil))) (.box rfl (.c rfl (.c rfl (.c rfl (.c rfl (.c rfl .nil))))) (.arr rfl (.arr rfl .nil))) rfl))) ?_
     obtain ⟨o388, ho388, hb388, hr388⟩ := lp_elim h
     refine W.lp (σs := fun s353 : Int × (Int × Int × Q3) × (Int × Int) × Bool × (List (Bool × (List Int))) × (List Int) => ⟨[(1, .v Q0 v3), (7, .ptr 105 0), (15, .v Q0 s353.1)], [(105, .box 56 [.v Q2 s353.2.1, .v (Enc.pr Q0 Q0) s353.2.2.1, .ref 332, .ref 333, .v Enc.bool s353.2.2.2.1]), (332, .arr 64 (Enc.pr Enc.bool (Enc.sl (Enc.int .u8))) s353.2.2.2.2.1), (333, .arr 3 Q0 s353.2.2.2.2.2)]⟩) (fun x389 : (Int × Int × Q3) × (Int × Int) × Bool × (List (Bool × (List Int))) × (List Int) => ⟨[(1, .v Q0 v3), (7, .ptr 105 0)], [(105, .box 56 [.v Q2 x389.1, .v (Enc.pr Q0 Q0) x389.2.1, .ref 332, .ref 333, .v Enc.bool x389.2.2.1]), (332, .arr 64 (Enc.pr Enc.bool (Enc.sl (Enc.int .u8))) x389.2.2.2.1), (333, .arr 3 Q0 x389.2.2.2.2)]⟩) ho388 (Sw.Sub.mk (rn [(105, 105), (333, 197), (332, 196)]) (.c rfl (.c rfl (.c rfl .nil))) (.box rfl (.c rfl (.c rfl (.c rfl (.c rfl (.c rfl .nil))))) (.arr rfl (.arr rfl .nil))) rfl) ?_ ?_
     ·intro x389 hy
      have h := hb388 _ hy
      refine W.seq ?_
      refine W.seq ?_
      obtain ⟨x427, hx, h⟩ := bind_e h
      refine W.reg (σ' := ⟨[(1, .v Q0 v3), (7, .ptr 105 0), (221, .v Enc.bool x427)], [(105, .box 56 [.v Q2 x389.1, .v (Enc.pr Q0 Q0) x389.2.1, .ref 332, .ref 333, .v Enc.bool x389.2.2.1]), (332, .arr 64 (Enc.pr Enc.bool (Enc.sl (Enc.int .u8))) x389.2.2.2.1), (333, .arr 3 Q0 x389.2.2.2.2)]⟩) ?_ ?_
      ·rcases Bool.eq_false_or_eq_true (!x389.2.2.1) with hc428 | hc428
       ·replace hx := cond_t hc428 hx
        obtain rfl := Option.some.inj hx
        exact (J.mv rfl (J.k (JO.nilPtr rfl) (J.k (JO.fieldPtr 7 rfl Try.runUnderlying56 rfl Try.sizeOf4 rfl rfl) (J.k (JO.load rfl rfl rfl Try.isAgg4 Try.sizeOf4) (J.k (JO.not rfl) (J.mv rfl (J.u 195 hc428 (J.u 195 hc428 (J.u 195 hc428 (J.u 195 hc428 (J.u 195 hc428 (J.u 195 hc428 (J.u 195 hc428 (J.k (JO.pT hc428 rfl rfl) (J.mv rfl (J.u 204 rfl (J.u 204 rfl (J.u 204 rfl (J.u 204 rfl (J.u 204 rfl (J.u 204 rfl (J.u 204 rfl (J.k (JO.pT rfl rfl rfl) (J.mv rfl (J.u 213 rfl (J.u 213 rfl (J.u 213 rfl (J.u 213 rfl (J.u 213 rfl (J.u 213 rfl (J.u 213 rfl (J.k (JO.pT rfl rfl rfl) (J.fin (Sw.Sub.mk id (.c rfl (.c rfl (.c rfl .nil))) (.box rfl (.c rfl (.c rfl (.c rfl (.c rfl (.c rfl .nil))))) (.arr rfl (.arr rfl .nil))) rfl))))))))))))))))))))))))))))))))))
       ·replace hx := cond_f hc428 hx
        rcases Bool.eq_false_or_eq_true (cm .neq (x389.2.2.2.2.length : Int) v3) with hc429 | hc429
        ·replace hx := cond_t hc429 hx
         obtain rfl := Option.some.inj hx
         exact (J.mv rfl (J.k (JO.nilPtr rfl) (J.k (JO.fieldPtr 7 rfl Try.runUnderlying56 rfl Try.sizeOf4 rfl rfl) (J.k (JO.load rfl rfl rfl Try.isAgg4 Try.sizeOf4) (J.k (JO.not rfl) (J.mv rfl (J.m 195 hc428 (JO.move rfl) (J.m 195 hc428 (JO.nilPtr rfl) (J.m 195 hc428 (JO.fieldPtr 6 rfl Try.runUnderlying56 rfl Try.sizeOf22 rfl rfl) (J.m 195 hc428 (JO.load rfl rfl rfl Try.isAgg22 Try.sizeOf22) (J.m 195 hc428 (JO.lenR rfl rfl Try.runUnderlying22) (J.m 195 hc428 (JO.move rfl) (J.m 195 hc428 (JO.cmp rfl rfl rfl) (J.k (JO.pF hc428 rfl rfl) (J.mv rfl (J.u 204 hc429 (J.u 204 hc429 (J.u 204 hc429 (J.u 204 hc429 (J.u 204 hc429 (J.u 204 hc429 (J.u 204 hc429 (J.k (JO.pT hc429 rfl rfl) (J.mv rfl (J.u 213 rfl (J.u 213 rfl (J.u 213 rfl (J.u 213 rfl (J.u 213 rfl (J.u 213 rfl (J.u 213 rfl (J.k (JO.pT rfl rfl rfl) (J.fin (Sw.Sub.mk id (.c rfl (.c rfl (.c rfl .nil))) (.box rfl (.c rfl (.c rfl (.c rfl (.c rfl (.c rfl .nil))))) (.arr rfl (.arr rfl .nil))) rfl))))))))))))))))))))))))))))))))))
        ·replace hx := cond_f hc429 hx
         rcases Bool.eq_false_or_eq_true (cm .gtr (x389.1.2.2.length : Int) (0 : Int)) with hc430 | hc430
         ·replace hx := cond_t hc430 hx
          obtain rfl := Option.some.inj hx
          exact (J.mv rfl (J.k (JO.nilPtr rfl) (J.k (JO.fieldPtr 7 rfl Try.runUnderlying56 rfl Try.sizeOf4 rfl rfl) (J.k (JO.load rfl rfl rfl Try.isAgg4 Try.sizeOf4) (J.k (JO.not rfl) (J.mv rfl (J.m 195 hc428 (JO.move rfl) (J.m 195 hc428 (JO.nilPtr rfl) (J.m 195 hc428 (JO.fieldPtr 6 rfl Try.runUnderlying56 rfl Try.sizeOf22 rfl rfl) (J.m 195 hc428 (JO.load rfl rfl rfl Try.isAgg22 Try.sizeOf22) (J.m 195 hc428 (JO.lenR rfl rfl Try.runUnderlying22) (J.m 195 hc428 (JO.move rfl) (J.m 195 hc428 (JO.cmp rfl rfl rfl) (J.k (JO.pF hc428 rfl rfl) (J.mv rfl (J.m 204 hc429 (JO.move rfl) (J.m 204 hc429 (JO.nilPtr rfl) (J.m 204 hc429 (JO.fieldPtr 0 rfl Try.runUnderlying56 rfl Try.sizeOf51 rfl rfl) (J.m 204 hc429 (JO.fieldPtr 2 rfl Try.runUnderlying51 rfl Try.sizeOf49 rfl rfl) (J.m 204 hc429 (JO.loadPart (off := 0) (o1 := 2) rfl rfl rfl rfl (.snd (.snd .here)) Try.isAgg49 Try.sizeOf49) (J.m 204 hc429 (JO.len rfl Try.runUnderlying49) (J.m 204 hc429 (JO.cmp rfl rfl rfl) (J.k (JO.pF hc429 rfl rfl) (J.mv rfl (J.u 213 hc430 (J.u 213 hc430 (J.u 213 hc430 (J.u 213 hc430 (J.u 213 hc430 (J.u 213 hc430 (J.u 213 hc430 (J.k (JO.pT hc430 rfl rfl) (J.fin (Sw.Sub.mk id (.c rfl (.c rfl (.c rfl .nil))) (.box rfl (.c rfl (.c rfl (.c rfl (.c rfl (.c rfl .nil))))) (.arr rfl (.arr rfl .nil))) rfl))))))))))))))))))))))))))))))))))
         ·replace hx := cond_f hc430 hx
          obtain rfl := Option.some.inj hx
          exact (J.mv rfl (J.k (JO.nilPtr rfl) (J.k (JO.fieldPtr 7 rfl Try.runUnderlying56 rfl Try.sizeOf4 rfl rfl) (J.k (JO.load rfl rfl rfl Try.isAgg4 Try.sizeOf4) (J.k (JO.not rfl) (J.mv rfl (J.m 195 hc428 (JO.move rfl) (J.m 195 hc428 (JO.nilPtr rfl) (J.m 195 hc428 (JO.fieldPtr 6 rfl Try.runUnderlying56 rfl Try.sizeOf22 rfl rfl) (J.m 195 hc428 (JO.load rfl rfl rfl Try.isAgg22 Try.sizeOf22) (J.m 195 hc428 (JO.lenR rfl rfl Try.runUnderlying22) (J.m 195 hc428 (JO.move rfl) (J.m 195 hc428 (JO.cmp rfl rfl rfl) (J.k (JO.pF hc428 rfl rfl) (J.mv rfl (J.m 204 hc429 (JO.move rfl) (J.m 204 hc429 (JO.nilPtr rfl) (J.m 204 hc429 (JO.fieldPtr 0 rfl Try.runUnderlying56 rfl Try.sizeOf51 rfl rfl) (J.m 204 hc429 (JO.fieldPtr 2 rfl Try.runUnderlying51 rfl Try.sizeOf49 rfl rfl) (J.m 204 hc429 (JO.loadPart (off := 0) (o1 := 2) rfl rfl rfl rfl (.snd (.snd .here)) Try.isAgg49 Try.sizeOf49) (J.m 204 hc429 (JO.len rfl Try.runUnderlying49) (J.m 204 hc429 (JO.cmp rfl rfl rfl) (J.k (JO.pF hc429 rfl rfl) (J.mv rfl (J.m 213 hc430 (JO.move rfl) (J.m 213 hc430 (JO.nilPtr rfl) (J.m 213 hc430 (JO.fieldPtr 0 rfl Try.runUnderlying56 rfl Try.sizeOf51 rfl rfl) (J.m 213 hc430 (JO.fieldPtr 1 rfl Try.runUnderlying51 rfl Try.sizeOf3 rfl rfl) (J.m 213 hc430 (JO.loadPart (off := 0) (o1 := 1) rfl rfl rfl rfl (.snd (.fst .here)) Try.isAgg3 Try.sizeOf3) (J.m 213 hc430 (JO.move rfl) (J.m 213 hc430 (JO.cmp rfl rfl rfl) (J.k (JO.pF hc430 rfl rfl) (J.fin (Sw.Sub.mk id (.c rfl (.c rfl (.c rfl .nil))) (.box rfl (.c rfl (.c rfl (.c rfl (.c rfl (.c rfl .nil))))) (.arr rfl (.arr rfl .nil))) rfl))))))))))))))))))))))))))))))))))
      rcases Bool.eq_false_or_eq_true x427 with hc431 | hc431
      ·replace h := cond_t hc431 h
       refine W.condT rfl hc431 ?_
       refine W.seq ?_
       refine W.reg (σ' := ⟨[(6, .v Enc.bool false)], []⟩) (J.k (JO.assign rfl) (J.fin (Sw.Sub.mk id (.c rfl .nil) .nil rfl))) ?_
       refine W.ret ?_
       obtain rfl := Option.some.inj h
       exact XQ.sub (σ' := ⟨[(6, .v Enc.bool false)], []⟩) (Sw.Sub.mk id (.c rfl .nil) .nil rfl) (XQ.ret1 hF noR rfl (RV.tmp rfl) .nil rfl)
      ·replace h := cond_f hc431 h
       refine W.condF rfl hc431 ?_
       refine W.skip ?_
       refine W.seq ?_
       refine W.seq ?_
       refine W.reg (σ' := ⟨[(1, .v Q0 v3), (7, .ptr 105 0), (16, .v Q0 (0 : Int))], [(105, .box 56 [.v Q2 x389.1, .v (Enc.pr Q0 Q0) x389.2.1, .ref 332, .ref 333, .v Enc.bool x389.2.2.1]), (332, .arr 64 (Enc.pr Enc.bool (Enc.sl (Enc.int .u8))) x389.2.2.2.1), (333, .arr 3 Q0 x389.2.2.2.2)]⟩) (J.k (JO.assign rfl) (J.fin (Sw.Sub.mk id (.c rfl (.c rfl (.c rfl .nil))) (.box rfl (.c rfl (.c rfl (.c rfl (.c rfl (.c rfl .nil))))) (.arr rfl (.arr rfl .nil))) rfl))) ?_
       obtain ⟨o444, ho444, hb444, hr444⟩ := lp_elim h
       refine W.lp (σs := fun s440 : Int => ⟨[(1, .v Q0 v3), (7, .ptr 105 0), (16, .v Q0 s440)], [(105, .box 56 [.v Q2 x389.1, .v (Enc.pr Q0 Q0) x389.2.1, .ref 332, .ref 333, .v Enc.bool x389.2.2.1]), (332, .arr 64 (Enc.pr Enc.bool (Enc.sl (Enc.int .u8))) x389.2.2.2.1), (333, .arr 3 Q0 x389.2.2.2.2)]⟩) (fun x445 : Unit => ⟨[], []⟩) ho444 (Sw.Sub.mk id (.c rfl (.c rfl (.c rfl .nil))) (.box rfl (.c rfl (.c rfl (.c rfl (.c rfl (.c rfl .nil))))) (.arr rfl (.arr rfl .nil))) rfl) ?_ ?_
       ·intro x445 hy
        have h := hb444 _ hy
        refine W.seq ?_
        refine W.reg (σ' := ⟨[(6, .v Enc.bool true)], []⟩) (J.k (JO.assign rfl) (J.fin (Sw.Sub.mk id (.c rfl .nil) .nil rfl))) ?_
        refine W.ret ?_
        obtain rfl := Option.some.inj h
        exact XQ.sub (σ' := ⟨[(6, .v Enc.bool true)], []⟩) (Sw.Sub.mk id (.c rfl .nil) .nil rfl) (XQ.ret1 hF noR rfl (RV.tmp rfl) .nil rfl)
       intro s440 r444 h
       refine W.seq ?_
       refine W.seq ?_
       refine W.reg (σ' := ⟨[(1, .v Q0 v3), (7, .ptr 105 0), (16, .v Q0 s440), (224, .v Enc.bool (cm .lss s440 v3))], [(105, .box 56 [.v Q2 x389.1, .v (Enc.pr Q0 Q0) x389.2.1, .ref 332, .ref 333, .v Enc.bool x389.2.2.1]), (332, .arr 64 (Enc.pr Enc.bool (Enc.sl (Enc.int .u8))) x389.2.2.2.1), (333, .arr 3 Q0 x389.2.2.2.2)]⟩) (J.mv rfl (J.mv rfl (J.k (JO.cmp rfl rfl rfl) (J.fin (Sw.Sub.mk id (.c rfl (.c rfl (.c rfl (.c rfl .nil)))) (.box rfl (.c rfl (.c rfl (.c rfl (.c rfl (.c rfl .nil))))) (.arr rfl (.arr rfl .nil))) rfl))))) ?_
       rcases Bool.eq_false_or_eq_true (cm .lss s440 v3) with hc446 | hc446
       ·replace h := cond_t hc446 h
        refine W.condT rfl hc446 ?_
        refine W.skip ?_
        refine W.seq ?_
        refine W.block ?_
        refine W.seq ?_
        obtain ⟨z447, hz447, h⟩ := bind_e h
        refine W.reg (σ' := ⟨[(1, .v Q0 v3), (7, .ptr 105 0), (16, .v Q0 s440), (235, .v Enc.bool (cm .neq z447 s440))], [(105, .box 56 [.v Q2 x389.1, .v (Enc.pr Q0 Q0) x389.2.1, .ref 332, .ref 333, .v Enc.bool x389.2.2.1]), (332, .arr 64 (Enc.pr Enc.bool (Enc.sl (Enc.int .u8))) x389.2.2.2.1), (333, .arr 3 Q0 x389.2.2.2.2)]⟩) (J.mv rfl (J.k (JO.nilPtr rfl) (J.k (JO.fieldPtr 6 rfl Try.runUnderlying56 rfl Try.sizeOf22 rfl rfl) (J.k (JO.load rfl rfl rfl Try.isAgg22 Try.sizeOf22) (J.mv rfl (J.k (JO.idxR hz447 rfl rfl rfl Try.runUnderlying22 Try.sizeOf3) (J.k (JO.loadEl (idx_some hz447).2.2 rfl rfl .here Try.isAgg3 Try.sizeOf3) (J.mv rfl (J.k (JO.cmp rfl rfl rfl) (J.fin (Sw.Sub.mk id (.c rfl (.c rfl (.c rfl (.c rfl .nil)))) (.box rfl (.c rfl (.c rfl (.c rfl (.c rfl (.c rfl .nil))))) (.arr rfl (.arr rfl .nil))) rfl))))))))))) ?_
        rcases Bool.eq_false_or_eq_true (cm .neq z447 s440) with hc448 | hc448
        ·replace h := cond_t hc448 h
         refine W.condT rfl hc448 ?_
         refine W.seq ?_
         refine W.reg (σ' := ⟨[(6, .v Enc.bool false)], []⟩) (J.k (JO.assign rfl) (J.fin (Sw.Sub.mk id (.c rfl .nil) .nil rfl))) ?_
         refine W.ret ?_
         refine XQ.ret ?_
         obtain rfl := Option.some.inj h
         refine XQ.lret fun ho => ?_
         obtain rfl := hr444 _ ho
         exact XQ.sub (σ' := ⟨[(6, .v Enc.bool false)], []⟩) (Sw.Sub.mk id (.c rfl .nil) .nil rfl) (XQ.ret1 hF noR rfl (RV.tmp rfl) .nil rfl)
        ·replace h := cond_f hc448 h
         refine W.condF rfl hc448 ?_
         refine W.skip ?_
         refine W.fall ?_
         refine W.reg (σ' := ⟨[(1, .v Q0 v3), (7, .ptr 105 0), (16, .v Q0 (ar .add .i64 s440 (1 : Int)))], [(105, .box 56 [.v Q2 x389.1, .v (Enc.pr Q0 Q0) x389.2.1, .ref 332, .ref 333, .v Enc.bool x389.2.2.1]), (332, .arr 64 (Enc.pr Enc.bool (Enc.sl (Enc.int .u8))) x389.2.2.2.1), (333, .arr 3 Q0 x389.2.2.2.2)]⟩) (J.mv rfl (J.k (JO.arith rfl rfl rfl) (J.k (JO.assign rfl) (J.fin (Sw.Sub.mk id (.c rfl (.c rfl (.c rfl .nil))) (.box rfl (.c rfl (.c rfl (.c rfl (.c rfl (.c rfl .nil))))) (.arr rfl (.arr rfl .nil))) rfl))))) ?_
         obtain rfl := Option.some.inj h
         exact W.next (Sw.Sub.mk id (.c rfl (.c rfl (.c rfl .nil))) (.box rfl (.c rfl (.c rfl (.c rfl (.c rfl (.c rfl .nil))))) (.arr rfl (.arr rfl .nil))) rfl)
       ·replace h := cond_f hc446 h
        refine W.condF rfl hc446 ?_
        refine W.exit ?_
        obtain rfl := Option.some.inj h
        exact XQ.brk (Sw.Sub.mk id .nil .nil rfl)
     intro s353 r388 h
     refine W.seq ?_
     refine W.seq ?_
     obtain ⟨x391, hx, h⟩ := bind_e h
     refine W.reg (σ' := ⟨[(1, .v Q0 v3), (7, .ptr 105 0), (15, .v Q0 s353.1), (169, .v Enc.bool x391)], [(105, .box 56 [.v Q2 s353.2.1, .v (Enc.pr Q0 Q0) s353.2.2.1, .ref 332, .ref 333, .v Enc.bool s353.2.2.2.1]), (332, .arr 64 (Enc.pr Enc.bool (Enc.sl (Enc.int .u8))) s353.2.2.2.2.1), (333, .arr 3 Q0 s353.2.2.2.2.2)]⟩) ?_ ?_
     ·rcases Bool.eq_false_or_eq_true (cm .leq s353.1 v3) with hc392 | hc392
      ·replace hx := cond_t hc392 hx
       obtain rfl := Option.some.inj hx
       exact (J.mv rfl (J.mv rfl (J.k (JO.cmp rfl rfl rfl) (J.mv rfl (J.m 164 hc392 (JO.move rfl) (J.m 164 hc392 (JO.nilPtr rfl) (J.m 164 hc392 (JO.fieldPtr 7 rfl Try.runUnderlying56 rfl Try.sizeOf4 rfl rfl) (J.m 164 hc392 (JO.load rfl rfl rfl Try.isAgg4 Try.sizeOf4) (J.k (JO.pT hc392 rfl rfl) (J.fin (Sw.Sub.mk id (.c rfl (.c rfl (.c rfl (.c rfl .nil)))) (.box rfl (.c rfl (.c rfl (.c rfl (.c rfl (.c rfl .nil))))) (.arr rfl (.arr rfl .nil))) rfl)))))))))))
      ·replace hx := cond_f hc392 hx
       obtain rfl := Option.some.inj hx
       exact (J.mv rfl (J.mv rfl (J.k (JO.cmp rfl rfl rfl) (J.mv rfl (J.u 164 hc392 (J.u 164 hc392 (J.u 164 hc392 (J.u 164 hc392 (J.k (JO.pF hc392 rfl rfl) (J.fin (Sw.Sub.mk id (.c rfl (.c rfl (.c rfl (.c rfl .nil)))) (.box rfl (.c rfl (.c rfl (.c rfl (.c rfl (.c rfl .nil))))) (.arr rfl (.arr rfl .nil))) rfl)))))))))))
     rcases Bool.eq_false_or_eq_true x391 with hc393 | hc393
     ·replace h := cond_t hc393 h
      refine W.condT rfl hc393 ?_
      refine W.skip ?_
      refine W.seq ?_
      refine W.block ?_
      refine W.seq ?_
      obtain ⟨v394, hv394, h⟩ := bind_e h
      refine W.reg (σ' := ⟨[(1, .v Q0 v3), (7, .ptr 105 0), (15, .v Q0 s353.1)], [(105, .box 56 [.v Q2 v394.1, .v (Enc.pr Q0 Q0) v394.2.1, .ref 360, .ref 361, .v Enc.bool v394.2.2.2.2]), (360, .arr 64 (Enc.pr Enc.bool (Enc.sl (Enc.int .u8))) v394.2.2.1), (361, .arr 3 Q0 v394.2.2.2.1)]⟩) (J.mv rfl (J.t (JM.callM (H := [105, 332, 333]) (K := [105]) (swp [(9000, 105), (8950, 332), (8951, 333), (8910, 360), (8911, 361)]) (swp_inj _) (fun A => con_top_line_send_io A hv394) Try.call19 (.cons (.dir rfl) .nil) (fun A => (.box rfl (.arr rfl (.arr rfl .nil)))) (fun A => (.box rfl (.arr (.arr .nil rfl) rfl) rfl)) (fun _ => rfl) rfl rfl (fun _ => rfl) rfl rfl) (J.fin (Sw.Sub.mk id (.c rfl (.c rfl (.c rfl .nil))) (.box rfl (.c rfl (.c rfl (.c rfl (.c rfl (.c rfl .nil))))) (.arr rfl (.arr rfl .nil))) rfl)))) ?_
      obtain ⟨o416, ho416, hb416, hr416⟩ := lp_elim h
      refine W.lp (σs := fun s409 : (Int × Int × Q3) × (Int × Int) × Bool × (List (Bool × (List Int))) × (List Int) => ⟨[(1, .v Q0 v3), (7, .ptr 105 0), (15, .v Q0 s353.1)], [(105, .box 56 [.v Q2 s409.1, .v (Enc.pr Q0 Q0) s409.2.1, .ref 376, .ref 377, .v Enc.bool s409.2.2.1]), (376, .arr 64 (Enc.pr Enc.bool (Enc.sl (Enc.int .u8))) s409.2.2.2.1), (377, .arr 3 Q0 s409.2.2.2.2)]⟩) (fun x417 : (Int × Int × Q3) × (Int × Int) × Bool × (List (Bool × (List Int))) × (List Int) => ⟨[(1, .v Q0 v3), (7, .ptr 105 0), (15, .v Q0 s353.1)], [(105, .box 56 [.v Q2 x417.1, .v (Enc.pr Q0 Q0) x417.2.1, .ref 376, .ref 377, .v Enc.bool x417.2.2.1]), (376, .arr 64 (Enc.pr Enc.bool (Enc.sl (Enc.int .u8))) x417.2.2.2.1), (377, .arr 3 Q0 x417.2.2.2.2)]⟩) ho416 (Sw.Sub.mk (rn [(105, 105), (377, 361), (376, 360)]) (.c rfl (.c rfl (.c rfl .nil))) (.box rfl (.c rfl (.c rfl (.c rfl (.c rfl (.c rfl .nil))))) (.arr rfl (.arr rfl .nil))) rfl) ?_ ?_
      ·intro x417 hy
       have h := hb416 _ hy
       refine W.fall ?_
       refine W.reg (σ' := ⟨[(1, .v Q0 v3), (7, .ptr 105 0), (15, .v Q0 (ar .add .i64 s353.1 (1 : Int)))], [(105, .box 56 [.v Q2 x417.1, .v (Enc.pr Q0 Q0) x417.2.1, .ref 376, .ref 377, .v Enc.bool x417.2.2.1]), (376, .arr 64 (Enc.pr Enc.bool (Enc.sl (Enc.int .u8))) x417.2.2.2.1), (377, .arr 3 Q0 x417.2.2.2.2)]⟩) (J.mv rfl (J.k (JO.arith rfl rfl rfl) (J.k (JO.assign rfl) (J.fin (Sw.Sub.mk id (.c rfl (.c rfl (.c rfl .nil))) (.box rfl (.c rfl (.c rfl (.c rfl (.c rfl (.c rfl .nil))))) (.arr rfl (.arr rfl .nil))) rfl))))) ?_
       obtain rfl := Option.some.inj h
       exact W.next (Sw.Sub.mk (rn [(105, 105), (333, 377), (332, 376)]) (.c rfl (.c rfl (.c rfl .nil))) (.box rfl (.c rfl (.c rfl (.c rfl (.c rfl (.c rfl .nil))))) (.arr rfl (.arr rfl .nil))) rfl)
      intro s409 r416 h
      refine W.seq ?_
      refine W.seq ?_
      obtain ⟨x419, hx, h⟩ := bind_e h
      refine W.reg (σ' := ⟨[(1, .v Q0 v3), (7, .ptr 105 0), (15, .v Q0 s353.1), (185, .v Enc.bool x419)], [(105, .box 56 [.v Q2 s409.1, .v (Enc.pr Q0 Q0) s409.2.1, .ref 376, .ref 377, .v Enc.bool s409.2.2.1]), (376, .arr 64 (Enc.pr Enc.bool (Enc.sl (Enc.int .u8))) s409.2.2.2.1), (377, .arr 3 Q0 s409.2.2.2.2)]⟩) ?_ ?_
      ·rcases Bool.eq_false_or_eq_true (cm .gtr (s409.2.2.2.1.length : Int) (0 : Int)) with hc420 | hc420
       ·replace hx := cond_t hc420 hx
        obtain rfl := Option.some.inj hx
        exact (J.mv rfl (J.k (JO.nilPtr rfl) (J.k (JO.fieldPtr 5 rfl Try.runUnderlying56 rfl Try.sizeOf54 rfl rfl) (J.k (JO.load rfl rfl rfl Try.isAgg54 Try.sizeOf54) (J.k (JO.lenR rfl rfl Try.runUnderlying54) (J.k (JO.cmp rfl rfl rfl) (J.mv rfl (J.m 180 hc420 (JO.move rfl) (J.m 180 hc420 (JO.nilPtr rfl) (J.m 180 hc420 (JO.fieldPtr 7 rfl Try.runUnderlying56 rfl Try.sizeOf4 rfl rfl) (J.m 180 hc420 (JO.load rfl rfl rfl Try.isAgg4 Try.sizeOf4) (J.k (JO.pT hc420 rfl rfl) (J.fin (Sw.Sub.mk id (.c rfl (.c rfl (.c rfl (.c rfl .nil)))) (.box rfl (.c rfl (.c rfl (.c rfl (.c rfl (.c rfl .nil))))) (.arr rfl (.arr rfl .nil))) rfl))))))))))))))
       ·replace hx := cond_f hc420 hx
        obtain rfl := Option.some.inj hx
        exact (J.mv rfl (J.k (JO.nilPtr rfl) (J.k (JO.fieldPtr 5 rfl Try.runUnderlying56 rfl Try.sizeOf54 rfl rfl) (J.k (JO.load rfl rfl rfl Try.isAgg54 Try.sizeOf54) (J.k (JO.lenR rfl rfl Try.runUnderlying54) (J.k (JO.cmp rfl rfl rfl) (J.mv rfl (J.u 180 hc420 (J.u 180 hc420 (J.u 180 hc420 (J.u 180 hc420 (J.k (JO.pF hc420 rfl rfl) (J.fin (Sw.Sub.mk id (.c rfl (.c rfl (.c rfl (.c rfl .nil)))) (.box rfl (.c rfl (.c rfl (.c rfl (.c rfl (.c rfl .nil))))) (.arr rfl (.arr rfl .nil))) rfl))))))))))))))
      rcases Bool.eq_false_or_eq_true x419 with hc421 | hc421
      ·replace h := cond_t hc421 h
       refine W.condT rfl hc421 ?_
       refine W.skip ?_
       refine W.block ?_
       refine W.seq ?_
       obtain ⟨v422, hv422, h⟩ := bind_e h
       refine W.reg (σ' := ⟨[(1, .v Q0 v3), (7, .ptr 105 0), (15, .v Q0 s353.1)], [(105, .box 56 [.v Q2 v422.1, .v (Enc.pr Q0 Q0) v422.2.1, .ref 382, .ref 383, .v Enc.bool v422.2.2.2.2]), (382, .arr 64 (Enc.pr Enc.bool (Enc.sl (Enc.int .u8))) v422.2.2.1), (383, .arr 3 Q0 v422.2.2.2.1)]⟩) (J.mv rfl (J.t (JM.callM (H := [105, 376, 377]) (K := [105]) (swp [(9000, 105), (8950, 376), (8951, 377), (8910, 382), (8911, 383)]) (swp_inj _) (fun A => con_top_line_come_io A hv422) Try.call20 (.cons (.dir rfl) (.cons (.dir rfl) .nil)) (fun A => (.box rfl (.arr rfl (.arr rfl .nil)))) (fun A => (.box rfl (.arr (.arr .nil rfl) rfl) rfl)) (fun _ => rfl) rfl rfl (fun _ => rfl) rfl rfl) (J.fin (Sw.Sub.mk id (.c rfl (.c rfl (.c rfl .nil))) (.box rfl (.c rfl (.c rfl (.c rfl (.c rfl (.c rfl .nil))))) (.arr rfl (.arr rfl .nil))) rfl)))) ?_
       obtain ⟨v423, hv423, h⟩ := bind_e h
       refine W.reg (σ' := ⟨[(1, .v Q0 v3), (7, .ptr 105 0), (15, .v Q0 s353.1)], [(105, .box 56 [.v Q2 v423.1, .v (Enc.pr Q0 Q0) v423.2.1, .ref 384, .ref 385, .v Enc.bool v423.2.2.2.2]), (384, .arr 64 (Enc.pr Enc.bool (Enc.sl (Enc.int .u8))) v423.2.2.1), (385, .arr 3 Q0 v423.2.2.2.1)]⟩) (J.mv rfl (J.t (JM.callM (H := [105, 382, 383]) (K := [105]) (swp [(9000, 105), (8950, 382), (8951, 383), (8910, 384), (8911, 385)]) (swp_inj _) (fun A => con_top_line_gone_io A hv423) Try.call21 (.cons (.dir rfl) (.cons (.dir rfl) .nil)) (fun A => (.box rfl (.arr rfl (.arr rfl .nil)))) (fun A => (.box rfl (.arr (.arr .nil rfl) rfl) rfl)) (fun _ => rfl) rfl rfl (fun _ => rfl) rfl rfl) (J.fin (Sw.Sub.mk id (.c rfl (.c rfl (.c rfl .nil))) (.box rfl (.c rfl (.c rfl (.c rfl (.c rfl (.c rfl .nil))))) (.arr rfl (.arr rfl .nil))) rfl)))) ?_
       refine W.fall ?_
       obtain rfl := Option.some.inj h
       exact W.next (Sw.Sub.mk (rn [(105, 105), (377, 385), (376, 384)]) (.c rfl (.c rfl (.c rfl .nil))) (.box rfl (.c rfl (.c rfl (.c rfl (.c rfl (.c rfl .nil))))) (.arr rfl (.arr rfl .nil))) rfl)
      ·replace h := cond_f hc421 h
       refine W.condF rfl hc421 ?_
       refine W.exit ?_
       obtain rfl := Option.some.inj h
       exact XQ.brk (Sw.Sub.mk id (.c rfl (.c rfl (.c rfl .nil))) (.box rfl (.c rfl (.c rfl (.c rfl (.c rfl (.c rfl .nil))))) (.arr rfl (.arr rfl .nil))) rfl)
     ·replace h := cond_f hc393 h
      refine W.condF rfl hc393 ?_
      refine W.exit ?_
      obtain rfl := Option.some.inj h
      exact XQ.brk (Sw.Sub.mk id (.c rfl (.c rfl .nil)) (.box rfl (.c rfl (.c rfl (.c rfl (.c rfl (.c rfl .nil))))) (.arr rfl (.arr rfl .nil))) rfl)
    intro s274 r278 h
    refine W.seq ?_
    refine W.seq ?_
    refine W.reg (σ' := ⟨[(1, .v Q0 v3), (7, .ptr 105 0), (14, .v Q0 s274), (149, .v Enc.bool (cm .lss s274 (x205.2.2.2.2.length : Int)))], [(105, .box 56 [.v Q2 x205.1, .v (Enc.pr Q0 Q0) x205.2.1, .ref 196, .ref 197, .v Enc.bool x205.2.2.1]), (196, .arr 64 (Enc.pr Enc.bool (Enc.sl (Enc.int .u8))) x205.2.2.2.1), (197, .arr 3 Q0 x205.2.2.2.2)]⟩) (J.mv rfl (J.mv rfl (J.k (JO.nilPtr rfl) (J.k (JO.fieldPtr 6 rfl Try.runUnderlying56 rfl Try.sizeOf22 rfl rfl) (J.k (JO.load rfl rfl rfl Try.isAgg22 Try.sizeOf22) (J.k (JO.lenR rfl rfl Try.runUnderlying22) (J.k (JO.cmp rfl rfl rfl) (J.fin (Sw.Sub.mk id (.c rfl (.c rfl (.c rfl (.c rfl .nil)))) (.box rfl (.c rfl (.c rfl (.c rfl (.c rfl (.c rfl .nil))))) (.arr rfl (.arr rfl .nil))) rfl))))))))) ?_
    rcases Bool.eq_false_or_eq_true (cm .lss s274 (x205.2.2.2.2.length : Int)) with hc280 | hc280
    ·replace h := cond_t hc280 h
     refine W.condT rfl hc280 ?_
     refine W.skip ?_
     refine W.seq ?_
     refine W.block ?_
     refine W.seq ?_
     obtain ⟨z281, hz281, h⟩ := bind_e h
     refine W.reg (σ' := ⟨[(1, .v Q0 v3), (7, .ptr 105 0), (14, .v Q0 s274), (160, .v Enc.bool (cm .neq z281 s274))], [(105, .box 56 [.v Q2 x205.1, .v (Enc.pr Q0 Q0) x205.2.1, .ref 196, .ref 197, .v Enc.bool x205.2.2.1]), (196, .arr 64 (Enc.pr Enc.bool (Enc.sl (Enc.int .u8))) x205.2.2.2.1), (197, .arr 3 Q0 x205.2.2.2.2)]⟩) (J.mv rfl (J.k (JO.nilPtr rfl) (J.k (JO.fieldPtr 6 rfl Try.runUnderlying56 rfl Try.sizeOf22 rfl rfl) (J.k (JO.load rfl rfl rfl Try.isAgg22 Try.sizeOf22) (J.mv rfl (J.k (JO.idxR hz281 rfl rfl rfl Try.runUnderlying22 Try.sizeOf3) (J.k (JO.loadEl (idx_some hz281).2.2 rfl rfl .here Try.isAgg3 Try.sizeOf3) (J.mv rfl (J.k (JO.cmp rfl rfl rfl) (J.fin (Sw.Sub.mk id (.c rfl (.c rfl (.c rfl (.c rfl .nil)))) (.box rfl (.c rfl (.c rfl (.c rfl (.c rfl (.c rfl .nil))))) (.arr rfl (.arr rfl .nil))) rfl))))))))))) ?_
     rcases Bool.eq_false_or_eq_true (cm .neq z281 s274) with hc282 | hc282
     ·replace h := cond_t hc282 h
      refine W.condT rfl hc282 ?_
      refine W.seq ?_
      refine W.reg (σ' := ⟨[(6, .v Enc.bool false)], []⟩) (J.k (JO.assign rfl) (J.fin (Sw.Sub.mk id (.c rfl .nil) .nil rfl))) ?_
      refine W.ret ?_
      refine XQ.ret ?_
      obtain rfl := Option.some.inj h
      refine XQ.lret fun ho => ?_
      obtain rfl := hr278 _ ho
      exact XQ.sub (σ' := ⟨[(6, .v Enc.bool false)], []⟩) (Sw.Sub.mk id (.c rfl .nil) .nil rfl) (XQ.ret1 hF noR rfl (RV.tmp rfl) .nil rfl)
     ·replace h := cond_f hc282 h
      refine W.condF rfl hc282 ?_
      refine W.skip ?_
      refine W.fall ?_
      refine W.reg (σ' := ⟨[(1, .v Q0 v3), (7, .ptr 105 0), (14, .v Q0 (ar .add .i64 s274 (1 : Int)))], [(105, .box 56 [.v Q2 x205.1, .v (Enc.pr Q0 Q0) x205.2.1, .ref 196, .ref 197, .v Enc.bool x205.2.2.1]), (196, .arr 64 (Enc.pr Enc.bool (Enc.sl (Enc.int .u8))) x205.2.2.2.1), (197, .arr 3 Q0 x205.2.2.2.2)]⟩) (J.mv rfl (J.k (JO.arith rfl rfl rfl) (J.k (JO.assign rfl) (J.fin (Sw.Sub.mk id (.c rfl (.c rfl (.c rfl .nil))) (.box rfl (.c rfl (.c rfl (.c rfl (.c rfl (.c rfl .nil))))) (.arr rfl (.arr rfl .nil))) rfl))))) ?_
      obtain rfl := Option.some.inj h
      exact W.next (Sw.Sub.mk id (.c rfl (.c rfl (.c rfl .nil))) (.box rfl (.c rfl (.c rfl (.c rfl (.c rfl (.c rfl .nil))))) (.arr rfl (.arr rfl .nil))) rfl)
    ·replace h := cond_f hc280 h
     refine W.condF rfl hc280 ?_
     refine W.exit ?_
     obtain rfl := Option.some.inj h
     exact XQ.brk (Sw.Sub.mk id (.c rfl (.c rfl .nil)) (.box rfl (.c rfl (.c rfl (.c rfl (.c rfl (.c rfl .nil))))) (.arr rfl (.arr rfl .nil))) rfl)
   intro s143 r204 h
   refine W.seq ?_
   refine W.seq ?_
   obtain ⟨x207, hx, h⟩ := bind_e h
   refine W.reg (σ' := ⟨[(1, .v Q0 v3), (2, .v (Enc.sl Q0) a2), (7, .ptr 105 0), (11, .v Q0 s143.1), (64, .v Enc.bool x207)], [(105, .box 56 [.v Q2 s143.2.1, .v (Enc.pr Q0 Q0) s143.2.2.1, .ref 196, .ref 197, .v Enc.bool s143.2.2.2.1]), (196, .arr 64 (Enc.pr Enc.bool (Enc.sl (Enc.int .u8))) s143.2.2.2.2.1), (197, .arr 3 Q0 s143.2.2.2.2.2)]⟩) ?_ ?_
   ·rcases Bool.eq_false_or_eq_true (cm .lss s143.1 (a2.length : Int)) with hc208 | hc208
    ·replace hx := cond_t hc208 hx
     obtain rfl := Option.some.inj hx
     exact (J.mv rfl (J.mv rfl (J.k (JO.len rfl Try.runUnderlying22) (J.k (JO.cmp rfl rfl rfl) (J.mv rfl (J.m 59 hc208 (JO.move rfl) (J.m 59 hc208 (JO.nilPtr rfl) (J.m 59 hc208 (JO.fieldPtr 7 rfl Try.runUnderlying56 rfl Try.sizeOf4 rfl rfl) (J.m 59 hc208 (JO.load rfl rfl rfl Try.isAgg4 Try.sizeOf4) (J.k (JO.pT hc208 rfl rfl) (J.fin (Sw.Sub.mk id (.c rfl (.c rfl (.c rfl (.c rfl (.c rfl .nil))))) (.box rfl (.c rfl (.c rfl (.c rfl (.c rfl (.c rfl .nil))))) (.arr rfl (.arr rfl .nil))) rfl))))))))))))
    ·replace hx := cond_f hc208 hx
     obtain rfl := Option.some.inj hx
     exact (J.mv rfl (J.mv rfl (J.k (JO.len rfl Try.runUnderlying22) (J.k (JO.cmp rfl rfl rfl) (J.mv rfl (J.u 59 hc208 (J.u 59 hc208 (J.u 59 hc208 (J.u 59 hc208 (J.k (JO.pF hc208 rfl rfl) (J.fin (Sw.Sub.mk id (.c rfl (.c rfl (.c rfl (.c rfl (.c rfl .nil))))) (.box rfl (.c rfl (.c rfl (.c rfl (.c rfl (.c rfl .nil))))) (.arr rfl (.arr rfl .nil))) rfl))))))))))))
   rcases Bool.eq_false_or_eq_true x207 with hc209 | hc209
   ·replace h := cond_t hc209 h
    refine W.condT rfl hc209 ?_
    refine W.skip ?_
    refine W.seq ?_
    obtain ⟨k237, hk237, h⟩ := jp_elim h
    refine W.bj (fun x238 : (Int × Int × Q3) × (Int × Int) × Bool × (List (Bool × (List Int))) × (List Int) => ⟨[(1, .v Q0 v3), (2, .v (Enc.sl Q0) a2), (7, .ptr 105 0), (11, .v Q0 s143.1)], [(105, .box 56 [.v Q2 x238.1, .v (Enc.pr Q0 Q0) x238.2.1, .ref 255, .ref 256, .v Enc.bool x238.2.2.1]), (255, .arr 64 (Enc.pr Enc.bool (Enc.sl (Enc.int .u8))) x238.2.2.2.1), (256, .arr 3 Q0 x238.2.2.2.2)]⟩) (fun x => k237 x = some r204) ?_ ?_
    ·intro x238 h
     rw [hk237] at h
     refine W.reg (σ' := ⟨[(1, .v Q0 v3), (2, .v (Enc.sl Q0) a2), (7, .ptr 105 0), (11, .v Q0 (ar .add .i64 s143.1 (1 : Int)))], [(105, .box 56 [.v Q2 x238.1, .v (Enc.pr Q0 Q0) x238.2.1, .ref 255, .ref 256, .v Enc.bool x238.2.2.1]), (255, .arr 64 (Enc.pr Enc.bool (Enc.sl (Enc.int .u8))) x238.2.2.2.1), (256, .arr 3 Q0 x238.2.2.2.2)]⟩) (J.mv rfl (J.k (JO.arith rfl rfl rfl) (J.k (JO.assign rfl) (J.fin (Sw.Sub.mk id (.c rfl (.c rfl (.c rfl (.c rfl .nil)))) (.box rfl (.c rfl (.c rfl (.c rfl (.c rfl (.c rfl .nil))))) (.arr rfl (.arr rfl .nil))) rfl))))) ?_
     obtain rfl := Option.some.inj h
     exact W.next (Sw.Sub.mk (rn [(105, 105), (197, 256), (196, 255)]) (.c rfl (.c rfl (.c rfl (.c rfl .nil)))) (.box rfl (.c rfl (.c rfl (.c rfl (.c rfl (.c rfl .nil))))) (.arr rfl (.arr rfl .nil))) rfl)
    refine W.seq ?_
    obtain ⟨z239, hz239, h⟩ := bind_e h
    obtain ⟨v240, hv240, h⟩ := bind_e h
    refine W.reg (σ' := ⟨[(1, .v Q0 v3), (2, .v (Enc.sl Q0) a2), (7, .ptr 105 0), (11, .v Q0 s143.1), (12, .v Q0 v240)], [(105, .box 56 [.v Q2 s143.2.1, .v (Enc.pr Q0 Q0) s143.2.2.1, .ref 196, .ref 197, .v Enc.bool s143.2.2.2.1]), (196, .arr 64 (Enc.pr Enc.bool (Enc.sl (Enc.int .u8))) s143.2.2.2.2.1), (197, .arr 3 Q0 s143.2.2.2.2.2)]⟩) (J.mv rfl (J.mv rfl (J.k (JO.idx hz239 rfl rfl Try.runUnderlying22 Try.sizeOf3) (J.k (JO.loadPst rfl Try.isAgg3 Try.sizeOf3) (J.k (JO.call0 (con_ref_Pick hv240) Try.call8 (.cons (.dir rfl) (.cons (.dir rfl) .nil))) (J.k (JO.assign rfl) (J.fin (Sw.Sub.mk id (.c rfl (.c rfl (.c rfl (.c rfl (.c rfl .nil))))) (.box rfl (.c rfl (.c rfl (.c rfl (.c rfl (.c rfl .nil))))) (.arr rfl (.arr rfl .nil))) rfl)))))))) ?_
    refine W.seq ?_
    refine W.seq ?_
    obtain ⟨x242, hx, h⟩ := bind_e h
    refine W.reg (σ' := ⟨[(1, .v Q0 v3), (2, .v (Enc.sl Q0) a2), (7, .ptr 105 0), (11, .v Q0 s143.1), (12, .v Q0 v240), (82, .v Enc.bool x242)], [(105, .box 56 [.v Q2 s143.2.1, .v (Enc.pr Q0 Q0) s143.2.2.1, .ref 196, .ref 197, .v Enc.bool s143.2.2.2.1]), (196, .arr 64 (Enc.pr Enc.bool (Enc.sl (Enc.int .u8))) s143.2.2.2.2.1), (197, .arr 3 Q0 s143.2.2.2.2.2)]⟩) ?_ ?_
    ·rcases Bool.eq_false_or_eq_true (cm .eql (s143.2.2.2.2.1.length : Int) (0 : Int)) with hc243 | hc243
     ·replace hx := cond_t hc243 hx
      obtain rfl := Option.some.inj hx
      exact (J.mv rfl (J.k (JO.nilPtr rfl) (J.k (JO.fieldPtr 5 rfl Try.runUnderlying56 rfl Try.sizeOf54 rfl rfl) (J.k (JO.load rfl rfl rfl Try.isAgg54 Try.sizeOf54) (J.k (JO.lenR rfl rfl Try.runUnderlying54) (J.k (JO.cmp rfl rfl rfl) (J.mv rfl (J.u 78 hc243 (J.u 78 hc243 (J.u 78 hc243 (J.k (JO.pT hc243 rfl rfl) (J.fin (Sw.Sub.mk id (.c rfl (.c rfl (.c rfl (.c rfl (.c rfl (.c rfl .nil)))))) (.box rfl (.c rfl (.c rfl (.c rfl (.c rfl (.c rfl .nil))))) (.arr rfl (.arr rfl .nil))) rfl)))))))))))))
     ·replace hx := cond_f hc243 hx
      obtain rfl := Option.some.inj hx
      exact (J.mv rfl (J.k (JO.nilPtr rfl) (J.k (JO.fieldPtr 5 rfl Try.runUnderlying56 rfl Try.sizeOf54 rfl rfl) (J.k (JO.load rfl rfl rfl Try.isAgg54 Try.sizeOf54) (J.k (JO.lenR rfl rfl Try.runUnderlying54) (J.k (JO.cmp rfl rfl rfl) (J.mv rfl (J.m 78 hc243 (JO.move rfl) (J.m 78 hc243 (JO.div (.inr rfl) (by decide) rfl rfl) (J.m 78 hc243 (JO.cmp rfl rfl rfl) (J.k (JO.pF hc243 rfl rfl) (J.fin (Sw.Sub.mk id (.c rfl (.c rfl (.c rfl (.c rfl (.c rfl (.c rfl .nil)))))) (.box rfl (.c rfl (.c rfl (.c rfl (.c rfl (.c rfl .nil))))) (.arr rfl (.arr rfl .nil))) rfl)))))))))))))
    rcases Bool.eq_false_or_eq_true x242 with hc244 | hc244
    ·replace h := cond_t hc244 h
     refine W.condT rfl hc244 ?_
     refine W.seq ?_
     obtain ⟨v245, hv245, h⟩ := bind_e h
     refine W.reg (σ' := ⟨[(1, .v Q0 v3), (2, .v (Enc.sl Q0) a2), (7, .ptr 105 0), (11, .v Q0 s143.1)], [(105, .box 56 [.v Q2 v245.1, .v (Enc.pr Q0 Q0) v245.2.1, .ref 258, .ref 259, .v Enc.bool v245.2.2.2.2]), (258, .arr 64 (Enc.pr Enc.bool (Enc.sl (Enc.int .u8))) v245.2.2.1), (259, .arr 3 Q0 v245.2.2.2.1)]⟩) (J.mv rfl (J.t (JM.callM (H := [105, 196, 197]) (K := [105]) (swp [(9000, 105), (8950, 196), (8951, 197), (8910, 258), (8911, 259)]) (swp_inj _) (fun A => con_top_line_send_io A hv245) Try.call19 (.cons (.dir rfl) .nil) (fun A => (.box rfl (.arr rfl (.arr rfl .nil)))) (fun A => (.box rfl (.arr (.arr .nil rfl) rfl) rfl)) (fun _ => rfl) rfl rfl (fun _ => rfl) rfl rfl) (J.fin (Sw.Sub.mk id (.c rfl (.c rfl (.c rfl (.c rfl .nil)))) (.box rfl (.c rfl (.c rfl (.c rfl (.c rfl (.c rfl .nil))))) (.arr rfl (.arr rfl .nil))) rfl)))) ?_
     refine W.exit ?_
     exact XQ.bhit h (Sw.Sub.mk (rn [(105, 105), (256, 259), (255, 258)]) (.c rfl (.c rfl (.c rfl (.c rfl .nil)))) (.box rfl (.c rfl (.c rfl (.c rfl (.c rfl (.c rfl .nil))))) (.arr rfl (.arr rfl .nil))) rfl)
    ·replace h := cond_f hc244 h
     refine W.condF rfl hc244 ?_
     refine W.skip ?_
     refine W.seq ?_
     obtain ⟨u246, hu246, h⟩ := bind_e h
     refine W.reg (σ' := ⟨[(1, .v Q0 v3), (2, .v (Enc.sl Q0) a2), (7, .ptr 105 0), (11, .v Q0 s143.1), (12, .v Q0 v240), (13, .v Q0 (ar .rem .i64 (ar .quo .i64 v240 (5 : Int)) (s143.2.2.2.2.1.length : Int)))], [(105, .box 56 [.v Q2 s143.2.1, .v (Enc.pr Q0 Q0) s143.2.2.1, .ref 196, .ref 197, .v Enc.bool s143.2.2.2.1]), (196, .arr 64 (Enc.pr Enc.bool (Enc.sl (Enc.int .u8))) s143.2.2.2.2.1), (197, .arr 3 Q0 s143.2.2.2.2.2)]⟩) (J.mv rfl (J.k (JO.div (.inl rfl) (by decide) rfl rfl) (J.mv rfl (J.k (JO.nilPtr rfl) (J.k (JO.fieldPtr 5 rfl Try.runUnderlying56 rfl Try.sizeOf54 rfl rfl) (J.k (JO.load rfl rfl rfl Try.isAgg54 Try.sizeOf54) (J.k (JO.lenR rfl rfl Try.runUnderlying54) (J.k (JO.div (.inr rfl) (nz_some hu246) rfl rfl) (J.k (JO.assign rfl) (J.fin (Sw.Sub.mk id (.c rfl (.c rfl (.c rfl (.c rfl (.c rfl (.c rfl .nil)))))) (.box rfl (.c rfl (.c rfl (.c rfl (.c rfl (.c rfl .nil))))) (.arr rfl (.arr rfl .nil))) rfl))))))))))) ?_
     refine W.seq ?_
     refine W.seq ?_
     refine W.reg (σ' := ⟨[(1, .v Q0 v3), (2, .v (Enc.sl Q0) a2), (7, .ptr 105 0), (11, .v Q0 s143.1), (13, .v Q0 (ar .rem .i64 (ar .quo .i64 v240 (5 : Int)) (s143.2.2.2.2.1.length : Int))), (94, .v Q0 (ar .rem .i64 v240 (5 : Int)))], [(105, .box 56 [.v Q2 s143.2.1, .v (Enc.pr Q0 Q0) s143.2.2.1, .ref 196, .ref 197, .v Enc.bool s143.2.2.2.1]), (196, .arr 64 (Enc.pr Enc.bool (Enc.sl (Enc.int .u8))) s143.2.2.2.2.1), (197, .arr 3 Q0 s143.2.2.2.2.2)]⟩) (J.mv rfl (J.k (JO.div (.inr rfl) (by decide) rfl rfl) (J.fin (Sw.Sub.mk id (.c rfl (.c rfl (.c rfl (.c rfl (.c rfl (.c rfl .nil)))))) (.box rfl (.c rfl (.c rfl (.c rfl (.c rfl (.c rfl .nil))))) (.arr rfl (.arr rfl .nil))) rfl)))) ?_
     refine W.block ?_
     refine W.seq ?_
     refine W.reg (σ' := ⟨[(1, .v Q0 v3), (2, .v (Enc.sl Q0) a2), (7, .ptr 105 0), (11, .v Q0 s143.1), (13, .v Q0 (ar .rem .i64 (ar .quo .i64 v240 (5 : Int)) (s143.2.2.2.2.1.length : Int))), (94, .v Q0 (ar .rem .i64 v240 (5 : Int))), (98, .v Enc.bool (cm .eql (ar .rem .i64 v240 (5 : Int)) (1 : Int)))], [(105, .box 56 [.v Q2 s143.2.1, .v (Enc.pr Q0 Q0) s143.2.2.1, .ref 196, .ref 197, .v Enc.bool s143.2.2.2.1]), (196, .arr 64 (Enc.pr Enc.bool (Enc.sl (Enc.int .u8))) s143.2.2.2.2.1), (197, .arr 3 Q0 s143.2.2.2.2.2)]⟩) (J.k (JO.cmp rfl rfl rfl) (J.k (JO.assign rfl) (J.fin (Sw.Sub.mk id (.c rfl (.c rfl (.c rfl (.c rfl (.c rfl (.c rfl (.c rfl .nil))))))) (.box rfl (.c rfl (.c rfl (.c rfl (.c rfl (.c rfl .nil))))) (.arr rfl (.arr rfl .nil))) rfl)))) ?_
     rcases Bool.eq_false_or_eq_true (cm .eql (ar .rem .i64 v240 (5 : Int)) (1 : Int)) with hc247 | hc247
     ·replace h := cond_t hc247 h
      refine W.condT rfl hc247 ?_
      refine W.seq ?_
      obtain ⟨v248, hv248, h⟩ := bind_e h
      refine W.reg (σ' := ⟨[(1, .v Q0 v3), (2, .v (Enc.sl Q0) a2), (7, .ptr 105 0), (11, .v Q0 s143.1), (13, .v Q0 (ar .rem .i64 (ar .quo .i64 v240 (5 : Int)) (s143.2.2.2.2.1.length : Int)))], [(105, .box 56 [.v Q2 v248.1, .v (Enc.pr Q0 Q0) v248.2.1, .ref 260, .ref 261, .v Enc.bool v248.2.2.2.2]), (260, .arr 64 (Enc.pr Enc.bool (Enc.sl (Enc.int .u8))) v248.2.2.1), (261, .arr 3 Q0 v248.2.2.2.1)]⟩) (J.mv rfl (J.mv rfl (J.t (JM.callM (H := [105, 196, 197]) (K := [105]) (swp [(9000, 105), (8950, 196), (8951, 197), (8910, 260), (8911, 261)]) (swp_inj _) (fun A => con_top_line_come_io A hv248) Try.call20 (.cons (.dir rfl) (.cons (.dir rfl) .nil)) (fun A => (.box rfl (.arr rfl (.arr rfl .nil)))) (fun A => (.box rfl (.arr (.arr .nil rfl) rfl) rfl)) (fun _ => rfl) rfl rfl (fun _ => rfl) rfl rfl) (J.fin (Sw.Sub.mk id (.c rfl (.c rfl (.c rfl (.c rfl (.c rfl .nil))))) (.box rfl (.c rfl (.c rfl (.c rfl (.c rfl (.c rfl .nil))))) (.arr rfl (.arr rfl .nil))) rfl))))) ?_
      obtain ⟨v249, hv249, h⟩ := bind_e h
      refine W.reg (σ' := ⟨[(1, .v Q0 v3), (2, .v (Enc.sl Q0) a2), (7, .ptr 105 0), (11, .v Q0 s143.1)], [(105, .box 56 [.v Q2 v249.1, .v (Enc.pr Q0 Q0) v249.2.1, .ref 262, .ref 263, .v Enc.bool v249.2.2.2.2]), (262, .arr 64 (Enc.pr Enc.bool (Enc.sl (Enc.int .u8))) v249.2.2.1), (263, .arr 3 Q0 v249.2.2.2.1)]⟩) (J.mv rfl (J.mv rfl (J.t (JM.callM (H := [105, 260, 261]) (K := [105]) (swp [(9000, 105), (8950, 260), (8951, 261), (8910, 262), (8911, 263)]) (swp_inj _) (fun A => con_top_line_gone_io A hv249) Try.call21 (.cons (.dir rfl) (.cons (.dir rfl) .nil)) (fun A => (.box rfl (.arr rfl (.arr rfl .nil)))) (fun A => (.box rfl (.arr (.arr .nil rfl) rfl) rfl)) (fun _ => rfl) rfl rfl (fun _ => rfl) rfl rfl) (J.fin (Sw.Sub.mk id (.c rfl (.c rfl (.c rfl (.c rfl .nil)))) (.box rfl (.c rfl (.c rfl (.c rfl (.c rfl (.c rfl .nil))))) (.arr rfl (.arr rfl .nil))) rfl))))) ?_
      refine W.fall ?_
      refine W.seq ?_
      refine W.reg (σ' := ⟨[(1, .v Q0 v3), (2, .v (Enc.sl Q0) a2), (7, .ptr 105 0), (11, .v Q0 s143.1), (134, .v Enc.bool (cm .gtr (v249.2.2.1.length : Int) (200 : Int)))], [(105, .box 56 [.v Q2 v249.1, .v (Enc.pr Q0 Q0) v249.2.1, .ref 262, .ref 263, .v Enc.bool v249.2.2.2.2]), (262, .arr 64 (Enc.pr Enc.bool (Enc.sl (Enc.int .u8))) v249.2.2.1), (263, .arr 3 Q0 v249.2.2.2.1)]⟩) (J.mv rfl (J.k (JO.nilPtr rfl) (J.k (JO.fieldPtr 5 rfl Try.runUnderlying56 rfl Try.sizeOf54 rfl rfl) (J.k (JO.load rfl rfl rfl Try.isAgg54 Try.sizeOf54) (J.k (JO.lenR rfl rfl Try.runUnderlying54) (J.k (JO.cmp rfl rfl rfl) (J.fin (Sw.Sub.mk id (.c rfl (.c rfl (.c rfl (.c rfl (.c rfl .nil))))) (.box rfl (.c rfl (.c rfl (.c rfl (.c rfl (.c rfl .nil))))) (.arr rfl (.arr rfl .nil))) rfl)))))))) ?_
      rcases Bool.eq_false_or_eq_true (cm .gtr (v249.2.2.1.length : Int) (200 : Int)) with hc250 | hc250
      ·replace h := cond_t hc250 h
       refine W.condT rfl hc250 ?_
       obtain ⟨v251, hv251, h⟩ := bind_e h
       refine W.reg (σ' := ⟨[(1, .v Q0 v3), (2, .v (Enc.sl Q0) a2), (7, .ptr 105 0), (11, .v Q0 s143.1)], [(105, .box 56 [.v Q2 v249.1, .v (Enc.pr Q0 Q0) v249.2.1, .ref 264, .ref 263, .v Enc.bool v249.2.2.2.2]), (264, .arr 64 (Enc.pr Enc.bool (Enc.sl (Enc.int .u8))) v251), (263, .arr 3 Q0 v249.2.2.2.1)]⟩) (J.mv rfl (J.mv rfl (J.k (JO.nilPtr rfl) (J.k (JO.fieldPtr 5 rfl Try.runUnderlying56 rfl Try.sizeOf54 rfl rfl) (J.k (JO.load rfl rfl rfl Try.isAgg54 Try.sizeOf54) (J.t (JM.slHi 264 hv251 rfl rfl rfl Try.runUnderlying54 Try.sizeOf64 rfl rfl) (J.k (JO.nilPtr rfl) (J.k (JO.fieldPtr 5 rfl Try.runUnderlying56 rfl Try.sizeOf54 rfl rfl) (J.t (JM.store rfl rfl rfl rfl rfl rfl rfl Try.sizeOf54) (J.fin (Sw.Sub.mk id (.c rfl (.c rfl (.c rfl (.c rfl .nil)))) (.box rfl (.c rfl (.c rfl (.c rfl (.c rfl (.c rfl .nil))))) (.arr rfl (.arr rfl .nil))) rfl))))))))))) ?_
       exact W.bfall h (Sw.Sub.mk (rn [(105, 105), (256, 263), (255, 264)]) (.c rfl (.c rfl (.c rfl (.c rfl .nil)))) (.box rfl (.c rfl (.c rfl (.c rfl (.c rfl (.c rfl .nil))))) (.arr rfl (.arr rfl .nil))) rfl)
      ·replace h := cond_f hc250 h
       refine W.condF rfl hc250 ?_
       refine W.skip ?_
       exact W.bfall h (Sw.Sub.mk (rn [(105, 105), (256, 263), (255, 262)]) (.c rfl (.c rfl (.c rfl (.c rfl .nil)))) (.box rfl (.c rfl (.c rfl (.c rfl (.c rfl (.c rfl .nil))))) (.arr rfl (.arr rfl .nil))) rfl)
     ·replace h := cond_f hc247 h
      refine W.condF rfl hc247 ?_
      refine W.seq ?_
      refine W.reg (σ' := ⟨[(1, .v Q0 v3), (2, .v (Enc.sl Q0) a2), (7, .ptr 105 0), (11, .v Q0 s143.1), (13, .v Q0 (ar .rem .i64 (ar .quo .i64 v240 (5 : Int)) (s143.2.2.2.2.1.length : Int))), (94, .v Q0 (ar .rem .i64 v240 (5 : Int))), (106, .v Enc.bool (cm .eql (ar .rem .i64 v240 (5 : Int)) (2 : Int)))], [(105, .box 56 [.v Q2 s143.2.1, .v (Enc.pr Q0 Q0) s143.2.2.1, .ref 196, .ref 197, .v Enc.bool s143.2.2.2.1]), (196, .arr 64 (Enc.pr Enc.bool (Enc.sl (Enc.int .u8))) s143.2.2.2.2.1), (197, .arr 3 Q0 s143.2.2.2.2.2)]⟩) (J.k (JO.cmp rfl rfl rfl) (J.k (JO.assign rfl) (J.fin (Sw.Sub.mk id (.c rfl (.c rfl (.c rfl (.c rfl (.c rfl (.c rfl (.c rfl .nil))))))) (.box rfl (.c rfl (.c rfl (.c rfl (.c rfl (.c rfl .nil))))) (.arr rfl (.arr rfl .nil))) rfl)))) ?_
      rcases Bool.eq_false_or_eq_true (cm .eql (ar .rem .i64 v240 (5 : Int)) (2 : Int)) with hc252 | hc252
      ·replace h := cond_t hc252 h
       refine W.condT rfl hc252 ?_
       obtain ⟨v253, hv253, h⟩ := bind_e h
       refine W.reg (σ' := ⟨[(1, .v Q0 v3), (2, .v (Enc.sl Q0) a2), (7, .ptr 105 0), (11, .v Q0 s143.1)], [(105, .box 56 [.v Q2 v253.1, .v (Enc.pr Q0 Q0) v253.2.1, .ref 265, .ref 266, .v Enc.bool v253.2.2.2.2]), (265, .arr 64 (Enc.pr Enc.bool (Enc.sl (Enc.int .u8))) v253.2.2.1), (266, .arr 3 Q0 v253.2.2.2.1)]⟩) (J.mv rfl (J.mv rfl (J.t (JM.callM (H := [105, 196, 197]) (K := [105]) (swp [(9000, 105), (8950, 196), (8951, 197), (8910, 265), (8911, 266)]) (swp_inj _) (fun A => con_top_line_gone_io A hv253) Try.call21 (.cons (.dir rfl) (.cons (.dir rfl) .nil)) (fun A => (.box rfl (.arr rfl (.arr rfl .nil)))) (fun A => (.box rfl (.arr (.arr .nil rfl) rfl) rfl)) (fun _ => rfl) rfl rfl (fun _ => rfl) rfl rfl) (J.fin (Sw.Sub.mk id (.c rfl (.c rfl (.c rfl (.c rfl .nil)))) (.box rfl (.c rfl (.c rfl (.c rfl (.c rfl (.c rfl .nil))))) (.arr rfl (.arr rfl .nil))) rfl))))) ?_
       refine W.fall ?_
       refine W.seq ?_
       refine W.reg (σ' := ⟨[(1, .v Q0 v3), (2, .v (Enc.sl Q0) a2), (7, .ptr 105 0), (11, .v Q0 s143.1), (134, .v Enc.bool (cm .gtr (v253.2.2.1.length : Int) (200 : Int)))], [(105, .box 56 [.v Q2 v253.1, .v (Enc.pr Q0 Q0) v253.2.1, .ref 265, .ref 266, .v Enc.bool v253.2.2.2.2]), (265, .arr 64 (Enc.pr Enc.bool (Enc.sl (Enc.int .u8))) v253.2.2.1), (266, .arr 3 Q0 v253.2.2.2.1)]⟩) (J.mv rfl (J.k (JO.nilPtr rfl) (J.k (JO.fieldPtr 5 rfl Try.runUnderlying56 rfl Try.sizeOf54 rfl rfl) (J.k (JO.load rfl rfl rfl Try.isAgg54 Try.sizeOf54) (J.k (JO.lenR rfl rfl Try.runUnderlying54) (J.k (JO.cmp rfl rfl rfl) (J.fin (Sw.Sub.mk id (.c rfl (.c rfl (.c rfl (.c rfl (.c rfl .nil))))) (.box rfl (.c rfl (.c rfl (.c rfl (.c rfl (.c rfl .nil))))) (.arr rfl (.arr rfl .nil))) rfl)))))))) ?_
       rcases Bool.eq_false_or_eq_true (cm .gtr (v253.2.2.1.length : Int) (200 : Int)) with hc254 | hc254
       ·replace h := cond_t hc254 h
        refine W.condT rfl hc254 ?_
        obtain ⟨v255, hv255, h⟩ := bind_e h
        refine W.reg (σ' := ⟨[(1, .v Q0 v3), (2, .v (Enc.sl Q0) a2), (7, .ptr 105 0), (11, .v Q0 s143.1)], [(105, .box 56 [.v Q2 v253.1, .v (Enc.pr Q0 Q0) v253.2.1, .ref 267, .ref 266, .v Enc.bool v253.2.2.2.2]), (267, .arr 64 (Enc.pr Enc.bool (Enc.sl (Enc.int .u8))) v255), (266, .arr 3 Q0 v253.2.2.2.1)]⟩) (J.mv rfl (J.mv rfl (J.k (JO.nilPtr rfl) (J.k (JO.fieldPtr 5 rfl Try.runUnderlying56 rfl Try.sizeOf54 rfl rfl) (J.k (JO.load rfl rfl rfl Try.isAgg54 Try.sizeOf54) (J.t (JM.slHi 267 hv255 rfl rfl rfl Try.runUnderlying54 Try.sizeOf64 rfl rfl) (J.k (JO.nilPtr rfl) (J.k (JO.fieldPtr 5 rfl Try.runUnderlying56 rfl Try.sizeOf54 rfl rfl) (J.t (JM.store rfl rfl rfl rfl rfl rfl rfl Try.sizeOf54) (J.fin (Sw.Sub.mk id (.c rfl (.c rfl (.c rfl (.c rfl .nil)))) (.box rfl (.c rfl (.c rfl (.c rfl (.c rfl (.c rfl .nil))))) (.arr rfl (.arr rfl .nil))) rfl))))))))))) ?_
        exact W.bfall h (Sw.Sub.mk (rn [(105, 105), (256, 266), (255, 267)]) (.c rfl (.c rfl (.c rfl (.c rfl .nil)))) (.box rfl (.c rfl (.c rfl (.c rfl (.c rfl (.c rfl .nil))))) (.arr rfl (.arr rfl .nil))) rfl)
       ·replace h := cond_f hc254 h
        refine W.condF rfl hc254 ?_
        refine W.skip ?_
        exact W.bfall h (Sw.Sub.mk (rn [(105, 105), (256, 266), (255, 265)]) (.c rfl (.c rfl (.c rfl (.c rfl .nil)))) (.box rfl (.c rfl (.c rfl (.c rfl (.c rfl (.c rfl .nil))))) (.arr rfl (.arr rfl .nil))) rfl)
      ·replace h := cond_f hc252 h
       refine W.condF rfl hc252 ?_
       refine W.seq ?_
       refine W.reg (σ' := ⟨[(1, .v Q0 v3), (2, .v (Enc.sl Q0) a2), (7, .ptr 105 0), (11, .v Q0 s143.1), (13, .v Q0 (ar .rem .i64 (ar .quo .i64 v240 (5 : Int)) (s143.2.2.2.2.1.length : Int))), (111, .v Enc.bool (cm .eql (ar .rem .i64 v240 (5 : Int)) (3 : Int)))], [(105, .box 56 [.v Q2 s143.2.1, .v (Enc.pr Q0 Q0) s143.2.2.1, .ref 196, .ref 197, .v Enc.bool s143.2.2.2.1]), (196, .arr 64 (Enc.pr Enc.bool (Enc.sl (Enc.int .u8))) s143.2.2.2.2.1), (197, .arr 3 Q0 s143.2.2.2.2.2)]⟩) (J.k (JO.cmp rfl rfl rfl) (J.k (JO.assign rfl) (J.fin (Sw.Sub.mk id (.c rfl (.c rfl (.c rfl (.c rfl (.c rfl (.c rfl .nil)))))) (.box rfl (.c rfl (.c rfl (.c rfl (.c rfl (.c rfl .nil))))) (.arr rfl (.arr rfl .nil))) rfl)))) ?_
       rcases Bool.eq_false_or_eq_true (cm .eql (ar .rem .i64 v240 (5 : Int)) (3 : Int)) with hc256 | hc256
       ·replace h := cond_t hc256 h
        refine W.condT rfl hc256 ?_
        obtain ⟨z259, hz259, h⟩ := bind_e h
        obtain ⟨v260, hv260, h⟩ := bind_e h
        refine W.dr4 (σ' := ⟨[(1, .v Q0 v3), (2, .v (Enc.sl Q0) a2), (7, .ptr 105 0), (11, .v Q0 s143.1)], [(105, .box 56 [.v Q2 s143.2.1, .v (Enc.pr Q0 Q0) s143.2.2.1, .ref 269, .ref 197, .v Enc.bool s143.2.2.2.1]), (269, .arr 64 (Enc.pr Enc.bool (Enc.sl (Enc.int .u8))) v260), (197, .arr 3 Q0 s143.2.2.2.2.2)]⟩) 17 [0, 0, 2, 6, 14, 0, 32, 96, 224, 0, 992, 2016, 4064, 8190, 16383, 32767, 65535] mixed (by exact (.cons (.none rfl) (JO.move rfl) rfl (.cons (.none rfl) (JO.move rfl) rfl (.cons (.none rfl) (JO.nilPtr rfl) rfl (.cons (.none rfl) (JO.fieldPtr 5 rfl Try.runUnderlying56 rfl Try.sizeOf54 rfl rfl) rfl (.cons (.none rfl) (JO.load rfl rfl rfl Try.isAgg54 Try.sizeOf54) rfl (.cons (.none rfl) (JO.move rfl) rfl (.cons (.none rfl) (JO.nilPtr rfl) rfl (.cons (.none rfl) (JO.fieldPtr 5 rfl Try.runUnderlying56 rfl Try.sizeOf54 rfl rfl) rfl (.cons (.none rfl) (JO.load rfl rfl rfl Try.isAgg54 Try.sizeOf54) rfl (.cons (.none rfl) (JO.move rfl) rfl (.cons (.none rfl) (JO.idxR hz259 rfl rfl rfl Try.runUnderlying54 Try.sizeOf64) rfl (.cons (.none rfl) (JO.loadEl (idx_some hz259).2.2 rfl rfl .here Try.isAgg64 Try.sizeOf64) rfl (.cons (.none rfl) (JO.lit (e := (Enc.pr Enc.bool (Enc.sl (Enc.int .u8)))) Try.runUnderlying54 Try.sizeOf64 Try.zeroValue64 rfl rfl rfl rfl (.cons (.dir rfl) .nil)) rfl (JP4.append (.none rfl) 269 hv260 rfl rfl (.sl rfl) Try.runUnderlying54 Try.typeInfo64 Try.sizeOf64 rfl rfl rfl rfl rfl (.cons (.none rfl) (JO.nilPtr rfl) rfl (.cons (.none rfl) (JO.fieldPtr 5 rfl Try.runUnderlying56 rfl Try.sizeOf54 rfl rfl) rfl (JP4.store (.none rfl) rfl rfl rfl rfl rfl rfl rfl Try.sizeOf54 .nil)))))))))))))))))) (by exact (J.fin (Sw.Sub.mk id (.c rfl (.c rfl (.c rfl (.c rfl .nil)))) (.box rfl (.c rfl (.c rfl (.c rfl (.c rfl (.c rfl .nil))))) (.arr rfl (.arr rfl .nil))) rfl))) rfl (by decide +kernel) (by decide +kernel) (by decide +kernel) (by kernel_rfl) (by kernel_rfl) ?_
        refine W.fall ?_
        refine W.seq ?_
        refine W.reg (σ' := ⟨[(1, .v Q0 v3), (2, .v (Enc.sl Q0) a2), (7, .ptr 105 0), (11, .v Q0 s143.1), (134, .v Enc.bool (cm .gtr (v260.length : Int) (200 : Int)))], [(105, .box 56 [.v Q2 s143.2.1, .v (Enc.pr Q0 Q0) s143.2.2.1, .ref 269, .ref 197, .v Enc.bool s143.2.2.2.1]), (269, .arr 64 (Enc.pr Enc.bool (Enc.sl (Enc.int .u8))) v260), (197, .arr 3 Q0 s143.2.2.2.2.2)]⟩) (J.mv rfl (J.k (JO.nilPtr rfl) (J.k (JO.fieldPtr 5 rfl Try.runUnderlying56 rfl Try.sizeOf54 rfl rfl) (J.k (JO.load rfl rfl rfl Try.isAgg54 Try.sizeOf54) (J.k (JO.lenR rfl rfl Try.runUnderlying54) (J.k (JO.cmp rfl rfl rfl) (J.fin (Sw.Sub.mk id (.c rfl (.c rfl (.c rfl (.c rfl (.c rfl .nil))))) (.box rfl (.c rfl (.c rfl (.c rfl (.c rfl (.c rfl .nil))))) (.arr rfl (.arr rfl .nil))) rfl)))))))) ?_
        rcases Bool.eq_false_or_eq_true (cm .gtr (v260.length : Int) (200 : Int)) with hc261 | hc261
        ·replace h := cond_t hc261 h
         refine W.condT rfl hc261 ?_
         obtain ⟨v262, hv262, h⟩ := bind_e h
         refine W.reg (σ' := ⟨[(1, .v Q0 v3), (2, .v (Enc.sl Q0) a2), (7, .ptr 105 0), (11, .v Q0 s143.1)], [(105, .box 56 [.v Q2 s143.2.1, .v (Enc.pr Q0 Q0) s143.2.2.1, .ref 270, .ref 197, .v Enc.bool s143.2.2.2.1]), (270, .arr 64 (Enc.pr Enc.bool (Enc.sl (Enc.int .u8))) v262), (197, .arr 3 Q0 s143.2.2.2.2.2)]⟩) (J.mv rfl (J.mv rfl (J.k (JO.nilPtr rfl) (J.k (JO.fieldPtr 5 rfl Try.runUnderlying56 rfl Try.sizeOf54 rfl rfl) (J.k (JO.load rfl rfl rfl Try.isAgg54 Try.sizeOf54) (J.t (JM.slHi 270 hv262 rfl rfl rfl Try.runUnderlying54 Try.sizeOf64 rfl rfl) (J.k (JO.nilPtr rfl) (J.k (JO.fieldPtr 5 rfl Try.runUnderlying56 rfl Try.sizeOf54 rfl rfl) (J.t (JM.store rfl rfl rfl rfl rfl rfl rfl Try.sizeOf54) (J.fin (Sw.Sub.mk id (.c rfl (.c rfl (.c rfl (.c rfl .nil)))) (.box rfl (.c rfl (.c rfl (.c rfl (.c rfl (.c rfl .nil))))) (.arr rfl (.arr rfl .nil))) rfl))))))))))) ?_
         exact W.bfall h (Sw.Sub.mk (rn [(105, 105), (256, 197), (255, 270)]) (.c rfl (.c rfl (.c rfl (.c rfl .nil)))) (.box rfl (.c rfl (.c rfl (.c rfl (.c rfl (.c rfl .nil))))) (.arr rfl (.arr rfl .nil))) rfl)
        ·replace h := cond_f hc261 h
         refine W.condF rfl hc261 ?_
         refine W.skip ?_
         exact W.bfall h (Sw.Sub.mk (rn [(105, 105), (256, 197), (255, 269)]) (.c rfl (.c rfl (.c rfl (.c rfl .nil)))) (.box rfl (.c rfl (.c rfl (.c rfl (.c rfl (.c rfl .nil))))) (.arr rfl (.arr rfl .nil))) rfl)
       ·replace h := cond_f hc256 h
        refine W.condF rfl hc256 ?_
        obtain ⟨v263, hv263, h⟩ := bind_e h
        refine W.reg (σ' := ⟨[(1, .v Q0 v3), (2, .v (Enc.sl Q0) a2), (7, .ptr 105 0), (11, .v Q0 s143.1)], [(105, .box 56 [.v Q2 v263.1, .v (Enc.pr Q0 Q0) v263.2.1, .ref 271, .ref 272, .v Enc.bool v263.2.2.2.2]), (271, .arr 64 (Enc.pr Enc.bool (Enc.sl (Enc.int .u8))) v263.2.2.1), (272, .arr 3 Q0 v263.2.2.2.1)]⟩) (J.mv rfl (J.mv rfl (J.t (JM.callM (H := [105, 196, 197]) (K := [105]) (swp [(9000, 105), (8950, 196), (8951, 197), (8910, 271), (8911, 272)]) (swp_inj _) (fun A => con_top_line_come_io A hv263) Try.call20 (.cons (.dir rfl) (.cons (.dir rfl) .nil)) (fun A => (.box rfl (.arr rfl (.arr rfl .nil)))) (fun A => (.box rfl (.arr (.arr .nil rfl) rfl) rfl)) (fun _ => rfl) rfl rfl (fun _ => rfl) rfl rfl) (J.fin (Sw.Sub.mk id (.c rfl (.c rfl (.c rfl (.c rfl .nil)))) (.box rfl (.c rfl (.c rfl (.c rfl (.c rfl (.c rfl .nil))))) (.arr rfl (.arr rfl .nil))) rfl))))) ?_
        refine W.fall ?_
        refine W.seq ?_
        refine W.reg (σ' := ⟨[(1, .v Q0 v3), (2, .v (Enc.sl Q0) a2), (7, .ptr 105 0), (11, .v Q0 s143.1), (134, .v Enc.bool (cm .gtr (v263.2.2.1.length : Int) (200 : Int)))], [(105, .box 56 [.v Q2 v263.1, .v (Enc.pr Q0 Q0) v263.2.1, .ref 271, .ref 272, .v Enc.bool v263.2.2.2.2]), (271, .arr 64 (Enc.pr Enc.bool (Enc.sl (Enc.int .u8))) v263.2.2.1), (272, .arr 3 Q0 v263.2.2.2.1)]⟩) (J.mv rfl (J.k (JO.nilPtr rfl) (J.k (JO.fieldPtr 5 rfl Try.runUnderlying56 rfl Try.sizeOf54 rfl rfl) (J.k (JO.load rfl rfl rfl Try.isAgg54 Try.sizeOf54) (J.k (JO.lenR rfl rfl Try.runUnderlying54) (J.k (JO.cmp rfl rfl rfl) (J.fin (Sw.Sub.mk id (.c rfl (.c rfl (.c rfl (.c rfl (.c rfl .nil))))) (.box rfl (.c rfl (.c rfl (.c rfl (.c rfl (.c rfl .nil))))) (.arr rfl (.arr rfl .nil))) rfl)))))))) ?_
        rcases Bool.eq_false_or_eq_true (cm .gtr (v263.2.2.1.length : Int) (200 : Int)) with hc264 | hc264
        ·replace h := cond_t hc264 h
         refine W.condT rfl hc264 ?_
         obtain ⟨v265, hv265, h⟩ := bind_e h
         refine W.reg (σ' := ⟨[(1, .v Q0 v3), (2, .v (Enc.sl Q0) a2), (7, .ptr 105 0), (11, .v Q0 s143.1)], [(105, .box 56 [.v Q2 v263.1, .v (Enc.pr Q0 Q0) v263.2.1, .ref 273, .ref 272, .v Enc.bool v263.2.2.2.2]), (273, .arr 64 (Enc.pr Enc.bool (Enc.sl (Enc.int .u8))) v265), (272, .arr 3 Q0 v263.2.2.2.1)]⟩) (J.mv rfl (J.mv rfl (J.k (JO.nilPtr rfl) (J.k (JO.fieldPtr 5 rfl Try.runUnderlying56 rfl Try.sizeOf54 rfl rfl) (J.k (JO.load rfl rfl rfl Try.isAgg54 Try.sizeOf54) (J.t (JM.slHi 273 hv265 rfl rfl rfl Try.runUnderlying54 Try.sizeOf64 rfl rfl) (J.k (JO.nilPtr rfl) (J.k (JO.fieldPtr 5 rfl Try.runUnderlying56 rfl Try.sizeOf54 rfl rfl) (J.t (JM.store rfl rfl rfl rfl rfl rfl rfl Try.sizeOf54) (J.fin (Sw.Sub.mk id (.c rfl (.c rfl (.c rfl (.c rfl .nil)))) (.box rfl (.c rfl (.c rfl (.c rfl (.c rfl (.c rfl .nil))))) (.arr rfl (.arr rfl .nil))) rfl))))))))))) ?_
         exact W.bfall h (Sw.Sub.mk (rn [(105, 105), (256, 272), (255, 273)]) (.c rfl (.c rfl (.c rfl (.c rfl .nil)))) (.box rfl (.c rfl (.c rfl (.c rfl (.c rfl (.c rfl .nil))))) (.arr rfl (.arr rfl .nil))) rfl)
        ·replace h := cond_f hc264 h
         refine W.condF rfl hc264 ?_
         refine W.skip ?_
         exact W.bfall h (Sw.Sub.mk (rn [(105, 105), (256, 272), (255, 271)]) (.c rfl (.c rfl (.c rfl (.c rfl .nil)))) (.box rfl (.c rfl (.c rfl (.c rfl (.c rfl (.c rfl .nil))))) (.arr rfl (.arr rfl .nil))) rfl)
   ·replace h := cond_f hc209 h
    refine W.condF rfl hc209 ?_
    refine W.exit ?_
    obtain rfl := Option.some.inj h
    exact XQ.brk (Sw.Sub.mk id (.c rfl (.c rfl .nil)) (.box rfl (.c rfl (.c rfl (.c rfl (.c rfl (.c rfl .nil))))) (.arr rfl (.arr rfl .nil))) rfl)
  intro s12 r16 h
  refine W.seq ?_
  refine W.seq ?_
  refine W.reg (σ' := ⟨[(1, .v Q0 v3), (2, .v (Enc.sl Q0) a2), (7, .ptr 105 0), (8, .v Q0 s12.1), (32, .v Enc.bool (cm .lss s12.1 v3))], [(105, .box 56 [.v Q2 s12.2, .v (Enc.pr Q0 Q0) (v2, (0 : Int)), .ref 104, .ref 103, .v Enc.bool true]), (104, .arr 64 (Enc.pr Enc.bool (Enc.sl (Enc.int .u8))) ([] : (List (Bool × (List Int))))), (103, .arr 3 Q0 ([] : (List Int)))]⟩) (J.mv rfl (J.mv rfl (J.k (JO.cmp rfl rfl rfl) (J.fin (Sw.Sub.mk id (.c rfl (.c rfl (.c rfl (.c rfl (.c rfl .nil))))) (.box rfl (.c rfl (.c rfl (.c rfl (.c rfl (.c rfl .nil))))) (.arr rfl (.arr rfl .nil))) rfl))))) ?_
  rcases Bool.eq_false_or_eq_true (cm .lss s12.1 v3) with hc18 | hc18
  ·replace h := cond_t hc18 h
   refine W.condT rfl hc18 ?_
   refine W.skip ?_
   refine W.seq ?_
   refine W.block ?_
   refine W.seq ?_
   obtain ⟨v19, hv19, h⟩ := bind_e h
   refine W.reg (σ' := ⟨[(1, .v Q0 v3), (2, .v (Enc.sl Q0) a2), (7, .ptr 105 0), (8, .v Q0 s12.1), (9, .ptr 113 0), (10, .v (Enc.err ET) v19.2)], [(105, .box 56 [.v Q2 s12.2, .v (Enc.pr Q0 Q0) (v2, (0 : Int)), .ref 104, .ref 103, .v Enc.bool true]), (113, .box 51 [.v Q0 v19.1.1, .v Q0 v19.1.2.1, .v (Enc.sl Q1) v19.1.2.2]), (104, .arr 64 (Enc.pr Enc.bool (Enc.sl (Enc.int .u8))) ([] : (List (Bool × (List Int))))), (103, .arr 3 Q0 ([] : (List Int)))]⟩) (J.mv rfl (J.k (JO.nilPtr rfl) (J.k (JO.fieldPtr 0 rfl Try.runUnderlying56 rfl Try.sizeOf51 rfl rfl) (J.k (JO.load rfl rfl rfl Try.isAgg51 Try.sizeOf51) (J.mv rfl (J.k (JO.div (.inr rfl) (by decide) rfl rfl) (J.k (JO.arith rfl rfl rfl) (J.mv rfl (J.k (JO.lit (e := Q0) Try.runUnderlying22 Try.sizeOf3 Try.zeroValue3 rfl rfl rfl rfl (.cons (.dir rfl) .nil)) (J.k (JO.build built60 (.cons (Z.int .i64) (.cons (Z.sl Q0) (.cons (Z.sl eBlk) .nil))) (.cons rfl (.dir rfl) rfl rfl rfl rfl (.cons rfl (.dir rfl) rfl rfl rfl rfl .nil))) (J.k (JO.call0 (con_link_Offer hv19) Try.call18 (.cons (.dir rfl) (.cons (.agg rfl (.same (.same (.same .nil))) (.prm (.one _ _) (.prm (.one _ _) (.one _ _))) rfl) .nil))) (J.mv rfl (J.k (JO.extract rfl rfl) (J.k (JO.extract rfl rfl) (J.k (JO.alloc 113 Try.zeroValue51 rfl (.cons (Z.int .i64) (.cons (Z.int .i64) (.cons (Z.sl Q1) .nil))) rfl) (J.t (JM.storeAll rfl rfl rfl rfl (.prm (.one _ _) (.prm (.one _ _) (.one _ _))) Try.sizeOf51) (J.k (JO.assign rfl) (J.fin (Sw.Sub.mk id (.c rfl (.c rfl (.c rfl (.c rfl (.c rfl (.c rfl .nil)))))) (.box rfl (.c rfl (.c rfl (.c rfl (.c rfl (.c rfl .nil))))) (.box rfl (.c rfl (.c rfl (.c rfl .nil))) (.arr rfl (.arr rfl .nil)))) rfl))))))))))))))))))) ?_
   refine W.seq ?_
   refine W.seq ?_
   refine W.reg (σ' := ⟨[(1, .v Q0 v3), (2, .v (Enc.sl Q0) a2), (7, .ptr 105 0), (8, .v Q0 s12.1), (9, .ptr 113 0), (50, .v Enc.bool (Option.isSome v19.2))], [(105, .box 56 [.v Q2 s12.2, .v (Enc.pr Q0 Q0) (v2, (0 : Int)), .ref 104, .ref 103, .v Enc.bool true]), (113, .box 51 [.v Q0 v19.1.1, .v Q0 v19.1.2.1, .v (Enc.sl Q1) v19.1.2.2]), (104, .arr 64 (Enc.pr Enc.bool (Enc.sl (Enc.int .u8))) ([] : (List (Bool × (List Int))))), (103, .arr 3 Q0 ([] : (List Int)))]⟩) (J.mv rfl (J.k (JO.errNe Try.runUnderlying34 rfl) (J.fin (Sw.Sub.mk id (.c rfl (.c rfl (.c rfl (.c rfl (.c rfl (.c rfl .nil)))))) (.box rfl (.c rfl (.c rfl (.c rfl (.c rfl (.c rfl .nil))))) (.box rfl (.c rfl (.c rfl (.c rfl .nil))) (.arr rfl (.arr rfl .nil)))) rfl)))) ?_
   rcases Bool.eq_false_or_eq_true (Option.isSome v19.2) with hc20 | hc20
   ·replace h := cond_t hc20 h
    refine W.condT rfl hc20 ?_
    refine W.seq ?_
    refine W.reg (σ' := ⟨[(6, .v Enc.bool false)], []⟩) (J.k (JO.assign rfl) (J.fin (Sw.Sub.mk id (.c rfl .nil) .nil rfl))) ?_
    refine W.ret ?_
    refine XQ.ret ?_
    obtain rfl := Option.some.inj h
    refine XQ.lret fun ho => ?_
    obtain rfl := hr16 _ ho
    exact XQ.sub (σ' := ⟨[(6, .v Enc.bool false)], []⟩) (Sw.Sub.mk id (.c rfl .nil) .nil rfl) (XQ.ret1 hF noR rfl (RV.tmp rfl) .nil rfl)
   ·replace h := cond_f hc20 h
    refine W.condF rfl hc20 ?_
    refine W.skip ?_
    refine W.reg (σ' := ⟨[(1, .v Q0 v3), (2, .v (Enc.sl Q0) a2), (7, .ptr 105 0), (8, .v Q0 s12.1)], [(105, .box 56 [.v Q2 v19.1, .v (Enc.pr Q0 Q0) (v2, (0 : Int)), .ref 104, .ref 103, .v Enc.bool true]), (104, .arr 64 (Enc.pr Enc.bool (Enc.sl (Enc.int .u8))) ([] : (List (Bool × (List Int))))), (103, .arr 3 Q0 ([] : (List Int)))]⟩) (J.mv rfl (J.k (JO.loadAll rfl rfl (.prm (.one _ _) (.prm (.one _ _) (.one _ _))) Try.isAgg51 Try.sizeOf51) (J.k (JO.nilPtr rfl) (J.k (JO.fieldPtr 0 rfl Try.runUnderlying56 rfl Try.sizeOf51 rfl rfl) (J.t (JM.store rfl rfl rfl rfl rfl rfl rfl Try.sizeOf51) (J.fin (Sw.Sub.mk id (.c rfl (.c rfl (.c rfl (.c rfl .nil)))) (.box rfl (.c rfl (.c rfl (.c rfl (.c rfl (.c rfl .nil))))) (.arr rfl (.arr rfl .nil))) rfl))))))) ?_
    refine W.fall ?_
    refine W.reg (σ' := ⟨[(1, .v Q0 v3), (2, .v (Enc.sl Q0) a2), (7, .ptr 105 0), (8, .v Q0 (ar .add .i64 s12.1 (1 : Int)))], [(105, .box 56 [.v Q2 v19.1, .v (Enc.pr Q0 Q0) (v2, (0 : Int)), .ref 104, .ref 103, .v Enc.bool true]), (104, .arr 64 (Enc.pr Enc.bool (Enc.sl (Enc.int .u8))) ([] : (List (Bool × (List Int))))), (103, .arr 3 Q0 ([] : (List Int)))]⟩) (J.mv rfl (J.k (JO.arith rfl rfl rfl) (J.k (JO.assign rfl) (J.fin (Sw.Sub.mk id (.c rfl (.c rfl (.c rfl (.c rfl .nil)))) (.box rfl (.c rfl (.c rfl (.c rfl (.c rfl (.c rfl .nil))))) (.arr rfl (.arr rfl .nil))) rfl))))) ?_
    obtain rfl := Option.some.inj h
    exact W.next (Sw.Sub.mk id (.c rfl (.c rfl (.c rfl (.c rfl .nil)))) (.box rfl (.c rfl (.c rfl (.c rfl (.c rfl (.c rfl .nil))))) (.arr rfl (.arr rfl .nil))) rfl)
  ·replace h := cond_f hc18 h
   refine W.condF rfl hc18 ?_
   refine W.exit ?_
   obtain rfl := Option.some.inj h
   exact XQ.brk (Sw.Sub.mk id (.c rfl (.c rfl (.c rfl .nil))) (.box rfl (.c rfl (.c rfl (.c rfl (.c rfl (.c rfl .nil))))) (.arr rfl (.arr rfl .nil))) rfl)
end Go.Cn
