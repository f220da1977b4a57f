/- The functions come to what their models come to. Conditions: none. -/
import Derived.Test.YthpkohijooimbaaGreatDoorMIConsoleSays
import Derived.WalkKit
import Derived.LaidEql
import Derived.Stop.Asserts
import Derived.RowKitTokens
set_option linter.unusedVariables false
set_option linter.unusedSimpArgs false
set_option linter.unusedSectionVars false
namespace Go.Cn
open Go Go.Sw Go.Mo Go.Proofs Go.Proofs.Tryz
section
set_option maxHeartbeats 4000000
set_option maxRecDepth 100000
variable {gobj:List Obj} [GO gobj]
instance L9 {a0 B3}:F6 (aR a0 B3) prog 216 [.ref 9000,.G0 217 [.B8 dX B3]] (λA=>[(9000,.arr 258 vF a0)]) (λr=>(.ref 0)) (λA r=>[(0,.arr 258 vF r)]):=
 sD [0,4,9038,9041] func216 42 rfl λA r S w R hF=>by
  unfold aR;refine gr ?_;intro v1 H9 L0;refine GW.lp (λF5=>⟨[(0,.ref 9000),(1,.G0 217 [.B8 dX B3]),(5,aP F5.1),(6,aP F5.2.1)],[(9000,.arr 258 vF F5.2.2)]⟩) (λY0=>⟨[(0,.ref 9000),(5,aP Y0.1)],[(9000,.arr 258 vF Y0.2)]⟩) sb (λ_ _ _ _=>gw) λY0=>?_;refine gr ?_;refine GJ.bf λv28 bA4=>?_;refine GJ.ox (Ji bA4 rfl rfl rfl UT sizeOf258) ?_;refine GJ.mx (Yg (zv:=(0,[])) bA4 rfl rfl UT VF (Z.pr zI (Z.sl iV))) ?_;refine gj ?_;refine GJ.bf λij aKv=>?_;refine GJ.mx (RF 41 aKv rfl rfl rfl UT sizeOf258 rfl rfl) ?_;exact gw
instance aOn {a0 a1 a2}:MC (nT a0 a1 a2) prog 185 [Ft a0,aP a1,aP a2] (λr=>(.q9 [Ft r.1,iW r.2])) (λr=>[]):=
 mc [9031] func185 39 rfl λr S w hF=>by
  unfold nT;refine gr ?_;intro v1 H9 L0 x4 cw v7 hv7;refine GJ.bf λv8 hv8=>?_;refine GJ.fb 5 ?_;refine GJ.mx (tK [27301] (Sz [(9000,27301),(0,31300)]) (mH _) (λA=>F6.E0 A hv8) call216 (λA=>(.arr .nil rfl))) ?_;refine gj ?_;exact GW.jn (λP0=>⟨[(3,.ptr 3 0),(6,.ptr 6 0)],[(3,b6q v7.1 27300 31300 P0),(6,VH 0 [] [] false),(27300,.arr 99 iV v7.2.1),(31300,.arr 258 vF v8)]⟩) rfl (λ_=>gw) _ _ (λ_ _=>gw) λ_ _=>gw
instance qw {a1 b0 b1 b2 b3 b4 b5 b6 b7 b8 b9 l9 o6 l8 j9 l7 l6 o7 l5 p5 p4 p7 p6}:F6 (bI a1 b0 b1 b2 b3 b4 b5 b6 b7 b8 b9 l9 o6 l8 j9 l7 l6 o7 l5 p5 p4 p7 p6) prog 136 [.ptr 9000 0,tZ a1] (λA=>(Dq A b0 b1 b2 b3 b5 b7 b8 b9 l9 l8 j9 l7 l6 o7 p5 p4 p7 p6 b4 b6 o6 l5)) (λr=>(iW r.1)) (λA r=>(Nr A b0 b1 b2 b3 r.2.1 r.2.2.1 r.2.2.2.1 r.2.2.2.2.1 r.2.2.2.2.2.1 l8 j9 l7 l6 o7 p5 p4 p7 p6 b4 b6 r.2.2.2.2.2.2 l5)):=
 sD [1071,9094,9144,9155,9156,9159,9160,9178,9202,39077] func136 212 rfl λA r S w R hF=>by
  unfold bI;refine gr ?_;intro v1 H9 x6;refine GW.cf rfl (λwq=>?_) λwq=>?_
  ·refine gr ?_;intro z12 bXh z13 bAr;refine GW.jn (λx30=>⟨[(0,.ptr 9000 0)],(l6q 9000 9100 9050 9051 5002 9200 9053 A b0 b1 b2 b3 b5 x30.1 x30.2.1 x30.2.2.1 x30.2.2.2.1 l8 j9 l7 l6 o7 p5 p4 b4 b6 x30.2.2.2.2 p7 p6 l5)⟩) rfl (λ_=>gw) _ _ (λk29 aRi=>?_) λ_ _=>gw;refine gr ?_;refine GJ.mx (nO 5003 3 dX rfl rfl rfl rfl OY rfl) ?_;refine gj ?_;intro z31 bAn;refine GP.ox (zH rfl rfl rfl Xd U3 (C7.int U3) rfl Z75 (λS w=>⟨_,(Z.sl aK) S w,rfl⟩)) ?_;refine gp ?_;intro x36;exact GW.jn (λx43:Int=>⟨[(0,.ptr 9000 0),(5,.ptr 9000 1),(6,.ptr 6 0)],(l9q 9000 9100 9050 9051 5003 9200 9053 6 A b0 b1 b2 b3 b5 (ar .or .i64 (sh .shl .i64 z12 12) z13) ((ar .or .i64 (sh .shl .i64 z12 12) z13),0,[]) x43 l9 l8 j9 l7 l6 o7 v1.1.1 v1.1.2.1 v1.1.2.2 p5 p4 b4 b6 [] p7 p6 l5)⟩) rfl (λ_=>gw) _ _ (λ_ _=>gw) λ_ _=>gw
  refine gr ?_;intro bM1 v46 aVq cAp;refine GP.ox (xH (off:=12) (o1:=2) rfl rfl rfl rfl (.snd (.snd .here)) isAgg141 UP) ?_;refine gp ?_;refine GJ.bf λv48 aQx=>?_;refine GJ.ox (RD aQx rfl rfl rfl Iu S3) ?_;refine GJ.ox (FI aQx rfl rfl Iu) ?_;refine gj ?_;refine GW.lp (λs55=>⟨[(0,.ptr 9000 0),(5,.ptr 9000 1),(11,.ptr 11 0),(13,aP (ar .sub .i64 (b8.2.2.length:Int) (v46.1.2.2.length:Int))),(155,.sub 9052 (Int.toNat 0*1) (Int.toNat (ar .sub .i64 (b8.2.2.length:Int) (v46.1.2.2.length:Int)) - Int.toNat 0)),(156,aP (v48.length:Int)),(157,aP s55.1)],[(9000,Jv b0 9100 b1 b2 b3 9050 b5 9051 b7 b8 b9 s55.2 9052 9200 l8 j9 l7 l6 o7 9053 (some (A 9000))),(11,b9q v46.1.1 v46.1.2.1 v46.1.2.2),(9052,.arr 3 dX o6),(9100,kZ p5 p4 (some (A 9100))),(9050,.arr 65 aK b4),(9051,.mp dX tY b6),(9200,kZ p7 p6 (some (A 9200))),(9053,.arr 196 pQ l5)]⟩) (λx59:Int=>⟨[(0,.ptr 9000 0),(5,.ptr 9000 1),(11,.ptr 11 0),(13,aP (ar .sub .i64 (b8.2.2.length:Int) (v46.1.2.2.length:Int)))],(l7q 9000 9100 9050 9051 9052 9200 9053 11 A b0 b1 b2 b3 b5 b7 b8 b9 x59 l8 j9 l7 l6 o7 v46.1.1 v46.1.2.1 v46.1.2.2 p5 p4 b4 b6 o6 p7 p6 l5)⟩) sb (λ_ bK7 s55 r58=>?_) λx59=>?_
  ·refine gr ?_;refine GW.cf rfl (λbM0=>?_) λ_=>gw;refine gr ?_;refine GJ.bf λz61 aVh=>?_;refine GJ.ox (FJ (e:=dX) aQx aVh rfl rfl rfl Iu S3) ?_;refine GJ.ox (Gj (RR aQx aVh) rfl rfl .here G3 S3) ?_;exact gw
  refine gr ?_;refine GP.bf λv63 bJ8=>?_;refine rD ⟨λk=>E9.bIy (.none rfl) 178 bJ8 rfl rfl rfl Iu S3 rfl rfl k⟩ ?_;refine gp ?_;refine GP.ox (xH (off:=6) (o1:=0) rfl rfl rfl rfl (.fst .here) G3 S3) ?_;exact gw
instance vk {a1 b0 b1 b2 b3 b4 b5 b6 b7 b8 b9 l9 o6 l8 j9 l7 l6 o7 l5 p5 p4 p7 p6}:F6 (cK a1 b0 b1 b2 b3 b4 b5 b6 b7 b8 b9 l9 o6 l8 j9 l7 l6 o7 l5 p5 p4 p7 p6) prog 105 [.ptr 9000 0,.v pQ a1] (λA=>(Dq A b0 b1 b2 b3 b5 b7 b8 b9 l9 l8 j9 l7 l6 o7 p5 p4 p7 p6 b4 b6 o6 l5)) (λr=>(iW r.1)) (λA r=>(Nr A b0 b1 b2 b3 r.2.1 r.2.2.1 r.2.2.2.1 r.2.2.2.2.1 r.2.2.2.2.2.1 l8 r.2.2.2.2.2.2.2.1 l7 r.2.2.2.2.2.2.2.2.1 r.2.2.2.2.2.2.2.2.2.1 p5 p4 r.2.2.2.2.2.2.2.2.2.2.2.1 r.2.2.2.2.2.2.2.2.2.2.2.2 b4 b6 r.2.2.2.2.2.2.1 r.2.2.2.2.2.2.2.2.2.2.1)):=
 sD [] func105 15 rfl λA r S w R hF=>by
  unfold cK;exact gw
instance qx {a1 b0 b1 b2 b3 b4 b5 b6 b7 b8 b9 l9 o6 l8 j9 l7 l6 o7 l5 p5 p4 p7 p6}:F6 (bJ a1 b0 b1 b2 b3 b4 b5 b6 b7 b8 b9 l9 o6 l8 j9 l7 l6 o7 l5 p5 p4 p7 p6) prog 74 [.ptr 9000 0,aP a1] (λA=>(Dq A b0 b1 b2 b3 b5 b7 b8 b9 l9 l8 j9 l7 l6 o7 p5 p4 p7 p6 b4 b6 o6 l5)) (λr=>(iW r.1)) (λA r=>(Nr A b0 b1 b2 b3 r.2.1 r.2.2.1 r.2.2.2.1 r.2.2.2.2.1 r.2.2.2.2.2.1 l8 r.2.2.2.2.2.2.2.1 l7 r.2.2.2.2.2.2.2.2.1 r.2.2.2.2.2.2.2.2.2.1 p5 p4 r.2.2.2.2.2.2.2.2.2.2.2.1 r.2.2.2.2.2.2.2.2.2.2.2.2 b4 b6 r.2.2.2.2.2.2.1 r.2.2.2.2.2.2.2.2.2.2.1)):=
 sD [] func74 38 rfl λA r S w R hF=>by
  unfold bJ;exact gw
instance aw {a1 b0 b1 b2 b3 b4 b5 b6 b7 b8 b9 l9 o6 l8 j9 l7 l6 o7 l5 p5 p4 p7 p6}:F6 (mP a1 b0 b1 b2 b3 b4 b5 b6 b7 b8 b9 l9 o6 l8 j9 l7 l6 o7 l5 p5 p4 p7 p6) prog 165 [.ptr 9000 0,Ai a1] (λA=>(Dq A b0 b1 b2 b3 b5 b7 b8 b9 l9 l8 j9 l7 l6 o7 p5 p4 p7 p6 b4 b6 o6 l5)) (λr=>(.q9 [sJ r.1,iW r.2.1])) (λA r=>(PJ A r.2.2)):=
 sD [] func165 11 rfl λA r S w R hF=>by
  unfold mP;exact gw
instance vj {a1 b0 b1 b2 b3 b4 b5 b6 b7 b8 b9 l9 o6 l8 j9 l7 l6 o7 l5 p5 p4 p7 p6}:F6 (eQ a1 b0 b1 b2 b3 b4 b5 b6 b7 b8 b9 l9 o6 l8 j9 l7 l6 o7 l5 p5 p4 p7 p6) prog 167 [.ptr 9000 0,aP a1] (λA=>(Dq A b0 b1 b2 b3 b5 b7 b8 b9 l9 l8 j9 l7 l6 o7 p5 p4 p7 p6 b4 b6 o6 l5)) (λr=>(iW r.1)) (λA r=>(Nr A b0 b1 b2 b3 b5 b7 b8 b9 l9 l8 j9 l7 l6 o7 p5 p4 p7 p6 b4 b6 o6 r.2)):=
 sD [] func167 26 rfl λA r S w R hF=>by
  unfold eQ;refine gr ?_;intro v1 H9;exact GW.jn (λx7=>⟨[(0,.ptr 9000 0)],(f9q A b0 b1 b2 b3 b5 b7 b8 b9 l9 l8 j9 l7 l6 o7 p5 p4 b4 b6 o6 p7 p6 x7)⟩) rfl (λ_=>gw) _ _ (λ_ _=>gw) λ_ _=>gw
instance au {a1 b0 b1 b2 b3 b4 b5 b6 b7 b8 b9 l9 o6 l8 j9 l7 l6 o7 l5 p5 p4 p7 p6}:F6 (mQ a1 b0 b1 b2 b3 b4 b5 b6 b7 b8 b9 l9 o6 l8 j9 l7 l6 o7 l5 p5 p4 p7 p6) prog 166 [.ptr 9000 0,Ai a1] (λA=>(Dq A b0 b1 b2 b3 b5 b7 b8 b9 l9 l8 j9 l7 l6 o7 p5 p4 p7 p6 b4 b6 o6 l5)) (λr=>(.q9 [sJ r.1,iW r.2.1])) (λA r=>(PJ A r.2.2)):=
 sD [] func166 11 rfl λA r S w R hF=>by
  unfold mQ;exact gw
instance sj {a1 b0 b1 b2 b3 b4 b5 b6 b7 b8 b9 l9 o6 l8 j9 l7 l6 o7 l5 p5 p4 p7 p6}:F6 (cZ a1 b0 b1 b2 b3 b4 b5 b6 b7 b8 b9 l9 o6 l8 j9 l7 l6 o7 l5 p5 p4 p7 p6) prog 169 [.ptr 9000 0,aP a1] (λA=>(Dq A b0 b1 b2 b3 b5 b7 b8 b9 l9 l8 j9 l7 l6 o7 p5 p4 p7 p6 b4 b6 o6 l5)) (λr=>(iW r.1)) (λA r=>(Nr A b0 b1 b2 b3 b5 b7 b8 b9 l9 l8 j9 l7 l6 o7 p5 p4 p7 p6 b4 b6 o6 r.2)):=
 sD [] func169 38 rfl λA r S w R hF=>by
  unfold cZ;refine gr ?_;intro v1 H9 x3;exact GW.jn (λP0=>⟨[(0,.ptr 9000 0)],(f9q A b0 b1 b2 b3 b5 b7 b8 b9 l9 l8 j9 l7 l6 o7 p5 p4 b4 b6 o6 p7 p6 P0)⟩) rfl (λ_=>gw) _ _ (λ_ _=>gw) λ_ _=>gw
instance aq {a1 b0 b1 b2 b3 b4 b5 b6 b7 b8 b9 l9 o6 l8 j9 l7 l6 o7 l5 p5 p4 p7 p6}:F6 (mR a1 b0 b1 b2 b3 b4 b5 b6 b7 b8 b9 l9 o6 l8 j9 l7 l6 o7 l5 p5 p4 p7 p6) prog 168 [.ptr 9000 0,Ai a1] (λA=>(Dq A b0 b1 b2 b3 b5 b7 b8 b9 l9 l8 j9 l7 l6 o7 p5 p4 p7 p6 b4 b6 o6 l5)) (λr=>(.q9 [sJ r.1,iW r.2.1])) (λA r=>(PJ A r.2.2)):=
 sD [] func168 11 rfl λA r S w R hF=>by
  unfold mR;exact gw
instance yw {a0}:MC (jA a0) prog 204 [.B8 Dl a0] (λr=>(.agg [.ref 0,.ref 1,aP r.2.2])) (λr=>[(0,.arr 65 aK r.1),(1,.arr 99 iV r.2.1)]):=
 mc [] func204 21 rfl λr S w hF=>by
  unfold jA;exact gw
def Hn(r:(Option (Int×Q3))×(Option Int)):Slot:=match r.1 with | none=> .q9 [AK none,iW r.2] | some z=> .q9 [.ptr 0 0,iW r.2]
def Ho(r:(Option (Int×Q3))×(Option Int)):List (Nat×j2):=match r.1 with | none=>[] | some z=>[(0,kZ z.1 z.2)]
instance aLl {a0 a1}:MC (Bc a0 a1) prog 171 [.B8 Dl a0,aP a1] (λr=>(Hn r)) (λr=>(Ho r)):=
 mc [9009,29004] func171 12 rfl λr S w hF=>by
  unfold Bc;refine gr ?_;refine GJ.ox (iF Dl) ?_;refine gj ?_;intro v1 H9;refine GJ.bf λv2 M8=>?_;refine GJ.fl 7300 ?_;refine GJ.fl 7301 ?_;refine GJ.oc (λhz3=>?_) λz3 hz3=>?_
  ·refine GJ.ox (cQ (uL hz3 M8) HW args) ?_;exact gw
  refine GJ.ox (pK 9300 (uM hz3 M8) HW args rfl) ?_;exact gw
def pI(r:(Option (Int×Q3))×(Option Int)×Int×Q3):Slot:=match r.1 with | none=> .q9 [AK none,iW r.2.1] | some z=> .q9 [.ptr 0 0,iW r.2.1]
def pJ(A:Nat->Nat)(q7:Int)(w7:Q3)(u:Int)(r:(Option (Int×Q3))×(Option Int)×Int×Q3):List (Nat×j2):=match r.1 with | none=>[(9000,kZ r.2.2.1 r.2.2.2 (some (A 9000)))] | some z=>[(0,kZ z.1 z.2),(9000,kZ r.2.2.1 r.2.2.2 (some (A 9000)))]
instance zx {q7 w7 a1}:F6 (gF q7 w7 a1) prog 171 [.ptr 9000 0,aP a1] (λA=>[(9000,kZ q7 w7 (some (A 9000)))]) (λr=>(pI r)) (λA r=>(pJ A q7 w7 a1 r)):=
 sD [9009,29004] func171 12 rfl λA r S w R hF=>by
  unfold gF;refine gr ?_;refine GJ.ox (iF Dl) ?_;refine gj ?_;intro v1 H9;refine GJ.bf λv2 M8=>?_;refine GJ.fl 7300 ?_;refine GJ.fl 7301 ?_;refine GJ.oc (λhz3=>?_) λz3 hz3=>?_
  ·refine GJ.ox (cQ (uL hz3 M8) HW args) ?_;exact gw
  refine GJ.ox (pK 9300 (uM hz3 M8) HW args rfl) ?_;exact gw
theorem uA(A:Nat->Nat){q7:Int}{w7:Q3}{u:Int}{r:(Option (Int×Q3))×(Option Int)×Int×Q3}(hz:r.1=none)(h:gF q7 w7 u=some r):A3 prog 171 [.ptr 9000 0,aP u] [(9000,kZ q7 w7 (some (A 9000)))] (.q9 [AK none,iW r.2.1]) [(9000,kZ r.2.2.1 r.2.2.2 (some (A 9000)))]:=by
 have:=F6.E0 A h;unfold pI pJ at this;rw[hz] at this;exact this
theorem uB(A:Nat->Nat){q7:Int}{w7:Q3}{u:Int}{r:(Option (Int×Q3))×(Option Int)×Int×Q3}{z:(Int×Q3)}(hz:r.1=some z)(h:gF q7 w7 u=some r):A3 prog 171 [.ptr 9000 0,aP u] [(9000,kZ q7 w7 (some (A 9000)))] (.q9 [.ptr 0 0,iW r.2.1]) [(0,kZ z.1 z.2),(9000,kZ r.2.2.1 r.2.2.2 (some (A 9000)))]:=by
 have:=F6.E0 A h;unfold pI pJ at this;rw[hz] at this;exact this
instance sk {b0 b1 b2 b3 b4 b5 b6 b7 b8 b9 l9 o6 l8 j9 l7 l6 o7 l5 p5 p4 p7 p6}:F6 (gX b0 b1 b2 b3 b4 b5 b6 b7 b8 b9 l9 o6 l8 j9 l7 l6 o7 l5 p5 p4 p7 p6) prog 155 [.ptr 9000 1,.ptr 9200 0] (λA=>[(9000,.box 153 [aP b0,.v (Fu.H2 (.pointer none) rfl) (),aP b1,aP b2,aP b3,.ref 9050,Ft b5,.ref 9051,aP b7,Iw b8,aP b9,aP l9,.ref 9052,.ptr 9100 0,aP l8,aP j9,aP l7,aP l6,AL o7,.ref 9053] (some (A 9000))),(9100,kZ p5 p4 (some (A 9100))),(9200,kZ p7 p6 (some (A 9200))),(9050,.arr 65 aK b4),(9051,.mp dX tY b6),(9052,.arr 3 dX o6),(9053,.arr 196 pQ l5)]) (λr=>(iW r.1)) (λA r=>(l4q 9000 9200 400 401 402 9100 403 A b0 b1 r.2.1 r.2.2.1 b5 b7 b8 b9 l9 l8 j9 l7 l6 o7 r.2.2.2.1 r.2.2.2.2 p5 p4 b4 b6 o6 l5)):=
 sD [7009039] func155 40 rfl λA r S w R hF=>by
  unfold gX;exact gw
instance mq {b0 b1 b2 b3 b4 b5 b6 b7 b8 b9 l9 o6 l8 j9 l7 l6 o7 l5 p5 p4 p7 p6 b22 b23}:F6 (eT b0 b1 b2 b3 b4 b5 b6 b7 b8 b9 l9 o6 l8 j9 l7 l6 o7 l5 p5 p4 p7 p6 b22 b23) prog 131 [.ptr 9000 0,.ptr 9300 0] (λA=>(aDy A b0 b1 b2 b3 b5 b7 b8 b9 l9 l8 j9 l7 l6 o7 p5 p4 p7 p6 b22 b23 b4 b6 o6 l5)) (λr=>(iW r.1)) (λA r=>(l4q 9000 9300 400 401 402 9200 403 A b0 r.2.1 r.2.2.1 r.2.2.2.1 r.2.2.2.2.2.1 r.2.2.2.2.2.2.2.1 r.2.2.2.2.2.2.2.2.1 r.2.2.2.2.2.2.2.2.2.1 r.2.2.2.2.2.2.2.2.2.2.1 l8 j9 l7 l6 o7 r.2.2.2.2.2.2.2.2.2.2.2.2.1 r.2.2.2.2.2.2.2.2.2.2.2.2.2 p7 p6 r.2.2.2.2.1 r.2.2.2.2.2.2.1 r.2.2.2.2.2.2.2.2.2.2.2.1 l5)):=
 sD [1044,9015,19017] func131 53 rfl λA r S w R hF=>by
  unfold eT;refine gr ?_;refine GJ.ox (dR (new:=[(100150,.arr 65 aK []),(15,.arr 3 dX [])]) Xi (.cons (Z.H2 (u:=(.pointer none)) rfl) (.cons zI (.cons zI (.cons zI (.ref 100150 rfl (.cons (Z.pr zI (Z.pr (Z.sl iV) (Z.pr (Z.sl vF) Z.bool))) (.cons (Z.mpF dX tY) (.cons zI (.cons (Z.pr zI (Z.pr zI (Z.sl Fs))) (.cons zI (.cons zI (.ref 15 rfl .nil)))))))))))) (.cons (.cons .nil)) rfl (.agg 0 4 rfl rfl rfl rfl rfl rfl (.cons rfl (.dir rfl) rfl rfl rfl rfl (.cons rfl (.dir rfl) rfl rfl rfl rfl .nil)))) ?_;refine gj ?_;refine GJ.mx (uX 1 12 rfl rfl rfl rfl rfl rfl rfl UQ) ?_;exact gw
instance al {a1 b0 b1 b2 b3 b4 b5 b6 b7 b8 b9 l9 o6 l8 j9 l7 l6 o7 l5 p5 p4 p7 p6}:F6 (jY a1 b0 b1 b2 b3 b4 b5 b6 b7 b8 b9 l9 o6 l8 j9 l7 l6 o7 l5 p5 p4 p7 p6) prog 170 [.ptr 9000 0,Ai a1] (λA=>(Dq A b0 b1 b2 b3 b5 b7 b8 b9 l9 l8 j9 l7 l6 o7 p5 p4 p7 p6 b4 b6 o6 l5)) (λr=>(.q9 [sJ r.1,iW r.2.1])) (λA r=>(PJ A r.2.2)):=
 sD [9019] func170 29 rfl λA r S w R hF=>by
  unfold jY;refine gr ?_;refine GP.bf λv1 H9=>?_;refine GP.oc (λed=>?_) λz2 ed=>?_
  ·refine rD ⟨λk=>E9.M0 (.none rfl) (H:=[9100]) (K:=[9100]) (Sz [(9000,9100)]) (mH _) (λA=>uA A ed H9) UL (.cons (.dir rfl) (.cons (.dir rfl) .nil)) (λA=>(.box rfl .nil)) (λA=>(.box rfl .nil rfl)) (λ_=>rfl) rfl rfl (λ_=>rfl) rfl rfl k⟩ ?_;refine gp ?_;refine GW.jn (λx5:Unit=>⟨[(0,.ptr 9000 0),(4,.ptr 4 0),(7,iW v1.2.1)],[(9000,Jv b0 9100 b1 b2 b3 9050 b5 9051 b7 b8 b9 l9 9052 9200 l8 j9 l7 l6 o7 9053 (some (A 9000))),(4,.box 65 [sJ aE]),(9100,kZ v1.2.2.1 v1.2.2.2 (some (A 9100))),(9050,.arr 65 aK b4),(9051,.mp dX tY b6),(9052,.arr 3 dX o6),(9200,kZ p7 p6 (some (A 9200))),(9053,.arr 196 pQ l5)]⟩) rfl (λ_=>gw) _ _ (λk4 sf=>?_) λ_ _=>gw;exact⟨λ_ h=>by cases h⟩
  refine rD ⟨λk=>E9.M0 (.none rfl) (H:=[9100]) (K:=[9100]) (Sz [(9000,9100),(0,19300)]) (mH _) (λA=>uB A ed H9) UL (.cons (.dir rfl) (.cons (.dir rfl) .nil)) (λA=>(.box rfl .nil)) (λA=>(.Z0 (.box rfl .nil rfl) rfl)) (λ_=>rfl) rfl rfl (λ_=>rfl) rfl rfl k⟩ ?_;refine gp ?_;exact GW.jn (λx9=>⟨[(0,.ptr 9000 0),(4,.ptr 4 0),(7,iW x9.1)],[(9000,Jv b0 5001 x9.2.1 x9.2.2.1 x9.2.2.2.1 5002 x9.2.2.2.2.1 5003 x9.2.2.2.2.2.1 x9.2.2.2.2.2.2.1 x9.2.2.2.2.2.2.2.1 x9.2.2.2.2.2.2.2.2.1 5004 9200 l8 j9 l7 l6 o7 5005 (some (A 9000))),(4,.box 65 [sJ aE]),(5001,kZ x9.2.2.2.2.2.2.2.2.2.1 x9.2.2.2.2.2.2.2.2.2.2.1),(5002,.arr 65 aK x9.2.2.2.2.2.2.2.2.2.2.2.1),(5003,.mp dX tY x9.2.2.2.2.2.2.2.2.2.2.2.2.1),(5004,.arr 3 dX x9.2.2.2.2.2.2.2.2.2.2.2.2.2),(9200,kZ p7 p6 (some (A 9200))),(5005,.arr 196 pQ l5)]⟩) rfl (λ_=>gw) _ _ (λ_ _=>gw) λ_ _=>gw
instance mo {b0 b1 b2 b3 b4 b5 b6 b7 b8 b9 l9 o6 l8 j9 l7 l6 o7 l5 p5 p4 p7 p6 b22 b23}:F6 (eU b0 b1 b2 b3 b4 b5 b6 b7 b8 b9 l9 o6 l8 j9 l7 l6 o7 l5 p5 p4 p7 p6 b22 b23) prog 132 [.ptr 9000 0,.ptr 9300 0] (λA=>(aDy A b0 b1 b2 b3 b5 b7 b8 b9 l9 l8 j9 l7 l6 o7 p5 p4 p7 p6 b22 b23 b4 b6 o6 l5)) (λr=>(iW r.1)) (λA r=>(l4q 9000 9100 400 401 402 9300 403 A b0 b1 b2 b3 b5 b7 b8 b9 l9 r.2.1 r.2.2.1 r.2.2.2.1 r.2.2.2.2.1 r.2.2.2.2.2.1 p5 p4 r.2.2.2.2.2.2.1 r.2.2.2.2.2.2.2 b4 b6 o6 l5)):=
 sD [9012,19014] func132 21 rfl λA r S w R hF=>by
  unfold eU;refine gr ?_;refine GJ.ox (dP Xj (.cons (Z.H2 (u:=(.pointer none)) rfl) (.cons zI (.cons zI (.cons zI (.cons zI (.cons (Z.pr zI zI) .nil)))))) (.agg 0 4 rfl rfl rfl rfl rfl rfl (.cons rfl (.dir rfl) rfl rfl rfl rfl (.cons rfl (.agg rfl (.same (.same .nil)) (.C8 (.one _ _) (.one _ _)) rfl) rfl rfl rfl rfl .nil)))) ?_;refine gj ?_;refine GJ.mx (uX 13 6 rfl rfl rfl rfl rfl rfl rfl UR) ?_;exact gw
instance Y8 {a1 b0 b1 b2 b3 b4 b5 b6 b7 b8 b9 l9 o6 l8 j9 l7 l6 o7 l5 p5 p4 p7 p6}:F6 (jN a1 b0 b1 b2 b3 b4 b5 b6 b7 b8 b9 l9 o6 l8 j9 l7 l6 o7 l5 p5 p4 p7 p6) prog 172 [.ptr 9000 0,Ai a1] (λA=>(Dq A b0 b1 b2 b3 b5 b7 b8 b9 l9 l8 j9 l7 l6 o7 p5 p4 p7 p6 b4 b6 o6 l5)) (λr=>(.q9 [sJ r.1,iW r.2.1])) (λA r=>(PJ A r.2.2)):=
 sD [9019] func172 29 rfl λA r S w R hF=>by
  unfold jN;refine gr ?_;refine GP.bf λv1 H9=>?_;refine GP.oc (λed=>?_) λz2 ed=>?_
  ·refine rD ⟨λk=>E9.M0 (.none rfl) (H:=[9200]) (K:=[9200]) (Sz [(9000,9200)]) (mH _) (λA=>uA A ed H9) UL (.cons (.dir rfl) (.cons (.dir rfl) .nil)) (λA=>(.box rfl .nil)) (λA=>(.box rfl .nil rfl)) (λ_=>rfl) rfl rfl (λ_=>rfl) rfl rfl k⟩ ?_;refine gp ?_;refine GW.jn (λx5:Unit=>⟨[(0,.ptr 9000 0),(4,.ptr 4 0),(7,iW v1.2.1)],[(9000,Jv b0 9100 b1 b2 b3 9050 b5 9051 b7 b8 b9 l9 9052 9200 l8 j9 l7 l6 o7 9053 (some (A 9000))),(4,.box 65 [sJ aE]),(9100,kZ p5 p4 (some (A 9100))),(9050,.arr 65 aK b4),(9051,.mp dX tY b6),(9052,.arr 3 dX o6),(9200,kZ v1.2.2.1 v1.2.2.2 (some (A 9200))),(9053,.arr 196 pQ l5)]⟩) rfl (λ_=>gw) _ _ (λk4 sf=>?_) λ_ _=>gw;exact⟨λ_ h=>by cases h⟩
  refine rD ⟨λk=>E9.M0 (.none rfl) (H:=[9200]) (K:=[9200]) (Sz [(9000,9200),(0,19300)]) (mH _) (λA=>uB A ed H9) UL (.cons (.dir rfl) (.cons (.dir rfl) .nil)) (λA=>(.box rfl .nil)) (λA=>(.Z0 (.box rfl .nil rfl) rfl)) (λ_=>rfl) rfl rfl (λ_=>rfl) rfl rfl k⟩ ?_;refine gp ?_;exact GW.jn (λx9=>⟨[(0,.ptr 9000 0),(4,.ptr 4 0),(7,iW x9.1)],[(9000,Jv b0 9100 b1 b2 b3 5001 b5 5002 b7 b8 b9 l9 5003 5004 x9.2.1 x9.2.2.1 x9.2.2.2.1 x9.2.2.2.2.1 x9.2.2.2.2.2.1 5005 (some (A 9000))),(4,.box 65 [sJ aE]),(9100,kZ p5 p4 (some (A 9100))),(5001,.arr 65 aK b4),(5002,.mp dX tY b6),(5003,.arr 3 dX o6),(5004,kZ x9.2.2.2.2.2.2.1 x9.2.2.2.2.2.2.2),(5005,.arr 196 pQ l5)]⟩) rfl (λ_=>gw) _ _ (λ_ _=>gw) λ_ _=>gw
instance N7 {a0}:MC (oM a0) prog 205 [.v (Fu.qh xX) a0] (λr=>(.ref 0)) (λr=>[(0,.arr 5 xX r)]):=
 mc [2,5] func205 8 rfl λr S w hF=>by
  unfold oM;exact gw
theorem wW{u:Q6}{r:Q6}(h:rP u=some r):O4 prog 205 [.v (Fu.sl (Fu.int .u8)) u] (.ref 0) [(0,.arr 5 (Fu.int .u8) r)]:=
 qN λb A=>N7.E0 (by cases b with | true=>rw[A rfl] at h ⊢;exact h | false=>exact Bu h)
instance oj {a0:Q6}:MC (rP a0) prog 205 [.v (Fu.sl (Fu.int .u8)) a0] (λr:Q6=>(.ref 0)) (λr:Q6=>[(0,.arr 5 (Fu.int .u8) r)]):=⟨λh=>wW h,call205⟩
instance Y7 {a1 b0 b1 b2 b3 b4 b5 b6 b7 b8 b9 l9 o6 l8 j9 l7 l6 o7 l5 p5 p4 p7 p6}:F6 (qE a1 b0 b1 b2 b3 b4 b5 b6 b7 b8 b9 l9 o6 l8 j9 l7 l6 o7 l5 p5 p4 p7 p6) prog 173 [.ptr 9000 0,Ai a1] (λA=>(Dq A b0 b1 b2 b3 b5 b7 b8 b9 l9 l8 j9 l7 l6 o7 p5 p4 p7 p6 b4 b6 o6 l5)) (λr=>(.q9 [sJ r.1,iW r.2.1])) (λA r=>(PJ A r.2.2)):=
 ⟨λ_ {_} h=>(by unfold qE at h;cases h),Yt func173 rfl (by kernel_rfl)⟩
theorem QA{i:Nat}{u:(Int×Int×Int×aD)}{b0:Int}{B:Int}{C:Int}{D:Int}{E:Q9}{F:(Int×Iv×(List (Int×Iv))×Bool)}{G:(List (Int×Q9))}{I:Int}{K:(Int×Int×(List (Int×Q6×Q9)))}{L:Int}{l9:Int}{o6:Q6}{l8:Int}{j9:Int}{l7:Int}{l6:Int}{o7:(Int×Int)}{l5:(List (Bool×Bool×Q6))}{p5:Int}{p4:Q3}{p7:Int}{p6:Q3}{r:aD×(Option Int)×Int×Int×Int×Int×Q9×(Int×Iv×(List (Int×Iv))×Bool)×(List (Int×Q9))×Int×(Int×Int×(List (Int×Q6×Q9)))×Int×Int×Q6×Int×Int×Int×Int×(Int×Int)×(List (Bool×Bool×Q6))×Int×Q3×Int×Q3}(h:wO i u b0 B C D E F G I K L l9 o6 l8 j9 l7 l6 o7 l5 p5 p4 p7 p6=some r):∃f,([157,159,160,162,164,165,166,168,170,172,173]:List Nat)[i]? =some f/\(∀args w,(callFunc f args).run prog w= .ok (.enter f args) w)/\∀A:Nat->Nat,A3 prog f [.ptr 9000 0,.v Q4 u] (PA0 9000 (some (A 9000)) 9100 (some (A 9100)) 9200 (some (A 9200)) 9050 9051 9052 9053 b0 B C D E F G I K L l9 o6 l8 j9 l7 l6 o7 l5 p5 p4 p7 p6) (.q9 [.v aK r.1,.v Q8 r.2.1]) (PT0 9000 (some (A 9000)) 301 none 302 none 400 401 402 403 r.2.2):=by
 match i,h with
 | 0,h=>exact⟨157,rfl,call157,λA=>bg.E0 A h⟩
 | 1,h=>exact⟨159,rfl,call159,λA=>bc.E0 A h⟩
 | 2,h=>exact⟨160,rfl,call160,λA=>az.E0 A h⟩
 | 3,h=>exact⟨162,rfl,call162,λA=>ay.E0 A h⟩
 | 4,h=>exact⟨164,rfl,call164,λA=>ax.E0 A h⟩
 | 5,h=>exact⟨165,rfl,call165,λA=>aw.E0 A h⟩
 | 6,h=>exact⟨166,rfl,call166,λA=>au.E0 A h⟩
 | 7,h=>exact⟨168,rfl,call168,λA=>aq.E0 A h⟩
 | 8,h=>exact⟨170,rfl,call170,λA=>al.E0 A h⟩
 | 9,h=>exact⟨172,rfl,call172,λA=>Y8.E0 A h⟩
 | 10,h=>exact⟨173,rfl,call173,λA=>Y7.E0 A h⟩
 |_+11,h=>cases h
instance vh {a1 b0 b1 b2 b3 b4 b5 b6 b7 b8 b9 l9 o6 l8 j9 l7 l6 o7 l5 p5 p4 p7 p6}:F6 (cL a1 b0 b1 b2 b3 b4 b5 b6 b7 b8 b9 l9 o6 l8 j9 l7 l6 o7 l5 p5 p4 p7 p6) prog 75 [.ptr 9000 0,.v Sx a1] (λA=>(Dq A b0 b1 b2 b3 b5 b7 b8 b9 l9 l8 j9 l7 l6 o7 p5 p4 p7 p6 b4 b6 o6 l5)) (λr=>(.q9 [.v Sx r.1,iW r.2])) (λA r=>(Nr A b0 b1 b2 b3 b5 b7 b8 b9 l9 l8 j9 l7 l6 o7 p5 p4 p7 p6 b4 b6 o6 l5)):=
 sD [] func75 42 rfl λA r S w R hF=>by
  unfold cL;exact gw
instance xw {gobj:List Obj} [GO gobj] {a1 b0 b1 b2 b3 b4 b5 b6 b7 b8 b9 l9 o6 l8 j9 l7 l6 o7 l5 p5 p4 p7 p6}:F6 (gD a1 b0 b1 b2 b3 b4 b5 b6 b7 b8 b9 l9 o6 l8 j9 l7 l6 o7 l5 p5 p4 p7 p6) prog 101 [.ptr 9000 0,Ai a1] (λA=>[(9000,Jv b0 9100 b1 b2 b3 9050 b5 9051 b7 b8 b9 l9 9052 9200 l8 j9 l7 l6 o7 9053 (some (A 9000))),(9100,kZ p5 p4 (some (A 9100))),(9200,kZ p7 p6 (some (A 9200))),(9050,.arr 65 aK b4),(9051,.mp dX tY b6),(9052,.arr 3 dX o6),(9053,.arr 196 pQ l5),(7777,.dp (aH GV) gobj [])]) (λr=>(.q9 [.v Sx r.1,iW r.2.1])) (λA r=>[(9000,Jv r.2.2.1 301 r.2.2.2.1 r.2.2.2.2.1 r.2.2.2.2.2.1 400 r.2.2.2.2.2.2.2.1 401 r.2.2.2.2.2.2.2.2.2.1 r.2.2.2.2.2.2.2.2.2.2.1 r.2.2.2.2.2.2.2.2.2.2.2.1 r.2.2.2.2.2.2.2.2.2.2.2.2.1 402 302 r.2.2.2.2.2.2.2.2.2.2.2.2.2.2.1 r.2.2.2.2.2.2.2.2.2.2.2.2.2.2.2.1 r.2.2.2.2.2.2.2.2.2.2.2.2.2.2.2.2.1 r.2.2.2.2.2.2.2.2.2.2.2.2.2.2.2.2.2.1 r.2.2.2.2.2.2.2.2.2.2.2.2.2.2.2.2.2.2.1 403 (some (A 9000))),(301,kZ r.2.2.2.2.2.2.2.2.2.2.2.2.2.2.2.2.2.2.2.2.1 r.2.2.2.2.2.2.2.2.2.2.2.2.2.2.2.2.2.2.2.2.2.1),(302,kZ r.2.2.2.2.2.2.2.2.2.2.2.2.2.2.2.2.2.2.2.2.2.2.1 r.2.2.2.2.2.2.2.2.2.2.2.2.2.2.2.2.2.2.2.2.2.2.2),(400,.arr 65 aK r.2.2.2.2.2.2.1),(401,.mp dX tY r.2.2.2.2.2.2.2.2.1),(402,.arr 3 dX r.2.2.2.2.2.2.2.2.2.2.2.2.2.1),(403,.arr 196 pQ r.2.2.2.2.2.2.2.2.2.2.2.2.2.2.2.2.2.2.2.1),(7777,.dp (aH GV) gobj [])]):=
 sD [9025,9033,9034,500005] func101 46 rfl λA r S w R hF=>by
  unfold gD;refine gr ?_;intro x2;refine GW.jn (λD8=>⟨[(0,.ptr 9000 0),(4,.ptr 4 0),(6,.ptr 6 0)],[(9000,Jv D8.1 5001 D8.2.1 D8.2.2.1 D8.2.2.2.1 5002 D8.2.2.2.2.1 5003 D8.2.2.2.2.2.1 D8.2.2.2.2.2.2.1 D8.2.2.2.2.2.2.2.1 D8.2.2.2.2.2.2.2.2.1 5004 5005 D8.2.2.2.2.2.2.2.2.2.1 D8.2.2.2.2.2.2.2.2.2.2.1 D8.2.2.2.2.2.2.2.2.2.2.2.1 D8.2.2.2.2.2.2.2.2.2.2.2.2.1 D8.2.2.2.2.2.2.2.2.2.2.2.2.2.1 5006 (some (A 9000))),(4,AI 0 aE 0 0 0 []),(6,AI D8.2.2.2.2.2.2.2.2.2.2.2.2.2.2.1 D8.2.2.2.2.2.2.2.2.2.2.2.2.2.2.2.1 0 0 0 []),(7777,.dp (aH GV) gobj []),(5001,kZ D8.2.2.2.2.2.2.2.2.2.2.2.2.2.2.2.2.1 D8.2.2.2.2.2.2.2.2.2.2.2.2.2.2.2.2.2.1),(5002,.arr 65 aK D8.2.2.2.2.2.2.2.2.2.2.2.2.2.2.2.2.2.2.1),(5003,.mp dX tY D8.2.2.2.2.2.2.2.2.2.2.2.2.2.2.2.2.2.2.2.1),(5004,.arr 3 dX D8.2.2.2.2.2.2.2.2.2.2.2.2.2.2.2.2.2.2.2.2.1),(5005,kZ D8.2.2.2.2.2.2.2.2.2.2.2.2.2.2.2.2.2.2.2.2.2.1 D8.2.2.2.2.2.2.2.2.2.2.2.2.2.2.2.2.2.2.2.2.2.2.1),(5006,.arr 196 pQ D8.2.2.2.2.2.2.2.2.2.2.2.2.2.2.2.2.2.2.2.2.2.2.2)]⟩) rfl (λ_=>gw) _ _ (λ_ _=>gw) λk15 jx=>?_;refine gr ?_;intro ph bXv;refine GP.bf λv20 qm=>?_;refine rD ⟨λk=>E9.aOs (.none rfl) (H:=[9000,9100,9200,9050,9051,9052,9053]) (K:=[9000]) (vJ [(9000,9000),(9100,9100),(9200,9200),(9050,9050),(9051,9051),(9052,9052),(9053,9053),(301,25601),(302,25602),(400,25700),(401,25701),(402,25702),(403,25703)]) (dO rfl) rfl (QA qm) (.cons (.dir rfl) (.cons (.dir rfl) .nil)) (λA=>(.box rfl (.box rfl (.box rfl (.arr rfl (.mp rfl (.arr rfl (.arr rfl .nil)))))))) (λA=>(.box rfl (.Z0 (.Z0 (.arr (.mp (.arr (.arr .nil rfl) rfl) rfl) rfl) rfl) rfl) rfl)) (λ_=>rfl) rfl rfl (λ_=>rfl) rfl rfl k⟩ ?_;refine gp ?_;refine GW.pin 6 rfl λc22=>?_;refine gr ?_;refine Ys (λpf=>⟨[(0,.ptr 9000 0),(4,.ptr 4 0),(6,.ptr 6 0),(7,.ptr 7 0),(8,iW v20.2.1),(36,wH pf.1)],[(9000,Jv v20.2.2.1 25601 v20.2.2.2.1 v20.2.2.2.2.1 v20.2.2.2.2.2.1 25700 v20.2.2.2.2.2.2.2.1 25701 v20.2.2.2.2.2.2.2.2.2.1 v20.2.2.2.2.2.2.2.2.2.2.1 v20.2.2.2.2.2.2.2.2.2.2.2.1 v20.2.2.2.2.2.2.2.2.2.2.2.2.1 25702 25602 v20.2.2.2.2.2.2.2.2.2.2.2.2.2.2.1 v20.2.2.2.2.2.2.2.2.2.2.2.2.2.2.2.1 v20.2.2.2.2.2.2.2.2.2.2.2.2.2.2.2.2.1 v20.2.2.2.2.2.2.2.2.2.2.2.2.2.2.2.2.2.1 v20.2.2.2.2.2.2.2.2.2.2.2.2.2.2.2.2.2.2.1 25703 (some (A 9000))),(4,AI 0 aE 0 0 0 []),(6,AI pf.2 aE 0 0 0 [] (some (c22))),(7,.box 65 [sJ v20.1]),(7777,.dp (aH GV) gobj []),(25601,kZ v20.2.2.2.2.2.2.2.2.2.2.2.2.2.2.2.2.2.2.2.2.1 v20.2.2.2.2.2.2.2.2.2.2.2.2.2.2.2.2.2.2.2.2.2.1),(25700,.arr 65 aK v20.2.2.2.2.2.2.1),(25701,.mp dX tY v20.2.2.2.2.2.2.2.2.1),(25702,.arr 3 dX v20.2.2.2.2.2.2.2.2.2.2.2.2.2.1),(25602,kZ v20.2.2.2.2.2.2.2.2.2.2.2.2.2.2.2.2.2.2.2.2.2.2.1 v20.2.2.2.2.2.2.2.2.2.2.2.2.2.2.2.2.2.2.2.2.2.2.2),(25703,.arr 196 pQ v20.2.2.2.2.2.2.2.2.2.2.2.2.2.2.2.2.2.2.2.1)]⟩) (λz=>?_) λpf=>?_
  ·refine gj ?_;refine GJ.if (λaN2=>?_) λaN2=>?_
   ·refine gj ?_;refine GJ.ox (Ui rfl rfl runUnderlying244) ?_;refine GJ.mx (KN (i:=6) (G:=7777) aAu VQ call134 rfl rfl rfl rfl rfl rfl) ?_;exact gw
   exact gw
  exact gw
end
end Go.Cn
