/- The functions come to what their models come to. The library over the model: how values lie, what is ours in memory, rules for operations, calls, loops; functions that tell themselves. Conditions: none. -/
import Derived.Test.YthpkohijooimbaaGreatDoorMKConsoleSays
import Derived.WalkKit
import Derived.LaidEql
import Derived.Stop.Asserts
import Derived.RowKitTokens
import Derived.ProofKit
import Derived.OpenShut
import Derived.ChangeOld
import Derived.Below
import Derived.SizedLaws
set_option linter.unusedVariables false
set_option linter.unusedSimpArgs false
set_option linter.unusedSectionVars false
namespace Go.Cn
open Go Go.Sw Go.Mo Go.Proofs Go.Proofs.Tryz
section
set_option maxHeartbeats 4000000
set_option maxRecDepth 100000
variable {gobj:List Obj} [GO gobj]
instance aPp {a0}:MC (sV a0) prog 45 [Ck a0] (λr=>(Ck r)) (λr=>[]):=
 mc [2,3,14] func45 49 rfl λr S w hF=>by
  unfold sV;refine gr ?_;refine GW.lp (λae=>⟨[(0,Ck a0),(3,.ref 5044),(4,aP ae.1)],[(5044,.arr 81 Xr ae.2)]⟩) (λaT6=>⟨[(3,.ref 5044)],[(5044,.arr 81 Xr aT6)]⟩) sb (λ_ bRv ae bVw=>?_) λ_=>gw;refine gr ?_;refine GW.cf rfl (λbSt=>?_) λ_=>gw;refine gr ?_;refine GW.lp (λnh=>⟨[(0,Ck a0),(3,.ref 5044),(4,aP ae.1),(5,.ref 5076),(6,aP nh.1)],[(5044,.arr 81 Xr ae.2),(5076,.arr 5 xX nh.2)]⟩) (λaT5=>⟨[(0,Ck a0),(3,.ref 5044),(4,aP ae.1),(5,.ref 5076)],[(5044,.arr 81 Xr ae.2),(5076,.arr 5 xX aT5)]⟩) sb (λ_ bRu nh bVu=>?_) λ_=>gw;refine gr ?_;intro aZi;refine GW.cf rfl (λbSs=>?_) λ_=>gw;refine gr ?_;exact GW.lp (λwb=>⟨[(0,Ck a0),(3,.ref 5044),(4,aP ae.1),(5,.ref 5084),(6,aP nh.1),(7,Aj wb.1)],[(5044,.arr 81 Xr ae.2),(5084,.arr 5 xX wb.2)]⟩) (λaT4=>⟨[(0,Ck a0),(3,.ref 5044),(4,aP ae.1),(5,.ref 5084),(6,aP nh.1)],[(5044,.arr 81 Xr ae.2),(5084,.arr 5 xX aT4)]⟩) sb (λ_ _ _ _=>gw) λ_=>gw
instance aOd {a0}:MC (qY a0) prog 23 [rI a0] (λr=>(.v (Fu.ah aAh) r)) (λr=>[]):=
 mc [3,14,34,9007] func23 48 rfl λr S w hF=>by
  unfold qY;refine gr ?_;refine GW.lp (λfk=>⟨[(0,rI a0),(2,.ptr 2 0),(3,.ref 5012),(4,aP fk.1)],[(2,.box 73 [Iy []]),(5012,.arr 81 Xr fk.2)]⟩) (λx77=>⟨[(2,.ptr 2 0),(3,.ref 5012)],[(2,.box 73 [Iy []]),(5012,.arr 81 Xr x77)]⟩) sb (λ_ bK6 fk r76=>?_) λx77=>?_
  ·refine gr ?_;refine GW.cf rfl (λbMx=>?_) λ_=>gw;refine gr ?_;exact GW.lp (λim=>⟨[(0,rI a0),(2,.ptr 2 0),(3,.ref 5012),(4,aP fk.1),(5,.ref 5020),(6,aP im.1)],[(2,.box 73 [Iy []]),(5012,.arr 81 Xr fk.2),(5020,.arr 5 xX im.2)]⟩) (λx95=>⟨[(0,rI a0),(2,.ptr 2 0),(3,.ref 5012),(4,aP fk.1),(5,.ref 5020)],[(2,.box 73 [Iy []]),(5012,.arr 81 Xr fk.2),(5020,.arr 5 xX x95)]⟩) sb (λ_ _ _ _=>gw) λ_=>gw
  refine gr ?_;refine GJ.ox (wE (new:=[(100070,.arr 82 Hl [])]) 7 Z73 rfl (.ref 100070 rfl .nil) (.cons .nil) rfl rfl) ?_;refine gj ?_;exact GW.lp (λaIr=>⟨[(2,.ptr 2 0),(3,Ck aIr.1),(7,.ptr 7 0)],[(2,.box 73 [Iy []]),(7,.box 73 [.ref 5024]),(5024,.arr 82 Hl aIr.2)]⟩) (λaUg=>⟨[(2,.ptr 2 0),(7,.ptr 7 0)],[(2,.box 73 [Iy []]),(7,.box 73 [.ref 5024]),(5024,.arr 82 Hl aUg)]⟩) sb (λ_ _ _ _=>gw) λ_=>gw
theorem Nc:∀(n:Nat) {u:Int} {r:Q6} (_:kJ n u=some r),O4 prog 26 [.v (Fu.int .u64) u] (.v Fu.str r) []:=by
 intro n
 induction n with
 |zero=>intro u r h;cases h
 |succ I E=>
  intro u r h;refine O4.of func26 Y ntmps26 Y ?_;intro S w B;simp only[kJ] at h;refine aQ ?_;refine qA [0] ?_;refine aQ ?_;refine pZ (.a 1 ?_);refine .k (Gd (.inr Y) (by decide) Y Y) ?_;refine .a 2 ?_;refine .k (rZ (e:=(Fu.int .u8)) Xp S5 Z5 Y Y Y Y (.cons (.dir Y) .nil)) (.k (Az Xp U5 U9 Y) (.f [0,3] ?_));refine aQ ?_;refine aQ ?_;refine qA [0,3,11] ?_;rcases aEr (cm .lss u (10:Int)) with A | A
  ·replace h:=Av A h;refine rV Y A ?_;refine aQ ?_;refine qA [2] ?_;refine cN ?_;obtain rfl:=X6 h;exact vQ B Kk Y (RV.tmp Y) .nil Y
  ·replace h:=Aw A h;refine tH Y A ?_;refine bN ?_;refine aQ ?_;obtain⟨F,C,h⟩:=aC h;obtain⟨G,D,h⟩:=aC h;refine pZ (.a 1 ?_);refine .k (Gd (.inl Y) (by decide) Y Y) (.k (cQ (E C) call26 (.cons (.dir Y) .nil)) ?_);refine .a 1 ?_;refine .k (eV D Y Y) (.f [2] ?_);refine cN ?_;obtain rfl:=X6 h;exact vQ B Kk Y (RV.tmp Y) .nil Y
instance aLd {a0:Int}:MC (kJ bR a0) prog 26 [.v (Fu.int .u64) a0] (λr:Q6=>(.v Fu.str r)) (λr:Q6=>[]):=⟨λh=>Nc bR h,call26⟩
instance aPq {a0 a1}:MC (qF a0 a1) prog 66 [rI a0,sJ a1] (λr=>(aP r)) (λr=>[]):=
 mc [] func66 19 rfl λr S w hF=>by
  unfold qF;refine gr ?_;exact GW.lp (λs9:Int=>⟨[(0,rI a0),(3,.ptr 3 0),(5,aP s9)],[(3,.box 65 [sJ a1])]⟩) (λW8:Unit=>⟨[],[]⟩) sb (λ_ _ _ _=>gw) λ_=>gw
instance aLe {a0 a1 a2}:MC (qG a0 a1 a2) prog 46 [VI a0,rI a1,rI a2] (λr=>(.q9 [Ai r.1,wH r.2])) (λr=>[]):=
 mc [1020] func46 50 rfl λr S w hF=>by
  unfold qG;exact gw
instance aTk {a0}:MC (sW a0) prog 30 [sJ a0] (λr=>(Gc r)) (λr=>[]):=
 mc [9021] func30 24 rfl λr S w hF=>by
  unfold sW;refine gr ?_;refine GW.lp (λF5=>⟨[(1,.ptr 1 0),(3,Gc F5.1),(4,aP F5.2)],[(1,.box 65 [sJ a0])]⟩) (λxk=>⟨[(3,Gc xk)],[]⟩) sb (λ_ bYm F5 r22=>?_) λ_=>gw;refine gr ?_;refine GW.cf rfl (λcAu=>?_) λ_=>gw;refine gr ?_;intro z25 bXc z26 bAo z28 bXb;refine GP.ox (Az Xp U5 U9 rfl) ?_;exact gw
instance xv {b0 b1 b2 b3}:F6 (eM b0 b1 b2 b3) prog 27 [.ptr 9000 0] (λA=>(aAr 9000 9050 9100 9051 9052 A b0 b1 b2 b3)) (λr=>(Gc r)) (λA r=>(aAr 9000 400 9100 401 402 A b0 b1 b2 b3)):=
 sD [9032,8000001] func27 91 rfl λA r S w R hF=>by
  unfold eM;refine gr ?_;intro L7 sf;refine GP.bf λv7 hv7=>?_;refine rD ⟨λk=>E9.xb (.none rfl) [9100,9052,9051] (MC.E0 hv7) C24 (λσ2 hL hex=>(.cons ((hL.ev (by simp[Op.operands,Call.operands])).trans rfl) (.fx ((hex 9100 (by simp)).trans rfl) rfl (.cons (.oh ((hex 9051 (by simp)).trans rfl) rfl) (.cons (.oh ((hex 9052 (by simp)).trans rfl) rfl) .nil)) (.C8 (.one _ _) (.one _ _))) .nil)) D7.v rfl k⟩ ?_;refine gp ?_;intro z8 hz8;refine GW.lp (λs97=>⟨[(0,.ptr 9000 0),(3,rI z8),(4,Gc s97.1),(5,aP s97.2)],(aAt A b0 b1 b2 b3)⟩) (λaUe=>⟨[(0,.ptr 9000 0),(4,Gc aUe)],(aAt A b0 b1 b2 b3)⟩) sb (λ_ bRz s97 bV2=>?_) λ_=>gw;refine gr ?_;refine GW.cf rfl (λbS1=>?_) λ_=>gw;refine gr ?_;refine GW.bj (λaUc=>⟨[(0,.ptr 9000 0),(3,rI z8),(4,Gc aUc),(5,aP s97.2)],(aAt A b0 b1 b2 b3)⟩) (λ_=>gw) λaQr=>?_;refine gr ?_;intro aZg bRj v167 bRn bSx;exact GW.jn (λaUb=>⟨[(0,.ptr 9000 0),(3,rI z8),(4,Gc aUb),(5,aP s97.2),(6,.ptr 6 0)],[(9000,AJ b0 9050 9100 (some (A 9000))),(6,.box 95 [aP v167.1.1,aP v167.1.2.1,aP v167.1.2.2.1,sJ v167.1.2.2.2]),(9050,.arr 67 uK b1),(9100,My 9051 9052 (some (A 9100))),(9051,.arr 65 aK b2),(9052,.arr 75 tY b3)]⟩) rfl (λ_=>gw) _ _ (λ_ _=>gw) λ_ _=>gw
instance aJ2 {a0}:MC (fM a0) prog 48 [rI a0] (λr=>(.ref 0)) (λr=>[(0,.arr 65 aK r)]):=
 mc [2,3] func48 6 rfl λr S w hF=>by
  unfold fM;exact gw
instance yz {q7 w7 a1}:F6 (bU q7 w7 a1) prog 29 [.ptr 9000 0,Ai a1] (λA=>[(9000,My 8950 8951 (some (A 9000))),(8950,.arr 65 aK q7),(8951,.arr 75 tY w7)]) (λr=>(.q9 [aP r.1,sJ r.2.1])) (λA r=>[(9000,My 8910 8911 (some (A 9000))),(8910,.arr 65 aK r.2.2.1),(8911,.arr 75 tY r.2.2.2)]):=
 sD [9088,9101,7019056,7019066] func29 108 rfl λA r S w R hF=>by
  unfold bU;refine gr ?_;intro x2 jx P0 yq aWa lh bM7;refine GW.cf rfl (λaN2=>?_) λaN2=>?_
  ·refine gr ?_;refine GP.bf λij aKv=>?_;refine GP.ox (On (Ap 88300 (MC.E0 aKv) call48 (.cons (.ref rfl rfl) .nil) rfl D7.ref (M9.arr M9.nil)) (λ_=>(Sw.Sub.mk id (.cons rfl (.oh rfl rfl) .nil) .nil rfl)) rfl) ?_;exact gw
  refine gr ?_;refine GW.cf rfl (λcAs=>?_) λ_=>gw;refine gr ?_;refine GP.bf λv35 bKa=>?_;refine rD ⟨λk=>E9.xb (.none rfl) [9000,8951,8950] (MC.E0 bKa) C24 (λσ2 hL hex=>(.cons ((hL.ev (by simp[Op.operands,Call.operands])).trans rfl) (.fx ((hex 9000 (by simp)).trans rfl) rfl (.cons (.oh ((hex 8950 (by simp)).trans rfl) rfl) (.cons (.oh ((hex 8951 (by simp)).trans rfl) rfl) .nil)) (.C8 (.one _ _) (.one _ _))) .nil)) D7.v rfl k⟩ ?_;exact gw
instance aj {a1 b0 b1 b2 b3}:F6 (eN a1 b0 b1 b2 b3) prog 12 [.ptr 9000 0,AO a1] (λA=>(aAr 9000 9050 9100 9051 9052 A b0 b1 b2 b3)) (λr=>(Gc r.1)) (λA r=>(aAs A r.2.1 r.2.2.1 r.2.2.2.1 r.2.2.2.2)):=
 sD [0,9024,9079,9101,9109,9228,39076,500058,8000000] func12 230 rfl λA r S w R hF=>by
  unfold eN;refine gr ?_;refine GJ.mx (jV (cC (m':=[Ju]) rfl rfl rfl rfl rfl Hk U9 (C7.str U9) rfl)) ?_;refine GJ.mx (jV (cC (m':=[Ju,Nf]) rfl rfl rfl rfl rfl Hk U9 (C7.str U9) rfl)) ?_;refine GJ.mx (jV (cC (m':=[Ju,Nf,Qk]) rfl rfl rfl rfl rfl Hk U9 (C7.str U9) rfl)) ?_;refine GJ.mx (jV (cC (m':=[Ju,Nf,Qk,Ta]) rfl rfl rfl rfl rfl Hk U9 (C7.str U9) rfl)) ?_;refine GJ.mx (jV (cC (m':=[Ju,Nf,Qk,Ta,Xq]) rfl rfl rfl rfl rfl Hk U9 (C7.str U9) rfl)) ?_;refine GJ.mx (jV (cC (m':=[Ju,Nf,Qk,Ta,Xq,DW]) rfl rfl rfl rfl rfl Hk U9 (C7.str U9) rfl)) ?_;refine GJ.mx (jV (cC (m':=[Ju,Nf,Qk,Ta,Xq,DW,IL]) rfl rfl rfl rfl rfl Hk U9 (C7.str U9) rfl)) ?_;refine GJ.mx (jV (cC (m':=[Ju,Nf,Qk,Ta,Xq,DW,IL,QJ]) rfl rfl rfl rfl rfl Hk U9 (C7.str U9) rfl)) ?_;refine GJ.mx (jV (cC (m':=[Ju,Nf,Qk,Ta,Xq,DW,IL,QJ,XB]) rfl rfl rfl rfl rfl Hk U9 (C7.str U9) rfl)) ?_;refine GJ.mx (jV (cC (m':=[Ju,Nf,Qk,Ta,Xq,DW,IL,QJ,XB,mq9]) rfl rfl rfl rfl rfl Hk U9 (C7.str U9) rfl)) ?_;refine GJ.mx (jV (cC (m':=[Ju,Nf,Qk,Ta,Xq,DW,IL,QJ,XB,mq9,VG]) rfl rfl rfl rfl rfl Hk U9 (C7.str U9) rfl)) ?_;refine GJ.mx (jV (cC (m':=[Ju,Nf,Qk,Ta,Xq,DW,IL,QJ,XB,mq9,VG,aDs]) rfl rfl rfl rfl rfl Hk U9 (C7.str U9) rfl)) ?_;refine gj ?_;intro z1 yk;refine GJ.ox (zH rfl rfl rfl Hk U9 (C7.str U9) rfl Z3 (λ_ _=>lG.2 ⟨rfl,by decide⟩)) ?_;refine gj ?_;intro x3 xr x8;refine GW.jn (λD4=>⟨[(0,.ptr 9000 0),(1,AO a1),(8,.ptr 8 0),(9,aP D4.1)],[(9000,AJ b0 9050 9100 (some (A 9000))),(8,PI 0 D4.2 0 aE),(9050,.arr 67 uK b1),(9100,My 9051 9052 (some (A 9100))),(9051,.arr 65 aK b2),(9052,.arr 75 tY b3)]⟩) rfl (λD4=>?_) _ _ (λ_ _=>gw) λ_ _=>gw;refine gr ?_;refine GW.bk (by assumption) ?_;refine GW.bj (λx81=>⟨[(0,.ptr 9000 0),(8,.ptr 8 0)],[(9000,AJ b0 9050 9100 (some (A 9000))),(8,PI x81.1 D4.2 0 x81.2),(9050,.arr 67 uK b1),(9100,My 9051 9052 (some (A 9100))),(9051,.arr 65 aK b2),(9052,.arr 75 tY b3)]⟩) (λx81=>?_) λk80=>?_
  ·refine gr ?_;intro bS3 bS2;refine GW.bf λO5 bA9=>?_;refine WO (λk=>Om (O':=⟨[(0,.ptr 9000 0),(8,.ptr 8 0),(15,aP O5.1),(16,.ptr 16 0)],[(9000,AJ b0 9050 9100 (some (A 9000))),(8,PI x81.1 D4.2 0 x81.2),(16,.box 65 [sJ O5.2.1]),(9050,.arr 67 uK b1),(9100,My 211210 211211 (some (A 9100))),(211210,.arr 65 aK O5.2.2.1),(211211,.arr 75 tY O5.2.2.2)]⟩) (λ_=>True) 12 [0,1,3,7,0,31,63,127,127,0,767,2047] MX.h (by exact(.cons (.none rfl) (aZ rfl) rfl (.cons (.none rfl) (iO rfl) rfl (.cons (.none rfl) (cB 2 rfl U44 rfl S42 rfl rfl) rfl (.cons (.none rfl) (gK rfl rfl rfl isAgg42 S42) rfl (.cons (.none rfl) (uE rfl rfl (.C8 (.one _ _) (.C8 (.one _ _) (.C8 (.one _ _) (.one _ _)))) G67 OZ) rfl (E9.M0 (.none rfl) (H:=[9100,9051,9052]) (K:=[9100]) (Sz [(9000,9100),(8950,9051),(8951,9052),(8910,211210),(8911,211211)]) (mH _) (λA=>F6.E0 A bA9) call29 (.cons (.dir rfl) (.cons (.dir rfl) .nil)) (λA=>(.box rfl (.arr rfl (.arr rfl .nil)))) (λA=>(.box rfl (.arr (.arr .nil rfl) rfl) rfl)) (λ_=>rfl) rfl rfl (λ_=>rfl) rfl rfl (.cons (.none rfl) (aZ rfl) rfl (.pu (.none rfl) rfl (λ_ _=>iB rfl rfl) (.pu (.none rfl) rfl (λ_ _=>iB rfl rfl) (.cons (.none rfl) (dV 16 QI rfl (.cons (Z.arr 8 (Z.int .u8)) .nil) rfl) rfl (.cons (.none rfl) (dJ rfl) rfl (E9.store (.none rfl) rfl rfl rfl rfl rfl rfl rfl Su .nil))))))))))))) (by exact(J.fin (Sw.Sub.mk id (.cons rfl (.of_eq rfl) (.cons rfl (.of_eq rfl) (.cons rfl (.of_eq rfl) (.cons rfl (.of_eq rfl) .nil)))) (.box rfl (.cons (.of_eq rfl) (.cons (.of_eq rfl) (.cons (.of_eq rfl) .nil))) (.box rfl (.cons (.of_eq rfl) (.cons (.of_eq rfl) (.cons (.of_eq rfl) (.cons (.of_eq rfl) .nil)))) (.box rfl (.cons (.of_eq rfl) .nil) (.arr rfl (.box rfl (.cons (.of_eq rfl) (.cons (.of_eq rfl) .nil)) (.arr rfl (.arr rfl .nil))))))) rfl))) rfl (by decide+kernel) (by decide+kernel) (by decide+kernel) (by kernel_rfl) (by kernel_rfl) (λ_=>trivial) k) ?_;refine gr ?_;intro bSz v148 bRo bSy;refine GJ.bf λaQg bA7=>?_;refine GJ.mx (Ow (MC.E0 bA7) C24 (.cons rfl (.fx rfl rfl (.cons (.oh rfl rfl) (.cons (.oh rfl rfl) .nil)) (.C8 (.one _ _) (.one _ _))) .nil) D7.v rfl) ?_;exact gw
  refine gr ?_;refine GW.cf rfl (λbMw=>?_) λbMw=>?_
  ·refine gr ?_;intro x84 cAi;refine GJ.mx (nO 5002 67 uK rfl rfl rfl rfl AF rfl) ?_;refine gj ?_;refine GJ.bf λv88 bJ4=>?_;refine GJ.oc (λbAk=>?_) λz89 bAk=>?_
   ·exact⟨λ_ h=>by cases h⟩
   refine GJ.ox (pK 79300 (vN bAk bJ4) call22 args rfl) ?_;exact gw
  refine gr ?_;refine GW.cf rfl (λcAh=>?_) λ_=>gw;refine gr ?_;intro cAg;refine GP.bf λv96 bAz=>?_;refine rD ⟨λk=>E9.xb (.none rfl) [9100,9052,9051] (MC.E0 bAz) C24 (λσ2 hL hex=>(.cons ((hL.ev (by simp[Op.operands,Call.operands])).trans rfl) (.fx ((hex 9100 (by simp)).trans rfl) rfl (.cons (.oh ((hex 9051 (by simp)).trans rfl) rfl) (.cons (.oh ((hex 9052 (by simp)).trans rfl) rfl) .nil)) (.C8 (.one _ _) (.one _ _))) .nil)) D7.v rfl k⟩ ?_;refine gp ?_;intro z97 bWz v98 bXo;refine rD ⟨λk=>E9.xb (.none rfl) [9100,9052,9051] (MC.E0 bAz) C24 (λσ2 hL hex=>(.cons ((hL.ev (by simp[Op.operands,Call.operands])).trans rfl) (.fx ((hex 9100 (by simp)).trans rfl) rfl (.cons (.oh ((hex 9051 (by simp)).trans rfl) rfl) (.cons (.oh ((hex 9052 (by simp)).trans rfl) rfl) .nil)) (.C8 (.one _ _) (.one _ _))) .nil)) D7.v rfl k⟩ ?_;exact gw
theorem Iz{F r}(h:rQ F=some r):O4 prog 5 [.v Fu.str F] (.v Fu.str r) []:=by
 refine O4.of func5 Y ntmps5 Y ?_;intro S w G;unfold rQ at h;refine iZ [0] ?_;refine Lf (.a 1 ?_);refine .k (Gh Y U9) (.f [0,9] ?_);refine lZ h Y (λN h=>?_) (λN h=>?_)
 ·refine iZ [2] ?_;cases h;exact cN (vQ G Kk Y (RV.tmp Y) .nil Y)
 refine bN ?_;obtain⟨v2,Q,h⟩:=aC h;refine fH (.a 1 ?_);refine .k (cQ (V2.E0 Q) C11 (.cons (.dir Y) (.cons (.dir Y) .nil))) (.f [3] ?_);obtain⟨z3,ao,h⟩:=aC h;refine Lf (.a 6 ?_);refine .k (Eh Y Y) (.f [3,18] ?_);obtain⟨R,T,h⟩:=Dy h;refine EG (λC:(List Q6)=>⟨[(3,.v (Fu.sl Fu.str) C)],[]⟩) (λx=>R x=some r) Y ?_ ?_ ?_
 ·intro C h;rw[T] at h;refine fH (.k (dR (new:=[(24,.arr 67 Q4 ([]:Q7))]) VM (.cons zI (.ref 24 Y (.cons (Z.H2 (u:=(.pointer none)) Y) .nil))) (.cons .nil) Y .nil) (.k (Gf 25 Y Y) (.f [3,4] ?_)));refine iZ [3,4,5] ?_;refine sZ [3,4,5,6] ?_;obtain⟨ap,U,V,aq⟩:=uU h;refine Nh (σs:=Sum.elim (λE:Q6×Int=>⟨[(3,.v (Fu.sl Fu.str) C),(4,.ptr 25 0),(5,.v Fu.str E.1),(6,.v Q0 E.2)],[(25,.box 44 [.v Q0 (0:Int),.ref 5014,.v (Fu.H2 (.pointer none) Y) ()]),(5014,.arr 67 Q4 ([]:Q7))]⟩) (λB:Q6×Int×Int×Q7×Q9×(List Q9)=>⟨[(3,.v (Fu.sl Fu.str) C),(4,.ptr 25 0),(5,.v Fu.str B.1),(6,.v Q0 B.2.1)],[(25,.box 44 [.v Q0 B.2.2.1,.ref 39700,.ptr 39601 0]),(39700,.arr 67 Q4 B.2.2.2.1),(39601,.box 78 [.ref 39701,.ref 39702]),(39701,.arr 65 aK B.2.2.2.2.1),(39702,.arr 75 (Fu.sl aK) B.2.2.2.2.2)]⟩)) (λI:Q6=>⟨[(5,.v Fu.str I)],[]⟩) U (Uq (bQ [(5014,24)])) ?_ ?_
  ·intro I M;have h:=V _ M;refine iZ [2] ?_;cases h;exact cN (vQ G Kk Y (RV.tmp Y) .nil Y)
  rintro (E | B) a8 h
  ·replace h:=aBr h;refine XT ?_;refine sZ [3,4,5,6,29] ?_;refine lZ h Y (λO h=>?_) (λO h=>?_)
   ·refine bN ?_;refine aQ ?_;refine fC ?_;obtain⟨au,av,h⟩:=aC h;obtain⟨aw,K,h⟩:=aC h;obtain⟨X,L,h⟩:=aC h;rcases aQt:X.2 with _ | a9
    ·replace h:=Rk aQt h;obtain⟨ax,ab,h⟩:=aC h;obtain⟨ay,ac,h⟩:=aC h;refine pZ (.a 6 ?_);refine .k (cQ (V2.E0 K) C11 (.cons (.dir Y) (.cons (.dir Y) .nil))) (.t (tK [25,5014] (vJ [(9000,25),(9050,5014),(400,39700)]) (dO Y) (λA=>zW A aQt L) call12 (λA=>(.box Y (.arr .nil Y) Y))) (.k (eV ab Y Y) (.k (eV ac Y Y) (.f [3,4,5,6] ?_))));refine kE ?_;refine qA [3,4,5,6] ?_;cases h;exact vH (Uq (bQ [(5014,39700)]))
    ·replace h:=Rl aQt h;obtain⟨az,ad,h⟩:=aC h;obtain⟨a1,ae,h⟩:=aC h;refine pZ (.a 6 ?_);refine .k (cQ (V2.E0 K) C11 (.cons (.dir Y) (.cons (.dir Y) .nil))) (.t (tK [25,5014] (vJ [(9000,25),(9050,5014),(301,39601),(400,39700),(401,39701),(402,39702)]) (dO Y) (λA=>zX A aQt L) call12 (λA=>(.box Y (.Z0 (.arr (.arr (.arr .nil Y) Y) Y) Y) Y))) (.k (eV ad Y Y) (.k (eV ae Y Y) (.f [3,4,5,6] ?_))));refine kE ?_;refine qA [3,4,5,6] ?_;cases h;exact vH (Ur (bQ []))
   cases h;exact tF (wM (bQ []))
  ·replace h:=aBs h;refine XU ?_;refine sZ [3,4,5,6,29] ?_;refine lZ h Y (λP h=>?_) (λP h=>?_)
   ·refine bN ?_;refine aQ ?_;refine fC ?_;obtain⟨a2,a3,h⟩:=aC h;obtain⟨a4,af,h⟩:=aC h;obtain⟨a5,ai,h⟩:=aC h;obtain⟨a6,ak,h⟩:=aC h;obtain⟨a7,al,h⟩:=aC h;refine pZ (.a 6 ?_);refine .k (cQ (V2.E0 af) C11 (.cons (.dir Y) (.cons (.dir Y) .nil))) (.t (tK [25,39601,39700,39701,39702] (vJ [(9000,25),(9100,39601),(9050,39700),(9051,39701),(9052,39702),(301,339601),(400,339700),(401,339701),(402,339702)]) (dO Y) (λA=>aj.E0 A ai) call12 (λA=>(.box Y (.Z0 (.arr (.arr (.arr .nil Y) Y) Y) Y) Y))) (.k (eV ak Y Y) (.k (eV al Y Y) (.f [3,4,5,6] ?_))));refine kE ?_;refine qA [3,4,5,6] ?_;cases h;exact vH (Ur (bQ [(39601,339601),(39700,339700),(39702,339702),(39701,339701)]))
   cases h;exact tF (wM (bQ []))
 ·intro D;replace h:=Av D h;obtain⟨v8,an,h⟩:=aC h;refine pZ (.a 4 ?_);refine .k (Qx an Y Y U36 S9) (.f [3] ?_);exact tI h (bQ [])
 ·intro D;replace h:=Aw D h;refine bN ?_;exact tI h (bQ [])
instance aJ1 {a0:Q6}:MC (rQ a0) prog 5 [.v Fu.str a0] (λr:Q6=>(.v Fu.str r)) (λr:Q6=>[]):=⟨λh=>Iz h,call5⟩
instance Y9 {gobj:List Obj} [GO gobj] {a0}:F6 (lP a0) prog 3 [Gc a0] (λA=>[(7777,.dp (aH GV) gobj [])]) (λr=>(wH r)) (λA r=>[(7777,.dp (aH GV) gobj [])]):=
 sD [] func3 13 rfl λA r S w R hF=>by
  unfold lP;exact gw
end
end Go.Cn
namespace Go.Sw
open Go Go.RowKit Go.WideShapes
def RdE{α:Type}(P:aA5)(T:aAg)(e:Fu α):Prop:=∀(H:Type) (enc:aAg×aA4->H) (w:aAf) (spare:Nat->Bool) (held:Bool) (fuel:Nat) (cs:List aA4) (d:DataW H) (ps:List MemPlace),DataW.trod enc P w 0 spare held fuel T cs=some (d,ps)->(∀n∈d.weights P T,n<=reachBytes)->∃x,e.ok x (λ_=>False) w cs
theorem RdE.str{P:aA5}{T:aAg}(h:P.underlying T=some .string):RdE P T Fu.str:=by
 intro H enc w C D A cs d E u F;cases A with
 |zero=>simp[DataW.trod] at u
 |succ A=>
  unfold DataW.trod at u;rw[h] at u;split at u<;>first | (exfalso;simp_all;done) | skip
  rename_i s G;split at u
  ·rename_i B;exact⟨lb s,by rw[Qm],Ja _,by rw[Qn];exact B⟩
  ·cases u
def RdV{α:Type}(P:aA5)(T:aAg)(e:Fu α):Prop:=∀(H:Type) (enc:aAg×aA4->H) (w w0:aAf) (v:aA4) (d:DataW H) (ps:List MemPlace),Value.okWide P w0 .any 0 T v->DataW.Trod enc P w 0 (λ_=>true) true T v d ps->(∀n∈d.weights P T,n<=reachBytes)->∃x,e.val x (λ_=>False) w v
theorem AV{α:Type}{P:aA5}{T:aAg}{e:Fu α}(ha:e.agg=false)(hs:∀w v,Value.okWide P w .any 0 T v->v.cells= #[v])(he:RdE P T e):RdV P T e:=by
 intro H enc w u v d C A ⟨fuel,ht⟩ hz;rw[hs u v A] at ht;obtain⟨x,B⟩:=he H enc w _ _ fuel _ _ _ ht hz;exact⟨x,_,B,by simp[Fu.pk,ha]⟩
theorem RdV.str{P:aA5}{T:aAg}(h:P.underlying T=some .string):RdV P T Fu.str:=
 AV rfl (λw v u=>by obtain⟨n,rfl⟩:=okWide_string h u;rfl) (RdE.str h)
end Go.Sw
