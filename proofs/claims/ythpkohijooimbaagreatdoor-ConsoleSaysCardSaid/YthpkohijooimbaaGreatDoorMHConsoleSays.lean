/- The functions come to what their models come to. Conditions: none. -/
import Derived.Test.YthpkohijooimbaaGreatDoorMGConsoleSays
import Derived.WalkKit
import Derived.LaidEql
import Derived.Stop.Asserts
import Derived.RowKitTokens
set_option linter.unusedVariables false
set_option linter.unusedSimpArgs false
set_option linter.unusedSectionVars false
namespace Go.Cn
open Go Go.Sw Go.Mo Go.Proofs Go.Proofs.Tryz
section
set_option maxHeartbeats 4000000
set_option maxRecDepth 100000
variable {gobj:List Obj} [GO gobj]
instance ek {a0 a1}:MC (cV a0 a1) prog 283 [rI a0,sJ a1] (λr=>(aP r)) (λr=>[]):=
 mc [] func283 19 rfl λr S w hF=>by
  unfold cV;refine gr ?_;exact GW.lp (λs9:Int=>⟨[(0,rI a0),(3,.ptr 3 0),(7,aP (a0.length:Int)),(8,aP s9)],[(3,.box 65 [sJ a1])]⟩) (λW8:Unit=>⟨[],[]⟩) sb (λ_ _ _ _=>gw) λ_=>gw
instance aOr {a0 a1}:MC (tN a0 a1) prog 282 [rI a0,sJ a1] (λr=>(.q9 [aP r.1,wH r.2])) (λr=>[]):=
 mc [] func282 14 rfl λr S w hF=>by
  unfold tN;exact gw
instance dj {a0 a1}:MC (kV a0 a1) prog 281 [.v (Fu.ah tY) a0,VI a1] (λr=>(.q9 [Ai r.1,wH r.2])) (λr=>[]):=
 mc [] func281 21 rfl λr S w hF=>by
  unfold kV;exact gw
instance ak {a0 a1}:MC (rG a0 a1) prog 284 [.v jQ a0,VI a1] (λr=>(.q9 [Ai r.1,wH r.2])) (λr=>[]):=
 mc [] func284 11 rfl λr S w hF=>by
  unfold rG;exact gw
theorem Sy{w p0 r}(h:iK w p0=some r):S8 prog "stillwater/plan.tell" Lj w [.v Q5 p0] (.q9 [.v Q4 r.1,.v Fu.bool r.2]) []:=by
 unfold iK at h;rcases w with z | z | z | z | z
 ·exact(S8.here (λ_ _=>by kernel_rfl) call279 (gb.E0 h))
 ·exact(.there (S8.here (λ_ _=>by kernel_rfl) call280 (gh.E0 h)))
 ·exact(.there (.there (S8.here (λ_ _=>by kernel_rfl) call281 (dj.E0 h))))
 ·exact(.there (.there (.there (S8.here (λ_ _=>by kernel_rfl) call284 (ak.E0 h)))))
 ·cases h
instance lr {a0 a1 a2}:MC (mX a0 a1 a2) prog 57 [Dm a0,rI a1,rI a2] (λr=>(.q9 [.ref 0,iW r.2])) (λr=>[(0,.arr 95 uK r.1)]):=
 mc [6,14,1070,1073,1076,1078,9070,9071,9074,9077,9078,9079,9089,8000003] func57 100 rfl λr S w hF=>by
  unfold mX;refine gr ?_;intro v1 H9 L0;refine GW.lp (λs17=>⟨[(0,Dm a0),(1,rI a1),(2,rI a2),(9,aP s17.1),(27,Dm a0),(28,aP (a0.length:Int)),(29,aP s17.2)],[]⟩) (λfg:Unit=>⟨[(0,Dm a0),(1,rI a1),(2,rI a2)],[]⟩) sb (λ_ _ _ _=>gw) λfg=>?_;refine gr ?_;intro v32 bKc bC2;refine GW.lp (λfm=>⟨[(1,rI a1),(2,rI a2),(12,AN v32.1),(14,.ref 5012),(56,Dm a0),(57,aP (a0.length:Int)),(58,aP fm.1)],[(5012,.arr 95 uK fm.2)]⟩) (λaUa=>⟨[(14,.ref 5012)],[(5012,.arr 95 uK aUa)]⟩) sb (λ_ bRx fm bVz=>?_) λ_=>gw;refine gr ?_;refine GW.cf rfl (λbSw=>?_) λ_=>gw;refine gr ?_;refine GW.bj (λaT9=>⟨[(1,rI a1),(2,rI a2),(12,AN v32.1),(14,.ref 5019),(56,Dm a0),(57,aP (a0.length:Int)),(58,aP fm.1)],[(5019,.arr 95 uK aT9)]⟩) (λ_=>gw) λaVf=>?_;refine gr ?_;intro aKi bRi aZf bRh bSv;refine GJ.ox (Kx (dP PO .nil .nil)) ?_;refine GJ.ox (Ee (f:=Lj) rfl aAa .here) ?_;refine gj ?_;refine GJ.ox (Ee (f:=Lj) rfl UY (.there .here)) ?_;refine gj ?_;refine GJ.ox (Ee (f:=Lj) rfl UZ (.there (.there .here))) ?_;refine GJ.ox (Kx (dP PQ .nil .nil)) ?_;refine GJ.ox (Ee (f:=Lj) rfl aAb (.there (.there (.there .here)))) ?_;refine gj ?_;refine GW.lp (λtd:Int=>⟨[(1,rI a1),(2,rI a2),(12,AN v32.1),(14,.ref 5012),(16,.ptr 16 0),(56,Dm a0),(57,aP (a0.length:Int)),(58,aP fm.1),(80,.v (Fu.sl Lj) ([(.inl ():oC),(.inr (.inl v32.1):oC),(.inr (.inr (.inl a2)):oC),(.inr (.inr (.inr (.inl ()))):oC)]:(List oC))),(81,aP (([(.inl ():oC),(.inr (.inl v32.1):oC),(.inr (.inr (.inl a2)):oC),(.inr (.inr (.inr (.inl ()))):oC)]:(List oC)).length:Int)),(82,aP td)],[(5012,.arr 95 uK fm.2),(16,.box 99 [aP aKi.1,sJ aKi.2])]⟩) (λaT7=>⟨[(1,rI a1),(2,rI a2),(12,AN v32.1),(14,.ref 5020),(56,Dm a0),(57,aP (a0.length:Int)),(58,aP fm.1)],[(5020,.arr 95 uK aT7)]⟩) sb (λ_ bRw td bVy=>?_) λ_=>gw;refine gr ?_;refine GW.cf rfl (λbSu=>?_) λ_=>gw;refine gr ?_;intro aP4 bRg;refine GJ.bf λaKm bA5=>?_;refine GJ.ox (FB rfl (Sy bA5) (.cons (.dir rfl) .nil)) ?_;exact gw
instance aLj {a0 a1 a2}:MC (qC a0 a1 a2) prog 144 [.v vF a0,rI a1,aP a2] (λr=>(.q9 [Ix r.1,wH r.2])) (λr=>[]):=
 mc [26,9010,9022,9027] func144 65 rfl λr S w hF=>by
  unfold qC;refine gr ?_;intro v1 H9;refine GW.cf rfl (λL0=>?_) λL0=>?_
  ·refine gr ?_;refine GJ.ox (dR (new:=[(100220,.arr 3 dX []),(22,.arr 65 aK [])]) wR (.cons zI (.ref 100220 rfl (.ref 22 rfl .nil))) (.cons (.cons .nil)) rfl .nil) ?_;exact gw
  refine gr ?_;refine GJ.ox (dR (new:=[(27,.arr 65 aK [])]) wR (.cons zI (.cons (Z.sl dX) (.ref 27 rfl .nil))) (.cons .nil) rfl (.cons rfl (.dir rfl) rfl rfl rfl rfl (.cons rfl (.dir rfl) rfl rfl rfl rfl .nil))) ?_;refine GJ.ox (wE (new:=[(100101,.arr 3 dX []),(100100,.arr 65 aK [])]) 10 PF rfl (.cons zI (.ref 100101 rfl (.ref 100100 rfl .nil))) (.cons (.cons .nil)) rfl rfl) ?_;refine gj ?_;exact GW.lp (λF5=>⟨[(6,.ptr 6 0),(10,.ptr 10 0),(28,.ref 17300),(29,aP (v1.1.length:Int)),(30,aP F5.1)],[(6,QK 0 [] []),(10,.box 205 [aP 4,.ref 5007,.ref 5008]),(17300,.arr 95 uK v1.1),(5007,.arr 3 dX F5.2.1),(5008,.arr 65 aK F5.2.2)]⟩) (λY0=>⟨[(6,.ptr 6 0),(10,.ptr 10 0)],[(6,QK 0 [] []),(10,.box 205 [aP 4,.ref 5007,.ref 5008]),(5007,.arr 3 dX Y0.1),(5008,.arr 65 aK Y0.2)]⟩) sb (λ_ _ _ _=>gw) λ_=>gw
instance qv {b0 b1 b2 b3 b4 b5 b6 b7 b8 b9 l9 o6 l8 j9 l7 l6 o7 l5 p5 p4 p7 p6}:F6 (cF b0 b1 b2 b3 b4 b5 b6 b7 b8 b9 l9 o6 l8 j9 l7 l6 o7 l5 p5 p4 p7 p6) prog 109 [.ptr 9000 1] (λA=>(Dq A b0 b1 b2 b3 b5 b7 b8 b9 l9 l8 j9 l7 l6 o7 p5 p4 p7 p6 b4 b6 o6 l5)) (λr=>(Ix r)) (λA r=>(Nr A b0 b1 b2 b3 b5 b7 b8 b9 l9 l8 j9 l7 l6 o7 p5 p4 p7 p6 b4 b6 o6 l5)):=
 sD [9042,9073] func109 75 rfl λA r S w R hF=>by
  unfold cF;refine gr ?_;intro v1 H9 x3;refine GW.jn (λY1:Unit=>⟨[(0,.ptr 9000 1),(2,.ptr 2 0)],[(9000,Jv b0 9100 b1 b2 b3 9050 b5 9051 b7 b8 b9 l9 9052 9200 l8 j9 l7 l6 o7 9053 (some (A 9000))),(2,QK 0 [] []),(9100,kZ p5 p4 (some (A 9100))),(9050,.arr 65 aK b4),(9051,.mp dX tY b6),(9052,.arr 3 dX o6),(9200,kZ p7 p6 (some (A 9200))),(9053,.arr 196 pQ l5)]⟩) rfl (λY1=>?_) _ _ (λk9 xr=>?_) λ_ _=>gw
  ·refine gr ?_;refine GP.ox (Uh rfl rfl rfl Xd U3 (C7.int U3) rfl Z75 (λS w=>⟨_,(Z.sl aK) S w,rfl⟩)) ?_;exact gw
  refine gr ?_;refine GP.ox (zH rfl rfl rfl Xd U3 (C7.int U3) rfl Z75 (λS w=>⟨_,(Z.sl aK) S w,rfl⟩)) ?_;exact gw
instance aJ6 {a0}:MC (oH a0) prog 221 [aP a0] (λr=>(wH r)) (λr=>[]):=
 mc [] func221 9 rfl λr S w hF=>by
  unfold oH;exact gw
instance X8 {a0}:MC (cU a0) prog 248 [wQ a0,.G0 221 []] (λr=>(aP r)) (λr=>[]):=
 mc [] func248 19 rfl λr S w hF=>by
  unfold cU;refine gr ?_;exact GW.lp (λy6:Int=>⟨[(0,wQ a0),(1,.G0 221 []),(7,aP (a0.length:Int)),(8,aP y6)],[]⟩) (λD4:Unit=>⟨[],[]⟩) sb (λ_ _ _ _=>gw) λ_=>gw
instance W4 {a0}:MC (bM a0) prog 219 [wQ a0,.G0 221 []] (λr=>(wH r)) (λr=>[]):=
 mc [] func219 9 rfl λr S w hF=>by
  unfold bM;exact gw
instance aMf {a0}:MC (pA a0) prog 189 [wQ a0] (λr=>(wH r)) (λr=>[]):=
 mc [] func189 6 rfl λr S w hF=>by
  unfold pA;exact gw
instance aPs {a0}:MC (sT a0) prog 140 [Ix a0] (λr=>(iW r)) (λr=>[]):=
 mc [] func140 14 rfl λr S w hF=>by
  unfold sT;exact gw
instance aOk {a0}:MC (nP a0) prog 139 [Iw a0] (λr=>(iW r)) (λr=>[]):=
 mc [] func139 32 rfl λr S w hF=>by
  unfold nP;refine gr ?_;intro v1 H9 L0 sf;exact GW.lp (λs14:Int=>⟨[(20,IE a0.2.2),(21,aP (a0.2.2.length:Int)),(22,aP s14)],[]⟩) (λR5:Unit=>⟨[],[]⟩) sb (λ_ _ _ _=>gw) λ_=>gw
instance P3 {a0}:MC (qD a0) prog 190 [.v (Fu.qh dX) a0] (λr=>(.ref 0)) (λr=>[(0,.arr 3 dX r)]):=
 mc [2,5] func190 8 rfl λr S w hF=>by
  unfold qD;exact gw
theorem xZ{u:Q6}{r:Q6}(h:iL u=some r):O4 prog 190 [.v (Fu.sl Q0) u] (.ref 0) [(0,.arr 3 Q0 r)]:=
 qN λb A=>P3.E0 (by cases b with | true=>rw[A rfl] at h ⊢;exact h | false=>exact Bu h)
instance qu {a0:Q6}:MC (iL a0) prog 190 [.v (Fu.sl Q0) a0] (λr:Q6=>(.ref 0)) (λr:Q6=>[(0,.arr 3 Q0 r)]):=⟨λh=>xZ h,call190⟩
instance aOh {a0}:MC (lN a0) prog 142 [Ix a0] (λr=>(Ix r)) (λr=>[]):=
 mc [] func142 12 rfl λr S w hF=>by
  unfold lN;exact gw
instance aOg {a0}:MC (qV a0) prog 141 [IE a0] (λr=>(.ref 0)) (λr=>[(0,.arr 205 Fs r)]):=
 mc [2,3] func141 19 rfl λr S w hF=>by
  unfold qV;refine gr ?_;exact GW.lp (λy6=>⟨[(3,.ref 5004),(6,IE a0),(7,aP (a0.length:Int)),(8,aP y6.1)],[(5004,.arr 205 Fs y6.2)]⟩) (λD4=>⟨[(3,.ref 5004)],[(5004,.arr 205 Fs D4)]⟩) sb (λ_ _ _ _=>gw) λ_=>gw
instance aOi {a0 a1}:MC (tP a0 a1) prog 108 [Iw a0,Ix a1] (λr=>(.q9 [Iw r.1,iW r.2])) (λr=>[]):=
 mc [] func108 47 rfl λr S w hF=>by
  unfold tP;exact gw
instance aPt {a0}:MC (nM a0) prog 110 [Iw a0] (λr=>(.q9 [.v (Fu.sl XC) r.1,iW r.2])) (λr=>[]):=
 mc [2,5,43,9043,9046] func110 62 rfl λr S w hF=>by
  unfold nM;refine gr ?_;intro v1 H9 L0 v3 nt;refine GW.lp (λiq=>⟨[(1,.ptr 1 0),(5,.ref 5004),(21,IE v3),(22,aP (v3.length:Int)),(23,aP iq.1)],[(1,b9q a0.1 a0.2.1 a0.2.2),(5004,.arr 26 XC iq.2)]⟩) (λx29=>⟨[(5,.ref 5004)],[(5004,.arr 26 XC x29)]⟩) sb (λ_ bK8 iq r28=>?_) λ_=>gw;refine gr ?_;refine GW.cf rfl (λbC3=>?_) λ_=>gw;refine gr ?_;intro z31 bAn cAr;refine GP.ox (BL (e:=dX) Iu S3 Z3 rfl rfl rfl rfl (.cons (.dir rfl) (.cons (.dir rfl) (.cons (.dir rfl) .nil)))) ?_;refine gp ?_;refine GP.bf λv33 aQy=>?_;refine GP.ox (Jj aQy (aH4 _ _) rfl (.sl rfl) Iu I3 S3 rfl rfl rfl) ?_;exact gw
instance ve {b0 b1 b2 b3 b4 b5 b6 b7 b8 b9 l9 o6 l8 j9 l7 l6 o7 l5 p5 p4 p7 p6}:F6 (bO b0 b1 b2 b3 b4 b5 b6 b7 b8 b9 l9 o6 l8 j9 l7 l6 o7 l5 p5 p4 p7 p6) prog 76 [.ptr 9000 0] (λA=>(Dq A b0 b1 b2 b3 b5 b7 b8 b9 l9 l8 j9 l7 l6 o7 p5 p4 p7 p6 b4 b6 o6 l5)) (λr=>(iW r.1)) (λA r=>(Nr A b0 b1 b2 b3 b5 b7 r.2.1 r.2.2.1 l9 l8 j9 l7 l6 o7 p5 p4 p7 p6 b4 b6 r.2.2.2.1 r.2.2.2.2)):=
 sD [9048,9107,500005,500006] func76 110 rfl λA r S w R hF=>by
  unfold bO;refine gr ?_;intro v1 H9 x3 xr;refine WD rfl rfl LG nl MX.h (by decide+kernel) (by decide+kernel) (λz=>?_) λx7=>?_
  ·refine gp ?_;refine GP.if (λsa=>?_) λsa=>?_
   ·refine gp ?_;refine GP.ox (xH (off:=12) (o1:=2) rfl rfl rfl rfl (.snd (.snd .here)) isAgg141 UP) ?_;exact gw
   exact gw
  refine GW.jn (λT6=>⟨[(0,.ptr 9000 0),(3,.ptr 9000 1)],(f6q A b0 b1 b2 b3 b5 b7 T6.1 T6.2.1 l9 l8 j9 l7 l6 o7 p5 p4 b4 b6 T6.2.2 p7 p6 v1.2)⟩) rfl (λT6=>?_) _ _ (λk17 hc9=>?_) λ_ _=>gw
  ·refine gr ?_;intro xl aQz;refine GW.lp (λkt=>⟨[(0,.ptr 9000 0),(8,iW xl.2),(99,.v (Fu.sl XC) xl.1),(100,aP (xl.1.length:Int)),(101,aP kt.1)],(f7q A b0 b1 b2 b3 b5 b7 T6.1 T6.2.1 l9 l8 j9 l7 l6 o7 p5 p4 b4 b6 T6.2.2 p7 p6 kt.2)⟩) (λx43=>⟨[(0,.ptr 9000 0),(8,iW xl.2)],(f7q A b0 b1 b2 b3 b5 b7 T6.1 T6.2.1 l9 l8 j9 l7 l6 o7 p5 p4 b4 b6 T6.2.2 p7 p6 x43)⟩) sb (λ_ bYe kt r42=>?_) λ_=>gw;refine gr ?_;refine GW.cf rfl (λbM2=>?_) λ_=>gw;refine gr ?_;intro z45 bW4;refine GJ.bf λu46 bKm=>?_;refine GJ.bf λv47 aVp=>?_;refine GJ.mx (vA (H:=[9000,9100,9200,5017,5018,5019,5020]) (K:=[9000,9100,9200]) (vJ [(9000,9000),(9100,9100),(9200,9200),(9050,5017),(9051,5018),(9052,5019),(9053,5020),(400,107700),(401,107701),(402,107702),(403,107703)]) (dO rfl) (λA=>F6.E0 A aVp) call111 (.cons (.dir rfl) (.cons (.dir rfl) (.cons (.toN (Kz bKm) rfl) .nil))) (λA=>(.box rfl (.box rfl (.box rfl (.arr rfl (.mp rfl (.arr rfl (.arr rfl .nil)))))))) (λA=>(.box rfl (.box rfl (.box rfl (.arr (.mp (.arr (.arr .nil rfl) rfl) rfl) rfl) rfl) rfl) rfl)) (λ_=>rfl) rfl rfl (λ_=>rfl) rfl rfl) ?_;exact gw
  refine gr ?_;refine GW.bf λv21 bKd=>?_;refine GW.bf λvu aIv=>?_;refine WO (λk=>Om (O':=⟨[(0,.ptr 9000 0),(3,.ptr 9000 1),(5,.ptr 5 0),(6,iW vu.2)],(l7q 9000 9100 58700 58701 58702 9200 58703 5 A b0 b1 b2 b3 b5 b7 b8 b9 l9 l8 j9 l7 l6 o7 vu.1.1 vu.1.2.1 vu.1.2.2 p5 p4 b4 b6 o6 p7 p6 v1.2)⟩) (okd ([(9000,12,Iw b8)]:List (Nat×Nat×Slot))) 13 [0,1,3,7,0,16,63,127,255,255,0,1535,4095] MX.h (by exact(.pu (.none rfl) rfl (λ_ _=>aZ rfl) (.pu (.none rfl) rfl (λ_ _=>iO rfl) (.pu (.none rfl) rfl (λ_ _=>cB 12 rfl PB rfl OX rfl rfl) (.pu (.none rfl) rfl (λ_ hd=>KK _ 0 hd rfl (λ_ _ _ he ho=>gK rfl he ho isAgg143 OX)) (.cons (.none rfl) (aZ rfl) rfl (E9.M0 (.none rfl) (H:=[9000,9100,9200,22700,22701,22702,22703]) (K:=[9000,9100,9200]) (vJ [(9000,9000),(9100,9100),(9200,9200),(9050,22700),(9051,22701),(9052,22702),(9053,22703),(400,58700),(401,58701),(402,58702),(403,58703)]) (dO rfl) (λA=>F6.E0 A bKd) call109 (.cons (.dir rfl) .nil) (λA=>(.box rfl (.box rfl (.box rfl (.arr rfl (.mp rfl (.arr rfl (.arr rfl .nil)))))))) (λA=>(.box rfl (.box rfl (.box rfl (.arr (.mp (.arr (.arr .nil rfl) rfl) rfl) rfl) rfl) rfl) rfl)) (λ_=>rfl) rfl rfl (λ_=>rfl) rfl rfl (.cons (.none rfl) (cQ (MC.E0 aIv) call108 (.cons (.dir rfl) (.cons (.dir rfl) .nil))) rfl (.cons (.none rfl) (aZ rfl) rfl (.pu (.none rfl) rfl (λ_ _=>iB rfl rfl) (.pu (.none rfl) rfl (λ_ _=>iB rfl rfl) (.cons (.none rfl) (dV 5 zeroValue143 rfl (.cons zI (.cons zI (.cons (Z.sl Fs) .nil))) rfl) rfl (E9.storeAll (.none rfl) rfl rfl rfl rfl (.C8 (.one _ _) (.C8 (.one _ _) (.one _ _))) OX (.cons (.none rfl) (dJ rfl) rfl .nil)))))))))))))) (by exact(J.fin (bQ []))) rfl (by decide+kernel) (by decide+kernel) (by decide+kernel) (by kernel_rfl) (by kernel_rfl) (by exact BV rfl (by repeat' (first | exact trivial | exact rfl | refine And.intro ?_ ?_))) k) ?_;exact gw
instance ax {a1 b0 b1 b2 b3 b4 b5 b6 b7 b8 b9 l9 o6 l8 j9 l7 l6 o7 l5 p5 p4 p7 p6}:F6 (mO a1 b0 b1 b2 b3 b4 b5 b6 b7 b8 b9 l9 o6 l8 j9 l7 l6 o7 l5 p5 p4 p7 p6) prog 164 [.ptr 9000 0,Ai a1] (λA=>(Dq A b0 b1 b2 b3 b5 b7 b8 b9 l9 l8 j9 l7 l6 o7 p5 p4 p7 p6 b4 b6 o6 l5)) (λr=>(.q9 [sJ r.1,iW r.2.1])) (λA r=>(PJ A r.2.2)):=
 sD [] func164 9 rfl λA r S w R hF=>by
  unfold mO;exact gw
instance tw {a1 b0 b1 b2 b3 b4 b5 b6 b7 b8 b9 l9 o6 l8 j9 l7 l6 o7 l5 p5 p4 p7 p6}:F6 (bD a1 b0 b1 b2 b3 b4 b5 b6 b7 b8 b9 l9 o6 l8 j9 l7 l6 o7 l5 p5 p4 p7 p6) prog 102 [.ptr 9000 0,aP a1] (λA=>(Dq A b0 b1 b2 b3 b5 b7 b8 b9 l9 l8 j9 l7 l6 o7 p5 p4 p7 p6 b4 b6 o6 l5)) (λr=>(.q9 [aP r.1,wH r.2])) (λA r=>(Nr A b0 b1 b2 b3 b5 b7 b8 b9 l9 l8 j9 l7 l6 o7 p5 p4 p7 p6 b4 b6 o6 l5)):=
 sD [] func102 23 rfl λA r S w R hF=>by
  unfold bD;exact gw
instance E3 {a0}:MC (gA a0) prog 104 [.v (Fu.qh pQ) a0] (λr=>(.ref 0)) (λr=>[(0,.arr 196 pQ r)]):=
 mc [2,5] func104 8 rfl λr S w hF=>by
  unfold gA;exact gw
theorem mF{u:(List (Bool×Bool×Q6))}{r:(List (Bool×Bool×Q6))}(h:bC u=some r):O4 prog 104 [.v (Fu.sl (Fu.pr Fu.bool (Fu.pr Fu.bool (Fu.sl (Fu.int .u8))))) u] (.ref 0) [(0,.arr 196 (Fu.pr Fu.bool (Fu.pr Fu.bool (Fu.sl (Fu.int .u8)))) r)]:=
 qN λb A=>E3.E0 (by cases b with | true=>rw[A rfl] at h ⊢;exact h | false=>exact Bu h)
instance U7 {a0:(List (Bool×Bool×Q6))}:MC (bC a0) prog 104 [.v (Fu.sl (Fu.pr Fu.bool (Fu.pr Fu.bool (Fu.sl (Fu.int .u8))))) a0] (λr:(List (Bool×Bool×Q6))=>(.ref 0)) (λr:(List (Bool×Bool×Q6))=>[(0,.arr 196 (Fu.pr Fu.bool (Fu.pr Fu.bool (Fu.sl (Fu.int .u8)))) r)]):=⟨λh=>mF h,call104⟩
theorem lW(A0:Nat->Nat){I:(List (Bool×Bool×Q6))}{K L:Int}{r:(List (Bool×Bool×Q6))}(h:aS I K L=some r):A3 prog 103 [.ref 9000,.v Q0 K,.v Q0 L] [(9000,.arr 196 (Fu.pr Fu.bool (Fu.pr Fu.bool (Fu.sl (Fu.int .u8)))) I)] (.ref 0) [(0,.arr 196 (Fu.pr Fu.bool (Fu.pr Fu.bool (Fu.sl (Fu.int .u8)))) r)]:=by
 obtain⟨A,M,B,rfl,rfl,rfl,rfl⟩:=FK h;clear h;have P:=RT A M B;have N:(A++(M++B)).length=A.length+(M.length+B.length):=by simp only[cM]
 have O:((Fu.pr Fu.bool (Fu.pr Fu.bool (Fu.sl (Fu.int .u8))))).n=3:=rfl;refine A3.of func103 Y ntmps103 Y ?_;intro S w R F
 repeat refine aQ ?_
 refine pZ (.k (vR (Fu.pr Fu.bool (Fu.pr Fu.bool (Fu.sl (Fu.int .u8))))) (.f [0,1,2] ?_))
 repeat refine aQ ?_
 refine pZ (.a 5 ?_);refine .k (RU P Y Y Y Y Y Y Dk Nq) (.f [0,1,2] ?_)
 repeat refine aQ ?_
 refine qA [0,1,2,16] ?_
 repeat refine aQ ?_
 rcases aEr (cm .eql (A.length:Int) ((A.length+M.length:Nat):Int)) with u | u
 ·have C:M=[]:=ya (by simp[cm] at u;omega);have Q:(A++(M++B))=A++B:=by rw[C];rfl
  refine rV Y u ?_
  repeat refine aQ ?_
  refine qA [0,1,2,6,17] ?_;refine cN ?_;rw[Q];exact Le F Y (bQ [(0,9000)])
 have C:0<M.length:=by
  rcases Nat.eq_zero_or_pos M.length with G | G
  ·rw[G] at u;simp[cm] at u
  ·exact G
 have T:M++B≠ []:=aD4.1 (by rw[cM];omega);refine tH Y u ?_;clear u
 repeat first | refine bN ?_ | refine aQ ?_
 refine qA [0,1,2,7] ?_
 repeat refine aQ ?_
 refine Oo (t:=0) (g':=[(1,.v Q0 (A.length:Int)),(2,.v Q0 ((A.length+M.length:Nat):Int)),(7,.v Q0 ((A++(M++B)).length:Int))]) Y T Y (by exact(.cons Y (.cons Y (.cons Y .nil)))) Y λb p q c X D sf=>?_;rcases jl (A.length+M.length) c with B0 | xp
 ·repeat refine aQ ?_
  refine Af 6 mixed (by exact(.k (aZ Y) (.k (aZ Y) (.k (Bz (e:=(Fu.pr Fu.bool (Fu.pr Fu.bool (Fu.sl (Fu.int .u8))))) A.length Y (by omega) Y Y Y Dk Nq) (.k (aZ Y) (.k (aZ Y) (.k (yH (e:=(Fu.pr Fu.bool (Fu.pr Fu.bool (Fu.sl (Fu.int .u8))))) (p+(A.length+M.length)*((Fu.pr Fu.bool (Fu.pr Fu.bool (Fu.sl (Fu.int .u8))))).n) B.length (c - (A.length+M.length)) Y (by omega) (by omega) Y (by omega) Y Y Y Dk Nq) .nil))))))) (by exact(J.t (Ox (M:=M) Y Y Y (.inr Y) (by omega) Dk Nq Y) (jz [0,1,2,7]))) ?_
  repeat refine aQ ?_
  refine pZ (.a 2 ?_);refine .k (Lb Y Dk (by omega)) ?_;refine .a 1 ?_;refine .k (Hu (e:=(Fu.pr Fu.bool (Fu.pr Fu.bool (Fu.sl (Fu.int .u8))))) (p+(A.length+B.length)*((Fu.pr Fu.bool (Fu.pr Fu.bool (Fu.sl (Fu.int .u8))))).n) M.length (c - (A.length+B.length)) Y Y (by omega) (by omega) (by omega) Y (by omega) Y Y Y Y Dk Nq) (.t (Hv (zv:=(false,false,([]:Q6))) Y Y Y (Nat.le_add_right _ _) C Dk VE (Z.pr Z.bool (Z.pr Z.bool (Z.sl (Fu.int .u8))))) (.f [0] ?_));refine vI (zG (t:=0) (V:=B) (B:=[]) (by simp only[cM,ue];omega) (by omega) (by rw[N] at D;rw[O] at D ⊢;omega) (by omega) Y) ?_;have E:A++(B++[])=A++B:=by rw[rf]
  repeat refine aQ ?_
  refine qA [0,6,32] ?_;refine cN ?_;rw[E];exact Le F Y (bQ [(0,9000)])
 ·have U:B=[]:=ya (by omega)
  repeat refine aQ ?_
  refine Af 6 mixed (by exact(.k (aZ Y) (.k (aZ Y) (.k (Bz (e:=(Fu.pr Fu.bool (Fu.pr Fu.bool (Fu.sl (Fu.int .u8))))) A.length Y (by omega) Y Y Y Dk Nq) (.k (aZ Y) (.k (aZ Y) (.k (Uj (e:=(Fu.pr Fu.bool (Fu.pr Fu.bool (Fu.sl (Fu.int .u8))))) B.length (by omega) Y (by omega) (by omega) Y Y Dk Nq) .nil))))))) (by exact(J.t (Ox (M:=M) Y Y Y (.inl U) (by omega) Dk Nq Y) (jz [0,1,2,7]))) ?_
  repeat refine aQ ?_
  refine pZ (.a 2 ?_);refine .k (Lb Y Dk (by omega)) ?_;refine .a 1 ?_;refine .k (Hu (e:=(Fu.pr Fu.bool (Fu.pr Fu.bool (Fu.sl (Fu.int .u8))))) (p+(A.length+B.length)*((Fu.pr Fu.bool (Fu.pr Fu.bool (Fu.sl (Fu.int .u8))))).n) M.length (c - (A.length+B.length)) Y Y (by omega) (by omega) (by omega) Y (by omega) Y Y Y Y Dk Nq) (.t (Hv (zv:=(false,false,([]:Q6))) Y Y Y (Nat.le_add_right _ _) C Dk VE (Z.pr Z.bool (Z.pr Z.bool (Z.sl (Fu.int .u8))))) (.f [0] ?_));refine vI (zG (t:=0) (V:=B) (B:=[]) (by simp only[cM,ue];omega) (by omega) (by rw[N] at D;rw[O] at D ⊢;omega) (by omega) Y) ?_;have E:A++(B++[])=A++B:=by rw[rf]
  repeat refine aQ ?_
  refine qA [0,6,32] ?_;refine cN ?_;rw[E];exact Le F Y (bQ [(0,9000)])
instance T8 {a0:(List (Bool×Bool×Q6))} {a1 a2:Int}:F6 (aS a0 a1 a2) prog 103 [.ref 9000,.v Q0 a1,.v Q0 a2] (λA=>[(9000,.arr 196 (Fu.pr Fu.bool (Fu.pr Fu.bool (Fu.sl (Fu.int .u8)))) a0)]) (λr:(List (Bool×Bool×Q6))=>(.ref 0)) (λA (r:(List (Bool×Bool×Q6)))=>[(0,.arr 196 (Fu.pr Fu.bool (Fu.pr Fu.bool (Fu.sl (Fu.int .u8)))) r)]):=⟨λA {_} h=>lW A h,call103⟩
instance K7 {q7}:F6 (dN q7) prog 209 [.ptr 9000 0] (λA=>[(9000,.box 342 [tZ q7] (some (A 9000)))]) (λr=>(.q9 [.v xX r.1,wH r.2.1])) (λA r=>[(9000,.box 342 [tZ r.2.2] (some (A 9000)))]):=
 sD [] func209 26 rfl λA r S w R hF=>by
  unfold dN;exact gw
instance U8 {q7}:F6 (fB q7) prog 210 [.ptr 9000 0] (λA=>[(9000,.box 342 [tZ q7] (some (A 9000)))]) (λr=>(.q9 [aP r.1,wH r.2.1])) (λA r=>[(9000,.box 342 [tZ r.2.2] (some (A 9000)))]):=
 sD [500010] func210 39 rfl λA r S w R hF=>by
  unfold fB;refine gr ?_;refine GW.lp (λey=>⟨[(0,.ptr 9000 0),(4,aP ey.1),(5,aP ey.2.1)],[(9000,.box 342 [tZ ey.2.2] (some (A 9000)))]⟩) (λx34=>⟨[(0,.ptr 9000 0)],[(9000,.box 342 [tZ x34] (some (A 9000)))]⟩) sb (λ_ bYk ey r33=>?_) λ_=>gw;refine gr ?_;refine GW.cf rfl (λbC0=>?_) λ_=>gw;refine gr ?_;intro V6 bA3 bM5 u38 bX1;refine GW.cf rfl (λbM4=>?_) λ_=>gw;refine gr ?_;refine Ys (λx42=>⟨[(0,.ptr 9000 0),(2,aP (ar .or .i64 ey.1 (sh .shl .i64 (ar .and .u8 V6.1 127) ey.2.1))),(3,wH x42)],[(9000,.box 342 [tZ V6.2.2] (some (A 9000)))]⟩) (λz=>?_) λx42=>?_
  ·exact gw
  exact gw
instance R9 {a0 a1}:MC (jG a0 a1) prog 211 [tZ a0,aP a1] (λr=>(.G0 243 [.B8 XC r.1,.B8 dX r.2])) (λr=>[]):=
 mc [29004] func211 9 rfl λr S w hF=>by
  unfold jG;refine gr ?_;refine GJ.ox (cW rfl) ?_;refine gj ?_;refine GW.jn (λx3:Unit=>⟨[(2,.ptr 2 0),(3,.ptr 3 0)],[(2,.box 26 [tZ a0]),(3,.box 3 [aP a1])]⟩) rfl (λ_=>gw) _ _ (λk2 L7=>?_) λ_ _=>gw;exact⟨λ_ h=>by cases h⟩
theorem aAz{xs:List Int}{n:Int}(hn:1<=n)(hlen:(xs.length:Int)<=4294967296)(hn2:n<=4294967296):mw prog 243 [.B8 (Fu.sl (Fu.int .u8)) xs,.B8 Q0 n] ((chunks n.toNat xs).map λc=>[.v (Fu.sl (Fu.int .u8)) c]):=by
 refine Oj func243 Y ntmps243 Y ?_;intro S w ρ l Jp Jx b off b' U0 I hJ0 h1 h2;refine aQ ?_;refine pS (O':=⟨[(0,.v (Fu.H2 (.func (.yield l) #[] #[]) Y) ()),(1,.v (Fu.cp b off (Fu.sl (Fu.int .u8))) xs),(2,.v (Fu.cp b' U0 Q0) n),(4,.v Q0 ((0:Nat)*n))],[]⟩) (J.k (dJ Y) (J.fin (jP (by rfl) (by exact(.cons Y (.cons Y (.cons Y (.cons (by simp[lk,AS.put]) .nil)))))))) ?_;refine fC ?_;refine Ra I (λk=>[(0,.v (Fu.H2 (.func (.yield l) #[] #[]) Y) ()),(1,.v (Fu.cp b off (Fu.sl (Fu.int .u8))) xs),(2,.v (Fu.cp b' U0 Q0) n),(4,.v Q0 ((k:Nat)*n))]) (λk=>(.cons (@P7.flat _ _ ⟨λh=>h⟩ _ _ _ _) (.cons h1 (.cons h2 (.cons .flat .nil))))) (λ_ _ h=>h) hJ0 ?_;intro k V C L;have B:((chunks n.toNat xs).map λc=>([.v (Fu.sl (Fu.int .u8)) c]:List Slot)).length=(chunks n.toNat xs).length:=sv ..;refine aQ (aQ ?_);refine pS (O':=⟨[(0,.v (Fu.H2 (.func (.yield l) #[] #[]) Y) ()),(1,.v (Fu.cp b off (Fu.sl (Fu.int .u8))) xs),(2,.v (Fu.cp b' U0 Q0) n),(4,.v Q0 (k*n)),(9,.v Fu.bool (cm .lss (k*n) xs.length))],[]⟩) (J.mv Y (J.k (lD Y G26 ZT) (J.k (vG Y Xp) (J.k (Kd Y Y Y) (J.fin (jP (by rfl) (by exact(.cons Y (.cons Y (.cons Y (.cons Y (.cons Y .nil)))))))))))) ?_;refine yT Y (λu=>?_) (λu=>?_)
 ·refine bN ?_;have E:(k:Int)*n<xs.length:=by simpa[cm] using u
  obtain⟨D,O,P,Q,R⟩:=Hs hn hn2 hlen E;have F:k<(chunks n.toNat xs).length:=(N9 (by omega) xs).2 D;refine aQ ?_;refine fC ?_;refine aQ ?_;refine Af (O':=⟨[(0,.v (Fu.H2 (.func (.yield l) #[] #[]) Y) ()),(1,.v (Fu.cp b off (Fu.sl (Fu.int .u8))) xs),(2,.v (Fu.cp b' U0 Q0) n),(4,.v Q0 (k*n)),(5,.v Q0 (min n ((xs.drop (k*n.toNat)).length:Int)))],[]⟩) 7 mixed (by exact(.k (lD Y G3 S3) (.k (lD Y G26 ZT) (.k (aZ Y) (.k (Ea O Y Y Xp S5) (.k (vG Y Xp) (.k (Bs Y Y) (.k (dJ Y) .nil)))))))) (by exact J.fin (jP (by rfl) (by exact(.cons Y (.cons Y (.cons Y (.cons Y (.cons Y .nil)))))))) ?_;refine aQ ?_;refine Kr (σ1:=⟨[(19,.v (Fu.H2 (.func (.yield l) #[] #[]) Y) ()),(28,.v (Fu.sl (Fu.int .u8)) ((xs.drop (k*n.toNat)).take n.toNat)),(0,.v (Fu.H2 (.func (.yield l) #[] #[]) Y) ()),(1,.v (Fu.cp b off (Fu.sl (Fu.int .u8))) xs),(2,.v (Fu.cp b' U0 Q0) n),(4,.v Q0 (k*n))],[]⟩) (g2:=[(0,.v (Fu.H2 (.func (.yield l) #[] #[]) Y) ()),(1,.v (Fu.cp b off (Fu.sl (Fu.int .u8))) xs),(2,.v (Fu.cp b' U0 Q0) n),(4,.v Q0 (k*n))]) (pre:=[_,_,_,_,_,_,_,_,_,_]) I C (item:=[.v (Fu.sl (Fu.int .u8)) ((xs.drop (k*n.toNat)).take n.toNat)]) (by rw[ze,gi (by omega) D];rfl)
   (J.cons (.none rfl) (aZ rfl) rfl rfl (J.cons (.none rfl) (lD rfl G26 ZT) rfl rfl (J.cons (.none rfl) (aZ rfl) rfl rfl (J.cons (.none rfl) (aZ rfl) rfl rfl (J.cons (.none rfl) (aZ rfl) rfl rfl (J.cons (.none rfl) (lI rfl rfl rfl) rfl rfl (J.cons (.none rfl) (aZ rfl) rfl rfl (J.cons (.none rfl) (aZ rfl) rfl rfl (J.cons (.none rfl) (lI rfl rfl rfl) rfl rfl (J.cons (.none rfl) (JH P Q rfl rfl rfl rfl Xp S5) rfl rfl (J.fin (jP (by rfl) (by exact(.cons rfl (.cons rfl (.cons rfl (.cons rfl (.cons rfl (.cons rfl .nil)))))))))))))))))))
   rfl (.cons (.dir rfl) .nil) rfl rfl rfl rfl (.cons (@P7.flat _ _ ⟨λh=>h⟩ _ _ _ _) (.cons h1 (.cons h2 (.cons .flat .nil)))) (.cons rfl (.cons rfl (.cons rfl (.cons rfl .nil)))) (λA M=>?_) (λA N=>?_)
  ·refine tH rfl rfl (bN (kE ?_));refine pS (O':=⟨[(0,.v (Fu.H2 (.func (.yield l) #[] #[]) Y) ()),(1,.v (Fu.cp b off (Fu.sl (Fu.int .u8))) xs),(2,.v (Fu.cp b' U0 Q0) n),(4,.v Q0 (ar .add .i64 (k*n) n))],[]⟩) (J.mv Y (J.k (lD Y G3 S3) (J.k (lI Y Y Y) (J.k (dJ Y) (J.fin (jP (by rfl) (by exact(.cons Y (.cons Y (.cons Y (.cons Y .nil))))))))))) ?_;exact Rb I M (by rw[B];exact F) (by rw[R];exact λ_ _ h=>h)
  ·refine rV rfl rfl (cN (Rc (fn:=f243) I rfl N λa A h=>h))
 ·refine tF (Yf (fn:=f243) I rfl C ?_ (λa A h=>?_))
  ·have G:¬(k:Int)*n<xs.length:=(by simpa[cm] using u);have K:((k:Int)*n)=((k*n.toNat:Nat):Int):=(by push_cast;rw[Int.toNat_of_nonneg (by omega)]);have:¬k*n.toNat<xs.length:=λh=>G (by rw[K];exact_mod_cast h);rw[B] at L ⊢;have:=mt (N9 (n:=n.toNat) (by omega) xs (k:=k)).1 this;omega
  ·simp only[Exit.inBlock,K4];exact h
end
end Go.Cn
