/- The functions come to what their models come to. Conditions: none. -/
import Derived.Test.YthpkohijooimbaaGreatDoorMFConsoleSays
import Derived.WalkKit
import Derived.LaidEql
import Derived.Stop.Asserts
import Derived.RowKitTokens
set_option linter.unusedVariables false
set_option linter.unusedSimpArgs false
set_option linter.unusedSectionVars false
namespace Go.Cn
open Go Go.Sw Go.Mo Go.Proofs Go.Proofs.Tryz
section
set_option maxHeartbeats 4000000
set_option maxRecDepth 100000
variable {gobj:List Obj} [GO gobj]
instance bh {gobj:List Obj} [GO gobj] {a0}:F6 (iP a0) prog 15 [Gc a0] (λA=>[(7777,.dp (aH GV) gobj [])]) (λr=>(.q9 [.v (Fu.pr dX (Fu.pr dX (Fu.fns [32,33,34,35,36,37]))) r.1,wH r.2])) (λA r=>[(7777,.dp (aH GV) gobj [])]):=
 sD [9007,9010,9013,9016,9019,9022,9025,9028,9031,9034,9037,9040] func15 42 rfl λA r S w R hF=>by
  unfold iP;refine gr ?_;refine GW.cf rfl (λL7=>?_) λL7=>?_
  ·refine gr ?_;refine GJ.ox (dP rX (.cons zI (.cons zI (.cons (Z.fns [32,33,34,35,36,37] 6 rfl) .nil))) (.cons rfl (.dir rfl) rfl rfl rfl rfl (.cons rfl (.dir rfl) rfl rfl rfl rfl (.cons rfl (Arg.fns [32,33,34,35,36,37] 0 rfl) rfl rfl rfl rfl .nil)))) ?_;exact gw
  refine gr ?_;refine GW.cf rfl (λL0=>?_) λL0=>?_
  ·refine gr ?_;refine GJ.ox (dP rX (.cons zI (.cons zI (.cons (Z.fns [32,33,34,35,36,37] 6 rfl) .nil))) (.cons rfl (.dir rfl) rfl rfl rfl rfl (.cons rfl (.dir rfl) rfl rfl rfl rfl (.cons rfl (Arg.fns [32,33,34,35,36,37] 1 rfl) rfl rfl rfl rfl .nil)))) ?_;exact gw
  refine gr ?_;refine GW.cf rfl (λsf=>?_) λsf=>?_
  ·refine gr ?_;refine GJ.ox (dP rX (.cons zI (.cons zI (.cons (Z.fns [32,33,34,35,36,37] 6 rfl) .nil))) (.cons rfl (.dir rfl) rfl rfl rfl rfl (.cons rfl (.dir rfl) rfl rfl rfl rfl (.cons rfl (Arg.fns [32,33,34,35,36,37] 2 rfl) rfl rfl rfl rfl .nil)))) ?_;exact gw
  refine gr ?_;refine GW.cf rfl (λjx=>?_) λjx=>?_
  ·refine gr ?_;refine GJ.ox (dP rX (.cons zI (.cons zI (.cons (Z.fns [32,33,34,35,36,37] 6 rfl) .nil))) (.cons rfl (.dir rfl) rfl rfl rfl rfl (.cons rfl (.dir rfl) rfl rfl rfl rfl (.cons rfl (Arg.fns [32,33,34,35,36,37] 2 rfl) rfl rfl rfl rfl .nil)))) ?_;exact gw
  refine gr ?_;refine GW.cf rfl (λxr=>?_) λxr=>?_
  ·refine gr ?_;refine GJ.ox (dP rX (.cons zI (.cons zI (.cons (Z.fns [32,33,34,35,36,37] 6 rfl) .nil))) (.cons rfl (.dir rfl) rfl rfl rfl rfl (.cons rfl (.dir rfl) rfl rfl rfl rfl (.cons rfl (Arg.fns [32,33,34,35,36,37] 2 rfl) rfl rfl rfl rfl .nil)))) ?_;exact gw
  refine gr ?_;refine GW.cf rfl (λcw=>?_) λcw=>?_
  ·refine gr ?_;refine GJ.ox (dP rX (.cons zI (.cons zI (.cons (Z.fns [32,33,34,35,36,37] 6 rfl) .nil))) (.cons rfl (.dir rfl) rfl rfl rfl rfl (.cons rfl (.dir rfl) rfl rfl rfl rfl (.cons rfl (Arg.fns [32,33,34,35,36,37] 2 rfl) rfl rfl rfl rfl .nil)))) ?_;exact gw
  refine gr ?_;refine GW.cf rfl (λlg=>?_) λlg=>?_
  ·refine gr ?_;refine GJ.ox (dP rX (.cons zI (.cons zI (.cons (Z.fns [32,33,34,35,36,37] 6 rfl) .nil))) (.cons rfl (.dir rfl) rfl rfl rfl rfl (.cons rfl (.dir rfl) rfl rfl rfl rfl (.cons rfl (Arg.fns [32,33,34,35,36,37] 2 rfl) rfl rfl rfl rfl .nil)))) ?_;exact gw
  refine gr ?_;refine GW.cf rfl (λsa=>?_) λsa=>?_
  ·refine gr ?_;refine GJ.ox (dP rX (.cons zI (.cons zI (.cons (Z.fns [32,33,34,35,36,37] 6 rfl) .nil))) (.cons rfl (.dir rfl) rfl rfl rfl rfl (.cons rfl (.dir rfl) rfl rfl rfl rfl (.cons rfl (Arg.fns [32,33,34,35,36,37] 2 rfl) rfl rfl rfl rfl .nil)))) ?_;exact gw
  refine gr ?_;refine GW.cf rfl (λhc9=>?_) λhc9=>?_
  ·refine gr ?_;refine GJ.ox (dP rX (.cons zI (.cons zI (.cons (Z.fns [32,33,34,35,36,37] 6 rfl) .nil))) (.cons rfl (.dir rfl) rfl rfl rfl rfl (.cons rfl (.dir rfl) rfl rfl rfl rfl (.cons rfl (Arg.fns [32,33,34,35,36,37] 2 rfl) rfl rfl rfl rfl .nil)))) ?_;exact gw
  refine gr ?_;refine GW.cf rfl (λwu=>?_) λwu=>?_
  ·refine gr ?_;refine GJ.ox (dP rX (.cons zI (.cons zI (.cons (Z.fns [32,33,34,35,36,37] 6 rfl) .nil))) (.cons rfl (.dir rfl) rfl rfl rfl rfl (.cons rfl (.dir rfl) rfl rfl rfl rfl (.cons rfl (Arg.fns [32,33,34,35,36,37] 3 rfl) rfl rfl rfl rfl .nil)))) ?_;exact gw
  refine gr ?_;refine GW.cf rfl (λwq=>?_) λwq=>?_
  ·refine gr ?_;refine GJ.ox (dP rX (.cons zI (.cons zI (.cons (Z.fns [32,33,34,35,36,37] 6 rfl) .nil))) (.cons rfl (.dir rfl) rfl rfl rfl rfl (.cons rfl (.dir rfl) rfl rfl rfl rfl (.cons rfl (Arg.fns [32,33,34,35,36,37] 4 rfl) rfl rfl rfl rfl .nil)))) ?_;exact gw
  refine gr ?_;refine GW.cf rfl (λaRj=>?_) λ_=>gw;refine gr ?_;refine GJ.ox (dP rX (.cons zI (.cons zI (.cons (Z.fns [32,33,34,35,36,37] 6 rfl) .nil))) (.cons rfl (.dir rfl) rfl rfl rfl rfl (.cons rfl (.dir rfl) rfl rfl rfl rfl (.cons rfl (Arg.fns [32,33,34,35,36,37] 5 rfl) rfl rfl rfl rfl .nil)))) ?_;exact gw
instance K3 {a0}:MC (fO a0) prog 50 [Gc a0] (λr=>(.q9 [aP r.1,iW r.2])) (λr=>[]):=
 mc [] func50 30 rfl λr S w hF=>by
  unfold fO;exact gw
theorem wY(A:Nat->Nat){B6 I K b0 C D E r}(h:gT I K b0 C D E=some r):A3 prog 32 [.ptr 9000 0,.v Q0 I,.v (Fu.sl Fu.str) K] [(9000,.dp (DE.C6 31 5 Q4) (B6,b0,C,D,E) []),(7777,.dp (aH GV) gobj [])] (.q9 [.v Fu.str r.1,.v Q8 r.2.1]) [(9000,.dp (DE.C6 31 5 Q4) (B6,r.2.2.1,r.2.2.2.1,r.2.2.2.2.1,r.2.2.2.2.2) []),(7777,.dp (aH GV) gobj [])]:=by
 refine A3.of func32 Y ntmps32 Y ?_;intro S w R L;unfold gT at h;refine iZ [0,2] ?_;obtain⟨V,X,h⟩:=aC h;obtain⟨G,P,h⟩:=aC h;refine fH (.a 3 ?_);refine .k (cQ (K3.E0 P) call50 (.cons (.dir Y) .nil)) (.f [0,8,9] ?_);refine aQ ?_;refine aQ ?_;obtain⟨Q,u,h⟩:=aC h;refine pS (O':=⟨[(0,.ptr 9000 0),(8,.v Q0 G.1),(9,.v Q8 G.2),(26,.v Fu.bool Q)],[(9000,.dp (DE.C6 31 5 Q4) (B6,b0,C,D,E) []),(7777,.dp (aH GV) gobj [])]⟩) ?_ ?_
 ·refine cd u (λB u=>?_) (λB u=>?_)
  ·refine cd u (λN u=>?_) (λN u=>?_)
   ·cases u;refine ja 1 ?_;exact(J.k (Dt U53 Y) jy)
   cases u;refine ja 1 ?_;exact(J.k (Dt U53 Y) jy)
  cases u;exact(J.cons (.none Y) (aZ Y) Y Y (J.cons (.none Y) (Dt U53 Y) Y Y (J.cons (.none Y) (aZ Y) Y Y (J.left (GK.ye 19 Y Y Y B) Y (J.left (GK.ye 19 Y Y Y B) Y (J.left (GK.ye 19 Y Y Y B) Y (J.left (Qo 22 Y Y Y) Y (J.left (Qo 22 Y Y Y) Y (J.left (GK.ye 19 Y Y Y B) Y (J.cons (.none Y) (JG B Y Y) Y Y (J.fin (bQ []))))))))))))
 obtain⟨T,U,h⟩:=Dy h;refine EG (λM:(Option Int)=>⟨[(0,.ptr 9000 0),(8,.v Q0 G.1),(9,.v Q8 M)],[(9000,.dp (DE.C6 31 5 Q4) (B6,b0,C,D,E) []),(7777,.dp (aH GV) gobj [])]⟩) (λx=>T x=some r) Y ?_ ?_ ?_
 ·intro M h;rw[U] at h;refine sZ [0,8,9,29] ?_;refine lZ h Y (λO h=>?_) (λO h=>?_)
  ·refine iZ [0,6,7] ?_;cases h;exact cN (eC L Y (RV.tmp Y) (RV.tmp Y) (.cons Y (.cons Y .nil)))
  refine bN ?_;refine fH (.a 5 ?_);refine .t (KX Y Y (.dir Y) S3) ?_;refine .a 2 ?_;refine .t (Pc Y Y (.wj _) AF) (.f [0] ?_);refine iZ [0,6,7] ?_;cases h;exact cN (eC L Y (RV.tmp Y) (RV.tmp Y) (.cons Y (.cons Y .nil)))
 ·intro F;replace h:=Av F h;refine qA [0,8,9] ?_;exact tI h (bQ [])
 ·intro F;replace h:=Aw F h;refine bN ?_;exact tI h (bQ [])
instance jd {a0}:MC (oD a0) prog 51 [Gc a0] (λr=>(.q9 [sJ r.1,iW r.2])) (λr=>[]):=
 mc [19034,7019034] func51 37 rfl λr S w hF=>by
  unfold oD;refine gr ?_;intro x3 cw;refine GW.lp (λbx=>⟨[(0,Gc a0),(2,.ptr 2 0),(4,.ptr 4 0),(16,aP bx.1)],[(2,.box 65 [sJ aE]),(4,.box 65 [sJ bx.2])]⟩) (λx29=>⟨[(2,.ptr 2 0),(4,.ptr 4 0)],[(2,.box 65 [sJ aE]),(4,.box 65 [sJ x29])]⟩) sb (λ_ bK8 bx r28=>?_) λ_=>gw;refine gr ?_;refine GW.cf rfl (λbC3=>?_) λ_=>gw;refine gr ?_;intro z31 bAn v32 bKc z33 bW9 v34 bKb z35 bJy
  try refine WN ?_
  refine GJ.mx (At (iX bJy).2.2 rfl rfl rfl rfl S5) ?_;exact gw
instance aOc {a0}:MC (qQ a0) prog 195 [aP a0] (λr=>(.q9 [aP r.1,iW r.2])) (λr=>[]):=
 mc [] func195 18 rfl λr S w hF=>by
  unfold qQ;exact gw
instance aRu {a0}:MC (zK a0) prog 196 [aP a0] (λr=>(.q9 [IM r.1,iW r.2])) (λr=>[]):=
 mc [13] func196 15 rfl λr S w hF=>by
  unfold zK;exact gw
instance aLc {a0}:MC (qB a0) prog 153 [aP a0] (λr=>(.q9 [IM r.1,iW r.2])) (λr=>[]):=
 mc [] func153 19 rfl λr S w hF=>by
  unfold qB;exact gw
instance aLp {a0 a1}:MC (kR a0 a1) prog 224 [VI a0,.B8 AH a1] (λr=>(wH r)) (λr=>[]):=
 mc [] func224 15 rfl λr S w hF=>by
  unfold kR;exact gw
instance R8 {a0 B3}:MC (bY a0 B3) prog 249 [Dm a0,.G0 224 [.B8 AH B3]] (λr=>(aP r)) (λr=>[]):=
 mc [] func249 19 rfl λr S w hF=>by
  unfold bY;refine gr ?_;exact GW.lp (λy6:Int=>⟨[(0,Dm a0),(1,.G0 224 [.B8 AH B3]),(7,aP (a0.length:Int)),(8,aP y6)],[]⟩) (λD4:Unit=>⟨[],[]⟩) sb (λ_ _ _ _=>gw) λ_=>gw
instance P5 {a0 B3}:MC (bB a0 B3) prog 223 [Dm a0,.G0 224 [.B8 AH B3]] (λr=>(wH r)) (λr=>[]):=
 mc [] func223 9 rfl λr S w hF=>by
  unfold bB;exact gw
instance qz {a0}:MC (lL a0) prog 197 [IM a0] (λr=>(iW r)) (λr=>[]):=
 mc [] func197 25 rfl λr S w hF=>by
  unfold lL;exact gw
instance H7 {a0}:MC (jL a0) prog 113 [.v (Fu.qh aK) a0] (λr=>(.ref 0)) (λr=>[(0,.arr 65 aK r)]):=
 mc [2,5] func113 8 rfl λr S w hF=>by
  unfold jL;exact gw
theorem rJ{u:Q9}{r:Q9}(h:aB u=some r):O4 prog 113 [.v (Fu.sl aK) u] (.ref 0) [(0,.arr 65 aK r)]:=
 qN λb A=>H7.E0 (by cases b with | true=>rw[A rfl] at h ⊢;exact h | false=>exact Bu h)
instance di {a0:Q9}:MC (aB a0) prog 113 [.v (Fu.sl aK) a0] (λr:Q9=>(.ref 0)) (λr:Q9=>[(0,.arr 65 aK r)]):=⟨λh=>rJ h,UK⟩
instance J8 {a0}:MC (eH a0) prog 218 [Dm a0] (λr=>(.G0 247 [.B8 Xf r])) (λr=>[]):=
 mc [29002] func218 4 rfl λr S w hF=>by
  unfold eH;refine gr ?_;refine GJ.ox (cW rfl) ?_;exact gw
theorem aAy{xs:List (Int×aD)}(hlen:(xs.length:Int)<=4294967296):mw prog 247 [.B8 (Fu.sl Q5) xs] ((dn xs).map λc=>[.v Q0 c.1,.v Q5 c.2]):=by
 refine EV func247 Y ntmps247 Y ?_;intro S w ρ l Jp Jx b off I hJ0 h1;have F:=EX hlen;refine aQ ?_;refine pS (O':=⟨[(0,.v (Fu.H2 (.func (.yield l) #[] #[]) Y) ()),(1,.v (Fu.cp b off (Fu.sl Q5)) xs),(3,.v Q0 ((xs.length:Int) - 1 - (0:Nat)))],[]⟩) (J.k (lD Y OW Fq) (J.k (vG Y uJ) (J.k (lI Y Y Y) (J.k (dJ Y) (J.fin (jP (by rfl) (by exact(.cons Y (.cons Y (.cons (by rw[<-F];rfl) .nil)))))))))) ?_;refine fC ?_;refine Ra I (λk=>[(0,.v (Fu.H2 (.func (.yield l) #[] #[]) Y) ()),(1,.v (Fu.cp b off (Fu.sl Q5)) xs),(3,.v Q0 ((xs.length:Int) - 1 - (k:Nat)))]) (λk=>(.cons (@P7.flat _ _ ⟨λh=>h⟩ _ _ _ _) (.cons h1 (.cons .flat .nil)))) (λ_ _ h=>h) hJ0 ?_;intro k V D E;have u:((dn xs).map λc=>([.v Q0 c.1,.v Q5 c.2]:List Slot)).length=xs.length:=by rw[sv,EW]
 rw[u] at E;have G:=JR hlen E;refine aQ (aQ ?_);refine pS (O':=⟨[(0,.v (Fu.H2 (.func (.yield l) #[] #[]) Y) ()),(1,.v (Fu.cp b off (Fu.sl Q5)) xs),(3,.v Q0 ((xs.length:Int) - 1 - (k:Nat))),(8,.v Fu.bool (cm .geq ((xs.length:Int) - 1 - (k:Nat)) 0))],[]⟩) (J.mv Y (J.k (Kd Y Y Y) (J.fin (jP (by rfl) (by exact(.cons Y (.cons Y (.cons Y (.cons Y .nil))))))))) ?_;refine yT Y (λA=>?_) (λA=>?_)
 ·refine bN ?_;have O:(xs.length:Int) - 1 - (k:Nat)>=0:=by simpa[cm] using A
  have C:k<xs.length:=by omega
  obtain⟨x,M,N⟩:=JP C;refine aQ ?_;refine fC ?_;refine aQ ?_;refine Kr (σ1:=⟨[(11,.v (Fu.H2 (.func (.yield l) #[] #[]) Y) ()),(12,.v Q0 ((xs.length:Int) - 1 - (k:Nat))),(16,.v Q5 x),(0,.v (Fu.H2 (.func (.yield l) #[] #[]) Y) ()),(1,.v (Fu.cp b off (Fu.sl Q5)) xs),(3,.v Q0 ((xs.length:Int) - 1 - (k:Nat)))],[]⟩) (g2:=[(0,.v (Fu.H2 (.func (.yield l) #[] #[]) Y) ()),(1,.v (Fu.cp b off (Fu.sl Q5)) xs),(3,.v Q0 ((xs.length:Int) - 1 - (k:Nat)))]) (pre:=[_,_,_,_,_,_]) I D (item:=[.v Q0 ((xs.length:Int) - 1 - (k:Nat)),.v Q5 x]) (by rw[ze,M];rfl)
   (J.cons (.none rfl) (aZ rfl) rfl rfl (J.cons (.none rfl) (aZ rfl) rfl rfl (J.cons (.none rfl) (lD rfl OW Fq) rfl rfl (J.cons (.none rfl) (aZ rfl) rfl rfl (J.cons (.none rfl) (Gg N rfl rfl uJ Gb) rfl rfl (J.cons (.none rfl) (rY rfl isAgg99 Gb) rfl rfl (J.fin (jP (by rfl) (by exact(.cons rfl (.cons rfl (.cons rfl (.cons rfl (.cons rfl (.cons rfl .nil)))))))))))))))
   rfl (.cons (.dir rfl) (.cons (.dir rfl) .nil)) rfl rfl rfl rfl (.cons (@P7.flat _ _ ⟨λh=>h⟩ _ _ _ _) (.cons h1 (.cons .flat .nil))) (.cons rfl (.cons rfl (.cons rfl .nil))) (λB K=>?_) (λB L=>?_)
  ·refine tH rfl rfl (bN (kE ?_));refine pS (O':=⟨[(0,.v (Fu.H2 (.func (.yield l) #[] #[]) Y) ()),(1,.v (Fu.cp b off (Fu.sl Q5)) xs),(3,.v Q0 (ar .sub .i64 ((xs.length:Int) - 1 - (k:Nat)) 1))],[]⟩) (J.mv Y (J.k (lI Y Y Y) (J.k (dJ Y) (J.fin (jP (by rfl) (by exact(.cons Y (.cons Y (.cons Y .nil))))))))) ?_;exact Rb I K (by rw[u];exact C) (by rw[G];exact λ_ _ h=>h)
  ·refine rV rfl rfl (cN (Rc (fn:=f247) I rfl L λa B h=>h))
 ·refine tF (Yf (fn:=f247) I rfl D ?_ (λa B h=>?_))
  ·have P:¬(xs.length:Int) - 1 - (k:Nat)>=0:=(by simpa[cm] using A);rw[u];omega
  ·simp only[Exit.inBlock,K4];exact h
theorem Cs{A C r}(h:gU A C=some r):O4 prog 186 [.v Q2 A,.v Q0 C] (.q9 [.v aK r.1,.v Q8 r.2]) []:=by
 refine O4.of func186 Y ntmps186 Y ?_;intro S w B;unfold gU at h;refine fH (.k (Ge 2 Y (.C8 sO (.C8 sO sO)) Y) (.k (Ge 3 Y sO Y) (.k (dV 4 QI Y (.cons (Z.arr 8 (Z.int .u8)) .nil) Y) (.k (dV 5 zeroValue53 Y (.cons (Z.err ET) .nil) Y) (.f [2,3,4,5] ?_)))));obtain⟨V,X,h⟩:=aC h;refine Lf (.k (uE Y Y (.C8 sO (.C8 sO sO)) UN HX) (.k (cQ (qz.E0 X) call197 (.cons (.dir Y) .nil)) (.f [2,3,4,5,6] ?_)));refine iZ [2,3,4,5,6,12] ?_;refine lZ h Y (λO h=>?_) (λO h=>?_)
 ·refine fH (.k (yY (e:=aK) (v:=aE) QH Qj I5 Y Y (Z.arr 8 (Z.int .u8))) (.f [4,5] ?_));refine cN ?_;obtain rfl:=X6 h;exact kO (O':=⟨[(4,.ptr 90 0),(5,.ptr 91 0)],[(91,.box 53 [.v Q8 V]),(90,.box 65 [.v aK aE])]⟩) (bQ [(90,4),(91,5)]) (tG B Kk Y (mT Y Y Y UO Su) (mT Y Y Y G53 US) .nil Y)
 refine bN ?_;refine aQ ?_;refine aQ ?_;obtain⟨x4,E,h⟩:=aC h;refine pS (O':=⟨[(2,.ptr 2 0),(3,.ptr 3 0),(4,.ptr 4 0),(5,.ptr 5 0),(23,.v Fu.bool x4)],[(2,.box 247 [.v (Fu.sl aK) A.1,.v (Fu.sl Q5) A.2.1,.v Q0 A.2.2]),(3,.box 3 [.v Q0 C]),(4,.box 65 [.v aK aE]),(5,.box 53 [.v Q8 (none:Option Int)])]⟩) ?_ ?_
 ·refine cd E (λP E=>?_) (λP E=>?_)
  ·cases E;exact jy
  cases E;exact jy
 refine lZ h Y (λQ h=>?_) (λQ h=>?_)
 ·refine fH (.k (yY (e:=aK) (v:=aE) QH Qj I5 Y Y (Z.arr 8 (Z.int .u8))) (.f [4,5] ?_));refine cN ?_;obtain rfl:=X6 h;exact kO (O':=⟨[(4,.ptr 90 0),(5,.ptr 91 0)],[(91,.box 53 [.v Q8 (some (1:Int))]),(90,.box 65 [.v aK aE])]⟩) (bQ [(90,4),(91,5)]) (tG B Kk Y (mT Y Y Y UO Su) (mT Y Y Y G53 US) .nil Y)
 refine bN ?_;refine sZ [2,3,4,5,28] ?_;refine lZ h Y (λT h=>?_) (λT h=>?_)
 ·refine fH (.k (yY (e:=aK) (v:=aE) QH Qj I5 Y Y (Z.arr 8 (Z.int .u8))) (.f [4,5] ?_));refine cN ?_;obtain rfl:=X6 h;exact kO (O':=⟨[(4,.ptr 90 0),(5,.ptr 91 0)],[(91,.box 53 [.v Q8 (some (4:Int))]),(90,.box 65 [.v aK aE])]⟩) (bQ [(90,4),(91,5)]) (tG B Kk Y (mT Y Y Y UO Su) (mT Y Y Y G53 US) .nil Y)
 refine bN ?_;obtain⟨I,ab,h⟩:=aC h;refine Lf (.a 2 ?_);refine .k (cQ (J8.E0 ab) call218 (.cons (.dir Y) .nil)) (.f [2,3,4,5,33] ?_);refine fC ?_;obtain⟨aj,ac,h⟩:=aC h;obtain⟨o9,ad,ae,af⟩:=Jf h;refine Je (g:=[(2,.ptr 2 0),(3,.ptr 3 0),(4,.ptr 4 0),(5,.ptr 5 0),(33,.G0 247 [.B8 (Fu.sl Q5) I])]) (ds0:=[(2,.box 247 [.v (Fu.sl aK) A.1,.v (Fu.sl Q5) A.2.1,.v Q0 A.2.2]),(3,.box 3 [.v Q0 C]),(4,.box 65 [.v aK aE]),(5,.box 53 [.v Q8 (none:Option Int)])]) (L:=[2,3,4,5]) (λD:(Int×(Int×aD))=>[.v Q0 D.1,.v Q5 D.2]) (λu (F:Unit)=>[(2,.box 247 [.v (Fu.sl aK) A.1,.v (Fu.sl Q5) A.2.1,.v Q0 A.2.2] (some (u 2))),(3,.box 3 [.v Q0 C] (some (u 3))),(4,.box 65 [.v aK aE] (some (u 4))),(5,.box 53 [.v Q8 (none:Option Int)] (some (u 5)))]) (λu (G:aD)=>[(2,.box 247 [.v (Fu.sl aK) A.1,.v (Fu.sl Q5) A.2.1,.v Q0 A.2.2] (some (u 2))),(3,.box 3 [.v Q0 C] (some (u 3))),(4,.box 65 [.v aK G] (some (u 4))),(5,.box 53 [.v Q8 (none:Option Int)] (some (u 5)))]) (λu D F=>⟨[(2,.ptr 2 0),(3,.ptr 3 0),(4,.ptr 4 0),(5,.ptr 5 0),(8,.ptr 8 0),(33,.G0 247 [.B8 (Fu.sl Q5) I])],[(2,.box 247 [.v (Fu.sl aK) A.1,.v (Fu.sl Q5) A.2.1,.v Q0 A.2.2] (some (u 2))),(3,.box 3 [.v Q0 C] (some (u 3))),(4,.box 65 [.v aK aE] (some (u 4))),(5,.box 53 [.v Q8 (none:Option Int)] (some (u 5))),(8,.box 99 [.v Q0 D.2.1,.v aK D.2.2])]⟩) B Y ad (bQ []) (λ_=>rfl) Y ((aAy (Cw ac)).x) call247 (λ_=>rfl) Y (λ_=>rfl) Y (λ_ _=>(.cons Y (.cons Y (.cons Y (.cons Y .nil))))) (λ_ _=>(.cons Y (.cons Y (.cons Y (.cons Y .nil))))) ?_ ?_ ?_ ?_
 ·intro u S w R l D F;refine pZ (.k (dV 8 Z99 Y (.cons zI (.cons (Z.arr 8 (Z.int .u8)) .nil)) Y) (.t (iT Y Y Y Y (.C8 sO sO) Gb) (.f [2,3,4,5,8,33] ?_)));exact QX (bQ [])
 ·intro u S w R l D F r9 h;refine fC ?_;refine iZ [2,3,4,5,8,33,39] ?_;refine lZ h Y (λU h=>?_) (λU h=>?_)
  ·refine fH (.a 3 ?_);refine .t (Gl Y Y Y (.aKs ET) Y Y Y US) (.f [2,3,4,5,33] ?_);refine cN ?_;refine xQ ?_;cases h;exact JN (bQ [])
  refine bN ?_;cases h;exact kE (Jg (bQ []))
 ·intro u kk K S w R M B;have h:=ae _ K;refine kE ?_;obtain⟨ai,ak,h⟩:=aC h;refine fH (.a 6 ?_);refine .t (Gl Y Y Y (.aKs ET) Y Y Y US) (.f [4,5] ?_);refine cN ?_;obtain rfl:=X6 h;exact kO (O':=⟨[(4,.ptr 90 0),(5,.ptr 91 0)],[(91,.box 53 [.v Q8 (none:Option Int)]),(90,.box 65 [.v aK ai])]⟩) (bQ [(90,4),(91,5)]) (tG B Kk Y (mT Y Y Y UO Su) (mT Y Y Y G53 US) .nil Y)
 ·intro u G N S w R M B;have h:=af _ N;refine xQ ?_;obtain rfl:=X6 h;exact kO (O':=⟨[(4,.ptr 90 0),(5,.ptr 91 0)],[(91,.box 53 [.v Q8 (none:Option Int)]),(90,.box 65 [.v aK G])]⟩) (bQ [(90,4),(91,5)]) (tG B Kk Y (mT Y Y Y UO Su) (mT Y Y Y G53 US) .nil Y)
instance aMl {a0:Q3} {a1:Int}:MC (gU a0 a1) prog 186 [.v Q2 a0,.v Q0 a1] (λr:aD×(Option Int)=>(.q9 [.v aK r.1,.v Q8 r.2])) (λr:aD×(Option Int)=>[]):=⟨λh=>Cs h,call186⟩
instance aMe {a0}:MC (fK a0) prog 230 [sJ a0] (λr=>(aP r)) (λr=>[]):=
 mc [] func230 21 rfl λr S w hF=>by
  unfold fK;exact gw
instance J4 {a0}:MC (kS a0) prog 233 [.v (Fu.qh iV) a0] (λr=>(.ref 0)) (λr=>[(0,.arr 99 iV r)]):=
 mc [2,5] func233 8 rfl λr S w hF=>by
  unfold kS;exact gw
theorem lV{u:Iv}{r:Iv}(h:aM u=some r):O4 prog 233 [.v (Fu.sl Q5) u] (.ref 0) [(0,.arr 99 Q5 r)]:=
 qN λb A=>J4.E0 (by cases b with | true=>rw[A rfl] at h ⊢;exact h | false=>exact Bu h)
instance ga {a0:Iv}:MC (aM a0) prog 233 [.v (Fu.sl Q5) a0] (λr:Iv=>(.ref 0)) (λr:Iv=>[(0,.arr 99 Q5 r)]):=⟨λh=>lV h,call233⟩
instance aOo {a0}:MC (qR a0) prog 255 [IM a0] (λr=>(.agg [.ref 0,.ref 1,aP r.2.2])) (λr=>[(0,.arr 65 aK r.1),(1,.arr 99 iV r.2.1)]):=
 mc [] func255 12 rfl λr S w hF=>by
  unfold qR;exact gw
instance xx {q7 w7 zf}:F6 (iQ q7 w7 zf) prog 256 [.ptr 9000 0] (λA=>(l1q 9000 8950 8951 A zf q7 w7)) (λr=>(iW r.1)) (λA r=>(l1q 9000 8910 8911 A r.2.2.2 r.2.1 r.2.2.1)):=
 sD [] func256 21 rfl λA r S w R hF=>by
  unfold iQ;refine gr ?_;intro L7;exact GW.jn (λx4:Int=>⟨[(0,.ptr 9000 0)],(l1q 9000 8950 8951 A x4 q7 w7)⟩) rfl (λ_=>gw) _ _ (λ_ _=>gw) λ_ _=>gw
instance aOp {a0 a1 a2}:MC (qS a0 a1 a2) prog 252 [IM a0,aP a1,sJ a2] (λr=>(.q9 [IM r.1,iW r.2])) (λr=>[]):=
 mc [9014,9025,9031,9038] func252 49 rfl λr S w hF=>by
  unfold qS;refine gr ?_;intro v1 H9;refine GW.cf rfl (λL0=>?_) λL0=>?_
  ·refine gr ?_;refine GJ.ox (dR (new:=[(14,.arr 99 iV [])]) Fy (.cons (Z.sl aK) (.ref 14 rfl (.cons zI .nil))) (.cons .nil) rfl .nil) ?_;exact gw
  refine gr ?_;intro x4;refine GW.cf rfl (λcw=>?_) λcw=>?_
  ·refine gr ?_;refine GJ.ox (dR (new:=[(25,.arr 99 iV [])]) Fy (.cons (Z.sl aK) (.ref 25 rfl (.cons zI .nil))) (.cons .nil) rfl .nil) ?_;exact gw
  refine gr ?_;refine GW.cf rfl (λlg=>?_) λlg=>?_
  ·refine gr ?_;refine GJ.ox (dR (new:=[(31,.arr 99 iV [])]) Fy (.cons (Z.sl aK) (.ref 31 rfl (.cons zI .nil))) (.cons .nil) rfl .nil) ?_;exact gw
  refine gr ?_;intro v8 hv8 v9 hv9;refine GW.cf rfl (λwu=>?_) λ_=>gw;refine gr ?_;refine GJ.ox (dR (new:=[(38,.arr 99 iV [])]) Fy (.cons (Z.sl aK) (.ref 38 rfl (.cons zI .nil))) (.cons .nil) rfl .nil) ?_;exact gw
instance tr {q7 w7 a1 a2}:F6 (cP q7 w7 a1 a2) prog 235 [.ptr 9000 0,aP a1,sJ a2] (λA=>[(9000,kZ q7 w7 (some (A 9000)))]) (λr=>(iW r.1)) (λA r=>[(9000,kZ r.2.1 r.2.2 (some (A 9000)))]):=
 sD [] func235 26 rfl λA r S w R hF=>by
  unfold cP;refine gr ?_;intro v1 H9;exact GW.jn (λx4=>⟨[(0,.ptr 9000 0),(8,iW v1.2)],[(9000,kZ q7 x4 (some (A 9000)))]⟩) rfl (λ_=>gw) _ _ (λ_ _=>gw) λ_ _=>gw
instance J7 {q7 w7}:F6 (fQ q7 w7) prog 226 [.ptr 9000 0] (λA=>[(9000,kZ q7 w7 (some (A 9000))),(9100,.box 134 [.ptr 9000 0] (some (A 9100)))]) (λr=>(iW r.1)) (λA r=>[(9000,kZ r.2.1 r.2.2 (some (A 9000))),(9100,.box 134 [.ptr 9000 0] (some (A 9100)))]):=
 sD [7009071] func226 73 rfl λA r S w R hF=>by
  unfold fQ;refine gr ?_;intro v1 H9;refine GW.lp (λdy=>⟨[(0,.ptr 9000 0),(3,.ptr 3 0),(4,iW dy.1),(5,aP dy.2.1)],[(9000,kZ dy.2.2.1 dy.2.2.2 (some (A 9000))),(3,.box 65 [sJ v1.1]),(9100,.box 134 [.ptr 9000 0] (some (A 9100)))]⟩) (λx51=>⟨[(0,.ptr 9000 0),(4,iW x51.1)],[(9000,kZ x51.2.1 x51.2.2 (some (A 9000))),(9100,.box 134 [.ptr 9000 0] (some (A 9100)))]⟩) sb (λ_ bYd dy r50=>?_) λ_=>gw;refine gr ?_;intro x54;refine GW.cf rfl (λcAm=>?_) λ_=>gw;refine gr ?_;intro v58 bXp;exact GW.jn (λx62=>⟨[(0,.ptr 9000 0),(3,.ptr 3 0),(4,iW x62.1),(5,aP dy.2.1),(6,.ptr 6 0),(7,.ptr 7 0)],[(9000,kZ dy.2.2.1 dy.2.2.2 (some (A 9000))),(3,.box 65 [sJ v1.1]),(6,.box 65 [sJ v58.1]),(7,.box 65 [sJ x62.2]),(9100,.box 134 [.ptr 9000 0] (some (A 9100)))]⟩) rfl (λ_=>gw) _ _ (λ_ _=>gw) λ_ _=>gw
instance aOq {a0}:MC (qT a0) prog 250 [IM a0] (λr=>(.q9 [IM r.1,iW r.2])) (λr=>[]):=
 mc [39036] func250 38 rfl λr S w hF=>by
  unfold qT;refine gr ?_;intro v1 H9 L0 v3 nt v4 hv4 xr;refine GW.lp (λs14=>⟨[(1,.ptr 1 0),(2,.ptr 2 0),(22,.ref 25211),(23,aP (v4.2.2.1.length:Int)),(24,aP s14.1)],[(1,b1q 25210 25211 v4.2.2.2),(2,.box 247 [rI [],Dm [],aP 0]),(25211,.arr 99 iV v4.2.2.1),(25210,.arr 65 aK s14.2)]⟩) (λdu=>⟨[(1,.ptr 1 0),(2,.ptr 2 0)],[(1,b1q 25210 25211 v4.2.2.2),(2,.box 247 [rI [],Dm [],aP 0]),(25210,.arr 65 aK du),(25211,.arr 99 iV v4.2.2.1)]⟩) sb (λ_ _ _ _=>gw) λdu=>?_;refine gr ?_;refine GJ.mx (nO 5001 99 iV rfl rfl rfl rfl Fq rfl) ?_;exact gw
instance D1 {q7 w7}:F6 (dD q7 w7) prog 227 [.ptr 9000 0] (λA=>[(9000,kZ q7 w7 (some (A 9000))),(9100,.box 134 [.ptr 9000 0] (some (A 9100)))]) (λr=>(iW r.1)) (λA r=>[(9000,kZ r.2.1 r.2.2 (some (A 9000))),(9100,.box 134 [.ptr 9000 0] (some (A 9100)))]):=
 sD [] func227 20 rfl λA r S w R hF=>by
  unfold dD;refine gr ?_;intro v1 H9;exact GW.jn (λx4=>⟨[(0,.ptr 9000 0),(4,iW v1.2)],[(9000,kZ q7 x4 (some (A 9000))),(9100,.box 134 [.ptr 9000 0] (some (A 9100)))]⟩) rfl (λ_=>gw) _ _ (λ_ _=>gw) λ_ _=>gw
instance U6 {a1 rp xf}:F6 (gV a1 rp xf) prog 251 [.ptr 9100 0,.B8 xX a1] (λA=>[(9000,kZ rp xf (some (A 9000))),(9100,.box 134 [.ptr 9000 0] (some (A 9100)))]) (λr=>(iW r.1)) (λA r=>[(9000,kZ r.2.1 r.2.2 (some (A 9000))),(9100,.box 134 [.ptr 9000 0] (some (A 9100)))]):=
 sD [9010,7009011] func251 12 rfl λA r S w R hF=>by
  unfold gV;refine gr ?_;refine GP.ox (Ku (e:=xX) (zv:=0) QH Qj I5 rfl rfl (Z.arr 8 (Z.int .u8)) rfl rfl (.cons (.dir rfl) .nil)) ?_;exact gw
theorem xY(A:Nat->Nat){q n0 n1 r}(h:kG q n0 n1=some r):o8 prog [(9000,A 9000),(9100,A 9100)] (gG (A 9000) (A 9100)) q [(9000,.box 249 [.v Q0 n0,.v Q2 n1] (some (A 9000))),(9100,.box 134 [.ptr 9000 0] (some (A 9100)))] (.v Q8 r.1) [(9000,.box 249 [.v Q0 r.2.1,.v Q2 r.2.2] (some (A 9000))),(9100,.box 134 [.ptr 9000 0] (some (A 9100)))]:=by
 unfold kG at h;rcases q with z | z
 ·exact(o8.l (o8.iz .nil (.pr (.O3 (i:=9100) (by simp)) .pt) call251 (U6.E0 A h)))
 ·exact(o8.r (o8.iz (.O3 (i:=9000) (by simp)) .nil UM (D1.E0 A h)))
theorem tB(A:Nat->Nat){u B3 M3 r}(h:fD u B3 M3=some r):A3 prog 225 [.v (Fu.sl (gG (A 9000) (A 9100))) u] [(9000,.box 249 [.v Q0 B3,.v Q2 M3] (some (A 9000))),(9100,.box 134 [.ptr 9000 0] (some (A 9100)))] (.v Q8 r.1) [(9000,.box 249 [.v Q0 r.2.1,.v Q2 r.2.2] (some (A 9000))),(9100,.box 134 [.ptr 9000 0] (some (A 9100)))]:=by
 refine A3.of func225 Y ntmps225 Y ?_;intro S w R D;unfold fD at h;refine iZ [0] ?_;refine sZ [6,7,8] ?_;obtain⟨T,M,N,O⟩:=uU h;refine Nh (σs:=λB:Int×Int×Q3=>⟨[(6,.v (Fu.sl (gG (A 9000) (A 9100))) u),(7,.v Q0 (u.length:Int)),(8,.v Q0 B.1)],[(9000,.box 249 [.v Q0 B.2.1,.v Q2 B.2.2] (some (A 9000))),(9100,.box 134 [.ptr 9000 0] (some (A 9100)))]⟩) (λC:Int×Q3=>⟨[],[(9000,.box 249 [.v Q0 C.1,.v Q2 C.2] (some (A 9000))),(9100,.box 134 [.ptr 9000 0] (some (A 9100)))]⟩) M (bQ []) ?_ ?_
 ·intro C E;have h:=N _ E;refine iZ [2] ?_;cases h;exact cN (jX D Y (RV.tmp Y) (.cons Y (.cons Y .nil)))
 intro B Q h;refine iZ [6,7,8,9] ?_;refine aQ ?_;refine lZ h Y (λF h=>?_) (λF h=>?_)
 ·refine bN ?_;refine aQ ?_;refine fC ?_;obtain⟨U,V,h⟩:=aC h;refine iZ [4,6,7,8] ?_;obtain⟨X,P,h⟩:=aC h;refine fH (.a 1 ?_);refine .t (Ky (H:=[9000,9100]) (K:=[9000,9100]) [(9000,A 9000),(9100,A 9100)] (Sz [(9000,9000),(9100,9100)]) (mH _) Y ⟨⟨_,_,Y⟩,⟨_,_,Y⟩,trivial⟩ (o8.at2 (e:=gG) (A 9000) (A 9100) (λG=>xY G P)) (λ_=> .box Y (.box Y .nil)) (λ_=> .box Y (.box Y .nil Y) Y) (λ_=>rfl) Y Y (λ_=>rfl) Y Y) (.f [5,6,7,8] ?_);refine iZ [5,6,7,8,15] ?_;refine lZ h Y (λI h=>?_) (λI h=>?_)
  ·refine iZ [2] ?_;refine cN ?_;refine xQ ?_;cases h;refine yX λL=>?_;obtain rfl:=O _ L;exact jX D Y (RV.tmp Y) (.cons Y (.cons Y .nil))
  refine bN ?_;refine kE ?_;refine qA [6,7,8] ?_;cases h;exact vH (bQ [])
 cases h;exact tF (wM (bQ []))
end
section
set_option maxHeartbeats 4000000
set_option maxRecDepth 100000
variable {gobj:List Obj} [GO gobj]
theorem yQ(A:Nat->Nat){q7 w7 u r}(h:dM q7 w7 u=some r):A3 prog 229 [.ptr 9000 0,.v (Fu.int .u8) u] [(9000,.box 249 [.v Q0 q7,.v Q2 w7] (some (A 9000)))] (.v Q8 r.1) [(9000,.box 249 [.v Q0 r.2.1,.v Q2 r.2.2] (some (A 9000)))]:=by
 refine A3.of func229 Y ntmps229 Y ?_;intro S w R B;unfold dM at h;refine fH (.k (Gq 2 Y Y) (.k (Ge 3 Y sO Y) (.f [0,2,3] ?_)));refine BS (i:=2) Y λc1=>?_;refine vI (O':=⟨[(0,.ptr 9000 0),(2,.ptr 2 0),(3,.ptr 3 0)],[(9000,.box 249 [.v Q0 q7,.v Q2 w7] (some (A 9000))),(2,.box 134 [.ptr 9000 0] (some (c1))),(3,.box 5 [.v (Fu.int .u8) u])]⟩) (bQ []) ?_;obtain⟨G,F,h⟩:=aC h;refine fH (.sub (O':=⟨[(0,.ptr 9000 0),(2,.ptr 2 0),(3,.B8 (Fu.int .u8) u)],[(9000,.box 249 [.v Q0 q7,.v Q2 w7] (some (A 9000))),(2,.box 134 [.ptr 9000 0] (some (c1)))]⟩) (Sw.Sub.mk id (.cons Y (.of_eq Y) (.cons Y (.of_eq Y) (.cons Y (.fx Y Y (.cons (.of_eq Y) .nil) sO) .nil))) (.box Y (.cons (.of_eq Y) (.cons (.of_eq Y) .nil)) (.box Y (.cons (.of_eq Y) .nil) .nil)) Y) (.k (mU .nil (.cons (.O3 Y Y) (.B8 Y)) (.l .self)) (.k (gK Y Y Y Sr Np) (.k (mU (.O3 Y Y) .nil (.r .self)) (.k (rZ (e:=(gG (A 9000) (c1))) Sv Ss IA Y Y Y Y (.cons (.dir Y) (.cons (.dir Y) .nil))) (.t (Gr (H:=[9000,2]) (K:=[9000,2]) [(9000,A 9000),(9100,c1)] (Sz [(9000,9000),(9100,2)]) (mH _) ⟨⟨_,_,Y⟩,⟨_,_,Y⟩,trivial⟩ (A3.at2 (ss:=λC D=>[.v (Fu.sl (gG C D)) ([(.inl ((),((),u)):bW),(.inr ((),()):bW)]:(List bW))]) (A 9000) c1 (λE=>tB E F)) call225 (.cons (.dir Y) .nil) (λ_=> .box Y (.box Y .nil)) (λ_=> .box Y (.box Y .nil Y) Y) (λ_=>rfl) Y Y (λ_=>rfl) Y Y) (.f [0,4] ?_)))))));cases h;exact cN (jX B Y (RV.tmp Y) (.cons Y .nil))
instance si {q7:Int} {w7:Q3} {a1:Int}:F6 (dM q7 w7 a1) prog 229 [.ptr 9000 0,.v (Fu.int .u8) a1] (λA=>[(9000,.box 249 [.v Q0 q7,.v Q2 w7] (some (A 9000)))]) (λr:(Option Int)×Int×Q3=>(.v Q8 r.1)) (λA (r:(Option Int)×Int×Q3)=>[(9000,.box 249 [.v Q0 r.2.1,.v Q2 r.2.2] (some (A 9000)))]):=⟨λA {_} h=>yQ A h,call229⟩
instance P8 {B3 M3}:F6 (lB B3 M3) prog 228 [.ptr 9100 0] (λA=>[(9000,kZ B3 M3 (some (A 9000))),(9100,.box 134 [.ptr 9000 0] (some (A 9100)))]) (λr=>(iW r.1)) (λA r=>[(9000,kZ r.2.1 r.2.2 (some (A 9000))),(9100,.box 134 [.ptr 9000 0] (some (A 9100)))]):=
 sD [] func228 4 rfl λA r S w R hF=>by
  unfold lB;exact gw
theorem wS(A:Nat->Nat){q n0 n1 r}(h:mB q n0 n1=some r):o8 prog [(9000,A 9000),(9100,A 9100)] (eX (A 9000) (A 9100)) q [(9000,.box 249 [.v Q0 n0,.v Q2 n1] (some (A 9000))),(9100,.box 134 [.ptr 9000 0] (some (A 9100)))] (.v Q8 r.1) [(9000,.box 249 [.v Q0 r.2.1,.v Q2 r.2.2] (some (A 9000))),(9100,.box 134 [.ptr 9000 0] (some (A 9100)))]:=by
 unfold mB at h;rcases q with z | z | z
 ·exact(o8.l (o8.iz (.O3 (i:=9000) (by simp)) .nil call226 (J7.E0 A h)))
 ·exact(o8.r (o8.l (o8.iz (.O3 (i:=9000) (by simp)) .nil UM (D1.E0 A h))))
 ·exact(o8.r (o8.r (o8.iz .nil (.O3 (i:=9100) (by simp)) call228 (P8.E0 A h))))
theorem rT(A:Nat->Nat){u B3 M3 r}(h:hO u B3 M3=some r):A3 prog 225 [.v (Fu.sl (eX (A 9000) (A 9100))) u] [(9000,.box 249 [.v Q0 B3,.v Q2 M3] (some (A 9000))),(9100,.box 134 [.ptr 9000 0] (some (A 9100)))] (.v Q8 r.1) [(9000,.box 249 [.v Q0 r.2.1,.v Q2 r.2.2] (some (A 9000))),(9100,.box 134 [.ptr 9000 0] (some (A 9100)))]:=by
 refine A3.of func225 Y ntmps225 Y ?_;intro S w R D;unfold hO at h;refine iZ [0] ?_;refine sZ [6,7,8] ?_;obtain⟨T,M,N,O⟩:=uU h;refine Nh (σs:=λB:Int×Int×Q3=>⟨[(6,.v (Fu.sl (eX (A 9000) (A 9100))) u),(7,.v Q0 (u.length:Int)),(8,.v Q0 B.1)],[(9000,.box 249 [.v Q0 B.2.1,.v Q2 B.2.2] (some (A 9000))),(9100,.box 134 [.ptr 9000 0] (some (A 9100)))]⟩) (λC:Int×Q3=>⟨[],[(9000,.box 249 [.v Q0 C.1,.v Q2 C.2] (some (A 9000))),(9100,.box 134 [.ptr 9000 0] (some (A 9100)))]⟩) M (bQ []) ?_ ?_
 ·intro C E;have h:=N _ E;refine iZ [2] ?_;cases h;exact cN (jX D Y (RV.tmp Y) (.cons Y (.cons Y .nil)))
 intro B Q h;refine iZ [6,7,8,9] ?_;refine aQ ?_;refine lZ h Y (λF h=>?_) (λF h=>?_)
 ·refine bN ?_;refine aQ ?_;refine fC ?_;obtain⟨U,V,h⟩:=aC h;refine iZ [4,6,7,8] ?_;obtain⟨X,P,h⟩:=aC h;refine fH (.a 1 ?_);refine .t (Ky (H:=[9000,9100]) (K:=[9000,9100]) [(9000,A 9000),(9100,A 9100)] (Sz [(9000,9000),(9100,9100)]) (mH _) Y ⟨⟨_,_,Y⟩,⟨_,_,Y⟩,trivial⟩ (o8.at2 (e:=eX) (A 9000) (A 9100) (λG=>wS G P)) (λ_=> .box Y (.box Y .nil)) (λ_=> .box Y (.box Y .nil Y) Y) (λ_=>rfl) Y Y (λ_=>rfl) Y Y) (.f [5,6,7,8] ?_);refine iZ [5,6,7,8,15] ?_;refine lZ h Y (λI h=>?_) (λI h=>?_)
  ·refine iZ [2] ?_;refine cN ?_;refine xQ ?_;cases h;refine yX λL=>?_;obtain rfl:=O _ L;exact jX D Y (RV.tmp Y) (.cons Y (.cons Y .nil))
  refine bN ?_;refine kE ?_;refine qA [6,7,8] ?_;cases h;exact vH (bQ [])
 cases h;exact tF (wM (bQ []))
theorem wZ(A:Nat->Nat){q7 w7 r}(h:eY q7 w7=some r):A3 prog 198 [.ptr 9000 0] [(9000,.box 249 [.v Q0 q7,.v Q2 w7] (some (A 9000)))] (.v Q8 r.1) [(9000,.box 249 [.v Q0 r.2.1,.v Q2 r.2.2] (some (A 9000)))]:=by
 refine A3.of func198 Y ntmps198 Y ?_;intro S w R C;unfold eY at h;refine fH (.k (Gq 1 Y Y) (.f [0,1] ?_));refine BS (i:=1) Y λc1=>?_;refine vI (O':=⟨[(0,.ptr 9000 0),(1,.ptr 1 0)],[(9000,.box 249 [.v Q0 q7,.v Q2 w7] (some (A 9000))),(1,.box 134 [.ptr 9000 0] (some (c1)))]⟩) (bQ []) ?_;refine aQ ?_;obtain⟨L,M,h⟩:=aC h;refine Af 16 mixed (by exact(.k (gK Y Y Y Sr Np) (.k (iO Y) (.k (cB 1 Y AG Y HX Y Y) (.k (gK Y Y Y UN HX) (.k (gK Y Y Y Sr Np) (.k (iO Y) (.k (cB 0 Y AG Y S3 Y Y) (.k (gK Y Y Y G3 S3) (.k (lI Y Y Y) (.k (cQ (Cs M) call186 (.cons (.dir Y) (.cons (.dir Y) .nil))) (.k (aZ Y) (.k (iB Y Y) (.k (iB Y Y) (.k (dV 3 QI Y (.cons (Z.arr 8 (Z.int .u8)) .nil) Y) (E9.store (.none Y) Y Y Y Y Y Y Y Su (.k (dJ Y) .nil))))))))))))))))) (by exact(J.kp [0,1,3,4] [])) ?_;refine aQ ?_;refine aQ ?_;obtain⟨N,u,h⟩:=aC h;refine pS (O':=⟨[(0,.ptr 9000 0),(1,.ptr 1 0),(4,.v Q8 L.2),(24,.v Fu.bool N)],[(9000,.box 249 [.v Q0 q7,.v Q2 w7] (some (A 9000))),(1,.box 134 [.ptr 9000 0] (some (c1)))]⟩) ?_ ?_
 ·refine cd u (λB u=>?_) (λB u=>?_)
  ·cases u;exact jy
  obtain⟨P,D,u⟩:=aC u;cases u;refine ja 3 ?_;exact(J.g B (Nz D Y Y Y Y Qj S5) (J.g B (Ki (iX D).2.2 Y Y Y G5 S5) jy))
 refine lZ h Y (λE h=>?_) (λE h=>?_)
 ·refine iZ [0,2] ?_;cases h;exact cN (jX C Y (RV.tmp Y) (.cons Y .nil))
 refine bN ?_;obtain⟨Q,O,h⟩:=aC h;refine fH (.a 1 ?_);refine .k (mU (.O3 Y Y) .nil (.l .self)) (.k (gK Y Y Y Sr Np) (.k (mU (.O3 Y Y) .nil (.r (.l .self))) (.k (mU .nil (.O3 Y Y) (.r (.r .self))) (.k (rZ (e:=(eX (A 9000) (c1))) Sv Ss IA Y Y Y Y (.cons (.dir Y) (.cons (.dir Y) (.cons (.dir Y) .nil)))) (.t (Gr (H:=[9000,1]) (K:=[9000,1]) [(9000,A 9000),(9100,c1)] (Sz [(9000,9000),(9100,1)]) (mH _) ⟨⟨_,_,Y⟩,⟨_,_,Y⟩,trivial⟩ (A3.at2 (ss:=λF G=>[.v (Fu.sl (eX F G)) ([(.inl ((),()):bS),(.inr (.inl ((),())):bS),(.inr (.inr ((),())):bS)]:(List bS))]) (A 9000) c1 (λI=>rT I O)) call225 (.cons (.dir Y) .nil) (λ_=> .box Y (.box Y .nil)) (λ_=> .box Y (.box Y .nil Y) Y) (λ_=>rfl) Y Y (λ_=>rfl) Y Y) (.f [0,2] ?_))))));cases h;exact cN (jX C Y (RV.tmp Y) (.cons Y .nil))
instance pz {q7:Int} {w7:Q3}:F6 (eY q7 w7) prog 198 [.ptr 9000 0] (λA=>[(9000,.box 249 [.v Q0 q7,.v Q2 w7] (some (A 9000)))]) (λr:(Option Int)×Int×Q3=>(.v Q8 r.1)) (λA (r:(Option Int)×Int×Q3)=>[(9000,.box 249 [.v Q0 r.2.1,.v Q2 r.2.2] (some (A 9000)))]):=⟨λA {_} h=>wZ A h,call198⟩
def wT(r:(Option (Int×Q3))×(Option Int)):Slot:=match r.1 with | none=> .q9 [AK none,iW r.2] | some z=> .q9 [.ptr 0 0,iW r.2]
def wU(r:(Option (Int×Q3))×(Option Int)):List (Nat×j2):=match r.1 with | none=>[] | some z=>[(0,kZ z.1 z.2)]
instance aOb {a0 a1}:MC (kH a0 a1) prog 154 [IM a0,aP a1] (λr=>(wT r)) (λr=>(wU r)):=
 mc [9040,29004] func154 52 rfl λr S w hF=>by
  unfold kH;refine gr ?_;refine GJ.ox (iF Dl) ?_;refine gj ?_;intro v1 H9;refine GW.cf rfl (λL0=>?_) λL0=>?_
  ·refine gr ?_;refine GJ.ox (iF Dl) ?_;exact gw
  refine gr ?_;intro v3 nt x6;refine GW.cf rfl (λhc9=>?_) λhc9=>?_
  ·refine gr ?_;refine GJ.ox (iF Dl) ?_;exact gw
  refine gr ?_;refine GP.bf λv11 wk=>?_;refine GP.ox (On (pK 40300 (MC.E0 wk) UK (.cons (.dir rfl) .nil) rfl) (λ_=>(Sw.Sub.mk id (.cons rfl (.oh rfl rfl) .nil) .nil rfl)) rfl) ?_;refine gp ?_;intro v12 aNi;refine GW.cf rfl (λbC5=>?_) λ_=>gw;refine gr ?_;refine GJ.ox (iF Dl) ?_;exact gw
theorem uL{u:Q3}{A:Int}{r:(Option (Int×Q3))×(Option Int)}(hz:r.1=none)(h:kH u A=some r):O4 prog 154 [IM u,aP A] (.q9 [AK none,iW r.2]) []:=by
 have:=MC.E0 h;unfold wT wU at this;rw[hz] at this;exact this
theorem uM{u:Q3}{A:Int}{r:(Option (Int×Q3))×(Option Int)}{z:(Int×Q3)}(hz:r.1=some z)(h:kH u A=some r):O4 prog 154 [IM u,aP A] (.q9 [.ptr 0 0,iW r.2]) [(0,kZ z.1 z.2)]:=by
 have:=MC.E0 h;unfold wT wU at this;rw[hz] at this;exact this
def uN(r:(Option (Int×Q3))×(Option Int)):Slot:=match r.1 with | none=> .q9 [AK none,iW r.2] | some z=> .q9 [.ptr 0 0,iW r.2]
def uO(r:(Option (Int×Q3))×(Option Int)):List (Nat×j2):=match r.1 with | none=>[] | some z=>[(0,kZ z.1 z.2)]
instance aLi {a0}:MC (iG a0) prog 130 [aP a0] (λr=>(uN r)) (λr=>(uO r)):=
 mc [9016,29002] func130 19 rfl λr S w hF=>by
  unfold iG;refine gr ?_;refine GJ.ox (iF Dl) ?_;refine gj ?_;intro v1 H9;refine GW.cf rfl (λL0=>?_) λL0=>?_
  ·refine gr ?_;refine GJ.ox (iF Dl) ?_;exact gw
  refine gr ?_;refine GJ.bf λv3 nt=>?_;refine GJ.oc (λhz4=>?_) λz4 hz4=>?_
  ·refine GJ.ox (cQ (uL hz4 nt) HW args) ?_;exact gw
  refine GJ.ox (pK 16300 (uM hz4 nt) HW args rfl) ?_;exact gw
theorem sL{u:Int}{r:(Option (Int×Q3))×(Option Int)}(hz:r.1=none)(h:iG u=some r):O4 prog 130 [aP u] (.q9 [AK none,iW r.2]) []:=by
 have:=MC.E0 h;unfold uN uO at this;rw[hz] at this;exact this
theorem sN{u:Int}{r:(Option (Int×Q3))×(Option Int)}{z:(Int×Q3)}(hz:r.1=some z)(h:iG u=some r):O4 prog 130 [aP u] (.q9 [.ptr 0 0,iW r.2]) [(0,kZ z.1 z.2)]:=by
 have:=MC.E0 h;unfold uN uO at this;rw[hz] at this;exact this
instance vd {a0}:MC (eO a0) prog 199 [.B8 Dl a0] (λr=>(.q9 [aP r.1,aP r.2.1,iW r.2.2])) (λr=>[]):=
 mc [9023,9025,500004] func199 29 rfl λr S w hF=>by
  unfold eO;refine gr ?_;intro v1 H9 L0;refine GW.fb 5 ?_;refine Us ?_;refine gp ?_;intro v4 hv4;refine GP.bf λv5 hv5=>?_;refine GP.ox (Ym hv5 rfl rfl rfl Qj S5) ?_;refine gp ?_;intro v6 hv6;refine GP.bf λv7 hv7=>?_;refine GP.ox (Jj hv7 (BT hv5) rfl (.sl rfl) Xp I5 S5 rfl rfl rfl) ?_;exact gw
instance tu {a0 a1}:MC (iH a0 a1) prog 231 [VI a0,.B8 PG a1] (λr=>(wH r)) (λr=>[]):=
 mc [] func231 16 rfl λr S w hF=>by
  unfold iH;exact gw
instance N6 {a0 B3}:MC (bH a0 B3) prog 249 [Dm a0,.G0 231 [.B8 PG B3]] (λr=>(aP r)) (λr=>[]):=
 mc [] func249 19 rfl λr S w hF=>by
  unfold bH;refine gr ?_;exact GW.lp (λy6:Int=>⟨[(0,Dm a0),(1,.G0 231 [.B8 PG B3]),(7,aP (a0.length:Int)),(8,aP y6)],[]⟩) (λD4:Unit=>⟨[],[]⟩) sb (λ_ _ _ _=>gw) λ_=>gw
instance B9 {a0 B3}:MC (aT a0 B3) prog 223 [Dm a0,.G0 231 [.B8 PG B3]] (λr=>(wH r)) (λr=>[]):=
 mc [] func223 9 rfl λr S w hF=>by
  unfold aT;exact gw
instance X5 {a0}:MC (jM a0) prog 232 [aP a0] (λr=>(sJ r)) (λr=>[]):=
 mc [9014] func232 15 rfl λr S w hF=>by
  unfold jM;refine gr ?_;refine GJ.ox (Ku (e:=xX) (zv:=0) QH Qj I5 rfl rfl (Z.arr 8 (Z.int .u8)) rfl rfl (.cons (.dir rfl) (.cons (.dir rfl) (.cons (.dir rfl) (.cons (.dir rfl) .nil))))) ?_;exact gw
instance R4 {a1 rp xf}:F6 (fV a1 rp xf) prog 234 [.ptr 9100 0,.B8 Xf a1] (λA=>[(9000,kZ rp xf (some (A 9000))),(9100,.box 134 [.ptr 9000 0] (some (A 9100)))]) (λr=>(iW r.1)) (λA r=>[(9000,kZ r.2.1 r.2.2 (some (A 9000))),(9100,.box 134 [.ptr 9000 0] (some (A 9100)))]):=
 sD [7009012] func234 13 rfl λA r S w R hF=>by
  unfold fV;exact gw
instance R3 {a1 a2 rm xe}:F6 (fW a1 a2 rm xe) prog 236 [.ptr 9100 0,.B8 dX a1,.B8 iV a2] (λA=>[(9000,kZ rm xe (some (A 9000))),(9100,.box 134 [.ptr 9000 0] (some (A 9100)))]) (λr=>(iW r.1)) (λA r=>[(9000,kZ r.2.1 r.2.2 (some (A 9000))),(9100,.box 134 [.ptr 9000 0] (some (A 9100)))]):=
 sD [7009016] func236 17 rfl λA r S w R hF=>by
  unfold fW;exact gw
instance R2 {a1 a2 rm xe}:F6 (fX a1 a2 rm xe) prog 237 [.ptr 9100 0,.B8 dX a1,.B8 iV a2] (λA=>[(9000,kZ rm xe (some (A 9000))),(9100,.box 134 [.ptr 9000 0] (some (A 9100)))]) (λr=>(iW r.1)) (λA r=>[(9000,kZ r.2.1 r.2.2 (some (A 9000))),(9100,.box 134 [.ptr 9000 0] (some (A 9100)))]):=
 sD [7009015] func237 16 rfl λA r S w R hF=>by
  unfold fX;exact gw
instance R0 {B3 M3}:F6 (fY B3 M3) prog 238 [.ptr 9100 0] (λA=>[(9000,kZ B3 M3 (some (A 9000))),(9100,.box 134 [.ptr 9000 0] (some (A 9100)))]) (λr=>(iW r.1)) (λA r=>[(9000,kZ r.2.1 r.2.2 (some (A 9000))),(9100,.box 134 [.ptr 9000 0] (some (A 9100)))]):=
 sD [] func238 4 rfl λA r S w R hF=>by
  unfold fY;exact gw
instance P9 {B3 M3}:F6 (fZ B3 M3) prog 239 [.ptr 9100 0] (λA=>[(9000,kZ B3 M3 (some (A 9000))),(9100,.box 134 [.ptr 9000 0] (some (A 9100)))]) (λr=>(iW r.1)) (λA r=>[(9000,kZ r.2.1 r.2.2 (some (A 9000))),(9100,.box 134 [.ptr 9000 0] (some (A 9100)))]):=
 sD [] func239 4 rfl λA r S w R hF=>by
  unfold fZ;exact gw
theorem wV(A:Nat->Nat){q n0 n1 r}(h:gI q n0 n1=some r):o8 prog [(9000,A 9000),(9100,A 9100)] (aJ (A 9000) (A 9100)) q [(9000,.box 249 [.v Q0 n0,.v Q2 n1] (some (A 9000))),(9100,.box 134 [.ptr 9000 0] (some (A 9100)))] (.v Q8 r.1) [(9000,.box 249 [.v Q0 r.2.1,.v Q2 r.2.2] (some (A 9000))),(9100,.box 134 [.ptr 9000 0] (some (A 9100)))]:=by
 unfold gI at h;rcases q with z | z | z | z | z | z | z | z
 ·exact(o8.l (o8.iz .nil (.pr (.O3 (i:=9100) (by simp)) .pt) call234 (R4.E0 A h)))
 ·exact(o8.r (o8.l (o8.iz .nil (.pr (.O3 (i:=9100) (by simp)) (.pr .pt .pt)) call236 (R3.E0 A h))))
 ·exact(o8.r (o8.r (o8.l (o8.iz .nil (.pr (.O3 (i:=9100) (by simp)) (.pr .pt .pt)) call237 (R2.E0 A h)))))
 ·exact(o8.r (o8.r (o8.r (o8.l (o8.iz (.O3 (i:=9000) (by simp)) .nil UM (D1.E0 A h))))))
 ·exact(o8.r (o8.r (o8.r (o8.r (o8.l (o8.iz .nil (.O3 (i:=9100) (by simp)) call238 (R0.E0 A h)))))))
 ·exact(o8.r (o8.r (o8.r (o8.r (o8.r (o8.l (o8.iz (.O3 (i:=9000) (by simp)) .nil call226 (J7.E0 A h))))))))
 ·exact(o8.r (o8.r (o8.r (o8.r (o8.r (o8.r (o8.l (o8.iz (.O3 (i:=9000) (by simp)) .nil UM (D1.E0 A h)))))))))
 ·exact(o8.r (o8.r (o8.r (o8.r (o8.r (o8.r (o8.r (o8.iz .nil (.O3 (i:=9100) (by simp)) call239 (P9.E0 A h)))))))))
theorem rU(A:Nat->Nat){u B3 M3 r}(h:dA u B3 M3=some r):A3 prog 225 [.v (Fu.sl (aJ (A 9000) (A 9100))) u] [(9000,.box 249 [.v Q0 B3,.v Q2 M3] (some (A 9000))),(9100,.box 134 [.ptr 9000 0] (some (A 9100)))] (.v Q8 r.1) [(9000,.box 249 [.v Q0 r.2.1,.v Q2 r.2.2] (some (A 9000))),(9100,.box 134 [.ptr 9000 0] (some (A 9100)))]:=by
 refine A3.of func225 Y ntmps225 Y ?_;intro S w R D;unfold dA at h;refine iZ [0] ?_;refine sZ [6,7,8] ?_;obtain⟨T,M,N,O⟩:=uU h;refine Nh (σs:=λB:Int×Int×Q3=>⟨[(6,.v (Fu.sl (aJ (A 9000) (A 9100))) u),(7,.v Q0 (u.length:Int)),(8,.v Q0 B.1)],[(9000,.box 249 [.v Q0 B.2.1,.v Q2 B.2.2] (some (A 9000))),(9100,.box 134 [.ptr 9000 0] (some (A 9100)))]⟩) (λC:Int×Q3=>⟨[],[(9000,.box 249 [.v Q0 C.1,.v Q2 C.2] (some (A 9000))),(9100,.box 134 [.ptr 9000 0] (some (A 9100)))]⟩) M (bQ []) ?_ ?_
 ·intro C E;have h:=N _ E;refine iZ [2] ?_;cases h;exact cN (jX D Y (RV.tmp Y) (.cons Y (.cons Y .nil)))
 intro B Q h;refine iZ [6,7,8,9] ?_;refine aQ ?_;refine lZ h Y (λF h=>?_) (λF h=>?_)
 ·refine bN ?_;refine aQ ?_;refine fC ?_;obtain⟨U,V,h⟩:=aC h;refine iZ [4,6,7,8] ?_;obtain⟨X,P,h⟩:=aC h;refine fH (.a 1 ?_);refine .t (Ky (H:=[9000,9100]) (K:=[9000,9100]) [(9000,A 9000),(9100,A 9100)] (Sz [(9000,9000),(9100,9100)]) (mH _) Y ⟨⟨_,_,Y⟩,⟨_,_,Y⟩,trivial⟩ (o8.at2 (e:=aJ) (A 9000) (A 9100) (λG=>wV G P)) (λ_=> .box Y (.box Y .nil)) (λ_=> .box Y (.box Y .nil Y) Y) (λ_=>rfl) Y Y (λ_=>rfl) Y Y) (.f [5,6,7,8] ?_);refine iZ [5,6,7,8,15] ?_;refine lZ h Y (λI h=>?_) (λI h=>?_)
  ·refine iZ [2] ?_;refine cN ?_;refine xQ ?_;cases h;refine yX λL=>?_;obtain rfl:=O _ L;exact jX D Y (RV.tmp Y) (.cons Y (.cons Y .nil))
  refine bN ?_;refine kE ?_;refine qA [6,7,8] ?_;cases h;exact vH (bQ [])
 cases h;exact tF (wM (bQ []))
end
section
set_option maxHeartbeats 4000000
set_option maxRecDepth 100000
variable {gobj:List Obj} [GO gobj]
theorem xA(A:Nat->Nat){q7 w7 D E F r}(h:bF q7 w7 D E F=some r):A3 prog 200 [.ptr 9000 0,.v (Fu.sl Q5) D,.v Q0 E,.v Q0 F] [(9000,.box 249 [.v Q0 q7,.v Q2 w7] (some (A 9000)))] (.v Q8 r.1) [(9000,.box 249 [.v Q0 r.2.1,.v Q2 r.2.2] (some (A 9000)))]:=by
 refine A3.of func200 Y ntmps200 Y ?_;intro S w R G;unfold bF at h;refine fH (.k (Gq 4 Y Y) (.f [0,1,2,3,4] ?_));refine BS (i:=4) Y λc1=>?_;refine vI (O':=⟨[(0,.ptr 9000 0),(1,.v (Fu.sl Q5) D),(2,.v Q0 E),(3,.v Q0 F),(4,.ptr 4 0)],[(9000,.box 249 [.v Q0 q7,.v Q2 w7] (some (A 9000))),(4,.box 134 [.ptr 9000 0] (some (c1)))]⟩) (bQ []) ?_;refine sZ [0,1,2,3,4,21] ?_;refine lZ h Y (λV h=>?_) (λV h=>?_)
 ·refine iZ [0,8] ?_;cases h;exact cN (jX G Y (RV.tmp Y) (.cons Y .nil))
 refine bN ?_;refine aQ ?_;refine aQ ?_;obtain⟨x6,u,h⟩:=aC h;refine pS (O':=⟨[(0,.ptr 9000 0),(1,.v (Fu.sl Q5) D),(2,.v Q0 E),(3,.v Q0 F),(4,.ptr 4 0),(37,.v Fu.bool x6)],[(9000,.box 249 [.v Q0 q7,.v Q2 w7] (some (A 9000))),(4,.box 134 [.ptr 9000 0] (some (c1)))]⟩) ?_ ?_
 ·refine cd u (λI u=>?_) (λI u=>?_)
  ·cases u;refine ja 2 ?_;exact(J.k (Bs Y Y) jy)
  refine cd u (λL u=>?_) (λL u=>?_)
  ·cases u;refine ja 2 ?_;refine(J.k (Bs Y Y) ?_);refine ja 4 ?_;exact(J.g I (Qy Y Y) jy)
  obtain⟨v9,ac,u⟩:=aC u;cases u;refine ja 2 ?_;refine(J.k (Bs Y Y) ?_);refine ja 4 ?_;refine(J.g I (Qy Y Y) ?_);refine ja 4 ?_;exact(J.g L (Hr (.cons (.dir Y) .nil)) (Nu (GK.met 33 Y Y Y L) (KG (B9.E0 ac) call223 (.cons (.dir Y) (.fn1 Y Y Y (.C8 sO sO) .nil)) D7.v Y) jy))
 refine lZ h Y (λX h=>?_) (λX h=>?_)
 ·refine iZ [0,8] ?_;cases h;exact cN (jX G Y (RV.tmp Y) (.cons Y .nil))
 refine bN ?_;obtain⟨O,wk,h⟩:=aC h;obtain⟨P,ad,h⟩:=aC h;refine fH (.a 1 ?_);refine .k (cQ (X5.E0 wk) call232 (.cons (.dir Y) .nil)) ?_;refine .a 1 ?_;refine .k (cQ (X5.E0 ad) call232 (.cons (.dir Y) .nil)) (.k (dV 9 QI Y (.cons (Z.arr 8 (Z.int .u8)) .nil) Y) (.k (dV 10 QI Y (.cons (Z.arr 8 (Z.int .u8)) .nil) Y) (.f [0,1,4,9,10] ?_)));refine aQ ?_;refine vI (O':=⟨[(0,.ptr 9000 0),(1,.v (Fu.sl Q5) D),(4,.ptr 4 0),(9,.B8 aK O),(10,.ptr 10 0)],[(9000,.box 249 [.v Q0 q7,.v Q2 w7] (some (A 9000))),(4,.box 134 [.ptr 9000 0] (some (c1))),(10,.box 65 [.v aK P])]⟩) (Sw.Sub.mk id (.cons Y (.of_eq Y) (.cons Y (.of_eq Y) (.cons Y (.of_eq Y) (.cons Y (.fx Y Y (.cons (.of_eq Y) .nil) sO) (.cons Y (.of_eq Y) .nil))))) (.box Y (.cons (.of_eq Y) (.cons (.of_eq Y) .nil)) (.box Y (.cons (.of_eq Y) .nil) (.box Y (.cons (.of_eq Y) .nil) .nil))) Y) ?_;refine vI (O':=⟨[(0,.ptr 9000 0),(1,.v (Fu.sl Q5) D),(4,.ptr 4 0),(9,.B8 aK O),(10,.B8 aK P)],[(9000,.box 249 [.v Q0 q7,.v Q2 w7] (some (A 9000))),(4,.box 134 [.ptr 9000 0] (some (c1)))]⟩) (Sw.Sub.mk id (.cons Y (.of_eq Y) (.cons Y (.of_eq Y) (.cons Y (.of_eq Y) (.cons Y (.of_eq Y) (.cons Y (.fx Y Y (.cons (.of_eq Y) .nil) sO) .nil))))) (.box Y (.cons (.of_eq Y) (.cons (.of_eq Y) .nil)) (.box Y (.cons (.of_eq Y) .nil) .nil)) Y) ?_;obtain⟨vu,ae,h⟩:=aC h;obtain⟨av,Q,h⟩:=aC h;obtain⟨aw,af,h⟩:=aC h;obtain⟨pg,ai,h⟩:=aC h;obtain⟨ax,aj,h⟩:=aC h;obtain⟨C,ak,h⟩:=aC h;refine Af 16 mixed (by exact(.k (aZ Y) (.k (pK 44300 (lV ae) call233 (.cons (.dir Y) .nil) Y) (.k (gK Y Y Y Sr Np) (.k (iO Y) (.k (cB 0 Y AG Y S3 Y Y) (.k (gK Y Y Y G3 S3) (.k (FE Q Y Y Y Y Qj S5) (.k (Ot af Y Y Y Qj S5) (.k (Jj ai (BT Q) Y (.sl Y) Xp I5 S5 Y Y Y) (.k (Br aj Y Qj) (.k (rY Y UO Su) (.k (dP DY (.cons zI (.cons (Z.arr 8 (Z.int .u8)) .nil)) (.cons Y (.dir Y) Y Y Y Y (.cons Y (.dir Y) Y Y Y Y .nil))) (.k (rZ (e:=Q5) uJ Gb Z99 Y Y Y Y (.cons (.agg Y (.same (.same .nil)) (.C8 sO sO) Y) .nil)) (E9.append (.none Y) 56 ak Y Y (.sl Y) uJ ZS Gb Y Y Y Y Y (.k (dV 11 zeroValue114 Y (.cons (Z.sl Q5) .nil) Y) (E9.store (.none Y) Y Y Y Y Y Y Y Fq .nil))))))))))))))))) (by exact(J.kp [0,4,11] [])) ?_;refine fH (.sub (O':=⟨[(0,.ptr 9000 0),(4,.ptr 4 0),(11,.B8 (Fu.sl Q5) C)],[(9000,.box 249 [.v Q0 q7,.v Q2 w7] (some (A 9000))),(4,.box 134 [.ptr 9000 0] (some (c1)))]⟩) (Sw.Sub.mk id (.cons Y (.of_eq Y) (.cons Y (.of_eq Y) (.cons Y (.fx Y Y (.cons (.oh Y Y) .nil) sO) .nil))) (.box Y (.cons (.of_eq Y) (.cons (.of_eq Y) .nil)) (.box Y (.cons (.of_eq Y) .nil) .nil)) Y) (.k (mU .nil (.cons (.O3 Y Y) (.B8 Y)) (.l .self)) (.k (BF (e:=(aJ (A 9000) (c1))) 58 Sv Ss IA Y Y Y Y (.cons (.dir Y) .nil)) (.f [0,4,11,12] ?_))));refine sZ [0,4,12,59,60,61] ?_;obtain⟨ay,al,an,az⟩:=uU h;refine Nh (σs:=λB:Int×(List aA)=>⟨[(0,.ptr 9000 0),(4,.ptr 4 0),(12,.ref 5004),(59,.v (Fu.sl Q5) C),(60,.v Q0 (C.length:Int)),(61,.v Q0 B.1)],[(9000,.box 249 [.v Q0 q7,.v Q2 w7] (some (A 9000))),(4,.box 134 [.ptr 9000 0] (some (c1))),(5004,.arr 156 (aJ (A 9000) (c1)) B.2)]⟩) (λN:(List aA)=>⟨[(0,.ptr 9000 0),(4,.ptr 4 0),(12,.ref 5004)],[(9000,.box 249 [.v Q0 q7,.v Q2 w7] (some (A 9000))),(4,.box 134 [.ptr 9000 0] (some (c1))),(5004,.arr 156 (aJ (A 9000) (c1)) N)]⟩) al (bQ [(5004,58)]) ?_ ?_
 ·intro N U;have h:=an _ U;obtain⟨T,ao,h⟩:=aC h;obtain⟨a0,ap,h⟩:=aC h;refine fH (.a 2 ?_);refine .k (mU (.O3 Y Y) .nil (.r (.r (.r (.l .self))))) (.k (mU .nil (.O3 Y Y) (.r (.r (.r (.r (.l .self)))))) (.k (gK Y Y Y Sr Np) (.k (mU (.O3 Y Y) .nil (.r (.r (.r (.r (.r (.l .self))))))) (.k (gK Y Y Y Sr Np) (.k (mU (.O3 Y Y) .nil (.r (.r (.r (.r (.r (.r (.l .self)))))))) (.k (mU .nil (.O3 Y Y) (.r (.r (.r (.r (.r (.r (.r .self)))))))) (.k (rZ (e:=(aJ (A 9000) (c1))) Sv Ss IA Y Y Y Y (.cons (.dir Y) (.cons (.dir Y) (.cons (.dir Y) (.cons (.dir Y) (.cons (.dir Y) .nil)))))) (.t (oR 82 ao Y Y (.sl Y) Sv ZN Ss Y Y Y Y Y) (.sub (O':=⟨[(0,.ptr 9000 0),(4,.ptr 4 0),(73,.ptr 9000 0),(74,.v (aJ (A 9000) (c1)) (.inr (.inr (.inr (.inl ((),())))):aA)),(75,.v (aJ (A 9000) (c1)) (.inr (.inr (.inr (.inr (.inl ((),()))))):aA)),(76,.ptr 9000 0),(77,.v (aJ (A 9000) (c1)) (.inr (.inr (.inr (.inr (.inr (.inl ((),())))))):aA)),(78,.ptr 9000 0),(79,.v (aJ (A 9000) (c1)) (.inr (.inr (.inr (.inr (.inr (.inr (.inl ((),()))))))):aA)),(80,.v (aJ (A 9000) (c1)) (.inr (.inr (.inr (.inr (.inr (.inr (.inr ((),()))))))):aA)),(81,.v (Fu.sl (aJ (A 9000) (c1))) ([(.inr (.inr (.inr (.inl ((),())))):aA),(.inr (.inr (.inr (.inr (.inl ((),()))))):aA),(.inr (.inr (.inr (.inr (.inr (.inl ((),())))))):aA),(.inr (.inr (.inr (.inr (.inr (.inr (.inl ((),()))))))):aA),(.inr (.inr (.inr (.inr (.inr (.inr (.inr ((),()))))))):aA)]:(List aA))),(82,.v (Fu.sl (aJ (A 9000) (c1))) T)],[(9000,.box 249 [.v Q0 q7,.v Q2 w7] (some (A 9000))),(4,.box 134 [.ptr 9000 0] (some (c1)))]⟩) (bQ []) (.t (Gr (H:=[9000,4]) (K:=[9000,4]) [(9000,A 9000),(9100,c1)] (Sz [(9000,9000),(9100,4)]) (mH _) ⟨⟨_,_,Y⟩,⟨_,_,Y⟩,trivial⟩ (A3.at2 (ss:=λa9 p9=>[.v (Fu.sl (aJ a9 p9)) T]) (A 9000) c1 (λA9=>rU A9 ap)) call225 (.cons (.dir Y) .nil) (λ_=> .box Y (.box Y .nil)) (λ_=> .box Y (.box Y .nil Y) Y) (λ_=>rfl) Y Y (λ_=>rfl) Y Y) (.f [0,8] ?_)))))))))));cases h;exact cN (jX G Y (RV.tmp Y) (.cons Y .nil))
 intro B au h;refine iZ [0,4,12,59,60,61,62] ?_;refine aQ ?_;refine lZ h Y (λab h=>?_) (λab h=>?_)
 ·refine bN ?_;refine aQ ?_;refine fC ?_;obtain⟨M,a4,h⟩:=aC h;refine fH (.a 3 ?_);refine .k (dV 13 Z3 Y (.cons zI .nil) Y) (.k (dV 14 Z99 Y (.cons zI (.cons (Z.arr 8 (Z.int .u8)) .nil)) Y) ?_);refine .a 1 ?_;refine .t (iT Y Y Y Y (.C8 sO sO) Gb) (.f [0,4,12,13,14,59,60,61] ?_);refine vI (O':=⟨[(0,.ptr 9000 0),(4,.ptr 4 0),(12,.ref 5004),(13,.B8 Q0 B.1),(14,.ptr 14 0),(59,.v (Fu.sl Q5) C),(60,.v Q0 (C.length:Int)),(61,.v Q0 B.1)],[(9000,.box 249 [.v Q0 q7,.v Q2 w7] (some (A 9000))),(4,.box 134 [.ptr 9000 0] (some (c1))),(5004,.arr 156 (aJ (A 9000) (c1)) B.2),(14,.box 99 [.v Q0 M.1,.v aK M.2])]⟩) (Sw.Sub.mk id (.cons Y (.of_eq Y) (.cons Y (.of_eq Y) (.cons Y (.of_eq Y) (.cons Y (.fx Y Y (.cons (.of_eq Y) .nil) sO) (.cons Y (.of_eq Y) (.cons Y (.of_eq Y) (.cons Y (.of_eq Y) (.cons Y (.of_eq Y) .nil)))))))) (.box Y (.cons (.of_eq Y) (.cons (.of_eq Y) .nil)) (.box Y (.cons (.of_eq Y) .nil) (.arr Y (.box Y (.cons (.of_eq Y) (.cons (.of_eq Y) .nil)) .nil)))) Y) ?_;obtain⟨a5,aq,h⟩:=aC h;refine pZ (.a 1 ?_);refine .sub (O':=⟨[(0,.ptr 9000 0),(4,.ptr 4 0),(12,.ref 5004),(13,.B8 Q0 B.1),(14,.B8 Q5 M),(59,.v (Fu.sl Q5) C),(60,.v Q0 (C.length:Int)),(61,.v Q0 B.1),(66,.ref 5004)],[(9000,.box 249 [.v Q0 q7,.v Q2 w7] (some (A 9000))),(4,.box 134 [.ptr 9000 0] (some (c1))),(5004,.arr 156 (aJ (A 9000) (c1)) B.2)]⟩) (Sw.Sub.mk id (.cons Y (.of_eq Y) (.cons Y (.of_eq Y) (.cons Y (.of_eq Y) (.cons Y (.of_eq Y) (.cons Y (.fx Y Y (.cons (.of_eq Y) (.cons (.of_eq Y) .nil)) (.C8 sO sO)) (.cons Y (.of_eq Y) (.cons Y (.of_eq Y) (.cons Y (.of_eq Y) (.cons Y (.of_eq Y) .nil))))))))) (.box Y (.cons (.of_eq Y) (.cons (.of_eq Y) .nil)) (.box Y (.cons (.of_eq Y) .nil) (.arr Y .nil))) Y) (.k (mU .nil (.cons (.O3 Y Y) (.cons (.B8 Y) (.B8 Y))) (.r (.l .self))) (.k (mU .nil (.cons (.O3 Y Y) (.cons (.B8 Y) (.B8 Y))) (.r (.r (.l .self)))) (.k (rZ (e:=(aJ (A 9000) (c1))) Sv Ss IA Y Y Y Y (.cons (.dir Y) (.cons (.dir Y) .nil))) (.t (oR 70 aq Y Y (.sl Y) Sv ZN Ss Y Y Y Y Y) (.f [0,4,12,59,60,61] ?_)))));refine kE ?_;refine qA [0,4,12,59,60,61] ?_;cases h;exact vH (bQ [(5004,70)])
 cases h;exact tF (wM (bQ []))
instance qb {q7:Int} {w7:Q3} {a1:Iv} {a2:Int} {a3:Int}:F6 (bF q7 w7 a1 a2 a3) prog 200 [.ptr 9000 0,.v (Fu.sl Q5) a1,.v Q0 a2,.v Q0 a3] (λA=>[(9000,.box 249 [.v Q0 q7,.v Q2 w7] (some (A 9000)))]) (λr:(Option Int)×Int×Q3=>(.v Q8 r.1)) (λA (r:(Option Int)×Int×Q3)=>[(9000,.box 249 [.v Q0 r.2.1,.v Q2 r.2.2] (some (A 9000)))]):=⟨λA {_} h=>xA A h,call200⟩
instance tz {b0 b1 b2 b3 b4 b5 b6 b7 b8 b9 l9 o6 l8 j9 l7 l6 o7 l5 p5 p4}:F6 (iI b0 b1 b2 b3 b4 b5 b6 b7 b8 b9 l9 o6 l8 j9 l7 l6 o7 l5 p5 p4) prog 155 [.ptr 9000 1,.ptr 9100 0] (λA=>[(9000,.box 153 [aP b0,.v (Fu.H2 (.pointer none) rfl) (),aP b1,aP b2,aP b3,.ref 9050,Ft b5,.ref 9051,aP b7,Iw b8,aP b9,aP l9,.ref 9052,.v (Fu.H2 (.pointer none) rfl) (),aP l8,aP j9,aP l7,aP l6,AL o7,.ref 9053] (some (A 9000))),(9100,kZ p5 p4 (some (A 9100))),(9050,.arr 65 aK b4),(9051,.mp dX tY b6),(9052,.arr 3 dX o6),(9053,.arr 196 pQ l5)]) (λr=>(iW r.1)) (λA r=>(f1q A b0 b1 r.2.1 r.2.2.1 b5 b7 b8 b9 l9 () l8 j9 l7 l6 o7 r.2.2.2.1 r.2.2.2.2 b4 b6 o6 l5)):=
 sD [7009039] func155 40 rfl λA r S w R hF=>by
  unfold iI;exact gw
instance zt {a0 a1}:MC (jR a0 a1) prog 137 [.B8 Dl a0,aP a1] (λr=>(.q9 [sJ r.1,iW r.2])) (λr=>[]):=
 mc [] func137 26 rfl λr S w hF=>by
  unfold jR;exact gw
instance zu {a0}:MC (eS a0) prog 106 [.B8 Dl a0] (λr=>(.q9 [.ref 0,iW r.2])) (λr=>[(0,.arr 65 aK r.1)]):=
 mc [2,4] func106 30 rfl λr S w hF=>by
  unfold eS;refine gr ?_;exact GW.lp (λy6=>⟨[(0,.B8 Dl a0),(4,.ref 5004),(11,aP a0.1),(12,aP y6.1)],[(5004,.arr 65 aK y6.2)]⟩) (λD4=>⟨[(4,.ref 5004)],[(5004,.arr 65 aK D4)]⟩) sb (λ_ _ _ _=>gw) λ_=>gw
instance lu {b0 b1 b2 b3 b4 b5 b6 b7 b8 b9 l9 o6 l8 j9 l7 l6 o7 l5 p5 p4}:F6 (eD b0 b1 b2 b3 b4 b5 b6 b7 b8 b9 l9 o6 l8 j9 l7 l6 o7 l5 p5 p4) prog 156 [.ptr 9000 1] (λA=>(l2q 9000 9100 9050 9051 9052 9053 A b0 b1 b2 b3 b5 b7 b8 b9 l9 () l8 j9 l7 l6 o7 p5 p4 b4 b6 o6 l5)) (λr=>(.q9 [])) (λA r=>(f1q A b0 b1 b2 b3 b5 b7 b8 b9 l9 () l8 j9 l7 l6 o7 p5 p4 b4 r o6 l5)):=
 sD [0,9015,7000000] func156 27 rfl λA r S w R hF=>by
  unfold eD;refine gr ?_;refine GP.bf λv2 M8=>?_;refine GP.ox (On (Ap 15300 (MC.E0 M8) UK (.cons (.ref rfl rfl) .nil) rfl D7.ref (M9.arr M9.nil)) (λ_=>(Sw.Sub.mk id (.cons rfl (.oh rfl rfl) .nil) .nil rfl)) rfl) ?_
  try refine WN ?_
  refine GJ.bf λv3 nt=>?_;refine GJ.mx (cC nt rfl rfl rfl rfl Xd U3 (C7.int U3) rfl) ?_;refine gj ?_
  try refine WN ?_
  refine GJ.mx (La rfl rfl rfl Xd U3 (C7.int U3) rfl) ?_;exact gw
instance oo {b0 b1 b2 b3 b4 b5 b6 b7 b8 b9 l9 o6 l8 j9 l7 l6 o7 l5 p5 p4}:F6 (dS b0 b1 b2 b3 b4 b5 b6 b7 b8 b9 l9 o6 l8 j9 l7 l6 o7 l5 p5 p4) prog 131 [.ptr 9000 0,.ptr 9100 0] (λA=>[(9000,.box 153 [aP b0,.v (Fu.H2 (.pointer none) rfl) (),aP b1,aP b2,aP b3,rI b4,Ft b5,.v aAj b6,aP b7,Iw b8,aP b9,aP l9,wQ o6,.v (Fu.H2 (.pointer none) rfl) (),aP l8,aP j9,aP l7,aP l6,AL o7,.ref 9050] (some (A 9000))),(9100,kZ p5 p4 (some (A 9100))),(9050,.arr 196 pQ l5)]) (λr=>(iW r.1)) (λA r=>(f1q A b0 r.2.1 r.2.2.1 r.2.2.2.1 r.2.2.2.2.2.1 r.2.2.2.2.2.2.2.1 r.2.2.2.2.2.2.2.2.1 r.2.2.2.2.2.2.2.2.2.1 r.2.2.2.2.2.2.2.2.2.2.1 () l8 j9 l7 l6 o7 r.2.2.2.2.2.2.2.2.2.2.2.2.1 r.2.2.2.2.2.2.2.2.2.2.2.2.2 r.2.2.2.2.1 r.2.2.2.2.2.2.1 r.2.2.2.2.2.2.2.2.2.2.2.1 l5)):=
 sD [1044,9015,19017] func131 53 rfl λA r S w R hF=>by
  unfold dS;refine gr ?_;refine GJ.ox (dR (new:=[(100150,.arr 65 aK []),(15,.arr 3 dX [])]) Xi (.cons (Z.H2 (u:=(.pointer none)) rfl) (.cons zI (.cons zI (.cons zI (.ref 100150 rfl (.cons (Z.pr zI (Z.pr (Z.sl iV) (Z.pr (Z.sl vF) Z.bool))) (.cons (Z.mpF dX tY) (.cons zI (.cons (Z.pr zI (Z.pr zI (Z.sl Fs))) (.cons zI (.cons zI (.ref 15 rfl .nil)))))))))))) (.cons (.cons .nil)) rfl (.agg 0 4 rfl rfl rfl rfl rfl rfl (.cons rfl (.dir rfl) rfl rfl rfl rfl (.cons rfl (.dir rfl) rfl rfl rfl rfl .nil)))) ?_;refine gj ?_;refine GJ.mx (uX 1 12 rfl rfl rfl rfl rfl rfl rfl UQ) ?_;exact gw
instance sq {b0 b1 b2 b3 b4 b5 b6 b7 b8 b9 l9 o6 l8 j9 l7 l6 o7 l5 p5 p4 p7 p6}:F6 (eZ b0 b1 b2 b3 b4 b5 b6 b7 b8 b9 l9 o6 l8 j9 l7 l6 o7 l5 p5 p4 p7 p6) prog 155 [.ptr 9000 18,.ptr 9200 0] (λA=>(f2q A b0 b1 b2 b3 b5 b7 b8 b9 l9 () l8 j9 l7 l6 o7 p5 p4 p7 p6 b4 b6 o6 l5)) (λr=>(iW r.1)) (λA r=>(Nr A b0 b1 b2 b3 b5 b7 b8 b9 l9 l8 r.2.1 r.2.2.1 l6 o7 p5 p4 r.2.2.2.1 r.2.2.2.2 b4 b6 o6 l5)):=
 sD [7009039] func155 40 rfl λA r S w R hF=>by
  unfold eZ;exact gw
instance om {b0 b1 b2 b3 b4 b5 b6 b7 b8 b9 l9 o6 l8 j9 l7 l6 o7 l5 p5 p4 p7 p6}:F6 (fI b0 b1 b2 b3 b4 b5 b6 b7 b8 b9 l9 o6 l8 j9 l7 l6 o7 l5 p5 p4 p7 p6) prog 132 [.ptr 9000 0,.ptr 9200 0] (λA=>(f2q A b0 b1 b2 b3 b5 b7 b8 b9 l9 () l8 j9 l7 l6 o7 p5 p4 p7 p6 b4 b6 o6 l5)) (λr=>(iW r.1)) (λA r=>(Nr A b0 b1 b2 b3 b5 b7 b8 b9 l9 r.2.1 r.2.2.1 r.2.2.2.1 r.2.2.2.2.1 r.2.2.2.2.2.1 p5 p4 r.2.2.2.2.2.2.1 r.2.2.2.2.2.2.2 b4 b6 o6 l5)):=
 sD [9012,19014] func132 21 rfl λA r S w R hF=>by
  unfold fI;refine gr ?_;refine GJ.ox (dP Xj (.cons (Z.H2 (u:=(.pointer none)) rfl) (.cons zI (.cons zI (.cons zI (.cons zI (.cons (Z.pr zI zI) .nil)))))) (.agg 0 4 rfl rfl rfl rfl rfl rfl (.cons rfl (.dir rfl) rfl rfl rfl rfl (.cons rfl (.agg rfl (.same (.same .nil)) (.C8 (.one _ _) (.one _ _)) rfl) rfl rfl rfl rfl .nil)))) ?_;refine gj ?_;refine GJ.mx (uX 13 6 rfl rfl rfl rfl rfl rfl rfl UR) ?_;exact gw
def uP(r:(Option Q1)×(Option Int)):Slot:=match r.1 with | none=> .q9 [.v (Fu.H2 (.pointer none) rfl) (),iW r.2] | some z=> .q9 [.ptr 300 0,iW r.2]
def uQ(r:(Option Q1)×(Option Int)):List (Nat×j2):=match r.1 with | none=>[] | some z=>[(300,Jv z.1 301 z.2.1 z.2.2.1 z.2.2.2.1 400 z.2.2.2.2.2.1 401 z.2.2.2.2.2.2.2.1 z.2.2.2.2.2.2.2.2.1 z.2.2.2.2.2.2.2.2.2.1 z.2.2.2.2.2.2.2.2.2.2.1 402 302 z.2.2.2.2.2.2.2.2.2.2.2.2.1 z.2.2.2.2.2.2.2.2.2.2.2.2.2.1 z.2.2.2.2.2.2.2.2.2.2.2.2.2.2.1 z.2.2.2.2.2.2.2.2.2.2.2.2.2.2.2.1 z.2.2.2.2.2.2.2.2.2.2.2.2.2.2.2.2.1 403),(301,kZ z.2.2.2.2.2.2.2.2.2.2.2.2.2.2.2.2.2.2.1 z.2.2.2.2.2.2.2.2.2.2.2.2.2.2.2.2.2.2.2.1),(302,kZ z.2.2.2.2.2.2.2.2.2.2.2.2.2.2.2.2.2.2.2.2.1 z.2.2.2.2.2.2.2.2.2.2.2.2.2.2.2.2.2.2.2.2.2),(400,.arr 65 aK z.2.2.2.2.1),(401,.mp dX tY z.2.2.2.2.2.2.1),(402,.arr 3 dX z.2.2.2.2.2.2.2.2.2.2.2.1),(403,.arr 196 pQ z.2.2.2.2.2.2.2.2.2.2.2.2.2.2.2.2.2.1)]
instance aLh {a0}:MC (fJ a0) prog 100 [aP a0] (λr=>(uP r)) (λr=>(uQ r)):=
 mc [9010,9014,9022,29002] func100 50 rfl λr S w hF=>by
  unfold fJ;refine gr ?_;refine GJ.ox (cW rfl) ?_;refine gj ?_;refine GJ.ox (dR (new:=[(10,.arr 196 pQ [])]) PN (.cons zI (.cons (Z.H2 (u:=(.pointer none)) rfl) (.cons zI (.cons zI (.cons zI (.cons (Z.sl aK) (.cons (Z.pr zI (Z.pr (Z.sl iV) (Z.pr (Z.sl vF) Z.bool))) (.cons (Z.mpF dX tY) (.cons zI (.cons (Z.pr zI (Z.pr zI (Z.sl Fs))) (.cons zI (.cons zI (.cons (Z.sl dX) (.cons (Z.H2 (u:=(.pointer none)) rfl) (.cons zI (.cons zI (.cons zI (.cons zI (.cons (Z.pr zI zI) (.ref 10 rfl .nil)))))))))))))))))))) (.cons .nil) rfl (.cons rfl (.dir rfl) rfl rfl rfl rfl .nil)) ?_;refine gj ?_;refine GJ.bf λv1 H9=>?_;refine GJ.oc (λed=>?_) λz2 ed=>?_
  ·refine GJ.ox (cQ (sL ed H9) HV args) ?_;refine gj ?_;refine GW.cf rfl (λsf=>?_) λsf=>?_
   ·refine gr ?_;refine GJ.ox (cW rfl) ?_;exact gw
   refine gr ?_;refine GJ.bf λv4 hv4=>?_;refine GJ.oc (λhz5=>?_) λz5 hz5=>?_
   ·refine GJ.ox (cQ (sL hz5 hv4) HV args) ?_;refine gj ?_;refine GW.cf rfl (λcw=>?_) λcw=>?_
    ·refine gr ?_;refine GJ.ox (cW rfl) ?_;exact gw
    refine gr ?_;exact⟨λ_ h=>by cases h⟩
   refine GJ.ox (pK 22300 (sN hz5 hv4) HV args rfl) ?_;refine gj ?_;refine GW.cf rfl (λlg=>?_) λlg=>?_
   ·refine gr ?_;refine GJ.ox (cW rfl) ?_;exact gw
   refine gr ?_;exact⟨λ_ h=>by cases h⟩
  refine GJ.ox (pK 14300 (sN ed H9) HV args rfl) ?_;refine gj ?_;refine GW.cf rfl (λsa=>?_) λsa=>?_
  ·refine gr ?_;refine GJ.ox (cW rfl) ?_;exact gw
  refine gr ?_;refine GJ.bf λv9 hv9=>?_;refine GJ.oc (λaVl=>?_) λnb aVl=>?_
  ·refine GJ.ox (cQ (sL aVl hv9) HV args) ?_;refine gj ?_;refine GW.cf rfl (λwq=>?_) λwq=>?_
   ·refine gr ?_;refine GJ.ox (cW rfl) ?_;exact gw
   refine gr ?_;intro v12 aNi;refine GW.cf rfl (λbC5=>?_) λbC5=>?_
   ·refine gr ?_;refine GJ.ox (cW rfl) ?_;exact gw
   refine gr ?_;exact⟨λ_ h=>by cases h⟩
  refine GJ.ox (pK 22300 (sN aVl hv9) HV args rfl) ?_;refine gj ?_;refine GW.cf rfl (λaRi=>?_) λaRi=>?_
  ·refine gr ?_;refine GJ.ox (cW rfl) ?_;exact gw
  refine gr ?_;intro Y2 bA8;refine GW.cf rfl (λbM8=>?_) λ_=>gw;refine gr ?_;refine GJ.ox (cW rfl) ?_;exact gw
theorem Dn{u:Int}{r:(Option Q1)×(Option Int)}(hz:r.1=none)(h:fJ u=some r):O4 prog 100 [aP u] (.q9 [.v (Fu.H2 (.pointer none) rfl) (),iW r.2]) []:=by
 have:=MC.E0 h;unfold uP uQ at this;rw[hz] at this;exact this
theorem Dp{u:Int}{r:(Option Q1)×(Option Int)}{z:Q1}(hz:r.1=some z)(h:fJ u=some r):O4 prog 100 [aP u] (.q9 [.ptr 300 0,iW r.2]) [(300,Jv z.1 301 z.2.1 z.2.2.1 z.2.2.2.1 400 z.2.2.2.2.2.1 401 z.2.2.2.2.2.2.2.1 z.2.2.2.2.2.2.2.2.1 z.2.2.2.2.2.2.2.2.2.1 z.2.2.2.2.2.2.2.2.2.2.1 402 302 z.2.2.2.2.2.2.2.2.2.2.2.2.1 z.2.2.2.2.2.2.2.2.2.2.2.2.2.1 z.2.2.2.2.2.2.2.2.2.2.2.2.2.2.1 z.2.2.2.2.2.2.2.2.2.2.2.2.2.2.2.1 z.2.2.2.2.2.2.2.2.2.2.2.2.2.2.2.2.1 403),(301,kZ z.2.2.2.2.2.2.2.2.2.2.2.2.2.2.2.2.2.2.1 z.2.2.2.2.2.2.2.2.2.2.2.2.2.2.2.2.2.2.2.1),(302,kZ z.2.2.2.2.2.2.2.2.2.2.2.2.2.2.2.2.2.2.2.2.1 z.2.2.2.2.2.2.2.2.2.2.2.2.2.2.2.2.2.2.2.2.2),(400,.arr 65 aK z.2.2.2.2.1),(401,.mp dX tY z.2.2.2.2.2.2.1),(402,.arr 3 dX z.2.2.2.2.2.2.2.2.2.2.2.1),(403,.arr 196 pQ z.2.2.2.2.2.2.2.2.2.2.2.2.2.2.2.2.2.1)]:=by
 have:=MC.E0 h;unfold uP uQ at this;rw[hz] at this;exact this
instance aLk {a0}:MC (tM a0) prog 133 [aP a0] (λr=>(.v (Fu.fns [157,159,160,162,164,165,166,168,170,172,173]) r)) (λr=>[]):=
 mc [9002,29002] func133 26 rfl λr S w hF=>by
  unfold tM;refine gr ?_;refine GJ.ox (zZ [157,159,160,162,164,165,166,168,170,172,173] 11 rfl) ?_;refine gj ?_;refine GW.cf rfl (λL7=>?_) λL7=>?_
  ·refine gr ?_;refine GJ.ox (pY [157,159,160,162,164,165,166,168,170,172,173] 0 rfl kP) ?_;exact gw
  refine gr ?_;refine GW.cf rfl (λL0=>?_) λL0=>?_
  ·refine gr ?_;refine GJ.ox (pY [157,159,160,162,164,165,166,168,170,172,173] 1 rfl kP) ?_;exact gw
  refine gr ?_;refine GW.cf rfl (λsf=>?_) λsf=>?_
  ·refine gr ?_;refine GJ.ox (pY [157,159,160,162,164,165,166,168,170,172,173] 2 rfl kP) ?_;exact gw
  refine gr ?_;refine GW.cf rfl (λjx=>?_) λjx=>?_
  ·refine gr ?_;refine GJ.ox (pY [157,159,160,162,164,165,166,168,170,172,173] 3 rfl kP) ?_;exact gw
  refine gr ?_;refine GW.cf rfl (λxr=>?_) λxr=>?_
  ·refine gr ?_;refine GJ.ox (pY [157,159,160,162,164,165,166,168,170,172,173] 4 rfl kP) ?_;exact gw
  refine gr ?_;refine GW.cf rfl (λcw=>?_) λcw=>?_
  ·refine gr ?_;refine GJ.ox (pY [157,159,160,162,164,165,166,168,170,172,173] 5 rfl kP) ?_;exact gw
  refine gr ?_;refine GW.cf rfl (λlg=>?_) λlg=>?_
  ·refine gr ?_;refine GJ.ox (pY [157,159,160,162,164,165,166,168,170,172,173] 6 rfl kP) ?_;exact gw
  refine gr ?_;refine GW.cf rfl (λsa=>?_) λsa=>?_
  ·refine gr ?_;refine GJ.ox (pY [157,159,160,162,164,165,166,168,170,172,173] 7 rfl kP) ?_;exact gw
  refine gr ?_;refine GW.cf rfl (λhc9=>?_) λhc9=>?_
  ·refine gr ?_;refine GJ.ox (pY [157,159,160,162,164,165,166,168,170,172,173] 8 rfl kP) ?_;exact gw
  refine gr ?_;refine GW.cf rfl (λwu=>?_) λwu=>?_
  ·refine gr ?_;refine GJ.ox (pY [157,159,160,162,164,165,166,168,170,172,173] 9 rfl kP) ?_;exact gw
  refine gr ?_;refine GW.cf rfl (λwq=>?_) λwq=>?_
  ·refine gr ?_;refine GJ.ox (pY [157,159,160,162,164,165,166,168,170,172,173] 10 rfl kP) ?_;exact gw
  refine gr ?_;refine GJ.ox (zZ [157,159,160,162,164,165,166,168,170,172,173] 11 rfl) ?_;exact gw
instance aLn {a0 a1}:MC (kT a0 a1) prog 222 [Dm a0,aP a1] (λr=>(wH r)) (λr=>[]):=
 mc [] func222 27 rfl λr S w hF=>by
  unfold kT;refine gr ?_;exact GW.lp (λF5=>⟨[(1,aP a1),(5,aP F5.1),(8,Dm a0),(9,aP (a0.length:Int)),(10,aP F5.2)],[]⟩) (λxk:Unit=>⟨[],[]⟩) sb (λ_ _ _ _=>gw) λ_=>gw
instance aMj {a0 a1}:MC (kK a0 a1) prog 191 [Ft a0,aP a1] (λr=>(iW r)) (λr=>[]):=
 mc [] func191 79 rfl λr S w hF=>by
  unfold kK;refine gr ?_;intro x4 sa hc9 bu aWb;exact GW.lp (λs40:Int=>⟨[(1,aP a1),(2,.ptr 2 0),(46,Xg a0.2.2.1),(47,aP (a0.2.2.1.length:Int)),(48,aP s40)],[(2,VH a0.1 a0.2.1 a0.2.2.1 a0.2.2.2)]⟩) (λx52:Unit=>⟨[],[]⟩) sb (λ_ _ _ _=>gw) λ_=>gw
instance G1 {a0}:MC (iJ a0) prog 245 [.v (Fu.qh vF) a0] (λr=>(.ref 0)) (λr=>[(0,.arr 258 vF r)]):=
 mc [2,5] func245 8 rfl λr S w hF=>by
  unfold iJ;exact gw
theorem pH{u:(List (Int×Iv))}{r:(List (Int×Iv))}(h:dE u=some r):O4 prog 245 [.v (Fu.sl (Fu.pr Q0 (Fu.sl Q5))) u] (.ref 0) [(0,.arr 258 (Fu.pr Q0 (Fu.sl Q5)) r)]:=
 qN λb A=>G1.E0 (by cases b with | true=>rw[A rfl] at h ⊢;exact h | false=>exact Bu h)
instance Y6 {a0:(List (Int×Iv))}:MC (dE a0) prog 245 [.v (Fu.sl (Fu.pr Q0 (Fu.sl Q5))) a0] (λr:(List (Int×Iv))=>(.ref 0)) (λr:(List (Int×Iv))=>[(0,.arr 258 (Fu.pr Q0 (Fu.sl Q5)) r)]):=⟨λh=>pH h,call245⟩
instance aMh {a0}:MC (mC a0) prog 215 [Ft a0] (λr=>(.agg [aP r.1,.ref 0,.ref 1,wH r.2.2.2])) (λr=>[(0,.arr 99 iV r.2.1),(1,.arr 258 vF r.2.2.1)]):=
 mc [9026,19028,7019028] func215 31 rfl λr S w hF=>by
  unfold mC;refine gr ?_;intro v1 H9 v2 M8;refine GW.lp (λF5=>⟨[(1,.ptr 1 0),(2,.ptr 2 0),(14,.ref 11300),(15,aP (v2.length:Int)),(16,aP F5.1)],[(1,b6q a0.1 7300 11300 a0.2.2.2),(2,VH 0 [] [] false),(11300,.arr 258 vF F5.2),(7300,.arr 99 iV v1)]⟩) (λfh=>⟨[(1,.ptr 1 0),(2,.ptr 2 0)],[(1,b6q a0.1 7300 11300 a0.2.2.2),(2,VH 0 [] [] false),(7300,.arr 99 iV v1),(11300,.arr 258 vF fh)]⟩) sb (λ_ bYn F5 r20=>?_) λ_=>gw;refine gr ?_;refine GW.cf rfl (λcAv=>?_) λ_=>gw;refine gr ?_;intro z23 bJz;refine GP.bf λv24 aNh=>?_;refine GP.ox (On (pK 26300 (MC.E0 aNh) call233 (.cons (.dir rfl) .nil) rfl) (λ_=>(Sw.Sub.mk id (.cons rfl (.oh rfl rfl) .nil) .nil rfl)) rfl) ?_;refine gp ?_
  try refine WN ?_
  refine GJ.mx (Tu (iX bJz).2.2 rfl rfl rfl (.snd .here) Fq) ?_;exact gw
instance aMk {a0 a1}:MC (rO a0 a1) prog 241 [VI a0,aP a1] (λr=>(aP r)) (λr=>[]):=
 mc [] func241 9 rfl λr S w hF=>by
  unfold rO;exact gw
instance M7 {a0 a1}:MC (aU a0 a1) prog 240 [Dm a0,aP a1,.G0 241 []] (λr=>(.q9 [aP r.1,wH r.2])) (λr=>[]):=
 mc [500008] func240 49 rfl λr S w hF=>by
  unfold aU;refine gr ?_;refine GW.lp (λy6=>⟨[(0,Dm a0),(1,aP a1),(2,.G0 241 []),(8,aP (a0.length:Int)),(9,aP y6.1),(10,aP y6.2)],[]⟩) (λD4:Int=>⟨[(0,Dm a0),(1,aP a1),(2,.G0 241 []),(8,aP (a0.length:Int)),(9,aP D4)],[]⟩) sb (λ_ _ _ _=>gw) λD4=>?_;refine gr ?_;refine Ys (λfg=>⟨[(6,aP D4),(7,wH fg)],[]⟩) (λz=>?_) λfg=>?_
  ·exact gw
  exact gw
end
section
set_option maxHeartbeats 4000000
set_option maxRecDepth 100000
variable {gobj:List Obj} [GO gobj]
theorem tC(A0:Nat->Nat){D:Iv}{G:Int}{u:Iv}{r:Iv}(h:dL D G u=some r):A3 prog 242 [.ref 9000,.v Q0 G,.v (Fu.sl Q5) u] [(9000,.arr 99 Q5 D)] (.ref 0) [(0,.arr 99 Q5 r)]:=by
 obtain⟨h0,h1,h2,rfl⟩:=KA h;obtain⟨i,rfl⟩:∃i:Nat,G=(i:Int):=⟨G.toNat,by omega⟩;obtain⟨A,B,hA,rfl⟩:∃A B,A.length=i/\D=A++B:=⟨D.take i,D.drop i,by rw[Z1];omega,(sw _ _).symm⟩;subst hA;have N:(A++B).take ((A.length:Int)).toNat++(u++(A++B).drop ((A.length:Int)).toNat)=A++(u++B):=by simp
 rw[N];clear N h h0 h1;have O:(A++B).length=A.length+B.length:=cM;have U:Sw.sub (A++B) (A.length:Int) ((A++B).length:Int)=some B:=by rw[Sw.sub,sM (by omega),gR,gR,aG1,aGa]
 have I:ar .add .i64 ((A++B).length:Int) (u.length:Int)=((A.length+B.length+u.length:Nat):Int):=by simp only[ar,IntKind.wrap_i64];omega
 have V:ar .sub .i64 (ar .add .i64 ((A++B).length:Int) (u.length:Int)) (A.length:Int)=((B.length+u.length:Nat):Int):=by rw[I];simp only[ar,IntKind.wrap_i64];omega
 have E:ar .add .i64 (A.length:Int) (u.length:Int)=((A.length+u.length:Nat):Int):=by simp only[ar,IntKind.wrap_i64];omega
 refine A3.of func242 Y ntmps242 Y ?_;intro S w R L
 repeat refine aQ ?_
 refine pZ (.k (vR Q5) (.f [0,1,2] ?_))
 repeat refine aQ ?_
 refine pZ (.a 2 ?_);refine .k (Ji U Y Y Y uJ Gb) (.f [0,1,2] ?_)
 repeat refine aQ ?_
 refine qA [0,1,2,7] ?_
 repeat refine aQ ?_
 refine qA [0,1,2,7,16] ?_
 repeat refine aQ ?_
 rcases aEr (cm .eql (u.length:Int) (0:Int)) with C | C
 ·have M:u=[]:=ya (by simp[cm] at C;simp[C]);have X:A++B=A++(u++B):=by rw[M];rfl
  refine rV Y C ?_
  repeat refine aQ ?_
  refine qA [0,1,2,6,7,16,17] ?_;refine cN ?_;rw[X];exact Le L Y (bQ [(0,9000)])
 have hm:0<u.length:=by
  simp[cm] at C;exact aD4.2 C
 have M:u≠ []:=aD4.1 hm;refine tH Y C ?_;clear C
 repeat first | refine bN ?_ | refine aQ ?_
 refine qA [0,1,2,7,8] ?_
 repeat refine aQ ?_
 refine qA [0,1,2,7,8,22] ?_
 repeat refine aQ ?_
 rcases aEr (cm .eql (A.length:Int) ((A++B).length:Int)) with C | C
 ·have F:B=[]:=ya (by simp[cm] at C;omega);have ab:Sw.app (A++B) u=some (A++(u++B)):=by subst F;rw[Sw.app,sM h2];simp
  refine rV Y C ?_
  repeat refine aQ ?_
  refine pZ (.a 2 ?_);refine .t (oR 1 ab Y Y (.sl Y) uJ ZS Gb Y Y Y Y Y) (.f [1,2,6,7,8,24,25] ?_);refine cN ?_;exact Le L Y (bQ [(0,1)])
 have F:B≠ []:=by
  rintro rfl;simp[cm] at C
 have ai:=aD4.2 F;refine tH Y C ?_;clear C
 repeat first | refine bN ?_ | refine aQ ?_
 refine Oo (t:=0) (g':=[(1,.v Q0 (A.length:Int)),(2,.v (Fu.sl Q5) u),(7,.v Q0 (u.length:Int)),(8,.v Q0 ((A++B).length:Int))]) Y F Y (by exact(.cons Y (.cons Y (.cons Y (.cons Y .nil))))) Y λb p q c L7 T sf=>?_;have K:(Q5).n=9:=rfl;refine pZ (.a 4 ?_);refine .k (EZ Y uJ) (.k (FA Y Y) (.f [0,1,2,7,8,31] ?_))
 repeat refine aQ ?_
 rcases aEr (cm .gtr (ar .add .i64 ((A++B).length:Int) (u.length:Int)) (c:Int)) with C | C
 ·have aj:c<A.length+(B.length+u.length):=by
   rw[I] at C;simp[cm] at C;omega
  refine rV Y C ?_;clear C
  repeat refine aQ ?_
  refine pZ (.a 2 ?_);refine .k (Bz (e:=Q5) A.length Y (by omega) Y Y Y uJ Gb) ?_;refine .a 5 ?_;refine .k (JY (z0:=_) (zv:=((0:Int),aE)) 1 Y Y Y Y Y V (by omega) (by omega) (by omega) Y uJ U3 ZS Gb Y (Z.pr zI (Z.arr 8 (Z.int .u8))) Y) (.f [0,1,2,7,8,9] ?_);have P:Sw.sub (A++List.replicate (B.length+u.length) ((0:Int),aE)) (A.length:Int) (((A++List.replicate (B.length+u.length) ((0:Int),aE))).length:Int)=some (List.replicate (B.length+u.length) ((0:Int),aE)):=by
   rw[Sw.sub,sM (by simp only[cM,aD6];omega),gR,gR,aG1,aGa]
  have ac:u.length<=((A++List.replicate (B.length+u.length) ((0:Int),aE))).length - Int.toNat (A.length:Int):=by
   simp only[cM,aD6];omega
  repeat refine aQ ?_
  refine pZ (.a 2 ?_);refine .k (Ji P Y Y Y uJ Gb) ?_;refine .a 1 ?_;refine .t (Kw P Y Y (.sl Y) ac uJ Gb Y) (.f [0,1,2,7,8,9] ?_);have ed:List.take (Int.toNat (A.length:Int)) (A++List.replicate (B.length+u.length) ((0:Int),aE))++u++List.drop (Int.toNat (A.length:Int)+u.length) (A++List.replicate (B.length+u.length) ((0:Int),aE))=(A++(u++List.replicate B.length ((0:Int),aE))):=by
   simp[aH1,List.drop_replicate]
  rw[ed];have Q:Sw.sub (A++(u++List.replicate B.length ((0:Int),aE))) (ar .add .i64 (A.length:Int) (u.length:Int)) (((A++(u++List.replicate B.length ((0:Int),aE)))).length:Int)=some (List.replicate B.length ((0:Int),aE)):=by
   rw[E,Sw.sub,sM (by simp only[cM,aD6];omega),gR,gR,aG1,<-dt,List.drop_left' (by rw[cM])]
  have ad:B.length<=((A++(u++List.replicate B.length ((0:Int),aE)))).length - Int.toNat (ar .add .i64 (A.length:Int) (u.length:Int)):=by
   rw[E];simp only[cM,aD6];omega
  repeat refine aQ ?_
  refine Af 8 mixed (by exact(.k (aZ Y) (.k (aZ Y) (.k (aZ Y) (.k (lI Y Y Y) (.k (Ji Q Y Y Y uJ Gb) (.k (aZ Y) (.k (aZ Y) (.k (yH (e:=Q5) (p+A.length*(Q5).n) B.length (c - A.length) Y (by omega) (by omega) Y (by omega) Y Y Y uJ Gb) .nil))))))))) (by exact(J.t (Kw Q Y Y (.ju Y Y Y Y (by omega)) ad uJ Gb Y) (J.kp [0,1,2,7,8,9,53] []))) ?_;have ae:(List.take (Int.toNat (ar .add .i64 (A.length:Int) (u.length:Int))) (A++(u++List.replicate B.length ((0:Int),aE)))++B++List.drop (Int.toNat (ar .add .i64 (A.length:Int) (u.length:Int))+B.length) (A++(u++List.replicate B.length ((0:Int),aE))))=A++(u++B):=by
   rw[E,gR,<-dt A u (List.replicate _ _),List.take_left' (by rw[cM]),aHs (by simp only[cM,aD6];omega)];simp
  rw[ae]
  repeat refine aQ ?_
  refine qA [0,1,2,6,7,8,9,53,55] ?_;refine cN ?_;exact Le L Y (bQ [(0,1)])
 ·have af:A.length+B.length+u.length<=c:=by
   rw[I] at C;simp[cm] at C;omega
  have hq:u.length*(Q5).n<=q:=by
   rw[K,O] at T;rw[K];omega
  refine tH Y C ?_;clear C
  repeat first | refine bN ?_ | refine aQ ?_
  refine pZ (.a 4 ?_);refine .k (Bz (e:=Q5) (A.length+B.length+u.length) I (by omega) Y Y Y uJ Gb) (.f [0,1,2,7,8] ?_)
  repeat refine aQ ?_
  refine pZ (.a 5 ?_);refine .k (yH (e:=Q5) (p+(A.length+u.length)*(Q5).n) B.length (c - (A.length+u.length)) E (by omega) (by omega) Y (by omega) Y Y Y uJ Gb) (.k (Ub func253 (by kernel_rfl) (by kernel_rfl) (by kernel_rfl) (R:=4) (by kernel_rfl) Y Y Y M F Y uJ Gb) (.f [0,1,2,7,8,68] ?_))
  repeat refine aQ ?_
  refine rV Y Y ?_
  repeat refine aQ ?_
  refine Af 8 mixed (by exact(.k (aZ Y) (.k (aZ Y) (.k (aZ Y) (.k (lI Y Y Y) (.k (yH (e:=Q5) (p+(A.length+u.length)*(Q5).n) B.length (c - (A.length+u.length)) E (by omega) (by omega) Y (by omega) Y Y Y uJ Gb) (.k (aZ Y) (.k (aZ Y) (.k (yH (e:=Q5) (p+A.length*(Q5).n) (B.length+u.length) (c - A.length) Y (by omega) (by omega) Y (by omega) Y Y Y uJ Gb) .nil))))))))) (by exact(J.t (Ua (m:=u.length) Y Y Y Y Y Y Y hq (by omega) uJ Gb Y) (J.kp [0,1,2,7,8] []))) ?_
  repeat refine aQ ?_
  refine pZ (.a 2 ?_);refine .k (yH (e:=Q5) (p+A.length*(Q5).n) (B.length+u.length) (c - A.length) Y (by omega) (by omega) Y (by omega) Y Y Y uJ Gb) ?_;refine .a 1 ?_;refine .t (Yh Y Y (.sl Y) Y Y Y (by omega) uJ Gb Y) (.f [0] ?_);refine vI (zG (t:=0) (by simp only[cM];omega) af (by rw[K,O] at T;rw[K];omega) (by omega) Y) ?_
  repeat refine aQ ?_
  refine qA [0,6,83] ?_;refine cN ?_;exact Le L Y (bQ [(0,9000)])
instance fc {a0:Iv} {a1:Int} {a2:Iv}:F6 (dL a0 a1 a2) prog 242 [.ref 9000,.v Q0 a1,.v (Fu.sl Q5) a2] (λA=>[(9000,.arr 99 Q5 a0)]) (λr:Iv=>(.ref 0)) (λA (r:Iv)=>[(0,.arr 99 Q5 r)]):=⟨λA {_} h=>tC A h,call242⟩
instance aPu {a0 a1 a2}:MC (sR a0 a1 a2) prog 201 [Ft a0,aP a1,VI a2] (λr=>(.q9 [Ft r.1,iW r.2])) (λr=>[]):=
 mc [] func201 53 rfl λr S w hF=>by
  unfold sR;refine gr ?_;intro v1 H9 L0 x4 cw v7 hv7 v8 hv8;exact GW.jn (λbu=>⟨[(3,.ptr 3 0),(6,.ptr 6 0)],[(3,b6q v7.1 5001 30301 v7.2.2.2),(6,VH 0 [] [] false),(5001,.arr 99 iV bu),(30301,.arr 258 vF v7.2.2.1)]⟩) rfl (λ_=>gw) _ _ (λ_ _=>gw) λ_ _=>gw
instance xa {a1 a2 b0 b1 b2 b3 b4 b5 b6 b7 b8 b9 l9 o6 l8 j9 l7 l6 o7 l5 p5 p4 p7 p6}:F6 (dF a1 a2 b0 b1 b2 b3 b4 b5 b6 b7 b8 b9 l9 o6 l8 j9 l7 l6 o7 l5 p5 p4 p7 p6) prog 158 [.ptr 9000 0,aP a1,sJ a2] (λA=>(Dq A b0 b1 b2 b3 b5 b7 b8 b9 l9 l8 j9 l7 l6 o7 p5 p4 p7 p6 b4 b6 o6 l5)) (λr=>(iW r.1)) (λA r=>(Nr A b0 b1 b2 b3 r.2.2 b7 b8 b9 l9 l8 j9 l7 l6 o7 p5 p4 p7 p6 r.2.1 b6 o6 l5)):=
 sD [7019040] func158 41 rfl λA r S w R hF=>by
  unfold dF;exact gw
instance bg {a1 b0 b1 b2 b3 b4 b5 b6 b7 b8 b9 l9 o6 l8 j9 l7 l6 o7 l5 p5 p4 p7 p6}:F6 (mJ a1 b0 b1 b2 b3 b4 b5 b6 b7 b8 b9 l9 o6 l8 j9 l7 l6 o7 l5 p5 p4 p7 p6) prog 157 [.ptr 9000 0,Ai a1] (λA=>(Dq A b0 b1 b2 b3 b5 b7 b8 b9 l9 l8 j9 l7 l6 o7 p5 p4 p7 p6 b4 b6 o6 l5)) (λr=>(.q9 [sJ r.1,iW r.2.1])) (λA r=>(PJ A r.2.2)):=
 sD [] func157 13 rfl λA r S w R hF=>by
  unfold mJ;exact gw
instance bc {a1 b0 b1 b2 b3 b4 b5 b6 b7 b8 b9 l9 o6 l8 j9 l7 l6 o7 l5 p5 p4 p7 p6}:F6 (mL a1 b0 b1 b2 b3 b4 b5 b6 b7 b8 b9 l9 o6 l8 j9 l7 l6 o7 l5 p5 p4 p7 p6) prog 159 [.ptr 9000 0,Ai a1] (λA=>(Dq A b0 b1 b2 b3 b5 b7 b8 b9 l9 l8 j9 l7 l6 o7 p5 p4 p7 p6 b4 b6 o6 l5)) (λr=>(.q9 [sJ r.1,iW r.2.1])) (λA r=>(PJ A r.2.2)):=
 sD [] func159 12 rfl λA r S w R hF=>by
  unfold mL;exact gw
instance vi {a1 b0 b1 b2 b3 b4 b5 b6 b7 b8 b9 l9 o6 l8 j9 l7 l6 o7 l5 p5 p4 p7 p6}:F6 (eP a1 b0 b1 b2 b3 b4 b5 b6 b7 b8 b9 l9 o6 l8 j9 l7 l6 o7 l5 p5 p4 p7 p6) prog 161 [.ptr 9000 0,aP a1] (λA=>(Dq A b0 b1 b2 b3 b5 b7 b8 b9 l9 l8 j9 l7 l6 o7 p5 p4 p7 p6 b4 b6 o6 l5)) (λr=>(.q9 [sJ r.1,iW r.2])) (λA r=>(Nr A b0 b1 b2 b3 b5 b7 b8 b9 l9 l8 j9 l7 l6 o7 p5 p4 p7 p6 b4 b6 o6 l5)):=
 sD [] func161 26 rfl λA r S w R hF=>by
  unfold eP;exact gw
instance az {a1 b0 b1 b2 b3 b4 b5 b6 b7 b8 b9 l9 o6 l8 j9 l7 l6 o7 l5 p5 p4 p7 p6}:F6 (mM a1 b0 b1 b2 b3 b4 b5 b6 b7 b8 b9 l9 o6 l8 j9 l7 l6 o7 l5 p5 p4 p7 p6) prog 160 [.ptr 9000 0,Ai a1] (λA=>(Dq A b0 b1 b2 b3 b5 b7 b8 b9 l9 l8 j9 l7 l6 o7 p5 p4 p7 p6 b4 b6 o6 l5)) (λr=>(.q9 [sJ r.1,iW r.2.1])) (λA r=>(PJ A r.2.2)):=
 sD [] func160 12 rfl λA r S w R hF=>by
  unfold mM;exact gw
instance vl {a1 a2 b0 b1 b2 b3 b4 b5 b6 b7 b8 b9 l9 o6 l8 j9 l7 l6 o7 l5 p5 p4 p7 p6}:F6 (iY a1 a2 b0 b1 b2 b3 b4 b5 b6 b7 b8 b9 l9 o6 l8 j9 l7 l6 o7 l5 p5 p4 p7 p6) prog 202 [.ptr 9000 1,Dm a1,aP a2] (λA=>(Dq A b0 b1 b2 b3 b5 b7 b8 b9 l9 l8 j9 l7 l6 o7 p5 p4 p7 p6 b4 b6 o6 l5)) (λr=>(iW r.1)) (λA r=>(Nr A b0 b1 r.2.1 b3 b5 b7 b8 b9 l9 l8 j9 l7 l6 o7 r.2.2.1 r.2.2.2 p7 p6 b4 b6 o6 l5)):=
 sD [7009018] func202 26 rfl λA r S w R hF=>by
  unfold iY;exact gw
instance aOm {a0 a1}:MC (qU a0 a1) prog 203 [Ft a0,aP a1] (λr=>(.q9 [Ft r.1,iW r.2])) (λr=>[]):=
 mc [9012,9017,39044,39045] func203 47 rfl λr S w hF=>by
  unfold qU;refine gr ?_;intro v1 H9;refine GW.cf rfl (λL0=>?_) λL0=>?_
  ·refine gr ?_;refine GJ.ox (dR (new:=[(12,.arr 258 vF [])]) Xh (.cons zI (.cons (Z.sl iV) (.ref 12 rfl (.cons Z.bool .nil)))) (.cons .nil) rfl .nil) ?_;exact gw
  refine gr ?_;refine GW.cf rfl (λsf=>?_) λsf=>?_
  ·refine gr ?_;refine GJ.ox (dR (new:=[(17,.arr 258 vF [])]) Xh (.cons zI (.cons (Z.sl iV) (.ref 17 rfl (.cons Z.bool .nil)))) (.cons .nil) rfl .nil) ?_;exact gw
  refine gr ?_;intro v4 hv4;refine GW.cf rfl (λxr=>?_) λxr=>?_
  ·refine gr ?_;refine GJ.mx (nO 5001 99 iV rfl rfl rfl rfl Fq rfl) ?_;exact gw
  refine gr ?_;refine GW.cf rfl (λcw=>?_) λcw=>?_
  ·refine gr ?_;refine GJ.mx (nO 5002 258 vF rfl rfl rfl rfl sizeOf137 rfl) ?_;refine gj ?_;refine GJ.mx (nO 5003 99 iV rfl rfl rfl rfl Fq rfl) ?_;exact gw
  refine gr ?_;intro v7 hv7;refine GJ.mx (Gl rfl rfl rfl (.wj iV) rfl rfl rfl Fq) ?_;exact gw
instance kd {b0 b1 b2 b3 b4 b5 b6 b7 b8 b9 l9 o6 l8 j9 l7 l6 o7 l5 p5 p4 p7 p6}:F6 (cY b0 b1 b2 b3 b4 b5 b6 b7 b8 b9 l9 o6 l8 j9 l7 l6 o7 l5 p5 p4 p7 p6) prog 156 [.ptr 9000 1] (λA=>(Dq A b0 b1 b2 b3 b5 b7 b8 b9 l9 l8 j9 l7 l6 o7 p5 p4 p7 p6 b4 b6 o6 l5)) (λr=>(.q9 [])) (λA r=>(Nr A b0 b1 b2 b3 b5 b7 b8 b9 l9 l8 j9 l7 l6 o7 p5 p4 p7 p6 b4 r o6 l5)):=
 sD [0,9015,7000000] func156 27 rfl λA r S w R hF=>by
  unfold cY;refine gr ?_;refine GP.bf λv2 M8=>?_;refine GP.ox (On (Ap 15300 (MC.E0 M8) UK (.cons (.ref rfl rfl) .nil) rfl D7.ref (M9.arr M9.nil)) (λ_=>(Sw.Sub.mk id (.cons rfl (.oh rfl rfl) .nil) .nil rfl)) rfl) ?_
  try refine WN ?_
  refine GJ.bf λv3 nt=>?_;refine GJ.mx (cC nt rfl rfl rfl rfl Xd U3 (C7.int U3) rfl) ?_;refine gj ?_
  try refine WN ?_
  refine GJ.mx (La rfl rfl rfl Xd U3 (C7.int U3) rfl) ?_;exact gw
instance qy {b0 b1 b2 b3 b4 b5 b6 b7 b8 b9 l9 o6 l8 j9 l7 l6 o7 l5 p5 p4 p7 p6}:F6 (eJ b0 b1 b2 b3 b4 b5 b6 b7 b8 b9 l9 o6 l8 j9 l7 l6 o7 l5 p5 p4 p7 p6) prog 163 [.ptr 9000 0] (λA=>(Dq A b0 b1 b2 b3 b5 b7 b8 b9 l9 l8 j9 l7 l6 o7 p5 p4 p7 p6 b4 b6 o6 l5)) (λr=>(iW r.1)) (λA r=>(Nr A b0 b1 r.2.1 b3 r.2.2.1 b7 b8 b9 l9 l8 j9 l7 l6 o7 r.2.2.2.2.1 r.2.2.2.2.2 p7 p6 b4 r.2.2.2.1 o6 l5)):=
 sD [9017,7009024] func163 48 rfl λA r S w R hF=>by
  unfold eJ;refine gr ?_;refine GP.ox (xH (off:=6) (o1:=1) rfl rfl rfl rfl (.snd (.fst .here)) OW Fq) ?_;exact gw
instance ay {a1 b0 b1 b2 b3 b4 b5 b6 b7 b8 b9 l9 o6 l8 j9 l7 l6 o7 l5 p5 p4 p7 p6}:F6 (mN a1 b0 b1 b2 b3 b4 b5 b6 b7 b8 b9 l9 o6 l8 j9 l7 l6 o7 l5 p5 p4 p7 p6) prog 162 [.ptr 9000 0,Ai a1] (λA=>(Dq A b0 b1 b2 b3 b5 b7 b8 b9 l9 l8 j9 l7 l6 o7 p5 p4 p7 p6 b4 b6 o6 l5)) (λr=>(.q9 [sJ r.1,iW r.2.1])) (λA r=>(PJ A r.2.2)):=
 sD [] func162 9 rfl λA r S w R hF=>by
  unfold mN;exact gw
instance aJ7 {a0}:MC (oG a0) prog 220 [aP a0] (λr=>(wH r)) (λr=>[]):=
 mc [] func220 9 rfl λr S w hF=>by
  unfold oG;exact gw
instance X9 {a0}:MC (cS a0) prog 248 [wQ a0,.G0 220 []] (λr=>(aP r)) (λr=>[]):=
 mc [] func248 19 rfl λr S w hF=>by
  unfold cS;refine gr ?_;exact GW.lp (λy6:Int=>⟨[(0,wQ a0),(1,.G0 220 []),(7,aP (a0.length:Int)),(8,aP y6)],[]⟩) (λD4:Unit=>⟨[],[]⟩) sb (λ_ _ _ _=>gw) λ_=>gw
instance W5 {a0}:MC (bL a0) prog 219 [wQ a0,.G0 220 []] (λr=>(wH r)) (λr=>[]):=
 mc [] func219 9 rfl λr S w hF=>by
  unfold bL;exact gw
instance aMg {a0}:MC (oX a0) prog 187 [Ix a0] (λr=>(iW r)) (λr=>[]):=
 mc [] func187 27 rfl λr S w hF=>by
  unfold oX;exact gw
instance ua {a0}:MC (sS a0) prog 188 [tZ a0] (λr=>(.v e5q r)) (λr=>[]):=
 mc [] func188 28 rfl λr S w hF=>by
  unfold sS;refine gr ?_;refine GW.lp (λpj=>⟨[(3,.v e5q pj.1),(6,tZ a0),(7,aP (a0.length:Int)),(8,aP pj.2)],[]⟩) (λx38:Int=>⟨[(3,.v e5q x38)],[]⟩) sb (λ_ bYi pj r37=>?_) λ_=>gw;refine gr ?_;refine GW.cf rfl (λbM4=>?_) λ_=>gw;refine gr ?_;intro z40 bJx;exact GW.lp (λxm=>⟨[(3,.v e5q xm.1),(6,tZ a0),(7,aP (a0.length:Int)),(8,aP pj.2),(16,aP xm.2)],[]⟩) (λx48:Int=>⟨[(3,.v e5q x48),(6,tZ a0),(7,aP (a0.length:Int)),(8,aP pj.2)],[]⟩) sb (λ_ _ _ _=>gw) λ_=>gw
instance aOl {a0}:MC (lM a0) prog 138 [Ix a0] (λr=>(.q9 [tZ r.1,iW r.2])) (λr=>[]):=
 mc [29] func138 80 rfl λr S w hF=>by
  unfold lM;refine gr ?_;intro v1 H9 L0;refine GW.lp (λkt=>⟨[(1,.ptr 1 0),(5,.ref 5012),(31,wQ a0.2.1),(32,aP (a0.2.1.length:Int)),(33,aP kt.1)],[(1,QK a0.1 a0.2.1 a0.2.2),(5012,.arr 5 xX kt.2)]⟩) (λx55=>⟨[(1,.ptr 1 0),(5,.ref 5012)],[(1,QK a0.1 a0.2.1 a0.2.2),(5012,.arr 5 xX x55)]⟩) sb (λ_ bYc kt r54=>?_) λx55=>?_
  ·refine gr ?_;refine GW.cf rfl (λcAn=>?_) λ_=>gw;refine gr ?_;intro z57 bW3;exact GW.lp (λzl=>⟨[(1,.ptr 1 0),(5,.ref 5020),(7,aP zl.1),(31,wQ a0.2.1),(32,aP (a0.2.1.length:Int)),(33,aP kt.1)],[(1,QK a0.1 a0.2.1 a0.2.2),(5020,.arr 5 xX zl.2)]⟩) (λx68=>⟨[(1,.ptr 1 0),(5,.ref 5020),(7,aP x68.1),(31,wQ a0.2.1),(32,aP (a0.2.1.length:Int)),(33,aP kt.1)],[(1,QK a0.1 a0.2.1 a0.2.2),(5020,.arr 5 xX x68.2)]⟩) sb (λ_ _ _ _=>gw) λ_=>gw
  refine gr ?_;exact GW.lp (λuu=>⟨[(5,.ref 5024),(54,rI a0.2.2),(55,aP (a0.2.2.length:Int)),(56,aP uu.1)],[(5024,.arr 5 xX uu.2)]⟩) (λx85=>⟨[(5,.ref 5024)],[(5024,.arr 5 xX x85)]⟩) sb (λ_ _ _ _=>gw) λ_=>gw
instance vg {a1 a2 b0 b1 b2 b3 b4 b5 b6 b7 b8 b9 l9 o6 l8 j9 l7 l6 o7 l5 p5 p4 p7 p6}:F6 (cX a1 a2 b0 b1 b2 b3 b4 b5 b6 b7 b8 b9 l9 o6 l8 j9 l7 l6 o7 l5 p5 p4 p7 p6) prog 111 [.ptr 9000 0,wH a1,.v (Fu.qh xX) a2] (λA=>(Dq A b0 b1 b2 b3 b5 b7 b8 b9 l9 l8 j9 l7 l6 o7 p5 p4 p7 p6 b4 b6 o6 l5)) (λr=>(.q9 [])) (λA r=>(Nr A b0 b1 b2 b3 b5 b7 b8 b9 l9 l8 j9 l7 l6 o7 p5 p4 p7 p6 b4 b6 o6 r)):=
 sD [9023] func111 28 rfl λA r S w R hF=>by
  unfold cX;refine gr ?_;intro x2;refine GW.cf rfl (λjx=>?_) λ_=>gw;refine gr ?_;refine GJ.sub (σ2:=⟨[(0,.ptr 9000 0),(1,wH a1),(2,.v (Fu.qh xX) a2),(15,wH x2),(16,.ptr 9000 0),(17,.ptr 9000 0),(18,.ptr 9000 0),(19,.ptr 9000 25),(20,.ref 9053),(21,wH a1),(22,tZ a2.2)],[(9000,Jv b0 9100 b1 b2 b3 9050 b5 9051 b7 b8 b9 l9 9052 9200 l8 j9 l7 l6 o7 9053 (some (A 9000))),(9053,.arr 196 pQ l5),(9100,kZ p5 p4 (some (A 9100))),(9050,.arr 65 aK b4),(9051,.mp dX tY b6),(9052,.arr 3 dX o6),(9200,kZ p7 p6 (some (A 9200)))]⟩) (Sw.Sub.mk id (.cons rfl (.of_eq rfl) (.cons rfl (.of_eq rfl) (.cons rfl (.of_eq rfl) (.cons rfl (.of_eq rfl) (.cons rfl (.of_eq rfl) (.cons rfl (.of_eq rfl) (.cons rfl (.of_eq rfl) (.cons rfl (.of_eq rfl) (.cons rfl (.of_eq rfl) (.cons rfl (.of_eq rfl) (.cons rfl .unN .nil))))))))))) (.box rfl (.cons (.of_eq rfl) (.cons (.of_eq rfl) (.cons (.of_eq rfl) (.cons (.of_eq rfl) (.cons (.of_eq rfl) (.cons (.of_eq rfl) (.cons (.of_eq rfl) (.cons (.of_eq rfl) (.cons (.of_eq rfl) (.cons (.of_eq rfl) (.cons (.of_eq rfl) (.cons (.of_eq rfl) (.cons (.of_eq rfl) (.cons (.of_eq rfl) (.cons (.of_eq rfl) (.cons (.of_eq rfl) (.cons (.of_eq rfl) (.cons (.of_eq rfl) (.cons (.of_eq rfl) (.cons (.of_eq rfl) .nil)))))))))))))))))))) (.arr rfl (.box rfl (.cons (.of_eq rfl) (.cons (.of_eq rfl) .nil)) (.arr rfl (.mp rfl (.arr rfl (.box rfl (.cons (.of_eq rfl) (.cons (.of_eq rfl) .nil)) .nil))))))) rfl) ?_;refine GJ.ox (dP PR (.cons Z.bool (.cons Z.bool (.cons (Z.sl xX) .nil))) (.cons rfl (.dir rfl) rfl rfl rfl rfl (.cons rfl (.dir rfl) rfl rfl rfl rfl .nil))) ?_;exact gw
instance wz {a1 a2 b0 b1 b2 b3 b4 b5 b6 b7 b8 b9 l9 o6 l8 j9 l7 l6 o7 l5 p5 p4 p7 p6}:F6 (gW a1 a2 b0 b1 b2 b3 b4 b5 b6 b7 b8 b9 l9 o6 l8 j9 l7 l6 o7 l5 p5 p4 p7 p6) prog 107 [.ptr 9000 0,wH a1,Ix a2] (λA=>(Dq A b0 b1 b2 b3 b5 b7 b8 b9 l9 l8 j9 l7 l6 o7 p5 p4 p7 p6 b4 b6 o6 l5)) (λr=>(iW r.1)) (λA r=>(Nr A b0 b1 b2 b3 b5 b7 b8 b9 l9 l8 j9 l7 l6 o7 p5 p4 p7 p6 b4 b6 o6 r.2)):=
 sD [9019] func107 21 rfl λA r S w R hF=>by
  unfold gW;refine gr ?_;intro v1 H9;refine GW.jn (λx6=>⟨[(0,.ptr 9000 0),(8,iW v1.2)],(f6q A b0 b1 b2 b3 b5 b7 b8 b9 l9 l8 j9 l7 l6 o7 p5 p4 b4 b6 o6 p7 p6 x6)⟩) rfl (λ_=>gw) _ _ (λk5 L0=>?_) λ_ _=>gw;refine gr ?_;refine GJ.bf λu7 hu7=>?_;refine GJ.bf λv8 hv8=>?_;refine GJ.mx (vA (H:=[9000,9100,9200,9050,9051,9052,9053]) (K:=[9000,9100,9200]) (vJ [(9000,9000),(9100,9100),(9200,9200),(9050,9050),(9051,9051),(9052,9052),(9053,9053),(400,19700),(401,19701),(402,19702),(403,19703)]) (dO rfl) (λA=>F6.E0 A hv8) call111 (.cons (.dir rfl) (.cons (.dir rfl) (.cons (.toN (Kz hu7) rfl) .nil))) (λA=>(.box rfl (.box rfl (.box rfl (.arr rfl (.mp rfl (.arr rfl (.arr rfl .nil)))))))) (λA=>(.box rfl (.box rfl (.box rfl (.arr (.mp (.arr (.arr .nil rfl) rfl) rfl) rfl) rfl) rfl) rfl)) (λ_=>rfl) rfl rfl (λ_=>rfl) rfl rfl) ?_;exact gw
instance aMi {a0 a1 a2}:MC (mD a0 a1 a2) prog 143 [Ft a0,aP a1,aP a2] (λr=>(.q9 [.v vF r.1,wH r.2.1,iW r.2.2])) (λr=>[]):=
 mc [9014,9022,9032,9042,9069,9075,9079,19070,7009088,7019070] func143 92 rfl λr S w hF=>by
  unfold mD;refine gr ?_;intro v1 H9;refine GW.cf rfl (λL0=>?_) λL0=>?_
  ·refine gr ?_;refine GJ.ox (dR (new:=[(22,.arr 99 iV [])]) Fz (.cons zI (.ref 22 rfl .nil)) (.cons .nil) rfl .nil) ?_;exact gw
  refine gr ?_;intro x4;refine GW.cf rfl (λcw=>?_) λcw=>?_
  ·refine gr ?_;refine GJ.ox (dR (new:=[(32,.arr 99 iV [])]) Fz (.cons zI (.ref 32 rfl .nil)) (.cons .nil) rfl .nil) ?_;exact gw
  refine gr ?_;refine GW.cf rfl (λlg=>?_) λlg=>?_
  ·refine gr ?_;refine GJ.ox (dR (new:=[(42,.arr 99 iV [])]) Fz (.cons zI (.ref 42 rfl .nil)) (.cons .nil) rfl .nil) ?_;exact gw
  refine gr ?_;refine GW.lp (λs67=>⟨[(2,aP a2),(3,.ptr 3 0),(6,.ptr 6 0),(10,.ptr 10 0),(44,Xg a0.2.2.1),(45,aP (a0.2.2.1.length:Int)),(46,aP s67.1)],[(3,VH a0.1 a0.2.1 a0.2.2.1 a0.2.2.2),(6,b8q 0 []),(10,.box 307 [ID s67.2])]⟩) (λx96=>⟨[(3,.ptr 3 0),(6,.ptr 6 0),(10,.ptr 10 0)],[(3,VH a0.1 a0.2.1 a0.2.2.1 a0.2.2.2),(6,b8q 0 []),(10,.box 307 [ID x96])]⟩) sb (λ_ bYa s67 r95=>?_) λx96=>?_
  ·refine gr ?_;refine GW.cf rfl (λcAf=>?_) λ_=>gw;refine gr ?_;intro z98 bWy;refine GW.lp (λku=>⟨[(2,aP a2),(3,.ptr 3 0),(6,.ptr 6 0),(10,.ptr 10 0),(12,.ptr 12 0),(44,Xg a0.2.2.1),(45,aP (a0.2.2.1.length:Int)),(46,aP s67.1),(52,aP (z98.2.length:Int)),(53,aP ku.1)],[(3,VH a0.1 a0.2.1 a0.2.2.1 a0.2.2.2),(6,b8q 0 []),(10,.box 307 [ID ku.2]),(12,b8q z98.1 z98.2)]⟩) (λaUf=>⟨[(2,aP a2),(3,.ptr 3 0),(6,.ptr 6 0),(10,.ptr 10 0),(44,Xg a0.2.2.1),(45,aP (a0.2.2.1.length:Int)),(46,aP s67.1)],[(3,VH a0.1 a0.2.1 a0.2.2.1 a0.2.2.2),(6,b8q 0 []),(10,.box 307 [ID aUf])]⟩) sb (λ_ bR0 ku bV3=>?_) λ_=>gw;refine gr ?_;refine GW.cf rfl (λbS5=>?_) λ_=>gw;refine gr ?_;refine GW.cf rfl (λbS4=>?_) λ_=>gw;refine gr ?_;intro aTz bAt;refine GP.ox (Rh (Gg bAt rfl rfl uJ Gb)) ?_;refine gp ?_;intro bU3 bAs
   try refine WN ?_
   refine GJ.mx (At (iX bAs).2.2 rfl rfl rfl rfl sizeOf306) ?_;exact gw
  refine gr ?_;refine GJ.ox (dR (new:=[(75,.arr 99 iV [])]) Fz (.cons zI (.ref 75 rfl .nil)) (.cons .nil) rfl (.cons rfl (.dir rfl) rfl rfl rfl rfl .nil)) ?_;refine GJ.ox (wE (new:=[(100140,.arr 99 iV [])]) 14 VF rfl (.cons zI (.ref 100140 rfl .nil)) (.cons .nil) rfl rfl) ?_;refine gj ?_;refine GW.lp (λqk=>⟨[(6,.ptr 6 0),(14,.ptr 14 0),(76,ID x96),(77,aP qk.1)],[(6,b8q 0 []),(14,.box 258 [aP a0.1,.ref 5004]),(5004,.arr 99 iV qk.2)]⟩) (λaUd=>⟨[(6,.ptr 6 0),(14,.ptr 14 0)],[(6,b8q 0 []),(14,.box 258 [aP a0.1,.ref 5004]),(5004,.arr 99 iV aUd)]⟩) sb (λ_ bRy qk bV1=>?_) λ_=>gw;refine gr ?_;refine GW.cf rfl (λbS0=>?_) λ_=>gw;refine gr ?_;refine GJ.bf λz145 bAq=>?_;refine GJ.ox (BN bAq rfl rfl runUnderlying307 sizeOf306 isAgg306) ?_;exact gw
instance aMm {a0}:MC (oY a0) prog 112 [rI a0] (λr=>(iW r)) (λr=>[]):=
 mc [0,9019] func112 24 rfl λr S w hF=>by
  unfold oY;refine gr ?_;intro L7;refine GW.lp (λxo=>⟨[(3,.ref 10),(11,rI a0),(12,aP (a0.length:Int)),(13,aP xo.1)],[(10,.mp aK Fu.bool xo.2)]⟩) (λT6:Unit=>⟨[],[]⟩) sb (λ_ bYp xo r17=>?_) λ_=>gw;refine gr ?_;refine GW.cf rfl (λaWa=>?_) λ_=>gw;refine gr ?_;intro z20 bXd;refine GJ.ox (EH rfl rfl rfl aAe Qj PL rfl DX rfl zeroValue4 (λ_ _=>⟨_,rfl,rfl⟩)) ?_;refine gj ?_;intro lh;refine GJ.bf λvu aIv=>?_;refine GJ.mx (EI aIv rfl rfl rfl rfl aAe Qj PL rfl DX rfl) ?_;exact gw
instance aLg {a0 a1}:MC (mV a0 a1) prog 77 [rI a0,rI a1] (λr=>(iW r)) (λr=>[]):=
 mc [] func77 16 rfl λr S w hF=>by
  unfold mV;exact gw
instance aPv {a0}:MC (vC a0) prog 78 [rI a0] (λr=>(.q9 [AN r.1,iW r.2])) (λr=>[]):=
 mc [0,9018,9036,29002,4109002,7000000] func78 41 rfl λr S w hF=>by
  unfold vC;refine gr ?_;refine GJ.ox (iF IC) ?_;refine gj ?_;intro x2;refine GW.cf rfl (λjx=>?_) λjx=>?_
  ·refine gr ?_;refine GJ.ox (iF IC) ?_;exact gw
  refine gr ?_;intro v5 hv5;refine GJ.ox (Ud 18 aK 3 dX) ?_;refine gj ?_;refine GW.lp (λiq=>⟨[(4,.ptr 20 0),(21,rI a0),(22,aP (a0.length:Int)),(23,aP iq.1)],[(20,.box 216 [.ref 17300,.ref 18]),(17300,.arr 65 aK v5),(18,.dp (DE.pq true aK 3 dX) (iq.2,none) [])]⟩) (λx28=>⟨[(4,.ptr 20 0)],[(20,.box 216 [.ref 17300,.ref 18]),(17300,.arr 65 aK v5),(18,.dp (DE.pq true aK 3 dX) (x28,none) [])]⟩) sb (λ_ bYl iq r27=>?_) λx28=>?_
  ·refine gr ?_;refine GW.cf rfl (λcAt=>?_) λ_=>gw;refine gr ?_;intro z30 bXa;refine GP.bf λv33 aQy=>?_;refine rD ⟨λk=>E9.mapEntry (.none rfl) 36 aQy rfl rfl rfl aAc Qj PL rfl DX rfl zh.arr zeroValue144 rfl rfl k⟩ ?_;refine gp ?_;intro v34 bKb
   try refine WN ?_
   refine GJ.mx (Nj (RL aQy) rfl rfl rfl rfl rfl rfl) ?_;exact gw
  refine gr ?_;refine GJ.sub (σ2:=⟨[(4,.B8 IC (v5,x28)),(40,.B8 IC (v5,x28))],[]⟩) (Sw.Sub.mk id (.cons rfl (.fx rfl rfl (.cons (.oh rfl rfl) (.cons (.aWn rfl rfl .pq) .nil)) (.C8 (.one _ _) (.one _ _))) (.cons rfl (.fx rfl rfl (.cons (.oh rfl rfl) (.cons (.aWn rfl rfl .pq) .nil)) (.C8 (.one _ _) (.one _ _))) .nil)) .nil rfl) ?_;refine GJ.ox (Rh (dJ rfl)) ?_;exact gw
instance gb {a0 a1}:MC (uG a0 a1) prog 279 [.v jQ a0,VI a1] (λr=>(.q9 [Ai r.1,wH r.2])) (λr=>[]):=
 mc [1011] func279 13 rfl λr S w hF=>by
  unfold uG;exact gw
instance zb {a0 a1}:MC (kU a0 a1) prog 278 [AN a0,sJ a1] (λr=>(.q9 [aP r.1,wH r.2])) (λr=>[]):=
 mc [9012] func278 19 rfl λr S w hF=>by
  unfold kU;refine gr ?_;intro z1 yk;refine GP.ox (Yj rfl rfl aAc Qj PL rfl DX rfl zeroValue144 (λS w=>⟨_,(Z.sl dX) S w,rfl⟩)) ?_;exact gw
instance gh {a0 a1}:MC (mW a0 a1) prog 280 [.v (Fu.ah aDv) a0,VI a1] (λr=>(.q9 [Ai r.1,wH r.2])) (λr=>[]):=
 mc [] func280 21 rfl λr S w hF=>by
  unfold mW;exact gw
end
end Go.Cn
