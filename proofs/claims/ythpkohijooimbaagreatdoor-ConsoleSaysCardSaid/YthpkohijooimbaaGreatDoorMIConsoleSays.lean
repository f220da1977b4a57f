/- The functions come to what their models come to. Conditions: none. -/
import Derived.Test.YthpkohijooimbaaGreatDoorMHConsoleSays
import Derived.WalkKit
import Derived.LaidEql
import Derived.Stop.Asserts
import Derived.RowKitTokens
set_option linter.unusedVariables false
set_option linter.unusedSimpArgs false
set_option linter.unusedSectionVars false
namespace Go.Cn
open Go Go.Sw Go.Mo Go.Proofs Go.Proofs.Tryz
section
set_option maxHeartbeats 4000000
set_option maxRecDepth 100000
variable {gobj:List Obj} [GO gobj]
theorem Hm{N r}(h:dG N=some r):O4 prog 179 [.v (Fu.sl (Fu.int .u8)) N] (.q9 [.v (Fu.pr Q0 (Fu.pr (Fu.sl Q0) (Fu.sl aK))) r.1,.v Q8 r.2]) []:=by
 refine O4.of func179 Y ntmps179 Y ?_;intro S w E;unfold dG at h;refine fH (.k (dV 2 PF Y (.cons zI (.cons (Z.sl Q0) (.cons (Z.sl aK) .nil))) Y) (.f [0,2,3] ?_));refine sZ [0,2,3,17] ?_;refine lZ h Y (λU h=>?_) (λU h=>?_)
 ·refine fH (.k (dR (new:=[(100180,.arr 3 Q0 ([]:Q6)),(18,.arr 65 aK ([]:Q9))]) wR (.cons zI (.ref 100180 Y (.ref 18 Y .nil))) (.cons (.cons .nil)) Y .nil) (.f [2,3] ?_));refine cN ?_;obtain rfl:=X6 h;exact kO (O':=⟨[(2,.ptr 90 0),(3,.v Q8 (some (3:Int)))],[(90,.box 205 [.v Q0 (0:Int),.v (Fu.sl Q0) ([]:Q6),.v (Fu.sl aK) ([]:Q9)])]⟩) (bQ [(90,2)]) (tG E Kk Y (pX Y Y (.C8 sO (.C8 sO sO)) AE Xc) (RV.tmp Y) .nil Y)
 refine bN ?_;obtain⟨v2,M8,h⟩:=aC h;refine fH (.a 4 ?_);refine .k (Qx M8 Y Y Xp S5) (.f [0,2,3,4] ?_);obtain⟨v3,nt,h⟩:=aC h;refine fH (.a 1 ?_);refine .k (cQ (ua.E0 nt) call188 (.cons (.dir Y) .nil)) (.f [0,2,3,4,5] ?_);obtain⟨v4,ae,h⟩:=aC h;obtain⟨z5,af,h⟩:=aC h;refine Lf (.a 3 ?_);refine .k (Ea ae Y Y Xp S5) (.k (Br af Y VC) ?_);refine .a 2 ?_;refine .k (Am (.inr Y) (by decide) Y Y) ?_;refine .a 2 ?_;refine .k (Am (.inr Y) (by decide) Y Y) ?_;refine .a 2 ?_;refine .k (Am (.inr Y) (by decide) Y Y) ?_;refine .a 3 ?_;refine .k (Og (e:=(Fu.int .u8)) typeInfo339 VC I5 Y Y Y Y Y (.cons (.dir Y) (.cons (.dir Y) (.cons (.dir Y) (.cons (.dir Y) .nil))))) (.k (JD XD Y Y eqGuardType339 Y Y) (.f [2,3,4,45] ?_));refine lZ h Y (λV h=>?_) (λV h=>?_)
 ·refine fH (.k (dR (new:=[(100460,.arr 3 Q0 ([]:Q6)),(46,.arr 65 aK ([]:Q9))]) wR (.cons zI (.ref 100460 Y (.ref 46 Y .nil))) (.cons (.cons .nil)) Y .nil) (.f [2,3] ?_));refine cN ?_;obtain rfl:=X6 h;exact kO (O':=⟨[(2,.ptr 90 0),(3,.v Q8 (some (3:Int)))],[(90,.box 205 [.v Q0 (0:Int),.v (Fu.sl Q0) ([]:Q6),.v (Fu.sl aK) ([]:Q9)])]⟩) (bQ [(90,2)]) (tG E Kk Y (pX Y Y (.C8 sO (.C8 sO sO)) AE Xc) (RV.tmp Y) .nil Y)
 refine bN ?_;refine fH (.a 1 ?_);refine .k (dP PU (.cons (Z.sl (Fu.int .u8)) .nil) (.cons Y (.dir Y) Y Y Y Y .nil)) (.k (Gf 50 Y Y) (.f [2,3,6] ?_));obtain⟨D,ai,h⟩:=aC h;refine fH (.a 1 ?_);refine .t (tK [50] (Sz [(9000,50)]) (mH _) (λA=>K7.E0 A ai) call209 (λA=>(.box Y .nil Y))) (.f [2,3,6,7] ?_);obtain⟨P,aj,h⟩:=aC h;refine fH (.a 1 ?_);refine .t (tK [50] (Sz [(9000,50)]) (mH _) (λA=>K7.E0 A aj) call209 (λA=>(.box Y .nil Y))) (.f [2,3,6,7,9] ?_);refine fH (.a 1 ?_);refine .k (Am (.inr Y) (by decide) Y Y) (.k (by exact wD U5 U3 Y Y) (.k (by exact dR (new:=[(100640,.arr 3 Q0 ([]:Q6)),(64,.arr 65 aK ([]:Q9))]) wR (.cons zI (.ref 100640 Y (.ref 64 Y .nil))) (.cons (.cons .nil)) Y (.cons Y (.dir Y) Y Y Y Y .nil)) (.k (by exact wE (new:=[(100111,.arr 3 Q0 ([]:Q6)),(100110,.arr 65 aK ([]:Q9))]) 11 PF Y (.cons zI (.ref 100111 Y (.ref 100110 Y .nil))) (.cons (.cons .nil)) Y Y) (.f [2,3,6,7,9,11] ?_))));refine sZ [2,3,6,9,11,66,67] ?_;obtain⟨a3,ak,al,an⟩:=uU h;refine Nh (σs:=λI:Int×Q6×Q6=>⟨[(2,.ptr 2 0),(3,.v Q8 (none:Option Int)),(6,.ptr 50 0),(9,.v (Fu.int .u8) P.1),(11,.ptr 11 0),(66,.v (Fu.int .u8) (ar .and .u8 D.1 (15:Int))),(67,.v (Fu.int .u8) I.1)],[(2,.box 205 [.v Q0 (0:Int),.v (Fu.sl Q0) ([]:Q6),.v (Fu.sl aK) ([]:Q9)]),(50,.box 342 [.v (Fu.sl (Fu.int .u8)) I.2.1]),(11,.box 205 [.v Q0 (sh .shr .u8 D.1 (4:Int)),.ref 5004,.ref 64]),(5004,.arr 3 Q0 I.2.2),(64,.arr 65 aK ([]:Q9))]⟩) (λu:Q6×Q6=>⟨[(2,.ptr 2 0),(3,.v Q8 (none:Option Int)),(6,.ptr 50 0),(9,.v (Fu.int .u8) P.1),(11,.ptr 11 0)],[(2,.box 205 [.v Q0 (0:Int),.v (Fu.sl Q0) ([]:Q6),.v (Fu.sl aK) ([]:Q9)]),(50,.box 342 [.v (Fu.sl (Fu.int .u8)) u.1]),(11,.box 205 [.v Q0 (sh .shr .u8 D.1 (4:Int)),.ref 5004,.ref 64]),(5004,.arr 3 Q0 u.2),(64,.arr 65 aK ([]:Q9))]⟩) ak (bQ [(5004,100640)]) ?_ ?_
 ·intro u M;have h:=al _ M;refine aQ ?_;refine aQ ?_;obtain⟨ao,B,h⟩:=aC h;refine pS (O':=⟨[(2,.ptr 2 0),(3,.v Q8 (none:Option Int)),(6,.ptr 50 0),(11,.ptr 11 0),(104,.v Fu.bool ao)],[(2,.box 205 [.v Q0 (0:Int),.v (Fu.sl Q0) ([]:Q6),.v (Fu.sl aK) ([]:Q9)]),(50,.box 342 [.v (Fu.sl (Fu.int .u8)) u.1]),(11,.box 205 [.v Q0 (sh .shr .u8 D.1 (4:Int)),.ref 5004,.ref 64]),(5004,.arr 3 Q0 u.2),(64,.arr 65 aK ([]:Q9))]⟩) ?_ ?_
  ·refine cd B (λX B=>?_) (λX B=>?_)
   ·cases B;refine ja 1 ?_;exact(J.k (by exact wD U5 U3 Y Y) jy)
   refine cd B (λO B=>?_) (λO B=>?_)
   ·cases B;refine ja 1 ?_;exact(J.k (by exact wD U5 U3 Y Y) jy)
   cases B;refine ja 1 ?_;refine(J.k (by exact wD U5 U3 Y Y) ?_);refine ja 14 ?_;exact(J.g O (by exact wD U5 U3 Y Y) jy)
  refine lZ h Y (λab h=>?_) (λab h=>?_)
  ·refine fH (.k (dR (new:=[(101050,.arr 3 Q0 ([]:Q6)),(105,.arr 65 aK ([]:Q9))]) wR (.cons zI (.ref 101050 Y (.ref 105 Y .nil))) (.cons (.cons .nil)) Y .nil) (.f [2,3] ?_));refine cN ?_;obtain rfl:=X6 h;exact kO (O':=⟨[(2,.ptr 90 0),(3,.v Q8 (some (3:Int)))],[(90,.box 205 [.v Q0 (0:Int),.v (Fu.sl Q0) ([]:Q6),.v (Fu.sl aK) ([]:Q9)])]⟩) (bQ [(90,2)]) (tG E Kk Y (pX Y Y (.C8 sO (.C8 sO sO)) AE Xc) (RV.tmp Y) .nil Y)
  refine bN ?_;obtain⟨K,ap,h⟩:=aC h;refine Lf (.a 4 ?_);refine .k (cQ (R9.E0 ap) call211 (.cons (.dir Y) (.cons (.dir Y) .nil))) (.f [2,3,11,111] ?_);refine fC ?_;obtain⟨a4,aq,h⟩:=aC h;obtain⟨a5,Q,h⟩:=aC h;obtain⟨a6,au,av,a7⟩:=Jf h;refine Je (g:=[(2,.ptr 2 0),(3,.v Q8 (none:Option Int)),(11,.ptr 11 0),(111,.G0 243 [.B8 (Fu.sl (Fu.int .u8)) K.1,.B8 Q0 K.2])]) (ds0:=[(2,.box 205 [.v Q0 (0:Int),.v (Fu.sl Q0) ([]:Q6),.v (Fu.sl aK) ([]:Q9)]),(11,.box 205 [.v Q0 (sh .shr .u8 D.1 (4:Int)),.ref 5004,.ref 5008]),(5004,.arr 3 Q0 u.2),(5008,.arr 65 aK ([]:Q9))]) (L:=[2,11]) (λF:Q6=>[.v (Fu.sl (Fu.int .u8)) F]) (λC (G:Q9)=>[(2,.box 205 [.v Q0 (0:Int),.v (Fu.sl Q0) ([]:Q6),.v (Fu.sl aK) ([]:Q9)] (some (C 2))),(11,.box 205 [.v Q0 (sh .shr .u8 D.1 (4:Int)),.ref 5004,.ref 5008] (some (C 11))),(5004,.arr 3 Q0 u.2),(5008,.arr 65 aK G)]) (λ_ (z:Empty)=>z.elim) (λC F G=>⟨[(2,.ptr 2 0),(3,.v Q8 (none:Option Int)),(11,.ptr 11 0),(14,.v (Fu.sl (Fu.int .u8)) F),(111,.G0 243 [.B8 (Fu.sl (Fu.int .u8)) K.1,.B8 Q0 K.2])],[(2,.box 205 [.v Q0 (0:Int),.v (Fu.sl Q0) ([]:Q6),.v (Fu.sl aK) ([]:Q9)] (some (C 2))),(11,.box 205 [.v Q0 (sh .shr .u8 D.1 (4:Int)),.ref 5004,.ref 5008] (some (C 11))),(5004,.arr 3 Q0 u.2),(5008,.arr 65 aK G)]⟩) E Y au (bQ [(5008,64)]) (λ_=>rfl) Y ((aAz (Bt Q).1 (Cw aq) (Bt Q).2).x) call243 (λ_=>rfl) Y (λ_=>rfl) Y (λ_ _=>(.cons Y (.cons Y .nil))) (λ_ z=>z.elim) ?_ ?_ ?_ ?_
  ·intro C S w R l F G;refine qA [2,3,11,14,111] ?_;exact QX (bQ [])
  ·intro C S w R l F G a1 h;refine fC ?_;obtain⟨a8,aw,h⟩:=aC h;obtain⟨a9,ax,h⟩:=aC h;refine Af 6 mixed (by exact(.k (cB 2 Y HZ Y PA Y Y) (.k (gK Y Y Y isAgg75 PA) (.k (aZ Y) (.k (Br aw Y Qj) (.k (rY Y UO Su) (.k (rZ (e:=aK) U75 Su QI Y Y Y Y (.cons (.dir Y) .nil)) .nil))))))) (by exact(J.t (oR 119 ax Y Y (.sl Y) U75 QH Su Y Y Y Y Y) (jz [2,3,11,111]))) ?_;cases h;exact kE (Jg (bQ [(5008,119)]))
  ·intro C T M S w R df E;have h:=av _ M;refine kE ?_;refine fH (.k (Ke Y Y Y AE Xc) (.f [2,3] ?_));refine cN ?_;obtain rfl:=X6 h;exact kO (O':=⟨[(2,.ptr 90 0),(3,.v Q8 (none:Option Int))],[(90,.box 205 [.v Q0 (sh .shr .u8 D.1 (4:Int)),.v (Fu.sl Q0) u.2,.v (Fu.sl aK) T])]⟩) (bQ [(90,2)]) (tG E Kk Y (pX Y Y (.C8 sO (.C8 sO sO)) AE Xc) (RV.tmp Y) .nil Y)
  ·exact λ_ z=>z.elim
 intro I a2 h;refine iZ [2,3,6,9,11,66,67,68] ?_;refine aQ ?_;refine lZ h Y (λac h=>?_) (λac h=>?_)
 ·refine bN ?_;refine aQ ?_;refine fC ?_;obtain⟨K1,ay,h⟩:=aC h;refine fH (.a 1 ?_);refine .t (tK [50] (Sz [(9000,50)]) (mH _) (λA=>U8.E0 A ay) call210 (λA=>(.box Y .nil Y))) (.f [2,3,6,9,11,12,13,66,67] ?_);refine sZ [2,3,6,9,11,12,66,67,75] ?_;refine lZ h Y (λad h=>?_) (λad h=>?_)
  ·refine fH (.k (dR (new:=[(100760,.arr 3 Q0 ([]:Q6)),(76,.arr 65 aK ([]:Q9))]) wR (.cons zI (.ref 100760 Y (.ref 76 Y .nil))) (.cons (.cons .nil)) Y .nil) (.f [2,3] ?_));refine cN ?_;refine xQ ?_;cases h;refine yX λho=>?_;obtain rfl:=an _ ho;exact kO (O':=⟨[(2,.ptr 90 0),(3,.v Q8 (some (3:Int)))],[(90,.box 205 [.v Q0 (0:Int),.v (Fu.sl Q0) ([]:Q6),.v (Fu.sl aK) ([]:Q9)])]⟩) (bQ [(90,2)]) (tG E Kk Y (pX Y Y (.C8 sO (.C8 sO sO)) AE Xc) (RV.tmp Y) .nil Y)
  refine bN ?_;obtain⟨ij,az,h⟩:=aC h;refine pZ (.a 3 ?_);refine .k (rZ (e:=Q0) Iu S3 Z3 Y Y Y Y (.cons (.dir Y) .nil)) (.t (oR 82 az Y Y (.sl Y) Iu I3 S3 Y Y Y Y Y) (.f [2,3,6,9,11,66,67] ?_));refine kE ?_;refine qA [2,3,6,9,11,66,67] ?_;cases h;exact vH (bQ [(5004,82)])
 cases h;exact tF (wM (bQ []))
instance aJb {a0:Q6}:MC (dG a0) prog 179 [.v (Fu.sl (Fu.int .u8)) a0] (λr:(Int×Q6×Q9)×(Option Int)=>(.q9 [.v (Fu.pr Q0 (Fu.pr (Fu.sl Q0) (Fu.sl aK))) r.1,.v Q8 r.2])) (λr:(Int×Q6×Q9)×(Option Int)=>[]):=⟨λh=>Hm h,call179⟩
instance aMd {a0}:MC (pB a0) prog 97 [tZ a0] (λr=>(Aj r)) (λr=>[]):=
 mc [] func97 19 rfl λr S w hF=>by
  unfold pB;refine gr ?_;exact GW.lp (λs7=>⟨[(3,Aj s7.1),(6,tZ a0),(7,aP (a0.length:Int)),(8,aP s7.2)],[]⟩) (λP0:Int=>⟨[(3,Aj P0)],[]⟩) sb (λ_ _ _ _=>gw) λ_=>gw
instance aPl {a0}:MC (vD a0) prog 70 [sJ a0] (λr=>(Aj r)) (λr=>[]):=
 mc [3] func70 7 rfl λr S w hF=>by
  unfold vD;exact gw
instance N8 {a0 a1}:MC (gM a0 a1) prog 98 [Ck a0,aP a1] (λr=>(.G0 129 [.B8 Hl r.1,.B8 dX r.2])) (λr=>[]):=
 mc [29004] func98 9 rfl λr S w hF=>by
  unfold gM;refine gr ?_;refine GJ.ox (cW rfl) ?_;refine gj ?_;refine GW.jn (λx3:Unit=>⟨[(2,.ptr 2 0),(3,.ptr 3 0)],[(2,.box 82 [Ck a0]),(3,.box 3 [aP a1])]⟩) rfl (λ_=>gw) _ _ (λk2 L7=>?_) λ_ _=>gw;exact⟨λ_ h=>by cases h⟩
theorem aA0{xs:List Int}{n:Int}(hn:1<=n)(hlen:(xs.length:Int)<=4294967296)(hn2:n<=4294967296):mw prog 129 [.B8 (Fu.sl (Fu.int .u64)) xs,.B8 Q0 n] ((chunks n.toNat xs).map λc=>[.v (Fu.sl (Fu.int .u64)) c]):=by
 refine Oj func129 Y ntmps129 Y ?_;intro S w ρ l Jp Jx b off b' U0 I hJ0 h1 h2;refine aQ ?_;refine pS (O':=⟨[(0,.v (Fu.H2 (.func (.yield l) #[] #[]) Y) ()),(1,.v (Fu.cp b off (Fu.sl (Fu.int .u64))) xs),(2,.v (Fu.cp b' U0 Q0) n),(4,.v Q0 ((0:Nat)*n))],[]⟩) (J.k (dJ Y) (J.fin (jP (by rfl) (by exact(.cons Y (.cons Y (.cons Y (.cons (by simp[lk,AS.put]) .nil)))))))) ?_;refine fC ?_;refine Ra I (λk=>[(0,.v (Fu.H2 (.func (.yield l) #[] #[]) Y) ()),(1,.v (Fu.cp b off (Fu.sl (Fu.int .u64))) xs),(2,.v (Fu.cp b' U0 Q0) n),(4,.v Q0 ((k:Nat)*n))]) (λk=>(.cons (@P7.flat _ _ ⟨λh=>h⟩ _ _ _ _) (.cons h1 (.cons h2 (.cons .flat .nil))))) (λ_ _ h=>h) hJ0 ?_;intro k V C L;have B:((chunks n.toNat xs).map λc=>([.v (Fu.sl (Fu.int .u64)) c]:List Slot)).length=(chunks n.toNat xs).length:=sv ..;refine aQ (aQ ?_);refine pS (O':=⟨[(0,.v (Fu.H2 (.func (.yield l) #[] #[]) Y) ()),(1,.v (Fu.cp b off (Fu.sl (Fu.int .u64))) xs),(2,.v (Fu.cp b' U0 Q0) n),(4,.v Q0 (k*n)),(9,.v Fu.bool (cm .lss (k*n) xs.length))],[]⟩) (J.mv Y (J.k (lD Y ZL XA) (J.k (vG Y VD) (J.k (Kd Y Y Y) (J.fin (jP (by rfl) (by exact(.cons Y (.cons Y (.cons Y (.cons Y (.cons Y .nil)))))))))))) ?_;refine yT Y (λu=>?_) (λu=>?_)
 ·refine bN ?_;have E:(k:Int)*n<xs.length:=by simpa[cm] using u
  obtain⟨D,O,P,Q,R⟩:=Hs hn hn2 hlen E;have F:k<(chunks n.toNat xs).length:=(N9 (by omega) xs).2 D;refine aQ ?_;refine fC ?_;refine aQ ?_;refine Af (O':=⟨[(0,.v (Fu.H2 (.func (.yield l) #[] #[]) Y) ()),(1,.v (Fu.cp b off (Fu.sl (Fu.int .u64))) xs),(2,.v (Fu.cp b' U0 Q0) n),(4,.v Q0 (k*n)),(5,.v Q0 (min n ((xs.drop (k*n.toNat)).length:Int)))],[]⟩) 7 mixed (by exact(.k (lD Y G3 S3) (.k (lD Y ZL XA) (.k (aZ Y) (.k (Ea O Y Y VD ZU) (.k (vG Y VD) (.k (Bs Y Y) (.k (dJ Y) .nil)))))))) (by exact J.fin (jP (by rfl) (by exact(.cons Y (.cons Y (.cons Y (.cons Y (.cons Y .nil)))))))) ?_;refine aQ ?_;refine Kr (σ1:=⟨[(19,.v (Fu.H2 (.func (.yield l) #[] #[]) Y) ()),(28,.v (Fu.sl (Fu.int .u64)) ((xs.drop (k*n.toNat)).take n.toNat)),(0,.v (Fu.H2 (.func (.yield l) #[] #[]) Y) ()),(1,.v (Fu.cp b off (Fu.sl (Fu.int .u64))) xs),(2,.v (Fu.cp b' U0 Q0) n),(4,.v Q0 (k*n))],[]⟩) (g2:=[(0,.v (Fu.H2 (.func (.yield l) #[] #[]) Y) ()),(1,.v (Fu.cp b off (Fu.sl (Fu.int .u64))) xs),(2,.v (Fu.cp b' U0 Q0) n),(4,.v Q0 (k*n))]) (pre:=[_,_,_,_,_,_,_,_,_,_]) I C (item:=[.v (Fu.sl (Fu.int .u64)) ((xs.drop (k*n.toNat)).take n.toNat)]) (by rw[ze,gi (by omega) D];rfl)
   (J.cons (.none rfl) (aZ rfl) rfl rfl (J.cons (.none rfl) (lD rfl ZL XA) rfl rfl (J.cons (.none rfl) (aZ rfl) rfl rfl (J.cons (.none rfl) (aZ rfl) rfl rfl (J.cons (.none rfl) (aZ rfl) rfl rfl (J.cons (.none rfl) (lI rfl rfl rfl) rfl rfl (J.cons (.none rfl) (aZ rfl) rfl rfl (J.cons (.none rfl) (aZ rfl) rfl rfl (J.cons (.none rfl) (lI rfl rfl rfl) rfl rfl (J.cons (.none rfl) (JH P Q rfl rfl rfl rfl VD ZU) rfl rfl (J.fin (jP (by rfl) (by exact(.cons rfl (.cons rfl (.cons rfl (.cons rfl (.cons rfl (.cons rfl .nil)))))))))))))))))))
   rfl (.cons (.dir rfl) .nil) rfl rfl rfl rfl (.cons (@P7.flat _ _ ⟨λh=>h⟩ _ _ _ _) (.cons h1 (.cons h2 (.cons .flat .nil)))) (.cons rfl (.cons rfl (.cons rfl (.cons rfl .nil)))) (λA M=>?_) (λA N=>?_)
  ·refine tH rfl rfl (bN (kE ?_));refine pS (O':=⟨[(0,.v (Fu.H2 (.func (.yield l) #[] #[]) Y) ()),(1,.v (Fu.cp b off (Fu.sl (Fu.int .u64))) xs),(2,.v (Fu.cp b' U0 Q0) n),(4,.v Q0 (ar .add .i64 (k*n) n))],[]⟩) (J.mv Y (J.k (lD Y G3 S3) (J.k (lI Y Y Y) (J.k (dJ Y) (J.fin (jP (by rfl) (by exact(.cons Y (.cons Y (.cons Y (.cons Y .nil))))))))))) ?_;exact Rb I M (by rw[B];exact F) (by rw[R];exact λ_ _ h=>h)
  ·refine rV rfl rfl (cN (Rc (fn:=f129) I rfl N λa A h=>h))
 ·refine tF (Yf (fn:=f129) I rfl C ?_ (λa A h=>?_))
  ·have G:¬(k:Int)*n<xs.length:=(by simpa[cm] using u);have K:((k:Int)*n)=((k*n.toNat:Nat):Int):=(by push_cast;rw[Int.toNat_of_nonneg (by omega)]);have:¬k*n.toNat<xs.length:=λh=>G (by rw[K];exact_mod_cast h);rw[B] at L ⊢;have:=mt (N9 (n:=n.toNat) (by omega) xs (k:=k)).1 this;omega
  ·simp only[Exit.inBlock,K4];exact h
instance tq {a0}:MC (vE a0) prog 99 [Ck a0] (λr=>(Aj r)) (λr=>[]):=
 mc [7] func99 28 rfl λr S w hF=>by
  unfold vE;refine gr ?_;refine GW.lp (λs39=>⟨[(3,.ref 5012),(8,Ck a0),(9,aP (a0.length:Int)),(10,aP s39.1)],[(5012,.arr 5 xX s39.2)]⟩) (λx59=>⟨[(3,.ref 5012)],[(5012,.arr 5 xX x59)]⟩) sb (λ_ bK7 s39 r58=>?_) λ_=>gw;refine gr ?_;refine GW.cf rfl (λbM0=>?_) λ_=>gw;refine gr ?_;intro z61 aVh;exact GW.lp (λs69=>⟨[(3,.ref 5020),(5,Aj z61),(6,aP s69.1),(8,Ck a0),(9,aP (a0.length:Int)),(10,aP s39.1)],[(5020,.arr 5 xX s69.2)]⟩) (λx74=>⟨[(3,.ref 5020),(8,Ck a0),(9,aP (a0.length:Int)),(10,aP s39.1)],[(5020,.arr 5 xX x74)]⟩) sb (λ_ _ _ _=>gw) λ_=>gw
theorem Nb{E r}(h:nQ E=some r):O4 prog 71 [.v (Fu.sl (Fu.int .u64)) E] (.v (Fu.sl (Fu.int .u64)) r) []:=by
 refine O4.of func71 Y ntmps71 Y ?_;intro S w D;unfold nQ at h;refine fH (.k (vR (Fu.int .u64)) (.f [0,2] ?_));refine fH (.k (wE (new:=[(100030,.arr 81 (Fu.int .u64) ([]:Q6))]) 3 Z82 Y (.ref 100030 Y .nil) (.cons .nil) Y Y) (.f [0,2,3] ?_));obtain⟨C,I,h⟩:=aC h;refine Lf (.a 1 ?_);refine .k (cQ (N8.E0 I) call98 (.cons (.dir Y) (.cons (.dir Y) .nil))) (.f [2,3,6] ?_);refine fC ?_;obtain⟨V,K,h⟩:=aC h;obtain⟨X,F,h⟩:=aC h;obtain⟨o2,M,N,zn⟩:=Jf h;refine Je (g:=[(2,.v (Fu.sl (Fu.int .u64)) ([]:Q6)),(3,.ptr 3 0),(6,.G0 129 [.B8 (Fu.sl (Fu.int .u64)) C.1,.B8 Q0 C.2])]) (ds0:=[(3,.box 82 [.ref 5004]),(5004,.arr 81 (Fu.int .u64) ([]:Q6))]) (L:=[3]) (λA:Q6=>[.v (Fu.sl (Fu.int .u64)) A]) (λu (B:Q6)=>[(3,.box 82 [.ref 5004] (some (u 3))),(5004,.arr 81 (Fu.int .u64) B)]) (λ_ (z:Empty)=>z.elim) (λu A B=>⟨[(2,.v (Fu.sl (Fu.int .u64)) ([]:Q6)),(3,.ptr 3 0),(4,.v (Fu.sl (Fu.int .u64)) A),(6,.G0 129 [.B8 (Fu.sl (Fu.int .u64)) C.1,.B8 Q0 C.2])],[(3,.box 82 [.ref 5004] (some (u 3))),(5004,.arr 81 (Fu.int .u64) B)]⟩) D Y M (bQ [(5004,100030)]) (λ_=>rfl) Y ((aA0 (Bt F).1 (Cw K) (Bt F).2).x) call129 (λ_=>rfl) Y (λ_=>rfl) Y (λ_ _=>(.cons Y .nil)) (λ_ z=>z.elim) ?_ ?_ ?_ ?_
 ·intro u S w R l A B;refine qA [2,3,4,6] ?_;exact QX (bQ [])
 ·intro u S w R l A B Q h;refine fC ?_;obtain⟨ab,O,h⟩:=aC h;obtain⟨ac,P,h⟩:=aC h;refine Af 4 mixed (by exact(.k (gK Y Y Y ZL XA) (.k (aZ Y) (.k (cQ (tq.E0 O) call99 (.cons (.dir Y) .nil)) (.k (rZ (e:=(Fu.int .u64)) VD ZU zeroValue81 Y Y Y Y (.cons (.dir Y) .nil)) .nil))))) (by exact(J.t (oR 12 P Y Y (.sl Y) VD typeInfo81 ZU Y Y Y Y Y) (jz [2,3,6]))) ?_;cases h;exact kE (Jg (bQ [(5004,12)]))
 ·intro u T G S w R U D;have h:=N _ G;refine kE ?_;refine iZ [2] ?_;cases h;exact cN (aBo D Kk Y (bQ []))
 ·exact λ_ z=>z.elim
instance aLb {a0:Q6}:MC (nQ a0) prog 71 [.v (Fu.sl (Fu.int .u64)) a0] (λr:Q6=>(.v (Fu.sl (Fu.int .u64)) r)) (λr:Q6=>[]):=⟨λh=>Nb h,call71⟩
instance yv {a0}:MC (wF a0) prog 54 [rI a0] (λr=>(.q9 [.v (Fu.ah aAh) r.1,iW r.2])) (λr=>[]):=
 mc [4,31,9007,9016] func54 45 rfl λr S w hF=>by
  unfold wF;refine gr ?_;intro x2;refine GW.cf rfl (λjx=>?_) λjx=>?_
  ·refine gr ?_;refine GJ.ox (dR (new:=[(16,.arr 82 Hl [])]) VN (.ref 16 rfl .nil) (.cons .nil) rfl .nil) ?_;exact gw
  refine gr ?_;refine GW.lp (λF5=>⟨[(2,.ptr 2 0),(4,.ref 5004),(18,rI a0),(19,aP (a0.length:Int)),(20,aP F5.1)],[(2,.box 73 [Iy []]),(5004,.arr 81 Xr F5.2)]⟩) (λfh=>⟨[(2,.ptr 2 0),(4,.ref 5004)],[(2,.box 73 [Iy []]),(5004,.arr 81 Xr fh)]⟩) sb (λ_ _ _ _=>gw) λfh=>?_;refine gr ?_;refine GJ.ox (wE (new:=[(100070,.arr 82 Hl [])]) 7 Z73 rfl (.ref 100070 rfl .nil) (.cons .nil) rfl rfl) ?_;refine gj ?_;exact GW.lp (λdy=>⟨[(2,.ptr 2 0),(4,Ck dy.1),(7,.ptr 7 0)],[(2,.box 73 [Iy []]),(7,.box 73 [.ref 5008]),(5008,.arr 82 Hl dy.2)]⟩) (λic=>⟨[(2,.ptr 2 0),(7,.ptr 7 0)],[(2,.box 73 [Iy []]),(7,.box 73 [.ref 5008]),(5008,.arr 82 Hl ic)]⟩) sb (λ_ _ _ _=>gw) λ_=>gw
instance aJ5 {a0}:MC (oJ a0) prog 212 [Aj a0] (λr=>(wQ r)) (λr=>[]):=
 mc [] func212 11 rfl λr S w hF=>by
  unfold oJ;exact gw
instance aOf {a0}:MC (jH a0) prog 180 [rI a0] (λr=>(wQ r)) (λr=>[]):=
 mc [] func180 23 rfl λr S w hF=>by
  unfold jH;exact gw
instance aLm {a0 a1}:MC (mY a0 a1) prog 181 [AL a0,tZ a1] (λr=>(.q9 [AL r.1,Ix r.2.1,wH r.2.2.1,.v (Fu.qh xX) r.2.2.2.1,iW r.2.2.2.2])) (λr=>[]):=
 mc [29007,9209007] func181 98 rfl λr S w hF=>by
  unfold mY;refine gr ?_;refine GJ.ox (xU xX) ?_;refine gj ?_;intro v1 H9;refine GW.cf rfl (λL0=>?_) λL0=>?_
  ·refine gr ?_;refine GJ.ox (xU xX) ?_;exact gw
  refine gr ?_;intro v3 nt Y1;refine GW.cf rfl (λaWb=>?_) λaWb=>?_
  ·refine gr ?_;refine GJ.ox (xU xX) ?_;exact gw
  refine gr ?_;intro R5;refine GW.jn (λx27=>⟨[(2,.ptr 2 0),(4,.ptr 4 0),(5,.ptr 5 0),(6,wH x27.1)],[(2,.box 148 [aP a0.1,aP x27.2.1]),(4,.box 148 [aP 0,aP 0]),(5,QK x27.2.2.1 x27.2.2.2.1 x27.2.2.2.2)]⟩) rfl (λx27=>?_) _ _ (λ_ _=>gw) λ_ _=>gw;refine gr ?_;intro v30 bXu;refine GJ.bf λu31 bKn=>?_;refine GJ.ox (XP (Kz bKn) (dJ rfl)) ?_;exact gw
instance tx {a1 a2 b0 b1 b2 b3 b4 b5 b6 b7 b8 b9 l9 o6 l8 j9 l7 l6 o7 l5 p5 p4 p7 p6}:F6 (fR a1 a2 b0 b1 b2 b3 b4 b5 b6 b7 b8 b9 l9 o6 l8 j9 l7 l6 o7 l5 p5 p4 p7 p6) prog 202 [.ptr 9000 18,Dm a1,aP a2] (λA=>(Dq A b0 b1 b2 b3 b5 b7 b8 b9 l9 l8 j9 l7 l6 o7 p5 p4 p7 p6 b4 b6 o6 l5)) (λr=>(iW r.1)) (λA r=>(Nr A b0 b1 b2 b3 b5 b7 b8 b9 l9 l8 r.2.1 l7 l6 o7 p5 p4 r.2.2.1 r.2.2.2 b4 b6 o6 l5)):=
 sD [7009018] func202 26 rfl λA r S w R hF=>by
  unfold fR;exact gw
instance aJa {a0}:MC (mZ a0) prog 213 [Ix a0] (λr=>(.q9 [Fv r.1,wH r.2])) (λr=>[]):=
 mc [2,4] func213 48 rfl λr S w hF=>by
  unfold mZ;refine gr ?_;intro v1 H9;refine GW.lp (λxn=>⟨[(4,.ref 5004),(5,rI xn.1),(13,wQ v1),(14,aP (v1.length:Int)),(15,aP xn.2.1)],[(5004,.arr 95 uK xn.2.2)]⟩) (λx42=>⟨[(4,.ref 5004),(5,rI x42.1)],[(5004,.arr 95 uK x42.2)]⟩) sb (λ_ bYf xn r41=>?_) λ_=>gw;refine gr ?_;refine GW.cf rfl (λbM3=>?_) λ_=>gw;refine gr ?_;intro z44 bW5;exact GW.jn (λx50=>⟨[(4,.ref 5004),(5,rI x50.1),(8,.ptr 8 0),(13,wQ v1),(14,aP (v1.length:Int)),(15,aP xn.2.1)],[(5004,.arr 95 uK xn.2.2),(8,.box 95 [aP (sh .shr .i64 z44 8),aP (ar .and .i64 (sh .shr .i64 z44 6) 3),aP (ar .and .i64 z44 63),sJ x50.2])]⟩) rfl (λ_=>gw) _ _ (λ_ _=>gw) λ_ _=>gw
instance aRt {a0 a1}:MC (sF a0 a1) prog 244 [rI a0,aP a1] (λr=>(.q9 [sJ r.1,wH r.2])) (λr=>[]):=
 mc [] func244 19 rfl λr S w hF=>by
  unfold sF;exact gw
instance aOe {a0 a1 a2}:MC (nR a0 a1 a2) prog 214 [Fv a0,rI a1,rI a2] (λr=>(.q9 [.ref 0,.ref 1,iW r.2.2])) (λr=>[(0,.arr 99 iV r.1),(1,.arr 3 dX r.2.1)]):=
 mc [6,7] func214 100 rfl λr S w hF=>by
  unfold nR;refine gr ?_;intro v1 H9 L0;refine GW.lp (λpj=>⟨[(0,Fv a0),(1,rI a1),(2,rI a2),(6,.ref 6),(7,.ref 7),(10,aP pj.1),(23,Fv a0),(24,aP (a0.length:Int)),(25,aP pj.2)],[(6,.arr 99 iV []),(7,.arr 3 dX [])]⟩) (λx37:Unit=>⟨[(0,Fv a0),(1,rI a1),(2,rI a2),(6,.ref 6),(7,.ref 7)],[(6,.arr 99 iV []),(7,.arr 3 dX [])]⟩) sb (λ_ _ _ _=>gw) λx37=>?_;refine gr ?_;exact GW.lp (λma=>⟨[(1,rI a1),(2,rI a2),(6,.ref 5007),(7,.ref 5008),(54,Fv a0),(55,aP (a0.length:Int)),(56,aP ma.1)],[(5007,.arr 99 iV ma.2.1),(5008,.arr 3 dX ma.2.2)]⟩) (λaMw=>⟨[(6,.ref 5007),(7,.ref 5008)],[(5007,.arr 99 iV aMw.1),(5008,.arr 3 dX aMw.2)]⟩) sb (λ_ _ _ _=>gw) λ_=>gw
instance su {a1 b0 b1 b2 b3 b4 b5 b6 b7 b8 b9 l9 o6 l8 j9 l7 l6 o7 l5 p5 p4 p7 p6}:F6 (dT a1 b0 b1 b2 b3 b4 b5 b6 b7 b8 b9 l9 o6 l8 j9 l7 l6 o7 l5 p5 p4 p7 p6) prog 182 [.ptr 9000 18,Ix a1] (λA=>(Dq A b0 b1 b2 b3 b5 b7 b8 b9 l9 l8 j9 l7 l6 o7 p5 p4 p7 p6 b4 b6 o6 l5)) (λr=>(iW r.1)) (λA r=>(Nr A b0 b1 b2 b3 b5 b7 b8 b9 l9 l8 r.2.1 l7 l6 o7 p5 p4 r.2.2.1 r.2.2.2 b4 b6 o6 l5)):=
 sD [5,500008,500017,7009070,7009148] func182 149 rfl λA r S w R hF=>by
  unfold dT;refine gr ?_;intro x5;refine GW.cf rfl (λwu=>?_) λwu=>?_
  ·refine gr ?_;refine GW.lp (λbz=>⟨[(0,.ptr 9000 18),(3,.ptr 3 0),(5,.ref 5004),(48,rI a1.2.2),(49,aP (a1.2.2.length:Int)),(50,aP bz.1)],(f8q A b0 b1 b2 b3 b5 b7 b8 b9 l9 l8 j9 l7 l6 o7 a1.1 a1.2.1 a1.2.2 bz.2 p5 p4 b4 b6 o6 p7 p6 l5)⟩) (λpf=>⟨[(0,.ptr 9000 18),(3,.ptr 3 0),(5,.ref 5004)],(f8q A b0 b1 b2 b3 b5 b7 b8 b9 l9 l8 j9 l7 l6 o7 a1.1 a1.2.1 a1.2.2 pf p5 p4 b4 b6 o6 p7 p6 l5)⟩) sb (λ_ _ _ _=>gw) λpf=>?_;refine gr ?_;refine GW.fl 5004 ?_;refine Us ?_;exact gw
  refine gr ?_;intro x36;refine GW.cf rfl (λbCz=>?_) λ_=>gw;refine gr ?_;intro v43 bXq bM2 v45 bA2 v46 aVq x49 cAo;refine GW.fl 125300 ?_;refine Us ?_;exact gw
instance qc {a1 b0 b1 b2 b3 b4 b5 b6 b7 b8 b9 l9 o6 l8 j9 l7 l6 o7 l5 p5 p4 p7 p6}:F6 (bE a1 b0 b1 b2 b3 b4 b5 b6 b7 b8 b9 l9 o6 l8 j9 l7 l6 o7 l5 p5 p4 p7 p6) prog 135 [.ptr 9000 0,tZ a1] (λA=>(Dq A b0 b1 b2 b3 b5 b7 b8 b9 l9 l8 j9 l7 l6 o7 p5 p4 p7 p6 b4 b6 o6 l5)) (λr=>(iW r.1)) (λA r=>(Nr A b0 b1 b2 b3 b5 b7 b8 b9 l9 l8 r.2.1 l7 r.2.2.1 r.2.2.2.1 p5 p4 r.2.2.2.2.2.1 r.2.2.2.2.2.2 b4 b6 o6 r.2.2.2.2.1)):=
 sD [106,1065,9106,9109,500010,7009111] func135 146 rfl λA r S w R hF=>by
  unfold bE;refine gr ?_;intro v1 H9 x4;refine GW.cf rfl (λlg=>?_) λlg=>?_
  ·refine gr ?_;intro z8 hz8;refine GW.jn (λW8=>⟨[(0,.ptr 9000 0),(5,.ptr 9000 18),(6,.ptr 6 0)],(l9q 9000 9100 9050 9051 9052 9200 9053 6 A b0 b1 b2 b3 b5 b7 b8 b9 l9 l8 j9 l7 W8.1 W8.2 v1.1.1 v1.1.2.1 v1.1.2.2 p5 p4 b4 b6 o6 p7 p6 l5)⟩) rfl (λW8=>?_) _ _ (λ_ _=>gw) λ_ _=>gw;refine gr ?_;intro zk bA6 R5 bM7;refine GW.fl 74300 ?_;refine Us ?_;refine gp ?_;refine GP.ox (BL (e:=dX) Iu S3 Z3 rfl rfl rfl rfl (.cons (.dir rfl) (.cons (.dir rfl) (.cons (.dir rfl) .nil)))) ?_;refine gp ?_;intro pg aQ0;refine GP.bf λxl aQz=>?_;refine GP.ox (Jj aQz (aH4 _ _) rfl (.sl rfl) Iu I3 S3 rfl rfl rfl) ?_;exact gw
  refine gr ?_;intro bC4 ij aKv bC3;exact GW.jn (λx35=>⟨[(0,.ptr 9000 0),(13,.v (Fu.qh xX) ij.2.2.2.1)],(f6q A b0 b1 b2 b3 b5 b7 b8 b9 l9 l8 x35.1 l7 l6 ij.1 p5 p4 b4 b6 o6 x35.2.1 x35.2.2 l5)⟩) rfl (λ_=>gw) _ _ (λ_ _=>gw) λ_ _=>gw
instance tv {a0 a1}:MC (iM a0 a1) prog 183 [wQ a0,wQ a1] (λr=>(wH r)) (λr=>[]):=
 mc [] func183 26 rfl λr S w hF=>by
  unfold iM;refine gr ?_;intro L7;exact GW.lp (λxo:Int=>⟨[(0,wQ a0),(1,wQ a1),(12,aP (a0.length:Int)),(13,aP xo)],[]⟩) (λT6:Unit=>⟨[],[]⟩) sb (λ_ _ _ _=>gw) λ_=>gw
instance aOj {a0 a1}:MC (qW a0 a1) prog 184 [Iw a0,tZ a1] (λr=>(.q9 [Iw r.1,iW r.2])) (λr=>[]):=
 mc [500010] func184 82 rfl λr S w hF=>by
  unfold qW;refine gr ?_;intro v1 H9 L0 v3 nt v4 hv4 Y1 bM8 z17 bXf du;refine GW.jn (λx26=>⟨[(2,.ptr 2 0),(4,.ptr 4 0)],[(2,b9q a0.1 x26.1 x26.2),(4,b9q 0 0 [])]⟩) rfl (λ_=>gw) _ _ (λk25 lh=>?_) λ_ _=>gw;refine gr ?_;refine GW.fl 18300 ?_;refine Us ?_;exact gw
instance aLo {a0 a1}:MC (nA a0 a1) prog 217 [.v vF a0,.B8 dX a1] (λr=>(wH r)) (λr=>[]):=
 mc [] func217 8 rfl λr S w hF=>by
  unfold nA;exact gw
instance N5 {a0 B3}:MC (aW a0 B3) prog 246 [Xg a0,.G0 217 [.B8 dX B3]] (λr=>(aP r)) (λr=>[]):=
 mc [] func246 19 rfl λr S w hF=>by
  unfold aW;refine gr ?_;exact GW.lp (λy6:Int=>⟨[(0,Xg a0),(1,.G0 217 [.B8 dX B3]),(7,aP (a0.length:Int)),(8,aP y6)],[]⟩) (λD4:Unit=>⟨[],[]⟩) sb (λ_ _ _ _=>gw) λ_=>gw
end
end Go.Cn
