/- The functions come to what their models come to. Plain laws about these plain functions alone. Conditions: none. -/
import Derived.Test.YteckohdbfkhmdabGreatDoorMDMirrorSays
set_option linter.unusedVariables false
set_option linter.unusedSimpArgs false
set_option maxRecDepth 100000
set_option maxHeartbeats 4000000
namespace Go.Cn
open Go Go.Sw Go.Mo Go.Proofs
variable {gobj:Obj}
theorem aJi{xs:List Int}{n:Int}(hn:1<=n)(hlen:(xs.length:Int)<=4294967296)(hn2:n<=4294967296):
 IterC Tryz.prog 148 [.pst (Enc.sl (Enc.int .u8)) xs,.pst Q0 n] ((chunks n.toNat xs).map fun c=>[.v (Enc.sl (Enc.int .u8)) c]):=by
  refine Oh Tryz.func148 Y Tryz.ntmps148 Y ?_;intro S w ρ l Jp Jx b off b' off' I hJ0 h1 h2;refine aF ?_;refine dL (σ':=⟨[(0,.v (Enc.cst (.func (.yield l) #[] #[]) Y) ()),(1,.v (Enc.cp b off (Enc.sl (Enc.int .u8))) xs),(2,.v (Enc.cp b' off' Q0) n),(4,.v Q0 ((0:Nat)*n))],[]⟩) (J.k (bB Y) (J.fin (jV (by rfl) (by exact(.cons Y (.cons Y (.cons Y (.cons (by simp[lk,AS.put]) .nil)))))))) ?_;refine bF ?_;refine Qk I (fun k=>[(0,.v (Enc.cst (.func (.yield l) #[] #[]) Y) ()),(1,.v (Enc.cp b off (Enc.sl (Enc.int .u8))) xs),(2,.v (Enc.cp b' off' Q0) n),(4,.v Q0 ((k:Nat)*n))]) (fun k=>(.cons (@Again.flat _ _ ⟨fun h=>h⟩ _ _ _ _) (.cons h1 (.cons h2 (.cons .flat .nil))))) (fun _ _ h=>h) hJ0 ?_;intro k V B H;have A:((chunks n.toNat xs).map fun c=>([.v (Enc.sl (Enc.int .u8)) c]:List Slot)).length=(chunks n.toNat xs).length:=aLc ..;refine aF (aF ?_);refine dL (σ':=⟨[(0,.v (Enc.cst (.func (.yield l) #[] #[]) Y) ()),(1,.v (Enc.cp b off (Enc.sl (Enc.int .u8))) xs),(2,.v (Enc.cp b' off' Q0) n),(4,.v Q0 (k*n)),(9,.v Enc.bool (cm .lss (k*n) xs.length))],[]⟩) (J.mv Y (J.k (lN Y aDw Te) (J.k (uA Y sG) (J.k (jO Y Y Y) (J.fin (jV (by rfl) (by exact(.cons Y (.cons Y (.cons Y (.cons Y (.cons Y .nil)))))))))))) ?_;refine En Y (fun u=>?_) (fun u=>?_)
  ·refine aH ?_;have D:(k:Int)*n<xs.length:=by simpa[cm] using u
   obtain⟨C,M,N,O,P⟩:=Iu hn hn2 hlen D;have E:k<(chunks n.toNat xs).length:=(wM (by omega) xs).2 C;refine aF ?_;refine bF ?_;refine aF ?_;refine dI (σ':=⟨[(0,.v (Enc.cst (.func (.yield l) #[] #[]) Y) ()),(1,.v (Enc.cp b off (Enc.sl (Enc.int .u8))) xs),(2,.v (Enc.cp b' off' Q0) n),(4,.v Q0 (k*n)),(5,.v Q0 (min n ((xs.drop (k*n.toNat)).length:Int)))],[]⟩) 7 mixed (by exact(.k (lN Y G3 S3) (.k (lN Y aDw Te) (.k (aD Y) (.k (vU M Y Y sG S5) (.k (uA Y sG) (.k (xP Y Y) (.k (bB Y) .nil)))))))) (by exact J.fin (jV (by rfl) (by exact(.cons Y (.cons Y (.cons Y (.cons Y (.cons Y .nil)))))))) ?_;refine aF ?_;refine Kw (σ1:=⟨[(19,.v (Enc.cst (.func (.yield l) #[] #[]) Y) ()),(28,.v (Enc.sl (Enc.int .u8)) ((xs.drop (k*n.toNat)).take n.toNat)),(0,.v (Enc.cst (.func (.yield l) #[] #[]) Y) ()),(1,.v (Enc.cp b off (Enc.sl (Enc.int .u8))) xs),(2,.v (Enc.cp b' off' Q0) n),(4,.v Q0 (k*n))],[]⟩) (g2:=[(0,.v (Enc.cst (.func (.yield l) #[] #[]) Y) ()),(1,.v (Enc.cp b off (Enc.sl (Enc.int .u8))) xs),(2,.v (Enc.cp b' off' Q0) n),(4,.v Q0 (k*n))]) (pre:=[_,_,_,_,_,_,_,_,_,_]) I B (item:=[.v (Enc.sl (Enc.int .u8)) ((xs.drop (k*n.toNat)).take n.toNat)]) (by rw[aKv,Kx (by omega) C];rfl)
    (J.cons (.none rfl) (aD rfl) rfl rfl (J.cons (.none rfl) (lN rfl aDw Te) rfl rfl (J.cons (.none rfl) (aD rfl) rfl rfl (J.cons (.none rfl) (aD rfl) rfl rfl (J.cons (.none rfl) (aD rfl) rfl rfl (J.cons (.none rfl) (cO rfl rfl rfl) rfl rfl (J.cons (.none rfl) (aD rfl) rfl rfl (J.cons (.none rfl) (aD rfl) rfl rfl (J.cons (.none rfl) (cO rfl rfl rfl) rfl rfl (J.cons (.none rfl) (aC2 N O rfl rfl rfl rfl sG S5) rfl rfl (J.fin (jV (by rfl) (by exact(.cons rfl (.cons rfl (.cons rfl (.cons rfl (.cons rfl (.cons rfl .nil)))))))))))))))))))
    rfl (.cons (.dir rfl) .nil) rfl rfl rfl rfl (.cons (@Again.flat _ _ ⟨fun h=>h⟩ _ _ _ _) (.cons h1 (.cons h2 (.cons .flat .nil)))) (.cons rfl (.cons rfl (.cons rfl (.cons rfl .nil)))) (fun z K=>?_) (fun z L=>?_)
   ·refine zY rfl rfl (aH (bK ?_));refine dL (σ':=⟨[(0,.v (Enc.cst (.func (.yield l) #[] #[]) Y) ()),(1,.v (Enc.cp b off (Enc.sl (Enc.int .u8))) xs),(2,.v (Enc.cp b' off' Q0) n),(4,.v Q0 (ar .add .i64 (k*n) n))],[]⟩) (J.mv Y (J.k (lN Y G3 S3) (J.k (cO Y Y Y) (J.k (bB Y) (J.fin (jV (by rfl) (by exact(.cons Y (.cons Y (.cons Y (.cons Y .nil))))))))))) ?_;exact Ql I K (by rw[A];exact E) (by rw[P];exact fun _ _ h=>h)
   ·refine uN rfl rfl (aG (Qm (fn:=Tryz.f148) I rfl L fun a z h=>h))
  ·refine cN (Wa (fn:=Tryz.f148) I rfl B ?_ (fun a z h=>?_))
   ·have F:¬(k:Int)*n<xs.length:=by simpa[cm] using u
    have G:((k:Int)*n)=((k*n.toNat:Nat):Int):=by push_cast;rw[Int.toNat_of_nonneg (by omega)]
    have:¬k*n.toNat<xs.length:=fun h=>F (by rw[G];exact_mod_cast h);rw[A] at H ⊢;have:=mt (wM (n:=n.toNat) (by omega) xs (k:=k)).1 this;omega
   ·simp only[Exit.inBlock,aKi];exact h
theorem rB{a0 r}(h:eX a0=some r):
 Con Tryz.prog 120 [.v (Enc.sl (Enc.int .u8)) a0] (.tup [.v Q4 r.1,.v Q8 r.2]) []:=by
 refine Con.of Tryz.func120 Y Tryz.ntmps120 Y ?_;intro S w E;unfold eX at h;refine aJ (.k (aM 101 Bj Y (.cons (Z.int .i64) (.cons (Z.sl Q0) (.cons (Z.sl aN) .nil))) Y) (.f [0,2,3] ?_));refine cR [0,2,3,17] ?_;refine aT h Y (fun Q h=>?_) (fun Q h=>?_)
 ·refine aJ (.k (eT (new:=[(103,.arr 3 Q0 ([]:iY)),(102,.arr 33 aN ([]:jA))]) lE (.cons (Z.int .i64) (.ref 103 Y (.ref 102 Y .nil))) (.cons (.cons .nil)) Y .nil) (.f [2,3] ?_));refine aG ?_;obtain rfl:=pT h;exact bN (σ':=⟨[(2,.ptr 90 0),(3,.v Q8 (some (3:Int)))],[(90,.box 129 [.v Q0 (0:Int),.v nC ([]:iY),.v Q7 ([]:jA)])]⟩) (aC [(90,101)]) (bD E dD Y (aS Y Y (.prm (.one _ _) (.prm (.one _ _) (.one _ _))) tU kS) (RV.tmp Y) .nil Y)
 refine aH ?_;obtain⟨v2,ab,h⟩:=aB h;refine aJ (.a 4 ?_);refine .k (Yl ab Y Y sG S5) (.f [0,2,3,4] ?_);obtain⟨v3,ac,h⟩:=aB h;refine aJ (.a 1 ?_);refine .k (aO (Eh ac) Tryz.call116 (.cons (.dir Y) .nil)) (.f [0,2,3,4,5] ?_);obtain⟨v4,ad,h⟩:=aB h;obtain⟨z5,ae,h⟩:=aB h;refine jD (.a 3 ?_);refine .k (vU ad Y Y sG S5) (.k (De ae Y aI7) ?_);refine .a 2 ?_;refine .k (eK (.inr Y) (by decide) Y Y) ?_;refine .a 2 ?_;refine .k (eK (.inr Y) (by decide) Y Y) ?_;refine .a 2 ?_;refine .k (eK (.inr Y) (by decide) Y Y) ?_;refine .a 3 ?_;refine .k (aAt (e:=(Enc.int .u8)) Tryz.typeInfo239 aI7 I5 Y Y Y Y Y (.cons (.dir Y) (.cons (.dir Y) (.cons (.dir Y) (.cons (.dir Y) .nil))))) (.k (Qf aKx Y Y Tryz.eqGuardType239 Y Y) (.f [2,3,4,45] ?_));refine aT h Y (fun T h=>?_) (fun T h=>?_)
 ·refine aJ (.k (eT (new:=[(106,.arr 3 Q0 ([]:iY)),(105,.arr 33 aN ([]:jA))]) lE (.cons (Z.int .i64) (.ref 106 Y (.ref 105 Y .nil))) (.cons (.cons .nil)) Y .nil) (.f [2,3] ?_));refine aG ?_;obtain rfl:=pT h;exact bN (σ':=⟨[(2,.ptr 90 0),(3,.v Q8 (some (3:Int)))],[(90,.box 129 [.v Q0 (0:Int),.v nC ([]:iY),.v Q7 ([]:jA)])]⟩) (aC [(90,101)]) (bD E dD Y (aS Y Y (.prm (.one _ _) (.prm (.one _ _) (.one _ _))) tU kS) (RV.tmp Y) .nil Y)
 refine aH ?_;refine aJ (.a 1 ?_);refine .k (bE aD8 (.cons (Z.sl (Enc.int .u8)) .nil) (.cons Y (.dir Y) Y Y Y Y .nil)) (.k (yR 107 Y Y) (.f [2,3,6] ?_));obtain⟨D,af,h⟩:=aB h;refine aJ (.a 1 ?_);refine .t (eA [107] (Av [(9000,107)]) (dY _) (fun A=>nP A af) Tryz.call136 (fun A=>(.box Y .nil Y))) (.f [2,3,6,7] ?_);obtain⟨N,ah,h⟩:=aB h;refine aJ (.a 1 ?_);refine .t (eA [107] (Av [(9000,107)]) (dY _) (fun A=>nP A ah) Tryz.call136 (fun A=>(.box Y .nil Y))) (.f [2,3,6,7,9] ?_);refine aJ (.a 1 ?_);refine .k (eK (.inr Y) (by decide) Y Y) (.k (by exact lM U5 U3 Y Y) (.k (by exact eT (new:=[(109,.arr 3 Q0 ([]:iY)),(108,.arr 33 aN ([]:jA))]) lE (.cons (Z.int .i64) (.ref 109 Y (.ref 108 Y .nil))) (.cons (.cons .nil)) Y (.cons Y (.dir Y) Y Y Y Y .nil)) (.k (by exact yV (new:=[(112,.arr 3 Q0 ([]:iY)),(111,.arr 33 aN ([]:jA))]) 110 Bj Y (.cons (Z.int .i64) (.ref 112 Y (.ref 111 Y .nil))) (.cons (.cons .nil)) Y Y) (.f [2,3,6,7,9,11] ?_))));refine cR [2,3,6,9,11,66,67] ?_;obtain⟨az,ai,aj,ak⟩:=bX h;refine jH (σs:=fun H:Int×iY×iY=>⟨[(2,.ptr 101 0),(3,.v Q8 (none:Option Int)),(6,.ptr 107 0),(9,.v (Enc.int .u8) N.1),(11,.ptr 110 0),(66,.v (Enc.int .u8) (ar .and .u8 D.1 (15:Int))),(67,.v (Enc.int .u8) H.1)],[(101,.box 129 [.v Q0 (0:Int),.v nC ([]:iY),.v Q7 ([]:jA)]),(107,.box 242 [.v (Enc.sl (Enc.int .u8)) H.2.1]),(110,.box 129 [.v Q0 (sh .shr .u8 D.1 (4:Int)),.ref 122,.ref 108]),(122,.arr 3 Q0 H.2.2),(108,.arr 33 aN ([]:jA))]⟩) (fun u:iY×iY=>⟨[(2,.ptr 101 0),(3,.v Q8 (none:Option Int)),(6,.ptr 107 0),(9,.v (Enc.int .u8) N.1),(11,.ptr 110 0)],[(101,.box 129 [.v Q0 (0:Int),.v nC ([]:iY),.v Q7 ([]:jA)]),(107,.box 242 [.v (Enc.sl (Enc.int .u8)) u.1]),(110,.box 129 [.v Q0 (sh .shr .u8 D.1 (4:Int)),.ref 122,.ref 108]),(122,.arr 3 Q0 u.2),(108,.arr 33 aN ([]:jA))]⟩) ai (aC [(122,109)]) ?_ ?_
 ·intro u K;have h:=aj _ K;refine aF ?_;refine aF ?_;obtain⟨al,B,h⟩:=aB h;refine dL (σ':=⟨[(2,.ptr 101 0),(3,.v Q8 (none:Option Int)),(6,.ptr 107 0),(11,.ptr 110 0),(104,.v Enc.bool al)],[(101,.box 129 [.v Q0 (0:Int),.v nC ([]:iY),.v Q7 ([]:jA)]),(107,.box 242 [.v (Enc.sl (Enc.int .u8)) u.1]),(110,.box 129 [.v Q0 (sh .shr .u8 D.1 (4:Int)),.ref 122,.ref 108]),(122,.arr 3 Q0 u.2),(108,.arr 33 aN ([]:jA))]⟩) ?_ ?_
  ·refine cd B (fun U B=>?_) (fun U B=>?_)
   ·cases B;refine ja 1 ?_;exact(J.k (by exact lM U5 U3 Y Y) jy)
   refine cd B (fun M B=>?_) (fun M B=>?_)
   ·cases B;refine ja 1 ?_;exact(J.k (by exact lM U5 U3 Y Y) jy)
   cases B;refine ja 1 ?_;refine(J.k (by exact lM U5 U3 Y Y) ?_);refine ja 14 ?_;exact(J.g M (by exact lM U5 U3 Y Y) jy)
  refine aT h Y (fun V h=>?_) (fun V h=>?_)
  ·refine aJ (.k (eT (new:=[(130,.arr 3 Q0 ([]:iY)),(129,.arr 33 aN ([]:jA))]) lE (.cons (Z.int .i64) (.ref 130 Y (.ref 129 Y .nil))) (.cons (.cons .nil)) Y .nil) (.f [2,3] ?_));refine aG ?_;obtain rfl:=pT h;exact bN (σ':=⟨[(2,.ptr 90 0),(3,.v Q8 (some (3:Int)))],[(90,.box 129 [.v Q0 (0:Int),.v nC ([]:iY),.v Q7 ([]:jA)])]⟩) (aC [(90,101)]) (bD E dD Y (aS Y Y (.prm (.one _ _) (.prm (.one _ _) (.one _ _))) tU kS) (RV.tmp Y) .nil Y)
  refine aH ?_;obtain⟨I,am,h⟩:=aB h;refine jD (.a 4 ?_);refine .k (aO (wW am) Tryz.call138 (.cons (.dir Y) (.cons (.dir Y) .nil))) (.f [2,3,11,111] ?_);refine bF ?_;obtain⟨a1,an,h⟩:=aB h;obtain⟨a2,O,h⟩:=aB h;obtain⟨a3,ao,ap,a4⟩:=Qi h;refine Qh (g:=[(2,.ptr 101 0),(3,.v Q8 (none:Option Int)),(11,.ptr 110 0),(111,.fnc 148 [.pst (Enc.sl (Enc.int .u8)) I.1,.pst Q0 I.2])]) (ds0:=[(101,.box 129 [.v Q0 (0:Int),.v nC ([]:iY),.v Q7 ([]:jA)]),(110,.box 129 [.v Q0 (sh .shr .u8 D.1 (4:Int)),.ref 122,.ref 137]),(122,.arr 3 Q0 u.2),(137,.arr 33 aN ([]:jA))]) (L:=[101,110]) (fun F:iY=>[.v (Enc.sl (Enc.int .u8)) F]) (fun C (G:jA)=>[(101,.box 129 [.v Q0 (0:Int),.v nC ([]:iY),.v Q7 ([]:jA)] (some (C 101))),(110,.box 129 [.v Q0 (sh .shr .u8 D.1 (4:Int)),.ref 122,.ref 137] (some (C 110))),(122,.arr 3 Q0 u.2),(137,.arr 33 aN G)]) (fun _ (z:Empty)=>z.elim) (fun C F G=>⟨[(2,.ptr 101 0),(3,.v Q8 (none:Option Int)),(11,.ptr 110 0),(14,.v (Enc.sl (Enc.int .u8)) F),(111,.fnc 148 [.pst (Enc.sl (Enc.int .u8)) I.1,.pst Q0 I.2])],[(101,.box 129 [.v Q0 (0:Int),.v nC ([]:iY),.v Q7 ([]:jA)] (some (C 101))),(110,.box 129 [.v Q0 (sh .shr .u8 D.1 (4:Int)),.ref 122,.ref 137] (some (C 110))),(122,.arr 3 Q0 u.2),(137,.arr 33 aN G)]⟩) E Y ao (aC [(137,108)]) (fun _=>rfl) Y (aJi (Df O).1 (Eu an) (Df O).2) Tryz.call148 (fun _=>rfl) Y (fun _=>rfl) Y (fun _ _=>(.cons Y (.cons Y .nil))) (fun _ z=>z.elim) ?_ ?_ ?_ ?_
  ·intro C S w R l F G;refine eB [2,3,11,14,111] ?_;exact aIr (aC [])
  ·intro C S w R l F G ax h;refine bF ?_;obtain⟨a5,aq,h⟩:=aB h;obtain⟨a6,au,h⟩:=aB h;refine dI 6 mixed (by exact(.k (aA 2 Y tV Y xC Y Y) (.k (aI Y Y Y Rv xC) (.k (aD Y) (.k (De aq Y vI) (.k (bQ Y sS jU) (.k (dM (e:=aN) Hx jU Az Y Y Y Y (.cons (.dir Y) .nil)) .nil))))))) (by exact(J.t (bR 138 au Y Y (.sl Y) Hx Ay jU Y Y Y Y Y) (jz [2,3,11,111]))) ?_;cases h;exact bK (Qj (aC [(137,138)]))
  ·intro C P K S w R df E;have h:=ap _ K;refine bK ?_;refine aJ (.k (gO Y Y Y tU kS) (.f [2,3] ?_));refine aG ?_;obtain rfl:=pT h;exact bN (σ':=⟨[(2,.ptr 90 0),(3,.v Q8 (none:Option Int))],[(90,.box 129 [.v Q0 (sh .shr .u8 D.1 (4:Int)),.v nC u.2,.v Q7 P])]⟩) (aC [(90,101)]) (bD E dD Y (aS Y Y (.prm (.one _ _) (.prm (.one _ _) (.one _ _))) tU kS) (RV.tmp Y) .nil Y)
  ·exact fun _ z=>z.elim
 intro H ay h;refine aL [2,3,6,9,11,66,67,68] ?_;refine aF ?_;refine aT h Y (fun X h=>?_) (fun X h=>?_)
 ·refine aH ?_;refine aF ?_;refine bF ?_;obtain⟨a7,av,h⟩:=aB h;refine aJ (.a 1 ?_);refine .t (eA [107] (Av [(9000,107)]) (dY _) (fun A=>xH A av) Tryz.call137 (fun A=>(.box Y .nil Y))) (.f [2,3,6,9,11,12,13,66,67] ?_);refine cR [2,3,6,9,11,12,66,67,75] ?_;refine aT h Y (fun aa h=>?_) (fun aa h=>?_)
  ·refine aJ (.k (eT (new:=[(127,.arr 3 Q0 ([]:iY)),(126,.arr 33 aN ([]:jA))]) lE (.cons (Z.int .i64) (.ref 127 Y (.ref 126 Y .nil))) (.cons (.cons .nil)) Y .nil) (.f [2,3] ?_));refine aG ?_;refine dZ ?_;cases h;refine gD fun ho=>?_;obtain rfl:=ak _ ho;exact bN (σ':=⟨[(2,.ptr 90 0),(3,.v Q8 (some (3:Int)))],[(90,.box 129 [.v Q0 (0:Int),.v nC ([]:iY),.v Q7 ([]:jA)])]⟩) (aC [(90,101)]) (bD E dD Y (aS Y Y (.prm (.one _ _) (.prm (.one _ _) (.one _ _))) tU kS) (RV.tmp Y) .nil Y)
  refine aH ?_;obtain⟨a8,aw,h⟩:=aB h;refine fN (.a 3 ?_);refine .k (dM (e:=Q0) xE S3 Z3 Y Y Y Y (.cons (.dir Y) .nil)) (.t (bR 128 aw Y Y (.sl Y) xE I3 S3 Y Y Y Y Y) (.f [2,3,6,9,11,66,67] ?_));refine bK ?_;refine eB [2,3,6,9,11,66,67] ?_;cases h;exact cE (aC [(122,128)])
 cases h;exact cN (cW (aC []))
theorem Be{a0 r}(h:pI a0=some r):
 Con Tryz.prog 153 [.v (Enc.sl (Enc.int .u8)) a0] (.v (Enc.int .u64) r) []:=by
 refine Con.of Tryz.func153 Y Tryz.ntmps153 Y ?_;intro S w A;unfold pI at h;refine aL [0] ?_;refine aL [0,3] ?_;refine cR [3,6,7,8] ?_;obtain⟨G,D,E,H⟩:=bX h;refine jH (σs:=fun u:Int×Int=>⟨[(3,.v (Enc.int .u64) u.1),(6,.v (Enc.sl (Enc.int .u8)) a0),(7,.v Q0 (a0.length:Int)),(8,.v Q0 u.2)],[]⟩) (fun z:Int=>⟨[(3,.v (Enc.int .u64) z)],[]⟩) D (aC []) ?_ ?_
 ·intro z B;have h:=E _ B;refine aL [2] ?_;cases h;exact aG (aY A dD Y (RV.tmp Y) .nil Y)
 intro u F h;refine aL [3,6,7,8,9] ?_;refine aF ?_;refine aT h Y (fun C h=>?_) (fun C h=>?_)
 ·refine aH ?_;refine aF ?_;refine bF ?_;obtain⟨I,K,h⟩:=aB h;refine aL [3,5,6,7,8] ?_;refine fN (.a 2 ?_);refine .k (by exact lM U5 Tryz.runUnderlying255 Y Y) (.f [3,6,7,8] ?_);refine bK ?_;refine eB [3,6,7,8] ?_;cases h;exact cE (aC [])
 cases h;exact cN (cW (aC []))
theorem Nr{a0 r}(h:uY a0=some r):
 Con Tryz.prog 149 [.v aN a0] (.v (Enc.int .u64) r) []:=by
 refine Con.of Tryz.func149 Y Tryz.ntmps149 Y ?_;intro S w u;unfold uY at h;refine aJ (.k (bU 101 Y (.one _ _) Y) (.f [1] ?_));obtain⟨B,z,h⟩:=aB h;obtain⟨C,A,h⟩:=aB h;refine aJ (.k (qM (e:=(Enc.int .u8)) 102 sG S5 Z5 Y Y Y Y (.cons (.dir Y) .nil)) (.k (Oe Y Y Y vI S5) (.t (bR 103 z Y Y (.asl Y Y Y Y) sG I5 S5 Y Y Y Y Y) (.k (qO (Be A) Tryz.call153 (.cons (.ref Y Y) .nil) FlatS.v) (.f [2] ?_)))));cases h;exact aG (aY u dD Y (RV.tmp Y) .nil Y)
theorem uK{a0 a1 r}(h:gZ a0 a1=some r):
 Con Tryz.prog 154 [.v (Enc.sl (Enc.int .u64)) a0,.v Q0 a1] (.fnc 156 [.pst (Enc.sl (Enc.int .u64)) r.1,.pst Q0 r.2]) []:=by
 refine Con.of Tryz.func154 Y Tryz.ntmps154 Y ?_;intro S w z;unfold gZ at h;refine aJ (.k (bU 101 Y (.one _ _) Y) (.k (bU 102 Y (.one _ _) Y) (.k (dQ Y) (.f [2,3] ?_))));refine cR [2,3,6] ?_;obtain⟨B,C,h⟩:=gC h;refine uT (fun A:Unit=>⟨[(2,.ptr 101 0),(3,.ptr 102 0)],[(101,.box 256 [.v (Enc.sl (Enc.int .u64)) a0]),(102,.box 3 [.v Q0 a1])]⟩) (fun x=>B x=some r) Y ?_ ?_ ?_
 ·intro A h;rw[C] at h;refine aJ (.k (sL (.cons (.dir Y) (.cons (.dir Y) .nil))) (.f [4] ?_));refine aG ?_;obtain rfl:=pT h;exact bN (σ':=⟨[(4,.fnc 156 [.pst (Enc.sl (Enc.int .u64)) a0,.pst Q0 a1])],[]⟩) (Sw.Sub.mk id (.cons Y (.fnc (.cons (.frzP Y Y (.cons (.of_eq Y) .nil) (.one _ _)) (.cons (.frzP Y Y (.cons (.of_eq Y) .nil) (.one _ _)) .nil))) .nil) .nil Y) (aY z dD Y (RV.tmp Y) .nil Y)
 ·intro u;replace h:=jP u h;cases h
 ·intro u;replace h:=jQ u h;refine aH ?_;exact cF h (aC [])
theorem aJj{xs:List Int}{n:Int}(hn:1<=n)(hlen:(xs.length:Int)<=4294967296)(hn2:n<=4294967296):
 IterC Tryz.prog 156 [.pst (Enc.sl (Enc.int .u64)) xs,.pst Q0 n] ((chunks n.toNat xs).map fun c=>[.v (Enc.sl (Enc.int .u64)) c]):=by
  refine Oh Tryz.func156 Y Tryz.ntmps156 Y ?_;intro S w ρ l Jp Jx b off b' off' I hJ0 h1 h2;refine aF ?_;refine dL (σ':=⟨[(0,.v (Enc.cst (.func (.yield l) #[] #[]) Y) ()),(1,.v (Enc.cp b off (Enc.sl (Enc.int .u64))) xs),(2,.v (Enc.cp b' off' Q0) n),(4,.v Q0 ((0:Nat)*n))],[]⟩) (J.k (bB Y) (J.fin (jV (by rfl) (by exact(.cons Y (.cons Y (.cons Y (.cons (by simp[lk,AS.put]) .nil)))))))) ?_;refine bF ?_;refine Qk I (fun k=>[(0,.v (Enc.cst (.func (.yield l) #[] #[]) Y) ()),(1,.v (Enc.cp b off (Enc.sl (Enc.int .u64))) xs),(2,.v (Enc.cp b' off' Q0) n),(4,.v Q0 ((k:Nat)*n))]) (fun k=>(.cons (@Again.flat _ _ ⟨fun h=>h⟩ _ _ _ _) (.cons h1 (.cons h2 (.cons .flat .nil))))) (fun _ _ h=>h) hJ0 ?_;intro k V B H;have A:((chunks n.toNat xs).map fun c=>([.v (Enc.sl (Enc.int .u64)) c]:List Slot)).length=(chunks n.toNat xs).length:=aLc ..;refine aF (aF ?_);refine dL (σ':=⟨[(0,.v (Enc.cst (.func (.yield l) #[] #[]) Y) ()),(1,.v (Enc.cp b off (Enc.sl (Enc.int .u64))) xs),(2,.v (Enc.cp b' off' Q0) n),(4,.v Q0 (k*n)),(9,.v Enc.bool (cm .lss (k*n) xs.length))],[]⟩) (J.mv Y (J.k (lN Y aDx Tf) (J.k (uA Y Qu) (J.k (jO Y Y Y) (J.fin (jV (by rfl) (by exact(.cons Y (.cons Y (.cons Y (.cons Y (.cons Y .nil)))))))))))) ?_;refine En Y (fun u=>?_) (fun u=>?_)
  ·refine aH ?_;have D:(k:Int)*n<xs.length:=by simpa[cm] using u
   obtain⟨C,M,N,O,P⟩:=Iu hn hn2 hlen D;have E:k<(chunks n.toNat xs).length:=(wM (by omega) xs).2 C;refine aF ?_;refine bF ?_;refine aF ?_;refine dI (σ':=⟨[(0,.v (Enc.cst (.func (.yield l) #[] #[]) Y) ()),(1,.v (Enc.cp b off (Enc.sl (Enc.int .u64))) xs),(2,.v (Enc.cp b' off' Q0) n),(4,.v Q0 (k*n)),(5,.v Q0 (min n ((xs.drop (k*n.toNat)).length:Int)))],[]⟩) 7 mixed (by exact(.k (lN Y G3 S3) (.k (lN Y aDx Tf) (.k (aD Y) (.k (vU M Y Y Qu Wl) (.k (uA Y Qu) (.k (xP Y Y) (.k (bB Y) .nil)))))))) (by exact J.fin (jV (by rfl) (by exact(.cons Y (.cons Y (.cons Y (.cons Y (.cons Y .nil)))))))) ?_;refine aF ?_;refine Kw (σ1:=⟨[(19,.v (Enc.cst (.func (.yield l) #[] #[]) Y) ()),(28,.v (Enc.sl (Enc.int .u64)) ((xs.drop (k*n.toNat)).take n.toNat)),(0,.v (Enc.cst (.func (.yield l) #[] #[]) Y) ()),(1,.v (Enc.cp b off (Enc.sl (Enc.int .u64))) xs),(2,.v (Enc.cp b' off' Q0) n),(4,.v Q0 (k*n))],[]⟩) (g2:=[(0,.v (Enc.cst (.func (.yield l) #[] #[]) Y) ()),(1,.v (Enc.cp b off (Enc.sl (Enc.int .u64))) xs),(2,.v (Enc.cp b' off' Q0) n),(4,.v Q0 (k*n))]) (pre:=[_,_,_,_,_,_,_,_,_,_]) I B (item:=[.v (Enc.sl (Enc.int .u64)) ((xs.drop (k*n.toNat)).take n.toNat)]) (by rw[aKv,Kx (by omega) C];rfl)
    (J.cons (.none rfl) (aD rfl) rfl rfl (J.cons (.none rfl) (lN rfl aDx Tf) rfl rfl (J.cons (.none rfl) (aD rfl) rfl rfl (J.cons (.none rfl) (aD rfl) rfl rfl (J.cons (.none rfl) (aD rfl) rfl rfl (J.cons (.none rfl) (cO rfl rfl rfl) rfl rfl (J.cons (.none rfl) (aD rfl) rfl rfl (J.cons (.none rfl) (aD rfl) rfl rfl (J.cons (.none rfl) (cO rfl rfl rfl) rfl rfl (J.cons (.none rfl) (aC2 N O rfl rfl rfl rfl Qu Wl) rfl rfl (J.fin (jV (by rfl) (by exact(.cons rfl (.cons rfl (.cons rfl (.cons rfl (.cons rfl (.cons rfl .nil)))))))))))))))))))
    rfl (.cons (.dir rfl) .nil) rfl rfl rfl rfl (.cons (@Again.flat _ _ ⟨fun h=>h⟩ _ _ _ _) (.cons h1 (.cons h2 (.cons .flat .nil)))) (.cons rfl (.cons rfl (.cons rfl (.cons rfl .nil)))) (fun z K=>?_) (fun z L=>?_)
   ·refine zY rfl rfl (aH (bK ?_));refine dL (σ':=⟨[(0,.v (Enc.cst (.func (.yield l) #[] #[]) Y) ()),(1,.v (Enc.cp b off (Enc.sl (Enc.int .u64))) xs),(2,.v (Enc.cp b' off' Q0) n),(4,.v Q0 (ar .add .i64 (k*n) n))],[]⟩) (J.mv Y (J.k (lN Y G3 S3) (J.k (cO Y Y Y) (J.k (bB Y) (J.fin (jV (by rfl) (by exact(.cons Y (.cons Y (.cons Y (.cons Y .nil))))))))))) ?_;exact Ql I K (by rw[A];exact E) (by rw[P];exact fun _ _ h=>h)
   ·refine uN rfl rfl (aG (Qm (fn:=Tryz.f156) I rfl L fun a z h=>h))
  ·refine cN (Wa (fn:=Tryz.f156) I rfl B ?_ (fun a z h=>?_))
   ·have F:¬(k:Int)*n<xs.length:=by simpa[cm] using u
    have G:((k:Int)*n)=((k*n.toNat:Nat):Int):=by push_cast;rw[Int.toNat_of_nonneg (by omega)]
    have:¬k*n.toNat<xs.length:=fun h=>F (by rw[G];exact_mod_cast h);rw[A] at H ⊢;have:=mt (wM (n:=n.toNat) (by omega) xs (k:=k)).1 this;omega
   ·simp only[Exit.inBlock,aKi];exact h
theorem Ns{a0 r}(h:sR a0=some r):
 Con Tryz.prog 155 [.v (Enc.sl (Enc.int .u64)) a0] (.v (Enc.int .u64) r) []:=by
 refine Con.of Tryz.func155 Y Tryz.ntmps155 Y ?_;intro S w D;unfold sR at h;refine aL [0] ?_;refine aJ (.k (qM (e:=(Enc.int .u8)) 101 sG S5 Z5 Y Y Y Y (.cons (.dir Y) .nil)) (.f [0,3] ?_));refine cR [3,8,9,10] ?_;obtain⟨R,G,H,T⟩:=bX h;refine jH (σs:=fun u:Int×iY=>⟨[(3,.ref 121),(8,.v (Enc.sl (Enc.int .u64)) a0),(9,.v Q0 (a0.length:Int)),(10,.v Q0 u.1)],[(121,.arr 5 (Enc.int .u8) u.2)]⟩) (fun B:iY=>⟨[(3,.ref 121)],[(121,.arr 5 (Enc.int .u8) B)]⟩) G (aC [(121,101)]) ?_ ?_
 ·intro B z;have h:=H _ z;obtain⟨U,I,h⟩:=aB h;refine aJ (.a 1 ?_);refine .k (qO (Be I) Tryz.call153 (.cons (.ref Y Y) .nil) FlatS.v) (.f [2] ?_);cases h;exact aG (aY D dD Y (RV.tmp Y) .nil Y)
 intro u P h;refine aL [3,8,9,10,11] ?_;refine aF ?_;refine aT h Y (fun E h=>?_) (fun E h=>?_)
 ·refine aH ?_;refine aF ?_;refine bF ?_;obtain⟨K,V,h⟩:=aB h;refine aL [3,5,8,9,10] ?_;refine aL [3,5,6,8,9,10] ?_;obtain⟨X,L,M,aa⟩:=bX h;refine jH (σs:=fun A:Int×iY=>⟨[(3,.ref 135),(5,.v (Enc.int .u64) K),(6,.v Q0 A.1),(8,.v (Enc.sl (Enc.int .u64)) a0),(9,.v Q0 (a0.length:Int)),(10,.v Q0 u.1)],[(135,.arr 5 (Enc.int .u8) A.2)]⟩) (fun C:iY=>⟨[(3,.ref 135),(8,.v (Enc.sl (Enc.int .u64)) a0),(9,.v Q0 (a0.length:Int)),(10,.v Q0 u.1)],[(135,.arr 5 (Enc.int .u8) C)]⟩) L (aC [(135,121)]) ?_ ?_
  ·intro C z;have h:=M _ z;refine bK ?_;refine eB [3,8,9,10] ?_;cases h;exact cE (aC [(121,135)])
  intro A Q h;refine cR [3,5,6,8,9,10,15] ?_;refine aT h Y (fun F h=>?_) (fun F h=>?_)
  ·refine aH ?_;refine aF ?_;refine bF ?_;obtain⟨ab,N,h⟩:=aB h;obtain⟨ac,O,h⟩:=aB h;refine fN (.a 3 ?_);refine .k (eK (.inr Y) (Yj N) Y Y) ?_;refine .a 1 ?_;refine .k (dM (e:=(Enc.int .u8)) sG S5 Z5 Y Y Y Y (.cons (.dir Y) .nil)) (.t (bR 137 O Y Y (.sl Y) sG I5 S5 Y Y Y Y Y) (.f [3,5,6,8,9,10] ?_));refine bK ?_;refine eB [3,5,6,8,9,10] ?_;cases h;exact cE (aC [(135,137)])
  cases h;exact cN (cW (aC []))
 cases h;exact cN (cW (aC []))
theorem Mb{a0 r}(h:qY a0=some r):
 Con Tryz.prog 150 [.v (Enc.sl (Enc.int .u64)) a0] (.v (Enc.sl (Enc.int .u64)) r) []:=by
 refine Con.of Tryz.func150 Y Tryz.ntmps150 Y ?_;intro S w D;unfold qY at h;refine aJ (.k (kK (Enc.int .u64)) (.f [0,2] ?_));refine aJ (.k (yV (new:=[(102,.arr 255 (Enc.int .u64) ([]:iY))]) 101 aJb Y (.ref 102 Y .nil) (.cons .nil) Y Y) (.f [0,2,3] ?_));obtain⟨C,G,h⟩:=aB h;refine jD (.a 1 ?_);refine .k (aO (uK G) Tryz.call154 (.cons (.dir Y) (.cons (.dir Y) .nil))) (.f [2,3,6] ?_);refine bF ?_;obtain⟨T,H,h⟩:=aB h;obtain⟨U,E,h⟩:=aB h;obtain⟨V,I,K,X⟩:=Qi h;refine Qh (g:=[(2,.v (Enc.sl (Enc.int .u64)) ([]:iY)),(3,.ptr 101 0),(6,.fnc 156 [.pst (Enc.sl (Enc.int .u64)) C.1,.pst Q0 C.2])]) (ds0:=[(101,.box 256 [.ref 111]),(111,.arr 255 (Enc.int .u64) ([]:iY))]) (L:=[101]) (fun A:iY=>[.v (Enc.sl (Enc.int .u64)) A]) (fun u (B:iY)=>[(101,.box 256 [.ref 111] (some (u 101))),(111,.arr 255 (Enc.int .u64) B)]) (fun _ (z:Empty)=>z.elim) (fun u A B=>⟨[(2,.v (Enc.sl (Enc.int .u64)) ([]:iY)),(3,.ptr 101 0),(4,.v (Enc.sl (Enc.int .u64)) A),(6,.fnc 156 [.pst (Enc.sl (Enc.int .u64)) C.1,.pst Q0 C.2])],[(101,.box 256 [.ref 111] (some (u 101))),(111,.arr 255 (Enc.int .u64) B)]⟩) D Y I (aC [(111,102)]) (fun _=>rfl) Y (aJj (Df E).1 (Eu H) (Df E).2) Tryz.call156 (fun _=>rfl) Y (fun _=>rfl) Y (fun _ _=>(.cons Y .nil)) (fun _ z=>z.elim) ?_ ?_ ?_ ?_
 ·intro u S w R l A B;refine eB [2,3,4,6] ?_;exact aIr (aC [])
 ·intro u S w R l A B O h;refine bF ?_;obtain⟨aa,M,h⟩:=aB h;obtain⟨ab,N,h⟩:=aB h;refine dI 4 mixed (by exact(.k (aI Y Y Y aDx Tf) (.k (aD Y) (.k (aO (Ns M) Tryz.call155 (.cons (.dir Y) .nil)) (.k (dM (e:=(Enc.int .u64)) Qu Wl Tryz.zeroValue255 Y Y Y Y (.cons (.dir Y) .nil)) .nil))))) (by exact(J.t (bR 113 N Y Y (.sl Y) Qu Tryz.typeInfo255 Wl Y Y Y Y Y) (jz [2,3,6]))) ?_;cases h;exact bK (Qj (aC [(111,113)]))
 ·intro u P F S w R Q D;have h:=K _ F;refine bK ?_;refine aL [2] ?_;cases h;exact aG (vO D dD Y (aC []))
 ·exact fun _ z=>z.elim
theorem Tl{a0 r}(h:yX a0=some r):
 Con Tryz.prog 139 [.v Q7 a0] (.tup [.v (Enc.one1 (Enc.sl (Enc.sl (Enc.int .u64)))) r.1,.v Q8 r.2]) []:=by
 refine Con.of Tryz.func139 Y Tryz.ntmps139 Y ?_;intro S w E;unfold yX at h;refine aJ (.k (aM 101 aJa Y (.cons (Z.sl (Enc.sl (Enc.int .u64))) .nil) Y) (.f [0,2] ?_));refine aF ?_;refine aF ?_;obtain⟨K,u,h⟩:=aB h;refine dL (σ':=⟨[(0,.v Q7 a0),(2,.ptr 101 0),(15,.v Enc.bool K)],[(101,.box 251 [.v (Enc.sl (Enc.sl (Enc.int .u64))) ([]:(List iY))])]⟩) ?_ ?_
 ·refine cd u (fun F u=>?_) (fun F u=>?_)
  ·cases u;exact jy
  cases u;exact jy
 refine aT h Y (fun G h=>?_) (fun G h=>?_)
 ·refine aJ (.k (eT (new:=[(102,.arr 256 (Enc.sl (Enc.int .u64)) ([]:(List iY)))]) Ti (.ref 102 Y .nil) (.cons .nil) Y .nil) (.f [2,3] ?_));refine aG ?_;obtain rfl:=pT h;exact bN (σ':=⟨[(2,.ptr 90 0),(3,.v Q8 (some (1:Int)))],[(90,.box 251 [.v (Enc.sl (Enc.sl (Enc.int .u64))) ([]:(List iY))])]⟩) (aC [(90,101)]) (bD E dD Y (aS Y Y (.one1 (.one _ _)) Tryz.isAgg251 aDy) (RV.tmp Y) .nil Y)
 refine aH ?_;refine aJ (.k (aR 103 255 (Enc.int .u64)) (.f [0,2,4] ?_));refine cR [2,4,18,19,20] ?_;obtain⟨X,L,M,aa⟩:=bX h;refine jH (σs:=fun D:Int×iY=>⟨[(2,.ptr 101 0),(4,.ref 113),(18,.v Q7 a0),(19,.v Q0 (a0.length:Int)),(20,.v Q0 D.1)],[(101,.box 251 [.v (Enc.sl (Enc.sl (Enc.int .u64))) ([]:(List iY))]),(113,.arr 255 (Enc.int .u64) D.2)]⟩) (fun z:iY=>⟨[(2,.ptr 101 0),(4,.ref 113)],[(101,.box 251 [.v (Enc.sl (Enc.sl (Enc.int .u64))) ([]:(List iY))]),(113,.arr 255 (Enc.int .u64) z)]⟩) L (aC [(113,103)]) ?_ ?_
 ·intro z A;have h:=M _ A;refine aJ (.a 1 ?_);refine .sub (σ':=⟨[(2,.ptr 101 0),(4,.v (Enc.sl (Enc.int .u64)) z),(30,.v (Enc.sl (Enc.int .u64)) z)],[(101,.box 251 [.v (Enc.sl (Enc.sl (Enc.int .u64))) ([]:(List iY))])]⟩) (aC []) (.k (qM (e:=(Enc.sl (Enc.int .u64))) 120 aGt Tf aJb Y Y Y Y (.cons (.dir Y) .nil)) (.k (bE Ti (.cons (Z.sl (Enc.sl (Enc.int .u64))) .nil) (.cons Y (.dir Y) Y Y Y Y .nil)) (.k (yV (new:=[(122,.arr 256 (Enc.sl (Enc.int .u64)) ([]:(List iY)))]) 121 aJa Y (.ref 122 Y .nil) (.cons .nil) Y Y) (.f [2,4,7] ?_))));refine aF ?_;obtain⟨ab,N,O,ac⟩:=bX h;refine jH (σs:=fun C:iY×(List iY)=>⟨[(2,.ptr 101 0),(4,.v (Enc.sl (Enc.int .u64)) C.1),(7,.ptr 121 0)],[(101,.box 251 [.v (Enc.sl (Enc.sl (Enc.int .u64))) ([]:(List iY))]),(121,.box 251 [.ref 130]),(130,.arr 256 (Enc.sl (Enc.int .u64)) C.2)]⟩) (fun B:(List iY)=>⟨[(2,.ptr 101 0),(7,.ptr 121 0)],[(101,.box 251 [.v (Enc.sl (Enc.sl (Enc.int .u64))) ([]:(List iY))]),(121,.box 251 [.ref 130]),(130,.arr 256 (Enc.sl (Enc.int .u64)) B)]⟩) N (aC [(130,120)]) ?_ ?_
  ·intro B A;have h:=O _ A;refine aJ (.k (gO Y Y Y Tryz.isAgg251 aDy) (.f [2,3] ?_));refine aG ?_;obtain rfl:=pT h;exact bN (σ':=⟨[(2,.ptr 90 0),(3,.v Q8 (none:Option Int))],[(90,.box 251 [.v (Enc.sl (Enc.sl (Enc.int .u64))) B])]⟩) (aC [(90,101)]) (bD E dD Y (aS Y Y (.one1 (.one _ _)) Tryz.isAgg251 aDy) (RV.tmp Y) .nil Y)
  intro C U h;refine cR [2,4,7,35] ?_;refine aT h Y (fun H h=>?_) (fun H h=>?_)
  ·refine aH ?_;refine bF ?_;obtain⟨ad,P,h⟩:=aB h;refine aJ (.a 1 ?_);refine .k (aO (Mb P) Tryz.call150 (.cons (.dir Y) .nil)) (.f [2,4,7] ?_);obtain⟨ae,Q,h⟩:=aB h;refine fN (.a 3 ?_);refine .k (dM (e:=(Enc.sl (Enc.int .u64))) aGt Tf aJb Y Y Y Y (.cons (.dir Y) .nil)) (.t (bR 134 Q Y Y (.sl Y) aGt Tryz.typeInfo256 Tf Y Y Y Y Y) (.f [2,4,7] ?_));cases h;exact bK (cE (aC [(130,134)]))
  cases h;exact cN (cW (aC []))
 intro D V h;refine aL [2,4,18,19,20,21] ?_;refine aF ?_;refine aT h Y (fun I h=>?_) (fun I h=>?_)
 ·refine aH ?_;refine aF ?_;refine bF ?_;obtain⟨af,ah,h⟩:=aB h;refine aJ (.a 2 ?_);refine .k (aM 117 Az Y (.cons (Z.arr 8 (Z.int .u8)) .nil) Y) (.f [2,4,6,18,19,20] ?_);obtain⟨ai,R,h⟩:=aB h;obtain⟨aj,T,h⟩:=aB h;refine fN (.a 2 ?_);refine .k (aO (Nr R) Tryz.call149 (.cons (.dir Y) .nil)) (.k (dM (e:=(Enc.int .u64)) Qu Wl Tryz.zeroValue255 Y Y Y Y (.cons (.dir Y) .nil)) (.t (bR 119 T Y Y (.sl Y) Qu Tryz.typeInfo255 Wl Y Y Y Y Y) (.f [2,4,18,19,20] ?_)));refine bK ?_;refine eB [2,4,18,19,20] ?_;cases h;exact cE (aC [(113,119)])
 cases h;exact cN (cW (aC []))
theorem Gq{a0 r}(h:oR a0=some r):
 Con Tryz.prog 140 [.v (Enc.int .u64) a0] (.v nC r) []:=by
 refine Con.of Tryz.func140 Y Tryz.ntmps140 Y ?_;intro S w u;unfold oR at h;refine aJ (.k (kK Q0) (.f [0] ?_));refine aJ (.a 1 ?_);refine .k (eK (.inr Y) (by decide) Y Y) ?_;refine .a 2 ?_;refine .k (eK (.inr Y) (by decide) Y Y) ?_;refine .a 2 ?_;refine .k (dM (e:=Q0) xE S3 Z3 Y Y Y Y (.cons (.dir Y) (.cons (.dir Y) .nil))) (.f [2] ?_);cases h;exact aG (aY u dD Y (RV.tmp Y) .nil Y)
theorem Cs{a0 r}(h:jK a0=some r):
 Con Tryz.prog 121 [.v Q7 a0] (.v nC r) []:=by
 refine Con.of Tryz.func121 Y Tryz.ntmps121 Y ?_;intro S w u;unfold jK at h;refine aJ (.k (kK Q0) (.f [0] ?_));obtain⟨C,A,h⟩:=aB h;refine aJ (.a 1 ?_);refine .k (aO (Tl A) Tryz.call139 (.cons (.dir Y) .nil)) ?_;refine .a 3 ?_;refine .k (aM 102 aJa Y (.cons (Z.sl (Enc.sl (Enc.int .u64))) .nil) Y) (.t (bI Y Y Y Y (.one1 (.one _ _)) aDy) (.f [3,4] ?_));refine cR [3,11] ?_;refine aT h Y (fun z h=>?_) (fun z h=>?_)
 ·refine aJ (.k (kK Q0) (.f [2] ?_));cases h;exact aG (aY u dD Y (RV.tmp Y) .nil Y)
 refine aH ?_;obtain⟨D,E,h⟩:=aB h;obtain⟨F,G,h⟩:=aB h;obtain⟨H,B,h⟩:=aB h;refine aJ (.a 10 ?_);refine .k (aO (Gq B) Tryz.call140 (.cons (.dir Y) .nil)) (.f [2] ?_);cases h;exact aG (aY u dD Y (RV.tmp Y) .nil Y)
theorem If{a0 a1 r}(h:nH a0 a1=some r):
 Con Tryz.prog 122 [.v (Enc.pr Q0 Q0) a0,.v (Enc.sl (Enc.int .u8)) a1] (.tup [.v (Enc.pr Q0 Q0) r.1,.v Q4 r.2.1,.v Enc.bool r.2.2.1,.v (Enc.slN (Enc.int .u8)) r.2.2.2.1,.v Q8 r.2.2.2.2]) []:=by
 refine Con.of Tryz.func122 Y Tryz.ntmps122 Y ?_;intro S w C;unfold nH at h;refine aJ (.k (bU 101 Y (.prm (.one _ _) (.one _ _)) Y) (.k (aM 102 Tryz.zeroValue70 Y (.cons (Z.int .i64) (.cons (Z.int .i64) .nil)) Y) (.k (aM 103 Bj Y (.cons (Z.int .i64) (.cons (Z.sl Q0) (.cons (Z.sl aN) .nil))) Y) ?_)));refine .a 1 ?_;refine .k (yF (Enc.int .u8)) (.f [1,2,4,5,6] ?_);obtain⟨v1,N,h⟩:=aB h;refine jD (.a 4 ?_);refine .k (dM (e:=Q0) xE S3 Z3 Y Y Y Y (.cons (.dir Y) (.cons (.dir Y) .nil))) (.k (aO (Bc N) Tryz.call117 (.cons (.dir Y) .nil)) (.f [1,2,4,5,6,17] ?_));refine aT h Y (fun F h=>?_) (fun F h=>?_)
 ·refine aJ (.k (bE Jz (.cons (Z.int .i64) (.cons (Z.int .i64) .nil)) .nil) (.k (bE lE (.cons (Z.int .i64) (.cons (Z.sl Q0) (.cons (Z.sl aN) .nil))) .nil) ?_));refine .a 4 ?_;refine .k (yF (Enc.int .u8)) (.f [4,5,6,7,8] ?_);refine aG ?_;obtain rfl:=pT h;exact bN (σ':=⟨[(4,.ptr 90 0),(5,.ptr 91 0),(6,.v Enc.bool false),(7,.v (Enc.slN (Enc.int .u8)) (true,([]:iY))),(8,.v Q8 (some (1:Int)))],[(91,.box 129 [.v Q0 (0:Int),.v nC ([]:iY),.v Q7 ([]:jA)]),(90,.box 70 [.v Q0 (0:Int),.v Q0 (0:Int)])]⟩) (aC [(90,102),(91,103)]) (Qn C dD Y (aS Y Y (.prm (.one _ _) (.one _ _)) G70 S70) (aS Y Y (.prm (.one _ _) (.prm (.one _ _) (.one _ _))) tU kS) (RV.tmp Y) (RV.tmp Y) (RV.tmp Y) .nil Y)
 refine aH ?_;obtain⟨B,O,h⟩:=aB h;refine aJ (.a 1 ?_);refine .k (aO (rB O) aGr (.cons (.dir Y) .nil)) ?_;refine .a 3 ?_;refine .k (aM 106 Bj Y (.cons (Z.int .i64) (.cons (Z.sl Q0) (.cons (Z.sl aN) .nil))) Y) (.t (bI Y Y Y Y (.prm (.one _ _) (.prm (.one _ _) (.one _ _))) kS) (.f [2,4,5,6,9,10] ?_));refine aF ?_;refine aF ?_;obtain⟨P,u,h⟩:=aB h;refine Hm (σ':=⟨[(2,.ptr 101 0),(4,.ptr 102 0),(5,.ptr 103 0),(6,.v Enc.bool false),(9,.ptr 106 0),(54,.v Enc.bool P)],[(101,.box 70 [.v Q0 a0.1,.v Q0 a0.2]),(102,.box 70 [.v Q0 (0:Int),.v Q0 (0:Int)]),(103,.box 129 [.v Q0 (0:Int),.v nC ([]:iY),.v Q7 ([]:jA)]),(106,.box 129 [.v Q0 B.1.1,.v nC B.1.2.1,.v Q7 B.1.2.2])]⟩) ?_ ?_
 ·intro A;refine cd u (fun G u=>?_) (fun G u=>?_)
  ·cases u;exact pU 29 mixed A
  refine cd u (fun H u=>?_) (fun H u=>?_)
  ·cases u;exact pU 29 mixed A
  refine cd u (fun I u=>?_) (fun I u=>?_)
  ·cases u;exact pU 29 mixed A
  obtain⟨ab,ac,u⟩:=aB u;refine cd u (fun K u=>?_) (fun K u=>?_)
  ·cases u;exact pU 29 mixed A
  obtain⟨ad,ae,u⟩:=aB u;cases u;exact pU 29 mixed A
 refine aT h Y (fun L h=>?_) (fun L h=>?_)
 ·refine aJ (.k (aX Y Y (.prm (.one _ _) (.one _ _)) G70 S70) (.k (bE lE (.cons (Z.int .i64) (.cons (Z.sl Q0) (.cons (Z.sl aN) .nil))) .nil) (.t (bI Y Y Y Y (.prm (.one _ _) (.one _ _)) S70) ?_)));refine .a 2 ?_;refine .k (yF (Enc.int .u8)) (.f [4,5,6,7,8] ?_);refine aG ?_;obtain rfl:=pT h;exact bN (σ':=⟨[(4,.ptr 90 0),(5,.ptr 91 0),(6,.v Enc.bool false),(7,.v (Enc.slN (Enc.int .u8)) (true,([]:iY))),(8,.v Q8 (none:Option Int))],[(91,.box 129 [.v Q0 (0:Int),.v nC ([]:iY),.v Q7 ([]:jA)]),(90,.box 70 [.v Q0 a0.1,.v Q0 a0.2])]⟩) (aC [(90,102),(91,103)]) (Qn C dD Y (aS Y Y (.prm (.one _ _) (.one _ _)) G70 S70) (aS Y Y (.prm (.one _ _) (.prm (.one _ _) (.one _ _))) tU kS) (RV.tmp Y) (RV.tmp Y) (RV.tmp Y) .nil Y)
 refine aH ?_;refine aF ?_;refine aF ?_;obtain⟨Q,u,h⟩:=aB h;refine Hm (σ':=⟨[(2,.ptr 101 0),(4,.ptr 102 0),(5,.ptr 103 0),(6,.v Enc.bool false),(9,.ptr 106 0),(68,.v Enc.bool Q)],[(101,.box 70 [.v Q0 a0.1,.v Q0 a0.2]),(102,.box 70 [.v Q0 (0:Int),.v Q0 (0:Int)]),(103,.box 129 [.v Q0 (0:Int),.v nC ([]:iY),.v Q7 ([]:jA)]),(106,.box 129 [.v Q0 B.1.1,.v nC B.1.2.1,.v Q7 B.1.2.2])]⟩) ?_ ?_
 ·intro A;obtain⟨af,ah,u⟩:=aB u;refine cd u (fun M u=>?_) (fun M u=>?_)
  ·cases u;exact pU 12 mixed A
  cases u;exact pU 12 mixed A
 obtain⟨R,T,h⟩:=gC h;refine uT (fun z:Bool×Int×Int×iY×jA=>⟨[(2,.ptr 101 0),(4,.ptr 102 0),(5,.ptr 103 0),(6,.v Enc.bool z.1)],[(101,.box 70 [.v Q0 a0.1,.v Q0 z.2.1]),(102,.box 70 [.v Q0 (0:Int),.v Q0 (0:Int)]),(103,.box 129 [.v Q0 z.2.2.1,.v nC z.2.2.2.1,.v Q7 z.2.2.2.2])]⟩) (fun x=>R x=some r) Y ?_ ?_ ?_
 ·intro z h;rw[T] at h;obtain⟨E,U,h⟩:=aB h;obtain⟨ai,V,h⟩:=aB h;refine aJ (.a 4 ?_);refine .k (dM (e:=Q0) xE S3 Z3 Y Y Y Y (.cons (.dir Y) (.cons (.dir Y) .nil))) (.k (bE lE (.cons (Z.int .i64) (.cons (Z.sl Q0) (.cons (Z.sl aN) .nil))) (.cons Y (.dir Y) Y Y Y Y (.cons Y (.dir Y) Y Y Y Y .nil))) (.k (aO (wT U) Tryz.call97 (.cons (.agg Y (.same (.same (.same .nil))) (.prm (.one _ _) (.prm (.one _ _) (.one _ _))) Y) .nil)) ?_));refine .a 3 ?_;refine .k (by exact aIw (Lf V) (bB Y)) (.f [2,4,5,6,7,8] ?_);refine aF ?_;refine dI 10 mixed (by exact(.k (aX Y Y (.prm (.one _ _) (.one _ _)) G70 S70) (.k (aX Y Y (.prm (.one _ _) (.prm (.one _ _) (.one _ _))) tU kS) (.k (aD Y) (.k (aD Y) (.k (aD Y) (JP4.storeAll (.none Y) Y Y Y Y (.prm (.one _ _) (.one _ _)) S70 (JP4.storeAll (.none Y) Y Y Y Y (.prm (.one _ _) (.prm (.one _ _) (.one _ _))) kS (.k (bB Y) (.k (bB Y) (.k (bB Y) .nil))))))))))) (by exact(J.kp [4,5,6,7,8] [])) ?_;refine aG ?_;obtain rfl:=pT h;exact bN (σ':=⟨[(4,.ptr 90 0),(5,.ptr 91 0),(6,.v Enc.bool z.1),(7,.v (Enc.slN (Enc.int .u8)) (false,E.1)),(8,.v Q8 E.2)],[(91,.box 129 [.v Q0 z.2.2.1,.v nC z.2.2.2.1,.v Q7 z.2.2.2.2]),(90,.box 70 [.v Q0 ((a0.1,z.2.1).1),.v Q0 ((a0.1,z.2.1).2)])]⟩) (aC [(90,102),(91,103)]) (Qn C dD Y (aS Y Y (.prm (.one _ _) (.one _ _)) G70 S70) (aS Y Y (.prm (.one _ _) (.prm (.one _ _) (.one _ _))) tU kS) (RV.tmp Y) (RV.tmp Y) (RV.tmp Y) .nil Y)
 ·intro D;replace h:=jP D h;refine aF ?_;obtain⟨aj,X,h⟩:=aB h;obtain⟨ak,aa,h⟩:=aB h;refine dI 12 mixed (by exact(.k (aA 1 Y tV Y xS Y Y) (.k (aI Y Y Y Qt xS) (.k (pK X Y Y xE S3) (.k (bQ Y G3 S3) (.k (aA 1 Y tV Y xS Y Y) (.k (aI Y Y Y Qt xS) (.k (vU aa Y Y xE S3) (.k (aA 2 Y tV Y xC Y Y) (.k (aI Y Y Y Rv xC) (.k (bE lE (.cons (Z.int .i64) (.cons (Z.sl Q0) (.cons (Z.sl aN) .nil))) (.cons Y (.dir Y) Y Y Y Y (.cons Y (.dir Y) Y Y Y Y (.cons Y (.dir Y) Y Y Y Y .nil)))) (JP4.storeAgg (.none Y) Y Y Y Y Y Y kS (.k (bB Y) .nil))))))))))))) (by exact(J.kp [2,4,5,6] [])) ?_;refine eB [2,4,5,6] ?_;exact cF h (aC [])
 ·intro D;replace h:=jQ D h;refine aH ?_;exact cF h (aC [])
theorem rX(A:Nat->Nat){a1 a2 b0 b1 b2 b3 b4 b5 b6 b7 b8 b9 b10 b11 b12 b13 b14 b15 b16 b17 b18 b19 b20 b21 r}(h:gF a1 a2 b0 b1 b2 b3 b4 b5 b6 b7 b8 b9 b10 b11 b12 b13 b14 b15 b16 b17 b18 b19 b20 b21=some r):
 ConM Tryz.prog 58 [.ptr 9000 18,.v Q1 a1,.v Q0 a2] (iI 9000 (some (A 9000)) 9100 (some (A 9100)) 9200 (some (A 9200)) 9050 9051 9052 9053 b0 b1 b2 b3 b4 b5 b6 b7 b8 b9 b10 b11 b12 b13 b14 b15 b16 b17 b18 b19 b20 b21) (.v Q8 r.1) (iI 9000 (some (A 9000)) 9100 (some (A 9100)) 9200 (some (A 9200)) 400 401 402 403 b0 b1 b2 b3 b4 b5 b6 b7 b8 b9 b10 b11 b12 r.2.1 b14 b15 b16 b17 b18 b19 r.2.2.1 r.2.2.2):=by
 refine ConM.of Tryz.func58 Y Tryz.ntmps58 Y ?_;intro S w R u;unfold gF at h;refine aL [0,1,2] ?_;refine aF ?_;refine aF ?_;obtain⟨C,B,h⟩:=aB h;refine dI 10 mixed (by exact(.k (aD Y) (.k (aK Y) (.k (aA 18 Y Dx Y Gl Y Y) (.k (aI Y Y Y Lq Gl) (.k (aD Y) (.k (aD Y) (.k (aD Y) (.k (aK Y) (.k (aA 21 Y Dx Y S3 Y Y) (.k (aI Y Y Y G3 S3) .nil))))))))))) (by exact(J.t (eA [9200] (Av [(9000,9200)]) (dY _) (fun A=>gN A B) C55 (fun A=>(.box Y .nil Y))) (jz [0,2,7]))) ?_;refine aL [0,2,7,20] ?_;refine aT h Y (fun z h=>?_) (fun z h=>?_)
 ·refine aL [0,6] ?_;cases h;exact aG (eG u Y (aC [(403,9053),(402,9052),(401,9051),(400,9050)]))
 refine aH ?_;refine aL [0] ?_;refine aL [0,6] ?_;cases h;exact aG (eG u Y (aC [(403,9053),(402,9052),(401,9051),(400,9050)]))
theorem Ff{a0 r}(h:nI a0=some r):
 Con Tryz.prog 141 [.v Q4 a0] (.tup [.v (Enc.sl sA) r.1,.v Enc.bool r.2]) []:=by
 refine Con.of Tryz.func141 Y Tryz.ntmps141 Y ?_;intro S w E;unfold nI at h;refine aJ (.k (bU 101 Y (.prm (.one _ _) (.prm (.one _ _) (.one _ _))) Y) (.k (aR 102 209 sA) (.f [1] ?_)));refine aJ (.k (aR 103 209 sA) (.f [1,4] ?_));refine aL [1,4,5] ?_;obtain⟨z,L,h⟩:=aB h;refine jD (.a 2 ?_);refine .k (vU L Y Y xE S3) (.f [4,5,13,14,15] ?_);obtain⟨V,M,N,O⟩:=bX h;refine jH (σs:=fun u:jA×Int×(List (Int×Int×Int×aQ))=>⟨[(4,.ref 115),(5,.v Q7 u.1),(13,.v nC z),(14,.v Q0 (z.length:Int)),(15,.v Q0 u.2.1)],[(115,.arr 209 sA u.2.2)]⟩) (fun A:jA×(List (Int×Int×Int×aQ))=>⟨[(4,.ref 115),(5,.v Q7 A.1)],[(115,.arr 209 sA A.2)]⟩) M (aC [(115,103)]) ?_ ?_
 ·intro A F;have h:=N _ F;refine aL [2,3] ?_;cases h;exact aG (vP E dD Y (aC []))
 intro u G h;refine aL [4,5,13,14,15,16] ?_;refine aF ?_;refine aT h Y (fun H h=>?_) (fun H h=>?_)
 ·refine aH ?_;refine aF ?_;refine bF ?_;obtain⟨D,X,h⟩:=aB h;refine aL [4,5,7,13,14,15] ?_;refine aJ (.a 1 ?_);refine .k (eK (.inr Y) (by decide) Y Y) ?_;refine .a 1 ?_;refine .k (eK (.inr Y) (by decide) Y Y) ?_;refine .a 3 ?_;refine .k (bE Cj (.cons (Z.int .i64) (.cons (Z.int .i64) (.cons (Z.int .i64) (.cons (Z.arr 8 (Z.int .u8)) .nil)))) (.cons Y (.dir Y) Y Y Y Y (.cons Y (.dir Y) Y Y Y Y (.cons Y (.dir Y) Y Y Y Y .nil)))) (.k (aM 120 Lt Y (.cons (Z.int .i64) (.cons (Z.int .i64) (.cons (Z.int .i64) (.cons (Z.arr 8 (Z.int .u8)) .nil)))) Y) (.f [4,5,8,13,14,15] ?_));refine cR [4,5,8,13,14,15,29] ?_;obtain⟨P,Q,h⟩:=gC h;refine uT (fun B:jA×aQ=>⟨[(4,.ref 115),(5,.v Q7 B.1),(8,.ptr 120 0),(13,.v nC z),(14,.v Q0 (z.length:Int)),(15,.v Q0 u.2.1)],[(115,.arr 209 sA u.2.2),(120,.box 209 [.v Q0 (sh .shr .i64 D (8:Int)),.v Q0 (ar .and .i64 (sh .shr .i64 D (6:Int)) (3:Int)),.v Q0 (ar .and .i64 D (63:Int)),.v aN B.2])]⟩) (fun x=>P x=some G) Y ?_ ?_ ?_
  ·intro B h;rw[Q] at h;obtain⟨aa,R,h⟩:=aB h;refine fN (.a 1 ?_);refine .k (aX Y Y (.prm (.one _ _) (.prm (.one _ _) (.prm (.one _ _) (.one _ _)))) Td Bi) (.k (dM (e:=sA) aA9 Bi Lt Y Y Y Y (.cons (.dir Y) .nil)) (.t (bR 123 R Y Y (.sl Y) aA9 aI1 Bi Y Y Y Y Y) (.f [4,5,13,14,15] ?_)));refine bK ?_;refine eB [4,5,13,14,15] ?_;cases h;exact cE (aC [(115,123)])
  ·intro C;replace h:=jP C h;refine cR [4,5,8,13,14,15,32] ?_;refine aT h Y (fun I h=>?_) (fun I h=>?_)
   ·refine aJ (.k (aR 122 209 sA) (.f [2,3] ?_));refine aG ?_;refine Fw ?_;refine dZ ?_;cases h;refine gD fun K=>?_;obtain rfl:=O _ K;exact vP E dD Y (aC [])
   refine aH ?_;obtain⟨ab,T,h⟩:=aB h;obtain⟨ac,U,h⟩:=aB h;refine dI 8 mixed (by exact(.k (aD Y) (.k (pK T Y Y Hx jU) (.k (bQ Y sS jU) (.k (aD Y) (.k (vU U Y Y Hx jU) (.k (aA 3 Y aI3 Y jU Y Y) (JP4.store (.none Y) Y Y Y Y Y Y Y jU (.k (bB Y) .nil))))))))) (by exact(J.kp [4,5,8,13,14,15] [])) ?_;exact cF h (aC [])
  ·intro C;replace h:=jQ C h;refine aH ?_;exact cF h (aC [])
 cases h;exact cN (cW (aC []))
theorem Gr{a0 a1 r}(h:sF a0 a1=some r):
 Con Tryz.prog 151 [.v Q7 a0,.v Q0 a1] (.tup [.v aN r.1,.v Enc.bool r.2]) []:=by
 refine Con.of Tryz.func151 Y Tryz.ntmps151 Y ?_;intro S w z;unfold sF at h;refine aJ (.k (aM 101 Az Y (.cons (Z.arr 8 (Z.int .u8)) .nil) Y) (.f [0,1,4] ?_));refine aF ?_;refine aF ?_;obtain⟨C,u,h⟩:=aB h;refine dL (σ':=⟨[(0,.v Q7 a0),(1,.v Q0 a1),(4,.ptr 101 0),(13,.v Enc.bool C)],[(101,.box 33 [.v aN aU])]⟩) ?_ ?_
 ·refine cd u (fun A u=>?_) (fun A u=>?_)
  ·cases u;exact jy
  cases u;exact jy
 refine aT h Y (fun B h=>?_) (fun B h=>?_)
 ·refine aJ (.k (cT (e:=aN) (v:=aU) Ay vI I5 Y Y (Z.arr 8 (Z.int .u8))) (.f [4,5] ?_));refine aG ?_;obtain rfl:=pT h;exact bN (σ':=⟨[(4,.ptr 90 0),(5,.v Enc.bool false)],[(90,.box 33 [.v aN aU])]⟩) (aC [(90,101)]) (bD z dD Y (bY Y Y Y sS jU) (RV.tmp Y) .nil Y)
 refine aH ?_;obtain⟨D,E,h⟩:=aB h;refine aL [4,5] ?_;refine aG ?_;obtain rfl:=pT h;exact bN (σ':=⟨[(4,.ptr 90 0),(5,.v Enc.bool true)],[(90,.box 33 [.v aN D])]⟩) (aC [(90,101)]) (bD z dD Y (bY Y Y Y sS jU) (RV.tmp Y) .nil Y)
theorem Mc{a0 a1 a2 r}(h:oA a0 a1 a2=some r):
 Con Tryz.prog 142 [.v (Enc.sl sA) a0,.v Q7 a1,.v Q7 a2] (.tup [.ref 0,.ref 1,.v Q8 r.2.2]) [(0,.arr 124 Q5 r.1),(1,.arr 3 Q0 r.2.1)]:=by
 refine Con.of Tryz.func142 Y Tryz.ntmps142 Y ?_;intro S w D;unfold oA at h;refine aJ (.k (aR 101 124 Q5) (.k (aR 102 3 Q0) (.f [0,1,2,6,7] ?_)));obtain⟨V,X,h⟩:=aB h;refine jD (.a 2 ?_);refine .k (aO (zE X) Tryz.call134 (.cons (.dir Y) (.cons (.dir Y) .nil))) (.f [0,1,2,6,7,9] ?_);refine aL [0,1,2,6,7,9,21] ?_;refine aT h Y (fun G h=>?_) (fun G h=>?_)
 ·refine aJ (.a 1 ?_);refine .k (aR 104 124 Q5) (.k (aR 105 3 Q0) (.f [6,7,8] ?_));refine aG ?_;obtain rfl:=pT h;exact bN (σ':=⟨[(6,.ref 0),(7,.ref 1),(8,.v Q8 V)],[(1,.arr 3 Q0 ([]:iY)),(0,.arr 124 Q5 ([]:Q6))]⟩) (aC [(0,104),(1,105)]) (vT D dD Y (RV.tmp Y) (RV.tmp Y) (RV.tmp Y) (.cons Y (.cons Y .nil)) Y)
 refine aH ?_;refine aL [0,1,2,6,7,10] ?_;refine cR [0,1,2,6,7,10,23,24,25] ?_;obtain⟨au,aa,ab,ac⟩:=bX h;refine jH (σs:=fun B:Int×Int=>⟨[(0,.v (Enc.sl sA) a0),(1,.v Q7 a1),(2,.v Q7 a2),(6,.ref 101),(7,.ref 102),(10,.v Q0 B.1),(23,.v (Enc.sl sA) a0),(24,.v Q0 (a0.length:Int)),(25,.v Q0 B.2)],[(101,.arr 124 Q5 ([]:Q6)),(102,.arr 3 Q0 ([]:iY))]⟩) (fun F:Unit=>⟨[(0,.v (Enc.sl sA) a0),(1,.v Q7 a1),(2,.v Q7 a2),(6,.ref 101),(7,.ref 102)],[(101,.arr 124 Q5 ([]:Q6)),(102,.arr 3 Q0 ([]:iY))]⟩) aa (aC []) ?_ ?_
 ·intro F E;have h:=ab _ E;refine cR [1,2,6,7,54,55,56] ?_;obtain⟨av,ad,ae,aw⟩:=bX h;refine jH (σs:=fun A:Int×Q6×iY=>⟨[(1,.v Q7 a1),(2,.v Q7 a2),(6,.ref 144),(7,.ref 145),(54,.v (Enc.sl sA) a0),(55,.v Q0 (a0.length:Int)),(56,.v Q0 A.1)],[(144,.arr 124 Q5 A.2.1),(145,.arr 3 Q0 A.2.2)]⟩) (fun z:Q6×iY=>⟨[(6,.ref 144),(7,.ref 145)],[(144,.arr 124 Q5 z.1),(145,.arr 3 Q0 z.2)]⟩) ad (aC [(144,101),(145,102)]) ?_ ?_
  ·intro z E;have h:=ae _ E;refine aL [6,7,8] ?_;refine aG ?_;obtain rfl:=pT h;exact bN (σ':=⟨[(6,.ref 0),(7,.ref 1),(8,.v Q8 (none:Option Int))],[(1,.arr 3 Q0 z.2),(0,.arr 124 Q5 z.1)]⟩) (aC [(0,144),(1,145)]) (vT D dD Y (RV.tmp Y) (RV.tmp Y) (RV.tmp Y) (.cons Y (.cons Y .nil)) Y)
  intro A ap h;refine aL [1,2,6,7,54,55,56,57] ?_;refine aF ?_;refine aT h Y (fun H h=>?_) (fun H h=>?_)
  ·refine aH ?_;refine aF ?_;refine bF ?_;obtain⟨ax,ay,h⟩:=aB h;refine aJ (.a 2 ?_);refine .k (aM 156 Lt Y (.cons (Z.int .i64) (.cons (Z.int .i64) (.cons (Z.int .i64) (.cons (Z.arr 8 (Z.int .u8)) .nil)))) Y) (.t (bI Y Y Y Y (.prm (.one _ _) (.prm (.one _ _) (.prm (.one _ _) (.one _ _)))) Bi) (.f [1,2,6,7,14,54,55,56] ?_));refine aJ (.k (aM 157 Az Y (.cons (Z.arr 8 (Z.int .u8)) .nil) Y) (.f [1,2,6,7,14,15,54,55,56] ?_));refine aL [1,2,6,7,14,15,16,54,55,56] ?_;refine cR [1,2,6,7,14,15,16,54,55,56,61] ?_;refine bF ?_;refine aL [1,2,6,7,14,15,16,54,55,56,61,62] ?_;refine aT h Y (fun I h=>?_) (fun I h=>?_)
   ·obtain⟨az,af,h⟩:=aB h;refine fN (.a 3 ?_);refine .k (aO (Gr af) Tryz.call151 (.cons (.dir Y) (.cons (.dir Y) .nil))) (.f [1,2,6,7,14,15,16,54,55,56] ?_);refine bK ?_;refine aL [1,2,6,7,14,15,54,55,56,84] ?_;refine aT h Y (fun K h=>?_) (fun K h=>?_)
    ·obtain⟨a3,ah,h⟩:=aB h;refine fN (.a 4 ?_);refine .k (bE vA (.cons (Z.int .i64) (.cons (Z.arr 8 (Z.int .u8)) .nil)) (.cons Y (.dir Y) Y Y Y Y (.cons Y (.dir Y) Y Y Y Y .nil))) (.k (dM (e:=Q5) xD jE Dy Y Y Y Y (.cons (.agg Y (.same (.same .nil)) (.prm (.one _ _) (.one _ _)) Y) .nil)) (.t (bR 159 ah Y Y (.sl Y) xD Jj jE Y Y Y Y Y) (.f [1,2,6,7,54,55,56] ?_)));refine bK ?_;refine eB [1,2,6,7,54,55,56] ?_;cases h;exact cE (aC [(144,159)])
    obtain⟨a4,ai,h⟩:=aB h;refine fN (.a 3 ?_);refine .k (dM (e:=Q0) xE S3 Z3 Y Y Y Y (.cons (.dir Y) .nil)) (.t (bR 160 ai Y Y (.sl Y) xE I3 S3 Y Y Y Y Y) (.f [1,2,6,7,54,55,56] ?_));refine bK ?_;refine eB [1,2,6,7,54,55,56] ?_;cases h;exact cE (aC [(145,160)])
   refine aL [1,2,6,7,14,15,16,54,55,56,61,71] ?_;refine aT h Y (fun L h=>?_) (fun L h=>?_)
   ·obtain⟨a5,aj,h⟩:=aB h;refine fN (.a 3 ?_);refine .k (aO (Gr aj) Tryz.call151 (.cons (.dir Y) (.cons (.dir Y) .nil))) (.f [1,2,6,7,14,15,16,54,55,56] ?_);refine bK ?_;refine aL [1,2,6,7,14,15,54,55,56,84] ?_;refine aT h Y (fun M h=>?_) (fun M h=>?_)
    ·obtain⟨a6,ak,h⟩:=aB h;refine fN (.a 4 ?_);refine .k (bE vA (.cons (Z.int .i64) (.cons (Z.arr 8 (Z.int .u8)) .nil)) (.cons Y (.dir Y) Y Y Y Y (.cons Y (.dir Y) Y Y Y Y .nil))) (.k (dM (e:=Q5) xD jE Dy Y Y Y Y (.cons (.agg Y (.same (.same .nil)) (.prm (.one _ _) (.one _ _)) Y) .nil)) (.t (bR 162 ak Y Y (.sl Y) xD Jj jE Y Y Y Y Y) (.f [1,2,6,7,54,55,56] ?_)));refine bK ?_;refine eB [1,2,6,7,54,55,56] ?_;cases h;exact cE (aC [(144,162)])
    obtain⟨a7,al,h⟩:=aB h;refine fN (.a 3 ?_);refine .k (dM (e:=Q0) xE S3 Z3 Y Y Y Y (.cons (.dir Y) .nil)) (.t (bR 163 al Y Y (.sl Y) xE I3 S3 Y Y Y Y Y) (.f [1,2,6,7,54,55,56] ?_));refine bK ?_;refine eB [1,2,6,7,54,55,56] ?_;cases h;exact cE (aC [(145,163)])
   refine aL [1,2,6,7,14,15,16,54,55,56,80] ?_;refine aT h Y (fun N h=>?_) (fun N h=>?_)
   ·refine eB [1,2,6,7,14,15,16,54,55,56] ?_;refine bK ?_;refine aL [1,2,6,7,14,15,54,55,56,84] ?_;refine uN Y Y ?_;obtain⟨a8,am,h⟩:=aB h;refine fN (.a 4 ?_);refine .k (bE vA (.cons (Z.int .i64) (.cons (Z.arr 8 (Z.int .u8)) .nil)) (.cons Y (.dir Y) Y Y Y Y (.cons Y (.dir Y) Y Y Y Y .nil))) (.k (dM (e:=Q5) xD jE Dy Y Y Y Y (.cons (.agg Y (.same (.same .nil)) (.prm (.one _ _) (.one _ _)) Y) .nil)) (.t (bR 164 am Y Y (.sl Y) xD Jj jE Y Y Y Y Y) (.f [1,2,6,7,54,55,56] ?_)));refine bK ?_;refine eB [1,2,6,7,54,55,56] ?_;cases h;exact cE (aC [(144,164)])
   refine aH ?_;refine bK ?_;refine aL [1,2,6,7,14,15,54,55,56,84] ?_;refine uN Y Y ?_;obtain⟨a9,an,h⟩:=aB h;refine fN (.a 4 ?_);refine .k (bE vA (.cons (Z.int .i64) (.cons (Z.arr 8 (Z.int .u8)) .nil)) (.cons Y (.dir Y) Y Y Y Y (.cons Y (.dir Y) Y Y Y Y .nil))) (.k (dM (e:=Q5) xD jE Dy Y Y Y Y (.cons (.agg Y (.same (.same .nil)) (.prm (.one _ _) (.one _ _)) Y) .nil)) (.t (bR 165 an Y Y (.sl Y) xD Jj jE Y Y Y Y Y) (.f [1,2,6,7,54,55,56] ?_)));refine bK ?_;refine eB [1,2,6,7,54,55,56] ?_;cases h;exact cE (aC [(144,165)])
  cases h;exact cN (cW (aC []))
 intro B aq h;refine aL [0,1,2,6,7,10,23,24,25,26] ?_;refine aF ?_;refine aT h Y (fun O h=>?_) (fun O h=>?_)
 ·refine aH ?_;refine aF ?_;refine bF ?_;obtain⟨C,ba,h⟩:=aB h;refine aJ (.a 2 ?_);refine .k (aM 115 Lt Y (.cons (Z.int .i64) (.cons (Z.int .i64) (.cons (Z.int .i64) (.cons (Z.arr 8 (Z.int .u8)) .nil)))) Y) (.t (bI Y Y Y Y (.prm (.one _ _) (.prm (.one _ _) (.prm (.one _ _) (.one _ _)))) Bi) (.f [0,1,2,6,7,10,12,23,24,25] ?_));refine aF ?_;refine aF ?_;obtain⟨ao,u,h⟩:=aB h;refine dL (σ':=⟨[(0,.v (Enc.sl sA) a0),(1,.v Q7 a1),(2,.v Q7 a2),(6,.ref 101),(7,.ref 102),(12,.ptr 115 0),(23,.v (Enc.sl sA) a0),(24,.v Q0 (a0.length:Int)),(25,.v Q0 B.2),(49,.v Enc.bool ao)],[(101,.arr 124 Q5 ([]:Q6)),(102,.arr 3 Q0 ([]:iY)),(115,.box 209 [.v Q0 C.1,.v Q0 C.2.1,.v Q0 C.2.2.1,.v aN C.2.2.2])]⟩) ?_ ?_
  ·refine cd u (fun P u=>?_) (fun P u=>?_)
   ·cases u;exact jy
   refine cd u (fun Q u=>?_) (fun Q u=>?_)
   ·cases u;exact jy
   refine cd u (fun R u=>?_) (fun R u=>?_)
   ·cases u;exact jy
   cases u;exact jy
  refine aT h Y (fun T h=>?_) (fun T h=>?_)
  ·refine aJ (.a 1 ?_);refine .k (aR 116 124 Q5) (.k (aR 117 3 Q0) (.f [6,7,8] ?_));refine aG ?_;refine dZ ?_;cases h;refine gD fun U=>?_;obtain rfl:=ac _ U;exact bN (σ':=⟨[(6,.ref 0),(7,.ref 1),(8,.v Q8 (some (1:Int)))],[(1,.arr 3 Q0 ([]:iY)),(0,.arr 124 Q5 ([]:Q6))]⟩) (aC [(0,116),(1,117)]) (vT D dD Y (RV.tmp Y) (RV.tmp Y) (RV.tmp Y) (.cons Y (.cons Y .nil)) Y)
  refine aH ?_;refine eB [0,1,2,6,7,10,23,24,25] ?_;refine bK ?_;refine eB [0,1,2,6,7,10,23,24,25] ?_;cases h;exact cE (aC [])
 cases h;exact cN (cW (aC []))
theorem xI(A:Nat->Nat){a1 b0 b1 b2 b3 b4 b5 b6 b7 b8 b9 b10 b11 b12 b13 b14 b15 b16 b17 b18 b19 b20 b21 r}(h:eN a1 b0 b1 b2 b3 b4 b5 b6 b7 b8 b9 b10 b11 b12 b13 b14 b15 b16 b17 b18 b19 b20 b21=some r):
 ConM Tryz.prog 123 [.ptr 9000 18,.v Q4 a1] (iI 9000 (some (A 9000)) 9100 (some (A 9100)) 9200 (some (A 9200)) 9050 9051 9052 9053 b0 b1 b2 b3 b4 b5 b6 b7 b8 b9 b10 b11 b12 b13 b14 b15 b16 b17 b18 b19 b20 b21) (.v Q8 r.1) (iI 9000 (some (A 9000)) 9100 (some (A 9100)) 9200 (some (A 9200)) 400 401 402 403 b0 b1 b2 b3 b4 b5 b6 b7 b8 b9 b10 b11 b12 r.2.1 b14 b15 b16 b17 b18 b19 r.2.2.1 r.2.2.2):=by
 refine ConM.of Tryz.func123 Y Tryz.ntmps123 Y ?_;intro S w R B;unfold eN at h;refine aJ (.k (bU 101 Y (.prm (.one _ _) (.prm (.one _ _) (.one _ _))) Y) (.f [0,3] ?_));refine aF ?_;refine bF ?_;refine aF ?_;obtain⟨x5,u,h⟩:=aB h;refine Hm (σ':=⟨[(0,.ptr 9000 18),(3,.ptr 101 0),(14,.v Enc.bool x5)],((101,.box 129 [.v Q0 a1.1,.v nC a1.2.1,.v Q7 a1.2.2])::iI 9000 (some (A 9000)) 9100 (some (A 9100)) 9200 (some (A 9200)) 9050 9051 9052 9053 b0 b1 b2 b3 b4 b5 b6 b7 b8 b9 b10 b11 b12 b13 b14 b15 b16 b17 b18 b19 b20 b21)⟩) ?_ ?_
 ·intro z;refine cd u (fun H u=>?_) (fun H u=>?_)
  ·refine cd u (fun I u=>?_) (fun I u=>?_)
   ·refine cd u (fun K u=>?_) (fun K u=>?_)
    ·obtain⟨z9,an,u⟩:=aB u;cases u;exact pU 33 mixed z
    cases u;exact pU 33 mixed z
   cases u;exact pU 33 mixed z
  cases u;exact pU 33 mixed z
 refine aT h Y (fun L h=>?_) (fun L h=>?_)
 ·refine aJ (.k (aR 102 124 Q5) (.f [0,3,5] ?_));refine cR [0,3,5,48,49,50] ?_;obtain⟨ao,aa,ab,ap⟩:=bX h;refine jH (σs:=fun D:Int×Q6=>⟨[(0,.ptr 9000 18),(3,.ptr 101 0),(5,.ref 110),(48,.v Q7 a1.2.2),(49,.v Q0 (a1.2.2.length:Int)),(50,.v Q0 D.1)],((101,.box 129 [.v Q0 a1.1,.v nC a1.2.1,.v Q7 a1.2.2])::(110,.arr 124 Q5 D.2)::iI 9000 (some (A 9000)) 9100 (some (A 9100)) 9200 (some (A 9200)) 9050 9051 9052 9053 b0 b1 b2 b3 b4 b5 b6 b7 b8 b9 b10 b11 b12 b13 b14 b15 b16 b17 b18 b19 b20 b21)⟩) (fun C:Q6=>⟨[(0,.ptr 9000 18),(3,.ptr 101 0),(5,.ref 110)],((101,.box 129 [.v Q0 a1.1,.v nC a1.2.1,.v Q7 a1.2.2])::(110,.arr 124 Q5 C)::iI 9000 (some (A 9000)) 9100 (some (A 9100)) 9200 (some (A 9200)) 9050 9051 9052 9053 b0 b1 b2 b3 b4 b5 b6 b7 b8 b9 b10 b11 b12 b13 b14 b15 b16 b17 b18 b19 b20 b21)⟩) aa (aC [(110,102)]) ?_ ?_
  ·intro C G;have h:=ab _ G;refine aF ?_;refine vM (σ':=⟨[(0,.ptr 9000 18),(3,.ptr 101 0),(5,.v Q1 C)],((101,.box 129 [.v Q0 a1.1,.v nC a1.2.1,.v Q7 a1.2.2])::iI 9000 (some (A 9000)) 9100 (some (A 9100)) 9200 (some (A 9200)) 9050 9051 9052 9053 b0 b1 b2 b3 b4 b5 b6 b7 b8 b9 b10 b11 b12 b13 b14 b15 b16 b17 b18 b19 b20 b21)⟩) (aC []) ?_;obtain⟨aq,ac,h⟩:=aB h;obtain⟨au,ad,h⟩:=aB h;refine dI 8 mixed (by exact(.k (aD Y) (.k (aK Y) (.k (aA 18 Y U72 Y Jk Y Y) (.k (aD Y) (.k (aA 1 Y tV Y xS Y Y) (.k (aI Y Y Y Qt xS) (.k (pK ac Y Y xE S3) (.k (bQ Y G3 S3) .nil))))))))) (by exact(J.t (eA [9000,9100,9200,9050,9051,9052,9053] (uW [(9000,9000),(9100,9100),(9200,9200),(9050,9050),(9051,9051),(9052,9052),(9053,9053),(400,115),(401,116),(402,117),(403,118)]) (cU Y) (fun A=>rX A ad) Tryz.call58 (fun A=>(.box Y (.box Y (.box Y (.arr (.mp (.arr (.arr .nil Y) Y) Y) Y) Y) Y) Y))) (jz [0,4]))) ?_;refine aG ?_;refine dZ ?_;cases h;exact eG B Y (aC [(403,118),(402,117),(401,116),(400,115)])
  intro D am h;refine aL [0,3,5,48,49,50,51] ?_;refine aF ?_;refine aT h Y (fun M h=>?_) (fun M h=>?_)
  ·refine aH ?_;refine aF ?_;refine bF ?_;obtain⟨av,aw,h⟩:=aB h;refine aJ (.a 3 ?_);refine .k (aM 113 Az Y (.cons (Z.arr 8 (Z.int .u8)) .nil) Y) (.f [0,3,5,6,7,48,49,50] ?_);obtain⟨ax,ae,h⟩:=aB h;refine fN (.a 3 ?_);refine .k (bE vA (.cons (Z.int .i64) (.cons (Z.arr 8 (Z.int .u8)) .nil)) (.cons Y (.dir Y) Y Y Y Y (.cons Y (.dir Y) Y Y Y Y .nil))) (.k (dM (e:=Q5) xD jE Dy Y Y Y Y (.cons (.agg Y (.same (.same .nil)) (.prm (.one _ _) (.one _ _)) Y) .nil)) (.t (bR 114 ae Y Y (.sl Y) xD Jj jE Y Y Y Y Y) (.f [0,3,5,48,49,50] ?_)));refine bK ?_;refine eB [0,3,5,48,49,50] ?_;cases h;exact cE (aC [(110,114)])
  cases h;exact cN (cW (aC []))
 refine aF ?_;obtain⟨af,u,h⟩:=aB h;refine Hm (σ':=⟨[(0,.ptr 9000 18),(3,.ptr 101 0),(71,.v Enc.bool af)],((101,.box 129 [.v Q0 a1.1,.v nC a1.2.1,.v Q7 a1.2.2])::iI 9000 (some (A 9000)) 9100 (some (A 9100)) 9200 (some (A 9200)) 9050 9051 9052 9053 b0 b1 b2 b3 b4 b5 b6 b7 b8 b9 b10 b11 b12 b13 b14 b15 b16 b17 b18 b19 b20 b21)⟩) ?_ ?_
 ·intro z;refine cd u (fun N u=>?_) (fun N u=>?_)
  ·refine cd u (fun O u=>?_) (fun O u=>?_)
   ·obtain⟨ay,az,u⟩:=aB u;refine cd u (fun P u=>?_) (fun P u=>?_)
    ·obtain⟨a0,a2,u⟩:=aB u;cases u;exact pU 34 mixed z
    cases u;exact pU 34 mixed z
   cases u;exact pU 34 mixed z
  cases u;exact pU 34 mixed z
 refine aT h Y (fun Q h=>?_) (fun Q h=>?_)
 ·obtain⟨a3,ah,h⟩:=aB h;refine aJ (.a 5 ?_);refine .k (pZ 119000 (kD ah) C23 (.cons (.lendP Y Y (.prm (.one _ _) (.one _ _))) .nil) Y (FlatS.tup (.ref (.v .nil))) (FlatN.arr FlatN.nil)) (.f [0,3,8,9] ?_);refine cR [0,3,8,9,115] ?_;refine aT h Y (fun T h=>?_) (fun T h=>?_)
  ·refine aL [0,4] ?_;refine aG ?_;refine dZ ?_;cases h;exact eG B Y (aC [(403,9053),(402,9052),(401,9051),(400,9050)])
  refine aH ?_;obtain⟨a4,ai,h⟩:=aB h;refine aJ (.k (aX Y Y (.prm (.one _ _) (.prm (.one _ _) (.one _ _))) tU kS) (.k (aO (Ff ai) Tryz.call141 (.cons (.dir Y) .nil)) (.f [0,3,8,10,11] ?_)));obtain⟨E,aj,h⟩:=aB h;refine aJ (.a 2 ?_);refine .k (pZ 121000 (Mc aj) Tryz.call142 (.cons (.dir Y) (.cons (.ref Y Y) (.cons (.nilS _) .nil))) Y (FlatS.tup (.ref (.ref (.v .nil)))) (FlatN.arr (FlatN.arr FlatN.nil))) (.f [0,3,9,11,12,13] ?_);refine aF ?_;refine aF ?_;obtain⟨F,u,h⟩:=aB h;refine dL (σ':=⟨[(0,.ptr 9000 18),(3,.ptr 101 0),(12,.ref 121000),(139,.v Enc.bool F)],((101,.box 129 [.v Q0 a1.1,.v nC a1.2.1,.v Q7 a1.2.2])::(121000,.arr 124 Q5 E.1)::iI 9000 (some (A 9000)) 9100 (some (A 9100)) 9200 (some (A 9200)) 9050 9051 9052 9053 b0 b1 b2 b3 b4 b5 b6 b7 b8 b9 b10 b11 b12 b13 b14 b15 b16 b17 b18 b19 b20 b21)⟩) ?_ ?_
  ·refine cd u (fun U u=>?_) (fun U u=>?_)
   ·cases u;exact jy
   refine cd u (fun V u=>?_) (fun V u=>?_)
   ·cases u;exact jy
   cases u;exact jy
  refine aT h Y (fun X h=>?_) (fun X h=>?_)
  ·refine aL [0,4] ?_;refine aG ?_;refine dZ ?_;cases h;exact eG B Y (aC [(403,9053),(402,9052),(401,9051),(400,9050)])
  refine aH ?_;refine aF ?_;refine vM (σ':=⟨[(0,.ptr 9000 18),(3,.ptr 101 0),(12,.v Q1 E.1),(139,.v Enc.bool F)],((101,.box 129 [.v Q0 a1.1,.v nC a1.2.1,.v Q7 a1.2.2])::iI 9000 (some (A 9000)) 9100 (some (A 9100)) 9200 (some (A 9200)) 9050 9051 9052 9053 b0 b1 b2 b3 b4 b5 b6 b7 b8 b9 b10 b11 b12 b13 b14 b15 b16 b17 b18 b19 b20 b21)⟩) (aC []) ?_;obtain⟨a5,ak,h⟩:=aB h;obtain⟨a6,al,h⟩:=aB h;refine dI 8 mixed (by exact(.k (aD Y) (.k (aK Y) (.k (aA 18 Y U72 Y Jk Y Y) (.k (aD Y) (.k (aA 1 Y tV Y xS Y Y) (.k (aI Y Y Y Qt xS) (.k (pK ak Y Y xE S3) (.k (bQ Y G3 S3) .nil))))))))) (by exact(J.t (eA [9000,9100,9200,9050,9051,9052,9053] (uW [(9000,9000),(9100,9100),(9200,9200),(9050,9050),(9051,9051),(9052,9052),(9053,9053),(400,122),(401,123),(402,124),(403,125)]) (cU Y) (fun A=>rX A al) Tryz.call58 (fun A=>(.box Y (.box Y (.box Y (.arr (.mp (.arr (.arr .nil Y) Y) Y) Y) Y) Y) Y))) (jz [0,4]))) ?_;refine aG ?_;refine dZ ?_;cases h;exact eG B Y (aC [(403,125),(402,124),(401,123),(400,122)])
 refine aH ?_;refine bK ?_;refine aL [0,4] ?_;cases h;exact aG (eG B Y (aC [(403,9053),(402,9052),(401,9051),(400,9050)]))
theorem wD(A:Nat->Nat){a1 b0 b1 b2 b3 b4 b5 b6 b7 b8 b9 b10 b11 b12 b13 b14 b15 b16 b17 b18 b19 b20 b21 r}(h:bW a1 b0 b1 b2 b3 b4 b5 b6 b7 b8 b9 b10 b11 b12 b13 b14 b15 b16 b17 b18 b19 b20 b21=some r):
 ConM Tryz.prog 104 [.ptr 9000 0,.v (Enc.sl (Enc.int .u8)) a1] (iI 9000 (some (A 9000)) 9100 (some (A 9100)) 9200 (some (A 9200)) 9050 9051 9052 9053 b0 b1 b2 b3 b4 b5 b6 b7 b8 b9 b10 b11 b12 b13 b14 b15 b16 b17 b18 b19 b20 b21) (.v Q8 r.1) (iI 9000 (some (A 9000)) 9100 (some (A 9100)) 9200 (some (A 9200)) 400 401 402 403 b0 b1 b2 b3 b4 b5 b6 b7 b8 b9 b10 b11 b12 r.2.1 b14 r.2.2.1 r.2.2.2.1 r.2.2.2.2.1 b18 b19 r.2.2.2.2.2.1 r.2.2.2.2.2.2):=by
 refine ConM.of Tryz.func104 Y Tryz.ntmps104 Y ?_;intro S w R B;unfold bW at h;refine aL [0,1] ?_;refine aL [0,1,5] ?_;obtain⟨C,aa,h⟩:=aB h;refine jD (.a 1 ?_);refine .k (aO (rB aa) aGr (.cons (.dir Y) .nil)) ?_;refine .a 3 ?_;refine .k (aM 102 Bj Y (.cons (Z.int .i64) (.cons (Z.sl Q0) (.cons (Z.sl aN) .nil))) Y) (.t (bI Y Y Y Y (.prm (.one _ _) (.prm (.one _ _) (.one _ _))) kS) (.f [0,1,5,6,7] ?_));refine aF ?_;obtain⟨x4,u,h⟩:=aB h;refine dL (σ':=⟨[(0,.ptr 9000 0),(1,.v (Enc.sl (Enc.int .u8)) a1),(5,.ptr 9000 18),(6,.ptr 102 0),(36,.v Enc.bool x4)],((102,.box 129 [.v Q0 C.1.1,.v nC C.1.2.1,.v Q7 C.1.2.2])::iI 9000 (some (A 9000)) 9100 (some (A 9100)) 9200 (some (A 9200)) 9050 9051 9052 9053 b0 b1 b2 b3 b4 b5 b6 b7 b8 b9 b10 b11 b12 b13 b14 b15 b16 b17 b18 b19 b20 b21)⟩) ?_ ?_
 ·refine cd u (fun N u=>?_) (fun N u=>?_)
  ·refine cd u (fun O u=>?_) (fun O u=>?_)
   ·cases u;refine ja 1 ?_;exact(J.k (gU Ls Y) jy)
   cases u;refine ja 1 ?_;exact(J.k (gU Ls Y) jy)
  cases u;refine ja 1 ?_;exact(J.k (gU Ls Y) jy)
 refine aT h Y (fun P h=>?_) (fun P h=>?_)
 ·refine aF ?_;refine aF ?_;obtain⟨z8,ao,h⟩:=aB h;refine aGq 9 [0,5,6,45] mixed ?_;obtain⟨ab,ac,h⟩:=gC h;refine uT (fun z:Int×(Int×Int)=>⟨[(0,.ptr 9000 0),(5,.ptr 9000 18),(6,.ptr 102 0)],((102,.box 129 [.v Q0 C.1.1,.v nC C.1.2.1,.v Q7 C.1.2.2])::iI 9000 (some (A 9000)) 9100 (some (A 9100)) 9200 (some (A 9200)) 9050 9051 9052 9053 b0 b1 b2 b3 b4 b5 b6 b7 b8 b9 b10 b11 b12 b13 b14 z.1 z.2 b17 b18 b19 b20 b21)⟩) (fun x=>ab x=some r) Y ?_ ?_ ?_
  ·intro z h;rw[ac] at h;obtain⟨E,ad,h⟩:=aB h;refine aJ (.a 5 ?_);refine .k (pZ 103000 (kD ad) C23 (.cons (.lendP Y Y (.prm (.one _ _) (.one _ _))) .nil) Y (FlatS.tup (.ref (.v .nil))) (FlatN.arr FlatN.nil)) (.f [0,5,6,8,9] ?_);refine aF ?_;refine aF ?_;obtain⟨L,u,h⟩:=aB h;refine Hm (σ':=⟨[(0,.ptr 9000 0),(5,.ptr 9000 18),(8,.ref 103000),(9,.v Q8 E.2),(89,.v Enc.bool L)],((103000,.arr 33 aN E.1)::iI 9000 (some (A 9000)) 9100 (some (A 9100)) 9200 (some (A 9200)) 9050 9051 9052 9053 b0 b1 b2 b3 b4 b5 b6 b7 b8 b9 b10 b11 b12 b13 b14 z.1 z.2 b17 b18 b19 b20 b21)⟩) ?_ ?_
   ·intro I;refine cd u (fun Q u=>?_) (fun Q u=>?_)
    ·cases u;exact pU 13 mixed I
    obtain⟨ap,aq,u⟩:=aB u;cases u;exact pU 13 mixed I
   refine aT h Y (fun T h=>?_) (fun T h=>?_)
   ·refine aL [0,4] ?_;cases h;exact aG (eG B Y (aC [(403,9053),(402,9052),(401,9051),(400,9050)]))
   refine aH ?_;refine aF ?_;refine vM (σ':=⟨[(0,.ptr 9000 0),(5,.ptr 9000 18),(8,.v Q7 E.1),(9,.v Q8 E.2),(89,.v Enc.bool L)],(iI 9000 (some (A 9000)) 9100 (some (A 9100)) 9200 (some (A 9200)) 9050 9051 9052 9053 b0 b1 b2 b3 b4 b5 b6 b7 b8 b9 b10 b11 b12 b13 b14 z.1 z.2 b17 b18 b19 b20 b21)⟩) (aC []) ?_;obtain⟨au,ae,h⟩:=aB h;obtain⟨av,af,h⟩:=aB h;obtain⟨aw,ah,h⟩:=aB h;refine dI 20 mixed (by exact(.k (aD Y) (.k (aD Y) (.k (aK Y) (.k (aA 22 Y U72 Y S3 Y Y) (.k (aI Y Y Y G3 S3) (.k (aD Y) (.k (aK Y) (.k (aA 18 Y U72 Y Jk Y Y) (.k (aA 21 Y Dx Y S3 Y Y) (.k (aI Y Y Y G3 S3) (.k (aD Y) (.k (aK Y) (.k (aA 18 Y U72 Y Jk Y Y) (.k (aA 20 Y Dx Y S3 Y Y) (.k (aI Y Y Y G3 S3) (.k (Yq (e:=Q0) xE S3 Z3 Y Y Y Y (.cons (.dir Y) (.cons (.dir Y) (.cons (.dir Y) .nil)))) (.k (aD Y) (.k (aO (Cs ae) Tryz.call121 (.cons (.dir Y) .nil)) (.k (Jv af (List.cons_ne_nil _ _) Y (.sl Y) xE I3 S3 Y Y Y) (.k (bE lE (.cons (Z.int .i64) (.cons (Z.sl Q0) (.cons (Z.sl aN) .nil))) (.cons Y (.dir Y) Y Y Y Y (.cons Y (.dir Y) Y Y Y Y .nil))) .nil))))))))))))))))))))) (by exact(J.t (sZ (H:=[9000,9100,9200,9050,9051,9052,9053]) (K:=[9000,9100,9200]) (uW [(9000,9000),(9100,9100),(9200,9200),(9050,9050),(9051,9051),(9052,9052),(9053,9053),(400,106),(401,107),(402,108),(403,109)]) (cU Y) (fun A=>tI A ah) Tryz.call60 (.cons (.dir Y) (.cons (.dir Y) (.cons (.agg Y (.same (.same (.same .nil))) (.prm (.one _ _) (.prm (.one _ _) (.one _ _))) Y) .nil))) (fun A=>(.box Y (.box Y (.box Y (.arr Y (.mp Y (.arr Y (.arr Y .nil)))))))) (fun A=>(.box Y (.box Y (.box Y (.arr (.mp (.arr (.arr .nil Y) Y) Y) Y) Y) Y) Y)) (fun _=>rfl) Y Y (fun _=>rfl) Y Y) (jz [0,4]))) ?_;cases h;exact aG (eG B Y (aC [(403,109),(402,108),(401,107),(400,106)]))
  ·intro F;replace h:=jP F h;obtain⟨ax,ay,h⟩:=aB h;refine aL [0,5,6] ?_;obtain⟨az,ai,h⟩:=aB h;refine dI 16 mixed (by exact(.k (aD Y) (.k (aA 1 Y tV Y xS Y Y) (.k (aI Y Y Y Qt xS) (.k (pK ai Y Y xE S3) (.k (bQ Y G3 S3) (.k (eK (.inl Y) (by decide) Y Y) (.k (aD Y) (.k (aK Y) (.k (aA 18 Y U72 Y Jk Y Y) (.k (aA 21 Y Dx Y S3 Y Y) (.k (aI Y Y Y G3 S3) (.k (cO Y Y Y) (.k (Ae (bE Jz (.cons (Z.int .i64) (.cons (Z.int .i64) .nil)) (.cons Y (.dir Y) Y Y Y Y .nil)) (.prm (.one _ _) (.one _ _)) Y) (.k (aK Y) (.k (aA 23 Y U72 Y S70 Y Y) (JP4.store (.none Y) Y Y Y Y Y Y Y S70 .nil))))))))))))))))) (by exact(J.kp [0,5,6] [])) ?_;exact cF h (aC [])
  ·intro F;replace h:=jQ F h;refine aH ?_;exact cF h (aC [])
 refine aH ?_;refine cR [0,1,5,116] ?_;refine aT h Y (fun U h=>?_) (fun U h=>?_)
 ·refine aL [0,4] ?_;cases h;exact aG (eG B Y (aC [(403,9053),(402,9052),(401,9051),(400,9050)]))
 refine aH ?_;obtain⟨M,aj,h⟩:=aB h;refine aJ (.a 5 ?_);refine .k (aO (If aj) Tryz.call122 (.cons (.dir Y) (.cons (.dir Y) .nil))) ?_;refine .a 6 ?_;refine .k (aM 111 Tryz.zeroValue70 Y (.cons (Z.int .i64) (.cons (Z.int .i64) .nil)) Y) (.k (aM 112 Bj Y (.cons (Z.int .i64) (.cons (Z.sl Q0) (.cons (Z.sl aN) .nil))) Y) (.t (bI Y Y Y Y (.prm (.one _ _) (.one _ _)) S70) (.t (bI Y Y Y Y (.prm (.one _ _) (.prm (.one _ _) (.one _ _))) kS) (.f [0,5,10,11,12,13,14] ?_))));refine cR [0,5,10,11,12,13,14,130] ?_;refine aT h Y (fun V h=>?_) (fun V h=>?_)
 ·refine aL [0,4] ?_;cases h;exact aG (eG B Y (aC [(403,9053),(402,9052),(401,9051),(400,9050)]))
 refine aH ?_;refine aJ (.a 1 ?_);refine .k (aX Y Y (.prm (.one _ _) (.one _ _)) G70 S70) (.f [0,5,11,12,13] ?_);refine cR [0,5,11,13,136] ?_;obtain⟨ak,al,h⟩:=gC h;refine uT (fun D:Int×Int×By=>⟨[(0,.ptr 9000 0),(13,.v (Enc.slN (Enc.int .u8)) M.2.2.2.1)],(iI 9000 (some (A 9000)) 9100 (some (A 9100)) 9200 (some (A 9200)) 117 118 119 120 b0 b1 b2 b3 b4 b5 b6 b7 b8 b9 b10 b11 b12 D.1 b14 b15 M.1 b17 b18 b19 D.2.1 D.2.2)⟩) (fun x=>ak x=some r) Y ?_ ?_ ?_
 ·intro D h;rw[al] at h;obtain⟨a0,am,h⟩:=aB h;refine aJ (.a 2 ?_);refine .t (eA [9000,9100,9200,117,118,119,120] (uW [(9000,9000),(9100,9100),(9200,9200),(9050,117),(9051,118),(9052,119),(9053,120),(400,125),(401,126),(402,127),(403,128)]) (cU Y) (fun A=>nO A am) Tryz.call64 (fun A=>(.box Y (.box Y (.box Y (.arr (.mp (.arr (.arr .nil Y) Y) Y) Y) Y) Y) Y))) (.f [0] ?_);refine aL [0,4] ?_;cases h;exact aG (eG B Y (aC [(403,128),(402,127),(401,126),(400,125)]))
 ·intro G;replace h:=jP G h;obtain⟨a2,an,h⟩:=aB h;refine aJ (.a 1 ?_);refine .k (aX Y Y (.prm (.one _ _) (.prm (.one _ _) (.one _ _))) tU kS) (.t (eA [9000,9100,9200,9050,9051,9052,9053] (uW [(9000,9000),(9100,9100),(9200,9200),(9050,9050),(9051,9051),(9052,9052),(9053,9053),(400,121),(401,122),(402,123),(403,124)]) (cU Y) (fun A=>xI A an) Tryz.call123 (fun A=>(.box Y (.box Y (.box Y (.arr (.mp (.arr (.arr .nil Y) Y) Y) Y) Y) Y) Y))) (.f [0,13,15] ?_));refine aL [0,13,15,141] ?_;refine aT h Y (fun X h=>?_) (fun X h=>?_)
  ·refine aL [0,4] ?_;refine aG ?_;refine Fw ?_;cases h;exact eG B Y (aC [(403,124),(402,123),(401,122),(400,121)])
  refine aH ?_;exact cF h (aC [(120,124),(119,123),(118,122),(117,121)])
 ·intro G;replace h:=jQ G h;refine aH ?_;exact cF h (aC [(120,9053),(119,9052),(118,9051),(117,9050)])
theorem yL{a0 a1 r}(h:iR a0 a1=some r):
 Con Tryz.prog 124 [.v nC a0,.v nC a1] (.v Enc.bool r) []:=by
 refine Con.of Tryz.func124 Y Tryz.ntmps124 Y ?_;intro S w u;unfold iR at h;refine aL [0,1] ?_;refine cR [0,1,10] ?_;refine aT h Y (fun C h=>?_) (fun C h=>?_)
 ·refine aL [4] ?_;cases h;exact aG (aY u dD Y (RV.tmp Y) .nil Y)
 refine aH ?_;refine cR [0,1,12,13] ?_;obtain⟨L,G,H,I⟩:=bX h;refine jH (σs:=fun z:Int=>⟨[(0,.v nC a0),(1,.v nC a1),(12,.v Q0 (a0.length:Int)),(13,.v Q0 z)],[]⟩) (fun A:Unit=>⟨[],[]⟩) G (aC []) ?_ ?_
 ·intro A B;have h:=H _ B;refine aL [4] ?_;cases h;exact aG (aY u dD Y (RV.tmp Y) .nil Y)
 intro z K h;refine aL [0,1,12,13,14] ?_;refine aF ?_;refine aT h Y (fun D h=>?_) (fun D h=>?_)
 ·refine aH ?_;refine aF ?_;refine bF ?_;refine aL [0,1,5,12,13] ?_;refine aF ?_;obtain⟨M,N,h⟩:=aB h;obtain⟨O,P,h⟩:=aB h;refine aGq 9 [0,1,12,13,24] mixed ?_;refine aT h Y (fun E h=>?_) (fun E h=>?_)
  ·refine aL [4] ?_;refine aG ?_;refine dZ ?_;cases h;refine gD fun F=>?_;obtain rfl:=I _ F;exact aY u dD Y (RV.tmp Y) .nil Y
  refine aH ?_;refine bK ?_;refine eB [0,1,12,13] ?_;cases h;exact cE (aC [])
 cases h;exact cN (cW (aC []))
theorem Md{a0 a1 r}(h:qZ a0 a1=some r):
 Con Tryz.prog 125 [.v Lo a0,.v (Enc.sl (Enc.int .u8)) a1] (.tup [.v Lo r.1,.v Q8 r.2]) []:=by
 refine Con.of Tryz.func125 Y Tryz.ntmps125 Y ?_;intro S w D;unfold qZ at h;refine aJ (.k (bU 101 Y (.prm (.one _ _) (.prm (.one _ _) (.one _ _))) Y) (.k (aM 102 Z65 Y (.cons (Z.int .i64) (.cons (Z.int .i64) (.cons (Z.sl Q4) .nil))) Y) (.f [1,2,4] ?_)));obtain⟨P,Q,h⟩:=aB h;refine jD (.k (aX Y Y (.prm (.one _ _) (.prm (.one _ _) (.one _ _))) Vn Hw) (.k (aO (wV Q) Tryz.call98 (.cons (.dir Y) .nil)) (.f [1,2,4,6] ?_)));refine aL [1,2,4,6,13] ?_;refine aT h Y (fun I h=>?_) (fun I h=>?_)
 ·refine aJ (.k (bE Dp (.cons (Z.int .i64) (.cons (Z.int .i64) (.cons (Z.sl Q4) .nil))) .nil) (.f [4,5] ?_));refine aG ?_;obtain rfl:=pT h;exact bN (σ':=⟨[(4,.ptr 90 0),(5,.v Q8 P)],[(90,.box 65 [.v Q0 (0:Int),.v Q0 (0:Int),.v (Enc.sl Q4) ([]:Nc)])]⟩) (aC [(90,102)]) (bD D dD Y (aS Y Y (.prm (.one _ _) (.prm (.one _ _) (.one _ _))) Vn Hw) (RV.tmp Y) .nil Y)
 refine aH ?_;obtain⟨C,R,h⟩:=aB h;refine aJ (.a 2 ?_);refine .k (eU 104000 (Cr R) Tryz.call100 (.cons (.dir Y) .nil) Y) (.f [1,2,4] ?_);obtain⟨A,T,h⟩:=aB h;refine aJ (.a 1 ?_);refine .k (aO (rB T) aGr (.cons (.dir Y) .nil)) ?_;refine .a 3 ?_;refine .k (aM 106 Bj Y (.cons (Z.int .i64) (.cons (Z.sl Q0) (.cons (Z.sl aN) .nil))) Y) (.t (bI Y Y Y Y (.prm (.one _ _) (.prm (.one _ _) (.one _ _))) kS) (.f [2,4,7,8] ?_));refine aF ?_;refine aF ?_;obtain⟨U,u,h⟩:=aB h;refine Hm (σ':=⟨[(2,.ptr 101 0),(4,.ptr 102 0),(7,.ptr 106 0),(52,.v Enc.bool U)],[(101,.box 65 [.v Q0 a0.1,.v Q0 a0.2.1,.ref 104000]),(102,.box 65 [.v Q0 (0:Int),.v Q0 (0:Int),.v (Enc.sl Q4) ([]:Nc)]),(106,.box 129 [.v Q0 A.1.1,.v nC A.1.2.1,.v Q7 A.1.2.2]),(104000,.arr 129 Q4 C)]⟩) ?_ ?_
 ·intro B;refine cd u (fun K u=>?_) (fun K u=>?_)
  ·cases u;exact pU 28 mixed B
  refine cd u (fun L u=>?_) (fun L u=>?_)
  ·cases u;exact pU 28 mixed B
  refine cd u (fun M u=>?_) (fun M u=>?_)
  ·cases u;exact pU 28 mixed B
  refine cd u (fun N u=>?_) (fun N u=>?_)
  ·cases u;exact pU 28 mixed B
  obtain⟨ac,ad,u⟩:=aB u;cases u;exact pU 28 mixed B
 refine aT h Y (fun O h=>?_) (fun O h=>?_)
 ·refine aJ (.k (gO Y Y Y Vn Hw) (.f [4,5] ?_));refine aG ?_;obtain rfl:=pT h;exact bN (σ':=⟨[(4,.ptr 90 0),(5,.v Q8 (none:Option Int))],[(90,.box 65 [.v Q0 a0.1,.v Q0 a0.2.1,.v (Enc.sl Q4) C])]⟩) (aC [(90,102)]) (bD D dD Y (aS Y Y (.prm (.one _ _) (.prm (.one _ _) (.one _ _))) Vn Hw) (RV.tmp Y) .nil Y)
 refine aH ?_;refine aF ?_;refine aF ?_;obtain⟨G,ae,h⟩:=aB h;refine aGq 8 [2,4,7,9] mixed ?_;refine aF ?_;obtain⟨H,u,h⟩:=aB h;refine dL (σ':=⟨[(2,.ptr 101 0),(4,.ptr 102 0),(7,.ptr 106 0),(9,.v Q0 (ar .sub .i64 G a0.2.1)),(70,.v Enc.bool H)],[(101,.box 65 [.v Q0 a0.1,.v Q0 a0.2.1,.ref 104000]),(102,.box 65 [.v Q0 (0:Int),.v Q0 (0:Int),.v (Enc.sl Q4) ([]:Nc)]),(106,.box 129 [.v Q0 A.1.1,.v nC A.1.2.1,.v Q7 A.1.2.2]),(104000,.arr 129 Q4 C)]⟩) ?_ ?_
 ·refine cd u (fun F u=>?_) (fun F u=>?_)
  ·cases u;refine ja 7 ?_;exact(J.g F (xP Y Y) jy)
  cases u;exact jy
 obtain⟨V,X,h⟩:=gC h;refine uT (fun z:Int×Nc=>⟨[(2,.ptr 101 0),(4,.ptr 102 0)],[(101,.box 65 [.v Q0 a0.1,.v Q0 z.1,.v (Enc.sl Q4) z.2]),(102,.box 65 [.v Q0 (0:Int),.v Q0 (0:Int),.v (Enc.sl Q4) ([]:Nc)])]⟩) (fun x=>V x=some r) Y ?_ ?_ ?_
 ·intro z h;rw[X] at h;refine aJ (.k (aX Y Y (.prm (.one _ _) (.prm (.one _ _) (.one _ _))) Vn Hw) (.t (bI Y Y Y Y (.prm (.one _ _) (.prm (.one _ _) (.one _ _))) Hw) (.f [4,5] ?_)));refine aG ?_;obtain rfl:=pT h;exact bN (σ':=⟨[(4,.ptr 90 0),(5,.v Q8 (none:Option Int))],[(90,.box 65 [.v Q0 ((a0.1,z.1,z.2).1),.v Q0 ((a0.1,z.1,z.2).2.1),.v (Enc.sl Q4) ((a0.1,z.1,z.2).2.2)])]⟩) (aC [(90,102)]) (bD D dD Y (aS Y Y (.prm (.one _ _) (.prm (.one _ _) (.one _ _))) Vn Hw) (RV.tmp Y) .nil Y)
 ·intro E;replace h:=jP E h;refine vM (σ':=⟨[(2,.ptr 101 0),(4,.ptr 102 0),(7,.ptr 106 0),(9,.v Q0 (ar .sub .i64 G a0.2.1)),(70,.v Enc.bool H)],[(101,.box 65 [.v Q0 a0.1,.v Q0 a0.2.1,.v (Enc.sl Q4) C]),(102,.box 65 [.v Q0 (0:Int),.v Q0 (0:Int),.v (Enc.sl Q4) ([]:Nc)]),(106,.box 129 [.v Q0 A.1.1,.v nC A.1.2.1,.v Q7 A.1.2.2])]⟩) (aC []) ?_;obtain⟨af,aa,h⟩:=aB h;obtain⟨ah,ab,h⟩:=aB h;refine dI 12 mixed (by exact(.k (aA 1 Y tV Y xS Y Y) (.k (aI Y Y Y Qt xS) (.k (pK aa Y Y xE S3) (.k (bQ Y G3 S3) (.k (aA 2 Y U65 Y S63 Y Y) (.k (aI Y Y Y G63 S63) (.k (aD Y) (.k (vU ab Y Y U63 kS) (.k (aA 1 Y U65 Y S3 Y Y) (JP4.store (.none Y) Y Y Y Y Y Y Y S3 (.k (aA 2 Y U65 Y S63 Y Y) (JP4.store (.none Y) Y Y Y Y Y Y Y S63 .nil))))))))))))) (by exact(J.kp [2,4] [])) ?_;exact cF h (aC [])
 ·intro E;replace h:=jQ E h;refine aH ?_;exact cF h (aC [])
theorem zG{a0 a1 r}(h:nJ a0 a1=some r):
 Con Tryz.prog 144 [.v nX a0,.pst Q0 a1] (.v Enc.bool r) []:=by
 refine Con.of Tryz.func144 Y Tryz.ntmps144 Y ?_;intro S w u;unfold nJ at h;refine aJ (.k (bU 101 Y (.prm (.one _ _) (.one _ _)) Y) (.f [1,2] ?_));refine aL [3] ?_;cases h;exact aG (aY u dD Y (RV.tmp Y) .nil Y)
theorem jG{a0 a1_0 r}(h:bO a0 a1_0=some r):
 Con Tryz.prog 152 [.v (Enc.sl nX) a0,.fnc 144 [.pst Q0 a1_0]] (.v Q0 r) []:=by
 refine Con.of Tryz.func152 Y Tryz.ntmps152 Y ?_;intro S w u;unfold bO at h;refine aL [0,1] ?_;refine cR [0,1,7,8] ?_;obtain⟨L,F,G,H⟩:=bX h;refine jH (σs:=fun z:Int=>⟨[(0,.v (Enc.sl nX) a0),(1,.fnc 144 [.pst Q0 a1_0]),(7,.v Q0 (a0.length:Int)),(8,.v Q0 z)],[]⟩) (fun A:Unit=>⟨[],[]⟩) F (aC []) ?_ ?_
 ·intro A B;have h:=G _ B;refine aL [4] ?_;cases h;exact aG (aY u dD Y (RV.tmp Y) .nil Y)
 intro z K h;refine aL [0,1,7,8,9] ?_;refine aF ?_;refine aT h Y (fun C h=>?_) (fun C h=>?_)
 ·refine aH ?_;refine aF ?_;refine bF ?_;refine aL [0,1,5,7,8] ?_;obtain⟨M,N,h⟩:=aB h;obtain⟨O,I,h⟩:=aB h;refine aJ (.a 5 ?_);refine .k (sN Y (zG I) Tryz.call144 (.cons (.dir Y) .nil)) (.f [0,1,5,7,8,16] ?_);refine aT h Y (fun D h=>?_) (fun D h=>?_)
  ·refine aL [4] ?_;refine aG ?_;refine dZ ?_;cases h;refine gD fun E=>?_;obtain rfl:=H _ E;exact aY u dD Y (RV.tmp Y) .nil Y
  refine aH ?_;refine bK ?_;refine eB [0,1,7,8] ?_;cases h;exact cE (aC [])
 cases h;exact cN (cW (aC []))
theorem iS(A:Nat->Nat){a0 a1_0 r}(h:bJ a0 a1_0=some r):
 ConM Tryz.prog 143 [.ref 9000,.fnc 144 [.pst Q0 a1_0]] [(9000,.arr 175 nX a0)] (.ref 0) [(0,.arr 175 nX r)]:=by
 refine ConM.of Tryz.func143 Y Tryz.ntmps143 Y ?_;intro S w R B;unfold bJ at h;refine aJ (.k (aR 101 175 nX) (.f [0,1] ?_));obtain⟨Q,K,h⟩:=aB h;refine aJ (.a 2 ?_);refine .k (qO (jG K) Tryz.call152 (.cons (.ref Y Y) (.cons (.dir Y) .nil)) FlatS.v) (.f [0,1,5] ?_);refine cR [0,1,5,12] ?_;refine aT h Y (fun G h=>?_) (fun G h=>?_)
 ·refine aL [4] ?_;cases h;exact aG (eG B Y (aC [(0,9000)]))
 refine aH ?_;refine cR [0,1,5,6] ?_;obtain⟨T,L,M,U⟩:=bX h;refine jH (σs:=fun u:Int×Int×Gk=>⟨[(0,.ref 9000),(1,.fnc 144 [.pst Q0 a1_0]),(5,.v Q0 u.1),(6,.v Q0 u.2.1)],[(9000,.arr 175 nX u.2.2)]⟩) (fun z:Int×Gk=>⟨[(0,.ref 9000),(5,.v Q0 z.1)],[(9000,.arr 175 nX z.2)]⟩) L (aC []) ?_ ?_
 ·intro z F;have h:=M _ F;obtain⟨V,C,h⟩:=aB h;refine aJ (.a 2 ?_);refine .k (Ju C Y Y Y U59 uE) (.t (Wc (zv:=((0:Int),([]:Q6))) C Y Y U59 Nj (Z.pr (Z.int .i64) (Z.sl Q5))) (.f [0,5] ?_));obtain⟨X,N,h⟩:=aB h;refine aJ (.a 2 ?_);refine .t (aGe 111 N Y Y Y U59 uE Y Y) (.f [4] ?_);cases h;exact aG (eG B Y (aC [(0,111)]))
 intro u P h;refine cR [0,1,5,6,19] ?_;refine aT h Y (fun H h=>?_) (fun H h=>?_)
 ·refine aH ?_;refine aF ?_;refine bF ?_;obtain⟨aa,D,h⟩:=aB h;refine aJ (.a 2 ?_);refine .k (iJ D Y Y Y U59 uE) (.k (jC (cX D).2.2 Y Y .here Lp uE) (.k (aM 109 Nj Y (.cons (Z.int .i64) (.cons (Z.sl Q5) .nil)) Y) (.t (bI Y Y Y Y (.prm (.one _ _) (.one _ _)) uE) (.f [0,1,5,6,7] ?_))));obtain⟨ab,O,h⟩:=aB h;refine aJ (.a 1 ?_);refine .k (aX Y Y (.prm (.one _ _) (.one _ _)) Lp uE) (.k (sN Y (zG O) Tryz.call144 (.cons (.dir Y) .nil)) (.f [0,1,5,6,7,29] ?_));refine aT h Y (fun I h=>?_) (fun I h=>?_)
  ·obtain⟨ac,E,h⟩:=aB h;refine aJ (.a 2 ?_);refine .k (aX Y Y (.prm (.one _ _) (.one _ _)) Lp uE) (.k (iJ E Y Y Y U59 uE) (.t (qB (cX E).2.2 Y Y Y uE) (.f [0,1,5,6] ?_)));refine eB [0,1,5,6] ?_;refine bK ?_;refine eB [0,1,5,6] ?_;cases h;exact cE (aC [])
  refine aH ?_;refine bK ?_;refine eB [0,1,5,6] ?_;cases h;exact cE (aC [])
 cases h;exact cN (cW (aC []))
theorem Me{a0 a1 a2 r}(h:oB a0 a1 a2=some r):
 Con Tryz.prog 126 [.v Ji a0,.v Q0 a1,.v Q0 a2] (.tup [.v Ji r.1,.v Q8 r.2]) []:=by
 refine Con.of Tryz.func126 Y Tryz.ntmps126 Y ?_;intro S w B;unfold oB at h;refine aJ (.k (bU 101 Y (.prm (.one _ _) (.prm (.one _ _) (.prm (.one _ _) (.one _ _)))) Y) (.k (bU 102 Y (.one _ _) Y) (.k (aM 103 Z61 Y (.cons (Z.int .i64) (.cons (Z.sl Q5) (.cons (Z.sl nX) (.cons Z.bool .nil)))) Y) (.f [1,3,5,6] ?_))));obtain⟨I,K,h⟩:=aB h;refine jD (.k (aX Y Y (.prm (.one _ _) (.prm (.one _ _) (.prm (.one _ _) (.one _ _)))) Dw xR) ?_);refine .a 1 ?_;refine .k (aO (sC K) C92 (.cons (.dir Y) (.cons (.dir Y) .nil))) (.f [3,5,6,8] ?_);refine aL [3,5,6,8,13] ?_;refine aT h Y (fun F h=>?_) (fun F h=>?_)
 ·refine aJ (.k (bE xT (.cons (Z.int .i64) (.cons (Z.sl Q5) (.cons (Z.sl nX) (.cons Z.bool .nil)))) .nil) (.f [6,7] ?_));refine aG ?_;obtain rfl:=pT h;exact bN (σ':=⟨[(6,.ptr 90 0),(7,.v Q8 I)],[(90,.box 61 [.v Q0 (0:Int),.v Q1 ([]:Q6),.v (Enc.sl nX) ([]:Gk),.v Enc.bool false])]⟩) (aC [(90,103)]) (bD B dD Y (aS Y Y (.prm (.one _ _) (.prm (.one _ _) (.prm (.one _ _) (.one _ _)))) Dw xR) (RV.tmp Y) .nil Y)
 refine aH ?_;refine aF ?_;refine aF ?_;obtain⟨L,z,h⟩:=aB h;refine dL (σ':=⟨[(3,.ptr 101 0),(5,.ptr 102 0),(6,.ptr 103 0),(23,.v Enc.bool L)],[(101,.box 61 [.v Q0 a0.1,.v Q1 a0.2.1,.v (Enc.sl nX) a0.2.2.1,.v Enc.bool a0.2.2.2]),(102,.box 3 [.v Q0 a2]),(103,.box 61 [.v Q0 (0:Int),.v Q1 ([]:Q6),.v (Enc.sl nX) ([]:Gk),.v Enc.bool false])]⟩) ?_ ?_
 ·refine cd z (fun G z=>?_) (fun G z=>?_)
  ·cases z;exact jy
  cases z;exact jy
 refine aT h Y (fun H h=>?_) (fun H h=>?_)
 ·refine aJ (.k (bE xT (.cons (Z.int .i64) (.cons (Z.sl Q5) (.cons (Z.sl nX) (.cons Z.bool .nil)))) .nil) (.f [6,7] ?_));refine aG ?_;obtain rfl:=pT h;exact bN (σ':=⟨[(6,.ptr 90 0),(7,.v Q8 (some (1:Int)))],[(90,.box 61 [.v Q0 (0:Int),.v Q1 ([]:Q6),.v (Enc.sl nX) ([]:Gk),.v Enc.bool false])]⟩) (aC [(90,103)]) (bD B dD Y (aS Y Y (.prm (.one _ _) (.prm (.one _ _) (.prm (.one _ _) (.one _ _)))) Dw xR) (RV.tmp Y) .nil Y)
 refine aH ?_;obtain⟨u,M,h⟩:=aB h;refine aJ (.k (aX Y Y (.prm (.one _ _) (.prm (.one _ _) (.prm (.one _ _) (.one _ _)))) Dw xR) (.k (eU 105000 (vK M) Tryz.call93 (.cons (.dir Y) .nil) Y) (.f [3,5,6] ?_)));obtain⟨E,N,h⟩:=aB h;refine aJ (.a 2 ?_);refine .k (sL (.cons (.dir Y) .nil)) (.sub (σ':=⟨[(3,.ptr 101 0),(5,.pst Q0 a2),(6,.ptr 103 0),(28,.ptr 101 2),(29,.ref 105001),(30,.fnc 144 [.pst Q0 a2])],[(101,.box 61 [.v Q0 u.1,.ref 105000,.ref 105001,.v Enc.bool u.2.2.2]),(103,.box 61 [.v Q0 (0:Int),.v Q1 ([]:Q6),.v (Enc.sl nX) ([]:Gk),.v Enc.bool false]),(105000,.arr 124 Q5 u.2.1),(105001,.arr 175 nX u.2.2.1)]⟩) (Sw.Sub.mk id (.cons Y (.of_eq Y) (.cons Y (.frzP Y Y (.cons (.of_eq Y) .nil) (.one _ _)) (.cons Y (.of_eq Y) (.cons Y (.of_eq Y) (.cons Y (.of_eq Y) (.cons Y (.fnc (.cons (.frzP Y Y (.cons (.of_eq Y) .nil) (.one _ _)) .nil)) .nil)))))) (.box Y (.cons (.of_eq Y) (.cons (.of_eq Y) (.cons (.of_eq Y) (.cons (.of_eq Y) .nil)))) (.box Y (.cons (.of_eq Y) (.cons (.of_eq Y) (.cons (.of_eq Y) (.cons (.of_eq Y) .nil)))) (.arr Y (.arr Y .nil)))) Y) (.t (eA [105001] (Av [(9000,105001),(0,106)]) (dY _) (fun A=>iS A N) Tryz.call143 (fun A=>(.arr .nil Y))) (.f [3,5,6] ?_)));refine cR [3,6,36] ?_;obtain⟨O,P,h⟩:=gC h;refine uT (fun C:Bool=>⟨[(3,.ptr 101 0),(6,.ptr 103 0)],[(101,.box 61 [.v Q0 u.1,.ref 105000,.ref 106,.v Enc.bool C]),(103,.box 61 [.v Q0 (0:Int),.v Q1 ([]:Q6),.v (Enc.sl nX) ([]:Gk),.v Enc.bool false]),(105000,.arr 124 Q5 u.2.1),(106,.arr 175 nX E)]⟩) (fun x=>O x=some r) Y ?_ ?_ ?_
 ·intro C h;rw[P] at h;refine aJ (.k (gO Y Y Y Dw xR) (.f [6,7] ?_));refine aG ?_;obtain rfl:=pT h;exact bN (σ':=⟨[(6,.ptr 90 0),(7,.v Q8 (none:Option Int))],[(90,.box 61 [.v Q0 u.1,.v Q1 u.2.1,.v (Enc.sl nX) E,.v Enc.bool C])]⟩) (aC [(90,103)]) (bD B dD Y (aS Y Y (.prm (.one _ _) (.prm (.one _ _) (.prm (.one _ _) (.one _ _)))) Dw xR) (RV.tmp Y) .nil Y)
 ·intro D;replace h:=jP D h;refine eB [3,6] ?_;exact cF h (aC [])
 ·intro D;replace h:=jQ D h;refine aH ?_;exact cF h (aC [])
theorem wX(A:Nat->Nat){a1 b0 b1 b2 b3 b4 b5 b6 b7 b8 b9 b10 b11 b12 b13 b14 b15 b16 b17 b18 b19 b20 b21 r}(h:cC a1 b0 b1 b2 b3 b4 b5 b6 b7 b8 b9 b10 b11 b12 b13 b14 b15 b16 b17 b18 b19 b20 b21=some r):
 ConM Tryz.prog 105 [.ptr 9000 0,.v (Enc.sl (Enc.int .u8)) a1] (iI 9000 (some (A 9000)) 9100 (some (A 9100)) 9200 (some (A 9200)) 9050 9051 9052 9053 b0 b1 b2 b3 b4 b5 b6 b7 b8 b9 b10 b11 b12 b13 b14 b15 b16 b17 b18 b19 b20 b21) (.v Q8 r.1) (iI 9000 (some (A 9000)) 9100 (some (A 9100)) 9200 (some (A 9200)) 400 401 402 403 b0 b1 b2 b3 b4 r.2.1 b6 r.2.2.1 r.2.2.2.1 r.2.2.2.2.1 r.2.2.2.2.2.1 r.2.2.2.2.2.2 b12 b13 b14 b15 b16 b17 b18 b19 b20 b21):=by
 refine ConM.of Tryz.func105 Y Tryz.ntmps105 Y ?_;intro S w R I;unfold cC at h;refine aL [0,1] ?_;refine aL [0,1,5] ?_;obtain⟨E,ad,h⟩:=aB h;refine jD (.a 1 ?_);refine .k (aO (rB ad) aGr (.cons (.dir Y) .nil)) ?_;refine .a 3 ?_;refine .k (aM 102 Bj Y (.cons (Z.int .i64) (.cons (Z.sl Q0) (.cons (Z.sl aN) .nil))) Y) (.t (bI Y Y Y Y (.prm (.one _ _) (.prm (.one _ _) (.one _ _))) kS) (.f [0,1,5,6,7] ?_));refine aF ?_;obtain⟨x6,u,h⟩:=aB h;refine Hm (σ':=⟨[(0,.ptr 9000 0),(1,.v (Enc.sl (Enc.int .u8)) a1),(5,.ptr 9000 1),(6,.ptr 102 0),(49,.v Enc.bool x6)],((102,.box 129 [.v Q0 E.1.1,.v nC E.1.2.1,.v Q7 E.1.2.2])::iI 9000 (some (A 9000)) 9100 (some (A 9100)) 9200 (some (A 9200)) 9050 9051 9052 9053 b0 b1 b2 b3 b4 b5 b6 b7 b8 b9 b10 b11 b12 b13 b14 b15 b16 b17 b18 b19 b20 b21)⟩) ?_ ?_
 ·intro G;refine cd u (fun B u=>?_) (fun B u=>?_)
  ·refine cd u (fun C u=>?_) (fun C u=>?_)
   ·refine cd u (fun z u=>?_) (fun z u=>?_)
    ·obtain⟨a3,ae,u⟩:=aB u;cases u;exact dI 25 mixed (by exact(.k (aD Y) (.k (gU Ls Y) (.k (aD Y) (.g B (aA 0 Y tV Y S3 Y Y) (.g B (aI Y Y Y G3 S3) (.g B (jO Y Y Y) (.k (Eg B Y Y) (.k (aD Y) (.g C (aA 1 Y tV Y xS Y Y) (.g C (aI Y Y Y Qt xS) (.g C (uA Y xE) (.g C (jO Y Y Y) (.k (Eg C Y Y) (.k (aD Y) (.g z (aA 1 Y tV Y xS Y Y) (.g z (aI Y Y Y Qt xS) (.g z (pK ae Y Y xE S3) (.g z (bQ Y G3 S3) (.g z (aD Y) (.g z (aK Y) (.g z (aA 1 Y uS Y Jk Y Y) (.g z (aA 4 Y Dx Y S3 Y Y) (.g z (aI Y Y Y G3 S3) (.g z (jO Y Y Y) (.k (Eg z Y Y) .nil)))))))))))))))))))))))))) (by exact(J.fin (aC []))) G
    cases u;exact dI 25 mixed (by exact(.k (aD Y) (.k (gU Ls Y) (.k (aD Y) (.g B (aA 0 Y tV Y S3 Y Y) (.g B (aI Y Y Y G3 S3) (.g B (jO Y Y Y) (.k (Eg B Y Y) (.k (aD Y) (.g C (aA 1 Y tV Y xS Y Y) (.g C (aI Y Y Y Qt xS) (.g C (uA Y xE) (.g C (jO Y Y Y) (.k (Eg C Y Y) (.k (aD Y) (.w z (.w z (.w z (.w z (.w z (.w z (.w z (.w z (.w z (.w z (.k (sK z Y Y) .nil)))))))))))))))))))))))))) (by exact(J.fin (aC []))) G
   cases u;exact dI 25 mixed (by exact(.k (aD Y) (.k (gU Ls Y) (.k (aD Y) (.g B (aA 0 Y tV Y S3 Y Y) (.g B (aI Y Y Y G3 S3) (.g B (jO Y Y Y) (.k (Eg B Y Y) (.k (aD Y) (.w C (.w C (.w C (.w C (.k (sK C Y Y) (.k (aD Y) (.w Y (.w Y (.w Y (.w Y (.w Y (.w Y (.w Y (.w Y (.w Y (.w Y (.k (sK Y Y Y) .nil)))))))))))))))))))))))))) (by exact(J.fin (aC []))) G
  cases u;exact dI 25 mixed (by exact(.k (aD Y) (.k (gU Ls Y) (.k (aD Y) (.w B (.w B (.w B (.k (sK B Y Y) (.k (aD Y) (.w Y (.w Y (.w Y (.w Y (.k (sK Y Y Y) (.k (aD Y) (.w Y (.w Y (.w Y (.w Y (.w Y (.w Y (.w Y (.w Y (.w Y (.w Y (.k (sK Y Y Y) .nil)))))))))))))))))))))))))) (by exact(J.fin (aC []))) G
 refine aT h Y (fun X h=>?_) (fun X h=>?_)
 ·refine aF ?_;obtain⟨K,af,h⟩:=aB h;obtain⟨L,ah,h⟩:=aB h;refine dI 11 mixed (by exact(.k (aA 1 Y tV Y xS Y Y) (.k (aI Y Y Y Qt xS) (.k (pK af Y Y xE S3) (.k (bQ Y G3 S3) (.k (eK (.inl Y) (by decide) Y Y) (.k (aA 1 Y tV Y xS Y Y) (.k (aI Y Y Y Qt xS) (.k (pK ah Y Y xE S3) (.k (bQ Y G3 S3) (.k (cO Y Y Y) (.k (bB Y) .nil)))))))))))) (by exact(J.kp [0,5,6,8] [])) ?_;refine cR [0,5,6,8,65] ?_;obtain⟨ai,aj,h⟩:=gC h;refine uT (fun H:Int×(Int×Int×Nc)×Int×Int×iY=>⟨[(0,.ptr 9000 0)],(iI 9000 (some (A 9000)) 9100 (some (A 9100)) 9200 (some (A 9200)) 9050 9051 108 9053 b0 b1 b2 b3 b4 b5 b6 H.1 H.2.1 H.2.2.1 H.2.2.2.1 H.2.2.2.2 b12 b13 b14 b15 b16 b17 b18 b19 b20 b21)⟩) (fun x=>ai x=some r) Y ?_ ?_ ?_
  ·intro H h;rw[aj] at h;refine aL [0,4] ?_;cases h;exact aG (eG I Y (aC [(403,9053),(402,108),(401,9051),(400,9050)]))
  ·intro N;replace h:=jP N h;refine aJ (.a 5 ?_);refine .k (Ae (bE Dp (.cons (Z.int .i64) (.cons (Z.int .i64) (.cons (Z.sl Q4) .nil))) (.cons Y (.dir Y) Y Y Y Y .nil)) (.prm (.one _ _) (.prm (.one _ _) (.one _ _))) Y) ?_;refine .a 8 ?_;refine .t (tA 109 3 Q0 Y Y Y Y xS Y) (.f [0,5,6] ?_);obtain⟨ak,a4,h⟩:=aB h;refine aL [0,5,6] ?_;refine aF ?_;refine aF ?_;refine dI 14 mixed (by exact(.k (aD Y) (.k (aK Y) (.k (aA 10 Y uS Y Wm Y Y) (.k (aI Y Y Y G62 Wm) (.k (aD Y) (.k (aK Y) (.k (aA 15 Y uS Y S3 Y Y) (.k (aI Y Y Y G3 S3) (.k (Lg Y Y Y U62 U3 (KeyE.int U3) Y Z38 (fun S w=>⟨_,(Z.sl aN) S w,Y⟩)) (.k (aD Y) (.k (bH Y Y) (.k (bH Y Y) (.k (bB Y) (.k (bB Y) .nil))))))))))))))) (by exact(J.kp [0,5,6,9,10] [])) ?_;refine aF ?_;obtain⟨al,u,h⟩:=aB h;refine Hm (σ':=⟨[(0,.ptr 9000 0),(5,.ptr 9000 1),(6,.ptr 102 0),(107,.v Enc.bool al)],((102,.box 129 [.v Q0 E.1.1,.v nC E.1.2.1,.v Q7 E.1.2.2])::iI 9000 (some (A 9000)) 9100 (some (A 9100)) 9200 (some (A 9200)) 9050 9051 109 9053 b0 b1 b2 b3 b4 b5 b6 (ar .or .i64 (sh .shl .i64 K (12:Int)) L) ((ar .or .i64 (sh .shl .i64 K (12:Int)) L),(0:Int),([]:Nc)) ak b10 ([]:iY) b12 b13 b14 b15 b16 b17 b18 b19 b20 b21)⟩) ?_ ?_
   ·intro G;refine cd u (fun D u=>?_) (fun D u=>?_)
    ·cases u;exact pU 11 mixed G
    obtain⟨a5,am,u⟩:=aB u;obtain⟨a6,an,u⟩:=aB u;obtain⟨a7,ao,u⟩:=aB u;cases u;exact dI 11 mixed (by exact(.k (aD Y) (.k (Eo Y) (.k (aD Y) (.g D (aD Y) (.g D (aO (Cs am) Tryz.call121 (.cons (.dir Y) .nil)) (.g D (aA 1 Y tV Y xS Y Y) (.g D (aI Y Y Y Qt xS) (.g D (vU an Y Y xE S3) (.g D (aO (yL ao) Tryz.call124 (.cons (.dir Y) (.cons (.dir Y) .nil))) (.g D (Eo Y) (.k (sK D Y Y) .nil)))))))))))) (by exact(J.fin (aC []))) G
   obtain⟨ap,aq,h⟩:=gC h;refine uT (fun Q:Int=>⟨[(0,.ptr 9000 0),(5,.ptr 9000 1),(6,.ptr 102 0)],((102,.box 129 [.v Q0 E.1.1,.v nC E.1.2.1,.v Q7 E.1.2.2])::iI 9000 (some (A 9000)) 9100 (some (A 9100)) 9200 (some (A 9200)) 9050 9051 109 9053 b0 b1 b2 b3 b4 b5 b6 (ar .or .i64 (sh .shl .i64 K (12:Int)) L) ((ar .or .i64 (sh .shl .i64 K (12:Int)) L),(0:Int),([]:Nc)) Q b10 ([]:iY) b12 b13 b14 b15 b16 b17 b18 b19 b20 b21)⟩) (fun x=>ap x=some r) Y ?_ ?_ ?_
   ·intro Q h;rw[aq] at h;obtain⟨a8,au,h⟩:=aB h;refine dI 13 mixed (by exact(.k (aD Y) (.k (aD Y) (.k (aK Y) (.k (aA 16 Y uS Y S3 Y Y) (.k (aI Y Y Y G3 S3) (.k (aA 1 Y tV Y xS Y Y) (.k (aI Y Y Y Qt xS) (.k (pK au Y Y xE S3) (.k (bQ Y G3 S3) (.k (Aa Y Y) (.k (aK Y) (.k (aA 16 Y uS Y S3 Y Y) (JP4.store (.none Y) Y Y Y Y Y Y Y S3 .nil)))))))))))))) (by exact(J.kp [0] [])) ?_;exact cF h (aC [(108,109)])
   ·intro O;replace h:=jP O h;refine eB [0,5,6] ?_;exact cF h (aC [])
   ·intro O;replace h:=jQ O h;refine aH ?_;exact cF h (aC [])
  ·intro N;replace h:=jQ N h;refine aH ?_;exact cF h (aC [(108,9052)])
 refine aH ?_;refine cR [0,1,5,127] ?_;refine aT h Y (fun aa h=>?_) (fun aa h=>?_)
 ·refine aL [0,4] ?_;cases h;exact aG (eG I Y (aC [(403,9053),(402,9052),(401,9051),(400,9050)]))
 refine aH ?_;obtain⟨F,av,h⟩:=aB h;refine aJ (.a 5 ?_);refine .k (aO (Md av) Tryz.call125 (.cons (.dir Y) (.cons (.dir Y) .nil))) ?_;refine .a 3 ?_;refine .k (aM 115 Z65 Y (.cons (Z.int .i64) (.cons (Z.int .i64) (.cons (Z.sl Q4) .nil))) Y) (.t (bI Y Y Y Y (.prm (.one _ _) (.prm (.one _ _) (.one _ _))) Hw) (.f [0,5,11,12] ?_));refine cR [0,5,11,12,138] ?_;refine aT h Y (fun ab h=>?_) (fun ab h=>?_)
 ·refine aL [0,4] ?_;cases h;exact aG (eG I Y (aC [(403,9053),(402,9052),(401,9051),(400,9050)]))
 refine aH ?_;refine aF ?_;refine dI 11 mixed (by exact(.k (aD Y) (.k (aK Y) (.k (aA 12 Y uS Y Hw Y Y) (.k (aA 14 Y U65 Y S63 Y Y) (.k (xQ (off:=12) (o1:=2) Y Y Y Y (.snd (.snd .here)) G63 S63) (.k (uA Y U63) (.k (aA 2 Y U65 Y S63 Y Y) (.k (aI Y Y Y G63 S63) (.k (uA Y U63) (.k (cO Y Y Y) (.k (bB Y) .nil)))))))))))) (by exact(J.kp [0,5,11,13] [])) ?_;obtain⟨aw,M,h⟩:=aB h;refine jD (.a 5 ?_);refine .k (aGc M Y Y Y xE S3) (.k (aA3 M Y Y xE) (.f [0,5,11,13,155,156,157] ?_));obtain⟨a9,ax,ay,ba⟩:=bX h;refine jH (σs:=fun P:Int×Int=>⟨[(0,.ptr 9000 0),(5,.ptr 9000 1),(11,.ptr 115 0),(13,.v Q0 (ar .sub .i64 (b8.2.2.length:Int) (F.1.2.2.length:Int))),(155,.sub 9052 (Int.toNat (0:Int)*1) (Int.toNat (ar .sub .i64 (b8.2.2.length:Int) (F.1.2.2.length:Int)) - Int.toNat (0:Int))),(156,.v Q0 (aw.length:Int)),(157,.v Q0 P.1)],((115,.box 65 [.v Q0 F.1.1,.v Q0 F.1.2.1,.v (Enc.sl Q4) F.1.2.2])::iI 9000 (some (A 9000)) 9100 (some (A 9100)) 9200 (some (A 9200)) 9050 9051 9052 9053 b0 b1 b2 b3 b4 b5 b6 b7 b8 b9 P.2 b11 b12 b13 b14 b15 b16 b17 b18 b19 b20 b21)⟩) (fun T:Int=>⟨[(0,.ptr 9000 0),(5,.ptr 9000 1),(11,.ptr 115 0),(13,.v Q0 (ar .sub .i64 (b8.2.2.length:Int) (F.1.2.2.length:Int)))],((115,.box 65 [.v Q0 F.1.1,.v Q0 F.1.2.1,.v (Enc.sl Q4) F.1.2.2])::iI 9000 (some (A 9000)) 9100 (some (A 9100)) 9200 (some (A 9200)) 9050 9051 9052 9053 b0 b1 b2 b3 b4 b5 b6 b7 b8 b9 T b11 b12 b13 b14 b15 b16 b17 b18 b19 b20 b21)⟩) ax (aC []) ?_ ?_
 ·intro T V;have h:=ay _ V;refine aF ?_;obtain⟨bb,az,h⟩:=aB h;refine dI 15 mixed (by exact(.k (aD Y) (.pu (.none Y) Y (fun _ _=>aD Y) (.k (aD Y) (.k (aK Y) (.k (aA 17 Y uS Y xS Y Y) (.k (aI Y Y Y Qt xS) (.k (aD Y) (JP4.slLo (.none Y) 117 az Y Y Y xE S3 Y Y (.k (aX Y Y (.prm (.one _ _) (.prm (.one _ _) (.one _ _))) Vn Hw) (.k (aK Y) (.k (aA 17 Y uS Y xS Y Y) (JP4.store (.none Y) Y Y Y Y Y Y Y xS (.k (aK Y) (.k (aA 12 Y uS Y Hw Y Y) (JP4.store (.none Y) Y Y Y Y Y Y Y Hw .nil)))))))))))))))) (by exact(J.kp [0,5] [])) ?_;refine aF ?_;obtain⟨bc,a0,h⟩:=aB h;refine dI 26 mixed (by exact(.k (aD Y) (.k (aK Y) (.k (aA 6 Y uS Y xR Y Y) (.k (aI Y Y Y Dw xR) (.k (aD Y) (.k (aK Y) (.k (aA 1 Y uS Y Jk Y Y) (.k (aA 2 Y Dx Y S3 Y Y) (.k (aI Y Y Y G3 S3) (.k (aD Y) (.k (aK Y) (.k (aA 16 Y uS Y S3 Y Y) (.k (aI Y Y Y G3 S3) (.k (aD Y) (.k (aK Y) (.k (aA 6 Y uS Y xR Y Y) (.k (aA 6 Y U61 Y S3 Y Y) (.k (xQ (off:=6) (o1:=0) Y Y Y Y (.fst .here) G3 S3) (.k (xP Y Y) (.k (aO (Me a0) Tryz.call126 (.cons (.dir Y) (.cons (.dir Y) (.cons (.dir Y) .nil)))) (.k (aD Y) (.k (bH Y Y) (.k (bH Y Y) (.k (aM 119 Z61 Y (.cons (Z.int .i64) (.cons (Z.sl Q5) (.cons (Z.sl nX) (.cons Z.bool .nil)))) Y) (JP4.storeAll (.none Y) Y Y Y Y (.prm (.one _ _) (.prm (.one _ _) (.prm (.one _ _) (.one _ _)))) xR (.k (bB Y) .nil))))))))))))))))))))))))))) (by exact(J.kp [0,5,12,16] [])) ?_;refine aJ (.a 1 ?_);refine .k (aX Y Y (.prm (.one _ _) (.prm (.one _ _) (.prm (.one _ _) (.one _ _)))) Dw xR) (.f [0,12] ?_);refine aL [0,4] ?_;cases h;exact aG (eG I Y (aC [(403,9053),(402,117),(401,9051),(400,9050)]))
 intro P a2 h;refine aL [0,5,11,13,155,156,157,158] ?_;refine aF ?_;refine aT h Y (fun ac h=>?_) (fun ac h=>?_)
 ·refine aH ?_;refine aF ?_;refine bF ?_;obtain⟨bd,U,h⟩:=aB h;refine aJ (.k (aA4 M U Y Y Y xE S3) (.k (jC (e:=Q0) (aGn M U) Y Y .here G3 S3) (.f [0,5,11,13,15,155,156,157] ?_)));refine fN (.a 6 ?_);refine .k (Aa Y Y) (.f [0,5,11,13,155,156,157] ?_);refine bK ?_;refine eB [0,5,11,13,155,156,157] ?_;cases h;exact cE (aC [])
 cases h;exact cN (cW (aC []))
theorem zH(A:Nat->Nat){a1 b0 b1 b2 b3 b4 b5 b6 b7 b8 b9 b10 b11 b12 b13 b14 b15 b16 b17 b18 b19 b20 b21 r}(h:fF a1 b0 b1 b2 b3 b4 b5 b6 b7 b8 b9 b10 b11 b12 b13 b14 b15 b16 b17 b18 b19 b20 b21=some r):
 ConM Tryz.prog 68 [.ptr 9000 0,.v (Enc.pr Enc.bool (Enc.pr Enc.bool (Enc.sl (Enc.int .u8)))) a1] (iI 9000 (some (A 9000)) 9100 (some (A 9100)) 9200 (some (A 9200)) 9050 9051 9052 9053 b0 b1 b2 b3 b4 b5 b6 b7 b8 b9 b10 b11 b12 b13 b14 b15 b16 b17 b18 b19 b20 b21) (.v Q8 r.1) (iI 9000 (some (A 9000)) 9100 (some (A 9100)) 9200 (some (A 9200)) 400 401 402 403 b0 b1 b2 b3 b4 r.2.1 b6 r.2.2.1 r.2.2.2.1 r.2.2.2.2.1 r.2.2.2.2.2.1 r.2.2.2.2.2.2.1 b12 r.2.2.2.2.2.2.2.1 b14 r.2.2.2.2.2.2.2.2.1 r.2.2.2.2.2.2.2.2.2.1 r.2.2.2.2.2.2.2.2.2.2.1 b18 b19 r.2.2.2.2.2.2.2.2.2.2.2.1 r.2.2.2.2.2.2.2.2.2.2.2.2):=by
 refine ConM.of Tryz.func68 Y Tryz.ntmps68 Y ?_;intro S w R u;unfold fF at h;refine aJ (.k (bU 101 Y (.prm (.one _ _) (.prm (.one _ _) (.one _ _))) Y) (.f [0,3] ?_));refine cR [0,3,6] ?_;refine aT h Y (fun z h=>?_) (fun z h=>?_)
 ·obtain⟨D,B,h⟩:=aB h;refine aJ (.a 3 ?_);refine .t (eA [9000,9100,9200,9050,9051,9052,9053] (uW [(9000,9000),(9100,9100),(9200,9200),(9050,9050),(9051,9051),(9052,9052),(9053,9053),(400,102),(401,103),(402,104),(403,105)]) (cU Y) (fun A=>wD A B) Tryz.call104 (fun A=>(.box Y (.box Y (.box Y (.arr (.mp (.arr (.arr .nil Y) Y) Y) Y) Y) Y) Y))) (.f [0,4] ?_);cases h;exact aG (eG u Y (aC [(403,105),(402,104),(401,103),(400,102)]))
 refine aH ?_;obtain⟨E,C,h⟩:=aB h;refine aJ (.a 3 ?_);refine .t (eA [9000,9100,9200,9050,9051,9052,9053] (uW [(9000,9000),(9100,9100),(9200,9200),(9050,9050),(9051,9051),(9052,9052),(9053,9053),(400,106),(401,107),(402,108),(403,109)]) (cU Y) (fun A=>wX A C) Tryz.call105 (fun A=>(.box Y (.box Y (.box Y (.arr (.mp (.arr (.arr .nil Y) Y) Y) Y) Y) Y) Y))) (.f [0,4] ?_);cases h;exact aG (eG u Y (aC [(403,109),(402,108),(401,107),(400,106)]))
theorem wY(A:Nat->Nat){a1 b0 b1 b2 b3 b4 b5 b6 b7 b8 b9 b10 b11 b12 b13 b14 b15 b16 b17 b18 b19 b20 b21 r}(h:eH a1 b0 b1 b2 b3 b4 b5 b6 b7 b8 b9 b10 b11 b12 b13 b14 b15 b16 b17 b18 b19 b20 b21=some r):
 ConM Tryz.prog 35 [.ptr 9000 0,.v Q0 a1] (iI 9000 (some (A 9000)) 9100 (some (A 9100)) 9200 (some (A 9200)) 9050 9051 9052 9053 b0 b1 b2 b3 b4 b5 b6 b7 b8 b9 b10 b11 b12 b13 b14 b15 b16 b17 b18 b19 b20 b21) (.v Q8 r.1) (iI 9000 (some (A 9000)) 9100 (some (A 9100)) 9200 (some (A 9200)) 400 401 402 403 b0 b1 b2 b3 b4 r.2.1 b6 r.2.2.1 r.2.2.2.1 r.2.2.2.2.1 r.2.2.2.2.2.1 r.2.2.2.2.2.2.1 b12 r.2.2.2.2.2.2.2.1 b14 r.2.2.2.2.2.2.2.2.1 r.2.2.2.2.2.2.2.2.2.1 r.2.2.2.2.2.2.2.2.2.2.1 b18 b19 r.2.2.2.2.2.2.2.2.2.2.2.1 r.2.2.2.2.2.2.2.2.2.2.2.2):=by
 refine ConM.of Tryz.func35 Y Tryz.ntmps35 Y ?_;intro S w R z;unfold eH at h;refine aL [0,1] ?_;obtain⟨D,E,h⟩:=aB h;refine aJ (.a 2 ?_);refine .t (eA [9000,9100,9200,9050,9051,9052,9053] (uW [(9000,9000),(9100,9100),(9200,9200),(9050,9050),(9051,9051),(9052,9052),(9053,9053),(400,101),(401,102),(402,103),(403,104)]) (cU Y) (fun A=>jM A E) C65 (fun A=>(.box Y (.box Y (.box Y (.arr (.mp (.arr (.arr .nil Y) Y) Y) Y) Y) Y) Y))) (.f [0,5,6] ?_);refine cR [0,5,15] ?_;refine aT h Y (fun C h=>?_) (fun C h=>?_)
 ·refine aL [0,4] ?_;cases h;exact aG (eG z Y (aC [(403,104),(402,103),(401,102),(400,101)]))
 refine aH ?_;obtain⟨u,B,h⟩:=aB h;refine aJ (.a 5 ?_);refine .k (iJ B Y Y Y Hy uZ) (.k (jC (cX B).2.2 Y Y .here Tryz.isAgg141 uZ) (.k (aM 105 aBc Y (.cons Z.bool (.cons Z.bool (.cons (Z.sl (Enc.int .u8)) .nil))) Y) (.t (bI Y Y Y Y (.prm (.one _ _) (.prm (.one _ _) (.one _ _))) uZ) (.f [0,5,7] ?_))));obtain⟨I,F,h⟩:=aB h;obtain⟨K,G,h⟩:=aB h;refine aJ (.a 5 ?_);refine .sub (σ':=⟨[(0,.ptr 9000 0),(5,.v Q0 D.1),(7,.ptr 105 0),(23,.ptr 9000 0),(24,.ptr 9000 0),(25,.ptr 9000 0),(26,.ptr 9000 25),(27,.v (Enc.sl (Enc.pr Enc.bool (Enc.pr Enc.bool (Enc.sl (Enc.int .u8))))) b17)],[(9000,.box 75 [.v Q0 b0,.ptr 9100 0,.v Q0 b1,.v Q0 b2,.v Q0 b3,.ref 101,.v Ji b5,.ref 102,.v Q0 b7,.v Lo b8,.v Q0 b9,.v Q0 b10,.ref 103,.ptr 9200 0,.v Q0 b12,.v Q0 b13,.v Q0 b14,.v Q0 b15,.v (Enc.pr Q0 Q0) b16,.v (Enc.sl (Enc.pr Enc.bool (Enc.pr Enc.bool (Enc.sl (Enc.int .u8))))) b17] (some (A 9000))),(105,.box 141 [.v Enc.bool u.1,.v Enc.bool u.2.1,.v (Enc.sl (Enc.int .u8)) u.2.2]),(9100,.box 115 [.v Q0 b18,.v Q2 b19] (some (A 9100))),(101,.arr 33 aN b4),(102,.mp Q0 Q7 b6),(103,.arr 3 Q0 b11),(9200,.box 115 [.v Q0 b20,.v Q2 b21] (some (A 9200)))]⟩) (aC []) (.k (eU 107000 (gY F) Tryz.call67 (.cons (.dir Y) .nil) Y) ?_);refine .a 3 ?_;refine .t (eA [107000] (Av [(9000,107000),(0,108)]) (dY _) (fun A=>gS A G) Tryz.call66 (fun A=>(.arr .nil Y))) (.f [0,7] ?_);obtain⟨L,H,h⟩:=aB h;refine aJ (.a 1 ?_);refine .k (aX Y Y (.prm (.one _ _) (.prm (.one _ _) (.one _ _))) Tryz.isAgg141 uZ) (.t (eA [9000,9100,9200,101,102,103,108] (uW [(9000,9000),(9100,9100),(9200,9200),(9050,101),(9051,102),(9052,103),(9053,108),(400,109),(401,110),(402,111),(403,112)]) (cU Y) (fun A=>zH A H) Tryz.call68 (fun A=>(.box Y (.box Y (.box Y (.arr (.mp (.arr (.arr .nil Y) Y) Y) Y) Y) Y) Y))) (.f [0,4] ?_));cases h;exact aG (eG z Y (aC [(403,112),(402,111),(401,110),(400,109)]))
theorem Br(A:Nat->Nat){a1 b0 b1 b2 b3 b4 b5 b6 b7 b8 b9 b10 b11 b12 b13 b14 b15 b16 b17 b18 b19 b20 b21 r}(h:mZ a1 b0 b1 b2 b3 b4 b5 b6 b7 b8 b9 b10 b11 b12 b13 b14 b15 b16 b17 b18 b19 b20 b21=some r):
 ConM Tryz.prog 34 [.ptr 9000 0,.v sA a1] (iI 9000 (some (A 9000)) 9100 (some (A 9100)) 9200 (some (A 9200)) 9050 9051 9052 9053 b0 b1 b2 b3 b4 b5 b6 b7 b8 b9 b10 b11 b12 b13 b14 b15 b16 b17 b18 b19 b20 b21) (.tup [.v aN r.1,.v Q8 r.2.1]) (iI 9000 (some (A 9000)) 301 none 302 none 400 401 402 403 r.2.2.1 r.2.2.2.1 r.2.2.2.2.1 r.2.2.2.2.2.1 r.2.2.2.2.2.2.1 r.2.2.2.2.2.2.2.1 r.2.2.2.2.2.2.2.2.1 r.2.2.2.2.2.2.2.2.2.1 r.2.2.2.2.2.2.2.2.2.2.1 r.2.2.2.2.2.2.2.2.2.2.2.1 r.2.2.2.2.2.2.2.2.2.2.2.2.1 r.2.2.2.2.2.2.2.2.2.2.2.2.2.1 r.2.2.2.2.2.2.2.2.2.2.2.2.2.2.1 r.2.2.2.2.2.2.2.2.2.2.2.2.2.2.2.1 r.2.2.2.2.2.2.2.2.2.2.2.2.2.2.2.2.1 r.2.2.2.2.2.2.2.2.2.2.2.2.2.2.2.2.2.1 r.2.2.2.2.2.2.2.2.2.2.2.2.2.2.2.2.2.2.1 r.2.2.2.2.2.2.2.2.2.2.2.2.2.2.2.2.2.2.2.1 r.2.2.2.2.2.2.2.2.2.2.2.2.2.2.2.2.2.2.2.2.1 r.2.2.2.2.2.2.2.2.2.2.2.2.2.2.2.2.2.2.2.2.2.1 r.2.2.2.2.2.2.2.2.2.2.2.2.2.2.2.2.2.2.2.2.2.2.1 r.2.2.2.2.2.2.2.2.2.2.2.2.2.2.2.2.2.2.2.2.2.2.2):=by
 refine ConM.of Tryz.func34 Y Tryz.ntmps34 Y ?_;intro S w R u;unfold mZ at h;refine aJ (.k (bU 101 Y (.prm (.one _ _) (.prm (.one _ _) (.prm (.one _ _) (.one _ _)))) Y) (.k (aM 102 Az Y (.cons (Z.arr 8 (Z.int .u8)) .nil) Y) (.f [0,3,4] ?_)));obtain⟨z,B,h⟩:=aB h;refine aJ (.k (cT (e:=aN) (v:=aU) Ay vI I5 Y Y (Z.arr 8 (Z.int .u8))) ?_);refine .a 3 ?_;refine .t (eA [9000,9100,9200,9050,9051,9052,9053] (uW [(9000,9000),(9100,9100),(9200,9200),(9050,9050),(9051,9051),(9052,9052),(9053,9053),(400,103),(401,104),(402,105),(403,106)]) (cU Y) (fun A=>wY A B) Tryz.call35 (fun A=>(.box Y (.box Y (.box Y (.arr (.mp (.arr (.arr .nil Y) Y) Y) Y) Y) Y) Y))) (.f [0,4,5] ?_);refine aG ?_;obtain rfl:=pT h;exact mQ [(0,.ptr 9000 0),(4,.ptr 90 0),(5,.v Q8 z.1)] [(90,.box 33 [.v aN aU])] (aC [(90,102),(403,106),(302,9200),(402,105),(401,104),(400,103),(301,9100)]) (dA u Y (bY Y Y Y sS jU) (RV.tmp Y) (.cons Y (.cons Y (.cons Y (.cons Y (.cons Y (.cons Y (.cons Y .nil))))))))
theorem zI(A:Nat->Nat){a1 b0 b1 b2 b3 b4 b5 b6 b7 b8 b9 b10 b11 b12 b13 b14 b15 b16 b17 b18 b19 b20 b21 r}(h:fG a1 b0 b1 b2 b3 b4 b5 b6 b7 b8 b9 b10 b11 b12 b13 b14 b15 b16 b17 b18 b19 b20 b21=some r):
 ConM Tryz.prog 37 [.ptr 9000 0,.v Q0 a1] (iI 9000 (some (A 9000)) 9100 (some (A 9100)) 9200 (some (A 9200)) 9050 9051 9052 9053 b0 b1 b2 b3 b4 b5 b6 b7 b8 b9 b10 b11 b12 b13 b14 b15 b16 b17 b18 b19 b20 b21) (.v Q8 r.1) (iI 9000 (some (A 9000)) 9100 (some (A 9100)) 9200 (some (A 9200)) 400 401 402 403 b0 b1 b2 b3 b4 b5 b6 b7 b8 b9 b10 b11 b12 b13 b14 b15 b16 r.2 b18 b19 b20 b21):=by
 refine ConM.of Tryz.func37 Y Tryz.ntmps37 Y ?_;intro S w R C;unfold fG at h;refine aL [0,1] ?_;obtain⟨B,D,h⟩:=aB h;refine jD (.a 2 ?_);refine .t (eA [9000,9100,9200,9050,9051,9052,9053] (uW [(9000,9000),(9100,9100),(9200,9200),(9050,9050),(9051,9051),(9052,9052),(9053,9053),(400,101),(401,102),(402,103),(403,104)]) (cU Y) (fun A=>jM A D) C65 (fun A=>(.box Y (.box Y (.box Y (.arr (.mp (.arr (.arr .nil Y) Y) Y) Y) Y) Y) Y))) (.f [0,5,6] ?_);refine aL [0,5,13] ?_;obtain⟨E,F,h⟩:=gC h;refine uT (fun z:(List (Bool×Bool×iY))=>⟨[(0,.ptr 9000 0)],(iI 9000 (some (A 9000)) 9100 (some (A 9100)) 9200 (some (A 9200)) 101 102 103 108 b0 b1 b2 b3 b4 b5 b6 b7 b8 b9 b10 b11 b12 b13 b14 b15 b16 z b18 b19 b20 b21)⟩) (fun x=>E x=some r) Y ?_ ?_ ?_
 ·intro z h;rw[F] at h;refine aL [0,4] ?_;cases h;exact aG (eG C Y (aC [(403,108),(402,103),(401,102),(400,101)]))
 ·intro u;replace h:=jP u h;obtain⟨I,G,h⟩:=aB h;obtain⟨K,H,h⟩:=aB h;refine fN (.a 5 ?_);refine .sub (σ':=⟨[(0,.ptr 9000 0),(5,.v Q0 B.1),(13,.v Enc.bool B.2),(14,.ptr 9000 0),(15,.ptr 9000 0),(16,.ptr 9000 0),(17,.ptr 9000 25),(18,.v (Enc.sl (Enc.pr Enc.bool (Enc.pr Enc.bool (Enc.sl (Enc.int .u8))))) b17)],[(9000,.box 75 [.v Q0 b0,.ptr 9100 0,.v Q0 b1,.v Q0 b2,.v Q0 b3,.ref 101,.v Ji b5,.ref 102,.v Q0 b7,.v Lo b8,.v Q0 b9,.v Q0 b10,.ref 103,.ptr 9200 0,.v Q0 b12,.v Q0 b13,.v Q0 b14,.v Q0 b15,.v (Enc.pr Q0 Q0) b16,.v (Enc.sl (Enc.pr Enc.bool (Enc.pr Enc.bool (Enc.sl (Enc.int .u8))))) b17] (some (A 9000))),(9100,.box 115 [.v Q0 b18,.v Q2 b19] (some (A 9100))),(101,.arr 33 aN b4),(102,.mp Q0 Q7 b6),(103,.arr 3 Q0 b11),(9200,.box 115 [.v Q0 b20,.v Q2 b21] (some (A 9200)))]⟩) (aC []) (.k (eU 110000 (gY G) Tryz.call67 (.cons (.dir Y) .nil) Y) ?_);refine .a 3 ?_;refine .t (eA [110000] (Av [(9000,110000),(0,111)]) (dY _) (fun A=>gS A H) Tryz.call66 (fun A=>(.arr .nil Y))) (.f [0] ?_);exact cF h (aC [(108,111)])
 ·intro u;replace h:=jQ u h;refine aH ?_;exact cF h (aC [(108,104)])
theorem Bs(A:Nat->Nat){a1 b0 b1 b2 b3 b4 b5 b6 b7 b8 b9 b10 b11 b12 b13 b14 b15 b16 b17 b18 b19 b20 b21 r}(h:nA a1 b0 b1 b2 b3 b4 b5 b6 b7 b8 b9 b10 b11 b12 b13 b14 b15 b16 b17 b18 b19 b20 b21=some r):
 ConM Tryz.prog 36 [.ptr 9000 0,.v sA a1] (iI 9000 (some (A 9000)) 9100 (some (A 9100)) 9200 (some (A 9200)) 9050 9051 9052 9053 b0 b1 b2 b3 b4 b5 b6 b7 b8 b9 b10 b11 b12 b13 b14 b15 b16 b17 b18 b19 b20 b21) (.tup [.v aN r.1,.v Q8 r.2.1]) (iI 9000 (some (A 9000)) 301 none 302 none 400 401 402 403 r.2.2.1 r.2.2.2.1 r.2.2.2.2.1 r.2.2.2.2.2.1 r.2.2.2.2.2.2.1 r.2.2.2.2.2.2.2.1 r.2.2.2.2.2.2.2.2.1 r.2.2.2.2.2.2.2.2.2.1 r.2.2.2.2.2.2.2.2.2.2.1 r.2.2.2.2.2.2.2.2.2.2.2.1 r.2.2.2.2.2.2.2.2.2.2.2.2.1 r.2.2.2.2.2.2.2.2.2.2.2.2.2.1 r.2.2.2.2.2.2.2.2.2.2.2.2.2.2.1 r.2.2.2.2.2.2.2.2.2.2.2.2.2.2.2.1 r.2.2.2.2.2.2.2.2.2.2.2.2.2.2.2.2.1 r.2.2.2.2.2.2.2.2.2.2.2.2.2.2.2.2.2.1 r.2.2.2.2.2.2.2.2.2.2.2.2.2.2.2.2.2.2.1 r.2.2.2.2.2.2.2.2.2.2.2.2.2.2.2.2.2.2.2.1 r.2.2.2.2.2.2.2.2.2.2.2.2.2.2.2.2.2.2.2.2.1 r.2.2.2.2.2.2.2.2.2.2.2.2.2.2.2.2.2.2.2.2.2.1 r.2.2.2.2.2.2.2.2.2.2.2.2.2.2.2.2.2.2.2.2.2.2.1 r.2.2.2.2.2.2.2.2.2.2.2.2.2.2.2.2.2.2.2.2.2.2.2):=by
 refine ConM.of Tryz.func36 Y Tryz.ntmps36 Y ?_;intro S w R u;unfold nA at h;refine aJ (.k (bU 101 Y (.prm (.one _ _) (.prm (.one _ _) (.prm (.one _ _) (.one _ _)))) Y) (.k (aM 102 Az Y (.cons (Z.arr 8 (Z.int .u8)) .nil) Y) (.f [0,3,4] ?_)));obtain⟨z,B,h⟩:=aB h;refine aJ (.k (cT (e:=aN) (v:=aU) Ay vI I5 Y Y (Z.arr 8 (Z.int .u8))) ?_);refine .a 3 ?_;refine .t (eA [9000,9100,9200,9050,9051,9052,9053] (uW [(9000,9000),(9100,9100),(9200,9200),(9050,9050),(9051,9051),(9052,9052),(9053,9053),(400,103),(401,104),(402,105),(403,106)]) (cU Y) (fun A=>zI A B) Tryz.call37 (fun A=>(.box Y (.box Y (.box Y (.arr (.mp (.arr (.arr .nil Y) Y) Y) Y) Y) Y) Y))) (.f [0,4,5] ?_);refine aG ?_;obtain rfl:=pT h;exact mQ [(0,.ptr 9000 0),(4,.ptr 90 0),(5,.v Q8 z.1)] [(90,.box 33 [.v aN aU])] (aC [(90,102),(403,106),(302,9200),(402,105),(401,104),(400,103),(301,9100)]) (dA u Y (bY Y Y Y sS jU) (RV.tmp Y) (.cons Y (.cons Y (.cons Y (.cons Y (.cons Y (.cons Y (.cons Y .nil))))))))
theorem xJ(A:Nat->Nat){a1 b0 b1 b2 b3 b4 b5 b6 b7 b8 b9 b10 b11 b12 b13 b14 b15 b16 b17 b18 b19 b20 b21 r}(h:dU a1 b0 b1 b2 b3 b4 b5 b6 b7 b8 b9 b10 b11 b12 b13 b14 b15 b16 b17 b18 b19 b20 b21=some r):
 ConM Tryz.prog 39 [.ptr 9000 0,.v Q0 a1] (iI 9000 (some (A 9000)) 9100 (some (A 9100)) 9200 (some (A 9200)) 9050 9051 9052 9053 b0 b1 b2 b3 b4 b5 b6 b7 b8 b9 b10 b11 b12 b13 b14 b15 b16 b17 b18 b19 b20 b21) (.v Q8 r.1) (iI 9000 (some (A 9000)) 9100 (some (A 9100)) 9200 (some (A 9200)) 400 401 402 403 b0 b1 b2 b3 b4 b5 b6 b7 b8 b9 b10 b11 b12 b13 b14 b15 b16 r.2 b18 b19 b20 b21):=by
 refine ConM.of Tryz.func39 Y Tryz.ntmps39 Y ?_;intro S w R D;unfold dU at h;refine aL [0,1] ?_;obtain⟨F,G,h⟩:=aB h;refine jD (.a 2 ?_);refine .t (eA [9000,9100,9200,9050,9051,9052,9053] (uW [(9000,9000),(9100,9100),(9200,9200),(9050,9050),(9051,9051),(9052,9052),(9053,9053),(400,101),(401,102),(402,103),(403,104)]) (cU Y) (fun A=>jM A G) C65 (fun A=>(.box Y (.box Y (.box Y (.arr (.mp (.arr (.arr .nil Y) Y) Y) Y) Y) Y) Y))) (.f [0,5,6] ?_);refine aF ?_;obtain⟨H,u,h⟩:=aB h;refine dL (σ':=⟨[(0,.ptr 9000 0),(5,.v Q0 F.1),(21,.v Enc.bool H)],(iI 9000 (some (A 9000)) 9100 (some (A 9100)) 9200 (some (A 9200)) 101 102 103 104 b0 b1 b2 b3 b4 b5 b6 b7 b8 b9 b10 b11 b12 b13 b14 b15 b16 b17 b18 b19 b20 b21)⟩) ?_ ?_
 ·refine cd u (fun E u=>?_) (fun E u=>?_)
  ·cases u;exact jy
  cases u;exact jy
 obtain⟨I,K,h⟩:=gC h;refine uT (fun B:(List (Bool×Bool×iY))=>⟨[(0,.ptr 9000 0)],(iI 9000 (some (A 9000)) 9100 (some (A 9100)) 9200 (some (A 9200)) 101 102 103 107 b0 b1 b2 b3 b4 b5 b6 b7 b8 b9 b10 b11 b12 b13 b14 b15 b16 B b18 b19 b20 b21)⟩) (fun x=>I x=some r) Y ?_ ?_ ?_
 ·intro B h;rw[K] at h;refine aL [0,4] ?_;cases h;exact aG (eG D Y (aC [(403,107),(402,103),(401,102),(400,101)]))
 ·intro z;replace h:=jP z h;obtain⟨M,C,h⟩:=aB h;obtain⟨N,L,h⟩:=aB h;refine dI 17 mixed (by exact(.k (aD Y) (.k (aD Y) (.k (aK Y) (.k (aA 25 Y Qv Y S73 Y Y) (.k (aI Y Y Y G73 S73) (.k (aD Y) (.k (aK Y) (.k (aA 25 Y Qv Y S73 Y Y) (.k (aI Y Y Y G73 S73) (.k (aD Y) (.k (iJ C Y Y Y Hy uZ) (.k (jC (cX C).2.2 Y Y .here Tryz.isAgg141 uZ) (.k (dM (e:=(Enc.pr Enc.bool (Enc.pr Enc.bool (Enc.sl (Enc.int .u8))))) Hy uZ aBc Y Y Y Y (.cons (.dir Y) .nil)) (JP4.append (.none Y) 109 L Y Y (.sl Y) Hy aGs uZ Y Y Y Y Y (.k (aK Y) (.k (aA 25 Y Qv Y S73 Y Y) (JP4.store (.none Y) Y Y Y Y Y Y Y S73 .nil)))))))))))))))))) (by exact(J.kp [0] [])) ?_;exact cF h (aC [(107,109)])
 ·intro z;replace h:=jQ z h;refine aH ?_;exact cF h (aC [(107,104)])
theorem Bt(A:Nat->Nat){a1 b0 b1 b2 b3 b4 b5 b6 b7 b8 b9 b10 b11 b12 b13 b14 b15 b16 b17 b18 b19 b20 b21 r}(h:nB a1 b0 b1 b2 b3 b4 b5 b6 b7 b8 b9 b10 b11 b12 b13 b14 b15 b16 b17 b18 b19 b20 b21=some r):
 ConM Tryz.prog 38 [.ptr 9000 0,.v sA a1] (iI 9000 (some (A 9000)) 9100 (some (A 9100)) 9200 (some (A 9200)) 9050 9051 9052 9053 b0 b1 b2 b3 b4 b5 b6 b7 b8 b9 b10 b11 b12 b13 b14 b15 b16 b17 b18 b19 b20 b21) (.tup [.v aN r.1,.v Q8 r.2.1]) (iI 9000 (some (A 9000)) 301 none 302 none 400 401 402 403 r.2.2.1 r.2.2.2.1 r.2.2.2.2.1 r.2.2.2.2.2.1 r.2.2.2.2.2.2.1 r.2.2.2.2.2.2.2.1 r.2.2.2.2.2.2.2.2.1 r.2.2.2.2.2.2.2.2.2.1 r.2.2.2.2.2.2.2.2.2.2.1 r.2.2.2.2.2.2.2.2.2.2.2.1 r.2.2.2.2.2.2.2.2.2.2.2.2.1 r.2.2.2.2.2.2.2.2.2.2.2.2.2.1 r.2.2.2.2.2.2.2.2.2.2.2.2.2.2.1 r.2.2.2.2.2.2.2.2.2.2.2.2.2.2.2.1 r.2.2.2.2.2.2.2.2.2.2.2.2.2.2.2.2.1 r.2.2.2.2.2.2.2.2.2.2.2.2.2.2.2.2.2.1 r.2.2.2.2.2.2.2.2.2.2.2.2.2.2.2.2.2.2.1 r.2.2.2.2.2.2.2.2.2.2.2.2.2.2.2.2.2.2.2.1 r.2.2.2.2.2.2.2.2.2.2.2.2.2.2.2.2.2.2.2.2.1 r.2.2.2.2.2.2.2.2.2.2.2.2.2.2.2.2.2.2.2.2.2.1 r.2.2.2.2.2.2.2.2.2.2.2.2.2.2.2.2.2.2.2.2.2.2.1 r.2.2.2.2.2.2.2.2.2.2.2.2.2.2.2.2.2.2.2.2.2.2.2):=by
 refine ConM.of Tryz.func38 Y Tryz.ntmps38 Y ?_;intro S w R u;unfold nB at h;refine aJ (.k (bU 101 Y (.prm (.one _ _) (.prm (.one _ _) (.prm (.one _ _) (.one _ _)))) Y) (.k (aM 102 Az Y (.cons (Z.arr 8 (Z.int .u8)) .nil) Y) (.f [0,3,4] ?_)));obtain⟨z,B,h⟩:=aB h;refine aJ (.k (cT (e:=aN) (v:=aU) Ay vI I5 Y Y (Z.arr 8 (Z.int .u8))) ?_);refine .a 3 ?_;refine .t (eA [9000,9100,9200,9050,9051,9052,9053] (uW [(9000,9000),(9100,9100),(9200,9200),(9050,9050),(9051,9051),(9052,9052),(9053,9053),(400,103),(401,104),(402,105),(403,106)]) (cU Y) (fun A=>xJ A B) Tryz.call39 (fun A=>(.box Y (.box Y (.box Y (.arr (.mp (.arr (.arr .nil Y) Y) Y) Y) Y) Y) Y))) (.f [0,4,5] ?_);refine aG ?_;obtain rfl:=pT h;exact mQ [(0,.ptr 9000 0),(4,.ptr 90 0),(5,.v Q8 z.1)] [(90,.box 33 [.v aN aU])] (aC [(90,102),(403,106),(302,9200),(402,105),(401,104),(400,103),(301,9100)]) (dA u Y (bY Y Y Y sS jU) (RV.tmp Y) (.cons Y (.cons Y (.cons Y (.cons Y (.cons Y (.cons Y (.cons Y .nil))))))))
theorem vB{a0 r}(h:lD a0=some r):
 Con Tryz.prog 69 [.pst (Enc.pr Q0 Q2) a0] (.agg [.ref 0,.ref 1,.v Q0 r.2.2]) [(0,.arr 33 aN r.1),(1,.arr 124 Q5 r.2.1)]:=by
 refine Con.of Tryz.func69 Y Tryz.ntmps69 Y ?_;intro S w u;unfold lD at h;refine aJ (.k (aM 101 Z86 Y (.cons (Z.sl aN) (.cons (Z.sl Q5) (.cons (Z.int .i64) .nil))) Y) (.f [0,2] ?_));refine aF ?_;obtain⟨z,A,h⟩:=aB h;obtain⟨B,C,h⟩:=aB h;refine dI 19 mixed (by exact(.k (aD Y) (.k (qN Y) (.k (eI Y vH Y vW Y (.snd .here) Y) (.k (eI Y U86 Y xC Y (.fst .here) Y) (.k (bQ Y Rv xC) (.k (eU 102000 (bZ A) C52 (.cons (.dir Y) .nil) Y) (.k (aD Y) (.k (qN Y) (.k (eI Y vH Y vW Y (.snd .here) Y) (.k (eI Y U86 Y Gm Y (.snd (.fst .here)) Y) (.k (bQ Y G58 Gm) (.k (eU 103000 (eE C) C85 (.cons (.dir Y) .nil) Y) (.k (aD Y) (.k (qN Y) (.k (eI Y vH Y vW Y (.snd .here) Y) (.k (eI Y U86 Y S3 Y (.snd (.snd .here)) Y) (.k (bQ Y G3 S3) (.k (bE tF (.cons (Z.sl aN) (.cons (Z.sl Q5) (.cons (Z.int .i64) .nil))) (.cons Y (.dir Y) Y Y Y Y (.cons Y (.dir Y) Y Y Y Y (.cons Y (.dir Y) Y Y Y Y .nil)))) (JP4.storeAgg (.none Y) Y Y Y Y Y Y vW .nil)))))))))))))))))))) (by exact(J.kp [2] [])) ?_;refine aG ?_;obtain rfl:=pT h;exact bN (σ':=⟨[(2,.ptr 90 0)],[(90,.box 86 [.ref 0,.ref 1,.v Q0 a0.2.2.2]),(1,.arr 124 Q5 B),(0,.arr 33 aN z)]⟩) (aC [(90,101),(1,103000),(0,102000)]) (aY u dD Y (Es Y Y Y Do vW) (.cons Y (.cons Y .nil)) Y)
def pP(r:Ru×(Option Int)×Int×By):Slot:=match r.1 with | none=> .tup [.v (Enc.ptN (Enc.pr Q0 Q2)) (none:Ru),.v Q8 r.2.1] | some z=> .tup [.ptr 0 0,.v Q8 r.2.1]
def pQ(A:Nat->Nat)(a0_0:Int)(a0_1:By)(a1:Int)(r:Ru×(Option Int)×Int×By):List (Nat×Ent):=match r.1 with | none=>[(9000,.box 115 [.v Q0 r.2.2.1,.v Q2 r.2.2.2] (some (A 9000)))] | some z=>[(0,.box 115 [.v Q0 z.1,.v Q2 z.2]),(9000,.box 115 [.v Q0 r.2.2.1,.v Q2 r.2.2.2] (some (A 9000)))]
theorem vQ(A:Nat->Nat){a0_0 a0_1 a1 r}(h:gR a0_0 a0_1 a1=some r):
 ConM Tryz.prog 41 [.ptr 9000 0,.v Q0 a1] [(9000,.box 115 [.v Q0 a0_0,.v Q2 a0_1] (some (A 9000)))] (pP r) (pQ A a0_0 a0_1 a1 r):=by
 refine ConM.of Tryz.func41 Y Tryz.ntmps41 Y ?_;intro S w R z;unfold gR at h;refine aJ (.k (jI (Enc.pr Q0 Q2)) (.f [0,1] ?_));refine aF ?_;obtain⟨u,B,h⟩:=aB h;obtain⟨D,C,h⟩:=aB h;rcases hz3:D.1 with _ | E
 ·replace h:=uP hz3 h;refine fN (.a 1 ?_);refine .k (pZ 102000 (vB B) C69 (.cons (.lendP Y Y (.prm (.one _ _) (.one _ _))) .nil) Y (FlatS.agg (.ref (.ref (.v .nil)))) (FlatN.arr (FlatN.arr FlatN.nil))) ?_;refine .a 1 ?_;refine .sub (σ':=⟨[(0,.ptr 9000 0),(1,.v Q0 a1),(6,.ptr 9000 0),(7,.agg [.v Q7 u.1,.v Q1 u.2.1,.v Q0 u.2.2]),(8,.v Q0 a1)],[(9000,.box 115 [.v Q0 a0_0,.v Q2 a0_1] (some (A 9000)))]⟩) (Sw.Sub.mk id (.cons Y (.of_eq Y) (.cons Y (.of_eq Y) (.cons Y (.of_eq Y) (.cons Y (.agg (.cons (.frz Y Y) (.cons (.frz Y Y) (.cons (.of_eq Y) .nil)))) (.cons Y (.of_eq Y) .nil))))) (.box Y (.cons (.of_eq Y) (.cons (.of_eq Y) .nil)) .nil) Y) (.k (aO (yY hz3 C) C21 (.cons (.agg Y (.same (.same (.same .nil))) (.prm (.one _ _) (.prm (.one _ _) (.one _ _))) Y) (.cons (.dir Y) .nil))) (.f [0,4,5] ?_));cases h;exact aG (dA z Y (RV.tmp Y) (RV.tmp Y) (.cons Y .nil))
 ·replace h:=uQ hz3 h;refine fN (.a 1 ?_);refine .k (pZ 105000 (vB B) C69 (.cons (.lendP Y Y (.prm (.one _ _) (.one _ _))) .nil) Y (FlatS.agg (.ref (.ref (.v .nil)))) (FlatN.arr (FlatN.arr FlatN.nil))) ?_;refine .a 1 ?_;refine .sub (σ':=⟨[(0,.ptr 9000 0),(1,.v Q0 a1),(6,.ptr 9000 0),(7,.agg [.v Q7 u.1,.v Q1 u.2.1,.v Q0 u.2.2]),(8,.v Q0 a1)],[(9000,.box 115 [.v Q0 a0_0,.v Q2 a0_1] (some (A 9000)))]⟩) (Sw.Sub.mk id (.cons Y (.of_eq Y) (.cons Y (.of_eq Y) (.cons Y (.of_eq Y) (.cons Y (.agg (.cons (.frz Y Y) (.cons (.frz Y Y) (.cons (.of_eq Y) .nil)))) (.cons Y (.of_eq Y) .nil))))) (.box Y (.cons (.of_eq Y) (.cons (.of_eq Y) .nil)) .nil) Y) (.k (eU 107000 (yZ hz3 C) C21 (.cons (.agg Y (.same (.same (.same .nil))) (.prm (.one _ _) (.prm (.one _ _) (.one _ _))) Y) (.cons (.dir Y) .nil)) Y) (.f [0,4,5] ?_));cases h;exact aG (aDv z Y (aC [(0,107000)]))
theorem tX(A:Nat->Nat){a0_0:Int}{a0_1:By}{a1:Int}{r:Ru×(Option Int)×Int×By}(hz:r.1=none)(h:gR a0_0 a0_1 a1=some r):ConM Tryz.prog 41 [.ptr 9000 0,.v Q0 a1] [(9000,.box 115 [.v Q0 a0_0,.v Q2 a0_1] (some (A 9000)))] (.tup [.v (Enc.ptN (Enc.pr Q0 Q2)) (none:Ru),.v Q8 r.2.1]) [(9000,.box 115 [.v Q0 r.2.2.1,.v Q2 r.2.2.2] (some (A 9000)))]:=by
 have:=vQ A h;unfold pP pQ at this;rw[hz] at this;exact this
theorem tY(A:Nat->Nat){a0_0:Int}{a0_1:By}{a1:Int}{r:Ru×(Option Int)×Int×By}{z:(Int×By)}(hz:r.1=some z)(h:gR a0_0 a0_1 a1=some r):ConM Tryz.prog 41 [.ptr 9000 0,.v Q0 a1] [(9000,.box 115 [.v Q0 a0_0,.v Q2 a0_1] (some (A 9000)))] (.tup [.ptr 0 0,.v Q8 r.2.1]) [(0,.box 115 [.v Q0 z.1,.v Q2 z.2]),(9000,.box 115 [.v Q0 r.2.2.1,.v Q2 r.2.2.2] (some (A 9000)))]:=by
 have:=vQ A h;unfold pP pQ at this;rw[hz] at this;exact this
theorem xK(A:Nat->Nat){b0 b1 b2 b3 b4 b5 b6 b7 b8 b9 b10 b11 b12 b13 b14 b15 b16 b17 b18 b19 b20 b21 r}(h:iF b0 b1 b2 b3 b4 b5 b6 b7 b8 b9 b10 b11 b12 b13 b14 b15 b16 b17 b18 b19 b20 b21=some r):
 ConM Tryz.prog 22 [.ptr 9000 1,.ptr 9200 0] [(9000,.box 75 [.v Q0 b0,.v (Enc.cst (.pointer none) rfl) (),.v Q0 b1,.v Q0 b2,.v Q0 b3,.ref 9050,.v Ji b5,.ref 9051,.v Q0 b7,.v Lo b8,.v Q0 b9,.v Q0 b10,.ref 9052,.ptr 9100 0,.v Q0 b12,.v Q0 b13,.v Q0 b14,.v Q0 b15,.v (Enc.pr Q0 Q0) b16,.ref 9053] (some (A 9000))),(9100,.box 115 [.v Q0 b18,.v Q2 b19] (some (A 9100))),(9200,.box 115 [.v Q0 b20,.v Q2 b21] (some (A 9200))),(9050,.arr 33 aN b4),(9051,.mp Q0 Q7 b6),(9052,.arr 3 Q0 b11),(9053,.arr 141 (Enc.pr Enc.bool (Enc.pr Enc.bool (Enc.sl (Enc.int .u8)))) b17)] (.v Q8 r.1) (iI 9000 (some (A 9000)) 9200 (some (A 9200)) 9100 (some (A 9100)) 400 401 402 403 b0 b1 r.2.1 r.2.2.1 b4 b5 b6 b7 b8 b9 b10 b11 b12 b13 b14 b15 b16 b17 r.2.2.2.1 r.2.2.2.2 b18 b19):=by
 refine ConM.of Tryz.func22 Y Tryz.ntmps22 Y ?_;intro S w R u;unfold iF at h;refine aL [0,1] ?_;refine aL [0,1] ?_;obtain⟨D,B,h⟩:=aB h;refine aJ (.a 1 ?_);refine .k (qO (nM B) Tryz.call54 (.cons (.lendP Y Y (.prm (.one _ _) (.one _ _))) .nil) (FlatS.tup (.v (.v (.v .nil))))) (.f [0,1,5,6,7] ?_);refine cR [0,1,5,6,7,19] ?_;refine aT h Y (fun z h=>?_) (fun z h=>?_)
 ·refine aL [0,1,4] ?_;cases h;exact aG (eG u Y (aC [(403,9053),(402,9052),(401,9051),(400,9050)]))
 refine aH ?_;refine aL [0,1] ?_;refine aF ?_;obtain⟨E,C,h⟩:=aB h;refine dI 9 mixed (by exact(.k (aD Y) (.k (aD Y) (.k (aK Y) (.k (aA 3 Y Dx Y S3 Y Y) (.k (aI Y Y Y G3 S3) (.k (aD Y) (.k (aK Y) (.k (aA 4 Y Dx Y S3 Y Y) (.k (aI Y Y Y G3 S3) .nil)))))))))) (by exact(J.t (sZ (H:=[9200]) (K:=[9200]) (Av [(9000,9200)]) (dY _) (fun A=>gN A C) C55 (.cons (.dir Y) (.cons (.nilS _) (.cons (.dir Y) (.cons (.dir Y) .nil)))) (fun A=>(.box Y .nil)) (fun A=>(.box Y .nil Y)) (fun _=>rfl) Y Y (fun _=>rfl) Y Y) (jz [0,1,4]))) ?_;cases h;exact aG (eG u Y (aC [(403,9053),(402,9052),(401,9051),(400,9050)]))
theorem vC(A:Nat->Nat){b0 b1 b2 b3 b4 b5 b6 b7 b8 b9 b10 b11 b12 b13 b14 b15 b16 b17 b18 b19 b20 b21 b22 b23 r}(h:fK b0 b1 b2 b3 b4 b5 b6 b7 b8 b9 b10 b11 b12 b13 b14 b15 b16 b17 b18 b19 b20 b21 b22 b23=some r):
 ConM Tryz.prog 15 [.ptr 9000 0,.ptr 9300 0] [(9000,.box 75 [.v Q0 b0,.ptr 9100 0,.v Q0 b1,.v Q0 b2,.v Q0 b3,.ref 9050,.v Ji b5,.ref 9051,.v Q0 b7,.v Lo b8,.v Q0 b9,.v Q0 b10,.ref 9052,.ptr 9200 0,.v Q0 b12,.v Q0 b13,.v Q0 b14,.v Q0 b15,.v (Enc.pr Q0 Q0) b16,.ref 9053] (some (A 9000))),(9100,.box 115 [.v Q0 b18,.v Q2 b19] (some (A 9100))),(9200,.box 115 [.v Q0 b20,.v Q2 b21] (some (A 9200))),(9300,.box 115 [.v Q0 b22,.v Q2 b23] (some (A 9300))),(9050,.arr 33 aN b4),(9051,.mp Q0 Q7 b6),(9052,.arr 3 Q0 b11),(9053,.arr 141 (Enc.pr Enc.bool (Enc.pr Enc.bool (Enc.sl (Enc.int .u8)))) b17)] (.v Q8 r.1) (iI 9000 (some (A 9000)) 9300 (some (A 9300)) 9200 (some (A 9200)) 400 401 402 403 b0 r.2.1 r.2.2.1 r.2.2.2.1 r.2.2.2.2.1 r.2.2.2.2.2.1 r.2.2.2.2.2.2.1 r.2.2.2.2.2.2.2.1 r.2.2.2.2.2.2.2.2.1 r.2.2.2.2.2.2.2.2.2.1 r.2.2.2.2.2.2.2.2.2.2.1 r.2.2.2.2.2.2.2.2.2.2.2.1 b12 b13 b14 b15 b16 b17 r.2.2.2.2.2.2.2.2.2.2.2.2.1 r.2.2.2.2.2.2.2.2.2.2.2.2.2 b20 b21):=by
 refine ConM.of Tryz.func15 Y Tryz.ntmps15 Y ?_;intro S w R z;unfold fK at h;refine aL [0,1] ?_;refine aJ (.a 5 ?_);refine .k (bE Jy (.cons (Z.cst (u:=(.pointer none)) Y) (.cons (Z.int .i64) (.cons (Z.int .i64) (.cons (Z.int .i64) .nil)))) (.cons Y (.dir Y) Y Y Y Y .nil)) (.k (Et 101 Q0 Q7) (.k (eT (new:=[(103,.arr 33 aN ([]:jA)),(102,.arr 3 Q0 ([]:iY))]) Zf (.cons (Z.cst (u:=(.pointer none)) Y) (.cons (Z.int .i64) (.cons (Z.int .i64) (.cons (Z.int .i64) (.ref 103 Y (.cons (Z.pr (Z.int .i64) (Z.pr (Z.sl Q5) (Z.pr (Z.sl nX) Z.bool))) (.cons (Z.mpF Q0 Q7) (.cons (Z.int .i64) (.cons (Z.pr (Z.int .i64) (Z.pr (Z.int .i64) (Z.sl Q4))) (.cons (Z.int .i64) (.cons (Z.int .i64) (.ref 102 Y .nil)))))))))))) (.cons (.cons .nil)) Y (.agg 0 4 Y Y Y Y Y Y (.cons Y (.dir Y) Y Y Y Y (.cons Y (.dir Y) Y Y Y Y .nil)))) ?_));refine .a 2 ?_;refine .t (uR 1 12 Y Y Y Y Y Y Y S68) (.f [0,1] ?_);obtain⟨F,C,h⟩:=aB h;refine jD (.a 5 ?_);refine .t (eA [9000,9200,9300,103,101,102,9053] (uW [(9000,9000),(9100,9200),(9200,9300),(9050,103),(9051,101),(9052,102),(9053,9053),(400,104),(401,105),(402,106),(403,107)]) (cU Y) (fun A=>xK A C) C22 (fun A=>(.box Y (.box Y (.box Y (.arr (.mp (.arr (.arr .nil Y) Y) Y) Y) Y) Y) Y))) (.f [0,1,5] ?_);refine aL [0,1,5,25] ?_;refine aT h Y (fun B h=>?_) (fun B h=>?_)
 ·refine aL [0,1,4] ?_;cases h;exact aG (eG z Y (aC [(403,107),(402,106),(401,105),(400,104)]))
 refine aH ?_;obtain⟨G,D,h⟩:=aB h;refine aJ (.a 1 ?_);refine .k (pZ 108000 (kD D) C23 (.cons (.lendP Y Y (.prm (.one _ _) (.one _ _))) .nil) Y (FlatS.tup (.ref (.v .nil))) (FlatN.arr FlatN.nil)) (.f [0,1,6,7] ?_);refine aL [0,1,7] ?_;refine aJ (.a 7 ?_);refine .k (Ae (bE xT (.cons (Z.int .i64) (.cons (Z.sl Q5) (.cons (Z.sl nX) (.cons Z.bool .nil)))) (.cons Y (.dir Y) Y Y Y Y (.cons Y (.dir Y) Y Y Y Y .nil))) (.prm (.one _ _) (.prm (.one _ _) (.prm (.one _ _) (.one _ _)))) Y) (.f [0,1,7] ?_);obtain⟨H,E,h⟩:=aB h;refine aJ (.a 3 ?_);refine .t (eA [9000,9300,9200,108000,105,106,107] (uW [(9000,9000),(9100,9300),(9200,9200),(9050,108000),(9051,105),(9052,106),(9053,107),(400,109),(401,110),(402,111),(403,112)]) (cU Y) (fun A=>mR A E) Tryz.call24 (fun A=>(.box Y (.box Y (.box Y (.arr (.mp (.arr (.arr .nil Y) Y) Y) Y) Y) Y) Y))) (.f [0,1,7] ?_);refine aL [0,1,4] ?_;cases h;exact aG (eG z Y (aC [(403,112),(402,111),(401,110),(400,109)]))
theorem Bu(A:Nat->Nat){a1 b0 b1 b2 b3 b4 b5 b6 b7 b8 b9 b10 b11 b12 b13 b14 b15 b16 b17 b18 b19 b20 b21 r}(h:kB a1 b0 b1 b2 b3 b4 b5 b6 b7 b8 b9 b10 b11 b12 b13 b14 b15 b16 b17 b18 b19 b20 b21=some r):
 ConM Tryz.prog 40 [.ptr 9000 0,.v sA a1] (iI 9000 (some (A 9000)) 9100 (some (A 9100)) 9200 (some (A 9200)) 9050 9051 9052 9053 b0 b1 b2 b3 b4 b5 b6 b7 b8 b9 b10 b11 b12 b13 b14 b15 b16 b17 b18 b19 b20 b21) (.tup [.v aN r.1,.v Q8 r.2.1]) (iI 9000 (some (A 9000)) 301 none 302 none 400 401 402 403 r.2.2.1 r.2.2.2.1 r.2.2.2.2.1 r.2.2.2.2.2.1 r.2.2.2.2.2.2.1 r.2.2.2.2.2.2.2.1 r.2.2.2.2.2.2.2.2.1 r.2.2.2.2.2.2.2.2.2.1 r.2.2.2.2.2.2.2.2.2.2.1 r.2.2.2.2.2.2.2.2.2.2.2.1 r.2.2.2.2.2.2.2.2.2.2.2.2.1 r.2.2.2.2.2.2.2.2.2.2.2.2.2.1 r.2.2.2.2.2.2.2.2.2.2.2.2.2.2.1 r.2.2.2.2.2.2.2.2.2.2.2.2.2.2.2.1 r.2.2.2.2.2.2.2.2.2.2.2.2.2.2.2.2.1 r.2.2.2.2.2.2.2.2.2.2.2.2.2.2.2.2.2.1 r.2.2.2.2.2.2.2.2.2.2.2.2.2.2.2.2.2.2.1 r.2.2.2.2.2.2.2.2.2.2.2.2.2.2.2.2.2.2.2.1 r.2.2.2.2.2.2.2.2.2.2.2.2.2.2.2.2.2.2.2.2.1 r.2.2.2.2.2.2.2.2.2.2.2.2.2.2.2.2.2.2.2.2.2.1 r.2.2.2.2.2.2.2.2.2.2.2.2.2.2.2.2.2.2.2.2.2.2.1 r.2.2.2.2.2.2.2.2.2.2.2.2.2.2.2.2.2.2.2.2.2.2.2):=by
 refine ConM.of Tryz.func40 Y Tryz.ntmps40 Y ?_;intro S w R D;unfold kB at h;refine aJ (.k (bU 101 Y (.prm (.one _ _) (.prm (.one _ _) (.prm (.one _ _) (.one _ _)))) Y) (.k (aM 102 Az Y (.cons (Z.arr 8 (Z.int .u8)) .nil) Y) (.f [0,4] ?_)));refine aF ?_;obtain⟨z,E,h⟩:=aB h;rcases hz2:z.1 with _ | P
 ·replace h:=uP hz2 h;refine dI 16 mixed (by exact(.k (aD Y) (.k (aK Y) (.k (aA 1 Y Qv Y S68 Y Y) (.k (aA 1 Y uS Y Jk Y Y) (.k (aA 1 Y Dx Y Gl Y Y) (.k (aI Y Y Y Lq Gl) (.k (aD Y) (.k (aK Y) (.k (aA 0 Y Qv Y S3 Y Y) (.k (aI Y Y Y G3 S3) (JP4.callM (.none Y) (H:=[9100]) (K:=[9100]) (Av [(9000,9100)]) (dY _) (fun A=>tX A hz2 E) C41 (.cons (.dir Y) (.cons (.dir Y) .nil)) (fun A=>(.box Y .nil)) (fun A=>(.box Y .nil Y)) (fun _=>rfl) Y Y (fun _=>rfl) Y Y (.k (aD Y) (.pu (.none Y) Y (fun _ _=>bH Y Y) (.pu (.none Y) Y (fun _ _=>bH Y Y) (.k (bB Y) (.k (bB Y) .nil))))))))))))))))) (by exact(J.kp [0,4,6,7] [])) ?_;refine jD (.a 1 ?_);refine .k (gU Ls Y) (.f [0,4,6,7,23] ?_);obtain⟨G,I,h⟩:=gC h;refine uT (fun F:Unit=>⟨[(0,.ptr 9000 0),(4,.ptr 102 0),(7,.v Q8 z.2.1)],((102,.box 33 [.v aN aU])::iI 9000 (some (A 9000)) 9100 (some (A 9100)) 9200 (some (A 9200)) 9050 9051 9052 9053 b0 b1 b2 b3 b4 b5 b6 b7 b8 b9 b10 b11 b12 b13 b14 b15 b16 b17 z.2.2.1 z.2.2.2 b20 b21)⟩) (fun x=>G x=some r) Y ?_ ?_ ?_
  ·intro F h;rw[I] at h;refine aJ (.k (cT (e:=aN) (v:=aU) Ay vI I5 Y Y (Z.arr 8 (Z.int .u8))) (.f [0,4,5] ?_));refine aG ?_;obtain rfl:=pT h;exact mQ [(0,.ptr 9000 0),(4,.ptr 90 0),(5,.v Q8 z.2.1)] [(90,.box 33 [.v aN aU])] (aC [(90,102),(403,9053),(302,9200),(402,9052),(401,9051),(400,9050),(301,9100)]) (dA D Y (bY Y Y Y sS jU) (RV.tmp Y) (.cons Y (.cons Y (.cons Y (.cons Y (.cons Y (.cons Y (.cons Y .nil))))))))
  ·intro B;replace h:=jP B h;cases h
  ·intro B;replace h:=jQ B h;refine aH ?_;exact cF h (aC [])
 ·replace h:=uQ hz2 h;refine dI 16 mixed (by exact(.k (aD Y) (.k (aK Y) (.k (aA 1 Y Qv Y S68 Y Y) (.k (aA 1 Y uS Y Jk Y Y) (.k (aA 1 Y Dx Y Gl Y Y) (.k (aI Y Y Y Lq Gl) (.k (aD Y) (.k (aK Y) (.k (aA 0 Y Qv Y S3 Y Y) (.k (aI Y Y Y G3 S3) (JP4.callM (.none Y) (H:=[9100]) (K:=[9100]) (Av [(9000,9100),(0,104)]) (dY _) (fun A=>tY A hz2 E) C41 (.cons (.dir Y) (.cons (.dir Y) .nil)) (fun A=>(.box Y .nil)) (fun A=>(.boxN (.box Y .nil Y) Y)) (fun _=>rfl) Y Y (fun _=>rfl) Y Y (.k (aD Y) (.pu (.none Y) Y (fun _ _=>bH Y Y) (.pu (.none Y) Y (fun _ _=>bH Y Y) (.k (bB Y) (.k (bB Y) .nil))))))))))))))))) (by exact(J.kp [0,4,6,7] [])) ?_;refine jD (.a 1 ?_);refine .k (gU Ls Y) (.f [0,4,6,7,23] ?_);obtain⟨L,M,h⟩:=gC h;refine uT (fun u:(Option Int)×Int×Int×Int×(Int×Q6×Gk×Bool)×Int×(Int×Int×Nc)×Int×Int×Int×By×jA×(List (Int×jA))×iY=>⟨[(0,.ptr 9000 0),(4,.ptr 102 0),(7,.v Q8 u.1)],((102,.box 33 [.v aN aU])::iI 9000 (some (A 9000)) 109 none 9200 (some (A 9200)) 110 111 112 113 b0 u.2.1 u.2.2.1 u.2.2.2.1 u.2.2.2.2.2.2.2.2.2.2.2.1 u.2.2.2.2.1 u.2.2.2.2.2.2.2.2.2.2.2.2.1 u.2.2.2.2.2.1 u.2.2.2.2.2.2.1 u.2.2.2.2.2.2.2.1 u.2.2.2.2.2.2.2.2.1 u.2.2.2.2.2.2.2.2.2.2.2.2.2 b12 b13 b14 b15 b16 b17 u.2.2.2.2.2.2.2.2.2.1 u.2.2.2.2.2.2.2.2.2.2.1 b20 b21)⟩) (fun x=>L x=some r) Y ?_ ?_ ?_
  ·intro u h;rw[M] at h;refine aJ (.k (cT (e:=aN) (v:=aU) Ay vI I5 Y Y (Z.arr 8 (Z.int .u8))) (.f [0,4,5] ?_));refine aG ?_;obtain rfl:=pT h;exact mQ [(0,.ptr 9000 0),(4,.ptr 90 0),(5,.v Q8 u.1)] [(90,.box 33 [.v aN aU])] (aC [(90,102),(403,113),(302,9200),(402,112),(401,111),(400,110),(301,109)]) (dA D Y (bY Y Y Y sS jU) (RV.tmp Y) (.cons Y (.cons Y (.cons Y (.cons Y (.cons Y (.cons Y (.cons Y .nil))))))))
  ·intro C;replace h:=jP C h;obtain⟨O,N,h⟩:=aB h;refine fN (.a 2 ?_);refine .t (eA [9000,9100,9200,104,9050,9051,9052,9053] (uW [(9000,9000),(9100,9100),(9200,9200),(9300,104),(9050,9050),(9051,9051),(9052,9052),(9053,9053),(400,114),(401,115),(402,116),(403,117)]) (cU Y) (fun A=>vC A N) Tryz.call15 (fun A=>(.box Y (.box Y (.box Y (.arr (.mp (.arr (.arr .nil Y) Y) Y) Y) Y) Y) Y))) (.f [0,4,7] ?_);exact cF h (aC [(113,117),(112,116),(111,115),(110,114),(109,104)])
  ·intro C;replace h:=jQ C h;refine aH ?_;exact cF h (aC [(113,9053),(112,9052),(111,9051),(110,9050),(109,9100)])
theorem vD(A:Nat->Nat){b0 b1 b2 b3 b4 b5 b6 b7 b8 b9 b10 b11 b12 b13 b14 b15 b16 b17 b18 b19 b20 b21 b22 b23 r}(h:fL b0 b1 b2 b3 b4 b5 b6 b7 b8 b9 b10 b11 b12 b13 b14 b15 b16 b17 b18 b19 b20 b21 b22 b23=some r):
 ConM Tryz.prog 16 [.ptr 9000 0,.ptr 9300 0] [(9000,.box 75 [.v Q0 b0,.ptr 9100 0,.v Q0 b1,.v Q0 b2,.v Q0 b3,.ref 9050,.v Ji b5,.ref 9051,.v Q0 b7,.v Lo b8,.v Q0 b9,.v Q0 b10,.ref 9052,.ptr 9200 0,.v Q0 b12,.v Q0 b13,.v Q0 b14,.v Q0 b15,.v (Enc.pr Q0 Q0) b16,.ref 9053] (some (A 9000))),(9100,.box 115 [.v Q0 b18,.v Q2 b19] (some (A 9100))),(9200,.box 115 [.v Q0 b20,.v Q2 b21] (some (A 9200))),(9300,.box 115 [.v Q0 b22,.v Q2 b23] (some (A 9300))),(9050,.arr 33 aN b4),(9051,.mp Q0 Q7 b6),(9052,.arr 3 Q0 b11),(9053,.arr 141 (Enc.pr Enc.bool (Enc.pr Enc.bool (Enc.sl (Enc.int .u8)))) b17)] (.v Q8 r.1) (iI 9000 (some (A 9000)) 9100 (some (A 9100)) 9300 (some (A 9300)) 400 401 402 403 b0 b1 b2 b3 b4 b5 b6 b7 b8 b9 b10 b11 r.2.1 r.2.2.1 r.2.2.2.1 r.2.2.2.2.1 r.2.2.2.2.2.1 b17 b18 b19 r.2.2.2.2.2.2.1 r.2.2.2.2.2.2.2):=by
 refine ConM.of Tryz.func16 Y Tryz.ntmps16 Y ?_;intro S w R z;unfold fL at h;refine aL [0,1] ?_;refine aJ (.a 5 ?_);refine .k (bE Jy (.cons (Z.cst (u:=(.pointer none)) Y) (.cons (Z.int .i64) (.cons (Z.int .i64) (.cons (Z.int .i64) .nil)))) (.cons Y (.dir Y) Y Y Y Y .nil)) (.k (bE Jz (.cons (Z.int .i64) (.cons (Z.int .i64) .nil)) (.cons Y (.dir Y) Y Y Y Y .nil)) (.k (bE Zg (.cons (Z.cst (u:=(.pointer none)) Y) (.cons (Z.int .i64) (.cons (Z.int .i64) (.cons (Z.int .i64) (.cons (Z.int .i64) (.cons (Z.pr (Z.int .i64) (Z.int .i64)) .nil)))))) (.agg 0 4 Y Y Y Y Y Y (.cons Y (.dir Y) Y Y Y Y (.cons Y (.agg Y (.same (.same .nil)) (.prm (.one _ _) (.one _ _)) Y) Y Y Y Y .nil)))) ?_));refine .a 2 ?_;refine .t (uR 13 6 Y Y Y Y Y Y Y S72) (.f [0,1] ?_);obtain⟨C,B,h⟩:=aB h;refine aJ (.a 5 ?_);refine .t (eA [9000,9100,9300,9050,9051,9052,9053] (uW [(9000,9000),(9100,9100),(9200,9300),(9050,9050),(9051,9051),(9052,9052),(9053,9053),(400,101),(401,102),(402,103),(403,104)]) (cU Y) (fun A=>rI A B) C22 (fun A=>(.box Y (.box Y (.box Y (.arr (.mp (.arr (.arr .nil Y) Y) Y) Y) Y) Y) Y))) (.f [0,1,4] ?_);cases h;exact aG (eG z Y (aC [(403,104),(402,103),(401,102),(400,101)]))
end Go.Cn
set_option maxRecDepth 100000
set_option maxHeartbeats 4000000
namespace Go.Cn
open Go Go.Sw Go.Mo Go.Proofs
variable {gobj:Obj}
theorem Al(A:Nat->Nat){a1 b0 b1 b2 b3 b4 b5 b6 b7 b8 b9 b10 b11 b12 b13 b14 b15 b16 b17 b18 b19 b20 b21 r}(h:jT a1 b0 b1 b2 b3 b4 b5 b6 b7 b8 b9 b10 b11 b12 b13 b14 b15 b16 b17 b18 b19 b20 b21=some r):
 ConM Tryz.prog 42 [.ptr 9000 0,.v sA a1] (iI 9000 (some (A 9000)) 9100 (some (A 9100)) 9200 (some (A 9200)) 9050 9051 9052 9053 b0 b1 b2 b3 b4 b5 b6 b7 b8 b9 b10 b11 b12 b13 b14 b15 b16 b17 b18 b19 b20 b21) (.tup [.v aN r.1,.v Q8 r.2.1]) (iI 9000 (some (A 9000)) 301 none 302 none 400 401 402 403 r.2.2.1 r.2.2.2.1 r.2.2.2.2.1 r.2.2.2.2.2.1 r.2.2.2.2.2.2.1 r.2.2.2.2.2.2.2.1 r.2.2.2.2.2.2.2.2.1 r.2.2.2.2.2.2.2.2.2.1 r.2.2.2.2.2.2.2.2.2.2.1 r.2.2.2.2.2.2.2.2.2.2.2.1 r.2.2.2.2.2.2.2.2.2.2.2.2.1 r.2.2.2.2.2.2.2.2.2.2.2.2.2.1 r.2.2.2.2.2.2.2.2.2.2.2.2.2.2.1 r.2.2.2.2.2.2.2.2.2.2.2.2.2.2.2.1 r.2.2.2.2.2.2.2.2.2.2.2.2.2.2.2.2.1 r.2.2.2.2.2.2.2.2.2.2.2.2.2.2.2.2.2.1 r.2.2.2.2.2.2.2.2.2.2.2.2.2.2.2.2.2.2.1 r.2.2.2.2.2.2.2.2.2.2.2.2.2.2.2.2.2.2.2.1 r.2.2.2.2.2.2.2.2.2.2.2.2.2.2.2.2.2.2.2.2.1 r.2.2.2.2.2.2.2.2.2.2.2.2.2.2.2.2.2.2.2.2.2.1 r.2.2.2.2.2.2.2.2.2.2.2.2.2.2.2.2.2.2.2.2.2.2.1 r.2.2.2.2.2.2.2.2.2.2.2.2.2.2.2.2.2.2.2.2.2.2.2):=by
 refine ConM.of Tryz.func42 Y Tryz.ntmps42 Y ?_;intro S w R D;unfold jT at h;refine aJ (.k (bU 101 Y (.prm (.one _ _) (.prm (.one _ _) (.prm (.one _ _) (.one _ _)))) Y) (.k (aM 102 Az Y (.cons (Z.arr 8 (Z.int .u8)) .nil) Y) (.f [0,4] ?_)));refine aF ?_;obtain⟨z,E,h⟩:=aB h;rcases hz2:z.1 with _ | P
 ·replace h:=uP hz2 h;refine dI 16 mixed (by exact(.k (aD Y) (.k (aK Y) (.k (aA 18 Y Qv Y S72 Y Y) (.k (aA 18 Y U72 Y Jk Y Y) (.k (aA 18 Y Dx Y Gl Y Y) (.k (aI Y Y Y Lq Gl) (.k (aD Y) (.k (aK Y) (.k (aA 0 Y Qv Y S3 Y Y) (.k (aI Y Y Y G3 S3) (JP4.callM (.none Y) (H:=[9200]) (K:=[9200]) (Av [(9000,9200)]) (dY _) (fun A=>tX A hz2 E) C41 (.cons (.dir Y) (.cons (.dir Y) .nil)) (fun A=>(.box Y .nil)) (fun A=>(.box Y .nil Y)) (fun _=>rfl) Y Y (fun _=>rfl) Y Y (.k (aD Y) (.pu (.none Y) Y (fun _ _=>bH Y Y) (.pu (.none Y) Y (fun _ _=>bH Y Y) (.k (bB Y) (.k (bB Y) .nil))))))))))))))))) (by exact(J.kp [0,4,6,7] [])) ?_;refine jD (.a 1 ?_);refine .k (gU Ls Y) (.f [0,4,6,7,23] ?_);obtain⟨G,I,h⟩:=gC h;refine uT (fun F:Unit=>⟨[(0,.ptr 9000 0),(4,.ptr 102 0),(7,.v Q8 z.2.1)],((102,.box 33 [.v aN aU])::iI 9000 (some (A 9000)) 9100 (some (A 9100)) 9200 (some (A 9200)) 9050 9051 9052 9053 b0 b1 b2 b3 b4 b5 b6 b7 b8 b9 b10 b11 b12 b13 b14 b15 b16 b17 b18 b19 z.2.2.1 z.2.2.2)⟩) (fun x=>G x=some r) Y ?_ ?_ ?_
  ·intro F h;rw[I] at h;refine aJ (.k (cT (e:=aN) (v:=aU) Ay vI I5 Y Y (Z.arr 8 (Z.int .u8))) (.f [0,4,5] ?_));refine aG ?_;obtain rfl:=pT h;exact mQ [(0,.ptr 9000 0),(4,.ptr 90 0),(5,.v Q8 z.2.1)] [(90,.box 33 [.v aN aU])] (aC [(90,102),(403,9053),(302,9200),(402,9052),(401,9051),(400,9050),(301,9100)]) (dA D Y (bY Y Y Y sS jU) (RV.tmp Y) (.cons Y (.cons Y (.cons Y (.cons Y (.cons Y (.cons Y (.cons Y .nil))))))))
  ·intro B;replace h:=jP B h;cases h
  ·intro B;replace h:=jQ B h;refine aH ?_;exact cF h (aC [])
 ·replace h:=uQ hz2 h;refine dI 16 mixed (by exact(.k (aD Y) (.k (aK Y) (.k (aA 18 Y Qv Y S72 Y Y) (.k (aA 18 Y U72 Y Jk Y Y) (.k (aA 18 Y Dx Y Gl Y Y) (.k (aI Y Y Y Lq Gl) (.k (aD Y) (.k (aK Y) (.k (aA 0 Y Qv Y S3 Y Y) (.k (aI Y Y Y G3 S3) (JP4.callM (.none Y) (H:=[9200]) (K:=[9200]) (Av [(9000,9200),(0,104)]) (dY _) (fun A=>tY A hz2 E) C41 (.cons (.dir Y) (.cons (.dir Y) .nil)) (fun A=>(.box Y .nil)) (fun A=>(.boxN (.box Y .nil Y) Y)) (fun _=>rfl) Y Y (fun _=>rfl) Y Y (.k (aD Y) (.pu (.none Y) Y (fun _ _=>bH Y Y) (.pu (.none Y) Y (fun _ _=>bH Y Y) (.k (bB Y) (.k (bB Y) .nil))))))))))))))))) (by exact(J.kp [0,4,6,7] [])) ?_;refine jD (.a 1 ?_);refine .k (gU Ls Y) (.f [0,4,6,7,23] ?_);obtain⟨L,M,h⟩:=gC h;refine uT (fun u:(Option Int)×Int×Int×Int×Int×(Int×Int)×Int×By=>⟨[(0,.ptr 9000 0),(4,.ptr 102 0),(7,.v Q8 u.1)],((102,.box 33 [.v aN aU])::iI 9000 (some (A 9000)) 9100 (some (A 9100)) 112 none 109 110 111 113 b0 b1 b2 b3 b4 b5 b6 b7 b8 b9 b10 b11 u.2.1 u.2.2.1 u.2.2.2.1 u.2.2.2.2.1 u.2.2.2.2.2.1 b17 b18 b19 u.2.2.2.2.2.2.1 u.2.2.2.2.2.2.2)⟩) (fun x=>L x=some r) Y ?_ ?_ ?_
  ·intro u h;rw[M] at h;refine aJ (.k (cT (e:=aN) (v:=aU) Ay vI I5 Y Y (Z.arr 8 (Z.int .u8))) (.f [0,4,5] ?_));refine aG ?_;obtain rfl:=pT h;exact mQ [(0,.ptr 9000 0),(4,.ptr 90 0),(5,.v Q8 u.1)] [(90,.box 33 [.v aN aU])] (aC [(90,102),(403,113),(302,112),(402,111),(401,110),(400,109),(301,9100)]) (dA D Y (bY Y Y Y sS jU) (RV.tmp Y) (.cons Y (.cons Y (.cons Y (.cons Y (.cons Y (.cons Y (.cons Y .nil))))))))
  ·intro C;replace h:=jP C h;obtain⟨O,N,h⟩:=aB h;refine fN (.a 2 ?_);refine .t (eA [9000,9100,9200,104,9050,9051,9052,9053] (uW [(9000,9000),(9100,9100),(9200,9200),(9300,104),(9050,9050),(9051,9051),(9052,9052),(9053,9053),(400,114),(401,115),(402,116),(403,117)]) (cU Y) (fun A=>vD A N) Tryz.call16 (fun A=>(.box Y (.box Y (.box Y (.arr (.mp (.arr (.arr .nil Y) Y) Y) Y) Y) Y) Y))) (.f [0,4,7] ?_);exact cF h (aC [(113,117),(112,104),(111,116),(110,115),(109,114)])
  ·intro C;replace h:=jQ C h;refine aH ?_;exact cF h (aC [(113,9053),(112,9200),(111,9052),(110,9051),(109,9050)])
theorem uL{a0 r}(h:oX a0=some r):
 Con Tryz.prog 70 [.v (Enc.slN (Enc.int .u8)) a0] (.ref 0) [(0,.arr 5 (Enc.int .u8) r)]:=by
 refine Con.of Tryz.func70 Y Tryz.ntmps70 Y ?_;intro S w u;unfold oX at h;refine aJ (.k (aR 101 5 (Enc.int .u8)) (.f [0] ?_));refine jD (.a 1 ?_);refine .k (wH Y sG) (.f [0,4] ?_);refine aT h Y (fun z h=>?_) (fun z h=>?_)
 ·refine aJ (.k (aR 102 5 (Enc.int .u8)) (.f [2] ?_));cases h;exact aG (vO u dD Y (aC [(0,102)]))
 refine aH ?_;obtain⟨B,A,h⟩:=aB h;refine aJ (.k (qM (e:=(Enc.int .u8)) 103 sG S5 Z5 Y Y Y Y .nil) ?_);refine .a 1 ?_;refine .t (bR 104 A Y Y (.slN Y) sG I5 S5 Y Y Y Y Y) (.f [2] ?_);cases h;exact aG (vO u dD Y (aC [(0,104)]))
theorem wZ{a0:iY}{r:iY}(h:mM a0=some r):
  Con Tryz.prog 70 [.v (Enc.sl (Enc.int .u8)) a0] (.ref 0) [(0,.arr 5 (Enc.int .u8) r)]:=
 qP fun b u=>uL (by cases b with | true=>rw[u rfl] at h ⊢;exact h | false=>exact Dg h)
theorem xL(A:Nat->Nat){a1 b0 b1 b2 b3 b4 b5 b6 b7 b8 b9 b10 b11 b12 b13 b14 b15 b16 b17 b18 b19 b20 b21 r}(h:dV a1 b0 b1 b2 b3 b4 b5 b6 b7 b8 b9 b10 b11 b12 b13 b14 b15 b16 b17 b18 b19 b20 b21=some r):
 ConM Tryz.prog 44 [.ptr 9000 0,.v sA a1] (iI 9000 (some (A 9000)) 9100 (some (A 9100)) 9200 (some (A 9200)) 9050 9051 9052 9053 b0 b1 b2 b3 b4 b5 b6 b7 b8 b9 b10 b11 b12 b13 b14 b15 b16 b17 b18 b19 b20 b21) (.v Q8 r.1) (iI 9000 (some (A 9000)) 9100 (some (A 9100)) 9200 (some (A 9200)) 400 401 402 403 b0 b1 b2 b3 b4 b5 b6 b7 b8 b9 b10 b11 b12 b13 b14 b15 b16 r.2 b18 b19 b20 b21):=by
 refine ConM.of Tryz.func44 Y Tryz.ntmps44 Y ?_;intro S w R B;unfold dV at h;refine aJ (.k (bU 101 Y (.prm (.one _ _) (.prm (.one _ _) (.prm (.one _ _) (.one _ _)))) Y) (.f [0,3] ?_));obtain⟨C,N,h⟩:=aB h;refine aJ (.a 3 ?_);refine .t (eA [9000,9100,9200,9050,9051,9052,9053] (uW [(9000,9000),(9100,9100),(9200,9200),(9050,9050),(9051,9051),(9052,9052),(9053,9053),(400,102),(401,103),(402,104),(403,105)]) (cU Y) (fun A=>jM A N) C65 (fun A=>(.box Y (.box Y (.box Y (.arr (.mp (.arr (.arr .nil Y) Y) Y) Y) Y) Y) Y))) (.f [0,3,5,6] ?_);refine aF ?_;refine aF ?_;obtain⟨O,u,h⟩:=aB h;refine dL (σ':=⟨[(0,.ptr 9000 0),(3,.ptr 101 0),(5,.v Q0 C.1),(26,.v Enc.bool O)],((101,.box 37 [.v Q0 a1.1,.v Q0 a1.2.1,.v Q0 a1.2.2.1,.v aN a1.2.2.2])::iI 9000 (some (A 9000)) 9100 (some (A 9100)) 9200 (some (A 9200)) 102 103 104 105 b0 b1 b2 b3 b4 b5 b6 b7 b8 b9 b10 b11 b12 b13 b14 b15 b16 b17 b18 b19 b20 b21)⟩) ?_ ?_
 ·refine cd u (fun z u=>?_) (fun z u=>?_)
  ·cases u;exact jy
  obtain⟨V,D,u⟩:=aB u;cases u;refine ja 8 ?_;exact(J.g z (iJ D Y Y Y Hy uZ) (J.g z (zX 1 Y aD1 Y S4 Y Y) (J.g z (jC (cX D).2.2 Y Y (.snd (.fst .here)) Tryz.isAgg4 S4) jy)))
 refine aT h Y (fun M h=>?_) (fun M h=>?_)
 ·refine aL [0,4] ?_;cases h;exact aG (eG B Y (aC [(403,105),(402,104),(401,103),(400,102)]))
 refine aH ?_;obtain⟨X,E,h⟩:=aB h;obtain⟨F,P,h⟩:=aB h;refine aJ (.a 5 ?_);refine .k (iJ E Y Y Y Hy uZ) (.k (zX 2 Y aD1 Y Te Y Y) (.k (jC (cX E).2.2 Y Y (.snd (.snd .here)) aDw Te) (.k (eU 106000 (wZ P) Tryz.call70 (.cons (.dir Y) .nil) Y) (.f [0,3,5,7] ?_))));refine aF ?_;obtain⟨aa,Q,h⟩:=aB h;obtain⟨T,G,h⟩:=aB h;obtain⟨U,H,h⟩:=aB h;obtain⟨ab,I,h⟩:=aB h;refine dI 19 mixed (by exact(.k (aD Y) (.k (aA 2 Y U37 Y S3 Y Y) (.k (aI Y Y Y G3 S3) (.k (aA 2 Y U37 Y S3 Y Y) (.k (aI Y Y Y G3 S3) (.k (cO Y Y Y) (.k (aCs Y) (.k (Aa Y Y) (.k (aD Y) (.k (Pz Y Y sG) (.k (aCr (.inr Y) (Yi Q) Y Y) (.k (iJ G Y Y Y sG S5) (.k (jC (cX G).2.2 Y Y .here G5 S5) (.k (aA 3 Y U37 Y jU Y Y) (.k (uB H Y Y Y Y vI S5) (.k (uC (cX H).2.2 Y Y Y G5 S5) (.k (cO Y Y Y) (.k (cO Y Y Y) (.k (iJ I Y Y Y sG S5) .nil)))))))))))))))))))) (by exact(J.t (qB (cX I).2.2 Y Y Y S5) (J.kp [0,5,7] []))) ?_;refine aF ?_;refine vM (σ':=⟨[(0,.ptr 9000 0),(5,.v Q0 C.1),(7,.v (Enc.sl (Enc.int .u8)) (List.set F (Int.toNat (ar .rem .i64 (max a1.2.2.1 (IntKind.wrap .i64 (0 - (ar .add .i64 a1.2.2.1 (1:Int))))) (F.length:Int))) (ar .xor .u8 T (ar .or .u8 U (1:Int)))))],(iI 9000 (some (A 9000)) 9100 (some (A 9100)) 9200 (some (A 9200)) 102 103 104 105 b0 b1 b2 b3 b4 b5 b6 b7 b8 b9 b10 b11 b12 b13 b14 b15 b16 b17 b18 b19 b20 b21)⟩) (aC []) ?_;obtain⟨ac,K,h⟩:=aB h;obtain⟨ad,L,h⟩:=aB h;refine dI 16 mixed (by exact(.k (aD Y) (.k (aK Y) (.k (aA 25 Y Qv Y S73 Y Y) (.k (aI Y Y Y G73 S73) (.k (aD Y) (.k (aD Y) (.k (aK Y) (.k (aA 25 Y Qv Y S73 Y Y) (.k (aI Y Y Y G73 S73) (.k (aD Y) (.k (iJ K Y Y Y Hy uZ) (.k (zX 0 Y aD1 Y S4 Y Y) (.k (jC (cX K).2.2 Y Y (.fst .here) Tryz.isAgg4 S4) (.k (aD Y) (.k (Ae (bE Th (.cons Z.bool (.cons Z.bool (.cons (Z.sl (Enc.int .u8)) .nil))) (.cons Y (.dir Y) Y Y Y Y (.cons Y (.dir Y) Y Y Y Y (.cons Y (.dir Y) Y Y Y Y .nil)))) (.prm (.one _ _) (.prm (.one _ _) (.one _ _))) Y) (.k (iJ L Y Y Y Hy uZ) .nil))))))))))))))))) (by exact(J.t (qB (cX L).2.2 Y Y Y uZ) (J.kp [0] []))) ?_;refine aL [0,4] ?_;cases h;exact aG (eG B Y (aC [(403,105),(402,104),(401,103),(400,102)]))
theorem Am(A:Nat->Nat){a1 b0 b1 b2 b3 b4 b5 b6 b7 b8 b9 b10 b11 b12 b13 b14 b15 b16 b17 b18 b19 b20 b21 r}(h:lX a1 b0 b1 b2 b3 b4 b5 b6 b7 b8 b9 b10 b11 b12 b13 b14 b15 b16 b17 b18 b19 b20 b21=some r):
 ConM Tryz.prog 43 [.ptr 9000 0,.v sA a1] (iI 9000 (some (A 9000)) 9100 (some (A 9100)) 9200 (some (A 9200)) 9050 9051 9052 9053 b0 b1 b2 b3 b4 b5 b6 b7 b8 b9 b10 b11 b12 b13 b14 b15 b16 b17 b18 b19 b20 b21) (.tup [.v aN r.1,.v Q8 r.2.1]) (iI 9000 (some (A 9000)) 301 none 302 none 400 401 402 403 r.2.2.1 r.2.2.2.1 r.2.2.2.2.1 r.2.2.2.2.2.1 r.2.2.2.2.2.2.1 r.2.2.2.2.2.2.2.1 r.2.2.2.2.2.2.2.2.1 r.2.2.2.2.2.2.2.2.2.1 r.2.2.2.2.2.2.2.2.2.2.1 r.2.2.2.2.2.2.2.2.2.2.2.1 r.2.2.2.2.2.2.2.2.2.2.2.2.1 r.2.2.2.2.2.2.2.2.2.2.2.2.2.1 r.2.2.2.2.2.2.2.2.2.2.2.2.2.2.1 r.2.2.2.2.2.2.2.2.2.2.2.2.2.2.2.1 r.2.2.2.2.2.2.2.2.2.2.2.2.2.2.2.2.1 r.2.2.2.2.2.2.2.2.2.2.2.2.2.2.2.2.2.1 r.2.2.2.2.2.2.2.2.2.2.2.2.2.2.2.2.2.2.1 r.2.2.2.2.2.2.2.2.2.2.2.2.2.2.2.2.2.2.2.1 r.2.2.2.2.2.2.2.2.2.2.2.2.2.2.2.2.2.2.2.2.1 r.2.2.2.2.2.2.2.2.2.2.2.2.2.2.2.2.2.2.2.2.2.1 r.2.2.2.2.2.2.2.2.2.2.2.2.2.2.2.2.2.2.2.2.2.2.1 r.2.2.2.2.2.2.2.2.2.2.2.2.2.2.2.2.2.2.2.2.2.2.2):=by
 refine ConM.of Tryz.func43 Y Tryz.ntmps43 Y ?_;intro S w R u;unfold lX at h;refine aJ (.k (bU 101 Y (.prm (.one _ _) (.prm (.one _ _) (.prm (.one _ _) (.one _ _)))) Y) (.k (aM 102 Az Y (.cons (Z.arr 8 (Z.int .u8)) .nil) Y) (.f [0,3,4] ?_)));obtain⟨z,B,h⟩:=aB h;refine aJ (.k (cT (e:=aN) (v:=aU) Ay vI I5 Y Y (Z.arr 8 (Z.int .u8))) ?_);refine .a 1 ?_;refine .k (aX Y Y (.prm (.one _ _) (.prm (.one _ _) (.prm (.one _ _) (.one _ _)))) G37 S37) (.t (eA [9000,9100,9200,9050,9051,9052,9053] (uW [(9000,9000),(9100,9100),(9200,9200),(9050,9050),(9051,9051),(9052,9052),(9053,9053),(400,103),(401,104),(402,105),(403,106)]) (cU Y) (fun A=>xL A B) Tryz.call44 (fun A=>(.box Y (.box Y (.box Y (.arr (.mp (.arr (.arr .nil Y) Y) Y) Y) Y) Y) Y))) (.f [0,4,5] ?_));refine aG ?_;obtain rfl:=pT h;exact mQ [(0,.ptr 9000 0),(4,.ptr 90 0),(5,.v Q8 z.1)] [(90,.box 33 [.v aN aU])] (aC [(90,102),(403,106),(302,9200),(402,105),(401,104),(400,103),(301,9100)]) (dA u Y (bY Y Y Y sS jU) (RV.tmp Y) (.cons Y (.cons Y (.cons Y (.cons Y (.cons Y (.cons Y (.cons Y .nil))))))))
theorem aEf{i:Nat}{a1:(Int×Int×Int×aQ)}{b0:Int}{b1:Int}{b2:Int}{b3:Int}{b4:jA}{b5:(Int×Q6×Gk×Bool)}{b6:(List (Int×jA))}{b7:Int}{b8:(Int×Int×Nc)}{b9:Int}{b10:Int}{b11:iY}{b12:Int}{b13:Int}{b14:Int}{b15:Int}{b16:(Int×Int)}{b17:(List (Bool×Bool×iY))}{b18:Int}{b19:By}{b20:Int}{b21:By}{r:aQ×(Option Int)×Int×Int×Int×Int×jA×(Int×Q6×Gk×Bool)×(List (Int×jA))×Int×(Int×Int×Nc)×Int×Int×iY×Int×Int×Int×Int×(Int×Int)×(List (Bool×Bool×iY))×Int×By×Int×By}(h:vG i a1 b0 b1 b2 b3 b4 b5 b6 b7 b8 b9 b10 b11 b12 b13 b14 b15 b16 b17 b18 b19 b20 b21=some r):
  ∃f,([25,27,28,30,32,34,36,38,40,42,43]:List Nat)[i]? =some f/\(∀args w,(callFunc f args).run Tryz.prog w= .ok (.enter f args) w)/\∀A:Nat->Nat,ConM Tryz.prog f [.ptr 9000 0,.v sA a1] (iI 9000 (some (A 9000)) 9100 (some (A 9100)) 9200 (some (A 9200)) 9050 9051 9052 9053 b0 b1 b2 b3 b4 b5 b6 b7 b8 b9 b10 b11 b12 b13 b14 b15 b16 b17 b18 b19 b20 b21) (.tup [.v aN r.1,.v Q8 r.2.1]) (iI 9000 (some (A 9000)) 301 none 302 none 400 401 402 403 r.2.2.1 r.2.2.2.1 r.2.2.2.2.1 r.2.2.2.2.2.1 r.2.2.2.2.2.2.1 r.2.2.2.2.2.2.2.1 r.2.2.2.2.2.2.2.2.1 r.2.2.2.2.2.2.2.2.2.1 r.2.2.2.2.2.2.2.2.2.2.1 r.2.2.2.2.2.2.2.2.2.2.2.1 r.2.2.2.2.2.2.2.2.2.2.2.2.1 r.2.2.2.2.2.2.2.2.2.2.2.2.2.1 r.2.2.2.2.2.2.2.2.2.2.2.2.2.2.1 r.2.2.2.2.2.2.2.2.2.2.2.2.2.2.2.1 r.2.2.2.2.2.2.2.2.2.2.2.2.2.2.2.2.1 r.2.2.2.2.2.2.2.2.2.2.2.2.2.2.2.2.2.1 r.2.2.2.2.2.2.2.2.2.2.2.2.2.2.2.2.2.2.1 r.2.2.2.2.2.2.2.2.2.2.2.2.2.2.2.2.2.2.2.1 r.2.2.2.2.2.2.2.2.2.2.2.2.2.2.2.2.2.2.2.2.1 r.2.2.2.2.2.2.2.2.2.2.2.2.2.2.2.2.2.2.2.2.2.1 r.2.2.2.2.2.2.2.2.2.2.2.2.2.2.2.2.2.2.2.2.2.2.1 r.2.2.2.2.2.2.2.2.2.2.2.2.2.2.2.2.2.2.2.2.2.2.2):=by
 match i,h with
 | 0,h=>exact⟨25,rfl,Tryz.call25,fun A=>Bl A h⟩
 | 1,h=>exact⟨27,rfl,Tryz.call27,fun A=>Bm A h⟩
 | 2,h=>exact⟨28,rfl,Tryz.call28,fun A=>Bn A h⟩
 | 3,h=>exact⟨30,rfl,Tryz.call30,fun A=>Bo A h⟩
 | 4,h=>exact⟨32,rfl,Tryz.call32,fun A=>Bq A h⟩
 | 5,h=>exact⟨34,rfl,Tryz.call34,fun A=>Br A h⟩
 | 6,h=>exact⟨36,rfl,Tryz.call36,fun A=>Bs A h⟩
 | 7,h=>exact⟨38,rfl,Tryz.call38,fun A=>Bt A h⟩
 | 8,h=>exact⟨40,rfl,Tryz.call40,fun A=>Bu A h⟩
 | 9,h=>exact⟨42,rfl,Tryz.call42,fun A=>Al A h⟩
 | 10,h=>exact⟨43,rfl,Tryz.call43,fun A=>Am A h⟩
 |_+11,h=>cases h
theorem zJ(A:Nat->Nat){a1 b0 b1 b2 b3 b4 b5 b6 b7 b8 b9 b10 b11 b12 b13 b14 b15 b16 b17 b18 b19 b20 b21 r}(h:fH a1 b0 b1 b2 b3 b4 b5 b6 b7 b8 b9 b10 b11 b12 b13 b14 b15 b16 b17 b18 b19 b20 b21=some r):
 ConM Tryz.prog 19 [.ptr 9000 0,.v Q9 a1] (iI 9000 (some (A 9000)) 9100 (some (A 9100)) 9200 (some (A 9200)) 9050 9051 9052 9053 b0 b1 b2 b3 b4 b5 b6 b7 b8 b9 b10 b11 b12 b13 b14 b15 b16 b17 b18 b19 b20 b21) (.tup [.v Q9 r.1,.v Q8 r.2]) (iI 9000 (some (A 9000)) 9100 (some (A 9100)) 9200 (some (A 9200)) 400 401 402 403 b0 b1 b2 b3 b4 b5 b6 b7 b8 b9 b10 b11 b12 b13 b14 b15 b16 b17 b18 b19 b20 b21):=by
 refine ConM.of Tryz.func19 Y Tryz.ntmps19 Y ?_;intro S w R z;unfold fH at h;refine aJ (.k (bU 101 Y (.prm (.one _ _) (.prm (.one _ _) (.prm (.one _ _) (.prm (.one _ _) (.prm (.one _ _) (.one _ _)))))) Y) (.k (aM 102 Z40 Y (.cons (Z.int .i64) (.cons (Z.arr 8 (Z.int .u8)) (.cons (Z.int .i64) (.cons (Z.int .i64) (.cons (Z.int .i64) (.cons (Z.sl aN) .nil)))))) Y) (.f [0,3,4] ?_)));obtain⟨u,B,h⟩:=aB h;refine aJ (.a 6 ?_);refine .k (pZ 103000 (kD B) C23 (.cons (.lendP Y Y (.prm (.one _ _) (.one _ _))) .nil) Y (FlatS.tup (.ref (.v .nil))) (FlatN.arr FlatN.nil)) (.f [0,3,4,6,7] ?_);refine aF ?_;refine aGq 26 [0,3,4,7] mixed ?_;refine aJ (.k (gO Y Y Y G40 Zb) (.f [0,4,5] ?_));refine aG ?_;obtain rfl:=pT h;exact mQ [(0,.ptr 9000 0),(4,.ptr 90 0),(5,.v Q8 u.2)] [(90,.box 40 [.v Q0 a1.1,.v aN a1.2.1,.v Q0 b2,.v Q0 b10,.v Q0 b13,.v Q7 u.1])] (aC [(90,102),(403,9053),(402,9052),(401,9051),(400,9050)]) (dA z Y (aS Y Y (.prm (.one _ _) (.prm (.one _ _) (.prm (.one _ _) (.prm (.one _ _) (.prm (.one _ _) (.one _ _)))))) G40 Zb) (RV.tmp Y) (.cons Y (.cons Y (.cons Y (.cons Y (.cons Y (.cons Y (.cons Y .nil))))))))
theorem Bv(A:Nat->Nat){a1 b0 b1 b2 b3 b4 b5 b6 b7 b8 b9 b10 b11 b12 b13 b14 b15 b16 b17 b18 b19 b20 b21 r}(h:gP a1 b0 b1 b2 b3 b4 b5 b6 b7 b8 b9 b10 b11 b12 b13 b14 b15 b16 b17 b18 b19 b20 b21=some r):
 ConM Tryz.prog 13 [.ptr 9000 0,.v sA a1] (iI 9000 (some (A 9000)) 9100 (some (A 9100)) 9200 (some (A 9200)) 9050 9051 9052 9053 b0 b1 b2 b3 b4 b5 b6 b7 b8 b9 b10 b11 b12 b13 b14 b15 b16 b17 b18 b19 b20 b21++[(7777,.dp (dB GV) gobj [])]) (.tup [.v Q9 r.1,.v Q8 r.2.1]) (iI 9000 (some (A 9000)) 301 none 302 none 400 401 402 403 r.2.2.1 r.2.2.2.1 r.2.2.2.2.1 r.2.2.2.2.2.1 r.2.2.2.2.2.2.1 r.2.2.2.2.2.2.2.1 r.2.2.2.2.2.2.2.2.1 r.2.2.2.2.2.2.2.2.2.1 r.2.2.2.2.2.2.2.2.2.2.1 r.2.2.2.2.2.2.2.2.2.2.2.1 r.2.2.2.2.2.2.2.2.2.2.2.2.1 r.2.2.2.2.2.2.2.2.2.2.2.2.2.1 r.2.2.2.2.2.2.2.2.2.2.2.2.2.2.1 r.2.2.2.2.2.2.2.2.2.2.2.2.2.2.2.1 r.2.2.2.2.2.2.2.2.2.2.2.2.2.2.2.2.1 r.2.2.2.2.2.2.2.2.2.2.2.2.2.2.2.2.2.1 r.2.2.2.2.2.2.2.2.2.2.2.2.2.2.2.2.2.2.1 r.2.2.2.2.2.2.2.2.2.2.2.2.2.2.2.2.2.2.2.1 r.2.2.2.2.2.2.2.2.2.2.2.2.2.2.2.2.2.2.2.2.1 r.2.2.2.2.2.2.2.2.2.2.2.2.2.2.2.2.2.2.2.2.2.1 r.2.2.2.2.2.2.2.2.2.2.2.2.2.2.2.2.2.2.2.2.2.2.1 r.2.2.2.2.2.2.2.2.2.2.2.2.2.2.2.2.2.2.2.2.2.2.2++[(7777,.dp (dB GV) gobj [])]):=by
 refine ConM.of Tryz.func13 Y Tryz.ntmps13 Y ?_;intro S w R I;unfold gP at h;refine aJ (.k (bU 101 Y (.prm (.one _ _) (.prm (.one _ _) (.prm (.one _ _) (.one _ _)))) Y) (.k (aM 102 Z40 Y (.cons (Z.int .i64) (.cons (Z.arr 8 (Z.int .u8)) (.cons (Z.int .i64) (.cons (Z.int .i64) (.cons (Z.int .i64) (.cons (Z.sl aN) .nil)))))) Y) (.f [0,3,4] ?_)));refine aJ (.k (bE aGw (.cons (Z.int .i64) (.cons (Z.arr 8 (Z.int .u8)) (.cons (Z.int .i64) (.cons (Z.int .i64) (.cons (Z.int .i64) (.cons (Z.sl aN) .nil)))))) .nil) (.k (aM 103 Z40 Y (.cons (Z.int .i64) (.cons (Z.arr 8 (Z.int .u8)) (.cons (Z.int .i64) (.cons (Z.int .i64) (.cons (Z.int .i64) (.cons (Z.sl aN) .nil)))))) Y) (.f [0,3,4,6] ?_)));refine aF ?_;refine aF ?_;obtain⟨O,B,h⟩:=aB h;refine dL (σ':=⟨[(0,.ptr 9000 0),(3,.ptr 101 0),(4,.ptr 102 0),(6,.ptr 103 0),(17,.v Enc.bool O)],((101,.box 37 [.v Q0 a1.1,.v Q0 a1.2.1,.v Q0 a1.2.2.1,.v aN a1.2.2.2])::(102,.box 40 [.v Q0 (0:Int),.v aN aU,.v Q0 (0:Int),.v Q0 (0:Int),.v Q0 (0:Int),.v Q7 ([]:jA)])::(103,.box 40 [.v Q0 (0:Int),.v aN aU,.v Q0 (0:Int),.v Q0 (0:Int),.v Q0 (0:Int),.v Q7 ([]:jA)])::(7777,.dp (dB GV) gobj [])::iI 9000 (some (A 9000)) 9100 (some (A 9100)) 9200 (some (A 9200)) 9050 9051 9052 9053 b0 b1 b2 b3 b4 b5 b6 b7 b8 b9 b10 b11 b12 b13 b14 b15 b16 b17 b18 b19 b20 b21)⟩) ?_ ?_
 ·refine cd B (fun M B=>?_) (fun M B=>?_)
  ·cases B;exact jy
  cases B;exact jy
 obtain⟨P,Q,h⟩:=gC h;refine uT (fun z:Int×Int×Int×Int×(Int×Q6×Gk×Bool)×Int×(Int×Int×Nc)×Int×Int×Int×Int×Int×Int×(Int×Int)×Int×aQ×Int×By×jA×(List (Int×jA))×iY×Int×By×(List (Bool×Bool×iY))=>⟨[(0,.ptr 9000 0),(4,.ptr 102 0),(6,.ptr 103 0)],((102,.box 40 [.v Q0 (0:Int),.v aN aU,.v Q0 (0:Int),.v Q0 (0:Int),.v Q0 (0:Int),.v Q7 ([]:jA)])::(103,.box 40 [.v Q0 z.2.2.2.2.2.2.2.2.2.2.2.2.2.2.1,.v aN z.2.2.2.2.2.2.2.2.2.2.2.2.2.2.2.1,.v Q0 (0:Int),.v Q0 (0:Int),.v Q0 (0:Int),.v Q7 ([]:jA)])::(7777,.dp (dB GV) gobj [])::iI 9000 (some (A 9000)) 120 none 124 none 121 122 123 125 z.1 z.2.1 z.2.2.1 z.2.2.2.1 z.2.2.2.2.2.2.2.2.2.2.2.2.2.2.2.2.2.2.1 z.2.2.2.2.1 z.2.2.2.2.2.2.2.2.2.2.2.2.2.2.2.2.2.2.2.1 z.2.2.2.2.2.1 z.2.2.2.2.2.2.1 z.2.2.2.2.2.2.2.1 z.2.2.2.2.2.2.2.2.1 z.2.2.2.2.2.2.2.2.2.2.2.2.2.2.2.2.2.2.2.2.1 z.2.2.2.2.2.2.2.2.2.1 z.2.2.2.2.2.2.2.2.2.2.1 z.2.2.2.2.2.2.2.2.2.2.2.1 z.2.2.2.2.2.2.2.2.2.2.2.2.1 z.2.2.2.2.2.2.2.2.2.2.2.2.2.1 z.2.2.2.2.2.2.2.2.2.2.2.2.2.2.2.2.2.2.2.2.2.2.2 z.2.2.2.2.2.2.2.2.2.2.2.2.2.2.2.2.1 z.2.2.2.2.2.2.2.2.2.2.2.2.2.2.2.2.2.1 z.2.2.2.2.2.2.2.2.2.2.2.2.2.2.2.2.2.2.2.2.2.1 z.2.2.2.2.2.2.2.2.2.2.2.2.2.2.2.2.2.2.2.2.2.2.1)⟩) (fun x=>P x=some r) Y ?_ ?_ ?_
 ·intro z h;rw[Q] at h;obtain⟨D,T,h⟩:=aB h;refine aJ (.a 1 ?_);refine .k (aX Y Y (.prm (.one _ _) (.prm (.one _ _) (.prm (.one _ _) (.prm (.one _ _) (.prm (.one _ _) (.one _ _)))))) G40 Zb) (.t (eA [9000,120,124,121,122,123,125] (uW [(9000,9000),(9100,120),(9200,124),(9050,121),(9051,122),(9052,123),(9053,125),(400,142),(401,143),(402,144),(403,145)]) (cU Y) (fun A=>zJ A T) Tryz.call19 (fun A=>(.box Y (.box Y (.box Y (.arr (.mp (.arr (.arr .nil Y) Y) Y) Y) Y) Y) Y))) ?_);refine .a 2 ?_;refine .t (bI Y Y Y Y (.prm (.one _ _) (.prm (.one _ _) (.prm (.one _ _) (.prm (.one _ _) (.prm (.one _ _) (.one _ _)))))) Zb) (.f [0,4,5] ?_);refine aG ?_;obtain rfl:=pT h;exact mQ [(0,.ptr 9000 0),(4,.ptr 90 0),(5,.v Q8 D.2)] [(90,.box 40 [.v Q0 D.1.1,.v aN D.1.2.1,.v Q0 D.1.2.2.1,.v Q0 D.1.2.2.2.1,.v Q0 D.1.2.2.2.2.1,.v Q7 D.1.2.2.2.2.2])] (aC [(90,102),(403,145),(302,124),(402,144),(401,143),(400,142),(301,120)]) (dA I Y (aS Y Y (.prm (.one _ _) (.prm (.one _ _) (.prm (.one _ _) (.prm (.one _ _) (.prm (.one _ _) (.one _ _)))))) G40 Zb) (RV.tmp Y) (.cons Y (.cons Y (.cons Y (.cons Y (.cons Y (.cons Y (.cons Y (.cons Y .nil)))))))))
 ·intro E;replace h:=jP E h;refine eB [0,4,6] ?_;exact cF h (aC [(125,9053),(124,9200),(123,9052),(122,9051),(121,9050),(120,9100)])
 ·intro E;replace h:=jQ E h;refine aF ?_;obtain⟨X,U,h⟩:=aB h;obtain⟨u,V,h⟩:=aB h;refine dI 12 mixed (by exact(.k (aA 0 Y U37 Y S3 Y Y) (.k (aI Y Y Y G3 S3) (.k (aO (Ib U) Tryz.call17 (.cons (.dir Y) .nil)) (.k (aD Y) (.k (aX Y Y (.prm (.one _ _) (.prm (.one _ _) (.prm (.one _ _) (.one _ _)))) G37 S37) (JP4.callMV (.none Y) (H:=[9000,9100,9200,9050,9051,9052,9053]) (K:=[9000]) (uW [(9000,9000),(9100,9100),(9200,9200),(9050,9050),(9051,9051),(9052,9052),(9053,9053),(301,135),(302,136),(400,137),(401,138),(402,139),(403,140)]) (cU Y) Y (aEf V) (.cons (.dir Y) (.cons (.dir Y) .nil)) (fun A=>(.box Y (.box Y (.box Y (.arr Y (.mp Y (.arr Y (.arr Y .nil)))))))) (fun A=>(.box Y (.boxN (.boxN (.arr (.mp (.arr (.arr .nil Y) Y) Y) Y) Y) Y) Y)) (fun _=>rfl) Y Y (fun _=>rfl) Y Y (.k (aD Y) (.pu (.none Y) Y (fun _ _=>bH Y Y) (.pu (.none Y) Y (fun _ _=>bH Y Y) (.k (aM 141 Az Y (.cons (Z.arr 8 (Z.int .u8)) .nil) Y) (JP4.store (.none Y) Y Y Y Y Y Y Y jU (.k (bB Y) .nil))))))))))))) (by exact(J.kp [0,4,6,7,8] [])) ?_;refine aF ?_;refine aF ?_;refine Yw (i:=103) Y fun L=>?_;refine vM (σ':=⟨[(0,.ptr 9000 0),(4,.ptr 102 0),(6,.ptr 103 0),(7,.ptr 141 0),(8,.v Q8 u.2.1)],((102,.box 40 [.v Q0 (0:Int),.v aN aU,.v Q0 (0:Int),.v Q0 (0:Int),.v Q0 (0:Int),.v Q7 ([]:jA)])::(103,.box 40 [.v Q0 (0:Int),.v aN aU,.v Q0 (0:Int),.v Q0 (0:Int),.v Q0 (0:Int),.v Q7 ([]:jA)] (some (L)))::(141,.box 33 [.v aN u.1])::(7777,.dp (dB GV) gobj [])::iI 9000 (some (A 9000)) 135 none 136 none 137 138 139 140 u.2.2.1 u.2.2.2.1 u.2.2.2.2.1 u.2.2.2.2.2.1 u.2.2.2.2.2.2.1 u.2.2.2.2.2.2.2.1 u.2.2.2.2.2.2.2.2.1 u.2.2.2.2.2.2.2.2.2.1 u.2.2.2.2.2.2.2.2.2.2.1 u.2.2.2.2.2.2.2.2.2.2.2.1 u.2.2.2.2.2.2.2.2.2.2.2.2.1 u.2.2.2.2.2.2.2.2.2.2.2.2.2.1 u.2.2.2.2.2.2.2.2.2.2.2.2.2.2.1 u.2.2.2.2.2.2.2.2.2.2.2.2.2.2.2.1 u.2.2.2.2.2.2.2.2.2.2.2.2.2.2.2.2.1 u.2.2.2.2.2.2.2.2.2.2.2.2.2.2.2.2.2.1 u.2.2.2.2.2.2.2.2.2.2.2.2.2.2.2.2.2.2.1 u.2.2.2.2.2.2.2.2.2.2.2.2.2.2.2.2.2.2.2.1 u.2.2.2.2.2.2.2.2.2.2.2.2.2.2.2.2.2.2.2.2.1 u.2.2.2.2.2.2.2.2.2.2.2.2.2.2.2.2.2.2.2.2.2.1 u.2.2.2.2.2.2.2.2.2.2.2.2.2.2.2.2.2.2.2.2.2.2.1 u.2.2.2.2.2.2.2.2.2.2.2.2.2.2.2.2.2.2.2.2.2.2.2)⟩) (aC []) ?_;obtain⟨C,B,h⟩:=aB h;refine dL (σ':=⟨[(0,.ptr 9000 0),(4,.ptr 102 0),(6,.ptr 103 0),(7,.ptr 141 0),(8,.v Q8 u.2.1),(36,.v Enc.bool C.1)],((102,.box 40 [.v Q0 (0:Int),.v aN aU,.v Q0 (0:Int),.v Q0 (0:Int),.v Q0 (0:Int),.v Q7 ([]:jA)])::(103,.box 40 [.v Q0 C.2,.v aN aU,.v Q0 (0:Int),.v Q0 (0:Int),.v Q0 (0:Int),.v Q7 ([]:jA)] (some (L)))::(141,.box 33 [.v aN u.1])::(7777,.dp (dB GV) gobj [])::iI 9000 (some (A 9000)) 135 none 136 none 137 138 139 140 u.2.2.1 u.2.2.2.1 u.2.2.2.2.1 u.2.2.2.2.2.1 u.2.2.2.2.2.2.1 u.2.2.2.2.2.2.2.1 u.2.2.2.2.2.2.2.2.1 u.2.2.2.2.2.2.2.2.2.1 u.2.2.2.2.2.2.2.2.2.2.1 u.2.2.2.2.2.2.2.2.2.2.2.1 u.2.2.2.2.2.2.2.2.2.2.2.2.1 u.2.2.2.2.2.2.2.2.2.2.2.2.2.1 u.2.2.2.2.2.2.2.2.2.2.2.2.2.2.1 u.2.2.2.2.2.2.2.2.2.2.2.2.2.2.2.1 u.2.2.2.2.2.2.2.2.2.2.2.2.2.2.2.2.1 u.2.2.2.2.2.2.2.2.2.2.2.2.2.2.2.2.2.1 u.2.2.2.2.2.2.2.2.2.2.2.2.2.2.2.2.2.2.1 u.2.2.2.2.2.2.2.2.2.2.2.2.2.2.2.2.2.2.2.1 u.2.2.2.2.2.2.2.2.2.2.2.2.2.2.2.2.2.2.2.2.1 u.2.2.2.2.2.2.2.2.2.2.2.2.2.2.2.2.2.2.2.2.2.1 u.2.2.2.2.2.2.2.2.2.2.2.2.2.2.2.2.2.2.2.2.2.2.1 u.2.2.2.2.2.2.2.2.2.2.2.2.2.2.2.2.2.2.2.2.2.2.2)⟩) ?_ ?_
  ·refine cd B (fun F B=>?_) (fun F B=>?_)
   ·cases B;refine ja 5 ?_;exact(J.g F (Sz Y Y Tryz.runUnderlying83) (Xy (GK.met 30 Y Y Y F) (aDt (i:=103) (G:=7777) aJd aG0 Tryz.call18 Y Y Y Y Y Y) jy))
   cases B;exact jy
  refine aT h Y (fun N h=>?_) (fun N h=>?_)
  ·refine aJ (.k (aX Y Y (.prm (.one _ _) (.prm (.one _ _) (.prm (.one _ _) (.prm (.one _ _) (.prm (.one _ _) (.one _ _)))))) G40 Zb) ?_);refine .a 1 ?_;refine .t (bI Y Y Y Y (.prm (.one _ _) (.prm (.one _ _) (.prm (.one _ _) (.prm (.one _ _) (.prm (.one _ _) (.one _ _)))))) Zb) (.f [0,4,5] ?_);refine aG ?_;refine Fw ?_;obtain rfl:=pT h;exact mQ [(0,.ptr 9000 0),(4,.ptr 90 0),(5,.v Q8 u.2.1)] [(90,.box 40 [.v Q0 ((C.2,aU,(0:Int),(0:Int),(0:Int),([]:jA)).1),.v aN ((C.2,aU,(0:Int),(0:Int),(0:Int),([]:jA)).2.1),.v Q0 ((C.2,aU,(0:Int),(0:Int),(0:Int),([]:jA)).2.2.1),.v Q0 ((C.2,aU,(0:Int),(0:Int),(0:Int),([]:jA)).2.2.2.1),.v Q0 ((C.2,aU,(0:Int),(0:Int),(0:Int),([]:jA)).2.2.2.2.1),.v Q7 ((C.2,aU,(0:Int),(0:Int),(0:Int),([]:jA)).2.2.2.2.2)])] (aC [(90,102),(403,140),(302,136),(402,139),(401,138),(400,137),(301,135)]) (dA I Y (aS Y Y (.prm (.one _ _) (.prm (.one _ _) (.prm (.one _ _) (.prm (.one _ _) (.prm (.one _ _) (.one _ _)))))) G40 Zb) (RV.tmp Y) (.cons Y (.cons Y (.cons Y (.cons Y (.cons Y (.cons Y (.cons Y (.cons Y .nil)))))))))
  refine aH ?_;refine eB [0,4,6] ?_;exact cF h (aC [(125,140),(124,136),(123,139),(122,138),(121,137),(120,135)])
def rO(r:(Option Q3)×(List (Int×aQ×Int×Int×Int×jA))×(Option Int)):Slot:=match r.1 with | none=> .tup [.v (Enc.cst (.pointer none) rfl) (),.v (Enc.sl Q9) r.2.1,.v Q8 r.2.2] | some z=> .tup [.ptr 300 0,.v (Enc.sl Q9) r.2.1,.v Q8 r.2.2]
def rP(A:Nat->Nat)(a0:Int)(a1:(List (Int×Int×Int×aQ)))(r:(Option Q3)×(List (Int×aQ×Int×Int×Int×jA))×(Option Int)):List (Nat×Ent):=match r.1 with | none=>[(7777,.dp (dB GV) gobj [])] | some z=>(iI 300 none 301 none 302 none 400 401 402 403 z.1 z.2.1 z.2.2.1 z.2.2.2.1 z.2.2.2.2.1 z.2.2.2.2.2.1 z.2.2.2.2.2.2.1 z.2.2.2.2.2.2.2.1 z.2.2.2.2.2.2.2.2.1 z.2.2.2.2.2.2.2.2.2.1 z.2.2.2.2.2.2.2.2.2.2.1 z.2.2.2.2.2.2.2.2.2.2.2.1 z.2.2.2.2.2.2.2.2.2.2.2.2.1 z.2.2.2.2.2.2.2.2.2.2.2.2.2.1 z.2.2.2.2.2.2.2.2.2.2.2.2.2.2.1 z.2.2.2.2.2.2.2.2.2.2.2.2.2.2.2.1 z.2.2.2.2.2.2.2.2.2.2.2.2.2.2.2.2.1 z.2.2.2.2.2.2.2.2.2.2.2.2.2.2.2.2.2.1 z.2.2.2.2.2.2.2.2.2.2.2.2.2.2.2.2.2.2.1 z.2.2.2.2.2.2.2.2.2.2.2.2.2.2.2.2.2.2.2.1 z.2.2.2.2.2.2.2.2.2.2.2.2.2.2.2.2.2.2.2.2.1 z.2.2.2.2.2.2.2.2.2.2.2.2.2.2.2.2.2.2.2.2.2++[(7777,.dp (dB GV) gobj [])])
theorem xU(A:Nat->Nat){a0 a1 r}(h:fZ a0 a1=some r):
 ConM Tryz.prog 10 [.v Q0 a0,.v (Enc.sl sA) a1] [(7777,.dp (dB GV) gobj [])] (rO r) (rP (gobj:=gobj) A a0 a1 r):=by
 refine ConM.of Tryz.func10 Y Tryz.ntmps10 Y ?_;intro S w R B;unfold fZ at h;refine aJ (.k (dQ Y) (.k (aR 101 40 Q9) (.f [0,1] ?_)));refine aF ?_;refine aF ?_;obtain⟨T,C,h⟩:=aB h;refine dL (σ':=⟨[(0,.v Q0 a0),(1,.v (Enc.sl sA) a1),(19,.v Enc.bool T)],[(7777,.dp (dB GV) gobj [])]⟩) ?_ ?_
 ·refine cd C (fun H C=>?_) (fun H C=>?_)
  ·cases C;exact jy
  cases C;exact jy
 refine aT h Y (fun I h=>?_) (fun I h=>?_)
 ·refine aJ (.a 1 ?_);refine .k (dQ Y) (.k (aR 102 40 Q9) (.f [4,5,6] ?_));cases h;exact aG (Lm B Y (aC []))
 refine aH ?_;refine cR [0,1,23] ?_;refine aT h Y (fun K h=>?_) (fun K h=>?_)
 ·refine aJ (.a 1 ?_);refine .k (dQ Y) (.k (aR 103 40 Q9) (.f [4,5,6] ?_));cases h;exact aG (Lm B Y (aC []))
 refine aH ?_;refine aF ?_;obtain⟨U,E,h⟩:=aB h;rcases hz7:U.1 with _ | z7
 ·replace h:=uP hz7 h;refine fN (.a 1 ?_);refine .k (aO (Fa hz7 E) Tryz.call12 (.cons (.dir Y) .nil)) (.f [1,7,8] ?_);refine cR [1,7,8,31] ?_;refine aT h Y (fun L h=>?_) (fun L h=>?_)
  ·refine aJ (.a 1 ?_);refine .k (dQ Y) (.k (aR 105 40 Q9) (.f [4,5,6] ?_));cases h;exact aG (Lm B Y (aC []))
  refine aH ?_;refine aJ (.k (aR 106 40 Q9) (.f [1,7,9] ?_));refine cR [7,9,33,34,35] ?_;obtain⟨ai,V,X,aj⟩:=bX h;refine jH (σs:=fun G:Unit=>⟨[(7,.v (Enc.cst (.pointer none) Y) ()),(9,.ref 106),(33,.v (Enc.sl sA) a1),(34,.v Q0 (a1.length:Int)),(35,.v Q0 (0:Int))],[(106,.arr 40 Q9 ([]:(List (Int×aQ×Int×Int×Int×jA)))),(7777,.dp (dB GV) gobj [])]⟩) (fun F:Unit=>⟨[(7,.v (Enc.cst (.pointer none) Y) ()),(9,.ref 106)],[(106,.arr 40 Q9 ([]:(List (Int×aQ×Int×Int×Int×jA)))),(7777,.dp (dB GV) gobj [])]⟩) V (aC []) ?_ ?_
  ·intro F D;have h:=X _ D;refine aL [4,5,6] ?_;cases h;exact aG (Lm B Y (aC []))
  intro G af h;refine aL [7,9,33,34,35,36] ?_;refine aF ?_;refine aT h Y (fun M h=>?_) (fun M h=>?_)
  ·refine aH ?_;refine aF ?_;refine bF ?_;obtain⟨ak,al,h⟩:=aB h;refine aJ (.a 2 ?_);refine .k (aM 109 Tryz.zeroValue37 Y (.cons (Z.int .i64) (.cons (Z.int .i64) (.cons (Z.int .i64) (.cons (Z.arr 8 (Z.int .u8)) .nil)))) Y) (.t (bI Y Y Y Y (.prm (.one _ _) (.prm (.one _ _) (.prm (.one _ _) (.one _ _)))) S37) (.f [7,9,11,33,34,35] ?_));refine aF ?_;cases h
  cases h;exact cN (cW (aC []))
 ·replace h:=uQ hz7 h;refine fN (.a 1 ?_);refine .k (eU 110000 (Fb hz7 E) Tryz.call12 (.cons (.dir Y) .nil) Y) (.f [1,7,8] ?_);refine cR [1,7,8,31] ?_;refine aT h Y (fun N h=>?_) (fun N h=>?_)
  ·refine aJ (.a 1 ?_);refine .k (dQ Y) (.k (aR 111 40 Q9) (.f [4,5,6] ?_));cases h;exact aG (Lm B Y (aC []))
  refine aH ?_;refine aJ (.k (aR 112 40 Q9) (.f [1,7,9] ?_));refine cR [7,9,33,34,35] ?_;obtain⟨am,aa,ab,ac⟩:=bX h;refine jH (σs:=fun u:Int×Int×Int×Int×Int×(Int×Q6×Gk×Bool)×Int×(Int×Int×Nc)×Int×Int×Int×Int×Int×Int×(Int×Int)×(List (Int×aQ×Int×Int×Int×jA))×Int×By×jA×(List (Int×jA))×iY×Int×By×(List (Bool×Bool×iY))=>⟨[(7,.ptr 110300 0),(9,.ref 154),(33,.v (Enc.sl sA) a1),(34,.v Q0 (a1.length:Int)),(35,.v Q0 u.1)],((154,.arr 40 Q9 u.2.2.2.2.2.2.2.2.2.2.2.2.2.2.2.1)::(7777,.dp (dB GV) gobj [])::iI 110300 none 155 none 159 none 156 157 158 160 u.2.1 u.2.2.1 u.2.2.2.1 u.2.2.2.2.1 u.2.2.2.2.2.2.2.2.2.2.2.2.2.2.2.2.2.2.1 u.2.2.2.2.2.1 u.2.2.2.2.2.2.2.2.2.2.2.2.2.2.2.2.2.2.2.1 u.2.2.2.2.2.2.1 u.2.2.2.2.2.2.2.1 u.2.2.2.2.2.2.2.2.1 u.2.2.2.2.2.2.2.2.2.1 u.2.2.2.2.2.2.2.2.2.2.2.2.2.2.2.2.2.2.2.2.1 u.2.2.2.2.2.2.2.2.2.2.1 u.2.2.2.2.2.2.2.2.2.2.2.1 u.2.2.2.2.2.2.2.2.2.2.2.2.1 u.2.2.2.2.2.2.2.2.2.2.2.2.2.1 u.2.2.2.2.2.2.2.2.2.2.2.2.2.2.1 u.2.2.2.2.2.2.2.2.2.2.2.2.2.2.2.2.2.2.2.2.2.2.2 u.2.2.2.2.2.2.2.2.2.2.2.2.2.2.2.2.1 u.2.2.2.2.2.2.2.2.2.2.2.2.2.2.2.2.2.1 u.2.2.2.2.2.2.2.2.2.2.2.2.2.2.2.2.2.2.2.2.2.1 u.2.2.2.2.2.2.2.2.2.2.2.2.2.2.2.2.2.2.2.2.2.2.1)⟩) (fun z:Int×Int×Int×Int×(Int×Q6×Gk×Bool)×Int×(Int×Int×Nc)×Int×Int×Int×Int×Int×Int×(Int×Int)×(List (Int×aQ×Int×Int×Int×jA))×Int×By×jA×(List (Int×jA))×iY×Int×By×(List (Bool×Bool×iY))=>⟨[(7,.ptr 110300 0),(9,.ref 154)],((154,.arr 40 Q9 z.2.2.2.2.2.2.2.2.2.2.2.2.2.2.1)::(7777,.dp (dB GV) gobj [])::iI 110300 none 155 none 159 none 156 157 158 160 z.1 z.2.1 z.2.2.1 z.2.2.2.1 z.2.2.2.2.2.2.2.2.2.2.2.2.2.2.2.2.2.1 z.2.2.2.2.1 z.2.2.2.2.2.2.2.2.2.2.2.2.2.2.2.2.2.2.1 z.2.2.2.2.2.1 z.2.2.2.2.2.2.1 z.2.2.2.2.2.2.2.1 z.2.2.2.2.2.2.2.2.1 z.2.2.2.2.2.2.2.2.2.2.2.2.2.2.2.2.2.2.2.1 z.2.2.2.2.2.2.2.2.2.1 z.2.2.2.2.2.2.2.2.2.2.1 z.2.2.2.2.2.2.2.2.2.2.2.1 z.2.2.2.2.2.2.2.2.2.2.2.2.1 z.2.2.2.2.2.2.2.2.2.2.2.2.2.1 z.2.2.2.2.2.2.2.2.2.2.2.2.2.2.2.2.2.2.2.2.2.2 z.2.2.2.2.2.2.2.2.2.2.2.2.2.2.2.1 z.2.2.2.2.2.2.2.2.2.2.2.2.2.2.2.2.1 z.2.2.2.2.2.2.2.2.2.2.2.2.2.2.2.2.2.2.2.2.1 z.2.2.2.2.2.2.2.2.2.2.2.2.2.2.2.2.2.2.2.2.2.1)⟩) aa (aC [(154,112),(160,110403),(159,110302),(158,110402),(157,110401),(156,110400),(155,110301)]) ?_ ?_
  ·intro z D;have h:=ab _ D;refine aL [4,5,6] ?_;cases h;exact aG (Lm B Y (aC [(300,110300),(403,160),(302,159),(402,158),(401,157),(400,156),(301,155)]))
  intro u ah h;refine aL [7,9,33,34,35,36] ?_;refine aF ?_;refine aT h Y (fun O h=>?_) (fun O h=>?_)
  ·refine aH ?_;refine aF ?_;refine bF ?_;obtain⟨an,ao,h⟩:=aB h;refine aJ (.a 2 ?_);refine .k (aM 171 Tryz.zeroValue37 Y (.cons (Z.int .i64) (.cons (Z.int .i64) (.cons (Z.int .i64) (.cons (Z.arr 8 (Z.int .u8)) .nil)))) Y) (.t (bI Y Y Y Y (.prm (.one _ _) (.prm (.one _ _) (.prm (.one _ _) (.one _ _)))) S37) (.f [7,9,11,33,34,35] ?_));obtain⟨ap,ad,h⟩:=aB h;refine aJ (.a 1 ?_);refine .k (aX Y Y (.prm (.one _ _) (.prm (.one _ _) (.prm (.one _ _) (.one _ _)))) G37 S37) (.t (eA [110300,155,159,156,157,158,160,7777] (uW [(9000,110300),(9100,155),(9200,159),(9050,156),(9051,157),(9052,158),(9053,160),(7777,7777),(301,172),(302,173),(400,174),(401,175),(402,176),(403,177)]) (cU Y) (fun A=>Bv A ad) Tryz.call13 (fun A=>(.box Y (.boxN (.boxN (.arr (.mp (.arr (.arr (.dp .nil Y) Y) Y) Y) Y) Y) Y) Y))) ?_);refine .a 3 ?_;refine .k (aM 178 Z40 Y (.cons (Z.int .i64) (.cons (Z.arr 8 (Z.int .u8)) (.cons (Z.int .i64) (.cons (Z.int .i64) (.cons (Z.int .i64) (.cons (Z.sl aN) .nil)))))) Y) (.t (bI Y Y Y Y (.prm (.one _ _) (.prm (.one _ _) (.prm (.one _ _) (.prm (.one _ _) (.prm (.one _ _) (.one _ _)))))) Zb) (.f [7,9,12,13,33,34,35] ?_));refine cR [7,9,12,13,33,34,35,46] ?_;refine aT h Y (fun P h=>?_) (fun P h=>?_)
   ·refine aJ (.a 1 ?_);refine .k (dQ Y) (.k (aR 179 40 Q9) (.f [4,5,6] ?_));refine aG ?_;refine dZ ?_;cases h;refine gD fun Q=>?_;obtain rfl:=ac _ Q;exact Lm B Y (aC [])
   refine aH ?_;obtain⟨aq,ae,h⟩:=aB h;refine fN (.a 1 ?_);refine .k (aX Y Y (.prm (.one _ _) (.prm (.one _ _) (.prm (.one _ _) (.prm (.one _ _) (.prm (.one _ _) (.one _ _)))))) G40 Zb) (.k (dM (e:=Q9) U23 Zb Z40 Y Y Y Y (.cons (.dir Y) .nil)) (.t (bR 180 ae Y Y (.sl Y) U23 Tryz.typeInfo40 Zb Y Y Y Y Y) (.f [7,9,33,34,35] ?_)));refine bK ?_;refine eB [7,9,33,34,35] ?_;cases h;exact cE (aC [(154,180),(160,177),(159,173),(158,176),(157,175),(156,174),(155,172)])
  cases h;exact cN (cW (aC []))
theorem Eb(A:Nat->Nat){a0:Int}{a1:(List (Int×Int×Int×aQ))}{r:(Option Q3)×(List (Int×aQ×Int×Int×Int×jA))×(Option Int)}(hz:r.1=none)(h:fZ a0 a1=some r):ConM Tryz.prog 10 [.v Q0 a0,.v (Enc.sl sA) a1] [(7777,.dp (dB GV) gobj [])] (.tup [.v (Enc.cst (.pointer none) rfl) (),.v (Enc.sl Q9) r.2.1,.v Q8 r.2.2]) [(7777,.dp (dB GV) gobj [])]:=by
 have:=xU (gobj:=gobj) A h;unfold rO rP at this;rw[hz] at this;exact this
theorem Ec(A:Nat->Nat){a0:Int}{a1:(List (Int×Int×Int×aQ))}{r:(Option Q3)×(List (Int×aQ×Int×Int×Int×jA))×(Option Int)}{z:Q3}(hz:r.1=some z)(h:fZ a0 a1=some r):ConM Tryz.prog 10 [.v Q0 a0,.v (Enc.sl sA) a1] [(7777,.dp (dB GV) gobj [])] (.tup [.ptr 300 0,.v (Enc.sl Q9) r.2.1,.v Q8 r.2.2]) (iI 300 none 301 none 302 none 400 401 402 403 z.1 z.2.1 z.2.2.1 z.2.2.2.1 z.2.2.2.2.1 z.2.2.2.2.2.1 z.2.2.2.2.2.2.1 z.2.2.2.2.2.2.2.1 z.2.2.2.2.2.2.2.2.1 z.2.2.2.2.2.2.2.2.2.1 z.2.2.2.2.2.2.2.2.2.2.1 z.2.2.2.2.2.2.2.2.2.2.2.1 z.2.2.2.2.2.2.2.2.2.2.2.2.1 z.2.2.2.2.2.2.2.2.2.2.2.2.2.1 z.2.2.2.2.2.2.2.2.2.2.2.2.2.2.1 z.2.2.2.2.2.2.2.2.2.2.2.2.2.2.2.1 z.2.2.2.2.2.2.2.2.2.2.2.2.2.2.2.2.1 z.2.2.2.2.2.2.2.2.2.2.2.2.2.2.2.2.2.1 z.2.2.2.2.2.2.2.2.2.2.2.2.2.2.2.2.2.2.1 z.2.2.2.2.2.2.2.2.2.2.2.2.2.2.2.2.2.2.2.1 z.2.2.2.2.2.2.2.2.2.2.2.2.2.2.2.2.2.2.2.2.1 z.2.2.2.2.2.2.2.2.2.2.2.2.2.2.2.2.2.2.2.2.2++[(7777,.dp (dB GV) gobj [])]):=by
 have:=xU (gobj:=gobj) A h;unfold rO rP at this;rw[hz] at this;exact this
theorem Gs(A:Nat->Nat){a0 a1 r}(h:hC a0 a1=some r):
 ConM Tryz.prog 4 [.v Q0 a0,.v (Enc.sl sA) a1] [(7777,.dp (dB GV) gobj [])] (.tup [.v (Enc.sl Q9) r.1,.v Q8 r.2]) [(7777,.dp (dB GV) gobj [])]:=by
 refine ConM.of Tryz.func4 Y Tryz.ntmps4 Y ?_;intro S w R u;unfold hC at h;refine aJ (.k (kK Q9) (.f [0,1] ?_));refine aF ?_;obtain⟨B,z,h⟩:=aB h;rcases hz2:B.1 with _ | C
 ·replace h:=uP hz2 h;refine fN (.a 2 ?_);refine .t (eA [7777] (uW [(7777,7777)]) (cU Y) (fun A=>Eb A hz2 z) Tryz.call10 (fun A=>(.dp .nil Y))) (.f [7,8] ?_);refine aL [4,5] ?_;cases h;exact aG (dA u Y (RV.tmp Y) (RV.tmp Y) (.cons Y .nil))
 ·replace h:=uQ hz2 h;refine fN (.a 2 ?_);refine .t (eA [7777] (uW [(7777,7777),(300,101),(301,102),(302,103),(400,104),(401,105),(402,106),(403,107)]) (cU Y) (fun A=>Ec A hz2 z) Tryz.call10 (fun A=>(.boxN (.boxN (.boxN (.arr (.mp (.arr (.arr (.dp .nil Y) Y) Y) Y) Y) Y) Y) Y))) (.f [7,8] ?_);refine aL [4,5] ?_;cases h;exact aG (dA u Y (RV.tmp Y) (RV.tmp Y) (.cons Y .nil))
theorem Mf{a0 a1 r}(h:Ln a0 a1=some r):
 Con Tryz.prog 5 [.v Q8 a0,.v Q0 a1] (.v Enc.bool r) []:=by
 refine Con.of Tryz.func5 Y Tryz.ntmps5 Y ?_;intro S w z;unfold Ln at h;refine aL [0,1] ?_;refine jD (.a 1 ?_);refine .k (gU Ls Y) (.f [0,1,6] ?_);refine aT h Y (fun B h=>?_) (fun B h=>?_)
 ·refine aL [4] ?_;cases h;exact aG (aY z dD Y (RV.tmp Y) .nil Y)
 refine aH ?_;refine aF ?_;obtain⟨C,u,h⟩:=aB h;refine dL (σ':=⟨[(4,.v Enc.bool C)],[]⟩) ?_ ?_
 ·refine cd u (fun A u=>?_) (fun A u=>?_)
  ·cases u;refine ja 6 ?_;exact(J.g A (aAm Ls Tryz.runUnderlying28 Tryz.typeInfo28 Y Y Y) jy)
  cases u;exact jy
 cases h;exact aG (aY z dD Y (RV.tmp Y) .nil Y)
def tJ(r:(Option (jA×(List jA)))):Slot:=match r with | none=> .v (Enc.ptN (Enc.pr Q7 (Enc.sl Q7))) (none:(Option (jA×(List jA)))) | some z=> .ptr 2 0
def tK(r:(Option (jA×(List jA)))):List (Nat×Ent):=match r with | none=>[] | some z=>[(0,.arr 33 aN z.1),(1,.arr 38 Q7 z.2),(2,.box 45 [.ref 0,.ref 1])]
theorem xV{a0 r}(h:jZ a0=some r):
 Con Tryz.prog 6 [.v Q0 a0] (tJ r) (tK r):=by
 refine Con.of Tryz.func6 Y Tryz.ntmps6 Y ?_;intro S w u;unfold jZ at h;refine aJ (.k (jI (Enc.pr Q7 (Enc.sl Q7))) (.f [0] ?_));obtain⟨C,z,h⟩:=aB h;refine aJ (.a 1 ?_);refine .k (Vr 101 z Y Y Hx Ay jU Y Y (Z.arr 8 (Z.int .u8))) (.k (eT (new:=[(102,.arr 38 Q7 ([]:(List jA)))]) aGx (.cons (Z.sl aN) (.ref 102 Y .nil)) (.cons .nil) Y (.cons Y (.dir Y) Y Y Y Y .nil)) (.k (yR 103 Y Y) (.f [0,3] ?_)));refine aF ?_;obtain⟨D,A,h⟩:=aB h;obtain⟨E,B,h⟩:=aB h;refine dI 12 mixed (by exact(.k (aD Y) (.k (aD Y) (.k (aK Y) (.k (aA 1 Y Zd Y Zc Y Y) (.k (aI Y Y Y G43 Zc) (.k (aD Y) (.k (Oj (Vr 108 A Y Y Hx Ay jU Y Y (Z.arr 8 (Z.int .u8))) (fun _=>(Sw.Sub.mk id (.cons Y (.frz Y Y) .nil) .nil Y)) Y) (.k (dM (e:=Q7) U43 xC Z38 Y Y Y Y (.cons (.dir Y) .nil)) (JP4.append (.none Y) 109 B Y Y (.sl Y) U43 Tryz.typeInfo38 xC Y Y Y Y Y (.k (aK Y) (.k (aA 1 Y Zd Y Zc Y Y) (JP4.store (.none Y) Y Y Y Y Y Y Y Zc .nil))))))))))))) (by exact(J.kp [3] [])) ?_;refine aL [2] ?_;cases h;exact aG (vO u dD Y (aC [(2,103),(1,109),(0,101)]))
theorem Ed{a0:Int}{r:(Option (jA×(List jA)))}(hz:r=none)(h:jZ a0=some r):Con Tryz.prog 6 [.v Q0 a0] (.v (Enc.ptN (Enc.pr Q7 (Enc.sl Q7))) (none:(Option (jA×(List jA))))) []:=by
 have:=xV h;unfold tJ tK at this;rw[hz] at this;exact this
theorem Ee{a0:Int}{r:(Option (jA×(List jA)))}{z:(jA×(List jA))}(hz:r=some z)(h:jZ a0=some r):Con Tryz.prog 6 [.v Q0 a0] (.ptr 2 0) [(0,.arr 33 aN z.1),(1,.arr 38 Q7 z.2),(2,.box 45 [.ref 0,.ref 1])]:=by
 have:=xV h;unfold tJ tK at this;rw[hz] at this;exact this
theorem xW{a0 r}(h:iW a0=some r):
 Con Tryz.prog 11 [.v Q7 a0] (.ref 0) [(0,.arr 33 aN r)]:=by
 refine Con.of Tryz.func11 Y Tryz.ntmps11 Y ?_;intro S w u;unfold iW at h;refine aJ (.k (aR 101 33 aN) (.f [0] ?_));obtain⟨A,z,h⟩:=aB h;refine aJ (.k (qM (e:=aN) 102 Hx jU Az Y Y Y Y .nil) ?_);refine .a 1 ?_;refine .t (bR 103 z Y Y (.sl Y) Hx Ay jU Y Y Y Y Y) (.f [2] ?_);cases h;exact aG (vO u dD Y (aC [(0,103)]))
theorem vR{a0 r}(h:fM a0=some r):
 Con Tryz.prog 8 [.pst (Enc.pr Q7 (Enc.sl Q7)) a0] (.v Q0 r) []:=by
 refine Con.of Tryz.func8 Y Tryz.ntmps8 Y ?_;intro S w u;unfold fM at h;refine aL [0] ?_;refine aJ (.a 1 ?_);refine .k (qN Y) (.k (eI Y Zd Y Zc Y (.snd .here) Y) (.f [2] ?_));cases h;exact aG (aY u dD Y (RV.tmp Y) .nil Y)
theorem Ct(A:Nat->Nat){a0_0 a0_1 a1 r}(h:hO a0_0 a0_1 a1=some r):
 ConM Tryz.prog 7 [.ptr 9000 0,.v sA a1] [(9000,.box 45 [.ref 8950,.ref 8951] (some (A 9000))),(8950,.arr 33 aN a0_0),(8951,.arr 38 Q7 a0_1)] (.tup [.v Q0 r.1,.v aN r.2.1]) [(9000,.box 45 [.ref 8910,.ref 8911] (some (A 9000))),(8910,.arr 33 aN r.2.2.1),(8911,.arr 38 Q7 r.2.2.2)]:=by
 refine ConM.of Tryz.func7 Y Tryz.ntmps7 Y ?_;intro S w R z;unfold hO at h;refine aJ (.k (bU 101 Y (.prm (.one _ _) (.prm (.one _ _) (.prm (.one _ _) (.one _ _)))) Y) ?_);refine .a 1 ?_;refine .k (aM 102 Az Y (.cons (Z.arr 8 (Z.int .u8)) .nil) Y) (.f [0,3,5] ?_);refine aF ?_;refine aF ?_;obtain⟨x2,u,h⟩:=aB h;refine dL (σ':=⟨[(0,.ptr 9000 0),(3,.ptr 101 0),(5,.ptr 102 0),(13,.v Enc.bool x2)],[(9000,.box 45 [.ref 8950,.ref 8951] (some (A 9000))),(101,.box 37 [.v Q0 a1.1,.v Q0 a1.2.1,.v Q0 a1.2.2.1,.v aN a1.2.2.2]),(102,.box 33 [.v aN aU]),(8950,.arr 33 aN a0_0),(8951,.arr 38 Q7 a0_1)]⟩) ?_ ?_
 ·refine cd u (fun L u=>?_) (fun L u=>?_)
  ·cases u;exact jy
  cases u;exact jy
 refine aT h Y (fun M h=>?_) (fun M h=>?_)
 ·refine aJ (.k (cT (e:=aN) (v:=aU) Ay vI I5 Y Y (Z.arr 8 (Z.int .u8))) (.f [0,4,5] ?_));refine aG ?_;obtain rfl:=pT h;exact mQ [(0,.ptr 9000 0),(4,.v Q0 (3:Int)),(5,.ptr 91 0)] [(91,.box 33 [.v aN aU])] (aC [(91,102),(8911,8951),(8910,8950)]) (dA z Y (RV.tmp Y) (bY Y Y Y sS jU) (.cons Y (.cons Y (.cons Y .nil))))
 refine aH ?_;refine aF ?_;refine aF ?_;obtain⟨ab,u,h⟩:=aB h;refine Hm (σ':=⟨[(0,.ptr 9000 0),(3,.ptr 101 0),(5,.ptr 102 0),(42,.v Enc.bool ab)],[(9000,.box 45 [.ref 8950,.ref 8951] (some (A 9000))),(101,.box 37 [.v Q0 a1.1,.v Q0 a1.2.1,.v Q0 a1.2.2.1,.v aN a1.2.2.2]),(102,.box 33 [.v aN aU]),(8950,.arr 33 aN a0_0),(8951,.arr 38 Q7 a0_1)]⟩) ?_ ?_
 ·intro B;refine cd u (fun D u=>?_) (fun D u=>?_)
  ·refine cd u (fun N u=>?_) (fun N u=>?_)
   ·cases u;exact pU 28 mixed B
   cases u;exact pU 28 mixed B
  refine cd u (fun E u=>?_) (fun E u=>?_)
  ·refine cd u (fun O u=>?_) (fun O u=>?_)
   ·cases u;exact pU 28 mixed B
   cases u;exact pU 28 mixed B
  refine cd u (fun C u=>?_) (fun C u=>?_)
  ·refine cd u (fun P u=>?_) (fun P u=>?_)
   ·cases u;exact pU 28 mixed B
   cases u;exact pU 28 mixed B
  cases u;exact dI 28 mixed (by exact(.k (aA 0 Y U37 Y S3 Y Y) (.k (aI Y Y Y G3 S3) (.k (jO Y Y Y) (.k (aD Y) (.g D (aA 0 Y U37 Y S3 Y Y) (.g D (aI Y Y Y G3 S3) (.g D (jO Y Y Y) (.k (sK D Y Y) (.k (aD Y) (.g E (aA 0 Y U37 Y S3 Y Y) (.g E (aI Y Y Y G3 S3) (.g E (jO Y Y Y) (.k (sK E Y Y) (.k (aD Y) (.w C (.w C (.w C (.w C (.left (sW 32 Y Y Y) Y (.left (sW 32 Y Y Y) Y (.left (sW 32 Y Y Y) Y (.left (sW 32 Y Y Y) Y (.left (sW 32 Y Y Y) Y (.left (sW 32 Y Y Y) Y (.left (sW 32 Y Y Y) Y (.left (sW 32 Y Y Y) Y (.w C (.k (sK C Y Y) .nil))))))))))))))))))))))))))))) (by exact(J.fin (aC []))) B
 refine aT h Y (fun Q h=>?_) (fun Q h=>?_)
 ·refine aJ (.k (cT (e:=aN) (v:=aU) Ay vI I5 Y Y (Z.arr 8 (Z.int .u8))) (.f [0,4,5] ?_));refine aG ?_;obtain rfl:=pT h;exact mQ [(0,.ptr 9000 0),(4,.v Q0 (1:Int)),(5,.ptr 91 0)] [(91,.box 33 [.v aN aU])] (aC [(91,102),(8911,8951),(8910,8950)]) (dA z Y (RV.tmp Y) (bY Y Y Y sS jU) (.cons Y (.cons Y (.cons Y .nil))))
 refine aH ?_;refine cR [0,3,5,45] ?_;refine bF ?_;refine aL [0,3,5,45,46] ?_;refine aT h Y (fun T h=>?_) (fun T h=>?_)
 ·obtain⟨ai,G,h⟩:=aB h;refine dI 9 mixed (by exact(.k (aD Y) (.k (aK Y) (.k (aA 0 Y Zd Y xC Y Y) (.k (aI Y Y Y Rv xC) (.k (aA 1 Y U37 Y S3 Y Y) (.k (aI Y Y Y G3 S3) (.k (aA 3 Y U37 Y jU Y Y) (.k (aI Y Y Y sS jU) (.k (iJ G Y Y Y Hx jU) .nil)))))))))) (by exact(J.t (qB (cX G).2.2 Y Y Y jU) (J.kp [0,5] []))) ?_;refine bK ?_;refine aJ (.k (cT (e:=aN) (v:=aU) Ay vI I5 Y Y (Z.arr 8 (Z.int .u8))) (.f [0,4,5] ?_));refine aG ?_;obtain rfl:=pT h;exact mQ [(0,.ptr 9000 0),(4,.v Q0 (0:Int)),(5,.ptr 91 0)] [(91,.box 33 [.v aN aU])] (aC [(91,102),(8911,8951),(8910,8950)]) (dA z Y (RV.tmp Y) (bY Y Y Y sS jU) (.cons Y (.cons Y (.cons Y .nil))))
 refine aL [0,3,5,45,57] ?_;refine aT h Y (fun U h=>?_) (fun U h=>?_)
 ·obtain⟨aj,H,h⟩:=aB h;refine dI 8 mixed (by exact(.k (aD Y) (.k (aK Y) (.k (aA 0 Y Zd Y xC Y Y) (.k (aI Y Y Y Rv xC) (.k (aA 1 Y U37 Y S3 Y Y) (.k (aI Y Y Y G3 S3) (.k (cT (e:=aN) (v:=aU) Ay vI I5 Y Y (Z.arr 8 (Z.int .u8))) (.k (iJ H Y Y Y Hx jU) .nil))))))))) (by exact(J.t (qB (cX H).2.2 Y Y Y jU) (J.kp [0,5] []))) ?_;refine bK ?_;refine aJ (.k (cT (e:=aN) (v:=aU) Ay vI I5 Y Y (Z.arr 8 (Z.int .u8))) (.f [0,4,5] ?_));refine aG ?_;obtain rfl:=pT h;exact mQ [(0,.ptr 9000 0),(4,.v Q0 (0:Int)),(5,.ptr 91 0)] [(91,.box 33 [.v aN aU])] (aC [(91,102),(8911,8951),(8910,8950)]) (dA z Y (RV.tmp Y) (bY Y Y Y sS jU) (.cons Y (.cons Y (.cons Y .nil))))
 refine aL [0,3,5,45,67] ?_;refine aT h Y (fun V h=>?_) (fun V h=>?_)
 ·refine aF ?_;obtain⟨ac,I,h⟩:=aB h;refine dI 10 mixed (by exact(.k (aD Y) (.k (aK Y) (.k (aA 0 Y Zd Y xC Y Y) (.k (aI Y Y Y Rv xC) (.k (aA 1 Y U37 Y S3 Y Y) (.k (aI Y Y Y G3 S3) (.k (iJ I Y Y Y Hx jU) (.k (jC (cX I).2.2 Y Y .here sS jU) (.k (bB Y) (JP4.store (.none Y) Y Y Y Y Y Y Y jU .nil))))))))))) (by exact(J.kp [0,4,5] [])) ?_;refine aG ?_;refine dZ ?_;obtain rfl:=pT h;exact mQ [(0,.ptr 9000 0),(4,.v Q0 (0:Int)),(5,.ptr 91 0)] [(91,.box 33 [.v aN ac])] (aC [(91,102),(8911,8951),(8910,8950)]) (dA z Y (RV.tmp Y) (bY Y Y Y sS jU) (.cons Y (.cons Y (.cons Y .nil))))
 refine aL [0,5,45,77] ?_;refine aT h Y (fun X h=>?_) (fun X h=>?_)
 ·obtain⟨ak,ad,h⟩:=aB h;obtain⟨al,ae,h⟩:=aB h;refine dI 15 mixed (by exact(.k (aD Y) (.k (aD Y) (.k (aK Y) (.k (aA 1 Y Zd Y Zc Y Y) (.k (aI Y Y Y G43 Zc) (.k (aD Y) (.k (aK Y) (.k (aA 0 Y Zd Y xC Y Y) (.k (aI Y Y Y Rv xC) (.k (Oj (pZ 106000 (xW ad) Tryz.call11 (.cons (.ref Y Y) .nil) Y FlatS.ref (FlatN.arr FlatN.nil)) (fun _=>(Sw.Sub.mk id (.cons Y (.frz Y Y) .nil) .nil Y)) Y) (.k (dM (e:=Q7) U43 xC Z38 Y Y Y Y (.cons (.dir Y) .nil)) (JP4.append (.none Y) 107 ae Y Y (.sl Y) U43 Tryz.typeInfo38 xC Y Y Y Y Y (.k (aK Y) (.k (aA 1 Y Zd Y Zc Y Y) (JP4.store (.none Y) Y Y Y Y Y Y Y Zc .nil)))))))))))))))) (by exact(J.kp [0,5] [])) ?_;refine bK ?_;refine aJ (.k (cT (e:=aN) (v:=aU) Ay vI I5 Y Y (Z.arr 8 (Z.int .u8))) (.f [0,4,5] ?_));refine aG ?_;obtain rfl:=pT h;exact mQ [(0,.ptr 9000 0),(4,.v Q0 (0:Int)),(5,.ptr 91 0)] [(91,.box 33 [.v aN aU])] (aC [(91,102),(8911,107),(8910,8950)]) (dA z Y (RV.tmp Y) (bY Y Y Y sS jU) (.cons Y (.cons Y (.cons Y .nil))))
 refine aL [0,5,93] ?_;refine aT h Y (fun aa h=>?_) (fun aa h=>?_)
 ·obtain⟨am,af,h⟩:=aB h;obtain⟨an,K,h⟩:=aB h;obtain⟨ao,ah,h⟩:=aB h;refine dI 13 mixed (by exact(.k (aD Y) (.k (aD Y) (.k (aK Y) (.k (aA 1 Y Zd Y Zc Y Y) (.k (aI Y Y Y G43 Zc) (.k (aD Y) (JP4.callV0 (.none Y) [9000,8951,8950] (vR af) Tryz.call8 (fun σ2 hL F=>(.cons ((hL.ev (by simp[Op.operands,Call.operands])).trans Y) (.frzP ((F 9000 (by simp)).trans Y) Y (.cons (.frz ((F 8950 (by simp)).trans Y) Y) (.cons (.frz ((F 8951 (by simp)).trans Y) Y) .nil)) (.prm (.one _ _) (.one _ _))) .nil)) FlatS.v Y (.k (iJ K Y Y Y U43 xC) (.k (jC (cX K).2.2 Y Y .here Rv xC) (.k (eU 109000 (xW ah) Tryz.call11 (.cons (.dir Y) .nil) Y) (.k (aK Y) (.k (aA 0 Y Zd Y xC Y Y) (JP4.store (.none Y) Y Y Y Y Y Y Y xC .nil)))))))))))))) (by exact(J.kp [0,5] [])) ?_;refine bK ?_;refine aJ (.k (cT (e:=aN) (v:=aU) Ay vI I5 Y Y (Z.arr 8 (Z.int .u8))) (.f [0,4,5] ?_));refine aG ?_;obtain rfl:=pT h;exact mQ [(0,.ptr 9000 0),(4,.v Q0 (0:Int)),(5,.ptr 91 0)] [(91,.box 33 [.v aN aU])] (aC [(91,102),(8911,8951),(8910,109000)]) (dA z Y (RV.tmp Y) (bY Y Y Y sS jU) (.cons Y (.cons Y (.cons Y .nil))))
 refine aH ?_;refine bK ?_;refine aJ (.k (cT (e:=aN) (v:=aU) Ay vI I5 Y Y (Z.arr 8 (Z.int .u8))) (.f [0,4,5] ?_));refine aG ?_;obtain rfl:=pT h;exact mQ [(0,.ptr 9000 0),(4,.v Q0 (0:Int)),(5,.ptr 91 0)] [(91,.box 33 [.v aN aU])] (aC [(91,102),(8911,8951),(8910,8950)]) (dA z Y (RV.tmp Y) (bY Y Y Y sS jU) (.cons Y (.cons Y (.cons Y .nil))))
theorem Fg{a0 a1 r}(h:nK a0 a1=some r):
 Con Tryz.prog 9 [.v Q7 a0,.v Q7 a1] (.v Enc.bool r) []:=by
 refine Con.of Tryz.func9 Y Tryz.ntmps9 Y ?_;intro S w u;unfold nK at h;refine aL [0,1] ?_;refine cR [0,1,10] ?_;refine aT h Y (fun C h=>?_) (fun C h=>?_)
 ·refine aL [4] ?_;cases h;exact aG (aY u dD Y (RV.tmp Y) .nil Y)
 refine aH ?_;refine cR [0,1,5] ?_;obtain⟨N,G,H,I⟩:=bX h;refine jH (σs:=fun z:Int=>⟨[(0,.v Q7 a0),(1,.v Q7 a1),(5,.v Q0 z)],[]⟩) (fun A:Unit=>⟨[],[]⟩) G (aC []) ?_ ?_
 ·intro A B;have h:=H _ B;refine aL [4] ?_;cases h;exact aG (aY u dD Y (RV.tmp Y) .nil Y)
 intro z M h;refine cR [0,1,5,14] ?_;refine aT h Y (fun D h=>?_) (fun D h=>?_)
 ·refine aH ?_;refine aF ?_;refine bF ?_;refine aF ?_;obtain⟨O,K,h⟩:=aB h;obtain⟨P,L,h⟩:=aB h;refine dI 9 mixed (by exact(.k (aD Y) (.k (aD Y) (.k (pK K Y Y Hx jU) (.k (bQ Y sS jU) (.k (aD Y) (.k (aD Y) (.k (pK L Y Y Hx jU) (.k (bQ Y sS jU) (.k (Qf Nk Y Y Tryz.eqGuardType33 Y Y) .nil)))))))))) (by exact(J.kp [0,1,5,25] [])) ?_;refine aT h Y (fun E h=>?_) (fun E h=>?_)
  ·refine aL [4] ?_;refine aG ?_;refine dZ ?_;cases h;refine gD fun F=>?_;obtain rfl:=I _ F;exact aY u dD Y (RV.tmp Y) .nil Y
  refine aH ?_;refine bK ?_;refine eB [0,1,5] ?_;cases h;exact cE (aC [])
 cases h;exact cN (cW (aC []))
theorem Bw(A:Nat->Nat){a0 a1 r}(h:gQ a0 a1=some r):
 ConM Tryz.prog 3 [.v Q0 a0,.v (Enc.sl sA) a1] [(7777,.dp (dB GV) gobj [])] (.v Enc.bool r) [(7777,.dp (dB GV) gobj [])]:=by
 refine ConM.of Tryz.func3 Y Tryz.ntmps3 Y ?_;intro S w R K;unfold gQ at h;refine aL [0,1] ?_;obtain⟨F,ap,h⟩:=aB h;refine aJ (.a 2 ?_);refine .t (eA [7777] (uW [(7777,7777)]) (cU Y) (fun A=>Gs A ap) Tryz.call4 (fun A=>(.dp .nil Y))) (.f [0,1,5,6] ?_);refine aL [0,1,5,6,7] ?_;refine aF ?_;refine aF ?_;obtain⟨x3,u,h⟩:=aB h;refine dL (σ':=⟨[(0,.v Q0 a0),(1,.v (Enc.sl sA) a1),(5,.v (Enc.sl Q9) F.1),(6,.v Q8 F.2),(7,.v Q0 (0:Int)),(25,.v Enc.bool x3)],[(7777,.dp (dB GV) gobj [])]⟩) ?_ ?_
 ·refine cd u (fun ae u=>?_) (fun ae u=>?_)
  ·cases u;exact jy
  cases u;exact jy
 obtain⟨k7,aq,h⟩:=gC h;refine uT (fun T:Int=>⟨[(0,.v Q0 a0),(1,.v (Enc.sl sA) a1),(5,.v (Enc.sl Q9) F.1),(6,.v Q8 F.2),(7,.v Q0 T)],[(7777,.dp (dB GV) gobj [])]⟩) (fun x=>k7 x=some r) Y ?_ ?_ ?_
 ·intro T h;rw[aq] at h;refine cR [0,1,5,6,7,30] ?_;refine aT h Y (fun af h=>?_) (fun af h=>?_)
  ·refine aF ?_;obtain⟨au,u,h⟩:=aB h;refine dL (σ':=⟨[(4,.v Enc.bool au)],[(7777,.dp (dB GV) gobj [])]⟩) ?_ ?_
   ·obtain⟨ba,U,u⟩:=aB u;refine cd u (fun ah u=>?_) (fun ah u=>?_)
    ·cases u;refine ja 2 ?_;exact(J.k (aO (Mf U) Tryz.call5 (.cons (.dir Y) (.cons (.dir Y) .nil))) jy)
    cases u;refine ja 2 ?_;exact(J.k (aO (Mf U) Tryz.call5 (.cons (.dir Y) (.cons (.dir Y) .nil))) jy)
   cases h;exact aG (dN K Y (RV.tmp Y) (.cons Y .nil))
  refine aH ?_;refine aF ?_;refine aF ?_;obtain⟨av,u,h⟩:=aB h;refine dL (σ':=⟨[(0,.v Q0 a0),(1,.v (Enc.sl sA) a1),(5,.v (Enc.sl Q9) F.1),(47,.v Enc.bool av)],[(7777,.dp (dB GV) gobj [])]⟩) ?_ ?_
  ·refine cd u (fun ai u=>?_) (fun ai u=>?_)
   ·cases u;exact jy
   cases u;exact jy
  refine aT h Y (fun aj h=>?_) (fun aj h=>?_)
  ·refine aL [4] ?_;cases h;exact aG (dN K Y (RV.tmp Y) (.cons Y .nil))
  refine aH ?_;refine aF ?_;obtain⟨aw,V,h⟩:=aB h;rcases hz21:aw with _ | bk
  ·replace h:=uP hz21 h;refine fN (.a 1 ?_);refine .k (aO (Ed hz21 V) Tryz.call6 (.cons (.dir Y) .nil)) (.f [1,5,8] ?_);refine aL [1,5,8,9] ?_;refine cR [1,5,8,9,10] ?_;obtain⟨bb,ax,ay,bc⟩:=bX h;refine jH (σs:=fun ac:Unit=>⟨[(1,.v (Enc.sl sA) a1),(5,.v (Enc.sl Q9) F.1),(8,.v (Enc.ptN (Enc.pr Q7 (Enc.sl Q7))) (none:(Option (jA×(List jA))))),(9,.v Q0 (0:Int)),(10,.v Q0 (0:Int))],[(7777,.dp (dB GV) gobj [])]⟩) (fun ab:Unit=>⟨[],[(7777,.dp (dB GV) gobj [])]⟩) ax (aC []) ?_ ?_
   ·intro ab N;have h:=ay _ N;refine aL [4] ?_;cases h;exact aG (dN K Y (RV.tmp Y) (.cons Y .nil))
   intro ac a8 h;refine cR [1,5,8,9,10,53] ?_;refine aT h Y (fun ak h=>?_) (fun ak h=>?_)
   ·refine aH ?_;refine aF ?_;refine bF ?_;refine aF ?_;cases h
   cases h;exact cN (cW (aC []))
  ·replace h:=uQ hz21 h;refine fN (.a 1 ?_);refine .k (eU 104000 (Ee hz21 V) Tryz.call6 (.cons (.dir Y) .nil) Y) (.f [1,5,8] ?_);refine aL [1,5,8,9] ?_;refine cR [1,5,8,9,10] ?_;obtain⟨bd,az,a2,X⟩:=bX h;refine jH (σs:=fun G:Int×Int×jA×(List jA)=>⟨[(1,.v (Enc.sl sA) a1),(5,.v (Enc.sl Q9) F.1),(8,.ptr 104002 0),(9,.v Q0 G.1),(10,.v Q0 G.2.1)],[(104002,.box 45 [.ref 123,.ref 124]),(7777,.dp (dB GV) gobj []),(123,.arr 33 aN G.2.2.1),(124,.arr 38 Q7 G.2.2.2)]⟩) (fun ad:Unit=>⟨[],[(7777,.dp (dB GV) gobj [])]⟩) az (aC [(124,104001),(123,104000)]) ?_ ?_
   ·intro ad N;have h:=a2 _ N;refine aL [4] ?_;cases h;exact aG (dN K Y (RV.tmp Y) (.cons Y .nil))
   intro G a9 h;refine cR [1,5,8,9,10,53] ?_;refine aT h Y (fun al h=>?_) (fun al h=>?_)
   ·refine aH ?_;refine aF ?_;refine bF ?_;obtain⟨be,bf,h⟩:=aB h;obtain⟨M,a3,h⟩:=aB h;refine aJ (.a 5 ?_);refine .t (eA [104002,123,124] (Av [(9000,104002),(8950,123),(8951,124),(8910,131),(8911,132)]) (dY _) (fun A=>Ct A a3) Tryz.call7 (fun A=>(.box Y (.arr (.arr .nil Y) Y) Y))) ?_;refine .a 3 ?_;refine .k (aM 133 Az Y (.cons (Z.arr 8 (Z.int .u8)) .nil) Y) (.f [1,5,8,9,10,11,12] ?_);obtain⟨C,bg,h⟩:=aB h;refine aJ (.a 4 ?_);refine .k (aM 134 Z40 Y (.cons (Z.int .i64) (.cons (Z.arr 8 (Z.int .u8)) (.cons (Z.int .i64) (.cons (Z.int .i64) (.cons (Z.int .i64) (.cons (Z.sl aN) .nil)))))) Y) (.t (bI Y Y Y Y (.prm (.one _ _) (.prm (.one _ _) (.prm (.one _ _) (.prm (.one _ _) (.prm (.one _ _) (.one _ _)))))) Zb) (.f [1,5,8,9,10,11,12,13] ?_));refine aF ?_;refine aF ?_;obtain⟨a4,u,h⟩:=aB h;refine Hm (σ':=⟨[(1,.v (Enc.sl sA) a1),(5,.v (Enc.sl Q9) F.1),(8,.ptr 104002 0),(9,.v Q0 G.1),(10,.v Q0 G.2.1),(13,.ptr 134 0),(85,.v Enc.bool a4)],[(104002,.box 45 [.ref 131,.ref 132]),(134,.box 40 [.v Q0 C.1,.v aN C.2.1,.v Q0 C.2.2.1,.v Q0 C.2.2.2.1,.v Q0 C.2.2.2.2.1,.v Q7 C.2.2.2.2.2]),(7777,.dp (dB GV) gobj []),(131,.arr 33 aN M.2.2.1),(132,.arr 38 Q7 M.2.2.2)]⟩) ?_ ?_
    ·intro E;refine cd u (fun D u=>?_) (fun D u=>?_)
     ·cases u;exact pU 17 mixed E
     refine cd u (fun B u=>?_) (fun B u=>?_)
     ·cases u;exact dI 17 mixed (by exact(.k (aA 0 Y Wo Y S28 Y Y) (.k (aI Y Y Y Tryz.isAgg28 S28) (.k (aD Y) (.k (jO Y Y Y) (.k (aD Y) (.g D (aA 1 Y Wo Y jU Y Y) (.g D (aI Y Y Y sS jU) (.g D (aI Y Y Y sS jU) (.g D (Qf Nk Y Y Tryz.eqGuardType33 Y Y) (.k (sK D Y Y) (.k (aD Y) (.w B (.w B (.w B (.w B (.w B (.k (Eg B Y Y) .nil)))))))))))))))))) (by exact(J.fin (aC []))) E
     obtain⟨bh,a5,u⟩:=aB u;cases u;exact dI 17 mixed (by exact(.k (aA 0 Y Wo Y S28 Y Y) (.k (aI Y Y Y Tryz.isAgg28 S28) (.k (aD Y) (.k (jO Y Y Y) (.k (aD Y) (.g D (aA 1 Y Wo Y jU Y Y) (.g D (aI Y Y Y sS jU) (.g D (aI Y Y Y sS jU) (.g D (Qf Nk Y Y Tryz.eqGuardType33 Y Y) (.k (sK D Y Y) (.k (aD Y) (.g B (aA 9 Y Wo Y S3 Y Y) (.g B (aI Y Y Y G3 S3) (.g B (aD Y) (JP4.callV0 (GK.met 79 Y Y Y B) [104002,132,131] (vR a5) Tryz.call8 (fun σ2 hL P=>(.cons ((hL.ev (by simp[Op.operands,Call.operands])).trans Y) (.frzP ((P 104002 (by simp)).trans Y) Y (.cons (.frz ((P 131 (by simp)).trans Y) Y) (.cons (.frz ((P 132 (by simp)).trans Y) Y) .nil)) (.prm (.one _ _) (.one _ _))) .nil)) FlatS.v Y (.g B (jO Y Y Y) (.k (sK B Y Y) .nil)))))))))))))))))) (by exact(J.fin (aC []))) E
    refine aT h Y (fun am h=>?_) (fun am h=>?_)
    ·refine aL [4] ?_;refine aG ?_;refine dZ ?_;cases h;refine gD fun Q=>?_;obtain rfl:=X _ Q;exact dN K Y (RV.tmp Y) (.cons Y .nil)
    refine aH ?_;refine aF ?_;refine aF ?_;obtain⟨a6,u,h⟩:=aB h;refine Hm (σ':=⟨[(1,.v (Enc.sl sA) a1),(5,.v (Enc.sl Q9) F.1),(8,.ptr 104002 0),(10,.v Q0 G.2.1),(13,.ptr 134 0),(122,.v Enc.bool a6)],[(104002,.box 45 [.ref 131,.ref 132]),(134,.box 40 [.v Q0 C.1,.v aN C.2.1,.v Q0 C.2.2.1,.v Q0 C.2.2.2.1,.v Q0 C.2.2.2.2.1,.v Q7 C.2.2.2.2.2]),(7777,.dp (dB GV) gobj []),(131,.arr 33 aN M.2.2.1),(132,.arr 38 Q7 M.2.2.2)]⟩) ?_ ?_
    ·intro E;refine cd u (fun H u=>?_) (fun H u=>?_)
     ·cases u;exact pU 37 mixed E
     refine cd u (fun L u=>?_) (fun L u=>?_)
     ·cases u;exact pU 37 mixed E
     refine cd u (fun I u=>?_) (fun I u=>?_)
     ·cases u;exact pU 37 mixed E
     refine cd u (fun z u=>?_) (fun z u=>?_)
     ·cases u;exact pU 37 mixed E
     obtain⟨bi,aa,u⟩:=aB u;obtain⟨bj,a7,u⟩:=aB u;cases u;exact dI 37 mixed (by exact(.k (aA 11 Y Wo Y S3 Y Y) (.k (aI Y Y Y G3 S3) (.k (aD Y) (.k (jO Y Y Y) (.k (aD Y) (.g H (aA 11 Y Wo Y S3 Y Y) (.g H (aI Y Y Y G3 S3) (.g H (aA 9 Y Wo Y S3 Y Y) (.g H (aI Y Y Y G3 S3) (.g H (jO Y Y Y) (.k (sK H Y Y) (.k (aD Y) (.g L (aA 10 Y Wo Y S3 Y Y) (.g L (aI Y Y Y G3 S3) (.g L (jO Y Y Y) (.k (sK L Y Y) (.k (aD Y) (.g I (aA 10 Y Wo Y S3 Y Y) (.g I (aI Y Y Y G3 S3) (.g I (aA 11 Y Wo Y S3 Y Y) (.g I (aI Y Y Y G3 S3) (.g I (jO Y Y Y) (.k (sK I Y Y) (.k (aD Y) (.g z (aA 12 Y Wo Y xC Y Y) (.g z (aI Y Y Y Rv xC) (.g z (aD Y) (.g z (aK Y) (.g z (aA 1 Y Zd Y Zc Y Y) (.g z (aI Y Y Y G43 Zc) (.g z (aA 11 Y Wo Y S3 Y Y) (.g z (aI Y Y Y G3 S3) (.g z (iJ aa Y Y Y U43 xC) (.g z (jC (cX aa).2.2 Y Y .here Rv xC) (.g z (aO (Fg a7) Tryz.call9 (.cons (.dir Y) (.cons (.dir Y) .nil))) (.g z (Eo Y) (.k (sK z Y Y) .nil)))))))))))))))))))))))))))))))))))))) (by exact(J.fin (aC []))) E
    refine aT h Y (fun an h=>?_) (fun an h=>?_)
    ·refine aL [4] ?_;refine aG ?_;refine dZ ?_;cases h;refine gD fun Q=>?_;obtain rfl:=X _ Q;exact dN K Y (RV.tmp Y) (.cons Y .nil)
    refine aH ?_;refine eB [1,5,8,9,10] ?_;refine bK ?_;refine eB [1,5,8,9,10] ?_;cases h;exact cE (aC [(124,132),(123,131)])
   cases h;exact cN (cW (aC []))
 ·intro O;replace h:=jP O h;refine eB [0,1,5,6,7] ?_;exact cF h (aC [])
 ·intro O;replace h:=jQ O h;refine aL [0,1,5,6,7,28] ?_;refine aT h Y (fun ao h=>?_) (fun ao h=>?_)
  ·refine eB [0,1,5,6,7] ?_;exact cF h (aC [])
  refine aH ?_;exact cF h (aC [])
end Go.Cn
namespace Go.Pl
open Go Go.Sw
def rY{A B D:Type}(g:Nat->A->B->Step B D)(fin:B->D):Nat->B->List A->D
 |_,acc,[]=>fin acc
 |i,acc,x::xs=>match g i x acc with
  | .next acc'=>rY g fin (i+1) acc' xs
  | .done d=>d
def Hl{α B D:Type}(st:Nat->B->α)(i:Nat):Step B D->Step α D
 | .next a=> .next (st i a)
 | .done d=> .done d
def out{β γ:Type}(k:β->Option γ):Ex β γ->Option γ
 | .brk y=>k y
 | .ret z=>some z
theorem Ov{α A B D:Type}{step:α->Option (Step α D)}{l:List A}(st:Nat->B->α)(g:Nat->A->B->Step B D)(fin:B->D)
  (hs:∀pre x rest acc,l=pre++x::rest->step (st pre.length acc)=some (Hl st (pre.length+1) (g pre.length x acc)))
  (he:∀acc,step (st l.length acc)=some (.done (fin acc))):
  ∀(rest pre:List A) (acc:B) (f:Nat),l=pre++rest->rest.length<f->loop step f (st pre.length acc)=some (rY g fin pre.length acc rest)
 | [],pre,acc,f,h,u=>by
  obtain⟨f,rfl⟩:∃f',f=f'+1:=⟨f - 1,by simp at u;omega⟩
  have:=he acc;rw[h,aKc] at this;simp[loop,this,rY]
 |x::rest,pre,acc,f,h,u=>by
  obtain⟨f,rfl⟩:∃f',f=f'+1:=⟨f - 1,by simp at u;omega⟩
  have z:=hs pre x rest acc h;simp only[loop,z,rY];cases hg:g pre.length x acc with
  |done d=>rfl
  |next E=>
   have C:=Ov st g fin hs he rest (pre++[x]) E f (by rw[h];simp) (by simp at u;omega);simpa[Hl] using C
theorem An{α A B β γ:Type}{step:α->Option (Step α (Ex β γ))}{l:List A}{k:β->Option γ}(st:Nat->B->α)(acc0:B)(g:Nat->A->B->Step B (Ex β γ))(fin:B->Ex β γ)(hf:l.length<fI)
  (hs:∀pre x rest acc,l=pre++x::rest->step (st pre.length acc)=some (Hl st (pre.length+1) (g pre.length x acc)))
  (he:∀acc,step (st l.length acc)=some (.done (fin acc))):
  lp step (st 0 acc0) k=out k (rY g fin 0 acc0 l):=by
 have h:=Ov st g fin hs he l [] acc0 fI rfl hf;unfold lp;simp only[aKb] at h;rw[h];cases rY g fin 0 acc0 l<;>rfl
theorem lY{α:Type}(pre:List α)(x:α)(rest:List α):Sw.idx (pre++x::rest) (pre.length:Int)=some x:=by
 unfold Sw.idx;simp
theorem inc{n m:Nat}(h:n<m)(hm:m<=4611686018427387904):ar .add .i64 (n:Int) 1=((n+1:Nat):Int):=by
 unfold ar;simp only[IntKind.wrap,IntKind.signed,IntKind.bits];simp;omega
theorem oC{α:Type}(pre:List α)(x:α)(rest:List α):cm .lss (pre.length:Int) ((pre++x::rest).length:Int)=true:=by
 unfold cm;simp;omega
theorem dC{n:Nat}:cm .lss (n:Int) (n:Int)=false:=by unfold cm;simp
end Go.Pl
namespace Go.Pl
open Go Go.Sw
theorem Tm{α β γ:Type}{step:α->Option (Step α (Ex β γ))}{k:β->Option γ}(st:Nat->α)(n:Nat)(y:β)(hf:n<fI)(hs:∀i,i<n->step (st i)=some (.next (st (i+1))))(he:step (st n)=some (.done (.brk y))):lp step (st 0) k=k y:=by
 have h:∀m i,i+m=n->∀f,m<f->loop step f (st i)=some (.brk y):=by
  intro m
  induction m with
  |zero=>
   intro i u f hf;obtain⟨f,rfl⟩:∃f',f=f'+1:=⟨f - 1,by omega⟩
   simp only[aNq] at u;subst u;simp[loop,he]
  |succ m z=>
   intro i u f hf;obtain⟨f,rfl⟩:∃f',f=f'+1:=⟨f - 1,by omega⟩
   simp only[loop,hs i (by omega)];exact z (i+1) (by omega) f (by omega)
 unfold lp;rw[h n 0 (by omega) fI hf]
theorem wrap_i64{n:Int}(h: -9223372036854775808<=n/\n<=9223372036854775807):IntKind.wrap .i64 n=n:=zZ (k:= .i64) (by unfold Db;simp[IntKind.min,IntKind.max,IntKind.signed,IntKind.bits];omega)
theorem Mg{n:Int}(h:0<=n/\n<=4294967295):IntKind.wrap .u32 n=n:=zZ (k:= .u32) (by unfold Db;simp[IntKind.min,IntKind.max,IntKind.signed,IntKind.bits];omega)
theorem rC(w n:Nat):BitVec.ofInt w (n:Int)=BitVec.ofNat w n:=by
 apply BitVec.eq_of_toNat_eq;simp
theorem aIf{a b:Nat}(ha:a<4294967296)(hb:b<4294967296):ar .xor .u32 (a:Int) (b:Int)=((a ^^^ b:Nat):Int):=by
 have h:a ^^^ b<2 ^ 32:=aMl (by simpa using ha) (by simpa using hb);show IntKind.wrap .u32 ((BitVec.ofInt 32 (a:Int) ^^^ BitVec.ofInt 32 (b:Int)).toNat:Int)=_;simp only[rC,aO0,aMh];rw[aJm (by simpa using ha),aJm (by simpa using hb)];exact Mg (by simp at h;omega)
theorem aKy{a:Nat}(ha:a<4294967296):ar .and .u32 (a:Int) 1=((a % 2:Nat):Int):=by
 show IntKind.wrap .u32 ((BitVec.ofInt 32 (a:Int) &&& BitVec.ofInt 32 ((1:Nat):Int)).toNat:Int)=_;simp only[rC,aO1,aMh];rw[aJm (a:=a) (by simpa using ha),aJm (a:=1) (by decide),Nat.and_one_is_mod];exact Mg (by omega)
theorem aKz{a:Nat}(ha:a<2):ar .mul .u32 3988292384 (a:Int)=((if a=1 then 3988292384 else 0:Nat):Int):=by
 have:a=0\/a=1:=by omega
 rcases this with rfl | rfl
 ·rfl
 ·decide
theorem aL4{a:Nat}:sh .shr .u32 (a:Int) 1=((a / 2:Nat):Int):=by
 show Int.fdiv _ _=_;have:(2:Int) ^ min (1:Int).toNat (IntKind.bits .u32)=2:=by decide
 rw[this,aKt _ (by omega)];omega
theorem aK0{a:Nat}(ha:a<4294967296):aAl .u32 (a:Int)=((4294967295 - a:Nat):Int):=by
 unfold aAl;show IntKind.wrap .u32 ((BitVec.allOnes 32 ^^^ BitVec.ofInt 32 (a:Int)).toNat:Int)=_;simp only[rC,BitVec.allOnes_xor,BitVec.toNat_not,aMh];rw[aJm (by simpa using ha)];exact Mg (by omega)
theorem Tn{a b:Nat}(h:a*b<=9223372036854775807):ar .mul .i64 (a:Int) (b:Int)=((a*b:Nat):Int):=by
 show IntKind.wrap .i64 _=_;rw[<-Int.natCast_mul];exact wrap_i64 (by omega)
theorem aJk{a b:Nat}:cm .lss (a:Int) (b:Int)=decide (a<b):=by unfold cm;simp
theorem aG1(a b i:Nat):(a ^^^ b) / 2 ^ i % 2=(a / 2 ^ i+b / 2 ^ i) % 2:=by
 have h:=Nat.testBit_xor a b i;simp only[Nat.testBit_eq_decide_div_mod_eq] at h;have u:=aNx (a / 2 ^ i);have z:=aNx (b / 2 ^ i);have A:=aNx ((a ^^^ b) / 2 ^ i);rw[Nat.add_mod];rcases u with u | u<;>rcases z with z | z<;>rcases A with A | A<;>simp[u,z,A] at h ⊢
end Go.Pl
namespace Go.Pl
open Go Go.Sw
def Bytes(l:List Int):Prop:=∀x∈l,0<=x/\x<=255
def nat(l:List Int):List Nat:=l.map Int.toNat
theorem lp_inv{α A B β γ:Type}{step:α->Option (Step α (Ex β γ))}{l:List A}{k:β->Option γ}(st:Nat->B->α)(I:Nat->B->Prop)(acc0:B)(g:Nat->A->B->B)(fin:B->β)(hf:l.length<fI)(h0:I 0 acc0)
  (hs:∀pre x rest acc,l=pre++x::rest->I pre.length acc->step (st pre.length acc)=some (.next (st (pre.length+1) (g pre.length x acc)))/\I (pre.length+1) (g pre.length x acc))
  (he:∀acc,I l.length acc->step (st l.length acc)=some (.done (.brk (fin acc)))):
  lp step (st 0 acc0) k=k (fin ((l.zipIdx).foldl (fun acc x=>g x.2 x.1 acc) acc0)):=by
 have C:∀(rest pre:List A) (acc:B) (f:Nat),l=pre++rest->I pre.length acc->rest.length<f->loop step f (st pre.length acc)=some (.brk (fin ((rest.zipIdx pre.length).foldl (fun acc x=>g x.2 x.1 acc) acc))):=by
  intro rest
  induction rest with
  |nil=>
   intro pre acc f u z hf;obtain⟨f,rfl⟩:∃f',f=f'+1:=⟨f - 1,by simp at hf;omega⟩
   have:=he acc (by rw[u,aKc];exact z);rw[u,aKc] at this;simp[loop,this]
  |cons x rest F=>
   intro pre acc f u z hf;obtain⟨f,rfl⟩:∃f',f=f'+1:=⟨f - 1,by simp at hf;omega⟩
   obtain⟨D,E⟩:=hs pre x rest acc u z;simp only[loop,D];have:=F (pre++[x]) (g pre.length x acc) f (by rw[u];simp) (by simpa using E) (by simp at hf;omega);simpa using this
 have h:=C l [] acc0 fI rfl h0 hf;unfold lp;simp only[aKb] at h;rw[h]
theorem app_small{α:Type}(xs ys:List α)(h:xs.length+ys.length<=4294967296):Sw.app xs ys=some (xs++ys):=by unfold Sw.app;rw[aF2 h]
theorem foldl_zipIdx{A:Type}(w:A->List Int):∀(l:List A) (i:Nat) (acc:List Int),(l.zipIdx i).foldl (fun acc x=>acc++w x.1) acc=acc++l.flatMap w
 | [],_,acc=>by simp
 |x::l,i,acc=>by simp[foldl_zipIdx w l]
end Go.Pl
namespace Go.Pl
open Go Go.Sw
def Wf{α:Type}(e:Enc α)(x:α):Prop:=∃S w cs,e.ok x S w cs
theorem Wf.int{k:IntKind}{n:Int}(h:Wf (Enc.int k) n):Db k n:=by obtain⟨_,_,_,h⟩:=h;exact h.2
theorem Qy{α:Type}{e:Enc α}{S w}:∀{xs:List α} {cs},e.okL xs S w cs->∀x∈xs,Wf e x
 | [],_,_,x,h=>by simp at h
 |y::ys,_,⟨c,d,_,u,z⟩,x,h=>by
  rcases aF3.1 h with rfl | h
  ·exact⟨_,_,_,u⟩
  ·exact Qy z x h
theorem Wf.arr{α:Type}{m:Nat}{e:Enc α}{xs:List α}(h:Wf (Enc.arr m e) xs):xs.length=m/\∀x∈xs,Wf e x:=by
 obtain⟨_,_,_,u,z⟩:=h;exact⟨u,Qy z⟩
theorem Wf.sl{α:Type}{e:Enc α}{xs:List α}(h:Wf (Enc.sl e) xs):xs.length<=140737488355328/\∀x∈xs,Wf e x:=by
 obtain⟨_,_,_,a,C,_,z,A⟩:=h;refine⟨z.2,?_⟩;rcases A with rfl |⟨b,D,E,_,_,_,_,B⟩
 ·intro x u;simp at u
 ·exact Qy B
theorem Wf.pr{α β:Type}{a:Enc α}{b:Enc β}{x:α×β}(h:Wf (Enc.pr a b) x):Wf a x.1/\Wf b x.2:=by
 obtain⟨_,_,_,c,d,_,u,z⟩:=h;exact⟨⟨_,_,_,u⟩,⟨_,_,_,z⟩⟩
theorem Ow{α:Type}{e:Enc α}{x:α}{S w v}(h:e.val x S w v):Wf e x:=by obtain⟨u,h,_⟩:=h;exact⟨_,_,_,h⟩
end Go.Pl
namespace Go.Pl
open Go Go.Sw
theorem cl(m n:Int):cm .lss m n=decide (m<n):=rfl
theorem cg(m n:Int):cm .gtr m n=decide (m>n):=rfl
theorem cle(m n:Int):cm .leq m n=decide (m<=n):=rfl
theorem cge(m n:Int):cm .geq m n=decide (m>=n):=rfl
theorem ce(m n:Int):cm .eql m n=decide (m=n):=by show (m==n)=_;by_cases h:m=n<;>simp[h]
theorem cn(m n:Int):cm .neq m n=decide (m≠n):=by show (m != n)=_;by_cases h:m=n<;>simp[h]
theorem addI{m n:Int}(h: -9223372036854775808<=m+n/\m+n<=9223372036854775807):ar .add .i64 m n=m+n:=wrap_i64 h
theorem subI{m n:Int}(h: -9223372036854775808<=m - n/\m - n<=9223372036854775807):ar .sub .i64 m n=m - n:=wrap_i64 h
theorem nxt{n:Nat}(h:n<=4611686018427387904):ar .add .i64 (n:Int) 1=((n+1:Nat):Int):=by rw[addI (by omega)];push_cast;rfl
theorem aJl{α A β γ:Type}{step:α->Option (Step α (Ex β γ))}{l:List A}{k:β->Option γ}(st:Nat->α)(vS:A->Bool)(z:γ)(y:β)(hf:l.length<fI)
  (hs:∀pre x rest,l=pre++x::rest->step (st pre.length)=some (if vS x then .done (.ret z) else .next (st (pre.length+1)))) (he:step (st l.length)=some (.done (.brk y))):
  lp step (st 0) k=if l.any vS then some z else k y:=by
 have B:∀(rest pre:List A) (f:Nat),l=pre++rest->rest.length<f->loop step f (st pre.length)=some (if rest.any vS then .ret z else .brk y):=by
  intro rest
  induction rest with
  |nil=>
   intro pre f u hf;obtain⟨f,rfl⟩:∃f',f=f'+1:=⟨f - 1,by simp at hf;omega⟩
   rw[aKc] at u;rw[<-u];simp[loop,he]
  |cons x rest C=>
   intro pre f u hf;obtain⟨f,rfl⟩:∃f',f=f'+1:=⟨f - 1,by simp at hf;omega⟩
   simp only[loop,hs pre x rest u,List.any_cons];by_cases h:vS x=true
   ·simp[h]
   ·have:=C (pre++[x]) f (by rw[u];simp) (by simp at hf;omega);simp only[aLv] at h;simp only[h,aIk,aJ6,Bool.false_or];simpa using this
 have:=B l [] fI rfl hf;unfold lp;simp only[aKb] at this;rw[this];by_cases h:l.any vS=true
 ·simp only[h,aKi]
 ·simp only[aLv] at h;simp only[h,aIk,aJ6]
theorem Fh{A:Type}{l:List A}{n:Nat}(h:l.length<=n)(hn:n<=140737488355328):l.length<fI:=by unfold fI;omega
theorem jY{A:Type}{l pre rest:List A}{x:A}(h:l=pre++x::rest):cm .lss (pre.length:Int) (l.length:Int)=true:=by rw[h];exact oC pre x rest
theorem jN{A:Type}{l pre rest:List A}{x:A}(h:l=pre++x::rest):Sw.idx l (pre.length:Int)=some x:=by rw[h];exact lY pre x rest
theorem rD{A:Type}{l:List A}{i:Nat}{x:A}(h:l[i]? =some x):Sw.idx l (i:Int)=some x:=by unfold Sw.idx;simp[h]
theorem xX{A:Type}{l:List A}{n:Int}(h0:0<=n)(h1:n<l.length):∃x,Sw.idx l n=some x/\l[n.toNat]? =some x:=by
 have:n.toNat<l.length:=by omega
 exact⟨l[n.toNat],by unfold Sw.idx;simp[h0,this],by simp[this]⟩
theorem aBg{A:Type}[DecidableEq A](l:List A)(hl:l.length<=1000000)(k:Unit->Option Bool):
  lp (β:=Unit) (fun (s12:Int)=>bif (cm .lss s12 (l.length:Int)) then (Sw.idx l s12).bind fun z20=>(Sw.idx l s12).bind fun z21=>bif (!decide (z20=z21)) then some (.done (.ret false)) else some (.next (ar .add .i64 s12 (1:Int))) else some (.done (.brk ()))) (0:Int) k=k ():=by
 rw[show (0:Int)=(fun (i:Nat)=>(i:Int)) 0 from rfl];rw[aJl (l:=l) (fun (i:Nat)=>(i:Int)) (fun _=>false) false () (Fh hl (by decide))]
 ·simp
 ·intro u x z h;simp only[jY h,aCj,jN h,cM];rw[nxt (by rw[h] at hl;simp at hl;omega)];simp
 ·simp only[dC,pF]
theorem Qz{α A β γ:Type}{step:α->Option (Step α (Ex β γ))}{l:List A}{k:β->Option γ}(st:Nat->α)(vS:A->Bool)(z:Nat->γ)(y:β)(hf:l.length<fI)
  (hs:∀pre x rest,l=pre++x::rest->step (st pre.length)=some (if vS x then .done (.ret (z pre.length)) else .next (st (pre.length+1)))) (he:step (st l.length)=some (.done (.brk y))):
  lp step (st 0) k=match l.findIdx? vS with | some j=>some (z j) | none=>k y:=by
 have B:∀(rest pre:List A) (f:Nat),l=pre++rest->rest.length<f->loop step f (st pre.length)=some (match rest.findIdx? vS with | some j=> .ret (z (pre.length+j)) | none=> .brk y):=by
  intro rest
  induction rest with
  |nil=>
   intro pre f h hf;obtain⟨f,rfl⟩:∃f',f=f'+1:=⟨f - 1,by simp at hf;omega⟩
   rw[aKc] at h;rw[<-h];simp[loop,he]
  |cons x rest C=>
   intro pre f h hf;obtain⟨f,rfl⟩:∃f',f=f'+1:=⟨f - 1,by simp at hf;omega⟩
   simp only[loop,hs pre x rest h,List.findIdx?_cons];by_cases u:vS x=true
   ·simp[u]
   ·have:=C (pre++[x]) f (by rw[h];simp) (by simp at hf;omega);simp only[aLv] at u;simp only[u,aIk,aJ6];rw[sM,aM5] at this;rw[this];cases rest.findIdx? vS with
    |none=>rfl
    |some j=>simp only[aLm];congr 3;omega
 have:=B l [] fI rfl hf;unfold lp;simp only[aKb,aNd] at this;rw[this];cases l.findIdx? vS<;>rfl
theorem Iy{A:Type}(l:List A)(vS:A->Bool):l.any vS=(l.findIdx? vS).isSome:=by
 simp
end Go.Pl
namespace Go.Pl
open Go Go.Sw
def xY{A B D:Type}(g:B->A->Step B D)(fin:B->D):B->List A->D
 |acc,[]=>fin acc
 |acc,x::xs=>match g acc x with
  | .next acc'=>xY g fin acc' xs
  | .done d=>d
theorem Ka{α A B β γ:Type}{step:α->Option (Step α (Ex β γ))}{l:List A}{k:β->Option γ}(st:Nat->B->α)(I:List A->B->Prop)(g:B->A->Step B (Ex β γ))(fin:B->Ex β γ)(acc0:B)(hf:l.length<fI)(h0:I [] acc0)
  (hs:∀pre x rest acc,l=pre++x::rest->I pre acc->step (st pre.length acc)=some (Hl st (pre.length+1) (g acc x))/\∀acc',g acc x= .next acc'->I (pre++[x]) acc')
  (he:∀acc,I l acc->step (st l.length acc)=some (.done (fin acc))):
  lp step (st 0 acc0) k=out k (xY g fin acc0 l):=by
 have C:∀(rest pre:List A) (acc:B) (f:Nat),l=pre++rest->I pre acc->rest.length<f->loop step f (st pre.length acc)=some (xY g fin acc rest):=by
  intro rest
  induction rest with
  |nil=>
   intro pre acc f u z hf;obtain⟨f,rfl⟩:∃f',f=f'+1:=⟨f - 1,by simp at hf;omega⟩
   rw[aKc] at u;subst u;simp[loop,he acc z,xY]
  |cons x rest F=>
   intro pre acc f u z hf;obtain⟨f,rfl⟩:∃f',f=f'+1:=⟨f - 1,by simp at hf;omega⟩
   obtain⟨D,E⟩:=hs pre x rest acc u z;simp only[loop,D,xY];cases hg:g acc x with
   |done d=>rfl
   |next acc'=>
    have:=F (pre++[x]) acc' f (by rw[u];simp) (E acc' hg) (by simp at hf;omega);simpa[Hl] using this
 have h:=C l [] acc0 fI rfl h0 hf;unfold lp;simp only[aKb] at h;rw[h];cases xY g fin acc0 l<;>rfl
theorem aEh{α A B β γ:Type}{step:α->Option (Step α (Ex β γ))}{l:List A}{k:β->Option γ}(st:Nat->B->α)(I:List A->B->Prop)(fin:B->β)(acc0:B)(hf:l.length<fI)(h0:I [] acc0)
  (hs:∀pre x rest acc,l=pre++x::rest->I pre acc->∃acc',step (st pre.length acc)=some (.next (st (pre.length+1) acc'))/\I (pre++[x]) acc')
  (he:∀acc,I l acc->step (st l.length acc)=some (.done (.brk (fin acc)))):∃acc,I l acc/\lp step (st 0 acc0) k=k (fin acc):=by
 have D:∀(rest pre:List A) (acc:B) (f:Nat),l=pre++rest->I pre acc->rest.length<f->∃acc',I l acc'/\loop step f (st pre.length acc)=some (.brk (fin acc')):=by
  intro rest
  induction rest with
  |nil=>
   intro pre acc f h u hf;obtain⟨f,rfl⟩:∃f',f=f'+1:=⟨f - 1,by simp at hf;omega⟩
   rw[aKc] at h;subst h;exact⟨acc,u,by simp[loop,he acc u]⟩
  |cons x rest H=>
   intro pre acc f h u hf;obtain⟨f,rfl⟩:∃f',f=f'+1:=⟨f - 1,by simp at hf;omega⟩
   obtain⟨acc',C,z⟩:=hs pre x rest acc h u;obtain⟨E,F,G⟩:=H (pre++[x]) acc' f (by rw[h];simp) z (by simp at hf;omega);exact⟨E,F,by simp only[loop,C];simpa using G⟩
 obtain⟨acc,C,z⟩:=D l [] acc0 fI rfl h0 hf;exact⟨acc,C,by unfold lp;simp only[aKb] at z;rw[z]⟩
theorem Cu{α A B β γ:Type}{step:α->Option (Step α (Ex β γ))}{l:List A}{k:β->Option γ}{r:Option γ}(st:Nat->B->α)(I:List A->B->Prop)(fin:B->β)(acc0:B)(hf:l.length<fI)(h0:I [] acc0)
  (hs:∀pre x rest acc,l=pre++x::rest->I pre acc->∃acc',step (st pre.length acc)=some (.next (st (pre.length+1) acc'))/\I (pre++[x]) acc')
  (he:∀acc,I l acc->step (st l.length acc)=some (.done (.brk (fin acc)))) (hr:∀acc,I l acc->k (fin acc)=r):lp step (st 0 acc0) k=r:=by
 obtain⟨acc,h,u⟩:=aEh (k:=k) st I fin acc0 hf h0 hs he;rw[u,hr acc h]
theorem aG2{α β γ:Type}{step:α->Option (Step α (Ex β γ))}{k:β->Option γ}(I:α->Prop)(m:α->Nat)(R:β->Prop)(s0:α)(hm:m s0<fI)(h0:I s0)
  (hs:∀s,I s->(∃s',step s=some (.next s')/\I s'/\m s'<m s)\/∃y,step s=some (.done (.brk y))/\R y):∃y,R y/\lp step s0 k=k y:=by
 have A:∀(n:Nat) (s:α) (f:Nat),m s<=n->n<f->I s->∃y,R y/\loop step f s=some (.brk y):=by
  intro n
  induction n with
  |zero=>
   intro s f B C z;obtain⟨f,rfl⟩:∃f',f=f'+1:=⟨f - 1,by omega⟩
   rcases hs s z with⟨s',h,u,F⟩|⟨y,h,u⟩
   ·omega
   ·exact⟨y,u,by simp[loop,h]⟩
  |succ n G=>
   intro s f B C z;obtain⟨f,rfl⟩:∃f',f=f'+1:=⟨f - 1,by omega⟩
   rcases hs s z with⟨s',h,u,F⟩|⟨y,h,u⟩
   ·obtain⟨y,D,E⟩:=G s' f (by omega) (by omega) u;exact⟨y,D,by simp[loop,h,E]⟩
   ·exact⟨y,u,by simp[loop,h]⟩
 obtain⟨y,h,u⟩:=A (m s0) s0 fI (aDn _) hm h0;exact⟨y,h,by unfold lp;rw[u]⟩
theorem mid{i j:Nat}(h:i+j<=4611686018427387904):IntKind.wrap .i64 (sh .shr .u64 (IntKind.wrap .u64 (ar .add .i64 (i:Int) (j:Int))) (1:Int))=(((i+j) / 2:Nat):Int):=by
 rw[addI (by omega)];have u:IntKind.wrap .u64 ((i:Int)+(j:Int))=(i:Int)+(j:Int):=zZ (k:= .u64) (by unfold Db;simp[IntKind.min,IntKind.max,IntKind.signed,IntKind.bits];omega);rw[u];have z:sh .shr .u64 ((i:Int)+(j:Int)) 1=(((i+j) / 2:Nat):Int):=by
  show Int.fdiv _ _=_;have:(2:Int) ^ min (1:Int).toNat (IntKind.bits .u64)=2:=by decide
  rw[this,aKt _ (by omega)];omega
 rw[z];exact wrap_i64 (by omega)
theorem bin(c:Bool){γ:Type}(x y:Option γ):(bif c then x else y)=if c=true then x else y:=by cases c<;>rfl
end Go.Pl
namespace Go.Pl
open Go Go.Sw Go.Mo
end Go.Pl
namespace Go.PlSt
open Go.Pl
open Go Go.Sw Go.Mo
abbrev lH:=List aQ×List (Int×aQ)×Int
def pA(n:Nat)(p:Int×aQ):Bool:=decide (p.1<0) || decide (p.1>=n)
def lZ(d:lH):Int:=if d.1.length<1\/d.1.length>200\/d.2.1.length>800 then 2 else if d.2.1.any (pA d.1.length) then 1 else 0
theorem To(x:Int×aQ)(d:lH):kY x d=some (pA d.1.length x):=by
 unfold kY pA;simp only[cl,cge];by_cases h:x.1<0<;>simp[h]
theorem Nt(l:List (Int×aQ))(d:lH)(hl:l.length<=1000000):bS l d=some (l.any (pA d.1.length)):=by
 unfold bS cV;have h:=Qz (l:=l) (γ:=Int) (β:=Unit) (step:=fun (u:Int)=>bif (cm .lss u (l.length:Int)) then (Sw.idx l u).bind fun z=>(kY z d).bind fun A=>bif A then some (.done (.ret u)) else some (.next (ar .add .i64 u (1:Int))) else some (.done (.brk ()))) (k:=fun _=>some (-1:Int)) (fun (i:Nat)=>(i:Int)) (pA d.1.length) (fun i=>(i:Int)) () (Fh hl (by decide)) ?_ ?_
 ·have B:lp (β:=Unit) (fun (u:Int)=>bif (cm .lss u (l.length:Int)) then (Sw.idx l u).bind fun z=>(kY z d).bind fun A=>bif A then some (.done (.ret u)) else some (.next (ar .add .i64 u (1:Int))) else some (.done (.brk ()))) (0:Int) (fun _=>some (-1:Int))=_:=h;rw[B,Iy];cases hf:l.findIdx? (pA d.1.length) with
  |none=>simp[cge]
  |some j=>simp[cge]
 ·intro C x D h;simp only[jY h,aCj,jN h,cM,To];by_cases c:pA d.1.length x=true
  ·simp[c]
  ·simp only[aLv] at c;simp only[c,pF,aIk,aJ6];rw[nxt (by rw[h] at hl;simp at hl;omega)]
 ·simp only[dC,pF]
theorem wE(d:lH):lT d=some (if lZ d=0 then none else some (lZ d)):=by
 unfold lT lZ;simp only[cl,cg];by_cases z:d.1.length<1
 ·have:(d.1.length:Int)<1:=by omega
  simp[z,this]
 by_cases A:d.1.length>200
 ·have h:¬(d.1.length:Int)<1:=by omega
  have u:(d.1.length:Int)>200:=by omega
  simp[z,A,h,u]
 by_cases C:d.2.1.length>800
 ·have h:¬(d.1.length:Int)<1:=by omega
  have u:¬(d.1.length:Int)>200:=by omega
  have B:(d.2.1.length:Int)>800:=by omega
  simp[z,A,C,h,u,B]
 have h:¬(d.1.length:Int)<1:=by omega
 have u:¬(d.1.length:Int)>200:=by omega
 have B:¬(d.2.1.length:Int)>800:=by omega
 simp only[h,u,B,z,A,C,aJ7,pF,cM,aO9,aJ6];rw[Nt _ _ (by omega)];by_cases c:d.2.1.any (pA d.1.length)=true<;>simp[c]
theorem sameBlocks_self(l:List aQ)(hl:l.length<=1000000):nK l l=some true:=by
 unfold nK;rw[cn];simp only[ne_eq,aO8,aJ7,pF];exact aBg l hl _
end Go.PlSt
namespace Go.PlSt
open Go.Pl
open Go Go.Sw Go.Mo
def aG3(n:Int):Int:=if n>0 then ar .sub .i64 n 1 else n
theorem Zh(s:List aQ)(p:List (Int×aQ))(n:Int):iT s p n=some (if n=0 then (some 4,s,p,n) else (none,s,p,aG3 n)):=by
 unfold iT jp aG3;rw[ce,cg];by_cases h:n=0
 ·simp[h]
 ·by_cases q:n>0<;>simp[h,q]
theorem clone_is(d:lH)(h1:d.1.length<=1000)(h2:d.2.1.length<=1000):qT d=some (d.1,d.2.1,d.2.2):=by
 unfold qT aP bG;rw[app_small _ _ (by simp;omega),app_small _ _ (by simp;omega)];rfl
def Ej(a:Int)(l:List (Int×aQ))(z:aQ):aQ:=(l.zipIdx).foldl (fun acc x=>if x.1.1=a then x.1.2 else acc) z
theorem zK(a:Int)(z:aQ)(l:List (Int×aQ)):Ej a l z=l.foldl (fun acc p=>if p.1=a then p.2 else acc) z:=by
 unfold Ej;have:∀(l:List (Int×aQ)) (i:Nat) (z:aQ),(l.zipIdx i).foldl (fun acc x=>if x.1.1=a then x.1.2 else acc) z=l.foldl (fun acc p=>if p.1=a then p.2 else acc) z:=by
  intro l
  induction l with
  |nil=>intro i z;rfl
  |cons p l h=>intro i z;simp only[aMt,aKa];exact h _ _
 exact this l 0 z
def Fi(a:Int):List (Int×(Int×aQ))->Option aQ
 | []=>none
 |p::l=>if p.2.1=a then some p.2.2 else Fi a l
theorem Ox(a:Int):∀its:List (Int×(Int×aQ)),rng (δ:=aQ) (fun (z10:(Int×(Int×aQ))) (_:Unit)=>
  bif (cm .eql z10.2.1 a) then
   some (.done z10.2.2)
  else
   some (.next ())
  ) its ()=some (match Fi a its with | some b=> .ret b | none=> .brk ())
 | []=>rfl
 |p::l=>by
  simp only[rng,Fi,ce];by_cases h:p.2.1=a
  ·simp[h]
  ·simp only[h,aJ7,pF,aJ6];have:=Ox a l;simp only[ce] at this;exact this
theorem Iz(a:Int)(z:aQ):∀its:List (Int×(Int×aQ)),(Fi a its).getD z=(its.map Prod.snd).foldr (fun p acc=>if p.1=a then p.2 else acc) z
 | []=>rfl
 |p::l=>by
  simp only[Fi,aIx,List.foldr_cons,<-Iz a z l];by_cases h:p.2.1=a<;>simp[h]
theorem aBh{α:Type}(l:List α):(Sw.backs l).map Prod.snd=l.reverse:=by
 unfold Sw.backs;rw[List.map_reverse,aO4];congr 1;have:∀(l:List α) (i:Nat),(l.zipIdx i).map (Prod.snd∘fun x:α×Nat=>((x.2:Int),x.1))=l:=by
  intro l
  induction l with
  |nil=>intro i;rfl
  |cons x l h=>intro i;simp only[aMt,aIx,h];rfl
 exact this l 0
theorem Wu(a:Int)(z:aQ)(l:List (Int×aQ)):(Fi a (Sw.backs l)).getD z=Ej a l z:=by
 rw[Iz,aBh,zK,List.foldr_reverse]
theorem aG4(d:lH)(a:Int)(hl:d.2.1.length<=1000):iA d a=some (if lZ d=0 then (if a<0\/a>=d.1.length then (aU,some 1) else if d.2.2=0 then (aU,some 4) else (Ej a d.2.1 (d.1.getD a.toNat []),none)) else (aU,some (lZ d))):=by
 unfold iA;rw[wE,cM];by_cases e:lZ d=0
 ·simp only[e,aKi,aA8,pF,cl,cge];by_cases h:a<0
  ·simp[h]
  by_cases u:a>=d.1.length
  ·simp[h,u]
  simp only[h,u,aJ7,pF,cM,aO9,aJ6];rw[ce d.2.2];by_cases z:d.2.2=0
  ·simp[z]
  have A:small d.2.1=some ():=by unfold small;rw[aF2 (by omega)]
  have B:a.toNat<d.1.length:=by omega
  have C:Sw.idx d.1 a=some (d.1.getD a.toNat []):=by unfold Sw.idx;rw[aF2 (by omega)];simp[aEg,aCl B]
  have D:eY d.2.1=some d.2.1:=rfl;simp only[z,aJ7,pF,aJ6,D,cM,A,rg,Ox,C];rw[<-Wu];cases Fi a (Sw.backs d.2.1)<;>rfl
 ·simp[e]
def yM(d:lH):List aQ:=(d.2.1.zipIdx).foldl (fun acc x=>acc.set x.1.1.toNat x.1.2) d.1
theorem Wv(d:lH):(yM d).length=d.1.length:=by
 unfold yM;generalize d.2.1.zipIdx=z;generalize d.1=s
 induction z generalizing s with
 |nil=>rfl
 |cons x z h=>rw[aKa,h];simp
theorem aK1{d:lH}(e:lZ d=0):∀p∈d.2.1,0<=p.1/\p.1<d.1.length:=by
 unfold lZ at e;split at e
 ·cases e
 ·split at e
  ·cases e
  ·rename_i A u;intro p z;have:pA d.1.length p=false:=by
    simp only[aLv] at u;exact(aOv.1 u p z) |> fun h=>by simpa using h
   unfold pA at this;simp at this;omega
theorem Ww(d:lH)(e:lZ d=0){p:Int×aQ}(hp:p∈d.2.1){acc:List aQ}(ha:acc.length=d.1.length):∃z,Sw.idx acc p.1=some z:=by
 have:=aK1 e p hp;have h:p.1.toNat<acc.length:=by omega
 exact⟨acc[p.1.toNat],by unfold Sw.idx;rw[aF2 this.1,aCl h]⟩
theorem aEi(d:lH)(h1:d.1.length<=1000)(h2:d.2.1.length<=1000):qV d=some (if lZ d=0 then (if d.2.2=0 then (([],[],0),some 4) else ((yM d,[],aG3 d.2.2),none)) else (([],[],0),some (lZ d))):=by
 unfold qV;rw[wE,cM];by_cases e:lZ d=0
 ·simp only[e,aKi,aA8,pF];rw[clone_is d h1 h2,cM,Zh,cM];by_cases u:d.2.2=0
  ·simp[u]
  simp only[u,aJ6,aA8,pF];refine(lp_inv (l:=d.2.1) (fun i (acc:List aQ)=>((i:Int),acc)) (fun _ acc=>acc.length=d.1.length) d.1 (fun _ p acc=>acc.set p.1.toNat p.2) id (Fh h2 (by decide)) rfl ?_ ?_).trans ?_
  ·intro B p E acc h A;have D:B.length<=1000:=by rw[h] at h2;simp at h2;omega
   obtain⟨z,C⟩:=Ww d e (p:=p) (by rw[h];simp) A;refine⟨?_,by simpa using A⟩;simp only[jY h,aCj,jN h,cM,C];rw[nxt (by omega)]
  ·intro acc _;simp only[dC,pF];rfl
  ·rfl
 ·simp[e]
theorem aEj(d:lH)(a:Int)(b:aQ)(h1:d.1.length<=1000)(h2:d.2.1.length<=1000):qU d a b=some (if lZ d=0 then (if a<0\/a>=d.1.length then (([],[],0),some 1) else if (d.2.1.length:Int)=800 then (([],[],0),some 2) else if d.2.2=0 then (([],[],0),some 4) else ((d.1,d.2.1++[(a,b)],aG3 d.2.2),none)) else (([],[],0),some (lZ d))):=by
 unfold qU;rw[wE,cM];by_cases e:lZ d=0
 ·simp only[e,aKi,aA8,pF,cl,cge];by_cases h:a<0
  ·simp[h]
  by_cases u:a>=d.1.length
  ·simp[h,u]
  simp only[h,u,aJ7,pF,cM,aO9,aJ6];rw[ce];by_cases z:(d.2.1.length:Int)=800
  ·simp[z]
  simp only[z,aJ7,pF,aJ6];rw[clone_is d h1 h2,cM,Zh,cM];by_cases A:d.2.2=0
  ·simp[A]
  simp only[A,aJ6,aA8,pF];rw[app_small _ _ (by simp;omega),cM]
 ·simp[e]
end Go.PlSt
namespace Go.PlSt
open Go.Pl
open Go Go.Sw Go.Mo
def upd(f:Nat->aQ)(a:Nat)(b:aQ):Nat->aQ:=fun x=>if x=a then b else f x
structure Vw (m:Nat) (d:lH) (f:Nat->aQ) (k:Nat):Prop where
 len:d.1.length=m
 big:1<=m/\m<=200
 left:d.2.2= -1
 few:d.2.1.length<=k
 lim:k<=800
 rng:∀p∈d.2.1,0<=p.1/\p.1<(m:Int)
 is:∀a,a<m->Ej (a:Int) d.2.1 (d.1.getD a [])=f a
variable {m k:Nat}{d:lH}{f:Nat->aQ}
theorem Vw.err(h:Vw m d f k):lZ d=0:=by
 unfold lZ;have B:=h.len;have C:=h.big;have D:=h.few;have E:=h.lim;rw[aD0 (by omega),aD0];intro z;obtain⟨p,A,u⟩:=aNn.1 z;have:=h.rng p A;unfold pA at u;simp at u;omega
theorem Vw.read(h:Vw m d f k){a:Int}(h0:0<=a)(h1:a<m):iA d a=some (f a.toNat,none):=by
 have u:=h.few;have z:=h.lim;have A:=h.len;rw[aG4 d a (by omega),aF2 h.err,aD0 (by omega),aD0 (by rw[h.left];decide)];have:=h.is a.toNat (by omega);rw[show ((a.toNat:Nat):Int)=a by omega] at this;rw[this]
theorem Wx(a x:Int)(b z:aQ)(l:List (Int×aQ)):Ej a (l++[(x,b)]) z=if x=a then b else Ej a l z:=by
 rw[zK,zK,aNe];rfl
theorem Vw.write(h:Vw m d f k){a:Int}{b:aQ}(h0:0<=a)(h1:a<m)(hk:k<800):
  qU d a b=some ((d.1,d.2.1++[(a,b)],-1),none)/\Vw m (d.1,d.2.1++[(a,b)],-1) (upd f a.toNat b) (k+1):=by
 have C:=h.few;have D:=h.lim;have z:=h.len;have A:=h.big;refine⟨?_,⟨z,A,rfl,by simp;omega,by omega,?_,?_⟩⟩
 ·rw[aEj d a b (by omega) (by omega),aF2 h.err,aD0 (by omega),aD0 (by omega),aD0 (by rw[h.left];decide),h.left];rfl
 ·intro p u;rcases aI9.1 u with u | u
  ·exact h.rng p u
  ·simp at u;subst u;exact⟨h0,h1⟩
 ·intro x B;show Ej (x:Int) (d.2.1++[(a,b)]) (d.1.getD x [])=_;rw[Wx];unfold upd;by_cases e:x=a.toNat
  ·rw[aF2 e,aF2 (by omega)]
  ·rw[aD0 e,aD0 (by omega),h.is x B]
theorem Ra(d:lH):yM d=d.2.1.foldl (fun acc p=>acc.set p.1.toNat p.2) d.1:=by
 unfold yM;have h:∀(l:List (Int×aQ)) (n:Nat) (s:List aQ),(l.zipIdx n).foldl (fun acc x=>acc.set x.1.1.toNat x.1.2) s=l.foldl (fun acc p=>acc.set p.1.toNat p.2) s:=by
  intro l
  induction l with
  |nil=>intro n s;rfl
  |cons p l u=>intro n s;rw[aMt,aKa,aKa,u]
 exact h _ _ _
theorem aBi(a:Nat):∀(l:List (Int×aQ)) (s:List aQ),(∀p∈l,0<=p.1/\p.1<(s.length:Int))->(l.foldl (fun acc p=>acc.set p.1.toNat p.2) s).getD a []=l.foldl (fun acc p=>if p.1=(a:Int) then p.2 else acc) (s.getD a []):=by
 intro l
 induction l with
 |nil=>intro s _;rfl
 |cons p l A=>
  intro s h;have B:=h p aJ8;rw[aKa,aKa,A _ (fun q z=>by rw[aM0];exact h q (aI8 _ z))];congr 1;by_cases e:p.1=(a:Int)
  ·rw[aF2 e,e];have u:a<s.length:=by omega
   simp[aEg,u]
  ·rw[aD0 e];have:¬p.1.toNat=a:=by omega
   simp[aEg,this]
theorem Vw.flush(h:Vw m d f k):qV d=some ((yM d,[],-1),none)/\Vw m (yM d,[],-1) f 0:=by
 have C:=h.few;have D:=h.lim;have z:=h.len;have A:=h.big;refine⟨?_,⟨by show (yM d).length=m;rw[Wv,z],A,rfl,aDn _,by omega,fun p u=>by simp at u,?_⟩⟩
 ·rw[aEi d (by omega) (by omega),aF2 h.err,aD0 (by rw[h.left];decide),h.left];rfl
 ·intro a B;show Ej (a:Int) [] ((yM d).getD a [])=f a;rw[zK];show (yM d).getD a []=f a;rw[Ra,aBi a _ _ (fun p u=>by rw[z];exact h.rng p u),<-zK,h.is a B]
theorem Vw.sWrite(h:Vw m d f k)(n:Int){a:Int}{b:aQ}(h0:0<=a)(h1:a<m)(hk:k<800):
  ∃d',dG n d a b=some (none,n,d')/\Vw m d' (upd f a.toNat b) (k+1):=by
 obtain⟨e,v⟩:=h.write (b:=b) h0 h1 hk;refine⟨_,?_,v⟩;unfold dG;rw[e];rfl
theorem Vw.sFlush(h:Vw m d f k)(n:Int):∃d',eC n d=some (none,n,d')/\Vw m d' f 0:=by
 obtain⟨e,v⟩:=h.flush;refine⟨_,?_,v⟩;unfold eC;rw[e];rfl
end Go.PlSt
namespace Go.PlSt
open Go.Pl
open Go Go.Sw Go.Mo
abbrev aG5:=Option Int×Int×lH
inductive Run {Q:Type} (F:Q->Int->lH->Option aG5) (n:Int):List Q->lH->lH->Prop
 |nil {d:lH}:Run F n [] d d
 |cons {q:Q} {l:List Q} {d d1 d2:lH}:F q n d=some (none,n,d1)->Run F n l d1 d2->Run F n (q::l) d d2
theorem Run.append{Q:Type}{F:Q->Int->lH->Option aG5}{n:Int}{l l':List Q}{d d1 d2:lH}(h:Run F n l d d1)(k:Run F n l' d1 d2):Run F n (l++l') d d2:=by
 induction h with
 |nil=>exact k
 |cons e _ u=>exact .cons e (u k)
theorem Zi{Q:Type}{F:Q->Int->lH->Option aG5}{n:Int}{xs:List Q}{d d2:lH}(h:Run F n xs d d2)(hl:xs.length<=100000):
  lp (β:=Int×lH) (fun (s11:Int×Int×lH)=>
  bif (cm .lss s11.1 (xs.length:Int)) then
   (Sw.idx xs s11.1).bind fun z19=>
    (F z19 s11.2.1 s11.2.2).bind fun v20=>
     bif (Option.isSome v20.1) then
      some (.done (.ret (v20.1,v20.2.1,v20.2.2)))
     else
      some (.next ((ar .add .i64 s11.1 (1:Int)),v20.2.1,v20.2.2))
  else
   some (.done (.brk (s11.2.1,s11.2.2)))
  ) ((0:Int),n,d) (fun (x17:Int×lH)=>some ((none:Option Int),x17.1,x17.2))=some (none,n,d2):=by
 generalize hst:(fun (s11:Int×Int×lH)=>
  bif (cm .lss s11.1 (xs.length:Int)) then
   (Sw.idx xs s11.1).bind fun z19=>
    (F z19 s11.2.1 s11.2.2).bind fun v20=>
     bif (Option.isSome v20.1) then
      some (Step.done (Ex.ret (v20.1,v20.2.1,v20.2.2)))
     else
      some (Step.next ((ar .add .i64 s11.1 (1:Int)),v20.2.1,v20.2.2))
  else
   some (Step.done (Ex.brk (s11.2.1,s11.2.2))))=step
 have E:∀(A u:List Q) (d:lH) (f:Nat),xs=u++A->Run F n A d d2->A.length<f->loop step f ((u.length:Int),n,d)=some (.brk (n,d2)):=by
  intro A
  induction A with
  |nil=>
   intro u d f z B C;obtain⟨f,rfl⟩:∃f',f=f'+1:=⟨f - 1,by simp at C;omega⟩
   rw[aKc] at z;cases B;have:step ((u.length:Int),n,d2)=some (.done (.brk (n,d2))):=by rw[<-hst,z];simp only[dC,pF]
   simp[loop,this]
  |cons q A H=>
   intro u d f z B C;obtain⟨f,rfl⟩:∃f',f=f'+1:=⟨f - 1,by simp at C;omega⟩
   cases B with
   |cons e B=>
    rename_i D;have:step ((u.length:Int),n,d)=some (.next (((u.length+1:Nat):Int),n,D)):=by
     rw[<-hst];simp only[jY z,aCj,jN z,cM,e,aA8,pF];rw[nxt (by rw[z] at hl;simp at hl;omega)]
    have G:=H (u++[q]) D f (by rw[z];simp) B (by simp at C;omega);simp only[loop,this];simpa using G
 have:=E xs [] d fI rfl h (by unfold fI;omega);unfold lp;simp only[aKb] at this;rw[show ((0:Int),n,d)=(((0:Nat):Int),n,d) from rfl,this]
variable {m k:Nat}{d:lH}{f:Nat->aQ}
def mk8(b:Int):aQ:=[b]++List.replicate 7 (0:Int)
theorem Vw.sMark(h:Vw m d f k){n:Nat}(hn:n+1<m)(b:Int)(hk:k<800):
  ∃d',fC (n:Int) d b=some (none,(n:Int),d')/\Vw m d' (upd f (n+1) (mk8 b)) 0:=by
 have D:=h.big;obtain⟨d1,u,B⟩:=h.sWrite (n:Int) (a:=((n+1:Nat):Int)) (b:=mk8 b) (by omega) (by omega) hk;obtain⟨d2,C,z⟩:=B.sFlush (n:Int);rw[show (((n+1:Nat):Int)).toNat=n+1 from rfl] at z;refine⟨d2,?_,z⟩;have A:Run kN (n:Int) ([(.inl ((),((),b)):cS),(.inr ((),()):cS)]:(List cS)) d d2:=by
  refine .cons (d1:=d1) ?_ (.cons C .nil);show iB b (n:Int) d=_;unfold iB;rw[nxt (by omega)];unfold mk8 at u;rw[u];rfl
 unfold fC fR;rw[Zi A (by simp)];rfl
end Go.PlSt
namespace Go.PlSt
open Go.Pl
open Go Go.Sw Go.Mo
theorem Zj(n:Nat):IntKind.wrap .u8 (n:Int)=((n % 256:Nat):Int):=by
 show (Int.emod (n:Int) _)=_;rfl
theorem aBj(n c:Nat)(hc:c<=64):sh .shr .i64 (n:Int) (c:Int)=((n / 2 ^ c:Nat):Int):=by
 show Int.fdiv (n:Int) (2 ^ min ((c:Nat):Int).toNat 64)=_;rw[aCk,aLu hc,aKt _ (aOk (aO6 (by decide)))];push_cast;rfl
theorem aBk{n c:Nat}(hn:n<256)(hc:c<=24):sh .shl .i64 (n:Int) (c:Int)=((n*2 ^ c:Nat):Int):=by
 show IntKind.wrap .i64 ((n:Int)*2 ^ min ((c:Nat):Int).toNat 64)=_;rw[aCk,aLu (by omega)];have h:2 ^ c<=2 ^ 24:=aOh (by decide) hc;have u:n*2 ^ c<=255*2 ^ 24:=aM2 (by omega) h;have e:(n:Int)*2 ^ c=((n*2 ^ c:Nat):Int):=by push_cast;rfl
 rw[e,wrap_i64 (by omega)]
theorem orI{a b:Nat}(ha:a<4611686018427387904)(hb:b<4611686018427387904):ar .or .i64 (a:Int) (b:Int)=((a ||| b:Nat):Int):=by
 have h:a ||| b<2 ^ 62:=aN9 (by simpa using ha) (by simpa using hb)
 show IntKind.wrap .i64 ((BitVec.ofInt 64 (a:Int) ||| BitVec.ofInt 64 (b:Int)).toNat:Int)=_;simp only[rC,BitVec.toNat_or,aMh];rw[aJm (a:=a) (by omega),aJm (a:=b) (by omega)];exact wrap_i64 (by omega)
theorem orP{x y c:Nat}(hy:y<2 ^ c):x*2 ^ c ||| y=x*2 ^ c+y:=by
 have:=aOi hy x;rw[Nat.shiftLeft_eq] at this;exact this.symm
def kE(v:Nat):List Int:=[((v / 16777216 % 256:Nat):Int),((v / 65536 % 256:Nat):Int),((v / 256 % 256:Nat):Int),((v % 256:Nat):Int)]
theorem number_is(v:Nat):jS (v:Int)=some (kE v++List.replicate 4 (0:Int)):=by
 unfold jS kE;have h:=aBj v 24 (by decide);have u:=aBj v 16 (by decide);have z:=aBj v 8 (by decide);rw[show ((24:Nat):Int)=24 from rfl] at h;rw[show ((16:Nat):Int)=16 from rfl] at u;rw[show ((8:Nat):Int)=8 from rfl] at z;rw[h,u,z,Zj,Zj,Zj,Zj]
theorem aEk{b3 b2 b1 b0:Nat}(h3:b3<256)(h2:b2<256)(h1:b1<256)(h0:b0<256)(r:List Int):
  fY ((b3:Int)::(b2:Int)::(b1:Int)::(b0:Int)::r)=some ((b3*16777216+b2*65536+b1*256+b0:Nat):Int):=by
 have A:Sw.idx ((b3:Int)::(b2:Int)::(b1:Int)::(b0:Int)::r) (0:Int)=some (b3:Int):=rfl;have B:Sw.idx ((b3:Int)::(b2:Int)::(b1:Int)::(b0:Int)::r) (1:Int)=some (b2:Int):=rfl;have C:Sw.idx ((b3:Int)::(b2:Int)::(b1:Int)::(b0:Int)::r) (2:Int)=some (b1:Int):=rfl;have D:Sw.idx ((b3:Int)::(b2:Int)::(b1:Int)::(b0:Int)::r) (3:Int)=some (b0:Int):=rfl;unfold fY;simp only[A,B,C,D,cM];have h:=aBk h3 (show 24<=24 by decide);have u:=aBk h2 (show 16<=24 by decide);have z:=aBk h1 (show 8<=24 by decide);rw[show ((24:Nat):Int)=24 from rfl] at h;rw[show ((16:Nat):Int)=16 from rfl] at u;rw[show ((8:Nat):Int)=8 from rfl] at z;rw[h,u,z,orI (by omega) (by omega)];rw[orP (x:=b3) (c:=24) (y:=b2*2 ^ 16) (by omega),orI (by omega) (by omega)];rw[show b3*2 ^ 24+b2*2 ^ 16=(b3*256+b2)*2 ^ 16 by omega,orP (c:=16) (y:=b1*2 ^ 8) (by omega),orI (by omega) (by omega)];rw[show (b3*256+b2)*2 ^ 16+b1*2 ^ 8=((b3*256+b2)*256+b1)*2 ^ 8 by omega,orP (c:=8) (y:=b0) (by omega)]
 try (congr 2;omega)
theorem Dq{v:Nat}(h:v<=2147483647)(r:List Int):fY (kE v++r)=some (v:Int):=by
 show fY (((v / 16777216 % 256:Nat):Int)::((v / 65536 % 256:Nat):Int)::((v / 256 % 256:Nat):Int)::((v % 256:Nat):Int)::r)=_;rw[aEk (by omega) (by omega) (by omega) (by omega)];congr 2;omega
end Go.PlSt
namespace Go.PlSt
open Go.Pl
open Go Go.Sw Go.Mo
theorem Wy{α A B β γ:Type}{step:α->Option (Step α (Ex β γ))}{l:List A}{k:β->Option γ}(st:Nat->B->α)(I:List A->B->Prop)(fin:B->β)(acc0:B)(hf:l.length<fI)(h0:I [] acc0)
  (hs:∀pre x rest acc,l=pre++x::rest->I pre acc->∃acc',step (st pre.length acc)=some (.next (st (pre.length+1) acc'))/\I (pre++[x]) acc')
  (he:∀acc,I l acc->step (st l.length acc)=some (.done (.brk (fin acc)))):∃acc,lp step (st 0 acc0) k=k (fin acc)/\I l acc:=by
 obtain⟨a,h,u⟩:=aEh (k:=k) st I fin acc0 hf h0 hs he;exact⟨a,u,h⟩
abbrev Log:=List (Nat×aQ)
def Ig(f:Nat->aQ)(l:Log):Nat->aQ:=l.foldl (fun f p=>upd f p.1 p.2) f
theorem Ih(f:Nat->aQ)(l:Log)(p:Nat×aQ):Ig f (l++[p])=upd (Ig f l) p.1 p.2:=by unfold Ig;rw[aNe];rfl
theorem Tp(f:Nat->aQ){n:Nat}(l:Log)(h:∀p∈l,p.1<=n){a:Nat}(ha:n<a):Ig f l a=f a:=by
 unfold Ig
 induction l generalizing f with
 |nil=>rfl
 |cons p l z=>
  rw[aKa,z _ (fun q u=>h q (aI8 _ u))];have:=h p aJ8;unfold upd;rw[aD0 (by omega)]
variable {m k n:Nat}{d:lH}{f:Nat->aQ}
structure Laid (n:Nat) (f:Nat->aQ) (l:Log):Prop where
 cnt:∃r,f (n+2)=kE l.length++r
 put:∀i p,l[i]? =some p->(∃r,f (n+3+2*i)=kE p.1++r)/\f (n+4+2*i)=p.2
theorem Vw.sApply(h:Vw m d f k){l:Log}(hl:Laid n f l)(hm:m=3*n+5)(hn:l.length<=n+1)(hp:∀p∈l,p.1<=n)(hk:k+l.length<=800):
  ∃d',gE (n:Int) d=some (none,(n:Int),d')/\Vw m d' (Ig f l) (k+l.length):=by
 have R:=h.big;unfold gE;have F:ar .add .i64 (n:Int) (2:Int)=((n+2:Nat):Int):=by rw[addI (by omega)];push_cast;rfl
 rw[F,h.read (by omega) (by omega),cM,aCk];obtain⟨M,N⟩:=hl.cnt;have ev:fY (f (n+2))=some (l.length:Int):=by rw[N];exact Dq (by omega) M
 refine Wy (l:=l) (fun i d=>((none:Option Int),(i:Int),(n:Int),d)) (fun u d=>Vw m d (Ig f u) (k+u.length)) (fun d=>((none:Option Int),(n:Int),d)) d (Fh (n:=1000) (by omega) (by decide)) h ?_ ?_
 ·intro u p U d z A;have S:u.length<l.length:=by rw[z];simp
  have G:l[u.length]? =some p:=by rw[z];simp
  obtain⟨⟨r,O⟩,P⟩:=hl.put _ _ G;have B:∀q∈u,q.1<=n:=fun q L=>hp q (by rw[z];exact aNv _ L);have T:p.1<=n:=hp p (by rw[z];simp);have H:ar .add .i64 (ar .add .i64 (n:Int) (3:Int)) (ar .mul .i64 (2:Int) (u.length:Int))=((n+3+2*u.length:Nat):Int):=by
   rw[show (2:Int)=((2:Nat):Int) from rfl,Tn (by omega),addI (m:=(n:Int)) (by omega),addI (by push_cast;omega)];push_cast;rfl
  have I:ar .add .i64 (ar .add .i64 (n:Int) (4:Int)) (ar .mul .i64 (2:Int) (u.length:Int))=((n+4+2*u.length:Nat):Int):=by
   rw[show (2:Int)=((2:Nat):Int) from rfl,Tn (by omega),addI (m:=(n:Int)) (by omega),addI (by push_cast;omega)];push_cast;rfl
  have C:=A.read (a:=((n+3+2*u.length:Nat):Int)) (by omega) (by omega);have D:=A.read (a:=((n+4+2*u.length:Nat):Int)) (by omega) (by omega);rw[aCk,Tp f u B (by omega),O] at C;rw[aCk,Tp f u B (by omega),P] at D;have K:fY (kE p.1++r)=some (p.1:Int):=Dq (by omega) r;obtain⟨d',Q,E⟩:=A.sWrite (n:Int) (a:=(p.1:Int)) (b:=p.2) (by omega) (by omega) (by omega);refine⟨d',?_,?_⟩
  ·simp only[aKp,aCj,ev,cM,jY z,H,I,C,D,jp,K,Q];rw[nxt (by omega)]
  ·rw[Ih,sM,aM5];rw[aCk] at E;exact E
 ·intro d A;simp only[aKp,aCj,ev,cM,dC,pF]
end Go.PlSt
namespace Go.PlSt
open Go.Pl
open Go Go.Sw Go.Mo
variable {m k n:Nat}{d:lH}{f:Nat->aQ}
theorem Wz(x:Int×aQ)(d:lH):iM x (some ((n:Int),d))=some (pA n x):=by
 unfold iM pA;rw[cl];by_cases h:x.1<0
 ·simp[h]
 ·simp[h,cge]
theorem Rb(l:List (Int×aQ))(d:lH)(hl:l.length<=1000000):bL l (some ((n:Int),d))=some (l.any (pA n)):=by
 unfold bL cB;rw[show (0:Int)=(fun (i:Nat)=>(i:Int)) 0 from rfl];rw[Qz (l:=l) (fun (i:Nat)=>(i:Int)) (pA n) (fun i=>(i:Int)) () (Fh hl (by decide))]
 ·rw[Iy];cases h:l.findIdx? (pA n) with
  |none=>simp[cge]
  |some j=>simp[cge]
 ·intro u x z h;simp only[jY h,aCj,jN h,cM,Wz];rw[nxt (by rw[h] at hl;simp at hl;omega)];cases pA n x<;>rfl
 ·simp only[dC,pF]
abbrev Mh:=List (Int×aQ)
def stA(i:Nat)(p:Int×aQ):aE:= .inr (.inl ((),((),((i:Int),p))))
def stB(i:Nat)(p:Int×aQ):aE:= .inr (.inr (.inl ((),((),((i:Int),p)))))
def Ao:Nat->Mh->List aE
 |_,[]=>[]
 |i,p::l=>stA i p::stB i p::Ao (i+1) l
theorem Tq(p:Int×aQ):∀(l:Mh) (i:Nat),Ao i (l++[p])=Ao i l++[stA (i+l.length) p,stB (i+l.length) p]:=by
 intro l
 induction l with
 |nil=>intro i;rfl
 |cons q l h=>intro i;simp only[aKr,Ao,h,aIa];rw[show i+1+l.length=i+(l.length+1) by omega]
theorem Fj:∀(l:Mh) (i:Nat),(Ao i l).length=2*l.length:=by
 intro l
 induction l with
 |nil=>intro i;rfl
 |cons q l h=>intro i;simp only[Ao,aIa,h];omega
theorem aG6(hm:m=3*n+5)(hn:n<=32):∀(rest:Mh) (i:Nat) (d:lH) (g:Nat->aQ) (k:Nat),Vw m d g k->(∀p∈rest,0<=p.1/\p.1<=n)->i+rest.length<=n+1->k+2*rest.length<=800->
  ∃d' g',Run gW (n:Int) (Ao i rest) d d'/\Vw m d' g' (k+2*rest.length)/\(∀x,x<n+3+2*i->g' x=g x)/\
   ∀j p,rest[j]? =some p->(∃r,g' (n+3+2*(i+j))=kE p.1.toNat++r)/\g' (n+4+2*(i+j))=p.2:=by
 intro rest
 induction rest with
 |nil=>intro i d g k h _ _ _;exact⟨d,g,.nil,h,fun _ _=>rfl,fun j p u=>by simp at u⟩
 |cons p rest R=>
  intro i d g k h C I K;have S:=C p aJ8;simp only[aIa] at I K;obtain⟨d1,M,D⟩:=h.sWrite (n:Int) (a:=((n+3+2*i:Nat):Int)) (b:=kE p.1.toNat++List.replicate 4 (0:Int)) (by omega) (by omega) (by omega);obtain⟨E,N,z⟩:=D.sWrite (n:Int) (a:=((n+4+2*i:Nat):Int)) (b:=p.2) (by omega) (by omega) (by omega);rw[aCk] at D z;rw[aCk] at z;obtain⟨d',g',O,P,A,Q⟩:=R (i+1) E _ _ z (fun q L=>C q (aI8 _ L)) (by omega) (by omega);have F:ar .add .i64 (ar .add .i64 (n:Int) (3:Int)) (ar .mul .i64 (2:Int) (i:Int))=((n+3+2*i:Nat):Int):=by
   rw[show (2:Int)=((2:Nat):Int) from rfl,Tn (by omega),addI (m:=(n:Int)) (by omega),addI (by push_cast;omega)];push_cast;rfl
  have G:ar .add .i64 (ar .add .i64 (n:Int) (4:Int)) (ar .mul .i64 (2:Int) (i:Int))=((n+4+2*i:Nat):Int):=by
   rw[show (2:Int)=((2:Nat):Int) from rfl,Tn (by omega),addI (m:=(n:Int)) (by omega),addI (by push_cast;omega)];push_cast;rfl
  refine⟨d',g',.cons (d1:=d1) ?_ (.cons (d1:=E) ?_ O),by rw[show k+2*(p::rest).length=k+1+1+2*rest.length by simp;omega];exact P,?_,?_⟩
  ·show gI (i:Int) p (n:Int) d=_;unfold gI;have H:p.1=((p.1.toNat:Nat):Int):=by omega
   have B:=number_is p.1.toNat;rw[<-H] at B;rw[B,cM,F,M];rfl
  ·show gJ (i:Int) p (n:Int) d1=_;unfold gJ;rw[G,N];rfl
  ·intro x T;rw[A x (by omega)];unfold upd;rw[aD0 (by omega),aD0 (by omega)]
  ·intro j q u;cases j with
   |zero=>
    simp at u;subst u;rw[show i+0=i from rfl,A _ (by omega),A _ (by omega)];unfold upd;rw[aD0 (by omega),aF2 rfl,aF2 rfl];exact⟨⟨_,rfl⟩,rfl⟩
   |succ j=>
    simp at u;have:=Q j q u;rw[show i+(j+1)=i+1+j by omega];exact this
end Go.PlSt
namespace Go.PlSt
open Go.Pl
open Go Go.Sw Go.Mo
variable {m k n:Nat}{d:lH}{f:Nat->aQ}
theorem aG7{f g:Nat->aQ}{x:Nat}(l:Log)(h:f x=g x):Ig f l x=Ig g l x:=by
 unfold Ig
 induction l generalizing f g with
 |nil=>exact h
 |cons p l u=>
  rw[aKa,aKa];apply u;unfold upd;rw[h]
def Cv(l:Mh):Log:=l.map (fun p=>(p.1.toNat,p.2))
theorem Gt(v:Nat):(kE v).length=4:=rfl
theorem aBl(h:Vw m d f 0)(hm:m=3*n+5)(hn0:1<=n)(hn:n<=32)(puts:Mh){a b:Nat}(hl:puts.length<=n)(hp:∀p∈puts,0<=p.1/\p.1<n)(ha:a<=2147483647)(hb:b<=2147483647):
  ∃d' f',cG (n:Int) d puts (a:Int) (b:Int)=some (none,(n:Int),d')/\Vw m d' f' 0/\(∀x,x<=n->f' x=Ig f (Cv (puts++[((n:Int),kE a++kE b)])) x)/\f' (n+1)=mk8 0:=by
 have L:puts.any (pA n)=false:=by
  rw[aOv];intro p u;have:=hp p u;unfold pA;simp;omega
 generalize hv:puts++[((n:Int),kE a++kE b)]=v27;have F:v27.length=puts.length+1:=by rw[<-hv];simp
 have G:∀p∈v27,0<=p.1/\p.1<=n:=by
  intro p u;rw[<-hv] at u;rcases aI9.1 u with u | u
  ·have:=hp p u;omega
  ·simp at u;subst u;exact⟨by simp,by simp⟩
 have M:ar .add .i64 (n:Int) (2:Int)=((n+2:Nat):Int):=by rw[addI (by omega)];push_cast;rfl
 obtain⟨d1,s1,I⟩:=h.sWrite (n:Int) (a:=((n+2:Nat):Int)) (b:=kE v27.length++List.replicate 4 (0:Int)) (by omega) (by omega) (by omega);rw[aCk] at I;obtain⟨d2,g2,r2,w2,K,ac⟩:=aG6 hm hn v27 0 d1 _ _ I G (by omega) (by omega);obtain⟨d3,s3,v3⟩:=w2.sFlush (n:Int);obtain⟨d4,s4,v4⟩:=v3.sMark (n:=n) (by omega) 1 (by omega);have B:(Cv v27).length=v27.length:=by unfold Cv;simp
 have N:Laid n (upd g2 (n+1) (mk8 1)) (Cv v27):=by
  constructor
  ·refine⟨List.replicate 4 (0:Int),?_⟩;unfold upd;rw[aD0 (by omega),K _ (by omega)];unfold upd;rw[aF2 rfl,B]
  ·intro i p A;unfold Cv at A;rw[aKv] at A;cases u:v27[i]? with
   |none=>rw[u] at A;cases A
   |some q=>
    rw[u] at A;obtain rfl:=pT A;have:=ac i q u;rw[aNd] at this;unfold upd;rw[aD0 (by omega),aD0 (by omega)];exact this
 have O:∀p∈Cv v27,p.1<=n:=by
  intro p u;unfold Cv at u;obtain⟨q,ad,rfl⟩:=aK3.1 u;have:=G q ad;show q.1.toNat<=n;omega
 obtain⟨d5,s5,v5⟩:=v4.sApply N hm (by rw[B];omega) O (by rw[B];omega);obtain⟨d6,s6,v6⟩:=v5.sFlush (n:Int);obtain⟨d7,s7,v7⟩:=v6.sMark (n:=n) (by omega) 0 (by omega);refine⟨d7,_,?_,v7,?_,by unfold upd;rw[aF2 rfl]⟩
 ·unfold cG;rw[cg,cl,cg];rw[aBb (show¬((puts.length:Int)>n) by omega),pF];rw[aBb (show¬(min (a:Int) (b:Int)<0) by omega),pF];rw[aBb (show¬(max (a:Int) (b:Int)>2147483647) by omega),pF];rw[Rb puts d (by omega),L,cM,cM,pF,number_is,number_is,cM,cM];have P:bG puts=some puts:=by unfold bG;rw[app_small _ _ (by simp;omega)];rfl
  have Q:Sw.subN (kE a++List.replicate 4 (0:Int)) (0:Int) (4:Int) (4:Int)=some (kE a):=by unfold Sw.subN Sw.sub kE;simp
  have R:Sw.sub (kE b++List.replicate 4 (0:Int)) (0:Int) (4:Int)=some (kE b):=by unfold Sw.sub kE;simp
  have S:Sw.app (kE a) (kE b)=some (kE a++kE b):=app_small _ _ (by rw[Gt,Gt];decide);have T:Sw.arrOf 8 (kE a++kE b)=some (kE a++kE b):=by unfold Sw.arrOf kE;simp
  have U:Sw.app puts [((n:Int),kE a++kE b)]=some v27:=by rw[app_small _ _ (by simp;omega),hv]
  simp only[P,Q,R,S,T,U,cM];have V:Run gW (n:Int) (((.inl ((),((),v27)):aE)::Ao 0 v27)++([(.inr (.inr (.inr (.inl ((),())))):aE),(.inr (.inr (.inr (.inr (.inl ((),()))))):aE),(.inr (.inr (.inr (.inr (.inr (.inl ((),())))))):aE),(.inr (.inr (.inr (.inr (.inr (.inr (.inl ((),()))))))):aE),(.inr (.inr (.inr (.inr (.inr (.inr (.inr ((),()))))))):aE)]:(List aE))) d d7:=by
   refine Run.append (d1:=d2) (.cons (d1:=d1) ?_ r2) (.cons s3 (.cons (d1:=d4) ?_ (.cons s5 (.cons s6 (.cons (d1:=d7) ?_ .nil)))))
   ·show gH v27 (n:Int) d=_;unfold gH;rw[number_is,cM,M,s1];rfl
   ·show gK (n:Int) d3=_;unfold gK;rw[s4];rfl
   ·show gL (n:Int) d6=_;unfold gL;rw[s7];rfl
  obtain⟨acc,e,rfl⟩:=Wy (step:=fun (z:Int×(List aE))=>
    bif (cm .lss z.1 (v27.length:Int)) then
     (Sw.idx v27 z.1).bind fun H=>
      (Sw.app z.2 ([(.inr (.inl ((),((),(z.1,H)))):aE),(.inr (.inr (.inl ((),((),(z.1,H))))):aE)]:(List aE))).bind fun X=>
       some (Step.next ((ar .add .i64 z.1 (1:Int)),X))
    else
     some (Step.done (Ex.brk (β:=aG5) z.2))) (k:=fun (aa:(List aE))=>
    (Sw.app aa ([(.inr (.inr (.inr (.inl ((),())))):aE),(.inr (.inr (.inr (.inr (.inl ((),()))))):aE),(.inr (.inr (.inr (.inr (.inr (.inl ((),())))))):aE),(.inr (.inr (.inr (.inr (.inr (.inr (.inl ((),()))))))):aE),(.inr (.inr (.inr (.inr (.inr (.inr (.inr ((),()))))))):aE)]:(List aE))).bind fun ab=>
     (dX ab (n:Int) d).bind fun C=>
      some (C.1,C.2.1,C.2.2)) (l:=v27) (fun i acc=>((i:Int),acc)) (fun D acc=>acc=(.inl ((),((),v27)):aE)::Ao 0 D) (fun acc=>acc) [(.inl ((),((),v27)):aE)] (Fh (n:=1000) (by omega) (by decide)) rfl (by
    rintro D x af acc E rfl;have ae:D.length<=1000:=by rw[E] at F;simp at F;omega
    refine⟨_,?_,rfl⟩;simp only[jY E,aCj,jN E,cM];rw[app_small _ _ (by simp[Fj];omega),cM,nxt (by omega),Tq];rw[aNd]
    rfl) (by
    rintro acc rfl
    simp only[dC,pF])
  refine e.trans ?_;rw[app_small _ _ (by simp[Fj];omega),cM];unfold dX;rw[Zi V (by simp[Fj];omega)];rfl
 ·intro x hx;unfold upd;rw[aD0 (by omega)];apply aG7;rw[aD0 (by omega),K x (by omega)];unfold upd;rw[aD0 (by omega)]
end Go.PlSt
namespace Go.PlSt
open Go.Pl
open Go Go.Sw Go.Mo
def nQ(d:lH)(blocks:List aQ)(a b:Nat):Prop:=
 ∃f,Vw (3*blocks.length+5) d f 0/\(∀x y,blocks[x]? =some y->f x=y)/\f blocks.length=kE a++kE b/\f (blocks.length+1)=mk8 0
variable {d:lH}{blocks:List aQ}{a b:Nat}
theorem aJn(h:nQ d blocks a b){x:Nat}{y:aQ}(hx:blocks[x]? =some y):jX ((blocks.length:Int),d) (x:Int)=some (y,none):=by
 obtain⟨f,v,u,_,_⟩:=h;have z:x<blocks.length:=(aMj.1 hx).1;unfold jX;rw[cl,aBb (show¬((x:Int)<0) by omega),cge,aBb (show¬((x:Int)>=(blocks.length:Int)) by omega)];show (iA d (x:Int)).bind _=_;rw[v.read (by omega) (by omega),aCk,u x y hx];rfl
theorem xA(h:nQ d blocks a b):fJ ((blocks.length:Int),d)=some (blocks,none):=by
 have B:3*blocks.length+5<=200:=by obtain⟨f,v,_⟩:=h;exact v.big.2
 unfold fJ
 obtain⟨acc,e,rfl⟩:=Wy (step:=fun (u:Int×(List aQ))=>
  bif (cm .lss u.1 (blocks.length:Int)) then
   (jX ((blocks.length:Int),d) u.1).bind fun z=>
    bif (Option.isSome z.2) then
     some (Step.done (Ex.ret (([]:(List aQ)),z.2)))
    else
     (Sw.app u.2 ([z.1]:(List aQ))).bind fun E=>
      some (Step.next ((ar .add .i64 u.1 (1:Int)),E))
  else
   some (Step.done (Ex.brk u.2))) (k:=fun (F:(List aQ))=>some (F,(none:Option Int))) (l:=blocks) (fun i acc=>((i:Int),acc)) (fun C acc=>acc=C) (fun acc=>acc) [] (Fh (n:=1000) (by omega) (by decide)) rfl (by
   rintro C x H acc A rfl;have G:acc.length<=1000:=by rw[A] at B;simp at B;omega
   refine⟨_,?_,rfl⟩;have D:=aJn h (x:=acc.length) (y:=x) (by rw[A];simp);simp only[jY A,aCj,D,cM,aA8,pF]
   rw[app_small _ _ (by simp;omega),cM,nxt (by omega)]) (by
   rintro acc rfl
   simp only[dC,pF])
 exact e
theorem Xa(h:nQ d blocks a b)(ha:a<=2147483647)(hb:b<=2147483647):fD ((blocks.length:Int),d)=some ((a:Int),(b:Int),none):=by
 obtain⟨f,v,_,C,_⟩:=h;unfold fD;show (iA d (blocks.length:Int)).bind _=_;rw[v.read (by omega) (by omega),aCk,C];have u:Sw.subN (kE a++kE b) (4:Int) (8:Int) (8:Int)=some (kE b):=by unfold Sw.subN Sw.sub kE;simp
 have z:Sw.sub (kE a++kE b) (0:Int) (4:Int)=some (kE a):=by unfold Sw.sub kE;simp
 have A:Sw.app (kE b) (kE a)=some (kE b++kE a):=app_small _ _ (by rw[Gt,Gt];decide);have B:Sw.arrOf 8 (kE b++kE a)=some (kE b++kE a):=by unfold Sw.arrOf kE;simp
 simp only[cM,aA8,pF,Dq ha,Dq hb,u,z,A,B]
end Go.PlSt
namespace Go.PlSt
open Go.Pl
open Go Go.Sw Go.Mo
def Tr(n:Nat)(puts:Mh)(a b:Int):Int:=if puts.length>n then 2 else if a<0\/a>2147483647\/b<0\/b>2147483647 then 1 else if puts.any (pA n) then 1 else 0
def rQ(blocks:List aQ)(puts:Mh):List aQ:=puts.foldl (fun acc p=>acc.set p.1.toNat p.2) blocks
theorem Ap(puts:Mh):∀blocks:List aQ,(rQ blocks puts).length=blocks.length:=by
 induction puts with
 |nil=>intro b;rfl
 |cons p l h=>intro b;unfold rQ at*;rw[aKa,h];simp
theorem Xb(puts:Mh):∀(blocks:List aQ) (f:Nat->aQ),(∀p∈puts,0<=p.1/\p.1<(blocks.length:Int))->(∀x y,blocks[x]? =some y->f x=y)->∀x y,(rQ blocks puts)[x]? =some y->Ig f (Cv puts) x=y:=by
 induction puts with
 |nil=>intro b f _ h;exact h
 |cons p l B=>
  intro b f z h;have C:=z p aJ8;unfold rQ Cv Ig at*;rw[aKa,aIx,aKa];refine B _ _ (fun q A=>by rw[aM0];exact z q (aI8 _ A)) ?_;intro x y u;unfold upd;by_cases e:x=p.1.toNat
  ·subst e;rw[aLt (by omega)] at u;rw[aF2 rfl];exact pT u
  ·rw[aK4 (by omega)] at u;rw[aD0 e];exact h x y u
variable {d:lH}{blocks:List aQ}{a b:Nat}
theorem xZ(h:nQ d blocks a b)(h0:1<=blocks.length)(h1:blocks.length<=32)(puts:Mh)(x y:Int)(hc:Tr blocks.length puts x y=0):
  ∃(d':lH) (x' y':Nat),x=(x':Int)/\y=(y':Int)/\x'<=2147483647/\y'<=2147483647/\(∀p∈puts,0<=p.1/\p.1<(blocks.length:Int))/\
   cG (blocks.length:Int) d puts x y=some (none,(blocks.length:Int),d')/\nQ d' (rQ blocks puts) x' y':=by
 unfold Tr at hc;split at hc
 ·cases hc
 rename_i L;split at hc
 ·cases hc
 rename_i M;split at hc
 ·cases hc
 rename_i D;have u:∀p∈puts,0<=p.1/\p.1<(blocks.length:Int):=by
  intro p u;have A:¬pA blocks.length p=true:=fun E=>D (aNn.2 ⟨p,u,E⟩);unfold pA at A;simp at A;omega
 obtain⟨x',rfl⟩:∃x':Nat,x=(x':Int):=⟨x.toNat,by omega⟩
 obtain⟨y',rfl⟩:∃y':Nat,y=(y':Int):=⟨y.toNat,by omega⟩
 obtain⟨f,v,F,N,O⟩:=h;obtain⟨d',G,e,H,C,I⟩:=aBl v rfl h0 h1 puts (a:=x') (b:=y') (by omega) u (by omega) (by omega);refine⟨d',x',y',rfl,rfl,by omega,by omega,u,e,G,by rw[Ap];exact H,?_,?_,by rw[Ap];exact I⟩
 ·intro i z B;have K:i<blocks.length:=by have:=(aMj.1 B).1;rwa [Ap] at this
  rw[C i (by omega)];unfold Cv;rw[aMz,aIx,aN8,Ih];unfold upd;rw[aD0 (by simp;omega)];exact Xb puts blocks f u F i z B
 ·rw[Ap,C _ (aDn _)];unfold Cv;rw[aMz,aIx,aN8,Ih];unfold upd;rw[aF2 (by simp)]
end Go.PlSt
namespace Go.PlSt
open Go.Pl
open Go Go.Sw Go.Mo
theorem Zk{n:Nat}(h0:1<=n)(h1:n<=32):qS (n:Int)=some (((3*n+5:Nat):Int),none):=by
 unfold qS;rw[cl,cg,aBb (show¬((n:Int)<1) by omega),aBb (show¬((n:Int)>32) by omega)];have h:ar .add .i64 (n:Int) (1:Int)=((n+1:Nat):Int):=nxt (by omega);have u:ar .mul .i64 (2:Int) ((n+1:Nat):Int)=((2*(n+1):Nat):Int):=by rw[show (2:Int)=((2:Nat):Int) from rfl,Tn (by omega)]
 have z:ar .add .i64 ((n+1:Nat):Int) (2:Int)=((n+1+2:Nat):Int):=by rw[addI (by omega)];push_cast;rfl
 have A:ar .add .i64 ((n+1+2:Nat):Int) ((2*(n+1):Nat):Int)=((3*n+5:Nat):Int):=by rw[addI (by omega)];push_cast;omega
 rw[h,u,z,A];rfl
theorem aK2{α:Type}(n:Nat)(z:α)(h:n<=1000):Sw.mk (n:Int) z=some (List.replicate n z):=by
 unfold Sw.mk;rw[aF2 (by omega)];simp
def fresh(n:Nat):lH:=(List.replicate (3*n+5) aU,[],-1)
theorem aBm{n:Nat}(h0:1<=n)(h1:n<=32):qD (n:Int)=some (fresh n,none):=by
 unfold qD;rw[Zk h0 h1,cM];show (wN ((3*n+5:Nat):Int)).bind _=_;unfold wN;rw[cl,cg,aBb (show¬(((3*n+5:Nat):Int)<1) by omega),aBb (show¬(((3*n+5:Nat):Int)>200) by omega),aK2 _ _ (by omega)];rfl
theorem Vw.none{m:Nat}{d:lH}{f:Nat->aQ}(h:Vw m d f 0):d=(d.1,[],-1):=by
 have u:d.2.1=[]:=aIe (by have:=h.few;omega);have A:=h.left;obtain⟨x,y,z⟩:=d;simp only at u A;subst u;subst A;rfl
theorem Oy{d:lH}{blocks:List aQ}{a b:Nat}(h:nQ d blocks a b)(h0:1<=blocks.length)(h1:blocks.length<=32):lU d (blocks.length:Int)=some (some ((blocks.length:Int),d),none):=by
 obtain⟨f,v,_,_,E⟩:=h;have u:=v.none;have z:=v.len;unfold lU;rw[Zk h0 h1,cM];simp only[aA8,pF];rw[wE,cM,aF2 v.err,cn,cg];have A:d.2.1.length=0:=by rw[u];rfl
 rw[z,A,aBb (fun h=>h rfl)];simp only[aA8,pF];rw[show decide (((0:Nat):Int)>0)=false from rfl,cM,pF];have B:aP d.1=some d.1:=by unfold aP;rw[app_small _ _ (by simp;omega)];rfl
 rw[B,cM];have C:(d.1,([]:List (Int×aQ)),d.2.2)=d:=by rw[v.left];exact u.symm
 rw[C];have D:iC (blocks.length:Int) d=some (none,(blocks.length:Int),d):=by
  unfold iC;rw[nxt (by omega),v.read (by omega) (by omega),aCk,E];rfl
 rw[D];rfl
theorem aG8{d:lH}{blocks:List aQ}{a b:Nat}(h:nQ d blocks a b):lD ((blocks.length:Int),d)=some d:=by
 obtain⟨f,v,_⟩:=h;have u:=v.big;have z:=v.len;have A:=v.few;unfold lD aP bG;rw[app_small _ _ (by simp;omega),app_small _ _ (by simp;omega)];rfl
theorem Mi{n:Nat}(h1:n<=32):nQ (fresh n) (List.replicate n aU) 0 0:=by
 refine⟨fun _=>aU,?_,?_,rfl,rfl⟩
 ·rw[aKs];refine⟨by unfold fresh;simp,by omega,rfl,aDn _,by decide,fun p u=>by simp[fresh] at u,fun a z=>?_⟩;unfold fresh;show Ej (a:Int) [] ((List.replicate (3*n+5) aU).getD a [])=aU;rw[zK];show (List.replicate (3*n+5) aU).getD a []=aU;simp[aEg,z]
 ·intro x y h;rw[aN3] at h;split at h
  ·exact pT h
  ·cases h
end Go.PlSt
namespace Go.PlEp
open Go.Pl
open Go Go.Sw Go.Mo
abbrev oD:=Int×aQ
abbrev Ep:=Int×List oD
abbrev Bd:=Int×List oD×List Ep×Bool
def risB(n:Int):Int->List oD->Bool
 |_,[]=>true
 |last,x::l=>if x.1<=last\/x.1>=n then false else risB n x.1 l
def aG9(n:Int)(last:Int)(x:oD):Step Int (Ex Unit Bool):=if x.1<=last\/x.1>=n then .done (.ret false) else .next x.1
theorem Zl(n:Int):∀(l:List oD) (last:Int),xY (aG9 n) (fun _=> .brk ()) last l=bif risB n last l then .brk () else .ret false
 | [],_=>rfl
 |x::l,last=>by
  simp only[xY,aG9,risB];by_cases h:x.1<=last\/x.1>=n
  ·simp only[aF2 h,pF]
  ·simp only[aD0 h];exact Zl n l x.1
theorem Oz(l:List oD)(n:Int)(hl:l.length<=1000000):lA l n=some (risB n (-1) l):=by
 unfold lA;rw[show ((-1:Int),(0:Int))=(fun (i:Nat) (a:Int)=>(a,(i:Int))) 0 (-1) from rfl];rw[Ka (l:=l) (fun (i:Nat) (a:Int)=>(a,(i:Int))) (fun _ _=>True) (aG9 n) (fun _=> .brk ()) (-1) (Fh hl (by decide)) trivial]
 ·rw[Zl];cases risB n (-1) l<;>rfl
 ·intro A x B acc h _;refine⟨?_,fun _ _=>trivial⟩;simp only[jY h,aCj,jN h,cM,cle,cge,bin,nxt (show A.length<=4611686018427387904 by rw[h] at hl;simp at hl;omega),aG9];by_cases u:x.1<=acc
  ·simp[u,Hl]
  ·by_cases z:x.1>=n
   ·simp[u,z,Hl]
   ·simp[u,z,Hl]
 ·intro acc _;simp only[dC,pF]
def Fk(n base:Int):Int->List Ep->Bool
 |_,[]=>true
 |i,e::l=>if risB n (-1) e.2=true/\e.1=base+i then Fk n base (i+1) l else false
def tL(b:Bd)(n:Int):Int:=
 if n<1\/n>32\/b.1<0\/b.1>2147483647 then 1 else if b.2.2.1.length>4 then 2
 else if risB n (-1) b.2.1=true/\¬(b.2.2.2=true/\b.2.2.1.length>0)/\(b.2.2.1.length:Int)<=b.1/\Fk n (b.1 - b.2.2.1.length+1) 0 b.2.2.1=true then 0 else 3
structure Sm (b:Bd):Prop where
 op:b.2.1.length<=1000000
 se:b.2.2.1.length<=1000000
 ep:∀e∈b.2.2.1,e.2.length<=1000000
theorem zL{A:Type}{l pre rest:List A}{x:A}(h:l=pre++x::rest):x∈l:=by rw[h];simp
end Go.PlEp
namespace Go.PlEp
open Go.Pl
open Go Go.Sw Go.Mo
def opt(n:Int):Option Int:=if n=0 then none else some n
def chB(n base:Int):Int->List Ep->Bool
 |_,[]=>true
 |i,e::l=>if risB n (-1) e.2=true/\e.1=base+i/\1<=e.1 then chB n base (i+1) l else false
def chG(n base:Int)(i:Int)(e:Ep):Step Int (Ex Unit (Option Int)):=if risB n (-1) e.2=true/\e.1=base+i/\1<=e.1 then .next (i+1) else .done (.ret (some 3))
theorem aEl(n base:Int):∀(l:List Ep) (i:Int),xY (chG n base) (fun _=> .brk ()) i l=bif chB n base i l then .brk () else .ret (some 3)
 | [],_=>rfl
 |e::l,i=>by
  simp only[xY,chG,chB];by_cases h:risB n (-1) e.2=true/\e.1=base+i/\1<=e.1
  ·simp only[aF2 h];exact aEl n base l (i+1)
  ·simp only[aD0 h,pF]
theorem aEm(n base:Int)(h:1<=base):∀(l:List Ep) (i:Int),0<=i->chB n base i l=Fk n base i l
 | [],_,_=>rfl
 |e::l,i,A=>by
  simp only[chB,Fk];by_cases u:risB n (-1) e.2=true/\e.1=base+i
  ·rw[aF2 u,aF2 ⟨u.1,u.2,by omega⟩];exact aEm n base h l (i+1) (by omega)
  ·rw[aD0 u,aD0 fun z=>u ⟨z.1,z.2.1⟩]
theorem check_is(b:Bd)(n:Int)(hb:Sm b):kQ b n=some (opt (tL b n)):=by
 have H:=hb.se
 have Q:∀V:0<=b.1/\b.1<=2147483647,lp (β:=Unit) (fun (F:Int)=>
   bif (cm .lss F (b.2.2.1.length:Int)) then
    (Sw.idx b.2.2.1 F).bind fun N=>
     ((lA N.2 n).bind fun aa=>
      bif (!aa) then
       some true
      else
       bif (cm .neq N.1 (ar .add .i64 (ar .add .i64 (ar .sub .i64 b.1 (b.2.2.1.length:Int)) (1:Int)) F)) then
        some true
       else
        some (cm .lss N.1 (1:Int))).bind fun ab=>
      bif ab then
       some (.done (.ret (some (3:Int))))
      else
       some (.next (ar .add .i64 F (1:Int)))
   else
    some (.done (.brk ()))
   ) (0:Int) (fun (_:Unit)=>
   some (none:Option Int))=some (bif chB n (b.1 - b.2.2.1.length+1) 0 b.2.2.1 then none else some 3):=by
  intro V;show lp _ ((fun (i:Nat) (_:Int)=>(i:Int)) 0 0) _=_;rw[Ka (l:=b.2.2.1) (fun (i:Nat) (_:Int)=>(i:Int)) (fun B a=>a=(B.length:Int)) (chG n (b.1 - b.2.2.1.length+1)) (fun _=> .brk ()) 0 (Fh H (by decide)) rfl]
  ·rw[aEl];cases chB n (b.1 - b.2.2.1.length+1) 0 b.2.2.1<;>rfl
  ·intro B x ac acc h X;subst X;have hp:B.length<=1000000:=by rw[h] at H;simp at H;omega
   refine⟨?_,fun ad G=>?_⟩
   ·simp only[jY h,aCj,jN h,cM,Oz x.2 n (hb.ep x (zL h)),bin,nxt (show B.length<=4611686018427387904 by omega),chG,cn,cl];rw[subI (by omega),addI (m:=b.1 - (b.2.2.1.length:Int)) (by omega),addI (by omega)];cases hr:risB n (-1) x.2 with
    |false=>simp[Hl]
    |true=>
     by_cases C:x.1=b.1 - (b.2.2.1.length:Int)+1+(B.length:Int)
     ·by_cases I:x.1<1
      ·have K:¬(1<=x.1):=by omega
       simp[<-C,I,K,Hl]
      ·have K:1<=x.1:=by omega
       simp[<-C,I,K,Hl]
     ·simp[C,Hl]
   ·simp only[chG] at G;split at G
    ·cases G;simp
    ·cases G
  ·intro acc _;simp only[dC,pF]
 unfold kQ;simp only[Oz b.2.1 n hb.op,cM];simp only[cl,cg,bin,tL,aNb,opt];by_cases u:n<1
 ·simp[u]
 by_cases z:n>32
 ·simp[u,z]
 by_cases D:b.1<0
 ·simp[u,z,D]
 by_cases L:b.1>2147483647
 ·simp[u,z,D,L]
 have O:=Q ⟨by omega,by omega⟩;simp only[cl,bin,aNb] at O;by_cases P:(b.2.2.1.length:Int)>4
 ·have M:b.2.2.1.length>4:=by omega
  simp[u,z,D,L,P,M]
 have M:¬(b.2.2.1.length>4):=by omega
 simp only[u,z,D,L,P,M,aJ6,cM,aJ7,aIk,aO9];cases hr:risB n (-1) b.2.1 with
 |false=>simp
 |true=>
  simp only[aLr,aIk,aJ6];have R:(b.2.2.1.length:Int)<=b.1->chB n (b.1 - b.2.2.1.length+1) 0 b.2.2.1=Fk n (b.1 - b.2.2.1.length+1) 0 b.2.2.1:=fun h=>aEm n _ (by omega) _ 0 (by omega);have S:¬((b.2.2.1.length:Int)<=b.1)->chB n (b.1 - b.2.2.1.length+1) 0 b.2.2.1=false:=fun h=>by
   cases hb2:b.2.2.1 with
   |nil=>rw[hb2] at h;simp at h;omega
   |cons e l=>
    simp only[chB];rw[aD0];rintro⟨_,C,I⟩;rw[hb2] at h;omega
  by_cases A:b.2.2.2=true/\b.2.2.1.length>0
  ·have T:(b.2.2.1.length:Int)>0:=by omega
   simp[A.1,A.2,T]
  ·have U:(if b.2.2.2=true then some (decide ((b.2.2.1.length:Int)>0)) else some false:Option Bool)=some false:=by
    cases hbh:b.2.2.2 with
    |false=>simp
    |true=>simp[hbh] at A;simp[A]
   simp only[U,cM,aIk,aJ6,O];by_cases E:(b.2.2.1.length:Int)<=b.1
   ·rw[R E];cases Fk n (b.1 - b.2.2.1.length+1) 0 b.2.2.1<;>simp[E,A]
   ·rw[S E];simp[E]
theorem clone_is(b:Bd)(hb:Sm b):mJ b=some b:=by
 have B:=hb.op;have u:=hb.se;unfold mJ fX;have z:∀l:List oD,l.length<=1000000->bG l=some l:=fun l h=>by
  unfold bG;rw[app_small [] l (by simp;omega)];rfl
 rw[z _ B,app_small [] b.2.2.1 (by simp;omega)];simp only[cM,aKn];show lp _ ((fun (i:Nat) (_:Unit)=>((i:Int),b.2.2.1)) 0 ()) _=_;rw[Ka (l:=b.2.2.1) (fun (i:Nat) (_:Unit)=>((i:Int),b.2.2.1)) (fun _ _=>True) (fun _ _=> .next ()) (fun _=> .brk b.2.2.1) () (Fh u (by decide)) trivial]
 ·have:∀l:List Ep,xY (D:=Ex (List Ep) Bd) (fun (_:Unit) (_:Ep)=>Step.next ()) (fun _=> .brk b.2.2.1) () l= .brk b.2.2.1:=by
   intro l;induction l with
   |nil=>rfl
   |cons x l C=>exact C
  rw[this];rfl
 ·intro A x F acc h _;have E:A.length<=1000000:=by rw[h] at u;simp at u;omega
  refine⟨?_,fun _ _=>trivial⟩;simp only[jY h,aCj,jN h,cM,z _ (hb.ep x (zL h)),nxt (show A.length<=4611686018427387904 by omega),Hl,aCk];rw[h];simp
 ·intro acc _;simp only[dC,pF]
theorem Dr(n a:Int):∀(l:List oD) (last:Int),risB n last l=true->∃L1 L2,l=L1++L2/\(∀x∈L1,x.1<a)/\(∀x∈L2,a<=x.1)/\(L2.filter fun x=>x.1≠a)=(match L2 with | []=>[] | y::r=>if y.1=a then r else L2)
 | [],_,_=>⟨[],[],rfl,by simp,by simp,rfl⟩
 |x::l,last,h=>by
  simp only[risB] at h;split at h
  ·cases h
  ·by_cases C:x.1<a
   ·obtain⟨L1,L2,rfl,F,G,H⟩:=Dr n a l x.1 h;exact⟨x::L1,L2,rfl,fun y u=>by rcases aF3.1 u with rfl | u;exact C;exact F y u,G,H⟩
   ·have D:∀(l:List oD) (last:Int),risB n last l=true->∀y∈l,last<y.1:=by
     intro l
     induction l with
     |nil=>intro _ _ y u;simp at u
     |cons z l I=>
      intro last h y u;simp only[risB] at h;split at h
      ·cases h
      ·rename_i K;rcases aF3.1 u with rfl | u
       ·omega
       ·have:=I z.1 h y u;omega
    have A:=D l x.1 h;refine⟨[],x::l,rfl,by simp,fun y u=>by rcases aF3.1 u with rfl | u;omega;have:=A y u;omega,?_⟩;have E:(l.filter fun y=>decide (y.1≠a))=l:=aNj.2 fun y u=>by have:=A y u;simp;omega
    simp only[aOc,E];by_cases B:x.1=a
    ·simp[B]
    ·simp[B]
theorem ris_bounds(n:Int):∀(l:List oD) (last:Int),risB n last l=true->∀x∈l,last<x.1/\x.1<n
 | [],_,_,x,u=>by simp at u
 |y::l,last,h,x,u=>by
  simp only[risB] at h;split at h
  ·cases h
  ·rename_i z;rcases aF3.1 u with rfl | u
   ·omega
   ·have:=ris_bounds n l y.1 h x u;omega
theorem Xc(L1 L2:List oD)(a:Int)(h1:∀x∈L1,x.1<a)(h2:∀x∈L2,a<=x.1)(hl:(L1++L2).length<=1000000)(hr:∀x∈L1++L2,-1000000000<=x.1/\x.1<=1000000000)(hab: -1000000000<=a/\a<=1000000000):
  bM (L1++L2) a=some ((L1.length:Int),match L2 with | []=>false | y::_=>decide (y.1=a)):=by
 obtain⟨l,B⟩:∃l,l=L1++L2:=⟨_,rfl⟩
 rw[<-B] at hl hr ⊢;unfold bM rS;have F:l.length=L1.length+L2.length:=by rw[B,sM]
 have G:∀x∈l,ar .sub .i64 x.1 a=x.1 - a:=fun x C=>subI (by have:=hr x C;omega)
 obtain⟨y,rfl,Q⟩:=aG2 (k:=fun (E:Int)=>
 (bif (cm .lss E (l.length:Int)) then
  (Sw.idx l E).bind fun L=>
   (some (ar .sub .i64 L.1 a)).bind fun M=>
    some (cm .eql M (0:Int))
 else
  some false).bind fun N=>
  some (E,N)) (step:=fun (u:Int×Int)=>
  bif (cm .lss u.1 u.2) then
   (Sw.idx l (IntKind.wrap .i64 (sh .shr .u64 (IntKind.wrap .u64 (ar .add .i64 u.1 u.2)) (1:Int)))).bind fun O=>
    (some (ar .sub .i64 O.1 a)).bind fun P=>
     bif (cm .lss P (0:Int)) then
      some (.next ((ar .add .i64 (IntKind.wrap .i64 (sh .shr .u64 (IntKind.wrap .u64 (ar .add .i64 u.1 u.2)) (1:Int))) (1:Int)),u.2))
     else
      some (.next (u.1,(IntKind.wrap .i64 (sh .shr .u64 (IntKind.wrap .u64 (ar .add .i64 u.1 u.2)) (1:Int)))))
  else
   some (.done (.brk u.1))) (fun s=>∃i j:Nat,s=((i:Int),(j:Int))/\i<=L1.length/\L1.length<=j/\j<=l.length) (fun s=>(s.2 - s.1).toNat) (fun y=>y=(L1.length:Int)) ((0:Int),(l.length:Int)) (by unfold fI;simp;omega) ⟨0,l.length,rfl,by omega,by omega,by omega⟩ (by
   rintro s ⟨i,j,rfl,T,U,V⟩;simp only[cl,bin,aNb];by_cases X:i<j
   ·left;have D:(i:Int)<(j:Int):=by omega
    rw[aF2 D,mid (by omega)];obtain⟨h,R⟩:∃h,h=(i+j) / 2:=⟨_,rfl⟩
    rw[<-R];have aa:h<j:=by omega
    have ab:i<=h:=by omega
    obtain⟨x,S,A⟩:=xX (l:=l) (n:=(h:Int)) (by omega) (by omega);simp only[aCk] at A;have H:x∈l:=aL3 A;simp only[S,cM,G x H];rw[B] at A;by_cases C:x.1 - a<0
    ·rw[aF2 C];have z:h<L1.length:=by
      rcases aKm h L1.length with z | z
      ·exact z
      ·rw[aNw z] at A;have:=h2 x (aL3 A);omega
     refine⟨_,rfl,⟨h+1,j,?_,by omega,U,V⟩,?_⟩
     ·rw[nxt (by omega)]
     ·simp only[nxt (show h<=4611686018427387904 by omega)];omega
    ·rw[aD0 C];have z:L1.length<=h:=by
      rcases aKm h L1.length with z | z
      ·rw[aLl z] at A;have:=h1 x (aL3 A);omega
      ·exact z
     exact⟨_,rfl,⟨i,h,rfl,T,z,by omega⟩,by simp only;omega⟩
   ·right;have D:¬((i:Int)<(j:Int)):=by omega
    rw[aD0 D]
    exact⟨_,rfl,by omega⟩)
 rw[Q];simp only[cl,ce,bin,aNb];cases L2 with
 |nil=>
  have:¬((L1.length:Int)<(l.length:Int)):=by simp at F;omega
  rw[aD0 this];rfl
 |cons y L2=>
  have I:(L1.length:Int)<(l.length:Int):=by simp at F;omega
  rw[aF2 I,jN B];have K:=G y (by rw[B];simp);simp only[cM,K];congr 3;by_cases h:y.1=a
  ·simp[h]
  ·have:¬(y.1 - a=0):=by omega
   simp[h,this]
def putF(l:List oD)(p:oD):List oD:=(l.takeWhile fun x=>x.1<p.1)++p::(l.dropWhile fun x=>x.1<p.1).filter fun x=>x.1≠p.1
theorem Fl{L1 L2:List oD}{p:oD}(h1:∀x∈L1,x.1<p.1)(h2:∀x∈L2,p.1<=x.1):putF (L1++L2) p=L1++p::L2.filter fun x=>x.1≠p.1:=by
 unfold putF;have A:∀L1:List oD,(∀x∈L1,x.1<p.1)->(L1++L2).takeWhile (fun x=>decide (x.1<p.1))=L1/\(L1++L2).dropWhile (fun x=>decide (x.1<p.1))=L2:=by
  intro L1
  induction L1 with
  |nil=>
   intro _;cases L2 with
   |nil=>simp
   |cons y L2=>
    have:=h2 y (by simp);have B:¬(y.1<p.1):=by omega
    simp[B]
  |cons x L1 E=>
   intro h;have C:=h x (by simp);obtain⟨u,z⟩:=E fun y D=>h y (by simp[D]);simp[C,u,z]
 obtain⟨u,z⟩:=A L1 h1;rw[u,z]
end Go.PlEp
namespace Go.PlEp
open Go.Pl
open Go Go.Sw Go.Mo
def yA:Bd:=(0,[],[],false)
theorem bmay_ok{b:Bd}{n:Int}(h:tL b n=0):1<=n/\n<=32/\0<=b.1/\b.1<=2147483647/\b.2.2.1.length<=4/\risB n (-1) b.2.1=true/\¬(b.2.2.2=true/\b.2.2.1.length>0)/\(b.2.2.1.length:Int)<=b.1/\Fk n (b.1 - b.2.2.1.length+1) 0 b.2.2.1=true:=by
 unfold tL at h;split at h
 ·cases h
 ·rename_i z;split at h
  ·cases h
  ·rename_i A;split at h
   ·rename_i u;exact⟨by omega,by omega,by omega,by omega,by omega,u.1,u.2.1,u.2.2.1,u.2.2.2⟩
   ·cases h
theorem Kb{n base:Int}:∀{l:List Ep} {i:Int},Fk n base i l=true->∀e∈l,risB n (-1) e.2=true
 | [],_,_,e,u=>by simp at u
 |x::l,i,h,e,u=>by
  simp only[Fk] at h;split at h
  ·rename_i z;rcases aF3.1 u with rfl | u
   ·exact z.1
   ·exact Kb h e u
  ·cases h
theorem add_is(b:Bd)(n:Int)(p:oD)(hb:Sm b):sO b n p=some (if tL b n≠0 then (yA,some (tL b n)) else if p.1<0\/p.1>=n then (yA,some 1) else ((b.1,putF b.2.1 p,b.2.2.1,b.2.2.2),none)):=by
 unfold sO;simp only[check_is b n hb,clone_is b hb,cM];by_cases z:tL b n=0
 ·obtain⟨N,O,P,Q,R,E,S,T,U⟩:=bmay_ok z;simp only[opt,z,aKi,aA8,pF,ne_eq,aM9,aJ6];by_cases A:p.1<0
  ·simp[cl,A,yA]
  by_cases B:p.1>=n
  ·simp[cl,cge,A,B,yA]
  obtain⟨u,L2,F,G,H,M⟩:=Dr n p.1 b.2.1 _ E;have C:=ris_bounds n b.2.1 _ E;have h:=hb.op;rw[F] at C h;have I:=Xc u L2 p.1 G H h (fun x L=>by have:=C x L;omega) (by omega);rw[aD0 (by omega)];rw[F,I,Fl G H,M];simp only[cl,cge,A,B,aJ7,pF,cM,jp];cases L2 with
  |nil=>
   simp only[pF,fS,Sw.ins,aKc];rw[aF2 ⟨by omega,by omega,by simp at h ⊢;omega⟩];simp
  |cons y L2=>
   by_cases D:y.1=p.1
   ·have K:(u++y::L2).set u.length p=u++p::L2:=by simp
    simp only[D,aMi,aCj,lY,cM,aCk,aKi,K]
   ·simp only[D,aJ7,pF,fS,Sw.ins,aJ6];rw[aF2 ⟨by omega,by simp;omega,by simp at h ⊢;omega⟩];simp
 ·simp[opt,z,yA]
theorem aHa(b:Bd)(n:Int)(hb:Sm b):qW b n=some (if tL b n≠0 then (yA,some (tL b n)) else if b.1=2147483647 then (yA,some 2) else
  if b.2.2.2=true then ((b.1+1,[],b.2.2.1,b.2.2.2),none) else if b.2.2.1.length=4 then ((b.1+1,[],[],true),none) else ((b.1+1,[],b.2.2.1++[(b.1+1,b.2.1)],b.2.2.2),none)):=by
 unfold qW;simp only[check_is b n hb,clone_is b hb,cM];by_cases h:tL b n=0
 ·obtain⟨B,C,D,E,F,G,H,I,K⟩:=bmay_ok h;simp only[opt,h,aKi,aA8,pF,ne_eq,aM9,aJ6,ce];by_cases u:b.1=2147483647
  ·simp[u,yA]
  simp only[u,aJ7,pF,aJ6];rw[addI (by omega)];cases hbh:b.2.2.2 with
  |true=>simp
  |false=>
   by_cases z:b.2.2.1.length=4
   ·simp[z]
   ·have A:¬((b.2.2.1.length:Int)=4):=by omega
    simp only[A,aJ7,pF,z,aJ6,aIk];rw[app_small _ _ (by simp;omega)];rfl
 ·simp[opt,h,yA]
theorem aBn(l:List Ep)(num:Int)(hl:l.length<=1000000):bJ l num=some (l.filter fun e=>decide (num<e.1)):=by
 have M:bO l num=some (match l.findIdx? (fun e=>decide (e.1<=num)) with | some j=>(j:Int) | none=> -1):=by
  unfold bO;show lp _ ((fun (i:Nat)=>(i:Int)) 0) _=_;rw[Qz (l:=l) (fun (i:Nat)=>(i:Int)) (fun e=>decide (e.1<=num)) (fun j=>(j:Int)) () (Fh hl (by decide))]
  ·cases l.findIdx? (fun e=>decide (e.1<=num))<;>rfl
  ·intro u x rest h;have hp:u.length<=1000000:=by rw[h] at hl;simp at hl;omega
   simp only[jY h,aCj,jN h,cM,nxt (show u.length<=4611686018427387904 by omega),nJ,cle,bin];by_cases E:x.1<=num<;>simp[E]
  ·simp only[dC,pF]
 unfold bJ;rw[M];simp only[cM];cases hf:l.findIdx? (fun e=>decide (e.1<=num)) with
 |none=>
  have E:=List.findIdx?_eq_none_iff.1 hf;have:l.filter (fun e=>decide (num<e.1))=l:=aNj.2 fun e F=>by have:=E e F;simp at this ⊢;omega
  simp[ce,this]
 |some j=>
  obtain⟨hj,E,h2⟩:=List.findIdx?_eq_some_iff_getElem.1 hf;obtain⟨P,B,R,rfl,aa⟩:∃P B R,l=P++B::R/\P.length=j:=⟨l.take j,l[j],l.drop (j+1),by rw[List.getElem_cons_drop,aId],by rw[aGv];omega⟩
  subst aa;have ab:B.1<=num:=by simpa using E
  have N:∀e∈P,num<e.1:=by
   intro e F;obtain⟨q,L,rfl⟩:=aOj F;have:=h2 q L;rw[aNg L] at this;simp at this;omega
  have O:P.filter (fun e=>decide (num<e.1))=P:=aNj.2 fun e F=>by simpa using N e F
  have Q:¬((P.length:Int)= -1):=by omega
  simp only[ce,Q,aJ7,pF];have ac:P.length<=1000000:=by simp at hl;omega
  rw[nxt (by omega)];show lp _ ((fun (t:Nat) (a:Int×List Ep)=>(a.1,((P.length+1+t:Nat):Int),a.2)) 0 ((P.length:Int),P++B::R)) _=_;refine Cu (l:=R) (fun (t:Nat) (a:Int×List Ep)=>(a.1,((P.length+1+t:Nat):Int),a.2))
   (fun u a=>∃K J:List Ep,K=P++u.filter (fun e=>decide (num<e.1))/\a.1=(K.length:Int)/\a.2=K++J++R.drop u.length/\K.length+J.length=P.length+1+u.length)
   (fun a=>(a.1,a.2)) ((P.length:Int),P++B::R) (by unfold fI;simp at hl;omega) ⟨P,[B],by simp,rfl,by simp,by simp⟩ ?_ ?_ ?_
  ·rintro u x rest ⟨i,xs⟩ h ⟨K,J,C,z,A,D⟩;simp only at z A;subst z A;have ad:R.length=u.length+1+rest.length:=by rw[h];simp;omega
   have G:((P.length+1+u.length:Nat):Int)<((K++J++R.drop u.length).length:Int):=by
    simp only[sM,aJc];omega
   have hdr:R.drop u.length=x::rest:=by rw[h];simp
   have S:Sw.idx (K++J++R.drop u.length) ((P.length+1+u.length:Nat):Int)=some x:=by
    rw[hdr];apply rD;rw[aNw (by rw[sM];omega),sM,D];simp
   have H:R.drop (u++[x]).length=rest:=by rw[h];simp
   simp only[cl,G,aMi,aCj,S,cM,nJ,cle,bin];rw[nxt (show P.length+1+u.length<=4611686018427387904 by simp at hl;omega)];by_cases I:x.1<=num
   ·refine⟨((K.length:Int),K++J++R.drop u.length),by simp[I];omega,K,J++[x],?_,rfl,?_,?_⟩
    ·rw[C,aLw];have:¬(num<x.1):=by omega
     simp[this]
    ·simp only;rw[hdr,H];simp
    ·simp;omega
   ·have T:J≠ []:=by
     rintro rfl;have:=aM6 (fun e:Ep=>decide (num<e.1)) u;rw[C] at D;simp at D;omega
    cases J with
    |nil=>exact absurd rfl T
    |cons y J=>
     have U:Sw.idx (K++y::J++R.drop u.length) (K.length:Int)=some y:=by
      rw[aE2];exact lY K y (J++R.drop u.length)
     rw[nxt (show K.length<=4611686018427387904 by
      have:K.length<=P.length+1+u.length:=by omega
      simp at hl;omega)]
     refine⟨(((K.length+1:Nat):Int),K++x::J++R.drop u.length),?_,K++[x],J++[x],?_,by simp,?_,?_⟩
     ·simp only[I,aJ7,aMp,aKi,U,cM];simp;omega
     ·rw[C,aLw];have:num<x.1:=by omega
      simp[this]
     ·simp only;rw[hdr,H];simp
     ·simp at D ⊢;omega
  ·rintro⟨i,xs⟩ ⟨K,J,C,z,A,D⟩;simp only at z A;subst z A;have G:¬(((P.length+1+R.length:Nat):Int)<((K++J++R.drop R.length).length:Int)):=by
    simp only[sM,aJc];omega
   simp only[cl,G,aJ7,pF]
  ·rintro⟨i,xs⟩ ⟨K,J,C,z,A,D⟩;simp only at z A;subst z A;have V:R.drop R.length=[]:=List.drop_length;simp only[V,aKc];have X:Sw.sub (K++J) (K.length:Int) ((K++J).length:Int)=some J:=by
    rw[Sw.sub,aF2 (by simp only[sM];omega),aCk,aCk,aNm,aLy]
   simp only[X,cM,aCk];have e2:List.take K.length (K++J)=K:=by simp
   rw[e2,Sw.sub,aF2 (by simp only[sM];omega)];simp only[cM,aCk,Int.toNat_zero,List.drop_zero,aMw,aD2];rw[C,aLw,O,aOc];have:¬(num<B.1):=by omega
   simp[this]
theorem aHb(b:Bd)(n num:Int)(hb:Sm b):oB b n num=some (if tL b n≠0 then (yA,some (tL b n)) else if num<0\/num>b.1 then (yA,some 1) else
  ((b.1,b.2.1,b.2.2.1.filter (fun e=>decide (num<e.1)),if num=b.1 then false else b.2.2.2),none)):=by
 unfold oB;simp only[check_is b n hb,clone_is b hb,cM,aBn b.2.2.1 num hb.se];by_cases u:tL b n=0
 ·simp only[opt,u,aKi,aA8,pF,ne_eq,aM9,aJ6,ce,cl,cg,jp];by_cases h:num<0
  ·simp[h,yA]
  by_cases z:num>b.1
  ·simp[h,z,yA]
  rw[aD0 (by omega)];by_cases A:num=b.1
  ·subst A;simp[h]
  ·simp[h,z,A]
 ·simp[opt,u,yA]
def Aq(A:List (Option oD))(p:oD):List (Option oD):=A.set p.1.toNat (some p)
def Rel(A:List (Option oD)):Prop:=∀(k:Nat) (p:oD),A[k]? =some (some p)->p.1=(k:Int)
theorem Rel.set{A:List (Option oD)}{p:oD}(h:Rel A)(hp:0<=p.1):Rel (Aq A p):=by
 intro k q u;unfold Aq at u;by_cases z:p.1.toNat=k
 ·subst z;by_cases B:p.1.toNat<A.length
  ·rw[aLt B] at u;cases u;omega
  ·rw[aIg (by rw[aM0];omega)] at u;cases u
 ·rw[aK4 z] at u;exact h k q u
def oG(A:List (Option oD))(num:Int)(l:List Ep):List (Option oD):=l.foldl (fun A e=>if num<e.1 then e.2.foldl Aq A else A) A
theorem Ts(l:List oD):∀(A:List (Option oD)),(l.foldl Aq A).length=A.length:=by
 induction l with
 |nil=>intro A;rfl
 |cons x l h=>intro A;rw[aKa,h];simp[Aq]
theorem Ar(num:Int)(l:List Ep):∀(A:List (Option oD)),(oG A num l).length=A.length:=by
 induction l with
 |nil=>intro A;rfl
 |cons x l h=>
  intro A;unfold oG at h ⊢;rw[aKa,h];split
  ·exact Ts _ _
  ·rfl
theorem since_is(b:Bd)(n num:Int)(hb:Sm b):mL b n num=some (if tL b n≠0 then ((0,[]),false,some (tL b n)) else if num<0\/num>b.1 then ((0,[]),false,some 1) else
  if b.1 - num>b.2.2.1.length then ((0,[]),false,none) else ((b.1,(oG (List.replicate 32 none) num b.2.2.1).filterMap id),true,none)):=by
 unfold mL;simp only[check_is b n hb,cM];by_cases F:tL b n=0
 ·obtain⟨k1,k2,k3,k4,k5,k6,k7,k8,U⟩:=bmay_ok F;simp only[opt,F,aKi,aA8,pF,ne_eq,aM9,aJ6];by_cases G:num<0
  ·simp[cl,G]
  by_cases M:num>b.1
  ·simp[cl,cg,G,M]
  rw[aD0 (by omega)];simp only[cl,cg,G,M,aJ7,pF,cM];rw[subI (by omega)];by_cases N:b.1 - num>b.2.2.1.length
  ·simp[N]
  simp only[N,aJ7,pF,aJ6];have H:=hb.se;show lp _ ((fun (i:Nat) (a:List (Option oD))=>((i:Int),a)) 0 (List.replicate 32 none)) _=_;refine Cu (l:=b.2.2.1) (fun (i:Nat) (a:List (Option oD))=>((i:Int),a)) (fun u a=>a=oG (List.replicate 32 none) num u) (fun a=>a) (List.replicate 32 none) (Fh H (by decide)) rfl ?_ ?_ ?_
  ·intro u e T acc h C;have P:u.length<=1000000:=by rw[h] at H;simp at H;omega
   have I:=hb.ep e (zL h);have Q:=Kb U e (zL h);have R:=ris_bounds n e.2 _ Q;have D:acc.length=32:=by rw[C,Ar];simp
   refine⟨if num<e.1 then e.2.foldl Aq acc else acc,?_,by rw[C];simp[oG]⟩;have K:(u.length:Int)<(b.2.2.1.length:Int):=by rw[h];simp;omega
   simp only[K,aMi,aCj,jN h,cM];show lp _ ((fun (i:Nat) (a:List (Option oD))=>((i:Int),a)) 0 acc) _=_;refine Cu (l:=e.2) (fun (i:Nat) (a:List (Option oD))=>((i:Int),a)) (fun u a=>a=if num<e.1 then u.foldl Aq acc else acc) (fun a=>a) acc (Fh I (by decide)) (by simp) ?_ ?_ ?_
   ·intro O x ad B E z;have X:O.length<=1000000:=by rw[E] at I;simp at I;omega
    have S:(O.length:Int)<(e.2.length:Int):=by rw[E];simp;omega
    have aa:=R x (zL E)
    refine⟨if num<e.1 then Aq B x else B,?_,by
     rw[z];by_cases A:num<e.1
     ·simp[A]
     ·simp[A]⟩
    simp only[S,aMi,aCj,jN E,cM];rw[nxt (by omega)];by_cases A:num<e.1
    ·have L:e.1>num:=A;have ab:B.length=32:=by rw[z,aF2 A,Ts];exact D
     obtain⟨y,V,_⟩:=xX (l:=B) (n:=x.1) (by omega) (by omega);simp only[L,aMi,aCj,V,cM,aKi,A,Aq]
    ·have L:¬(e.1>num):=A;simp only[L,aJ7,pF,A,aJ6]
   ·intro B _;simp
   ·intro B z;rw[nxt (by omega),z]
  ·intro acc _;simp
  ·intro acc C;have D:acc.length=32:=by rw[C,Ar];simp
   rw[<-C];show lp _ ((fun (i:Nat) (a:List oD)=>((i:Int),a)) 0 []) _=_;refine Cu (l:=acc) (fun (i:Nat) (a:List oD)=>((i:Int),a)) (fun u a=>a=u.filterMap id) (fun a=>a) [] (by unfold fI;omega) rfl ?_ ?_ ?_
   ·intro u x T a h z;have P:u.length<32:=by rw[<-D,h];simp
    have K:(u.length:Int)<32:=by omega
    have ac:=List.length_filterMap_le id u;simp only[K,aMi,aCj,jN h,cM];cases x with
    |none=>
     refine⟨a,?_,by rw[z];simp⟩;simp only[aA8,pF];rw[nxt (by omega)]
    |some x=>
     refine⟨a++[x],?_,by rw[z];simp⟩;simp only[aM3,aCj,cM];rw[app_small _ _ (by rw[z];simp;omega),cM,nxt (by omega)]
   ·intro a _;rw[D];rfl
   ·intro a z;rw[z]
 ·simp[opt,F]
end Go.PlEp
namespace Go.PlEp
open Go.Pl
open Go Go.Sw Go.Mo
end Go.PlEp
namespace Go.PlEp
open Go.Pl
open Go Go.Sw Go.Mo
theorem Tt{n:Int}{p:oD}(hp:0<=p.1/\p.1<n){l:List oD}(h:risB n (-1) l=true):risB n (-1) (putF l p)=true:=by
 obtain⟨u,D,rfl,I,K,M⟩:=Dr n p.1 l _ h;rw[Fl I K];have L:∀(u:List oD) (last:Int) (R:List oD),risB n last (u++D)=true->(∀x∈u,x.1<p.1)->last<p.1->(∀C,C<p.1->risB n C D=true->risB n C R=true)->risB n last (u++R)=true:=by
  intro u
  induction u with
  |nil=>intro last R z _ F E;exact E last F z
  |cons x u N=>
   intro last R z G F E;simp only[aKr,risB] at z ⊢;split at z
   ·cases z
   ·rename_i H;rw[aD0 H];exact N x.1 R z (fun y A=>G y (by simp[A])) (G x (by simp)) E
 refine L u (-1) _ h I (by omega) fun C O B=>?_;simp only[risB];rw[aD0 (by omega),M];cases D with
 |nil=>rfl
 |cons y D=>
  simp only[risB] at B;split at B
  ·cases B
  ·rename_i H;by_cases A:y.1=p.1
   ·simp only[A,aKi];rw[<-A];exact B
   ·simp only[A,aJ6,risB];have:=K y (by simp);rw[aD0 (by omega)];exact B
theorem Mj{n base:Int}{e:Ep}:∀{l:List Ep} {i:Int},Fk n base i l=true->risB n (-1) e.2=true->e.1=base+i+l.length->Fk n base i (l++[e])=true
 | [],i,_,u,z=>by simp only[aKn,Fk];rw[aF2 ⟨u,by simpa using z⟩]
 |x::l,i,h,u,z=>by
  simp only[aKr,Fk] at h ⊢;split at h
  ·rename_i A;rw[aF2 A];exact Mj h u (by rw[z];simp only[aIa];omega)
  ·cases h
theorem Mk{n base num:Int}:∀{l:List Ep} {i:Int},Fk n base i l=true->Fk n (base+(l.length - (l.filter fun e=>decide (num<e.1)).length:Int)) i (l.filter fun e=>decide (num<e.1))=true
 | [],_,_=>by simp[Fk]
 |x::l,i,h=>by
  have E:=h;simp only[Fk] at h;split at h
  ·rename_i H;by_cases C:num<x.1
   ·
    have F:∀{l:List Ep} {j:Int},Fk n base j l=true->num<base+j->∀e∈l,num<e.1:=by
     intro l
     induction l with
     |nil=>intro j _ _ e u;simp at u
     |cons y l A=>
      intro j z I e u;simp only[Fk] at z;split at z
      ·rename_i D;rcases aF3.1 u with rfl | u
       ·omega
       ·exact A z (by omega) e u
      ·cases z
    have B:(x::l).filter (fun e=>decide (num<e.1))=x::l:=aNj.2 fun e u=>by
     rcases aF3.1 u with rfl | u
     ·simpa using C
     ·have:=F h (by omega) e u;simpa using this
    rw[B];simpa using E
   ·have B:(x::l).filter (fun e=>decide (num<e.1))=l.filter (fun e=>decide (num<e.1)):=by simp[C]
    rw[B];have A:=Mk (num:=num) h;have G:∀{l:List Ep} {b j:Int},Fk n b (j+1) l=true->Fk n (b+1) j l=true:=by
     intro l
     induction l with
     |nil=>intro _ _ _;rfl
     |cons y l A=>
      intro b j z;simp only[Fk] at z ⊢;split at z
      ·rename_i D;rw[aF2 ⟨D.1,by omega⟩];exact A z
      ·cases z
    have:=G A;have e:base+((l.length:Int) - ((l.filter fun e=>decide (num<e.1)).length:Int))+1=base+(((x::l).length:Int) - ((l.filter fun e=>decide (num<e.1)).length:Int)):=by
     simp only[aIa];omega
    rw[e] at this;exact this
  ·cases h
theorem Ds{b:Bd}{n:Int}(h1:1<=n/\n<=32)(h2:0<=b.1/\b.1<=2147483647)(h3:b.2.2.1.length<=4)(h4:risB n (-1) b.2.1=true)(h5:¬(b.2.2.2=true/\b.2.2.1.length>0))(h6:(b.2.2.1.length:Int)<=b.1)(h7:Fk n (b.1 - b.2.2.1.length+1) 0 b.2.2.1=true):tL b n=0:=by
 unfold tL;rw[aD0 (by omega),aD0 (by omega),aF2 ⟨h4,h5,h6,h7⟩]
theorem sm_of{b:Bd}{n:Int}(h:tL b n=0):Sm b:=by
 obtain⟨H,I,K,L,M,C,N,O,D⟩:=bmay_ok h;have A:∀(l:List oD) (last:Int),-1<=last->risB n last l=true->(l.length:Int)<=n - last - 1\/l=[]:=by
  intro l
  induction l with
  |nil=>intro _ _ _;exact .inr rfl
  |cons x l E=>
   intro last F h;simp only[risB] at h;split at h
   ·cases h
   ·rename_i G;left;rcases E x.1 (by omega) h with u | u
    ·simp only[aIa];omega
    ·subst u;simp only[aIa,aKb];omega
 have z:∀l:List oD,risB n (-1) l=true->l.length<=1000000:=fun l h=>by
  rcases A l (-1) (by omega) h with u | u
  ·omega
  ·subst u;simp
 exact⟨z _ C,by omega,fun e B=>z _ (Kb D e B)⟩
theorem aHc{b:Bd}{n:Int}{p:oD}(h:tL b n=0)(hp:0<=p.1/\p.1<n):tL (b.1,putF b.2.1 p,b.2.2.1,b.2.2.2) n=0:=by
 obtain⟨u,z,A,B,C,D,E,F,G⟩:=bmay_ok h;exact Ds ⟨u,z⟩ ⟨A,B⟩ C (Tt hp D) E F G
theorem aEn{b:Bd}{n num:Int}(h:tL b n=0)(_hn:0<=num/\num<=b.1):tL (b.1,b.2.1,b.2.2.1.filter (fun e=>decide (num<e.1)),if num=b.1 then false else b.2.2.2) n=0:=by
 obtain⟨A,B,C,D,E,F,G,K,H⟩:=bmay_ok h;have z:=aM6 (fun e:Ep=>decide (num<e.1)) b.2.2.1;refine Ds ⟨A,B⟩ ⟨C,D⟩ (aLi z E) F ?_ (by simp only;omega) ?_
 ·rintro⟨u,I⟩;simp only at u I;split at u
  ·cases u
  ·exact G ⟨u,by omega⟩
 ·have:=Mk (num:=num) H;have e:b.1 - (b.2.2.1.length:Int)+1+((b.2.2.1.length:Int) - ((b.2.2.1.filter fun e=>decide (num<e.1)).length:Int))=b.1 - ((b.2.2.1.filter fun e=>decide (num<e.1)).length:Int)+1:=by omega
  rw[e] at this;exact this
def Bf(b:Bd):Bd:=if b.2.2.2=true then (b.1+1,[],b.2.2.1,b.2.2.2) else if b.2.2.1.length=4 then (b.1+1,[],[],true) else (b.1+1,[],b.2.2.1++[(b.1+1,b.2.1)],b.2.2.2)
theorem aEo{b:Bd}{n:Int}(h:tL b n=0)(hn:b.1<2147483647):tL (Bf b) n=0:=by
 obtain⟨u,z,F,G,H,D,B,I,E⟩:=bmay_ok h;unfold Bf;cases hbh:b.2.2.2 with
 |true=>
  have C:b.2.2.1=[]:=aIe (by simp[hbh] at B;simp[B]);simp only[aKi,C];exact Ds ⟨u,z⟩ (by simp only;omega) (by simp) rfl (by simp) (by simp;omega) rfl
 |false=>
  by_cases A:b.2.2.1.length=4
  ·simp only[aIk,aJ6,A,aKi];exact Ds ⟨u,z⟩ (by simp only;omega) (by simp) rfl (by simp) (by simp;omega) rfl
  ·simp only[aIk,aJ6,A];refine Ds ⟨u,z⟩ (by simp only;omega) (by simp;omega) rfl (by simp) (by simp;omega) ?_;have e:b.1+1 - ((b.2.2.1++[(b.1+1,b.2.1)]).length:Int)+1=b.1 - (b.2.2.1.length:Int)+1:=by simp;omega
   simp only;rw[e];exact Mj E D (by simp only;omega)
theorem seal_ok{b:Bd}{n:Int}(h:tL b n=0)(hn:b.1<2147483647):qW b n=some (Bf b,none):=by
 rw[aHa b n (sm_of h),aD0 (by omega),aD0 (by omega)];unfold Bf;split
 ·rfl
 ·split<;>rfl
theorem add_ok{b:Bd}{n:Int}{p:oD}(h:tL b n=0)(hp:0<=p.1/\p.1<n):sO b n p=some ((b.1,putF b.2.1 p,b.2.2.1,b.2.2.2),none):=by
 rw[add_is b n p (sm_of h),aD0 (by omega),aD0 (by omega)]
theorem aHd{b:Bd}{n num:Int}(h:tL b n=0)(hn:0<=num/\num<=b.1):oB b n num=some ((b.1,b.2.1,b.2.2.1.filter (fun e=>decide (num<e.1)),if num=b.1 then false else b.2.2.2),none):=by
 rw[aHb b n num (sm_of h),aD0 (by omega),aD0 (by omega)]
end Go.PlEp
