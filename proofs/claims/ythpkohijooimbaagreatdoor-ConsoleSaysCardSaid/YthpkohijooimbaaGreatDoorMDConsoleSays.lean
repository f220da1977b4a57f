/- What the functions come to, as plain functions. Plain laws about these plain functions alone. Conditions: none. -/
import Derived.Test.YthpkohijooimbaaGreatDoorMCConsoleSays
set_option linter.unusedVariables false
set_option linter.unusedSimpArgs false
namespace Go.Mo
open Go Go.Sw
abbrev aD:=List Int
abbrev aK:Fu aD:=Fu.arr 8 (Fu.int .u8)
def aE:aD:=List.replicate 8 0
abbrev bS:=((Unit×Unit) ⊕ ((Unit×Unit) ⊕ (Unit×Unit)))
abbrev eX(a p:Nat):Fu bS:=(pG (Fu.iz 226 (Fu.O3 a) jQ) (pG (Fu.iz 227 (Fu.O3 a) jQ) (Fu.iz 228 jQ (Fu.O3 p)) rfl rfl rfl rfl) rfl rfl rfl rfl)
abbrev bW:=((Unit×(Unit×Int)) ⊕ (Unit×Unit))
abbrev gG(a p:Nat):Fu bW:=(pG (Fu.iz 251 jQ (Fu.pr (Fu.O3 p) (Fu.pt (Fu.int .u8)))) (Fu.iz 227 (Fu.O3 a) jQ) rfl rfl rfl rfl)
abbrev aA:=((Unit×(Unit×(List (Int×aD)))) ⊕ ((Unit×(Unit×(Int×(Int×aD)))) ⊕ ((Unit×(Unit×(Int×(Int×aD)))) ⊕ ((Unit×Unit) ⊕ ((Unit×Unit) ⊕ ((Unit×Unit) ⊕ ((Unit×Unit) ⊕ (Unit×Unit))))))))
abbrev aJ(a p:Nat):Fu aA:=(pG (Fu.iz 234 jQ (Fu.pr (Fu.O3 p) (Fu.pt (Fu.sl (Fu.pr (Fu.int .i64) aK))))) (pG (Fu.iz 236 jQ (Fu.pr (Fu.O3 p) (Fu.pr (Fu.pt (Fu.int .i64)) (Fu.pt (Fu.pr (Fu.int .i64) aK))))) (pG (Fu.iz 237 jQ (Fu.pr (Fu.O3 p) (Fu.pr (Fu.pt (Fu.int .i64)) (Fu.pt (Fu.pr (Fu.int .i64) aK))))) (pG (Fu.iz 227 (Fu.O3 a) jQ) (pG (Fu.iz 238 jQ (Fu.O3 p)) (pG (Fu.iz 226 (Fu.O3 a) jQ) (pG (Fu.iz 227 (Fu.O3 a) jQ) (Fu.iz 239 jQ (Fu.O3 p)) rfl rfl rfl rfl) rfl rfl rfl rfl) rfl rfl rfl rfl) rfl rfl rfl rfl) rfl rfl rfl rfl) rfl rfl rfl rfl) rfl rfl rfl rfl)
abbrev oC:=(Unit ⊕ (((Option ((List aD)×(List (aD×(List Int)))))) ⊕ (((List aD)) ⊕ (Unit ⊕ Unit))))
abbrev Lj:Fu oC:=(uW 162 jQ (uW 164 (Fu.ah (Fu.we (Fu.pr (Fu.sl aK) (Fu.mpF aK (Fu.sl (Fu.int .i64)))))) (uW 166 (Fu.ah (Fu.sl aK)) (uW 167 jQ RM rfl rfl) rfl rfl) rfl rfl) rfl rfl)
abbrev bZ:=((List aD)×(List (Int×aD))×Int)
abbrev nJ:=(Int×(List (Int×aD))×(List (Int×(List (Int×aD))))×Bool)
abbrev oA:=(Int×Int×(List (Int×(List Int)×(List aD))))
abbrev aO:=(List Int)
abbrev lA:=(List (Bool×Bool×aO))
abbrev cO:=(List aD)
abbrev kQ:=(List (Int×aD))
abbrev tL:=(List (Int×Int×Int×aD))
abbrev rE:=(List (Int×cO))
abbrev pR:=(Int×Int)
abbrev cD:=(Option Int)
abbrev vU:=(List (Int×aO×cO))
abbrev Gt:=(List (Int×aD×Int×Int×Int×cO))
abbrev rF:=(List (Int×kQ))
abbrev xV:=(Int×Int×Int×aD)
def iP(u:aO):Option ((Int×Int×Nat)×Bool):=bif (decide (u=([110,101,119]:List Int))) then some ((1,0,(0:Nat)),true) else bif (decide (u=([119,114,105,116,101]:List Int))) then some ((2,0,(1:Nat)),true) else bif (decide (u=([116,114,105,109]:List Int))) then some ((1,1,(2:Nat)),true) else bif (decide (u=([114,101,97,100]:List Int))) then some ((1,2,(2:Nat)),true) else bif (decide (u=([98,97,114,114,105,101,114]:List Int))) then some ((0,3,(2:Nat)),true) else bif (decide (u=([116,105,99,107]:List Int))) then some ((0,4,(2:Nat)),true) else bif (decide (u=([100,101,108,105,118,101,114]:List Int))) then some ((1,5,(2:Nat)),true) else bif (decide (u=([108,111,115,101]:List Int))) then some ((1,6,(2:Nat)),true) else bif (decide (u=([100,111,117,98,108,101]:List Int))) then some ((1,7,(2:Nat)),true) else bif (decide (u=([99,114,97,115,104]:List Int))) then some ((1,0,(3:Nat)),true) else bif (decide (u=([115,101,116,116,108,101]:List Int))) then some ((0,0,(4:Nat)),true) else bif (decide (u=([112,108,97,110]:List Int))) then some ((0,0,(5:Nat)),true) else some ((0,0,(6:Nat)),false)
def fO(u:aO):Option (Int×cD):=(bif (decide (u=([]:List Int))) then some true else bif (cm .gtr (u.length:Int) 6) then some true else (Lh u ([48,49,50,51,52,53,54,55,56,57]:List Int)).bind λB=>bif (!decide (B=([]:List Int))) then some true else (Sw.idx u 0).bind λC=>bif (cm .eql C 48) then some (!decide (u=([48]:List Int))) else some false).bind λD=>bif D then some (0,(some 3)) else (Uk u).bind λA=>some (A.1,A.2)
def gT(K:Int)(D:(List aO))(b0:Bool)(A:aO)(E:Int)(F:tL):Option (aO×cD×Bool×aO×Int×tL):=(Sw.idx D 0).bind λG=>(fO G).bind λu=>(bif (Option.isNone u.2) then bif (cm .lss u.1 1) then some true else some (cm .gtr u.1 32) else some false).bind λI=>jp (λ(B:cD)=>bif (Option.isSome B) then some (([]:List Int),B,b0,A,E,F) else some (([111,107]:List Int),(none:Option Int),b0,A,u.1,([]:tL)) ) λC=>bif I then C (some 1) else C u.2
def oD(A:aO):Option (aD×cD):=(bif (cm .neq (A.length:Int) 16) then some true else (Lh A ([48,49,50,51,52,53,54,55,56,57,97,98,99,100,101,102]:List Int)).bind λB=>some (!decide (B=([]:List Int)))).bind λC=>bif C then some (aE,(some 3)) else lp (β:=aD) (λ(u:Int×aD)=>bif (cm .lss u.1 8) then (Sw.idx A (ar .mul .i64 2 u.1)).bind λD=>(KW ([48,49,50,51,52,53,54,55,56,57,97,98,99,100,101,102]:List Int) D).bind λE=>(Sw.idx A (ar .add .i64 (ar .mul .i64 2 u.1) 1)).bind λF=>(KW ([48,49,50,51,52,53,54,55,56,57,97,98,99,100,101,102]:List Int) F).bind λG=>(Sw.idx u.2 u.1).bind λ_=>some (.next ((ar .add .i64 u.1 1),(List.set u.2 (Int.toNat u.1) (IntKind.wrap .u8 (ar .or .i64 (sh .shl .i64 E 4) G))))) else some (.done (.u9 u.2)) ) (0,aE) λ(I:aD)=>some (I,(none:Option Int))
def qQ(u:Int):Option (Int×cD):=(bif (cm .lss u 1) then some true else some (cm .gtr u 32)).bind λA=>bif A then some (0,(some 1)) else some ((ar .add .i64 (ar .add .i64 (ar .add .i64 u 1) 2) (ar .mul .i64 2 (ar .add .i64 u 1))),(none:Option Int))
def zK(u:Int):Option (bZ×cD):=(bif (cm .lss u 1) then some true else some (cm .gtr u 200)).bind λA=>bif A then some ((([]:cO),([]:kQ),0),(some 1)) else (Sw.mk u aE).bind λB=>some ((B,([]:kQ),(-1:Int)),(none:Option Int))
def qB(B:Int):Option (bZ×cD):=(qQ B).bind λu=>bif (Option.isSome u.2) then some ((([]:cO),([]:kQ),0),u.2) else (zK u.1).bind λA=>some (A.1,A.2)
def kR(u:(Int×aD))(A:bZ):Option (Bool):=(bif (cm .lss u.1 0) then some true else some (cm .geq u.1 (A.1.length:Int))).bind λB=>some B
def bY(A:kQ)(B3:bZ):Option (Int):=lp (β:=Unit) (λ(u:Int)=>bif (cm .lss u (A.length:Int)) then (Sw.idx A u).bind λB=>(kR B B3).bind λC=>bif C then some (.done (.ret u)) else some (.next (ar .add .i64 u 1)) else some (.done (.u9 ())) ) 0 λ(_:Unit)=>some (-1:Int)
def bB(u:kQ)(B3:bZ):Option (Bool):=(bY u B3).bind λA=>some (cm .geq A 0)
def lL(u:bZ):Option (cD):=(bif (cm .lss (u.1.length:Int) 1) then some true else bif (cm .gtr (u.1.length:Int) 200) then some true else some (cm .gtr (u.2.1.length:Int) 800)).bind λA=>bif A then some (some 2) else (bB u.2.1 u).bind λB=>bif B then some (some 1) else some (none:Option Int)
def jL(u:(Bool×cO)):Option (cO):=bif u.1 then some ([]:cO) else (Sw.app ([]:cO) u.2).bind λA=>some A
def aB(u:cO):Option cO:=Sw.app [] u
def eH(u:kQ):Option (kQ):=some u
def gU(u:bZ)(A:Int):Option (aD×cD):=(lL u).bind λB=>bif (Option.isSome B) then some (aE,B) else (bif (cm .lss A 0) then some true else some (cm .geq A (u.1.length:Int))).bind λE=>bif E then some (aE,(some 1)) else bif (cm .eql u.2.2 0) then some (aE,(some 4)) else (eH u.2.1).bind λC=>(Sw.small C).bind λ_=>rg (δ:=aD) (λ(D:(Int×(Int×aD))) (_:Unit)=>bif (cm .eql D.2.1 A) then some (.done D.2.2) else some (.next ()) ) (Sw.dn C) () (λ(_:Unit)=>(Sw.idx u.1 A).bind λF=>some (F,(none:Option Int)) ) λ(G:aD)=>some (G,(none:Option Int))
def fK(u:aD):Option (Int):=(Sw.idx u 0).bind λA=>(Sw.idx u 1).bind λB=>(Sw.idx u 2).bind λC=>(Sw.idx u 3).bind λD=>some (ar .or .i64 (ar .or .i64 (ar .or .i64 (sh .shl .i64 A 24) (sh .shl .i64 B 16)) (sh .shl .i64 C 8)) D)
def kS(u:(Bool×kQ)):Option (kQ):=bif u.1 then some ([]:kQ) else (Sw.app ([]:kQ) u.2).bind λA=>some A
def aM(u:kQ):Option kQ:=Sw.app [] u
def qR(u:bZ):Option (bZ):=(aB u.1).bind λA=>(aM u.2.1).bind λB=>some (A,B,u.2.2)
def iQ(q7:cO)(w7:kQ)(zf:Int):Option (cD×cO×kQ×Int):=bif (cm .eql zf 0) then some ((some 4),q7,w7,zf) else jp (λ(A:Int)=>some ((none:Option Int),q7,w7,A) ) λu=>bif (cm .gtr zf 0) then u (ar .sub .i64 zf 1) else u zf
def qS(A:bZ)(B:Int)(E:aD):Option (bZ×cD):=(lL A).bind λD=>bif (Option.isSome D) then some ((([]:cO),([]:kQ),0),D) else (bif (cm .lss B 0) then some true else some (cm .geq B (A.1.length:Int))).bind λF=>bif F then some ((([]:cO),([]:kQ),0),(some 1)) else bif (cm .eql (A.2.1.length:Int) 800) then some ((([]:cO),([]:kQ),0),(some 2)) else (qR A).bind λC=>(iQ C.1 C.2.1 C.2.2).bind λu=>bif (Option.isSome u.1) then some ((([]:cO),([]:kQ),0),u.1) else (Sw.app u.2.2.1 ([(B,E)]:kQ)).bind λG=>some ((u.2.1,G,u.2.2.2),(none:Option Int))
def cP(q7:Int)(w7:bZ)(B:Int)(C:aD):Option (cD×Int×bZ):=(qS w7 B C).bind λu=>jp (λ(D:bZ)=>some (u.2,q7,D) ) λA=>bif (Option.isNone u.2) then A u.1 else A w7
def fQ(q7:Int)(w7:bZ):Option (cD×Int×bZ):=(gU w7 (ar .add .i64 q7 2)).bind λE=>lp (β:=cD×Int×bZ) (λ(u:cD×Int×Int×bZ)=>(bif (Option.isNone u.1) then (fK E.1).bind λI=>some (cm .lss u.2.1 I) else some false).bind λK=>bif K then (gU u.2.2.2 (ar .add .i64 (ar .add .i64 u.2.2.1 3) (ar .mul .i64 2 u.2.1))).bind λA=>jp (λ(B:cD×aD)=>bif (Option.isNone B.1) then (fK A.1).bind λL=>(cP u.2.2.1 u.2.2.2 L B.2).bind λC=>some (.next (C.1,(ar .add .i64 u.2.1 1),C.2.1,C.2.2)) else some (.next (B.1,(ar .add .i64 u.2.1 1),u.2.2.1,u.2.2.2)) ) λF=>bif (Option.isNone A.2) then (gU u.2.2.2 (ar .add .i64 (ar .add .i64 u.2.2.1 4) (ar .mul .i64 2 u.2.1))).bind λG=>F (G.2,G.1) else F (A.2,aE) else some (.done (.u9 (u.1,u.2.2.1,u.2.2.2))) ) (E.2,0,q7,w7) λ(D:cD×Int×bZ)=>some (D.1,D.2.1,D.2.2)
def qT(D:bZ):Option (bZ×cD):=(lL D).bind λE=>bif (Option.isSome E) then some ((([]:cO),([]:kQ),0),E) else (qR D).bind λB=>(iQ B.1 B.2.1 B.2.2).bind λu=>bif (Option.isSome u.1) then some ((([]:cO),([]:kQ),0),u.1) else lp (β:=cO) (λ(A:Int×cO)=>bif (cm .lss A.1 (u.2.2.1.length:Int)) then (Sw.idx u.2.2.1 A.1).bind λC=>(Sw.idx A.2 C.1).bind λ_=>some (.next ((ar .add .i64 A.1 1),(List.set A.2 (Int.toNat C.1) C.2))) else some (.done (.u9 A.2)) ) (0,u.2.1) λ(F:cO)=>some ((F,([]:kQ),u.2.2.2),(none:Option Int))
def dD(q7:Int)(w7:bZ):Option (cD×Int×bZ):=(qT w7).bind λu=>jp (λ(B:bZ)=>some (u.2,q7,B) ) λA=>bif (Option.isNone u.2) then A u.1 else A w7
def gV(A rp:Int)(xf:bZ):Option (cD×Int×bZ):=(cP rp xf (ar .add .i64 rp 1) ([A]++List.replicate 7 0:aD)).bind λu=>some (u.1,u.2.1,u.2.2)
def kG(q:bW)(n0:Int)(n1:bZ):Option (cD×Int×bZ):=match q with | .inl z=>gV z.2.2 n0 n1 | .inr z=>dD n0 n1
def fD(B:(List bW))(B3:Int)(M3:bZ):Option (cD×Int×bZ):=lp (β:=Int×bZ) (λ(u:Int×Int×bZ)=>bif (cm .lss u.1 (B.length:Int)) then (Sw.idx B u.1).bind λD=>(kG D u.2.1 u.2.2).bind λA=>bif (Option.isSome A.1) then some (.done (.ret (A.1,A.2.1,A.2.2))) else some (.next ((ar .add .i64 u.1 1),A.2.1,A.2.2)) else some (.done (.u9 (u.2.1,u.2.2))) ) (0,B3,M3) λ(C:Int×bZ)=>some ((none:Option Int),C.1,C.2)
def dM(q7:Int)(w7:bZ)(A:Int):Option (cD×Int×bZ):=(fD ([(.inl ((),((),A)):bW),(.inr ((),()):bW)]:(List bW)) q7 w7).bind λu=>some (u.1,u.2.1,u.2.2)
def lB(B3:Int)(M3:bZ):Option (cD×Int×bZ):=(dM B3 M3 0).bind λu=>some (u.1,u.2.1,u.2.2)
def mB(q:bS)(n0:Int)(n1:bZ):Option (cD×Int×bZ):=match q with | .inl z=>fQ n0 n1 | .inr (.inl z)=>dD n0 n1 | .inr (.inr z)=>lB n0 n1
def hO(B:(List bS))(B3:Int)(M3:bZ):Option (cD×Int×bZ):=lp (β:=Int×bZ) (λ(u:Int×Int×bZ)=>bif (cm .lss u.1 (B.length:Int)) then (Sw.idx B u.1).bind λD=>(mB D u.2.1 u.2.2).bind λA=>bif (Option.isSome A.1) then some (.done (.ret (A.1,A.2.1,A.2.2))) else some (.next ((ar .add .i64 u.1 1),A.2.1,A.2.2)) else some (.done (.u9 (u.2.1,u.2.2))) ) (0,B3,M3) λ(C:Int×bZ)=>some ((none:Option Int),C.1,C.2)
def eY(q7:Int)(w7:bZ):Option (cD×Int×bZ):=(gU w7 (ar .add .i64 q7 1)).bind λu=>(bif (Option.isSome u.2) then some true else (Sw.idx u.1 0).bind λB=>some (cm .eql B 0)).bind λC=>bif C then some (u.2,q7,w7) else (hO ([(.inl ((),()):bS),(.inr (.inl ((),())):bS),(.inr (.inr ((),())):bS)]:(List bS)) q7 w7).bind λA=>some (A.1,A.2.1,A.2.2)
def kH(u:bZ)(C:Int):Option ((Option (Int×bZ))×cD):=(qQ C).bind λB=>bif (Option.isSome B.2) then some ((none:(Option (Int×bZ))),B.2) else (lL u).bind λD=>(bif (Option.isSome D) then some true else bif (cm .neq (u.1.length:Int) B.1) then some true else some (cm .gtr (u.2.1.length:Int) 0)).bind λE=>bif E then some ((none:(Option (Int×bZ))),(some 5)) else (aB u.1).bind λF=>(eY C (F,([]:kQ),u.2.2)).bind λA=>bif (Option.isSome A.1) then some ((none:(Option (Int×bZ))),A.1) else some ((some (A.2.1,A.2.2)),(none:Option Int))
def iG(B:Int):Option ((Option (Int×bZ))×cD):=(qB B).bind λu=>bif (Option.isSome u.2) then some ((none:(Option (Int×bZ))),u.2) else (kH u.1 B).bind λA=>lJ A.1 ( some ((none:(Option (Int×bZ))),A.2) ) λC=>some ((some (C.1,C.2)),A.2)
def eO(A:(Int×bZ)):Option (Int×Int×cD):=(gU A.2 A.1).bind λu=>bif (Option.isSome u.2) then some (0,0,u.2) else (fK u.1).bind λB=>(Sw.qg u.1 4 8 8).bind λC=>(Sw.sub u.1 0 4).bind λD=>(Sw.app C D).bind λE=>(Sw.S6 8 E).bind λF=>(fK F).bind λG=>some (B,G,(none:Option Int))
def iH(u:(Int×aD))(A:(Option (Int×bZ))):Option (Bool):=(bif (cm .lss u.1 0) then some true else (A).bind λB=>some (cm .geq u.1 B.1)).bind λC=>some C
def bH(A:kQ)(B3:(Option (Int×bZ))):Option (Int):=lp (β:=Unit) (λ(u:Int)=>bif (cm .lss u (A.length:Int)) then (Sw.idx A u).bind λB=>(iH B B3).bind λC=>bif C then some (.done (.ret u)) else some (.next (ar .add .i64 u 1)) else some (.done (.u9 ())) ) 0 λ(_:Unit)=>some (-1:Int)
def aT(u:kQ)(B3:(Option (Int×bZ))):Option (Bool):=(bH u B3).bind λA=>some (cm .geq A 0)
def jM(u:Int):Option (aD):=some ([(IntKind.wrap .u8 (sh .shr .i64 u 24)),(IntKind.wrap .u8 (sh .shr .i64 u 16)),(IntKind.wrap .u8 (sh .shr .i64 u 8)),(IntKind.wrap .u8 u)]++List.replicate 4 0:aD)
def fV(A:kQ)(rp:Int)(xf:bZ):Option (cD×Int×bZ):=(jM (A.length:Int)).bind λB=>(cP rp xf (ar .add .i64 rp 2) B).bind λu=>some (u.1,u.2.1,u.2.2)
def fW(A:Int)(B:(Int×aD))(rm:Int)(xe:bZ):Option (cD×Int×bZ):=(jM B.1).bind λC=>(cP rm xe (ar .add .i64 (ar .add .i64 rm 3) (ar .mul .i64 2 A)) C).bind λu=>some (u.1,u.2.1,u.2.2)
def fX(A:Int)(B:(Int×aD))(rm:Int)(xe:bZ):Option (cD×Int×bZ):=(cP rm xe (ar .add .i64 (ar .add .i64 rm 4) (ar .mul .i64 2 A)) B.2).bind λu=>some (u.1,u.2.1,u.2.2)
def fY(B3:Int)(M3:bZ):Option (cD×Int×bZ):=(dM B3 M3 1).bind λu=>some (u.1,u.2.1,u.2.2)
def fZ(B3:Int)(M3:bZ):Option (cD×Int×bZ):=(dM B3 M3 0).bind λu=>some (u.1,u.2.1,u.2.2)
def gI(q:aA)(n0:Int)(n1:bZ):Option (cD×Int×bZ):=match q with | .inl z=>fV z.2.2 n0 n1 | .inr (.inl z)=>fW z.2.2.1 z.2.2.2 n0 n1 | .inr (.inr (.inl z))=>fX z.2.2.1 z.2.2.2 n0 n1 | .inr (.inr (.inr (.inl z)))=>dD n0 n1 | .inr (.inr (.inr (.inr (.inl z))))=>fY n0 n1 | .inr (.inr (.inr (.inr (.inr (.inl z)))))=>fQ n0 n1 | .inr (.inr (.inr (.inr (.inr (.inr (.inl z))))))=>dD n0 n1 | .inr (.inr (.inr (.inr (.inr (.inr (.inr z))))))=>fZ n0 n1
def dA(B:(List aA))(B3:Int)(M3:bZ):Option (cD×Int×bZ):=lp (β:=Int×bZ) (λ(u:Int×Int×bZ)=>bif (cm .lss u.1 (B.length:Int)) then (Sw.idx B u.1).bind λD=>(gI D u.2.1 u.2.2).bind λA=>bif (Option.isSome A.1) then some (.done (.ret (A.1,A.2.1,A.2.2))) else some (.next ((ar .add .i64 u.1 1),A.2.1,A.2.2)) else some (.done (.u9 (u.2.1,u.2.2))) ) (0,B3,M3) λ(C:Int×bZ)=>some ((none:Option Int),C.1,C.2)
def bF(q7:Int)(w7:bZ)(A:kQ)(B C:Int):Option (cD×Int×bZ):=bif (cm .gtr (A.length:Int) q7) then some ((some 2),q7,w7) else (bif (cm .lss (min B C) 0) then some true else bif (cm .gtr (max B C) 2147483647) then some true else (aT A (some (q7,w7))).bind λG=>some G).bind λI=>bif I then some ((some 1),q7,w7) else (jM B).bind λK=>(jM C).bind λL=>(aM A).bind λM=>(Sw.qg K 0 4 4).bind λN=>(Sw.sub L 0 4).bind λO=>(Sw.app N O).bind λP=>(Sw.S6 8 P).bind λQ=>(Sw.app M ([(q7,Q)]:kQ)).bind λD=>lp (β:=(List aA)) (λ(u:Int×(List aA))=>bif (cm .lss u.1 (D.length:Int)) then (Sw.idx D u.1).bind λF=>(Sw.app u.2 ([(.inr (.inl ((),((),(u.1,F)))):aA),(.inr (.inr (.inl ((),((),(u.1,F))))):aA)]:(List aA))).bind λR=>some (.next ((ar .add .i64 u.1 1),R)) else some (.done (.u9 u.2)) ) (0,([(.inl ((),((),D)):aA)]:(List aA))) λ(S:(List aA))=>(Sw.app S ([(.inr (.inr (.inr (.inl ((),())))):aA),(.inr (.inr (.inr (.inr (.inl ((),()))))):aA),(.inr (.inr (.inr (.inr (.inr (.inl ((),())))))):aA),(.inr (.inr (.inr (.inr (.inr (.inr (.inl ((),()))))))):aA),(.inr (.inr (.inr (.inr (.inr (.inr (.inr ((),()))))))):aA)]:(List aA))).bind λT=>(dA T q7 w7).bind λE=>some (E.1,E.2.1,E.2.2)
def iI(b0 D B C:Int)(E:cO)(F:nJ)(G:rE)(I:Int)(K:oA)(L l9:Int)(o6:aO)(l8 j9 l7 l6:Int)(o7:pR)(l5:lA)(p5:Int)(p4:bZ):Option (cD×Int×Int×Int×bZ):=(eO (p5,p4)).bind λu=>bif (Option.isSome u.2.2) then some (u.2.2,B,C,p5,p4) else (bF p5 p4 ([]:kQ) u.1 (ar .add .i64 u.2.1 1)).bind λA=>some (A.1,u.1,(ar .add .i64 u.2.1 1),A.2.1,A.2.2)
def jR(A:(Int×bZ))(u:Int):Option (aD×cD):=(bif (cm .lss u 0) then some true else some (cm .geq u A.1)).bind λC=>bif C then some (aE,(some 1)) else (gU A.2 u).bind λB=>some (B.1,B.2)
def eS(B:(Int×bZ)):Option (cO×cD):=lp (β:=cO) (λ(u:Int×cO)=>bif (cm .lss u.1 B.1) then (jR B u.1).bind λA=>bif (Option.isSome A.2) then some (.done (.ret (([]:cO),A.2))) else (Sw.app u.2 ([A.1]:cO)).bind λC=>some (.next ((ar .add .i64 u.1 1),C)) else some (.done (.u9 u.2)) ) (0,([]:cO)) λ(D:cO)=>some (D,(none:Option Int))
def eD(b0 E u F:Int)(A:cO)(G:nJ)(B:rE)(I:Int)(K:oA)(L l9:Int)(o6:aO)(l8 j9 l7 l6:Int)(o7:pR)(l5:lA)(p5:Int)(p4:bZ):Option (rE):=(aB A).bind λC=>(Cv B u C).bind λD=>some (Gp D (ar .sub .i64 (ar .sub .i64 u 4) 1))
def dS(b0 C D E:Int)(F:cO)(G:nJ)(I:rE)(K:Int)(L:oA)(M l9:Int)(o6:aO)(l8 j9 l7 l6:Int)(o7:pR)(l5:lA)(p5:Int)(p4:bZ):Option (cD×Int×Int×Int×cO×nJ×rE×Int×oA×Int×Int×aO×Int×bZ):=(iI b0 b0 0 0 ([]:cO) (0,([]:kQ),([]:rF),false) ([]:List (Int×cO)) (-1:Int) (0,0,([]:vU)) 0 0 ([]:aO) l8 j9 l7 l6 o7 l5 p5 p4).bind λu=>bif (Option.isSome u.1) then some (u.1,b0,u.2.1,u.2.2.1,([]:cO),(0,([]:kQ),([]:rF),false),([]:List (Int×cO)),(-1:Int),(0,0,([]:vU)),0,0,([]:aO),u.2.2.2.1,u.2.2.2.2) else (eS u.2.2.2).bind λA=>(eD b0 b0 u.2.1 u.2.2.1 A.1 (u.2.1,([]:kQ),([]:rF),true) ([]:List (Int×cO)) (-1:Int) (0,0,([]:vU)) 0 0 ([]:aO) l8 j9 l7 l6 o7 l5 u.2.2.2.1 u.2.2.2.2).bind λB=>some (A.2,b0,u.2.1,u.2.2.1,A.1,(u.2.1,([]:kQ),([]:rF),true),B,(-1:Int),(0,0,([]:vU)),0,0,([]:aO),u.2.2.2.1,u.2.2.2.2)
def eZ(b0 B C D:Int)(E:cO)(F:nJ)(G:rE)(I:Int)(K:oA)(L l9:Int)(o6:aO)(l8 j9 l7 l6:Int)(o7:pR)(l5:lA)(p5:Int)(p4:bZ)(p7:Int)(p6:bZ):Option (cD×Int×Int×Int×bZ):=(eO (p7,p6)).bind λu=>bif (Option.isSome u.2.2) then some (u.2.2,j9,l7,p7,p6) else (bF p7 p6 ([]:kQ) u.1 (ar .add .i64 u.2.1 1)).bind λA=>some (A.1,u.1,(ar .add .i64 u.2.1 1),A.2.1,A.2.2)
def fI(b0 A B C:Int)(D:cO)(E:nJ)(F:rE)(G:Int)(I:oA)(K l9:Int)(o6:aO)(l8 j9 l7 l6:Int)(o7:pR)(l5:lA)(p5:Int)(p4:bZ)(p7:Int)(p6:bZ):Option (cD×Int×Int×Int×Int×pR×Int×bZ):=(eZ b0 A B C D E F G I K l9 o6 b0 0 0 (-1:Int) (0,0) l5 p5 p4 p7 p6).bind λu=>some (u.1,b0,u.2.1,u.2.2.1,(-1:Int),(0,0),u.2.2.2.1,u.2.2.2.2)
def fJ(A:Int):Option ((Option (Int×Int×Int×Int×cO×nJ×rE×Int×oA×Int×Int×aO×Int×Int×Int×Int×pR×lA×Int×bZ×Int×bZ))×cD):=(iG A).bind λC=>lJ C.1 ( bif (Option.isSome C.2) then some ((none:_),C.2) else (iG A).bind λD=>lJ D.1 ( bif (Option.isSome D.2) then some ((none:_),D.2) else none ) λ_=>bif (Option.isSome D.2) then some ((none:_),D.2) else none ) λF=>bif (Option.isSome C.2) then some ((none:_),C.2) else (iG A).bind λE=>lJ E.1 ( bif (Option.isSome E.2) then some ((none:_),E.2) else (dS A A 0 0 ([]:cO) (0,([]:kQ),([]:rF),false) ([]:rE) 0 (0,0,([]:vU)) 0 0 ([]:aO) A 0 0 0 (0,0) ([]:lA) F.1 F.2).bind λG=>bif (Option.isSome G.1) then some ((none:_),G.1) else none ) λI=>bif (Option.isSome E.2) then some ((none:_),E.2) else (dS A A 0 0 ([]:cO) (0,([]:kQ),([]:rF),false) ([]:rE) 0 (0,0,([]:vU)) 0 0 ([]:aO) A 0 0 0 (0,0) ([]:lA) F.1 F.2).bind λu=>bif (Option.isSome u.1) then some ((none:_),u.1) else (fI A u.2.1 u.2.2.1 u.2.2.2.1 u.2.2.2.2.1 u.2.2.2.2.2.1 u.2.2.2.2.2.2.1 u.2.2.2.2.2.2.2.1 u.2.2.2.2.2.2.2.2.1 u.2.2.2.2.2.2.2.2.2.1 u.2.2.2.2.2.2.2.2.2.2.1 u.2.2.2.2.2.2.2.2.2.2.2.1 A 0 0 0 (0,0) ([]:lA) u.2.2.2.2.2.2.2.2.2.2.2.2.1 u.2.2.2.2.2.2.2.2.2.2.2.2.2 I.1 I.2).bind λB=>some ((some (A,u.2.1,u.2.2.1,u.2.2.2.1,u.2.2.2.2.1,u.2.2.2.2.2.1,u.2.2.2.2.2.2.1,u.2.2.2.2.2.2.2.1,u.2.2.2.2.2.2.2.2.1,u.2.2.2.2.2.2.2.2.2.1,u.2.2.2.2.2.2.2.2.2.2.1,u.2.2.2.2.2.2.2.2.2.2.2.1,B.2.1,B.2.2.1,B.2.2.2.1,B.2.2.2.2.1,B.2.2.2.2.2.1,([]:lA),u.2.2.2.2.2.2.2.2.2.2.2.2.1,u.2.2.2.2.2.2.2.2.2.2.2.2.2,B.2.2.2.2.2.2.1,B.2.2.2.2.2.2.2)),B.1)
def tM(u:Int):Option (Nat):=bif (cm .eql u 0) then some (0:Nat) else bif (cm .eql u 1) then some (1:Nat) else bif (cm .eql u 2) then some (2:Nat) else bif (cm .eql u 3) then some (3:Nat) else bif (cm .eql u 4) then some (4:Nat) else bif (cm .eql u 5) then some (5:Nat) else bif (cm .eql u 6) then some (6:Nat) else bif (cm .eql u 7) then some (7:Nat) else bif (cm .eql u 8) then some (8:Nat) else bif (cm .eql u 9) then some (9:Nat) else bif (cm .eql u 10) then some (10:Nat) else some (11:Nat)
def kT(B:kQ)(C:Int):Option (Bool):=lp (β:=Unit) (λ(u:Int×Int)=>bif (cm .lss u.2 (B.length:Int)) then (Sw.idx B u.2).bind λA=>(bif (cm .leq A.1 u.1) then some true else some (cm .geq A.1 C)).bind λD=>bif D then some (.done (.ret false)) else some (.next (A.1,(ar .add .i64 u.2 1))) else some (.done (.u9 ())) ) ((-1:Int),0) λ(_:Unit)=>some true
def kK(u:nJ)(A:Int):Option (cD):=(bif (cm .lss A 1) then some true else bif (cm .gtr A 32) then some true else bif (cm .lss u.1 0) then some true else some (cm .gtr u.1 2147483647)).bind λD=>bif D then some (some 1) else bif (cm .gtr (u.2.2.1.length:Int) 4) then some (some 2) else ((kT u.2.1 A).bind λE=>bif (!E) then some true else bif u.2.2.2 then some (cm .gtr (u.2.2.1.length:Int) 0) else some false).bind λF=>bif F then some (some 3) else lp (β:=Unit) (λ(B:Int)=>bif (cm .lss B (u.2.2.1.length:Int)) then (Sw.idx u.2.2.1 B).bind λC=>((kT C.2 A).bind λG=>bif (!G) then some true else bif (cm .neq C.1 (ar .add .i64 (ar .add .i64 (ar .sub .i64 u.1 (u.2.2.1.length:Int)) 1) B)) then some true else some (cm .lss C.1 1)).bind λI=>bif I then some (.done (.ret (some 3))) else some (.next (ar .add .i64 B 1)) else some (.done (.u9 ())) ) 0 λ(_:Unit)=>some (none:Option Int)
def iJ(u:(Bool×rF)):Option (rF):=bif u.1 then some ([]:rF) else (Sw.app ([]:rF) u.2).bind λA=>some A
def dE(u:rF):Option rF:=Sw.app [] u
def mC(A:nJ):Option (nJ):=(aM A.2.1).bind λC=>(dE A.2.2.1).bind λB=>lp (β:=rF) (λ(u:Int×rF)=>bif (cm .lss u.1 (B.length:Int)) then (Sw.idx u.2 u.1).bind λD=>(aM D.2).bind λE=>(Sw.idx u.2 u.1).bind λF=>some (.next ((ar .add .i64 u.1 1),(List.set u.2 (Int.toNat u.1) (F.1,E)))) else some (.done (.u9 u.2)) ) (0,B) λ(G:rF)=>some (A.1,C,G,A.2.2.2)
def rO(u:(Int×aD))(A:Int):Option (Int):=some (ar .sub .i64 u.1 A)
def aU(A:kQ)(C:Int):Option (Int×Bool):=lp (β:=Int) (λ(u:Int×Int)=>bif (cm .lss u.1 u.2) then (Sw.idx A (IntKind.wrap .i64 (sh .shr .u64 (IntKind.wrap .u64 (ar .add .i64 u.1 u.2)) 1))).bind λD=>(rO D C).bind λE=>bif (cm .lss E 0) then some (.next ((ar .add .i64 (IntKind.wrap .i64 (sh .shr .u64 (IntKind.wrap .u64 (ar .add .i64 u.1 u.2)) 1)) 1),u.2)) else some (.next (u.1,(IntKind.wrap .i64 (sh .shr .u64 (IntKind.wrap .u64 (ar .add .i64 u.1 u.2)) 1)))) else some (.done (.u9 u.1)) ) (0,(A.length:Int)) λ(B:Int)=>(bif (cm .lss B (A.length:Int)) then (Sw.idx A B).bind λF=>(rO F C).bind λG=>some (cm .eql G 0) else some false).bind λI=>some (B,I)
def dL(u:kQ)(A:Int)(B:kQ):Option (kQ):=Sw.ins u A B
def sR(C:nJ)(D:Int)(A:(Int×aD)):Option (nJ×cD):=(kK C D).bind λE=>bif (Option.isSome E) then some ((0,([]:kQ),([]:rF),false),E) else (bif (cm .lss A.1 0) then some true else some (cm .geq A.1 D)).bind λG=>bif G then some ((0,([]:kQ),([]:rF),false),(some 1)) else (mC C).bind λu=>(aU u.2.1 A.1).bind λB=>jp (λ(I:kQ)=>some ((u.1,I,u.2.2.1,u.2.2.2),(none:Option Int)) ) λF=>bif B.2 then (Sw.idx u.2.1 B.1).bind λ_=>F (List.set u.2.1 (Int.toNat B.1) A) else (dL u.2.1 B.1 ([A]:kQ)).bind λK=>F K
def dF(u:Int)(C:aD)(b0 E F G:Int)(A:cO)(D:nJ)(I:rE)(K:Int)(L:oA)(M l9:Int)(o6:aO)(l8 j9 l7 l6:Int)(o7:pR)(l5:lA)(p5:Int)(p4:bZ)(p7:Int)(p6:bZ):Option (cD×cO×nJ):=(sR D b0 (u,C)).bind λB=>bif (Option.isSome B.2) then some (B.2,A,D) else (Sw.idx A u).bind λ_=>some ((none:Option Int),(List.set A (Int.toNat u) C),B.1)
def mJ(A:xV)(b0 B C D:Int)(K:cO)(L:nJ)(E:rE)(F:Int)(G:oA)(I l9:Int)(o6:aO)(l8 j9 l7 l6:Int)(o7:pR)(l5:lA)(p5:Int)(p4:bZ)(p7:Int)(p6:bZ):Option (aD×cD×Int×Int×Int×Int×cO×nJ×rE×Int×oA×Int×Int×aO×Int×Int×Int×Int×pR×lA×Int×bZ×Int×bZ):=(dF A.2.1 A.2.2.2 b0 B C D K L E F G I l9 o6 l8 j9 l7 l6 o7 l5 p5 p4 p7 p6).bind λu=>some (aE,u.1,b0,B,C,D,u.2.1,u.2.2,E,F,G,I,l9,o6,l8,j9,l7,l6,o7,l5,p5,p4,p7,p6)
def mL(I:xV)(b0 A B C:Int)(K:cO)(L:nJ)(D:rE)(E:Int)(F:oA)(G l9:Int)(o6:aO)(l8 j9 l7 l6:Int)(o7:pR)(l5:lA)(p5:Int)(p4:bZ)(p7:Int)(p6:bZ):Option (aD×cD×Int×Int×Int×Int×cO×nJ×rE×Int×oA×Int×Int×aO×Int×Int×Int×Int×pR×lA×Int×bZ×Int×bZ):=(dF I.2.1 aE b0 A B C K L D E F G l9 o6 l8 j9 l7 l6 o7 l5 p5 p4 p7 p6).bind λu=>some (aE,u.1,b0,A,B,C,u.2.1,u.2.2,D,E,F,G,l9,o6,l8,j9,l7,l6,o7,l5,p5,p4,p7,p6)
def eP(u b0 D E F:Int)(A:cO)(G:nJ)(I:rE)(K:Int)(L:oA)(M l9:Int)(o6:aO)(l8 j9 l7 l6:Int)(o7:pR)(l5:lA)(p5:Int)(p4:bZ)(p7:Int)(p6:bZ):Option (aD×cD):=(bif (cm .lss u 0) then some true else some (cm .geq u b0)).bind λB=>bif B then some (aE,(some 1)) else (Sw.idx A u).bind λC=>some (C,(none:Option Int))
def mM(L:xV)(b0 u A B:Int)(C:cO)(D:nJ)(E:rE)(F:Int)(G:oA)(I l9:Int)(o6:aO)(l8 j9 l7 l6:Int)(o7:pR)(l5:lA)(p5:Int)(p4:bZ)(p7:Int)(p6:bZ):Option (aD×cD×Int×Int×Int×Int×cO×nJ×rE×Int×oA×Int×Int×aO×Int×Int×Int×Int×pR×lA×Int×bZ×Int×bZ):=(eP L.2.1 b0 u A B C D E F G I l9 o6 l8 j9 l7 l6 o7 l5 p5 p4 p7 p6).bind λK=>some (K.1,K.2,b0,u,A,B,C,D,E,F,G,I,l9,o6,l8,j9,l7,l6,o7,l5,p5,p4,p7,p6)
def iY(B:kQ)(A b0 E C D:Int)(F:cO)(G:nJ)(I:rE)(K:Int)(L:oA)(M l9:Int)(o6:aO)(l8 j9 l7 l6:Int)(o7:pR)(l5:lA)(p5:Int)(p4:bZ)(p7:Int)(p6:bZ):Option (cD×Int×Int×bZ):=(bF p5 p4 B A D).bind λu=>bif (Option.isSome u.1) then some (u.1,C,u.2.1,u.2.2) else some ((none:Option Int),A,u.2.1,u.2.2)
def qU(A:nJ)(C:Int):Option (nJ×cD):=(kK A C).bind λB=>bif (Option.isSome B) then some ((0,([]:kQ),([]:rF),false),B) else bif (cm .eql A.1 2147483647) then some ((0,([]:kQ),([]:rF),false),(some 2)) else (mC A).bind λu=>bif u.2.2.2 then some (((ar .add .i64 u.1 1),([]:kQ),u.2.2.1,u.2.2.2),(none:Option Int)) else bif (cm .eql (u.2.2.1.length:Int) 4) then some (((ar .add .i64 u.1 1),([]:kQ),([]:rF),true),(none:Option Int)) else (Sw.app u.2.2.1 ([((ar .add .i64 u.1 1),u.2.1)]:rF)).bind λD=>some (((ar .add .i64 u.1 1),([]:kQ),D,u.2.2.2),(none:Option Int))
def cY(b0 E u F:Int)(A:cO)(G:nJ)(B:rE)(I:Int)(K:oA)(L l9:Int)(o6:aO)(l8 j9 l7 l6:Int)(o7:pR)(l5:lA)(p5:Int)(p4:bZ)(p7:Int)(p6:bZ):Option (rE):=(aB A).bind λC=>(Cv B u C).bind λD=>some (Gp D (ar .sub .i64 (ar .sub .i64 u 4) 1))
def eJ(b0 B E F:Int)(G:cO)(A:nJ)(C:rE)(I:Int)(K:oA)(L l9:Int)(o6:aO)(l8 j9 l7 l6:Int)(o7:pR)(l5:lA)(p5:Int)(p4:bZ)(p7:Int)(p6:bZ):Option (cD×Int×nJ×rE×Int×bZ):=(iY A.2.1 (ar .add .i64 E 1) b0 B E F G A C I K L l9 o6 l8 j9 l7 l6 o7 l5 p5 p4 p7 p6).bind λu=>bif (Option.isSome u.1) then some (u.1,u.2.1,A,C,u.2.2.1,u.2.2.2) else (qU A B).bind λD=>(cY b0 B u.2.1 F G D.1 C I K L l9 o6 l8 j9 l7 l6 o7 l5 u.2.2.1 u.2.2.2 p7 p6).bind λM=>some (D.2,u.2.1,D.1,M,u.2.2.1,u.2.2.2)
def mN(L:xV)(b0 A G B:Int)(C:cO)(I:nJ)(K:rE)(D:Int)(E:oA)(F l9:Int)(o6:aO)(l8 j9 l7 l6:Int)(o7:pR)(l5:lA)(p5:Int)(p4:bZ)(p7:Int)(p6:bZ):Option (aD×cD×Int×Int×Int×Int×cO×nJ×rE×Int×oA×Int×Int×aO×Int×Int×Int×Int×pR×lA×Int×bZ×Int×bZ):=(eJ b0 A G B C I K D E F l9 o6 l8 j9 l7 l6 o7 l5 p5 p4 p7 p6).bind λu=>some (aE,u.1,b0,A,u.2.1,B,C,u.2.2.1,u.2.2.2.1,D,E,F,l9,o6,l8,j9,l7,l6,o7,l5,u.2.2.2.2.1,u.2.2.2.2.2,p7,p6)
def oG(u:Int):Option (Bool):=(bif (cm .lss u 0) then some true else some (cm .gtr u 2147483647)).bind λA=>some A
def cS(A:aO):Option (Int):=lp (β:=Unit) (λ(u:Int)=>bif (cm .lss u (A.length:Int)) then (Sw.idx A u).bind λB=>(oG B).bind λC=>bif C then some (.done (.ret u)) else some (.next (ar .add .i64 u 1)) else some (.done (.u9 ())) ) 0 λ(_:Unit)=>some (-1:Int)
def bL(u:aO):Option (Bool):=(cS u).bind λA=>some (cm .geq A 0)
def oX(u:(Int×aO×cO)):Option (cD):=(bif (cm .lss u.1 0) then some true else some (cm .gtr u.1 15)).bind λA=>bif A then some (some 1) else (bif (cm .gtr (u.2.1.length:Int) 12) then some true else some (cm .gtr (u.2.2.length:Int) 32)).bind λB=>bif B then some (some 2) else (bL u.2.1).bind λC=>bif C then some (some 1) else some (none:Option Int)
def sS(B:aO):Option (Int):=lp (β:=Int) (λ(u:Int×Int)=>bif (cm .lss u.2 (B.length:Int)) then (Sw.idx B u.2).bind λC=>lp (β:=Int) (λ(A:Int×Int)=>bif (cm .lss A.2 8) then some (.next ((ar .xor .u32 (sh .shr .u32 A.1 1) (ar .mul .u32 3988292384 (ar .and .u32 A.1 1))),(ar .add .i64 A.2 1))) else some (.done (.u9 A.1)) ) ((ar .xor .u32 u.1 C),0) λ(D:Int)=>some (.next (D,(ar .add .i64 u.2 1))) else some (.done (.u9 u.1)) ) (4294967295,0) λ(E:Int)=>some (IW .u32 E)
def lM(u:(Int×aO×cO)):Option (aO×cD):=(oX u).bind λE=>bif (Option.isSome E) then some (([]:aO),E) else lp (β:=aO) (λ(B:Int×aO)=>bif (cm .lss B.1 (u.2.1.length:Int)) then (Sw.idx u.2.1 B.1).bind λI=>lp (β:=Int×aO) (λ(A:Int×aO)=>bif (cm .gtr A.1 127) then (Sw.app A.2 ([(ar .or .u8 (IntKind.wrap .u8 A.1) 128)]:aO)).bind λK=>some (.next ((sh .shr .i64 A.1 7),K)) else some (.done (.u9 (A.1,A.2))) ) (I,B.2) λ(F:Int×aO)=>(Sw.app F.2 ([(IntKind.wrap .u8 F.1)]:aO)).bind λL=>some (.next ((ar .add .i64 B.1 1),L)) else some (.done (.u9 B.2)) ) (0,([(ar .or .u8 (sh .shl .u8 (IntKind.wrap .u8 u.1) 4) (IntKind.wrap .u8 (u.2.1.length:Int))),(IntKind.wrap .u8 (u.2.2.length:Int))]:aO)) λ(M:aO)=>lp (β:=aO) (λ(C:Int×aO)=>bif (cm .lss C.1 (u.2.2.length:Int)) then (Sw.idx u.2.2 C.1).bind λN=>(Sw.app C.2 N).bind λO=>some (.next ((ar .add .i64 C.1 1),O)) else some (.done (.u9 C.2)) ) (0,M) λ(G:aO)=>(sS G).bind λD=>(Sw.app G ([(IntKind.wrap .u8 (sh .shr .u32 D 24)),(IntKind.wrap .u8 (sh .shr .u32 D 16)),(IntKind.wrap .u8 (sh .shr .u32 D 8)),(IntKind.wrap .u8 D)]:aO)).bind λP=>some (P,(none:Option Int))
def cX(A:Bool)(u:(Bool×aO))(b0 D E F:Int)(G:cO)(I:nJ)(K:rE)(L:Int)(M:oA)(N l9:Int)(o6:aO)(l8 j9 l7 l6:Int)(o7:pR)(l5:lA)(p5:Int)(p4:bZ)(p7:Int)(p6:bZ):Option (lA):=(bif (!u.1) then some (cm .lss (l5.length:Int) 64) else some false).bind λB=>bif B then (Sw.app l5 ([(A,false,u.2)]:lA)).bind λC=>some C else some l5
def gW(B:Bool)(C:(Int×aO×cO))(b0 D E F:Int)(G:cO)(I:nJ)(K:rE)(L:Int)(M:oA)(N l9:Int)(o6:aO)(l8 j9 l7 l6:Int)(o7:pR)(l5:lA)(p5:Int)(p4:bZ)(p7:Int)(p6:bZ):Option (cD×lA):=(lM C).bind λu=>jp (λ(O:lA)=>some (u.2,O) ) λA=>bif (Option.isNone u.2) then (RO u.1).bind λ_=>(cX B (false,u.1) b0 D E F G I K L M N l9 o6 l8 j9 l7 l6 o7 l5 p5 p4 p7 p6).bind λP=>A P else A l5
def mD(A:nJ)(K D:Int):Option ((Int×kQ)×Bool×cD):=(kK A K).bind λF=>bif (Option.isSome F) then some ((0,([]:kQ)),false,F) else (bif (cm .lss D 0) then some true else some (cm .gtr D A.1)).bind λL=>bif L then some ((0,([]:kQ)),false,(some 1)) else bif (cm .gtr (ar .sub .i64 A.1 D) (A.2.2.1.length:Int)) then some ((0,([]:kQ)),false,(none:Option Int)) else lp (β:=(List (Option (Int×aD)))) (λ(C:Int×(List (Option (Int×aD))))=>bif (cm .lss C.1 (A.2.2.1.length:Int)) then (Sw.idx A.2.2.1 C.1).bind λE=>lp (β:=(List (Option (Int×aD)))) (λ(u:Int×(List (Option (Int×aD))))=>bif (cm .lss u.1 (E.2.length:Int)) then bif (cm .gtr E.1 D) then (Sw.idx E.2 u.1).bind λG=>(Sw.idx E.2 u.1).bind λM=>(Sw.idx u.2 G.1).bind λ_=>some (.next ((ar .add .i64 u.1 1),(List.set u.2 (Int.toNat G.1) (some M)))) else some (.next ((ar .add .i64 u.1 1),u.2)) else some (.done (.u9 u.2)) ) (0,C.2) λ(N:(List (Option (Int×aD))))=>some (.next ((ar .add .i64 C.1 1),N)) else some (.done (.u9 C.2)) ) (0,(List.replicate 32 (none:(Option (Int×aD))))) λ(O:(List (Option (Int×aD))))=>lp (β:=kQ) (λ(B:Int×kQ)=>bif (cm .lss B.1 32) then (Sw.idx O B.1).bind λI=>bif (Option.isSome I) then (I).bind λP=>(Sw.app B.2 ([P]:kQ)).bind λQ=>some (.next ((ar .add .i64 B.1 1),Q)) else some (.next ((ar .add .i64 B.1 1),B.2)) else some (.done (.u9 B.2)) ) (0,([]:kQ)) λ(R:kQ)=>some ((A.1,R),true,(none:Option Int))
def oY(A:cO):Option (cD):=bif (cm .gtr (A.length:Int) 8) then some (some 2) else lp (β:=Unit) (λ(u:Int×(List (aD×Bool)))=>bif (cm .lss u.1 (A.length:Int)) then (Sw.idx A u.1).bind λB=>bif ((dQ u.2 B).getD false) then some (.done (.ret (some 3))) else (Cv u.2 B true).bind λC=>some (.next ((ar .add .i64 u.1 1),C)) else some (.done (.u9 ())) ) (0,([]:List (aD×Bool))) λ(_:Unit)=>some (none:Option Int)
def mV(u A:cO):Option (cD):=(bif (cm .lss (u.length:Int) 1) then some true else some (cm .gtr (u.length:Int) 32)).bind λB=>bif B then some (some 1) else (oY A).bind λC=>some C
def vC(A:cO):Option ((Option (cO×(List (aD×aO))))×cD):=(bif (cm .lss (A.length:Int) 1) then some true else some (cm .gtr (A.length:Int) 32)).bind λC=>bif C then some ((none:(Option (cO×(List (aD×aO))))),(some 1)) else (aB A).bind λD=>lp (β:=(List (aD×aO))) (λ(u:Int×(List (aD×aO)))=>bif (cm .lss u.1 (A.length:Int)) then (Sw.idx A u.1).bind λE=>(Rj u.2 E).bind λB=>(Sw.app B.2.2 ([u.1]:aO)).bind λF=>some (.next ((ar .add .i64 u.1 1),vT B.1 B.2.1 F)) else some (.done (.u9 u.2)) ) (0,([]:List (aD×aO))) λ(G:(List (aD×aO)))=>some ((some (D,G)),(none:Option Int))
def uG(A:Unit)(u:(Int×aD)):Option (xV×Bool):=some ((u.1,0,0,aE),(decide (u.2=aE)))
def kU(B:(Option (cO×(List (aD×aO)))))(u:aD):Option (Int×Bool):=(B).bind λA=>bif (cm .eql (((dQ A.2 u).getD ([]:aO)).length:Int) 0) then some (0,false) else (Sw.idx ((dQ A.2 u).getD ([]:aO)) 0).bind λC=>some (C,true)
def mW(B:((Option (cO×(List (aD×aO))))))(u:(Int×aD)):Option (xV×Bool):=(kU B u.2).bind λA=>some ((u.1,1,A.1,aE),A.2)
def cV(A:cO)(B:aD):Option (Int):=lp (β:=Unit) (λ(u:Int)=>bif (cm .lss u (A.length:Int)) then (Sw.idx A u).bind λC=>bif (decide (B=C)) then some (.done (.ret u)) else some (.next (ar .add .i64 u 1)) else some (.done (.u9 ())) ) 0 λ(_:Unit)=>some (-1:Int)
def tN(A:cO)(B:aD):Option (Int×Bool):=(cV A B).bind λu=>some ((max u 0),(cm .geq u 0))
def kV(B:(cO))(u:(Int×aD)):Option (xV×Bool):=(tN B u.2).bind λA=>some ((u.1,2,A.1,aE),A.2)
def rG(A:Unit)(u:(Int×aD)):Option (xV×Bool):=some ((u.1,3,0,u.2),true)
def iK(w:oC)(p0:(Int×aD)):Option (xV×Bool):=match w with | .inl z=>uG z p0 | .inr (.inl z)=>mW z p0 | .inr (.inr (.inl z))=>kV z p0 | .inr (.inr (.inr (.inl z)))=>rG z p0 | .inr (.inr (.inr (.inr _)))=>none
def mX(A:kQ)(B E:cO):Option (tL×cD):=(mV B E).bind λK=>bif (Option.isSome K) then some (([]:tL),K) else lp (β:=Unit) (λ(C:Int×Int)=>bif (cm .lss C.2 (A.length:Int)) then (Sw.idx A C.2).bind λF=>(bif (cm .leq F.1 C.1) then some true else some (cm .geq F.1 (B.length:Int))).bind λN=>bif N then some (.done (.ret (([]:tL),(some 1)))) else some (.next (F.1,(ar .add .i64 C.2 1))) else some (.done (.u9 ())) ) ((-1:Int),0) λ(_:Unit)=>(vC B).bind λD=>bif (Option.isSome D.2) then some (([]:tL),D.2) else lp (β:=tL) (λ(u:Int×tL)=>bif (cm .lss u.1 (A.length:Int)) then jp (λ(O:tL)=>some (.next ((ar .add .i64 u.1 1),O)) ) λL=>(Sw.idx A u.1).bind λG=>(Sw.idx B G.1).bind λP=>bif (decide (P=G.2)) then L u.2 else lp (β:=tL) (λ(I:Int)=>bif (cm .lss I (([(.inl ():oC),(.inr (.inl D.1):oC),(.inr (.inr (.inl E)):oC),(.inr (.inr (.inr (.inl ()))):oC)]:(List oC)).length:Int)) then (Sw.idx ([(.inl ():oC),(.inr (.inl D.1):oC),(.inr (.inr (.inl E)):oC),(.inr (.inr (.inr (.inl ()))):oC)]:(List oC)) I).bind λQ=>(iK Q G).bind λM=>bif M.2 then (Sw.app u.2 ([M.1]:tL)).bind λR=>some (.done (.u9 R)) else some (.next (ar .add .i64 I 1)) else some (.done (.u9 u.2)) ) 0 λ(S:tL)=>L S else some (.done (.u9 u.2)) ) (0,([]:tL)) λ(T:tL)=>some (T,(none:Option Int))
def qC(D:(Int×kQ))(F:cO)(G:Int):Option ((Int×aO×cO)×Bool):=(mX D.2 F ([]:cO)).bind λB=>bif (Option.isSome B.2) then some ((0,([]:aO),([]:cO)),false) else lp (β:=aO×cO) (λ(u:Int×aO×cO)=>bif (cm .lss u.1 (B.1.length:Int)) then (Sw.idx B.1 u.1).bind λA=>(Sw.app u.2.1 ([(ar .or .i64 (ar .or .i64 (sh .shl .i64 A.1 8) (sh .shl .i64 A.2.1 6)) A.2.2.1)]:aO)).bind λE=>bif (cm .eql A.2.1 3) then (Sw.app u.2.2 ([A.2.2.2]:cO)).bind λI=>some (.next ((ar .add .i64 u.1 1),E,I)) else some (.next ((ar .add .i64 u.1 1),E,u.2.2)) else some (.done (.u9 (u.2.1,u.2.2))) ) (0,([G,D.1]:aO),([]:cO)) λ(C:aO×cO)=>some ((4,C.1,C.2),(cm .leq (C.1.length:Int) 9))
def cF(b0 F D K:Int)(L:cO)(G:nJ)(A:rE)(M:Int)(N:oA)(u l9:Int)(o6:aO)(l8 j9 l7 l6:Int)(o7:pR)(l5:lA)(p5:Int)(p4:bZ)(p7:Int)(p6:bZ):Option ((Int×aO×cO)):=(mD G F u).bind λB=>(bif (Option.isNone B.2.2) then some B.2.1 else some false).bind λI=>jp (λ(_:Unit)=>some (5,([D]:aO),((dQ A D).getD ([]:cO))) ) λC=>bif I then bif (dQ A u).isSome then (qC B.1 ((dQ A u).getD ([]:cO)) u).bind λE=>bif E.2 then some E.1 else C () else C () else C ()
def oH(u:Int):Option (Bool):=(bif (cm .lss u 0) then some true else some (cm .gtr u 2147483647)).bind λA=>some A
def cU(A:aO):Option (Int):=lp (β:=Unit) (λ(u:Int)=>bif (cm .lss u (A.length:Int)) then (Sw.idx A u).bind λB=>(oH B).bind λC=>bif C then some (.done (.ret u)) else some (.next (ar .add .i64 u 1)) else some (.done (.u9 ())) ) 0 λ(_:Unit)=>some (-1:Int)
def bM(u:aO):Option (Bool):=(cU u).bind λA=>some (cm .geq A 0)
def pA(u:aO):Option (Bool):=(bM u).bind λA=>some (!A)
def sT(u:(Int×aO×cO)):Option (cD):=(oX u).bind λA=>bif (Option.isSome A) then some A else bif (cm .gtr (u.2.1.length:Int) 9) then some (some 2) else some (none:Option Int)
def nP(u:oA):Option (cD):=(pA ([u.1,u.2.1]:aO)).bind λC=>bif (!C) then some (some 1) else bif (cm .gtr (u.2.2.length:Int) 64) then some (some 2) else lp (β:=Unit) (λ(A:Int)=>bif (cm .lss A (u.2.2.length:Int)) then (Sw.idx u.2.2 A).bind λD=>(sT D).bind λB=>bif (Option.isSome B) then some (.done (.ret B)) else some (.next (ar .add .i64 A 1)) else some (.done (.u9 ())) ) 0 λ(_:Unit)=>some (none:Option Int)
def qD(u:(Bool×aO)):Option (aO):=bif u.1 then some ([]:aO) else (Sw.app ([]:aO) u.2).bind λA=>some A
def iL(u:aO):Option aO:=Sw.app [] u
def lN(u:(Int×aO×cO)):Option ((Int×aO×cO)):=(iL u.2.1).bind λA=>(aB u.2.2).bind λB=>some (u.1,A,B)
def qV(A:vU):Option (vU):=lp (β:=vU) (λ(u:Int×vU)=>bif (cm .lss u.1 (A.length:Int)) then (Sw.idx A u.1).bind λB=>(lN B).bind λC=>(Sw.app u.2 ([C]:vU)).bind λD=>some (.next ((ar .add .i64 u.1 1),D)) else some (.done (.u9 u.2)) ) (0,([]:vU)) λ(E:vU)=>some E
def tP(u:oA)(A:(Int×aO×cO)):Option (oA×cD):=(nP u).bind λB=>bif (Option.isSome B) then some ((0,0,([]:vU)),B) else (sT A).bind λC=>bif (Option.isSome C) then some ((0,0,([]:vU)),C) else (bif (cm .eql (u.2.2.length:Int) 64) then some true else some (cm .geq (ar .add .i64 u.2.1 (u.2.2.length:Int)) 2147483647)).bind λD=>bif D then some ((0,0,([]:vU)),(some 2)) else (qV u.2.2).bind λE=>(lN A).bind λF=>(Sw.app E ([F]:vU)).bind λG=>some ((u.1,u.2.1,G),(none:Option Int))
def nM(A:oA):Option ((List aO)×cD):=(nP A).bind λD=>bif (Option.isSome D) then some (([]:(List aO)),D) else (Sw.sub A.2.2 0 (min (A.2.2.length:Int) 4)).bind λE=>lp (β:=(List aO)) (λ(u:Int×(List aO))=>bif (cm .lss u.1 (E.length:Int)) then (Sw.idx E u.1).bind λB=>bif (cm .gtr (ar .add .i64 A.2.1 u.1) 2147483647) then some (.done (.ret (([]:(List aO)),(some 1)))) else (Sw.app ([A.1,(ar .add .i64 A.2.1 u.1),B.1]:aO) B.2.1).bind λF=>(lM (1,F,B.2.2)).bind λC=>bif (Option.isSome C.2) then some (.done (.ret (([]:(List aO)),C.2))) else (Sw.app u.2 ([C.1]:(List aO))).bind λG=>some (.next ((ar .add .i64 u.1 1),G)) else some (.done (.u9 u.2)) ) (0,([]:(List aO))) λ(I:(List aO))=>some (I,(none:Option Int))
def bO(b0 I B F:Int)(K:cO)(L:nJ)(M:rE)(G:Int)(u:oA)(C l9:Int)(o6:aO)(l8 j9 l7 l6:Int)(o7:pR)(l5:lA)(p5:Int)(p4:bZ)(p7:Int)(p6:bZ):Option (cD×oA×Int×aO×lA):=(gW true (2,([F]:aO),([]:cO)) b0 I B F K L M G u C l9 o6 l8 j9 l7 l6 o7 l5 p5 p4 p7 p6).bind λD=>(bif (Option.isSome D.1) then some true else some (cm .lss G 0)).bind λR=>bif R then some (D.1,u,C,o6,D.2) else (bif (cm .lss C B) then some (cm .eql (u.2.2.length:Int) 0) else some false).bind λS=>jp (λ(A:oA×Int×aO)=>(nM A.1).bind λN=>lp (β:=lA) (λ(E:Int×lA)=>bif (cm .lss E.1 (N.1.length:Int)) then (Sw.idx N.1 E.1).bind λP=>(RO P).bind λ_=>(cX true (false,P) b0 I B F K L M G A.1 A.2.1 l9 A.2.2 l8 j9 l7 l6 o7 E.2 p5 p4 p7 p6).bind λT=>some (.next ((ar .add .i64 E.1 1),T)) else some (.done (.u9 E.2)) ) (0,D.2) λ(U:lA)=>some (N.2,A.1,A.2.1,A.2.2,U) ) λQ=>bif S then (cF b0 I B F K L M G u C l9 o6 l8 j9 l7 l6 o7 D.2 p5 p4 p7 p6).bind λV=>(tP u V).bind λO=>bif (Option.isSome O.2) then some (O.2,u,C,o6,D.2) else (Sw.app o6 ([B]:aO)).bind λX=>Q (O.1,B,X) else Q (u,C,o6)
def mO(L:xV)(b0 A B C:Int)(D:cO)(E:nJ)(F:rE)(G:Int)(I:oA)(K l9:Int)(o6:aO)(l8 j9 l7 l6:Int)(o7:pR)(l5:lA)(p5:Int)(p4:bZ)(p7:Int)(p6:bZ):Option (aD×cD×Int×Int×Int×Int×cO×nJ×rE×Int×oA×Int×Int×aO×Int×Int×Int×Int×pR×lA×Int×bZ×Int×bZ):=(bO b0 A B C D E F G I K l9 o6 l8 j9 l7 l6 o7 l5 p5 p4 p7 p6).bind λu=>some (aE,u.1,b0,A,B,C,D,E,F,G,u.2.1,u.2.2.1,l9,u.2.2.2.1,l8,j9,l7,l6,o7,u.2.2.2.2,p5,p4,p7,p6)
def bD(u b0 A B C:Int)(D:cO)(E:nJ)(F:rE)(G:Int)(I:oA)(K l9:Int)(o6:aO)(l8 j9 l7 l6:Int)(o7:pR)(l5:lA)(p5:Int)(p4:bZ)(p7:Int)(p6:bZ):Option (Int×Bool):=bif (cm .eql (l5.length:Int) 0) then some (0,false) else (nz (l5.length:Int)).bind λ_=>some ((ar .rem .i64 (max u (IntKind.wrap .i64 (0 - (ar .add .i64 u 1)))) (l5.length:Int)),true)
def gA(u:(Bool×lA)):Option (lA):=bif u.1 then some ([]:lA) else (Sw.app ([]:lA) u.2).bind λA=>some A
def bC(u:lA):Option lA:=Sw.app [] u
def aS(u:lA)(A B:Int):Option lA:=Sw.del u A B
def dN(q7:aO):Option (Int×Bool×aO):=bif (cm .eql (q7.length:Int) 0) then some (0,false,q7) else (Sw.idx q7 0).bind λu=>(Sw.sub q7 1 (q7.length:Int)).bind λA=>some (u,true,A)
def fB(q7:aO):Option (Int×Bool×aO):=lp (β:=aO) (λ(u:Int×Int×aO)=>bif (cm .lss u.2.1 35) then (dN u.2.2).bind λA=>bif (!A.2.1) then some (.done (.ret (0,false,A.2.2))) else (nn u.2.1).bind λ_=>bif (cm .lss A.1 128) then (bif (cm .leq (ar .or .i64 u.1 (sh .shl .i64 (ar .and .u8 A.1 127) u.2.1)) 2147483647) then bif (cm .gtr A.1 0) then some true else some (cm .eql u.2.1 0) else some false).bind λB=>some (.done (.ret ((ar .or .i64 u.1 (sh .shl .i64 (ar .and .u8 A.1 127) u.2.1)),B,A.2.2))) else some (.next ((ar .or .i64 u.1 (sh .shl .i64 (ar .and .u8 A.1 127) u.2.1)),(ar .add .i64 u.2.1 7),A.2.2)) else some (.done (.u9 u.2.2)) ) (0,0,q7) λ(C:aO)=>some (0,false,C)
def jG(A:aO)(u:Int):Option ((aO×Int)):=jp (λ(_:Unit)=>some (A,u) ) λB=>bif (cm .lss u 1) then none else B ()
def dG(A:aO):Option ((Int×aO×cO)×cD):=bif (cm .lss (A.length:Int) 6) then some ((0,([]:aO),([]:cO)),(some 3)) else (Sw.sub A 0 (ar .sub .i64 (A.length:Int) 4)).bind λE=>(sS E).bind λB=>(Sw.sub A (E.length:Int) (A.length:Int)).bind λK=>(Sw.S6 4 K).bind λL=>bif (!decide (L=([(IntKind.wrap .u8 (sh .shr .u32 B 24)),(IntKind.wrap .u8 (sh .shr .u32 B 16)),(IntKind.wrap .u8 (sh .shr .u32 B 8)),(IntKind.wrap .u8 B)]:aO))) then some ((0,([]:aO),([]:cO)),(some 3)) else (dN E).bind λF=>(dN F.2.2).bind λG=>lp (β:=aO×aO) (λ(u:Int×aO×aO)=>bif (cm .lss u.1 (ar .and .u8 F.1 15)) then (fB u.2.1).bind λI=>bif (!I.2.1) then some (.done (.ret ((0,([]:aO),([]:cO)),(some 3)))) else (Sw.app u.2.2 ([I.1]:aO)).bind λM=>some (.next ((ar .add .u8 u.1 1),I.2.2,M)) else some (.done (.u9 (u.2.1,u.2.2))) ) (0,G.2.2,([]:aO)) λ(C:aO×aO)=>(bif (cm .gtr G.1 32) then some true else bif (cm .gtr (C.2.length:Int) 12) then some true else some (cm .neq (C.1.length:Int) (ar .mul .i64 G.1 8))).bind λN=>bif N then some ((0,([]:aO),([]:cO)),(some 3)) else (jG C.1 8).bind λD=>(Sw.small D.1).bind λ_=>(Sw.aLq D.2).bind λ_=>rg (δ:=Empty) (λ(O:aO) (P:cO)=>(Sw.S6 8 O).bind λQ=>(Sw.app P ([Q]:cO)).bind λR=>some (.next R) ) (Sw.chunks (Int.toNat D.2) D.1) ([]:cO) (λ(S:cO)=>some (((sh .shr .u8 F.1 4),C.2,S),(none:Option Int)) ) λ(z:Empty)=>z.elim
def pB(A:aO):Option (Int):=lp (β:=Int) (λ(u:Int×Int)=>bif (cm .lss u.2 (A.length:Int)) then (Sw.idx A u.2).bind λB=>some (.next ((ar .mul .u64 (ar .xor .u64 u.1 B) 1099511628211),(ar .add .i64 u.2 1))) else some (.done (.u9 u.1)) ) (14695981039346656037,0) λ(C:Int)=>some C
def vD(u:aD):Option (Int):=(Sw.app ([0]:aO) u).bind λA=>(pB A).bind λB=>some B
def gM(A:aO)(u:Int):Option ((aO×Int)):=jp (λ(_:Unit)=>some (A,u) ) λB=>bif (cm .lss u 1) then none else B ()
def vE(B:aO):Option (Int):=lp (β:=aO) (λ(A:Int×aO)=>bif (cm .lss A.1 (B.length:Int)) then (Sw.idx B A.1).bind λC=>lp (β:=aO) (λ(u:Int×aO)=>bif (cm .geq u.1 0) then (nn u.1).bind λ_=>(Sw.app u.2 ([(IntKind.wrap .u8 (sh .shr .u64 C u.1))]:aO)).bind λD=>some (.next ((ar .sub .i64 u.1 8),D)) else some (.done (.u9 u.2)) ) (56,A.2) λ(E:aO)=>some (.next ((ar .add .i64 A.1 1),E)) else some (.done (.u9 A.2)) ) (0,([1]:aO)) λ(F:aO)=>(pB F).bind λG=>some G
def nQ(A:aO):Option (aO):=(gM A 4).bind λu=>(Sw.small u.1).bind λ_=>(Sw.aLq u.2).bind λ_=>rg (δ:=Empty) (λ(B C:aO)=>(vE B).bind λD=>(Sw.app C ([D]:aO)).bind λE=>some (.next E) ) (Sw.chunks (Int.toNat u.2) u.1) ([]:aO) (λ(F:aO)=>some F ) λ(z:Empty)=>z.elim
def wF(A:cO):Option (((List aO))×cD):=(bif (cm .lss (A.length:Int) 1) then some true else some (cm .gtr (A.length:Int) 32)).bind λE=>bif E then some (([]:(List aO)),(some 1)) else lp (β:=aO) (λ(u:Int×aO)=>bif (cm .lss u.1 (A.length:Int)) then (Sw.idx A u.1).bind λF=>(vD F).bind λG=>(Sw.app u.2 ([G]:aO)).bind λI=>some (.next ((ar .add .i64 u.1 1),I)) else some (.done (.u9 u.2)) ) (0,([]:aO)) λ(C:aO)=>lp (β:=(List aO)) (λ(B:aO×(List aO))=>bif (cm .gtr (B.1.length:Int) 1) then (nQ B.1).bind λD=>(Sw.app B.2 ([D]:(List aO))).bind λK=>some (.next (D,K)) else some (.done (.u9 B.2)) ) (C,([C]:(List aO))) λ(L:(List aO))=>some (L,(none:Option Int))
def oJ(u:Int):Option (aO):=some ([(IntKind.wrap .i64 (sh .shr .u64 u 33)),(IntKind.wrap .i64 (ar .and .u64 (sh .shr .u64 u 2) 2147483647))]:aO)
def jH(A:cO):Option (aO):=(wF A).bind λu=>bif (Option.isSome u.2) then some ([]:aO) else (Sw.idx u.1 (ar .sub .i64 (u.1.length:Int) 1)).bind λB=>(Sw.idx B 0).bind λC=>(oJ C).bind λD=>some D
def mY(u:pR)(E:aO):Option (pR×(Int×aO×cO)×Bool×(Bool×aO)×cD):=(pA ([u.1,u.2]:aO)).bind λF=>bif (!F) then some ((0,0),(0,([]:aO),([]:cO)),false,(true,([]:aO)),(some 1)) else (dG E).bind λA=>(bif (Option.isSome A.2) then some true else bif (cm .neq A.1.1 1) then some true else bif (cm .lss (A.1.2.1.length:Int) 3) then some true else (Sw.idx A.1.2.1 0).bind λG=>bif (cm .neq G u.1) then some true else (Sw.idx A.1.2.1 2).bind λI=>some (cm .gtr I 15)).bind λK=>bif K then some (u,(0,([]:aO),([]:cO)),false,(true,([]:aO)),(none:Option Int)) else ((Sw.idx A.1.2.1 1).bind λL=>bif (cm .eql L u.2) then some (cm .lss u.2 2147483647) else some false).bind λM=>jp (λ(B:Bool×Int×Int×aO×cO)=>(lM (0,([u.1,B.2.1]:aO),([]:cO))).bind λC=>(RO C.1).bind λ_=>some ((u.1,B.2.1),B.2.2,B.1,(false,C.1),C.2) ) λD=>bif M then (Sw.idx A.1.2.1 2).bind λN=>(Sw.sub A.1.2.1 3 (A.1.2.1.length:Int)).bind λO=>D (true,(ar .add .i64 u.2 1),N,O,A.1.2.2) else D (false,u.2,0,([]:aO),([]:cO))
def fR(B:kQ)(A b0 C D E:Int)(F:cO)(G:nJ)(I:rE)(K:Int)(L:oA)(M l9:Int)(o6:aO)(l8 j9 l7 l6:Int)(o7:pR)(l5:lA)(p5:Int)(p4:bZ)(p7:Int)(p6:bZ):Option (cD×Int×Int×bZ):=(bF p7 p6 B A l7).bind λu=>bif (Option.isSome u.1) then some (u.1,j9,u.2.1,u.2.2) else some ((none:Option Int),A,u.2.1,u.2.2)
def mZ(B:(Int×aO×cO)):Option (tL×Bool):=(Sw.sub B.2.1 2 (B.2.1.length:Int)).bind λC=>lp (β:=cO×tL) (λ(u:cO×Int×tL)=>bif (cm .lss u.2.1 (C.length:Int)) then (Sw.idx C u.2.1).bind λA=>jp (λ(D:cO×aD)=>(Sw.app u.2.2 ([((sh .shr .i64 A 8),(ar .and .i64 (sh .shr .i64 A 6) 3),(ar .and .i64 A 63),D.2)]:tL)).bind λG=>some (.next (D.1,(ar .add .i64 u.2.1 1),G)) ) λE=>bif (cm .eql (ar .and .i64 (sh .shr .i64 A 6) 3) 3) then bif (cm .eql (u.1.length:Int) 0) then some (.done (.ret (([]:tL),false))) else (Sw.idx u.1 0).bind λI=>(Sw.sub u.1 1 (u.1.length:Int)).bind λK=>E (K,I) else E (u.1,aE) else some (.done (.u9 (u.1,u.2.2))) ) (B.2.2,0,([]:tL)) λ(F:cO×tL)=>some (F.2,(cm .eql (F.1.length:Int) 0))
def sF(A:cO)(u:Int):Option (aD×Bool):=(bif (cm .lss u 0) then some true else some (cm .geq u (A.length:Int))).bind λB=>bif B then some (aE,false) else (Sw.idx A u).bind λC=>some (C,true)
def nR(C:tL)(E F:cO):Option (kQ×aO×cD):=(mV E F).bind λG=>bif (Option.isSome G) then some (([]:kQ),([]:aO),G) else lp (β:=Unit) (λ(D:Int×Int)=>bif (cm .lss D.2 (C.length:Int)) then (Sw.idx C D.2).bind λB=>(bif (cm .leq B.1 D.1) then some true else bif (cm .geq B.1 (E.length:Int)) then some true else bif (cm .lss B.2.1 0) then some true else some (cm .gtr B.2.1 3)).bind λM=>bif M then some (.done (.ret (([]:kQ),([]:aO),(some 1)))) else some (.next (B.1,(ar .add .i64 D.2 1))) else some (.done (.u9 ())) ) ((-1:Int),0) λ(_:Unit)=>lp (β:=kQ×aO) (λ(u:Int×kQ×aO)=>bif (cm .lss u.1 (C.length:Int)) then (Sw.idx C u.1).bind λA=>bif (cm .eql A.2.1 1) then (sF E A.2.2.1).bind λI=>bif I.2 then (Sw.app u.2.1 ([(A.1,I.1)]:kQ)).bind λN=>some (.next ((ar .add .i64 u.1 1),N,u.2.2)) else (Sw.app u.2.2 ([A.1]:aO)).bind λO=>some (.next ((ar .add .i64 u.1 1),u.2.1,O)) else bif (cm .eql A.2.1 2) then (sF F A.2.2.1).bind λK=>bif K.2 then (Sw.app u.2.1 ([(A.1,K.1)]:kQ)).bind λP=>some (.next ((ar .add .i64 u.1 1),P,u.2.2)) else (Sw.app u.2.2 ([A.1]:aO)).bind λQ=>some (.next ((ar .add .i64 u.1 1),u.2.1,Q)) else bif (cm .eql A.2.1 3) then (Sw.app u.2.1 ([(A.1,A.2.2.2)]:kQ)).bind λR=>some (.next ((ar .add .i64 u.1 1),R,u.2.2)) else (Sw.app u.2.1 ([(A.1,aE)]:kQ)).bind λS=>some (.next ((ar .add .i64 u.1 1),S,u.2.2)) else some (.done (.u9 (u.2.1,u.2.2))) ) (0,([]:kQ),([]:aO)) λ(L:kQ×aO)=>some (L.1,L.2,(none:Option Int))
def dT(u:(Int×aO×cO))(b0 F G I:Int)(K:cO)(L:nJ)(M:rE)(N:Int)(O:oA)(P l9:Int)(o6:aO)(l8 j9 l7 l6:Int)(o7:pR)(l5:lA)(p5:Int)(p4:bZ)(p7:Int)(p6:bZ):Option (cD×Int×Int×bZ):=(bif (cm .eql u.1 5) then bif (cm .eql (u.2.1.length:Int) 1) then bif (cm .eql (u.2.2.length:Int) l8) then (Sw.idx u.2.1 0).bind λR=>some (cm .gtr R j9) else some false else some false else some false).bind λS=>bif S then lp (β:=kQ) (λ(A:Int×kQ)=>bif (cm .lss A.1 (u.2.2.length:Int)) then (Sw.idx u.2.2 A.1).bind λT=>(Sw.app A.2 ([(A.1,T)]:kQ)).bind λU=>some (.next ((ar .add .i64 A.1 1),U)) else some (.done (.u9 A.2)) ) (0,([]:kQ)) λ(V:kQ)=>(Sw.idx u.2.1 0).bind λX=>(fR V X b0 F G I K L M N O P l9 o6 l8 j9 l7 l6 o7 l5 p5 p4 p7 p6).bind λB=>some (B.1,B.2.1,B.2.2.1,B.2.2.2) else (bif (cm .eql u.1 4) then bif (cm .geq (u.2.1.length:Int) 2) then (Sw.idx u.2.1 0).bind λab=>bif (cm .eql ab j9) then (Sw.idx u.2.1 1).bind λac=>some (cm .gtr ac j9) else some false else some false else some false).bind λad=>bif ad then (eS (p7,p6)).bind λD=>bif (Option.isSome D.2) then some (D.2,j9,p7,p6) else (mZ u).bind λQ=>(nR Q.1 D.1 ([]:cO)).bind λE=>(bif (!Q.2) then some true else bif (Option.isSome E.2.2) then some true else some (cm .gtr (E.2.1.length:Int) 0)).bind λae=>bif ae then some ((none:Option Int),j9,p7,p6) else (Sw.idx u.2.1 1).bind λaf=>(fR E.1 af b0 F G I K L M N O P l9 o6 l8 j9 l7 l6 o7 l5 p5 p4 p7 p6).bind λC=>some (C.1,C.2.1,C.2.2.1,C.2.2.2) else some ((none:Option Int),j9,p7,p6)
def bE(Q:aO)(b0 E F G:Int)(I:cO)(K:nJ)(L:rE)(M:Int)(N:oA)(O l9:Int)(o6:aO)(l8 j9 l7 l6:Int)(o7:pR)(l5:lA)(p5:Int)(p4:bZ)(p7:Int)(p6:bZ):Option (cD×Int×Int×pR×lA×Int×bZ):=(dG Q).bind λC=>(bif (Option.isNone C.2) then bif (cm .eql C.1.1 2) then some (cm .eql (C.1.2.1.length:Int) 1) else some false else some false).bind λU=>bif U then (Sw.idx C.1.2.1 0).bind λV=>jp (λ(A:Int×pR)=>(eS (p7,p6)).bind λP=>(bif (Option.isSome P.2) then some true else (Sw.idx C.1.2.1 0).bind λX=>some (cm .lss X A.1)).bind λR5=>bif R5 then some (P.2,j9,A.1,A.2,l5,p7,p6) else (jH P.1).bind λpg=>(Sw.app ([A.1,l7,j9]:aO) pg).bind λxl=>(gW false (3,xl,([]:cO)) b0 E F G I K L M N O l9 o6 l8 j9 l7 A.1 A.2 l5 p5 p4 p7 p6).bind λR=>some (R.1,j9,A.1,A.2,R.2,p7,p6) ) λS=>bif (cm .gtr V l6) then (Sw.idx C.1.2.1 0).bind λab=>(Sw.idx C.1.2.1 0).bind λac=>S (ab,((ar .or .i64 (sh .shl .i64 ac 12) l7),0)) else S (l6,o7) else bif (cm .lss l6 0) then some ((none:Option Int),j9,l6,o7,l5,p7,p6) else (mY o7 Q).bind λu=>bif (Option.isSome u.2.2.2.2) then some (u.2.2.2.2,j9,l6,o7,l5,p7,p6) else jp (λ(D:Int×Int×bZ)=>(cX false u.2.2.2.1 b0 E F G I K L M N O l9 o6 l8 D.1 l7 l6 u.1 l5 p5 p4 D.2.1 D.2.2).bind λad=>some ((none:Option Int),D.1,l6,u.1,ad,D.2.1,D.2.2) ) λT=>bif u.2.2.1 then (dT u.2.1 b0 E F G I K L M N O l9 o6 l8 j9 l7 l6 u.1 l5 p5 p4 p7 p6).bind λB=>bif (Option.isSome B.1) then some (B.1,B.2.1,l6,u.1,l5,B.2.2.1,B.2.2.2) else T (B.2.1,B.2.2.1,B.2.2.2) else T (j9,p7,p6)
def iM(A B:aO):Option (Bool):=bif (cm .neq (A.length:Int) (B.length:Int)) then some false else lp (β:=Unit) (λ(u:Int)=>bif (cm .lss u (A.length:Int)) then (Sw.idx A u).bind λC=>(Sw.idx B u).bind λD=>bif (cm .neq C D) then some (.done (.ret false)) else some (.next (ar .add .i64 u 1)) else some (.done (.u9 ())) ) 0 λ(_:Unit)=>some true
def qW(u:oA)(G:aO):Option (oA×cD):=(nP u).bind λD=>bif (Option.isSome D) then some ((0,0,([]:vU)),D) else (qV u.2.2).bind λB=>(dG G).bind λA=>(bif (Option.isSome A.2) then some true else bif (cm .neq A.1.1 0) then some true else bif (cm .neq (A.1.2.1.length:Int) 2) then some true else bif (cm .gtr (A.1.2.2.length:Int) 0) then some true else (Sw.idx A.1.2.1 0).bind λI=>some (cm .neq I u.1)).bind λK=>bif K then some ((u.1,u.2.1,B),(none:Option Int)) else (Sw.idx A.1.2.1 1).bind λC=>(bif (cm .gtr (ar .sub .i64 C u.2.1) 0) then some (cm .leq (ar .sub .i64 C u.2.1) (min (B.length:Int) 4)) else some false).bind λL=>jp (λ(E:Int×vU)=>some ((u.1,E.1,E.2),(none:Option Int)) ) λF=>bif L then (Sw.idx A.1.2.1 1).bind λM=>(Sw.sub B (ar .sub .i64 C u.2.1) (B.length:Int)).bind λN=>F (M,N) else F (u.2.1,B)
def nA(u:(Int×kQ))(A:Int):Option (Bool):=some (cm .leq u.1 A)
def aW(A:rF)(B3:Int):Option (Int):=lp (β:=Unit) (λ(u:Int)=>bif (cm .lss u (A.length:Int)) then (Sw.idx A u).bind λB=>(nA B B3).bind λC=>bif C then some (.done (.ret u)) else some (.next (ar .add .i64 u 1)) else some (.done (.u9 ())) ) 0 λ(_:Unit)=>some (-1:Int)
def aR(B:rF)(B3:Int):Option (rF):=(aW B B3).bind λC=>bif (cm .eql C (-1:Int)) then some B else lp (β:=Int×rF) (λ(u:Int×Int×rF)=>bif (cm .lss u.2.1 (u.2.2.length:Int)) then (Sw.idx u.2.2 u.2.1).bind λD=>(nA D B3).bind λE=>bif (!E) then (Sw.idx u.2.2 u.1).bind λ_=>some (.next ((ar .add .i64 u.1 1),(ar .add .i64 u.2.1 1),(List.set u.2.2 (Int.toNat u.1) D))) else some (.next (u.1,(ar .add .i64 u.2.1 1),u.2.2)) else some (.done (.u9 (u.1,u.2.2))) ) (C,(ar .add .i64 C 1),B) λ(A:Int×rF)=>(Sw.sub A.2 A.1 (A.2.length:Int)).bind λ_=>(Sw.sub (List.take (Int.toNat A.1) A.2++List.replicate (A.2.length - Int.toNat A.1) (0,([]:kQ))) 0 A.1).bind λF=>some F
def nT(B:nJ)(E A:Int):Option (nJ×cD):=(kK B E).bind λC=>bif (Option.isSome C) then some ((0,([]:kQ),([]:rF),false),C) else (bif (cm .lss A 0) then some true else some (cm .gtr A B.1)).bind λF=>bif F then some ((0,([]:kQ),([]:rF),false),(some 1)) else (mC B).bind λu=>(aR u.2.2.1 A).bind λG=>jp (λ(I:Bool)=>some ((u.1,u.2.1,G,I),(none:Option Int)) ) λD=>bif (cm .eql A u.1) then D false else D u.2.2.2
def bI(M:aO)(b0 T b2 U:Int)(b4:cO)(C:nJ)(N:rE)(A:Int)(B:oA)(G l9:Int)(o6:aO)(l8 j9 l7 l6:Int)(o7:pR)(l5:lA)(p5:Int)(p4:bZ)(p7:Int)(p6:bZ):Option (cD×nJ×Int×oA×Int×Int×aO):=(dG M).bind λu=>(bif (Option.isNone u.2) then bif (cm .eql u.1.1 3) then bif (cm .eql (u.1.2.1.length:Int) 5) then (Sw.idx u.1.2.1 0).bind λV=>some (cm .eql V U) else some false else some false else some false).bind λX=>bif X then (Sw.idx u.1.2.1 0).bind λI=>(Sw.idx u.1.2.1 1).bind λK=>jp (λ(D:Int×oA×Int×Int×aO)=>some ((none:Option Int),C,D.1,D.2.1,D.2.2.1,D.2.2.2.1,D.2.2.2.2) ) λO=>bif (cm .gtr (ar .or .i64 (sh .shl .i64 I 12) K) A) then (Sw.idx u.1.2.1 2).bind λL=>(bif (!((dQ N L).isSome)) then some true else (jH ((dQ N L).getD ([]:cO))).bind λab=>(Sw.sub u.1.2.1 3 (u.1.2.1.length:Int)).bind λac=>(iM ab ac).bind λad=>some (!ad)).bind λae=>jp (λ(af:Int)=>(Sw.idx u.1.2.1 2).bind λai=>O ((ar .or .i64 (sh .shl .i64 I 12) K),((ar .or .i64 (sh .shl .i64 I 12) K),0,([]:vU)),af,(max l9 ai),([]:aO)) ) λP=>bif ae then P (-1:Int) else P L else O (A,B,G,l9,o6) else bif (cm .lss A 0) then some ((none:Option Int),C,A,B,G,l9,o6) else (qW B M).bind λE=>bif (Option.isSome E.2) then some (E.2,C,A,B,G,l9,o6) else (Sw.sub o6 0 (ar .sub .i64 (B.2.2.length:Int) (E.1.2.2.length:Int))).bind λQ=>lp (β:=Int) (λ(F:Int×Int)=>bif (cm .lss F.1 (Q.length:Int)) then (Sw.idx Q F.1).bind λaj=>some (.next ((ar .add .i64 F.1 1),(max F.2 aj))) else some (.done (.u9 F.2)) ) (0,l9) λ(R:Int)=>(Sw.sub o6 (ar .sub .i64 (B.2.2.length:Int) (E.1.2.2.length:Int)) (o6.length:Int)).bind λak=>(nT C T (min R C.1)).bind λS=>some (S.2,S.1,A,E.1,G,R,ak)
def cK(B:(Bool×Bool×aO))(b0 G I K:Int)(L:cO)(C:nJ)(M:rE)(D:Int)(E:oA)(F l9:Int)(o6:aO)(l8 j9 l7 l6:Int)(o7:pR)(l5:lA)(p5:Int)(p4:bZ)(p7:Int)(p6:bZ):Option (cD×nJ×Int×oA×Int×Int×aO×Int×Int×pR×lA×Int×bZ):=bif B.1 then (bE B.2.2 b0 G I K L C M D E F l9 o6 l8 j9 l7 l6 o7 l5 p5 p4 p7 p6).bind λu=>some (u.1,C,D,E,F,l9,o6,u.2.1,u.2.2.1,u.2.2.2.1,u.2.2.2.2.1,u.2.2.2.2.2.1,u.2.2.2.2.2.2) else (bI B.2.2 b0 G I K L C M D E F l9 o6 l8 j9 l7 l6 o7 l5 p5 p4 p7 p6).bind λA=>some (A.1,A.2.1,A.2.2.1,A.2.2.2.1,A.2.2.2.2.1,A.2.2.2.2.2.1,A.2.2.2.2.2.2,j9,l6,o7,l5,p7,p6)
def bJ(M b0 F G I:Int)(K:cO)(B:nJ)(L:rE)(C:Int)(D:oA)(E l9:Int)(o6:aO)(l8 j9 l7 l6:Int)(o7:pR)(l5:lA)(p5:Int)(p4:bZ)(p7:Int)(p6:bZ):Option (cD×nJ×Int×oA×Int×Int×aO×Int×Int×pR×lA×Int×bZ):=(bD M b0 F G I K B L C D E l9 o6 l8 j9 l7 l6 o7 l5 p5 p4 p7 p6).bind λA=>bif (!A.2) then some ((none:Option Int),B,C,D,E,l9,o6,j9,l6,o7,l5,p7,p6) else (Sw.idx l5 A.1).bind λN=>(bC l5).bind λO=>(aS O A.1 (ar .add .i64 A.1 1)).bind λP=>(cK N b0 F G I K B L C D E l9 o6 l8 j9 l7 l6 o7 P p5 p4 p7 p6).bind λu=>some (u.1,u.2.1,u.2.2.1,u.2.2.2.1,u.2.2.2.2.1,u.2.2.2.2.2.1,u.2.2.2.2.2.2.1,u.2.2.2.2.2.2.2.1,u.2.2.2.2.2.2.2.2.1,u.2.2.2.2.2.2.2.2.2.1,u.2.2.2.2.2.2.2.2.2.2.1,u.2.2.2.2.2.2.2.2.2.2.2.1,u.2.2.2.2.2.2.2.2.2.2.2.2)
def mP(F:xV)(b0 A B C:Int)(D:cO)(G:nJ)(E:rE)(I:Int)(K:oA)(L l9:Int)(o6:aO)(l8 j9 l7 l6:Int)(o7:pR)(l5:lA)(p5:Int)(p4:bZ)(p7:Int)(p6:bZ):Option (aD×cD×Int×Int×Int×Int×cO×nJ×rE×Int×oA×Int×Int×aO×Int×Int×Int×Int×pR×lA×Int×bZ×Int×bZ):=(bJ F.2.1 b0 A B C D G E I K L l9 o6 l8 j9 l7 l6 o7 l5 p5 p4 p7 p6).bind λu=>some (aE,u.1,b0,A,B,C,D,u.2.1,E,u.2.2.1,u.2.2.2.1,u.2.2.2.2.1,u.2.2.2.2.2.1,u.2.2.2.2.2.2.1,l8,u.2.2.2.2.2.2.2.1,l7,u.2.2.2.2.2.2.2.2.1,u.2.2.2.2.2.2.2.2.2.1,u.2.2.2.2.2.2.2.2.2.2.1,p5,p4,u.2.2.2.2.2.2.2.2.2.2.2.1,u.2.2.2.2.2.2.2.2.2.2.2.2)
def eQ(B b0 C D E:Int)(F:cO)(G:nJ)(I:rE)(K:Int)(L:oA)(M l9:Int)(o6:aO)(l8 j9 l7 l6:Int)(o7:pR)(l5:lA)(p5:Int)(p4:bZ)(p7:Int)(p6:bZ):Option (cD×lA):=(bD B b0 C D E F G I K L M l9 o6 l8 j9 l7 l6 o7 l5 p5 p4 p7 p6).bind λu=>jp (λ(N:lA)=>some ((none:Option Int),N) ) λA=>bif u.2 then (bC l5).bind λO=>(aS O u.1 (ar .add .i64 u.1 1)).bind λP=>A P else A l5
def mQ(L:xV)(b0 u A B:Int)(C:cO)(D:nJ)(E:rE)(F:Int)(G:oA)(I l9:Int)(o6:aO)(l8 j9 l7 l6:Int)(o7:pR)(l5:lA)(p5:Int)(p4:bZ)(p7:Int)(p6:bZ):Option (aD×cD×Int×Int×Int×Int×cO×nJ×rE×Int×oA×Int×Int×aO×Int×Int×Int×Int×pR×lA×Int×bZ×Int×bZ):=(eQ L.2.1 b0 u A B C D E F G I l9 o6 l8 j9 l7 l6 o7 l5 p5 p4 p7 p6).bind λK=>some (aE,K.1,b0,u,A,B,C,D,E,F,G,I,l9,o6,l8,j9,l7,l6,o7,K.2,p5,p4,p7,p6)
def cZ(B b0 C D E:Int)(F:cO)(G:nJ)(I:rE)(K:Int)(L:oA)(M l9:Int)(o6:aO)(l8 j9 l7 l6:Int)(o7:pR)(l5:lA)(p5:Int)(p4:bZ)(p7:Int)(p6:bZ):Option (cD×lA):=(bD B b0 C D E F G I K L M l9 o6 l8 j9 l7 l6 o7 l5 p5 p4 p7 p6).bind λu=>(bif u.2 then some (cm .lss (l5.length:Int) 64) else some false).bind λN=>jp (λ(O:lA)=>some ((none:Option Int),O) ) λA=>bif N then (Sw.idx l5 u.1).bind λP=>(Sw.app l5 ([P]:lA)).bind λQ=>A Q else A l5
def mR(L:xV)(b0 u A B:Int)(C:cO)(D:nJ)(E:rE)(F:Int)(G:oA)(I l9:Int)(o6:aO)(l8 j9 l7 l6:Int)(o7:pR)(l5:lA)(p5:Int)(p4:bZ)(p7:Int)(p6:bZ):Option (aD×cD×Int×Int×Int×Int×cO×nJ×rE×Int×oA×Int×Int×aO×Int×Int×Int×Int×pR×lA×Int×bZ×Int×bZ):=(cZ L.2.1 b0 u A B C D E F G I l9 o6 l8 j9 l7 l6 o7 l5 p5 p4 p7 p6).bind λK=>some (aE,K.1,b0,u,A,B,C,D,E,F,G,I,l9,o6,l8,j9,l7,l6,o7,K.2,p5,p4,p7,p6)
def jA(u:(Int×bZ)):Option (bZ):=(aB u.2.1).bind λA=>(aM u.2.2.1).bind λB=>some (A,B,u.2.2.2)
def Bc(B:(Int×bZ))(C:Int):Option ((Option (Int×bZ))×cD):=(jA B).bind λD=>(kH D C).bind λu=>lJ u.1 ( some ((none:(Option (Int×bZ))),u.2) ) λA=>some ((some (A.1,A.2)),u.2)
def gF(q7:Int)(w7:bZ)(B:Int):Option ((Option (Int×bZ))×cD×Int×bZ):=(jA (q7,w7)).bind λC=>(kH C B).bind λu=>lJ u.1 ( some ((none:(Option (Int×bZ))),u.2,q7,w7) ) λA=>some ((some (A.1,A.2)),u.2,q7,w7)
def gX(b0 D B C:Int)(E:cO)(F:nJ)(G:rE)(I:Int)(K:oA)(L l9:Int)(o6:aO)(l8 j9 l7 l6:Int)(o7:pR)(l5:lA)(p5:Int)(p4:bZ)(p7:Int)(p6:bZ):Option (cD×Int×Int×Int×bZ):=(eO (p7,p6)).bind λu=>bif (Option.isSome u.2.2) then some (u.2.2,B,C,p7,p6) else (bF p7 p6 ([]:kQ) u.1 (ar .add .i64 u.2.1 1)).bind λA=>some (A.1,u.1,(ar .add .i64 u.2.1 1),A.2.1,A.2.2)
def eT(b0 E F G:Int)(I:cO)(K:nJ)(L:rE)(M:Int)(N:oA)(O l9:Int)(o6:aO)(l8 j9 l7 l6:Int)(o7:pR)(l5:lA)(p5:Int)(p4:bZ)(p7:Int)(p6:bZ)(B:Int)(C:bZ):Option (cD×Int×Int×Int×cO×nJ×rE×Int×oA×Int×Int×aO×Int×bZ):=(gX b0 b0 0 0 ([]:cO) (0,([]:kQ),([]:rF),false) ([]:List (Int×cO)) (-1:Int) (0,0,([]:vU)) 0 0 ([]:aO) l8 j9 l7 l6 o7 l5 p7 p6 B C).bind λu=>bif (Option.isSome u.1) then some (u.1,b0,u.2.1,u.2.2.1,([]:cO),(0,([]:kQ),([]:rF),false),([]:List (Int×cO)),(-1:Int),(0,0,([]:vU)),0,0,([]:aO),u.2.2.2.1,u.2.2.2.2) else (eS u.2.2.2).bind λA=>(cY b0 b0 u.2.1 u.2.2.1 A.1 (u.2.1,([]:kQ),([]:rF),true) ([]:List (Int×cO)) (-1:Int) (0,0,([]:vU)) 0 0 ([]:aO) l8 j9 l7 l6 o7 l5 u.2.2.2.1 u.2.2.2.2 p7 p6).bind λD=>some (A.2,b0,u.2.1,u.2.2.1,A.1,(u.2.1,([]:kQ),([]:rF),true),D,(-1:Int),(0,0,([]:vU)),0,0,([]:aO),u.2.2.2.1,u.2.2.2.2)
def jY(Q:xV)(b0 C D E:Int)(F:cO)(G:nJ)(I:rE)(K:Int)(L:oA)(M l9:Int)(o6:aO)(l8 j9 l7 l6:Int)(o7:pR)(l5:lA)(p5:Int)(p4:bZ)(p7:Int)(p6:bZ):Option (aD×cD×Int×Int×Int×Int×cO×nJ×rE×Int×oA×Int×Int×aO×Int×Int×Int×Int×pR×lA×Int×bZ×Int×bZ):=(gF p5 p4 b0).bind λB=>lJ B.1 ( jp (λ(_:Unit)=>some (aE,B.2.1,b0,C,D,E,F,G,I,K,L,M,l9,o6,l8,j9,l7,l6,o7,l5,B.2.2.1,B.2.2.2,p7,p6) ) λP=>bif (Option.isNone B.2.1) then none else P () ) λN=>jp (λ(u:cD×Int×Int×Int×nJ×Int×oA×Int×Int×Int×bZ×cO×rE×aO)=>some (aE,u.1,b0,u.2.1,u.2.2.1,u.2.2.2.1,u.2.2.2.2.2.2.2.2.2.2.2.1,u.2.2.2.2.1,u.2.2.2.2.2.2.2.2.2.2.2.2.1,u.2.2.2.2.2.1,u.2.2.2.2.2.2.1,u.2.2.2.2.2.2.2.1,u.2.2.2.2.2.2.2.2.1,u.2.2.2.2.2.2.2.2.2.2.2.2.2,l8,j9,l7,l6,o7,l5,u.2.2.2.2.2.2.2.2.2.1,u.2.2.2.2.2.2.2.2.2.2.1,p7,p6) ) λO=>bif (Option.isNone B.2.1) then (eT b0 C D E F G I K L M l9 o6 l8 j9 l7 l6 o7 l5 B.2.2.1 B.2.2.2 p7 p6 N.1 N.2).bind λA=>O (A.1,A.2.1,A.2.2.1,A.2.2.2.1,A.2.2.2.2.2.1,A.2.2.2.2.2.2.2.1,A.2.2.2.2.2.2.2.2.1,A.2.2.2.2.2.2.2.2.2.1,A.2.2.2.2.2.2.2.2.2.2.1,A.2.2.2.2.2.2.2.2.2.2.2.2.1,A.2.2.2.2.2.2.2.2.2.2.2.2.2,A.2.2.2.2.1,A.2.2.2.2.2.2.1,A.2.2.2.2.2.2.2.2.2.2.2.1) else O (B.2.1,C,D,E,G,K,L,M,l9,B.2.2.1,B.2.2.2,F,I,o6)
def eU(b0 A B C:Int)(D:cO)(E:nJ)(F:rE)(G:Int)(I:oA)(K l9:Int)(o6:aO)(l8 j9 l7 l6:Int)(o7:pR)(l5:lA)(p5:Int)(p4:bZ)(p7:Int)(p6:bZ)(L:Int)(M:bZ):Option (cD×Int×Int×Int×Int×pR×Int×bZ):=(eZ b0 A B C D E F G I K l9 o6 b0 0 0 (-1:Int) (0,0) l5 p5 p4 L M).bind λu=>some (u.1,b0,u.2.1,u.2.2.1,(-1:Int),(0,0),u.2.2.2.1,u.2.2.2.2)
def jN(Q:xV)(b0 C D E:Int)(F:cO)(G:nJ)(I:rE)(K:Int)(L:oA)(M l9:Int)(o6:aO)(l8 j9 l7 l6:Int)(o7:pR)(l5:lA)(p5:Int)(p4:bZ)(p7:Int)(p6:bZ):Option (aD×cD×Int×Int×Int×Int×cO×nJ×rE×Int×oA×Int×Int×aO×Int×Int×Int×Int×pR×lA×Int×bZ×Int×bZ):=(gF p7 p6 b0).bind λu=>lJ u.1 ( jp (λ(_:Unit)=>some (aE,u.2.1,b0,C,D,E,F,G,I,K,L,M,l9,o6,l8,j9,l7,l6,o7,l5,p5,p4,u.2.2.1,u.2.2.2) ) λP=>bif (Option.isNone u.2.1) then none else P () ) λN=>jp (λ(A:cD×Int×Int×Int×Int×pR×Int×bZ)=>some (aE,A.1,b0,C,D,E,F,G,I,K,L,M,l9,o6,A.2.1,A.2.2.1,A.2.2.2.1,A.2.2.2.2.1,A.2.2.2.2.2.1,l5,p5,p4,A.2.2.2.2.2.2.1,A.2.2.2.2.2.2.2) ) λO=>bif (Option.isNone u.2.1) then (eU b0 C D E F G I K L M l9 o6 l8 j9 l7 l6 o7 l5 p5 p4 u.2.2.1 u.2.2.2 N.1 N.2).bind λB=>O (B.1,B.2.1,B.2.2.1,B.2.2.2.1,B.2.2.2.2.1,B.2.2.2.2.2.1,B.2.2.2.2.2.2.1,B.2.2.2.2.2.2.2) else O (u.2.1,l8,j9,l7,l6,o7,u.2.2.1,u.2.2.2)
def oM(u:(Bool×aO)):Option (aO):=bif u.1 then some ([]:aO) else (Sw.app ([]:aO) u.2).bind λA=>some A
def rP(u:aO):Option aO:=Sw.app [] u
def qE(u:xV)(b0 A B C:Int)(D:cO)(E:nJ)(F:rE)(G:Int)(I:oA)(K l9:Int)(o6:aO)(l8 j9 l7 l6:Int)(o7:pR)(l5:lA)(p5:Int)(p4:bZ)(p7:Int)(p6:bZ):Option (aD×cD×Int×Int×Int×Int×cO×nJ×rE×Int×oA×Int×Int×aO×Int×Int×Int×Int×pR×lA×Int×bZ×Int×bZ):=none
def wO(i:Nat)(u:xV)(b0 A B C:Int)(D:cO)(E:nJ)(F:rE)(G:Int)(I:oA)(K l9:Int)(o6:aO)(l8 j9 l7 l6:Int)(o7:pR)(l5:lA)(p5:Int)(p4:bZ)(p7:Int)(p6:bZ):Option (aD×cD×Int×Int×Int×Int×cO×nJ×rE×Int×oA×Int×Int×aO×Int×Int×Int×Int×pR×lA×Int×bZ×Int×bZ):=match i with | 0=>mJ u b0 A B C D E F G I K l9 o6 l8 j9 l7 l6 o7 l5 p5 p4 p7 p6 | 1=>mL u b0 A B C D E F G I K l9 o6 l8 j9 l7 l6 o7 l5 p5 p4 p7 p6 | 2=>mM u b0 A B C D E F G I K l9 o6 l8 j9 l7 l6 o7 l5 p5 p4 p7 p6 | 3=>mN u b0 A B C D E F G I K l9 o6 l8 j9 l7 l6 o7 l5 p5 p4 p7 p6 | 4=>mO u b0 A B C D E F G I K l9 o6 l8 j9 l7 l6 o7 l5 p5 p4 p7 p6 | 5=>mP u b0 A B C D E F G I K l9 o6 l8 j9 l7 l6 o7 l5 p5 p4 p7 p6 | 6=>mQ u b0 A B C D E F G I K l9 o6 l8 j9 l7 l6 o7 l5 p5 p4 p7 p6 | 7=>mR u b0 A B C D E F G I K l9 o6 l8 j9 l7 l6 o7 l5 p5 p4 p7 p6 | 8=>jY u b0 A B C D E F G I K l9 o6 l8 j9 l7 l6 o7 l5 p5 p4 p7 p6 | 9=>jN u b0 A B C D E F G I K l9 o6 l8 j9 l7 l6 o7 l5 p5 p4 p7 p6 | 10=>qE u b0 A B C D E F G I K l9 o6 l8 j9 l7 l6 o7 l5 p5 p4 p7 p6 | _=>none
def cL(u:(Int×aD×Int×Int×Int×cO))(b0 C B D:Int)(E:cO)(F:nJ)(G:rE)(I:Int)(K:oA)(L l9:Int)(o6:aO)(l8 j9 l7 l6:Int)(o7:pR)(l5:lA)(p5:Int)(p4:bZ)(p7:Int)(p6:bZ):Option ((Int×aD×Int×Int×Int×cO)×cD):=(eS (p7,p6)).bind λA=>some ((u.1,u.2.1,B,l9,j9,A.1),A.2)
def gD(B:xV)(b0 D E F:Int)(G:cO)(I:nJ)(K:rE)(L:Int)(M:oA)(N l9:Int)(o6:aO)(l8 j9 l7 l6:Int)(o7:pR)(l5:lA)(p5:Int)(p4:bZ)(p7:Int)(p6:bZ):Option ((Int×aD×Int×Int×Int×cO)×cD×Int×Int×Int×Int×cO×nJ×rE×Int×oA×Int×Int×aO×Int×Int×Int×Int×pR×lA×Int×bZ×Int×bZ):=(bif (cm .lss B.1 0) then some true else some (cm .geq B.1 11)).bind λQ=>jp (λ(A:Int×Int×Int×Int×nJ×Int×oA×Int×Int×Int×Int×Int×Int×pR×Int×aD×Int×bZ×cO×rE×aO×Int×bZ×lA)=>(cL (A.2.2.2.2.2.2.2.2.2.2.2.2.2.2.1,A.2.2.2.2.2.2.2.2.2.2.2.2.2.2.2.1,0,0,0,([]:cO)) A.1 A.2.1 A.2.2.1 A.2.2.2.1 A.2.2.2.2.2.2.2.2.2.2.2.2.2.2.2.2.2.2.1 A.2.2.2.2.1 A.2.2.2.2.2.2.2.2.2.2.2.2.2.2.2.2.2.2.2.1 A.2.2.2.2.2.1 A.2.2.2.2.2.2.1 A.2.2.2.2.2.2.2.1 A.2.2.2.2.2.2.2.2.1 A.2.2.2.2.2.2.2.2.2.2.2.2.2.2.2.2.2.2.2.2.1 A.2.2.2.2.2.2.2.2.2.1 A.2.2.2.2.2.2.2.2.2.2.1 A.2.2.2.2.2.2.2.2.2.2.2.1 A.2.2.2.2.2.2.2.2.2.2.2.2.1 A.2.2.2.2.2.2.2.2.2.2.2.2.2.1 A.2.2.2.2.2.2.2.2.2.2.2.2.2.2.2.2.2.2.2.2.2.2.2 A.2.2.2.2.2.2.2.2.2.2.2.2.2.2.2.2.1 A.2.2.2.2.2.2.2.2.2.2.2.2.2.2.2.2.2.1 A.2.2.2.2.2.2.2.2.2.2.2.2.2.2.2.2.2.2.2.2.2.1 A.2.2.2.2.2.2.2.2.2.2.2.2.2.2.2.2.2.2.2.2.2.2.1).bind λO=>some (O.1,O.2,A.1,A.2.1,A.2.2.1,A.2.2.2.1,A.2.2.2.2.2.2.2.2.2.2.2.2.2.2.2.2.2.2.1,A.2.2.2.2.1,A.2.2.2.2.2.2.2.2.2.2.2.2.2.2.2.2.2.2.2.1,A.2.2.2.2.2.1,A.2.2.2.2.2.2.1,A.2.2.2.2.2.2.2.1,A.2.2.2.2.2.2.2.2.1,A.2.2.2.2.2.2.2.2.2.2.2.2.2.2.2.2.2.2.2.2.1,A.2.2.2.2.2.2.2.2.2.1,A.2.2.2.2.2.2.2.2.2.2.1,A.2.2.2.2.2.2.2.2.2.2.2.1,A.2.2.2.2.2.2.2.2.2.2.2.2.1,A.2.2.2.2.2.2.2.2.2.2.2.2.2.1,A.2.2.2.2.2.2.2.2.2.2.2.2.2.2.2.2.2.2.2.2.2.2.2,A.2.2.2.2.2.2.2.2.2.2.2.2.2.2.2.2.1,A.2.2.2.2.2.2.2.2.2.2.2.2.2.2.2.2.2.1,A.2.2.2.2.2.2.2.2.2.2.2.2.2.2.2.2.2.2.2.2.2.1,A.2.2.2.2.2.2.2.2.2.2.2.2.2.2.2.2.2.2.2.2.2.2.1) ) λP=>bif Q then P (b0,D,E,F,I,L,M,N,l9,l8,j9,l7,l6,o7,3,aE,p5,p4,G,K,o6,p7,p6,l5) else (tM B.1).bind λR=>(wO R B b0 D E F G I K L M N l9 o6 l8 j9 l7 l6 o7 l5 p5 p4 p7 p6).bind λu=>(bif (Option.isSome u.2.1) then some ((!(Option.isSome u.2.1)),(Option.getD u.2.1 0)) else some (false,0)).bind λC=>bif C.1 then some ((C.2,aE,0,0,0,([]:cO)),u.2.1,u.2.2.1,u.2.2.2.1,u.2.2.2.2.1,u.2.2.2.2.2.1,u.2.2.2.2.2.2.1,u.2.2.2.2.2.2.2.1,u.2.2.2.2.2.2.2.2.1,u.2.2.2.2.2.2.2.2.2.1,u.2.2.2.2.2.2.2.2.2.2.1,u.2.2.2.2.2.2.2.2.2.2.2.1,u.2.2.2.2.2.2.2.2.2.2.2.2.1,u.2.2.2.2.2.2.2.2.2.2.2.2.2.1,u.2.2.2.2.2.2.2.2.2.2.2.2.2.2.1,u.2.2.2.2.2.2.2.2.2.2.2.2.2.2.2.1,u.2.2.2.2.2.2.2.2.2.2.2.2.2.2.2.2.1,u.2.2.2.2.2.2.2.2.2.2.2.2.2.2.2.2.2.1,u.2.2.2.2.2.2.2.2.2.2.2.2.2.2.2.2.2.2.1,u.2.2.2.2.2.2.2.2.2.2.2.2.2.2.2.2.2.2.2.1,u.2.2.2.2.2.2.2.2.2.2.2.2.2.2.2.2.2.2.2.2.1,u.2.2.2.2.2.2.2.2.2.2.2.2.2.2.2.2.2.2.2.2.2.1,u.2.2.2.2.2.2.2.2.2.2.2.2.2.2.2.2.2.2.2.2.2.2.1,u.2.2.2.2.2.2.2.2.2.2.2.2.2.2.2.2.2.2.2.2.2.2.2) else P (u.2.2.1,u.2.2.2.1,u.2.2.2.2.1,u.2.2.2.2.2.1,u.2.2.2.2.2.2.2.1,u.2.2.2.2.2.2.2.2.2.1,u.2.2.2.2.2.2.2.2.2.2.1,u.2.2.2.2.2.2.2.2.2.2.2.1,u.2.2.2.2.2.2.2.2.2.2.2.2.1,u.2.2.2.2.2.2.2.2.2.2.2.2.2.2.1,u.2.2.2.2.2.2.2.2.2.2.2.2.2.2.2.1,u.2.2.2.2.2.2.2.2.2.2.2.2.2.2.2.2.1,u.2.2.2.2.2.2.2.2.2.2.2.2.2.2.2.2.2.1,u.2.2.2.2.2.2.2.2.2.2.2.2.2.2.2.2.2.2.1,C.2,u.1,u.2.2.2.2.2.2.2.2.2.2.2.2.2.2.2.2.2.2.2.2.1,u.2.2.2.2.2.2.2.2.2.2.2.2.2.2.2.2.2.2.2.2.2.1,u.2.2.2.2.2.2.1,u.2.2.2.2.2.2.2.2.1,u.2.2.2.2.2.2.2.2.2.2.2.2.2.1,u.2.2.2.2.2.2.2.2.2.2.2.2.2.2.2.2.2.2.2.2.2.2.1,u.2.2.2.2.2.2.2.2.2.2.2.2.2.2.2.2.2.2.2.2.2.2.2,u.2.2.2.2.2.2.2.2.2.2.2.2.2.2.2.2.2.2.2.1)
def eE(F:Int)(D:tL):Option ((Option (Int×Int×Int×Int×cO×nJ×rE×Int×oA×Int×Int×aO×Int×Int×Int×Int×pR×lA×Int×bZ×Int×bZ))×Gt×cD):=(bif (cm .lss F 1) then some true else some (cm .gtr F 32)).bind λG=>bif G then some ((none:_),([]:Gt),(some 1)) else bif (cm .gtr (D.length:Int) 300) then some ((none:_),([]:Gt),(some 2)) else (fJ F).bind λE=>lJ E.1 ( bif (Option.isSome E.2) then some ((none:_),([]:Gt),E.2) else lp (β:=Unit) (λ(_:Unit)=>bif (cm .lss 0 (D.length:Int)) then (Sw.idx D 0).bind λ_=>none else some (.done (.u9 ())) ) () λ(_:Unit)=>some ((none:_),([]:Gt),(none:Option Int)) ) λC=>bif (Option.isSome E.2) then some ((none:_),([]:Gt),E.2) else lp (β:=Int×Int×Int×Int×nJ×Int×oA×Int×Int×Int×Int×Int×Int×pR×Gt×Int×bZ×cO×rE×aO×Int×bZ×lA) (λ(u:Int×Int×Int×Int×Int×nJ×Int×oA×Int×Int×Int×Int×Int×Int×pR×Gt×Int×bZ×cO×rE×aO×Int×bZ×lA)=>bif (cm .lss u.1 (D.length:Int)) then (Sw.idx D u.1).bind λI=>(gD I u.2.1 u.2.2.1 u.2.2.2.1 u.2.2.2.2.1 u.2.2.2.2.2.2.2.2.2.2.2.2.2.2.2.2.2.2.1 u.2.2.2.2.2.1 u.2.2.2.2.2.2.2.2.2.2.2.2.2.2.2.2.2.2.2.1 u.2.2.2.2.2.2.1 u.2.2.2.2.2.2.2.1 u.2.2.2.2.2.2.2.2.1 u.2.2.2.2.2.2.2.2.2.1 u.2.2.2.2.2.2.2.2.2.2.2.2.2.2.2.2.2.2.2.2.1 u.2.2.2.2.2.2.2.2.2.2.1 u.2.2.2.2.2.2.2.2.2.2.2.1 u.2.2.2.2.2.2.2.2.2.2.2.2.1 u.2.2.2.2.2.2.2.2.2.2.2.2.2.1 u.2.2.2.2.2.2.2.2.2.2.2.2.2.2.1 u.2.2.2.2.2.2.2.2.2.2.2.2.2.2.2.2.2.2.2.2.2.2.2 u.2.2.2.2.2.2.2.2.2.2.2.2.2.2.2.2.1 u.2.2.2.2.2.2.2.2.2.2.2.2.2.2.2.2.2.1 u.2.2.2.2.2.2.2.2.2.2.2.2.2.2.2.2.2.2.2.2.2.1 u.2.2.2.2.2.2.2.2.2.2.2.2.2.2.2.2.2.2.2.2.2.2.1).bind λA=>bif (Option.isSome A.2.1) then some (.done (.ret ((none:_),([]:Gt),A.2.1))) else (Sw.app u.2.2.2.2.2.2.2.2.2.2.2.2.2.2.2.1 ([A.1]:Gt)).bind λK=>some (.next ((ar .add .i64 u.1 1),A.2.2.1,A.2.2.2.1,A.2.2.2.2.1,A.2.2.2.2.2.1,A.2.2.2.2.2.2.2.1,A.2.2.2.2.2.2.2.2.2.1,A.2.2.2.2.2.2.2.2.2.2.1,A.2.2.2.2.2.2.2.2.2.2.2.1,A.2.2.2.2.2.2.2.2.2.2.2.2.1,A.2.2.2.2.2.2.2.2.2.2.2.2.2.2.1,A.2.2.2.2.2.2.2.2.2.2.2.2.2.2.2.1,A.2.2.2.2.2.2.2.2.2.2.2.2.2.2.2.2.1,A.2.2.2.2.2.2.2.2.2.2.2.2.2.2.2.2.2.1,A.2.2.2.2.2.2.2.2.2.2.2.2.2.2.2.2.2.2.1,K,A.2.2.2.2.2.2.2.2.2.2.2.2.2.2.2.2.2.2.2.2.1,A.2.2.2.2.2.2.2.2.2.2.2.2.2.2.2.2.2.2.2.2.2.1,A.2.2.2.2.2.2.1,A.2.2.2.2.2.2.2.2.1,A.2.2.2.2.2.2.2.2.2.2.2.2.2.1,A.2.2.2.2.2.2.2.2.2.2.2.2.2.2.2.2.2.2.2.2.2.2.1,A.2.2.2.2.2.2.2.2.2.2.2.2.2.2.2.2.2.2.2.2.2.2.2,A.2.2.2.2.2.2.2.2.2.2.2.2.2.2.2.2.2.2.2.1)) else some (.done (.u9 (u.2.1,u.2.2.1,u.2.2.2.1,u.2.2.2.2.1,u.2.2.2.2.2.1,u.2.2.2.2.2.2.1,u.2.2.2.2.2.2.2.1,u.2.2.2.2.2.2.2.2.1,u.2.2.2.2.2.2.2.2.2.1,u.2.2.2.2.2.2.2.2.2.2.1,u.2.2.2.2.2.2.2.2.2.2.2.1,u.2.2.2.2.2.2.2.2.2.2.2.2.1,u.2.2.2.2.2.2.2.2.2.2.2.2.2.1,u.2.2.2.2.2.2.2.2.2.2.2.2.2.2.1,u.2.2.2.2.2.2.2.2.2.2.2.2.2.2.2.1,u.2.2.2.2.2.2.2.2.2.2.2.2.2.2.2.2.1,u.2.2.2.2.2.2.2.2.2.2.2.2.2.2.2.2.2.1,u.2.2.2.2.2.2.2.2.2.2.2.2.2.2.2.2.2.2.1,u.2.2.2.2.2.2.2.2.2.2.2.2.2.2.2.2.2.2.2.1,u.2.2.2.2.2.2.2.2.2.2.2.2.2.2.2.2.2.2.2.2.1,u.2.2.2.2.2.2.2.2.2.2.2.2.2.2.2.2.2.2.2.2.2.1,u.2.2.2.2.2.2.2.2.2.2.2.2.2.2.2.2.2.2.2.2.2.2.1,u.2.2.2.2.2.2.2.2.2.2.2.2.2.2.2.2.2.2.2.2.2.2.2))) ) (0,C.1,C.2.1,C.2.2.1,C.2.2.2.1,C.2.2.2.2.2.1,C.2.2.2.2.2.2.2.1,C.2.2.2.2.2.2.2.2.1,C.2.2.2.2.2.2.2.2.2.1,C.2.2.2.2.2.2.2.2.2.2.1,C.2.2.2.2.2.2.2.2.2.2.2.2.1,C.2.2.2.2.2.2.2.2.2.2.2.2.2.1,C.2.2.2.2.2.2.2.2.2.2.2.2.2.2.1,C.2.2.2.2.2.2.2.2.2.2.2.2.2.2.2.1,C.2.2.2.2.2.2.2.2.2.2.2.2.2.2.2.2.1,([]:Gt),C.2.2.2.2.2.2.2.2.2.2.2.2.2.2.2.2.2.2.1,C.2.2.2.2.2.2.2.2.2.2.2.2.2.2.2.2.2.2.2.1,C.2.2.2.2.1,C.2.2.2.2.2.2.1,C.2.2.2.2.2.2.2.2.2.2.2.1,C.2.2.2.2.2.2.2.2.2.2.2.2.2.2.2.2.2.2.2.2.1,C.2.2.2.2.2.2.2.2.2.2.2.2.2.2.2.2.2.2.2.2.2,C.2.2.2.2.2.2.2.2.2.2.2.2.2.2.2.2.2.1) λ(B:Int×Int×Int×Int×nJ×Int×oA×Int×Int×Int×Int×Int×Int×pR×Gt×Int×bZ×cO×rE×aO×Int×bZ×lA)=>some ((some (B.1,B.2.1,B.2.2.1,B.2.2.2.1,B.2.2.2.2.2.2.2.2.2.2.2.2.2.2.2.2.2.1,B.2.2.2.2.1,B.2.2.2.2.2.2.2.2.2.2.2.2.2.2.2.2.2.2.1,B.2.2.2.2.2.1,B.2.2.2.2.2.2.1,B.2.2.2.2.2.2.2.1,B.2.2.2.2.2.2.2.2.1,B.2.2.2.2.2.2.2.2.2.2.2.2.2.2.2.2.2.2.2.1,B.2.2.2.2.2.2.2.2.2.1,B.2.2.2.2.2.2.2.2.2.2.1,B.2.2.2.2.2.2.2.2.2.2.2.1,B.2.2.2.2.2.2.2.2.2.2.2.2.1,B.2.2.2.2.2.2.2.2.2.2.2.2.2.1,B.2.2.2.2.2.2.2.2.2.2.2.2.2.2.2.2.2.2.2.2.2.2,B.2.2.2.2.2.2.2.2.2.2.2.2.2.2.2.1,B.2.2.2.2.2.2.2.2.2.2.2.2.2.2.2.2.1,B.2.2.2.2.2.2.2.2.2.2.2.2.2.2.2.2.2.2.2.2.1,B.2.2.2.2.2.2.2.2.2.2.2.2.2.2.2.2.2.2.2.2.2.1)),B.2.2.2.2.2.2.2.2.2.2.2.2.2.2.1,(none:Option Int))
def iU(A:Int)(B:tL):Option (Gt×cD):=(eE A B).bind λu=>lJ u.1 ( some (u.2.1,u.2.2) ) λ_=>some (u.2.1,u.2.2)
def pC(B:aD):Option (aO):=lp (β:=aO) (λ(u:Int×aO)=>bif (cm .lss u.1 8) then (Sw.idx B u.1).bind λA=>(Sw.idx ([48,49,50,51,52,53,54,55,56,57,97,98,99,100,101,102]:List Int) (sh .shr .u8 A 4)).bind λC=>(Sw.idx ([48,49,50,51,52,53,54,55,56,57,97,98,99,100,101,102]:List Int) (ar .and .u8 A 15)).bind λD=>(Sw.app u.2 ([C,D]:aO)).bind λE=>some (.next ((ar .add .i64 u.1 1),E)) else some (.done (.u9 u.2)) ) (0,([]:aO)) λ(F:aO)=>some F
def bP(D:xV)(b0:Bool)(K:aO)(E:Int)(u:tL):Option (aO×cD×tL):=bif (cm .eql E 0) then some (([]:List Int),(some 5),u) else (FQ u (u.length:Int) (u.length:Int)).bind λF=>(Sw.app F ([D]:tL)).bind λC=>(iU E C).bind λA=>bif (Option.isSome A.2) then some (([]:List Int),A.2,u) else (Sw.idx A.1 (ar .sub .i64 (A.1.length:Int) 1)).bind λB=>bif (cm .neq B.1 0) then some (([]:List Int),(some B.1),u) else bif (cm .eql D.1 2) then (pC B.2.1).bind λG=>some (G,(none:Option Int),C) else (Ba B.2.2.1).bind λI=>some (I,(none:Option Int),C)
def gY(G:Int)(F:(List aO))(b0:Bool)(u:aO)(A:Int)(B:tL):Option (aO×cD×Bool×aO×Int×tL):=(Sw.idx F 0).bind λI=>(fO I).bind λC=>bif (Option.isSome C.2) then some (([]:List Int),C.2,b0,u,A,B) else (Sw.idx F 1).bind λK=>(oD K).bind λD=>bif (Option.isSome D.2) then some (([]:List Int),D.2,b0,u,A,B) else (bP (G,C.1,0,D.1) b0 u A B).bind λE=>some (E.1,E.2.1,b0,u,A,E.2.2)
def cI(G:Int)(E:(List aO))(b0:Bool)(A:aO)(B:Int)(F:tL):Option (aO×cD×Bool×aO×Int×tL):=lp (β:=Int) (λ(u:Int×Int)=>bif (cm .lss u.1 (E.length:Int)) then (Sw.idx E u.1).bind λI=>(fO I).bind λC=>bif (Option.isSome C.2) then some (.done (.ret (([]:List Int),C.2,b0,A,B,F))) else some (.next ((ar .add .i64 u.1 1),C.1)) else some (.done (.u9 u.2)) ) (0,0) λ(K:Int)=>(bP (G,K,0,aE) b0 A B F).bind λD=>some (D.1,D.2.1,b0,A,B,D.2.2)
def gZ(G:Int)(F:(List aO))(b0:Bool)(u:aO)(A:Int)(B:tL):Option (aO×cD×Bool×aO×Int×tL):=(Sw.idx F 0).bind λE=>bif (decide (E=([102,105,114,115,116]:List Int))) then (bP (8,0,0,aE) b0 u A B).bind λC=>some (C.1,C.2.1,b0,u,A,C.2.2) else bif (decide (E=([111,116,104,101,114]:List Int))) then (bP (9,0,0,aE) b0 u A B).bind λD=>some (D.1,D.2.1,b0,u,A,D.2.2) else some (([]:List Int),(some 3),b0,u,A,B)
def dY(I:Int)(K:tL):Option ((Int×aD×Int×Int×Int×cO)×Int×cD):=(eE I K).bind λF=>lJ F.1 ( bif (Option.isSome F.2.2) then some ((0,aE,0,0,0,([]:cO)),0,F.2.2) else lp (β:=Unit) (λ(_:Unit)=>lp (β:=Unit) (λ(_:Unit)=>none ) () λ(_:Unit)=>none ) () λ(_:Unit)=>none ) λu=>bif (Option.isSome F.2.2) then some ((0,aE,0,0,0,([]:cO)),0,F.2.2) else lp (β:=Unit) (λ(C:Int×nJ×Int×oA×Int×Int×Int×Int×pR×aO×Int×bZ×lA)=>lp (β:=nJ×Int×oA×Int×Int×Int×Int×pR×aO×Int×bZ×lA) (λ(B:nJ×Int×oA×Int×Int×Int×Int×pR×aO×Int×bZ×lA)=>bif (cm .gtr (B.2.2.2.2.2.2.2.2.2.2.2.length:Int) 0) then (bJ 0 u.1 u.2.1 u.2.2.1 u.2.2.2.1 u.2.2.2.2.1 B.1 u.2.2.2.2.2.2.1 B.2.1 B.2.2.1 B.2.2.2.1 B.2.2.2.2.1 B.2.2.2.2.2.2.2.2.1 u.2.2.2.2.2.2.2.2.2.2.2.2.1 B.2.2.2.2.2.1 u.2.2.2.2.2.2.2.2.2.2.2.2.2.2.1 B.2.2.2.2.2.2.1 B.2.2.2.2.2.2.2.1 B.2.2.2.2.2.2.2.2.2.2.2 u.2.2.2.2.2.2.2.2.2.2.2.2.2.2.2.2.2.2.1 u.2.2.2.2.2.2.2.2.2.2.2.2.2.2.2.2.2.2.2.1 B.2.2.2.2.2.2.2.2.2.1 B.2.2.2.2.2.2.2.2.2.2.1).bind λD=>bif (Option.isSome D.1) then some (.done (.ret (.done (.ret ((0,aE,0,0,0,([]:cO)),0,D.1))))) else some (.next (D.2.1,D.2.2.1,D.2.2.2.1,D.2.2.2.2.1,D.2.2.2.2.2.1,D.2.2.2.2.2.2.2.1,D.2.2.2.2.2.2.2.2.1,D.2.2.2.2.2.2.2.2.2.1,D.2.2.2.2.2.2.1,D.2.2.2.2.2.2.2.2.2.2.2.1,D.2.2.2.2.2.2.2.2.2.2.2.2,D.2.2.2.2.2.2.2.2.2.2.1)) else some (.done (.u9 (B.1,B.2.1,B.2.2.1,B.2.2.2.1,B.2.2.2.2.1,B.2.2.2.2.2.1,B.2.2.2.2.2.2.1,B.2.2.2.2.2.2.2.1,B.2.2.2.2.2.2.2.2.1,B.2.2.2.2.2.2.2.2.2.1,B.2.2.2.2.2.2.2.2.2.2.1,B.2.2.2.2.2.2.2.2.2.2.2))) ) (C.2.1,C.2.2.1,C.2.2.2.1,C.2.2.2.2.1,C.2.2.2.2.2.1,C.2.2.2.2.2.2.1,C.2.2.2.2.2.2.2.1,C.2.2.2.2.2.2.2.2.1,C.2.2.2.2.2.2.2.2.2.1,C.2.2.2.2.2.2.2.2.2.2.1,C.2.2.2.2.2.2.2.2.2.2.2.1,C.2.2.2.2.2.2.2.2.2.2.2.2) λ(A:nJ×Int×oA×Int×Int×Int×Int×pR×aO×Int×bZ×lA)=>(bif (cm .eql A.2.2.2.2.1 u.2.2.1) then some true else some (cm .eql C.1 200)).bind λL=>bif L then (cL (0,aE,0,0,0,([]:cO)) u.1 u.2.1 u.2.2.1 u.2.2.2.1 u.2.2.2.2.1 A.1 u.2.2.2.2.2.2.1 A.2.1 A.2.2.1 A.2.2.2.1 A.2.2.2.2.1 A.2.2.2.2.2.2.2.2.1 u.2.2.2.2.2.2.2.2.2.2.2.2.1 A.2.2.2.2.2.1 u.2.2.2.2.2.2.2.2.2.2.2.2.2.2.1 A.2.2.2.2.2.2.1 A.2.2.2.2.2.2.2.1 A.2.2.2.2.2.2.2.2.2.2.2 u.2.2.2.2.2.2.2.2.2.2.2.2.2.2.2.2.2.2.1 u.2.2.2.2.2.2.2.2.2.2.2.2.2.2.2.2.2.2.2.1 A.2.2.2.2.2.2.2.2.2.1 A.2.2.2.2.2.2.2.2.2.2.1).bind λG=>some (.done (.ret (G.1,C.1,G.2))) else (bO u.1 u.2.1 u.2.2.1 u.2.2.2.1 u.2.2.2.2.1 A.1 u.2.2.2.2.2.2.1 A.2.1 A.2.2.1 A.2.2.2.1 A.2.2.2.2.1 A.2.2.2.2.2.2.2.2.1 u.2.2.2.2.2.2.2.2.2.2.2.2.1 A.2.2.2.2.2.1 u.2.2.2.2.2.2.2.2.2.2.2.2.2.2.1 A.2.2.2.2.2.2.1 A.2.2.2.2.2.2.2.1 A.2.2.2.2.2.2.2.2.2.2.2 u.2.2.2.2.2.2.2.2.2.2.2.2.2.2.2.2.2.2.1 u.2.2.2.2.2.2.2.2.2.2.2.2.2.2.2.2.2.2.2.1 A.2.2.2.2.2.2.2.2.2.1 A.2.2.2.2.2.2.2.2.2.2.1).bind λE=>bif (Option.isSome E.1) then some (.done (.ret ((0,aE,0,0,0,([]:cO)),0,E.1))) else some (.next ((ar .add .i64 C.1 1),A.1,A.2.1,E.2.1,E.2.2.1,A.2.2.2.2.1,A.2.2.2.2.2.1,A.2.2.2.2.2.2.1,A.2.2.2.2.2.2.2.1,E.2.2.2.1,A.2.2.2.2.2.2.2.2.2.1,A.2.2.2.2.2.2.2.2.2.2.1,E.2.2.2.2)) ) (0,u.2.2.2.2.2.1,u.2.2.2.2.2.2.2.1,u.2.2.2.2.2.2.2.2.1,u.2.2.2.2.2.2.2.2.2.1,u.2.2.2.2.2.2.2.2.2.2.1,u.2.2.2.2.2.2.2.2.2.2.2.2.2.1,u.2.2.2.2.2.2.2.2.2.2.2.2.2.2.2.1,u.2.2.2.2.2.2.2.2.2.2.2.2.2.2.2.2.1,u.2.2.2.2.2.2.2.2.2.2.2.1,u.2.2.2.2.2.2.2.2.2.2.2.2.2.2.2.2.2.2.2.2.1,u.2.2.2.2.2.2.2.2.2.2.2.2.2.2.2.2.2.2.2.2.2,u.2.2.2.2.2.2.2.2.2.2.2.2.2.2.2.2.2.1) λ(_:Unit)=>none
def dW(b0:Bool)(C:aO)(u:Int)(B:tL):Option ((Int×aD×Int×Int×Int×cO)×cD):=bif (cm .eql u 0) then some ((0,aE,0,0,0,([]:cO)),(some 5)) else (dY u B).bind λA=>some (A.1,A.2.2)
def eK(M:Int)(N:(List aO))(b0:Bool)(u:aO)(A:Int)(B:tL):Option (aO×cD×Bool×aO×Int×tL):=(dW b0 u A B).bind λC=>bif (Option.isSome C.2) then some (([]:List Int),C.2,b0,u,A,B) else (wF C.1.2.2.2.2.2).bind λD=>bif (Option.isSome D.2) then some (([]:List Int),D.2,b0,u,A,B) else (Ba C.1.2.2.2.2.1).bind λE=>(sB E ([32]:List Int)).bind λF=>(Sw.idx D.1 (ar .sub .i64 (D.1.length:Int) 1)).bind λG=>(Sw.idx G 0).bind λI=>(fuT I 10).bind λK=>(sB F K).bind λL=>some (L,(none:Option Int),b0,u,A,B)
def fS(a1:Int)(a2:(List aO))(b0:Bool)(C:aO)(A:Int)(u:tL):Option (aO×cD×Bool×aO×Int×tL):=(dW b0 C A u).bind λI=>bif (Option.isSome I.2) then some (([]:List Int),I.2,b0,C,A,u) else (FQ u (u.length:Int) (u.length:Int)).bind λM=>(Sw.app M ([(3,0,0,aE)]:tL)).bind λN=>(dY A N).bind λF=>bif (Option.isSome F.2.2) then some (([]:List Int),F.2.2,b0,C,A,u) else lp (β:=kQ) (λ(B:Int×kQ)=>bif (cm .lss B.1 (F.1.2.2.2.2.2.length:Int)) then (Sw.idx F.1.2.2.2.2.2 B.1).bind λO=>(Sw.app B.2 ([(B.1,O)]:kQ)).bind λP=>some (.next ((ar .add .i64 B.1 1),P)) else some (.done (.u9 B.2)) ) (0,([]:kQ)) λ(Q:kQ)=>(mX Q I.1.2.2.2.2.2 ([]:cO)).bind λG=>bif (Option.isSome G.2) then some (([]:List Int),G.2,b0,C,A,u) else lp (β:=(List aO)) (λ(D:Int×(List aO))=>bif (cm .lss D.1 (G.1.length:Int)) then (Sw.idx G.1 D.1).bind λE=>(Ba E.1).bind λR=>(sB R ([32]:List Int)).bind λS=>(Ba E.2.1).bind λT=>(sB S T).bind λU=>(sB U ([32]:List Int)).bind λV=>(Ba E.2.2.1).bind λX=>(sB V X).bind λK=>jp (λ(ab:aO)=>(Sw.app D.2 ([ab]:(List aO))).bind λac=>some (.next ((ar .add .i64 D.1 1),ac)) ) λL=>bif (cm .eql E.2.1 3) then (pC E.2.2.2).bind λad=>(sB ([32]:List Int) ad).bind λae=>(sB K ae).bind λaf=>L af else L K else some (.done (.u9 D.2)) ) (0,([]:(List aO))) λ(ai:(List aO))=>(Pa ai ([124]:List Int)).bind λaj=>some (aj,(none:Option Int),b0,C,A,u)
def Yu(i:Nat)(u:Int)(A:(List aO))(b0:Bool)(B:aO)(C:Int)(D:tL):Option (aO×cD×Bool×aO×Int×tL):=match i with | 0=>gT u A b0 B C D | 1=>gY u A b0 B C D | 2=>cI u A b0 B C D | 3=>gZ u A b0 B C D | 4=>eK u A b0 B C D | 5=>fS u A b0 B C D | _=>none
def dZ(A:(List aO))(b0:Bool)(C:aO)(D:Int)(E:tL):Option (Bool×aO×Int×tL):=(Sw.idx A 0).bind λG=>(iP G).bind λB=>(bif (!B.2) then some true else some (cm .neq (ar .sub .i64 (A.length:Int) 1) B.1.1)).bind λI=>bif I then (FR C ([98,97,100,10]:List Int)).bind λK=>some (true,K,D,E) else (Sw.sub A 1 (A.length:Int)).bind λL=>(Yu B.1.2.2 B.1.2.1 L b0 C D E).bind λu=>jp (λ(M:aO)=>(sB M ([10]:List Int)).bind λN=>(FR u.2.2.2.1 N).bind λO=>some (true,O,u.2.2.2.2.1,u.2.2.2.2.2) ) λF=>bif (Option.isSome u.2.1) then (Ba (Option.getD u.2.1 0)).bind λP=>(sB ([101,114,114,111,114,32]:List Int) P).bind λQ=>F Q else F u.1
def jO(B:aO):Option (aO):=bif (cm .gtr (B.length:Int) 4000) then some ([116,111,111,32,108,111,110,103,10]:List Int) else (Yo B).bind λC=>rg (δ:=Empty) (λ(D:aO) (u:Bool×aO×Int×tL)=>(Pb D ([10]:List Int)).bind λE=>(Da E ([32]:List Int)).bind λF=>(dZ F u.1 u.2.1 u.2.2.1 u.2.2.2).bind λA=>some (.next (A.1,A.2.1,A.2.2.1,A.2.2.2)) ) (ln C) (false,([]:aO),0,([]:tL)) (λ(G:Bool×aO×Int×tL)=>some G.2.1 ) λ(z:Empty)=>z.elim
def qX(A:aO)(C:Int):Option ((List aO)):=lp (β:=Int×(List aO)) (λ(u:Int×Int×(List aO))=>bif (cm .lss u.2.1 (A.length:Int)) then (Sw.idx A u.2.1).bind λD=>bif (cm .eql D C) then (Sw.sub A u.1 u.2.1).bind λE=>(Sw.app u.2.2 ([E]:(List aO))).bind λF=>some (.next ((ar .add .i64 u.2.1 1),(ar .add .i64 u.2.1 1),F)) else some (.next (u.1,(ar .add .i64 u.2.1 1),u.2.2)) else some (.done (.u9 (u.1,u.2.2))) ) (0,0,([]:(List aO))) λ(B:Int×(List aO))=>(Sw.sub A B.1 (A.length:Int)).bind λG=>(Sw.app B.2 ([G]:(List aO))).bind λI=>some I
def gE(u:aO):Option (Int×Bool):=(bif (decide (u=([]:List Int))) then some true else bif (cm .gtr (u.length:Int) 6) then some true else (Sw.idx u 0).bind λB=>bif (cm .eql B 48) then some (cm .gtr (u.length:Int) 1) else some false).bind λC=>bif C then some (0,false) else lp (β:=Int) (λ(A:Int×Int)=>bif (cm .lss A.2 (u.length:Int)) then ((Sw.idx u A.2).bind λD=>bif (cm .lss D 48) then some true else (Sw.idx u A.2).bind λE=>some (cm .gtr E 57)).bind λF=>bif F then some (.done (.ret (0,false))) else (Sw.idx u A.2).bind λG=>some (.next ((ar .add .i64 (ar .mul .i64 A.1 10) (ar .sub .u8 G 48)),(ar .add .i64 A.2 1))) else some (.done (.u9 A.1)) ) (0,0) λ(I:Int)=>some (I,true)
def fU:Nat->Int->Option (aO) | 0=>λ_=>none | n0+1=>λa0=>jp (λ(x3:Int)=>bif (cm .neq (ar .quo .i64 a0 10) 0) then (fU n0 (ar .quo .i64 a0 10)).bind λv5=>(sB v5 ([(IntKind.wrap .u8 (ar .add .i64 48 x3))]:aO)).bind λu6=>some u6 else bif (cm .lss a0 0) then (sB ([45]:List Int) ([(IntKind.wrap .u8 (ar .add .i64 48 x3))]:aO)).bind λu8=>some u8 else some ([(IntKind.wrap .u8 (ar .add .i64 48 x3))]:aO) ) λk2=>bif (cm .lss (ar .rem .i64 a0 10) 0) then k2 (IntKind.wrap .i64 (0 - (ar .rem .i64 a0 10))) else k2 (ar .rem .i64 a0 10)
def aN(u:Int):Option (aO):=(fU bR u).bind λA=>(sB ([101,114,114,111,114,32]:List Int) A).bind λB=>some B
def fL(u:Int):Option ((Option (cO×(List cO)))):=(Sw.mk u aE).bind λA=>(Sw.mk u aE).bind λB=>(Sw.app ([]:(List cO)) ([B]:(List cO))).bind λC=>some (some (A,C))
def sH(b0:Int)(u:tL):Option (aO):=bif (cm .eql b0 0) then (aN 5).bind λA=>some A else bif (cm .eql (u.length:Int) 300) then (aN 2).bind λB=>some B else none
def sU(A:Int):Option (Int):=lp (β:=Unit) (λ(u:Int)=>bif (cm .lss u 16) then (Sw.idx ([48,49,50,51,52,53,54,55,56,57,97,98,99,100,101,102]:List Int) u).bind λB=>bif (cm .eql B A) then some (.done (.ret u)) else some (.next (ar .add .i64 u 1)) else some (.done (.u9 ())) ) 0 λ(_:Unit)=>some (-1:Int)
def lO(A:aO):Option (aD×Bool):=bif (cm .neq (A.length:Int) 16) then some (aE,false) else lp (β:=aD) (λ(u:Int×aD)=>bif (cm .lss u.1 8) then (Sw.idx A (ar .mul .i64 2 u.1)).bind λD=>(sU D).bind λB=>(Sw.idx A (ar .add .i64 (ar .mul .i64 2 u.1) 1)).bind λE=>(sU E).bind λC=>(bif (cm .lss B 0) then some true else some (cm .lss C 0)).bind λF=>bif F then some (.done (.ret (aE,false))) else (Sw.idx u.2 u.1).bind λ_=>some (.next ((ar .add .i64 u.1 1),(List.set u.2 (Int.toNat u.1) (IntKind.wrap .u8 (ar .add .i64 (ar .mul .i64 16 B) C))))) else some (.done (.u9 u.2)) ) (0,aE) λ(G:aD)=>some (G,true)
def dI(B:(List aO))(b0:Int)(F:tL):Option (aO×Option ((Int×tL×cO×(List cO)))):=(Sw.idx B 0).bind λD=>(bif (!((dQ [(([110,101,119]:List Int),(1:Int)),(([119,114,105,116,101]:List Int),(2:Int)),(([116,114,105,109]:List Int),(1:Int)),(([114,101,97,100]:List Int),(1:Int)),(([98,97,114,114,105,101,114]:List Int),(0:Int)),(([116,105,99,107]:List Int),(0:Int)),(([100,101,108,105,118,101,114]:List Int),(1:Int)),(([108,111,115,101]:List Int),(1:Int)),(([100,111,117,98,108,101]:List Int),(1:Int)),(([99,114,97,115,104]:List Int),(1:Int)),(([115,101,116,116,108,101]:List Int),(0:Int)),(([112,108,97,110]:List Int),(0:Int))] D).isSome)) then some true else some (cm .neq (ar .sub .i64 (B.length:Int) 1) ((dQ [(([110,101,119]:List Int),(1:Int)),(([119,114,105,116,101]:List Int),(2:Int)),(([116,114,105,109]:List Int),(1:Int)),(([114,101,97,100]:List Int),(1:Int)),(([98,97,114,114,105,101,114]:List Int),(0:Int)),(([116,105,99,107]:List Int),(0:Int)),(([100,101,108,105,118,101,114]:List Int),(1:Int)),(([108,111,115,101]:List Int),(1:Int)),(([100,111,117,98,108,101]:List Int),(1:Int)),(([99,114,97,115,104]:List Int),(1:Int)),(([115,101,116,116,108,101]:List Int),(0:Int)),(([112,108,97,110]:List Int),(0:Int))] D).getD 0))).bind λL=>bif L then some (([98,97,100]:List Int),(none:_)) else (bif (cm .gtr ((dQ [(([110,101,119]:List Int),(1:Int)),(([119,114,105,116,101]:List Int),(2:Int)),(([116,114,105,109]:List Int),(1:Int)),(([114,101,97,100]:List Int),(1:Int)),(([98,97,114,114,105,101,114]:List Int),(0:Int)),(([116,105,99,107]:List Int),(0:Int)),(([100,101,108,105,118,101,114]:List Int),(1:Int)),(([108,111,115,101]:List Int),(1:Int)),(([100,111,117,98,108,101]:List Int),(1:Int)),(([99,114,97,115,104]:List Int),(1:Int)),(([115,101,116,116,108,101]:List Int),(0:Int)),(([112,108,97,110]:List Int),(0:Int))] D).getD 0) 0) then (Sw.idx B 0).bind λM=>some (!decide (M=([99,114,97,115,104]:List Int))) else some false).bind λN=>jp (λ(C:Int×Int)=>(Sw.idx B 0).bind λu=>jp (λ(_:Int×aD)=>bif (cm .eql b0 0) then (aN 5).bind λO=>some (O,(none:_)) else bif (cm .eql (F.length:Int) 300) then (aN 2).bind λP=>some (P,(none:_)) else none ) λA=>bif (decide (u=([110,101,119]:List Int))) then (bif (cm .lss C.1 1) then some true else some (cm .gtr C.1 32)).bind λQ=>bif Q then (aN 1).bind λR=>some (R,(none:_)) else (fL C.1).bind λS=>lJ S ( none ) λG=>some (([111,107]:List Int),(some (C.1,([]:tL),G.1,G.2))) else bif (decide (u=([115,101,116,116,108,101]:List Int))) then bif (cm .eql b0 0) then (aN 5).bind λT=>some (T,(none:_)) else none else bif (decide (u=([112,108,97,110]:List Int))) then (sH b0 F).bind λU=>some (U,(none:_)) else bif (decide (u=([119,114,105,116,101]:List Int))) then (Sw.idx B 2).bind λV=>(lO V).bind λI=>bif (!I.2) then (aN 3).bind λX=>some (X,(none:_)) else A (0,I.1) else bif (decide (u=([116,114,105,109]:List Int))) then A (1,aE) else bif (decide (u=([114,101,97,100]:List Int))) then A (2,aE) else bif (decide (u=([98,97,114,114,105,101,114]:List Int))) then A (3,aE) else bif (decide (u=([116,105,99,107]:List Int))) then A (4,aE) else bif (decide (u=([100,101,108,105,118,101,114]:List Int))) then A (5,aE) else bif (decide (u=([108,111,115,101]:List Int))) then A (6,aE) else bif (decide (u=([100,111,117,98,108,101]:List Int))) then A (7,aE) else bif (decide (u=([99,114,97,115,104]:List Int))) then ((Sw.idx B 1).bind λab=>bif (!decide (ab=([102,105,114,115,116]:List Int))) then (Sw.idx B 1).bind λac=>some (!decide (ac=([111,116,104,101,114]:List Int))) else some false).bind λad=>bif ad then (aN 3).bind λae=>some (ae,(none:_)) else (Sw.idx B 1).bind λaf=>bif (decide (af=([102,105,114,115,116]:List Int))) then A (8,aE) else A (9,aE) else A (0,aE) ) λK=>bif N then (Sw.idx B 1).bind λai=>(gE ai).bind λE=>bif (!E.2) then (aN 3).bind λaj=>some (aj,(none:_)) else K (E.1,E.1) else K (0,0)
def bT(u:(cO×(List cO))):Option (Int):=some (ar .sub .i64 (u.2.length:Int) 1)
def nB(B:aO):Option (Int):=lp (β:=Int) (λ(A:Int×Int)=>bif (cm .lss A.2 (B.length:Int)) then lp (β:=Int) (λ(u:Int×Int)=>bif (cm .lss u.2 256) then (nz u.2).bind λ_=>(Sw.idx B A.2).bind λC=>(nz u.2).bind λ_=>bif (cm .neq (ar .rem .u64 (ar .quo .u64 (ar .rem .u64 A.1 256) u.2) 2) (ar .rem .u64 (ar .quo .u64 C u.2) 2)) then some (.next ((ar .add .u64 u.1 u.2),(ar .mul .u64 u.2 2))) else some (.next (u.1,(ar .mul .u64 u.2 2))) else some (.done (.u9 u.1)) ) (0,1) λ(D:Int)=>some (.next ((ar .mul .u64 (ar .add .u64 (ar .sub .u64 A.1 (ar .rem .u64 A.1 256)) D) 1099511628211),(ar .add .i64 A.2 1))) else some (.done (.u9 A.1)) ) (14695981039346656037,0) λ(E:Int)=>some E
def sV(C:aO):Option (aO):=lp (β:=aO) (λ(u:Int×aO)=>bif (cm .lss u.1 (C.length:Int)) then lp (β:=aO) (λ(A:Int×aO)=>(bif (cm .lss A.1 (ar .add .i64 u.1 4)) then some (cm .lss A.1 (C.length:Int)) else some false).bind λD=>bif D then lp (β:=aO) (λ(B:Int×aO)=>bif (cm .gtr B.1 0) then (Sw.idx C A.1).bind λE=>(nz B.1).bind λ_=>(Sw.app B.2 ([(IntKind.wrap .u8 (ar .rem .u64 (ar .quo .u64 E B.1) 256))]:aO)).bind λF=>some (.next ((ar .quo .u64 B.1 256),F)) else some (.done (.u9 B.2)) ) (72057594037927936,A.2) λ(G:aO)=>some (.next ((ar .add .i64 A.1 1),G)) else some (.done (.u9 A.2)) ) (u.1,([1]:aO)) λ(I:aO)=>(nB I).bind λK=>(Sw.app u.2 ([K]:aO)).bind λL=>some (.next ((ar .add .i64 u.1 4),L)) else some (.done (.u9 u.2)) ) (0,([]:aO)) λ(M:aO)=>some M
def qY(C:cO):Option (((List aO))):=lp (β:=aO) (λ(u:Int×aO)=>bif (cm .lss u.1 (C.length:Int)) then lp (β:=aO) (λ(A:Int×aO)=>bif (cm .lss A.1 8) then (Sw.idx C u.1).bind λF=>(Sw.idx F A.1).bind λG=>(Sw.app A.2 ([G]:aO)).bind λI=>some (.next ((ar .add .i64 A.1 1),I)) else some (.done (.u9 A.2)) ) (0,([0]:aO)) λ(K:aO)=>(nB K).bind λL=>(Sw.app u.2 ([L]:aO)).bind λM=>some (.next ((ar .add .i64 u.1 1),M)) else some (.done (.u9 u.2)) ) (0,([]:aO)) λ(D:aO)=>lp (β:=(List aO)) (λ(B:aO×(List aO))=>bif (cm .gtr (B.1.length:Int) 1) then (sV B.1).bind λE=>(Sw.app B.2 ([E]:(List aO))).bind λN=>some (.next (E,N)) else some (.done (.u9 B.2)) ) (D,([D]:(List aO))) λ(O:(List aO))=>some O
def kJ:Nat->Int->Option (aO) | 0=>λ_=>none | n0+1=>λa0=>bif (cm .lss a0 10) then some ([(IntKind.wrap .u8 (ar .add .u64 48 (ar .rem .u64 a0 10)))]:aO) else (kJ n0 (ar .quo .u64 a0 10)).bind λv2=>(sB v2 ([(IntKind.wrap .u8 (ar .add .u64 48 (ar .rem .u64 a0 10)))]:aO)).bind λu3=>some u3
def qF(A:cO)(B:aD):Option (Int):=lp (β:=Unit) (λ(u:Int)=>bif (cm .lss u (A.length:Int)) then (Sw.idx A u).bind λC=>bif (decide (C=B)) then some (.done (.ret u)) else some (.next (ar .add .i64 u 1)) else some (.done (.u9 ())) ) 0 λ(_:Unit)=>some (-1:Int)
def qG(u:(Int×aD))(A D:cO):Option (xV×Bool):=(Sw.idx A u.1).bind λE=>bif (decide (E=u.2)) then some ((0,0,0,aE),false) else bif (decide (u.2=aE)) then some ((u.1,0,0,aE),true) else (qF A u.2).bind λB=>bif (cm .geq B 0) then some ((u.1,1,B,aE),true) else (qF D u.2).bind λC=>bif (cm .geq C 0) then some ((u.1,2,C,aE),true) else some ((u.1,3,0,u.2),true)
def sW(A:aD):Option (aO):=lp (β:=aO) (λ(u:aO×Int)=>bif (cm .lss u.2 8) then (Sw.idx A u.2).bind λB=>(Sw.idx ([48,49,50,51,52,53,54,55,56,57,97,98,99,100,101,102]:List Int) (ar .quo .u8 B 16)).bind λC=>(Sw.idx A u.2).bind λD=>(Sw.idx ([48,49,50,51,52,53,54,55,56,57,97,98,99,100,101,102]:List Int) (ar .rem .u8 D 16)).bind λE=>(sB u.1 ([C,E]:aO)).bind λF=>some (.next (F,(ar .add .i64 u.2 1))) else some (.done (.u9 u.1)) ) (([]:List Int),(0:Int)) λ(G:aO)=>some G
def eM(b0:Int)(G:tL)(C:cO)(D:(List cO)):Option (aO):=bif (cm .eql b0 0) then (aN 5).bind λI=>some I else bif (cm .eql (G.length:Int) 300) then (aN 2).bind λK=>some K else (bT (C,D)).bind λL=>(Sw.idx D L).bind λM=>lp (β:=aO) (λ(u:aO×Int)=>bif (cm .lss u.2 b0) then jp (λ(N:aO)=>some (.next (N,(ar .add .i64 u.2 1))) ) λB=>(Sw.idx C u.2).bind λO=>(qG (u.2,O) M ([]:cO)).bind λA=>bif (!A.2) then B u.1 else jp (λ(P:aO)=>(fU bR A.1.1).bind λQ=>(sB P Q).bind λR=>(sB R ([32]:List Int)).bind λS=>(fU bR A.1.2.1).bind λT=>(sB S T).bind λU=>(sB U ([32]:List Int)).bind λV=>(fU bR A.1.2.2.1).bind λX=>(sB V X).bind λE=>bif (cm .eql A.1.2.1 3) then (sB E ([32]:List Int)).bind λab=>(sW A.1.2.2.2).bind λac=>(sB ab ac).bind λad=>B ad else B E ) λF=>bif (!decide (u.1=([]:List Int))) then (sB u.1 ([124]:List Int)).bind λae=>F ae else F u.1 else some (.done (.u9 u.1)) ) (([]:List Int),(0:Int)) λ(af:aO)=>some af
def fM(u:cO):Option (cO):=(Sw.app ([]:cO) u).bind λA=>some A
def bU(q7:cO)(w7:(List cO))(u:xV):Option (Int×aD×cO×(List cO)):=(bif (cm .lss u.1 0) then some true else some (cm .geq u.1 11)).bind λA=>bif A then some (3,aE,q7,w7) else (bif (cm .eql u.1 0) then bif (cm .lss u.2.1 0) then some true else some (cm .geq u.2.1 (q7.length:Int)) else bif (cm .eql u.1 1) then bif (cm .lss u.2.1 0) then some true else some (cm .geq u.2.1 (q7.length:Int)) else bif (cm .eql u.1 2) then bif (cm .lss u.2.1 0) then some true else some (cm .geq u.2.1 (q7.length:Int)) else some false).bind λB=>bif B then some (1,aE,q7,w7) else bif (cm .eql u.1 0) then (Sw.idx q7 u.2.1).bind λ_=>some (0,aE,(List.set q7 (Int.toNat u.2.1) u.2.2.2),w7) else bif (cm .eql u.1 1) then (Sw.idx q7 u.2.1).bind λ_=>some (0,aE,(List.set q7 (Int.toNat u.2.1) aE),w7) else bif (cm .eql u.1 2) then (Sw.idx q7 u.2.1).bind λC=>some (0,C,q7,w7) else bif (cm .eql u.1 3) then (fM q7).bind λD=>(Sw.app w7 ([D]:(List cO))).bind λE=>some (0,aE,q7,E) else bif (cm .eql u.1 8) then (bT (q7,w7)).bind λF=>(Sw.idx w7 F).bind λG=>(fM G).bind λI=>some (0,aE,I,w7) else some (0,aE,q7,w7)
def eN(F:(List aO))(b0:Int)(A:tL)(B:cO)(u:(List cO)):Option (aO×Int×tL×cO×(List cO)):=(Sw.idx F 0).bind λK=>(bif (!((dQ [(([110,101,119]:List Int),(1:Int)),(([119,114,105,116,101]:List Int),(2:Int)),(([116,114,105,109]:List Int),(1:Int)),(([114,101,97,100]:List Int),(1:Int)),(([98,97,114,114,105,101,114]:List Int),(0:Int)),(([116,105,99,107]:List Int),(0:Int)),(([100,101,108,105,118,101,114]:List Int),(1:Int)),(([108,111,115,101]:List Int),(1:Int)),(([100,111,117,98,108,101]:List Int),(1:Int)),(([99,114,97,115,104]:List Int),(1:Int)),(([115,101,116,116,108,101]:List Int),(0:Int)),(([112,108,97,110]:List Int),(0:Int))] K).isSome)) then some true else some (cm .neq (ar .sub .i64 (F.length:Int) 1) ((dQ [(([110,101,119]:List Int),(1:Int)),(([119,114,105,116,101]:List Int),(2:Int)),(([116,114,105,109]:List Int),(1:Int)),(([114,101,97,100]:List Int),(1:Int)),(([98,97,114,114,105,101,114]:List Int),(0:Int)),(([116,105,99,107]:List Int),(0:Int)),(([100,101,108,105,118,101,114]:List Int),(1:Int)),(([108,111,115,101]:List Int),(1:Int)),(([100,111,117,98,108,101]:List Int),(1:Int)),(([99,114,97,115,104]:List Int),(1:Int)),(([115,101,116,116,108,101]:List Int),(0:Int)),(([112,108,97,110]:List Int),(0:Int))] K).getD 0))).bind λR=>bif R then some (([98,97,100]:List Int),b0,A,B,u) else (bif (cm .gtr ((dQ [(([110,101,119]:List Int),(1:Int)),(([119,114,105,116,101]:List Int),(2:Int)),(([116,114,105,109]:List Int),(1:Int)),(([114,101,97,100]:List Int),(1:Int)),(([98,97,114,114,105,101,114]:List Int),(0:Int)),(([116,105,99,107]:List Int),(0:Int)),(([100,101,108,105,118,101,114]:List Int),(1:Int)),(([108,111,115,101]:List Int),(1:Int)),(([100,111,117,98,108,101]:List Int),(1:Int)),(([99,114,97,115,104]:List Int),(1:Int)),(([115,101,116,116,108,101]:List Int),(0:Int)),(([112,108,97,110]:List Int),(0:Int))] K).getD 0) 0) then (Sw.idx F 0).bind λS=>some (!decide (S=([99,114,97,115,104]:List Int))) else some false).bind λT=>jp (λ(G:Int×Int)=>(Sw.idx F 0).bind λC=>jp (λ(I:Int×aD)=>bif (cm .eql b0 0) then (aN 5).bind λU=>some (U,b0,A,B,u) else bif (cm .eql (A.length:Int) 300) then (aN 2).bind λV=>some (V,b0,A,B,u) else (bU B u (I.1,G.2,0,I.2)).bind λE=>bif (cm .neq E.1 0) then (aN E.1).bind λX=>some (X,b0,A,E.2.2.1,E.2.2.2) else (Sw.app A ([(I.1,G.2,0,I.2)]:tL)).bind λM=>bif (cm .eql I.1 2) then (sW E.2.1).bind λab=>some (ab,b0,M,E.2.2.1,E.2.2.2) else (bT E.2.2).bind λac=>(fU bR ac).bind λad=>some (ad,b0,M,E.2.2.1,E.2.2.2) ) λD=>bif (decide (C=([110,101,119]:List Int))) then (bif (cm .lss G.1 1) then some true else some (cm .gtr G.1 32)).bind λae=>bif ae then (aN 1).bind λaf=>some (af,b0,A,B,u) else (fL G.1).bind λai=>lJ ai ( none ) λN=>some (([111,107]:List Int),G.1,([]:tL),N.1,N.2) else bif (decide (C=([115,101,116,116,108,101]:List Int))) then bif (cm .eql b0 0) then (aN 5).bind λaj=>some (aj,b0,A,B,u) else (bT (B,u)).bind λak=>(Sw.idx u ak).bind λal=>(qY al).bind λO=>(bT (B,u)).bind λan=>(fU bR an).bind λao=>(sB ao ([32]:List Int)).bind λap=>(Sw.idx O (ar .sub .i64 (O.length:Int) 1)).bind λaq=>(Sw.idx aq 0).bind λtc=>(kJ bR tc).bind λau=>(sB ap au).bind λav=>some (av,b0,A,B,u) else bif (decide (C=([112,108,97,110]:List Int))) then (eM b0 A B u).bind λaw=>some (aw,b0,A,B,u) else bif (decide (C=([119,114,105,116,101]:List Int))) then (Sw.idx F 2).bind λax=>(lO ax).bind λP=>bif (!P.2) then (aN 3).bind λay=>some (ay,b0,A,B,u) else D (0,P.1) else bif (decide (C=([116,114,105,109]:List Int))) then D (1,aE) else bif (decide (C=([114,101,97,100]:List Int))) then D (2,aE) else bif (decide (C=([98,97,114,114,105,101,114]:List Int))) then D (3,aE) else bif (decide (C=([116,105,99,107]:List Int))) then D (4,aE) else bif (decide (C=([100,101,108,105,118,101,114]:List Int))) then D (5,aE) else bif (decide (C=([108,111,115,101]:List Int))) then D (6,aE) else bif (decide (C=([100,111,117,98,108,101]:List Int))) then D (7,aE) else bif (decide (C=([99,114,97,115,104]:List Int))) then ((Sw.idx F 1).bind λaz=>bif (!decide (az=([102,105,114,115,116]:List Int))) then (Sw.idx F 1).bind λa0=>some (!decide (a0=([111,116,104,101,114]:List Int))) else some false).bind λa2=>bif a2 then (aN 3).bind λa3=>some (a3,b0,A,B,u) else (Sw.idx F 1).bind λa4=>bif (decide (a4=([102,105,114,115,116]:List Int))) then D (8,aE) else D (9,aE) else D (0,aE) ) λQ=>bif T then (Sw.idx F 1).bind λa5=>(gE a5).bind λL=>bif (!L.2) then (aN 3).bind λa6=>some (a6,b0,A,B,u) else Q (L.1,L.1) else Q (0,0)
def rQ(G:aO):Option (aO):=bif (cm .gtr (G.length:Int) 4000) then some ([116,111,111,32,108,111,110,103,10]:List Int) else (qX G 10).bind λB=>(Sw.idx B (ar .sub .i64 (B.length:Int) 1)).bind λK=>jp (λ(D:(List aO))=>lp (β:=aO) (Sum.elim (λ(A:aO×Int)=>bif (cm .lss A.2 (D.length:Int)) then (Sw.idx D A.2).bind λL=>(qX L 32).bind λM=>(dI M 0 ([]:tL)).bind λF=>lJ F.2 ( (sB A.1 F.1).bind λN=>(sB N ([10]:List Int)).bind λO=>some (.next (.inl (O,(ar .add .i64 A.2 1)))) ) λE=>(sB A.1 F.1).bind λP=>(sB P ([10]:List Int)).bind λQ=>some (.next (.inr (Q,(ar .add .i64 A.2 1),E.1,E.2.1,E.2.2.1,E.2.2.2))) else some (.done (.u9 A.1)) ) (λ(u:aO×Int×Int×tL×cO×(List cO))=>bif (cm .lss u.2.1 (D.length:Int)) then (Sw.idx D u.2.1).bind λR=>(qX R 32).bind λS=>(eN S u.2.2.1 u.2.2.2.1 u.2.2.2.2.1 u.2.2.2.2.2).bind λC=>(sB u.1 C.1).bind λT=>(sB T ([10]:List Int)).bind λU=>some (.next (.inr (U,(ar .add .i64 u.2.1 1),C.2.1,C.2.2.1,C.2.2.2.1,C.2.2.2.2))) else some (.done (.u9 u.1)) ) ) (.inl (([]:List Int),(0:Int))) λ(V:aO)=>some V ) λI=>bif (decide (K=([]:List Int))) then (Sw.sub B 0 (ar .sub .i64 (B.length:Int) 1)).bind λX=>I X else I B
def lP(u:aO):Option (Bool):=(bif (cm .gtr (u.length:Int) 4100) then some true else (jO u).bind λA=>(rQ u).bind λB=>some (decide (A=B))).bind λC=>some C
end Go.Mo
namespace Go.Pl
open Go Go.Sw
def sX{A B D:Type}(g:Nat->A->B->Step B D)(fin:B->D):Nat->B->List A->D
 |_,acc,[]=>fin acc
 |i,acc,x::xs=>match g i x acc with
  | .next u=>sX g fin (i+1) u xs
  | .done d=>d
def Jl{α B D:Type}(st:Nat->B->α)(i:Nat):Step B D->Step α D | .next a=> .next (st i a) | .done d=> .done d
def out{β γ:Type}(k:β->Option γ):Ex β γ->Option γ | .u9 y=>k y | .ret z=>some z
theorem Pd{α A B D:Type}{step:α->Option (Step α D)}{l:List A}(st:Nat->B->α)(g:Nat->A->B->Step B D)(fin:B->D)
  (hs:∀pre x rest acc,l=pre++x::rest->step (st pre.length acc)=some (Jl st (pre.length+1) (g pre.length x acc)))
  (he:∀acc,step (st l.length acc)=some (.done (fin acc))):
  ∀(rest pre:List A) (acc:B) (f:Nat),l=pre++rest->rest.length<f->loop step f (st pre.length acc)=some (sX g fin pre.length acc rest)
 | [],pre,acc,f,u,C=>by
  obtain⟨f,rfl⟩:∃f',f=f'+1:=⟨f - 1,by simp at C;omega⟩;have:=he acc;rw[u,rf] at this;simp[loop,this,sX]
 |x::rest,pre,acc,f,u,C=>by
  obtain⟨f,rfl⟩:∃f',f=f'+1:=⟨f - 1,by simp at C;omega⟩;have E:=hs pre x rest acc u;simp only[loop,E,sX];cases hg:g pre.length x acc with
  |done d=>rfl
  |next G=>
   have F:=Pd st g fin hs he rest (pre++[x]) G f (by rw[u];simp) (by simp at C;omega);simpa[Jl] using F
theorem zL{α A B β γ:Type}{step:α->Option (Step α (Ex β γ))}{l:List A}{k:β->Option γ}(st:Nat->B->α)(H3:B)(g:Nat->A->B->Step B (Ex β γ))(fin:B->Ex β γ)(hf:l.length<bR)(hs:∀pre x rest acc,l=pre++x::rest->step (st pre.length acc)=some (Jl st (pre.length+1) (g pre.length x acc)))(he:∀acc,step (st l.length acc)=some (.done (fin acc))):lp step (st 0 H3) k=out k (sX g fin 0 H3 l):=by
 have h:=Pd st g fin hs he l [] H3 bR rfl hf;unfold lp;simp only[ue] at h;rw[h];cases sX g fin 0 H3 l<;>rfl
theorem jT{α:Type}(pre:List α)(x:α)(rest:List α):Sw.idx (pre++x::rest) (pre.length:Int)=some x:=by
 simp[Sw.idx]
theorem CC{n m:Nat}(h:n<m)(hm:m<=4611686018427387904):ar .add .i64 (n:Int) 1=((n+1:Nat):Int):=by
 grind [ar,IntKind.wrap,IntKind.signed,IntKind.bits]
theorem lQ{α:Type}(pre:List α)(x:α)(rest:List α):cm .lss (pre.length:Int) ((pre++x::rest).length:Int)=true:=by
 grind [cm]
theorem bV{n:Nat}:cm .lss (n:Int) (n:Int)=false:=by unfold cm;simp
theorem El{α β γ:Type}{step:α->Option (Step α (Ex β γ))}{k:β->Option γ}(st:Nat->α)(n:Nat)(y:β)(hf:n<bR)(hs:∀i,i<n->step (st i)=some (.next (st (i+1))))(he:step (st n)=some (.done (.u9 y))):lp step (st 0) k=k y:=by
 have h:∀m i,i+m=n->∀f,m<f->loop step f (st i)=some (.u9 y):=by
  intro m
  induction m with
  |zero=>
   intro i u f hf;obtain⟨f,rfl⟩:∃f',f=f'+1:=⟨f - 1,by omega⟩
   simp_all [aHq,loop]
  |succ m A=>
   intro i u f hf;obtain⟨f,rfl⟩:∃f',f=f'+1:=⟨f - 1,by omega⟩
   grind [loop]
 grind [lp,bR]
theorem wrap_i64{n:Int}(h: -9223372036854775808<=n/\n<=9223372036854775807):IntKind.wrap .i64 n=n:=uV (k:= .i64) (by grind [zY,IntKind.min,IntKind.max,IntKind.signed,IntKind.bits])
theorem Jm{n:Int}(h:0<=n/\n<=255):IntKind.wrap .u8 n=n:=uV (k:= .u8) (by grind [zY,IntKind.min,IntKind.max,IntKind.signed,IntKind.bits])
theorem Lk{n:Int}(h:0<=n/\n<=4294967295):IntKind.wrap .u32 n=n:=uV (k:= .u32) (by grind [zY,IntKind.min,IntKind.max,IntKind.signed,IntKind.bits])
theorem sY(w n:Nat):BitVec.ofInt w (n:Int)=BitVec.ofNat w n:=by
 apply BitVec.eq_of_toNat_eq;simp
theorem WR{a b:Nat}(ha:a<4294967296)(hb:b<4294967296):ar .xor .u32 (a:Int) (b:Int)=((a ^^^ b:Nat):Int):=by
 have h:a ^^^ b<2 ^ 32:=aGg (by omega) (by grind);show IntKind.wrap .u32 ((BitVec.ofInt 32 (a:Int) ^^^ BitVec.ofInt 32 (b)).toNat:Int)=_
 grind [sY,BitVec.toNat_xor,BitVec.toNat_ofNat,Nat.mod_eq_of_lt,Lk]
theorem aCq{a:Nat}(ha:a<4294967296):ar .and .u32 (a:Int) 1=((a % 2:Nat):Int):=by
 show IntKind.wrap .u32 ((BitVec.ofInt 32 (a:Int) &&& BitVec.ofInt 32 ((1))).toNat:Int)=_
 grind [sY,BitVec.toNat_and,BitVec.toNat_ofNat,Nat.mod_eq_of_lt,Lk]
theorem aCr{a:Nat}(ha:a<2):ar .mul .u32 3988292384 (a:Int)=((if a=1 then 3988292384 else 0:Nat):Int):=by
 have:a=0\/a=1:=by omega
 rcases this with rfl | rfl
 ·rfl
 ·decide
theorem aEv{a:Nat}:sh .shr .u32 (a:Int) 1=((a / 2:Nat):Int):=by
 show Int.fdiv _ _=_;simp[min,IntKind.bits,aEa]
theorem aCs{a:Nat}(ha:a<4294967296):IW .u32 (a:Int)=((4294967295 - a:Nat):Int):=by
 show IntKind.wrap .u32 ((BitVec.allOnes 32 ^^^ BitVec.ofInt 32 (a)).toNat:Int)=_;simp only[sY,BitVec.allOnes_xor,BitVec.toNat_not,aF6]
 grind [Nat.mod_eq_of_lt,Lk]
theorem LM(a b:Nat):Int.tdiv (a:Int) (b:Int)=((a / b:Nat):Int):=rfl
theorem aCt{a b:Nat}(ha:a<=9223372036854775807):ar .quo .i64 (a:Int) (b:Int)=((a / b:Nat):Int):=by
 show IntKind.wrap .i64 _=_;have:=Nat.div_le_self a b
 grind [wrap_i64]
theorem WS{a b:Nat}(h:a+b<=9223372036854775807):ar .add .i64 (a:Int) (b:Int)=((a+b:Nat):Int):=by
 show IntKind.wrap .i64 _=_
 grind [Int.natCast_add,wrap_i64]
theorem Ut{a b:Nat}(h:a*b<=9223372036854775807):ar .mul .i64 (a:Int) (b:Int)=((a*b:Nat):Int):=by
 show IntKind.wrap .i64 _=_
 grind [Int.natCast_mul,wrap_i64]
theorem WT{n:Int}(h:n≠0):nz n=some ():=by unfold nz;rw[nS h]
theorem LN{a b:Nat}:cm .lss (a:Int) (b:Int)=decide (a<b):=by simp[cm]
theorem SE(a b i:Nat):(a ^^^ b) / 2 ^ i % 2=(a / 2 ^ i+b / 2 ^ i) % 2:=by
 have h:=Nat.testBit_xor a b i
 grind
def Bytes(l:List Int):Prop:=∀x∈l,0<=x/\x<=255
def nat(l:List Int):List Nat:=l.map Int.toNat
theorem L5{α A B β γ:Type}{step:α->Option (Step α (Ex β γ))}{l:List A}{k:β->Option γ}(st:Nat->B->α)(I:Nat->B->Prop)(H3:B)(g:Nat->A->B->B)(fin:B->β)(hf:l.length<bR)(h0:I 0 H3)(hs:∀pre x rest acc,l=pre++x::rest->I pre.length acc->step (st pre.length acc)=some (.next (st (pre.length+1) (g pre.length x acc)))/\I (pre.length+1) (g pre.length x acc))(he:∀acc,I l.length acc->step (st l.length acc)=some (.done (.u9 (fin acc)))):lp step (st 0 H3) k=k (fin ((l.zipIdx).foldl (λacc x=>g x.2 x.1 acc) H3)):=by
 have D:∀(rest pre:List A) (acc:B) (f:Nat),l=pre++rest->I pre.length acc->rest.length<f->loop step f (st pre.length acc)=some (.u9 (fin ((rest.zipIdx pre.length).foldl (λacc x=>g x.2 x.1 acc) acc))):=by
  intro rest
  induction rest with
  |nil=>
   intro pre acc f u C hf;obtain⟨f,rfl⟩:∃f',f=f'+1:=⟨f - 1,by simp at hf;omega⟩;have:=he acc (by rw[u,rf];exact C);rw[u,rf] at this;simp[loop,this]
  |cons x rest G=>
   intro pre acc f u C hf;obtain⟨f,rfl⟩:∃f',f=f'+1:=⟨f - 1,by simp at hf;omega⟩;obtain⟨E,F⟩:=hs pre x rest acc u C;simp only[loop,E];have:=G (pre++[x]) (g pre.length x acc) f (by rw[u];simp) (by simpa using F) (by simp at hf;omega);simpa using this
 have h:=D l [] H3 bR rfl h0 hf;unfold lp;simp only[ue] at h;rw[h]
theorem j1{α:Type}(xs ys:List α)(h:xs.length+ys.length<=4294967296):Sw.app xs ys=some (xs++ys):=by simp_all [Sw.app,sM]
theorem H0{A:Type}(w:A->List Int):∀(l:List A) (i:Nat) (acc:List Int),(l.zipIdx i).foldl (λacc x=>acc++w x.1) acc=acc++l.flatMap w
 | [],_,acc=>by simp
 |x::l,i,acc=>by simp[H0 w l]
theorem cl(m n:Int):cm .lss m n=decide (m<n):=rfl
theorem cg(m n:Int):cm .gtr m n=decide (m>n):=rfl
theorem cle(m n:Int):cm .leq m n=decide (m<=n):=rfl
theorem ib(m n:Int):cm .geq m n=decide (m>=n):=rfl
theorem ce(m n:Int):cm .eql m n=decide (m=n):=rfl
theorem cn(m n:Int):cm .neq m n=decide (m≠n):=by show (m != n)=_;grind
theorem O9{m n:Int}(h: -9223372036854775808<=m+n/\m+n<=9223372036854775807):ar .add .i64 m n=m+n:=wrap_i64 h
theorem bw{m n:Int}(h: -9223372036854775808<=m - n/\m - n<=9223372036854775807):ar .sub .i64 m n=m - n:=wrap_i64 h
theorem L3{n:Nat}(h:n<=4611686018427387904):ar .add .i64 (n:Int) 1=((n+1:Nat):Int):=by grind [O9]
theorem Em{A:Type}{l:List A}{n:Nat}(h:l.length<=n)(hn:n<=140737488355328):l.length<bR:=by grind [bR]
theorem iN{A:Type}{l pre rest:List A}{x:A}(h:l=pre++x::rest):cm .lss (pre.length:Int) (l.length:Int)=true:=by grind [lQ]
theorem fF{A:Type}{l pre rest:List A}{x:A}(h:l=pre++x::rest):Sw.idx l (pre.length:Int)=some x:=by grind [jT]
theorem pM{A:Type}{l:List A}{i:Nat}{x:A}(h:l[i]? =some x):Sw.idx l (i:Int)=some x:=by grind [Sw.idx]
theorem vV{A:Type}{l:List A}{n:Int}(h0:0<=n)(h1:n<l.length):∃x,Sw.idx l n=some x/\l[n.toNat]? =some x:=by
 simp_all [Sw.idx]
theorem Jn{α A β γ:Type}{step:α->Option (Step α (Ex β γ))}{l:List A}{k:β->Option γ}(st:Nat->α)(zQ:A->Bool)(z:Nat->γ)(y:β)(hf:l.length<bR)(hs:∀pre x rest,l=pre++x::rest->step (st pre.length)=some (if zQ x then .done (.ret (z pre.length)) else .next (st (pre.length+1))))(he:step (st l.length)=some (.done (.u9 y))):lp step (st 0) k=match l.findIdx? zQ with | some j=>some (z j) | none=>k y:=by
 have C:∀(rest pre:List A) (f:Nat),l=pre++rest->rest.length<f->loop step f (st pre.length)=some (match rest.findIdx? zQ with | some j=> .ret (z (pre.length+j)) | none=> .u9 y):=by
  intro rest
  induction rest with
  |nil=>
   intro pre f u hf;obtain⟨f,rfl⟩:∃f',f=f'+1:=⟨f - 1,by simp at hf;omega⟩;rw[rf] at u;rw[<-u];simp[loop,he]
  |cons x rest D=>
   intro pre f u hf;obtain⟨f,rfl⟩:∃f',f=f'+1:=⟨f - 1,by simp at hf;omega⟩;simp only[loop,hs pre x rest u,List.findIdx?_cons];by_cases B:zQ x=true
   ·simp[B]
   ·have:=D (pre++[x]) f (by rw[u];simp) (by simp at hf;omega);simp only[aGq] at B;simp only[B,mu,M5];rw[cM,aF4] at this;rw[this];cases rest.findIdx? zQ with
    |none=>rfl
    |some j=>simp only[aEp];congr 3;omega
 have:=C l [] bR rfl hf;unfold lp;simp only[ue,aGu] at this;rw[this];cases l.findIdx? zQ<;>rfl
theorem Hx{A:Type}(l:List A)(zQ:A->Bool):l.any zQ=(l.findIdx? zQ).isSome:=by
 simp
def vK{A B D:Type}(g:B->A->Step B D)(fin:B->D):B->List A->D
 |acc,[]=>fin acc
 |acc,x::xs=>match g acc x with
  | .next u=>vK g fin u xs
  | .done d=>d
theorem Cb{α A B β γ:Type}{step:α->Option (Step α (Ex β γ))}{l:List A}{k:β->Option γ}(st:Nat->B->α)(I:List A->B->Prop)(g:B->A->Step B (Ex β γ))(fin:B->Ex β γ)(H3:B)(hf:l.length<bR)(h0:I [] H3)(hs:∀pre x rest acc,l=pre++x::rest->I pre acc->step (st pre.length acc)=some (Jl st (pre.length+1) (g acc x))/\∀C3,g acc x= .next C3->I (pre++[x]) C3)(he:∀acc,I l acc->step (st l.length acc)=some (.done (fin acc))):lp step (st 0 H3) k=out k (vK g fin H3 l):=by
 have D:∀(rest pre:List A) (acc:B) (f:Nat),l=pre++rest->I pre acc->rest.length<f->loop step f (st pre.length acc)=some (vK g fin acc rest):=by
  intro rest
  induction rest with
  |nil=>
   intro pre acc f u C hf;obtain⟨f,rfl⟩:∃f',f=f'+1:=⟨f - 1,by simp at hf;omega⟩;rw[rf] at u;subst u;simp[loop,he acc C,vK]
  |cons x rest G=>
   intro pre acc f u C hf;obtain⟨f,rfl⟩:∃f',f=f'+1:=⟨f - 1,by simp at hf;omega⟩;obtain⟨E,F⟩:=hs pre x rest acc u C;simp only[loop,E,vK];cases hg:g acc x with
   |done d=>rfl
   |next C3=>
    have:=G (pre++[x]) C3 f (by rw[u];simp) (F C3 hg) (by simp at hf;omega);simpa[Jl] using this
 have h:=D l [] H3 bR rfl h0 hf;unfold lp;simp only[ue] at h;rw[h];cases vK g fin H3 l<;>rfl
theorem CD{α A B β γ:Type}{step:α->Option (Step α (Ex β γ))}{l:List A}{k:β->Option γ}(st:Nat->B->α)(I:List A->B->Prop)(fin:B->β)(H3:B)(hf:l.length<bR)(h0:I [] H3)(hs:∀pre x rest acc,l=pre++x::rest->I pre acc->∃C3,step (st pre.length acc)=some (.next (st (pre.length+1) C3))/\I (pre++[x]) C3)(he:∀acc,I l acc->step (st l.length acc)=some (.done (.u9 (fin acc)))):∃acc,I l acc/\lp step (st 0 H3) k=k (fin acc):=by
 have E:∀(rest pre:List A) (acc:B) (f:Nat),l=pre++rest->I pre acc->rest.length<f->∃C3,I l C3/\loop step f (st pre.length acc)=some (.u9 (fin C3)):=by
  intro rest
  induction rest with
  |nil=>
   intro pre acc f u C hf;obtain⟨f,rfl⟩:∃f',f=f'+1:=⟨f - 1,by simp at hf;omega⟩;rw[rf] at u;subst u;exact⟨acc,C,by simp[loop,he acc C]⟩
  |cons x rest G=>
   intro pre acc f u C hf;obtain⟨f,rfl⟩:∃f',f=f'+1:=⟨f - 1,by simp at hf;omega⟩
   grind [loop]
 obtain⟨acc,F,D⟩:=E l [] H3 bR rfl h0 hf;exact⟨acc,F,by unfold lp;simp only[ue] at D;rw[D]⟩
theorem sI{α A B β γ:Type}{step:α->Option (Step α (Ex β γ))}{l:List A}{k:β->Option γ}{r:Option γ}(st:Nat->B->α)(I:List A->B->Prop)(fin:B->β)(H3:B)(hf:l.length<bR)(h0:I [] H3)(hs:∀pre x rest acc,l=pre++x::rest->I pre acc->∃C3,step (st pre.length acc)=some (.next (st (pre.length+1) C3))/\I (pre++[x]) C3)(he:∀acc,I l acc->step (st l.length acc)=some (.done (.u9 (fin acc))))(hr:∀acc,I l acc->k (fin acc)=r):lp step (st 0 H3) k=r:=by
 obtain⟨acc,u,C⟩:=CD (k:=k) st I fin H3 hf h0 hs he
 grind
theorem SG{α β γ:Type}{step:α->Option (Step α (Ex β γ))}{k:β->Option γ}(I:α->Prop)(m:α->Nat)(R:β->Prop)(s0:α)(hm:m s0<bR)(h0:I s0)(hs:∀s,I s->(∃s',step s=some (.next s')/\I s'/\m s'<m s)\/∃y,step s=some (.done (.u9 y))/\R y):∃y,R y/\lp step s0 k=k y:=by
 have C:∀(n:Nat) (s:α) (f:Nat),m s<=n->n<f->I s->∃y,R y/\loop step f s=some (.u9 y):=by
  intro n
  induction n with
  |zero=>
   intro s f D E B;obtain⟨f,rfl⟩:∃f',f=f'+1:=⟨f - 1,by omega⟩;rcases hs s B with⟨s',u,A,F⟩|⟨y,u,A⟩
   ·omega
   ·exact⟨y,A,by simp[loop,u]⟩
  |succ n G=>
   intro s f D E B;obtain⟨f,rfl⟩:∃f',f=f'+1:=⟨f - 1,by omega⟩
   grind [loop]
 obtain⟨y,u,A⟩:=C (m s0) s0 bR (gC _) hm h0;exact⟨y,u,by unfold lp;rw[A]⟩
theorem mid{i j:Nat}(h:i+j<=4611686018427387904):IntKind.wrap .i64 (sh .shr .u64 (IntKind.wrap .u64 (ar .add .i64 (i:Int) (j:Int))) (1:Int))=(((i+j) / 2:Nat):Int):=by
 rw[O9 (by omega)];have u:IntKind.wrap .u64 ((i:Int)+(j:Int))=(i:Int)+(j:Int):=uV (k:= .u64) (by grind [zY,IntKind.min,IntKind.max,IntKind.signed,IntKind.bits]);rw[u];have A:sh .shr .u64 ((i:Int)+(j:Int)) 1=(((i+j) / 2:Nat):Int):=by
  show Int.fdiv _ _=_;simp[min,IntKind.bits,aEa]
 grind [wrap_i64]
theorem WU(c:Bool){γ:Type}(x y:Option γ):(bif c then x else y)=if c=true then x else y:=by simp
section
open Go.Mo
def C9(b:aD):Prop:=b.length=8/\Bytes b
theorem E5:C9 aE:=⟨rfl,λx u=>by grind [aE]⟩
end
end Go.Pl
namespace Go.G7
open Go.Pl Go Go.Sw Go.Mo
abbrev kW:=List aD×List (Int×aD)×Int
def pN(n:Nat)(p:Int×aD):Bool:=decide (p.1<0) || decide (p.1>=n)
def lR(d:kW):Int:=if d.1.length<1\/d.1.length>200\/d.2.1.length>800 then 2 else if d.2.1.any (pN d.1.length) then 1 else 0
theorem Uu(x:Int×aD)(d:kW):kR x d=some (pN d.1.length x):=by
 grind [kR,pN,cl,ib]
theorem Nk(l:List (Int×aD))(d:kW)(hl:l.length<=1000000):bB l d=some (l.any (pN d.1.length)):=by
 unfold bB bY;have h:=Jn (l:=l) (γ:=Int) (β:=Unit) (step:=λ(u:Int)=>bif (cm .lss u (l.length:Int)) then (Sw.idx l u).bind λA=>(kR A d).bind λB=>bif B then some (.done (.ret u)) else some (.next (ar .add .i64 u (1:Int))) else some (.done (.u9 ()))) (k:=λ_=>some (-1:Int)) (λ(i:Nat)=>(i:Int)) (pN d.1.length) (λi=>(i:Int)) () (Em hl (by decide)) ?_ ?_
 ·have C:lp (β:=Unit) (λ(u:Int)=>bif (cm .lss u (l.length:Int)) then (Sw.idx l u).bind λA=>(kR A d).bind λB=>bif B then some (.done (.ret u)) else some (.next (ar .add .i64 u (1:Int))) else some (.done (.u9 ()))) (0:Int) (λ_=>some (-1:Int))=_:=h
  grind [Hx,pN,ib]
 ·intro D x E h;simp only[iN h,fE,fF h,cA,Uu];by_cases c:pN d.1.length x=true
  ·simp[c]
  ·simp only[aGq] at c;simp only[c,cG,mu,M5]
   grind [L3]
 ·simp only[bV,cG]
theorem vW(d:kW):lL d=some (if lR d=0 then none else some (lR d)):=by
 unfold lL lR;simp only[cl,cg];by_cases u:d.1.length<1
 ·have:(d.1.length:Int)<1:=by omega
  simp[u,this]
 by_cases C:d.1.length>200
 ·have A:¬(d.1.length:Int)<1:=by omega
  have B:(d.1.length:Int)>200:=by omega
  simp[u,C,A,B]
 by_cases D:d.2.1.length>800
 ·grind
 have A:¬(d.1.length:Int)<1:=by omega
 have B:¬(d.1.length:Int)>200:=by omega
 have E:¬(d.2.1.length:Int)>800:=by omega
 simp only[A,B,E,u,C,D,dq,cG,cA,or_self,M5];rw[Nk _ _ (by omega)];by_cases c:d.2.1.any (pN d.1.length)=true<;>simp[c]
def H5(n:Int):Int:=if n>0 then ar .sub .i64 n 1 else n
theorem CE(s:List aD)(p:List (Int×aD))(n:Int):iQ s p n=some (if n=0 then (some 4,s,p,n) else (none,s,p,H5 n)):=by
 grind [iQ,jp,H5,ce,cg]
theorem O8(d:kW)(h1:d.1.length<=1000)(h2:d.2.1.length<=1000):qR d=some (d.1,d.2.1,d.2.2):=by
 grind [qR,aB,aM,j1]
def Hy(a:Int)(l:List (Int×aD))(z:aD):aD:=(l.zipIdx).foldl (λacc x=>if x.1.1=a then x.1.2 else acc) z
theorem Be(a:Int)(z:aD)(l:List (Int×aD)):Hy a l z=l.foldl (λacc p=>if p.1=a then p.2 else acc) z:=by
 have:∀(l:List (Int×aD)) (i:Nat) (z:aD),(l.zipIdx i).foldl (λacc x=>if x.1.1=a then x.1.2 else acc) z=l.foldl (λacc p=>if p.1=a then p.2 else acc) z:=by
  intro l
  induction l<;>simp_all
 exact this l 0 z
def Dc(a:Int):List (Int×(Int×aD))->Option aD | []=>none | p::l=>if p.2.1=a then some p.2.2 else Dc a l
theorem Pe(a:Int):∀its:List (Int×(Int×aD)),me (δ:=aD) (λ(nb:(Int×(Int×aD))) (_:Unit)=>
  bif (cm .eql nb.2.1 a) then
   some (.done nb.2.2)
  else
   some (.next ())
  ) its ()=some (match Dc a its with | some b=> .ret b | none=> .u9 ())
 | []=>rfl
 |p::l=>by
  simp[me,Dc,ce];by_cases h:p.2.1=a
  ·grind
  ·simp only[h,dq,cG,M5];have:=Pe a l;exact this
theorem Hz(a:Int)(z:aD):∀its:List (Int×(Int×aD)),(Dc a its).getD z=(its.map Prod.snd).foldr (λp acc=>if p.1=a then p.2 else acc) z
 | []=>rfl
 |p::l=>by
  simp[Dc,V0,List.foldr_cons,<-Hz a z l]
  grind
theorem FV{α:Type}(l:List α):(Sw.dn l).map Prod.snd=l.reverse:=by
 unfold Sw.dn;rw[List.map_reverse];congr 1;have:∀(l:List α) (i:Nat),(l.zipIdx i).map (Prod.snd∘λx=>((x.2:Int),x.1))=l:=by
  intro l
  induction l<;>simp_all
 grind
theorem Yv(a:Int)(z:aD)(l:List (Int×aD)):(Dc a (Sw.dn l)).getD z=Hy a l z:=by
 rw[Hz,FV,Be,List.foldr_reverse]
theorem SH(d:kW)(a:Int)(hl:d.2.1.length<=1000):gU d a=some (if lR d=0 then (if a<0\/a>=d.1.length then (aE,some 1) else if d.2.2=0 then (aE,some 4) else (Hy a d.2.1 (d.1.getD a.toNat []),none)) else (aE,some (lR d))):=by
 unfold gU;rw[vW,cA];by_cases e:lR d=0
 ·simp only[e,K4,fA,cG,cl,ib];by_cases u:a<0
  ·simp[u]
  by_cases A:a>=d.1.length
  ·simp[u,A]
  simp only[u,A,dq,cG,cA,or_self,M5];rw[ce d.2.2];by_cases B:d.2.2=0
  ·simp[B]
  have C:small d.2.1=some ():=by unfold small;rw[sM (by omega)]
  have F:a.toNat<d.1.length:=by omega
  have D:Sw.idx d.1 a=some (d.1.getD a.toNat []):=by unfold Sw.idx;grind
  have E:eH d.2.1=some d.2.1:=rfl;simp only[B,dq,cG,M5,E,cA,C,rg,Pe,D];rw[<-Yv];cases Dc a (Sw.dn d.2.1)<;>rfl
 ·simp[e]
def Bf(d:kW):List aD:=(d.2.1.zipIdx).foldl (λacc x=>acc.set x.1.1.toNat x.1.2) d.1
theorem Yw(d:kW):(Bf d).length=d.1.length:=by
 unfold Bf;generalize d.2.1.zipIdx=z;generalize d.1=s
 induction z generalizing s<;>grind
theorem aCu{d:kW}(e:lR d=0):∀p∈d.2.1,0<=p.1/\p.1<d.1.length:=by
 grind [lR,pN]
theorem Yx(d:kW)(e:lR d=0){p:Int×aD}(hp:p∈d.2.1){acc:List aD}(ha:acc.length=d.1.length):∃z,Sw.idx acc p.1=some z:=by
 have:=aCu e p hp
 simp_all [Sw.idx,sM,sE]
theorem LO(d:kW)(h1:d.1.length<=1000)(h2:d.2.1.length<=1000):qT d=some (if lR d=0 then (if d.2.2=0 then (([],[],0),some 4) else ((Bf d,[],H5 d.2.2),none)) else (([],[],0),some (lR d))):=by
 unfold qT;rw[vW,cA];by_cases e:lR d=0
 ·simp only[e,K4,fA,cG];rw[O8 d h1 h2,cA,CE,cA];by_cases A:d.2.2=0
  ·simp[A]
  simp only[A,M5,fA,cG];refine(L5 (l:=d.2.1) (λi (acc:List aD)=>((i:Int),acc)) (λ_ acc=>acc.length=d.1.length) d.1 (λ_ p acc=>acc.set p.1.toNat p.2) id (Em h2 (by decide)) rfl ?_ ?_).trans ?_
  ·intro C p F acc u B;have E:C.length<=1000:=(by rw[u] at h2;simp at h2;omega);obtain⟨z,D⟩:=Yx d e (p:=p) (by rw[u];simp) B;refine⟨?_,by simpa using B⟩;simp only[iN u,fE,fF u,cA,D];rw[L3 (by omega)]
  ·intro acc _;simp only[bV,cG];rfl
  ·rfl
 ·simp[e]
theorem LP(d:kW)(a:Int)(b:aD)(h1:d.1.length<=1000)(h2:d.2.1.length<=1000):qS d a b=some (if lR d=0 then (if a<0\/a>=d.1.length then (([],[],0),some 1) else if (d.2.1.length:Int)=800 then (([],[],0),some 2) else if d.2.2=0 then (([],[],0),some 4) else ((d.1,d.2.1++[(a,b)],H5 d.2.2),none)) else (([],[],0),some (lR d))):=by
 unfold qS;rw[vW,cA];by_cases e:lR d=0
 ·simp only[e,K4,fA,cG,cl,ib];by_cases c1:a<0
  ·simp[c1]
  by_cases u:a>=d.1.length
  ·simp[c1,u]
  simp only[c1,u,dq,cG,cA,or_self,M5];rw[ce];by_cases A:(d.2.1.length:Int)=800
  ·simp[A]
  simp only[A,dq,cG,M5];rw[O8 d h1 h2,cA,CE,cA];by_cases B:d.2.2=0
  ·simp[B]
  simp only[B,M5,fA,cG];rw[j1 _ _ (by simp;omega),cA]
 ·simp[e]
section
def gv(f:Nat->aD)(a:Nat)(b:aD):Nat->aD:=λx=>if x=a then b else f x
structure Vw (m:Nat) (d:kW) (f:Nat->aD) (k:Nat):Prop where
 len:d.1.length=m
 V3:1<=m/\m<=200
 left:d.2.2= -1
 few:d.2.1.length<=k
 lim:k<=800
 me:∀p∈d.2.1,0<=p.1/\p.1<(m:Int)
 is:∀a,a<m->Hy (a:Int) d.2.1 (d.1.getD a [])=f a
variable {m k:Nat}{d:kW}{f:Nat->aD}
theorem Vw.err(h:Vw m d f k):lR d=0:=by
 unfold lR;have B:=h.len;have C:=h.V3;have D:=h.few;have E:=h.lim;rw[nS (by omega),nS];intro u;obtain⟨p,A,F⟩:=aG2.1 u;have:=h.me p A
 grind [pN]
theorem Vw.read(h:Vw m d f k){a:Int}(h0:0<=a)(h1:a<m):gU d a=some (f a.toNat,none):=by
 have u:=h.few;have A:=h.lim;have B:=h.len;rw[SH d a (by omega),sM h.err,nS (by omega),nS (by rw[h.left];simp)];have:=h.is a.toNat (by omega)
 grind
theorem Yy(a x:Int)(b z:aD)(l:List (Int×aD)):Hy a (l++[(x,b)]) z=if x=a then b else Hy a l z:=by
 simp[Be,aHb]
theorem Vw.write(h:Vw m d f k){a:Int}{b:aD}(h0:0<=a)(h1:a<m)(hk:k<800):qS d a b=some ((d.1,d.2.1++[(a,b)],-1),none)/\Vw m (d.1,d.2.1++[(a,b)],-1) (gv f a.toNat b) (k+1):=by
 have D:=h.few;have E:=h.lim;have A:=h.len;have B:=h.V3;refine⟨?_,⟨A,B,rfl,by simp;omega,by omega,?_,?_⟩⟩
 ·rw[LP d a b (by omega) (by omega),sM h.err,nS (by omega),nS (by omega),nS (by rw[h.left];decide),h.left];rfl
 ·intro p u;rcases oq.1 u with u | u
  ·exact h.me p u
  ·simp at u;subst u;exact⟨h0,h1⟩
 ·intro x C;show Hy (x:Int) (d.2.1++[(a,b)]) (d.1.getD x [])=_;rw[Yy];unfold gv;by_cases e:x=a.toNat
  ·rw[sM e,sM (by omega)]
  ·rw[nS e,nS (by omega),h.is x C]
theorem Ro(d:kW):Bf d=d.2.1.foldl (λacc p=>acc.set p.1.toNat p.2) d.1:=by
 have h:∀(l:List (Int×aD)) (n:Nat) (s:List aD),(l.zipIdx n).foldl (λacc x=>acc.set x.1.1.toNat x.1.2) s=l.foldl (λacc p=>acc.set p.1.toNat p.2) s:=by
  intro l
  induction l<;>simp_all
 exact h _ _ _
theorem FY(a:Nat):∀(l:List (Int×aD)) (s:List aD),(∀p∈l,0<=p.1/\p.1<(s.length:Int))->(l.foldl (λacc p=>acc.set p.1.toNat p.2) s).getD a []=l.foldl (λacc p=>if p.1=(a:Int) then p.2 else acc) (s.getD a []):=by
 intro l
 induction l<;>grind
theorem Vw.flush(h:Vw m d f k):qT d=some ((Bf d,[],-1),none)/\Vw m (Bf d,[],-1) f 0:=by
 have D:=h.few;have E:=h.lim;have A:=h.len;have B:=h.V3;refine⟨?_,⟨by show (Bf d).length=m;rw[Yw,A],B,rfl,gC _,by omega,λp u=>by simp at u,?_⟩⟩
 ·rw[LO d (by omega) (by omega),sM h.err,h.left];rfl
 ·intro a C;rw[Be];show (Bf d).getD a []=f a;rw[Ro,FY a _ _ (λp u=>by rw[A];exact h.me p u),<-Be,h.is a C]
theorem Vw.qj(h:Vw m d f k)(n:Int){a:Int}{b:aD}(h0:0<=a)(h1:a<m)(hk:k<800):∃d',cP n d a b=some (none,n,d')/\Vw m d' (gv f a.toNat b) (k+1):=by
 obtain⟨e,v⟩:=h.write h0 h1 hk;refine⟨_,?_,v⟩;unfold cP;rw[e];rfl
theorem Vw.aIo(h:Vw m d f k)(n:Int):∃d',dD n d=some (none,n,d')/\Vw m d' f 0:=by
 obtain⟨e,v⟩:=h.flush;refine⟨_,?_,v⟩;unfold dD;rw[e];rfl
end
section
abbrev SI:=Option Int×Int×kW
inductive Run {Q:Type} (F:Q->Int->kW->Option SI) (n:Int):List Q->kW->kW->Prop
 |nil {d:kW}:Run F n [] d d
 |cons {q:Q} {l:List Q} {d d1 d2:kW}:F q n d=some (none,n,d1)->Run F n l d1 d2->Run F n (q::l) d d2
theorem Run.append{Q:Type}{F:Q->Int->kW->Option SI}{n:Int}{l l':List Q}{d d1 d2:kW}(h:Run F n l d d1)(k:Run F n l' d1 d2):Run F n (l++l') d d2:=by
 induction h with
 |nil=>grind
 |cons e _ u=>exact .cons e (u k)
theorem CF{Q:Type}{F:Q->Int->kW->Option SI}{n:Int}{xs:List Q}{d d2:kW}(h:Run F n xs d d2)(hl:xs.length<=100000):lp (β:=Int×kW) (λ(y6:Int×Int×kW)=>bif (cm .lss y6.1 (xs.length:Int)) then (Sw.idx xs y6.1).bind λbt=>(F bt y6.2.1 y6.2.2).bind λv20=>bif (Option.isSome v20.1) then some (.done (.ret (v20.1,v20.2.1,v20.2.2))) else some (.next ((ar .add .i64 y6.1 (1:Int)),v20.2.1,v20.2.2)) else some (.done (.u9 (y6.2.1,y6.2.2))) ) ((0:Int),n,d) (λ(D4:Int×kW)=>some ((none:Option Int),D4.1,D4.2))=some (none,n,d2):=by
 generalize D9:(λ(y6:Int×Int×kW)=>
  bif (cm .lss y6.1 (xs.length:Int)) then
   (Sw.idx xs y6.1).bind λbt=>
    (F bt y6.2.1 y6.2.2).bind λv20=>
     bif (Option.isSome v20.1) then
      some (Step.done (Ex.ret (v20.1,v20.2.1,v20.2.2)))
     else
      some (Step.next ((ar .add .i64 y6.1 (1:Int)),v20.2.1,v20.2.2))
  else
   some (Step.done (Ex.u9 (y6.2.1,y6.2.2))))=step
 have G:∀(B u:List Q) (d:kW) (f:Nat),xs=u++B->Run F n B d d2->B.length<f->loop step f ((u.length:Int),n,d)=some (.u9 (n,d2)):=by
  intro B
  induction B with
  |nil=>
   intro u d f A C D;obtain⟨f,rfl⟩:∃f',f=f'+1:=⟨f - 1,by simp at D;omega⟩;rw[rf] at A;cases C;have:step ((u.length:Int),n,d2)=some (.done (.u9 (n,d2))):=(by rw[<-D9,A];simp only[bV,cG]);simp[loop,this]
  |cons q B K=>
   intro u d f A C D;obtain⟨f,rfl⟩:∃f',f=f'+1:=⟨f - 1,by simp at D;omega⟩;cases C with
   |cons e C=>
    rename_i E;have:step ((u.length:Int),n,d)=some (.next (((u.length+1:Nat):Int),n,E)):=by
     rw[<-D9];simp only[iN A,fE,fF A,cA,e,fA,cG];rw[L3 (by rw[A] at hl;simp at hl;omega)]
    have I:=K (u++[q]) E f (by rw[A];simp) C (by simp at D;omega);simp only[loop,this];simpa using I
 have:=G xs [] d bR rfl h (by unfold bR;omega);unfold lp;simp only[ue] at this;rw[show ((0:Int),n,d)=(((0:Nat):Int),n,d) from rfl,this]
variable {m k:Nat}{d:kW}{f:Nat->aD}
def mk8(b:Int):aD:=[b]++List.replicate 7 (0:Int)
theorem Vw.aSj(h:Vw m d f k){n:Nat}(hn:n+1<m)(b:Int)(hk:k<800):∃d',dM (n:Int) d b=some (none,(n:Int),d')/\Vw m d' (gv f (n+1) (mk8 b)) 0:=by
 have C:=h.V3;obtain⟨d1,E,u⟩:=h.qj (n:Int) (a:=((n+1:Nat):Int)) (b:=mk8 b) (by omega) (by omega) hk;obtain⟨d2,A,B⟩:=u.aIo (n:Int);refine⟨d2,?_,B⟩;have D:Run kG (n:Int) ([(.inl ((),((),b)):bW),(.inr ((),()):bW)]:(List bW)) d d2:=by
  refine .cons (d1:=d1) ?_ (.cons A .nil);show gV b (n:Int) d=_
  grind [gV,L3,mk8]
 grind [dM,fD,CF]
end
theorem CG(n:Nat):IntKind.wrap .u8 (n:Int)=((n % 256:Nat):Int):=rfl
theorem FZ(n c:Nat)(hc:c<=64):sh .shr .i64 (n:Int) (c:Int)=((n / 2 ^ c:Nat):Int):=by
 show Int.fdiv (n:Int) (2 ^ min ((c):Int).toNat 64)=_
 grind
theorem GA{n c:Nat}(hn:n<256)(hc:c<=24):sh .shl .i64 (n:Int) (c:Int)=((n*2 ^ c:Nat):Int):=by
 show IntKind.wrap .i64 ((n:Int)*2 ^ min ((c):Int).toNat 64)=_;have u:2 ^ c<=2 ^ 24:=aF9 (by simp) hc;have A:n*2 ^ c<=255*2 ^ 24:=aGh (by omega) u
 grind [wrap_i64]
theorem orI{a b:Nat}(ha:a<4611686018427387904)(hb:b<4611686018427387904):ar .or .i64 (a:Int) (b:Int)=((a ||| b:Nat):Int):=by
 have h:a ||| b<2 ^ 62:=Nat.or_lt_two_pow (by omega) (by grind)
 show IntKind.wrap .i64 ((BitVec.ofInt 64 (a:Int) ||| BitVec.ofInt 64 (b)).toNat:Int)=_
 grind [sY,BitVec.toNat_or,BitVec.toNat_ofNat,Nat.mod_eq_of_lt,wrap_i64]
theorem orP{x y c:Nat}(hy:y<2 ^ c):x*2 ^ c ||| y=x*2 ^ c+y:=by
 have:=aH6 hy x
 grind [Nat.shiftLeft_eq]
def jZ(v:Nat):List Int:=[((v / 16777216 % 256:Nat):Int),((v / 65536 % 256:Nat):Int),((v / 256 % 256:Nat):Int),((v % 256:Nat):Int)]
theorem F9(v:Nat):jM (v:Int)=some (jZ v++List.replicate 4 (0:Int)):=by
 unfold jM jZ;have u:=FZ v 24 (by simp);have A:=FZ v 16 (by simp);have B:=FZ v 8 (by decide);rw[show ((24:Nat):Int)=24 from rfl] at u;rw[show ((16:Nat):Int)=16 from rfl] at A;rw[show ((8:Nat):Int)=8 from rfl] at B;rw[u,A,B,CG,CG,CG,CG]
theorem LR{b3 b2 b1 b0:Nat}(h3:b3<256)(h2:b2<256)(h1:b1<256)(h0:b0<256)(r:List Int):fK ((b3:Int)::(b2:Int)::(b1:Int)::(b0:Int)::r)=some ((b3*16777216+b2*65536+b1*256+b0:Nat):Int):=by
 have C:Sw.idx ((b3:Int)::(b2:Int)::(b1:Int)::(b0:Int)::r) (0:Int)=some (b3:Int):=rfl;have D:Sw.idx ((b3:Int)::(b2:Int)::(b1:Int)::(b0:Int)::r) (1:Int)=some (b2:Int):=rfl;have E:Sw.idx ((b3:Int)::(b2:Int)::(b1:Int)::(b0:Int)::r) (2:Int)=some (b1:Int):=rfl;have F:Sw.idx ((b3:Int)::(b2:Int)::(b1:Int)::(b0:Int)::r) (3:Int)=some (b0:Int):=rfl;unfold fK;simp only[C,D,E,F,cA];have u:=GA h3 (show 24<=24 by decide);have A:=GA h2 (show 16<=24 by decide);have B:=GA h1 (show 8<=24 by decide);rw[show ((24:Nat):Int)=24 from rfl] at u;rw[show ((16:Nat):Int)=16 from rfl] at A;rw[show ((8:Nat):Int)=8 from rfl] at B;rw[u,A,B,orI (by omega) (by omega)];rw[orP (x:=b3) (c:=24) (y:=b2*2 ^ 16) (by omega),orI (by omega) (by omega)];rw[show b3*2 ^ 24+b2*2 ^ 16=(b3*256+b2)*2 ^ 16 by omega,orP (c:=16) (y:=b1*2 ^ 8) (by omega),orI (by omega) (by omega)];rw[show (b3*256+b2)*2 ^ 16+b1*2 ^ 8=((b3*256+b2)*256+b1)*2 ^ 8 by omega,orP (c:=8) (y:=b0) (by omega)]
 try (congr 2;omega)
theorem Cc{v:Nat}(h:v<=2147483647)(r:List Int):fK (jZ v++r)=some (v:Int):=by
 show fK (((v / 16777216 % 256:Nat))::((v / 65536 % 256:Nat):Int)::((v / 256 % 256:Nat):Int)::((v % 256:Nat):Int)::r)=_;rw[LR (by omega) (by omega) (by omega) (by omega)]
 grind
section
theorem Yz{α A B β γ:Type}{step:α->Option (Step α (Ex β γ))}{l:List A}{k:β->Option γ}(st:Nat->B->α)(I:List A->B->Prop)(fin:B->β)(H3:B)(hf:l.length<bR)(h0:I [] H3)(hs:∀pre x rest acc,l=pre++x::rest->I pre acc->∃C3,step (st pre.length acc)=some (.next (st (pre.length+1) C3))/\I (pre++[x]) C3)(he:∀acc,I l acc->step (st l.length acc)=some (.done (.u9 (fin acc)))):∃acc,lp step (st 0 H3) k=k (fin acc)/\I l acc:=by
 obtain⟨a,u,C⟩:=CD (k:=k) st I fin H3 hf h0 hs he
 grind
abbrev YG:=List (Nat×aD)
def Gu(f:Nat->aD)(l:YG):Nat->aD:=l.foldl (λf p=>gv f p.1 p.2) f
theorem Gv(f:Nat->aD)(l:YG)(p:Nat×aD):Gu f (l++[p])=gv (Gu f l) p.1 p.2:=by simp[Gu,aHb]
theorem Uv(f:Nat->aD){n:Nat}(l:YG)(h:∀p∈l,p.1<=n){a:Nat}(ha:n<a):Gu f l a=f a:=by
 unfold Gu
 induction l generalizing f with
 |nil=>rfl
 |cons p l u=>
  rw[xz]
  grind [List.mem_cons_self,gv]
variable {m k n:Nat}{d:kW}{f:Nat->aD}
structure Laid (n:Nat) (f:Nat->aD) (l:YG):Prop where
 cnt:∃r,f (n+2)=jZ l.length++r
 put:∀i p,l[i]? =some p->(∃r,f (n+3+2*i)=jZ p.1++r)/\f (n+4+2*i)=p.2
theorem Vw.aU9(h:Vw m d f k){l:YG}(hl:Laid n f l)(hm:m=3*n+5)(hn:l.length<=n+1)(hp:∀p∈l,p.1<=n)(hk:k+l.length<=800):∃d',fQ (n:Int) d=some (none,(n:Int),d')/\Vw m d' (Gu f l) (k+l.length):=by
 have T:=h.V3;unfold fQ;have G:ar .add .i64 (n:Int) (2:Int)=((n+2:Nat):Int):=by rw[O9 (by omega)];push_cast;rfl
 rw[G,h.read (by omega) (by omega),cA,gR];obtain⟨O,P⟩:=hl.cnt;have ev:fK (f (n+2))=some (l.length:Int):=by rw[P];exact Cc (by omega) O
 refine Yz (l:=l) (λi d=>((none:Option Int),(i:Int),(n:Int),d)) (λu d=>Vw m d (Gu f u) (k+u.length)) (λd=>((none:Option Int),(n:Int),d)) d (Em (n:=1000) (by omega) (by decide)) h ?_ ?_
 ·intro u p X d A B;have U:u.length<l.length:=by rw[A];simp
  have I:l[u.length]? =some p:=by rw[A];simp
  obtain⟨⟨r,Q⟩,R⟩:=hl.put _ _ I;have C:∀q∈u,q.1<=n:=λq N=>hp q (by rw[A];exact aHe _ N);have V:p.1<=n:=hp p (by rw[A];simp);have K:ar .add .i64 (ar .add .i64 (n:Int) (3:Int)) (ar .mul .i64 (2:Int) (u.length:Int))=((n+3+2*u.length:Nat):Int):=by
   rw[show (2:Int)=((2:Nat):Int) from rfl,Ut (by omega),O9 (m:=(n:Int)) (by omega),O9 (by push_cast;omega)];push_cast;rfl
  have L:ar .add .i64 (ar .add .i64 (n:Int) (4:Int)) (ar .mul .i64 (2:Int) (u.length:Int))=((n+4+2*u.length:Nat):Int):=by
   rw[show (2:Int)=((2:Nat):Int) from rfl,Ut (by omega),O9 (m:=(n:Int)) (by omega),O9 (by push_cast;omega)];push_cast;rfl
  have D:=B.read (a:=((n+3+2*u.length:Nat):Int)) (by omega) (by omega);have E:=B.read (a:=((n+4+2*u.length:Nat):Int)) (by omega) (by omega);rw[gR,Uv f u C (by omega),Q] at D;rw[gR,Uv f u C (by omega),R] at E;have M:fK (jZ p.1++r)=some (p.1:Int):=Cc (by omega) r;obtain⟨d',S,F⟩:=B.qj (n:Int) (a:=(p.1:Int)) (b:=p.2) (by omega) (by omega) (by omega);refine⟨d',?_,?_⟩
  ·simp only[xy,fE,ev,cA,iN A,K,L,D,E,jp,M,S];rw[L3 (by omega)]
  ·rw[Gv,cM,aF4];rw[gR] at F;exact F
 ·intro d B;simp only[xy,fE,ev,cA,bV,cG]
end
section
variable {m k n:Nat}{d:kW}{f:Nat->aD}
theorem Za(x:Int×aD)(d:kW):iH x (some ((n:Int),d))=some (pN n x):=by
 grind [iH,pN,cl,ib]
theorem Rp(l:List (Int×aD))(d:kW)(hl:l.length<=1000000):aT l (some ((n:Int),d))=some (l.any (pN n)):=by
 unfold aT bH;rw[show (0:Int)=(λ(i:Nat)=>(i:Int)) 0 from rfl];rw[Jn (l:=l) (λ(i:Nat)=>(i:Int)) (pN n) (λi=>(i:Int)) () (Em hl (by decide))]
 ·grind [Hx,pN,ib]
 ·intro u x A h;simp only[iN h,fE,fF h,cA,Za]
  grind [L3,pN]
 ·simp only[bV,cG]
abbrev Ll:=List (Int×aD)
def stA(i:Nat)(p:Int×aD):aA:= .inr (.inl ((),((),((i:Int),p))))
def stB(i:Nat)(p:Int×aD):aA:= .inr (.inr (.inl ((),((),((i:Int),p)))))
def zM:Nat->Ll->List aA | _,[]=>[] | i,p::l=>stA i p::stB i p::zM (i+1) l
theorem Uw(p:Int×aD):∀(l:Ll) (i:Nat),zM i (l++[p])=zM i l++[stA (i+l.length) p,stB (i+l.length) p]:=by
 intro l
 induction l<;>grind [zM,List.length_cons]
theorem Dd:∀(l:Ll) (i:Nat),(zM i l).length=2*l.length:=by
 intro l
 induction l<;>grind [zM,List.length_cons]
theorem SJ(hm:m=3*n+5)(hn:n<=32):∀(rest:Ll) (i:Nat) (d:kW) (g:Nat->aD) (k:Nat),Vw m d g k->(∀p∈rest,0<=p.1/\p.1<=n)->i+rest.length<=n+1->k+2*rest.length<=800->∃d' g',Run gI (n:Int) (zM i rest) d d'/\Vw m d' g' (k+2*rest.length)/\(∀x,x<n+3+2*i->g' x=g x)/\∀j p,rest[j]? =some p->(∃r,g' (n+3+2*(i+j))=jZ p.1.toNat++r)/\g' (n+4+2*(i+j))=p.2:=by
 intro rest
 induction rest with
 |nil=>intro i d g k h _ _ _;exact⟨d,g,.nil,h,λ_ _=>rfl,λj p u=>by simp at u⟩
 |cons p rest T=>
  intro i d g k h D L M;have U:=D p kg;simp only[qf] at L M;obtain⟨d1,O,E⟩:=h.qj (n:Int) (a:=((n+3+2*i:Nat):Int)) (b:=jZ p.1.toNat++List.replicate 4 (0:Int)) (by omega) (by omega) (by omega);obtain⟨F,P,A⟩:=E.qj (n:Int) (a:=((n+4+2*i:Nat):Int)) (b:=p.2) (by omega) (by omega) (by omega);rw[gR] at E A;rw[gR] at A;obtain⟨d',g',Q,R,B,S⟩:=T (i+1) F _ _ A (λq N=>D q (kf _ N)) (by omega) (by omega);have G:ar .add .i64 (ar .add .i64 (n:Int) (3:Int)) (ar .mul .i64 (2:Int) (i:Int))=((n+3+2*i:Nat):Int):=by
   rw[show (2:Int)=((2:Nat):Int) from rfl,Ut (by omega),O9 (m:=(n:Int)) (by omega),O9 (by push_cast;omega)];push_cast;rfl
  have I:ar .add .i64 (ar .add .i64 (n:Int) (4:Int)) (ar .mul .i64 (2:Int) (i:Int))=((n+4+2*i:Nat):Int):=by
   rw[show (2:Int)=((2:Nat):Int) from rfl,Ut (by omega),O9 (m:=(n:Int)) (by omega),O9 (by push_cast;omega)];push_cast;rfl
  refine⟨d',g',.cons (d1:=d1) ?_ (.cons (d1:=F) ?_ Q),by rw[show k+2*(p::rest).length=k+1+1+2*rest.length by simp;omega];exact R,?_,?_⟩
  ·show fW (i:Int) p (n:Int) d=_;unfold fW;have K:p.1=((p.1.toNat:Nat):Int):=(by omega);have C:=F9 p.1.toNat;rw[<-K] at C;rw[C,cA,G,O];rfl
  ·show fX (i:Int) p (n:Int) d1=_;unfold fX;rw[I,P];rfl
  ·intro x V;rw[B x (by omega)];unfold gv;rw[nS (by omega),nS (by omega)]
  ·intro j q u;cases j with
   |zero=>
    simp at u;subst u;rw[show i+0=i from rfl,B _ (by omega),B _ (by omega)];unfold gv;rw[nS (by omega),sM rfl,sM rfl];exact⟨⟨_,rfl⟩,rfl⟩
   |succ j=>
    simp at u;have:=S j q u;rw[show i+(j+1)=i+1+j by omega];exact this
end
section
variable {m k n:Nat}{d:kW}{f:Nat->aD}
theorem SK{f g:Nat->aD}{x:Nat}(l:YG)(h:f x=g x):Gu f l x=Gu g l x:=by
 unfold Gu
 induction l generalizing f g with
 |nil=>exact h
 |cons p l u=>
  rw[xz,xz]
  grind [gv]
def Bg(l:Ll):YG:=l.map (λp=>(p.1.toNat,p.2))
theorem En(v:Nat):(jZ v).length=4:=rfl
theorem GB(h:Vw m d f 0)(hm:m=3*n+5)(zp:1<=n)(hn:n<=32)(y7:Ll){a b:Nat}(hl:y7.length<=n)(hp:∀p∈y7,0<=p.1/\p.1<n)(ha:a<=2147483647)(hb:b<=2147483647):∃d' f',bF (n:Int) d y7 (a:Int) (b:Int)=some (none,(n:Int),d')/\Vw m d' f' 0/\(∀x,x<=n->f' x=Gu f (Bg (y7++[((n:Int),jZ a++jZ b)])) x)/\f' (n+1)=mk8 0:=by
 have N:y7.any (pN n)=false:=by
  rw[List.any_eq_false];intro p u;have:=hp p u;unfold pN;simp;omega
 generalize hv:y7++[((n:Int),jZ a++jZ b)]=K1;have G:K1.length=y7.length+1:=by rw[<-hv];simp
 have I:∀p∈K1,0<=p.1/\p.1<=n:=by
  intro p u;rw[<-hv] at u;rcases oq.1 u with u | u
  ·have:=hp p u;omega
  ·simp at u;subst u;exact⟨by simp,by simp⟩
 have O:ar .add .i64 (n:Int) (2:Int)=((n+2:Nat):Int):=by rw[O9 (by omega)];push_cast;rfl
 obtain⟨d1,s1,L⟩:=h.qj (n:Int) (a:=((n+2:Nat):Int)) (b:=jZ K1.length++List.replicate 4 (0:Int)) (by omega) (by omega) (by omega);rw[gR] at L;obtain⟨d2,g2,r2,w2,M,ae⟩:=SJ hm hn K1 0 d1 _ _ L I (by omega) (by omega);obtain⟨d3,s3,v3⟩:=w2.aIo (n:Int);obtain⟨d4,s4,v4⟩:=v3.aSj (n:=n) (by omega) 1 (by omega);have C:(Bg K1).length=K1.length:=by unfold Bg;simp
 have P:Laid n (gv g2 (n+1) (mk8 1)) (Bg K1):=by
  constructor
  ·refine⟨List.replicate 4 (0:Int),?_⟩;unfold gv;rw[nS (by omega),M _ (by omega)];unfold gv;rw[sM rfl,C]
  ·intro i p B;unfold Bg at B;rw[ze] at B;cases u:K1[i]? with
   |none=>rw[u] at B;cases B
   |some q=>
    rw[u] at B;obtain rfl:=X6 B;have:=ae i q u;rw[aGu] at this;unfold gv;rw[nS (by omega),nS (by omega)];exact this
 have Q:∀p∈Bg K1,p.1<=n:=by
  intro p u;unfold Bg at u;obtain⟨q,af,rfl⟩:=ot.1 u;have:=I q af;show q.1.toNat<=n;omega
 obtain⟨d5,s5,v5⟩:=v4.aU9 P hm (by rw[C];omega) Q (by rw[C];omega);obtain⟨d6,s6,v6⟩:=v5.aIo (n:Int);obtain⟨d7,s7,v7⟩:=v6.aSj (n:=n) (by omega) 0 (by omega);refine⟨d7,_,?_,v7,?_,by unfold gv;rw[sM rfl]⟩
 ·unfold bF;rw[cg,cl,cg];rw[cT (show¬((y7.length:Int)>n) by omega),cG];rw[cT (show¬(min (a:Int) (b:Int)<0) by omega),cG];rw[cT (show¬(max (a:Int) (b:Int)>2147483647) by omega),cG];rw[Rp y7 d (by omega),N,cA,cA,cG,F9,F9,cA,cA];have R:aM y7=some y7:=by unfold aM;rw[j1 _ _ (by simp;omega)];rfl
  have S:Sw.qg (jZ a++List.replicate 4 (0:Int)) (0:Int) (4:Int) (4:Int)=some (jZ a):=by unfold Sw.qg Sw.sub jZ;simp
  have T:Sw.sub (jZ b++List.replicate 4 (0:Int)) (0:Int) (4:Int)=some (jZ b):=by unfold Sw.sub jZ;simp
  have U:Sw.app (jZ a) (jZ b)=some (jZ a++jZ b):=j1 _ _ (by rw[En,En];decide);have V:Sw.S6 8 (jZ a++jZ b)=some (jZ a++jZ b):=by unfold Sw.S6 jZ;simp
  have X:Sw.app y7 [((n:Int),jZ a++jZ b)]=some K1:=by rw[j1 _ _ (by simp;omega),hv]
  simp only[R,S,T,U,V,X,cA];have Y5:Run gI (n:Int) (((.inl ((),((),K1)):aA)::zM 0 K1)++([(.inr (.inr (.inr (.inl ((),())))):aA),(.inr (.inr (.inr (.inr (.inl ((),()))))):aA),(.inr (.inr (.inr (.inr (.inr (.inl ((),())))))):aA),(.inr (.inr (.inr (.inr (.inr (.inr (.inl ((),()))))))):aA),(.inr (.inr (.inr (.inr (.inr (.inr (.inr ((),()))))))):aA)]:(List aA))) d d7:=by
   refine Run.append (d1:=d2) (.cons (d1:=d1) ?_ r2) (.cons s3 (.cons (d1:=d4) ?_ (.cons s5 (.cons s6 (.cons (d1:=d7) ?_ .nil)))))
   ·show fV K1 (n:Int) d=_;unfold fV;rw[F9,cA,O,s1];rfl
   ·show fY (n:Int) d3=_;unfold fY;rw[s4];rfl
   ·show fZ (n:Int) d6=_;unfold fZ;rw[s7];rfl
  obtain⟨acc,e,rfl⟩:=Yz (step:=λ(A:Int×(List aA))=>
    bif (cm .lss A.1 (K1.length:Int)) then
     (Sw.idx K1 A.1).bind λK=>
      (Sw.app A.2 ([(.inr (.inl ((),((),(A.1,K)))):aA),(.inr (.inr (.inl ((),((),(A.1,K))))):aA)]:(List aA))).bind λab=>
       some (Step.next ((ar .add .i64 A.1 (1:Int)),ab))
    else
     some (Step.done (Ex.u9 (β:=SI) A.2))) (k:=λ(ac:(List aA))=>
    (Sw.app ac ([(.inr (.inr (.inr (.inl ((),())))):aA),(.inr (.inr (.inr (.inr (.inl ((),()))))):aA),(.inr (.inr (.inr (.inr (.inr (.inl ((),())))))):aA),(.inr (.inr (.inr (.inr (.inr (.inr (.inl ((),()))))))):aA),(.inr (.inr (.inr (.inr (.inr (.inr (.inr ((),()))))))):aA)]:(List aA))).bind λad=>
     (dA ad (n:Int) d).bind λD=>
      some (D.1,D.2.1,D.2.2)) (l:=K1) (λi acc=>((i:Int),acc)) (λE acc=>acc=(.inl ((),((),K1)):aA)::zM 0 E) (λacc=>acc) [(.inl ((),((),K1)):aA)] (Em (n:=1000) (by omega) (by decide)) rfl (by
    rintro E x ai acc F rfl;have B0:E.length<=1000:=(by rw[F] at G;simp at G;omega);refine⟨_,?_,rfl⟩;simp only[iN F,fE,fF F,cA];rw[j1 _ _ (by simp[Dd];omega),cA,L3 (by omega),Uw];rw[aGu]
    rfl) (by
    rintro acc rfl
    simp only[bV,cG])
  refine e.trans ?_;rw[j1 _ _ (by simp[Dd];omega),cA];unfold dA;rw[CF Y5 (by simp[Dd];omega)];rfl
 ·intro x hx;unfold gv;rw[nS (by omega)];apply SK;rw[nS (by omega),M x (by omega)];unfold gv;rw[nS (by omega)]
end
section
def nC(d:kW)(blocks:List aD)(a b:Nat):Prop:=∃f,Vw (3*blocks.length+5) d f 0/\(∀x y,blocks[x]? =some y->f x=y)/\f blocks.length=jZ a++jZ b/\f (blocks.length+1)=mk8 0
variable {d:kW}{blocks:List aD}{a b:Nat}
theorem YH(h:nC d blocks a b){x:Nat}{y:aD}(hx:blocks[x]? =some y):jR ((blocks.length:Int),d) (x:Int)=some (y,none):=by
 obtain⟨f,v,u,_,_⟩:=h;have A:=(aEi.1 hx).1;unfold jR;rw[ib,cT (show¬((x:Int)>=(blocks.length)) by omega)];rw[v.read (by omega) (by omega),gR,u x y hx];rfl
theorem wP(h:nC d blocks a b):eS ((blocks.length:Int),d)=some (blocks,none):=by
 have G:3*blocks.length+5<=200:=by obtain⟨f,v,_⟩:=h;exact v.V3.2
 unfold eS
 obtain⟨acc,e,rfl⟩:=Yz (step:=λ(u:Int×(List aD))=>
  bif (cm .lss u.1 (blocks.length:Int)) then
   (jR ((blocks.length:Int),d) u.1).bind λA=>
    bif (Option.isSome A.2) then
     some (Step.done (Ex.ret (([]:(List aD)),A.2)))
    else
     (Sw.app u.2 ([A.1]:(List aD))).bind λE=>
      some (Step.next ((ar .add .i64 u.1 (1:Int)),E))
  else
   some (Step.done (Ex.u9 u.2))) (k:=λ(F:(List aD))=>some (F,(none:Option Int))) (l:=blocks) (λi acc=>((i:Int),acc)) (λB acc=>acc=B) (λacc=>acc) [] (Em (n:=1000) (by omega) (by decide)) rfl (by
   rintro B x K acc C rfl;have I:acc.length<=1000:=(by grind);refine⟨_,?_,rfl⟩;have D:=YH h (x:=acc.length) (y:=x) (by rw[C];simp);simp only[iN C,fE,D,cA,fA,cG]
   grind [j1,L3]) (by
   rintro acc rfl
   simp only[bV,cG])
 exact e
theorem Zb(h:nC d blocks a b)(ha:a<=2147483647)(hb:b<=2147483647):eO ((blocks.length:Int),d)=some ((a:Int),(b:Int),none):=by
 obtain⟨f,v,_,D,_⟩:=h;unfold eO;show (gU d (blocks.length:Int)).bind _=_;rw[v.read (by omega) (by omega),gR,D];have u:Sw.qg (jZ a++jZ b) (4:Int) (8:Int) (8:Int)=some (jZ b):=by unfold Sw.qg Sw.sub jZ;simp
 have A:Sw.sub (jZ a++jZ b) (0:Int) (4:Int)=some (jZ a):=by unfold Sw.sub jZ;simp
 have B:Sw.app (jZ b) (jZ a)=some (jZ b++jZ a):=j1 _ _ (by rw[En,En];decide);have C:Sw.S6 8 (jZ b++jZ a)=some (jZ b++jZ a):=by unfold Sw.S6 jZ;simp
 simp only[cA,fA,cG,Cc ha,Cc hb,u,A,B,C]
end
section
def Ux(n:Nat)(y7:Ll)(a b:Int):Int:=if y7.length>n then 2 else if a<0\/a>2147483647\/b<0\/b>2147483647 then 1 else if y7.any (pN n) then 1 else 0
def rH(blocks:List aD)(y7:Ll):List aD:=y7.foldl (λacc p=>acc.set p.1.toNat p.2) blocks
theorem zN(y7:Ll):∀blocks:List aD,(rH blocks y7).length=blocks.length:=by
 induction y7<;>simp_all [rH,xz]
theorem Zc(y7:Ll):∀(blocks:List aD) (f:Nat->aD),(∀p∈y7,0<=p.1/\p.1<(blocks.length:Int))->(∀x y,blocks[x]? =some y->f x=y)->∀x y,(rH blocks y7)[x]? =some y->Gu f (Bg y7) x=y:=by
 induction y7 with
 |nil=>intro b f _ h;exact h
 |cons p l B=>
  intro b f u h;have C:=u p kg;unfold rH Bg Gu at*;rw[xz,V0,xz];refine B _ _ (λq A=>by rw[aHm];exact u q (kf _ A)) ?_;intro x y D;unfold gv
  grind
variable {d:kW}{blocks:List aD}{a b:Nat}
theorem xJ(h:nC d blocks a b)(h0:1<=blocks.length)(h1:blocks.length<=32)(y7:Ll)(x y:Int)(hc:Ux blocks.length y7 x y=0):∃(d':kW) (x' y':Nat),x=(x':Int)/\y=(y':Int)/\x'<=2147483647/\y'<=2147483647/\(∀p∈y7,0<=p.1/\p.1<(blocks.length:Int))/\bF (blocks.length:Int) d y7 x y=some (none,(blocks.length:Int),d')/\nC d' (rH blocks y7) x' y':=by
 unfold Ux at hc;split at hc
 ·cases hc
 rename_i c1;split at hc
 ·cases hc
 rename_i M;split at hc
 ·cases hc
 rename_i D;have u:∀p∈y7,0<=p.1/\p.1<(blocks.length:Int):=by
  intro p u;have A:¬pN blocks.length p=true:=λE=>D (aG2.2 ⟨p,u,E⟩);unfold pN at A;simp at A;omega
 obtain⟨x',rfl⟩:∃x':Nat,x=(x':Int):=⟨x.toNat,by omega⟩;obtain⟨y',rfl⟩:∃y':Nat,y=(y':Int):=⟨y.toNat,by omega⟩;obtain⟨f,v,F,N,O⟩:=h;obtain⟨d',G,e,I,C,K⟩:=GB v rfl h0 h1 y7 (a:=x') (b:=y') (by omega) u (by omega) (by omega);refine⟨d',x',y',rfl,rfl,by omega,by omega,u,e,G,by rw[zN];exact I,?_,?_,by rw[zN];exact K⟩
 ·intro i z B;have L:i<blocks.length:=by have:=(aEi.1 B).1;rwa [zN] at this
  rw[C i (by omega)];unfold Bg;rw[aF5,V0,aGw,Gv];unfold gv;rw[nS (by simp;omega)];exact Zc y7 blocks f u F i z B
 ·rw[zN,C _ (gC _)];unfold Bg;rw[aF5,V0,aGw,Gv];unfold gv;rw[sM (by simp)]
end
theorem CH{n:Nat}(h0:1<=n)(h1:n<=32):qQ (n:Int)=some (((3*n+5:Nat):Int),none):=by
 unfold qQ;rw[cl,cg];have u:ar .mul .i64 (2) ((n+1:Nat):Int)=((2*(n+1):Nat):Int):=by rw[show (2:Int)=((2:Nat):Int) from rfl,Ut (by omega)]
 grind [ar,O9]
theorem aCv{α:Type}(n:Nat)(z:α)(h:n<=1000):Sw.mk (n:Int) z=some (List.replicate n z):=by
 grind [Sw.mk]
def fresh(n:Nat):kW:=(List.replicate (3*n+5) aE,[],-1)
theorem GC{n:Nat}(h0:1<=n)(h1:n<=32):qB (n:Int)=some (fresh n,none):=by
 unfold qB;rw[CH h0 h1,cA];unfold zK;rw[cg,cT (show¬(((3*n+5:Nat):Int)>200) by omega),aCv _ _ (by omega)];rfl
theorem Vw.none{m:Nat}{d:kW}{f:Nat->aD}(h:Vw m d f 0):d=(d.1,[],-1):=by
 have u:d.2.1=[]:=ya (by have:=h.few;omega);have A:=h.left
 grind
theorem Pf{d:kW}{blocks:List aD}{a b:Nat}(h:nC d blocks a b)(h0:1<=blocks.length)(h1:blocks.length<=32):kH d (blocks.length:Int)=some (some ((blocks.length:Int),d),none):=by
 obtain⟨f,v,_,_,E⟩:=h;have hd:=v.none;have u:=v.len;unfold kH;rw[CH h0 h1,cA];simp only[fA,cG];rw[vW,cA,sM v.err,cn,cg];have A:d.2.1.length=0:=by rw[hd];rfl
 rw[u,A,cT (λh=>h rfl)];simp only[fA,cG];rw[show decide (((0:Nat):Int)>0)=false from rfl,cA,cG];have B:aB d.1=some d.1:=by grind [aB,j1]
 rw[B,cA];have C:(d.1,([]),d.2.2)=d:=by rw[v.left];exact hd.symm
 rw[C];have D:eY (blocks.length:Int) d=some (none,(blocks.length:Int),d):=by
  unfold eY;rw[L3 (by omega),v.read (by omega) (by omega),gR,E];rfl
 rw[D];rfl
theorem SL{d:kW}{blocks:List aD}{a b:Nat}(h:nC d blocks a b):jA ((blocks.length:Int),d)=some d:=by
 obtain⟨f,v,_⟩:=h;have u:=v.V3;have A:=v.len;have B:=v.few
 grind [jA,aB,aM,j1]
theorem Lm{n:Nat}(h1:n<=32):nC (fresh n) (List.replicate n aE) 0 0:=by
 refine⟨λ_=>aE,?_,?_,rfl,rfl⟩
 ·rw[aD6];refine⟨by simp[fresh],by omega,rfl,gC _,by decide,λp u=>by grind [fresh],λa A=>?_⟩
  grind [fresh,Hy,List.replicate,aE,Be]
 grind
end Go.G7
namespace Go.O0
open Go.Pl Go Go.Sw Go.Mo
abbrev nU:=Int×aD
abbrev Ep:=Int×List nU
abbrev Bd:=Int×List nU×List Ep×Bool
def F4(n:Int):Int->List nU->Bool | _,[]=>true | last,x::l=>if x.1<=last\/x.1>=n then false else F4 n x.1 l
def SO(n:Int)(last:Int)(x:nU):Step Int (Ex Unit Bool):=if x.1<=last\/x.1>=n then .done (.ret false) else .next x.1
theorem CI(n:Int):∀(l:List nU) (last:Int),vK (SO n) (λ_=> .u9 ()) last l=bif F4 n last l then .u9 () else .ret false
 | [],_=>rfl
 |x::l,last=>by
  simp only[vK,SO,F4];by_cases h:x.1<=last\/x.1>=n
  ·grind
  ·simp only[nS h];exact CI n l x.1
theorem Pg(l:List nU)(n:Int)(hl:l.length<=1000000):kT l n=some (F4 n (-1) l):=by
 unfold kT;rw[show ((-1:Int),(0:Int))=(λ(i:Nat) (a:Int)=>(a,(i:Int))) 0 (-1) from rfl];rw[Cb (l:=l) (λ(i:Nat) (a:Int)=>(a,(i:Int))) (λ_ _=>True) (SO n) (λ_=> .u9 ()) (-1) (Em hl (by decide)) trivial]
 ·rw[CI];cases F4 n (-1) l<;>rfl
 ·intro u x A acc h _;simp only[iN h,fE,fF h,cA,cle,ib,WU,L3 (show u.length<=4611686018427387904 by grind),SO]
  grind [Jl]
 simp[bV,cG]
def De(n base:Int):Int->List Ep->Bool | _,[]=>true | i,e::l=>if F4 n (-1) e.2=true/\e.1=base+i then De n base (i+1) l else false
def tQ(b:Bd)(n:Int):Int:=if n<1\/n>32\/b.1<0\/b.1>2147483647 then 1 else if b.2.2.1.length>4 then 2 else if F4 n (-1) b.2.1=true/\¬(b.2.2.2=true/\b.2.2.1.length>0)/\(b.2.2.1.length:Int)<=b.1/\De n (b.1 - b.2.2.1.length+1) 0 b.2.2.1=true then 0 else 3
structure Sm (b:Bd):Prop where
 op:b.2.1.length<=1000000
 se:b.2.2.1.length<=1000000
 ep:∀e∈b.2.2.1,e.2.length<=1000000
theorem yI{A:Type}{l pre rest:List A}{x:A}(h:l=pre++x::rest):x∈l:=by grind
def opt(n:Int):Option Int:=if n=0 then none else some n
def QF(n base:Int):Int->List Ep->Bool | _,[]=>true | i,e::l=>if F4 n (-1) e.2=true/\e.1=base+i/\1<=e.1 then QF n base (i+1) l else false
def chG(n base:Int)(i:Int)(e:Ep):Step Int (Ex Unit (Option Int)):=if F4 n (-1) e.2=true/\e.1=base+i/\1<=e.1 then .next (i+1) else .done (.ret (some 3))
theorem LS(n base:Int):∀(l:List Ep) (i:Int),vK (chG n base) (λ_=> .u9 ()) i l=bif QF n base i l then .u9 () else .ret (some 3)
 | [],_=>rfl
 |e::l,i=>by
  simp only[vK,chG,QF];by_cases h:F4 n (-1) e.2=true/\e.1=base+i/\1<=e.1
  ·simp[sM h];exact LS n base l (i+1)
  grind
theorem LU(n base:Int)(h:1<=base):∀(l:List Ep) (i:Int),0<=i->QF n base i l=De n base i l
 | [],_,_=>rfl
 |e::l,i,A=>by
  simp only[QF,De];by_cases u:F4 n (-1) e.2=true/\e.1=base+i
  ·rw[sM u,sM (by grind)];exact LU n base h l (i+1) (by omega)
  grind
theorem J9(b:Bd)(n:Int)(hb:Sm b):kK b n=some (opt (tQ b n)):=by
 have I:=hb.se
 have R:∀X:0<=b.1/\b.1<=2147483647,lp (β:=Unit) (λ(F:Int)=>
          bif (cm .lss F (b.2.2.1.length:Int)) then
           (Sw.idx b.2.2.1 F).bind λO=>
            ((kT O.2 n).bind λab=>
             bif (!ab) then
              some true
             else
              bif (cm .neq O.1 (ar .add .i64 (ar .add .i64 (ar .sub .i64 b.1 (b.2.2.1.length:Int)) (1:Int)) F)) then
               some true
              else
               some (cm .lss O.1 (1:Int))).bind λac=>
             bif ac then
              some (.done (.ret (some (3:Int))))
             else
              some (.next (ar .add .i64 F (1:Int)))
          else
           some (.done (.u9 ()))
          ) (0:Int) (λ(_:Unit)=>
         some (none:Option Int))=some (bif QF n (b.1 - b.2.2.1.length+1) 0 b.2.2.1 then none else some 3):=by
  intro X;show lp _ ((λ(i:Nat) (_:Int)=>(i:Int)) 0 0) _=_;rw[Cb (l:=b.2.2.1) (λ(i:Nat) (_:Int)=>(i:Int)) (λB a=>a=(B.length:Int)) (chG n (b.1 - b.2.2.1.length+1)) (λ_=> .u9 ()) 0 (Em I (by decide)) rfl]
  ·rw[LS];cases QF n (b.1 - b.2.2.1.length+1) 0 b.2.2.1<;>rfl
  ·intro B x ad acc h hI;subst hI;have hp:B.length<=1000000:=(by rw[h] at I;simp at I;omega);refine⟨?_,λC3 G=>?_⟩
   ·simp only[iN h,fE,fF h,cA,Pg x.2 n (hb.ep x (yI h)),WU,L3 (show B.length<=4611686018427387904 by omega),chG,cn,cl];rw[bw (by omega),O9 (m:=b.1 - (b.2.2.1.length:Int)) (by omega),O9 (by omega)];cases hr:F4 n (-1) x.2 with
    |false=>simp[Jl]
    |true=>
     by_cases C:x.1=b.1 - (b.2.2.1.length:Int)+1+(B.length:Int)
     ·by_cases K:x.1<1
      ·have L:¬(1<=x.1):=(by omega);simp[<-C,K,L,Jl]
      ·have L:1<=x.1:=(by omega);simp[<-C,K,L,Jl]
     ·simp[C,Jl]
   ·simp only[chG] at G;split at G
    ·cases G;simp
    ·cases G
  ·intro acc _;simp only[bV,cG]
 unfold kK;simp only[Pg b.2.1 n hb.op,cA];simp only[cl,cg,WU,tQ,aGj,opt];by_cases c1:n<1
 ·simp[c1]
 by_cases u:n>32
 ·simp[c1,u]
 by_cases D:b.1<0
 ·simp[c1,u,D]
 by_cases M:b.1>2147483647
 ·simp[c1,u,D,M]
 have P:=R ⟨by omega,by omega⟩;simp only[cl,WU,aGj] at P;by_cases Q:(b.2.2.1.length:Int)>4
 ·have N:b.2.2.1.length>4:=by omega
  simp[c1,u,D,M,Q,N]
 have N:¬(b.2.2.1.length>4):=by omega
 simp only[c1,u,D,M,Q,N,M5,cA,dq,mu,or_self];cases hr:F4 n (-1) b.2.1 with
 |false=>simp
 |true=>
  simp only[vn,mu,M5];have S:(b.2.2.1.length:Int)<=b.1->QF n (b.1 - b.2.2.1.length+1) 0 b.2.2.1=De n (b.1 - b.2.2.1.length+1) 0 b.2.2.1:=λh=>LU n _ (by omega) _ 0 (by omega);have T:¬((b.2.2.1.length:Int)<=b.1)->QF n (b.1 - b.2.2.1.length+1) 0 b.2.2.1=false:=λh=>by
   cases ka:b.2.2.1 with
   |nil=>rw[ka] at h;simp at h;omega
   |cons e l=>
    simp only[QF];rw[nS];rintro⟨_,C,K⟩;rw[ka] at h;omega
  by_cases A:b.2.2.2=true/\b.2.2.1.length>0
  ·have U:(b.2.2.1.length:Int)>0:=(by omega);simp[A.1,A.2,U]
  ·have V:(if b.2.2.2=true then some (decide ((b.2.2.1.length:Int)>0)) else some false:Option Bool)=some false:=by
    cases hbh:b.2.2.2 with
    |false=>simp
    |true=>simp[hbh] at A;simp[A]
   simp only[V,cA,mu,M5,P];by_cases E:(b.2.2.1.length:Int)<=b.1
   ·rw[S E];cases De n (b.1 - b.2.2.1.length+1) 0 b.2.2.1<;>simp[E,A]
   ·rw[T E];simp[E]
theorem O8(b:Bd)(hb:Sm b):mC b=some b:=by
 have C:=hb.op;have u:=hb.se;unfold mC dE;have A:∀l:List nU,l.length<=1000000->aM l=some l:=λl h=>by
  unfold aM;rw[j1 [] l (by simp;omega)];rfl
 rw[A _ C,j1 [] b.2.2.1 (by simp;omega)];simp only[cA,rh];show lp _ ((λ(i:Nat) (_:Unit)=>((i:Int),b.2.2.1)) 0 ()) _=_;rw[Cb (l:=b.2.2.1) (λ(i:Nat) (_:Unit)=>((i:Int),b.2.2.1)) (λ_ _=>True) (λ_ _=> .next ()) (λ_=> .u9 b.2.2.1) () (Em u (by decide)) trivial]
 ·have:∀l:List Ep,vK (D:=Ex (List Ep) Bd) (λ(_:Unit) (_:Ep)=>Step.next ()) (λ_=> .u9 b.2.2.1) () l= .u9 b.2.2.1:=by
   intro l;induction l with
   |nil=>rfl
   |cons x l E=>exact E
  rw[this];rfl
 ·intro B x G acc h _;have F:B.length<=1000000:=by rw[h] at u;simp at u;omega
  refine⟨?_,λ_ _=>trivial⟩;simp only[iN h,fE,fF h,cA,A _ (hb.ep x (yI h)),L3 (show B.length<=4611686018427387904 by omega),Jl,gR];rw[h];simp
 ·intro acc _;simp only[bV,cG]
theorem Cd(n a:Int):∀(l:List nU) (last:Int),F4 n last l=true->∃L1 L2,l=L1++L2/\(∀x∈L1,x.1<a)/\(∀x∈L2,a<=x.1)/\(L2.filter λx=>x.1≠a)=(match L2 with | []=>[] | y::r=>if y.1=a then r else L2)
 | [],_,_=>⟨[],[],rfl,by simp,by simp,rfl⟩
 |x::l,last,h=>by
  simp only[F4] at h;split at h
  ·cases h
  ·by_cases C:x.1<a
   ·obtain⟨L1,L2,rfl,F,G,I⟩:=Cd n a l x.1 h;exact⟨x::L1,L2,rfl,λy u=>by rcases sK.1 u with rfl | u;exact C;exact F y u,G,I⟩
   ·have D:∀(l:List nU) (last:Int),F4 n last l=true->∀y∈l,last<y.1:=by
     intro l
     induction l with
     |nil=>intro _ _ y u;simp at u
     |cons z l K=>
      intro last h y u;simp only[F4] at h;split at h
      ·cases h
      ·rename_i L;rcases sK.1 u with rfl | u
       ·omega
       ·have:=K z.1 h y u;omega
    have A:=D l x.1 h;refine⟨[],x::l,rfl,by simp,λy u=>by rcases sK.1 u with rfl | u;omega;have:=A y u;omega,?_⟩;have E:(l.filter λy=>decide (y.1≠a))=l:=aGy.2 λy u=>by have:=A y u;simp;omega
    simp only[List.filter_cons,E];by_cases B:x.1=a
    ·simp[B]
    ·simp[B]
theorem G9(n:Int):∀(l:List nU) (last:Int),F4 n last l=true->∀x∈l,last<x.1/\x.1<n
 | [],_,_,x,u=>by grind
 |y::l,last,h,x,u=>by
  simp only[F4] at h;split at h
  ·grind
  ·rcases sK.1 u with rfl | u
   ·omega
   ·have:=G9 n l y.1 h x u;omega
theorem Zd(L1 L2:List nU)(a:Int)(h1:∀x∈L1,x.1<a)(h2:∀x∈L2,a<=x.1)(hl:(L1++L2).length<=1000000)(hr:∀x∈L1++L2,-1000000000<=x.1/\x.1<=1000000000)(hab: -1000000000<=a/\a<=1000000000):aU (L1++L2) a=some ((L1.length:Int),match L2 with | []=>false | y::_=>decide (y.1=a)):=by
 obtain⟨l,C⟩:∃l,l=L1++L2:=⟨_,rfl⟩;rw[<-C] at hl hr ⊢;unfold aU rO;have G:l.length=L1.length+L2.length:=by rw[C,cM]
 have I:∀x∈l,ar .sub .i64 x.1 a=x.1 - a:=λx D=>bw (by have:=hr x D;omega)
 obtain⟨y,rfl,S⟩:=SG (k:=λ(F:Int)=>
 (bif (cm .lss F (l.length:Int)) then
  (Sw.idx l F).bind λN=>
   (some (ar .sub .i64 N.1 a)).bind λO=>
    some (cm .eql O (0:Int))
 else
  some false).bind λP=>
  some (F,P)) (step:=λ(u:Int×Int)=>
  bif (cm .lss u.1 u.2) then
   (Sw.idx l (IntKind.wrap .i64 (sh .shr .u64 (IntKind.wrap .u64 (ar .add .i64 u.1 u.2)) (1:Int)))).bind λQ=>
    (some (ar .sub .i64 Q.1 a)).bind λR=>
     bif (cm .lss R (0:Int)) then
      some (.next ((ar .add .i64 (IntKind.wrap .i64 (sh .shr .u64 (IntKind.wrap .u64 (ar .add .i64 u.1 u.2)) (1:Int))) (1:Int)),u.2))
     else
      some (.next (u.1,(IntKind.wrap .i64 (sh .shr .u64 (IntKind.wrap .u64 (ar .add .i64 u.1 u.2)) (1:Int)))))
  else
   some (.done (.u9 u.1))) (λs=>∃i j:Nat,s=((i:Int),(j:Int))/\i<=L1.length/\L1.length<=j/\j<=l.length) (λs=>(s.2 - s.1).toNat) (λy=>y=(L1.length:Int)) ((0:Int),(l.length:Int)) (by unfold bR;simp;omega) ⟨0,l.length,rfl,by omega,by omega,by omega⟩ (by
   rintro s ⟨i,j,rfl,V,X,ab⟩;simp only[cl,WU,aGj];by_cases U2:i<j
   ·left;have E:(i:Int)<(j:Int):=(by omega);rw[sM E,mid (by omega)];obtain⟨h,T⟩:∃h,h=(i+j) / 2:=⟨_,rfl⟩;rw[<-T];have ac:h<j:=(by omega);have ad:i<=h:=(by omega);obtain⟨x,U,B⟩:=vV (l:=l) (n:=(h:Int)) (by omega) (by omega);simp only[gR] at B;have K:x∈l:=aEd B;simp only[U,cA,I x K];rw[C] at B;by_cases D:x.1 - a<0
    ·rw[sM D];have A:h<L1.length:=by
      rcases jl h L1.length with A | A
      ·exact A
      ·rw[aHf A] at B;have:=h2 x (aEd B);omega
     refine⟨_,rfl,⟨h+1,j,?_,by omega,X,ab⟩,?_⟩
     ·rw[L3 (by omega)]
     ·simp only[L3 (show h<=4611686018427387904 by omega)];omega
    ·rw[nS D];have A:L1.length<=h:=by
      rcases jl h L1.length with A | A
      ·rw[aFx A] at B;have:=h1 x (aEd B);omega
      ·exact A
     exact⟨_,rfl,⟨i,h,rfl,V,A,by omega⟩,by simp only;omega⟩
   ·right;have E:¬((i:Int)<(j:Int)):=(by omega);rw[nS E]
    exact⟨_,rfl,by omega⟩)
 rw[S];simp only[cl,ce,WU,aGj];cases L2 with
 |nil=>
  have:¬((L1.length:Int)<(l.length:Int)):=by simp at G;omega
  rw[nS this];rfl
 |cons y L2=>
  have L:(L1.length:Int)<(l.length:Int):=by simp at G;omega
  rw[sM L,fF C];have M:=I y (by rw[C];simp);simp only[cA,M];congr 3;by_cases h:y.1=a
  ·simp[h]
  ·have:¬(y.1 - a=0):=(by omega);simp[h,this]
def nj(l:List nU)(p:nU):List nU:=(l.takeWhile λx=>x.1<p.1)++p::(l.dropWhile λx=>x.1<p.1).filter λx=>x.1≠p.1
theorem Df{L1 L2:List nU}{p:nU}(h1:∀x∈L1,x.1<p.1)(h2:∀x∈L2,p.1<=x.1):nj (L1++L2) p=L1++p::L2.filter λx=>x.1≠p.1:=by
 unfold nj;have B:∀L1:List nU,(∀x∈L1,x.1<p.1)->(L1++L2).takeWhile (λx=>decide (x.1<p.1))=L1/\(L1++L2).dropWhile (λx=>decide (x.1<p.1))=L2:=by
  intro L1
  induction L1 with
  |nil=>
   intro _;cases L2<;>simp_all
  |cons x L1 E=>
   intro h;have C:=h x (by simp);obtain⟨u,A⟩:=E λy D=>h y (by simp[D]);simp[C,u,A]
 obtain⟨u,A⟩:=B L1 h1;rw[u,A]
def yJ:Bd:=(0,[],[],false)
theorem M1{b:Bd}{n:Int}(h:tQ b n=0):1<=n/\n<=32/\0<=b.1/\b.1<=2147483647/\b.2.2.1.length<=4/\F4 n (-1) b.2.1=true/\¬(b.2.2.2=true/\b.2.2.1.length>0)/\(b.2.2.1.length:Int)<=b.1/\De n (b.1 - b.2.2.1.length+1) 0 b.2.2.1=true:=by
 unfold tQ at h
 grind
theorem Jo{n base:Int}:∀{l:List Ep} {i:Int},De n base i l=true->∀e∈l,F4 n (-1) e.2=true
 | [],_,_,e,u=>by grind
 |x::l,i,h,e,u=>by
  simp only[De] at h;split at h
  ·rename_i A;rcases sK.1 u with rfl | u
   ·grind
   ·exact Jo h e u
  grind
theorem aOu(b:Bd)(n:Int)(p:nU)(hb:Sm b):sR b n p=some (if tQ b n≠0 then (yJ,some (tQ b n)) else if p.1<0\/p.1>=n then (yJ,some 1) else ((b.1,nj b.2.1 p,b.2.2.1,b.2.2.2),none)):=by
 unfold sR;simp only[J9 b n hb,O8 b hb,cA];by_cases B:tQ b n=0
 ·obtain⟨Q,R,S,T,U,G,V,X,k9⟩:=M1 B;simp only[opt,B,K4,fA,cG,ne_eq,aGt,M5];by_cases C:p.1<0
  ·simp[cl,C,yJ]
  by_cases D:p.1>=n
  ·simp[cl,ib,C,D,yJ]
  obtain⟨A,L2,I,K,L,P⟩:=Cd n p.1 b.2.1 _ G;have E:=G9 n b.2.1 _ G;have u:=hb.op;rw[I] at E u;have M:=Zd A L2 p.1 K L u (λx O=>by have:=E x O;omega) (by omega);rw[nS (by omega)];rw[I,M,Df K L,P];simp only[cl,ib,C,D,dq,cG,cA,jp];cases L2 with
  |nil=>
   simp only[cG,dL,Sw.ins,rf];rw[sM ⟨by omega,by omega,by simp at u ⊢;omega⟩];simp
  |cons y L2=>
   by_cases F:y.1=p.1
   ·have N:(A++y::L2).set A.length p=A++p::L2:=(by simp);simp only[F,xd,fE,jT,cA,gR,K4,N]
   ·simp only[F,dq,cG,dL,Sw.ins,M5];rw[sM ⟨by omega,by simp;omega,by simp at u ⊢;omega⟩];simp
 ·simp[opt,B,yJ]
theorem SP(b:Bd)(n:Int)(hb:Sm b):qU b n=some (if tQ b n≠0 then (yJ,some (tQ b n)) else if b.1=2147483647 then (yJ,some 2) else if b.2.2.2=true then ((b.1+1,[],b.2.2.1,b.2.2.2),none) else if b.2.2.1.length=4 then ((b.1+1,[],[],true),none) else ((b.1+1,[],b.2.2.1++[(b.1+1,b.2.1)],b.2.2.2),none)):=by
 unfold qU;simp only[J9 b n hb,O8 b hb,cA];by_cases u:tQ b n=0
 ·obtain⟨D,E,F,G,I,K,L,M,N⟩:=M1 u;simp only[opt,u,K4,fA,cG,ne_eq,aGt,M5,ce];by_cases A:b.1=2147483647
  ·simp[A,yJ]
  simp only[A,dq,cG,M5];rw[O9 (by omega)];cases hbh:b.2.2.2 with
  |true=>simp
  |false=>
   by_cases B:b.2.2.1.length=4
   ·simp[B]
   ·have C:¬((b.2.2.1.length:Int)=4):=(by omega);simp only[C,dq,cG,B,M5,mu]
    grind [j1]
 ·simp[opt,u,yJ]
theorem GF(l:List Ep)(num:Int)(hl:l.length<=1000000):aR l num=some (l.filter λe=>decide (num<e.1)):=by
 have O:aW l num=some (match l.findIdx? (λe=>decide (e.1<=num)) with | some j=>(j:Int) | none=> -1):=by
  unfold aW;show lp _ ((λ(i:Nat)=>(i:Int)) 0) _=_;rw[Jn (l:=l) (λ(i:Nat)=>(i:Int)) (λe=>decide (e.1<=num)) (λj=>(j:Int)) () (Em hl (by decide))]
  ·cases l.findIdx? (λe=>decide (e.1<=num))<;>rfl
  ·intro u x rest h;have hp:u.length<=1000000:=(by rw[h] at hl;simp at hl;omega);simp only[iN h,fE,fF h,cA,L3 (show u.length<=4611686018427387904 by omega),nA,cle,WU];by_cases F:x.1<=num<;>simp[F]
  ·simp only[bV,cG]
 unfold aR;rw[O];simp only[cA];cases hf:l.findIdx? (λe=>decide (e.1<=num)) with
 |none=>
  have F:=List.findIdx?_eq_none_iff.1 hf;have:l.filter (λe=>decide (num<e.1))=l:=aGy.2 λe G=>by have:=F e G;simp at this ⊢;omega
  simp[ce,this]
 |some j=>
  obtain⟨hj,F,h2⟩:=List.findIdx?_eq_some_iff_getElem.1 hf;obtain⟨P,C,R,rfl,ab⟩:∃P C R,l=P++C::R/\P.length=j:=⟨l.take j,l[j],l.drop (j+1),by rw[List.getElem_cons_drop,sw],by rw[Z1];omega⟩;subst ab;have ac:C.1<=num:=by simpa using F
  have Q:∀e∈P,num<e.1:=by
   intro e G;obtain⟨q,N,rfl⟩:=aHj G;have:=h2 q N;rw[List.getElem_append_left N] at this;simp at this;omega
  have S:P.filter (λe=>decide (num<e.1))=P:=aGy.2 λe G=>by simpa using Q e G
  have T:¬((P.length:Int)= -1):=by omega
  simp only[ce,T,dq,cG];have qp:P.length<=1000000:=by simp at hl;omega
  rw[L3 (by omega)];show lp _ ((λ(t:Nat) (a:Int×List Ep)=>(a.1,((P.length+1+t:Nat):Int),a.2)) 0 ((P.length:Int),P++C::R)) _=_;refine sI (l:=R) (λ(t:Nat) (a:Int×List Ep)=>(a.1,((P.length+1+t:Nat):Int),a.2))
   (λu a=>∃K J:List Ep,K=P++u.filter (λe=>decide (num<e.1))/\a.1=(K.length:Int)/\a.2=K++J++R.drop u.length/\K.length+J.length=P.length+1+u.length)
   (λa=>(a.1,a.2)) ((P.length:Int),P++C::R) (by unfold bR;simp at hl;omega) ⟨P,[C],by simp,rfl,by simp,by simp⟩ ?_ ?_ ?_
  ·rintro u x rest ⟨i,xs⟩ h ⟨K,J,D,A,B,E⟩;simp only at A B;subst A B;have ad:R.length=u.length+1+rest.length:=(by rw[h];simp;omega);have I:((P.length+1+u.length:Nat):Int)<((K++J++R.drop u.length).length:Int):=by
    simp only[cM,mr];omega
   have Rt:R.drop u.length=x::rest:=(by rw[h];simp);have U:Sw.idx (K++J++R.drop u.length) ((P.length+1+u.length:Nat):Int)=some x:=by
    rw[Rt];apply pM;rw[aHf (by rw[cM];omega),cM,E];simp
   have L:R.drop (u++[x]).length=rest:=(by rw[h];simp);simp only[cl,I,xd,fE,U,cA,nA,cle,WU];rw[L3 (show P.length+1+u.length<=4611686018427387904 by simp at hl;omega)];by_cases M:x.1<=num
   ·refine⟨((K.length:Int),K++J++R.drop u.length),by simp[M];omega,K,J++[x],?_,rfl,?_,?_⟩
    ·rw[D,aGf];have:¬(num<x.1):=(by omega);simp[this]
    ·simp only;rw[Rt,L];simp
    ·simp;omega
   ·have V:J≠ []:=by
     rintro rfl;have:=aGr (λe:Ep=>decide (num<e.1)) u;rw[D] at E;simp at E;omega
    cases J with
    |nil=>exact absurd rfl V
    |cons y J=>
     have X:Sw.idx (K++y::J++R.drop u.length) (K.length:Int)=some y:=by
      rw[dt];exact jT K y (J++R.drop u.length)
     rw[L3 (show K.length<=4611686018427387904 by
      have:K.length<=P.length+1+u.length:=by omega
      simp at hl;omega)]
     refine⟨(((K.length+1:Nat):Int),K++x::J++R.drop u.length),?_,K++[x],J++[x],?_,by simp,?_,?_⟩
     ·simp only[M,dq,aFe,K4,X,cA];simp;omega
     ·rw[D,aGf];have:num<x.1:=(by omega);simp[this]
     ·simp only;rw[Rt,L];simp
     ·simp at E ⊢;omega
  ·rintro⟨i,xs⟩ ⟨K,J,D,A,B,E⟩;simp only at A B;subst A B;have I:¬(((P.length+1+R.length:Nat):Int)<((K++J++R.drop R.length).length:Int)):=by
    simp only[cM,mr];omega
   simp only[cl,I,dq,cG]
  ·rintro⟨i,xs⟩ ⟨K,J,D,A,B,E⟩;simp only at A B;subst A B;have hd:R.drop R.length=[]:=List.drop_length;simp only[hd,rf];have e1:Sw.sub (K++J) (K.length:Int) ((K++J).length:Int)=some J:=by
    rw[Sw.sub,sM (by simp only[cM];omega),gR,gR,aG1,aGa]
   simp only[e1,cA,gR];have e2:List.take K.length (K++J)=K:=(by simp);rw[e2,Sw.sub,sM (by simp only[cM];omega)];simp only[cA,gR,Int.toNat_zero,List.drop_zero,aGz,W6];rw[D,aGf,S,List.filter_cons];have:¬(num<C.1):=(by omega);simp[this]
theorem SQ(b:Bd)(n num:Int)(hb:Sm b):nT b n num=some (if tQ b n≠0 then (yJ,some (tQ b n)) else if num<0\/num>b.1 then (yJ,some 1) else ((b.1,b.2.1,b.2.2.1.filter (λe=>decide (num<e.1)),if num=b.1 then false else b.2.2.2),none)):=by
 unfold nT;simp[J9 b n hb,O8 b hb,cA,GF b.2.2.1 num hb.se];by_cases u:tQ b n=0
 ·simp only[opt,u,K4,fA,cG,ne_eq,aGt,M5,ce,cl,cg,jp]
  grind [yJ]
 grind [opt,yJ]
def zO(A:List (Option nU))(p:nU):List (Option nU):=A.set p.1.toNat (some p)
def Rel(A:List (Option nU)):Prop:=∀(k:Nat) (p:nU),A[k]? =some (some p)->p.1=(k:Int)
theorem Rel.set{A:List (Option nU)}{p:nU}(h:Rel A)(hp:0<=p.1):Rel (zO A p):=by
 intro k q u;unfold zO at u;by_cases B:p.1.toNat=k
 ·grind
 ·rw[aEu B] at u;exact h k q u
def nV(A:List (Option nU))(num:Int)(l:List Ep):List (Option nU):=l.foldl (λA e=>if num<e.1 then e.2.foldl zO A else A) A
theorem Uy(l:List nU):∀(A:List (Option nU)),(l.foldl zO A).length=A.length:=by
 induction l<;>grind [zO]
theorem zP(num:Int)(l:List Ep):∀(A:List (Option nU)),(nV A num l).length=A.length:=by
 induction l<;>grind [nV,Uy]
theorem yi(b:Bd)(n num:Int)(hb:Sm b):mD b n num=some (if tQ b n≠0 then ((0,[]),false,some (tQ b n)) else if num<0\/num>b.1 then ((0,[]),false,some 1) else if b.1 - num>b.2.2.1.length then ((0,[]),false,none) else ((b.1,(nV (List.replicate 32 none) num b.2.2.1).filterMap id),true,none)):=by
 unfold mD;simp only[J9 b n hb,cA];by_cases G:tQ b n=0
 ·obtain⟨k1,k2,k3,k4,k5,k6,k7,k8,X⟩:=M1 G;simp only[opt,G,K4,fA,cG,ne_eq,aGt,M5];by_cases I:num<0
  ·simp[cl,I]
  by_cases O:num>b.1
  ·simp[cl,cg,I,O]
  rw[nS (by omega)];simp only[cl,cg,I,O,dq,cG,cA];rw[bw (by omega)];by_cases P:b.1 - num>b.2.2.1.length
  ·simp[P]
  simp only[P,dq,cG,M5];have K:=hb.se;show lp _ ((λ(i:Nat) (a:List (Option nU))=>((i:Int),a)) 0 (List.replicate 32 none)) _=_;refine sI (l:=b.2.2.1) (λ(i:Nat) (a:List (Option nU))=>((i:Int),a)) (λu a=>a=nV (List.replicate 32 none) num u) (λa=>a) (List.replicate 32 none) (Em K (by decide)) rfl ?_ ?_ ?_
  ·intro u e V acc h D;have R:u.length<=1000000:=(by rw[h] at K;simp at K;omega);have L:=hb.ep e (yI h);have S:=Jo X e (yI h);have T:=G9 n e.2 _ S;have E:acc.length=32:=(by rw[D,zP];simp);refine⟨if num<e.1 then e.2.foldl zO acc else acc,?_,by rw[D];simp[nV]⟩;have M:(u.length:Int)<(b.2.2.1.length:Int):=(by rw[h];simp;omega);simp only[M,xd,fE,fF h,cA];show lp _ ((λ(i:Nat) (a:List (Option nU))=>((i:Int),a)) 0 acc) _=_;refine sI (l:=e.2) (λ(i:Nat) (a:List (Option nU))=>((i:Int),a)) (λu a=>a=if num<e.1 then u.foldl zO acc else acc) (λa=>a) acc (Em L (by decide)) (by simp) ?_ ?_ ?_
   ·intro Q x ae C F A;have ab:Q.length<=1000000:=(by rw[F] at L;simp at L;omega);have U:(Q.length:Int)<(e.2.length:Int):=(by rw[F];simp;omega);have ac:=T x (yI F)
    refine⟨if num<e.1 then zO C x else C,?_,by
     rw[A];by_cases B:num<e.1
     ·simp[B]
     ·simp[B]⟩
    simp only[U,xd,fE,fF F,cA];rw[L3 (by omega)];by_cases B:num<e.1
    ·have N:e.1>num:=B;have ad:C.length=32:=(by rw[A,sM B,Uy];exact E);obtain⟨y,hy,_⟩:=vV (l:=C) (n:=x.1) (by omega) (by omega);simp only[N,xd,fE,hy,cA,K4,B,zO]
    ·have N:¬(e.1>num):=B;simp only[N,dq,cG,B,M5]
   ·intro C _;simp
   ·intro C A;rw[L3 (by omega),A]
  ·intro acc _;simp
  ·intro acc D;have E:acc.length=32:=(by rw[D,zP];simp);rw[<-D];show lp _ ((λ(i:Nat) (a:List nU)=>((i:Int),a)) 0 []) _=_;refine sI (l:=acc) (λ(i:Nat) (a:List nU)=>((i:Int),a)) (λu a=>a=u.filterMap id) (λa=>a) [] (by unfold bR;omega) rfl ?_ ?_ ?_
   ·intro u x V a h A;have R:u.length<32:=(by rw[<-E,h];simp);have M:(u.length:Int)<32:=(by omega);have og:=List.length_filterMap_le id u;simp only[M,xd,fE,fF h,cA];cases x with
    |none=>
     refine⟨a,?_,by rw[A];simp⟩;simp only[fA,cG];rw[L3 (by omega)]
    |some x=>
     refine⟨a++[x],?_,by rw[A];simp⟩;simp only[aF7,fE,cA];rw[j1 _ _ (by rw[A];simp;omega),cA,L3 (by omega)]
   ·intro a _;rw[E];rfl
   ·intro a A;rw[A]
 ·simp[opt,G]
theorem Uz{n:Int}{p:nU}(hp:0<=p.1/\p.1<n){l:List nU}(h:F4 n (-1) l=true):F4 n (-1) (nj l p)=true:=by
 obtain⟨u,F,rfl,M,N,P⟩:=Cd n p.1 l _ h;rw[Df M N];have O:∀(u:List nU) (A:Int) (R:List nU),F4 n A (u++F)=true->(∀x∈u,x.1<p.1)->A<p.1->(∀E,E<p.1->F4 n E F=true->F4 n E R=true)->F4 n A (u++R)=true:=by
  intro u
  induction u with
  |nil=>intro A R B _ I G;exact G A I B
  |cons x u Q=>
   intro A R B K I G;simp only[ud,F4] at B ⊢;split at B
   ·cases B
   ·rename_i L;rw[nS L];exact Q x.1 R B (λy C=>K y (by simp[C])) (K x (by simp)) G
 refine O u (-1) _ h M (by omega) λE S D=>?_;simp only[F4];rw[nS (by omega),P];cases F with
 |nil=>rfl
 |cons y F=>
  simp only[F4] at D;split at D
  ·cases D
  ·rename_i L;by_cases C:y.1=p.1
   ·simp only[C,K4];rw[<-C];exact D
   ·simp only[C,M5,F4];have:=N y (by simp);rw[nS (by omega)];exact D
theorem Lo{n base:Int}{e:Ep}:∀{l:List Ep} {i:Int},De n base i l=true->F4 n (-1) e.2=true->e.1=base+i+l.length->De n base i (l++[e])=true
 | [],i,_,u,B=>by simp_all [rh,De,sM]
 |x::l,i,h,u,B=>by
  simp only[ud,De] at h ⊢;split at h
  ·rename_i A;rw[sM A];exact Lo h u (by grind)
  grind
theorem Lp{n base num:Int}:∀{l:List Ep} {i:Int},De n base i l=true->De n (base+(l.length - (l.filter λe=>decide (num<e.1)).length:Int)) i (l.filter λe=>decide (num<e.1))=true
 | [],_,_=>by simp[De]
 |x::l,i,h=>by
  have F:=h;simp only[De] at h;split at h
  ·rename_i K;by_cases D:num<x.1
   ·
    have G:∀{l:List Ep} {j:Int},De n base j l=true->num<base+j->∀e∈l,num<e.1:=by
     intro l
     induction l with
     |nil=>intro j _ _ e u;simp at u
     |cons y l B=>
      intro j A L e u;simp only[De] at A;split at A
      ·rename_i E;rcases sK.1 u with rfl | u
       ·omega
       ·exact B A (by omega) e u
      ·cases A
    have C:(x::l).filter (λe=>decide (num<e.1))=x::l:=aGy.2 λe u=>by
     rcases sK.1 u with rfl | u
     ·simpa using D
     ·have:=G h (by omega) e u;simpa using this
    rw[C];simpa using F
   ·have C:(x::l).filter (λe=>decide (num<e.1))=l.filter (λe=>decide (num<e.1)):=(by simp[D]);rw[C];have B:=Lp (num:=num) h;have I:∀{l:List Ep} {b j:Int},De n b (j+1) l=true->De n (b+1) j l=true:=by
     intro l
     induction l with
     |nil=>intro _ _ _;rfl
     |cons y l B=>
      intro b j A;simp only[De] at A ⊢;split at A
      ·rename_i E;rw[sM ⟨E.1,by omega⟩];exact B A
      ·cases A
    grind
  ·cases h
theorem Ce{b:Bd}{n:Int}(h1:1<=n/\n<=32)(h2:0<=b.1/\b.1<=2147483647)(h3:b.2.2.1.length<=4)(h4:F4 n (-1) b.2.1=true)(h5:¬(b.2.2.2=true/\b.2.2.1.length>0))(h6:(b.2.2.1.length:Int)<=b.1)(h7:De n (b.1 - b.2.2.1.length+1) 0 b.2.2.1=true):tQ b n=0:=by
 grind [tQ]
theorem uq{b:Bd}{n:Int}(h:tQ b n=0):Sm b:=by
 obtain⟨E,F,G,I,K,B,L,M,C⟩:=M1 h;have D:∀(l:List nU) (last:Int),-1<=last->F4 n last l=true->(l.length:Int)<=n - last - 1\/l=[]:=by
  intro l
  induction l with
  |nil=>intro _ _ _;exact .inr rfl
  |cons x l N=>
   grind [F4,List.length_cons,List.length_nil]
 have u:∀l:List nU,F4 n (-1) l=true->l.length<=1000000:=λl h=>by
  grind
 exact⟨u _ B,by omega,λe A=>u _ (Jo C e A)⟩
theorem SR{b:Bd}{n:Int}{p:nU}(h:tQ b n=0)(hp:0<=p.1/\p.1<n):tQ (b.1,nj b.2.1 p,b.2.2.1,b.2.2.2) n=0:=by
 grind [M1,Ce,Uz]
theorem LW{b:Bd}{n num:Int}(h:tQ b n=0)(_hn:0<=num/\num<=b.1):tQ (b.1,b.2.1,b.2.2.1.filter (λe=>decide (num<e.1)),if num=b.1 then false else b.2.2.2) n=0:=by
 obtain⟨A,B,C,D,E,F,I,K,G⟩:=M1 h;have u:=aGr (λe:Ep=>decide (num<e.1)) b.2.2.1;refine Ce ⟨A,B⟩ ⟨C,D⟩ (eo u E) F ?_ (by grind) ?_
 ·grind
 ·have:=Lp (num:=num) G
  grind
def Aa(b:Bd):Bd:=if b.2.2.2=true then (b.1+1,[],b.2.2.1,b.2.2.2) else if b.2.2.1.length=4 then (b.1+1,[],[],true) else (b.1+1,[],b.2.2.1++[(b.1+1,b.2.1)],b.2.2.2)
theorem LX{b:Bd}{n:Int}(h:tQ b n=0)(hn:b.1<2147483647):tQ (Aa b) n=0:=by
 obtain⟨u,A,E,F,G,I,C,K,L⟩:=M1 h;unfold Aa;cases hbh:b.2.2.2 with
 |true=>
  have D:b.2.2.1=[]:=ya (by simp[hbh] at C;simp[C]);simp only[K4,D];exact Ce ⟨u,A⟩ (by simp only;omega) (by simp) rfl (by simp) (by simp;omega) rfl
 |false=>
  by_cases B:b.2.2.1.length=4
  ·simp only[mu,M5,B,K4];exact Ce ⟨u,A⟩ (by simp only;omega) (by simp) rfl (by simp) (by simp;omega) rfl
  ·simp only[mu,M5,B];refine Ce ⟨u,A⟩ (by simp only;omega) (by simp;omega) rfl (by simp) (by simp;omega) ?_
   grind [Lo]
theorem aQi{b:Bd}{n:Int}(h:tQ b n=0)(hn:b.1<2147483647):qU b n=some (Aa b,none):=by
 grind [SP,uq,Aa]
theorem aWz{b:Bd}{n:Int}{p:nU}(h:tQ b n=0)(hp:0<=p.1/\p.1<n):sR b n p=some ((b.1,nj b.2.1 p,b.2.2.1,b.2.2.2),none):=by
 rw[aOu b n p (uq h),nS (by omega),nS (by omega)]
theorem SS{b:Bd}{n num:Int}(h:tQ b n=0)(hn:0<=num/\num<=b.1):nT b n num=some ((b.1,b.2.1,b.2.2.1.filter (λe=>decide (num<e.1)),if num=b.1 then false else b.2.2.2),none):=by
 rw[SQ b n num (uq h),nS (by omega),nS (by omega)]
def Jq(bs:List aD)(ps:List nU):List aD:=ps.foldl (λbs p=>bs.set p.1.toNat p.2) bs
def Eo(l:List nU)(i:Nat):Option nU:=l.reverse.find? λq=>q.1==(i:Int)
theorem GG(p:nU)(l:List nU)(i:Nat):Eo (p::l) i=(Eo l i).or (if p.1=(i:Int) then some p else none):=by
 simp[Eo,List.reverse_cons,List.find?_append]
theorem Ph(p:nU)(l:List nU)(i:Nat):Eo (l++[p]) i=if p.1=(i:Int) then some p else Eo l i:=by
 grind [Eo,List.reverse_append]
theorem CJ:∀(l:List nU) (bs:List aD) (i:Nat),(∀p∈l,0<=p.1)->(Jq bs l)[i]? =match Eo l i with | some p=>if i<bs.length then some p.2 else none | none=>bs[i]?
 | [],bs,i,_=>rfl
 |p::l,bs,i,h=>by
  show (Jq (bs.set p.1.toNat p.2) l)[i]? =_;rw[CJ l _ i λq u=>h q (by grind),GG]
  grind
theorem Pj{bs:List aD}{l l':List nU}(h:∀p∈l,0<=p.1)(h':∀p∈l',0<=p.1)(hg:∀i,Eo l i=Eo l' i):Jq bs l=Jq bs l':=by
 apply aF1
 grind [CJ]
theorem GH{n:Int}{l:List nU}{p:nU}(h:F4 n (-1) l=true)(i:Nat):Eo (nj l p) i=Eo (l++[p]) i:=by
 obtain⟨B,C,rfl,u,A,_⟩:=Cd n p.1 l _ h;rw[Df u A,Ph]
 grind [Eo]
def atA(A:List (Option nU))(i:Nat):Option nU:=(A[i]?).join
theorem LY{A:List (Option nU)}(h:Rel A)(i:Nat):Eo (A.filterMap id) i=atA A i:=by
 unfold Eo atA;have F:∀q,(A.filterMap id).reverse.find? (λq=>q.1==(i:Int))=some q->(A[i]?).join=some q:=by
  intro q u;have G:=List.find?_some u;have B:=List.mem_of_find?_eq_some u;rw[aIg,aG5] at B;obtain⟨o,I,E⟩:=B;simp only[id_eq] at E;subst E;obtain⟨j,K,L⟩:=aHj I;have C:A[j]? =some (some q):=by rw[sE K,L]
  have D:=h j q C;have:j=i:=by simp at G;omega
  subst this;rw[C];rfl
 cases u:(A.filterMap id).reverse.find? (λq=>q.1==(i:Int)) with
 |some q=>rw[F q u]
 |none=>
  rw[List.find?_eq_none] at u;cases hA:A[i]? with
  |none=>rfl
  |some o=>
   cases o with
   |none=>rfl
   |some q=>
    have D:=h i q hA;exfalso;refine u q ?_ (by simp[D]);rw[aIg,aG5];exact⟨some q,aEd hA,rfl⟩
theorem SU{A:List (Option nU)}{p:nU}(h:p∈A.filterMap id):∃j:Nat,A[j]? =some (some p):=by
 obtain⟨o,u,B⟩:=aG5.1 h;subst B;obtain⟨j,C,D⟩:=aHj u;exact⟨j,by grind⟩
theorem Lq{A:List (Option nU)}(h:Rel A){p:nU}(hp:p∈A.filterMap id):0<=p.1/\p.1<(A.length:Int):=by
 obtain⟨j,u⟩:=SU hp;have:=h j p u
 grind
theorem SV{A:List (Option nU)}{p:nU}(h0:0<=p.1)(hl:p.1<(A.length:Int))(i:Nat):atA (zO A p) i=if p.1=(i:Int) then some p else atA A i:=by
 grind [atA,zO]
theorem Va{bs:List aD}:∀(ps:List nU) {A:List (Option nU)},Rel A->(∀p∈ps,0<=p.1/\p.1<(A.length:Int))->Jq bs ((ps.foldl zO A).filterMap id)=Jq (Jq bs (A.filterMap id)) ps/\Rel (ps.foldl zO A)
 | [],_,h,_=>⟨rfl,h⟩
 |p::ps,A,h,C=>by
  have D:=C p (by simp);have B:=h.set D.1;obtain⟨E,F⟩:=Va (bs:=bs) ps B λq u=>by rw[show (zO A p).length=A.length from aHm];exact C q (by simp[u])
  refine⟨?_,F⟩;show Jq bs ((ps.foldl zO (zO A p)).filterMap id)=Jq ((Jq bs (A.filterMap id)).set p.1.toNat p.2) ps;rw[E];congr 1;have:(Jq bs (A.filterMap id)).set p.1.toNat p.2=Jq bs (A.filterMap id++[p]):=by unfold Jq;rw[aHb];rfl
  rw[this];refine Pj (λq u=>(Lq B u).1) (λq u=>?_) λi=>?_<;>grind [Lq,LY,SV,Ph]
def CK(snaps:List (List aD))(l:List Ep):Prop:=∀e∈l,1<=e.1/\Jq (snaps.getD (e.1 - 1).toNat []) e.2=snaps.getD e.1.toNat []
theorem Vb{n base k:Int}{snaps:List (List aD)}(hn:n<=32)(hk:base - 1<=k)(hb:1<=base):∀(l:List Ep),De n base 0 l=true->CK snaps l->Jq (snaps.getD k.toNat []) ((nV (List.replicate 32 none) k l).filterMap id)=snaps.getD (max k (base+l.length - 1)).toNat []/\Rel (nV (List.replicate 32 none) k l):=by
 have L:∀(l:List Ep) (i:Int) (e:Ep),De n base i (l++[e])=true->De n base i l=true/\F4 n (-1) e.2=true/\e.1=base+i+l.length:=by
  intro l
  induction l with
  |nil=>
   intro i e h;simp only[rh,De] at h;split at h
   ·rename_i u;exact⟨rfl,u.1,by simpa using u.2⟩
   ·cases h
  |cons x l G=>
   intro i e h;simp only[ud,De] at h ⊢;split at h
   ·rename_i u;obtain⟨B,C,V⟩:=G (i+1) e h;rw[sM u];exact⟨B,C,by rw[V];simp only[qf];omega⟩
   ·cases h
 have M:∀(m:Nat) (l:List Ep),l.length=m->De n base 0 l=true->CK snaps l->
  Jq (snaps.getD k.toNat []) ((nV (List.replicate 32 none) k l).filterMap id)=snaps.getD (max k (base+l.length - 1)).toNat []/\Rel (nV (List.replicate 32 none) k l):=by
  intro m
  induction m with
  |zero=>
   intro l A _ _;have:=ya A;subst this;refine⟨?_,λj p F=>?_⟩
   ·have:(nV (List.replicate 32 (none:Option nU)) k []).filterMap id=[]:=(by simp[nV,List.filterMap_replicate]);rw[this];have:max k (base+(([]:List Ep).length:Int) - 1)=k:=(by simp only[ue];omega);rw[this];rfl
   ·simp only[nV,List.foldl_nil,List.getElem?_replicate] at F;split at F<;>cases F
  |succ m G=>
   intro l A K D;rcases List.eq_nil_or_concat l with rfl |⟨q,e,rfl⟩
   ·simp at A
   rw[List.concat_eq_append] at A K D ⊢;obtain⟨u,E,h3⟩:=L q 0 e K;obtain⟨B,C⟩:=G q (by simp at A;exact A) u λS T=>D S (by simp[T]);obtain⟨c1,X⟩:=D e (by simp);have N:((q++[e]).length:Int)=q.length+1:=(by simp);have O:nV (List.replicate 32 none) k (q++[e])=if k<e.1 then e.2.foldl zO (nV (List.replicate 32 none) k q) else nV (List.replicate 32 none) k q:=by simp[nV]
   rw[O,N];by_cases I:k<e.1
   ·rw[sM I];have P:=G9 n e.2 _ E;have ab:(nV (List.replicate 32 (none:Option nU)) k q).length=32:=(by rw[zP];simp);obtain⟨a1,a2⟩:=Va (bs:=snaps.getD k.toNat []) e.2 C λp U=>by have:=P p U;omega
    refine⟨?_,a2⟩;rw[a1,B];have Q:max k (base+(q.length:Int) - 1)=e.1 - 1:=(by omega);have R:max k (base+((q.length:Int)+1) - 1)=e.1:=(by omega);rw[Q,R,X]
   ·rw[nS I];refine⟨?_,C⟩;rw[B];congr 2;omega
 intro l u E;exact M l.length l rfl u E
theorem tT{A:Type}{l:List A}{x d:A}{i:Nat}(h:i<l.length):(l++[x]).getD i d=l.getD i d:=by
 grind
theorem Cf{A:Type}{l:List A}{x d:A}{i:Nat}(h:i=l.length):(l++[x]).getD i d=x:=by
 grind
theorem Ze{n k:Int}{l:List Ep}(h:∀e∈l,F4 n (-1) e.2=true){j:Nat}{p:nU}(hp:(nV (List.replicate 32 none) k l)[j]? =some (some p)):0<=p.1/\p.1<n:=by
 have F:∀(q:List nU) (A:List (Option nU)),(∀x∈q,0<=x.1/\x.1<n)->(∀(j:Nat) (p:nU),A[j]? =some (some p)->0<=p.1/\p.1<n)->∀(j:Nat) (p:nU),(q.foldl zO A)[j]? =some (some p)->0<=p.1/\p.1<n:=by
  intro q
  induction q with
  |nil=>intro A _ h;exact h
  |cons x q D=>
   intro A C B;refine D _ (λy I=>C y (by simp[I])) λj p u=>?_;unfold zO at u;rw[aHv] at u;split at u
   ·split at u
    ·cases u;exact C _ (by simp)
    ·cases u
   ·exact B j p u
 have G:∀(l:List Ep) (A:List (Option nU)),(∀e∈l,F4 n (-1) e.2=true)->(∀(j:Nat) (p:nU),A[j]? =some (some p)->0<=p.1/\p.1<n)->∀(j:Nat) (p:nU),(nV A k l)[j]? =some (some p)->0<=p.1/\p.1<n:=by
  intro l
  induction l with
  |nil=>intro A _ B;exact B
  |cons e l D=>
   intro A E B;refine D _ (λK L=>E K (by simp[L])) λj p u=>?_;simp only at u;split at u
   ·exact F e.2 A (λx C=>by have:=G9 n e.2 _ (E e (by simp)) x C;omega) B j p u
   ·exact B j p u
 exact G l _ h (λj p u=>by rw[List.getElem?_replicate] at u;split at u<;>cases u) j p hp
end Go.O0
namespace Go.I9
open Go.Pl Go Go.Sw Go.Mo
theorem Lr(l:List aD)(b:aD)(h:l.length<=1000000):qF l b=some (if b∈l then ((l.idxOf b:Nat):Int) else -1):=by
 unfold qF;rw[show (0:Int)=((0:Nat):Int) from rfl,zL (l:=l) (λi (_:Unit)=>(i:Int)) () (λi z _=>if z=b then .done (.ret (i:Int)) else .next ()) (λ_=> .u9 ()) (by unfold bR;omega)]
 ·have:∀(l:List aD) (i:Nat),sX (λ(i:Nat) (z:aD) (_:Unit)=>(if z=b then Step.done (Ex.ret (i:Int)) else .next ():Step Unit (Ex Unit Int))) (λ_=> .u9 ()) i () l=if b∈l then .ret ((i+l.idxOf b:Nat):Int) else .u9 ():=by
   intro l;induction l with
   |nil=>intro i;simp[sX]
   |cons x l D=>
    intro i;simp only[sX];by_cases u:x=b
    ·subst u;simp
    ·have B:¬b=x:=λh=>u h.symm;rw[nS u]
     grind
  rw[this];split<;>simp[out]
 ·rintro A x C acc rfl;simp only[lQ,fE,jT,cA,Jl,CC (n:=A.length) (m:=1000000) (by simp at h;omega) (by omega)];by_cases u:x=b<;>simp[u,Jl]
 ·intro _;simp[bV]
theorem Pk(pre:List aD)(z:aD):dQ (pre.map λx=>(x,true)) z=if z∈pre then some true else none:=by
 induction pre<;>grind [dQ]
theorem J9(l:List aD)(h:l.length<=1000000):oY l=some (if l.length>8 then some 2 else if l.Nodup then none else some 3):=by
 unfold oY;by_cases E:l.length>8
 ·have:cm .gtr (l.length:Int) 8=true:=by simp[cm];omega
  rw[this];simp[E]
 have:cm .gtr (l.length:Int) 8=false:=by simp[cm];omega
 rw[this,nS E];simp only[cG];rw[show ((0:Int),([]:List (aD×Bool)))=(((0:Nat):Int),(l.take 0).map λx=>(x,true)) from rfl,zL (l:=l) (λi (_:Unit)=>((i:Int),(l.take i).map λx=>(x,true))) () (λi z _=>if z∈l.take i then .done (.ret (some 3)) else .next ()) (λ_=> .u9 ()) (by unfold bR;omega)]
 ·have:∀(u pre:List aD),l=pre++u->pre.Nodup->sX (λ(i:Nat) (z:aD) (_:Unit)=>(if z∈l.take i then Step.done (Ex.ret (some 3)) else .next ():Step Unit (Ex Unit (Option Int)))) (λ_=> .u9 ()) pre.length () u=if l.Nodup then .u9 () else .ret (some 3):=by
   intro u;induction u with
   |nil=>intro pre B D;rw[rf] at B;subst B;simp[sX,D]
   |cons x u L=>
    intro pre B D;simp only[sX];have C:l.take pre.length=pre:=(by rw[B];simp);rw[C];by_cases A:x∈pre
    ·rw[sM A];have:¬l.Nodup:=(by rw[B,List.nodup_append];rintro⟨_,_,K⟩;exact K x A x (by simp) rfl);simp[this]
    ·rw[nS A];have:=L (pre++[x]) (by rw[B];simp) (by rw[List.nodup_append];exact⟨D,by simp,λa I b F=>by simp at F;subst F;rintro rfl;exact A I⟩);simpa using this
  have:=this l [] rfl (by simp);simp only[ue] at this;rw[this];split<;>simp[out]
 ·rintro pre x u acc rfl;have C:(pre++x::u).take pre.length=pre:=by simp
  simp only[lQ,fE,jT,cA,C,Pk,Jl,CC (n:=pre.length) (m:=1000000) (by simp at h;omega) (by omega)];by_cases A:x∈pre
  ·simp[A,Jl]
  ·have G:(pre++x::u).take (pre.length+1)=pre++[x]:=(by rw[List.take_append];simp[aFh]);simp only[A,M5,aIh,cG,Cv,Pk,cA,Jl,G];simp
 ·intro _;simp[bV]
abbrev J5:=Int×Int×Int×aD
def Gw(h:List aD):Int:=if h.length>8 then 2 else if h.Nodup then 0 else 3
def D5(e h:List aD):Int:=if e.length<1\/e.length>32 then 1 else Gw h
def opt(n:Int):Option Int:=if n=0 then none else some n
theorem Ls(l:List aD)(h:l.length<=1000000):oY l=some (opt (Gw l)):=by
 grind [J9,Gw,opt]
theorem Lt(e h:List aD)(hh:h.length<=1000000):mV e h=some (opt (D5 e h)):=by
 grind [mV,D5,cl,cg,Ls,opt]
def Nl(n prev:Int)(x:J5):Bool:=decide (x.1<=prev) || decide (x.1>=n) || decide (x.2.1<0) || decide (x.2.1>3)
def Dg(n:Int):Int->List J5->Bool | _,[]=>true | prev,x::l=> !Nl n prev x && Dg n x.1 l
theorem SX(n prev:Int)(x:J5){γ:Type}(k:Bool->Option γ):((bif (cm .leq x.1 prev) then some true else bif (cm .geq x.1 n) then some true else bif (cm .lss x.2.1 (0:Int)) then some true else some (cm .gtr x.2.1 (3:Int))).bind k)=k (Nl n prev x):=by
 grind [cle,ib,cl,cg,Nl]
theorem Pm{n:Int}:∀{l:List J5} {prev:Int},Dg n prev l=true->∀x∈l,0<=x.2.1/\x.2.1<=3
 | [],_,_,x,u=>by grind
 |y::l,prev,h,x,u=>by
  simp[Dg,bm,aEf] at h;rcases sK.1 u with rfl | u
  ·grind [Nl]
  ·exact Pm h.2 x u
def Vc(w n:Int)(l:List J5):Int:=if w=0 then (if Dg n (-1) l then 0 else 1) else w
theorem LZ{γ:Type}(l:List J5)(n:Int)(z:γ)(hl:l.length<=1000000)(k:Unit->Option γ):lp (β:=Unit) (λ(pj:Int×Int)=>bif (cm .lss pj.2 (l.length:Int)) then (Sw.idx l pj.2).bind λz39=>(bif (cm .leq z39.1 pj.1) then some true else bif (cm .geq z39.1 n) then some true else bif (cm .lss z39.2.1 (0:Int)) then some true else some (cm .gtr z39.2.1 (3:Int))).bind λx43=>bif x43 then some (.done (.ret z)) else some (.next (z39.1,(ar .add .i64 pj.2 (1:Int)))) else some (.done (.u9 ())) ) ((-1:Int),(0:Int)) k=if Dg n (-1) l then k () else some z:=by
 refine(zL (l:=l) (λi (acc:Int)=>(acc,(i:Int))) (-1:Int) (λ_ x acc=>if Nl n acc x then .done (.ret z) else .next x.1) (λ_=> .u9 ()) (Em hl (by decide)) ?_ ?_).trans ?_
 ·intro C x D acc h;simp only[iN h,fE,fF h,cA,SX];by_cases u:Nl n acc x=true
  ·simp[u,Jl]
  ·simp only[aGq] at u;rw[L3 (by rw[h] at hl;simp at hl;omega)];simp[u,Jl]
 ·intro acc;simp only[bV,cG]
 ·have:∀(l:List J5) (i:Nat) (A:Int),sX (λ(_:Nat) (x:J5) (acc:Int)=>(if Nl n acc x then .done (.ret z) else .next x.1:Step Int (Ex Unit γ))) (λ_=> .u9 ()) i A l=if Dg n A l then .u9 () else .ret z:=by
   intro l
   induction l with
   |nil=>intro i A;simp[sX,Dg]
   |cons x l B=>
    intro i A;simp only[sX];by_cases u:Nl n A x=true
    ·simp[u,Dg]
    ·simp only[aGq] at u;simp[u,Dg,B]
  rw[this];by_cases g:Dg n (-1) l=true<;>simp[g,out]
def Bh(x:J5)(e h:List aD):aD×Bool:=
 if x.2.1=0 then (aE,true) else if x.2.1=3 then (x.2.2.2,true) else
  let l:=if x.2.1=2 then h else e
  if x.2.2.1<0\/x.2.2.1>=l.length then (aE,false) else (l.getD x.2.2.1.toNat [],true)
theorem MA(l:List aD)(n:Int):((bif (cm .lss n (0:Int)) then some true else some (cm .geq n (l.length:Int))).bind λx5=>bif x5 then some (aE,false) else (Sw.idx l n).bind λz8=>some (z8,true))=some (if n<0\/n>=l.length then (aE,false) else (l.getD n.toNat [],true)):=by
 grind [cl,ib,Sw.idx]
theorem YI(l:List aD)(n:Int):sF l n=some (if n<0\/n>=l.length then (aE,false) else (l.getD n.toNat [],true)):=MA l n
def Rq(e h:List aD)(x:J5)(acc:List (Int×aD)×List Int):List (Int×aD)×List Int:=if (Bh x e h).2 then (acc.1++[(x.1,(Bh x e h).1)],acc.2) else (acc.1,acc.2++[x.1])
def y7(e h:List aD)(l:List J5):List (Int×aD)×List Int:=(l.zipIdx).foldl (λacc x=>Rq e h x.1 acc) ([],[])
theorem MB(e h:List aD)(x:J5)(acc:List (Int×aD)×List Int):(Rq e h x acc).1.length+(Rq e h x acc).2.length=acc.1.length+acc.2.length+1:=by
 grind [Rq]
theorem MD{γ:Type}(e h:List aD)(x:J5)(acc:List (Int×aD)×List Int)(ha:acc.1.length+acc.2.length<=1000000)(k:List (Int×aD)×List Int->Option γ)(v:aD×Bool)(hv:v=Bh x e h):(bif v.2 then (Sw.app acc.1 ([(x.1,v.1)]:(List (Int×aD)))).bind λaUo=>k (aUo,acc.2) else (Sw.app acc.2 ([x.1]:(List Int))).bind λaUn=>k (acc.1,aUn))=k (Rq e h x acc):=by
 grind [Rq,j1]
theorem Vd(l:List J5)(e h:List aD)(hl:l.length<=1000)(hk:∀x∈l,0<=x.2.1/\x.2.1<=3){γ:Type}(k:List (Int×aD)×List Int->Option γ):lp (β:=(List (Int×aD))×(List Int)) (λ(rz:Int×(List (Int×aD))×(List Int))=>bif (cm .lss rz.1 (l.length:Int)) then (Sw.idx l rz.1).bind λmz=>bif (cm .eql mz.2.1 (1:Int)) then (sF e mz.2.2.1).bind λaZr=>bif aZr.2 then (Sw.app rz.2.1 ([(mz.1,aZr.1)]:(List (Int×aD)))).bind λaUp=>some (.next ((ar .add .i64 rz.1 (1:Int)),aUp,rz.2.2)) else (Sw.app rz.2.2 ([mz.1]:(List Int))).bind λeg=>some (.next ((ar .add .i64 rz.1 (1:Int)),rz.2.1,eg)) else bif (cm .eql mz.2.1 (2:Int)) then (sF h mz.2.2.1).bind λvw=>bif vw.2 then (Sw.app rz.2.1 ([(mz.1,vw.1)]:(List (Int×aD)))).bind λaKn=>some (.next ((ar .add .i64 rz.1 (1:Int)),aKn,rz.2.2)) else (Sw.app rz.2.2 ([mz.1]:(List Int))).bind λaUn=>some (.next ((ar .add .i64 rz.1 (1:Int)),rz.2.1,aUn)) else bif (cm .eql mz.2.1 (3:Int)) then (Sw.app rz.2.1 ([(mz.1,mz.2.2.2)]:(List (Int×aD)))).bind λv124=>some (.next ((ar .add .i64 rz.1 (1:Int)),v124,rz.2.2)) else (Sw.app rz.2.1 ([(mz.1,aE)]:(List (Int×aD)))).bind λv127=>some (.next ((ar .add .i64 rz.1 (1:Int)),v127,rz.2.2)) else some (.done (.u9 (rz.2.1,rz.2.2))) ) ((0:Int),([]:(List (Int×aD))),([]:(List Int))) k=k (y7 e h l):=by
 refine(L5 (l:=l) (λi (acc:List (Int×aD)×List Int)=>((i:Int),acc.1,acc.2)) (λi acc=>acc.1.length+acc.2.length=i) ([],[]) (λ_ x acc=>Rq e h x acc) id (Em (n:=1000) hl (by decide)) rfl ?_ ?_).trans ?_
 ·intro E x M acc C G;have K:E.length<=1000:=by rw[C] at hl;simp at hl;omega
  have L:=hk x (by rw[C];simp);refine⟨?_,by rw[MB,G]⟩;simp only[iN C,fE,ce,cA,fF C,YI];rw[L3 (by omega)];have A:=λv I=>MD e h x acc (by omega) (λa=>(some (.next (((E.length+1:Nat):Int),a.1,a.2)):Option (Step (Int×(List (Int×aD))×(List Int)) (Ex ((List (Int×aD))×(List Int)) γ)))) v I;by_cases u:x.2.1=1
  ·have:=A (if x.2.2.1<0\/x.2.2.1>=e.length then (aE,false) else (e.getD x.2.2.1.toNat [],true)) (by unfold Bh;simp[u]);simp only[u,xd,fE];exact this
  by_cases B:x.2.1=2
  ·have:=A (if x.2.2.1<0\/x.2.2.1>=h.length then (aE,false) else (h.getD x.2.2.1.toNat [],true)) (by unfold Bh;simp[B]);simp only[u,B,xd,dq,fE,cG];exact this
  by_cases D:x.2.1=3
  ·have:=A (x.2.2.2,true) (by unfold Bh;simp[D]);simp only[u,B,D,xd,dq,fE,cG];exact this
  ·have F:x.2.1=0:=(by omega);have:=A (aE,true) (by unfold Bh;simp[F]);simp only[u,B,D,dq,cG];exact this
 ·intro acc _;simp only[bV,cG];rfl
 ·rfl
theorem ME(l:List J5)(e h:List aD)(hl:l.length<=1000)(hh:h.length<=1000000):nR l e h=some (if Vc (D5 e h) e.length l=0 then ((y7 e h l).1,(y7 e h l).2,none) else ([],[],some (Vc (D5 e h) e.length l))):=by
 unfold nR;rw[Lt e h hh,cA];unfold Vc;by_cases u:D5 e h=0
 ·simp[u,opt,K4,fA,cG];rw[LZ l _ _ (by omega)];by_cases g:Dg e.length (-1) l=true
  ·simp only[g,K4];rw[Vd l e h hl (Pm g)]
  ·simp[g]
 ·simp[u,opt]
theorem CL{α:Type}[DecidableEq α]{k:α}:∀{l:List α},kp l k=none->k∉l
 | [],_=>by simp
 |a::l,h=>by
  simp[kp] at h;split at h
  ·grind
  ·cases hr:kp l k with
   |none=>have:=CL hr;grind
   |some j=>grind
theorem Pn{α β:Type}[DecidableEq α]{k:α}:∀{m:List (α×β)},k∉m.map (·.1)->dQ m k=none
 | [],_=>rfl
 | (a,b)::m,h=>by
  simp only[V0,sK,not_or] at h;simp only[dQ,nS (λe=>h.1 (Eq.symm e))];exact Pn h.2
theorem Ia{α β:Type}[DecidableEq α]{k:α}{v:β}{b:α}:∀{m:List (α×β)},k∉m.map (·.1)->dQ (m++[(k,v)]) b=if b=k then some v else dQ m b
 | [],_=>by grind [dQ]
 | (a,c)::m,h=>by
  simp only[V0,sK,not_or] at h;simp[ud,dQ,Ia h.2]
  grind
theorem Po{α β:Type}[DecidableEq α]{k:α}{v:β}{b:α}:∀{m:List (α×β)} {q:Nat},kp (m.map (·.1)) k=some q->dQ (vT m q v) b=if b=k then some v else dQ m b
 | [],q,h=>by simp[kp] at h
 | (a,c)::m,q,h=>by
  simp only[V0,kp] at h;split at h
  ·grind [vT,List.modify_zero_cons,dQ]
  ·rename_i u;cases hr:kp (m.map (·.1)) k with
   |none=>rw[hr] at h;cases h
   |some j=>
    rw[hr] at h;cases h;have:=Po (v:=v) (b:=b) hr
    grind [vT,List.modify_succ_cons,dQ]
theorem SY{κ α:Type}[DecidableEq κ](m:List (κ×List α))(k:κ)(hm:m.length<=140737488355328):∃r,Rj m k=some r/\r.2.2=(dQ m k).getD []/\(∀v b,dQ (vT r.1 r.2.1 v) b=if b=k then some v else dQ m b)/\∀v,(vT r.1 r.2.1 v).length<=m.length+1:=by
 unfold Rj;rw[sM hm];cases hk:kp (m.map (·.1)) k with
 |none=>
  have u:=CL hk;refine⟨_,rfl,by rw[Pn u];rfl,λv b=>?_,λv=>?_⟩
  ·have:vT (m++[(k,[])]) m.length v=m++[(k,v)]:=by
    apply aF1;grind [vT,Nat.lt_trichotomy,List.getElem?_append_left,List.getElem?_eq_none]
   simp only[this];exact Ia u
  ·simp[vT]
 |some q=>
  refine⟨_,rfl,?_,λv b=>Po hk,λv=>by simp[vT]⟩;rw[BP,hk];rfl
structure rr (l:List aD) (M:List (aD×List Int)):Prop where
 none:∀b,b∉l->dQ M b=Option.none
 some:∀b,b∈l->∃t,dQ M b=Option.some (((l.idxOf b:Nat):Int)::t)/\t.length<=l.length
 len:M.length<=l.length
theorem O8(l:List aD)(h:l.length<=1000000):aB l=some l:=by
 grind [aB,j1]
theorem rr.add{l:List aD}{M M':List (aD×List Int)}{x:aD}(h:rr l M)(hg:∀b,dQ M' b=if b=x then Option.some ((dQ M x).getD []++[(l.length:Int)]) else dQ M b)(hlen:M'.length<=M.length+1):rr (l++[x]) M':=by
 refine⟨λb A=>?_,λb A=>?_,by have:=h.len;simp;omega⟩
 ·simp only[oq,aFf,not_or] at A;rw[hg,nS A.2,h.none b A.1]
 ·rw[hg];by_cases C:b=x
  ·subst C;rw[sM rfl,List.idxOf_append];by_cases u:b∈l
   ·obtain⟨t,B,D⟩:=h.some b u;rw[B,sM u];exact⟨t++[(l.length:Int)],by simp,by simp;omega⟩
   ·rw[h.none b u,nS u];exact⟨[],by simp,by simp⟩
  ·have u:b∈l:=by
    grind
   rw[nS C,List.idxOf_append,sM u];obtain⟨t,B,D⟩:=h.some b u;exact⟨t,B,by simp;omega⟩
theorem Ve(l:List aD)(h1:1<=l.length)(h2:l.length<=32):∃M,rr l M/\vC l=some (some (l,M),none):=by
 unfold vC;have c1:cm .lss (l.length:Int) 1=false:=by rw[cl];simp;omega
 have G:cm .gtr (l.length:Int) 32=false:=by rw[cg];simp;omega
 simp only[c1,cG,G,cA,O8 l (by omega)];have I:((0:Int),([]:List (aD×List Int)))=(λ(i:Nat) (acc:List (aD×List Int))=>((i:Int),acc)) 0 []:=rfl;rw[I]
 obtain⟨M,P,Q⟩:=CD (l:=l) (step:=λ(A:Int×(List (aD×(List Int))))=>
        bif (cm .lss A.1 (l.length:Int)) then
         (Sw.idx l A.1).bind λL=>
          (Rj A.2 L).bind λD=>
           (Sw.app D.2.2 ([A.1]:(List Int))).bind λN=>
            some (.next ((ar .add .i64 A.1 (1:Int)),vT D.1 D.2.1 N))
        else
         some (.done (.u9 A.2))) (λ(i:Nat) (acc:List (aD×List Int))=>((i:Int),acc)) (λu acc=>rr u acc) (λacc=>acc) [] (by unfold bR;omega) ⟨λb _=>rfl,λb O=>by simp at O,gC _⟩ (by
   intro u x X acc C B;have V:u.length<32:=(by rw[C] at h2;simp at h2;omega);obtain⟨r,R,F,S,T⟩:=SY acc x (by have:=B.len;omega);have K:r.2.2.length+1<=4294967296:=by
    rw[F];by_cases E:x∈u
    ·obtain⟨t,U,h6⟩:=B.some x E;rw[U];simp;omega
    ·rw[B.none x E];simp
   refine⟨vT r.1 r.2.1 (r.2.2++[(u.length:Int)]),?_,B.add (λb=>?_) (T _)⟩
   ·simp only[iN C,fE,fF C,cA,R,j1 _ [(u.length:Int)] (by simpa using K)];rw[L3 (by omega)]
   ·rw[S,F]) (by
   intro acc B
   simp only[bV,cG])
 exact⟨M,P,Q⟩
theorem Er{l l':List aD}{M:List (aD×List Int)}(h:rr l M)(b:aD):kU (some (l',M)) b=some (if b∈l then (((l.idxOf b:Nat):Int),true) else (0,false)):=by
 unfold kU;simp only[cA];by_cases u:b∈l
 ·obtain⟨t,A,_⟩:=h.some b u
  grind [cm,ce,Sw.idx]
 ·rw[h.none b u,nS u];simp[ce]
theorem MF(l:List aD)(b:aD)(h:l.length<=1000000):cV l b=some (if b∈l then ((l.idxOf b:Nat):Int) else -1):=by
 rw[<-Lr l b h]
 grind [cV,qF]
theorem Es(l:List aD)(b:aD)(h:l.length<=1000000):tN l b=some (if b∈l then (((l.idxOf b:Nat):Int),true) else (0,false)):=by
 unfold tN;rw[MF l b h];by_cases u:b∈l
 ·simp_all [K4,ib]
 grind [ib]
abbrev Pt:=Int×aD
def Iq(p:Pt)(peer E7:List aD):J5:=if p.2=aE then (p.1,0,0,aE) else if p.2∈peer then (p.1,1,((peer.idxOf p.2:Nat):Int),aE) else if p.2∈E7 then (p.1,2,((E7.idxOf p.2:Nat):Int),aE) else (p.1,3,0,p.2)
def same(p:Pt)(peer:List aD):Bool:=decide (peer[p.1.toNat]? =some p.2)
def F1(y7:List Pt)(peer E7:List aD):List J5:=(y7.filter λp=> !same p peer).map λp=>Iq p peer E7
theorem Ib(p:Pt)(peer E7:List aD)(h0:0<=p.1)(h1:p.1<peer.length)(hp:peer.length<=1000000)(hh:E7.length<=1000000):∃q,qG p peer E7=some (q,!same p peer)/\(same p peer=false->q=Iq p peer E7):=by
 unfold qG;obtain⟨x,B,C⟩:=vV (l:=peer) h0 h1;rw[B,cA];unfold same;rw[C];by_cases u:x=p.2
 ·simp_all
 have A:¬some x=some p.2:=by simpa using u
 simp only[u,A,dq,cG,aFe,Lr _ _ hp,Lr _ _ hh,cA]
 grind [Iq,aE,cm,ib]
theorem SZ{γ:Type}{peer aJp E7:List aD}{M:List (aD×List Int)}(h:rr peer M)(hh:E7.length<=1000000)(p:Pt)(acc:List J5)(ha:acc.length<=1000000)(k:List J5->Option γ):lp (β:=(List (Int×Int×Int×aD))) (λ(td:Int)=>bif (cm .lss td (([(.inl ():oC),(.inr (.inl (some (aJp,M))):oC),(.inr (.inr (.inl E7)):oC),(.inr (.inr (.inr (.inl ()))):oC)]:(List oC)).length:Int)) then (Sw.idx ([(.inl ():oC),(.inr (.inl (some (aJp,M))):oC),(.inr (.inr (.inl E7)):oC),(.inr (.inr (.inr (.inl ()))):oC)]:(List oC)) td).bind λaP4=>(iK aP4 p).bind λaKm=>bif aKm.2 then (Sw.app acc ([aKm.1]:(List (Int×Int×Int×aD)))).bind λaUh=>some (.done (.u9 aUh)) else some (.next (ar .add .i64 td (1:Int))) else some (.done (.u9 acc)) ) (0:Int) k=k (acc++[Iq p peer E7]):=by
 obtain⟨ws,A⟩:∃ws,ws=([(.inl ():oC),(.inr (.inl (some (aJp,M))):oC),(.inr (.inr (.inl E7)):oC),(.inr (.inr (.inr (.inl ()))):oC)]:(List oC)):=⟨_,rfl⟩;rw[<-A];have D:∀w∈ws,∃v,iK w p=some v:=by
  intro w F;rw[A] at F;simp only[sK,aEq,aHl] at F;rcases F with rfl | rfl | rfl | rfl
  ·exact⟨_,rfl⟩
  ·exact⟨_,by simp only[iK,mW,Er h,cA];rfl⟩
  ·exact⟨_,by simp only[iK,kV,Es E7 _ hh,cA];rfl⟩
  ·exact⟨_,rfl⟩
 have I:∀q:J5,Sw.app acc [q]=some (acc++[q]):=λq=>j1 acc [q] (by simp;omega);rw[show (0:Int)=(λ(i:Nat) (_:Unit)=>(i:Int)) 0 () from rfl,zL (l:=ws) (λ(i:Nat) (_:Unit)=>(i:Int)) () (λ_ w _=>match iK w p with | some v=>if v.2=true then .done (.u9 (acc++[v.1])) else .next () | none=> .next ()) (λ_=> .u9 acc) (by rw[A];unfold bR;simp)]
 ·have K:iK (.inl ()) p=some ((p.1,0,0,aE),decide (p.2=aE)):=rfl;have L:iK (.inr (.inl (some (aJp,M)))) p=some ((p.1,1,(if p.2∈peer then (((peer.idxOf p.2:Nat):Int),true) else (0,false)).1,aE),(if p.2∈peer then (((peer.idxOf p.2:Nat):Int),true) else (0,false)).2):=by
   simp only[iK,mW,Er h,cA]
  have N:iK (.inr (.inr (.inl E7))) p=some ((p.1,2,(if p.2∈E7 then (((E7.idxOf p.2:Nat):Int),true) else (0,false)).1,aE),(if p.2∈E7 then (((E7.idxOf p.2:Nat):Int),true) else (0,false)).2):=by
   simp only[iK,kV,Es E7 _ hh,cA]
  have O:iK (.inr (.inr (.inr (.inl ())))) p=some ((p.1,3,0,p.2),true):=rfl;rw[A];simp only[sX,K,L,N,O];unfold Iq;by_cases B:p.2=aE
  ·simp[B,out]
  by_cases E:p.2∈peer
  ·simp[B,E,out]
  by_cases G:p.2∈E7
  ·simp[B,E,G,out]
  ·simp[B,E,G,out]
 ·intro P x R u C;obtain⟨v,D⟩:=D x (by rw[C];simp);have Q:P.length<=4:=by
   have:ws.length=4:=(by rw[A];rfl);rw[C] at this;simp at this;omega
  simp only[iN C,fE,fF C,cA,D,I];cases M8:v.2 with
  |true=>simp[Jl]
  |false=>simp only[cG,mu,M5,Jl];rw[L3 (by omega)]
 ·intro u;simp only[bV,cG]
def jg(n prev:Int)(x:Pt):Bool:=decide (x.1<=prev) || decide (x.1>=n)
def K2(n:Int):Int->List Pt->Bool | _,[]=>true | prev,x::l=> !jg n prev x && K2 n x.1 l
theorem ir{n:Int}:∀{l:List Pt} {prev:Int},K2 n prev l=true->∀x∈l,prev<x.1/\x.1<n
 | [],_,_,x,u=>by grind
 |y::l,prev,h,x,u=>by
  simp[K2,bm,aEf] at h;have A:=h.1;unfold jg at A;simp at A;rcases sK.1 u with rfl | u
  ·omega
  ·have:=ir h.2 x u;omega
theorem MG{γ:Type}(l:List Pt)(n:Int)(z:γ)(hl:l.length<=1000000)(k:Unit->Option γ):lp (β:=Unit) (λ(s17:Int×Int)=>bif (cm .lss s17.2 (l.length:Int)) then (Sw.idx l s17.2).bind λz27=>(bif (cm .leq z27.1 s17.1) then some true else some (cm .geq z27.1 n)).bind λx29=>bif x29 then some (.done (.ret z)) else some (.next (z27.1,(ar .add .i64 s17.2 (1:Int)))) else some (.done (.u9 ())) ) ((-1:Int),(0:Int)) k=if K2 n (-1) l then k () else some z:=by
 rw[show ((-1:Int),(0:Int))=(λ(i:Nat) (acc:Int)=>(acc,(i:Int))) 0 (-1) from rfl,Cb (l:=l) (λ(i:Nat) (acc:Int)=>(acc,(i:Int))) (λ_ _=>True) (λacc x=>if jg n acc x then .done (.ret z) else .next x.1) (λ_=> .u9 ()) (-1) (by unfold bR;omega) trivial]
 ·have:∀(l:List Pt) (prev:Int),vK (λ(acc:Int) (x:Pt)=>(if jg n acc x then Step.done (Ex.ret z) else .next x.1:Step Int (Ex Unit γ))) (λ_=> .u9 ()) prev l=if K2 n prev l then .u9 () else .ret z:=by
   intro l
   induction l<;>grind [vK,K2,jg]
  rw[this];cases K2 n (-1) l<;>simp[out]
 ·rintro u x B acc rfl -;have A:u.length<=1000000:=by simp at hl;omega
  refine⟨?_,λ_ _=>trivial⟩;simp only[lQ,fE,jT,cA]
  grind [ib,cle,L3,jg,Jl]
 ·rintro acc -;simp only[bV,cG]
theorem W9(l:List Pt)(peer E7:List aD):(F1 l peer E7).length<=l.length:=by simp[F1,sv,aGr]
theorem Lu(pre:List Pt)(x:Pt)(peer E7:List aD):F1 (pre++[x]) peer E7=F1 pre peer E7++(if same x peer then [] else [Iq x peer E7]):=by
 grind [F1]
theorem MH:opt 0=none:=rfl
theorem YJ{n:Int}(h:n≠0):opt n=some n:=by unfold opt;rw[nS h]
theorem fo(l:List Pt)(peer E7:List aD)(hl:l.length<=1000)(hh:E7.length<=1000000):mX l peer E7=some (if D5 peer E7≠0 then ([],some (D5 peer E7)) else if K2 (peer.length:Int) (-1) l then (F1 l peer E7,none) else ([],some 1)):=by
 unfold mX;rw[Lt peer E7 hh,cA];by_cases u:D5 peer E7≠0
 ·rw[YJ u,sM u];rfl
 have u:D5 peer E7=0:=by simpa using u
 have B:1<=peer.length/\peer.length<=32:=by
  unfold D5 at u;split at u
  ·cases u
  ·omega
 rw[u,MH];simp only[fA,cG];rw[MG l _ _ (by omega)];cases hr:K2 (peer.length:Int) (-1) l with
 |false=>simp
 |true=>
  simp only[K4];obtain⟨M,F,G⟩:=Ve peer B.1 B.2;rw[G,cA];simp only[fA,cG];have C:((0:Int),([]:List J5))=(λ(i:Nat) (acc:List J5)=>((i:Int),acc)) 0 []:=rfl;rw[C];refine(sI (l:=l) (r:=some (F1 l peer E7,none)) (λ(i:Nat) (acc:List J5)=>((i:Int),acc)) (λA acc=>acc=F1 A peer E7) (λacc=>acc) [] (by unfold bR;omega) rfl ?_ ?_ ?_).trans (by simp)
  ·rintro A x O acc hd rfl;have D:=ir hr x (by rw[hd];simp);have L:A.length<=1000:=(by rw[hd] at hl;simp at hl;omega);have N:=W9 A peer E7;obtain⟨y,I,K⟩:=vV (l:=peer) (n:=x.1) (by omega) D.2;have E:same x peer=decide (y=x.2):=(by unfold same;rw[K];simp);refine⟨F1 A peer E7++(if same x peer then [] else [Iq x peer E7]),?_,(Lu _ _ _ _).symm⟩;simp only[iN hd,fE,fF hd,cA,jp,I,<-E];rw[SZ F hh x (F1 A peer E7) (by omega)];rw[L3 (by omega)];cases same x peer<;>simp
  ·rintro acc rfl;simp only[bV,cG]
  ·rintro acc rfl;rfl
theorem Rr(p:Pt)(peer E7:List aD):(Iq p peer E7).1=p.1:=by grind [Iq]
theorem MI(p:Pt)(peer E7:List aD):0<=(Iq p peer E7).2.1/\(Iq p peer E7).2.1<=3:=by grind [Iq]
theorem Gx{n:Int}{peer E7:List aD}:∀{l:List Pt} {prev aJo:Int},K2 n prev l=true->aJo<=prev->Dg n aJo (F1 l peer E7)=true
 | [],_,_,_,_=>rfl
 |x::l,prev,aJo,h,C=>by
  simp only[K2,bm,aEf] at h;have u:=h.1;unfold jg at u;simp at u;cases hs:same x peer with
  |true=>
   have e:F1 (x::l) peer E7=F1 l peer E7:=(by grind [F1]);rw[e];exact Gx h.2 (by omega)
  |false=>
   have e:F1 (x::l) peer E7=Iq x peer E7::F1 l peer E7:=(by unfold F1;simp[hs]);have B:=MI x peer E7;have A:Nl n aJo (Iq x peer E7)=false:=by
    grind [Nl,Rr]
   rw[e];simp only[Dg,A,aFe,aIc];rw[Rr];exact Gx h.2 (aG4 _)
theorem MJ(p:Pt)(peer E7:List aD):Bh (Iq p peer E7) peer E7=(p.2,true):=by
 have B:∀(l:List aD),p.2∈l->¬(((l.idxOf p.2:Nat):Int)<0\/((l.idxOf p.2:Nat):Int)>=l.length)/\l.getD (((l.idxOf p.2:Nat):Int).toNat) []=p.2:=by
  intro l h;have C:=aGn h;refine⟨by omega,?_⟩;simp[vo,sE C]
 unfold Iq;by_cases u:p.2=aE
 ·simp[u,Bh]
 by_cases A:p.2∈peer
 ·obtain⟨D,E⟩:=B peer A;simp only[u,A,M5,K4,Bh];rw[nS (by decide),nS (by decide)];simp only[show¬(1:Int)=2 by decide,M5,D,E]
 by_cases F:p.2∈E7<;>simp_all [M5,K4,Bh,nS]
def news(l:List Pt)(peer:List aD):List Pt:=l.filter λp=> !same p peer
theorem GI(l:List Pt)(peer E7:List aD):y7 peer E7 (F1 l peer E7)=(news l peer,[]):=by
 unfold y7;have u:∀(l:List Pt) (i:Nat) (acc:List (Int×aD)×List Int),(((l.map λp=>Iq p peer E7).zipIdx i).foldl (λacc x=>Rq peer E7 x.1 acc) acc)=(acc.1++l,acc.2):=by
  intro l
  induction l<;>simp_all [V0,aG0,xz,Rq,MJ,Rr]
 grind [F1,news]
theorem aJc(l:List Pt)(peer E7:List aD)(hl:l.length<=1000)(hh:E7.length<=1000000)(he:D5 peer E7=0)(hr:K2 (peer.length:Int) (-1) l=true):nR (F1 l peer E7) peer E7=some (news l peer,[],none):=by
 rw[ME _ _ _ (by grind [W9]) hh];have:Vc (D5 peer E7) peer.length (F1 l peer E7)=0:=by
  unfold Vc;rw[he,Gx hr (aG4 _)];rfl
 rw[sM this,GI]
def Ir(acc:List aD)(l:List Pt):List aD:=l.foldl (λacc p=>acc.set p.1.toNat p.2) acc
theorem kq{n:Int}{peer:List aD}:∀{l:List Pt} {prev:Int} {acc:List aD},-1<=prev->K2 n prev l=true->(∀i:Nat,prev<(i:Int)->acc[i]? =peer[i]?)->Ir acc (news l peer)=Ir acc l
 | [],_,_,_,_,_=>rfl
 |x::l,prev,acc,G,h,A=>by
  simp only[K2,bm,aEf] at h;have B:=h.1;unfold jg at B;simp at B;have E:x.1=((x.1.toNat:Nat):Int):=by omega
  cases hs:same x peer with
  |true=>
   have e:news (x::l) peer=news l peer:=(by unfold news;simp[hs]);have D:acc.set x.1.toNat x.2=acc:=by
    have C:peer[x.1.toNat]? =some x.2:=(by unfold same at hs;simpa using hs);rw[<-A x.1.toNat (by omega)] at C;apply aF1;intro i;rw[aHv];split
    ·rename_i u;subst u;split
     ·exact C.symm
     ·rename_i F;rw[zy (by omega)]
    ·rfl
   rw[e,kq (by omega) h.2 (λi u=>A i (by omega))];show _=Ir (acc.set _ _) l;rw[D]
  |false=>
   have e:news (x::l) peer=x::news l peer:=(by unfold news;simp[hs]);rw[e];show Ir (acc.set _ _) (news l peer)=Ir (acc.set _ _) l;refine kq (by omega) h.2 (λi u=>?_);rw[aEu (by omega)];exact A i (by omega)
theorem wh{peer E7:List aD}(h1:1<=peer.length)(h2:peer.length<=32)(h3:E7.length<=8)(h4:E7.Nodup):D5 peer E7=0:=by
 grind [D5,Gw]
theorem aQp{n:Int}{l:List Pt}{peer:List aD}(hr:K2 n (-1) l=true):∀x∈news l peer,0<=x.1/\x.1<n:=by
 intro x u;have:=ir hr x (aFg.1 u).1;omega
end Go.I9
namespace Go.A1
open Go.Pl Go Go.Sw Go.Mo
def TA:Nat:=3988292384
def TB(r:Nat):Nat:=if r % 2=1 then r / 2 ^^^ TA else r / 2
theorem TC{r:Nat}(h:r<4294967296):TB r<4294967296:=by
 unfold TB;split
 ·have:r / 2 ^^^ TA<2 ^ 32:=aGg (by omega) (by simp[TA])
  grind
 grind
def Vf:Nat->Nat->Nat | 0,r=>r | n+1,r=>TB (Vf n r)
theorem CM{n r:Nat}(h:r<4294967296):Vf n r<4294967296:=by
 induction n with
 |zero=>exact h
 |succ n u=>exact TC u
def Is(r:Nat)(b:Nat):Nat:=Vf 8 (r ^^^ b)
theorem Rs{r b:Nat}(h:r<4294967296)(hb:b<256):Is r b<4294967296:=by
 refine CM ?_;have:r ^^^ b<2 ^ 32:=aGg (by omega) (by omega)
 grind
def Vg(l:List Nat):Nat:=l.foldl Is 4294967295
theorem Vh(l:List Nat)(r:Nat)(h:r<4294967296)(hb:∀b∈l,b<256):l.foldl Is r<4294967296:=by
 induction l generalizing r<;>grind [Rs]
def Bytes(l:List Int):Prop:=∀x∈l,0<=x/\x<=255
def nat(l:List Int):List Nat:=l.map Int.toNat
theorem Vi{l:List Int}(h:Bytes l):∀b∈nat l,b<256:=by
 intro b u;obtain⟨x,A,rfl⟩:=ot.1 u;have:=h x A;omega
theorem MK(l:List Int)(h:Bytes l)(hl:l.length<=1000000):sS l=some ((4294967295 - Vg (nat l):Nat):Int):=by
 unfold sS;rw[show ((4294967295:Int),(0:Int))=(((⟨4294967295,by decide⟩:{r:Nat // r<4294967296}).1:Int),((0:Nat):Int)) from rfl];rw[zL (l:=l) (λi (r:{r:Nat // r<4294967296})=>((r.1:Int),(i:Int))) ⟨4294967295,by decide⟩ (λ_ x r=> .next ⟨Is r.1 x.toNat % 4294967296,aGx _ (by decide)⟩) (λr=> .u9 (r.1:Int)) (by unfold bR;omega)]
 ·have:∀(l:List Int) (i:Nat) (r:{r:Nat // r<4294967296}),Bytes l->sX (λ(_:Nat) (x:Int) (r:{r:Nat // r<4294967296})=>(Step.next ⟨Is r.1 x.toNat % 4294967296,aGx _ (by decide)⟩:Step _ (Ex Int Int))) (λr=> .u9 (r.1:Int)) i r l= .u9 (((nat l).foldl Is r.1:Nat):Int):=by
   intro l
   induction l with
   |nil=>intro i r _;rfl
   |cons x l L=>
    intro i r A;simp only[sX,nat,V0,xz];have u:=L (i+1) ⟨Is r.1 x.toNat % 4294967296,aGx _ (by decide)⟩ (λy I=>A y (by simp[I]));rw[u];have:=A x (by simp);have e:Is r.1 x.toNat % 4294967296=Is r.1 x.toNat:=aB4 (Rs r.2 (by omega));show Ex.u9 (((nat l).foldl Is (Is r.1 x.toNat % 4294967296):Nat):Int)=_;rw[e];rfl
  rw[this l 0 _ h];have B:(nat l).foldl Is 4294967295<4294967296:=Vh _ _ (by decide) (Vi h);simp only[out,Vg];rw[aCs B]
 ·rintro K x N ⟨r,C⟩ rfl;have M:=h x (by simp);obtain⟨b,rfl⟩:∃b:Nat,x=(b:Int):=⟨x.toNat,by omega⟩;have A:b<256:=by omega
  simp only[lQ,fE,jT,cA];have D:r ^^^ b<4294967296:=by
   have:r ^^^ b<2 ^ 32:=aGg (by omega) (by omega);simpa using this
  rw[WR C (by omega),show ((((r ^^^ b:Nat):Int)),(0:Int))=(λi:Nat=>((Vf i (r ^^^ b):Int),(i:Int))) 0 from rfl];rw[El (λi:Nat=>((Vf i (r ^^^ b):Int),(i:Int))) 8 ((Vf 8 (r ^^^ b):Nat):Int) (by unfold bR;omega)]
  ·simp only[Jl,CC (n:=K.length) (m:=1000000) (by simp at hl;omega) (by omega),gR];rw[aB4 (Rs C A)];rfl
  ·intro i G;have B:=CM (n:=i) D;have E:cm .lss (i:Int) 8=true:=(by simp[cm];omega);have F:(Vf i (r ^^^ b)) / 2<4294967296:=(by omega);simp only[E,fE,aEv,aCq B,aCr (aGx _ (by decide:0<2))];rw[WR F (by split<;>decide),CC (n:=i) (m:=8) G (by omega)];simp only[Vf,TB,TA];split
   ·rename_i u;simp[u]
   ·rename_i u;simp[u]
  ·simp[cm]
 ·rintro⟨r,C⟩;simp[bV]
abbrev eF:=Int×List Int×List aD
def zQ(x:Int):Bool:=decide (x<0) || decide (x>2147483647)
def dH(f:eF):Int:=if f.1<0\/f.1>15 then 1 else if f.2.1.length>12\/f.2.2.length>32 then 2 else if f.2.1.any zQ then 1 else 0
theorem Vj{D:Type}(r:Nat->D)(l:List Int):∀i,sX (λ(i:Nat) (x:Int) (_:Unit)=>(if zQ x then Step.done (Ex.ret (r i)) else .next ():Step Unit (Ex Unit D))) (λ_=> .u9 ()) i () l=match l.findIdx? zQ with | some j=> .ret (r (i+j)) | none=> .u9 ():=by
 induction l<;>grind [sX]
theorem Vk(l:List Int):l.any zQ=(l.findIdx? zQ).isSome:=by
 rw[List.findIdx?_isSome]
theorem GL(x:Int):oG x=some (zQ x):=by
 grind [oG,zQ,cm]
theorem Vl(l:List Int)(h:l.length<=1000000):bL l=some (l.any zQ):=by
 unfold bL cS;rw[show (0:Int)=((0:Nat):Int) from rfl,zL (l:=l) (λi (_:Unit)=>(i:Int)) () (λi x _=>if zQ x then .done (.ret (i:Int)) else .next ()) (λ_=> .u9 ()) (by unfold bR;omega)]
 ·rw[Vj (λi=>(i:Int)),Vk]
  grind [zQ,out,cm]
 ·rintro u x A acc rfl;simp only[lQ,fE,jT,cA,GL,CC (n:=u.length) (m:=1000000) (by grind) (by omega)];cases zQ x<;>simp[Jl]
 simp[bV]
theorem Co(f:eF):oX f=some (if dH f=0 then none else some (dH f)):=by
 obtain⟨s,u,bs⟩:=f;unfold oX dH;by_cases A:s<0
 ·have:cm .lss s 0=true:=by simp[cm,A]
  simp[this,A]
 have B:cm .lss s 0=false:=by simp[cm];omega
 by_cases D:s>15
 ·have:cm .gtr s 15=true:=by simp[cm];omega
  simp[B,this,D]
 have E:cm .gtr s 15=false:=by simp[cm];omega
 have F:¬(s<0\/s>15):=by omega
 simp only[B,E,cG,cA,F,M5];by_cases G:u.length>12
 ·have:cm .gtr (u.length:Int) 12=true:=by simp[cm];omega
  simp[this,G]
 have C:cm .gtr (u.length:Int) 12=false:=by simp[cm];omega
 by_cases I:bs.length>32
 ·have:cm .gtr (bs.length:Int) 32=true:=by simp[cm];omega
  simp[C,this,I]
 have K:cm .gtr (bs.length:Int) 32=false:=by simp[cm];omega
 have L:¬(u.length>12\/bs.length>32):=by omega
 simp only[C,K,cG,cA,L,M5,Vl u (by omega)];cases u.any zQ<;>simp
def vf:Nat->Nat->List Int | 0,n=>[(n:Int)] | k+1,n=>if n<128 then [(n:Int)] else ((128+n % 128:Nat):Int)::vf k (n / 128)
theorem Lv:∀k n,n<128 ^ (k+1)->Bytes (vf k n)/\(vf k n).length<=k+1
 | 0,n,h=>by
  simp at h;exact⟨λx u=>by simp[vf] at u;omega,by simp[vf]⟩
 |k+1,n,h=>by
  unfold vf;split
  ·exact⟨λx u=>by simp at u;omega,by simp⟩
  ·have A:n / 128<128 ^ (k+1):=(by rw[aGo] at h;omega);obtain⟨B,C⟩:=Lv k (n / 128) A;refine⟨λx u=>?_,by simp;omega⟩;rcases sK.1 u with rfl | u
   ·grind
   ·exact B x u
theorem Pp{γ:Type}{step:Int×List Int->Option (Step (Int×List Int) (Ex (Int×List Int) γ))}
  (h1:∀(n:Nat) acc,128<=n->n<34359738368->acc.length<=1000000->step ((n:Int),acc)=some (.next (((n / 128:Nat):Int),acc++[((128+n % 128:Nat):Int)])))
  (h2:∀(n:Nat) acc,n<128->step ((n:Int),acc)=some (.done (.u9 ((n:Int),acc)))):
  ∀(k n:Nat) (acc:List Int) (f:Nat),n<128 ^ (k+1)->n<34359738368->acc.length+k<=1000000->k<f->∃(m:Nat) (C3:List Int),loop step f ((n:Int),acc)=some (.u9 ((m:Int),C3))/\m<128/\C3++[(m:Int)]=acc++vf k n
 | 0,n,acc,f,u,_,_,B=>by
  obtain⟨f,rfl⟩:∃f',f=f'+1:=⟨f - 1,by omega⟩;simp at u;exact⟨n,acc,by simp[loop,h2 n acc u],u,rfl⟩
 |k+1,n,acc,f,u,F,G,B=>by
  obtain⟨f,rfl⟩:∃f',f=f'+1:=⟨f - 1,by omega⟩;by_cases A:n<128
  ·exact⟨n,acc,by simp[loop,h2 n acc A],A,by simp[vf,A]⟩
  ·obtain⟨m,C3,C,D,E⟩:=Pp h1 h2 k (n / 128) (acc++[((128+n % 128:Nat):Int)]) f (by rw[aGo] at u;omega) (by omega) (by simp;omega) (by omega)
   grind [loop,vf]
theorem aEw:∀a:Fin 256,ar .or .u8 ((a.1:Nat):Int) 128=((128+a.1 % 128:Nat):Int):=by decide+kernel
theorem Bi(n:Nat):IntKind.wrap .u8 (n:Int)=((n % 256:Nat):Int):=rfl
theorem aEx(n:Nat):sh .shr .i64 (n:Int) 7=((n / 128:Nat):Int):=by
 show Int.fdiv _ _=_;simp[min,IntKind.bits,aEa]
theorem Rt:∀s:Fin 16,∀n:Fin 13,ar .or .u8 (sh .shl .u8 (IntKind.wrap .u8 (s.1:Int)) 4) (IntKind.wrap .u8 (n.1:Int))=IntKind.wrap .u8 (ar .add .i64 (ar .mul .i64 16 (s.1:Int)) (n.1:Int)):=by decide+kernel
def Gy(f:eF):List Int:=[IntKind.wrap .u8 (ar .add .i64 (ar .mul .i64 16 f.1) (f.2.1.length:Int)),IntKind.wrap .u8 (f.2.2.length:Int)]
def vs(ns:List Int):List Int:=ns.flatMap λn=>vf 4 n.toNat
def body(f:eF):List Int:=Gy f++vs f.2.1++f.2.2.flatten
def ng(v:Nat):List Int:=[((v / 16777216:Nat):Int),((v / 65536 % 256:Nat):Int),((v / 256 % 256:Nat):Int),((v % 256:Nat):Int)]
def aX(f:eF):List Int:=body f++ng (4294967295 - Vg (nat (body f)))
theorem L5{α A B β γ:Type}{step:α->Option (Step α (Ex β γ))}{l:List A}{k:β->Option γ}(st:Nat->B->α)(I:Nat->B->Prop)(H3:B)(g:Nat->A->B->B)(fin:B->β)(hf:l.length<bR)(h0:I 0 H3)(hs:∀pre x rest acc,l=pre++x::rest->I pre.length acc->step (st pre.length acc)=some (.next (st (pre.length+1) (g pre.length x acc)))/\I (pre.length+1) (g pre.length x acc))(he:∀acc,I l.length acc->step (st l.length acc)=some (.done (.u9 (fin acc)))):lp step (st 0 H3) k=k (fin ((l.zipIdx).foldl (λacc x=>g x.2 x.1 acc) H3)):=by
 have D:∀(rest pre:List A) (acc:B) (f:Nat),l=pre++rest->I pre.length acc->rest.length<f->loop step f (st pre.length acc)=some (.u9 (fin ((rest.zipIdx pre.length).foldl (λacc x=>g x.2 x.1 acc) acc))):=by
  intro rest
  induction rest with
  |nil=>
   intro pre acc f u C hf;obtain⟨f,rfl⟩:∃f',f=f'+1:=⟨f - 1,by simp at hf;omega⟩;have:=he acc (by rw[u,rf];exact C);rw[u,rf] at this;simp[loop,this]
  |cons x rest G=>
   intro pre acc f u C hf;obtain⟨f,rfl⟩:∃f',f=f'+1:=⟨f - 1,by simp at hf;omega⟩;obtain⟨E,F⟩:=hs pre x rest acc u C;simp only[loop,E];have:=G (pre++[x]) (g pre.length x acc) f (by rw[u];simp) (by simpa using F) (by simp at hf;omega);simpa using this
 have h:=D l [] H3 bR rfl h0 hf;unfold lp;simp only[ue] at h;rw[h]
theorem H0{A:Type}(w:A->List Int):∀(l:List A) (i:Nat) (acc:List Int),(l.zipIdx i).foldl (λacc x=>acc++w x.1) acc=acc++l.flatMap w
 | [],_,acc=>by simp
 |x::l,i,acc=>by simp[H0 w l]
theorem j1{α:Type}(xs ys:List α)(h:xs.length+ys.length<=4294967296):Sw.app xs ys=some (xs++ys):=by simp_all [Sw.app,sM]
theorem TD{γ:Type}{step:Int×List Int->Option (Step (Int×List Int) (Ex (Int×List Int) γ))}{k:Int×List Int->Option γ}(h1:∀(n:Nat) acc,128<=n->n<34359738368->acc.length<=1000000->step ((n:Int),acc)=some (.next (((n / 128:Nat):Int),acc++[((128+n % 128:Nat):Int)])))(h2:∀(n:Nat) acc,n<128->step ((n:Int),acc)=some (.done (.u9 ((n:Int),acc))))(n:Nat)(acc:List Int)(hn:n<34359738368)(ha:acc.length<=900000):∃(m:Nat) (C3:List Int),lp step ((n:Int),acc) k=k ((m:Int),C3)/\m<128/\C3++[(m:Int)]=acc++vf 4 n:=by
 obtain⟨m,C3,u,A,B⟩:=Pp h1 h2 4 n acc bR (by omega) hn (by omega) (by simp[bR])
 grind [lp]
structure Good (f:eF):Prop where
 s0:0<=f.1
 s1:f.1<=15
 ns:f.2.1.length<=12
 bs:f.2.2.length<=32
 num:∀n∈f.2.1,0<=n/\n<=2147483647
 E2:∀b∈f.2.2,b.length=8/\Bytes b
theorem qZ{f:eF}(h:dH f=0)(hb:∀b∈f.2.2,b.length=8/\Bytes b):Good f:=by
 unfold dH at h;split at h
 ·cases h
 ·split at h
  ·cases h
  ·split at h
   ·cases h
   ·rename_i u A B;refine⟨by omega,by omega,by omega,by omega,λn C=>?_,hb⟩
    grind [zQ,List.any_eq_true]
theorem Vm{ns:List Int}(h:∀n∈ns,0<=n/\n<=2147483647):Bytes (vs ns)/\(vs ns).length<=5*ns.length:=by
 induction ns with
 |nil=>exact⟨λx u=>by simp[vs] at u,by simp[vs]⟩
 |cons n ns C=>
  obtain⟨A,E⟩:=C (λx u=>h x (by simp[u]));have D:=h n (by simp);obtain⟨B,F⟩:=Lv 4 n.toNat (by omega);refine⟨λx u=>?_,?_⟩
  ·simp only[vs,List.flatMap_cons,oq] at u;rcases u with u | u
   ·exact B x u
   ·exact A x u
  grind [vs,List.length_append,List.length_cons]
theorem R7{bs:List aD}(h:∀b∈bs,b.length=8/\Bytes b):Bytes bs.flatten/\bs.flatten.length=8*bs.length:=by
 induction bs with
 |nil=>exact⟨λx u=>by simp at u,rfl⟩
 |cons b bs C=>
  obtain⟨A,D⟩:=C (λx u=>h x (by simp[u]));obtain⟨E,B⟩:=h b (by simp);refine⟨λx u=>?_,by grind⟩;simp only[aG9,oq] at u;rcases u with u | u
  ·exact B x u
  ·exact A x u
theorem uH{f:eF}(h:Good f):Bytes (body f)/\(body f).length<=1000:=by
 obtain⟨A,C⟩:=Vm h.num;obtain⟨B,D⟩:=R7 h.E2;have:=h.ns;have:=h.bs;refine⟨λx u=>?_,by simp only[body,Gy,cM,qf,ue];omega⟩;simp only[body,oq] at u;rcases u with (u | u) | u
 ·simp only[Gy,sK,aEq,aHl] at u;rcases u with rfl | rfl
  ·have:=xE .u8 (ar .add .i64 (ar .mul .i64 16 f.1) (f.2.1.length:Int));unfold zY at this;simpa[IntKind.min,IntKind.max,IntKind.signed,IntKind.bits] using this
  grind [xE,zY,IntKind.min,IntKind.max,IntKind.signed,IntKind.bits]
 ·exact A x u
 ·exact B x u
theorem Cg{f:eF}(h:Good f)(he:dH f=0):lM f=some (aX f,none):=by
 obtain⟨s,u,bs⟩:=f;have M:=h.s0;have N:=h.s1;have C:=h.ns;have D:=h.bs;have E:=h.num;have F:=h.E2;simp only at C D E F M N;obtain⟨af,ai⟩:=Vm E;obtain⟨aj,ak⟩:=R7 F;obtain⟨K,ll⟩:=uH h;unfold lM;rw[Co,sM he];simp only[cA,fA,cG];have O:ar .or .u8 (sh .shl .u8 (IntKind.wrap .u8 s) 4) (IntKind.wrap .u8 (u.length:Int))=IntKind.wrap .u8 (ar .add .i64 (ar .mul .i64 16 s) (u.length:Int)):=by
  have:=Rt ⟨s.toNat,by omega⟩ ⟨u.length,by omega⟩;have e:((s.toNat:Nat):Int)=s:=by omega
  simpa[e] using this
 rw[O,show ((0:Int),[IntKind.wrap .u8 (ar .add .i64 (ar .mul .i64 16 s) (u.length:Int)),IntKind.wrap .u8 (bs.length:Int)])=(((0:Nat):Int),Gy (s,u,bs)) from rfl];rw[L5 (l:=u) (λi (acc:List Int)=>((i:Int),acc)) (λi acc=>acc.length<=2+5*i) (Gy (s,u,bs)) (λ_ n acc=>acc++vf 4 n.toNat) (λacc=>acc) (by unfold bR;omega) (by simp[Gy])]
 ·rw[H0 (λn:Int=>vf 4 n.toNat)];rw[show ((0:Int),Gy (s,u,bs)++u.flatMap (λn=>vf 4 n.toNat))=(((0:Nat):Int),Gy (s,u,bs)++vs u) from rfl];rw[L5 (l:=bs) (λi (acc:List Int)=>((i:Int),acc)) (λi acc=>acc.length<=100+8*i) (Gy (s,u,bs)++vs u) (λ_ z acc=>acc++z) (λacc=>acc) (by unfold bR;omega) (by simp[Gy];omega)]
  ·rw[H0 (λz:aD=>z)];have P:Gy (s,u,bs)++vs u++bs.flatMap (λz=>z)=body (s,u,bs):=(by simp[body,List.flatMap_id']);rw[P,MK _ K (by omega)];simp only[cA];have B0:Vg (nat (body (s,u,bs)))<4294967296:=Vh _ _ (by decide) (Vi K);generalize hv:4294967295 - Vg (nat (body (s,u,bs)))=v;have M8:v<4294967296:=(by omega);have Q:sh .shr .u32 (v:Int) 24=((v / 16777216:Nat):Int):=by
    show Int.fdiv _ _=_;have:(2:Int) ^ min (24:Int).toNat (IntKind.bits .u32)=16777216:=(by decide);rw[this,aEa _ (by omega)];omega
   have R:sh .shr .u32 (v:Int) 16=((v / 65536:Nat):Int):=by
    show Int.fdiv _ _=_;have:(2:Int) ^ min (16:Int).toNat (IntKind.bits .u32)=65536:=(by decide);rw[this,aEa _ (by omega)];omega
   have S:sh .shr .u32 (v:Int) 8=((v / 256:Nat):Int):=by
    show Int.fdiv _ _=_;have:(2:Int) ^ min (8:Int).toNat (IntKind.bits .u32)=256:=(by decide);rw[this,aEa _ (by omega)];omega
   rw[Q,R,S,Bi,Bi,Bi,Bi];rw[j1 _ _ (by simp;omega)];simp only[cA,aX,hv,ng];have T:v / 16777216 % 256=v / 16777216:=aB4 (by omega);simp[T]
  ·rintro B z ac acc rfl hI;obtain⟨hz,_⟩:=F z (by simp);simp only[lQ,fE,jT,cA];have qp:B.length<=32:=(by simp at D;omega);rw[j1 _ _ (by omega),CC (n:=B.length) (m:=1000000) (by simp at D;omega) (by omega)];exact⟨rfl,by simp;omega⟩
  ·intro acc _;simp[bV]
 ·rintro B n ac acc rfl hI;have hn:=E n (by simp);obtain⟨m,rfl⟩:∃m:Nat,n=(m:Int):=⟨n.toNat,by omega⟩;simp only[lQ,fE,jT,cA];have U:acc.length<=900000:=by simp at C;omega
  obtain⟨q,C3,G,h4,L⟩:=TD (γ:=Step (Int×List Int) (Ex (List Int) (List Int×Option Int))) (step:=λ(A:Int×(List Int))=>
    bif (cm .gtr A.1 (127:Int)) then
     (Sw.app A.2 ([(ar .or .u8 (IntKind.wrap .u8 A.1) (128:Int))]:(List Int))).bind λX=>
      some (.next ((sh .shr .i64 A.1 (7:Int)),X))
    else
     some (.done (.u9 (A.1,A.2))))
   (k:=λ(I:Int×(List Int))=>(Sw.app I.2 ([(IntKind.wrap .u8 I.1)]:(List Int))).bind λab=>some (.next ((ar .add .i64 (B.length:Int) (1:Int)),ab)))
   (by
    intro n acc V h2 G;have:cm .gtr (n:Int) 127=true:=(by simp[cm];omega);simp only[this,fE];rw[Bi,aEw ⟨n % 256,aGx _ (by decide)⟩,j1 _ _ (by simp;omega),aEx];simp only[cA]
    rw[Nat.mod_mod_of_dvd _ (by decide:128 ∣ 256)])
   (by
    intro n acc V;have:cm .gtr (n:Int) 127=false:=by simp[cm];omega
    simp[this]) m acc (by omega) U
  have ad:=(Lv 4 m (by omega)).2;have ae:C3.length+1=acc.length+(vf 4 m).length:=by
   have:=congrArg List.length L;simpa using this
  rw[G];simp only[Bi];rw[j1 _ _ (by simp at C;simp;omega),aB4 (by omega:q<256),L,CC (n:=B.length) (m:=1000000) (by simp at C;omega) (by omega)];refine⟨by simp,by simp;omega⟩
 ·intro acc _;simp[bV]
theorem Zf{f:eF}(h:Good f):(aX f).length<=1000000:=by
 grind [uH,aX,ng]
theorem cl(m n:Int):cm .lss m n=decide (m<n):=rfl
theorem cg(m n:Int):cm .gtr m n=decide (m>n):=rfl
theorem cle(m n:Int):cm .leq m n=decide (m<=n):=rfl
theorem ib(m n:Int):cm .geq m n=decide (m>=n):=rfl
theorem ce(m n:Int):cm .eql m n=decide (m=n):=rfl
theorem cn(m n:Int):cm .neq m n=decide (m≠n):=by show (m != n)=_;grind
theorem O9{m n:Int}(h: -9223372036854775808<=m+n/\m+n<=9223372036854775807):ar .add .i64 m n=m+n:=wrap_i64 h
theorem bw{m n:Int}(h: -9223372036854775808<=m - n/\m - n<=9223372036854775807):ar .sub .i64 m n=m - n:=wrap_i64 h
theorem L3{n:Nat}(h:n<=4611686018427387904):ar .add .i64 (n:Int) 1=((n+1:Nat):Int):=by grind [O9]
theorem Bytes.tail{x:Int}{l:List Int}(h:Bytes (x::l)):Bytes l:=λy u=>h y (by grind)
theorem Bytes.head{x:Int}{l:List Int}(h:Bytes (x::l)):0<=x/\x<=255:=h x (by simp)
def Vn:List Int->Int×Bool×List Int | []=>(0,false,[]) | b::r=>(b,true,r)
theorem Ru(l:List Int)(hl:l.length<=1000000):dN l=some (Vn l):=by
 unfold dN;cases l with
 |nil=>rfl
 |cons b r=>
  have u:Sw.idx (b::r) 0=some b:=rfl;have A:Sw.sub (b::r) 1 ((b::r).length:Int)=some r:=by
   unfold Sw.sub;rw[sM (by grind)];simp
  rw[u,A];rfl
def vX:Nat->Nat->Nat->List Int->Int×Bool×List Int | 0,_,_,l=>(0,false,l) | _+1,_,_,[]=>(0,false,[]) | k+1,i,v,b::l=>if b<128 then (((v+b.toNat % 128*128 ^ i:Nat):Int),decide (v+b.toNat % 128*128 ^ i<=2147483647) && (decide (0<b) || decide (i=0)),l) else vX k (i+1) (v+b.toNat % 128*128 ^ i) l
theorem aEy:∀a:Fin 256,ar .and .u8 ((a.1:Nat):Int) 127=((a.1 % 128:Nat):Int):=by decide+kernel
theorem aCy{b:Int}(h:0<=b/\b<=255):ar .and .u8 b 127=((b.toNat % 128:Nat):Int):=by
 have:=aEy ⟨b.toNat,by omega⟩
 grind
theorem aCz(i:Nat):128 ^ i=2 ^ (7*i):=by rw[Nat.pow_mul]
theorem aEz{c i:Nat}(hi:i<=4)(hc:c<128):sh .shl .i64 (c:Int) ((7*i:Nat):Int)=((c*128 ^ i:Nat):Int):=by
 show IntKind.wrap .i64 ((c:Int)*2 ^ min ((7*i:Nat):Int).toNat (IntKind.bits .i64))=_;rw[show IntKind.bits .i64=64 from rfl,aCz];have u:2 ^ (7*i)<=2 ^ 28:=aF9 (by simp) (by omega);have A:c*2 ^ (7*i)<=127*2 ^ 28:=aGh (by omega) u
 grind [wrap_i64]
theorem aE0{a b:Nat}(ha:a<4611686018427387904)(hb:b<4611686018427387904):ar .or .i64 (a:Int) (b:Int)=((a ||| b:Nat):Int):=by
 have h:a ||| b<2 ^ 62:=Nat.or_lt_two_pow (by omega) (by grind)
 show IntKind.wrap .i64 ((BitVec.ofInt 64 (a:Int) ||| BitVec.ofInt 64 (b)).toNat:Int)=_
 grind [sY,BitVec.toNat_or,BitVec.toNat_ofNat,Nat.mod_eq_of_lt,wrap_i64]
theorem aC0{v c i:Nat}(hi:i<=4)(hc:c<128)(hv:v<128 ^ i):ar .or .i64 (v:Int) ((c*128 ^ i:Nat):Int)=((v+c*128 ^ i:Nat):Int):=by
 have u:128 ^ i<=128 ^ 4:=aF9 (by decide) hi;have A:c*128 ^ i<=127*128 ^ 4:=aGh (by omega) u;rw[aE0 (by omega) (by omega)];rw[aCz] at*;have:=aH6 hv c
 grind [Nat.shiftLeft_eq,Nat.add_comm]
theorem aC1{v c i:Nat}(hc:c<128)(hv:v<128 ^ i):v+c*128 ^ i<128 ^ (i+1):=by
 have:c*128 ^ i<=127*128 ^ i:=aEb _ (by omega);omega
theorem YK(l:List Int)(hb:Bytes l)(hl:l.length<=1000000):fB l=some (vX 5 0 0 l):=by
 unfold fB;have N:∀(k i v:Nat) (l:List Int) (f:Nat),i+k=5->v<128 ^ i->Bytes l->l.length<=1000000->k<f->
   ∃e,loop (λ(u:Int×Int×(List Int))=>
  bif (cm .lss u.2.1 (35:Int)) then
   (dN u.2.2).bind λA=>
    bif (!A.2.1) then
     some (.done (.ret ((0:Int),false,A.2.2)))
    else
     (nn u.2.1).bind λ_=>
      bif (cm .lss A.1 (128:Int)) then
       (bif (cm .leq (ar .or .i64 u.1 (sh .shl .i64 (ar .and .u8 A.1 (127:Int)) u.2.1)) (2147483647:Int)) then
        bif (cm .gtr A.1 (0:Int)) then
         some true
        else
         some (cm .eql u.2.1 (0:Int))
       else
        some false).bind λU=>
        some (.done (.ret ((ar .or .i64 u.1 (sh .shl .i64 (ar .and .u8 A.1 (127:Int)) u.2.1)),U,A.2.2)))
      else
       some (.next ((ar .or .i64 u.1 (sh .shl .i64 (ar .and .u8 A.1 (127:Int)) u.2.1)),(ar .add .i64 u.2.1 (7:Int)),A.2.2))
  else
   some (.done (.u9 u.2.2))
  ) f ((v:Int),((7*i:Nat):Int),l)=some e/\out (λ(V:List Int)=>some ((0:Int),false,V)) e=some (vX k i v l):=by
  intro k
  induction k with
  |zero=>
   intro i v l f S K hb hl T;obtain⟨f,rfl⟩:∃f',f=f'+1:=⟨f - 1,by omega⟩;have O:i=5:=(by omega);subst O;exact⟨.u9 l,rfl,rfl⟩
  |succ k X=>
   intro i v l f S K hb hl T;obtain⟨f,rfl⟩:∃f',f=f'+1:=⟨f - 1,by omega⟩;have P:cm .lss ((7*i:Nat):Int) 35=true:=(by rw[cl];simp;omega);have Q:nn ((7*i:Nat):Int)=some ():=(by unfold nn;rw[sM (by omega)]);simp only[loop,P,fE,Ru l hl,cA];cases l with
   |nil=>exact⟨.ret (0,false,[]),by simp[Vn],rfl⟩
   |cons b l=>
    have R:=hb.head;have E:b.toNat % 128<128:=aGx _ (by decide);simp only[Vn,vn,cG,Q,cA,aCy R,aEz (by omega:i<=4) E,aC0 (by omega:i<=4) E K,cl,cle,cg,ce];by_cases B:b<128
    ·simp only[B,xd,fE];refine⟨.ret (((v+b.toNat % 128*128 ^ i:Nat):Int),decide (v+b.toNat % 128*128 ^ i<=2147483647) && (decide (0<b) || decide (i=0)),l),?_,?_⟩
     ·by_cases c1:v+b.toNat % 128*128 ^ i<=2147483647
      ·have C:((v+b.toNat % 128*128 ^ i:Nat):Int)<=2147483647:=(by omega);by_cases F:b>0
       ·have G:0<b:=F;simp only[C,c1,G,gt_iff_lt,xd,fE,cA,aIc,Bool.true_or]
       ·have G:¬0<b:=F;have I:(((7*i:Nat):Int)=0)↔i=0:=(by omega);simp only[C,c1,F,G,I,xd,dq,fE,cG,cA,aIc,Bool.false_or]
      ·have C:¬((v+b.toNat % 128*128 ^ i:Nat):Int)<=2147483647:=(by omega);simp only[C,c1,dq,cG,cA,Bool.false_and]
     ·simp only[out,vX,B,K4]
    ·simp only[B,dq,cG];have I:ar .add .i64 ((7*i:Nat):Int) 7=((7*(i+1):Nat):Int):=(by rw[O9 (by omega)];push_cast;omega);rw[I];obtain⟨e,L,D⟩:=X (i+1) (v+b.toNat % 128*128 ^ i) l f (by omega) (aC1 E K) hb.tail (by simp at hl;omega) (by omega);refine⟨e,L,?_⟩;rw[D];simp only[vX,B,M5]
 obtain⟨e,L,D⟩:=N 5 0 0 l bR rfl (by decide) hb hl (by unfold bR;omega);unfold lp;have M:=L;simp only[Nat.mul_zero] at M;rw[show ((0:Int),(0:Int),l)=(((0:Nat):Int),((0:Nat):Int),l) from rfl,M];cases e with
 |u9 y=>exact D
 |ret z=>exact D
theorem Vo:∀(k i v:Nat) (l:List Int),(vX k i v l).2.2.length<=l.length
 | 0,_,_,l=>gC _
 |_+1,_,_,[]=>gC _
 |k+1,i,v,b::l=>by
  unfold vX;split
  ·simp
  ·exact eo (Vo k _ _ l) (by simp)
theorem CN:∀(k i v:Nat) (l r:List Int) (w:Int),i+k=5->v<128 ^ i->Bytes l->vX k i v l=(w,true,r)->
  ∃q:Nat,w=((v+q*128 ^ i:Nat):Int)/\v+q*128 ^ i<=2147483647/\l=vf (k - 1) q++r/\(0<i->0<q)
 | 0,_,_,_,_,_,_,_,_,h=>by simp[vX] at h
 |_+1,_,_,[],_,_,_,_,_,h=>by simp[vX] at h
 |k+1,i,v,b::l,r,w,R,M,C,h=>by
  have N:=C.head;unfold vX at h;split at h
  ·rename_i K;have D:b.toNat % 128=b.toNat:=aB4 (by omega);simp only[qe,bm,aGd,aGj,D] at h;obtain⟨rfl,⟨u,A⟩,rfl⟩:=h;refine⟨b.toNat,rfl,u,?_,λQ=>by omega⟩;have e:((b.toNat:Nat):Int)=b:=(by omega);cases k with
   |zero=>simp[vf,e]
   |succ k=>simp only[aHo];unfold vf;rw[sM (by omega),e];rfl
  ·rename_i K;have E:b.toNat % 128<128:=aGx _ (by decide);obtain⟨q,u,A,B,L⟩:=CN k (i+1) (v+b.toNat % 128*128 ^ i) l r w (by omega) (aC1 E M) C.tail h;have O:0<k:=by
    cases k with
    |zero=>simp[vX] at h
    |succ k=>omega
   obtain⟨k,rfl⟩:∃k',k=k'+1:=⟨k - 1,by omega⟩;have e:v+b.toNat % 128*128 ^ i+q*128 ^ (i+1)=v+(b.toNat % 128+128*q)*128 ^ i:=(by rw[aGo,jk];rw[aH8 128 q,Nat.mul_assoc q 128,aH8 128 (128 ^ i)];omega);have P:=L (by omega);refine⟨b.toNat % 128+128*q,by rw[u,e],by rw[<-e];exact A,?_,λ_=>by omega⟩;simp only[aHo] at B ⊢;unfold vf;rw[nS (by omega),B];have F:(b.toNat % 128+128*q) % 128=b.toNat % 128:=(by omega);have G:(b.toNat % 128+128*q) / 128=q:=(by omega);rw[F,G];have I:((128+b.toNat % 128:Nat):Int)=b:=(by omega);rw[I];rfl
theorem CO:∀(k i v q:Nat) (r:List Int),i+k=4->v+q*128 ^ i<=2147483647->(0<i->0<q)->vX (k+1) i v (vf k q++r)=(((v+q*128 ^ i:Nat):Int),true,r)
 | 0,i,v,q,r,E,B,A=>by
  have C:i=4:=by omega
  subst C;have u:q<128:=by omega
  have A:=A (by omega);have e:q % 128=q:=aB4 u;simp only[vf,ud,rh,vX,gR,e];rw[sM (by omega)];simp;omega
 |k+1,i,v,q,r,E,B,A=>by
  unfold vf;by_cases u:q<128
  ·have e:q % 128=q:=aB4 u;simp only[u,K4,ud,rh,vX,gR,e];rw[sM (by omega)];simp;omega
  ·simp only[u,M5,ud,vX,gR];rw[nS (by omega)];have D:(128+q % 128) % 128=q % 128:=(by omega);have e:v+q % 128*128 ^ i+q / 128*128 ^ (i+1)=v+q*128 ^ i:=by
    rw[aGo];have:q*128 ^ i=(q % 128+128*(q / 128))*128 ^ i:=(by rw[Nat.mod_add_div]);rw[this,jk,aH8 128 (q / 128),Nat.mul_assoc,aH8 128 (128 ^ i)];omega
   rw[D,CO k (i+1) (v+q % 128*128 ^ i) (q / 128) r (by omega) (by rw[e];exact B) (λ_=>by omega),e]
def yK:Nat->List Int->List Int->Option (List Int×List Int) | 0,acc,l=>some (l,acc) | n+1,acc,l=>if (vX 5 0 0 l).2.1 then yK n (acc++[(vX 5 0 0 l).1]) (vX 5 0 0 l).2.2 else none
theorem Dh:∀(k i v:Nat) (l:List Int),Bytes l->Bytes (vX k i v l).2.2
 | 0,_,_,l,h=>h
 |_+1,_,_,[],h=>h
 |k+1,i,v,b::l,h=>by
  unfold vX;split
  ·exact h.tail
  ·exact Dh k _ _ l h.tail
theorem Lw:∀(n:Nat) (acc l r C3:List Int),Bytes l->yK n acc l=some (r,C3)->∃ns,C3=acc++ns/\ns.length=n/\(∀x∈ns,0<=x/\x<=2147483647)/\l=vs ns++r
 | 0,acc,l,r,C3,_,h=>by
  simp only[yK,W6,qe] at h;obtain⟨rfl,rfl⟩:=h;exact⟨[],by simp,rfl,λx u=>by simp at u,rfl⟩
 |n+1,acc,l,r,C3,B,h=>by
  unfold yK at h;split at h
  ·rename_i C;obtain⟨ns,D,E,F,G⟩:=Lw n _ _ r C3 (Dh _ _ _ _ B) h;obtain⟨q,A,I,K,_⟩:=CN 5 0 0 l (vX 5 0 0 l).2.2 (vX 5 0 0 l).1 rfl (by decide) B (by rw[<-C]);simp only[Nat.pow_zero,Nat.mul_one,aGu] at A I;refine⟨(q:Int)::ns,by rw[D,A];simp,by simp[E],λx u=>?_,?_⟩
   ·rcases sK.1 u with rfl | u
    ·omega
    ·exact F x u
   ·have e:vs ((q:Int)::ns)=vf 4 q++vs ns:=(by simp[vs]);rw[K,G,e,dt]
  ·cases h
theorem Vp:∀(ns acc r:List Int),(∀x∈ns,0<=x/\x<=2147483647)->yK ns.length acc (vs ns++r)=some (r,acc++ns)
 | [],acc,r,_=>by simp[yK,vs]
 |x::ns,acc,r,h=>by
  have B:=h x (by simp);have e:vs (x::ns)++r=vf 4 x.toNat++(vs ns++r):=by simp[vs]
  have g:=CO 4 0 0 x.toNat (vs ns++r) rfl (by omega) (λh=>by omega);simp only[Nat.pow_zero,Nat.mul_one,aGu] at g;have u:((x.toNat:Nat):Int)=x:=by omega
  rw[e,qf,yK,g];simp[K4,u];rw[Vp ns _ r (λy A=>h y (by simp[A]))];simp
theorem Ic{c l:List Int}(hc:c.length=8):Sw.chunks 8 (c++l)=c::Sw.chunks 8 l:=by
 unfold Sw.chunks;have e:((c++l).length+8 - 1) / 8=(l.length+8 - 1) / 8+1:=by rw[cM,hc];omega
 rw[e,List.range_succ_eq_map,V0,aHh];congr 1
 ·grind
 ·apply aGl;intro k _;simp only[Function.comp_apply,Nat.succ_eq_add_one];rw[show (k+1)*8=c.length+k*8 by omega,aH1];congr 1;simp
theorem Ie:∀(bs:List aD),(∀b∈bs,b.length=8)->Sw.chunks 8 bs.flatten=bs
 | [],_=>rfl
 |b::bs,h=>by rw[aG9,Ic (h b (by simp)),Ie bs (λc u=>h c (by grind))]
theorem Bj:∀(m:Nat) (l:List Int),l.length=8*m->(Sw.chunks 8 l).flatten=l/\(∀b∈Sw.chunks 8 l,b.length=8)/\(Sw.chunks 8 l).length=m
 | 0,l,h=>by
  have:l=[]:=List.length_eq_zero_iff.1 (by omega);subst this;exact⟨rfl,λb A=>by simp[Sw.chunks] at A,rfl⟩
 |m+1,l,h=>by
  have e:l=l.take 8++l.drop 8:=(sw 8 l).symm;have u:(l.take 8).length=8:=by simp;omega
  obtain⟨B,C,D⟩:=Bj m (l.drop 8) (by simp;omega);rw[e,Ic u]
  grind
theorem ML{l:List Int}{bs:List aD}(h:bs.flatten=l)(hb:Bytes l):∀b∈bs,Bytes b:=λb u x A=>hb x (by grind [List.mem_flatten])
def Gz:List Int->Option eF
 |b0::b1::r=>match yK (b0.toNat % 16) [] r with
  |some (rest,u)=>if b1>32\/u.length>12\/(rest.length:Int)≠8*b1 then none else some (((b0.toNat / 16:Nat):Int),u,Sw.chunks 8 rest)
  |none=>none
 |_=>none
theorem MM{n:Nat}(h:n<256):IntKind.wrap .u8 (n:Int)=n:=by rw[Bi];omega
theorem Rv{f:eF}(g:Good f):Gy f=[((16*f.1.toNat+f.2.1.length:Nat):Int),(f.2.2.length:Int)]:=by
 have u:=g.s0;have A:=g.s1;have B:=g.ns;have C:=g.bs;unfold Gy;have e:ar .add .i64 (ar .mul .i64 16 f.1) (f.2.1.length:Int)=((16*f.1.toNat+f.2.1.length:Nat)):=by
  grind [ar,wrap_i64,O9]
 rw[e,MM (by omega),MM (by omega)]
theorem GM{b:List Int}{f:eF}(hb:Bytes b)(h:Gz b=some f):Good f/\dH f=0/\body f=b:=by
 match b,h with
 |b0::b1::r,h=>
  have N:=hb.head;have O:=hb.tail.head;have A:=hb.tail.tail;simp only[Gz] at h;cases hn:yK (b0.toNat % 16) [] r with
  |none=>rw[hn] at h;cases h
  |some p=>
   obtain⟨rest,G⟩:=p;rw[hn] at h;simp only at h;split at h
   ·cases h
   ·rename_i P;simp only[W6] at h;subst h;obtain⟨Q,B,R,C,I⟩:=Lw _ _ _ _ _ A hn;simp only[rh] at B;subst B;obtain⟨K,L,S⟩:=Bj b1.toNat rest (by omega);have D:Bytes rest:=λx u=>A x (by rw[I];simp[u]);have E:Good (((b0.toNat / 16:Nat):Int),G,Sw.chunks 8 rest):=⟨by simp only;omega,by simp only;omega,by simp only;omega,by simp only;omega,C,λb hb=>⟨L b hb,ML K D b hb⟩⟩;refine⟨E,?_,?_⟩
    ·unfold dH;rw[nS (by simp only;omega),nS (by simp only;omega),nS];intro F;obtain⟨x,u,M⟩:=aG2.1 F;have:=C x u;simp[zQ] at M;omega
    grind [body,Rv,Int.toNat_natCast]
theorem Vq{f:eF}(g:Good f):Gz (body f)=some f:=by
 have C:=g.s0;have D:=g.s1;have E:=g.ns;have F:=g.bs;unfold body;rw[Rv g];simp only[ud,rh,Gz,gR];have u:(16*f.1.toNat+f.2.1.length) % 16=f.2.1.length:=by omega
 have A:(16*f.1.toNat+f.2.1.length) / 16=f.1.toNat:=by omega
 rw[u,A,Vp _ _ _ g.num];simp only[rh];have G:=(R7 g.E2).2;rw[nS (by omega),Ie _ (λb B=>(g.E2 b B).1)]
 grind
def eA(a:List Int):Option eF:=if a.length<6 then none else if a.drop (a.length - 4)=ng (4294967295 - Vg (nat (a.take (a.length - 4)))) then Gz (a.take (a.length - 4)) else none
theorem YL{n c:Nat}(hc:c<=32):sh .shr .u32 (n:Int) (c:Int)=((n / 2 ^ c:Nat):Int):=by
 show Int.fdiv _ _=_;rw[gR,show IntKind.bits .u32=32 from rfl,aGc hc,aEa _ ((by grind))];rfl
theorem TE{S:Nat}(h:S<4294967296): [(IntKind.wrap .u8 (sh .shr .u32 (S:Int) (24:Int))),(IntKind.wrap .u8 (sh .shr .u32 (S:Int) (16:Int))),(IntKind.wrap .u8 (sh .shr .u32 (S:Int) (8:Int))),(IntKind.wrap .u8 (S:Int))]=ng S:=by
 rw[show (24)=((24:Nat):Int) from rfl,show (16:Int)=((16:Nat):Int) from rfl,show (8:Int)=((8:Nat):Int) from rfl,YL (by simp),YL (by simp),YL (by simp),Bi,Bi,Bi,Bi]
 grind [ng]
theorem aC2:∀a:Fin 256,ar .and .u8 ((a.1:Nat):Int) 15=((a.1 % 16:Nat):Int):=by decide+kernel
theorem YM{b:Int}(h:0<=b/\b<=255):ar .and .u8 b 15=((b.toNat % 16:Nat):Int):=by
 have:=aC2 ⟨b.toNat,by omega⟩
 grind
theorem aE1:∀a:Fin 256,sh .shr .u8 ((a.1:Nat):Int) 4=((a.1 / 16:Nat):Int):=by decide+kernel
theorem aC3{b:Int}(h:0<=b/\b<=255):sh .shr .u8 b 4=((b.toNat / 16:Nat):Int):=by
 have:=aE1 ⟨b.toNat,by omega⟩
 grind
theorem aE2{n:Nat}(h:n<200):ar .add .u8 (n:Int) 1=((n+1:Nat):Int):=by
 show IntKind.wrap .u8 ((n)+1)=_;have:(n:Int)+1=((n+1:Nat):Int):=rfl;rw[this,MM (by omega)]
theorem Pq{z:eF×Option Int}(N:Nat)(hN:N<=15):∀(n j:Nat) (l acc:List Int) (f:Nat),j+n=N->Bytes l->l.length<=1000000->acc.length+n<=1000->n<f->
  loop (β:=Ex ((List Int)×(List Int)) (eF×Option Int)) (λ(bz:Int×(List Int)×(List Int))=>
                bif (cm .lss bz.1 (N:Int)) then
                 (fB bz.2.1).bind λK1=>
                  bif (!K1.2.1) then
                   some (.done (.ret z))
                  else
                   (Sw.app bz.2.2 ([K1.1]:(List Int))).bind λij=>
                    some (.next ((ar .add .u8 bz.1 (1:Int)),K1.2.2,ij))
                else
                 some (.done (.u9 (bz.2.1,bz.2.2)))
                ) f ((j:Int),l,acc)=some (match yK n acc l with | some p=> .u9 p | none=> .ret z)
 | 0,j,l,acc,f,C,A,B,D,E=>by
  obtain⟨f,rfl⟩:∃f',f=f'+1:=⟨f - 1,by omega⟩;have:cm .lss (j:Int) (N:Int)=false:=by rw[cl];simp;omega
  simp only[loop,this,cG,yK]
 |n+1,j,l,acc,f,C,A,B,D,E=>by
  obtain⟨f,rfl⟩:∃f',f=f'+1:=⟨f - 1,by omega⟩;have:cm .lss (j:Int) (N:Int)=true:=by rw[cl];simp;omega
  simp only[loop,this,fE,YK l A B,cA,yK];by_cases u:(vX 5 0 0 l).2.1=true
  ·simp only[u,vn,cG,K4];rw[j1 _ _ (by simp;omega),cA,aE2 (by omega)];exact Pq N hN n (j+1) _ _ f (by omega) (Dh _ _ _ _ A) (eo (Vo _ _ _ _) B) (by simp;omega) (by omega)
  ·simp only[aGq] at u;simp only[u,aFe,fE,mu,M5]
theorem CP:∀(its acc:List aD),(∀i∈its,i.length=8)->acc.length+its.length<=1000000->
  me (δ:=Empty) (λ(z38:(List Int)) (xm:(List aD))=>
                         (Sw.S6 8 z38).bind λz46=>
                          (Sw.app xm ([z46]:(List aD))).bind λv47=>
                           some (.next v47)
                         ) its acc=some (.u9 (acc++its))
 | [],acc,_,_=>by simp[me]
 |i::is,acc,h,A=>by
  have e:Sw.S6 8 i=some i:=by unfold Sw.S6;grind
  simp only[me,e,cA];rw[j1 _ _ (by grind)];simp only[cA];rw[CP is _ (λj u=>h j (by simp[u])) (by grind)];simp
theorem nD(a:List Int)(hb:Bytes a)(hl:a.length<=10000):dG a=some (match eA a with | some f=>(f,none) | none=>((0,[],[]),some 3)):=by
 unfold dG eA;rw[cl];by_cases F:a.length<6
 ·have:(a.length:Int)<6:=by omega
  simp[F,this]
 have O:¬(a.length:Int)<6:=by omega
 simp only[F,O,dq,cG,M5];generalize hL:a.length - 4=L;have P:ar .sub .i64 (a.length:Int) 4=(L:Int):=by rw[bw (by omega)];omega
 have Q:Sw.sub a 0 (L:Int)=some (a.take L):=by unfold Sw.sub;rw[sM (by omega)];simp
 have B:(a.take L).length=L:=by simp;omega
 have R:Sw.sub a (L:Int) (a.length:Int)=some (a.drop L):=by unfold Sw.sub;rw[sM (by omega)];simp
 have ad:(a.drop L).length=4:=by simp;omega
 have S:Sw.S6 4 (a.drop L)=some (a.drop L):=by unfold Sw.S6;rw[sM (by omega),aFh (by omega)]
 have C:Bytes (a.take L):=λx hx=>hb x (aE8 hx);have T:=MK (a.take L) C (by omega);rw[P,Q,cA,T,cA,B,R,cA,S,cA,TE (by omega)];by_cases G:a.drop L=ng (4294967295 - Vg (nat (a.take L)))
 ·simp only[G,xd,vn,cG,K4];generalize hp:a.take L=p at*
  match p,B with
  | [],h=>simp at h;omega
  | [_],h=>simp at h;omega
  |b0::b1::r,B=>
   have I:=C.head;have cz:=C.tail.head;have K:=C.tail.tail;have kv:r.length<=10000:=(by simp at B;omega);rw[Ru _ (by simp;omega),cA];simp only[Vn];rw[Ru _ (by simp;omega),cA];simp only[Vn,YM I,aC3 I,Gz];have U:=Pq (z:=((0,[],[]),some 3)) (b0.toNat % 16) (by omega) (b0.toNat % 16) 0 r [] bR (by omega) K (by omega) (by simp;omega) (by unfold bR;omega);unfold lp;rw[show ((0:Int),r,([]:List Int))=(((0:Nat):Int),r,([]:List Int)) from rfl,U];cases hn:yK (b0.toNat % 16) [] r with
   |none=>rfl
   |some q=>
    obtain⟨u,D⟩:=q;obtain⟨ae,N,h2,h3,h4⟩:=Lw _ _ _ _ _ K hn;simp only[rh] at N;subst N;have L6:u.length<=r.length:=(by rw[h4];simp);have V:ar .mul .i64 b1 8=8*b1:=(by show IntKind.wrap .i64 _=_;rw[wrap_i64 (by omega)];omega);simp only[cg,cn,V];by_cases c1:b1>32
    ·simp[c1]
    by_cases E:D.length>12
    ·have A:(D.length:Int)>12:=(by omega);simp[c1,E,A]
    by_cases M:(u.length:Int)≠8*b1
    ·have A:¬(D.length:Int)>12:=(by omega);simp[c1,E,A,M]
    have A:¬(D.length:Int)>12:=(by omega);have X:(u.length:Int)=8*b1:=aF2.1 M;obtain⟨g1,g2,g3⟩:=Bj b1.toNat u (by omega);have pw:jG u 8=some (u,8):=rfl;have ab:small u=some ():=(by unfold small;rw[sM (by omega)]);have ac:aLq 8=some ():=(by decide);simp only[c1,E,A,X,ne_eq,not_true,dq,cG,cA,or_self,M5,pw,ab,ac,rg];rw[show Int.toNat 8=8 from rfl,CP _ _ g2 (by simp;omega)];simp
 ·simp only[G,dq,aFe,fE,M5]
theorem Lx{a:List Int}{f:eF}(hb:Bytes a)(h:eA a=some f):Good f/\dH f=0/\aX f=a:=by
 unfold eA at h;split at h
 ·cases h
 ·split at h
  ·rename_i E u;obtain⟨B,C,D⟩:=GM (λx A=>hb x (aE8 A)) h;refine⟨B,C,?_⟩;unfold aX;rw[D,<-u,sw]
  ·cases h
theorem dU{f:eF}(g:Good f):eA (aX f)=some f:=by
 have A:2<=(body f).length:=by grind [body,Rv]
 have B:(aX f).length=(body f).length+4:=by simp[aX,ng]
 have u:(aX f).take ((aX f).length - 4)=body f:=by simp_all [aHo,aX]
 have hd:(aX f).drop ((aX f).length - 4)=ng (4294967295 - Vg (nat (body f))):=by simp_all [aHo,aX]
 unfold eA;rw[nS (by omega),u,hd,sM rfl,Vq g]
theorem K6{α β:Type}{step:α->Option (Step α β)}{x y:α}{f:Nat}(h:step x=some (.next y)):loop step (f+1) x=loop step f y:=by grind [loop]
theorem I7{α β:Type}{step:α->Option (Step α β)}{x:α}{b:β}{f:Nat}(h:step x=some (.done b)):loop step (f+1) x=some b:=by grind [loop]
theorem Zg{S:Nat}(h:S<4294967296):Bytes (ng S):=λx u=>by
 simp[ng,sK,aEq,aHl] at u;omega
theorem nW{f:eF}(g:Good f):Bytes (aX f):=λx u=>by
 rcases oq.1 u with u | u
 ·exact(uH g).1 x u
 ·exact Zg (by omega) x u
theorem MN(x:Int):oH x=some (zQ x):=by
 grind [oH,zQ,cm]
theorem Rw(l:List Int)(h:l.length<=1000000):bM l=some (l.any zQ):=by
 unfold bM cU;rw[show (0:Int)=((0:Nat):Int) from rfl,zL (l:=l) (λi (_:Unit)=>(i:Int)) () (λi x _=>if zQ x then .done (.ret (i:Int)) else .next ()) (λ_=> .u9 ()) (by unfold bR;omega)]
 ·rw[Vj (λi=>(i:Int)),Vk]
  grind [zQ,out,cm]
 ·rintro u x A acc rfl;simp only[lQ,fE,jT,cA,MN,CC (n:=u.length) (m:=1000000) (by grind) (by omega)];cases zQ x<;>simp[Jl]
 simp[bV]
theorem F9(a b:Int):pA [a,b]=some (!(zQ a || zQ b)):=by
 simp[pA,Rw]
theorem dm{x:Int}:zQ x=false↔0<=x/\x<=2147483647:=by unfold zQ;simp
theorem YN{α A β γ:Type}{step:α->Option (Step α (Ex β γ))}{l:List A}{k:β->Option γ}(st:Nat->α)(z:A->Option γ)(y:β)(hf:l.length<bR)(hs:∀pre x rest,l=pre++x::rest->step (st pre.length)=some (match z x with | some v=> .done (.ret v) | none=> .next (st (pre.length+1))))(he:step (st l.length)=some (.done (.u9 y))):lp step (st 0) k=(l.findSome? z).elim (k y) some:=by
 have B:∀(rest pre:List A) (f:Nat),l=pre++rest->rest.length<f->loop step f (st pre.length)=some (match rest.findSome? z with | some v=> .ret v | none=> .u9 y):=by
  intro rest
  induction rest with
  |nil=>
   intro pre f u hf;obtain⟨f,rfl⟩:∃f',f=f'+1:=⟨f - 1,by simp at hf;omega⟩;rw[rf] at u;rw[<-u];simp[loop,he]
  |cons x rest C=>
   intro pre f u hf;obtain⟨f,rfl⟩:∃f',f=f'+1:=⟨f - 1,by simp at hf;omega⟩;simp only[loop,hs pre x rest u,List.findSome?_cons];cases hz:z x with
   |some v=>simp
   |none=>
    have:=C (pre++[x]) f (by rw[u];simp) (by simp at hf;omega);simpa using this
 have:=B l [] bR rfl hf;unfold lp;simp only[ue] at this;rw[this];cases l.findSome? z<;>rfl
def cH(f:eF):Int:=if dH f=0 then (if 9<f.2.1.length then 2 else 0) else dH f
theorem CQ(f:eF):sT f=some (if cH f=0 then none else some (cH f)):=by
 grind [sT,cH,Co,cg]
def tU(l:List eF):Option Int:=l.findSome? λf=>if cH f=0 then none else some (cH f)
abbrev tV:=Int×Int×List eF
def iR(s:tV):Int:=if zQ s.1 || zQ s.2.1 then 1 else if 64<s.2.2.length then 2 else (tU s.2.2).getD 0
theorem Vr{l:List eF}{e:Int}(h:tU l=some e):e≠0:=by
 obtain⟨f,_,u⟩:=List.exists_of_findSome?_eq_some h
 grind
theorem J9(s:tV):nP s=some (if iR s=0 then none else some (iR s)):=by
 unfold nP iR;rw[F9,cA];by_cases u:(zQ s.1 || zQ s.2.1)=true
 ·simp[u]
 ·simp only[aGq] at u;simp only[u,aFe,vn,cG,mu,M5,cg];by_cases A:64<s.2.2.length
  ·have:(s.2.2.length:Int)>64:=(by omega);simp[A,this]
  ·have:¬(s.2.2.length:Int)>64:=(by omega);simp only[A,this,dq,cG,M5];rw[show (0:Int)=(λ(i:Nat)=>(i:Int)) 0 from rfl];rw[YN (l:=s.2.2) (λ(i:Nat)=>(i:Int)) (λf=>if cH f=0 then none else some (some (cH f))) () (by unfold bR;omega)]
   ·have e:s.2.2.findSome? (λf=>if cH f=0 then none else some (some (cH f)))=(tU s.2.2).map some:=by
     unfold tU
     induction s.2.2 with
     |nil=>rfl
     |cons f l C=>simp only[List.findSome?_cons];by_cases h:cH f=0<;>simp[h,C]
    rw[e];cases hf:tU s.2.2 with
    |none=>simp
    |some e=>have:=Vr hf;simp[this]
   ·rintro D x E h;rw[h];simp only[lQ,fE,jT,cA,CQ];rw[L3 (by have:=congrArg List.length h;simp at this;omega)];by_cases B:cH x=0<;>simp[B]
   ·simp[bV]
def Small(f:eF):Prop:=f.2.1.length<=1000/\f.2.2.length<=1000
theorem Vs{f:eF}(h:cH f=0):Small f:=by
 grind [cH,dH,Small,absurd]
theorem Ig{s:tV}(h:iR s=0):(0<=s.1/\s.1<=2147483647)/\(0<=s.2.1/\s.2.1<=2147483647)/\s.2.2.length<=64/\∀f∈s.2.2,Small f:=by
 unfold iR at h;split at h
 ·simp at h
 ·rename_i u;simp only[aGq,Bool.or_eq_false_iff] at u;split at h
  ·simp at h
  ·rename_i D;refine⟨dm.1 u.1,dm.1 u.2,by omega,λf C=>Vs ?_⟩;have B:tU s.2.2=none:=by
    cases hf2:tU s.2.2 with
    |none=>rfl
    |some e=>rw[hf2] at h;exact absurd h (Vr hf2)
   have:=List.findSome?_eq_none_iff.1 B f C;by_cases A:cH f=0
   ·exact A
   ·simp[A] at this
theorem Vt(l:List eF)(hl:l.length<=64)(h:∀f∈l,Small f):qV l=some l:=by
 unfold qV;rw[show ((0:Int),([]:List eF))=(λ(i:Nat) (acc:List eF)=>((i:Int),acc)) 0 [] from rfl];rw[L5 (l:=l) (λ(i:Nat) (acc:List eF)=>((i:Int),acc)) (λi acc=>acc.length=i) [] (λ_ f acc=>acc++[f]) id (by unfold bR;omega) rfl]
 ·have:∀(l:List eF) (i:Nat) (acc:List eF),(l.zipIdx i).foldl (λacc x=>acc++[x.1]) acc=acc++l:=by
   intro l
   induction l with
   |nil=>intro i acc;simp
   |cons x l G=>intro i acc;rw[aG0,xz,G];simp
  rw[this];rfl
 ·intro u x B acc A F;have I:=h x (by rw[A];simp);have K:u.length<64:=by have:=congrArg List.length A;simp at this;omega
  have C:cm .lss (u.length:Int) (l.length:Int)=true:=by rw[A];exact lQ u x B
  have D:Sw.idx l (u.length:Int)=some x:=by rw[A];exact jT u x B
  have E:lN x=some x:=by
   grind [lN,iL,aB,Small,j1]
  simp only[C,D,E,fE,cA];rw[j1 _ _ (by simp;omega),L3 (by omega)];exact⟨rfl,by simp[F]⟩
 ·intro acc _;simp only[bV,cG];rfl
theorem il{α:Type}(l:List α)(n:Nat)(h:n<=l.length):Sw.sub l (n:Int) (l.length:Int)=some (l.drop n):=by
 simp_all [Sw.sub,sM]
theorem jh{a c:Int}(h1:0<=a/\a<=2147483647)(h2:0<=c/\c<=2147483647):dH ((0:Int),[a,c],([]:List aD))=0/\Good ((0:Int),[a,c],([]:List aD)):=by
 simp_all [dH,aD,dm,qZ]
def Ab{A B:Type}(g:Nat->A->B->Option B):Nat->B->List A->Option B | _,acc,[]=>some acc | i,acc,x::l=>(g i x acc).bind λC3=>Ab g (i+1) C3 l
theorem YO{α A B β γ:Type}{step:α->Option (Step α (Ex β γ))}{l:List A}{k:β->Option γ}(st:Nat->B->α)(I:Nat->B->Prop)(H3:B)(g:Nat->A->B->Option B)(ex:Ex β γ)(fin:B->β)(hf:l.length<bR)(h0:I 0 H3)(hs:∀pre x rest acc,l=pre++x::rest->I pre.length acc->step (st pre.length acc)=some (match g pre.length x acc with | some C3=> .next (st (pre.length+1) C3) | none=> .done ex)/\∀C3,g pre.length x acc=some C3->I (pre.length+1) C3)(he:∀acc,I l.length acc->step (st l.length acc)=some (.done (.u9 (fin acc)))):lp step (st 0 H3) k=(Ab g 0 H3 l).elim (out k ex) (λacc=>k (fin acc))/\∀acc,Ab g 0 H3 l=some acc->I l.length acc:=by
 have F:∀(rest pre:List A) (f:Nat) (acc:B),l=pre++rest->rest.length<f->I pre.length acc->loop step f (st pre.length acc)=some ((Ab g pre.length acc rest).elim ex (λacc=> .u9 (fin acc)))/\∀C3,Ab g pre.length acc rest=some C3->I l.length C3:=by
  intro rest
  induction rest with
  |nil=>
   intro pre f acc u hf C;obtain⟨f,rfl⟩:∃f',f=f'+1:=⟨f - 1,by simp at hf;omega⟩;rw[rf] at u;rw[<-u] at C ⊢;exact⟨by simp[loop,he acc C,Ab],λC3 h=>by simp only[Ab,W6] at h;rw[<-h];exact C⟩
  |cons x rest G=>
   intro pre f acc u hf C;obtain⟨f,rfl⟩:∃f',f=f'+1:=⟨f - 1,by simp at hf;omega⟩;obtain⟨D,E⟩:=hs pre x rest acc u C;simp only[loop,D,Ab];cases hg:g pre.length x acc with
   |none=>exact⟨by simp,λC3 h=>by simp at h⟩
   |some C3=>
    have:=G (pre++[x]) f C3 (by rw[u];simp) (by simp at hf;omega) (by simpa using E C3 hg);simpa using this
 obtain⟨D,E⟩:=F l [] bR H3 rfl hf h0;refine⟨?_,E⟩;unfold lp;simp only[ue] at D;rw[D];cases Ab g 0 H3 l with
 |none=>cases ex<;>rfl
 |some _=>rfl
def w9(s:tV)(i:Nat)(f:eF):eF:=(1,[s.1,s.2.1+(i:Int),f.1]++f.2.1,f.2.2)
def Vu(s:tV)(i:Nat)(f:eF)(acc:List (List Int)):Option (List (List Int)):=if s.2.1+(i:Int)>2147483647 then none else some (acc++[aX (w9 s i f)])
theorem N1{f:eF}(h:cH f=0):dH f=0/\f.2.1.length<=9:=by
 grind [cH,absurd]
theorem X4{s:tV}{i:Nat}{f:eF}(h1:0<=s.1/\s.1<=2147483647)(h2:0<=s.2.1)(hi:s.2.1+(i:Int)<=2147483647)(hf:cH f=0)(hb:∀b∈f.2.2,b.length=8/\Bytes b):dH (w9 s i f)=0/\Good (w9 s i f):=by
 obtain⟨u,A⟩:=N1 hf
 grind [qZ,dH,w9,zQ,List.any_eq_false,dm]
def QOk(s:tV):Prop:=∀f∈s.2.2,cH f=0/\∀b∈f.2.2,b.length=8/\Bytes b
def Xo(s:tV):List eF:=s.2.2.take (min s.2.2.length 4)
theorem YP{s:tV}{pre rest:List eF}{x:eF}(h:Xo s=pre++x::rest):pre.length<min s.2.2.length 4/\s.2.2[pre.length]? =some x/\x∈s.2.2:=by
 have u:=by have:=congrArg List.length h;simp[Xo] at this;omega
 have A:(Xo s)[pre.length]? =some x:=by rw[h];simp
 grind [Xo]
theorem TF(s:tV):(Xo s).length=min s.2.2.length 4:=by simp[Xo]
theorem CR(s:tV)(h0:iR s=0)(hq:QOk s):nM s=(Ab (Vu s) 0 [] (Xo s)).elim (some ([],some 1)) (λacc=>some (acc,none))/\∀acc,Ab (Vu s) 0 [] (Xo s)=some acc->acc.length=(Xo s).length/\∀x∈acc,x.length<=1000000:=by
 obtain⟨Q,R,U,V⟩:=Ig h0;unfold nM;rw[J9,sM h0,cA];have G:Sw.sub s.2.2 (0:Int) (min (s.2.2.length:Int) (4:Int))=some (Xo s):=by
  unfold Sw.sub Xo;rw[sM (by omega)];simp;omega
 rw[G];simp only[fA,cG,cA];refine YO (l:=Xo s) (λ(i:Nat) (acc:List (List Int))=>((i:Int),acc)) (λi acc=>acc.length=i/\∀x∈acc,x.length<=1000000) [] (Vu s) (.ret ([],some 1)) id (by rw[TF];unfold bR;omega) ⟨rfl,λx C=>by simp at C⟩ ?_ ?_
 ·intro u x D acc h E;obtain⟨X,w2,B⟩:=YP h;have I:cm .lss (u.length:Int) ((Xo s).length:Int)=true:=by rw[h];exact lQ u x D
  have K:Sw.idx (Xo s) (u.length:Int)=some x:=by rw[h];exact jT u x D
  have L:ar .add .i64 s.2.1 (u.length:Int)=s.2.1+(u.length:Int):=O9 (by omega);simp only[I,K,L,fE,cA,cg,Vu];by_cases c:s.2.1+(u.length:Int)>2147483647
  ·simp[c]
  ·obtain⟨S,F⟩:=X4 (i:=u.length) Q R.1 (by omega) (hq x B).1 (hq x B).2;have C:=N1 (hq x B).1;have M:Sw.app ([s.1,s.2.1+(u.length:Int),x.1]:List Int) x.2.1=some ([s.1,s.2.1+(u.length:Int),x.1]++x.2.1):=j1 _ _ (by simp;omega);have N:lM ((1:Int),[s.1,s.2.1+(u.length:Int),x.1]++x.2.1,x.2.2)=some (aX (w9 s u.length x),none):=Cg F S;have O:Sw.app acc [aX (w9 s u.length x)]=some (acc++[aX (w9 s u.length x)]):=j1 _ _ (by simp;omega);simp only[c,dq,cG,M5,M,N,O,cA,fA];rw[L3 (by omega)];refine⟨rfl,λT P=>?_⟩;cases P;refine⟨by simp[E.1],λy A=>?_⟩;rcases oq.1 A with A | A
   ·exact E.2 y A
   ·simp at A;subst A;exact Zf F
 ·intro acc _;simp only[bV,cG];rfl
section
theorem Zh{l:List eF}(h:∀f∈l,cH f=0):tU l=none:=by
 grind [tU]
variable {S M:Nat}
theorem Ly{f:eF}:RO (aX f)=some ():=rfl
end
end Go.A1
