/- Plain laws about these plain functions alone. Conditions: none. -/
import Derived.Test.YthpkohijooimbaaGreatDoorMDConsoleSays
import Derived.Lib.SplitLaws
import Derived.Lib.ItoaMem
set_option linter.unusedVariables false
set_option linter.unusedSimpArgs false
namespace Go.lx
open Go.Pl Go Go.Sw Go.Mo
def Ha:Nat:=18446744073709551616
theorem Et(n:Nat):IntKind.wrap .u64 (n:Int)=((n % Ha:Nat):Int):=rfl
theorem aC4{a b:Nat}(ha:a<Ha)(hb:b<Ha):ar .xor .u64 (a:Int) (b:Int)=((a ^^^ b:Nat):Int):=by
 have h:a ^^^ b<2 ^ 64:=aGg (by grind [Ha]) (by grind [Ha]);show IntKind.wrap .u64 ((BitVec.ofInt 64 (a:Int) ^^^ BitVec.ofInt 64 (b:Int)).toNat:Int)=_
 grind [sY,BitVec.toNat_xor,BitVec.toNat_ofNat,Nat.mod_eq_of_lt,Ha,Et]
theorem YQ{a b:Nat}:ar .mul .u64 (a:Int) (b:Int)=((a*b % Ha:Nat):Int):=rfl
theorem aC5{a b:Nat}(h:a+b<Ha):ar .add .u64 (a:Int) (b:Int)=((a+b:Nat):Int):=by
 show IntKind.wrap .u64 ((a:Int)+(b))=_
 grind [Et,Nat.mod_eq_of_lt]
theorem aE3{a b:Nat}(h:b<=a)(ha:a<Ha):ar .sub .u64 (a:Int) (b:Int)=((a - b:Nat):Int):=by
 show IntKind.wrap .u64 ((a:Int) - (b:Int))=_;rw[show (a:Int) - (b)=((a - b:Nat):Int) from by omega,Et,aB4 (by omega)]
theorem TG{a b:Nat}(ha:a<Ha):ar .quo .u64 (a:Int) (b:Int)=((a / b:Nat):Int):=by
 show IntKind.wrap .u64 (Int.tdiv (a:Int) (b))=_;rw[LM,Et,aB4 (Nat.lt_of_le_of_lt (Nat.div_le_self a b) ha)]
theorem MO{a b:Nat}:ar .rem .u64 (a:Int) (b:Int)=((a % b:Nat):Int):=rfl
def MP:Nat:=1099511628211
def YR(h b:Nat):Nat:=(h ^^^ b)*MP % Ha
theorem Zi(h b:Nat):YR h b<Ha:=aGx _ (by decide)
def Zj(l:List Int):Nat:=(nat l).foldl YR 14695981039346656037
theorem MQ(l:List Nat)(h:Nat)(hh:h<Ha):l.foldl YR h<Ha:=by
 induction l generalizing h<;>grind [Zi]
theorem CS(l:List Int):Zj l<Ha:=MQ _ _ (by decide)
theorem Hb{A B:Type}(f:B->A->B):∀(l:List A) (i:Nat) (b:B),(l.zipIdx i).foldl (λacc x=>f acc x.1) b=l.foldl f b | [],_,_=>rfl | x::l,i,b=>Hb f l (i+1) _
theorem Pr(l:List Int)(h:Bytes l)(hl:l.length<=1000000):pB l=some (Zj l:Int):=by
 unfold pB;rw[show ((14695981039346656037:Int),(0:Int))=(λ(i:Nat) (r:Nat)=>((r:Int),(i:Int))) 0 14695981039346656037 from rfl];rw[L5 (l:=l) (λ(i:Nat) (r:Nat)=>((r:Int),(i:Int))) (λ_ r=>r<Ha) 14695981039346656037 (λ_ x r=>YR r x.toNat) (λr=>(r:Int)) (by unfold bR;omega) (by decide)]
 ·grind [Hb,YR,Zj,nat,List.foldl_map]
 ·rintro A x D r rfl B;have C:=h x (by simp);obtain⟨b,rfl⟩:∃b:Nat,x=(b:Int):=⟨x.toNat,by omega⟩;have u:b<Ha:=by unfold Ha;omega
  refine⟨?_,Zi _ _⟩;simp only[lQ,fE,jT,cA,aC4 B u];rw[show (1099511628211:Int)=((MP:Nat):Int) from rfl,YQ,CC (n:=A.length) (m:=1000000) (by grind) (by omega)];rfl
 simp[bV,cG]
theorem CT(r b:Nat)(hb:b<256):r ^^^ b=r - r % 256+(r % 256 ^^^ b):=by
 have u:(r ^^^ b) / 256=r / 256:=by
  have:=Nat.xor_div_two_pow (a:=r) (b:=b) (n:=8);rw[this,Nat.div_eq_of_lt hb,Nat.xor_zero]
 have A:(r ^^^ b) % 256=r % 256 ^^^ b:=by
  have:=Nat.xor_mod_two_pow (a:=r) (b:=b) (n:=8)
  grind
 omega
theorem Ih(l:List Int)(h:Bytes l)(hl:l.length<=1000000):nB l=some (Zj l:Int):=by
 unfold nB;rw[show ((14695981039346656037:Int),(0:Int))=(λ(i:Nat) (r:Nat)=>((r:Int),(i:Int))) 0 14695981039346656037 from rfl];rw[L5 (l:=l) (λ(i:Nat) (r:Nat)=>((r:Int),(i:Int))) (λ_ r=>r<Ha) 14695981039346656037 (λ_ x r=>YR r x.toNat) (λr=>(r:Int)) (by unfold bR;omega) (by decide)]
 ·rw[Hb (λr (x:Int)=>YR r x.toNat)];simp only[Zj,nat,List.foldl_map]
 ·rintro R x ab r rfl E;have S:=h x (by simp);obtain⟨b,rfl⟩:∃b:Nat,x=(b:Int):=⟨x.toNat,by omega⟩;have D:b<256:=by omega
  refine⟨?_,Zi _ _⟩;have T:r % 256<256:=aGx _ (by decide);simp only[lQ,fE];have F:r % 256 ^^^ b<2 ^ 8:=aGg (by omega) (by omega);rw[show ((0:Int),(1:Int))=(λi:Nat=>((((r % 256 ^^^ b) % 2 ^ i:Nat):Int),((2 ^ i:Nat):Int))) 0 from by simp[Nat.mod_one]];rw[El (λi:Nat=>((((r % 256 ^^^ b) % 2 ^ i:Nat):Int),((2 ^ i:Nat):Int))) 8 ((r % 256 ^^^ b:Nat):Int) (by unfold bR;omega)]
  ·rw[show (256:Int)=((256:Nat):Int) from rfl,MO,aE3 (Nat.mod_le _ _) E,aC5 (by have:=CT r b D;have:r ^^^ b<2 ^ 64:=aGg (by simpa[Ha] using E) (by omega);unfold Ha;omega),<-CT r b D];rw[show (1099511628211:Int)=((MP:Nat):Int) from rfl,YQ,CC (n:=R.length) (m:=1000000) (by simp at hl;omega) (by omega)];rfl
  ·intro i Q;have G:2 ^ i<256:=by
    have:=Nat.pow_lt_pow_right (a:=2) (by decide) Q;simpa using this
   have I:0<2 ^ i:=Nat.two_pow_pos i;have K:cm .lss ((2 ^ i:Nat):Int) 256=true:=by
    have:=LN (a:=2 ^ i) (b:=256);rw[show ((256:Nat):Int)=256 from rfl] at this;rw[this];simp only[G,xd]
   have L:nz ((2 ^ i:Nat):Int)=some ():=WT (by omega);have U:(r % 256 ^^^ b) % 2 ^ i<2 ^ i:=aGx _ I;simp only[K,fE,L,cA,jT];have V:Ha=18446744073709551616:=rfl;rw[show (256:Int)=((256:Nat):Int) from rfl,MO,TG (by omega),TG (by omega),show (2:Int)=((2:Nat):Int) from rfl,MO,MO,aC5 (by omega),YQ,aB4 (a:=2 ^ i*2) (by omega)];have u:(r % 256 ^^^ b) % 2 ^ (i+1)=(r % 256 ^^^ b) % 2 ^ i+2 ^ i*((r % 256 ^^^ b) / 2 ^ i % 2):=Nat.mod_pow_succ;rw[SE,Nat.add_mod] at u;have A:2 ^ (i+1)=2 ^ i*2:=aGo 2 i;have B:=aHg (r % 256 / 2 ^ i);have C:=aHg (b / 2 ^ i);have M:cm .neq ((0:Nat):Int) ((0:Nat):Int)=false:=(by decide);have N:cm .neq ((0:Nat):Int) ((1:Nat):Int)=true:=(by decide);have O:cm .neq ((1:Nat):Int) ((0:Nat):Int)=true:=(by decide);have P:cm .neq ((1:Nat):Int) ((1:Nat):Int)=false:=(by decide);generalize (r % 256 ^^^ b) % 2 ^ i=X at*;generalize (r % 256 ^^^ b) % 2 ^ (i+1)=Y at*;rcases B with B | B<;>rcases C with C | C<;>rw[B,C] at u ⊢
   ·rw[M];simp only[cG];obtain rfl:Y=X:=by simpa using u
    rw[A]
   ·rw[N];simp only[fE];obtain rfl:Y=X+2 ^ i:=by simpa using u
    rw[A]
   ·rw[O];simp only[fE];obtain rfl:Y=X+2 ^ i:=by simpa using u
    rw[A]
   ·rw[P];simp only[cG];obtain rfl:Y=X:=by simpa using u
    rw[A]
  ·have:cm .lss ((2 ^ 8:Nat):Int) 256=false:=(by decide);simp only[this,cG];rw[aB4 F]
 ·intro acc _;simp only[bV,cG]
def It(h:Int):List Int:=(List.range 8).map λj=>((h.toNat / 2 ^ (56 - 8*j) % 256:Nat):Int)
theorem GN(h:Int):Bytes (It h):=by
 intro x u
 grind [It]
theorem zR(h:Int):(It h).length=8:=by simp[It]
def Lz(l:List Int):List Int:=1::l.flatMap It
theorem R7{A:Type}(f:A->List Int)(l:List A)(h:∀x∈l,Bytes (f x)):Bytes (l.flatMap f):=by
 intro y u;obtain⟨x,B,u⟩:=aHi.1 u;exact h x B y u
theorem Ii(l:List Int):Bytes (Lz l):=by
 intro y u;rcases sK.1 u with rfl | u<;>grind [R7,It,GN]
theorem MR{A:Type}(f:A->List Int)(m:Nat)(l:List A)(h:∀x∈l,(f x).length=m):(l.flatMap f).length=l.length*m:=by
 induction l<;>grind
theorem Ps(l:List Int):(Lz l).length=1+l.length*8:=by
 rw[Lz,qf,MR It 8 l (λx _=>zR x)];omega
def Vv(l:List Int):Int:=(Zj (Lz l):Int)
def U64(l:List Int):Prop:=∀x∈l,0<=x/\x<18446744073709551616
theorem YS(l:List Int):0<=Vv l/\Vv l<18446744073709551616:=by
 have:=CS (Lz l)
 grind [Vv,Ha]
theorem aZ3(n k:Nat)(hk:k<=64):sh .shr .u64 (n:Int) (k:Int)=((n / 2 ^ k:Nat):Int):=by
 show Int.fdiv _ _=_
 grind [min,IntKind.bits,Int.fdiv_eq_ediv_of_nonneg,Int.le_of_lt,Int.pow_pos]
theorem TH(l:List Int)(hu:U64 l)(hl:l.length<=1000):vE l=some (Vv l):=by
 unfold vE;rw[show ((0:Int),([(1:Int)]:List Int))=(λ(i:Nat) (r:List Int)=>((i:Int),r)) 0 [1] from rfl];rw[L5 (l:=l) (λ(i:Nat) (r:List Int)=>((i:Int),r)) (λi r=>r.length<=1+8*i) [1] (λ_ x r=>r++It x) (λr=>r) (by unfold bR;omega) (by simp)]
 ·rw[H0 It l 0 [1]];have: [1]++l.flatMap It=Lz l:=rfl;rw[this,Pr _ (Ii l) (by rw[Ps];omega)];rfl
 ·rintro u x L r rfl M;have I:=hu x (by simp);obtain⟨b,rfl⟩:∃b:Nat,x=(b:Int):=⟨x.toNat,by omega⟩;have K:u.length<=1000:=by simp at hl;omega
  refine⟨?_,by simp[zR];omega⟩;simp only[lQ,fE,jT,cA];rw[show ((56:Int),r)=(λi:Nat=>((56:Int) - 8*i,r++(It b).take i)) 0 from by simp];rw[El (λi:Nat=>((56:Int) - 8*i,r++(It b).take i)) 8 (r++It b) (by unfold bR;omega)]
  ·rw[CC (n:=u.length) (m:=1000000) (by omega) (by omega)]
  ·intro i G;have A:((56:Int) - 8*(i:Int))=((56 - 8*i:Nat):Int):=(by omega);have B:cm .geq ((56:Int) - 8*(i:Int)) 0=true:=(by unfold cm;simp;omega);have C:nn ((56:Int) - 8*(i:Int))=some ():=(by unfold nn;rw[sM (by omega)]);have D:ar .sub .i64 ((56:Int) - 8*(i:Int)) 8=(56:Int) - 8*((i+1:Nat):Int):=by
    show IntKind.wrap .i64 _=_;rw[wrap_i64 (by omega)];push_cast;omega
   have E:IntKind.wrap .u8 (sh .shr .u64 (b:Int) ((56:Int) - 8*(i:Int)))=((b / 2 ^ (56 - 8*i) % 256:Nat):Int):=by
    rw[A,aZ3 _ _ (by omega)];simp[IntKind.wrap,IntKind.signed,IntKind.bits]
   have F:(It b).take (i+1)=(It b).take i++[((b / 2 ^ (56 - 8*i) % 256:Nat):Int)]:=by
    rw[List.take_add_one];congr 1;simp only[It];rw[ze,List.getElem?_range G];simp
   simp only[B,fE,C,cA,E];rw[j1 _ _ (by simp[zR];omega),cA,D,F,dt]
  ·have:cm .geq ((56:Int) - 8*((8:Nat):Int)) 0=false:=(by decide);simp only[this,cG];rw[aFh (by rw[zR];omega)]
 ·intro acc _;simp only[bV,cG]
def Rx(l:List Int):List Int:=(Sw.chunks 4 l).map Vv
theorem Zk{α:Type}{n:Nat}{xs c:List α}(h:c∈Sw.chunks n xs):∃k,c=(xs.drop (k*n)).take n:=by
 grind [Sw.chunks]
theorem U64.sub{l c:List Int}(h:U64 l)(hs:∀x∈c,x∈l):U64 c:=λx u=>h x (hs x u)
theorem Ry{l c:List Int}(h:U64 l)(hc:c∈Sw.chunks 4 l):U64 c/\c.length<=4:=by
 obtain⟨k,rfl⟩:=Zk hc;exact⟨h.sub λx u=>aGi (aE8 u),by grind⟩
theorem CU{ι α:Type}{f:ι->Option α}{g:ι->α}:∀(its:List ι) (acc:List α),(∀i∈its,f i=some (g i))->acc.length+its.length<=1000000->
  me (δ:=Empty) (λi acc=>(f i).bind λv=>(Sw.app acc [v]).bind λa=>some (.next a)) its acc=some (.u9 (acc++its.map g))
 | [],acc,_,_=>by simp[me]
 |i::is,acc,h,A=>by
  simp[me,h i (by simp),cA];rw[j1 _ _ (by grind)];simp only[cA];rw[CU is _ (λj u=>h j (by grind)) (by grind)];simp
theorem uY{α:Type}(n:Nat)(xs:List α):(Sw.chunks n xs).length=(xs.length+n - 1) / n:=by simp[Sw.chunks]
theorem MS(l:List Int)(hu:U64 l)(hl:l.length<=1000):nQ l=some (Rx l):=by
 unfold nQ gM;have A:cm .lss (4:Int) 1=false:=by decide
 have B:small l=some ():=by unfold small;grind
 have C:aLq 4=some ():=by decide
 simp only[jp,A,cG,cA,B,C,rg];rw[show Int.toNat 4=4 from rfl];rw[CU _ _ (λc u=>TH c (Ry hu u).1 (by have:=(Ry hu u).2;omega)) (by grind [uY])];simp[Rx]
theorem MU{α:Type}{n:Nat}(hn:1<=n){l:List α}{pre rest:List (List α)}{c:List α}(h:Sw.chunks n l=pre++c::rest):pre.length*n<l.length/\c=(l.drop (pre.length*n)).take n:=by
 have u:pre.length<(Sw.chunks n l).length:=by grind
 have A:=(Sw.N9 hn l).1 u;have B:=Sw.gi hn A
 grind
theorem CV{a b:Nat}(h:a+b<=4611686018427387904):ar .add .i64 (a:Int) (b:Int)=((a+b:Nat):Int):=WS (by omega)
theorem Ma{a b:Nat}:cm .lss (a:Int) (b:Int)=decide (a<b):=LN
theorem MV{α:Type}{l:List α}{i:Nat}{pre:List α}{x:α}{rest:List α}(h:l.drop i=pre++x::rest):Sw.idx l ((i+pre.length:Nat):Int)=some x:=by
 have:(l.drop i)[pre.length]? =some x:=by grind
 rwa [List.getElem?_drop] at this
theorem aE4(b:Nat)(j:Nat)(hj:j<8):(It b).take (j+1)=(It b).take j++[((b / 2 ^ (56 - 8*j) % 256:Nat):Int)]:=by
 grind [List.take_add_one,It,List.getElem?_range]
theorem Vx(l:List Int)(hu:U64 l)(hl:l.length<=1000):sV l=some (Rx l):=by
 unfold sV;have E:(Sw.chunks 4 l).length<=1000:=by rw[uY];omega
 rw[show ((0:Int),([]:List Int))=(λ(i:Nat) (r:List Int)=>(((i*4:Nat):Int),r)) 0 [] from rfl];rw[L5 (l:=Sw.chunks 4 l) (λ(i:Nat) (r:List Int)=>(((i*4:Nat):Int),r)) (λi r=>r.length=i) [] (λ_ c r=>r++[Vv c]) (λr=>r) (by unfold bR;omega) rfl]
 ·have:∀(cs:List (List Int)) (i:Nat) (acc:List Int),(cs.zipIdx i).foldl (λacc x=>acc++[Vv x.1]) acc=acc++cs.map Vv:=by
   intro cs
   induction cs with
   |nil=>intro i acc;simp
   |cons c cs X=>intro i acc;simp only[aG0,xz,X];simp
  rw[this];simp[Rx]
 ·intro u c af r C F;obtain⟨V,G⟩:=MU (by decide) C;have qp:u.length<=1000:=by rw[C] at E;simp at E;omega
  have I:U64 c/\c.length<=4:=Ry hu (by rw[C];simp);refine⟨?_,by simp[F]⟩;have ab:l.length<=1000:=hl;simp only[Ma,V,xd,fE];rw[show ((((u.length*4:Nat):Int)),([(1:Int)]:List Int))=(λ(j:Nat) (r:List Int)=>(((u.length*4+j:Nat):Int),r)) 0 [1] from rfl];rw[show (4:Int)=((4:Nat):Int) from rfl,CV (by omega)];have ac:c.length=min 4 (l.length - u.length*4):=by rw[G];simp
  rw[L5 (l:=c) (λ(j:Nat) (r:List Int)=>(((u.length*4+j:Nat):Int),r)) (λj r=>r.length<=1+8*j) [1] (λ_ x r=>r++It x) (λr=>r) (by unfold bR;omega) (by simp)]
  ·rw[H0 It c 0 [1]];have e: [1]++c.flatMap It=Lz c:=rfl;rw[e,Ih _ (Ii c) (by rw[Ps];omega),cA,j1 _ _ (by simp[F];omega),cA];rw[show (u.length+1)*4=u.length*4+4 from by omega];rfl
  ·intro A x T acc D ai;have hx:=I.1 x (by rw[D];simp);obtain⟨b,rfl⟩:∃b:Nat,x=(b:Int):=⟨x.toNat,by omega⟩;have ad:A.length<c.length:=(by rw[D];simp);refine⟨?_,by simp[zR];omega⟩;have K:Sw.idx l ((u.length*4+A.length:Nat):Int)=some (b:Int):=by
    have L:l.drop (u.length*4)=A++(b:Int)::(T++(l.drop (u.length*4)).drop 4):=by
     have:=sw 4 (l.drop (u.length*4));rw[<-G,D] at this;exact this.symm.trans (by simp)
    exact MV L
   have c1:decide (u.length*4+A.length<u.length*4+4)=true:=(by simp;omega);have M:decide (u.length*4+A.length<l.length)=true:=(by simp;omega);simp only[Ma,c1,M,fE,cA];rw[show ((72057594037927936:Int),acc)=(λi:Nat=>(((2 ^ 56 / 256 ^ i:Nat):Int),acc++(It b).take i)) 0 from by simp only[Nat.pow_zero,Nat.div_one,List.take_zero,rf];rfl];rw[El (λi:Nat=>(((2 ^ 56 / 256 ^ i:Nat):Int),acc++(It b).take i)) 8 (acc++It b) (by unfold bR;omega)]
   ·rw[show (1:Int)=((1:Nat):Int) from rfl,CV (by omega)];rfl
   ·intro i U;have N:b<Ha:=(by unfold Ha;omega);have B:2 ^ 56 / 256 ^ i=2 ^ (56 - 8*i):=by
     rw[show (256:Nat)=2 ^ 8 from rfl,<-Nat.pow_mul,Nat.pow_div (by omega) (by decide)]
    have O:0<2 ^ (56 - 8*i):=Nat.two_pow_pos _;have ae:2 ^ (56 - 8*i)<=2 ^ 56:=aF9 (by decide) (by omega);have P:cm .gtr ((2 ^ 56 / 256 ^ i:Nat):Int) 0=true:=(by rw[B];unfold cm;simp only[aGj];exact_mod_cast O);have Q:nz ((2 ^ 56 / 256 ^ i:Nat):Int)=some ():=WT (by rw[B];omega);have R:IntKind.wrap .u8 (ar .rem .u64 (ar .quo .u64 (b:Int) ((2 ^ 56 / 256 ^ i:Nat):Int)) 256)=((b / 2 ^ (56 - 8*i) % 256:Nat):Int):=by
     rw[TG N,show (256:Int)=((256:Nat):Int) from rfl,MO,B];simp[IntKind.wrap,IntKind.signed,IntKind.bits]
    have S:ar .quo .u64 ((2 ^ 56 / 256 ^ i:Nat):Int) 256=((2 ^ 56 / 256 ^ (i+1):Nat):Int):=by
     rw[show (256:Int)=((256:Nat):Int) from rfl,TG (by rw[B];unfold Ha;omega),Nat.div_div_eq_div_mul,show (256:Nat) ^ (i+1)=256 ^ i*256 from rfl]
    simp only[P,fE,K,Q,cA,R];rw[j1 _ _ (by rw[cM,Z1,zR,aF4];omega),cA,S,aE4 b i U,dt]
   ·have:cm .gtr ((2 ^ 56 / 256 ^ 8:Nat):Int) 0=false:=(by decide);simp only[this,cG];rw[aFh (by rw[zR];omega)]
  ·intro acc _;have:(decide (u.length*4+c.length<u.length*4+4)=false)\/(decide (u.length*4+c.length<l.length)=false):=by
    rcases jl c.length 4 with h | h
    ·right;simp;omega
    ·left;simp;omega
   simp only[Ma];rcases this with h | h
   ·simp only[h,cG,cA]
   ·cases hd:decide (u.length*4+c.length<u.length*4+4)<;>simp only[h,cG,fE,cA]
 ·intro acc _;have:¬(Sw.chunks 4 l).length*4<l.length:=by
   rw[uY];omega
  simp only[Ma,this,dq,cG]
theorem Rz(l:List Int):(Rx l).length=(l.length+3) / 4:=by simp[Rx,uY]
theorem WV(l:List Int):U64 (Rx l):=by
 intro x u;simp[Rx,ot] at u;obtain⟨c,_,rfl⟩:=u;simp[YS]
def Zl:Nat->List Int->List (List Int) | 0,_=>[] | f+1,l=>if l.length<=1 then [] else Rx l::Zl f (Rx l)
theorem Sa{a b:Nat}:cm .gtr (a:Int) (b:Int)=decide (b<a):=by simp[cm]
theorem CW{ab:List Int->Option (List Int)}(hab:∀l,U64 l->l.length<=1000->ab l=some (Rx l)):∀(n f:Nat) (l:List Int) (acc:List (List Int)),U64 l->l.length<=n->n<=1000->n<f->acc.length+n<=2000->loop (λ(s:List Int×List (List Int))=>bif (cm .gtr (s.1.length:Int) (1:Int)) then (ab s.1).bind λv=>(Sw.app s.2 [v]).bind λa=>some (.next (v,a)) else (some (.done (.u9 s.2)):Option (Step (List Int×List (List Int)) (Ex (List (List Int)) (List (List Int)×Option Int))))) f (l,acc)=some (.u9 (acc++Zl n l))/\loop (λ(s:List Int×List (List Int))=>bif (cm .gtr (s.1.length:Int) (1:Int)) then (ab s.1).bind λv=>(Sw.app s.2 [v]).bind λa=>some (.next (v,a)) else (some (.done (.u9 s.2)):Option (Step (List Int×List (List Int)) (Ex (List (List Int)) (List (List Int)))))) f (l,acc)=some (.u9 (acc++Zl n l)):=by
 intro n
 induction n with
 |zero=>
  intro f l acc _ A _ B _;obtain⟨f,rfl⟩:∃f',f=f'+1:=⟨f - 1,by omega⟩;have:cm .gtr (l.length:Int) 1=false:=by rw[show (1:Int)=((1:Nat):Int) from rfl,Sa];simp;omega
  simp[loop,this,Zl]
 |succ n F=>
  intro f l acc C A I B K;obtain⟨f,rfl⟩:∃f',f=f'+1:=⟨f - 1,by omega⟩;by_cases u:l.length<=1
  ·have:cm .gtr (l.length:Int) 1=false:=(by rw[show (1:Int)=((1:Nat):Int) from rfl,Sa];simp;omega);simp[loop,this,Zl,u]
  ·have:cm .gtr (l.length:Int) 1=true:=(by rw[show (1:Int)=((1:Nat):Int) from rfl,Sa];simp;omega);have G:=Rz l;obtain⟨D,E⟩:=F f (Rx l) (acc++[Rx l]) (WV l) (by omega) (by omega) (by omega) (by simp;omega);simp only[loop,this,fE,hab l C (by omega),cA,j1 acc [Rx l] (by simp;omega),Zl,nS u];rw[D,E];simp
def Sb(b:aD):Int:=(Zj (0::b):Int)
def leaves(bs:List aD):List Int:=bs.map Sb
theorem Mb(bs:List aD):U64 (leaves bs):=by
 intro x u;simp[leaves,ot] at u;obtain⟨b,_,rfl⟩:=u;have:=CS (0::b)
 grind [Sb,Ha]
def tree(bs:List aD):List (List Int):=leaves bs::Zl bs.length (leaves bs)
def aC6(bs:List aD):Prop:=∀b∈bs,b.length=8/\Bytes b
theorem TJ{b:aD}(h:b.length=8/\Bytes b):vD b=some (Sb b):=by
 unfold vD;rw[j1 _ _ (by grind),cA,Pr _ (by intro x u;simp at u;rcases u with rfl | u;decide;exact h.2 x u) (by grind)];rfl
theorem foldl_map{A B:Type}(f:A->B):∀(l:List A) (i:Nat) (acc:List B),(l.zipIdx i).foldl (λacc x=>acc++[f x.1]) acc=acc++l.map f
 | [],_,_=>by simp
 |x::l,i,acc=>by simp only[aG0,xz];rw[foldl_map f l];simp
theorem aSl(bs:List aD)(hb:aC6 bs)(hl:bs.length<=1000):wF bs=some (if bs.length<1\/bs.length>32 then ([],some 1) else (tree bs,none)):=by
 unfold wF;rw[show (1:Int)=((1:Nat):Int) from rfl,show (32:Int)=((32:Nat):Int) from rfl,Ma,Sa];by_cases u:bs.length<1
 ·simp[u]
 ·by_cases A:bs.length>32
  ·have:(32<bs.length):=A;simp[u,this]
  ·have B:¬32<bs.length:=A;simp only[u,B,dq,cG,cA];rw[show ((0:Int),([]:List Int))=(λ(i:Nat) (r:List Int)=>((i:Int),r)) 0 [] from rfl];rw[L5 (l:=bs) (λ(i:Nat) (r:List Int)=>((i:Int),r)) (λi r=>r.length=i) [] (λ_ x r=>r++[Sb x]) (λr=>r) (by unfold bR;omega) rfl]
   ·rw[foldl_map Sb bs 0 []];have C:=(CW (ab:=nQ) MS bs.length bR (leaves bs) [leaves bs] (Mb bs) (by simp[leaves]) (by omega) (by unfold bR;omega) (by simp;omega)).1;rw[show []++bs.map Sb=leaves bs from rfl];have D:((1:Nat):Int)=1:=rfl;simp only[D];unfold lp;rw[C];simp[tree]
   ·rintro E x G r rfl F;refine⟨?_,by simp[F]⟩;simp only[lQ,fE,jT,cA];rw[TJ (hb x (by simp)),cA,j1 _ _ (by simp at hl ⊢;omega),cA,show ((1:Nat):Int)=1 from rfl,CC (n:=E.length) (m:=1000000) (by simp at hl;omega) (by omega)]
   ·intro acc _;simp only[bV,cG]
theorem TK{A:Type}(b:aD)(h:b.length=8)(k:List Int->Option A):lp (β:=List Int) (λ(im:Int×List Int)=>bif (cm .lss im.1 (8:Int)) then (Sw.idx b im.1).bind λz98=>(Sw.app im.2 [z98]).bind λv99=>some (.next ((ar .add .i64 im.1 (1:Int)),v99)) else some (.done (.u9 im.2))) ((0:Int),([(0:Int)]:List Int)) k=k (0::b):=by
 rw[show ((0:Int),([(0:Int)]:List Int))=(λ(i:Nat) (r:List Int)=>((i:Int),r)) 0 [0] from rfl];rw[L5 (l:=b) (λ(i:Nat) (r:List Int)=>((i:Int),r)) (λi r=>r.length=i+1) [0] (λ_ x r=>r++[x]) (λr=>r) (by unfold bR;omega) rfl]
 ·rw[foldl_map (λx=>x) b 0 [0]];simp
 ·rintro u x C r rfl B;refine⟨?_,by simp[B]⟩;have:cm .lss (u.length:Int) 8=true:=by
   rw[show (8:Int)=((8:Nat):Int) from rfl,Ma];simp at h ⊢;omega
  simp only[this,fE,jT,cA];rw[j1 _ _ (by simp at h ⊢;omega),cA,CC (n:=u.length) (m:=1000000) (by simp at h;omega) (by omega)]
 ·intro acc _;have:cm .lss (b.length:Int) 8=false:=by
   rw[show (8:Int)=((8:Nat):Int) from rfl,Ma,h];decide
  simp only[this,cG]
theorem aKo(bs:List aD)(hb:aC6 bs)(hl:bs.length<=1000):qY bs=some (tree bs):=by
 unfold qY;rw[show ((0:Int),([]:List Int))=(λ(i:Nat) (r:List Int)=>((i:Int),r)) 0 [] from rfl];rw[L5 (l:=bs) (λ(i:Nat) (r:List Int)=>((i:Int),r)) (λi r=>r.length=i) [] (λ_ x r=>r++[Sb x]) (λr=>r) (by unfold bR;omega) rfl]
 ·rw[foldl_map Sb bs 0 []];have B:=(CW (ab:=sV) Vx bs.length bR (leaves bs) [leaves bs] (Mb bs) (by simp[leaves]) (by omega) (by unfold bR;omega) (by simp;omega)).2;rw[show []++bs.map Sb=leaves bs from rfl];unfold lp;rw[B];simp[tree]
 ·rintro C x E r rfl D;refine⟨?_,by simp[D]⟩;have A:=hb x (by simp);simp only[lQ,fE,jT,cA];rw[TK x A.1,Ih _ (by intro y u;simp at u;rcases u with rfl | u;decide;exact A.2 y u) (by simp;omega),cA,j1 _ _ (by simp at hl ⊢;omega),cA,CC (n:=C.length) (m:=1000000) (by simp at hl;omega) (by omega)];rfl
 simp[bV,cG]
def xj:List (List Int)->Prop | []=>False | [l]=>l.length=1 | l::m::t=>1<l.length/\m=Rx l/\xj (m::t)
theorem Vy:∀(n:Nat) (l:List Int),1<=l.length->l.length<=n->xj (l::Zl n l)
 | 0,l,u,A=>by omega
 |n+1,l,u,A=>by
  simp[Zl];by_cases h:l.length<=1
  ·grind [xj]
  ·rw[nS h];have:=Rz l;exact⟨by omega,rfl,Vy n (Rx l) (by omega) (by omega)⟩
theorem CX:∀(n:Nat) (l:List Int),(Zl n l).length<=n
 | 0,l=>by simp[Zl]
 |n+1,l=>by
  simp[Zl];split
  ·simp
  ·have:=CX n (Rx l);grind
theorem xj.at:∀{t:List (List Int)},xj t->∀(pre rest:List (List Int)) (l:List Int),t=pre++l::rest->(rest=[]/\l.length=1)\/(∃m r,rest=m::r/\1<l.length/\m=Rx l)
 | [],h,_,_,_,_=>h.elim
 | [l0],h,pre,rest,l,e=>by
  cases pre with
  |nil=>obtain⟨rfl,rfl⟩:=e;exact .inl ⟨rfl,h⟩
  |cons p pre=>simp_all
 |l0::m0::t,h,pre,rest,l,e=>by
  cases pre with
  |nil=>simp at e;obtain⟨rfl,rfl⟩:=e;exact .inr ⟨m0,t,rfl,h.1,h.2.1⟩
  |cons p pre=>simp at e;exact xj.at h.2.2 pre rest l e.2
theorem xj.ne{t:List (List Int)}(h:xj t):t≠ []:=by rintro rfl;exact h
theorem WW:∀(n:Nat) (l:List Int) (m:Nat),l.length<=m->∀x∈Zl n l,U64 x/\x.length<=m
 | 0,l,m,h,x,u=>by simp[Zl] at u
 |n+1,l,m,h,x,u=>by
  simp only[Zl] at u;split at u
  ·grind
  ·have A:=Rz l;rcases sK.1 u with rfl | u
   ·grind [WV]
   ·exact WW n (Rx l) m (by omega) x u
theorem yg(bs:List aD)(h:bs.length<=32):∀l∈tree bs,U64 l/\l.length<=32:=by
 intro l u;rcases sK.1 u with rfl | u
 ·grind [Mb,leaves]
 ·exact WW bs.length (leaves bs) 32 (by grind [leaves]) l u
theorem yf(bs:List aD):(tree bs).length<=bs.length+1:=by
 simp[CX,leaves,tree]
theorem um(bs:List aD)(h:1<=bs.length):xj (tree bs):=Vy _ _ (by grind [leaves]) (by simp[leaves])
end Go.lx
namespace Go.Mo
open Go Go.Sw
structure PS where
 n:Int
 fn:Int
 B2:Int
 y8:Int
 blocks:(List aD)
 j8:(Int×(List (Int×aD))×(List (Int×(List (Int×aD))))×Bool)
 past:(List (Int×(List aD)))
 Wr:Int
 j0:(Int×Int×(List (Int×(List Int)×(List aD))))
 sent:Int
 safe:Int
 j7:(List Int)
 on:Int
 B4:Int
 u4:Int
 first:Int
 receiver:(Int×Int)
 r7:(List (Bool×Bool×(List Int)))
 P2:Int
 fd:((List aD)×(List (Int×aD))×Int)
 K8:Int
 od:((List aD)×(List (Int×aD))×Int)
def kL(a1:Int)(a2:aD)(s:PS):Option ((Option Int)×PS):=(dF a1 a2 s.n s.fn s.B2 s.y8 s.blocks s.j8 s.past s.Wr s.j0 s.sent s.safe s.j7 s.on s.B4 s.u4 s.first s.receiver s.r7 s.P2 s.fd s.K8 s.od).bind λv=>some (v.1,{ s with blocks:=v.2.1,j8:=v.2.2 })
def nF(a1:Int)(s:PS):Option (aD×(Option Int)×PS):=(eP a1 s.n s.fn s.B2 s.y8 s.blocks s.j8 s.past s.Wr s.j0 s.sent s.safe s.j7 s.on s.B4 s.u4 s.first s.receiver s.r7 s.P2 s.fd s.K8 s.od).bind λv=>some (v.1,v.2,s)
def pO(s:PS):Option ((Option Int)×PS):=(eJ s.n s.fn s.B2 s.y8 s.blocks s.j8 s.past s.Wr s.j0 s.sent s.safe s.j7 s.on s.B4 s.u4 s.first s.receiver s.r7 s.P2 s.fd s.K8 s.od).bind λv=>some (v.1,{ s with B2:=v.2.1,j8:=v.2.2.1,past:=v.2.2.2.1,P2:=v.2.2.2.2.1,fd:=v.2.2.2.2.2 })
def eG(s:PS):Option ((Option Int)×PS):=(bO s.n s.fn s.B2 s.y8 s.blocks s.j8 s.past s.Wr s.j0 s.sent s.safe s.j7 s.on s.B4 s.u4 s.first s.receiver s.r7 s.P2 s.fd s.K8 s.od).bind λv=>some (v.1,{ s with j0:=v.2.1,sent:=v.2.2.1,j7:=v.2.2.2.1,r7:=v.2.2.2.2 })
def jW(a1:Int)(s:PS):Option (Int×Bool×PS):=(bD a1 s.n s.fn s.B2 s.y8 s.blocks s.j8 s.past s.Wr s.j0 s.sent s.safe s.j7 s.on s.B4 s.u4 s.first s.receiver s.r7 s.P2 s.fd s.K8 s.od).bind λv=>some (v.1,v.2,s)
def rA(a1:(Int×(List Int)×(List aD)))(s:PS):Option ((Option Int)×PS):=(dT a1 s.n s.fn s.B2 s.y8 s.blocks s.j8 s.past s.Wr s.j0 s.sent s.safe s.j7 s.on s.B4 s.u4 s.first s.receiver s.r7 s.P2 s.fd s.K8 s.od).bind λv=>some (v.1,{ s with B4:=v.2.1,K8:=v.2.2.1,od:=v.2.2.2 })
def cE(a1:(List Int))(s:PS):Option ((Option Int)×PS):=(bE a1 s.n s.fn s.B2 s.y8 s.blocks s.j8 s.past s.Wr s.j0 s.sent s.safe s.j7 s.on s.B4 s.u4 s.first s.receiver s.r7 s.P2 s.fd s.K8 s.od).bind λv=>some (v.1,{ s with B4:=v.2.1,first:=v.2.2.1,receiver:=v.2.2.2.1,r7:=v.2.2.2.2.1,K8:=v.2.2.2.2.2.1,od:=v.2.2.2.2.2.2 })
def cJ(a1:(List Int))(s:PS):Option ((Option Int)×PS):=(bI a1 s.n s.fn s.B2 s.y8 s.blocks s.j8 s.past s.Wr s.j0 s.sent s.safe s.j7 s.on s.B4 s.u4 s.first s.receiver s.r7 s.P2 s.fd s.K8 s.od).bind λv=>some (v.1,{ s with j8:=v.2.1,Wr:=v.2.2.1,j0:=v.2.2.2.1,sent:=v.2.2.2.2.1,safe:=v.2.2.2.2.2.1,j7:=v.2.2.2.2.2.2 })
def gJ(a1:(Bool×Bool×(List Int)))(s:PS):Option ((Option Int)×PS):=(cK a1 s.n s.fn s.B2 s.y8 s.blocks s.j8 s.past s.Wr s.j0 s.sent s.safe s.j7 s.on s.B4 s.u4 s.first s.receiver s.r7 s.P2 s.fd s.K8 s.od).bind λv=>some (v.1,{ s with j8:=v.2.1,Wr:=v.2.2.1,j0:=v.2.2.2.1,sent:=v.2.2.2.2.1,safe:=v.2.2.2.2.2.1,j7:=v.2.2.2.2.2.2.1,B4:=v.2.2.2.2.2.2.2.1,first:=v.2.2.2.2.2.2.2.2.1,receiver:=v.2.2.2.2.2.2.2.2.2.1,r7:=v.2.2.2.2.2.2.2.2.2.2.1,K8:=v.2.2.2.2.2.2.2.2.2.2.2.1,od:=v.2.2.2.2.2.2.2.2.2.2.2.2 })
def bK(a1:Int)(s:PS):Option ((Option Int)×PS):=(bJ a1 s.n s.fn s.B2 s.y8 s.blocks s.j8 s.past s.Wr s.j0 s.sent s.safe s.j7 s.on s.B4 s.u4 s.first s.receiver s.r7 s.P2 s.fd s.K8 s.od).bind λv=>some (v.1,{ s with j8:=v.2.1,Wr:=v.2.2.1,j0:=v.2.2.2.1,sent:=v.2.2.2.2.1,safe:=v.2.2.2.2.2.1,j7:=v.2.2.2.2.2.2.1,B4:=v.2.2.2.2.2.2.2.1,first:=v.2.2.2.2.2.2.2.2.1,receiver:=v.2.2.2.2.2.2.2.2.2.1,r7:=v.2.2.2.2.2.2.2.2.2.2.1,K8:=v.2.2.2.2.2.2.2.2.2.2.2.1,od:=v.2.2.2.2.2.2.2.2.2.2.2.2 })
def qH(a1:Int)(s:PS):Option ((Option Int)×PS):=(eQ a1 s.n s.fn s.B2 s.y8 s.blocks s.j8 s.past s.Wr s.j0 s.sent s.safe s.j7 s.on s.B4 s.u4 s.first s.receiver s.r7 s.P2 s.fd s.K8 s.od).bind λv=>some (v.1,{ s with r7:=v.2 })
def kM(a1:Int)(s:PS):Option ((Option Int)×PS):=(cZ a1 s.n s.fn s.B2 s.y8 s.blocks s.j8 s.past s.Wr s.j0 s.sent s.safe s.j7 s.on s.B4 s.u4 s.first s.receiver s.r7 s.P2 s.fd s.K8 s.od).bind λv=>some (v.1,{ s with r7:=v.2 })
def qI(a1:(Int×aD×Int×Int×Int×(List aD)))(s:PS):Option ((Int×aD×Int×Int×Int×(List aD))×(Option Int)×PS):=(cL a1 s.n s.fn s.B2 s.y8 s.blocks s.j8 s.past s.Wr s.j0 s.sent s.safe s.j7 s.on s.B4 s.u4 s.first s.receiver s.r7 s.P2 s.fd s.K8 s.od).bind λv=>some (v.1,v.2,s)
def lS(a1:(Int×Int×Int×aD))(s:PS):Option ((Int×aD×Int×Int×Int×(List aD))×(Option Int)×PS):=(gD a1 s.n s.fn s.B2 s.y8 s.blocks s.j8 s.past s.Wr s.j0 s.sent s.safe s.j7 s.on s.B4 s.u4 s.first s.receiver s.r7 s.P2 s.fd s.K8 s.od).bind λv=>some (v.1,v.2.1,{ s with n:=v.2.2.1,fn:=v.2.2.2.1,B2:=v.2.2.2.2.1,y8:=v.2.2.2.2.2.1,blocks:=v.2.2.2.2.2.2.1,j8:=v.2.2.2.2.2.2.2.1,past:=v.2.2.2.2.2.2.2.2.1,Wr:=v.2.2.2.2.2.2.2.2.2.1,j0:=v.2.2.2.2.2.2.2.2.2.2.1,sent:=v.2.2.2.2.2.2.2.2.2.2.2.1,safe:=v.2.2.2.2.2.2.2.2.2.2.2.2.1,j7:=v.2.2.2.2.2.2.2.2.2.2.2.2.2.1,on:=v.2.2.2.2.2.2.2.2.2.2.2.2.2.2.1,B4:=v.2.2.2.2.2.2.2.2.2.2.2.2.2.2.2.1,u4:=v.2.2.2.2.2.2.2.2.2.2.2.2.2.2.2.2.1,first:=v.2.2.2.2.2.2.2.2.2.2.2.2.2.2.2.2.2.1,receiver:=v.2.2.2.2.2.2.2.2.2.2.2.2.2.2.2.2.2.2.1,r7:=v.2.2.2.2.2.2.2.2.2.2.2.2.2.2.2.2.2.2.2.1,P2:=v.2.2.2.2.2.2.2.2.2.2.2.2.2.2.2.2.2.2.2.2.1,fd:=v.2.2.2.2.2.2.2.2.2.2.2.2.2.2.2.2.2.2.2.2.2.1,K8:=v.2.2.2.2.2.2.2.2.2.2.2.2.2.2.2.2.2.2.2.2.2.2.1,od:=v.2.2.2.2.2.2.2.2.2.2.2.2.2.2.2.2.2.2.2.2.2.2.2 })
end Go.Mo
namespace Go.bn
open Go Go.Sw Go.Mo Go.Pl
def nK(c:Int):List Int->List (List Int)
 | []=>[[]]
 |b::l=>if b=c then []::nK c l else match nK c l with
  | []=>[[b]]
  |x::r=>(b::x)::r
theorem Ch(c:Int)(l:List Int):nK c l≠ []:=by
 cases l with
 |nil=>simp[nK]
 |cons b l=>unfold nK;split<;>(try split)<;>simp
theorem CY(c:Int):∀l,nK c (l++[c])=nK c l++[[]]
 | []=>by simp[nK]
 |b::l=>by
  have h:=CY c l;have u:=Ch c l;simp only[ud,nK,h];cases hq:nK c l with
  |nil=>exact absurd hq u
  |cons x r=>split<;>simp
theorem CZ{c x:Int}(hx:x≠c):∀{l:List Int} {o q},nK c l=o++[q]->nK c (l++[x])=o++[q++[x]]
 | [],o,q,h=>by
  have:o=[]/\q=[]:=by cases o<;>simp_all [nK]
  simp[nK,hx,this.1,this.2]
 |b::l,o,q,h=>by
  obtain⟨u,C,e⟩:∃u C,nK c l=u++[C]:=⟨_,_,(aGk (Ch c l)).symm⟩;have D:=CZ hx e;simp only[ud,nK,D];simp only[nK,e] at h;by_cases B:b=c
  ·rw[sM B] at h ⊢;rw[<-ud] at h ⊢;obtain⟨rfl,A⟩:=List.append_inj' h rfl;rw[List.singleton_inj.1 A]
  ·rw[nS B] at h ⊢;cases u with
   |nil=>
    simp only[rh] at h ⊢;cases o with
    |nil=>
     simp only[rh,aG7,and_true] at h;subst h;rfl
    |cons y o=>simp at h
   |cons y u=>
    simp only[ud] at h ⊢;rw[<-ud] at h;obtain⟨rfl,A⟩:=List.append_inj' h rfl;rw[List.singleton_inj.1 A];rfl
theorem MW(l:List Int)(c:Int)(hl:l.length<=1000000):qX l c=some (nK c l):=by
 unfold qX;refine sI (l:=l) (B:=Nat×List (List Int)) (λi a=>((a.1:Int),(i:Int),a.2)) (λu a=>a.1<=u.length/\a.2.length<=u.length/\nK c u=a.2++[u.drop a.1]) (λa=>((a.1:Int),a.2)) (0,[]) (by unfold bR;omega) ⟨by simp,by simp,rfl⟩ ?_ ?_ ?_
 ·rintro u x G ⟨f,o⟩ hd ⟨C,E,A⟩;simp only at C E A;have F:u.length+1<=l.length:=by rw[hd];simp
  simp only[iN hd,fE,fF hd,cA,ce];by_cases D:x=c
  ·subst D;have:Sw.sub l (f:Int) (u.length:Int)=some (u.drop f):=by
    unfold Sw.sub;rw[sM ⟨by omega,by omega,by omega⟩,hd];simp
   refine⟨(u.length+1,o++[u.drop f]),?_,by simp,by simp;omega,?_⟩
   ·simp only[xd,fE,this,cA,j1 o [u.drop f] (by simp;omega),L3 (show u.length<=_ by omega)]
   ·rw[CY,A];simp
  ·refine⟨(f,o),?_,by simp;omega,by simp;omega,?_⟩
   ·simp only[cT D,cG,L3 (show u.length<=_ by omega)]
   ·rw[CZ D A,List.drop_append_of_le_length C]
 ·rintro⟨f,o⟩ _;simp only[bV,cG]
 ·rintro⟨f,o⟩ ⟨C,E,A⟩;simp only at C E A;have:Sw.sub l (f:Int) (l.length:Int)=some (l.drop f):=by
   unfold Sw.sub;rw[sM ⟨by omega,by omega,by omega⟩];simp
  simp only[this,cA,j1 o [l.drop f] (by simp;omega),A]
theorem GQ{b c:UInt8}(h:b≠c)(l:List UInt8):∀k,Lib.splitK [c] 0 k (b::l)=match Lib.splitK [c] 0 k l with | []=>[[b]] | x::r=>(b::x)::r
 | 0=>rfl
 |k+1=>by
  have u:([c]:List UInt8).isPrefixOf (b::l)=false:=by simp[List.isPrefixOf,jj h]
  have A:Lib.index (b::l) [c]=if Lib.index l [c]== -1 then -1 else Lib.index l [c]+1:=by rw[Lib.index,u];simp
  have F:=Lib.index_ge l [c];unfold Lib.splitK;rw[A];by_cases B:Lib.index l [c]= -1
  ·simp[B]
  ·obtain⟨j,E⟩:∃j:Nat,Lib.index l [c]=j:=⟨(Lib.index l [c]).toNat,by omega⟩;have C:((j:Int)== -1)=false:=(by simp);have D:((j:Int)+1== -1)=false:=(by simp;omega);rw[E];simp only[C,D,M5,mu];rw[show ((j:Int)+1).toNat=j+1 by omega,show (j:Int).toNat=j by omega];simp
theorem Pu(c:UInt8):∀l,(Lib.split l [c]).map ui=nK c.toNat (ui l)
 | []=>by simp[Lib.split,Lib.count_one,Lib.splitK,ui,nK]
 |b::l=>by
  have u:=Pu c l;unfold Lib.split at u ⊢;rw[Lib.count_one] at u ⊢;simp only[ui,V0] at u ⊢;unfold nK;rw[<-u];by_cases h:b=c
  ·subst h;rw[List.count_cons_self,sM rfl];have:Lib.splitK [b] 0 (l.count b+1) (b::l)=[]::Lib.splitK [b] 0 (l.count b) l:=by
    rw[Lib.splitK,show Lib.index (b::l) [b]=0 by rw[Lib.index];simp[List.isPrefixOf]];simp
   rw[this];rfl
  ·rw[List.count_cons_of_ne (by simpa using h),GQ h,nS (λe=>h (UInt8.toNat_inj.1 (by omega)))];cases Lib.splitK [c] 0 (l.count c) l<;>rfl
theorem aC7(s:ByteArray):lb s=ui s.data.toList:=by rw[<-Oz]
theorem MY{l:List Int}(hb:C2 l)(hl:l.length<=1000000):Da l [32]=some (nK 32 l):=by
 unfold Da;rw[sM ⟨by omega,by simp⟩];have h:=Lib.splitB_data (jE [32]) 0 (Lib.countB (jE l) (jE [32])) (jE l);have u:=Pu 32 (ub l);rw[Lg hb] at u;have e:(jE [32]).data.toList=[32]:=by rw[sC];rfl
 unfold Lib.split at u;rw[show Lib.countB (jE l) (jE [32])=Lib.count (ub l) [32] by show Lib.count _ _=_;rw[e,sC]] at h ⊢;rw[e,sC] at h;rw[<-h] at u;rw[<-show ((32:UInt8).toNat:Int)=32 from rfl,<-u,aHh];simp only[W6];exact aGl λs _=>aC7 s
theorem Vz{c:Int}:∀{l q:List Int},q∈nK c l->q.length<=l.length/\∀b∈q,b∈l
 | [],q,h=>by simp[nK] at h;subst h;simp
 |b::l,q,h=>by
  unfold nK at h;have u:=λq h=>Vz (c:=c) (l:=l) (q:=q) h;split at h
  ·rcases sK.1 h with rfl | h
   ·simp
   ·exact⟨aHx (u q h).1,λx A=>kf _ ((u q h).2 x A)⟩
  ·split at h
   ·simp at h;subst h;simp
   ·rename_i x r e;rcases sK.1 h with rfl | h
    ·have:=u x (by rw[e];exact kg);exact⟨by simp;omega,λy B=>(sK.1 B).elim (λh=>h ▸ kg) λh=>kf _ (this.2 y h)⟩
    ·have:=u q (by rw[e];exact kf _ h);exact⟨aHx this.1,λx A=>kf _ (this.2 x A)⟩
theorem Mc(c:Int):∀l,(nK c l).length<=l.length+1
 | []=>by simp[nK]
 |b::l=>by
  have:=Mc c l;unfold nK;split
  ·simpa using this
  ·split<;>rename_i e<;>rw[e] at this<;>simp at this ⊢<;>omega
theorem MZ:∀{l q:List Int},q∈ln l->q.length<=l.length/\∀b∈q,b∈l
 | [],q,h=>by simp[ln] at h
 |b::l,q,h=>by
  unfold ln at h;have u:=λq h=>MZ (l:=l) (q:=q) h;split at h
  ·rename_i B;rcases sK.1 h with rfl | h
   ·simp[B]
   ·exact⟨aHx (u q h).1,λx A=>kf _ ((u q h).2 x A)⟩
  ·split at h
   ·simp at h;subst h;simp
   ·rename_i x r e;rcases sK.1 h with rfl | h
    ·have:=u x (by rw[e];exact kg);exact⟨by simp;omega,λy C=>(sK.1 C).elim (λh=>h ▸ kg) λh=>kf _ (this.2 y h)⟩
    ·have:=u q (by rw[e];exact kf _ h);exact⟨aHx this.1,λx A=>kf _ (this.2 x A)⟩
def oO(z:List Int):List Int:=if z.getLast? =some 10 then z.dropLast else z
theorem TL{z:List Int}(h:C2 z):Pb z [10]=some (oO z):=by
 have e:Lib.hasSuffix (ub z) [10]=true↔z.getLast? =some 10:=by
  unfold Lib.hasSuffix;rw[List.isSuffixOf_iff_suffix,List.singleton_suffix_iff_getLast?_eq_some];constructor
  ·intro A;have:=congrArg (Option.map λb:UInt8=>(b.toNat:Int)) A;rw[<-List.getLast?_map,show (ub z).map (λb:UInt8=>(b.toNat:Int))=z from Lg h] at this;exact this
  ·intro A;simp[ub,List.getLast?_map,A]
 unfold Pb Lib.trimSuffix oO;rw[show ub [10]=[10] from rfl];by_cases u:z.getLast? =some 10
 ·rw[sM u,sM (e.2 u),show (ub z).length - [(10:UInt8)].length=z.length - 1 by simp[ub],show ui ((ub z).take (z.length - 1))=(ui (ub z)).take (z.length - 1) by simp[ui],Lg h,List.dropLast_eq_take]
 ·rw[nS u,nS (λh=>u (e.1 h)),Lg h]
def Bk(l:List (List Int)):List (List Int):=if l.getLast? =some [] then l.dropLast else l
theorem Md(x:List Int){l:List (List Int)}(h:l≠ []):Bk (x::l)=x::Bk l:=by
 obtain⟨y,r,rfl⟩:=aEh h;unfold Bk;rw[List.getLast?_cons_cons];split<;>simp
theorem Zm{b:Int}(hb:b≠10)(x:List Int):oO (b::x)=b::oO x:=by
 cases x with
 |nil=>simp[oO,hb]
 |cons y r=>unfold oO;rw[List.getLast?_cons_cons];split<;>simp
theorem YT:∀{l:List Int},ln l=[]->l=[]
 | [],_=>rfl
 |b::l,h=>by
  unfold ln at h;split at h
  ·cases h
  ·split at h<;>cases h
theorem NA:∀l,(ln l).map oO=Bk (nK 10 l)
 | []=>rfl
 |b::l=>by
  have A:=NA l;unfold ln nK;by_cases B:b=10
  ·rw[sM B,sM B,Md _ (Ch _ _),<-A];rfl
  ·rw[nS B,nS B];cases hl:ln l with
   |nil=>rw[YT hl];simp[nK,Bk,oO,B]
   |cons x r=>
    rw[hl] at A;obtain⟨y,t,e⟩:=aEh (Ch 10 l);rw[e] at A ⊢;simp only[V0] at A ⊢;rw[Zm B];cases t with
    |nil=>
     have:y≠ []:=(by rintro rfl;simp[Bk] at A);simp[Bk,this] at A ⊢;rw[A.1,A.2];simp
    |cons u t=>
     rw[Md _ (by simp)] at A ⊢;simp only[aG7] at A ⊢;exact⟨⟨trivial,A.1⟩,A.2⟩
def val(acc:Int):List Int->Option Int | []=>some acc | b::r=>if 48<=b/\b<=57 then val (acc*10+(b - 48)) r else none
def num(s:List Int):Option Int:=if s=[]\/6<s.length\/(s.head? =some 48/\1<s.length) then none else val 0 s
theorem Me:∀{s:List Int} {a:Int},(∃n,val a s=some n)↔∀b∈s,48<=b/\b<=57
 | [],a=>by simp[val]
 |b::r,a=>by
  unfold val;have u:=λa=>Me (s:=r) (a:=a);by_cases h:48<=b/\b<=57
  ·rw[sM h,u];simp[h]
  ·rw[nS h];simp only[sK,aH3];simp[h]
theorem Zn:∀{s:List Int} {a n:Int} {k:Nat},val a s=some n->0<=a->a<(10 ^ k:Nat)->0<=n/\n<(10 ^ (k+s.length):Nat)
 | [],a,n,k,h,u,A=>by cases h;exact⟨u,A⟩
 |b::r,a,n,k,h,u,A=>by
  unfold val at h;split at h
  ·have:=Zn (k:=k+1) h (by omega) (by rw[aGo];omega)
   rwa [qf,show k+(r.length+1)=k+1+r.length by omega]
  ·cases h
theorem Zo{s:List Int}{n:Int}(h:num s=some n):0<=n/\n<1000000:=by
 unfold num at h;split at h
 ·cases h
 ·have:=Zn (k:=0) h (by omega) (by simp);have u:10 ^ (0+s.length)<=10 ^ 6:=aF9 (by omega) (by omega);exact⟨this.1,by omega⟩
theorem Mf{A B D:Type}{g:B->A->Step B D}{fin:B->D}{P:A->Prop}[DecidablePred P]{u:B->A->B}{d:D}(hg:∀a x,g a x=if P x then .next (u a x) else .done d):∀(l:List A) (a:B),vK g fin a l=if∀x∈l,P x then fin (l.foldl u a) else d
 | [],a=>by simp[vK]
 |x::l,a=>by
  unfold vK;rw[hg];by_cases h:P x
  ·rw[sM h];simp only[Mf hg l,sK,aH3,h,aHk,xz]
  ·rw[nS h];simp[h]
theorem NB:∀(s:List Int) (a:Int),val a s=if∀b∈s,48<=b/\b<=57 then some (s.foldl (λa b=>a*10+(b - 48)) a) else none
 | [],a=>by simp[val]
 |b::r,a=>by
  unfold val;by_cases h:48<=b/\b<=57
  ·rw[sM h,NB r];simp only[sK,aH3,h,aIe,aHk,xz]
  ·rw[nS h];simp only[sK,aH3,h,false_and,M5]
theorem Sc{s:List Int}(hb:C2 s):gE s=some (match num s with | some n=>(n,true) | none=>(0,false)):=by
 unfold gE num;by_cases A:s=[]
 ·simp[A]
 have R:0<s.length:=aD4.2 A;by_cases E:6<s.length
 ·have:cm .gtr (s.length:Int) 6=true:=by rw[cg];simp;omega
  simp[A,E,this]
 have K:cm .gtr (s.length:Int) 6=false:=by rw[cg];simp;omega
 obtain⟨c,r,rfl⟩:=aEh A;have L:Sw.idx (c::r) 0=some c:=rfl;simp only[cT A,cG,K,L,cA,ce,cg];by_cases C:c=48/\1<(c::r).length
 ·have G:((c::r).length:Int)>1:=by omega
  simp only[C.1] at G ⊢;rw[sM (by right;right;exact⟨rfl,by simpa[C.1] using C.2⟩)];simp only[xd,fE,pF G,cA]
 rw[nS (λh=>h.elim A λh=>h.elim E λh=>C ⟨by simpa using h.1,h.2⟩)];have M:(bif decide (c=48) then some (decide (((c::r).length:Int)>1)) else some false)=some false:=by
  by_cases F:c=48
  ·have:¬((c::r).length:Int)>1:=λh=>C ⟨F,by omega⟩;rw[pF F,cT this];rfl
  ·rw[cT F];rfl
 rw[M];simp only[cA,cG];generalize c::r=s at*
 rw[show ((0:Int),(0:Int))=(λ(i:Nat) (a:Int)=>(a,(i:Int))) 0 0 from rfl,
  Cb (l:=s) (B:=Int) (λi a=>(a,(i:Int))) (λD a=>0<=a/\a<(10 ^ D.length:Nat)) (λa x=>if 48<=x/\x<=57 then .next (a*10+(x - 48)) else .done (.ret (0,false))) (λa=> .u9 a) 0 (by unfold bR;omega) (by simp) ?_ ?_,
  Mf (P:=λx=>48<=x/\x<=57) (u:=λa x=>a*10+(x - 48)) (fin:=λa=>Ex.u9 a) (d:=(Ex.ret ((0:Int),false):Ex Int (Int×Bool))) (λa x=>rfl) s 0,NB]
 ·split<;>rfl
 ·rintro D x U a hd ⟨V,X⟩;have S:=hb x (by rw[hd];simp);have N:D.length<=5:=by rw[hd] at E;simp at E;omega
  have T:10 ^ D.length<=10 ^ 5:=aF9 (by omega) N;have O:ar .sub .u8 x 48=IntKind.wrap .u8 (x - 48):=rfl;simp only[iN hd,fE,fF hd,cA,cl,L3 (show D.length<=_ by omega),O];by_cases c1:x<48
  ·rw[pF c1,nS (by omega)];exact⟨rfl,λ_ h=>by cases h⟩
  by_cases I:x>57
  ·rw[cT c1,pF I,nS (by omega)];exact⟨rfl,λ_ h=>by cases h⟩
  ·have Q:ar .mul .i64 a 10=a*10:=wrap_i64 (by omega);rw[cT c1,cT I,sM (by omega),Jm (by omega),Q,O9 (by omega)];refine⟨rfl,λ_ h=>?_⟩;cases h;rw[cM,aF4,aGo];omega
 ·intro a;simp only[bV,cG];exact λ_=>trivial
theorem DA{b:Int}(h:0<=b/\b<=255):(UInt8.ofNat b.toNat).toNat=b.toNat:=by simp;omega
theorem py:∀{s:List Int} (_:C2 s) (a:Nat),val (a:Int) s=(Lib.decFrom a (ub s)).map λn:Nat=>(n:Int)
 | [],_,a=>rfl
 |b::r,h,a=>by
  have A:=h b kg;have B:=py (s:=r) (λx C=>h x (kf _ C));unfold val;rw[show ub (b::r)=UInt8.ofNat b.toNat::ub r from rfl,Lib.decFrom,Lib.digitVal,DA A];by_cases u:48<=b/\b<=57
  ·rw[sM u,sM (by omega)];simp only[<-B];congr 1;omega
  ·rw[nS u,nS (by omega)];rfl
theorem Zp{α:Type}(p:α->Bool):∀l:List α,l.dropWhile p=[]↔∀x∈l,p x=true
 | []=>by simp
 |x::l=>by
  rw[List.dropWhile_cons];by_cases h:p x=true
  ·simp[h,Zp p l]
  ·simp[h]
theorem NC(l cs:List UInt8):Lib.trimS l cs=[]↔∀x∈l,x∈cs:=by
 unfold Lib.trimS Lib.trimLeftS Lib.trimRightS;simp only[Zp,aIg,List.contains_iff_mem];constructor
 ·intro h;have:∀x∈l.reverse.dropWhile (cs.contains ·),x∈cs:=h;cases hq:l.reverse.dropWhile (cs.contains ·) with
  |nil=>
   have:=(Zp _ _).1 hq;simpa using this
  |cons y r=>
   have A:=this y (by rw[hq];exact kg);have u:=List.head?_dropWhile_not (cs.contains ·) l.reverse;rw[hq] at u;simp[A] at u
 ·intro h x B;exact h x (by simpa using (List.dropWhile_sublist _).subset B)
theorem Wa{s d:List Int}(hs:C2 s)(hd:C2 d)(h1:d.length<1000)(h2:∀x∈d,x<128):∃v,Lh s d=some v/\(v=[]↔∀x∈s,x∈d):=by
 refine⟨_,by unfold Lh;rw[sM ⟨by omega,h2⟩],?_⟩;rw[show ui (Lib.trimS (ub s) (ub d))=[]↔Lib.trimS (ub s) (ub d)=[] by simp[ui],NC];constructor
 ·intro h x u;have:=h (UInt8.ofNat x.toNat) (List.mem_map_of_mem u);obtain⟨y,A,e⟩:=ot.1 this;have e:=congrArg UInt8.toNat e;rw[DA (hs x u),DA (hd y A)] at e;have B:=hs x u;have C:=hd y A
  rwa [show x=y by omega]
 ·intro h x u;obtain⟨y,A,rfl⟩:=ot.1 u;exact List.mem_map_of_mem (h y A)
theorem F9{s:List Int}(hb:C2 s):fO s=some (match num s with | some n=>(n,none) | none=>(0,some 3)):=by
 unfold fO num;by_cases u:s=[]
 ·simp[u]
 have U:0<s.length:=aD4.2 u;by_cases F:6<s.length
 ·have:cm .gtr (s.length:Int) 6=true:=by rw[cg];simp;omega
  simp[u,F,this]
 have I:cm .gtr (s.length:Int) 6=false:=by rw[cg];simp;omega
 obtain⟨v,T,D⟩:=Wa hb (d:=[48,49,50,51,52,53,54,55,56,57]) (by unfold C2;decide) (by decide) (by decide);have K:(∀x∈s,x∈([48,49,50,51,52,53,54,55,56,57]:List Int))↔∀b∈s,48<=b/\b<=57:=by
  constructor<;>intro h x S<;>have:=h x S
  ·simp at this;omega
  ·simp;omega
 rw[K] at D;obtain⟨c,r,rfl⟩:=aEh u;have L:Sw.idx (c::r) 0=some c:=rfl;simp only[cT u,cG,I,L,cA,ce,T];have M:num (c::r)=if c=48/\1<(c::r).length then none else val 0 (c::r):=by
  unfold num;by_cases A:c=48/\1<(c::r).length
  ·rw[sM A,sM (by right;right;exact⟨by simp[A.1],A.2⟩)]
  ·rw[nS A,nS (λh=>h.elim u λh=>h.elim F λh=>A ⟨by simpa using h.1,h.2⟩)]
 rw[show (if c::r=[]\/6<(c::r).length\/(c::r).head? =some 48/\1<(c::r).length then none else val 0 (c::r))=num (c::r) from rfl,M];by_cases B:v=[]
 ·have G:=D.1 B;obtain⟨n,E⟩:=(Me (a:=0)).2 G;have A:=G c kg;rw[pF B];simp only[vn,cG];have N:(bif decide (c=48) then some (!decide (c::r=[48])) else some false)=some (decide (c=48/\1<(c::r).length)):=by
   by_cases q:c=48
   ·subst q;cases r<;>simp
   ·simp[q]
  rw[N];simp only[cA];by_cases C:c=48/\1<(c::r).length
  ·rw[pF C,sM C];rfl
  ·rw[cT C,nS C,E];have hd:=py hb 0;rw[show ((0:Nat):Int)=0 from rfl,E] at hd;cases hq:Lib.decFrom 0 (ub (c::r)) with
   |none=>rw[hq] at hd;cases hd
   |some m=>
    rw[hq] at hd;have O:n=m:=(by simpa using hd);have V:=Zn (k:=0) E (by omega) (by simp);have X:10 ^ (0+(c::r).length)<=10 ^ 6:=aF9 (by omega) (by omega);have P:Lib.atoi (ub (c::r))=some n:=by
     rw[show ub (c::r)=UInt8.ofNat c.toNat::ub r from rfl] at hq ⊢;have t:=DA (hb c kg);have Q:(UInt8.ofNat c.toNat==45)=false:=(by rw[beq_eq_false_iff_ne];intro e;rw[e] at t;have:(45:UInt8).toNat=45:=rfl;omega);have R:(UInt8.ofNat c.toNat==43)=false:=(by rw[beq_eq_false_iff_ne];intro e;rw[e] at t;have:(43:UInt8).toNat=43:=rfl;omega);unfold Lib.atoi Lib.decNat;simp only[Q,R,mu,M5,List.isEmpty_cons,hq,aEp,O]
    simp only[cG];unfold Uk;rw[P];simp only;rw[sM ⟨by omega,by unfold zY;simp[IntKind.min,IntKind.max,IntKind.signed,IntKind.bits];omega⟩];rfl
 ·rw[cT B];have:val 0 (c::r)=none:=by
   cases hq:val 0 (c::r) with
   |none=>rfl
   |some n=>exact absurd (D.2 (Me.1 ⟨n,hq⟩)) B
  rw[this];simp
abbrev bq:List Int:=[48,49,50,51,52,53,54,55,56,57,97,98,99,100,101,102]
def pos(c:Int):Nat:=bq.idxOf c
theorem Hc{c:Int}(h:c∈bq):pos c<16:=aGn h
theorem DB:∀c∈bq,KW bq c=some (pos c:Int):=by decide
theorem ND(c:Int):sU c=some (if c∈bq then (pos c:Int) else -1):=by
 unfold sU;rw[show (0:Int)=(λi:Nat=>(i:Int)) 0 from rfl,Jn (l:=bq) (λi=>(i:Int)) (λx=>decide (x=c)) (λj=>(j:Int)) () (by unfold bR;decide) ?_ ?_]
 ·have e:bq.findIdx? (λx=>decide (x=c))=if c∈bq then some (pos c) else none:=by
   unfold pos;rw[show (λx:Int=>decide (x=c))=(λx=>x==c) from rfl,<-List.idxOf?.eq_1];by_cases h:c∈bq
   ·rw[sM h];simp at h;rcases h with h | h | h | h | h | h | h | h | h | h | h | h | h | h | h | h<;>subst h<;>rfl
   ·rw[nS h];exact List.idxOf?_eq_none_iff.2 h
  rw[e];by_cases h:c∈bq
  ·rw[sM h,sM h]
  ·rw[nS h,nS h]
 ·intro u x B hd;have A:u.length+1<=16:=by have:=congrArg List.length hd;simp at this;omega
  have e:cm .lss (u.length:Int) 16=true:=by rw[cl];simp;omega
  simp only[e,fE,fF hd,cA,ce,L3 (show u.length<=_ by omega)];by_cases h:x=c<;>simp[h]
 ·have e:cm .lss ((bq.length:Nat):Int) 16=false:=by decide
  simp only[e,cG]
def Eu(s:List Int)(b:aD)(i:Nat):aD:=b.set i ((16*pos (s.getD (2*i) 0)+pos (s.getD (2*i+1) 0):Nat):Int)
def Ac(s:List Int)(i:Nat):Prop:=s.getD (2*i) 0∈bq/\s.getD (2*i+1) 0∈bq
instance (s:List Int):DecidablePred (Ac s):=λ_=>inferInstanceAs (Decidable (_/\_))
def Mg(s:List Int):Option aD:=if s.length=16/\∀i∈List.range 8,Ac s i then some ((List.range 8).foldl (Eu s) aE) else none
theorem NF(s:List Int)(hg:∀i∈List.range 8,Ac s i):C9 ((List.range 8).foldl (Eu s) aE):=by
 suffices h:∀(l:List Nat) (b:aD),(∀i∈l,Ac s i)->C9 b->C9 (l.foldl (Eu s) b) from h _ _ hg E5
 intro l
 induction l with
 |nil=>exact λb _ h=>h
 |cons i l E=>
  intro b A h;have u:=A i kg;have F:=Hc u.1;have G:=Hc u.2;refine E _ (λj B=>A j (kf _ B)) ⟨by unfold Eu;rw[aHm];exact h.1,λx C=>?_⟩;rcases List.mem_or_eq_of_mem_set C with D | rfl
  ·exact h.2 x D
  ·omega
theorem Bl{s:List Int}{i:Nat}(h:i<s.length):Sw.idx s (i:Int)=some (s.getD i 0):=pM (by rw[vo,sE h];rfl)
theorem Pv{b:aD}(hb:b.length=8){i:Nat}(h:i<8):∃z,Sw.idx b (i:Int)=some z:=⟨_,Bl (by omega)⟩
theorem aE5:∀i<16,∀j<16,IntKind.wrap .u8 (ar .or .i64 (sh .shl .i64 ((i:Nat):Int) 4) ((j:Nat):Int))=((16*i+j:Nat):Int):=by decide+kernel
theorem TM(s:List Int)(l:List Nat)(b:aD):(l.foldl (Eu s) b).length=b.length:=by
 induction l generalizing b with
 |nil=>rfl
 |cons i l u=>rw[xz,u];simp[Eu]
theorem Pw{pre rest:List Nat}{x:Nat}(hd:List.range 8=pre++x::rest):x=pre.length/\x<8:=by
 have u:(List.range 8)[pre.length]? =some x:=by rw[hd];simp
 obtain⟨A,B⟩:=aEi.1 u;rw[List.getElem_range] at B;simp at A;omega
theorem Wb(s:List Int):lO s=some (match Mg s with | some b=>(b,true) | none=>(aE,false)):=by
 unfold lO Mg;rw[cn];by_cases C:¬s.length=16
 ·rw[pF (by omega),nS (λh=>C h.1)];rfl
 have C:=aF2.1 C;rw[cT (by omega)];simp only[cG]
 rw[show ((0:Int),aE)=(λ(i:Nat) (b:aD)=>((i:Int),b)) 0 aE from rfl,
  Cb (l:=List.range 8) (λi b=>((i:Int),b)) (λ_ b=>b.length=8) (λb i=>if Ac s i then .next (Eu s b i) else .done (.ret (aE,false))) (λa=> .u9 a) aE (by unfold bR;decide) rfl ?_ ?_,
  Mf (P:=Ac s) (u:=Eu s) (fin:=λa=>Ex.u9 a) (d:=(Ex.ret (aE,false):Ex aD (aD×Bool))) (λa x=>rfl) (List.range 8) aE]
 ·by_cases h:∀i∈List.range 8,Ac s i
  ·rw[sM h,sM ⟨C,h⟩];rfl
  ·rw[nS h,nS (λq=>h q.2)];rfl
 ·intro L x Q b hd D;obtain⟨rfl,M⟩:=Pw hd;generalize L.length=i at*;have F:ar .mul .i64 2 (i:Int)=((2*i:Nat):Int):=by have:=wrap_i64 (n:=2*(i:Int)) (by omega);exact this
  have G:cm .lss (i:Int) 8=true:=by rw[cl];simp;omega
  have I:ar .add .i64 ((2*i:Nat):Int) 1=((2*i+1:Nat):Int):=L3 (by omega);obtain⟨z,N⟩:=Pv D M;simp only[G,fE,F,I,Bl (show 2*i<s.length by omega),Bl (show 2*i+1<s.length by omega),cA,ND,cl,N,L3 (show i<=_ by omega)];by_cases A:s.getD (2*i) 0∈bq
  ·have p1:=Hc A;rw[sM A,cT (by omega)];simp only[cG];by_cases B:s.getD (2*i+1) 0∈bq
   ·have O:=Hc B;have g:Ac s i:=⟨A,B⟩;rw[sM B,cT (by omega),sM g];simp only[cA,cG];have K:ar .mul .i64 16 (pos (s.getD (2*i) 0):Int)=((16*pos (s.getD (2*i) 0):Nat):Int):=(by have:=wrap_i64 (n:=16*(pos (s.getD (2*i) 0):Int)) (by omega);exact this);rw[K,WS (by omega),Jm (by omega)];refine⟨rfl,λE h=>?_⟩;cases h;unfold Eu;rw[aHm];exact D
   ·rw[nS B,nS (λh:Ac s i=>B h.2)];exact⟨rfl,λE h=>by cases h⟩
  ·rw[nS A,nS (λh:Ac s i=>A h.1)];exact⟨rfl,λE h=>by cases h⟩
 ·intro b _;rfl
theorem NG{s:List Int}(hl:s.length=16):(∀c∈s,c∈bq)↔∀i∈List.range 8,Ac s i:=by
 constructor
 ·intro h i A;have A:=zd.1 A;have B:∀j,j<s.length->s.getD j 0∈bq:=λj u=>by
   rw[vo,sE u];exact h _ (aEe u)
  exact⟨B _ (by omega),B _ (by omega)⟩
 ·intro h c D;obtain⟨j,u,rfl⟩:=aHj D;have C:=h (j / 2) (zd.2 (by omega));have e:s.getD j 0=s[j]:=by rw[vo,sE u];rfl
  rw[<-e];rcases aHg j with q | q
  ·rw[show j=2*(j / 2) by omega];exact C.1
  ·rw[show j=2*(j / 2)+1 by omega];exact C.2
theorem NH{s:List Int}(hb:C2 s):oD s=some (match Mg s with | some b=>(b,none) | none=>(aE,some 3)):=by
 unfold oD Mg;rw[cn];by_cases u:¬s.length=16
 ·rw[pF (by omega),nS (λh=>u h.1)];rfl
 have u:=aF2.1 u;obtain⟨v,L,D⟩:=Wa hb (d:=bq) (by unfold C2;decide) (by decide) (by decide);rw[cT (by omega)];simp only[cG,L,cA];rw[NG u] at D;by_cases h:¬∀i∈List.range 8,Ac s i
 ·rw[cT (λq=>h (D.1 q)),nS (λq=>h q.2)];rfl
 have h:=aF2.1 h;rw[pF (D.2 h),sM ⟨u,h⟩];simp only[vn,cG];refine sI (l:=List.range 8) (λi b=>((i:Int),b)) (λA b=>b=A.foldl (Eu s) aE) (λa=>a) aE (by unfold bR;decide) rfl ?_ ?_ ?_
 ·rintro A x O b hd rfl;have B:=h x (by rw[hd];simp);obtain⟨rfl,M⟩:=Pw hd;refine⟨Eu s (A.foldl (Eu s) aE) A.length,?_,by rw[aHb];rfl⟩;have E:(A.foldl (Eu s) aE).length=8:=TM _ _ _;generalize A.foldl (Eu s) aE=b at*;generalize A.length=i at*;have F:ar .mul .i64 2 (i:Int)=((2*i:Nat):Int):=by have:=wrap_i64 (n:=2*(i:Int)) (by omega);exact this
  have G:2*i<s.length:=by rw[u];omega
  have I:2*i+1<s.length:=by rw[u];omega
  have C:cm .lss (i:Int) 8=true:=by rw[cl];simp;omega
  have K:ar .add .i64 ((2*i:Nat):Int) 1=((2*i+1:Nat):Int):=L3 (by omega);obtain⟨z,N⟩:=Pv E M;rw[C,fE,F,Bl G,cA,DB _ B.1,cA,K,Bl I,cA,DB _ B.2,cA,N,cA,aE5 _ (Hc B.1) _ (Hc B.2),L3 (show i<=_ by omega)];rfl
 ·rintro b rfl;have C:cm .lss ((List.range 8).length:Int) 8=false:=by decide
  simp only[C,cG]
 ·rintro b rfl;rfl
theorem NI{s:List Int}{b:aD}(h:Mg s=some b):C9 b:=by
 unfold Mg at h;split at h
 ·rename_i u;cases h;exact NF s u.2
 ·cases h
def Ag(b:aD):List Int:=b.flatMap λx=>[bq.getD (x.toNat / 16) 0,bq.getD (x.toNat % 16) 0]
theorem DC:∀x<256,Sw.idx bq (ar .quo .u8 ((x:Nat):Int) 16)=some (bq.getD (x / 16) 0)/\Sw.idx bq (ar .rem .u8 ((x:Nat):Int) 16)=some (bq.getD (x % 16) 0)/\
  Sw.idx bq (sh .shr .u8 ((x:Nat):Int) 4)=some (bq.getD (x / 16) 0)/\Sw.idx bq (ar .and .u8 ((x:Nat):Int) 15)=some (bq.getD (x % 16) 0):=by decide+kernel
theorem yL(b:aD):(Ag b).length=2*b.length:=by
 unfold Ag
 induction b with
 |nil=>rfl
 |cons x l u=>rw[List.flatMap_cons,cM,u];simp;omega
theorem Px{b:aD}(h:C9 b):sW b=some (Ag b):=by
 unfold sW;have B:=h.1;refine sI (l:=b) (λi o=>(o,(i:Int))) (λu o=>o=Ag u) (λa=>a) [] (by unfold bR;omega) rfl ?_ ?_ ?_
 ·rintro u x I o hd rfl;have F:=h.2 x (by rw[hd];simp);have G:u.length<8:=by rw[hd] at B;simp at B;omega
  obtain⟨n,rfl⟩:∃n:Nat,x=n:=⟨x.toNat,by omega⟩;obtain⟨D,E,_,_⟩:=DC n (by omega);have A:cm .lss (u.length:Int) 8=true:=by rw[cl];simp;omega
  refine⟨Ag (u++[(n:Int)]),?_,rfl⟩;have C:sB (Ag u) [bq.getD (n / 16) 0,bq.getD (n % 16) 0]=some (Ag (u++[(n:Int)])):=by
   unfold sB;rw[sM (by rw[yL];simp;omega)];unfold Ag;rw[List.flatMap_append];rfl
  rw[A,fE,fF hd,cA,D,cA,cA,E,cA,C,cA,L3 (show u.length<=_ by omega)]
 ·rintro o rfl;have A:cm .lss (b.length:Int) 8=false:=by rw[cl];simp;omega
  simp only[A,cG]
 ·rintro o rfl;rfl
theorem NJ{b:aD}(h:C9 b):pC b=some (Ag b):=by
 unfold pC;have B:=h.1;refine sI (l:=b) (λi o=>((i:Int),o)) (λu o=>o=Ag u) (λa=>a) [] (by unfold bR;omega) rfl ?_ ?_ ?_
 ·rintro u x I o hd rfl;have F:=h.2 x (by rw[hd];simp);have G:u.length<8:=by rw[hd] at B;simp at B;omega
  obtain⟨n,rfl⟩:∃n:Nat,x=n:=⟨x.toNat,by omega⟩;obtain⟨_,_,D,E⟩:=DC n (by omega);have A:cm .lss (u.length:Int) 8=true:=by rw[cl];simp;omega
  refine⟨Ag (u++[(n:Int)]),?_,rfl⟩;have C:Sw.app (Ag u) [bq.getD (n / 16) 0,bq.getD (n % 16) 0]=some (Ag (u++[(n:Int)])):=by
   rw[j1 _ _ (by rw[yL];simp;omega)];unfold Ag;rw[List.flatMap_append];rfl
  rw[A,fE,fF hd,cA,D,cA,E,cA,C,cA,L3 (show u.length<=_ by omega)]
 ·rintro o rfl;have A:cm .lss (b.length:Int) 8=false:=by rw[cl];simp;omega
  simp only[A,cG]
 ·rintro o rfl;rfl
def H5(n:Nat):List Int:=ui (Lib.decDigits n)
theorem zS{n:Nat}(h:n<10):H5 n=[((48+n:Nat):Int)]:=by
 unfold H5;rw[Lib.decDigits,dif_pos h];simp[ui];omega
theorem Ev{n:Nat}(h:¬n<10):H5 n=H5 (n / 10)++[((48+n % 10:Nat):Int)]:=by
 unfold H5;rw[Lib.decDigits,dif_neg h];simp[ui];omega
theorem yM:∀(k n:Nat),n<10 ^ (k+1)->(H5 n).length<=k+1
 |k,n,h=>by
  by_cases u:n<10
  ·rw[zS u];simp
  ·rw[Ev u]
   obtain⟨k,rfl⟩:∃j,k=j+1:=⟨k - 1,by
    cases k with
    |zero=>simp at h;omega
    |succ k=>rfl⟩
   have:=yM k (n / 10) (by rw[aGo] at h;omega);simp;omega
termination_by k=>k
theorem DD:∀(k f n:Nat),n<10 ^ (k+1)->k<f->k<=100->n<18446744073709551616->kJ f (n:Int)=some (H5 n)
 |k,0,n,h,A,_,_=>absurd A (Nat.not_lt_zero _)
 |k,f+1,n,h,A,F,G=>by
  have B:ar .rem .u64 (n:Int) 10=((n % 10:Nat):Int):=rfl;have C:IntKind.wrap .u8 (ar .add .u64 48 ((n % 10:Nat):Int))=((48+n % 10:Nat):Int):=by
   have:ar .add .u64 48 ((n % 10:Nat):Int)=((48+n % 10:Nat):Int):=uV (k:= .u64) (by unfold zY;simp[IntKind.min,IntKind.max,IntKind.signed,IntKind.bits];omega);rw[this,Jm (by omega)]
  unfold kJ;rw[B,C,cl];by_cases u:n<10
  ·rw[pF (by omega),zS u,aB4 u];rfl
  ·obtain⟨k,rfl⟩:∃j,k=j+1:=⟨k - 1,by
    cases k with
    |zero=>simp at h;omega
    |succ k=>rfl⟩
   have hd:n / 10<10 ^ (k+1):=(by rw[aGo] at h;omega);have D:ar .quo .u64 (n:Int) 10=((n / 10:Nat):Int):=uV (k:= .u64) (n:=((n / 10:Nat):Int)) (by unfold zY;simp[IntKind.min,IntKind.max,IntKind.signed,IntKind.bits];omega);have E:=yM k (n / 10) hd;rw[cT (by omega),cG,D,DD k f (n / 10) hd (by omega) (by omega) (by omega),cA];unfold sB;rw[sM (by simp;omega),cA,<-Ev u]
theorem wy:∀(k f n:Nat),n<10 ^ (k+1)->k<f->k<=100->n<4611686018427387904->fU f (n:Int)=some (H5 n)
 |k,0,n,h,A,_,_=>absurd A (Nat.not_lt_zero _)
 |k,f+1,n,h,A,F,G=>by
  have B:ar .rem .i64 (n:Int) 10=((n % 10:Nat):Int):=rfl;have C:IntKind.wrap .u8 (ar .add .i64 48 ((n % 10:Nat):Int))=((48+n % 10:Nat):Int):=by
   have:ar .add .i64 48 ((n % 10:Nat):Int)=((48+n % 10:Nat):Int):=O9 (by omega);rw[this,Jm (by omega)]
  have D:ar .quo .i64 (n:Int) 10=((n / 10:Nat):Int):=aCt (by omega);unfold fU;simp only[jp];rw[B,cl,cT (by omega),cG,C,D,cn,cl];by_cases u:n<10
  ·rw[cT (by omega),cT (by omega),zS u,aB4 u];rfl
  ·obtain⟨k,rfl⟩:∃j,k=j+1:=⟨k - 1,by
    cases k with
    |zero=>simp at h;omega
    |succ k=>rfl⟩
   have hd:n / 10<10 ^ (k+1):=(by rw[aGo] at h;omega);have E:=yM k (n / 10) hd;rw[pF (by omega),fE,wy k f (n / 10) hd (by omega) (by omega) (by omega),cA];unfold sB;rw[sM (by simp;omega),cA,<-Ev u]
theorem TN{n:Nat}(h:n<10000000):fU bR (n:Int)=some (H5 n):=wy 6 bR n h (by unfold bR;omega) (by omega) (by omega)
theorem aC8{n:Nat}(h:n<18446744073709551616):kJ bR (n:Int)=some (H5 n):=DD 19 bR n (by omega) (by unfold bR;omega) (by omega) h
theorem DF(n:Nat):Ba (n:Int)=some (H5 n):=by unfold Ba H5;rw[Lib.itoa_nonneg]
theorem fu'(n:Nat):fuT (n:Int) 10=some (H5 n):=by unfold fuT H5;rw[sM rfl];rfl
theorem NK{n:Nat}(h:n<1000):aN (n:Int)=some ([101,114,114,111,114,32]++H5 n):=by
 have:=yM 6 n (by omega);unfold aN sB;rw[TN (by omega),cA,sM (by simp;omega),cA]
end Go.bn
namespace Go.B1
open Go Go.Sw Go.Mo Go.Pl Go.G7
section
variable {d:kW}{blocks:List aD}{a b n:Nat}
theorem TO(h:nC d blocks a b)(h0:1<=blocks.length)(h1:blocks.length<=32)(ha:a<=2147483647)(hb:b+1<=2147483647):∃d',bF (blocks.length:Int) d [] (a:Int) (ar .add .i64 (b:Int) (1:Int))=some (none,(blocks.length:Int),d')/\nC d' blocks a (b+1):=by
 rw[L3 (by omega)];have B:Ux blocks.length [] (a:Int) ((b+1))=0:=by
  grind [Ux]
 obtain⟨d',x',y',u,A,_,_,_,e,s⟩:=xJ h h0 h1 [] _ _ B;have u:a=x':=by omega
 have A:b+1=y':=by omega
 subst u A;exact⟨d',e,s⟩
theorem Wc(h:nC d blocks a b)(h0:1<=blocks.length)(h1:blocks.length<=32)(ha:a<=2147483647)(hb:b+1<=2147483647):∃d',nC d' blocks a (b+1)/\(∀b0 b1 b2 b3 b4 b5 b6 b7 b8 b9 l9 o6 l8 j9 l7 l6 o7 l5,iI b0 b1 b2 b3 b4 b5 b6 b7 b8 b9 l9 o6 l8 j9 l7 l6 o7 l5 (blocks.length:Int) d=some (none,(a:Int),((b+1:Nat):Int),(blocks.length:Int),d'))/\(∀b0 b1 b2 b3 b4 b5 b6 b7 b8 b9 l9 o6 l8 j9 l7 l6 o7 l5 p5 p4,eZ b0 b1 b2 b3 b4 b5 b6 b7 b8 b9 l9 o6 l8 j9 l7 l6 o7 l5 p5 p4 (blocks.length:Int) d=some (none,(a:Int),((b+1:Nat):Int),(blocks.length:Int),d'))/\(∀b0 b1 b2 b3 b4 b5 b6 b7 b8 b9 l9 o6 l8 j9 l7 l6 o7 l5 p5 p4,gX b0 b1 b2 b3 b4 b5 b6 b7 b8 b9 l9 o6 l8 j9 l7 l6 o7 l5 p5 p4 (blocks.length:Int) d=some (none,(a:Int),((b+1:Nat):Int),(blocks.length:Int),d')):=by
 obtain⟨d',e,s⟩:=TO h h0 h1 ha hb;have A:=Zb h ha (by omega);have u:ar .add .i64 (b:Int) (1:Int)=((b+1:Nat):Int):=L3 (by omega);rw[u] at e;refine⟨d',s,?_,?_,?_⟩<;>intros
 ·unfold iI;rw[A,cA];simp only[fA,cG,u,e,cA]
 ·unfold eZ;rw[A,cA];simp only[fA,cG,u,e,cA]
 ·unfold gX;rw[A,cA];simp only[fA,cG,u,e,cA]
theorem Wd(h:nC d blocks a b)(h0:1<=blocks.length)(h1:blocks.length<=32):gF (blocks.length:Int) d (blocks.length:Int)=some (some ((blocks.length:Int),d),none,(blocks.length:Int),d):=by
 unfold gF;rw[SL h,cA,Pf h h0 h1];rfl
theorem NM(h0:1<=n)(h1:n<=32):iG (n:Int)=some (some ((n:Int),fresh n),none):=by
 unfold iG;rw[GC h0 h1];have:=Pf (Lm h1) (by grind) (by grind);simp[aD6] at this;simp only[fA,cG,this,cA];rfl
def nX(past:List (Int×List aD))(num:Int)(blocks:List aD):List (Int×List aD):=Gp ((Cv past num blocks).getD []) (num - 5)
theorem Ij(past:List (Int×List aD))(num:Nat)(hl:blocks.length<=1000)(hn:num<=2147483647)(hp:(Cv past (num:Int) blocks).isSome=true):(∀b0 b1 b3 b5 b7 b8 b9 l9 o6 l8 j9 l7 l6 o7 l5 p5 p4,eD b0 b1 (num:Int) b3 blocks b5 past b7 b8 b9 l9 o6 l8 j9 l7 l6 o7 l5 p5 p4=some (nX past num blocks))/\(∀b0 b1 b3 b5 b7 b8 b9 l9 o6 l8 j9 l7 l6 o7 l5 p5 p4 p7 p6,cY b0 b1 (num:Int) b3 blocks b5 past b7 b8 b9 l9 o6 l8 j9 l7 l6 o7 l5 p5 p4 p7 p6=some (nX past num blocks)):=by
 obtain⟨q,D⟩:=Option.isSome_iff_exists.1 hp;have u:ar .sub .i64 (num:Int) 4=(num:Int) - 4:=bw (by omega);have A:ar .sub .i64 ((num:Int) - 4) 1=(num:Int) - 4 - 1:=bw (by omega);have B:(num:Int) - 4 - 1=(num:Int) - 5:=by omega
 have C:aB blocks=some blocks:=by
  unfold aB;rw[j1 _ _ (by simp;omega)];rfl
 refine⟨?_,?_⟩<;>intros
 ·unfold eD nX;rw[C,cA,D,cA,u,A,B];rfl
 ·unfold cY nX;rw[C,cA,D,cA,u,A,B];rfl
end
section
variable {d:kW}{blocks:List aD}{a b n:Nat}
theorem Bm(num:Nat)(blocks:List aD):nX [] num blocks=[((num:Int),blocks)]:=by
 unfold nX Cv dQ Gp
 grind [kp]
theorem Ew(h:nC d blocks a b)(h0:1<=blocks.length)(h1:blocks.length<=32)(ha:a<=2147483647)(hb:b+1<=2147483647):∃d',nC d' blocks a (b+1)/\(∀b1 b2 b3 b4 b5 b6 b7 b8 b9 l9 o6 l8 j9 l7 l6 o7 l5,dS (blocks.length:Int) b1 b2 b3 b4 b5 b6 b7 b8 b9 l9 o6 l8 j9 l7 l6 o7 l5 (blocks.length:Int) d=some (none,(blocks.length:Int),(a:Int),((b+1:Nat):Int),blocks,((a:Int),[],[],true),[((a:Int),blocks)],-1,(0,0,[]),0,0,[],(blocks.length:Int),d'))/\(∀b1 b2 b3 b4 b5 b6 b7 b8 b9 l9 o6 l8 j9 l7 l6 o7 l5 p5 p4 p7 p6,eT (blocks.length:Int) b1 b2 b3 b4 b5 b6 b7 b8 b9 l9 o6 l8 j9 l7 l6 o7 l5 p5 p4 p7 p6 (blocks.length:Int) d=some (none,(blocks.length:Int),(a:Int),((b+1:Nat):Int),blocks,((a:Int),[],[],true),[((a:Int),blocks)],-1,(0,0,[]),0,0,[],(blocks.length:Int),d')):=by
 obtain⟨d',s,B,_,C⟩:=Wc h h0 h1 ha hb;have u:=wP s;have A:(Cv ([]:List (Int×List aD)) (a:Int) blocks).isSome=true:=rfl;obtain⟨D,E⟩:=Ij (blocks:=blocks) [] a (by omega) ha A;refine⟨d',s,?_,?_⟩<;>intros
 ·unfold dS;rw[B,cA];simp only[fA,cG];rw[u,cA];simp only[];rw[D,cA,Bm]
 ·unfold eT;rw[C,cA];simp only[fA,cG];rw[u,cA];simp only[];rw[E,cA,Bm]
theorem Ey(h:nC d blocks a b)(h0:1<=blocks.length)(h1:blocks.length<=32)(ha:a<=2147483647)(hb:b+1<=2147483647):∃d',nC d' blocks a (b+1)/\(∀b1 b2 b3 b4 b5 b6 b7 b8 b9 l9 o6 l8 j9 l7 l6 o7 l5 p5 p4,fI (blocks.length:Int) b1 b2 b3 b4 b5 b6 b7 b8 b9 l9 o6 l8 j9 l7 l6 o7 l5 p5 p4 (blocks.length:Int) d=some (none,(blocks.length:Int),(a:Int),((b+1:Nat):Int),-1,(0,0),(blocks.length:Int),d'))/\(∀b1 b2 b3 b4 b5 b6 b7 b8 b9 l9 o6 l8 j9 l7 l6 o7 l5 p5 p4 p7 p6,eU (blocks.length:Int) b1 b2 b3 b4 b5 b6 b7 b8 b9 l9 o6 l8 j9 l7 l6 o7 l5 p5 p4 p7 p6 (blocks.length:Int) d=some (none,(blocks.length:Int),(a:Int),((b+1:Nat):Int),-1,(0,0),(blocks.length:Int),d')):=by
 grind [Wc,fI,eU]
def q9(s:PS):=(s.n,s.fn,s.B2,s.y8,s.blocks,s.j8,s.past,s.Wr,s.j0,s.sent,s.safe,s.j7,s.on,s.B4,s.u4,s.first,s.receiver,s.r7,s.P2,s.fd,s.K8,s.od)
theorem NN(h0:1<=n)(h1:n<=32):∃d1 d2,nC d1 (List.replicate n aE) 0 1/\nC d2 (List.replicate n aE) 0 1/\fJ (n:Int)=some (some (q9 { n:=n,fn:=n,B2:=0,y8:=1,blocks:=List.replicate n aE,j8:=(0,[],[],true),past:=[(0,List.replicate n aE)],Wr:= -1,j0:=(0,0,[]),sent:=0,safe:=0,j7:=[],on:=n,B4:=0,u4:=1,first:= -1,receiver:=(0,0),r7:=[],P2:=n,fd:=d1,K8:=n,od:=d2 }),none):=by
 have A:=Lm (n:=n) h1;have u:(List.replicate n aE).length=n:=aD6;obtain⟨d1,s1,B,_⟩:=Ew A (by rw[u];exact h0) (by rw[u];exact h1) (by decide) (by decide);obtain⟨d2,s2,C,_⟩:=Ey A (by rw[u];exact h0) (by rw[u];exact h1) (by decide) (by decide);rw[u] at B C;refine⟨d1,d2,s1,s2,?_⟩;unfold fJ;rw[NM h0 h1,cA];simp only[lJ,fA,cG,cA];rw[B,cA];simp only[fA,cG];rw[C,cA];rfl
end
section
open Go.O0
structure EpM (m:Nat) (b:Bd) (now:List aD) (snaps:List (List aD)):Prop where
 may:tQ b (m:Int)=0
 num:(snaps.length:Int)=b.1+1
 np:now.length=m
 len:∀s∈snaps,s.length=m
 open_:Jq (snaps.getD b.1.toNat []) b.2.1=now
 chain:CK snaps b.2.2.1
variable {m:Nat}{b:Bd}{now:List aD}{snaps:List (List aD)}
theorem EpM.add(h:EpM m b now snaps){p:nU}(hp:0<=p.1/\p.1<m):EpM m (b.1,nj b.2.1 p,b.2.2.1,b.2.2.2) (now.set p.1.toNat p.2) snaps:=by
 obtain⟨F,G,I,K,L,u,M,N,O⟩:=M1 h.may;have E:=G9 m b.2.1 _ u;have C:=G9 m (nj b.2.1 p) _ (Uz hp u);refine⟨SR h.may hp,h.num,by rw[aHm];exact h.np,h.len,?_,h.chain⟩;have D:Jq (snaps.getD b.1.toNat []) (nj b.2.1 p)=Jq (snaps.getD b.1.toNat []) (b.2.1++[p]):=
  Pj (λq B=>by have:=C q B;omega) (λq B=>by
   grind) λi=>GH u i
 show Jq (snaps.getD b.1.toNat []) (nj b.2.1 p)=_;rw[D];have A:=h.open_;unfold Jq at A ⊢;rw[aHb,A];rfl
theorem NO{n base:Int}:∀(l:List Ep) (j:Int),De n base j l=true->∀e∈l,e.1<=base+j+l.length - 1
 | [],_,_,e,u=>by simp at u
 |x::l,j,A,e,u=>by
  simp only[De] at A;split at A
  ·rcases sK.1 u with rfl | u
   ·grind [List.length_cons]
   ·have:=NO l (j+1) A e u;grind
  ·cases A
theorem EpM.shut(h:EpM m b now snaps)(hi:b.1<2147483647):EpM m (Aa b) now (snaps++[now]):=by
 obtain⟨K,L,M,N,O,P,Q,R,F⟩:=M1 h.may;have I:=h.num;have B:(Aa b).1=b.1+1:=by unfold Aa;split;rfl;split<;>rfl
 have D:(Aa b).2.1=[]:=by unfold Aa;split;rfl;split<;>rfl
 have E:∀e∈b.2.2.1,e.1<=b.1:=λe u=>by have:=NO _ _ F e u;omega
 have C:CK (snaps++[now]) b.2.2.1:=λe u=>by
  obtain⟨c1,G⟩:=h.chain e u;have:=E e u;exact⟨c1,by rw[tT (by omega),tT (by omega)];exact G⟩
 refine⟨LX h.may hi,by rw[B];simp;omega,h.np,λs A=>?_,?_,?_⟩
 ·rcases oq.1 A with A | A
  ·exact h.len s A
  ·simp at A;subst A;exact h.np
 ·rw[D,B,Cf (by omega)];rfl
 ·unfold Aa;split
  ·exact C
  ·split
   ·intro e u;simp at u
   ·intro e u;rcases oq.1 u with u | u
    ·exact C e u
    ·simp only[aFf] at u;subst u;refine⟨by simp only;omega,?_⟩;simp only;rw[show b.1+1 - 1=b.1 by omega,tT (by omega),Cf (by omega)];exact h.open_
theorem EpM.drop(h:EpM m b now snaps){num:Int}(hn:0<=num/\num<=b.1):nT b (m:Int) num=some ((b.1,b.2.1,b.2.2.1.filter (λe=>decide (num<e.1)),if num=b.1 then false else b.2.2.2),none)/\EpM m (b.1,b.2.1,b.2.2.1.filter (λe=>decide (num<e.1)),if num=b.1 then false else b.2.2.2) now snaps:=⟨SS h.may hn,LW h.may hn,h.num,h.np,h.len,h.open_,λe u=>h.chain e (aFg.1 u).1⟩
theorem We(hm:1<=m/\m<=32){num:Nat}(hn:snaps.length=num+1)(hb:num<=2147483647)(hl:∀s∈snaps,s.length=m):EpM m ((num:Int),[],[],true) (snaps.getD num []) snaps:=by
 refine⟨Ce (by omega) (by omega) (by simp) rfl (by simp) (by simp) rfl,by grind,?_,hl,rfl,λe u=>by grind⟩
 grind
theorem Mh{n:Int}:∀(A:List (Option nU)) (j:Nat),(∀(i:Nat) (p:nU),A[i]? =some (some p)->p.1=((j+i:Nat):Int)/\p.1<n)->∀prev:Int,prev<(j:Int)->Go.I9.K2 n prev (A.filterMap id)=true
 | [],_,_,_,_=>rfl
 |none::A,j,h,prev,C=>by
  simp only[List.filterMap_cons,id];exact Mh A (j+1) (λi p u=>by have:=h (i+1) p (by simpa using u);grind) prev (by omega)
 |some q::A,j,h,prev,C=>by
  have B:=h 0 q rfl;simp only[List.filterMap_cons,id,Go.I9.K2,bm,aEf];refine⟨by unfold Go.I9.jg;simp;omega,?_⟩;exact Mh A (j+1) (λi p u=>by have:=h (i+1) p (by simpa using u);refine⟨?_,this.2⟩;rw[this.1];congr 1;omega) q.1 (by rw[B.1];omega)
theorem EpM.since(h:EpM m b now snaps){k:Int}(hk:0<=k/\k<=b.1):mD b (m:Int) k=some ((0,[]),false,none)\/∃ps,mD b (m:Int) k=some ((b.1,ps),true,none)/\Jq (snaps.getD k.toNat []) ps=snaps.getD b.1.toNat []/\Go.I9.K2 (m:Int) (-1) ps=true/\ps.length<=32:=by
 obtain⟨F,G,I,K,L,M,N,O,B⟩:=M1 h.may;rw[yi b m k (uq h.may),nS (by rw[h.may];simp),nS (by omega)];by_cases c:b.1 - k>b.2.2.1.length
 ·rw[sM c];exact .inl rfl
 ·rw[nS c];refine .inr ⟨_,rfl,?_⟩;have u:=Vb (k:=k) (snaps:=snaps) (by omega:(m:Int)<=32) (by omega:b.1 - b.2.2.1.length+1 - 1<=k) (by omega) b.2.2.1 B h.chain;have C:max k (b.1 - b.2.2.1.length+1+b.2.2.1.length - 1)=b.1:=by omega
  rw[C] at u;refine⟨u.1,?_,?_⟩
  ·refine Mh _ 0 (λi p A=>?_) (-1) (by omega);have D:=u.2 i p A;have E:=Ze (n:=(m:Int)) (Jo B) A;exact⟨by simpa using D,E.2⟩
  ·refine eo (List.length_filterMap_le _ _) ?_;rw[zP];simp
end
end Go.B1
namespace Go.A1
open Go Go.Sw Go.Mo Go.Pl
def Di(s:tV):Option eF->tV | none=>s | some f=>if f.1=0/\f.2.2=[]/\f.2.1.length=2/\f.2.1.getD 0 0=s.1/\s.2.1<f.2.1.getD 1 0/\f.2.1.getD 1 0 - s.2.1<=min (s.2.2.length:Int) 4 then (s.1,f.2.1.getD 1 0,s.2.2.drop (f.2.1.getD 1 0 - s.2.1).toNat) else s
theorem yN(s:tV)(b:List Int)(hb:Bytes b)(hl:b.length<=2000)(h0:iR s=0):qW s b=some (Di s (eA b),none):=by
 obtain⟨q1,q2,T,U⟩:=Ig h0;unfold qW;rw[J9,sM h0,cA,Vt _ T U,nD b hb (by omega)];simp only[fA,cG,cA];cases hf:eA b with
 |none=>simp[Di]
 |some f=>
  obtain⟨g,_,_⟩:=Lx hb hf;simp only[fA,cG,cn,cg,Di];by_cases c1:¬(f.1=0)
  ·simp[c1]
  have c1:=aF2.1 c1;by_cases u:¬((f.2.1.length:Int)=2)
  ·have F:f.2.1.length≠2:=λh=>u (by omega);simp[c1,u,F]
  have u:=aF2.1 u;by_cases V:(f.2.2.length:Int)>0
  ·have C:f.2.2≠ []:=aD4.1 (by omega);have G:0<f.2.2.length:=(by omega);simp[c1,u,G,C]
  have C:f.2.2=[]:=ya (by omega);obtain⟨n0,n1,E⟩:∃n0 n1,f.2.1=[n0,n1]:=by
   match hm:f.2.1,u with
   | [a,c],_=>exact⟨a,c,rfl⟩
   | [],c=>simp at c
   | [_],c=>simp at c
   |_::_::_::_,c=>simp at c;omega
  have I:Sw.idx [n0,n1] (0:Int)=some n0:=by simp[Sw.idx]
  have K:Sw.idx [n0,n1] (1:Int)=some n1:=by simp[Sw.idx]
  have X:0<=n1/\n1<=2147483647:=g.num n1 (by rw[E];simp);have L:((2:Nat):Int)=2:=rfl;have M:(([]:List aD).length:Int)=0:=rfl;have N:([n0,n1]:List Int).getD 0 0=n0:=rfl;have O:([n0,n1]:List Int).getD 1 0=n1:=rfl;have P:([n0,n1]:List Int).length=2:=rfl;simp only[c1,C,E,I,K,L,M,N,O,P,ne_eq,not_true,dq,cG,cA,aHk];rw[show decide ((0:Int)>0)=false from rfl];simp only[cG,cA];by_cases A:¬(n0=s.1)
  ·simp[A]
  have A:=aF2.1 A;have Q:ar .sub .i64 n1 s.2.1=n1 - s.2.1:=bw (by omega);simp only[A,not_true,dq,cG,Q,cle,jp,aHk];by_cases B:s.2.1<n1/\n1 - s.2.1<=min (s.2.2.length:Int) 4
  ·have R:n1 - s.2.1=((n1 - s.2.1).toNat:Int):=(by omega);rw[pF (show n1 - s.2.1>0 by omega),fE,pF B.2,cA,fE,sM B];rw[R,il _ _ (by omega),cA,gR]
  ·have S:(bif decide (n1 - s.2.1>0) then some (decide (n1 - s.2.1<=min (s.2.2.length:Int) 4)) else some false)=some false:=by
    by_cases D:n1 - s.2.1>0
    ·rw[pF D,cT (λh=>B ⟨by omega,h⟩)];rfl
    ·rw[cT D];rfl
   rw[S,cA,cG,nS B]
def Ez(r:Int×Int):Option eF->(Int×Int)×eF×Bool×(Bool×List Int) | none=>(r,(0,[],[]),false,(true,[])) | some f=>if f.1=1/\3<=f.2.1.length/\f.2.1.getD 0 0=r.1/\f.2.1.getD 2 0<=15 then (if f.2.1.getD 1 0=r.2/\r.2<2147483647 then ((r.1,r.2+1),(f.2.1.getD 2 0,f.2.1.drop 3,f.2.2),true,(false,aX ((0:Int),[r.1,r.2+1],([]:List aD)))) else (r,(0,[],[]),false,(false,aX ((0:Int),[r.1,r.2],([]:List aD))))) else (r,(0,[],[]),false,(true,[]))
theorem Mi(r:Int×Int)(b:List Int)(hb:Bytes b)(hl:b.length<=2000)(h1:0<=r.1/\r.1<=2147483647)(h2:0<=r.2/\r.2<=2147483647):mY r b=some ((Ez r (eA b)).1,(Ez r (eA b)).2.1,(Ez r (eA b)).2.2.1,(Ez r (eA b)).2.2.2,none):=by
 unfold mY;rw[F9,dm.2 h1,dm.2 h2,nD b hb (by omega)];simp only[Bool.or_self,aFe,vn,cG,cA];cases hf:eA b with
 |none=>simp[Ez]
 |some f=>
  obtain⟨g,_,_⟩:=Lx hb hf;simp only[fA,cG,cn,cg,cl,Ez];by_cases c1:¬(f.1=1)
  ·simp[c1]
  have c1:=aF2.1 c1;by_cases A:(f.2.1.length:Int)<3
  ·have G:¬3<=f.2.1.length:=(by omega);simp[c1,A,G]
  obtain⟨n0,n1,n2,ns,F⟩:∃n0 n1 n2 ns,f.2.1=n0::n1::n2::ns:=by
   match hm:f.2.1,A with
   |a::c::d::e,_=>exact⟨a,c,d,e,rfl⟩
   | [],c=>simp at c
   | [_],c=>simp at c
   | [_,_],c=>simp at c
  have I:Sw.idx (n0::n1::n2::ns) (0:Int)=some n0:=by simp[Sw.idx]
  have K:Sw.idx (n0::n1::n2::ns) (1:Int)=some n1:=by simp[Sw.idx]
  have L:Sw.idx (n0::n1::n2::ns) (2:Int)=some n2:=by simp[Sw.idx]
  have M:Sw.sub (n0::n1::n2::ns) (3:Int) ((n0::n1::n2::ns).length:Int)=some ns:=il (n0::n1::n2::ns) 3 (by simp);have N:(n0::n1::n2::ns).getD 0 0=n0:=rfl;have O:(n0::n1::n2::ns).getD 1 0=n1:=rfl;have P:(n0::n1::n2::ns).getD 2 0=n2:=rfl;have Q:(n0::n1::n2::ns).drop 3=ns:=rfl;have R:3<=(n0::n1::n2::ns).length:=by simp
  rw[F] at A;simp only[c1,A,F,I,K,L,M,N,O,P,Q,R,ne_eq,not_true,dq,cG,cA,aHk];by_cases u:¬(n0=r.1)
  ·simp[u]
  have u:=aF2.1 u;by_cases E:n2>15
  ·have:¬n2<=15:=(by omega);simp[u,E,this]
  have S:n2<=15:=by omega
  simp only[u,E,S,not_true,dq,cG,cA,ce,jp,aHk,K4];by_cases B:n1=r.2/\r.2<2147483647
  ·have T:ar .add .i64 r.2 1=r.2+1:=O9 (by omega);obtain⟨e,D⟩:=jh h1 (c:=r.2+1) (by omega);simp only[B.1,B.2,xd,fE,cA,T,Cg D e,Ly,aIe,K4]
  ·obtain⟨e,D⟩:=jh h1 h2;have U:(bif decide (n1=r.2) then some (decide (r.2<2147483647)) else some false)=some false:=by
    by_cases C:n1=r.2
    ·have:¬r.2<2147483647:=λh=>B ⟨C,h⟩;simp[C,this]
    ·simp[C]
   rw[U,nS B];simp only[cG,cA,Cg D e,Ly]
theorem Hd{S q:Int}(h0:iR (S,q,[])=0):nM (S,q,[])=some ([],none):=by
 have u:Xo (S,q,[])=[]:=rfl;have:=(CR (S,q,[]) h0 (λf A=>by grind)).1;rw[this];rfl
theorem Mj{S q:Int}{m:eF}(h0:iR (S,q,[m])=0)(hq:q<=2147483647)(hm:cH m=0)(hb:∀b∈m.2.2,b.length=8/\Bytes b):nM (S,q,[m])=some ([aX (w9 (S,q,[m]) 0 m)],none):=by
 have u:Xo (S,q,[m])=[m]:=rfl;have:=(CR (S,q,[m]) h0 (λf A=>by grind)).1
 simp_all [Vu,aX,w9,nS,Ab]
theorem lT{S q:Int}{l:List eF}(hS:0<=S/\S<=2147483647)(hq:0<=q/\q<=2147483647)(hl:l.length<=64)(h:∀f∈l,cH f=0):iR (S,q,l)=0:=by
 unfold iR
 simp_all [dm,Bool.or_self,mu,M5,nS,Zh]
theorem He{S q:Int}{m:eF}(hS:0<=S/\S<=2147483647)(hq:0<=q/\q<2147483647)(hm:cH m=0):tP (S,q,[]) m=some ((S,q,[m]),none):=by
 have A:iR (S,q,[])=0:=lT hS ⟨hq.1,by omega⟩ (by simp) (λf C=>by simp at C);unfold tP;rw[J9,sM A,cA];simp only[fA,cG];rw[CQ,sM hm,cA];have B:ar .add .i64 q (([]:List eF).length:Int)=q:=by rw[O9 (by simp;omega)];simp
 have u:=Vs hm;have D:lN m=some m:=by
  unfold lN iL aB;rw[j1 _ _ (by have:=u.1;simp;omega),j1 _ _ (by have:=u.2;simp;omega)];rfl
 simp only[fA,cG,B,ce,ib];rw[show decide ((([]:List eF).length:Int)=64)=false from rfl,cT (show¬(q>=2147483647) by omega)];simp only[cG,cA]
 grind [Vt,Sw.app,List.length_nil,List.length_cons]
end Go.A1
namespace Go.B1
open Go Go.Sw Go.Mo Go.Pl
section
open Go.G7 (FZ GA orI orP)
abbrev J5:=Int×Int×Int×aD
abbrev Fm:=Int×List Int×List aD
theorem aC9{a b:Nat}(ha:a<4611686018427387904)(hb:b<4611686018427387904):ar .and .i64 (a:Int) (b:Int)=((a &&& b:Nat):Int):=by
 have h:a &&& b<2 ^ 62:=Nat.lt_of_le_of_lt Nat.and_le_left (by grind);show IntKind.wrap .i64 ((BitVec.ofInt 64 (a:Int) &&& BitVec.ofInt 64 (b:Int)).toNat)=_
 grind [sY,BitVec.toNat_and,BitVec.toNat_ofNat,Nat.mod_eq_of_lt,wrap_i64]
theorem TP{at_ k fr:Nat}(h1:at_<32)(h2:k<4)(h3:fr<64):ar .or .i64 (ar .or .i64 (sh .shl .i64 (at_:Int) (8:Int)) (sh .shl .i64 (k:Int) (6:Int))) (fr:Int)=((at_*256+k*64+fr:Nat):Int):=by
 have u:sh .shl .i64 (at_:Int) (8)=((at_*2 ^ 8:Nat):Int):=GA (c:=8) (by omega) (by simp);have A:sh .shl .i64 (k:Int) (6:Int)=((k*2 ^ 6:Nat):Int):=GA (c:=6) (by omega) (by omega);rw[u,A,orI (by omega) (by omega),orP (by omega),orI (by omega) (by omega)];have B:at_*2 ^ 8+k*2 ^ 6=(at_*4+k)*2 ^ 6:=by omega
 rw[B,orP (by omega)]
theorem wy{at_ k fr:Nat}(h1:at_<32)(h2:k<4)(h3:fr<64):sh .shr .i64 ((at_*256+k*64+fr:Nat):Int) (8:Int)=(at_:Int)/\ar .and .i64 (sh .shr .i64 ((at_*256+k*64+fr:Nat):Int) (6:Int)) (3:Int)=(k:Int)/\ar .and .i64 ((at_*256+k*64+fr:Nat):Int) (63:Int)=(fr:Int):=by
 have u:sh .shr .i64 ((at_*256+k*64+fr:Nat):Int) (8:Int)=(((at_*256+k*64+fr) / 2 ^ 8:Nat):Int):=FZ _ 8 (by omega);have A:sh .shr .i64 ((at_*256+k*64+fr:Nat):Int) (6:Int)=(((at_*256+k*64+fr) / 2 ^ 6:Nat):Int):=FZ _ 6 (by omega);have B:ar .and .i64 (((at_*256+k*64+fr) / 2 ^ 6:Nat):Int) (3:Int)=((((at_*256+k*64+fr) / 2 ^ 6) &&& 3:Nat):Int):=aC9 (b:=3) (by omega) (by omega);have C:ar .and .i64 ((at_*256+k*64+fr:Nat):Int) (63:Int)=(((at_*256+k*64+fr) &&& 63:Nat):Int):=aC9 (b:=63) (by omega) (by omega);rw[u,A,B,C];have D:∀x:Nat,x &&& 3=x % 4:=λx=>aG3 x 2;have E:∀x:Nat,x &&& 63=x % 64:=λx=>aG3 x 6
 grind
def iS(q:J5):Int:=q.1*256+q.2.1*64+q.2.2.1
def tA(l:List J5):List aD:=(l.filter λq=>decide (q.2.1=3)).map λq=>q.2.2.2
structure vt (q:J5):Prop where
 a:0<=q.1/\q.1<32
 k:0<=q.2.1/\q.2.1<=3
 f:0<=q.2.2.1/\q.2.2.1<64
 z:q.2.1≠3->q.2.2.2=aE
def qJ(l:List J5)(frm to:Int):Fm:=((4:Int),[frm,to]++l.map iS,tA l)
theorem NP{q:J5}(h:vt q):ar .or .i64 (ar .or .i64 (sh .shl .i64 q.1 (8:Int)) (sh .shl .i64 q.2.1 (6:Int))) q.2.2.1=iS q:=by
 obtain⟨a,C⟩:∃a:Nat,q.1=a:=⟨q.1.toNat,by have:=h.a;omega⟩;obtain⟨k,D⟩:∃a:Nat,q.2.1=a:=⟨q.2.1.toNat,by have:=h.k;omega⟩;obtain⟨f,E⟩:∃a:Nat,q.2.2.1=a:=⟨q.2.2.1.toNat,by have:=h.f;omega⟩;have u:=h.a;have A:=h.k;have B:=h.f
 grind [iS,TP]
theorem py{q:J5}(h:vt q):sh .shr .i64 (iS q) (8:Int)=q.1/\ar .and .i64 (sh .shr .i64 (iS q) (6:Int)) (3:Int)=q.2.1/\ar .and .i64 (iS q) (63:Int)=q.2.2.1:=by
 obtain⟨a,C⟩:∃a:Nat,q.1=a:=⟨q.1.toNat,by have:=h.a;omega⟩;obtain⟨k,D⟩:∃a:Nat,q.2.1=a:=⟨q.2.1.toNat,by have:=h.k;omega⟩;obtain⟨f,E⟩:∃a:Nat,q.2.2.1=a:=⟨q.2.2.1.toNat,by have:=h.f;omega⟩;have u:=h.a;have A:=h.k;have B:=h.f;have:=wy (at_:=a) (k:=k) (fr:=f) (by omega) (by omega) (by omega)
 grind [iS]
theorem Fa(l:List J5)(x:J5):tA (l++[x])=tA l++(if x.2.1=3 then [x.2.2.2] else []):=by
 grind [tA]
theorem Wf(l:List J5):(tA l).length<=l.length:=by simp[tA,sv,aGr]
theorem NQ(num frm:Int)(ps:List (Int×aD))(base:List aD)(hp:ps.length<=32)(he:Go.I9.D5 base []=0)(hr:Go.I9.K2 (base.length:Int) (-1) ps=true)(hk:∀q∈Go.I9.F1 ps base [],vt q):qC (num,ps) base frm=some (qJ (Go.I9.F1 ps base []) frm num,decide (((2+(Go.I9.F1 ps base []).length:Nat):Int)<=9)):=by
 unfold qC;rw[Go.I9.fo ps base [] (by omega) (by simp),nS (by rw[he];simp),sM hr,cA];simp only[fA,cG];have B:(Go.I9.F1 ps base []).length<=32:=eo (Go.I9.W9 _ _ _) hp;generalize hL:Go.I9.F1 ps base []=L at hk B;refine sI (l:=L) (λ(i:Nat) (acc:List Int×List aD)=>((i:Int),acc.1,acc.2)) (λu acc=>acc=([frm,num]++u.map iS,tA u)) (λacc=>(acc.1,acc.2)) ([frm,num],[]) (by unfold bR;omega) rfl ?_ ?_ ?_
 ·rintro u x F acc hd rfl;have D:u.length<=32:=by rw[hd] at B;simp at B;omega
  have C:=hk x (by rw[hd];simp);have E:=Wf u;refine⟨([frm,num]++(u++[x]).map iS,tA (u++[x])),?_,rfl⟩;simp only[iN hd,fE,fF hd,cA,NP C];rw[j1 _ _ (by simp;omega),cA,L3 (by omega),ce,Fa];by_cases A:x.2.1=3
  ·rw[pF A,fE,j1 _ _ (by simp;omega),cA,sM A];simp
  ·rw[cT A,cG,nS A];simp
 ·rintro acc rfl;simp only[bV,cG]
 ·rintro acc rfl;simp only[qJ,cle];have e:(([frm,num]++L.map iS).length:Int)=((2+L.length:Nat):Int):=by rw[cM,sv];rfl
  rw[e]
end
theorem Zq(l:List J5)(frm to:Int)(hl:l.length<=32)(hk:∀q∈l,vt q):mZ (qJ l frm to)=some (l,true):=by
 unfold mZ qJ;have I:Sw.sub ([frm,to]++l.map iS) (2:Int) ((([frm,to]++l.map iS).length:Nat):Int)=some (l.map iS):=by
  have:=Go.A1.il ([frm,to]++l.map iS) 2 (by simp);simpa using this
 rw[I,cA];have K:(l.map iS).length=l.length:=sv ..;rw[show (tA l,(0:Int),([]:List J5))=(λ(i:Nat) (acc:List aD×List J5)=>(acc.1,(i:Int),acc.2)) 0 (tA l,[]) from rfl];refine sI (l:=l) (λ(i:Nat) (acc:List aD×List J5)=>(acc.1,(i:Int),acc.2)) (λF acc=>acc.2=F/\tA F++acc.1=tA l) (λacc=>(acc.1,acc.2)) (tA l,[]) (by unfold bR;omega) ⟨rfl,rfl⟩ ?_ ?_ ?_
 ·rintro F x A ⟨bs,out⟩ hd ⟨C,u⟩;simp only at C u;subst C;have U:out.length<=32:=by rw[hd] at hl;simp at hl;omega
  have G:=hk x (by rw[hd];simp);obtain⟨R,S,T⟩:=py G;have L:Sw.idx (l.map iS) (out.length:Int)=some (iS x):=pM (by rw[hd];simp);have D:cm .lss (out.length:Int) ((l.map iS).length:Int)=true:=by rw[K];exact iN hd
  simp only[D,fE,L,cA,R,S,T,jp,ce];have E:tA l=tA out++((if x.2.1=3 then [x.2.2.2] else [])++tA A):=by
   rw[hd,show out++x::A=(out++[x])++A by simp];have:∀a b:List J5,tA (a++b)=tA a++tA b:=λa b=>by unfold tA;rw[aGf,aF5]
   rw[this,Fa,dt]
  rw[E] at u;have u:=List.append_cancel_left u;by_cases B:x.2.1=3
  ·rw[sM B] at u;subst u;rw[pF B,fE];have M:decide (((([x.2.2.2]++tA A).length:Nat):Int)=0)=false:=cT (by simp;omega);have N:Sw.sub ([x.2.2.2]++tA A) (1:Int) ((([x.2.2.2]++tA A).length:Nat):Int)=some (tA A):=by
    have:=Go.A1.il ([x.2.2.2]++tA A) 1 (by simp);simpa using this
   have O:Sw.idx ([x.2.2.2]++tA A) (0:Int)=some x.2.2.2:=(by simp[Sw.idx]);rw[M,cG,O,cA,N,cA,j1 _ _ (by simp;omega),cA,L3 (by omega)];refine⟨(tA A,out++[x]),rfl,rfl,?_⟩;simp only;rw[Fa,sM B,E,sM B,dt]
  ·rw[nS B,rh] at u;subst u;rw[cT B,cG,j1 _ _ (by simp;omega),cA,L3 (by omega)];have P:=G.z B;refine⟨(tA A,out++[x]),?_,rfl,?_⟩
   ·rw[<-P]
   ·simp only;rw[Fa,nS B,rf,E,nS B,rh]
 ·rintro⟨bs,out⟩ ⟨C,u⟩;simp only at C u;subst C;have D:cm .lss (out.length:Int) ((out.map iS).length:Int)=false:=by rw[sv];exact bV
  simp only[D,cG]
 ·rintro⟨bs,out⟩ ⟨C,u⟩;simp only at C u;subst C;have Q:bs=[]:=by
   have:=congrArg List.length u;simp at this;exact this
  subst Q;rfl
section
open Go.G7 (nC rH Ux pN wP xJ)
open Go.A1 (cH)
def C9(b:aD):Prop:=b.length=8/\Bytes b
structure S7 (n:Nat) (snaps:List (List aD)) (cur to:Int) (m:Fm):Prop where
 lt:cur<to
 nn:0<=cur
 le:to<snaps.length
 load:cH m=0
 E2:∀b∈m.2.2,C9 b
 say:m=((5:Int),[to],snaps.getD to.toNat [])\/∃l ps,m=qJ l cur to/\l.length<=7/\(∀q∈l,vt q)/\nR l (snaps.getD cur.toNat []) []=some (ps,[],none)/\
  rH (snaps.getD cur.toNat []) ps=snaps.getD to.toNat []/\ps.length<=n/\(∀p∈ps,0<=p.1/\p.1<(n:Int))
def lU:Nat->List aD->List (Int×aD) | _,[]=>[] | i,b::l=>((i:Int),b)::lU (i+1) l
theorem Fb:∀(l:List aD) (i:Nat) (b:aD),lU i (l++[b])=lU i l++[(((i+l.length:Nat):Int),b)]
 | [],_,_=>rfl
 |x::l,i,b=>by
  simp[ud,lU,qf];rw[Fb l (i+1) b];grind
theorem Bn:∀(l:List aD) (i:Nat),(lU i l).length=l.length
 | [],_=>rfl
 |_::l,i=>by simp[lU,Bn l (i+1)]
theorem Ik:∀(l:List aD) (i:Nat),∀p∈lU i l,(i:Int)<=p.1/\p.1<((i+l.length:Nat):Int)
 | [],_,p,u=>by grind [lU]
 |x::l,i,p,u=>by
  simp[lU,sK] at u;rcases u with rfl | u
  ·grind
  ·have:=Ik l (i+1) p u;grind
theorem Mk:∀(l pre base:List aD),base.length=l.length->rH (pre++base) (lU pre.length l)=pre++l
 | [],pre,base,h=>by
  have:base=[]:=ya (by simpa using h);subst this;rfl
 |x::l,pre,base,h=>by
  match base,h with
  |y::base,h=>
   simp only[lU];show rH ((pre++y::base).set ((pre.length:Int)).toNat x) (lU (pre.length+1) l)=_;have:(pre++y::base).set ((pre.length:Int)).toNat x=(pre++[x])++base:=(by simp);rw[this];have:=Mk l (pre++[x]) base (by simpa using h)
   grind
variable {n:Nat}{snaps:List (List aD)}
theorem Ml{d:(List aD)×(List (Int×aD))×Int}{blocks:List aD}{a b:Nat}(h:nC d blocks a b)(h0:1<=blocks.length)(h1:blocks.length<=32)(ll:b<=2147483647)(y7:List (Int×aD))(to:Int)(ht:0<=to/\to<=2147483647)(hl:y7.length<=blocks.length)(hp:∀p∈y7,0<=p.1/\p.1<(blocks.length:Int)):∃d',nC d' (rH blocks y7) to.toNat b/\(∀b0 b1 b2 b4 b5 b6 b7 b8 b9 l9 o6 l8 j9 l7 l6 o7 l5 p7 p6,iY y7 to b0 b1 b2 (b:Int) b4 b5 b6 b7 b8 b9 l9 o6 l8 j9 l7 l6 o7 l5 (blocks.length:Int) d p7 p6=some (none,to,(blocks.length:Int),d'))/\(∀b0 b1 b2 b3 b4 b5 b6 b7 b8 b9 l9 o6 l8 j9 l6 o7 l5 p5 p4,fR y7 to b0 b1 b2 b3 b4 b5 b6 b7 b8 b9 l9 o6 l8 j9 (b:Int) l6 o7 l5 p5 p4 (blocks.length:Int) d=some (none,to,(blocks.length:Int),d')):=by
 have C:Ux blocks.length y7 to (b:Int)=0:=by
  unfold Ux;rw[nS (by omega),nS (by omega),nS];intro D;obtain⟨p,E,B⟩:=aG2.1 D;have:=hp p E;unfold pN at B;simp at B;omega
 obtain⟨d',x',y',u,A,_,_,_,e,sn⟩:=xJ h h0 h1 y7 to (b:Int) C;have u:to.toNat=x':=by omega
 have A:b=y':=by omega
 subst u A;refine⟨d',sn,?_,?_⟩<;>intros
 ·unfold iY;rw[e];rfl
 ·unfold fR;rw[e];rfl
end
section
open Go.G7 (nC rH Ux pN wP xJ)
open Go.A1 (cH)
variable {n:Nat}{snaps:List (List aD)}
theorem Sd{γ:Type}(l:List aD)(hl:l.length<=1000)(k:List (Int×aD)->Option γ):lp (β:=(List (Int×aD))) (λ(bz:Int×(List (Int×aD)))=>bif (cm .lss bz.1 (l.length:Int)) then (Sw.idx l bz.1).bind λz26=>(Sw.app bz.2 ([(bz.1,z26)]:(List (Int×aD)))).bind λK1=>some (.next ((ar .add .i64 bz.1 (1:Int)),K1)) else some (.done (.u9 bz.2)) ) ((0:Int),([]:(List (Int×aD)))) k=k (lU 0 l):=by
 refine sI (l:=l) (λ(i:Nat) (acc)=>((i:Int),acc)) (λu acc=>acc=lU 0 u) (λacc=>acc) [] (by grind [bR]) rfl ?_ ?_ ?_
 ·rintro u x B acc hd rfl;have A:u.length<=1000:=by grind
  refine⟨lU 0 (u++[x]),?_,rfl⟩;simp only[iN hd,fE,fF hd,cA];rw[j1 _ _ (by simp[Bn];omega),cA,L3 (by omega),Fb,aGu]
 ·rintro acc rfl;simp[bV,cG]
 simp
theorem TQ{s:PS}{blocks:List aD}{a b:Nat}(h:nC s.od blocks a b)(V9:blocks=snaps.getD a [])(h0:1<=n)(h1:n<=32)(mi:∀x∈snaps,x.length=n)(ha:s.B4=(a:Int))(og:a<snaps.length)(I0:snaps.length<=2147483647)(hb:s.u4=(b:Int))(ll:b<=2147483647)(hon:s.on=(n:Int))(ho:s.K8=(n:Int)){m:Fm}{to:Int}(hm:S7 n snaps (a:Int) to m):∃d',nC d' (snaps.getD to.toNat []) to.toNat b/\rA m s=some (none,{ s with B4:=to,K8:=(n:Int),od:=d' }):=by
 have S:=hm.lt;have T:=hm.le;have E:∀i:Nat,i<snaps.length->(snaps.getD i []).length=n:=λi O=>by
  rw[vo,sE O];exact mi _ (aEe _)
 have A:blocks.length=n:=by rw[V9];exact E a og
 have F:(snaps.getD to.toNat []).length=n:=E _ (by omega);rcases hm.say with rfl |⟨l,P,rfl,U,Q,D,u,V,R⟩
 ·
  obtain⟨d',sn,_,e⟩:=Ml h (by omega) (by omega) ll (lU 0 (snaps.getD to.toNat [])) to (by omega) (by rw[Bn];omega) (λp C=>by have:=Ik _ _ p C;omega);rw[A] at e;have u:rH blocks (lU 0 (snaps.getD to.toNat []))=snaps.getD to.toNat []:=by
   have:=Mk (snaps.getD to.toNat []) [] blocks (by omega);simpa using this
  rw[u] at sn;refine⟨d',sn,?_⟩;unfold rA dT;have B:Sw.idx [to] (0:Int)=some to:=by simp[Sw.idx]
  have c1:((([to]:List Int).length:Nat):Int)=1:=rfl;simp only[ce,c1,hon,F,B,cg,xd,fE,cA];rw[ha,pF (show to>(a:Int) by omega),fE];have G:=Sd (snaps.getD to.toNat []) (by omega) (γ:=(Option Int)×Int×Int×((List aD)×(List (Int×aD))×Int));rw[F] at G;rw[G];simp only[cA,hb,ho,e]
 ·
  obtain⟨d',sn,_,e⟩:=Ml h (by omega) (by omega) ll P to (by omega) (by omega) (λp C=>by have:=R p C;omega);rw[A] at e;rw[gR] at D u;rw[V9,u] at sn;refine⟨d',sn,?_⟩;have I:=wP h;rw[A] at I;unfold rA dT;have K:=Zq l (a:Int) to (by omega) Q;have B:Sw.idx ((qJ l (a:Int) to).2.1) (0:Int)=some (a:Int):=by simp[qJ,Sw.idx]
  have L:Sw.idx ((qJ l (a:Int) to).2.1) (1:Int)=some to:=by simp[qJ,Sw.idx]
  have M:(qJ l (a:Int) to).1=4:=rfl;have N:decide ((((qJ l (a:Int) to).2.1.length:Nat):Int)>=2)=true:=pF (by simp[qJ];omega);rw[<-V9] at D;simp only[ce,M,ib,N,B,L,cg,fE,cA];rw[show decide ((4:Int)=5)=false from rfl,cG,cA,cG,pF trivial,fE,ha,pF rfl,fE,pF (show to>(a:Int) by omega),cA,fE,ho,I,cA];simp only[fA,cG,K,cA,D,vn];rw[show decide ((([]:List Int).length:Int)>0)=false from rfl];simp only[cA,cG,hb,e]
end
section
open Go.G7 (rH)
open Go.I9 (K2 jg Ir F1 Iq news D5)
open Go.A1 (cH dH)
open Go.O0 (Jq)
theorem Py{n:Int}:∀(l:List (Int×aD)) (prev:Int) (acc:List aD),-1<=prev->K2 n prev l=true->∀i:Nat,(i:Int)<=prev->(Ir acc l)[i]? =acc[i]?
 | [],_,_,_,_,_,_=>rfl
 |x::l,prev,acc,A,h,i,B=>by
  simp[K2,bm,aEf] at h;have u:=h.1;unfold jg at u;simp at u;show (Ir (acc.set x.1.toNat x.2) l)[i]? =_;rw[Py l x.1 _ (by omega) h.2 i (by omega),aEu (by omega)]
theorem DG{n:Int}:∀(l:List (Int×aD)) (prev:Int) (acc:List aD),-1<=prev->K2 n prev l=true->(n<=acc.length)->∀p∈l,(Ir acc l)[p.1.toNat]? =some p.2
 | [],_,_,_,_,_,p,u=>by simp at u
 |x::l,prev,acc,B,h,C,p,u=>by
  simp only[K2,bm,aEf] at h;have A:=h.1;unfold jg at A;simp at A;show (Ir (acc.set x.1.toNat x.2) l)[p.1.toNat]? =_;rcases sK.1 u with rfl | u
  ·rw[Py l p.1 _ (by omega) h.2 _ (by omega),aGm (by omega)]
  ·exact DG l x.1 _ (by omega) h.2 (by grind) p u
theorem Wg{n:Int}:∀(l:List (Int×aD)) (prev:Int),prev<n->K2 n prev l=true->(l.length:Int)<=n - 1 - prev
 | [],_,A,_=>by grind
 |x::l,prev,A,h=>by
  simp[K2,bm,aEf] at h;have u:=h.1;unfold jg at u;simp at u;have:=Wg l x.1 (by omega) h.2
  grind
variable {n:Nat}{snaps:List (List aD)}
theorem po{ps:List (Int×aD)}{base:List aD}(hr:K2 (base.length:Int) (-1) ps=true)(hb:base.length<=32):∀q∈F1 ps base [],vt q:=by
 intro q u;obtain⟨p,B,rfl⟩:=ot.1 u;have C:=Go.I9.ir hr p (aFg.1 B).1;unfold Iq;split
 ·exact⟨by simp only;omega,by simp,by simp,λ_=>rfl⟩
 ·split
  ·rename_i A;have:=aGn A;exact⟨by simp only;omega,by simp,by simp only;omega,λ_=>rfl⟩
  ·split
   ·grind
   ·exact⟨by simp only;omega,by simp,by simp,λh=>by simp at h⟩
theorem NR{ps:List (Int×aD)}{base:List aD}:∀x∈tA (F1 ps base []),∃p∈ps,x=p.2:=by
 intro x A;unfold tA at A;obtain⟨q,u,rfl⟩:=ot.1 A;obtain⟨u,B⟩:=aFg.1 u;unfold F1 at u;obtain⟨p,C,rfl⟩:=ot.1 u;refine⟨p,(aFg.1 C).1,?_⟩;unfold Iq at B ⊢
 grind
theorem Jr{f:Fm}(h1:0<=f.1/\f.1<=15)(h2:f.2.1.length<=9)(h3:f.2.2.length<=32)(h4:∀x∈f.2.1,0<=x/\x<=2147483647):cH f=0:=by
 grind [dH,List.any_eq_true,Go.A1.dm,cH]
theorem TR{b:Int×List (Int×aD)×List (Int×List (Int×aD))×Bool}{now:List aD}{past:List (Int×List aD)}{G8:Nat}{k:Int}(he:EpM n b now snaps)(h0:1<=n)(h1:n<=32)(hh:snaps.length=G8+1)(L8:G8<=2147483647)(V9:∀s∈snaps,∀x∈s,C9 x)(bBy:∀j l,dQ past j=some l->0<=j/\j<=G8/\l=snaps.getD j.toNat [])(bCe:dQ past (G8:Int)=some (snaps.getD G8 []))(hk: -1<=k/\k<G8):∃m,(∀b0 b3 b4 b7 b8 l9 o6 l8 j9 l7 l6 o7 l5 p5 p4 p7 p6,cF b0 (n:Int) (G8:Int) b3 b4 b past b7 b8 k l9 o6 l8 j9 l7 l6 o7 l5 p5 p4 p7 p6=some m)/\∀cur:Int,0<=cur->cur<G8->(k= -1\/cur=k)->S7 n snaps cur G8 m:=by
 have S:b.1=G8:=by have:=he.num;omega
 have K:∀i:Nat,i<snaps.length->snaps.getD i []∈snaps:=λi N=>by
  rw[vo,sE N];exact aEe _
 have P:∀i:Nat,i<snaps.length->(snaps.getD i []).length=n:=λi N=>he.len _ (K i N);have F:∀cur:Int,0<=cur->cur<G8->S7 n snaps cur G8 ((5:Int),[(G8:Int)],snaps.getD G8 []):=λcur B c1=>
  ⟨c1,B,by omega,Jr (by simp) (by simp) (by have:=P G8 (by omega);simp only;omega) (λx C=>by simp at C;omega),λx C=>V9 _ (K G8 (by omega)) x C,.inl (by simp)⟩
 have G:(dQ past (G8:Int)).getD []=snaps.getD G8 []:=by rw[bCe];rfl
 by_cases T:k<0
 ·refine⟨((5:Int),[(G8:Int)],snaps.getD G8 []),?_,λcur B c1 _=>F cur B c1⟩
  intros
  unfold cF;rw[Go.O0.yi b n k (Go.O0.uq he.may),nS (by rw[he.may];simp),sM (.inl T)];simp only[cA,Option.isNone_some,cG,jp,G]
 ·rcases he.since (k:=k) ⟨by omega,by omega⟩ with E |⟨A,E,X,D,qp⟩
  ·refine⟨((5:Int),[(G8:Int)],snaps.getD G8 []),?_,λcur B c1 _=>F cur B c1⟩
   intros
   unfold cF;rw[E];simp only[cA,xy,fE,cG,jp,G]
  ·cases hg:dQ past k with
   |none=>
    refine⟨((5:Int),[(G8:Int)],snaps.getD G8 []),?_,λcur B c1 _=>F cur B c1⟩
    intros
    unfold cF;rw[E];simp only[cA,xy,fE,cG,jp,G,hg,fA]
   |some u=>
    obtain⟨_,_,I⟩:=bBy k u hg;have U:u.length=n:=(by rw[I];exact P _ (by omega));have Q:D5 u []=0:=Go.I9.wh (by omega) (by omega) (by simp) (by simp);rw[<-U] at D;have L:=po D (by omega);have hd:=NQ b.1 k A u qp Q D L;by_cases lf:2+(F1 A u []).length<=9
    ·refine⟨qJ (F1 A u []) k b.1,?_,λcur B c1 O=>?_⟩
     ·intros
      unfold cF;rw[E];simp only[cA,xy,fE,jp,hg,aF7,aFw,hd];rw[pF (by omega),fE]
     ·have V:cur=k:=(by rcases O with O | O<;>omega);subst V;have ab:=Wf (F1 A u []);have R:Ir u A=snaps.getD b.1.toNat []:=(by rw[<-X,<-I];rfl);refine⟨by omega,B,by omega,Jr (by simp[qJ]) (by simp[qJ];omega) (by simp only[qJ];omega) (λx C=>?_),λx C=>?_,.inr ⟨F1 A u [],news A u,by rw[S],by omega,L,?_,?_,?_,?_⟩⟩
      ·simp only[qJ,oq,sK,aEq,aHl,ot] at C;rcases C with (rfl | rfl) |⟨q,hq,rfl⟩
       ·omega
       ·omega
       ·have h:=L q hq;have a1:=h.a;have a2:=h.k;have a3:=h.f;unfold iS;omega
      ·obtain⟨p,M,rfl⟩:=NR x C;have:=DG A (-1) u (by omega) D (aG4 _) p M;rw[R] at this;exact V9 _ (K _ (by omega)) _ (aEd this)
      ·rw[<-I];exact Go.I9.aJc A u [] (by omega) (by simp) Q D
      ·rw[<-I];have h1:rH u (news A u)=Ir u (news A u):=rfl;rw[h1,Go.I9.kq (by omega) D (λ_ _=>rfl),R];congr 1;omega
      ·have h1:=Wg A (-1) (by omega) D;have h2:(news A u).length<=A.length:=aGr _ _;omega
      ·intro p M;have:=Go.I9.aQp D p M;omega
    ·refine⟨((5:Int),[(G8:Int)],snaps.getD G8 []),?_,λcur B c1 _=>F cur B c1⟩
     intros
     unfold cF;rw[E];simp only[cA,xy,fE,jp,hg,aF7,aFw,hd];rw[cT (by omega),cG,G]
end
theorem aDa(n c:Nat)(hc:c<=64):sh .shr .u64 (n:Int) (c:Int)=((n / 2 ^ c:Nat):Int):=Go.lx.aZ3 n c hc
theorem aE6{a b:Nat}(ha:a<18446744073709551616)(hb:b<18446744073709551616):ar .and .u64 (a:Int) (b:Int)=((a &&& b:Nat):Int):=by
 show IntKind.wrap .u64 ((BitVec.ofInt 64 (a) &&& BitVec.ofInt 64 (b:Int)).toNat:Int)=_;simp[sY,aIf,aF6];rw[aB4 (by omega),aB4 (by omega)];have:a &&& b<=a:=Nat.and_le_left;show ((a &&& b):Int) % 18446744073709551616=_;omega
theorem GR{h:Nat}(hh:h<18446744073709551616):oJ (h:Int)=some [((h / 8589934592:Nat):Int),((h / 4 % 2147483648:Nat):Int)]:=by
 unfold oJ;have u:=aDa h 33 (by simp);have A:sh .shr .u64 (h:Int) (2:Int)=((h / 2 ^ 2:Nat):Int):=aDa h 2 (by omega);have B:ar .and .u64 ((h / 2 ^ 2:Nat):Int) (2147483647:Int)=((h / 2 ^ 2 &&& 2147483647:Nat):Int):=aE6 (b:=2147483647) (by omega) (by omega);have C:=λx=>aG3 x 31
 grind [wrap_i64]
theorem Zs{bs:List aD}(h0:1<=bs.length)(h1:bs.length<=32)(hb:∀b∈bs,C9 b):∃x y:Int,jH bs=some [x,y]/\(0<=x/\x<=2147483647)/\(0<=y/\y<=2147483647):=by
 have C:=Go.lx.um bs h0;have E:=C.ne;obtain⟨u,l,A⟩:∃u l,Go.lx.tree bs=u++[l]:=⟨_,_,(aGk E).symm⟩;have F:l.length=1:=by
  rcases C.at u [] l A with⟨_,h⟩|⟨m,r,h,_⟩
  ·exact h
  ·cases h
 obtain⟨v,rfl⟩:∃v,l=[v]:=by
  match l,F with
  | [v],_=>exact⟨v,rfl⟩
 have B:=(Go.lx.yg bs h1 [v] (by rw[A];simp)).1 v (by simp);have D:=Go.lx.yf bs;rw[A] at D;have M:u.length<=32:=by simp at D;omega
 unfold jH;rw[Go.lx.aSl bs hb (by omega),nS (by omega),cA];simp only[fA,cG,A];have G:(((u++[[v]]).length:Nat):Int)=((u.length+1:Nat):Int):=by simp
 have I:ar .sub .i64 ((u.length+1:Nat):Int) 1=(u.length:Int):=by rw[bw (by omega)];omega
 have K:Sw.idx (u++[[v]]) (u.length:Int)=some [v]:=pM (by simp);have L:Sw.idx [v] (0:Int)=some v:=by simp[Sw.idx]
 rw[G,I,K,cA,L,cA];obtain⟨h,rfl⟩:∃h:Nat,v=h:=⟨v.toNat,by have:=B;omega⟩;rw[GR (by have:=B;omega),cA];exact⟨_,_,rfl,by have:=B;omega,by omega⟩
section
open Go.G7 (nC)
open Go.A1 (Good aX eA cH)
def kN(fb ob:Nat):Int:=((fb*4096+ob:Nat):Int)
theorem rR{a b c d:Nat}(hb:b<4096)(hd:d<4096)(h:kN a b=kN c d):a=c/\b=d:=by grind [kN]
def kX(g:Nat):Fm:=((2:Int),[(g:Int)],[])
def cR(g o j:Nat)(t:List Int):Fm:=((3:Int),[(g:Int),(o:Int),(j:Int)]++t,[])
def w9(S:Int)(q:Nat)(m:Fm):Fm:=((1:Int),[S,(q:Int),m.1]++m.2.1,m.2.2)
def rS(S:Int)(a:Nat):Fm:=((0:Int),[S,(a:Int)],[])
structure aa (m:Fm):Prop where
 load:cH m=0
 E2:∀b∈m.2.2,C9 b
structure Nm where
 n:Nat
 h:Nat
 fb:Nat
 ob:Nat
 k:Nat
 q:Nat
 x:Nat
def rW(v:Nm)(s:PS)(S:Int):Prop:=∃g o:Nat,S=kN g o/\1<=g/\1<=o/\o<=v.ob/\(g<v.fb\/(g=v.fb/\S<=s.Wr))/\(o=v.ob->(g:Int)<=s.first)
def Bo(v:Nm)(snaps:List (List aD))(s:PS)(f:Fm):Prop:=(∃g:Nat,1<=g/\g<=v.fb/\f=kX g)\/(∃S q m,f=w9 S q m/\aa m/\rW v s S/\(S=s.Wr->q<v.q\/(q=v.q/\s.j0.2.2=[m]))/\(0<=s.first->S=s.receiver.1->q<=v.x/\(q=v.x->∃to,S7 v.n snaps v.k to m)))
def Ci(v:Nm)(snaps:List (List aD))(s:PS)(f:Fm):Prop:=(∃g o j t,f=cR g o j t/\1<=g/\g<=v.fb/\1<=o/\o<=v.ob/\j<=v.k/\jH (snaps.getD j [])=some t/\(g=v.fb->o=v.ob->s.Wr<kN g o->j=v.k/\s.first=(v.fb:Int)/\v.x=0))\/(∃S a,f=rS S a/\rW v s S/\(S=s.Wr->a<=v.q\/(a=v.q+1/\s.j0.2.2≠ []/\s.sent<=v.k))/\(0<=s.first->S=s.receiver.1->a<=v.x))
structure V4 (v:Nm) (snaps:List (List aD)) (s:PS) (y:Bool×Bool×List Int):Prop where
 bytes:Bytes y.2.2
 len:y.2.2.length<=2000
 ne:y.2.2≠ []
 ik:y.2.1=true->eA y.2.2=none
 whole:y.2.1=false->∃f,Good f/\y.2.2=aX f/\(y.1=true->Bo v snaps s f)/\(y.1=false->Ci v snaps s f)
structure Inv (v:Nm) (now:List aD) (snaps:List (List aD)) (s:PS):Prop where
 n0:1<=v.n
 n1:v.n<=32
 en:s.n=v.n
 efn:s.fn=v.n
 eon:s.on=v.n
 aRq:s.P2=v.n
 aK9:s.K8=v.n
 hs:snaps.length=v.h+1
 V3:v.h<=100000/\v.fb<=3000/\v.ob<=3000/\v.q<=100000/\v.x<=100000
 pos:1<=v.fb/\1<=v.ob
 enum:s.B2=v.h
 J3:s.y8=v.fb
 px:s.u4=v.ob
 jb:s.B4=v.k
 kh:v.k<=v.h
 ur:nC s.fd (snaps.getD v.h []) v.h v.fb
 er:nC s.od (snaps.getD v.k []) v.k v.ob
 ep:EpM v.n s.j8 now snaps
 ee:s.blocks=now
 bok:∀l∈snaps,∀b∈l,C9 b
 nok:∀b∈now,C9 b
 past:∀p∈s.past,0<=p.1/\p.1<=v.h/\p.2=snaps.getD p.1.toNat []
 last:dQ s.past (v.h:Int)=some (snaps.getD v.h [])
 idle:s.first=v.fb->s.Wr<kN v.fb v.ob->v.x=0
 safe:0<=s.safe/\s.safe<=v.k
 sent: -1<=s.sent/\s.sent<=v.h/\(s.sent= -1->0<v.h)
 low:s.j0.2.2=[]->s.sent<=s.safe
 Wr:s.Wr= -1\/∃o:Nat,1<=o/\o<=v.ob/\s.Wr=kN v.fb o/\(o=v.ob->s.first=v.fb)
 j0:(s.Wr= -1/\s.j0=(0,0,[])/\s.j7=[])\/(0<=s.Wr/\s.j0.1=s.Wr/\s.j0.2.1=v.q)
 queue:(s.j0.2.2=[]/\s.j7=[])\/∃m,s.j0.2.2=[m]/\s.j7=[s.sent]/\aa m/\0<=s.sent
 first:(s.first= -1/\s.receiver=(0,0)/\v.x=0)\/∃g:Nat,1<=g/\g<=v.fb/\s.first=g/\s.receiver=(kN g v.ob,(v.x:Int))
 act:s.Wr=kN v.fb v.ob->(v.x=v.q/\(s.j0.2.2=[]->s.sent=v.k\/(s.sent= -1/\v.k<v.h))/\(∀m,s.j0.2.2=[m]->S7 v.n snaps v.k s.sent m))\/(v.x=v.q+1/\s.j0.2.2≠ []/\s.sent=v.k)
 r7:∀y∈s.r7,V4 v snaps s y
 fp:s.r7.length<=64
end
section
open Go.G7 (nC)
open Go.A1 (Good aX eA cH)
theorem E5:C9 aE:=⟨rfl,λx u=>by grind [aE]⟩
def Mm(n:Nat)(d1 d2:(List aD)×(List (Int×aD))×Int):PS:={ n:=n,fn:=n,B2:=0,y8:=1,blocks:=List.replicate n aE,j8:=(0,[],[],true),past:=[(0,List.replicate n aE)],Wr:= -1,j0:=(0,0,[]),sent:=0,safe:=0,j7:=[],on:=n,B4:=0,u4:=1,first:= -1,receiver:=(0,0),r7:=[],P2:=n,fd:=d1,K8:=n,od:=d2 }
theorem GS{n:Nat}(h0:1<=n)(h1:n<=32){d1 d2:(List aD)×(List (Int×aD))×Int}(s1:nC d1 (List.replicate n aE) 0 1)(s2:nC d2 (List.replicate n aE) 0 1):Inv ⟨n,0,1,1,0,0,0⟩ (List.replicate n aE) [List.replicate n aE] (Mm n d1 d2):=by
 have u:∀b∈List.replicate n aE,C9 b:=λb E=>by rw[List.eq_of_mem_replicate E];exact E5
 have C:=We (m:=n) (snaps:=[List.replicate n aE]) ⟨h0,h1⟩ (num:=0) rfl (by decide) (λs B=>by simp at B;subst B;simp);constructor
 case n0=>exact h0
 case n1=>exact h1
 case ur=>exact s1
 case er=>exact s2
 case ep=>exact C
 case bok=>intro l A;simp at A;subst A;exact u
 case nok=>exact u
 case last=>rfl
 case Wr=>exact .inl rfl
 case j0=>exact .inl ⟨rfl,rfl,rfl⟩
 case queue=>exact .inl ⟨rfl,rfl⟩
 case first=>exact .inl ⟨rfl,rfl,rfl⟩
 case act=>intro h;simp[Mm,kN] at h
 case r7=>intro y D;simp[Mm] at D
 all_goals simp[Mm]
theorem NS{v:Nm}{now:List aD}{snaps:List (List aD)}{s:PS}(h:Inv v now snaps s){at_:Int}{b:aD}(ha:0<=at_/\at_<v.n)(hb:C9 b):∃s',kL at_ b s=some (none,s')/\Inv v (now.set at_.toNat b) snaps s':=by
 have A:=h.ep.add (p:=(at_,b)) ha;have B:=Go.O0.aWz h.ep.may (p:=(at_,b)) ha;obtain⟨z,D,_⟩:=vV (l:=s.blocks) (n:=at_) ha.1 (by rw[h.ee,h.ep.np];exact ha.2);refine⟨{ s with blocks:=s.blocks.set at_.toNat b,j8:=(s.j8.1,Go.O0.nj s.j8.2.1 (at_,b),s.j8.2.2.1,s.j8.2.2.2) },?_,?_⟩
 ·unfold kL dF;rw[h.en,B]
  grind
 ·exact { h with
   ep:=A
   ee:=by rw[<-h.ee]
   nok:=λx u=>by
    rcases List.mem_or_eq_of_mem_set u with u | rfl
    ·exact h.nok x u
    ·exact hb
   r7:=λy C=>by
    have:=h.r7 y C
    exact⟨this.bytes,this.len,this.ne,this.ik,this.whole⟩}
theorem DH{v:Nm}{now:List aD}{snaps:List (List aD)}{s:PS}(h:Inv v now snaps s){at_:Int}{b:aD}(ha:at_<0\/at_>=v.n):kL at_ b s=some (some 1,s):=by
 have u:=Go.O0.aOu s.j8 (v.n) (at_,b) (Go.O0.uq h.ep.may);rw[nS (by rw[h.ep.may];simp),sM ha] at u;unfold kL dF;rw[h.en,u];simp[cA,aF7,fE];rw[<-h.en]
theorem TS{v:Nm}{now:List aD}{snaps:List (List aD)}{s:PS}(h:Inv v now snaps s){at_:Int}(ha:0<=at_/\at_<v.n):nF at_ s=some (now.getD at_.toNat [],none,s):=by
 obtain⟨z,u,A⟩:=vV ha.1 (by rw[h.ep.np];omega);unfold nF eP;rw[h.en,h.ee,cl,ib,cT (by omega)]
 grind
theorem NT{v:Nm}{now:List aD}{snaps:List (List aD)}{s:PS}(h:Inv v now snaps s){at_:Int}(ha:at_<0\/at_>=v.n):nF at_ s=some (aE,some 1,s):=by
 unfold nF eP;rw[h.en,cl,ib]
 grind
theorem Pz{β:Type}{k j:Int}(hj:j≠k):∀m:List (Int×β),dQ (Gp m k) j=dQ m j
 | []=>rfl
 | (a,b)::m=>by
  have u:=Pz hj m;unfold Gp at u ⊢;simp only[V0,kp];by_cases A:a=k
  ·simp only[K4,List.eraseIdx_cons_zero,dQ]
   grind
  ·grind [kp,dQ]
theorem NU{β:Type}{k:Int}{m:List (Int×β)}{p:Int×β}(h:p∈Gp m k):p∈m:=by
 grind [Gp,List.mem_of_mem_eraseIdx]
theorem Fc{β:Type}{j:Int}{l:β}:∀{m:List (Int×β)},dQ m j=some l->(j,l)∈m
 | [],h=>by cases h
 | (a,b)::m,h=>by
  unfold dQ at h;split at h
  ·grind
  ·exact kf _ (Fc h)
theorem Wh{β:Type}{j:Int}{l:β}:∀{m:List (Int×β)},dQ m j=none->dQ (m++[(j,l)]) j=some l
 | [],_=>by simp[dQ]
 | (a,b)::m,h=>by
  unfold dQ at h;split at h
  ·grind
  ·rename_i e;simp[ud,dQ];rw[nS e];exact Wh h
theorem DJ{n:Int}:∀(l:List (Int×aD)) (last:Int),last<n->Go.O0.F4 n last l=true->(l.length:Int)<=n - 1 - last
 | [],last,B,_=>by grind
 |x::l,last,B,h=>by
  have u:=Go.O0.G9 n (x::l) last h x (by simp);have A:Go.O0.F4 n x.1 l=true:=by
   grind [Go.O0.F4]
  have:=DJ l x.1 u.2 A
  grind
end
section
open Go.G7 (nC rH)
open Go.O0 (tT Cf Aa Jq)
open Go.A1 (Good aX eA cH)
theorem S7.mono{n:Nat}{snaps:List (List aD)}{cur to:Int}{m:Fm}(h:S7 n snaps cur to m)(x:List aD):S7 n (snaps++[x]) cur to m:=by
 have u:=h.lt;have A:=h.nn;have B:=h.le;refine⟨u,A,by grind,h.load,h.E2,?_⟩;rw[tT (by omega),tT (by omega)];exact h.say
theorem V4.mono{v:Nm}{snaps:List (List aD)}{s s':PS}{y:Bool×Bool×List Int}(h:V4 v snaps s y)(x:List aD)(hk:v.k<snaps.length)(e1:s'.Wr=s.Wr)(e2:s'.j0=s.j0)(e3:s'.first=s.first)(e4:s'.receiver=s.receiver)(e5:s'.sent=s.sent)(hh:Nat):V4 { v with h:=hh } (snaps++[x]) s' y:=by
 refine⟨h.bytes,h.len,h.ne,h.ik,λO=>?_⟩;obtain⟨f,Q,R,T,U⟩:=h.whole O;refine⟨f,Q,R,λD=>?_,λD=>?_⟩
 ·rcases T D with⟨g,u,A,B⟩|⟨S,q,m,u,A,B,C,M⟩
  ·exact .inl ⟨g,u,A,B⟩
  ·refine .inr ⟨S,q,m,u,A,?_,?_,?_⟩
   ·obtain⟨g,o,E,F,G,I,K,L⟩:=B;exact⟨g,o,E,F,G,I,by rw[e1];exact K,by rw[e3];exact L⟩
   ·rw[e1,e2];exact C
   ·rw[e3,e4];intro c1 N;obtain⟨V,X⟩:=M c1 N;exact⟨V,λP=>by obtain⟨to,d4⟩:=X P;exact⟨to,d4.mono x⟩⟩
 ·rcases U D with⟨g,o,j,t,u,A,B,C,M,a6,a7,a8⟩|⟨S,a,u,A,B,C⟩
  ·refine .inl ⟨g,o,j,t,u,A,B,C,M,a6,?_,?_⟩
   ·rw[tT (by omega)];exact a7
   ·rw[e1,e3];exact a8
  ·refine .inr ⟨S,a,u,?_,?_,?_⟩
   ·obtain⟨g,o,E,F,G,I,K,L⟩:=A;exact⟨g,o,E,F,G,I,by rw[e1];exact K,by rw[e3];exact L⟩
   ·rw[e1,e2,e5];exact B
   ·rw[e3,e4];exact C
theorem gl{v:Nm}{now:List aD}{snaps:List (List aD)}{s:PS}(h:Inv v now snaps s)(hb:v.h+1<=100000):∃s',pO s=some (none,s')/\Inv { v with h:=v.h+1 } now (snaps++[now]) s':=by
 have L8:=h.V3;have ab:=h.kh;have I0:=h.hs;have iw:=h.n1;have zp:=h.n0;have K:s.j8.1=v.h:=by have:=h.ep.num;omega
 obtain⟨k1,k2,k3,k4,k5,G,k7,k8,k9⟩:=Go.O0.M1 h.ep.may;have L:snaps.getD v.h []∈snaps:=by
  rw[vo,sE (by omega)];exact aEe _
 have M:(snaps.getD v.h []).length=v.n:=h.ep.len _ L;have ac:=DJ s.j8.2.1 (-1) (by omega) G;have N:=Go.O0.G9 v.n s.j8.2.1 _ G;obtain⟨X,sn,I,_⟩:=Ml h.ur (by omega) (by omega) (by omega) s.j8.2.1 ((v.h+1:Nat):Int) (by omega) (by omega) (λp u=>by have:=N p u;omega);have O:rH (snaps.getD v.h []) s.j8.2.1=now:=by
  have:=h.ep.open_;rw[K,gR] at this;exact this
 rw[O,gR] at sn;rw[M] at I;have P:=Go.O0.aQi h.ep.may (by omega);have aSz:dQ s.past ((v.h+1:Nat):Int)=none:=by
  cases hg:dQ s.past ((v.h+1:Nat):Int) with
  |none=>rfl
  |some l=>have:=h.past _ (Fc hg);simp only at this;omega
 have F:Cv s.past ((v.h+1:Nat):Int) now=some (s.past++[(((v.h+1:Nat):Int),now)]):=by unfold Cv;rw[aSz]
 obtain⟨_,r2⟩:=Ij (blocks:=now) s.past (v.h+1) (by have:=h.ep.np;omega) (by omega) (by rw[F];rfl);have Q:ar .add .i64 s.B2 (1:Int)=((v.h+1:Nat):Int):=by rw[h.enum,L3 (by omega)]
 refine⟨{ s with B2:=((v.h+1:Nat):Int),j8:=Aa s.j8,past:=nX s.past ((v.h+1:Nat):Int) now,P2:=v.n,fd:=X },?_,?_⟩
 ·unfold pO eJ;rw[Q,h.J3,h.aRq,I,cA];simp only[fA,cG];rw[h.efn,P,cA,h.ee];simp only[];rw[r2,cA];rfl
 ·have E:(snaps++[now]).getD (v.h+1) []=now:=Cf (by omega);have R:(snaps++[now]).getD v.k []=snaps.getD v.k []:=tT (by omega);have bBv:nX s.past ((v.h+1:Nat):Int) now=Gp (s.past++[(((v.h+1:Nat):Int),now)]) (((v.h+1:Nat):Int) - 5):=by unfold nX;rw[F];rfl
  exact { h with
   hs:=by simp;omega
   V3:=by simp only;omega
   enum:=rfl
   kh:=by simp only;omega
   ur:=by rw[E];exact sn
   er:=by rw[R];exact h.er
   aRq:=rfl
   ep:=h.ep.shut (by omega)
   bok:=λl A=>by
    rcases oq.1 A with A | A
    ·exact h.bok l A
    ·simp at A;subst A;exact h.nok
   past:=λp u=>by
    simp only at u ⊢;rw[bBv] at u;rcases oq.1 (NU u) with u | u
    ·obtain⟨B,D,C⟩:=h.past p u;exact⟨B,by omega,by rw[tT (by omega)];exact C⟩
    ·simp only[aFf] at u;subst u;exact⟨by simp only;omega,by simp only;omega,by simp only;rw[gR,E]⟩
   last:=by
    simp only;rw[bBv,Pz (by omega),Wh aSz,E]
   sent:=by have:=h.sent;simp only;omega
   act:=λS=>by
    rcases h.act S with⟨B,D,C⟩|⟨B,D,C⟩
    ·refine .inl ⟨B,λT=>?_,λm U=>(C m U).mono now⟩;rcases D T with c |⟨c1,c2⟩
     ·exact .inl c
     ·exact .inr ⟨c1,by simp only;omega⟩
    ·exact .inr ⟨B,D,C⟩
   r7:=λy V=>by
    refine V4.mono (s:=s) (h.r7 y V) now (by omega) ?_ ?_ ?_ ?_ ?_ (v.h+1)<;>rfl }
end
section
open Go.A1 (Good aX eA cH)
def ru(a:Int):Prop:= -9223372036854775808<=a/\a<=9223372036854775807
theorem YU{a:Int}(h:ru a):∃k:Nat,max a (IntKind.wrap .i64 (0 - (ar .add .i64 a (1:Int))))=(k:Int)/\(a=0->k=0):=by
 unfold ru at h;by_cases u:a=9223372036854775807
 ·subst u;have A:ar .add .i64 (9223372036854775807:Int) 1= -9223372036854775808:=by decide+kernel
  have B:IntKind.wrap .i64 (0 - (-9223372036854775808:Int))= -9223372036854775808:=by decide+kernel
  rw[A,B];exact⟨9223372036854775807,by omega,λc=>by omega⟩
 ·rw[O9 (by omega),wrap_i64 (by omega)];exact⟨(max a (0 - (a+1))).toNat,by omega,λc=>by omega⟩
theorem V4.same{v:Nm}{snaps:List (List aD)}{s s':PS}{y:Bool×Bool×List Int}(h:V4 v snaps s y)(e1:s'.Wr=s.Wr)(e2:s'.j0=s.j0)(e3:s'.first=s.first)(e4:s'.receiver=s.receiver)(e5:s'.sent=s.sent):V4 v snaps s' y:=by
 refine⟨h.bytes,h.len,h.ne,h.ik,λA=>?_⟩;obtain⟨f,B,C,D,E⟩:=h.whole A;refine⟨f,B,C,λu=>?_,λu=>?_⟩
 ·have:=D u;unfold Bo rW at this ⊢;rw[e1,e2,e3,e4];exact this
 ·have:=E u;unfold Ci rW at this ⊢;rw[e1,e2,e3,e4,e5];exact this
variable {v:Nm}{now:List aD}{snaps:List (List aD)}{s:PS}
theorem Inv.qi(h:Inv v now snaps s){l:List (Bool×Bool×List Int)}(hl:l.length<=64)(hm:∀y∈l,V4 v snaps s y):Inv v now snaps { s with r7:=l }:=
 { h with
  r7:=λy u=>(hm y u).same rfl rfl rfl rfl rfl
  fp:=hl }
theorem Ff(h:Inv v now snaps s){a:Int}(ha:ru a):(s.r7=[]/\jW a s=some (0,false,s))\/∃i:Nat,i<s.r7.length/\jW a s=some ((i:Int),true,s)/\(∀b0 b1 b2 b3 b4 b5 b6 b7 b8 b9 l9 o6 l8 j9 l7 l6 o7 p5 p4 p7 p6,bD a b0 b1 b2 b3 b4 b5 b6 b7 b8 b9 l9 o6 l8 j9 l7 l6 o7 s.r7 p5 p4 p7 p6=some ((i:Int),true))/\(a=0->i=0):=by
 by_cases u:s.r7=[]
 ·refine .inl ⟨u,?_⟩;unfold jW bD;rw[u];rfl
 ·right;have B:0<s.r7.length:=aD4.2 u;obtain⟨k,D,E⟩:=YU ha;have A:∀b0 b1 b2 b3 b4 b5 b6 b7 b8 b9 l9 o6 l8 j9 l7 l6 o7 p5 p4 p7 p6,bD a b0 b1 b2 b3 b4 b5 b6 b7 b8 b9 l9 o6 l8 j9 l7 l6 o7 s.r7 p5 p4 p7 p6=some (((k % s.r7.length:Nat):Int),true):=by
   intros
   unfold bD;rw[ce,cT (by omega),cG,D];have C:nz ((s.r7.length:Nat):Int)=some ():=(by unfold nz;rw[nS (by omega)]);rw[C,cA];rfl
  refine⟨k % s.r7.length,aGx _ B,?_,A,λc=>by rw[E c];exact Nat.zero_mod _⟩;unfold jW;rw[A];rfl
theorem Se{α:Type}(l:List α)(i:Nat)(hi:i<l.length):Sw.del l (i:Int) ((i+1:Nat):Int)=some (l.take i++l.drop (i+1)):=by
 grind [Sw.del,Sw.sub]
theorem Hf{l:List (Bool×Bool×List Int)}(hl:l.length<=1000):bC l=some l:=by
 grind [bC,j1]
theorem TU(h:Inv v now snaps s){a:Int}(ha:ru a):∃s',qH a s=some (none,s')/\Inv v now snaps s':=by
 rcases Ff h ha with⟨D,u⟩|⟨i,B,u,C,E⟩
 ·refine⟨{ s with r7:=s.r7 },?_,h⟩;unfold jW at u;unfold qH eQ;cases hq:bD a s.n s.fn s.B2 s.y8 s.blocks s.j8 s.past s.Wr s.j0 s.sent s.safe s.j7 s.on s.B4 s.u4 s.first s.receiver s.r7 s.P2 s.fd s.K8 s.od with
  |none=>rw[hq] at u;cases u
  |some q=>
   rw[hq] at u;simp only[cA,W6,qe] at u;simp only[cA,jp,u.2.1,cG]
 ·refine⟨{ s with r7:=s.r7.take i++s.r7.drop (i+1) },?_,h.qi (by have:=h.fp;simp;omega) (λy A=>h.r7 y (by
   rcases oq.1 A with A | A
   ·exact aE8 A
   ·exact aGi A))⟩
  unfold qH eQ aS;rw[C,cA];simp only[jp,fE];rw[Hf (by have:=h.fp;omega),cA,L3 (by have:=h.fp;omega),Se _ _ B];rfl
theorem GU(h:Inv v now snaps s){a:Int}(ha:ru a):∃s',kM a s=some (none,s')/\Inv v now snaps s':=by
 rcases Ff h ha with⟨F,u⟩|⟨i,C,u,B,G⟩
 ·refine⟨{ s with r7:=s.r7 },?_,h⟩;unfold jW at u;unfold kM cZ;cases hq:bD a s.n s.fn s.B2 s.y8 s.blocks s.j8 s.past s.Wr s.j0 s.sent s.safe s.j7 s.on s.B4 s.u4 s.first s.receiver s.r7 s.P2 s.fd s.K8 s.od with
  |none=>rw[hq] at u;cases u
  |some q=>
   rw[hq] at u;simp only[cA,W6,qe] at u;simp only[cA,jp,u.2.1,cG]
 ·have D:=h.fp;by_cases E:s.r7.length<64
  ·refine⟨{ s with r7:=s.r7++[s.r7[i]] },?_,h.qi (by simp;omega) (λy A=>h.r7 y (by
    rcases oq.1 A with A | A
    ·exact A
    ·simp at A;subst A;exact aEe _))⟩
   unfold kM cZ;rw[B,cA];simp only[jp,fE,cl];rw[pF (by omega),cA,fE,pM (sE C),cA,j1 _ _ (by simp;omega)];rfl
  ·refine⟨{ s with r7:=s.r7 },?_,h⟩;unfold kM cZ;rw[B,cA];simp only[jp,fE,cl];rw[cT (by omega)];simp only[cA,cG]
end
section
open Go.G7 (nC)
open Go.A1 (Good aX eA cH)
variable {v:Nm}{now:List aD}{snaps:List (List aD)}{s:PS}
theorem vY(a b:Nat):0<=kN a b:=by unfold kN;omega
theorem GY(h:Inv v now snaps s)(hb:v.fb+1<=3000)(a1:Int×Int×Int×aD):∃s',jY a1 s.n s.fn s.B2 s.y8 s.blocks s.j8 s.past s.Wr s.j0 s.sent s.safe s.j7 s.on s.B4 s.u4 s.first s.receiver s.r7 s.P2 s.fd s.K8 s.od=some (aE,none,q9 s')/\s'.r7=s.r7/\Inv { v with fb:=v.fb+1,q:=0 } (snaps.getD v.h []) snaps s':=by
 have L8:=h.V3;have ab:=h.kh;have Q:=h.hs;have R:=h.n1;have T:=h.n0;have L:snaps.getD v.h []∈snaps:=by
  rw[vo,sE (by omega)];exact aEe _
 have U:(snaps.getD v.h []).length=v.n:=h.ep.len _ L;have M:=Wd h.ur (by omega) (by omega);obtain⟨d',sn,_,O⟩:=Ew h.ur (by omega) (by omega) (by omega) (by omega);rw[U] at M O;refine⟨{ s with fn:=v.n,B2:=(v.h:Int),y8:=((v.fb+1:Nat):Int),blocks:=snaps.getD v.h [],j8:=((v.h:Int),[],[],true),past:=[((v.h:Int),snaps.getD v.h [])],Wr:= -1,j0:=(0,0,[]),sent:=0,safe:=0,j7:=[],P2:=v.n,fd:=d' },?_,rfl,?_⟩
 ·unfold jY;rw[h.aRq,h.en,M,cA];simp only[lJ,xy,fE,jp];rw[O,cA];rfl
 ·exact { h with
   V3:=by simp only;omega
   pos:=by have:=h.pos;simp only;omega
   efn:=rfl
   enum:=rfl
   J3:=rfl
   ur:=sn
   aRq:=rfl
   ep:=We ⟨T,R⟩ Q (by omega) h.ep.len
   ee:=rfl
   nok:=h.bok _ L
   past:=λp N=>by
    simp only[aFf] at N;subst N;exact⟨by simp only;omega,by simp only;omega,by simp only;rw[gR]⟩
   low:=λ_=>aG4 _
   last:=by simp only;unfold dQ;simp[kp]
   idle:=λc=>by
    simp only at c;rcases h.first with⟨c1,_⟩|⟨g,c1,c2,P,_⟩<;>omega
   safe:=by simp only;omega
   sent:=by simp only;omega
   Wr:= .inl rfl
   j0:= .inl ⟨rfl,rfl,rfl⟩
   queue:= .inl ⟨rfl,rfl⟩
   first:=by
    rcases h.first with c |⟨g,c1,c2,P,c4⟩
    ·exact .inl c
    ·exact .inr ⟨g,c1,by simp only;omega,P,c4⟩
   act:=λV=>by have:=vY (v.fb+1) v.ob;simp only at V;omega
   r7:=λy u=>by
    have u:=h.r7 y u;refine⟨u.bytes,u.len,u.ne,u.ik,λX=>?_⟩;obtain⟨f,g1,g2,g3,g4⟩:=u.whole X;refine⟨f,g1,g2,λhb=>?_,λhb=>?_⟩
    ·rcases g3 hb with⟨g,a1,A,B⟩|⟨S,q,m,a1,A,B,C,K⟩
     ·exact .inl ⟨g,a1,by simp only;omega,B⟩
     ·obtain⟨g,o,D,E,F,G,b5,I⟩:=B;refine .inr ⟨S,q,m,a1,A,⟨g,o,D,E,F,G,.inl (by simp only;omega),I⟩,λc=>?_,K⟩;have:=vY g o;simp only at c;omega
    ·rcases g4 hb with⟨g,o,j,t,a1,A,B,C,K,a6,a7,a8⟩|⟨S,a,a1,A,B,C⟩
     ·exact .inl ⟨g,o,j,t,a1,A,by simp only;omega,C,K,a6,a7,λc=>by simp only at c;omega⟩
     ·obtain⟨g,o,D,E,F,G,b5,I⟩:=A;refine .inr ⟨S,a,a1,⟨g,o,D,E,F,G,.inl (by simp only;omega),I⟩,λc=>?_,C⟩
      have:=vY g o;simp only at c;omega }
theorem GZ(h:Inv v now snaps s)(hb:v.ob+1<=3000)(a1:Int×Int×Int×aD):∃s',jN a1 s.n s.fn s.B2 s.y8 s.blocks s.j8 s.past s.Wr s.j0 s.sent s.safe s.j7 s.on s.B4 s.u4 s.first s.receiver s.r7 s.P2 s.fd s.K8 s.od=some (aE,none,q9 s')/\s'.r7=s.r7/\Inv { v with ob:=v.ob+1,x:=0 } now snaps s':=by
 have L8:=h.V3;have ab:=h.kh;have I0:=h.hs;have iw:=h.n1;have zp:=h.n0;have N:snaps.getD v.k []∈snaps:=by
  rw[vo,sE (by omega)];exact aEe _
 have O:(snaps.getD v.k []).length=v.n:=h.ep.len _ N;have L:=Wd h.er (by omega) (by omega);obtain⟨Q,sn,_,M⟩:=Ey h.er (by omega) (by omega) (by omega) (by omega);rw[O] at L M;refine⟨{ s with on:=v.n,B4:=(v.k:Int),u4:=((v.ob+1:Nat):Int),first:= -1,receiver:=(0,0),K8:=v.n,od:=Q },?_,rfl,?_⟩
 ·unfold jN;rw[h.aK9,h.en,L,cA];simp only[lJ,xy,fE,jp];rw[M,cA];rw[<-h.en];rfl
 ·exact { h with
   V3:=by simp only;omega
   pos:=by have:=h.pos;simp only;omega
   eon:=rfl
   jb:=rfl
   px:=rfl
   er:=sn
   aK9:=rfl
   Wr:=by
    rcases h.Wr with c |⟨o,c1,c2,K,c4⟩
    ·exact .inl c
    ·exact .inr ⟨o,c1,by simp only;omega,K,λc=>by simp only at c;omega⟩
   first:= .inl ⟨rfl,rfl,rfl⟩
   idle:=λ_ _=>rfl
   act:=λD=>by
    simp only at D;rcases h.Wr with c |⟨o,c1,c2,K,c4⟩
    ·have:=vY v.fb (v.ob+1);omega
    ·rw[K] at D;have:=(rR (by omega) (by omega) D).2;omega
   r7:=λy u=>by
    have u:=h.r7 y u;refine⟨u.bytes,u.len,u.ne,u.ik,λP=>?_⟩;obtain⟨f,R,T,U,V⟩:=u.whole P;refine⟨f,R,T,λhb=>?_,λhb=>?_⟩
    ·rcases U hb with⟨g,a1,A,B⟩|⟨S,q,m,a1,A,B,C,a5⟩
     ·exact .inl ⟨g,a1,A,B⟩
     ·obtain⟨g,o,E,F,G,X,I,b6⟩:=B;refine .inr ⟨S,q,m,a1,A,⟨g,o,E,F,G,by simp only;omega,I,λc=>by simp only at c;omega⟩,C,λc=>?_⟩;simp only at c;omega
    ·rcases V hb with⟨g,o,j,t,a1,A,B,C,a5,a6,a7,a8⟩|⟨S,a,a1,A,B,C⟩
     ·exact .inl ⟨g,o,j,t,a1,A,B,C,by simp only;omega,a6,a7,λ_ c=>by simp only at c;omega⟩
     ·obtain⟨g,o,E,F,G,X,I,b6⟩:=A;refine .inr ⟨S,a,a1,⟨g,o,E,F,G,by simp only;omega,I,λc=>by simp only at c;omega⟩,B,λc=>?_⟩
      simp only at c;omega }
end
section
open Go.G7 (nC)
open Go.A1 (Good aX eA cH dH qZ Cg dU nW uH iR Hd Mj lT He)
variable {v:Nm}{now:List aD}{snaps:List (List aD)}{s:PS}
def kY(l:List (Bool×Bool×List Int))(y:Bool×Bool×List Int):List (Bool×Bool×List Int):=if l.length<64 then l++[y] else l
def Sf(s s':PS):Prop:=s'.r7=s.r7\/∃y,s'.r7=kY s.r7 (false,y)
theorem Qa{l:List (Bool×Bool×List Int)}{y}(h:l.length<=64):(kY l y).length<=64:=by
 grind [kY]
theorem HA{l:List (Bool×Bool×List Int)}{x y}(h:x∈kY l y):x∈l\/x=y:=by
 grind [kY]
theorem wG{f:Fm}(g:Good f):aX f≠ []/\(aX f).length<=1004:=by
 grind [uH,aX,Go.A1.body,List.length_append,Go.A1.ng]
theorem Fg(dir:Bool)(b:List Int)(b0 b1 b2 b3 b4 b5 b6 b7 b8 b9 l9 o6 l8 j9 l7 l6 o7 l5 p5 p4 p7 p6)(hl:l5.length<=64):cX dir (false,b) b0 b1 b2 b3 b4 b5 b6 b7 b8 b9 l9 o6 l8 j9 l7 l6 o7 l5 p5 p4 p7 p6=some (kY l5 (dir,false,b)):=by
 unfold cX kY;simp only[aFe,fE,cA];by_cases h:l5.length<64
 ·have:cm .lss (l5.length:Int) (64:Int)=true:=by grind [cl,decide_eq_true]
  rw[this,sM h,fE,j1 _ _ (by simp;omega),cA]
 ·have:cm .lss (l5.length:Int) (64:Int)=false:=by grind [cl,decide_eq_false]
  rw[this,nS h,cG]
theorem Sg{f:Fm}(g:Good f)(he:dH f=0)(dir:Bool)(b0 b1 b2 b3 b4 b5 b6 b7 b8 b9 l9 o6 l8 j9 l7 l6 o7 l5 p5 p4 p7 p6)(hl:l5.length<=64):gW dir f b0 b1 b2 b3 b4 b5 b6 b7 b8 b9 l9 o6 l8 j9 l7 l6 o7 l5 p5 p4 p7 p6=some (none,kY l5 (dir,false,aX f)):=by
 unfold gW;rw[Cg g he];have u:RO (aX f)=some ():=rfl
 simp_all [jp,xy,fE,cA,Fg]
theorem Inv.push(h:Inv v now snaps s){y:Bool×Bool×List Int}(hy:V4 v snaps s y):Inv v now snaps { s with r7:=kY s.r7 y }:=
 h.qi (Qa h.fp) (λx u=>by
  rcases HA u with u | rfl
  ·exact h.r7 x u
  omega)
theorem Cj{f:Fm}(g:Good f)(dir:Bool)(h1:dir=true->Bo v snaps s f)(h2:dir=false->Ci v snaps s f):V4 v snaps s (dir,false,aX f):=
 ⟨nW g,by grind [wG],(wG g).1,λh=>(nomatch h),λ_=>⟨f,g,rfl,h1,h2⟩⟩
theorem Mn{g:Nat}(h:g<=2147483647):dH (kX g)=0/\Good (kX g):=by
 grind [cH,kX,Jr,List.mem_singleton,Go.A1.N1,qZ]
theorem X4{S:Int}{q:Nat}{m:Fm}(hm:aa m)(hS:0<=S/\S<=2147483647)(hq:q<=2147483647):Good (w9 S q m):=by
 obtain⟨A,B⟩:=Go.A1.N1 hm.load;have g:=qZ A hm.E2;refine⟨by simp[w9],by simp[w9],by grind [w9],g.bs,λn u=>?_,g.E2⟩;simp[w9,ud,rh,sK] at u;rcases u with rfl | rfl | rfl | u
 ·exact hS
 ·omega
 ·have:=g.s0;have:=g.s1;omega
 ·exact g.num n u
theorem HB(h:Inv v now snaps s)(hS:0<=s.Wr)(hq:s.j0.2.2=[])(hs:s.sent<v.h){m:Fm}(hm:aa m)(hn:∀cur:Int,0<=cur->cur<v.h->(s.sent= -1\/cur=s.sent)->S7 v.n snaps cur v.h m):Inv v now snaps { s with j0:=(s.Wr,(v.q:Int),[m]),sent:=(v.h:Int),j7:=[(v.h:Int)] }:=by
 have P:=h.V3
 exact { h with
  sent:=by simp only;omega
  j0:= .inr ⟨hS,rfl,rfl⟩
  low:=λc=>by simp at c
  queue:= .inr ⟨m,rfl,rfl,hm,by simp only;omega⟩
  act:=λF=>by
   rcases h.act F with⟨A,B,C⟩|⟨A,B,C⟩<;>grind
  r7:=λy u=>by
   have u:=h.r7 y u;refine⟨u.bytes,u.len,u.ne,u.ik,λG=>?_⟩;obtain⟨f,I,K,L,M⟩:=u.whole G;refine⟨f,I,K,λD=>?_,λD=>?_⟩
   ·rcases L D with c |⟨S,q,N,A,B,C,E,O⟩
    ·exact .inl c
    ·refine .inr ⟨S,q,N,A,B,C,λc=>?_,O⟩;rcases E c with c |⟨_,c⟩
     ·exact .inl c
     ·rw[hq] at c;simp at c
   ·rcases M D with c |⟨S,a,A,B,C,E⟩
    ·exact .inl c
    ·refine .inr ⟨S,a,A,B,λc=>?_,E⟩;rcases C c with c |⟨_,c,_⟩
     ·exact .inl c
     ·exact absurd hq c }
theorem Js{v:Nm}{now:List aD}{snaps:List (List aD)}{s:PS}(h:Inv v now snaps s):s.Wr<=2147483647:=by
 have u:=h.V3;rcases h.Wr with c |⟨o,c1,A,B,C⟩<;>grind [kN]
theorem Nn(h:Inv v now snaps s)(hS:0<=s.Wr){m:Fm}(hq:s.j0.2.2=[m])(hm:aa m):Bo v snaps s (w9 s.Wr v.q m):=by
 have M:=h.V3;rcases h.Wr with c |⟨o,c1,E,u,F⟩
 ·omega
 ·refine .inr ⟨_,_,m,rfl,hm,⟨v.fb,o,u,h.pos.1,c1,E,.inr ⟨rfl,by omega⟩,λe=>by rw[F e];exact aG4 _⟩,λ_=> .inr ⟨rfl,hq⟩,λN A=>?_⟩;rcases h.first with⟨G,_⟩|⟨g,G,P,Q,I⟩
  ·omega
  ·rw[I] at A;simp only at A;have B:=A;rw[u] at B;obtain⟨O,D⟩:=rR (by omega) (by omega) B;rw[D] at u;rcases h.act u with⟨K,L,C⟩|⟨K,L,C⟩
   ·exact⟨by omega,λ_=>⟨_,C m hq⟩⟩
   ·exact⟨by omega,λc=>by omega⟩
end
section
open Go.G7 (nC)
open Go.A1 (Good aX eA cH dH qZ Cg dU nW uH iR Hd Mj lT He)
variable {v:Nm}{now:List aD}{snaps:List (List aD)}{s:PS}
def YV(v:Nm)(s s':PS):Prop:=s'.first=s.first/\s'.Wr=s.Wr/\((s.Wr<0/\s'.r7=kY s.r7 (true,false,aX (kX v.fb)))\/(0<=s.Wr/\s'.j0.2.2=[]/\s'.sent=v.h/\s'.r7=kY s.r7 (true,false,aX (kX v.fb)))\/(0<=s.Wr/\∃m,s'.j0.2.2=[m]/\aa m/\(s.j0.2.2=[]->s'.sent=v.h)/\s'.r7=kY (kY s.r7 (true,false,aX (kX v.fb))) (true,false,aX (w9 s.Wr v.q m))))
theorem DK(h:Inv v now snaps s):∃s',eG s=some (none,s')/\Inv v now snaps s'/\YV v s s':=by
 have L8:=h.V3;have F:=h.fp;obtain⟨he,hg⟩:=Mn (g:=v.fb) (by omega);have K:Inv v now snaps { s with r7:=kY s.r7 (true,false,aX (kX v.fb)) }:=
  h.push (Cj hg true (λ_=> .inl ⟨v.fb,h.pos.1,gC _,rfl⟩) (λc=>nomatch c))
 have V:=Qa (y:=(true,false,aX (kX v.fb))) F;have L:=Sg hg he true;have af:=Js h;rcases h.j0 with⟨c1,c2,c3⟩|⟨c1,c2,c3⟩
 ·
  refine⟨{ s with r7:=kY s.r7 (true,false,aX (kX v.fb)) },?_,K,rfl,rfl,.inl ⟨by omega,rfl⟩⟩;unfold eG bO;rw[h.J3];have B:((2:Int),([(v.fb:Int)]:List Int),([]:List aD))=kX v.fb:=rfl;rw[B,L _ _ _ _ _ _ _ _ _ _ _ _ _ _ _ _ _ _ _ _ _ _ F,cA];have G:cm .lss s.Wr (0:Int)=true:=by rw[cl];exact pF (by omega)
  simp only[fA,cG,cA,G,fE]
 ·have G:cm .lss s.Wr (0:Int)=false:=by rw[cl];exact cT (by omega)
  have C:s.j0=(s.Wr,(v.q:Int),s.j0.2.2):=by rw[<-c2,<-c3]
  have X:∀(s2:PS) (m:Fm),Inv v now snaps s2->s2.Wr=s.Wr->s2.j0=(s.Wr,(v.q:Int),[m])->aa m->
    ∃s3,s3={ s2 with r7:=kY s2.r7 (true,false,aX (w9 s.Wr v.q m)) }/\Inv v now snaps s3:=by
   intro s2 m hi D e4 u;refine⟨_,rfl,hi.push (Cj (X4 u (by omega) (by omega)) true (λ_=>?_) (λc=>nomatch c))⟩;have:=Nn hi (by rw[D];exact c1) (m:=m) (by rw[e4]) u;rw[D] at this;exact this
  have uz:∀(m:Fm) (k:List (Bool×Bool×List Int)->Option ((Option Int)×(Int×Int×(List (Int×(List Int)×(List aD))))×Int×(List Int)×(List (Bool×Bool×(List Int))))) (b0 b1 b2 b3 b4 b5 b6 b7 b8 b9 l9 o6 l8 j9 l7 l6 o7 p5 p4 p7 p6) (E:List (Bool×Bool×List Int)),E.length<=64->aa m->
    lp (β:=(List (Bool×Bool×(List Int)))) (λ(I:Int×(List (Bool×Bool×(List Int))))=>
      bif (cm .lss I.1 (([aX (w9 s.Wr v.q m)]:List (List Int)).length:Int)) then
       (Sw.idx [aX (w9 s.Wr v.q m)] I.1).bind λac=>
        (RO ac).bind λ_=>
         (cX true (false,ac) b0 b1 b2 b3 b4 b5 b6 b7 b8 b9 l9 o6 l8 j9 l7 l6 o7 I.2 p5 p4 p7 p6).bind λae=>
          some (.next ((ar .add .i64 I.1 (1:Int)),ae))
      else
       some (.done (.u9 I.2))
      ) ((0:Int),E) k=k (kY E (true,false,aX (w9 s.Wr v.q m))):=by
   intro m k b0 b1 b2 b3 b4 b5 b6 b7 b8 b9 l9 o6 l8 j9 l7 l6 o7 p5 p4 p7 p6 E zp u;have ad:=X4 u (S:=s.Wr) (q:=v.q) (by omega) (by omega);obtain⟨p1,p2⟩:=wG ad;have G4:RO (aX (w9 s.Wr v.q m))=some ():=by
    unfold RO;cases hp:aX (w9 s.Wr v.q m) with
    |nil=>exact absurd hp p1
    |cons a l=>rfl
   unfold lp;rw[show bR=1125899906842622+1+1 from rfl,Go.A1.K6 (y:=((1:Int),kY E (true,false,aX (w9 s.Wr v.q m)))),Go.A1.I7 (b:= .u9 (kY E (true,false,aX (w9 s.Wr v.q m))))]
   ·rfl
   ·have:Sw.idx [aX (w9 s.Wr v.q m)] (0:Int)=some (aX (w9 s.Wr v.q m)):=rfl;simp only[cl,aF4];rw[pF (by omega),fE,this,cA,G4,cA,Fg _ _ _ _ _ _ _ _ _ _ _ _ _ _ _ _ _ _ _ _ _ _ _ _ zp,cA];rfl
  have ab:∀m,aa m->nM (s.Wr,(v.q:Int),[m])=some ([aX (w9 s.Wr v.q m)],none):=by
   intro m u;have P:=lT (S:=s.Wr) (q:=(v.q:Int)) (l:=[m]) (by omega) (by omega) (by simp) (λf N=>by simp at N;subst N;exact u.load);rw[Mj P (by omega) u.load u.E2];have:Go.A1.w9 (s.Wr,(v.q:Int),[m]) 0 m=w9 s.Wr v.q m:=(by unfold Go.A1.w9 w9;simp);rw[this]
  rcases h.queue with⟨A,d2⟩|⟨m,A,d2,O,d4⟩
  ·
   rw[A] at C;by_cases M:s.sent<v.h
   ·
    obtain⟨m,n1,T⟩:=TR h.ep h.n0 h.n1 h.hs (by omega) h.bok (λj l hl=>by have:=h.past _ (Fc hl);simpa using this) h.last (k:=s.sent) ⟨h.sent.1,M⟩;have u:aa m:=by
     have:=h.sent;by_cases c:s.sent= -1
     ·have:=T 0 (by omega) (by omega) (.inl c);exact⟨this.load,this.E2⟩
     ·have:=T s.sent (by omega) (by omega) (.inr rfl);exact⟨this.load,this.E2⟩
    have h2:=HB K c1 A M u T;obtain⟨s3,D,U⟩:=X _ m h2 rfl rfl u;subst D;refine⟨_,?_,U,rfl,rfl,.inr (.inr ⟨c1,m,rfl,u,λ_=>rfl,rfl⟩)⟩;unfold eG bO;rw[h.J3];have B:((2:Int),([(v.fb:Int)]:List Int),([]:List aD))=kX v.fb:=rfl;rw[B,L _ _ _ _ _ _ _ _ _ _ _ _ _ _ _ _ _ _ _ _ _ _ F,cA];have Q:cm .lss s.sent s.B2=true:=(by rw[cl,h.enum];exact pF M);have R:cm .eql (s.j0.2.2.length:Int) (0:Int)=true:=(by rw[A];rfl);simp only[fA,cG,cA,G,Q,R,fE,jp];rw[h.efn,h.enum,n1,cA,C,He (by omega) (by omega) u.load,cA];simp only[fA,cG];rw[d2,j1 _ _ (by simp),cA];rw[ab m u,cA];simp only[];rw[uz m _ _ _ _ _ _ _ _ _ _ _ _ _ _ _ _ _ _ _ _ _ _ _ V u];simp only[cA,rh]
   ·refine⟨{ s with r7:=kY s.r7 (true,false,aX (kX v.fb)) },?_,K,rfl,rfl,.inr (.inl ⟨c1,A,by have:=h.sent;simp only;omega,rfl⟩)⟩;unfold eG bO;rw[h.J3];have B:((2:Int),([(v.fb:Int)]:List Int),([]:List aD))=kX v.fb:=rfl;rw[B,L _ _ _ _ _ _ _ _ _ _ _ _ _ _ _ _ _ _ _ _ _ _ F,cA];have Q:cm .lss s.sent s.B2=false:=(by rw[cl,h.enum];exact cT M);simp only[fA,cG,cA,G,Q,fE,jp];have P:=lT (S:=s.Wr) (q:=(v.q:Int)) (l:=[]) (by omega) (by omega) (by simp) (λf N=>by simp at N);rw[C,Hd P,cA];simp only[];unfold lp;rw[show bR=1125899906842623+1 from rfl,Go.A1.I7 (b:= .u9 (kY s.r7 (true,false,aX (kX v.fb))))]
    ·simp only[cA]
    ·rfl
  ·rw[A] at C;obtain⟨s3,D,U⟩:=X _ m K rfl C O;subst D;refine⟨_,?_,U,rfl,rfl,.inr (.inr ⟨c1,m,A,O,λc=>(by rw[A] at c;cases c),rfl⟩)⟩;unfold eG bO;rw[h.J3];have B:((2:Int),([(v.fb:Int)]:List Int),([]:List aD))=kX v.fb:=rfl;rw[B,L _ _ _ _ _ _ _ _ _ _ _ _ _ _ _ _ _ _ _ _ _ _ F,cA];have R:(bif (cm .lss s.sent s.B2) then some (cm .eql (s.j0.2.2.length:Int) (0:Int)) else some false)=some false:=by
    rw[A];cases cm .lss s.sent s.B2<;>rfl
   simp only[fA,cG,cA,G];rw[R,cA];simp only[cG,jp];rw[C,ab m O,cA];simp only[];rw[uz m _ _ _ _ _ _ _ _ _ _ _ _ _ _ _ _ _ _ _ _ _ _ _ V O];simp only[cA]
end
section
open Go.G7 (nC wP)
open Go.A1 (Good aX eA cH dH qZ)
variable {v:Nm}{now:List aD}{snaps:List (List aD)}{s:PS}
theorem NV{g o:Nat}(hg:g<=3000)(ho:o<=3000):ar .or .i64 (sh .shl .i64 (g:Int) (12:Int)) (o:Int)=kN g o:=by
 have u:sh .shl .i64 (g:Int) (12:Int)=((g*2 ^ 12:Nat)):=by
  show IntKind.wrap .i64 ((g:Int)*2 ^ min ((12:Nat):Int).toNat 64)=_
  grind [Int.toNat_natCast,Nat.min_eq_left,wrap_i64]
 rw[u,Go.G7.orI (by omega) (by omega),Go.G7.orP (by omega)];rfl
theorem HC(h:Inv v now snaps s){g:Nat}(h1:1<=g)(h2:g<=v.fb)(h3:s.first<g):Inv { v with x:=0 } now snaps { s with first:=(g:Int),receiver:=(kN g v.ob,0) }:=by
 have L8:=h.V3;have M:∀S,rW v s S->S≠kN g v.ob:=by
  rintro S ⟨D,o,I,O,P,Q,R,K⟩ e;rw[I] at e;obtain⟨e1,V⟩:=rR (by omega) (by omega) e;have:=K V;omega
 have N:∀S,rW v s S->rW { v with x:=0 } { s with first:=(g:Int),receiver:=(kN g v.ob,0) } S:=by
  rintro S ⟨D,o,I,O,P,Q,R,K⟩;exact⟨D,o,I,O,P,Q,R,λe=>by have:=K e;simp only;omega⟩
 exact { h with
  V3:=by simp only;omega
  idle:=λ_ _=>rfl
  Wr:=by
   rcases h.Wr with c |⟨o,c1,c2,c3,L⟩
   ·exact .inl c
   ·exact .inr ⟨o,c1,c2,c3,λe=>by have:=L e;simp only;omega⟩
  first:= .inr ⟨g,h1,h2,rfl,rfl⟩
  act:=λF=>by
   simp only at F;rcases h.Wr with c |⟨o,c1,c2,c3,L⟩
   ·have:=vY v.fb v.ob;omega
   ·rw[c3] at F;have:=L (rR (by omega) (by omega) F).2;omega
  r7:=λy u=>by
   have u:=h.r7 y u;refine⟨u.bytes,u.len,u.ne,u.ik,λU=>?_⟩;obtain⟨f,X,g2,g3,g4⟩:=u.whole U;refine⟨f,X,g2,λG=>?_,λG=>?_⟩
   ·rcases g3 G with c |⟨S,q,m',C,A,B,E,T⟩
    ·exact .inl c
    ·exact .inr ⟨S,q,m',C,A,N S B,E,λ_ c=>absurd c (M S B)⟩
   ·rcases g4 G with⟨D,o,j,t,C,A,B,E,T,a6,a7,a8⟩|⟨S,a,C,A,B,E⟩
    ·refine .inl ⟨D,o,j,t,C,A,B,E,T,a6,a7,λc d e=>?_⟩;have:=(a8 c d e).2.1;omega
    ·exact .inr ⟨S,a,C,N S A,B,λ_ c=>absurd c (M S A)⟩}
theorem Fh{g o j:Nat}{t:List Int}(hg:g<=2147483647)(ho:o<=2147483647)(hj:j<=2147483647){x y:Int}(ht:t=[x,y])(hx:0<=x/\x<=2147483647)(hy:0<=y/\y<=2147483647):dH (cR g o j t)=0/\Good (cR g o j t):=by
 have A:cH (cR g o j [x,y])=0:=Jr (by simp[cR]) (by simp[cR]) (by simp[cR]) (λn u=>by
  simp[cR,ud,rh,sK,aEq,aHl] at u
  omega)
 grind [Go.A1.N1,qZ,cR]
theorem Cp(h:Inv v now snaps s){g:Nat}(h1:1<=g)(h2:g<=v.fb)(h3:s.first=g){t:List Int}(ht:jH (snaps.getD v.k [])=some t):Ci v snaps s (cR g v.ob v.k t):= .inl ⟨g,v.ob,v.k,t,rfl,h1,h2,h.pos.2,gC _,gC _,ht,λc _ e=>⟨rfl,by omega,h.idle (by omega) (by grind)⟩⟩
theorem Hg(h:Inv v now snaps s)(h0:0<=s.first)(hs:s.Wr=s.receiver.1):s.Wr=kN v.fb v.ob:=by
 have C:=h.V3;rcases h.first with⟨B,_⟩|⟨g,B,D,E,u⟩
 ·omega
 ·rcases h.Wr with c |⟨o,c1,F,A,G⟩
  ·rw[u] at hs;have:=vY g v.ob;omega
  ·rw[u,A] at hs;rw[A,(rR (by omega) (by omega) hs).2]
theorem DL(h:Inv v now snaps s)(h0:0<=s.first)(ha:rW v s s.receiver.1):Ci v snaps s (rS s.receiver.1 v.x):=by
 refine .inr ⟨_,v.x,rfl,ha,λc=>?_,λ_ _=>gC _⟩;rcases h.act (Hg h h0 c.symm) with⟨u,_⟩|⟨u,A,B⟩<;>grind
theorem NW(h:Inv v now snaps s)(hx:v.x+1<=100000)(h0:0<=s.first)(ha:rW v s s.receiver.1){to:Nat}(B0:v.k<to)(hle:to<=v.h){d':(List aD)×(List (Int×aD))×Int}(hd:nC d' (snaps.getD to []) to v.ob)(hq:s.Wr=s.receiver.1->v.x=v.q/\s.j0.2.2≠ []/\s.sent=to):Inv { v with k:=to,x:=v.x+1 } now snaps { s with B4:=(to:Int),receiver:=(s.receiver.1,((v.x+1:Nat):Int)),K8:=(v.n:Int),od:=d' }:=by
 have L8:=h.V3;have ym:=h.safe;have R:s.Wr=kN v.fb v.ob->s.Wr=s.receiver.1:=by
  intro e;rcases h.Wr with c |⟨o,c1,Q,M,c4⟩
  ·have:=vY v.fb v.ob;omega
  ·rw[M] at e;have G:=(rR (by omega) (by omega) e).2;rcases h.first with⟨A,_⟩|⟨g,A,I,K,d4⟩
   ·omega
   ·have:=c4 G;have u:g=v.fb:=(by omega);rw[d4,M,u,G]
 exact { h with
  V3:=by simp only;omega
  jb:=rfl
  kh:=hle
  er:=hd
  aK9:=rfl
  safe:=by simp only;omega
  idle:=λc d=>by
   obtain⟨O,o,D,T,U,V,E,X⟩:=ha;rcases h.first with⟨A,_⟩|⟨g,A,I,K,d4⟩
   ·omega
   ·simp only at c d;have u:g=v.fb:=(by omega);rw[d4,u] at D;obtain⟨e1,G⟩:=rR (by omega) (by omega) D;rw[d4,u] at E;simp only at E;omega
  first:=by
   rcases h.first with⟨A,_⟩|⟨g,A,I,K,d4⟩
   ·omega
   ·exact .inr ⟨g,A,I,K,by simp only;rw[d4]⟩
  act:=λe=>by
   obtain⟨a1,a2,C⟩:=hq (R e);exact .inr ⟨by simp only;omega,a2,C⟩
  r7:=λy B=>by
   have B:=h.r7 y B;refine⟨B.bytes,B.len,B.ne,B.ik,λu=>?_⟩;obtain⟨f,g1,P,g3,g4⟩:=B.whole u;refine⟨f,g1,P,λL=>?_,λL=>?_⟩
   ·rcases g3 L with c |⟨S,q,m',a1,a2,C,F,N⟩
    ·exact .inl c
    ·refine .inr ⟨S,q,m',a1,a2,C,F,λc d=>?_⟩;have:=(N c d).1;exact⟨by simp only;omega,λe=>by simp only at e;omega⟩
   ·rcases g4 L with⟨O,o,j,t,a1,a2,C,F,N,a6,a7,a8⟩|⟨S,a,a1,a2,C,F⟩
    ·refine .inl ⟨O,o,j,t,a1,a2,C,F,N,by simp only;omega,a7,λc d e=>?_⟩;have hf:=(a8 c d e).2.1;obtain⟨P,o2,D,T,U,V,E,X⟩:=ha;rcases h.first with⟨A,_⟩|⟨g,A,I,K,d4⟩
     ·omega
     ·simp only at c d e;have u:g=v.fb:=(by omega);rw[d4,u] at D;obtain⟨e1,G⟩:=rR (by omega) (by omega) D;rw[d4,u] at E;simp only at E;rw[c,d] at e;omega
    ·refine .inr ⟨S,a,a1,a2,λc=>?_,λc d=>by have:=F c d;simp only;omega⟩;rcases C c with c |⟨c1,Q,M⟩
     ·exact .inl c
     ·exact .inr ⟨c1,Q,by simp only;omega⟩}
end
section
open Go.G7 (nC wP)
open Go.A1 (Good aX eA cH dH qZ Ez Mi nD dU)
variable {v:Nm}{now:List aD}{snaps:List (List aD)}{s:PS}
theorem HD(dir:Bool)(b:List Int)(b0 b1 b2 b3 b4 b5 b6 b7 b8 b9 l9 o6 l8 j9 l7 l6 o7 l5 p5 p4 p7 p6):cX dir (true,b) b0 b1 b2 b3 b4 b5 b6 b7 b8 b9 l9 o6 l8 j9 l7 l6 o7 l5 p5 p4 p7 p6=some l5:=rfl
theorem Il(h:Inv v now snaps s)(h0:0<=s.first):(0<=s.receiver.1/\s.receiver.1<=2147483647)/\s.receiver.2=v.x:=by
 have A:=h.V3;rcases h.first with⟨u,_⟩|⟨g,u,B,C,D⟩<;>grind [kN]
theorem Mp(b:List Int)(u:Fm)(e:Option Int)(hu:dG b=some (u,e))(hn:e.isSome=true\/u.1≠2)(hr:0<=s.first->∃fr,mY s.receiver b=some (s.receiver,fr,false,(true,[]),none)):cE b s=some (none,s):=by
 unfold cE bE;have C:(bif Option.isNone e then bif cm .eql u.1 (2:Int) then some (cm .eql (u.2.1.length:Int) (1:Int)) else some false else some false)=some false:=by
  rcases hn with c | c
  ·cases e with
   |none=>cases c
   |some e=>rfl
  grind [cm,ce,decide_eq_false]
 rw[hu,cA];simp only[];rw[C,cA];simp only[cG];by_cases B:s.first<0
 ·have A:cm .lss s.first (0:Int)=true:=by rw[cl];exact pF B
  rw[A];simp only[fE,cA]
 ·have A:cm .lss s.first (0:Int)=false:=by rw[cl];exact cT B
  obtain⟨fr,hr⟩:=hr (by omega);rw[A,hr];simp only[cG,cA,fA,jp,HD]
def TV(v:Nm)(snaps:List (List aD))(s s':PS)(x':Nat):Prop:=s'.first=v.fb/\s'.Wr=s.Wr/\s'.j0=s.j0/\s'.sent=s.sent/\s'.safe=s.safe/\(s.first=v.fb->x'=v.x)/\∃x y,jH (snaps.getD v.k [])=some [x,y]/\s'.r7=kY s.r7 (false,false,aX (cR v.fb v.ob v.k [x,y]))
theorem Qb(h:Inv v now snaps s){b:List Int}{g:Nat}(h1:1<=g)(h2:g<=v.fb)(hu:dG b=some (kX g,none)):∃x' s',x'<=v.x/\cE b s=some (none,s')/\Inv { v with x:=x' } now snaps s'/\Sf s s'/\(g=v.fb->TV v snaps s s' x'):=by
 have T:=h.V3;have U:=h.kh;have V:=h.hs;have X:=h.n1;have zp:=h.n0;have K:snaps.getD v.k []∈snaps:=by
  rw[vo,sE (by omega)];exact aEe _
 have O:(snaps.getD v.k []).length=v.n:=h.ep.len _ K;have B:=wP h.er;rw[O,<-h.aK9] at B;obtain⟨x,y,u,Q,R⟩:=Zs (bs:=snaps.getD v.k []) (by omega) (by omega) (h.bok _ K);obtain⟨N,E⟩:=Fh (g:=g) (o:=v.ob) (j:=v.k) (t:=[x,y]) (by omega) (by omega) (by omega) rfl Q R;have L:((3:Int),([(g:Int),(v.ob:Int),(v.k:Int)]++[x,y]:List Int),([]:List aD))=cR g v.ob v.k [x,y]:=rfl;have F:Sw.idx (kX g).2.1 (0:Int)=some (g:Int):=rfl;have G:cm .eql (kX g).1 (2:Int)=true:=rfl;have I:cm .eql ((kX g).2.1.length:Int) (1:Int)=true:=rfl;by_cases P:s.first<g
 ·have M:=HC h h1 h2 P;refine⟨0,{ s with first:=(g:Int),receiver:=(kN g v.ob,0),r7:=kY s.r7 (false,false,aX (cR g v.ob v.k [x,y])) },by omega,?_,M.push (Cj E false (λc=>nomatch c) (λ_=>Cp M h1 h2 rfl u)),.inr ⟨_,rfl⟩,λe=>by subst e;exact⟨rfl,rfl,rfl,rfl,rfl,λc=>by omega,x,y,u,rfl⟩⟩;unfold cE bE;have C:cm .gtr (g:Int) s.first=true:=by rw[cg];exact pF (by omega)
  have A:cm .lss (g:Int) (g:Int)=false:=by rw[cl];exact cT (by omega)
  rw[hu,cA];simp only[xy,fE,G,I,cA,F,C,jp];rw[B,cA];simp only[fA,cG,cA,A];rw[u,cA,j1 _ _ (by simp),cA,h.px,h.jb,NV (by omega) (by omega),L,Sg E N _ _ _ _ _ _ _ _ _ _ _ _ _ _ _ _ _ _ _ _ _ _ _ h.fp];rfl
 ·have C:cm .gtr (g:Int) s.first=false:=by rw[cg];exact cT (by omega)
  by_cases D:s.first=g
  ·refine⟨v.x,{ s with r7:=kY s.r7 (false,false,aX (cR g v.ob v.k [x,y])) },gC _,?_,h.push (Cj E false (λc=>nomatch c) (λ_=>Cp h h1 h2 D u)),.inr ⟨_,rfl⟩,λe=>by subst e;exact⟨D,rfl,rfl,rfl,rfl,λ_=>rfl,x,y,u,rfl⟩⟩;unfold cE bE;have A:cm .lss (g:Int) s.first=false:=by rw[cl];exact cT (by omega)
   rw[hu,cA];simp only[xy,fE,G,I,cA,F,C,jp,cG];rw[B,cA];simp only[fA,cG,cA,A];rw[u,cA,j1 _ _ (by simp),cA,h.px,h.jb,D,L,Sg E N _ _ _ _ _ _ _ _ _ _ _ _ _ _ _ _ _ _ _ _ _ _ _ h.fp];rw[<-D,<-h.jb];rfl
  ·refine⟨v.x,s,gC _,?_,h,.inl rfl,λe=>by exfalso;rcases h.first with⟨S,_⟩|⟨g',S,d2,d3,_⟩<;>omega⟩;unfold cE bE;have A:cm .lss (g:Int) s.first=true:=by rw[cl];exact pF (by omega)
   rw[hu,cA];simp only[xy,fE,G,I,cA,F,C,jp,cG];rw[B,cA];simp only[fA,cG,cA,A,fE]
def YW(v:Nm)(s s':PS)(k' x':Nat)(S:Int)(q:Nat):Prop:=(S≠s.receiver.1->s'=s/\k'=v.k/\x'=v.x)/\(0<=s.first->S=s.receiver.1->S=s.Wr->q=v.q->x'=v.q+1/\s'.first=s.first/\s'.Wr=s.Wr/\s'.j0=s.j0/\s'.sent=s.sent/\s'.safe=s.safe/\s'.r7=kY s.r7 (false,false,aX (rS S (v.q+1))))
theorem Wi(h:Inv v now snaps s)(xt:v.x+1<=100000){b:List Int}(hb:Bytes b)(ll:b.length<=2000){S:Int}{q:Nat}{m:Fm}(hf:eA b=some (w9 S q m))(hm:aa m)(ha:rW v s S)(hs:S=s.Wr->q<v.q\/(q=v.q/\s.j0.2.2=[m]))(hr:0<=s.first->S=s.receiver.1->q<=v.x/\(q=v.x->∃to,S7 v.n snaps v.k to m)):∃k' x' s',v.k<=k'/\x'<=v.x+1/\cE b s=some (none,s')/\Inv { v with k:=k',x:=x' } now snaps s'/\Sf s s'/\YW v s s' k' x' S q:=by
 have L8:=h.V3;have an:=h.kh;have I0:=h.hs;have V:=h.n1;have X:=h.n0;have B:=nD b hb (by omega);rw[hf] at B;simp only at B;by_cases h0:s.first<0
 ·exact⟨v.k,v.x,s,gC _,by omega,Mp b _ none B (.inr (by unfold w9;simp)) (λc=>by omega),h,.inl rfl,λ_=>⟨rfl,rfl,rfl⟩,λc=>absurd c (by omega)⟩
 ·obtain⟨aj,ak⟩:=Il h (by omega);have A:=Mi s.receiver b hb ll aj (by omega);rw[hf] at A;by_cases u:S=s.receiver.1
  ·obtain⟨au,X2⟩:=hr (by omega) u;have ab:=(Go.A1.N1 hm.load);have ac:=qZ ab.1 hm.E2;have ad:=ac.s1;have E:(w9 S q m).1=1/\3<=(w9 S q m).2.1.length/\(w9 S q m).2.1.getD 0 0=s.receiver.1/\(w9 S q m).2.1.getD 2 0<=15:=by
    refine⟨rfl,by unfold w9;simp,u,ad⟩
   have ae:(w9 S q m).2.1.getD 1 0=q:=rfl;have af:((w9 S q m).2.1.getD 2 0,(w9 S q m).2.1.drop 3,(w9 S q m).2.2)=m:=rfl;unfold Ez at A;simp only[sM E,ae,af] at A;have K:cm .eql (w9 S q m).1 (2:Int)=false:=rfl;have L:cm .lss s.first (0:Int)=false:=by rw[cl];exact cT h0
   have M:∀a:Nat,a<=2147483647->Good (rS s.receiver.1 a):=λa og=>by
    refine⟨by unfold rS;simp,by unfold rS;simp,by unfold rS;simp,by unfold rS;simp,λn Q=>?_,λb hb=>by simp[rS] at hb⟩;simp only[rS,sK,aEq,aHl] at Q;rcases Q with rfl | rfl<;>omega
   by_cases N:(q:Int)=s.receiver.2/\s.receiver.2<2147483647
   ·rw[sM N] at A;simp only at A;have O:q=v.x:=(by omega);obtain⟨to,C⟩:∃to,S7 v.n snaps v.k to m/\(s.Wr=s.receiver.1->v.x=v.q/\s.j0.2.2≠ []/\s.sent=to):=by
     by_cases c:s.Wr=s.receiver.1
     ·rcases h.act (Hg h (by omega) c) with⟨D,a2,U⟩|⟨D,a2,U⟩
      ·rcases hs (by rw[u,c]) with d |⟨d1,I⟩
       ·omega
       ·exact⟨s.sent,U m I,λ_=>⟨D,by rw[I];simp,rfl⟩⟩
      ·rcases hs (by rw[u,c]) with d |⟨d1,I⟩<;>omega
     ·obtain⟨to,e⟩:=X2 O;exact⟨to,e,λd=>absurd d c⟩
    obtain⟨C,al⟩:=C;have B0:=C.lt;have ao:=C.le;have ap:=C.nn;let s1:PS:={ s with receiver:=(s.receiver.1,s.receiver.2+1) }
    obtain⟨d',sd,et⟩:=TQ (s:=s1) (snaps:=snaps) (n:=v.n) h.er rfl X V h.ep.len h.jb (by omega) (by omega) h.px (by omega) h.eon h.aK9 C;have P:s.receiver.2+1=((v.x+1:Nat):Int):=(by omega);have F:=NW h xt (by omega) (by rw[<-u];exact ha) (to:=to.toNat) (by omega) (by omega) sd (λc=>by obtain⟨c1,c2,c3⟩:=al c;exact⟨c1,c2,by omega⟩);have ai:((to.toNat:Nat):Int)=to:=(by omega);rw[ai,<-P] at F
    have G:=DL F (by simp only;omega) (by
     obtain⟨g,o,R,b2,b3,b4,T,b6⟩:=ha;rw[u] at R T
     exact⟨g,o,R,b2,b3,b4,T,b6⟩)
    refine⟨to.toNat,v.x+1,_,by omega,gC _,?_,F.push (Cj (M (v.x+1) (by omega)) false (λc=>nomatch c) (λ_=>G)),.inr ⟨_,rfl⟩,λc=>absurd u c,λ_ _ _ e=>⟨by omega,rfl,rfl,rfl,rfl,rfl,by rw[u,<-e,O]⟩⟩;unfold rA at et;unfold cE bE;rw[B,cA];simp only[xy,fE,K,cA,cG,L];rw[A,cA];simp only[fA,cG,fE,jp];cases hz:dT m s.n s.fn s.B2 s.y8 s.blocks s.j8 s.past s.Wr s.j0 s.sent s.safe s.j7 s.on s.B4 s.u4 s.first (s.receiver.1,s.receiver.2+1) s.r7 s.P2 s.fd s.K8 s.od with
    |none=>simp only[s1] at et;rw[hz] at et;cases et
    |some z=>
     simp only[s1] at et;rw[hz,cA] at et;simp only[W6,qe,PS.mk.injEq] at et;rw[cA];simp only[et,fA,cG];rw[Fg _ _ _ _ _ _ _ _ _ _ _ _ _ _ _ _ _ _ _ _ _ _ _ _ h.fp];simp only[cA,P];rfl
   ·have aq:¬q=v.x:=(by omega);rw[nS N] at A;simp only at A;have G:=DL h (by omega) (by rw[<-u];exact ha);refine⟨v.k,v.x,_,gC _,by omega,?_,h.push (Cj (M v.x (by omega)) false (λc=>nomatch c) (λ_=>G)),.inr ⟨_,rfl⟩,λc=>absurd u c,λ_ _ c e=>(λ(z:v.x=v.q+1)=>⟨z,rfl,rfl,rfl,rfl,rfl,by rw[u,<-z]⟩) (by rcases h.act (Hg h (by omega) (by rw[<-c,u])) with⟨D,_⟩|⟨D,_⟩<;>omega)⟩;unfold cE bE;rw[B,cA];simp only[xy,fE,K,cA,cG,L];rw[A,cA];simp only[fA,cG,jp];rw[Fg _ _ _ _ _ _ _ _ _ _ _ _ _ _ _ _ _ _ _ _ _ _ _ _ h.fp];simp only[cA,ak];rfl
  ·refine⟨v.k,v.x,s,gC _,by omega,Mp b _ none B (.inr (by unfold w9;simp)) (λ_=>⟨(0,[],[]),?_⟩),h,.inl rfl,λ_=>⟨rfl,rfl,rfl⟩,λ_ c=>absurd c u⟩;rw[A];have E:¬((w9 S q m).1=1/\3<=(w9 S q m).2.1.length/\(w9 S q m).2.1.getD 0 0=s.receiver.1/\(w9 S q m).2.1.getD 2 0<=15):=λc=>u c.2.2.1;unfold Ez;simp only[nS E]
theorem Wj(h:Inv v now snaps s)(xt:v.x+1<=100000){y:Bool×Bool×List Int}(hy:V4 v snaps s y)(hd:y.1=true):∃k' x' s',v.k<=k'/\x'<=v.x+1/\cE y.2.2 s=some (none,s')/\Inv { v with k:=k',x:=x' } now snaps s'/\Sf s s':=by
 have F:=hy.len;have u:=nD y.2.2 hy.bytes (by omega);by_cases A:y.2.1=true
 ·rw[hy.ik A] at u;refine⟨v.k,v.x,s,gC _,by omega,Mp _ _ _ u (.inl rfl) (λK=>⟨(0,[],[]),?_⟩),h,.inl rfl⟩;obtain⟨L,X⟩:=Il h K;have V:=h.V3;rw[Mi s.receiver _ hy.bytes F L (by omega),hy.ik A];rfl
 ·obtain⟨f,M,N,O,_⟩:=hy.whole (by simpa using A);have G:eA y.2.2=some f:=by rw[N];exact dU M
  rw[G] at u;rcases O hd with⟨g,Q,E,rfl⟩|⟨S,q,m,rfl,E,R,T,U⟩
  ·obtain⟨x',s',I,B,C,D,_⟩:=Qb h Q E u;exact⟨v.k,x',s',gC _,by omega,B,C,D⟩
  ·obtain⟨k',x',s',I,B,C,D,P,_⟩:=Wi h xt hy.bytes F G E R T U;exact⟨k',x',s',I,B,C,D,P⟩
end
section
open Go.G7 (nC wP)
open Go.A1 (Good aX eA cH dH qZ Di yN nD dU lT)
variable {v:Nm}{now:List aD}{snaps:List (List aD)}{s:PS}
theorem eq2(x y:Int):iM [x,y] [x,y]=some true:=by
 unfold iM;unfold lp;rw[show bR=1125899906842621+1+1+1 from rfl,Go.A1.K6,Go.A1.K6 (y:=(2:Int))]
 ·rfl
 ·have h:Sw.idx [x,y] (1:Int)=some y:=rfl;have u:cm .neq y y=false:=by simp[cn]
  have A:cm .lss (1:Int) (([x,y]).length:Int)=true:=rfl;rw[A,h,cA,cA,u];rfl
 ·have h:Sw.idx [x,y] (0:Int)=some x:=rfl;have u:cm .neq x x=false:=by simp[cn]
  have A:cm .lss (0:Int) (([x,y]:List Int).length:Int)=true:=rfl;rw[A,fE,h,cA,cA,u,cG];rfl
theorem Inv.aSi(h:Inv v now snaps s){e}(he:EpM v.n e now snaps):Inv v now snaps { s with j8:=e }:=
 { h with
  ep:=he
  r7:=λy u=>(h.r7 y u).same rfl rfl rfl rfl rfl }
theorem Qc(h:Inv v now snaps s){o j:Nat}(h1:1<=o)(h2:o<=v.ob)(hj:j<=v.k)(B0:s.Wr<kN v.fb o)(ha:o=v.ob->s.Wr<kN v.fb o->j=v.k/\s.first=(v.fb:Int)/\v.x=0){sent:Int}(bBt:sent=j\/(sent= -1/\j<v.h)):Inv { v with q:=0 } now snaps { s with Wr:=kN v.fb o,j0:=(kN v.fb o,0,[]),sent:=sent,safe:=max s.safe (j:Int),j7:=[] }:=by
 have L8:=h.V3;have ab:=h.kh;have ym:=h.safe;have D:∀S,rW v s S->S≠kN v.fb o/\rW { v with q:=0 } { s with Wr:=kN v.fb o,j0:=(kN v.fb o,0,[]),sent:=sent,safe:=max s.safe (j:Int),j7:=[] } S:=by
  rintro S ⟨G,I,K,b2,b3,b4,N,b6⟩;refine⟨λe=>?_,G,I,K,b2,b3,b4,?_,b6⟩
  ·rw[K] at e;obtain⟨Q,R⟩:=rR (by omega) (by omega) e;rcases N with c |⟨c1,L⟩
   ·omega
   ·rw[K,Q,R] at L;omega
  ·rcases N with c |⟨c1,L⟩
   ·exact .inl c
   ·exact .inr ⟨c1,by simp only;omega⟩
 exact { h with
  V3:=by simp only;omega
  safe:=by simp only;omega
  sent:=by simp only;omega
  low:=λ_=>by simp only;omega
  idle:=λc d=>h.idle c (by simp only at d;omega)
  Wr:= .inr ⟨o,h1,h2,rfl,λe=>(ha e B0).2.1⟩
  j0:= .inr ⟨vY _ _,rfl,rfl⟩
  queue:= .inl ⟨rfl,rfl⟩
  act:=λe=>by
   simp only at e;obtain⟨C,A,B⟩:=ha (rR (by omega) (by omega) e).2 B0;refine .inl ⟨B,λ_=>?_,λm O=>by simp at O⟩;simp only;rcases bBt with c |⟨c1,L⟩
   ·left;omega
   ·right;omega
  r7:=λy u=>by
   have u:=h.r7 y u;refine⟨u.bytes,u.len,u.ne,u.ik,λP=>?_⟩;obtain⟨f,T,U,V,X⟩:=u.whole P;refine⟨f,T,U,λF=>?_,λF=>?_⟩
   ·rcases V F with c |⟨S,q,m',C,A,B,E,M⟩
    ·exact .inl c
    ·exact .inr ⟨S,q,m',C,A,(D S B).2,λc=>absurd c (D S B).1,M⟩
   ·rcases X F with⟨G,I,j',t',C,A,B,E,M,a6,a7,a8⟩|⟨S,a,C,A,B,E⟩
    ·exact .inl ⟨G,I,j',t',C,A,B,E,M,a6,a7,λc d e=>a8 c d (by simp only at e;omega)⟩
    ·exact .inr ⟨S,a,C,(D S A).2,λc=>absurd c (D S A).1,E⟩}
theorem HE(h:Inv v now snaps s)(yr:v.q+1<=100000)(h0:0<=s.Wr){m:Fm}(hq:s.j0.2.2=[m])(hk:s.sent<=v.k):Inv { v with q:=v.q+1 } now snaps { s with j0:=(s.Wr,((v.q+1:Nat):Int),[]),safe:=max s.safe s.sent,j7:=[] }:=by
 have M:=h.V3;have N:=h.kh;have O:=h.safe
 exact { h with
  V3:=by simp only;omega
  safe:=by simp only;omega
  low:=λ_=>by simp only;omega
  j0:= .inr ⟨h0,rfl,rfl⟩
  queue:= .inl ⟨rfl,rfl⟩
  act:=λe=>by
   rcases h.act e with⟨a1,a2,a3⟩|⟨a1,a2,a3⟩
   ·have:=(a3 m hq).lt;omega
   ·exact .inl ⟨by simp only;omega,λ_=> .inl a3,λm C=>by simp at C⟩
  r7:=λy u=>by
   have u:=h.r7 y u;refine⟨u.bytes,u.len,u.ne,u.ik,λD=>?_⟩;obtain⟨f,E,F,G,I⟩:=u.whole D;refine⟨f,E,F,λA=>?_,λA=>?_⟩
   ·rcases G A with c |⟨S,q,K,a1,a2,a3,B,L⟩
    ·exact .inl c
    ·exact .inr ⟨S,q,K,a1,a2,a3,λc=> .inl (by have:=B c;simp only;omega),L⟩
   ·rcases I A with c |⟨S,a,a1,a2,a3,B⟩
    ·exact .inl c
    ·exact .inr ⟨S,a,a1,a2,λc=> .inl (by have:=a3 c;simp only;omega),B⟩}
def Zt(v:Nm)(u:Fm)(e:Option Int):Prop:=e.isSome=true\/u.1≠3\/∃g o j x y,u=cR g o j [x,y]/\g≠v.fb
theorem Qd{u:Fm}{e:Option Int}(h:Zt v u e):(bif (Option.isNone e) then bif (cm .eql u.1 (3:Int)) then bif (cm .eql (u.2.1.length:Int) (5:Int)) then (Sw.idx u.2.1 (0:Int)).bind λnb=>some (cm .eql nb (v.fb:Int)) else some false else some false else some false)=some false:=by
 rcases h with c | c |⟨g,o,j,x,y,rfl,B⟩
 ·cases e<;>grind
 ·grind [cm,ce,decide_eq_false]
 ·have A:Sw.idx (cR g o j [x,y]).2.1 (0:Int)=some (g:Int):=rfl
  grind [cm,ce,decide_eq_false]
theorem Fi(h:Inv v now snaps s){b:List Int}{u:Fm}{e:Option Int}(hu:dG b=some (u,e))(hn:Zt v u e)(hh:0<=s.Wr->qW s.j0 b=some (s.j0,none)):∃s',cJ b s=some (none,s')/\Inv v now snaps s'/\s'.r7=s.r7:=by
 have K:=h.V3;have L:=h.safe;have M:=h.kh;have N:s.j8.1=v.h:=by have:=h.ep.num;have:=h.hs;omega
 have B:=Qd hn;by_cases C:s.Wr<0
 ·refine⟨s,?_,h,rfl⟩;unfold cJ bI;have A:cm .lss s.Wr (0:Int)=true:=by rw[cl];exact pF C
  rw[hu,cA,h.J3];simp only[];rw[B];simp only[cA,cG,A,fE];rw[<-h.J3]
 ·obtain⟨G,I⟩:=h.ep.drop (num:=min s.safe s.j8.1) (by omega);refine⟨_,?_,h.aSi I,rfl⟩;unfold cJ bI;have A:cm .lss s.Wr (0:Int)=false:=by rw[cl];exact cT C
  rw[hu,cA,h.J3];simp only[];rw[B];simp only[cA,cG,A];rw[hh (by omega)];simp only[cA,fA,cG];have D:ar .sub .i64 (s.j0.2.2.length:Int) (s.j0.2.2.length:Int)=0:=by rw[bw (by omega)];omega
  have E:Sw.sub s.j7 (0:Int) 0=some []:=by unfold Sw.sub;rw[sM (by omega)];rfl
  have F:Sw.sub s.j7 (0:Int) (s.j7.length:Int)=some s.j7:=by unfold Sw.sub;rw[sM (by omega)];simp
  rw[D,E,cA];unfold lp;rw[show bR=1125899906842623+1 from rfl,Go.A1.I7 (b:= .u9 s.safe)]
  ·simp only[];rw[F,cA,h.efn,G,cA];rw[<-h.J3,<-h.efn];rfl
  ·rfl
end
section
open Go.G7 (nC wP)
open Go.A1 (Good aX eA cH dH qZ Di yN nD dU lT iR)
variable {v:Nm}{now:List aD}{snaps:List (List aD)}{s:PS}
def aDb(v:Nm)(s s':PS)(q' o j:Nat):Prop:=s'.first=s.first/\(s.Wr<kN v.fb o->s'.Wr=kN v.fb o/\s'.j0.2.2=[])/\(¬s.Wr<kN v.fb o->s'=s/\q'=v.q)
theorem Im(h:Inv v now snaps s){b:List Int}{o j:Nat}{x y:Int}(hu:dG b=some (cR v.fb o j [x,y],none))(h1:1<=o)(h2:o<=v.ob)(hj:j<=v.k)(ht:jH (snaps.getD j [])=some [x,y])(ha:o=v.ob->s.Wr<kN v.fb o->j=v.k/\s.first=(v.fb:Int)/\v.x=0):∃q' s',q'<=v.q/\cJ b s=some (none,s')/\Inv { v with q:=q' } now snaps s'/\s'.r7=s.r7/\aDb v s s' q' o j:=by
 have O:=h.V3;have P:=h.kh;have B:Sw.idx (cR v.fb o j [x,y]).2.1 (0:Int)=some (v.fb:Int):=rfl;have C:Sw.idx (cR v.fb o j [x,y]).2.1 (1:Int)=some (o:Int):=rfl;have K:Sw.idx (cR v.fb o j [x,y]).2.1 (2:Int)=some (j:Int):=rfl;have D:cm .eql (cR v.fb o j [x,y]).1 (3:Int)=true:=rfl;have E:cm .eql ((cR v.fb o j [x,y]).2.1.length:Int) (5:Int)=true:=rfl;have F:cm .eql (v.fb:Int) (v.fb:Int)=true:=by rw[ce];simp
 have M:Sw.sub (cR v.fb o j [x,y]).2.1 (3:Int) ((cR v.fb o j [x,y]).2.1.length:Int)=some [x,y]:=rfl;have G:=NV (g:=v.fb) (o:=o) (by omega) (by omega);by_cases u:s.Wr<kN v.fb o
 ·have A:cm .gtr (kN v.fb o) s.Wr=true:=by rw[cg];exact pF u
  cases hp:dQ s.past (j:Int) with
  |none=>
   have N:j<v.h:=by
    rcases jl j v.h with c | c
    ·exact c
    ·have:j=v.h:=(by omega);rw[this,h.last] at hp;cases hp
   have I:=Qc h h1 h2 hj u ha (sent:= -1) (.inr ⟨rfl,N⟩);refine⟨0,_,by omega,?_,I,rfl,rfl,λ_=>⟨rfl,rfl⟩,λc=>absurd u c⟩;unfold cJ bI;rw[hu,cA,h.J3];simp only[xy,fE,D,E,B,C,K,F,cA,G,A,jp,hp,fA,aFe]
  |some l=>
   have L:=h.past _ (Fc hp);simp only[gR] at L;rw[<-L.2.2] at ht;have I:=Qc h h1 h2 hj u ha (sent:=(j:Int)) (.inl rfl);refine⟨0,_,by omega,?_,I,rfl,rfl,λ_=>⟨rfl,rfl⟩,λc=>absurd u c⟩;unfold cJ bI;rw[hu,cA,h.J3];simp only[xy,fE,D,E,B,C,K,F,cA,G,A,jp,hp,aF7,vn,cG,aFw,ht,M,eq2]
 ·have A:cm .gtr (kN v.fb o) s.Wr=false:=by rw[cg];exact cT u
  refine⟨v.q,s,gC _,?_,h,rfl,rfl,λc=>absurd c u,λ_=>⟨rfl,rfl⟩⟩;unfold cJ bI;rw[hu,cA,h.J3];simp only[xy,fE,D,E,B,C,F,cA,G,A,jp,cG];rw[<-h.J3]
theorem Hh(h:Inv v now snaps s)(h0:0<=s.Wr):iR s.j0=0:=by
 have G:=h.V3;have I:=Js h;rcases h.j0 with⟨c1,_⟩|⟨c1,C,D⟩
 ·omega
 ·have B:s.j0=(s.Wr,(v.q:Int),s.j0.2.2):=by rw[<-C,<-D]
  rw[B];rcases h.queue with⟨A,E⟩|⟨m,A,E,F,K⟩
  ·grind [lT]
  ·rw[A];exact lT (by omega) (by omega) (by simp) (λf u=>by simp at u;subst u;exact F.load)
theorem DM(h:Inv v now snaps s)(yr:v.q+1<=100000){b:List Int}(hb:Bytes b)(ll:b.length<=2000){S:Int}{a:Nat}(hf:eA b=some (rS S a))
  (hs:S=s.Wr->a<=v.q\/(a=v.q+1/\s.j0.2.2≠ []/\s.sent<=v.k)):∃q' s',q'<=v.q+1/\cJ b s=some (none,s')/\Inv { v with q:=q' } now snaps s'/\s'.r7=s.r7/\
   (0<=s.Wr->S=s.Wr->a=v.q+1->s.j0.2.2.length=1->s'.first=s.first/\s'.Wr=s.Wr/\s'.j0.2.2=[]/\s'.sent=s.sent):=by
 have L8:=h.V3;have ac:=h.kh;have ym:=h.safe;have A:=nD b hb (by omega);rw[hf] at A;simp only at A;have I:Zt v (rS S a) none:= .inr (.inl (by unfold rS;simp));by_cases E:0<=s.Wr
 ·have u:=yN s.j0 b hb ll (Hh h E);rw[hf] at u;unfold Di at u;by_cases F:(rS S a).1=0/\(rS S a).2.2=[]/\(rS S a).2.1.length=2/\(rS S a).2.1.getD 0 0=s.j0.1/\s.j0.2.1<(rS S a).2.1.getD 1 0/\(rS S a).2.1.getD 1 0 - s.j0.2.1<=min (s.j0.2.2.length:Int) 4
  ·simp only[sM F] at u;obtain⟨_,_,_,K,P,Q⟩:=F;have K:S=s.j0.1:=K;have T:(rS S a).2.1.getD 1 0=(a:Int):=rfl;rw[T] at P Q u;rcases h.j0 with⟨c1,_⟩|⟨c1,G,N⟩
   ·omega
   ·have U:=hs (by rw[K,G]);rw[N] at P Q;have L:a=v.q+1/\s.j0.2.2≠ []/\s.sent<=v.k:=by
     rcases U with d | d
     ·omega
     ·exact d
    obtain⟨L,_,ab⟩:=L;rcases h.queue with⟨D,R⟩|⟨m,D,R,d3,d4⟩
    ·exact absurd D ‹_›
    ·have O:=HE h yr E D ab;have cz:s.j8.1=v.h:=(by have:=h.ep.num;have:=h.hs;omega);obtain⟨B,C⟩:=O.ep.drop (num:=min (max s.safe s.sent) s.j8.1) (by simp only;omega);refine⟨v.q+1,_,gC _,?_,O.aSi C,rfl,λ_ _ _ _=>⟨rfl,rfl,rfl,rfl⟩⟩;have V:(s.j0.1,(a:Int),s.j0.2.2.drop ((a:Int) - s.j0.2.1).toNat)=(s.Wr,((v.q+1:Nat):Int),([]:List Fm)):=by
      rw[G,N,D,L];have:(((v.q+1:Nat):Int) - (v.q:Int)).toNat=1:=(by omega);rw[this];rfl
     rw[V] at u;have X:=Qd I;unfold cJ bI;have l1:cm .lss s.Wr (0:Int)=false:=(by rw[cl];exact cT (by omega));rw[A,cA,h.J3];simp only[];rw[X];simp only[cA,cG,l1];rw[u];simp only[cA,fA,cG];rw[D,R];have I8:ar .sub .i64 (([m]:List Fm).length:Int) (([]:List Fm).length:Int)=1:=(by rw[bw (by simp)];simp);have hz:Sw.sub [s.sent] (0:Int) 1=some [s.sent]:=rfl;have ed:Sw.sub [s.sent] (1:Int) (([s.sent]:List Int).length:Int)=some []:=rfl;rw[I8,hz,cA];unfold lp;rw[show bR=1125899906842622+1+1 from rfl,Go.A1.K6 (y:=((1:Int),max s.safe s.sent)),Go.A1.I7 (b:= .u9 (max s.safe s.sent))]
     ·simp only[];rw[ed,cA,h.efn,B,cA];rw[<-h.J3,<-h.efn];rfl
     ·rfl
     ·rfl
  ·simp only[nS F] at u;obtain⟨s',B,C,M⟩:=Fi h A I (λ_=>u);refine⟨v.q,s',by omega,B,C,M,λ_ c d e=>absurd ?_ F⟩;rcases h.j0 with⟨c1,_⟩|⟨c1,G,N⟩
   ·omega
   ·refine⟨rfl,rfl,rfl,?_,?_,?_⟩
    ·show S=s.j0.1;rw[G,c]
    ·show s.j0.2.1<(a:Int);omega
    ·show (a:Int) - s.j0.2.1<=_;omega
 ·obtain⟨s',B,C,M⟩:=Fi h A I (λc=>absurd c E);exact⟨v.q,s',by omega,B,C,M,λc=>absurd c E⟩
theorem Zu(h:Inv v now snaps s)(yr:v.q+1<=100000){y:Bool×Bool×List Int}(hy:V4 v snaps s y)(hd:y.1=false):∃q' s',q'<=v.q+1/\cJ y.2.2 s=some (none,s')/\Inv { v with q:=q' } now snaps s'/\s'.r7=s.r7:=by
 have L8:=h.V3;have ab:=h.kh;have I0:=h.hs;have iw:=h.n1;have zp:=h.n0;have E:=hy.len;have B:=nD y.2.2 hy.bytes (by omega);by_cases L:y.2.1=true
 ·have D:=λG=>yN s.j0 y.2.2 hy.bytes E (Hh h G);rw[hy.ik L] at B D;obtain⟨s',C,u,A⟩:=Fi h B (.inl rfl) D;exact⟨v.q,s',by omega,C,u,A⟩
 ·obtain⟨f,R,T,_,U⟩:=hy.whole (by simpa using L);have F:eA y.2.2=some f:=by rw[T];exact dU R
  rcases U hd with⟨g,o,j,t,rfl,X,O,P,a5,a6,K,a8⟩|⟨S,a,rfl,X,O,P⟩
  ·have M:snaps.getD j []∈snaps:=by
    rw[vo,sE (by omega)];exact aEe _
   have mi:(snaps.getD j []).length=v.n:=h.ep.len _ M;obtain⟨x,z,V,_,_⟩:=Zs (bs:=snaps.getD j []) (by omega) (by omega) (h.bok _ M);have Q:t=[x,z]:=(by rw[V] at K;exact(X6 K).symm);subst Q;rw[F] at B;simp only at B;by_cases N:g=v.fb
   ·subst N;obtain⟨q',s',C,u,A,I,_⟩:=Im h B P a5 a6 K (a8 rfl);exact⟨q',s',by omega,u,A,I⟩
   ·obtain⟨s',C,u,A⟩:=Fi h B (.inr (.inr ⟨g,o,j,x,z,rfl,N⟩)) (λG=>by
     have D:=yN s.j0 y.2.2 hy.bytes E (Hh h G);rw[F] at D;rw[D];unfold Di;simp only[]
     rw[nS (λc=>by have:=c.1;simp[cR] at this)])
    exact⟨v.q,s',by omega,C,u,A⟩
  ·obtain⟨q',s',C,u,A,I,_⟩:=DM h yr hy.bytes E F O;exact⟨q',s',C,u,A,I⟩
end
section
open Go.G7 (nC wP)
variable {v:Nm}{now:List aD}{snaps:List (List aD)}{s:PS}
theorem NX(g:Bool)(b:List Int)(s:PS):gJ (true,g,b) s=cE b s:=by
 grind [gJ,cK,cE]
theorem NY(g:Bool)(b:List Int)(s:PS):gJ (false,g,b) s=cJ b s:=by
 grind [gJ,cK,cJ]
def wt(l:List (Bool×Bool×List Int)):Nat:=(l.map λy=>bif y.1 then 2 else 1).sum
theorem Zv(a b:List (Bool×Bool×List Int)):wt (a++b)=wt a+wt b:=by simp[wt]
theorem TW(l:List (Bool×Bool×List Int))(y:Bool×List Int):wt (kY l (false,y))<=wt l+1:=by
 grind [kY,Zv,wt]
theorem aDc(l:List (Bool×Bool×List Int)):wt l<=2*l.length:=by
 induction l<;>grind [wt,List.length_cons]
theorem TX(h:Inv v now snaps s)(yr:v.q+1<=100000)(xt:v.x+1<=100000){y:Bool×Bool×List Int}(hy:V4 v snaps s y):∃k' q' x' s',v.k<=k'/\q'<=v.q+1/\x'<=v.x+1/\gJ y s=some (none,s')/\Inv { v with k:=k',q:=q',x:=x' } now snaps s'/\wt s'.r7<wt s.r7+(bif y.1 then 2 else 1):=by
 by_cases hd:y.1=true
 ·obtain⟨k',x',s',D,B,u,C,A⟩:=Wj h xt hy hd;refine⟨k',v.q,x',s',D,by omega,B,?_,C,?_⟩
  rotate_left
  ·rw[hd,fE];rcases A with A |⟨z,A⟩
   ·rw[A];omega
   ·rw[A];have:=TW s.r7 z;omega
  unfold cE at u;unfold gJ cK;rw[hd,fE];cases hz:bE y.2.2 s.n s.fn s.B2 s.y8 s.blocks s.j8 s.past s.Wr s.j0 s.sent s.safe s.j7 s.on s.B4 s.u4 s.first s.receiver s.r7 s.P2 s.fd s.K8 s.od with
  |none=>rw[hz] at u;cases u
  |some z=>rw[hz] at u;exact u
 ·have hd:y.1=false:=by simpa using hd
  obtain⟨q',s',B,u,C,A⟩:=Zu h yr hy hd;refine⟨v.k,q',v.x,s',gC _,B,by omega,?_,C,by rw[hd,cG,A];omega⟩;unfold cJ at u;unfold gJ cK;rw[hd,cG];cases hz:bI y.2.2 s.n s.fn s.B2 s.y8 s.blocks s.j8 s.past s.Wr s.j0 s.sent s.safe s.j7 s.on s.B4 s.u4 s.first s.receiver s.r7 s.P2 s.fd s.K8 s.od with
  |none=>rw[hz] at u;cases u
  |some z=>rw[hz] at u;exact u
theorem Mq(h:Inv v now snaps s)(yr:v.q+1<=100000)(xt:v.x+1<=100000){a:Int}(ha:ru a):∃k' q' x' s',v.k<=k'/\q'<=v.q+1/\x'<=v.x+1/\bK a s=some (none,s')/\Inv { v with k:=k',q:=q',x:=x' } now snaps s'/\(s.r7≠ []->wt s'.r7<wt s.r7):=by
 rcases Ff h ha with⟨R,u⟩|⟨i,C,u,S,U⟩
 ·refine⟨v.k,v.q,v.x,s,gC _,by omega,by omega,?_,h,λc=>absurd R c⟩;unfold jW at u;unfold bK bJ;cases hq:bD a s.n s.fn s.B2 s.y8 s.blocks s.j8 s.past s.Wr s.j0 s.sent s.safe s.j7 s.on s.B4 s.u4 s.first s.receiver s.r7 s.P2 s.fd s.K8 s.od with
  |none=>rw[hq] at u;cases u
  |some q=>
   rw[hq] at u;simp only[cA,W6,qe] at u;simp only[cA,u.2.1,aFe,fE]
 ·have T:=h.fp;have D:=pM (sE C);have E:=h.r7 _ (aEe C);generalize hy:s.r7[i]=y at D E
  have F:=h.qi (l:=s.r7.take i++s.r7.drop (i+1)) (by simp;omega) (λx A=>by
   rcases oq.1 A with A | A
   ·exact h.r7 x (aE8 A)
   ·exact h.r7 x (aGi A))
  obtain⟨k',q',x',s',M,N,O,B,P,Q⟩:=TX F yr xt (y:=y) (E.same rfl rfl rfl rfl rfl);refine⟨k',q',x',s',M,N,O,?_,P,λ_=>Nat.lt_of_lt_of_eq Q ?_⟩
  rotate_left
  ·have e:=sw i s.r7;rw[aGe C,hy] at e;have G:=congrArg wt e;have I:wt (y::s.r7.drop (i+1))=(bif y.1 then 2 else 1)+wt (s.r7.drop (i+1)):=(by unfold wt;simp);rw[Zv,I] at G;simp only[Zv];omega
  unfold gJ at B;unfold bK bJ;rw[S,cA];simp only[vn,cG,D,cA];rw[Hf (by omega),cA];have K:ar .add .i64 (i:Int) (1:Int)=((i+1:Nat):Int):=L3 (by omega);have L:aS s.r7 (i:Int) ((i+1:Nat):Int)=some (s.r7.take i++s.r7.drop (i+1)):=Se s.r7 i C;rw[K,L,cA];cases hz:cK y s.n s.fn s.B2 s.y8 s.blocks s.j8 s.past s.Wr s.j0 s.sent s.safe s.j7 s.on s.B4 s.u4 s.first s.receiver (s.r7.take i++s.r7.drop (i+1)) s.P2 s.fd s.K8 s.od with
  |none=>rw[hz] at B;cases B
  |some z=>rw[hz] at B;exact B
theorem vZ(h:Inv v now snaps s){y:Bool×Bool×List Int}{r:List (Bool×Bool×List Int)}(hn:s.r7=y::r):bK 0 s=gJ y { s with r7:=r }:=by
 have K:=h.fp;rcases Ff h (a:=0) (by unfold ru;omega) with⟨u,E⟩|⟨i,F,E,G,I⟩
 ·rw[hn] at u;cases u
 ·obtain rfl:=I rfl;unfold bK bJ;rw[G,cA];have A:Sw.idx s.r7 ((0:Nat):Int)=some y:=by rw[hn];rfl
  simp only[vn,cG,A,cA];rw[Hf (by omega),cA];have B:ar .add .i64 ((0:Nat):Int) (1:Int)=((0+1:Nat):Int):=L3 (by omega);have C:aS s.r7 ((0:Nat):Int) ((0+1:Nat):Int)=some (s.r7.take 0++s.r7.drop (0+1)):=Se s.r7 0 F;have D:s.r7.take 0++s.r7.drop (0+1)=r:=by rw[hn];rfl
  rw[B,C,cA,D];unfold gJ;simp only[];cases cK y s.n s.fn s.B2 s.y8 s.blocks s.j8 s.past s.Wr s.j0 s.sent s.safe s.j7 s.on s.B4 s.u4 s.first s.receiver r s.P2 s.fd s.K8 s.od<;>rfl
theorem Sh(h:Inv v now snaps s)(r:Int×aD×Int×Int×Int×List aD):qI r s=some ((r.1,r.2.1,(v.h:Int),s.safe,(v.k:Int),snaps.getD v.k []),none,s):=by
 have C:=h.kh;have D:=h.hs;have A:snaps.getD v.k []∈snaps:=by
  grind
 have B:=h.ep.len _ A;have u:=wP h.er;rw[B,<-h.aK9] at u;unfold qI cL;rw[u,h.enum,h.jb];simp only[cA]
end
section
variable {v v':Nm}{now V7:List aD}{snaps D2:List (List aD)}{s s':PS}
def fns(i:Nat)(d:Int×Int×Int×aD)(s:PS):=wO i d s.n s.fn s.B2 s.y8 s.blocks s.j8 s.past s.Wr s.j0 s.sent s.safe s.j7 s.on s.B4 s.u4 s.first s.receiver s.r7 s.P2 s.fd s.K8 s.od
theorem NZ(i:Fin 11):tM ((i.1:Nat):Int)=some i.1:=by revert i;decide+kernel
theorem rB{d:Int×Int×Int×aD}{i:Nat}{E2:aD}{e:Option Int}(h':Inv v' V7 D2 s')(hi:i<11)(hd:d.1=(i:Int))(hf:fns i d s=some (E2,e,q9 s')):lS d s=some ((e.getD 0,E2,(v'.h:Int),s'.safe,(v'.k:Int),D2.getD v'.k []),none,s'):=by
 have u:=Sh h' (e.getD 0,E2,0,0,0,[]);have A:=NZ ⟨i,hi⟩;simp only at A;have c1:cm .lss d.1 (0:Int)=false:=by rw[cl];exact cT (by omega)
 have B:cm .geq d.1 (11:Int)=false:=by rw[ib];exact cT (by omega)
 unfold fns at hf;unfold qI at u;unfold lS gD;rw[c1,B];simp only[cG,cA,jp];rw[hd,A,cA,hf,cA];cases hz:cL (e.getD 0,E2,0,0,0,[]) s'.n s'.fn s'.B2 s'.y8 s'.blocks s'.j8 s'.past s'.Wr s'.j0 s'.sent s'.safe s'.j7 s'.on s'.B4 s'.u4 s'.first s'.receiver s'.r7 s'.P2 s'.fd s'.K8 s'.od with
 |none=>rw[hz] at u;cases u
 |some z=>
  rw[hz] at u;simp only[cA,W6,qe] at u;obtain⟨C,D⟩:=z;obtain⟨rfl,rfl,_⟩:=u;cases e with
  |none=>
   simp only[aIh] at hz;simp only[q9,fA,cG,cA,hz,aIh]
  |some c=>
   simp only[aFw] at hz;simp only[q9,aF7,fE,vn,cG,cA,aFw,hz]
theorem TY{d:Int×Int×Int×aD}(h:Inv v now snaps s)(hd:d.1<0\/11<=d.1):lS d s=some ((3,aE,(v.h:Int),s.safe,(v.k:Int),snaps.getD v.k []),none,s):=by
 have u:=Sh h (3,aE,0,0,0,[]);have A:(bif (cm .lss d.1 (0:Int)) then some true else some (cm .geq d.1 (11:Int)))=some true:=by
  rw[cl,ib]
  grind
 unfold qI at u;unfold lS gD;rw[A];simp only[cA,jp,fE];cases hz:cL (3,aE,0,0,0,[]) s.n s.fn s.B2 s.y8 s.blocks s.j8 s.past s.Wr s.j0 s.sent s.safe s.j7 s.on s.B4 s.u4 s.first s.receiver s.r7 s.P2 s.fd s.K8 s.od<;>simp_all
theorem DN{d:Int×Int×Int×aD}{e:Option Int}(h:kL d.2.1 d.2.2.2 s=some (e,s')):fns 0 d s=some (aE,e,q9 s'):=by
 unfold kL at h;unfold fns wO mJ;cases hz:dF d.2.1 d.2.2.2 s.n s.fn s.B2 s.y8 s.blocks s.j8 s.past s.Wr s.j0 s.sent s.safe s.j7 s.on s.B4 s.u4 s.first s.receiver s.r7 s.P2 s.fd s.K8 s.od with
 |none=>grind
 |some z=>rw[hz] at h;simp[cA,W6,qe] at h;obtain⟨u,rfl⟩:=h;rw[<-u];rfl
theorem Wk{d:Int×Int×Int×aD}{e:Option Int}(h:kL d.2.1 aE s=some (e,s')):fns 1 d s=some (aE,e,q9 s'):=by
 unfold kL at h;unfold fns wO mL;cases hz:dF d.2.1 aE s.n s.fn s.B2 s.y8 s.blocks s.j8 s.past s.Wr s.j0 s.sent s.safe s.j7 s.on s.B4 s.u4 s.first s.receiver s.r7 s.P2 s.fd s.K8 s.od with
 |none=>grind
 |some z=>rw[hz] at h;simp[cA,W6,qe] at h;obtain⟨u,rfl⟩:=h;rw[<-u];rfl
theorem Wl{d:Int×Int×Int×aD}{e:Option Int}(h:pO s=some (e,s')):fns 3 d s=some (aE,e,q9 s'):=by
 unfold pO at h;unfold fns wO mN;cases hz:eJ s.n s.fn s.B2 s.y8 s.blocks s.j8 s.past s.Wr s.j0 s.sent s.safe s.j7 s.on s.B4 s.u4 s.first s.receiver s.r7 s.P2 s.fd s.K8 s.od with
 |none=>grind
 |some z=>rw[hz] at h;simp[cA,W6,qe] at h;obtain⟨u,rfl⟩:=h;rw[<-u];rfl
theorem OA{d:Int×Int×Int×aD}{e:Option Int}(h:eG s=some (e,s')):fns 4 d s=some (aE,e,q9 s'):=by
 unfold eG at h;unfold fns wO mO;cases hz:bO s.n s.fn s.B2 s.y8 s.blocks s.j8 s.past s.Wr s.j0 s.sent s.safe s.j7 s.on s.B4 s.u4 s.first s.receiver s.r7 s.P2 s.fd s.K8 s.od with
 |none=>grind
 |some z=>rw[hz] at h;simp[cA,W6,qe] at h;obtain⟨u,rfl⟩:=h;rw[<-u];rfl
theorem Wm{d:Int×Int×Int×aD}{e:Option Int}(h:bK d.2.1 s=some (e,s')):fns 5 d s=some (aE,e,q9 s'):=by
 unfold bK at h;unfold fns wO mP;cases hz:bJ d.2.1 s.n s.fn s.B2 s.y8 s.blocks s.j8 s.past s.Wr s.j0 s.sent s.safe s.j7 s.on s.B4 s.u4 s.first s.receiver s.r7 s.P2 s.fd s.K8 s.od with
 |none=>grind
 |some z=>rw[hz] at h;simp[cA,W6,qe] at h;obtain⟨u,rfl⟩:=h;rw[<-u];rfl
theorem OB{d:Int×Int×Int×aD}{e:Option Int}(h:qH d.2.1 s=some (e,s')):fns 6 d s=some (aE,e,q9 s'):=by
 unfold qH at h;unfold fns wO mQ;cases hz:eQ d.2.1 s.n s.fn s.B2 s.y8 s.blocks s.j8 s.past s.Wr s.j0 s.sent s.safe s.j7 s.on s.B4 s.u4 s.first s.receiver s.r7 s.P2 s.fd s.K8 s.od with
 |none=>grind
 |some z=>rw[hz] at h;simp[cA,W6,qe] at h;obtain⟨u,rfl⟩:=h;rw[<-u];rfl
theorem Zw{d:Int×Int×Int×aD}{e:Option Int}(h:kM d.2.1 s=some (e,s')):fns 7 d s=some (aE,e,q9 s'):=by
 unfold kM at h;unfold fns wO mR;cases hz:cZ d.2.1 s.n s.fn s.B2 s.y8 s.blocks s.j8 s.past s.Wr s.j0 s.sent s.safe s.j7 s.on s.B4 s.u4 s.first s.receiver s.r7 s.P2 s.fd s.K8 s.od with
 |none=>grind
 |some z=>rw[hz] at h;simp[cA,W6,qe] at h;obtain⟨u,rfl⟩:=h;rw[<-u];rfl
theorem Wn{d:Int×Int×Int×aD}{b:aD}{e:Option Int}(h:nF d.2.1 s=some (b,e,s)):fns 2 d s=some (b,e,q9 s):=by
 unfold nF at h;unfold fns wO mM;cases hz:eP d.2.1 s.n s.fn s.B2 s.y8 s.blocks s.j8 s.past s.Wr s.j0 s.sent s.safe s.j7 s.on s.B4 s.u4 s.first s.receiver s.r7 s.P2 s.fd s.K8 s.od with
 |none=>rw[hz] at h;cases h
 |some z=>rw[hz] at h;simp only[cA,W6,qe] at h;obtain⟨u,A,_⟩:=h;rw[<-u,<-A];rfl
end
section
variable {v:Nm}{now:List aD}{snaps:List (List aD)}{s:PS}
theorem OC(bs:List aD)(h:bs.length<=1000000):fM bs=some bs:=by
 grind [fM,j1]
structure Grow (v v':Nm):Prop where
 n:v'.n=v.n
 h:v.h<=v'.h/\v'.h<=v.h+1
 k:v.k<=v'.k
 fb:v'.fb<=v.fb+1
 ob:v'.ob<=v.ob+1
 q:v'.q<=v.q+1
 x:v'.x<=v.x+1
def Mr(v:Nm)(now:List aD)(snaps:List (List aD))(s:PS)(d:Int×Int×Int×aD):Prop:=∃(v':Nm) (V7:List aD) (D2:List (List aD)) (s':PS) (iS:Int) (E2:aD),bU now snaps d=some (iS,E2,V7,D2)/\lS d s=some ((iS,E2,(v'.h:Int),s'.safe,(v'.k:Int),D2.getD v'.k []),none,s')/\Inv v' V7 D2 s'/\Grow v v'
theorem pD(v:Nm):Grow v v:=⟨rfl,⟨gC _,by simp⟩,gC _,by omega,by omega,by omega,by simp⟩
theorem OD(h:Inv v now snaps s){a k:Int}{b:aD}(hb:C9 b):Mr v now snaps s (0,a,k,b):=by
 have C:=h.ep.np;by_cases u:0<=a/\a<v.n
 ·obtain⟨E,F,B⟩:=NS h u hb;refine⟨v,_,snaps,E,0,aE,?_,rB B (by omega) rfl (DN (d:=(0,a,k,b)) F),B,pD v⟩;obtain⟨z,G,_⟩:=vV (l:=now) (n:=a) u.1 (by rw[C];exact u.2);have c1:cm .lss a (0:Int)=false:=by rw[cl];exact cT (by omega)
  have D:cm .geq a (now.length:Int)=false:=by rw[ib];exact cT (by omega)
  show ((bif cm .lss a (0:Int) then some true else some (cm .geq a (now.length:Int))).bind λA=>bif A then some ((1:Int),aE,now,snaps) else (Sw.idx now a).bind λ_=>some ((0:Int),aE,(List.set now (Int.toNat a) b),snaps))=_;rw[c1,D];simp only[cG,cA,G]
 ·refine⟨v,now,snaps,s,1,aE,?_,rB h (by omega) rfl (DN (d:=(0,a,k,b)) (DH h (show a<0\/a>=v.n by omega))),h,pD v⟩;have c:(bif cm .lss a (0:Int) then some true else some (cm .geq a (now.length:Int)))=some true:=by
   rw[cl,ib]
   grind
  show ((bif cm .lss a (0:Int) then some true else some (cm .geq a (now.length:Int))).bind λA=>bif A then some ((1:Int),aE,now,snaps) else (Sw.idx now a).bind λ_=>some ((0:Int),aE,(List.set now (Int.toNat a) b),snaps))=_;rw[c];rfl
theorem HF(h:Inv v now snaps s){a k:Int}{b:aD}:Mr v now snaps s (1,a,k,b):=by
 have C:=h.ep.np;by_cases u:0<=a/\a<v.n
 ·obtain⟨E,F,B⟩:=NS h u E5;refine⟨v,_,snaps,E,0,aE,?_,rB B (by omega) rfl (Wk (d:=(1,a,k,b)) F),B,pD v⟩;obtain⟨z,G,_⟩:=vV (l:=now) (n:=a) u.1 (by rw[C];exact u.2);have c1:cm .lss a (0:Int)=false:=by rw[cl];exact cT (by omega)
  have D:cm .geq a (now.length:Int)=false:=by rw[ib];exact cT (by omega)
  show ((bif cm .lss a (0:Int) then some true else some (cm .geq a (now.length:Int))).bind λA=>bif A then some ((1:Int),aE,now,snaps) else (Sw.idx now a).bind λ_=>some ((0:Int),aE,(List.set now (Int.toNat a) aE),snaps))=_;rw[c1,D];simp only[cG,cA,G]
 ·refine⟨v,now,snaps,s,1,aE,?_,rB h (by omega) rfl (Wk (d:=(1,a,k,b)) (DH h (show a<0\/a>=v.n by omega))),h,pD v⟩;have c:(bif cm .lss a (0:Int) then some true else some (cm .geq a (now.length:Int)))=some true:=by
   rw[cl,ib]
   grind
  show ((bif cm .lss a (0:Int) then some true else some (cm .geq a (now.length:Int))).bind λA=>bif A then some ((1:Int),aE,now,snaps) else (Sw.idx now a).bind λ_=>some ((0:Int),aE,(List.set now (Int.toNat a) aE),snaps))=_;rw[c];rfl
theorem HG(h:Inv v now snaps s){a k:Int}{b:aD}:Mr v now snaps s (2,a,k,b):=by
 have C:=h.ep.np;by_cases u:0<=a/\a<v.n
 ·refine⟨v,now,snaps,s,0,now.getD a.toNat [],?_,rB h (by omega) rfl (Wn (d:=(2,a,k,b)) (TS h u)),h,pD v⟩;obtain⟨z,E,F⟩:=vV (l:=now) (n:=a) u.1 (by rw[C];exact u.2);have c1:cm .lss a (0:Int)=false:=by rw[cl];exact cT (by omega)
  have D:cm .geq a (now.length:Int)=false:=by rw[ib];exact cT (by omega)
  show ((bif cm .lss a (0:Int) then some true else some (cm .geq a (now.length:Int))).bind λA=>bif A then some ((1:Int),aE,now,snaps) else (Sw.idx now a).bind λB=>some ((0:Int),B,now,snaps))=_;rw[c1,D];simp only[cG,cA,E];rw[vo,F];rfl
 ·refine⟨v,now,snaps,s,1,aE,?_,rB h (by omega) rfl (Wn (d:=(2,a,k,b)) (NT h (show a<0\/a>=v.n by omega))),h,pD v⟩;have c:(bif cm .lss a (0:Int) then some true else some (cm .geq a (now.length:Int)))=some true:=by
   rw[cl,ib]
   grind
  show ((bif cm .lss a (0:Int) then some true else some (cm .geq a (now.length:Int))).bind λA=>bif A then some ((1:Int),aE,now,snaps) else (Sw.idx now a).bind λB=>some ((0:Int),B,now,snaps))=_;rw[c];rfl
theorem Si(h:Inv v now snaps s)(hb:v.h+1<=100000){a k:Int}{b:aD}:Mr v now snaps s (3,a,k,b):=by
 have E:=h.n1;have F:=h.hs;obtain⟨C,D,u⟩:=gl h hb;refine⟨_,now,_,C,0,aE,?_,rB u (by omega) rfl (Wl D),u,⟨rfl,by grind,gC _,by simp,by grind,by simp,by simp_all⟩⟩;show ((fM now).bind λA=>(Sw.app snaps ([A])).bind λB=>some ((0:Int),aE,now,B))=_;rw[OC _ (by have:=h.ep.np;omega),cA,j1 _ _ (by simp;omega)];rfl
theorem HH(h:Inv v now snaps s){a k:Int}{b:aD}:Mr v now snaps s (4,a,k,b):=by
 obtain⟨A,B,u,_⟩:=DK h;exact⟨v,now,snaps,A,0,aE,rfl,rB u (by simp) rfl (OA B),u,pD v⟩
theorem Sj(h:Inv v now snaps s)(yr:v.q+1<=100000)(xt:v.x+1<=100000){a k:Int}{b:aD}(ha:ru a):Mr v now snaps s (5,a,k,b):=by
 obtain⟨F,G,I,A,B,C,D,E,u,_⟩:=Mq h yr xt ha;exact⟨_,now,snaps,A,0,aE,rfl,rB u (by simp) rfl (Wm (d:=(5,a,k,b)) E),u,⟨rfl,by simp,B,by simp,by simp,C,D⟩⟩
theorem HI(h:Inv v now snaps s){a k:Int}{b:aD}(ha:ru a):Mr v now snaps s (6,a,k,b):=by
 obtain⟨A,B,u⟩:=TU h ha;exact⟨v,now,snaps,A,0,aE,rfl,rB u (by simp) rfl (OB (d:=(6,a,k,b)) B),u,pD v⟩
theorem Wo(h:Inv v now snaps s){a k:Int}{b:aD}(ha:ru a):Mr v now snaps s (7,a,k,b):=by
 obtain⟨A,B,u⟩:=GU h ha;exact⟨v,now,snaps,A,0,aE,rfl,rB u (by simp) rfl (Zw (d:=(7,a,k,b)) B),u,pD v⟩
theorem Wp(h:Inv v now snaps s)(hb:v.fb+1<=3000){a k:Int}{b:aD}:Mr v now snaps s (8,a,k,b):=by
 have K:=h.V3;have L:=h.hs;have M:=h.n1;obtain⟨G,I,_,u⟩:=GY h hb (8,a,k,b);refine⟨_,_,snaps,G,0,aE,?_,rB (i:=8) u (by omega) rfl I,u,⟨rfl,by simp only;omega,gC _,gC _,by simp only;omega,by simp only;omega,by simp only;omega⟩⟩;have A:snaps.getD v.h []∈snaps:=by
  grind
 show ((bT (now,snaps)).bind λD=>(Sw.idx snaps D).bind λE=>(fM E).bind λF=>some ((0:Int),aE,F,snaps))=_;have B:bT (now,snaps)=some (v.h:Int):=by
  grind [bT,bw]
 have C:Sw.idx snaps (v.h:Int)=some (snaps.getD v.h []):=pM (by rw[vo,sE (by omega)];rfl);rw[B,cA,C,cA,OC _ (by have:=h.ep.len _ A;omega)];rfl
theorem Wq(h:Inv v now snaps s)(hb:v.ob+1<=3000){a k:Int}{b:aD}:Mr v now snaps s (9,a,k,b):=by
 obtain⟨A,B,_,u⟩:=GZ h hb (9,a,k,b);exact⟨_,now,snaps,A,0,aE,rfl,rB (i:=9) u (by simp) rfl B,u,⟨rfl,by simp,gC _,by simp,gC _,by simp,by simp⟩⟩
theorem aDd(h:Inv v now snaps s)(hb:v.h+1<=100000/\v.fb+1<=3000/\v.ob+1<=3000/\v.q+1<=100000/\v.x+1<=100000){d:Int×Int×Int×aD}(h1:ru d.2.1)(h2:ru d.2.2.1)(h3:C9 d.2.2.2)(h4:d.1≠10):Mr v now snaps s d:=by
 obtain⟨c,a,k,b⟩:=d;simp only at h1 h2 h3;by_cases u:c<0\/11<=c
 ·refine⟨v,now,snaps,s,3,aE,?_,TY h u,h,pD v⟩
  grind [cm,cl,ib,decide_eq_true,decide_eq_false,bU]
 ·have A:c=0\/c=1\/c=2\/c=3\/c=4\/c=5\/c=6\/c=7\/c=8\/c=9\/c=10:=by omega
  rcases A with rfl | rfl | rfl | rfl | rfl | rfl | rfl | rfl | rfl | rfl | rfl
  ·exact OD h h3
  ·exact HF h
  ·exact HG h
  ·exact Si h hb.1
  ·exact HH h
  ·exact Sj h hb.2.2.2.1 hb.2.2.2.2 h1
  ·exact HI h h1
  ·exact Wo h h1
  ·exact Wp h hb.2.1
  ·exact Wq h hb.2.2.1
  ·exact absurd rfl h4
end
abbrev nG:=Int×Int×Int×aD
abbrev Fj:=Int×aD×Int×Int×Int×List aD
def xW(d:nG):Prop:=ru d.2.1/\ru d.2.2.1/\C9 d.2.2.2/\d.1≠10
inductive ov:Nm->List aD->List (List aD)->PS->List nG->List Fj->Nm->List aD->List (List aD)->PS->Prop where
 |nil {v now snaps s} (h:Inv v now snaps s):ov v now snaps s [] [] v now snaps s
 |cons {v now snaps s v' V7 D2 s' v2 J6 A4 s2} {d:nG} {ds:List nG} {rs:List Fj} {iS:Int} {E2:aD} (h:Inv v now snaps s) (hc:bU now snaps d=some (iS,E2,V7,D2))
   (hd:lS d s=some ((iS,E2,(v'.h:Int),s'.safe,(v'.k:Int),D2.getD v'.k []),none,s')) (h':Inv v' V7 D2 s') (g:Grow v v') (t:ov v' V7 D2 s' ds rs v2 J6 A4 s2):
   ov v now snaps s (d::ds) ((iS,E2,(v'.h:Int),s'.safe,(v'.k:Int),D2.getD v'.k [])::rs) v2 J6 A4 s2
theorem DP:∀(ds:List nG) {v:Nm} {now:List aD} {snaps:List (List aD)} {s:PS},Inv v now snaps s->(∀d∈ds,xW d)->v.h+ds.length<=100000->v.fb+ds.length<=3000->v.ob+ds.length<=3000->v.q+ds.length<=100000->v.x+ds.length<=100000->
  ∃rs v2 J6 A4 s2,ov v now snaps s ds rs v2 J6 A4 s2/\rs.length=ds.length/\Inv v2 J6 A4 s2
 | [],v,now,snaps,s,h,_,_,_,_,_,_=>⟨[],v,now,snaps,s,.nil h,rfl,h⟩
 |d::ds,v,now,snaps,s,h,hd,L,M,N,O,P=>by
  simp only[qf] at L M N O P;obtain⟨o1,C,D,E⟩:=hd d (kg ..);obtain⟨V,X,D2,s',iS,E2,F,G,A,u⟩:=aDd h (by omega) o1 C D E;have Q:=u.h;have R:=u.fb;have S:=u.ob;have T:=u.q;have U:=u.x;obtain⟨rs,v2,J6,A4,s2,t1,I,K⟩:=DP ds A (λx B=>hd x (kf _ B)) (by omega) (by omega) (by omega) (by omega) (by omega);exact⟨_,v2,J6,A4,s2,.cons h F G A u t1,by simp[I],K⟩
theorem Ms{n:Nat}(h0:1<=n)(h1:n<=32){ds:List nG}(hl:ds.length<=300)(hd:∀d∈ds,xW d):∃s0 rs v2 J6 A4 s2,fJ (n:Int)=some (some (q9 s0),none)/\Inv ⟨n,0,1,1,0,0,0⟩ (List.replicate n aE) [List.replicate n aE] s0/\ov ⟨n,0,1,1,0,0,0⟩ (List.replicate n aE) [List.replicate n aE] s0 ds rs v2 J6 A4 s2/\rs.length=ds.length/\Inv v2 J6 A4 s2:=by
 obtain⟨C,D,A,B,E⟩:=NN h0 h1;have u:=GS h0 h1 A B;obtain⟨rs,v2,J6,A4,s2,t1,F,G⟩:=DP ds u hd (by simp only;omega) (by simp only;omega) (by simp only;omega) (by simp only;omega) (by simp only;omega)
 grind [Mm]
def WX(i:Int)(s:PS)(rs:List Fj):=(i,s.n,s.fn,s.B2,s.y8,s.j8,s.Wr,s.j0,s.sent,s.safe,s.on,s.B4,s.u4,s.first,s.receiver,rs,s.P2,s.fd,s.blocks,s.past,s.j7,s.K8,s.od,s.r7)
theorem OE{δ:Type}{step:_->Option (Step _ δ)}{l:List nG}{fin:PS->List Fj->δ}(hs:∀(i:Nat) (d:nG) (s s':PS) (acc:List Fj) (r:Fj),l[i]? =some d->i<=1000->acc.length<=1000->lS d s=some (r,none,s')->step (WX (i:Int) s acc)=some (.next (WX ((i+1:Nat):Int) s' (acc++[r]))))(he:∀(s:PS) (acc:List Fj),step (WX (l.length:Int) s acc)=some (.done (fin s acc)))(hl:l.length<=1000):∀{v now snaps s ds rs v2 J6 A4 s2},ov v now snaps s ds rs v2 J6 A4 s2->∀(pre:List nG) (acc:List Fj) (f:Nat),l=pre++ds->acc.length=pre.length->ds.length<f->loop step f (WX (pre.length:Int) s acc)=some (fin s2 (acc++rs)):=by
 intro v now snaps s ds rs v2 J6 A4 s2 t
 induction t with
 |nil h=>
  intro pre acc f u C A;obtain⟨f,rfl⟩:∃g,f=g+1:=⟨f - 1,by simp at A;omega⟩;have:pre=l:=by simpa using u.symm
  rw[this,Go.A1.I7 (he _ _),rf]
 |cons h F hd G g t D=>
  rename_i d ds rs iS E2;intro pre acc f u C A;simp only[qf] at A;obtain⟨f,rfl⟩:∃g,f=g+1:=⟨f - 1,by omega⟩;have E:l.length=pre.length+ds.length+1:=by rw[u];simp;omega
  rw[Go.A1.K6 (hs pre.length d _ _ acc _ (by rw[u];simp) (by omega) (by omega) hd)];have B:=λr:Fj=>D (pre++[d]) (acc++[r]) f (by rw[u];simp) (by simp[C]) (by omega);simp only[cM,aF4,dt,aG8] at B ⊢;exact B _
theorem OF{n:Nat}(h0:1<=n)(h1:n<=32){ds:List nG}(hl:ds.length<=300){s0:PS}(D9:fJ (n:Int)=some (some (q9 s0),none)){v now snaps rs v2 J6 A4 s2}(t:ov v now snaps s0 ds rs v2 J6 A4 s2):eE (n:Int) ds=some (some (q9 s2),rs,none):=by
 have c1:cm .lss (n:Int) (1:Int)=false:=by rw[cl];exact cT (by omega)
 have A:cm .gtr (n:Int) (32:Int)=false:=by rw[cg];exact cT (by omega)
 have B:cm .gtr (ds.length:Int) (300:Int)=false:=by rw[cg];exact cT (by omega)
 unfold eE;rw[c1,A,B];simp only[cG,cA];rw[D9,cA];simp only[lJ,fA,cG];unfold lp
 rw[show (((0:Int),(q9 s0).1,(q9 s0).2.1,(q9 s0).2.2.1,(q9 s0).2.2.2.1,(q9 s0).2.2.2.2.2.1,(q9 s0).2.2.2.2.2.2.2.1,(q9 s0).2.2.2.2.2.2.2.2.1,(q9 s0).2.2.2.2.2.2.2.2.2.1,(q9 s0).2.2.2.2.2.2.2.2.2.2.1,(q9 s0).2.2.2.2.2.2.2.2.2.2.2.2.1,(q9 s0).2.2.2.2.2.2.2.2.2.2.2.2.2.1,(q9 s0).2.2.2.2.2.2.2.2.2.2.2.2.2.2.1,(q9 s0).2.2.2.2.2.2.2.2.2.2.2.2.2.2.2.1,(q9 s0).2.2.2.2.2.2.2.2.2.2.2.2.2.2.2.2.1,([]:(List (Int×aD×Int×Int×Int×(List aD)))),(q9 s0).2.2.2.2.2.2.2.2.2.2.2.2.2.2.2.2.2.2.1,(q9 s0).2.2.2.2.2.2.2.2.2.2.2.2.2.2.2.2.2.2.2.1,(q9 s0).2.2.2.2.1,(q9 s0).2.2.2.2.2.2.1,(q9 s0).2.2.2.2.2.2.2.2.2.2.2.1,(q9 s0).2.2.2.2.2.2.2.2.2.2.2.2.2.2.2.2.2.2.2.2.1,(q9 s0).2.2.2.2.2.2.2.2.2.2.2.2.2.2.2.2.2.2.2.2.2,(q9 s0).2.2.2.2.2.2.2.2.2.2.2.2.2.2.2.2.2.1))=WX ((([]:List nG).length:Nat):Int) s0 [] from rfl,
  OE (l:=ds) (fin:=λs rs=>Ex.u9 (WX 0 s rs).2) ?_ ?_ (by omega) t [] [] bR rfl rfl (by unfold bR;omega)]
 ·rfl
 ·intro i d s G acc r u I K hd;unfold lS at hd;have F:i<ds.length:=(aEi.1 u).1;have C:cm .lss (i:Int) (ds.length:Int)=true:=by rw[cl];exact pF (by omega)
  simp only[WX];rw[C,fE,pM u,cA];cases hz:gD d s.n s.fn s.B2 s.y8 s.blocks s.j8 s.past s.Wr s.j0 s.sent s.safe s.j7 s.on s.B4 s.u4 s.first s.receiver s.r7 s.P2 s.fd s.K8 s.od with
  |none=>rw[hz] at hd;cases hd
  |some z=>
   rw[hz] at hd;simp only[cA,W6,qe] at hd;obtain⟨rfl,E,rfl⟩:=hd;rw[cA];simp only[E,fA,cG];rw[j1 _ _ (by simp;omega),cA,L3 (by omega)]
 ·intro s acc;have D:cm .lss (ds.length:Int) (ds.length:Int)=false:=by rw[cl];exact cT (by omega)
  simp only[WX];rw[D,cG]
theorem Zx{n:Nat}(h1:n<=32):fL (n:Int)=some (some (List.replicate n aE,[List.replicate n aE])):=by
 grind [Sw.mk,aE,List.replicate,fL,j1]
section
open Go.A1 (Good aX eA cH dH qZ nD dU nW)
variable {v:Nm}{now:List aD}{snaps:List (List aD)}{s:PS}
inductive O1:PS->PS->Nat->Prop
 |nil {s:PS} (h:s.r7=[]):O1 s s 0
 |cons {s s1 s2:PS} {n:Nat} (h:s.r7≠ []) (hd:bK 0 s=some (none,s1)) (t:O1 s1 s2 n):O1 s s2 (n+1)
structure Alike (v v':Nm):Prop where
 n:v'.n=v.n
 h:v'.h=v.h
 fb:v'.fb=v.fb
 ob:v'.ob=v.ob
theorem YX{l:List (Bool×Bool×List Int)}(h:l≠ []):1<=wt l:=by
 cases l<;>grind [wt]
theorem Ws:∀(w:Nat) {v:Nm} {s:PS},Inv v now snaps s->wt s.r7<=w->v.q+w<=100000->v.x+w<=100000->
  ∃v' s' n,O1 s s' n/\n<=w/\Inv v' now snaps s'/\s'.r7=[]/\Alike v v'/\v'.q<=v.q+w/\v'.x<=v.x+w
 |w,v,s,h,T,U,V=>by
  by_cases A:s.r7=[]
  ·exact⟨v,s,0,.nil A,by omega,h,A,⟨rfl,rfl,rfl,rfl⟩,by omega,by omega⟩
  ·have:=YX A;obtain⟨w,rfl⟩:∃u,w=u+1:=⟨w - 1,by omega⟩;obtain⟨M,N,O,s1,P,Q,R,D,E,C⟩:=Mq h (by omega) (by omega) (a:=0) (by unfold ru;omega);have C:=C A;obtain⟨v',s',n,F,S,G,I,B,K,L⟩:=Ws w E (by omega) (by simp only;omega) (by simp only;omega);simp only at K L;exact⟨v',s',n+1,.cons A D F,by omega,G,I,⟨B.n,B.h,B.fb,B.ob⟩,by omega,by omega⟩
theorem Dj(h:Inv v now snaps s){d:Bool}{f:Fm}{r:List (Bool×Bool×List Int)}(g:Good f)(hn:s.r7=(d,false,aX f)::r):(d=true->Bo v snaps s f)/\(d=false->Ci v snaps s f):=by
 have u:=h.r7 (d,false,aX f) (by rw[hn];exact kg);obtain⟨A,B,C,D,E⟩:=u.whole rfl;have e:A=f:=by
  have:=congrArg eA C;simp only at this;rw[dU B,dU g] at this;exact(X6 this).symm
 subst e;exact⟨D,E⟩
theorem Cq{f:Fm}(g:Good f):dG (aX f)=some (f,none):=by
 grind [nD,aX,nW,wG,dU]
theorem Fk(h:Inv v now snaps s){y:Bool×Bool×List Int}{r:List (Bool×Bool×List Int)}(hn:s.r7=y::r):Inv v now snaps { s with r7:=r }:=
 h.qi (by have:=h.fp;grind) (λx u=>h.r7 x (by grind))
theorem Io{l:List (Bool×Bool×List Int)}{y}(h:l.length<64):kY l y=l++[y]:=by simp_all [kY,sM]
theorem Zy(h:Inv v now snaps s)(hf:s.first=v.fb):s.receiver=(kN v.fb v.ob,(v.x:Int)):=by
 rcases h.first with⟨u,_⟩|⟨g,u,A,B,C⟩<;>grind
theorem Zz(h:Inv v now snaps s):s.Wr<=kN v.fb v.ob:=by
 rcases h.Wr with c |⟨o,c1,u,A,_⟩<;>grind [kN]
theorem Mt(h:Inv v now snaps s){r:List (Bool×Bool×List Int)}(hr:r.length<=10)(hn:s.r7=(true,false,aX (kX v.fb))::r):
  ∃x' s',bK 0 s=some (none,s')/\Inv { v with x:=x' } now snaps s'/\x'<=v.x/\s'.first=v.fb/\s'.Wr=s.Wr/\s'.j0=s.j0/\s'.sent=s.sent/\
   ∃x y,Good (cR v.fb v.ob v.k [x,y])/\s'.r7=r++[(false,false,aX (cR v.fb v.ob v.k [x,y]))]:=by
 have Q:=h.V3;have R:=h.kh;have S:=h.hs;have T:=h.n1;have U:=h.n0;obtain⟨X,B⟩:=Mn (g:=v.fb) (by omega);obtain⟨x',s',C,D,E,_,F⟩:=Qb (Fk h hn) h.pos.1 (gC _) (Cq B);obtain⟨c1,G,I,K,c5,c6,x,y,L,M⟩:=F rfl;have u:snaps.getD v.k []∈snaps:=by
  rw[vo,sE (by omega)];exact aEe _
 have V:(snaps.getD v.k []).length=v.n:=h.ep.len _ u;obtain⟨x2,y2,A,N,O⟩:=Zs (bs:=snaps.getD v.k []) (by omega) (by omega) (h.bok _ u);rw[L] at A;obtain⟨rfl,rfl⟩:=A;obtain⟨wf,P⟩:=Fh (g:=v.fb) (o:=v.ob) (j:=v.k) (t:=[x,y]) (by omega) (by omega) (by omega) rfl N O;refine⟨x',s',by rw[vZ h hn,NX];exact D,E,C,c1,G,I,K,x,y,P,?_⟩;rw[M,Io (by simp only;omega)]
theorem jh{S:Int}{a:Nat}(hS:0<=S/\S<=2147483647)(ha:a<=2147483647):Good (rS S a):=by
 refine⟨by simp[rS],by simp[rS],by simp[rS],by grind [rS],λn u=>?_,λb A=>by grind [rS]⟩;simp[rS,sK,aEq,aHl] at u;omega
theorem HJ(h:Inv v now snaps s)(xt:v.x+1<=100000)(hS:0<=s.Wr){m:Fm}(hq:s.j0.2.2=[m])(hm:aa m){r:List (Bool×Bool×List Int)}(hr:r.length<=10)(hf:s.first=v.fb)
  (hn:s.r7=(true,false,aX (w9 s.Wr v.q m))::r):
  ∃k' x' s',bK 0 s=some (none,s')/\Inv { v with k:=k',x:=x' } now snaps s'/\x'<=v.x+1/\s'.first=v.fb/\s'.Wr=s.Wr/\s'.j0=s.j0/\s'.sent=s.sent/\
   ((s.Wr=kN v.fb v.ob/\s'.r7=r++[(false,false,aX (rS s.Wr (v.q+1)))])\/(s.Wr≠kN v.fb v.ob/\s'.r7=r)):=by
 have L8:=h.V3;have F:=Js h;have u:=X4 hm (S:=s.Wr) (q:=v.q) ⟨hS,F⟩ (by omega);have G:=(Dj h u hn).1 rfl;rcases G with⟨g,_,_,c⟩|⟨S,q,m',e,a2,a3,a4,a5⟩
 ·simp[w9,kX] at c
 ·have ab:=u;simp only[w9,qe,ud,rh,aG7,aHk] at e;obtain⟨⟨K,A,C,D⟩,E⟩:=e;have A:v.q=q:=by omega
  obtain rfl:m=m':=by
   obtain⟨x,y,z⟩:=m;obtain⟨x',y',z'⟩:=m';simp only at C D E;subst C D E;rfl
  subst K A;have I:=dU u;obtain⟨k',x',s',b1,L,M,N,_,O,P⟩:=Wi (Fk h hn) xt (nW u) (by have:=(wG u).2;omega) I hm a3 a4 a5;have B:=Zy h hf;refine⟨k',x',s',by rw[vZ h hn,NX];exact M,N,L,?_⟩;by_cases c:s.Wr=kN v.fb v.ob
  ·obtain⟨_,Q,R,T,U,_,V⟩:=P (by simp only;omega) (by simp only;rw[B,c]) rfl rfl;refine⟨by rw[Q];exact hf,R,T,U,.inl ⟨c,?_⟩⟩;rw[V,Io (by simp only;omega)]
  ·obtain⟨X,_,_⟩:=O (by simp only;rw[B];exact c);subst X;exact⟨hf,rfl,rfl,rfl,.inr ⟨c,rfl⟩⟩
theorem zT(h:Inv v now snaps s){j:Nat}{x y:Int}{r:List (Bool×Bool×List Int)}(hg:Good (cR v.fb v.ob j [x,y]))(hn:s.r7=(false,false,aX (cR v.fb v.ob j [x,y]))::r):
  ∃q' s',bK 0 s=some (none,s')/\Inv { v with q:=q' } now snaps s'/\q'<=v.q/\s'.first=s.first/\s'.r7=r/\
   ((s.Wr<kN v.fb v.ob/\s'.Wr=kN v.fb v.ob/\s'.j0.2.2=[])\/(s.Wr=kN v.fb v.ob/\q'=v.q/\s'.Wr=s.Wr/\s'.j0=s.j0/\s'.sent=s.sent)):=by
 have O:=h.V3;have P:=Zz h;rcases (Dj h hg hn).2 rfl with⟨g,o,j',t,e,T,U,V,X,M,N,C⟩|⟨S,a,e,_⟩
 ·simp only[cR,qe,ud,rh,aG7,aHk,and_true] at e;obtain⟨u,A,B,E⟩:=e;have u:v.fb=g:=by omega
  have A:v.ob=o:=by omega
  have B:j=j':=by omega
  subst B E;rw[<-u,<-A] at C;have D:=C rfl rfl;obtain⟨q',s',F,G,I,K,L,Q,R⟩:=Im (Fk h hn) (Cq hg) h.pos.2 (gC _) M N (λ_=>D);refine⟨q',s',by rw[vZ h hn,NY];exact G,I,F,L,K,?_⟩
  grind
 ·simp[cR,rS] at e
theorem OG(h:Inv v now snaps s)(yr:v.q+1<=100000)(hS:0<=s.Wr){m:Fm}(hq:s.j0.2.2=[m]){r:List (Bool×Bool×List Int)}(hn:s.r7=(false,false,aX (rS s.Wr (v.q+1)))::r):∃q' s',bK 0 s=some (none,s')/\Inv { v with q:=q' } now snaps s'/\q'<=v.q+1/\s'.first=s.first/\s'.r7=r/\s'.Wr=s.Wr/\s'.j0.2.2=[]/\s'.sent=s.sent:=by
 have O:=h.V3;have B:=Js h;have u:=jh (S:=s.Wr) (a:=v.q+1) ⟨hS,B⟩ (by omega);rcases (Dj h u hn).2 rfl with⟨g,o,P,t,e,_⟩|⟨S,a,e,Q,N,R⟩
 ·simp[cR,rS] at e
 ·simp only[rS,qe,aG7,aHk,and_true] at e;obtain⟨C,A⟩:=e;have A:v.q+1=a:=by omega
  subst C A;obtain⟨q',s',D,E,F,G,I⟩:=DM (Fk h hn) yr (nW u) (by have:=(wG u).2;omega) (dU u) N;obtain⟨c1,K,L,M⟩:=I hS rfl rfl (by simp only;rw[hq];rfl);exact⟨q',s',by rw[vZ h hn,NY];exact E,F,D,c1,G,K,L,M⟩
theorem Wt(h:Inv v now snaps s)(hn:s.r7=[])(hq:v.q+1<=100000)(hx:v.x+1<=100000):∃s1 v' s' n,eG s=some (none,s1)/\O1 s1 s' n/\n<=4/\Inv v' now snaps s'/\s'.r7=[]/\Alike v v'/\v'.q<=v.q+1/\v'.x<=v.x+1/\s'.Wr=kN v.fb v.ob/\s'.j0.2.2=[]/\(s.Wr=kN v.fb v.ob->s.j0.2.2=[]->s'.sent=v.h):=by
 have ab:=vY v.fb v.ob;obtain⟨s1,M,i1,f1,g1,c⟩:=DK h;have p1:∀y,kY ([]:List (Bool×Bool×List Int)) y=[y]:=λy=>rfl;have p2:∀x y,kY [x] y=([x,y]:List (Bool×Bool×List Int)):=λx y=>rfl;have one:s1.r7=[(true,false,aX (kX v.fb))]->((s.Wr<0)\/(0<=s.Wr/\s1.j0.2.2=[]/\s1.sent=v.h))->
   ∃v' s' n,O1 s1 s' n/\n<=4/\Inv v' now snaps s'/\s'.r7=[]/\Alike v v'/\v'.q<=v.q+1/\v'.x<=v.x+1/\s'.Wr=kN v.fb v.ob/\s'.j0.2.2=[]/\(s.Wr=kN v.fb v.ob->s.j0.2.2=[]->s'.sent=v.h):=by
  intro iw hc;obtain⟨V,s2,N,X,d3,d4,d5,O,d7,x,y,P,u⟩:=Mt i1 (r:=[]) (by simp) iw;rw[rh] at u;obtain⟨q',s3,Q,R,b3,b4,D,G⟩:=zT (v:={ v with x:=V }) X (r:=[]) P u;simp only at b3 G;refine⟨_,s3,2,.cons (by rw[iw];simp) N (.cons (by rw[u];simp) Q (.nil D)),by omega,R,D,⟨rfl,rfl,rfl,rfl⟩,by simp only;omega,by simp only;omega,?_⟩;rw[d5,g1] at G;rcases G with⟨A,B,z3⟩|⟨A,B,z3,z4,z5⟩
  ·exact⟨B,z3,λc=>by omega⟩
  ·rcases hc with c |⟨c1,C,K⟩
   ·omega
   ·exact⟨by rw[z3,A],by rw[z4,O,C],λ_ _=>by rw[z5,d7,K]⟩
 rcases c with⟨c1,C⟩|⟨c1,C,K,S⟩|⟨c1,m,C,K,S,T⟩
 ·rw[hn,p1] at C;obtain⟨v',s',n,r⟩:=one C (.inl c1);exact⟨s1,v',s',n,M,r⟩
 ·rw[hn,p1] at S;obtain⟨v',s',n,r⟩:=one S (.inr ⟨c1,C,K⟩);exact⟨s1,v',s',n,M,r⟩
 ·rw[hn,p1,p2] at T;obtain⟨V,s2,N,X,d3,d4,d5,O,d7,x,y,P,u⟩:=Mt i1 (r:=[_]) (by simp) T;rw[aG8] at u;have L:s2.Wr=s.Wr:=by rw[d5,g1]
  rw[<-L] at u;obtain⟨k',x2,s3,Q,R,b3,b4,D,G,b7,b8⟩:=HJ (v:={ v with x:=V }) X (by simp only;omega) (by rw[L];exact c1) (m:=m) (by rw[O,C]) K (r:=[_]) (by simp) d4 u;simp only at b3 b4 b8;rcases b8 with⟨A,B⟩|⟨A,B⟩
  ·rw[aG8] at B;obtain⟨q',s4,w1,w2,w3,w4,E,I⟩:=zT (v:={ v with k:=k',x:=x2 }) R (j:=v.k) (x:=x) (y:=y) (r:=[_]) P B;simp only at w3 I;rcases I with⟨F,_⟩|⟨F,y2,y3,y4,y5⟩
   ·rw[D,A] at F;omega
   ·have U:s4.Wr=s2.Wr:=(by rw[y3,D]);rw[<-U,<-y2] at E;obtain⟨q3,s5,t1,t2,t3,t4,t5,t6,t7,t8⟩:=OG (v:={ v with k:=k',q:=q',x:=x2 }) w2 (by simp only;omega) (by rw[U,L];exact c1) (m:=m) (by rw[y4,G,O,C]) (r:=[]) E;simp only at t3;refine⟨s1,_,s5,4,M,.cons (by rw[T];simp) N (.cons (by rw[u];simp) Q (.cons (by rw[B];simp) w1 (.cons (by rw[E];simp) t1 (.nil t5)))),gC _,t2,t5,⟨rfl,rfl,rfl,rfl⟩,by simp only;omega,by simp only;omega,by rw[t6,U,A],t7,λ_ e=>?_⟩;rw[t8,y5,b7,d7];exact S e
  ·obtain⟨q',s4,w1,w2,w3,w4,E,I⟩:=zT (v:={ v with k:=k',x:=x2 }) R (j:=v.k) (x:=x) (y:=y) (r:=[]) P B;simp only at w3 I;rcases I with⟨F,y2,y3⟩|⟨F,_⟩
   ·refine⟨s1,_,s4,3,M,.cons (by rw[T];simp) N (.cons (by rw[u];simp) Q (.cons (by rw[B];simp) w1 (.nil E))),by omega,w2,E,⟨rfl,rfl,rfl,rfl⟩,by simp only;omega,by simp only;omega,y2,y3,λe=>?_⟩;rw[L,e] at A;exact absurd rfl A
   ·rw[D] at F;exact absurd F A
theorem HK(h:Inv v now snaps s)(hq:s.j0.2.2=[])(hs:s.sent=v.h):s.safe=v.h:=by
 have u:=h.low hq;have A:=h.safe;have B:=h.kh;omega
end
section
variable {v:Nm}{now:List aD}{snaps:List (List aD)}{s:PS}
abbrev HL:=(Int×(List (Int×aD))×(List (Int×(List (Int×aD))))×Bool)×Int×(Int×Int×(List (Int×(List Int)×(List aD))))×Int×Int×Int×Int×(Int×Int)×(List Int)×Int×((List aD)×(List (Int×aD))×Int)×(List (Bool×Bool×(List Int)))
def kA(s:PS):HL:=(s.j8,s.Wr,s.j0,s.sent,s.safe,s.B4,s.first,s.receiver,s.j7,s.K8,s.od,s.r7)
def nH(z:PS)(t:HL):PS:={ z with j8:=t.1,Wr:=t.2.1,j0:=t.2.2.1,sent:=t.2.2.2.1,safe:=t.2.2.2.2.1,B4:=t.2.2.2.2.2.1,first:=t.2.2.2.2.2.2.1,receiver:=t.2.2.2.2.2.2.2.1,j7:=t.2.2.2.2.2.2.2.2.1,K8:=t.2.2.2.2.2.2.2.2.2.1,od:=t.2.2.2.2.2.2.2.2.2.2.1,r7:=t.2.2.2.2.2.2.2.2.2.2.2 }
theorem xK{z s s':PS}(hz:s=nH z (kA s))(hd:bK 0 s=some (none,s')):s'=nH z (kA s')/\bJ 0 z.n z.fn z.B2 z.y8 z.blocks s.j8 z.past s.Wr s.j0 s.sent s.safe s.j7 z.on s.B4 z.u4 s.first s.receiver s.r7 z.P2 z.fd s.K8 s.od=some (none,s'.j8,s'.Wr,s'.j0,s'.sent,s'.safe,s'.j7,s'.B4,s'.first,s'.receiver,s'.r7,s'.K8,s'.od):=by
 generalize kA s=t at hz;subst hz;unfold bK at hd;cases hm:bJ 0 (nH z t).n (nH z t).fn (nH z t).B2 (nH z t).y8 (nH z t).blocks (nH z t).j8 (nH z t).past (nH z t).Wr (nH z t).j0 (nH z t).sent (nH z t).safe (nH z t).j7 (nH z t).on (nH z t).B4 (nH z t).u4 (nH z t).first (nH z t).receiver (nH z t).r7 (nH z t).P2 (nH z t).fd (nH z t).K8 (nH z t).od with
 |none=>grind
 |some r=>
  obtain⟨u,A⟩:=r;rw[hm] at hd;obtain⟨rfl,rfl⟩:=hd;exact⟨rfl,hm⟩
theorem Mu{z s s':PS}(hz:s=nH z (kA s))(hd:eG s=some (none,s')):s'=nH z (kA s')/\s'.j8=s.j8/\s'.Wr=s.Wr/\s'.safe=s.safe/\s'.B4=s.B4/\s'.first=s.first/\s'.receiver=s.receiver/\s'.K8=s.K8/\s'.od=s.od/\bO z.n z.fn z.B2 z.y8 z.blocks s.j8 z.past s.Wr s.j0 s.sent s.safe s.j7 z.on s.B4 z.u4 s.first s.receiver s.r7 z.P2 z.fd s.K8 s.od=some (none,s'.j0,s'.sent,s'.j7,s'.r7):=by
 generalize kA s=t at hz;subst hz;unfold eG at hd;cases hm:bO (nH z t).n (nH z t).fn (nH z t).B2 (nH z t).y8 (nH z t).blocks (nH z t).j8 (nH z t).past (nH z t).Wr (nH z t).j0 (nH z t).sent (nH z t).safe (nH z t).j7 (nH z t).on (nH z t).B4 (nH z t).u4 (nH z t).first (nH z t).receiver (nH z t).r7 (nH z t).P2 (nH z t).fd (nH z t).K8 (nH z t).od with
 |none=>rw[hm] at hd;cases hd
 |some r=>
  obtain⟨u,A⟩:=r;rw[hm] at hd;obtain⟨rfl,rfl⟩:=hd;exact⟨rfl,rfl,rfl,rfl,rfl,rfl,rfl,rfl,rfl,hm⟩
theorem OH{z s:PS}(hz:s=nH z (kA s))(h:Inv v now snaps s)(r:Int×aD×Int×Int×Int×List aD):cL r z.n z.fn z.B2 z.y8 z.blocks s.j8 z.past s.Wr s.j0 s.sent s.safe s.j7 z.on s.B4 z.u4 s.first s.receiver s.r7 z.P2 z.fd s.K8 s.od=some ((r.1,r.2.1,(v.h:Int),s.safe,(v.k:Int),snaps.getD v.k []),none):=by
 have u:=Sh h r;generalize kA s=t at hz;subst hz;unfold qI at u;cases hm:cL r (nH z t).n (nH z t).fn (nH z t).B2 (nH z t).y8 (nH z t).blocks (nH z t).j8 (nH z t).past (nH z t).Wr (nH z t).j0 (nH z t).sent (nH z t).safe (nH z t).j7 (nH z t).on (nH z t).B4 (nH z t).u4 (nH z t).first (nH z t).receiver (nH z t).r7 (nH z t).P2 (nH z t).fd (nH z t).K8 (nH z t).od with
 |none=>rw[hm] at u;cases u
 |some r=>
  obtain⟨A,B⟩:=r;rw[hm] at u;obtain⟨rfl,rfl,_⟩:=u;exact hm
theorem AA{δ:Type}{z:PS}{step:HL->Option (Step HL δ)}{fin:HL->δ}(hs:∀s s',s=nH z (kA s)->s.r7≠ []->bK 0 s=some (none,s')->step (kA s)=some (.next (kA s')))(he:∀s,s.r7=[]->step (kA s)=some (.done (fin (kA s)))):∀{s s' n},O1 s s' n->s=nH z (kA s)->∀f,n<f->loop step f (kA s)=some (fin (kA s'))/\s'=nH z (kA s'):=by
 intro s s' n t
 induction t with
 |nil h=>
  intro u f A;obtain⟨f,rfl⟩:∃g,f=g+1:=⟨f - 1,by omega⟩
  grind [Go.A1.I7]
 |cons h hd t B=>
  intro u f A;obtain⟨f,rfl⟩:∃g,f=g+1:=⟨f - 1,by omega⟩;rw[Go.A1.K6 (hs _ _ u h hd)];exact B (xK u hd).1 f (by omega)
theorem zU{z s s':PS}{n:Nat}(t:O1 s s' n):s=nH z (kA s)->s'=nH z (kA s'):=by
 induction t with
 |nil h=>simp
 |cons h hd t A=>exact λu=>A (xK u hd).1
theorem Wu{δ:Type}{z:PS}{step:Int×HL->Option (Step (Int×HL) δ)}{fin:Nat->PS->δ}(hs:∀(tk:Nat) (s s' s1:PS) (n:Nat),tk<=3->s=nH z (kA s)->O1 s s' n->n<=200->s'.safe≠z.B2->eG s'=some (none,s1)->step ((tk:Int),kA s)=some (.next (((tk+1:Nat):Int),kA s1)))(he:∀(tk:Nat) (s s':PS) (n:Nat) (v':Nm),Inv v' now snaps s'->tk<=3->s=nH z (kA s)->O1 s s' n->n<=200->s'.safe=z.B2->step ((tk:Int),kA s)=some (.done (fin tk s')))(h:Inv v now snaps z)(hq:v.q+200<=100000)(hx:v.x+200<=100000):∃tk v' s',tk<=3/\Inv v' now snaps s'/\v'.h=v.h/\s'.safe=v.h/\loop step bR ((0:Int),kA z)=some (fin tk s'):=by
 have ae:=h.enum;have hw:=aDc z.r7;have nu:=h.fp;obtain⟨L,s1,M,B,d2,C,d4,u,d6,d7⟩:=Ws 128 h (by omega) (by omega) (by omega);have z0:z=nH z (kA z):=rfl;have S:=zU B z0;by_cases c1:s1.safe=z.B2
 ·exact⟨0,L,s1,by omega,C,u.h,by omega,Go.A1.I7 (f:=1125899906842623) (he 0 z s1 M L C (by omega) z0 B (by omega) c1)⟩
 ·obtain⟨t1,N,s2,O,P,D,e3,E,e5,F,e7,e8,e9,ab,af⟩:=Wt C d4 (by omega) (by omega);have A:=(Mu S P).1;have T:=zU D A;have g1:=u.h;have U:=u.fb;have V:=u.ob;have g4:=F.h;have X:=F.fb;have g6:=F.ob;have p1:loop step bR ((0:Int),kA z)=loop step 1125899906842623 (((0+1:Nat):Int),kA t1):=Go.A1.K6 (f:=1125899906842623) (hs 0 z s1 t1 M (by omega) z0 B (by omega) c1 P);by_cases K:s2.safe=z.B2
  ·exact⟨1,N,s2,by omega,E,by omega,by omega,p1.trans (Go.A1.I7 (f:=1125899906842622) (he 1 t1 s2 O N E (by omega) A D (by omega) K))⟩
  ·obtain⟨G,Q,s3,n3,R,f2,f3,I,f5,f6,f7,f8,f9,ac,ad⟩:=Wt E e5 (by omega) (by omega);have y2:=(Mu T R).1;have g7:=f6.h;have ym:=HK I ac (by rw[ad (by rw[e9,X,g6,U,V]) ab];omega);have p2:loop step 1125899906842623 (((0+1:Nat):Int),kA t1)=loop step 1125899906842622 (((1+1:Nat):Int),kA G):=Go.A1.K6 (f:=1125899906842622) (hs 1 t1 s2 G O (by omega) A D (by omega) K R);exact⟨2,Q,s3,by omega,I,by omega,by omega,p1.trans (p2.trans (Go.A1.I7 (f:=1125899906842621) (he 2 G s3 n3 Q I (by omega) y2 f2 (by omega) (by omega))))⟩
theorem Wv{γ:Type}{z:PS}{step:HL->Option (Step HL (Ex HL γ))}{k:HL->Option γ}(hs:∀s s',s=nH z (kA s)->s.r7≠ []->bK 0 s=some (none,s')->step (kA s)=some (.next (kA s')))(he:∀s,s.r7=[]->step (kA s)=some (.done (.u9 (kA s)))){s s':PS}{n:Nat}(t:O1 s s' n)(hz:s=nH z (kA s))(hn:n<=200):lp step (kA s) k=k (kA s'):=by
 unfold lp;rw[(AA hs he t hz bR (by unfold bR;omega)).1]
theorem HM{γ:Type}{z:PS}{step:Int×HL->Option (Step (Int×HL) (Ex Unit γ))}{fin:Nat->PS->γ}{k:Unit->Option γ}(G:Nat->γ)(hs:∀(tk:Nat) (s s' s1:PS) (n:Nat),tk<=3->s=nH z (kA s)->O1 s s' n->n<=200->s'.safe≠z.B2->eG s'=some (none,s1)->step ((tk:Int),kA s)=some (.next (((tk+1:Nat):Int),kA s1)))(he:∀(tk:Nat) (s s':PS) (n:Nat) (v':Nm),Inv v' now snaps s'->tk<=3->s=nH z (kA s)->O1 s s' n->n<=200->s'.safe=z.B2->step ((tk:Int),kA s)=some (.done (.ret (fin tk s'))))(h:Inv v now snaps z)(hq:v.q+200<=100000)(hx:v.x+200<=100000)(hG:∀(tk:Nat) (v':Nm) (s':PS),Inv v' now snaps s'->v'.h=v.h->s'.safe=v.h->fin tk s'=G tk):∃tk:Nat,tk<=3/\lp step ((0:Int),kA z) k=some (G tk):=by
 obtain⟨tk,v',s',u,A,B,C,D⟩:=Wu hs he h hq hx
 grind [lp]
theorem HN{v now snaps s ds rs v2 J6 A4 s2}(t:ov v now snaps s ds rs v2 J6 A4 s2):v2.q<=v.q+ds.length/\v2.x<=v.x+ds.length:=by
 induction t with
 |nil h=>simp
 |cons h u hd A g t B=>
  have:=g.q;have:=g.x
  grind
theorem Ww{n:Nat}(h0:1<=n)(h1:n<=32){ds:List nG}(hl:300<ds.length):dY (n:Int) ds=some ((0,aE,0,0,0,[]),0,some 2):=by
 have c1:cm .lss (n:Int) (1:Int)=false:=by rw[cl];grind
 have u:cm .gtr (n:Int) (32:Int)=false:=by grind [cg,decide_eq_false]
 have A:cm .gtr (ds.length:Int) (300:Int)=true:=by grind [cg,decide_eq_true]
 unfold dY eE;rw[c1,u,A];rfl
theorem HO{n:Nat}(h0:1<=n)(h1:n<=32){ds:List nG}(hl:ds.length<=300){s0:PS}(D9:fJ (n:Int)=some (some (q9 s0),none)){rs v2 J6 A4 s2}(t:ov ⟨n,0,1,1,0,0,0⟩ (List.replicate n aE) [List.replicate n aE] s0 ds rs v2 J6 A4 s2)(h:Inv v2 J6 A4 s2):∃tk:Nat,tk<=3/\dY (n:Int) ds=some ((0,aE,(v2.h:Int),(v2.h:Int),(v2.h:Int),A4.getD v2.h []),(tk:Int),none):=by
 have K:=OF h0 h1 hl D9 t;obtain⟨X,gx⟩:=HN t;simp only at X gx;have L8:=h.V3;have Z7:=h.enum;unfold dY;rw[K,cA];simp only[lJ,fA,cG];refine HM (z:=s2) (fin:=λtk u=>((0,aE,(v2.h:Int),u.safe,u.B4,A4.getD u.B4.toNat []),(tk:Int),none)) (λtk=>((0,aE,(v2.h:Int),(v2.h:Int),(v2.h:Int),A4.getD v2.h []),(tk:Int),none)) ?_ ?_ h (by omega) (by omega) ?_
 ·intro tk s u s1 n S C hd D E T;obtain⟨_,t1,t2,t3,t4,t5,t6,t7,t8,t9⟩:=Mu (zU hd C) T;refine(Wv (z:=s2) ?_ ?_ hd C D).trans ?_
  ·intro a U F A G;have c:cm .gtr (a.r7.length:Int) (0:Int)=true:=(by rw[cg];exact pF (by have:=aD4.2 A;omega));have e:=(xK F G).2;simp only[kA,q9,c,fE,e,cA,fA,cG]
  ·intro a A;have c:cm .gtr (a.r7.length:Int) (0:Int)=false:=(by rw[A];rfl);simp only[kA,c,cG]
  ·have c1:cm .eql u.safe s2.B2=false:=(by rw[ce];exact cT E);have L:cm .eql (tk:Int) (200:Int)=false:=(by rw[ce];exact cT (by omega));have M:ar .add .i64 (tk:Int) 1=((tk+1:Nat):Int):=L3 (by omega);simp only[kA,q9,c1,L,cG,cA,t9,fA,M,t1,t2,t3,t4,t5,t6,t7,t8]
 ·intro tk s u n I B S C hd D E;refine(Wv (z:=s2) ?_ ?_ hd C D).trans ?_
  ·intro a U F A G;have c:cm .gtr (a.r7.length:Int) (0:Int)=true:=(by rw[cg];exact pF (by have:=aD4.2 A;omega));have e:=(xK F G).2;simp only[kA,q9,c,fE,e,cA,fA,cG]
  ·intro a A;have c:cm .gtr (a.r7.length:Int) (0:Int)=false:=(by rw[A];rfl);simp only[kA,c,cG]
  ·have c1:cm .eql u.safe s2.B2=true:=(by rw[ce];exact pF E);have N:=OH (zU hd C) B ((0:Int),aE,(0:Int),(0:Int),(0:Int),([]:(List aD)));have O:=B.jb;have P:I.h=v2.h:=(by have:=B.hs;have:=h.hs;omega);simp only[kA,q9,c1,fE,cA];rw[N];simp only[cA,O,gR,P]
 ·intro tk I u B hh V;have h1:=B.safe;have h2:=B.kh;have Q:=B.jb;have R:I.k=v2.h:=by omega
  simp only[V,Q,R,gR]
end
theorem OI{n:Nat}(h0:1<=n)(h1:n<=32){ds:List nG}(hl:300<ds.length):iU (n:Int) ds=some ([],some 2):=by
 have c1:cm .lss (n:Int) (1:Int)=false:=by rw[cl];exact cT (by omega)
 have u:cm .gtr (n:Int) (32:Int)=false:=by rw[cg];exact cT (by omega)
 have A:cm .gtr (ds.length:Int) (300:Int)=true:=by rw[cg];exact pF (by omega)
 unfold iU eE;rw[c1,u,A];rfl
theorem YY{n:Nat}(h0:1<=n)(h1:n<=32){ds:List nG}(hl:ds.length<=300){s0:PS}(D9:fJ (n:Int)=some (some (q9 s0),none)){v now snaps rs v2 J6 A4 s2}(t:ov v now snaps s0 ds rs v2 J6 A4 s2):eE (n:Int) ds=some (some (q9 s2),rs,none)/\iU (n:Int) ds=some (rs,none):=by
 have u:=OF h0 h1 hl D9 t;refine⟨u,?_⟩;unfold iU;rw[u];rfl
end Go.B1
namespace Go.bn
open Go Go.Sw Go.Mo Go.Pl
section
open Go.B1 hiding C9 E5
def Qe:List nG->List aD->List (List aD)->Option (List aD×List (List aD)) | [],now,snaps=>some (now,snaps) | d::ds,now,snaps=>(bU now snaps d).bind λr=>Qe ds r.2.2.1 r.2.2.2
theorem Wx{v now snaps s ds rs v2 J6 A4 s2}(t:ov v now snaps s ds rs v2 J6 A4 s2):Qe ds now snaps=some (J6,A4)/\v2.n=v.n:=by
 induction t with
 |nil h=>exact⟨rfl,rfl⟩
 |cons h A hd B g t u=>exact⟨by simp only[Qe,A,cA];exact u.1,u.2.trans g.n⟩
theorem Qf{x:nG}:∀{ds:List nG} {v now snaps s rs v2 J6 A4 s2},ov v now snaps s (ds++[x]) rs v2 J6 A4 s2->∃rs1 iS E2 c d aZ7 aM3,Qe ds now snaps=some (aZ7,aM3)/\bU aZ7 aM3 x=some (iS,E2,J6,A4)/\rs=rs1++[(iS,E2,(v2.h:Int),c,d)]
 | [],_,_,_,_,_,_,_,_,_,t=>by
  cases t with
  |cons h u hd D g t=>cases t with | nil=>exact⟨[],_,_,_,_,_,_,rfl,u,rfl⟩
 |d::ds,_,_,_,_,_,_,_,_,_,t=>by
  cases t with
  |cons h u hd D g t=>
   obtain⟨rs1,iS,E2,c,e,A,s1,B,C,rfl⟩:=Qf t;exact⟨_::rs1,iS,E2,c,e,A,s1,by simp only[Qe,u,cA];exact B,C,rfl⟩
structure Sim (n:Nat) (ds:List nG) (now:List aD) (snaps:List (List aD)):Prop where
 n0:1<=n
 n1:n<=32
 l:ds.length<=300
 ok:∀d∈ds,xW d
 all:Qe ds (List.replicate n aE) [List.replicate n aE]=some (now,snaps)
variable {n:Nat}{ds:List nG}{now:List aD}{snaps:List (List aD)}
theorem TZ(h0:1<=n)(h1:n<=32):Sim n [] (List.replicate n aE) [List.replicate n aE]:=⟨h0,h1,by simp,by simp,rfl⟩
theorem Sim.aNa(h:Sim n ds now snaps):∃(k tk:Nat),k<=100000/\snaps.length=k+1/\now.length=n/\(snaps.getD k []).length=n/\(∀b∈now,C9 b)/\(∀b∈snaps.getD k [],C9 b)/\dY (n:Int) ds=some ((0,aE,(k:Int),(k:Int),(k:Int),snaps.getD k []),(tk:Int),none):=by
 obtain⟨K,L,C,M,N,s2,G,O,D,P,u⟩:=Ms h.n0 h.n1 h.l h.ok;obtain⟨A,E⟩:=Wx D;rw[h.all] at A;simp only[W6,qe] at A;obtain⟨rfl,rfl⟩:=A;obtain⟨tk,_,I⟩:=HO h.n0 h.n1 h.l G D u;have F:=u.hs;have B:snaps.getD C.h []∈snaps:=by rw[vo,sE (by omega)];exact aEe _
 exact⟨C.h,tk,u.V3.1,F,by rw[u.ep.np,E],by rw[u.ep.len _ B,E],u.nok,u.bok _ B,I⟩
theorem Sim.step(h:Sim n ds now snaps){x:nG}(hx:xW x)(hl:ds.length<300):∃iS E2 V7 D2 l,∃k:Nat,∃e,bU now snaps x=some (iS,E2,V7,D2)/\iU (n:Int) (ds++[x])=some (l++[(iS,E2,(k:Int),e)],none)/\l.length<=300/\k<=100000/\D2.length=k+1/\Sim n (ds++[x]) V7 D2:=by
 have u:(ds++[x]).length<=300:=by simp;omega
 have B:∀d∈ds++[x],xW d:=λd hd=>(oq.1 hd).elim (h.ok d) λh=>by rw[aFf.1 h];exact hx
 obtain⟨O,P,F,G,I,s2,K,Q,A,L,C⟩:=Ms h.n0 h.n1 u B;have D:=(YY h.n0 h.n1 u K A).2;have E:=(Wx A).1;obtain⟨M,iS,E2,c,d,R,s1,c1,N,rfl⟩:=Qf A;rw[h.all] at c1;simp only[W6,qe] at c1;obtain⟨rfl,rfl⟩:=c1;exact⟨iS,E2,G,I,M,F.h,(c,d),N,D,by simp at L;omega,C.V3.1,C.hs,h.n0,h.n1,u,B,E⟩
theorem bs{α β:Type}{o:Option α}{f:α->Option β}{r:β}(e:o.bind f=some r):∃z,o=some z/\f z=some r:=by
 cases o with
 |none=>cases e
 |some z=>exact⟨z,rfl,e⟩
theorem cs{b:Bool}{β:Type}{u v:Option β}{r:β}(e:(bif b then u else v)=some r):u=some r\/v=some r:=by
 cases b
 ·exact .inr e
 ·exact .inl e
theorem UA{x:nG}{iS:Int}{E2:aD}{V7:List aD}{D2:List (List aD)}(h:bU now snaps x=some (iS,E2,V7,D2)):(iS=0/\(E2=aE\/E2∈now))\/((iS=1\/iS=3)/\V7=now/\D2=snaps):=by
 unfold bU at h;obtain⟨_,_,h⟩:=bs h;rcases cs h with h | h
 ·cases h;exact .inr ⟨.inr rfl,rfl,rfl⟩
 obtain⟨_,_,h⟩:=bs h;rcases cs h with h | h
 ·cases h;exact .inr ⟨.inl rfl,rfl,rfl⟩
 rcases cs h with h | h
 ·obtain⟨_,_,h⟩:=bs h;cases h;exact .inl ⟨rfl,.inl rfl⟩
 rcases cs h with h | h
 ·obtain⟨_,_,h⟩:=bs h;cases h;exact .inl ⟨rfl,.inl rfl⟩
 rcases cs h with h | h
 ·obtain⟨z,u,h⟩:=bs h;cases h;exact .inl ⟨rfl,.inr (aEd (iX u).2.2)⟩
 rcases cs h with h | h
 ·obtain⟨_,_,h⟩:=bs h;obtain⟨_,_,h⟩:=bs h;cases h;exact .inl ⟨rfl,.inl rfl⟩
 rcases cs h with h | h
 ·obtain⟨_,_,h⟩:=bs h;obtain⟨_,_,h⟩:=bs h;obtain⟨_,_,h⟩:=bs h;cases h;exact .inl ⟨rfl,.inl rfl⟩
 ·cases h;exact .inl ⟨rfl,.inl rfl⟩
end
section
open Go.B1 hiding C9 E5
variable {n:Nat}{ds:List nG}{now:List aD}{snaps:List (List aD)}{b0:Bool}{b1:List Int}
def aDe(k:Nat):List Int:=[101,114,114,111,114,32]++H5 k
def say(text:List Int):Option Int->List Int | none=>text | some e=>aDe e.toNat
structure zj (text:List Int) (err:Option Int):Prop where
 t:text.length<=2000
 e:∀k,err=some k->0<=k/\k<1000
theorem zj.err{k:Int}(h:0<=k/\k<1000):zj [] (some k):=⟨by simp,λ_ e=>by cases e;exact h⟩
theorem zj.text{t:List Int}(h:t.length<=2000):zj t none:=⟨h,λ_ e=>by cases e⟩
theorem Sk{k:Int}(h:0<=k/\k<1000):aN k=some (say [] (some k)):=by
 obtain⟨m,rfl⟩:∃m:Nat,k=m:=⟨k.toNat,by omega⟩;exact NK (by omega)
def tail(n:Int)(ds:List nG)(now:List aD)(snaps:List (List aD))(x:nG):Option (List Int×Int×List nG×List aD×List (List aD)):=bif (cm .eql n (0:Int)) then (aN (5:Int)).bind λv=>some (v,n,ds,now,snaps) else bif (cm .eql (ds.length:Int) (300:Int)) then (aN (2:Int)).bind λv=>some (v,n,ds,now,snaps) else (bU now snaps x).bind λu=>bif (cm .neq u.1 (0:Int)) then (aN u.1).bind λB=>some (B,n,ds,u.2.2.1,u.2.2.2) else (Sw.app ds [x]).bind λA=>bif (cm .eql x.1 (2:Int)) then (sW u.2.1).bind λC=>some (C,n,A,u.2.2.1,u.2.2.2) else (bT u.2.2).bind λD=>(fU bR D).bind λE=>some (E,n,A,u.2.2.1,u.2.2.2)
theorem Sl{l:List (List aD)}{k:Nat}(h:l.length=k+1)(hk:k<=100000):bT (now,l)=some (k:Int):=by
 unfold bT;rw[bw (by simp only;omega)];simp only;congr 1;omega
theorem DQ{α:Type}(l:List α):FQ l (l.length:Int) (l.length:Int)=some l:=by unfold FQ;rw[sM ⟨rfl,rfl⟩]
theorem wA{k:Nat}(h:k<10000000):(H5 k).length<=7:=yM 6 k h
theorem OJ(h:Sim n ds now snaps){x:nG}(hx:xW x):∃text err sg V7 D2,bP x b0 b1 (n:Int) ds=some (text,err,sg)/\tail (n:Int) ds now snaps x=some (say text err,(n:Int),sg,V7,D2)/\Sim n sg V7 D2/\zj text err:=by
 have E:=h.n0;have F:=h.n1;have Q:=h.l;have G:cm .eql (n:Int) 0=false:=by rw[ce];exact cT (by omega)
 have I:Sw.app ds [x]=some (ds++[x]):=j1 _ _ (by simp;omega);unfold bP tail;rw[G,DQ];simp only[cG,cA,I];by_cases R:ds.length=300
 ·have u:cm .eql (ds.length:Int) 300=true:=by rw[ce];exact pF (by omega)
  rw[u,OI E F (by simp;omega)];exact⟨[],some 2,ds,now,snaps,rfl,by rw[fE,Sk (by omega)];rfl,h,.err (by omega)⟩
 ·have u:cm .eql (ds.length:Int) 300=false:=by rw[ce];exact cT (by omega)
  obtain⟨iS,E2,V7,D2,l,k,e,C,M,S,N,O,D⟩:=h.step hx (by omega);have K:ar .sub .i64 ((l++[(iS,E2,(k:Int),e)]).length:Int) 1=(l.length:Int):=by rw[bw (by simp;omega)];simp
  have L:Sw.idx (l++[(iS,E2,(k:Int),e)]) (l.length:Int)=some (iS,E2,(k:Int),e):=pM (by simp);rw[u,M];simp only[cG,cA,fA,K,L,C,cn];rcases UA C with⟨rfl,P⟩|⟨T,rfl,rfl⟩
  ·rw[cT (by omega)];simp only[cG,ce];obtain⟨_,_,_,_,_,_,q,_⟩:=h.aNa;have A:C9 E2:=P.elim (λh=>h ▸ E5) (q E2);by_cases B:x.1=2
   ·rw[pF B];simp only[fE,NJ A,Px A,cA];exact⟨_,none,_,_,_,rfl,rfl,D,.text (by rw[yL,A.1];omega)⟩
   ·rw[cT B];simp only[cG,DF,Sl O N,TN (show k<10000000 by omega),cA];exact⟨_,none,_,_,_,rfl,rfl,D,.text (by have:=wA (show k<10000000 by omega);omega)⟩
  ·rw[pF (by omega)];simp only[fE,Sk (show 0<=iS/\iS<1000 by omega),cA];exact⟨[],some iS,ds,_,_,rfl,rfl,h,.err (by omega)⟩
theorem HP(h:Sim n ds now snaps)(a:Int)(w:List (List Int)):∃text,eK a w b0 b1 (n:Int) ds=some (text,none,b0,b1,(n:Int),ds)/\text.length<=2000/\((bT (now,snaps)).bind λv96=>(Sw.idx snaps v96).bind λz97=>(qY z97).bind λv98=>(bT (now,snaps)).bind λaUs=>(fU bR aUs).bind λv107=>(sB v107 ([32]:List Int)).bind λaU2=>(Sw.idx v98 (ar .sub .i64 (v98.length:Int) (1:Int))).bind λz109=>(Sw.idx z109 (0:Int)).bind λtc=>(kJ bR tc).bind λaUr=>(sB aU2 aUr).bind λaU1=>some (aU1,(n:Int),ds,now,snaps))=some (text,(n:Int),ds,now,snaps):=by
 obtain⟨k,tk,R,S,a3,a4,a5,K,T⟩:=h.aNa;have U:=h.n0;have V:=h.n1;have L:cm .eql (n:Int) 0=false:=by rw[ce];exact cT (by omega)
 have M:Sw.idx snaps (k:Int)=some (snaps.getD k []):=pM (by rw[vo,sE (by omega)];rfl);generalize hp:snaps.getD k []=peer at*;have C:=lx.aSl peer K (by omega);rw[nS (by omega)] at C;have N:=lx.aKo peer K (by omega);have D:=lx.um peer (by omega);have O:=D.ne;have P:=lx.yf peer;obtain⟨u,B,A⟩:∃u B,lx.tree peer=u++[B]:=⟨_,_,(aGk O).symm⟩;have Q:B.length=1:=by
  rcases D.at u [] B A with⟨_,h⟩|⟨m,r,h,_⟩
  ·exact h
  ·cases h
 obtain⟨z,rfl⟩:=aEk.1 Q;have X:=(lx.yg peer (by omega) [z] (by rw[A];simp)).1 z (by simp);obtain⟨m,rfl⟩:∃m:Nat,z=m:=⟨z.toNat,by omega⟩;have E:ar .sub .i64 ((u++[[(m:Int)]]).length:Int) 1=(u.length:Int):=by rw[A] at P;rw[bw (by simp at*;omega)];simp
 have F:Sw.idx (u++[[(m:Int)]]) (u.length:Int)=some [(m:Int)]:=pM (by simp);have G:Sw.idx [(m:Int)] 0=some (m:Int):=rfl;have hk:=wA (show k<10000000 by omega);have hm:=yM 19 m (by omega);have c1:sB (H5 k) [32]=some (H5 k++[32]):=by unfold sB;rw[sM (by simp;omega)]
 have I:sB (H5 k++[32]) (H5 m)=some (H5 k++[32]++H5 m):=by unfold sB;rw[sM (by simp;omega)]
 refine⟨H5 k++[32]++H5 m,?_,by simp;omega,?_⟩
 ·unfold eK dW;rw[L,cG,T,cA,cA];simp only[fA,cG,C,cA,DF,c1,A,E,F,G,fu',I]
 ·rw[Sl S R,cA,M,cA,N,cA,A];simp only[cA,TN (show k<10000000 by omega),c1,E,F,G,aC8 (show m<18446744073709551616 by omega),I]
end
section
open Go.B1 hiding C9 E5 J5 ru
open Go.I9 (J5 Pt Iq same F1 K2 fo Ib Lu W9 D5 Gw)
variable {n:Nat}{ds:List nG}{now:List aD}{snaps:List (List aD)}{b0:Bool}{b1:List Int}
def pT(q:J5):List Int:=H5 q.1.toNat++[32]++H5 q.2.1.toNat++[32]++H5 q.2.2.1.toNat++(if q.2.1=3 then [32]++Ag q.2.2.2 else [])
def jn:List (List Int)->List Int | []=>[] | x::r=>x++(r.map ([124]++ ·)).flatten
theorem YZ{l:List (List Int)}(h:l≠ [])(y:List Int):jn (l++[y])=jn l++[124]++y:=by
 obtain⟨x,r,rfl⟩:=aEh h;simp[jn]
theorem Sn(l:List UInt8):C2 (ui l):=λb u=>by
 obtain⟨x,_,rfl⟩:=ot.1 u;have:=x.toNat_lt;simp at*;omega
theorem yO{a b:List Int}(h:C2 a)(k:C2 b):C2 (a++b):=λx u=>(oq.1 u).elim (h x) (k x)
theorem OL(b:aD):C2 (Ag b):=λx B=>by
 obtain⟨y,_,h⟩:=aHi.1 B;have u:∀i,0<=bq.getD i 0/\bq.getD i 0<=255:=λi=>by
  by_cases A:i<16
  ·exact(by decide:∀i<16,0<=bq.getD i 0/\bq.getD i 0<=255) i A
  ·rw[show bq.getD i 0=0 by rw[vo,zy (by simp;omega)];rfl];omega
 simp only[sK,aEq,aHl] at h;rcases h with rfl | rfl<;>exact u _
theorem UB(q:J5):C2 (pT q):=by
 have s:C2 [32]:=by unfold C2;decide
 unfold pT;refine yO (yO (yO (yO (yO (Sn _) s) (Sn _)) s) (Sn _)) ?_;split
 ·exact yO s (OL _)
 ·exact λ_ h=>by cases h
theorem OM{m:Nat}:∀{l:List (List Int)},(∀x∈l,x.length<=m)->(jn l).length<=l.length*(m+1)
 | [],_=>by simp[jn]
 |x::r,h=>by
  have C:=h x kg;have:∀(r:List (List Int)),(∀x∈r,x.length<=m)->(r.map ([124]++ ·)).flatten.length<=r.length*(m+1):=by
   intro r
   induction r with
   |nil=>simp
   |cons y r B=>
    intro h;have D:=h y kg;have A:=B λx u=>h x (kf _ u);simp only[V0,aG9,cM,qf,ue,aIk] at A ⊢;omega
  have A:=this r λx u=>h x (kf _ u);simp only[jn,cM,qf,aIk];omega
theorem UC(xs:List (List Int))(h:∀x∈xs,C2 x):ui (Lib.join (xs.map ub) [124])=jn xs:=by
 cases xs with
 |nil=>rfl
 |cons x r=>
  rw[V0,Lib.join_cons];unfold Lib.joinTail jn;rw[show∀a b,ui (a++b)=ui a++ui b from λa b=>aF5,Lg (h x kg)];congr 1;have u:∀y∈r,C2 y:=λy A=>h y (kf _ A);clear h
  induction r with
  |nil=>rfl
  |cons y r C=>
   have:=C λz B=>u z (kf _ B);simp only[V0,aG9] at this ⊢;rw[show∀a b,ui (a++b)=ui a++ui b from λa b=>aF5,this,show∀a b,ui (a++b)=ui a++ui b from λa b=>aF5,Lg (u y kg)];rfl
theorem UD{xs:List (List Int)}(h:∀x∈xs,C2 x)(hl:(jn xs).length<=1000000):Pa xs [124]=some (jn xs):=by
 have e:=UC xs h;have el:(Lib.join (xs.map ub) [124]).length=(jn xs).length:=by rw[<-e];simp[ui]
 unfold Pa;rw[show ub [124]=[124] from rfl,sM (by omega),e]
def y7(l:List aD):List Pt:=l.zipIdx.map λx=>((x.2:Int),x.1)
theorem Wy(pre:List aD)(x:aD):y7 (pre++[x])=y7 pre++[((pre.length:Int),x)]:=by simp[y7,List.zipIdx_append]
theorem Qg(m:Nat):∀(l:List aD) (i:Nat) (p:Int),p<i->i+l.length<=m->K2 (m:Int) p ((l.zipIdx i).map λx=>((x.2:Int),x.1))=true
 | [],_,_,_,_=>rfl
 |x::l,i,p,h,u=>by
  simp only[qf] at u;simp only[aG0,V0,K2,I9.jg];rw[Qg m l (i+1) i (by omega) (by omega),cT (by omega),cT (by omega)];rfl
structure aR9 (q:J5):Prop where
 a:0<=q.1/\q.1<1000
 k:0<=q.2.1/\q.2.1<1000
 f:0<=q.2.2.1/\q.2.2.1<1000
 b:C9 q.2.2.2
theorem ON{p:Pt}{peer:List aD}(h:0<=p.1/\p.1<1000)(hb:C9 p.2)(hp:peer.length<=32):aR9 (Iq p peer []):=by
 unfold Iq;split
 ·exact⟨h,by simp,by simp,E5⟩
 ·split
  ·rename_i u;have:=aGn u;exact⟨h,by simp,by simp only;omega,E5⟩
  ·rw[nS (by simp)];exact⟨h,by simp,by simp,hb⟩
theorem po{l:List aD}{peer:List aD}(hl:l.length<=32)(hb:∀b∈l,C9 b)(hp:peer.length<=32):∀q∈F1 (y7 l) peer [],aR9 q:=by
 intro q u;obtain⟨p,A,rfl⟩:=ot.1 u;obtain⟨x,B,rfl⟩:=ot.1 (aFg.1 A).1;obtain⟨D,E,C⟩:=List.mem_zipIdx B;exact ON (by simp only;omega) (by rw[C];exact hb _ (aEe _)) hp
theorem OO{q:J5}(h:aR9 q):(pT q).length<=40:=by
 have u:=h.a;have A:=h.k;have B:=h.f;have:=wA (k:=q.1.toNat) (by omega);have:=wA (k:=q.2.1.toNat) (by omega);have:=wA (k:=q.2.2.1.toNat) (by omega);unfold pT;split
 ·simp[yL,h.b.1];omega
 ·simp;omega
theorem UE(k:Nat):H5 k≠ []:=by
 by_cases h:k<10
 ·rw[zS h];simp
 ·rw[Ev h];simp
theorem aDf(q:J5):pT q≠ []:=by
 have:=UE q.1.toNat;unfold pT;simp[this]
theorem aDg{l:List J5}(h:l≠ []):jn (l.map pT)≠ []:=by
 obtain⟨x,r,rfl⟩:=aEh h;have:=aDf x;simp[jn,this]
theorem Bp{a b:List Int}(h:a.length+b.length<=1000000):sB a b=some (a++b):=by unfold sB;rw[sM (by omega)]
theorem AB(h:Sim n ds now snaps)(hl:ds.length<300){k:Nat}(hk:snaps.length=k+1)(hk':k<=100000)(hn:now.length=n)(hb:∀b∈now,C9 b)(hp:(snaps.getD k []).length=n):eM (n:Int) ds now snaps=some (jn ((F1 (y7 now) (snaps.getD k []) []).map pT)):=by
 have h0:=h.n0;have h1:=h.n1;have I:cm .eql (n:Int) 0=false:=by rw[ce];exact cT (by omega)
 have K:cm .eql (ds.length:Int) 300=false:=by rw[ce];exact cT (by omega)
 have M:Sw.idx snaps (k:Int)=some (snaps.getD k []):=pM (by rw[vo,sE (by omega)];rfl);unfold eM;rw[I,cG,K,cG,Sl hk hk',cA,M,cA];generalize snaps.getD k []=peer at*;refine sI (l:=now) (λi o=>(o,(i:Int))) (λu o=>o=jn ((F1 (y7 u) peer []).map pT)) (λa=>a) [] (by unfold bR;omega) rfl ?_ ?_ ?_
 ·rintro u x an o hd rfl;have A6:u.length<n:=by rw[<-hn,hd];simp
  have N:C9 x:=hb x (by rw[hd];simp);have O:∀b∈u,C9 b:=λb h=>hb b (by rw[hd];exact aHe _ h);obtain⟨q,q1,q2⟩:=Ib ((u.length:Int),x) peer [] (by simp) (by simp only;omega) (by omega) (by simp);have B:cm .lss (u.length:Int) (n:Int)=true:=by rw[cl];exact pF (by omega)
  have P:=po (l:=u) (peer:=peer) (by omega) O (by omega);have al:(jn ((F1 (y7 u) peer []).map pT)).length<=32*41:=by
   refine eo (OM (m:=40) λy T=>?_) (aEb _ ?_)
   ·obtain⟨z,F,rfl⟩:=ot.1 T;exact OO (P z F)
   ·have:=W9 (y7 u) peer [];simp[y7] at this ⊢;omega
  refine⟨jn ((F1 (y7 (u++[x])) peer []).map pT),?_,rfl⟩;rw[Wy,Lu];simp only[B,fE,jp,fF hd,cA,q1,L3 (show u.length<=_ by omega),Bool.not_not];cases hs:same ((u.length:Int),x) peer with
  |true=>simp
  |false=>
   have Q:=q2 hs;subst Q;have hk:aR9 (Iq ((u.length:Int),x) peer []):=ON (by simp only;omega) N (by omega);generalize Iq ((u.length:Int),x) peer []=q at*;generalize hL:F1 (y7 u) peer []=L at*;have t1:=hk.a;have R:=hk.k;have S:=hk.f;have d:∀{z:Int},0<=z/\z<1000->fU bR z=some (H5 z.toNat)/\(H5 z.toNat).length<=7:=λ{z} F=>by
    obtain⟨m,rfl⟩:∃m:Nat,z=m:=⟨z.toNat,by omega⟩;exact⟨TN (by omega),wA (by simp only[gR];omega)⟩
   obtain⟨d1,l1⟩:=d t1;obtain⟨d2,l2⟩:=d R;obtain⟨d3,l3⟩:=d S;have l4:(Ag q.2.2.2).length=16:=by rw[yL,hk.b.1]
   have E:∀X:List Int,X.length<=2000->((fU bR q.1).bind λU=>(sB X U).bind λV=>(sB V ([32]:List Int)).bind λab=>(fU bR q.2.1).bind λac=>(sB ab ac).bind λad=>
     (sB ad ([32]:List Int)).bind λae=>(fU bR q.2.2.1).bind λaf=>(sB ae af).bind λG=>
     bif (cm .eql q.2.1 (3:Int)) then (sB G ([32]:List Int)).bind λai=>(sW q.2.2.2).bind λaj=>(sB ai aj).bind λak=>
      some (Step.next (β:=Ex (List Int) (List Int)) (ak,((u.length+1:Nat):Int)))
     else some (.next (G,((u.length+1:Nat):Int))))=some (.next (X++pT q,((u.length+1:Nat):Int))):=by
    intro X hX;rw[d1,cA,Bp (by omega),cA,Bp (by simp;omega),cA,d2,cA,Bp (by simp;omega),cA,Bp (by simp;omega),cA,d3,cA,Bp (by simp;omega),cA,ce];unfold pT;by_cases A:q.2.1=3
    ·rw[pF A,sM A,fE,Bp (by simp;omega),cA,Px hk.b,cA,Bp (by simp;omega),cA];simp
    ·rw[cT A,nS A,cG];simp
   simp only[mu,M5,cG,aF5,V0,aGw];by_cases C:L=[]
   ·subst C;have D:decide (jn ([].map pT)=[])=true:=rfl;rw[D,show jn (List.map pT []++[pT q])=[]++pT q by simp[jn]];exact E [] (by simp)
   ·have D:decide (jn (L.map pT)=[])=false:=cT (aDg C);rw[D];simp only[aFe,fE];rw[Bp (by simp;omega),cA,YZ (by simpa using C)];exact E _ (by simp;omega)
 ·rintro o rfl;have B:cm .lss (now.length:Int) (n:Int)=false:=by rw[cl];exact cT (by omega)
  simp only[B,cG]
 ·rintro o rfl;rfl
theorem gl(h:Sim n ds now snaps)(hl:ds.length<300):Sim n (ds++[(3,0,0,aE)]) now (snaps++[now]):=by
 obtain⟨k,F,G,I,K,L,M,N,O⟩:=h.aNa;have u:xW ((3,0,0,aE):nG):=⟨by simp[B1.ru],by simp[B1.ru],E5,by decide⟩;obtain⟨iS,E2,P,Q,l,R,e,c1,S,T,U,V,D⟩:=h.step u hl;have:bU now snaps (3,0,0,aE)=some (0,aE,now,snaps++[now]):=by
  have E:=h.n1;have A:Sw.app ([]:List aD) now=some now:=by rw[j1 _ _ (by simp;omega)];rfl
  have B:fM now=some now:=by unfold fM;rw[A];rfl
  have C:Sw.app snaps [now]=some (snaps++[now]):=j1 _ _ (by simp;omega);unfold bU;rw[show (bif cm .lss (3:Int) 0 then some true else some (cm .geq (3:Int) 11))=some false from rfl];simp only[cA,cG,B,C];rfl
 rw[this] at c1;simp only[W6,qe] at c1;obtain⟨_,_,rfl,rfl⟩:=c1;exact D
theorem UF(h:Sim n ds now snaps)(a:Int)(w:List (List Int)):∃text err,fS a w b0 b1 (n:Int) ds=some (text,err,b0,b1,(n:Int),ds)/\eM (n:Int) ds now snaps=some (say text err)/\zj text err:=by
 obtain⟨k,tk,a1,K,C,a4,M,a6,a7⟩:=h.aNa;have P:=h.n0;have Q:=h.n1;have hl:=h.l;have D:cm .eql (n:Int) 0=false:=by rw[ce];exact cT (by omega)
 have R:Sw.app ds [((3:Int),(0:Int),(0:Int),aE)]=some (ds++[(3,0,0,aE)]):=j1 _ _ (by simp;omega);unfold fS dW;rw[D,cG,a7,cA,cA];simp only[fA,cG,DQ,cA,R];by_cases ac:ds.length=300
 ·have S:cm .eql (ds.length:Int) 300=true:=by rw[ce];exact pF (by omega)
  rw[Ww P Q (by simp;omega)];refine⟨[],some 2,rfl,?_,.err (by omega)⟩;unfold eM;rw[D,cG,S,fE,Sk (by omega)];rfl
 ·have T:=gl h (by omega);obtain⟨N,af,c1,c2,c3,c4,c5,c6,O⟩:=T.aNa;have A:N=k+1:=by simp at c2;omega
  have U:(snaps++[now]).getD N []=now:=by subst A;rw[<-K];simp
  rw[U] at O c6 c4;rw[O,AB h (by omega) K a1 C M a4];generalize snaps.getD k []=peer at*;simp only[cA,fA,cG];have E:=po (l:=now) (peer:=peer) (by omega) M (by omega);have F:=W9 (y7 now) peer [];have ad:(y7 now).length=n:=by simp[y7,C]
  have V:K2 (peer.length:Int) (-1) (y7 now)=true:=Qg peer.length now 0 (-1) (by omega) (by omega);have G:=fo (y7 now) peer [] (by omega) (by simp);rw[show D5 peer []=0 by unfold D5;rw[nS (by omega)];simp[Gw],nS (by simp),sM V] at G;have ae:(jn ((F1 (y7 now) peer []).map pT)).length<=32*41:=by
   refine eo (OM (m:=40) λy hy=>?_) (aEb _ (by simp;omega));obtain⟨z,I,rfl⟩:=ot.1 hy;exact OO (E z I)
  refine⟨jn ((F1 (y7 now) peer []).map pT),none,?_,rfl,.text (by omega)⟩;refine sI (l:=now) (λi o=>((i:Int),o)) (λu o=>o=y7 u) (λa=>a) [] (by unfold bR;omega) rfl ?_ ?_ ?_
  ·rintro u x ab o hd rfl;have X:u.length<32:=(by rw[hd] at C;simp at C;omega);refine⟨y7 (u++[x]),?_,rfl⟩;simp only[iN hd,fE,fF hd,cA,L3 (show u.length<=_ by omega)];rw[j1 _ _ (by simp[y7];omega),Wy];rfl
  ·rintro o rfl;simp only[bV,cG]
  rintro o rfl;rw[G,cA];simp only[fA,cG];generalize F1 (y7 now) peer []=L at*;refine sI (l:=L) (λi o=>((i:Int),o)) (λu o=>o=u.map pT) (λa=>a) [] (by unfold bR;omega) rfl ?_ ?_ ?_
  ·rintro u q ab o hd rfl;have X:u.length<32:=(by rw[hd] at F;simp at F;omega);have A:=E q (by rw[hd];simp);have t1:=A.a;have t2:=A.k;have t3:=A.f;have d:∀{z:Int},0<=z/\z<1000->Ba z=some (H5 z.toNat)/\(H5 z.toNat).length<=7:=λ{z} I=>by
    obtain⟨m,rfl⟩:∃m:Nat,z=m:=⟨z.toNat,by omega⟩;exact⟨DF m,wA (by simp only[gR];omega)⟩
   obtain⟨d1,l1⟩:=d t1;obtain⟨d2,l2⟩:=d t2;obtain⟨d3,l3⟩:=d t3;have l4:(Ag q.2.2.2).length=16:=(by rw[yL,A.b.1]);refine⟨(u++[q]).map pT,?_,rfl⟩;simp only[iN hd,fE,jp,fF hd,cA,L3 (show u.length<=_ by omega)];rw[d1,cA,Bp (by simp;omega),cA,d2,cA,Bp (by simp;omega),cA,Bp (by simp;omega),cA,d3,cA,Bp (by simp;omega),cA,ce,aF5];unfold pT;by_cases B:q.2.1=3
   ·rw[pF B,fE,NJ A.b,cA,Bp (by simp;omega),cA,Bp (by simp;omega),cA,j1 _ _ (by simp;omega)];simp[B]
   ·rw[cT B,cG,j1 _ _ (by simp;omega)];simp[B]
  ·rintro o rfl;simp only[bV,cG]
  rintro o rfl;rw[UD (λx hx=>by obtain⟨z,_,rfl⟩:=ot.1 hx;exact UB z) (by omega)];rfl
end
section
open Go.B1 hiding C9 E5 ru
variable {n:Nat}{ds:List nG}{now:List aD}{snaps:List (List aD)}{b0:Bool}{b1:List Int}
abbrev RS:=Int×List nG×List aD×List (List aD)
inductive Rel:Nat->List nG->Option RS->Prop
 |none:Rel 0 [] none
 |some {n:Nat} {ds:List nG} {now:List aD} {snaps:List (List aD)} (h:Sim n ds now snaps):Rel n ds (some ((n:Int),ds,now,snaps))
def up(o:Option (List Int×RS)):Option (List Int×Option RS):=o.bind λx=>Option.some (x.1,Option.some x.2)
def wB(w:List (List Int)):Option RS->Option (List Int×Option RS) | .none=>dI w 0 [] | .some r=>up (eN w r.1 r.2.1 r.2.2.1 r.2.2.2)
def Cr(x:nG):Option RS->Option (List Int×Option RS) | .none=>(aN 5).bind λv=>some (v,none) | .some r=>up (tail r.1 r.2.1 r.2.2.1 r.2.2.2 x)
def uI(k:Int)(st:Option RS):Option (List Int×Option RS):=(aN k).bind λv=>some (v,st)
theorem Qh{k:Int}(h:0<=k/\k<1000)(st:Option RS):uI k st=some (say [] (some k),st):=by unfold uI;rw[Sk h];rfl
variable {st:Option RS}
theorem aE7(h:Rel n ds st){x:nG}(hx:xW x):∃text err sg yh,bP x b0 b1 (n:Int) ds=some (text,err,sg)/\Cr x st=some (say text err,yh)/\Rel n sg yh/\zj text err:=by
 cases h with
 |none=>exact⟨[],some 5,[],none,rfl,Qh (by omega) none,.none,.err (by omega)⟩
 |some h=>
  obtain⟨text,err,sg,D,E,u,A,B,C⟩:=OJ (b0:=b0) (b1:=b1) h hx;exact⟨text,err,sg,_,u,congrArg up A,.some B,C⟩
def QG(w:List (List Int))(st:Option RS)(b0:Bool)(b1:List Int)(c:Option (List Int×Option Int×Bool×List Int×Int×List nG)):Prop:=∃text err,∃n':Nat,∃sg yh,c=some (text,err,b0,b1,(n':Int),sg)/\wB w st=some (say text err,yh)/\Rel n' sg yh/\zj text err
theorem ZB:∀p∈([([116,114,105,109],1),([114,101,97,100],2),([100,101,108,105,118,101,114],5),([108,111,115,101],6),([100,111,117,98,108,101],7)]:List (List Int×Int)),∀a st,wB [p.1,a] st=(gE a).bind λv=>bif !v.2 then uI 3 st else Cr (p.2,v.1,0,aE) st:=by
 intro p u a st;simp only[sK,aEq,aHl] at u;cases st with
 |none=>rcases u with rfl | rfl | rfl | rfl | rfl<;>rfl
 |some r=>
  have e:∀k:Int,(up ((gE a).bind λA=>bif !A.2 then (aN 3).bind λB=>some (B,r.1,r.2.1,r.2.2.1,r.2.2.2) else tail r.1 r.2.1 r.2.2.1 r.2.2.2 (k,A.1,0,aE)))=(gE a).bind λv=>bif !v.2 then uI 3 (some r) else Cr (k,v.1,0,aE) (some r):=λk=>by
   cases gE a with
   |none=>rfl
   |some v=>
    obtain⟨x,_ | _⟩:=v
    ·simp only[cA,aFe,fE];unfold uI up;cases aN 3<;>rfl
    ·rfl
  rcases u with rfl | rfl | rfl | rfl | rfl<;>exact(aIi rfl (e _))
theorem ZC:∀p∈([([98,97,114,114,105,101,114],3),([116,105,99,107],4)]:List (List Int×Int)),∀st,wB [p.1] st=Cr (p.2,0,0,aE) st:=by
 intro p u st;simp only[sK,aEq,aHl] at u;cases st<;>rcases u with rfl | rfl<;>rfl
theorem Fl(h:Rel n ds st){x:nG}(hx:xW x){w:List (List Int)}(hw:wB w st=Cr x st):QG w st b0 b1 ((bP x b0 b1 (n:Int) ds).bind λv=>some (v.1,v.2.1,b0,b1,(n:Int),v.2.2)):=by
 obtain⟨text,err,u,A,B,C,D,E⟩:=aE7 (b0:=b0) (b1:=b1) h hx;exact⟨text,err,n,u,A,by rw[B];rfl,by rw[hw,C],D,E⟩
theorem xL(h:Rel n ds st){k:Int}(hk:0<=k/\k<1000){w:List (List Int)}(hw:wB w st=uI k st):QG w st b0 b1 (some ([],some k,b0,b1,(n:Int),ds)):=
 ⟨[],some k,n,ds,st,rfl,by rw[hw,Qh hk],h,.err hk⟩
theorem Fo{k:Int}{a:Int}(ha:0<=a/\a<1000000){b:aD}(hb:C9 b)(hk:k≠10:=by decide):xW (k,a,0,b):=⟨by simp only[B1.ru];omega,by simp[B1.ru],hb,hk⟩
theorem ZD(k:Int):cI k [] b0 b1 (n:Int) ds=(bP (k,0,0,aE) b0 b1 (n:Int) ds).bind λv=>some (v.1,v.2.1,b0,b1,(n:Int),v.2.2):=by
 unfold cI lp;rw[show bR=1125899906842623+1 from rfl];rfl
theorem ZF(k:Int)(a:List Int):cI k [a] b0 b1 (n:Int) ds=(fO a).bind λv=>bif Option.isSome v.2 then some ([],v.2,b0,b1,(n:Int),ds) else (bP (k,v.1,0,aE) b0 b1 (n:Int) ds).bind λv=>some (v.1,v.2.1,b0,b1,(n:Int),v.2.2):=by
 unfold cI lp;rw[show bR=1125899906842622+1+1 from rfl];generalize 1125899906842622=f;have u:cm .lss (0:Int) (([a]:List (List Int)).length:Int)=true:=rfl;have A:Sw.idx [a] 0=some a:=rfl;have B:cm .lss (ar .add .i64 0 1) (([a]:List (List Int)).length:Int)=false:=rfl;simp only[loop,u,fE,A,cA];cases fO a with
 |none=>rfl
 |some v=>
  obtain⟨x,_ | e⟩:=v
  ·simp only[cA,fA,cG,B]
  ·rfl
theorem Mv(h:Rel n ds st){W:List Int}{k:Int}(hp:(W,k)∈([([116,114,105,109],1),([114,101,97,100],2),([100,101,108,105,118,101,114],5),([108,111,115,101],6),([100,111,117,98,108,101],7)]:List (List Int×Int))){a:List Int}(ha:C2 a):QG [W,a] st b0 b1 (cI k [a] b0 b1 (n:Int) ds):=by
 have u:=ZB _ hp a st;rw[Sc ha] at u;rw[ZF,F9 ha];cases hn:num a with
 |none=>rw[hn] at u;exact xL h (by omega) u
 |some m=>rw[hn] at u;exact Fl h (Fo (Zo hn) E5 (by rintro rfl;simp at hp)) u
theorem OP(h:Rel n ds st){W:List Int}{k:Int}(hp:(W,k)∈([([98,97,114,114,105,101,114],3),([116,105,99,107],4)]:List (List Int×Int))):QG [W] st b0 b1 (cI k [] b0 b1 (n:Int) ds):=by
 rw[ZD];exact Fl h (Fo (by omega) E5 (by rintro rfl;simp at hp)) (ZC _ hp st)
theorem HQ(a b:List Int)(st:Option RS):wB [[119,114,105,116,101],a,b] st=(gE a).bind λv=>bif !v.2 then uI 3 st else (lO b).bind λq=>bif !q.2 then uI 3 st else Cr (0,v.1,0,q.1) st:=by
 have A:∀(o:Option (List Int)) (r:RS),up (o.bind λu=>some (u,r.1,r.2.1,r.2.2.1,r.2.2.2))=o.bind λv=>some (v,some r):=λo r=>by cases o<;>rfl
 cases st with
 |none=>rfl
 |some r=>
  refine aIi (show _=up ((gE a).bind λB=>bif !B.2 then (aN 3).bind λu=>some (u,r.1,r.2.1,r.2.2.1,r.2.2.2) else (lO b).bind λq=>bif !q.2 then (aN 3).bind λu=>some (u,r.1,r.2.1,r.2.2.1,r.2.2.2) else tail r.1 r.2.1 r.2.2.1 r.2.2.2 (0,B.1,0,q.1)) from rfl) ?_;cases gE a with
  |none=>rfl
  |some v=>
   obtain⟨x,_ | _⟩:=v
   ·exact A (aN 3) r
   ·cases lO b with
    |none=>rfl
    |some q=>
     obtain⟨y,_ | _⟩:=q
     ·exact A (aN 3) r
     ·rfl
theorem HR(h:Rel n ds st){a b:List Int}(ha:C2 a)(hb:C2 b):QG [[119,114,105,116,101],a,b] st b0 b1 (gY 0 [a,b] b0 b1 (n:Int) ds):=by
 have u:=HQ a b st;rw[Sc ha,Wb b] at u;unfold gY;rw[show Sw.idx [a,b] 0=some a from rfl,cA,F9 ha];cases hn:num a with
 |none=>rw[hn] at u;exact xL h (by omega) u
 |some m=>
  rw[hn] at u;simp only[cA,fA,cG];rw[show Sw.idx [a,b] 1=some b from rfl,cA,NH hb];cases hk:Mg b with
  |none=>rw[hk] at u;exact xL h (by omega) u
  |some q=>rw[hk] at u;exact Fl h (Fo (Zo hn) (NI hk)) u
theorem HS(a:List Int)(st:Option RS):wB [[99,114,97,115,104],a] st=if a=[102,105,114,115,116] then Cr (8,0,0,aE) st else if a=[111,116,104,101,114] then Cr (9,0,0,aE) st else uI 3 st:=by
 by_cases u:a=[102,105,114,115,116]
 ·subst u;cases st<;>rfl
 by_cases A:a=[111,116,104,101,114]
 ·subst A;cases st<;>rfl
 rw[nS u,nS A];have e:(bif !decide (a=[102,105,114,115,116]) then some (!decide (a=[111,116,104,101,114])) else some false)=some true:=by rw[cT u,cT A];rfl
 cases st with
 |none=>
  refine aIi (show _=((bif !decide (a=[102,105,114,115,116]) then some (!decide (a=[111,116,104,101,114])) else some false).bind λx=>bif x then uI 3 none else bif decide (a=[102,105,114,115,116]) then Cr (8,0,0,aE) none else Cr (9,0,0,aE) none) from rfl) ?_;rw[e];rfl
 |some r=>
  refine aIi (show _=up ((bif !decide (a=[102,105,114,115,116]) then some (!decide (a=[111,116,104,101,114])) else some false).bind λx=>bif x then (aN 3).bind λB=>some (B,r.1,r.2.1,r.2.2.1,r.2.2.2) else bif decide (a=[102,105,114,115,116]) then tail r.1 r.2.1 r.2.2.1 r.2.2.2 (8,0,0,aE) else tail r.1 r.2.1 r.2.2.1 r.2.2.2 (9,0,0,aE)) from rfl) ?_;rw[e];unfold uI up;cases aN 3<;>rfl
theorem HT(h:Rel n ds st)(a:List Int):QG [[99,114,97,115,104],a] st b0 b1 (gZ 0 [a] b0 b1 (n:Int) ds):=by
 have u:=HS a st;unfold gZ;rw[show Sw.idx [a] 0=some a from rfl,cA];by_cases A:a=[102,105,114,115,116]
 ·rw[sM A] at u;rw[pF A];exact Fl h (Fo (by omega) E5) u
 by_cases B:a=[111,116,104,101,114]
 ·rw[nS A,sM B] at u;rw[cT A,pF B];exact Fl h (Fo (by omega) E5) u
 ·rw[nS A,nS B] at u;rw[cT A,cT B];exact xL h (by omega) u
theorem UG(a:List Int)(st:Option RS):wB [[110,101,119],a] st=(gE a).bind λv=>bif !v.2 then uI 3 st else (bif cm .lss v.1 1 then some true else some (cm .gtr v.1 32)).bind λx=>bif x then uI 1 st else (fL v.1).bind λc=>lJ c none λz=>some ([111,107],some (v.1,[],z.1,z.2)):=by
 have A:∀(o:Option (List Int)) (r:RS),up (o.bind λu=>some (u,r.1,r.2.1,r.2.2.1,r.2.2.2))=o.bind λv=>some (v,some r):=λo r=>by cases o<;>rfl
 cases st with
 |none=>rfl
 |some r=>
  refine aIi (show _=up ((gE a).bind λv=>bif !v.2 then (aN 3).bind λu=>some (u,r.1,r.2.1,r.2.2.1,r.2.2.2) else
   (bif cm .lss v.1 1 then some true else some (cm .gtr v.1 32)).bind λx=>bif x then (aN 1).bind λu=>some (u,r.1,r.2.1,r.2.2.1,r.2.2.2) else (fL v.1).bind λc=>lJ c none λz=>some ([111,107],v.1,[],z.1,z.2)) from rfl) ?_
  cases gE a with
  |none=>rfl
  |some v=>
   obtain⟨x,_ | _⟩:=v
   ·exact A (aN 3) r
   ·simp only[cA,vn,cG];cases (bif cm .lss x 1 then some true else some (cm .gtr x 32)) with
    |none=>rfl
    |some y=>
     cases y
     ·simp only[cA,cG];cases fL x with
      |none=>rfl
      |some c=>cases c<;>rfl
     ·exact A (aN 1) r
theorem UH(h:Rel n ds st){a:List Int}(ha:C2 a):QG [[110,101,119],a] st b0 b1 (gT 0 [a] b0 b1 (n:Int) ds):=by
 have u:=UG a st;rw[Sc ha] at u;unfold gT;rw[show Sw.idx [a] 0=some a from rfl,cA,F9 ha];cases hn:num a with
 |none=>rw[hn] at u;exact xL h (by omega) u
 |some m=>
  rw[hn] at u;have A:=Zo hn;simp only[cA,xy,fE,jp,vn,cG] at u ⊢;by_cases B:m<1\/32<m
  ·have e:(bif cm .lss m 1 then some true else some (cm .gtr m 32))=some true:=by
    rw[cl,cg];by_cases c1:m<1
    ·rw[pF c1];rfl
    ·rw[cT c1,pF (by omega)];rfl
   rw[e] at u ⊢;exact xL h (by omega) u
  ·have e:(bif cm .lss m 1 then some true else some (cm .gtr m 32))=some false:=by
    rw[cl,cg,cT (by omega),cT (by omega)];rfl
   obtain⟨k,rfl⟩:∃k:Nat,m=k:=⟨m.toNat,by omega⟩;rw[e] at u ⊢;simp only[cA,cG,Zx (show k<=32 by omega),lJ] at u ⊢;exact⟨[111,107],none,k,[],_,rfl,u,.some (TZ (by omega) (by omega)),.text (by simp)⟩
theorem AD(h:Rel n ds st):QG [[115,101,116,116,108,101]] st b0 b1 (eK 0 [] b0 b1 (n:Int) ds):=by
 cases h with
 |none=>exact xL (k:=5) .none (by omega) rfl
 |some h=>
  rename_i u A;have G:=h.n0;have B:cm .eql (n:Int) 0=false:=by rw[ce];exact cT (by omega)
  obtain⟨text,D,E,F⟩:=HP (b0:=b0) (b1:=b1) h 0 [];refine⟨text,none,n,ds,some ((n:Int),ds,u,A),D,?_,.some h,.text E⟩;refine aIi (show _=up (bif cm .eql (n:Int) 0 then (aN 5).bind λC=>some (C,(n:Int),ds,u,A) else _) from rfl) ?_;rw[B,cG,F];rfl
theorem OQ(h:Rel n ds st):QG [[112,108,97,110]] st b0 b1 (fS 0 [] b0 b1 (n:Int) ds):=by
 cases h with
 |none=>exact xL (k:=5) .none (by omega) rfl
 |some h=>
  rename_i u A;obtain⟨text,err,B,C,D⟩:=UF (b0:=b0) (b1:=b1) h 0 [];refine⟨text,err,n,ds,some ((n:Int),ds,u,A),B,?_,.some h,D⟩;refine aIi (show _=up ((eM (n:Int) ds u A).bind λv=>some (v,(n:Int),ds,u,A)) from rfl) ?_;rw[C];rfl
end
section
open Go.B1 hiding C9 E5 ru
variable {n:Nat}{ds:List nG}{b0:Bool}{b1:List Int}{st:Option RS}
def ZG(w:List (List Int))(n:Nat)(ds:List nG)(st:Option RS)(b0:Bool)(b1:List Int):Prop:=∃ans,∃n':Nat,∃sg yh,wB w st=some (ans,yh)/\dZ w b0 b1 (n:Int) ds=some (true,b1++(ans++[10]),(n':Int),sg)/\Rel n' sg yh/\ans.length<=2010
theorem OR{l s:List Int}(h1:l.length<=1000000000)(h2:s.length<=3000):FR l s=some (l++s):=by unfold FR;rw[sM (by omega)]
theorem UI{α:Type}(x:α)(l:List α):Sw.idx (x::l) 0=some x:=rfl
theorem ZH{α:Type}(x:α){l:List α}(h:l.length<=1000000):ar .sub .i64 ((x::l).length:Int) 1=(l.length:Int):=by rw[bw (by simp;omega)];simp
theorem oQ{W:List Int}{r:List (List Int)}{k:Int}{i:Nat}(hr:r.length<=1000000)(hb:b1.length<=1000000000)(hd:iP W=some (((r.length:Int),k,i),true))(ha:QG (W::r) st b0 b1 (Yu i k r b0 b1 (n:Int) ds)):ZG (W::r) n ds st b0 b1:=by
 obtain⟨text,err,E,F,G,I,K,L,u⟩:=ha;have M:=u.t;have A:cm .neq (r.length:Int) (r.length:Int)=false:=by rw[cn];simp
 have B:Sw.sub (W::r) 1 ((W::r).length:Int)=some r:=by unfold Sw.sub;rw[sM (by simp;omega)];simp
 refine⟨say text err,E,F,G,K,?_,L,?_⟩
 ·unfold dZ;rw[UI,cA,hd,cA];simp only[vn,cG,ZH W hr,A,cA,B,I,jp];cases err with
  |none=>
   simp only[fA,cG];rw[Bp (by simp;omega),cA,OR hb (by simp;omega)];rfl
  |some e=>
   have C:=u.e e rfl;obtain⟨m,rfl⟩:∃m:Nat,e=m:=⟨e.toNat,by omega⟩;have D:=wA (show m<10000000 by omega);simp only[aF7,fE,aFw];rw[DF,cA,Bp (by simp;omega),cA,Bp (by simp;omega),cA,OR hb (by simp;omega)];rfl
 ·cases err with
  |none=>simp only[say];omega
  |some e=>
   have C:=u.e e rfl;have D:=wA (k:=e.toNat) (by omega);simp[say,aDe];omega
abbrev tbl:List (List Int×Int):=[([110,101,119],1),([119,114,105,116,101],2),([116,114,105,109],1),([114,101,97,100],1),([98,97,114,114,105,101,114],0),([116,105,99,107],0),([100,101,108,105,118,101,114],1),([108,111,115,101],1),([100,111,117,98,108,101],1),([99,114,97,115,104],1),([115,101,116,116,108,101],0),([112,108,97,110],0)]
theorem nI{W:List Int}{r:List (List Int)}{x:Int×Int×Nat}{ok:Bool}(h:Rel n ds st)(hr:r.length<=1000000)(hb:b1.length<=1000000000)(hd:iP W=some (x,ok))(hm:dQ tbl W=if ok then some x.1 else none)(aRk:ok=true->x.1≠r.length):ZG (W::r) n ds st b0 b1:=by
 have u:(bif (!(dQ tbl W).isSome) then some true else some (cm .neq (ar .sub .i64 ((W::r).length:Int) (1:Int)) ((dQ tbl W).getD 0)))=some true:=by
  rw[hm,ZH W hr,cn];cases ok with
  |false=>rfl
  |true=>
   have:=aRk rfl;simp only[K4,aF7,vn,cG,aFw,pF (show (r.length:Int)≠x.1 by omega)]
 have A:(bif (!ok) then some true else some (cm .neq (ar .sub .i64 ((W::r).length:Int) (1:Int)) x.1))=some true:=by
  rw[ZH W hr,cn];cases ok with
  |false=>rfl
  |true=>
   have:=aRk rfl;simp only[vn,cG,pF (show (r.length:Int)≠x.1 by omega)]
 refine⟨[98,97,100],n,ds,st,?_,?_,h,by simp⟩
 ·cases st with
  |none=>
   show dI _ _ _=_;unfold dI;rw[UI,cA,u];rfl
  |some q=>
   show up (eN _ _ _ _ _)=_;unfold eN;rw[UI,cA,u];rfl
 ·unfold dZ;rw[UI,cA,hd,cA];simp only[A,cA,fE];rw[OR hb (by simp),cA];rfl
theorem UJ{W:List Int}{r:List (List Int)}(h:Rel n ds st)(hr:r.length<=1000000)(hb:b1.length<=1000000000)(hw:∀a∈r,C2 a):ZG (W::r) n ds st b0 b1:=by
 have A:∀{l:List (List Int)},l.length=0->l=[]:=λh=>List.length_eq_zero_iff.1 h;have one:r.length=1->∃a,r=[a]:=λh=>aEk.1 h;have O:r.length=2->∃a b,r=[a,b]:=λh=>by
  match r,h with
  | [a,b],_=>exact⟨a,b,rfl⟩
 by_cases c1:W=[110,101,119]
 ·subst c1;by_cases u:r.length=1
  ·obtain⟨a,rfl⟩:=one u;exact oQ hr hb rfl (UH h (hw a (by simp)))
  ·exact nI h hr hb rfl rfl (λ_=>by simp only;omega)
 by_cases B:W=[119,114,105,116,101]
 ·subst B;by_cases u:r.length=2
  ·obtain⟨a,b,rfl⟩:=O u;exact oQ hr hb rfl (HR h (hw a (by simp)) (hw b (by simp)))
  ·exact nI h hr hb rfl rfl (λ_=>by simp only;omega)
 by_cases C:W=[116,114,105,109]
 ·subst C;by_cases u:r.length=1
  ·obtain⟨a,rfl⟩:=one u;exact oQ hr hb rfl (Mv h (by simp) (hw a (by simp)))
  ·exact nI h hr hb rfl rfl (λ_=>by simp only;omega)
 by_cases D:W=[114,101,97,100]
 ·subst D;by_cases u:r.length=1
  ·obtain⟨a,rfl⟩:=one u;exact oQ hr hb rfl (Mv h (by simp) (hw a (by simp)))
  ·exact nI h hr hb rfl rfl (λ_=>by simp only;omega)
 by_cases E:W=[98,97,114,114,105,101,114]
 ·subst E;by_cases u:r.length=0
  ·obtain rfl:=A u;exact oQ hr hb rfl (OP h (by simp))
  ·exact nI h hr hb rfl rfl (λ_=>by simp only;omega)
 by_cases F:W=[116,105,99,107]
 ·subst F;by_cases u:r.length=0
  ·obtain rfl:=A u;exact oQ hr hb rfl (OP h (by simp))
  ·exact nI h hr hb rfl rfl (λ_=>by simp only;omega)
 by_cases G:W=[100,101,108,105,118,101,114]
 ·subst G;by_cases u:r.length=1
  ·obtain⟨a,rfl⟩:=one u;exact oQ hr hb rfl (Mv h (by simp) (hw a (by simp)))
  ·exact nI h hr hb rfl rfl (λ_=>by simp only;omega)
 by_cases I:W=[108,111,115,101]
 ·subst I;by_cases u:r.length=1
  ·obtain⟨a,rfl⟩:=one u;exact oQ hr hb rfl (Mv h (by simp) (hw a (by simp)))
  ·exact nI h hr hb rfl rfl (λ_=>by simp only;omega)
 by_cases K:W=[100,111,117,98,108,101]
 ·subst K;by_cases u:r.length=1
  ·obtain⟨a,rfl⟩:=one u;exact oQ hr hb rfl (Mv h (by simp) (hw a (by simp)))
  ·exact nI h hr hb rfl rfl (λ_=>by simp only;omega)
 by_cases L:W=[99,114,97,115,104]
 ·subst L;by_cases u:r.length=1
  ·obtain⟨a,rfl⟩:=one u;exact oQ hr hb rfl (HT h a)
  ·exact nI h hr hb rfl rfl (λ_=>by simp only;omega)
 by_cases M:W=[115,101,116,116,108,101]
 ·subst M;by_cases u:r.length=0
  ·obtain rfl:=A u;exact oQ hr hb rfl (AD h)
  ·exact nI h hr hb rfl rfl (λ_=>by simp only;omega)
 by_cases N:W=[112,108,97,110]
 ·subst N;by_cases u:r.length=0
  ·obtain rfl:=A u;exact oQ hr hb rfl (OQ h)
  ·exact nI h hr hb rfl rfl (λ_=>by simp only;omega)
 refine nI (x:=(0,0,6)) (ok:=false) h hr hb ?_ ?_ (λh=>by cases h)
 ·unfold iP;simp only[cT c1,cT B,cT C,cT D,cT E,cT F,cT G,cT I,cT K,cT L,cT M,cT N,cG]
 ·simp[dQ,jj c1,jj B,jj C,jj D,jj E,jj F,jj G,jj I,jj K,jj L,jj M,jj N]
end
section
open Go.B1 hiding C9 E5 ru
theorem DR{ι α δ:Type}{step:ι->α->Option (Step α δ)}{z:ι}{y y':α}:∀{its:List ι} {x:α},me step its x=some (.u9 y)->step z y=some (.next y')->me step (its++[z]) x=some (.u9 y')
 | [],x,h,u=>by simp only[me,W6,Ex.u9.injEq] at h;subst h;simp[me,u]
 |i::its,x,h,u=>by
  simp only[me,ud] at h ⊢;cases hi:step i x with
  |none=>rw[hi] at h;cases h
  |some r=>
   rw[hi] at h;cases r with
   |next w=>exact DR h u
   |done d=>cases h
theorem Mw{a b:List Int}(h:C2 b)(s:∀x∈a,x∈b):C2 a:=λx u=>h x (s x u)
theorem HU(z:List Int):(oO z).length<=z.length/\∀x∈oO z,x∈z:=by
 unfold oO;split
 ·exact⟨by simp,λx u=>List.dropLast_subset z u⟩
 ·exact⟨gC _,λx u=>u⟩
def stR(i:Nat)(a:List Int×Option RS):(List Int×Int) ⊕ (List Int×Int×RS):=match a.2 with | none=> .inl (a.1,(i:Int)) | some r=> .inr (a.1,(i:Int),r)
def DS(z6:List Int)(bx:Bool×List Int×Int×List nG):Option (Step (Bool×List Int×Int×List nG) Empty):=(Pb z6 ([10]:List Int)).bind λA=>(Da A ([32]:List Int)).bind λB=>(dZ B bx.1 bx.2.1 bx.2.2.1 bx.2.2.2).bind λu=>some (.next (u.1,u.2.1,u.2.2.1,u.2.2.2))
def OS(x7:List (List Int)):(List Int×Int) ⊕ (List Int×Int×RS)->Option (Step ((List Int×Int) ⊕ (List Int×Int×RS)) (Ex (List Int) (List Int))):=Sum.elim (λ(A:(List Int)×Int)=>bif (cm .lss A.2 (x7.length:Int)) then (Sw.idx x7 A.2).bind λE=>(qX E (32:Int)).bind λF=>(dI F (0:Int) ([]:(List (Int×Int×Int×aD)))).bind λD=>lJ D.2 ( (sB A.1 D.1).bind λG=>(sB G ([10]:List Int)).bind λI=>some (.next (.inl (I,(ar .add .i64 A.2 (1:Int))))) ) λC=>(sB A.1 D.1).bind λK=>(sB K ([10]:List Int)).bind λL=>some (.next (.inr (L,(ar .add .i64 A.2 (1:Int)),C.1,C.2.1,C.2.2.1,C.2.2.2))) else some (.done (.u9 A.1)) ) (λ(u:(List Int)×Int×Int×(List (Int×Int×Int×aD))×(List aD)×(List (List aD)))=>bif (cm .lss u.2.1 (x7.length:Int)) then (Sw.idx x7 u.2.1).bind λM=>(qX M (32:Int)).bind λN=>(eN N u.2.2.1 u.2.2.2.1 u.2.2.2.2.1 u.2.2.2.2.2).bind λB=>(sB u.1 B.1).bind λO=>(sB O ([10]:List Int)).bind λP=>some (.next (.inr (P,(ar .add .i64 u.2.1 (1:Int)),B.2.1,B.2.2.1,B.2.2.2.1,B.2.2.2.2))) else some (.done (.u9 u.1)) )
theorem So{a0:List Int}(hb:C2 a0)(hl:a0.length<=4000)(x7:List (List Int))(hx:x7=(ln a0).map oO)(hn:(ln a0).length<=4001):∃T,lp (OS x7) (.inl (([]:List Int),(0:Int))) (λ(x71:(List Int))=>some x71)=some T/\rg (δ:=Empty) DS (ln a0) (false,[],0,[]) (λx=>some x.2.1) (λz=>z.elim)=some T:=by
 subst hx;rw[show (Sum.inl (([]:List Int),(0:Int)):(List Int×Int) ⊕ (List Int×Int×RS))=stR 0 ([],none) from rfl];refine Exists.elim (CD (step:=OS ((ln a0).map oO)) (k:=λx:List Int=>some x) (l:=ln a0) stR (λu a=>∃b0,∃n:Nat,∃E,me DS u (false,[],0,[])=some (.u9 (b0,a.1,(n:Int),E))/\Rel n E a.2/\a.1.length<=u.length*2011) (λa=>a.1) ([],none) (by unfold bR;omega) ⟨false,0,[],rfl,.none,by simp⟩ ?_ ?_) ?_
 ·rintro u z ab ⟨o,st⟩ hd ⟨b0,n,E,F,G,h3⟩;simp only at F G h3;have U:=MZ (show z∈ln a0 by rw[hd];simp);have M:C2 z:=Mw hb U.2;have V:=HU z;have N:=Mw M V.2;have hp:u.length<=4000:=by rw[hd] at hn;simp at hn;omega
  have I:=MW (oO z) 32 (by omega);have O:=Mc 32 (oO z);have P:=λq h=>Vz (c:=32) (l:=oO z) (q:=q) h;obtain⟨W,r,R⟩:=aEh (Ch 32 (oO z));rw[R] at I O P;obtain⟨B,n',sg,D,A,a2,a3,a4⟩:=UJ (b0:=b0) (b1:=o) (W:=W) (r:=r) G (by simp at O;omega) (by omega) λa X=>Mw N (P a (kf _ X)).2;have C:cm .lss (u.length:Int) (((ln a0).map oO).length:Int)=true:=by rw[hd,cl];exact pF (by simp;omega)
  have Q:Sw.idx ((ln a0).map oO) (u.length:Int)=some (oO z):=pM (by rw[hd];simp);have K:sB o B=some (o++B):=by unfold sB;rw[sM (by omega)]
  have L:sB (o++B) [10]=some (o++(B++[10])):=by unfold sB;rw[sM (by simp;omega)];simp
  refine⟨(o++(B++[10]),D),?_,true,n',sg,DR F ?_,a3,by simp;omega⟩
  ·cases st with
   |none=>
    have A:dI (W::r) 0 []=some (B,D):=A;show (bif cm .lss (u.length:Int) (((ln a0).map oO).length:Int) then _ else _)=_;rw[C,fE,Q,cA,I,cA,A,cA];cases D with
    |none=>
     simp only[lJ,K,L,cA];rw[L3 (by omega)];rfl
    |some q=>
     simp only[lJ,K,L,cA];rw[L3 (by omega)];rfl
   |some q=>
    have A:up (eN (W::r) q.1 q.2.1 q.2.2.1 q.2.2.2)=some (B,D):=A;unfold up at A;obtain⟨v,b1,S⟩:=bs A;simp only[W6,qe] at S;obtain⟨rfl,rfl⟩:=S;show (bif cm .lss (u.length:Int) (((ln a0).map oO).length:Int) then _ else _)=_;rw[C,fE,Q,cA,I,cA,b1,cA,K,cA,L,cA,L3 (by omega)];rfl
  ·unfold DS;rw[TL M,cA,MY N (by omega),cA,R,a2];rfl
 ·rintro⟨o,st⟩ _;have C:cm .lss ((ln a0).length:Int) (((ln a0).map oO).length:Int)=false:=by rw[cl];exact cT (by simp)
  cases st with
  |none=>show (bif cm .lss ((ln a0).length:Int) (((ln a0).map oO).length:Int) then _ else _)=_;rw[C];rfl
  |some q=>show (bif cm .lss ((ln a0).length:Int) (((ln a0).map oO).length:Int) then _ else _)=_;rw[C];rfl
 ·rintro⟨o,st⟩ ⟨⟨b0,n,E,F,_,_⟩,G⟩;exact⟨o,G,by unfold rg;rw[F]⟩
theorem nr(a0:List Int)(hb:C2 a0):lP a0=some true:=by
 unfold lP;rw[cg];by_cases A:(a0.length:Int)>4100
 ·rw[pF A];rfl
 rw[cT A,cG];unfold jO rQ;rw[cg];by_cases B:(a0.length:Int)>4000
 ·rw[pF B];rfl
 rw[cT B,cG,cG];have I:=Mc 10 a0;have K:(ln a0).length<=(nK 10 a0).length:=by
  have:=congrArg List.length (NA a0);rw[sv] at this;rw[this];unfold Bk;split<;>simp
 obtain⟨T,t1,C⟩:=So hb (by omega) (Bk (nK 10 a0)) (NA a0).symm (by omega);obtain⟨p,q,e⟩:∃p q,nK 10 a0=p++[q]:=⟨_,_,(aGk (Ch 10 a0)).symm⟩;have D:ar .sub .i64 ((nK 10 a0).length:Int) 1=(p.length:Int):=by rw[bw (by omega),e];simp
 have E:Sw.idx (nK 10 a0) (p.length:Int)=some q:=pM (by rw[e];simp);have F:Sw.sub (nK 10 a0) 0 (p.length:Int)=some p:=by unfold Sw.sub;rw[e,sM (by simp only[cM,aF4];omega)];simp
 have G:Bk (nK 10 a0)=if q=[] then p else nK 10 a0:=by unfold Bk;rw[e];simp
 rw[MW a0 10 (by omega),show Yo a0=some a0 from rfl];simp only[cA,D,E,F,jp];unfold DS at C;rw[C,cA];unfold OS at t1;rw[G] at t1;by_cases u:q=[]
 ·rw[sM u] at t1;rw[pF u,fE,t1,cA,pF rfl];rfl
 ·rw[nS u] at t1;rw[cT u,cG,t1,cA,pF rfl];rfl
end
end Go.bn
