/- Plain laws about these plain functions alone. Conditions: none. -/
import Derived.Test.YteckohdbfkhmdacGreatDoorMCTopUnseen
set_option linter.unusedVariables false
set_option linter.unusedSimpArgs false
namespace Go.VW
open Go.Pl
open Go Go.Sw Go.Mo
theorem MA{γ:Type}{step:Int×List Int->Option (Step (Int×List Int) (Ex (Int×List Int) γ))}{k:Int×List Int->Option γ}
  (h1:∀(n:Nat) acc,128<=n->n<34359738368->acc.length<=1000000->step ((n:Int),acc)=some (.next (((n / 128:Nat):Int),acc++[((128+n % 128:Nat):Int)])))
  (h2:∀(n:Nat) acc,n<128->step ((n:Int),acc)=some (.done (.VP ((n:Int),acc)))) (n:Nat) (acc:List Int) (hn:n<34359738368) (ha:acc.length<=900000):
  ∃(m:Nat) (WS:List Int),lp step ((n:Int),acc) k=k ((m:Int),WS)/\m<128/\WS++[(m:Int)]=acc++vf 4 n:=by
 obtain⟨m,WS,h,u,z⟩:=Qg h1 h2 4 n acc fI (by omega) hn (by omega) (by unfold fI;omega);exact⟨m,WS,by unfold lp;rw[h],u,z⟩
structure Good (f:fG):Prop where
 s0:0<=f.1
 s1:f.1<=15
 ns:f.2.1.length<=12
 bs:f.2.2.length<=32
 num:∀n∈f.2.1,0<=n/\n<=2147483647
 YC:∀b∈f.2.2,b.length=8/\Bytes b
theorem rR{f:fG}(h:dU f=0)(hb:∀b∈f.2.2,b.length=8/\Bytes b):Good f:=by
 unfold dU at h;split at h
 ·cases h
 ·split at h
  ·cases h
  ·split at h
   ·cases h
   ·rename_i B C u;refine⟨by omega,by omega,by omega,by omega,fun n z=>?_,hb⟩;have:¬yM n=true:=fun A=>u (aDc.2 ⟨n,z,A⟩);simp[yM] at this;omega
theorem Uw{ns:List Int}(h:∀n∈ns,0<=n/\n<=2147483647):Bytes (vs ns)/\(vs ns).length<=5*ns.length:=by
 induction ns with
 |nil=>exact⟨fun x u=>by simp[vs] at u,by simp[vs]⟩
 |cons n ns C=>
  obtain⟨z,A⟩:=C (fun x u=>h x (by simp[u]));have D:=h n (by simp);obtain⟨B,E⟩:=Mx 4 n.toNat (by omega);refine⟨fun x u=>?_,?_⟩
  ·simp only[vs,aEm,J6] at u;rcases u with u | u
   ·exact B x u
   ·exact z x u
  ·simp only[vs,aEm,pT,B0];unfold vs at A;omega
theorem m6{bs:List aR}(h:∀b∈bs,b.length=8/\Bytes b):Bytes bs.flatten/\bs.flatten.length=8*bs.length:=by
 induction bs with
 |nil=>exact⟨fun x u=>by simp at u,rfl⟩
 |cons b bs D=>
  obtain⟨z,A⟩:=D (fun x u=>h x (by simp[u]));obtain⟨B,C⟩:=h b (by simp);refine⟨fun x u=>?_,by simp only[aC1,pT,A,B,B0];omega⟩;simp only[aC1,J6] at u;rcases u with u | u
  ·exact C x u
  ·exact z x u
theorem qX{f:fG}(h:Good f):Bytes (body f)/\(body f).length<=1000:=by
 obtain⟨z,B⟩:=Uw h.num;obtain⟨A,C⟩:=m6 h.YC;have:=h.ns;have:=h.bs;refine⟨fun x u=>?_,by simp only[body,Hh,pT,B0,V1];omega⟩;simp only[body,J6] at u;rcases u with (u | u) | u
 ·simp only[Hh,j4,aCv,aEs] at u;rcases u with rfl | rfl
  ·have:=yF .u8 (ar .add .i64 (ar .mul .i64 16 f.1) (f.2.1.length:Int));unfold Co at this;simpa[IntKind.min,IntKind.max,IntKind.signed,IntKind.bits] using this
  ·have:=yF .u8 (f.2.2.length:Int);unfold Co at this;simpa[IntKind.min,IntKind.max,IntKind.signed,IntKind.bits] using this
 ·exact z x u
 ·exact A x u
theorem Ej{f:fG}(h:Good f)(he:dU f=0):mR f=some (bQ f,none):=by
 obtain⟨s,u,A⟩:=f;have M:=h.s0;have N:=h.s1;have D:=h.ns;have E:=h.bs;have F:=h.num;have G:=h.YC;simp only at D E F G M N;obtain⟨ae,zr⟩:=Uw F;obtain⟨af,am⟩:=m6 G;obtain⟨K,N9⟩:=qX h;unfold mR;rw[Ey,VX he];simp only[cM,ZI,pF];have O:ar .or .u8 (sh .shl .u8 (IntKind.wrap .u8 s) 4) (IntKind.wrap .u8 (u.length:Int))=IntKind.wrap .u8 (ar .add .i64 (ar .mul .i64 16 s) (u.length:Int)):=by
  have:=HN ⟨s.toNat,by omega⟩ ⟨u.length,by omega⟩;have e:((s.toNat:Nat):Int)=s:=by omega
  simpa[e] using this
 rw[O,show ((0:Int),[IntKind.wrap .u8 (ar .add .i64 (ar .mul .i64 16 s) (u.length:Int)),IntKind.wrap .u8 (A.length:Int)])=(((0:Nat):Int),Hh (s,u,A)) from rfl];rw[A1 (l:=u) (fun i (acc:List Int)=>((i:Int),acc)) (fun i acc=>acc.length<=2+5*i) (Hh (s,u,A)) (fun _ n acc=>acc++vf 4 n.toNat) (fun acc=>acc) (by unfold fI;omega) (by simp[Hh])]
 ·rw[YR (fun n:Int=>vf 4 n.toNat)];rw[show ((0:Int),Hh (s,u,A)++u.flatMap (fun n=>vf 4 n.toNat))=(((0:Nat):Int),Hh (s,u,A)++vs u) from rfl];rw[A1 (l:=A) (fun i (acc:List Int)=>((i:Int),acc)) (fun i acc=>acc.length<=100+8*i) (Hh (s,u,A)++vs u) (fun _ z acc=>acc++z) (fun acc=>acc) (by unfold fI;omega) (by simp[Hh];omega)]
  ·rw[YR (fun z:aR=>z)];have P:Hh (s,u,A)++vs u++A.flatMap (fun z=>z)=body (s,u,A):=by simp[body,List.flatMap_id']
   rw[P,HM _ K (by omega)];simp only[cM];have WJ:zU (nat (body (s,u,A)))<4294967296:=Hf _ _ (by decide) (Hg K);generalize hv:4294967295 - zU (nat (body (s,u,A)))=v;have YS:v<4294967296:=by omega
   have Q:sh .shr .u32 (v:Int) 24=((v / 16777216:Nat):Int):=by
    show Int.fdiv _ _=_;have:(2:Int) ^ min (24:Int).toNat (IntKind.bits .u32)=16777216:=by decide
    rw[this,ug _ (by omega)];omega
   have R:sh .shr .u32 (v:Int) 16=((v / 65536:Nat):Int):=by
    show Int.fdiv _ _=_;have:(2:Int) ^ min (16:Int).toNat (IntKind.bits .u32)=65536:=by decide
    rw[this,ug _ (by omega)];omega
   have S:sh .shr .u32 (v:Int) 8=((v / 256:Nat):Int):=by
    show Int.fdiv _ _=_;have:(2:Int) ^ min (8:Int).toNat (IntKind.bits .u32)=256:=by decide
    rw[this,ug _ (by omega)];omega
   rw[Q,R,S,Cz,Cz,Cz,Cz];rw[UQ _ _ (by simp;omega)];simp only[cM,bQ,hv,o7];have T:v / 16777216 % 256=v / 16777216:=L7 (by omega);simp[T]
  ·rintro C z ab acc rfl hI;obtain⟨hz,_⟩:=G z (by simp);simp only[pK,WR,mU,cM];have bg:C.length<=32:=by simp at E;omega
   rw[UQ _ _ (by omega),GJ (n:=C.length) (m:=1000000) (by simp at E;omega) (by omega)];exact⟨rfl,by simp;omega⟩
  ·intro acc _;simp[dQ]
 ·rintro C n ab acc rfl hI;have hn:=F n (by simp);obtain⟨m,rfl⟩:∃m:Nat,n=(m:Int):=⟨n.toNat,by omega⟩;simp only[pK,WR,mU,cM];have U:acc.length<=900000:=by simp at D;omega
  obtain⟨q,WS,H,h4,L⟩:=MA (γ:=Step (Int×List Int) (Ex (List Int) (List Int×Option Int))) (step:=fun (B:Int×(List Int))=>
    bif (cm .gtr B.1 (127:Int)) then
     (Sw.app B.2 ([(ar .or .u8 (IntKind.wrap .u8 B.1) (128:Int))]:(List Int))).bind fun X=>
      some (.next ((sh .shr .i64 B.1 (7:Int)),X))
    else
     some (.done (.VP (B.1,B.2))))
   (k:=fun (I:Int×(List Int))=>(Sw.app I.2 ([(IntKind.wrap .u8 I.1)]:(List Int))).bind fun aa=>some (.next ((ar .add .i64 (C.length:Int) (1:Int)),aa)))
   (by
    intro n acc V h2 H;have:cm .gtr (n:Int) 127=true:=by simp[cm];omega
    simp only[this,WR];rw[Cz,TC ⟨n % 256,kn _ (by decide)⟩,UQ _ _ (by simp;omega),TD];simp only[cM]
    rw[Nat.mod_mod_of_dvd _ (by decide:128 ∣ 256)])
   (by
    intro n acc V;have:cm .gtr (n:Int) 127=false:=by simp[cm];omega
    simp[this]) m acc (by omega) U
  have ac:=(Mx 4 m (by omega)).2;have ad:WS.length+1=acc.length+(vf 4 m).length:=by
   have:=congrArg List.length L;simpa using this
  rw[H];simp only[Cz];rw[UQ _ _ (by simp at D;simp;omega),L7 (by omega:q<256),L,GJ (n:=C.length) (m:=1000000) (by simp at D;omega) (by omega)];refine⟨by simp,by simp;omega⟩
 ·intro acc _;simp[dQ]
theorem Xx{f:fG}(h:Good f):(bQ f).length<=1000000:=by
 have:=(qX h).2;simp[bQ,o7];omega
end Go.VW
namespace Go.VW
open Go.Pl
open Go Go.Sw Go.Mo
theorem cl(m n:Int):cm .lss m n=decide (m<n):=rfl
theorem cg(m n:Int):cm .gtr m n=decide (m>n):=rfl
theorem ye(m n:Int):cm .leq m n=decide (m<=n):=rfl
theorem G7(m n:Int):cm .geq m n=decide (m>=n):=rfl
theorem ce(m n:Int):cm .eql m n=decide (m=n):=by show (m==n)=_;by_cases h:m=n<;>simp[h]
theorem cn(m n:Int):cm .neq m n=decide (m≠n):=by show (m != n)=_;by_cases h:m=n<;>simp[h]
theorem YZ{m n:Int}(h: -9223372036854775808<=m+n/\m+n<=9223372036854775807):ar .add .i64 m n=m+n:=wrap_i64 h
theorem M9{m n:Int}(h: -9223372036854775808<=m - n/\m - n<=9223372036854775807):ar .sub .i64 m n=m - n:=wrap_i64 h
theorem l5{n:Nat}(h:n<=4611686018427387904):ar .add .i64 (n:Int) 1=((n+1:Nat):Int):=by rw[YZ (by omega)];push_cast;rfl
theorem Bytes.tail{x:Int}{l:List Int}(h:Bytes (x::l)):Bytes l:=fun y u=>h y (by simp[u])
theorem Bytes.head{x:Int}{l:List Int}(h:Bytes (x::l)):0<=x/\x<=255:=h x (by simp)
def Ux:List Int->Int×Bool×List Int
 | []=>(0,false,[])
 |b::r=>(b,true,r)
theorem Sd(l:List Int)(hl:l.length<=1000000):eX l=some (Ux l):=by
 unfold eX;cases l with
 |nil=>rfl
 |cons b r=>
  have:¬((b::r).length:Int)=0:=by simp;omega
  rw[ce];simp only[this,y6,pF];have h:Sw.idx (b::r) 0=some b:=rfl;have u:Sw.sub (b::r) 1 ((b::r).length:Int)=some r:=by
   unfold Sw.sub;rw[VX (by simp;omega)];simp
  rw[h,u];rfl
def wN:Nat->Nat->Nat->List Int->Int×Bool×List Int
 | 0,_,_,l=>(0,false,l)
 |_+1,_,_,[]=>(0,false,[])
 |k+1,i,v,b::l=>if b<128 then (((v+b.toNat % 128*128 ^ i:Nat):Int),decide (v+b.toNat % 128*128 ^ i<=2147483647) && (decide (0<b) || decide (i=0)),l) else wN k (i+1) (v+b.toNat % 128*128 ^ i) l
theorem TE:∀a:Fin 256,ar .and .u8 ((a.1:Nat):Int) 127=((a.1 % 128:Nat):Int):=by decide+kernel
theorem RK{b:Int}(h:0<=b/\b<=255):ar .and .u8 b 127=((b.toNat % 128:Nat):Int):=by
 have:=TE ⟨b.toNat,by omega⟩;have e:((b.toNat:Nat):Int)=b:=by omega
 simpa[e] using this
theorem RL(i:Nat):128 ^ i=2 ^ (7*i):=by rw[Nat.pow_mul]
theorem TF{c i:Nat}(hi:i<=4)(hc:c<128):sh .shl .i64 (c:Int) ((7*i:Nat):Int)=((c*128 ^ i:Nat):Int):=by
 show IntKind.wrap .i64 ((c:Int)*2 ^ min ((7*i:Nat):Int).toNat (IntKind.bits .i64))=_;rw[j5,show IntKind.bits .i64=64 from rfl,oj (by omega),RL];have h:2 ^ (7*i)<=2 ^ 28:=aD8 (by decide) (by omega);have u:c*2 ^ (7*i)<=127*2 ^ 28:=aCx (by omega) h;have e:(c:Int)*2 ^ (7*i)=((c*2 ^ (7*i):Nat):Int):=by push_cast;rfl
 rw[e,wrap_i64 (by omega)]
theorem TG{a b:Nat}(ha:a<4611686018427387904)(hb:b<4611686018427387904):ar .or .i64 (a:Int) (b:Int)=((a ||| b:Nat):Int):=by
 have h:a ||| b<2 ^ 62:=aD1 (by simpa using ha) (by simpa using hb)
 show IntKind.wrap .i64 ((BitVec.ofInt 64 (a:Int) ||| BitVec.ofInt 64 (b:Int)).toNat:Int)=_;simp only[rQ,BitVec.toNat_or,yu];rw[L7 (a:=a) (by omega),L7 (a:=b) (by omega)];exact wrap_i64 (by omega)
theorem RM{v c i:Nat}(hi:i<=4)(hc:c<128)(hv:v<128 ^ i):ar .or .i64 (v:Int) ((c*128 ^ i:Nat):Int)=((v+c*128 ^ i:Nat):Int):=by
 have h:128 ^ i<=128 ^ 4:=aD8 (by decide) hi;have u:c*128 ^ i<=127*128 ^ 4:=aCx (by omega) h;rw[TG (by omega) (by omega)];congr 1;rw[RL] at*;have:=aD9 hv c;rw[Nat.shiftLeft_eq] at this;rw[Nat.or_comm,<-this,aDe]
theorem RN{v c i:Nat}(hc:c<128)(hv:v<128 ^ i):v+c*128 ^ i<128 ^ (i+1):=by
 rw[aEe];have:c*128 ^ i<=127*128 ^ i:=td _ (by omega);omega
theorem OZ(l:List Int)(hb:Bytes l)(hl:l.length<=1000000):gE l=some (wN 5 0 0 l):=by
 unfold gE;have M:∀(k i v:Nat) (l:List Int) (f:Nat),i+k=5->v<128 ^ i->Bytes l->l.length<=1000000->k<f->
   ∃e,loop (fun (h:Int×Int×(List Int))=>
  bif (cm .lss h.2.1 (35:Int)) then
   (eX h.2.2).bind fun u=>
    bif (!u.2.1) then
     some (.done (.ret ((0:Int),false,u.2.2)))
    else
     (nn h.2.1).bind fun _=>
      bif (cm .lss u.1 (128:Int)) then
       (bif (cm .leq (ar .or .i64 h.1 (sh .shl .i64 (ar .and .u8 u.1 (127:Int)) h.2.1)) (2147483647:Int)) then
        bif (cm .gtr u.1 (0:Int)) then
         some true
        else
         some (cm .eql h.2.1 (0:Int))
       else
        some false).bind fun T=>
        some (.done (.ret ((ar .or .i64 h.1 (sh .shl .i64 (ar .and .u8 u.1 (127:Int)) h.2.1)),T,u.2.2)))
      else
       some (.next ((ar .or .i64 h.1 (sh .shl .i64 (ar .and .u8 u.1 (127:Int)) h.2.1)),(ar .add .i64 h.2.1 (7:Int)),u.2.2))
  else
   some (.done (.VP h.2.2))
  ) f ((v:Int),((7*i:Nat):Int),l)=some e/\out (fun (U:List Int)=>some ((0:Int),false,U)) e=some (wN k i v l):=by
  intro k
  induction k with
  |zero=>
   intro i v l f R I hb hl S;obtain⟨f,rfl⟩:∃f',f=f'+1:=⟨f - 1,by omega⟩;have N:i=5:=by omega
   subst N;exact⟨.VP l,rfl,rfl⟩
  |succ k V=>
   intro i v l f R I hb hl S;obtain⟨f,rfl⟩:∃f',f=f'+1:=⟨f - 1,by omega⟩;have O:cm .lss ((7*i:Nat):Int) 35=true:=by rw[cl];simp;omega
   have P:nn ((7*i:Nat):Int)=some ():=by unfold nn;rw[VX (by omega)]
   simp only[loop,O,WR,Sd l hl,cM];cases l with
   |nil=>exact⟨.ret (0,false,[]),by simp[Ux],rfl⟩
   |cons b l=>
    have Q:=hb.head;have D:b.toNat % 128<128:=kn _ (by decide);simp only[Ux,iz,pF,P,cM,RK Q,TF (by omega:i<=4) D,RM (by omega:i<=4) D I,cl,ye,cg,ce];by_cases A:b<128
    ·simp only[A,Y8,WR];refine⟨.ret (((v+b.toNat % 128*128 ^ i:Nat):Int),decide (v+b.toNat % 128*128 ^ i<=2147483647) && (decide (0<b) || decide (i=0)),l),?_,?_⟩
     ·by_cases E:v+b.toNat % 128*128 ^ i<=2147483647
      ·have B:((v+b.toNat % 128*128 ^ i:Nat):Int)<=2147483647:=by omega
       by_cases F:b>0
       ·have G:0<b:=F;simp only[B,E,G,gt_iff_lt,Y8,WR,cM,aEo,Bool.true_or]
       ·have G:¬0<b:=F;have H:(((7*i:Nat):Int)=0)↔i=0:=by omega
        simp only[B,E,F,G,H,Y8,y6,WR,pF,cM,aEo,Bool.false_or]
      ·have B:¬((v+b.toNat % 128*128 ^ i:Nat):Int)<=2147483647:=by omega
       simp only[B,E,y6,pF,cM,Bool.false_and]
     ·simp only[out,wN,A,ZH]
    ·simp only[A,y6,pF];have H:ar .add .i64 ((7*i:Nat):Int) 7=((7*(i+1):Nat):Int):=by rw[YZ (by omega)];push_cast;omega
     rw[H];obtain⟨e,K,C⟩:=V (i+1) (v+b.toNat % 128*128 ^ i) l f (by omega) (RN D I) hb.tail (by simp at hl;omega) (by omega);refine⟨e,K,?_⟩;rw[C];simp only[wN,A,ZN]
 obtain⟨e,K,C⟩:=M 5 0 0 l fI rfl (by decide) hb hl (by unfold fI;omega);unfold lp;have L:=K;simp only[Nat.mul_zero] at L;rw[show ((0:Int),(0:Int),l)=(((0:Nat):Int),((0:Nat):Int),l) from rfl,L];cases e with
 | VP y=>exact C
 |ret z=>exact C
theorem Uy:∀(k i v:Nat) (l:List Int),(wN k i v l).2.2.length<=l.length
 | 0,_,_,l=>XZ _
 |_+1,_,_,[]=>XZ _
 |k+1,i,v,b::l=>by
  unfold wN;split
  ·simp
  ·exact ai (Uy k _ _ l) (by simp)
theorem AM:∀(k i v:Nat) (l r:List Int) (w:Int),i+k=5->v<128 ^ i->Bytes l->wN k i v l=(w,true,r)->
  ∃q:Nat,w=((v+q*128 ^ i:Nat):Int)/\v+q*128 ^ i<=2147483647/\l=vf (k - 1) q++r/\(0<i->0<q)
 | 0,_,_,_,_,_,_,_,_,h=>by simp[wN] at h
 |_+1,_,_,[],_,_,_,_,_,h=>by simp[wN] at h
 |k+1,i,v,b::l,r,w,P,K,B,h=>by
  have L:=B.head;unfold wN at h;split at h
  ·rename_i H;have C:b.toNat % 128=b.toNat:=L7 (by omega);simp only[R0,B9,yi,aC2,C] at h;obtain⟨rfl,⟨u,z⟩,rfl⟩:=h;refine⟨b.toNat,rfl,u,?_,fun O=>by omega⟩;have e:((b.toNat:Nat):Int)=b:=by omega
   cases k with
   |zero=>simp[vf,e]
   |succ k=>simp only[aDt];unfold vf;rw[VX (by omega),e];rfl
  ·rename_i H;have D:b.toNat % 128<128:=kn _ (by decide);obtain⟨q,u,z,A,I⟩:=AM k (i+1) (v+b.toNat % 128*128 ^ i) l r w (by omega) (RN D K) B.tail h;have M:0<k:=by
    cases k with
    |zero=>simp[wN] at h
    |succ k=>omega
   obtain⟨k,rfl⟩:∃k',k=k'+1:=⟨k - 1,by omega⟩;have e:v+b.toNat % 128*128 ^ i+q*128 ^ (i+1)=v+(b.toNat % 128+128*q)*128 ^ i:=by rw[aEe,G9];rw[aEc 128 q,Nat.mul_assoc q 128,aEc 128 (128 ^ i)];omega
   have N:=I (by omega);refine⟨b.toNat % 128+128*q,by rw[u,e],by rw[<-e];exact z,?_,fun _=>by omega⟩;simp only[aDt] at A ⊢;unfold vf;rw[VN (by omega),A];have E:(b.toNat % 128+128*q) % 128=b.toNat % 128:=by omega
   have F:(b.toNat % 128+128*q) / 128=q:=by omega
   rw[E,F];have G:((128+b.toNat % 128:Nat):Int)=b:=by omega
   rw[G];rfl
theorem AN:∀(k i v q:Nat) (r:List Int),i+k=4->v+q*128 ^ i<=2147483647->(0<i->0<q)->wN (k+1) i v (vf k q++r)=(((v+q*128 ^ i:Nat):Int),true,r)
 | 0,i,v,q,r,C,z,u=>by
  have A:i=4:=by omega
  subst A;have h:q<128:=by omega
  have u:=u (by omega);have e:q % 128=q:=L7 h;simp only[vf,dg,X3,wN,j5,e];rw[VX (by omega)];simp;omega
 |k+1,i,v,q,r,C,z,u=>by
  unfold vf;by_cases h:q<128
  ·have e:q % 128=q:=L7 h;simp only[h,ZH,dg,X3,wN,j5,e];rw[VX (by omega)];simp;omega
  ·simp only[h,ZN,dg,wN,j5];rw[VN (by omega)];have B:(128+q % 128) % 128=q % 128:=by omega
   have e:v+q % 128*128 ^ i+q / 128*128 ^ (i+1)=v+q*128 ^ i:=by
    rw[aEe];have:q*128 ^ i=(q % 128+128*(q / 128))*128 ^ i:=by rw[Nat.mod_add_div]
    rw[this,G9,aEc 128 (q / 128),Nat.mul_assoc,aEc 128 (128 ^ i)];omega
   rw[B,AN k (i+1) (v+q % 128*128 ^ i) (q / 128) r (by omega) (by rw[e];exact z) (fun _=>by omega),e]
def zV:Nat->List Int->List Int->Option (List Int×List Int)
 | 0,acc,l=>some (l,acc)
 |n+1,acc,l=>if (wN 5 0 0 l).2.1 then zV n (acc++[(wN 5 0 0 l).1]) (wN 5 0 0 l).2.2 else none
theorem Fx:∀(k i v:Nat) (l:List Int),Bytes l->Bytes (wN k i v l).2.2
 | 0,_,_,l,h=>h
 |_+1,_,_,[],h=>h
 |k+1,i,v,b::l,h=>by
  unfold wN;split
  ·exact h.tail
  ·exact Fx k _ _ l h.tail
theorem My:∀(n:Nat) (acc l r WS:List Int),Bytes l->zV n acc l=some (r,WS)->∃ns,WS=acc++ns/\ns.length=n/\(∀x∈ns,0<=x/\x<=2147483647)/\l=vs ns++r
 | 0,acc,l,r,WS,_,h=>by
  simp only[zV,u6,R0] at h;obtain⟨rfl,rfl⟩:=h;exact⟨[],by simp,rfl,fun x u=>by simp at u,rfl⟩
 |n+1,acc,l,r,WS,A,h=>by
  unfold zV at h;split at h
  ·rename_i B;obtain⟨ns,C,D,E,F⟩:=My n _ _ r WS (Fx _ _ _ _ A) h;obtain⟨q,z,G,H,_⟩:=AM 5 0 0 l (wN 5 0 0 l).2.2 (wN 5 0 0 l).1 rfl (by decide) A (by rw[<-B]);simp only[Nat.pow_zero,Nat.mul_one,ym] at z G;refine⟨(q:Int)::ns,by rw[C,z];simp,by simp[D],fun x u=>?_,?_⟩
   ·rcases j4.1 u with rfl | u
    ·omega
    ·exact E x u
   ·have e:vs ((q:Int)::ns)=vf 4 q++vs ns:=by simp[vs]
    rw[H,F,e,u9]
  ·cases h
theorem Uz:∀(ns acc r:List Int),(∀x∈ns,0<=x/\x<=2147483647)->zV ns.length acc (vs ns++r)=some (r,acc++ns)
 | [],acc,r,_=>by simp[zV,vs]
 |x::ns,acc,r,h=>by
  have A:=h x (by simp);have e:vs (x::ns)++r=vf 4 x.toNat++(vs ns++r):=by simp[vs]
  have g:=AN 4 0 0 x.toNat (vs ns++r) rfl (by omega) (fun h=>by omega);simp only[Nat.pow_zero,Nat.mul_one,ym] at g;have u:((x.toNat:Nat):Int)=x:=by omega
  rw[e,B0,zV,g];simp only[ZH,u];rw[Uz ns _ r (fun y z=>h y (by simp[z]))];simp
theorem Jw{c l:List Int}(hc:c.length=8):Sw.chunks 8 (c++l)=c::Sw.chunks 8 l:=by
 unfold Sw.chunks;have e:((c++l).length+8 - 1) / 8=(l.length+8 - 1) / 8+1:=by rw[pT,hc];omega
 rw[e,List.range_succ_eq_map,D9,aEt];congr 1
 ·rw[Nat.zero_mul,List.drop_zero,List.take_append_of_le_length (by omega),aCb (by omega)]
 ·apply List.map_congr_left;intro k _;simp only[Function.comp_apply,Nat.succ_eq_add_one];rw[show (k+1)*8=c.length+k*8 by omega,aD4];congr 1;simp
theorem Jy:∀(bs:List aR),(∀b∈bs,b.length=8)->Sw.chunks 8 bs.flatten=bs
 | [],_=>rfl
 |b::bs,h=>by rw[aC1,Jw (h b (by simp)),Jy bs (fun c u=>h c (by simp[u]))]
theorem Da:∀(m:Nat) (l:List Int),l.length=8*m->(Sw.chunks 8 l).flatten=l/\(∀b∈Sw.chunks 8 l,b.length=8)/\(Sw.chunks 8 l).length=m
 | 0,l,h=>by
  have:l=[]:=List.length_eq_zero_iff.1 (by omega);subst this;exact⟨rfl,fun b u=>by simp[Sw.chunks] at u,rfl⟩
 |m+1,l,h=>by
  have e:l=l.take 8++l.drop 8:=(V3 8 l).symm;have z:(l.take 8).length=8:=by simp;omega
  obtain⟨A,B,C⟩:=Da m (l.drop 8) (by simp;omega);rw[e,Jw z];refine⟨by rw[aC1,A],fun b u=>?_,by simp[C]⟩;rcases j4.1 u with rfl | u
  ·exact z
  ·exact B b u
theorem HO{l:List Int}{bs:List aR}(h:bs.flatten=l)(hb:Bytes l):∀b∈bs,Bytes b:=fun b u x z=>hb x (by rw[<-h];exact List.mem_flatten.2 ⟨b,u,z⟩)
def Iw:List Int->Option fG
 |b0::b1::r=>match zV (b0.toNat % 16) [] r with
  |some (rest,h)=>if b1>32\/h.length>12\/(rest.length:Int)≠8*b1 then none else some (((b0.toNat / 16:Nat):Int),h,Sw.chunks 8 rest)
  |none=>none
 |_=>none
theorem AO{n:Nat}(h:n<256):IntKind.wrap .u8 (n:Int)=n:=by rw[Cz];omega
theorem Se{f:fG}(g:Good f):Hh f=[((16*f.1.toNat+f.2.1.length:Nat):Int),(f.2.2.length:Int)]:=by
 have h:=g.s0;have u:=g.s1;have z:=g.ns;have A:=g.bs;unfold Hh;have e:ar .add .i64 (ar .mul .i64 16 f.1) (f.2.1.length:Int)=((16*f.1.toNat+f.2.1.length:Nat):Int):=by
  have:ar .mul .i64 16 f.1=16*f.1:=wrap_i64 (by omega);rw[this,YZ (by omega)];omega
 rw[e,AO (by omega),AO (by omega)]
theorem CV{b:List Int}{f:fG}(hb:Bytes b)(h:Iw b=some f):Good f/\dU f=0/\body f=b:=by
 match b,h with
 |b0::b1::r,h=>
  have P:=hb.head;have Q:=hb.tail.head;have z:=hb.tail.tail;simp only[Iw] at h;cases hn:zV (b0.toNat % 16) [] r with
  |none=>rw[hn] at h;cases h
  |some p=>
   obtain⟨rest,K⟩:=p;rw[hn] at h;simp only at h;split at h
   ·cases h
   ·rename_i R;simp only[u6] at h;subst h;obtain⟨S,B,L,C,D⟩:=My _ _ _ _ _ z hn;simp only[X3] at B;subst B;obtain⟨E,M,N⟩:=Da b1.toNat rest (by omega);have F:Bytes rest:=fun x u=>z x (by rw[D];simp[u]);have A:Good (((b0.toNat / 16:Nat):Int),K,Sw.chunks 8 rest):=⟨by simp only;omega,by simp only;omega,by simp only;omega,by simp only;omega,C,fun b hb=>⟨M b hb,HO E F b hb⟩⟩;refine⟨A,?_,?_⟩
    ·unfold dU;rw[VN (by simp only;omega),VN (by simp only;omega),VN];intro I;obtain⟨x,u,O⟩:=aDc.1 I;have:=C x u;simp[yM] at O;omega
    ·unfold body;rw[Se A];simp only[E,N,L,dg,X3];rw[D];have G:((16*(((b0.toNat / 16:Nat):Int)).toNat+b0.toNat % 16:Nat):Int)=b0:=by rw[j5];omega
     have H:((b1.toNat:Nat):Int)=b1:=by omega
     rw[G,H]
theorem Va{f:fG}(g:Good f):Iw (body f)=some f:=by
 have B:=g.s0;have C:=g.s1;have D:=g.ns;have E:=g.bs;unfold body;rw[Se g];simp only[dg,X3,Iw,j5];have h:(16*f.1.toNat+f.2.1.length) % 16=f.2.1.length:=by omega
 have u:(16*f.1.toNat+f.2.1.length) / 16=f.1.toNat:=by omega
 rw[h,u,Uz _ _ _ g.num];simp only[X3];have F:=(m6 g.YC).2;rw[VN (by omega),Jy _ (fun b A=>(g.YC b A).1)];have z:((f.1.toNat:Nat):Int)=f.1:=by omega
 rw[z]
end Go.VW
namespace Go.VW
open Go.Pl
open Go Go.Sw Go.Mo
def fF(a:List Int):Option fG:=
 if a.length<6 then none else if a.drop (a.length - 4)=o7 (4294967295 - zU (nat (a.take (a.length - 4)))) then Iw (a.take (a.length - 4)) else none
theorem PA{n c:Nat}(hc:c<=32):sh .shr .u32 (n:Int) (c:Int)=((n / 2 ^ c:Nat):Int):=by
 show Int.fdiv _ _=_;rw[j5,show IntKind.bits .u32=32 from rfl,oj hc,ug _ (aEb (aEw (by decide)))];push_cast;rfl
theorem MB{S:Nat}(h:S<4294967296): [(IntKind.wrap .u8 (sh .shr .u32 (S:Int) (24:Int))),(IntKind.wrap .u8 (sh .shr .u32 (S:Int) (16:Int))),(IntKind.wrap .u8 (sh .shr .u32 (S:Int) (8:Int))),(IntKind.wrap .u8 (S:Int))]=o7 S:=by
 rw[show (24:Int)=((24:Nat):Int) from rfl,show (16:Int)=((16:Nat):Int) from rfl,show (8:Int)=((8:Nat):Int) from rfl,PA (by decide),PA (by decide),PA (by decide),Cz,Cz,Cz,Cz];unfold o7;have e:S / 2 ^ 24 % 256=S / 16777216:=by omega
 rw[e]
theorem RO:∀a:Fin 256,ar .and .u8 ((a.1:Nat):Int) 15=((a.1 % 16:Nat):Int):=by decide+kernel
theorem PB{b:Int}(h:0<=b/\b<=255):ar .and .u8 b 15=((b.toNat % 16:Nat):Int):=by
 have:=RO ⟨b.toNat,by omega⟩;have e:((b.toNat:Nat):Int)=b:=by omega
 simpa[e] using this
theorem TH:∀a:Fin 256,sh .shr .u8 ((a.1:Nat):Int) 4=((a.1 / 16:Nat):Int):=by decide+kernel
theorem RP{b:Int}(h:0<=b/\b<=255):sh .shr .u8 b 4=((b.toNat / 16:Nat):Int):=by
 have:=TH ⟨b.toNat,by omega⟩;have e:((b.toNat:Nat):Int)=b:=by omega
 simpa[e] using this
theorem TI{n:Nat}(h:n<200):ar .add .u8 (n:Int) 1=((n+1:Nat):Int):=by
 show IntKind.wrap .u8 ((n:Int)+1)=_;have:(n:Int)+1=((n+1:Nat):Int):=by push_cast;rfl
 rw[this,AO (by omega)]
theorem Qh{z:fG×Option Int}(N:Nat)(hN:N<=15):∀(n j:Nat) (l acc:List Int) (f:Nat),j+n=N->Bytes l->l.length<=1000000->acc.length+n<=1000->n<f->
  loop (β:=Ex ((List Int)×(List Int)) (fG×Option Int)) (fun (C2:Int×(List Int)×(List Int))=>
                bif (cm .lss C2.1 (N:Int)) then
                 (gE C2.2.1).bind fun ZD=>
                  bif (!ZD.2.1) then
                   some (.done (.ret z))
                  else
                   (Sw.app C2.2.2 ([ZD.1]:(List Int))).bind fun H0=>
                    some (.next ((ar .add .u8 C2.1 (1:Int)),ZD.2.2,H0))
                else
                 some (.done (.VP (C2.2.1,C2.2.2)))
                ) f ((j:Int),l,acc)=some (match zV n acc l with | some p=> .VP p | none=> .ret z)
 | 0,j,l,acc,f,B,u,A,C,D=>by
  obtain⟨f,rfl⟩:∃f',f=f'+1:=⟨f - 1,by omega⟩;have:cm .lss (j:Int) (N:Int)=false:=by rw[cl];simp;omega
  simp only[loop,this,pF,zV]
 |n+1,j,l,acc,f,B,u,A,C,D=>by
  obtain⟨f,rfl⟩:∃f',f=f'+1:=⟨f - 1,by omega⟩;have:cm .lss (j:Int) (N:Int)=true:=by rw[cl];simp;omega
  simp only[loop,this,WR,OZ l u A,cM,zV];by_cases h:(wN 5 0 0 l).2.1=true
  ·simp only[h,iz,pF,ZH];rw[UQ _ _ (by simp;omega),cM,TI (by omega)];exact Qh N hN n (j+1) _ _ f (by omega) (Fx _ _ _ _ u) (ai (Uy _ _ _ _) A) (by simp;omega) (by omega)
  ·simp only[yj] at h;simp only[h,uf,WR,O5,ZN]
theorem AP:∀(its acc:List aR),(∀i∈its,i.length=8)->acc.length+its.length<=1000000->
  Y1 (δ:=Empty) (fun (uk:(List Int)) (ax:(List aR))=>
    (Sw.m7 8 uk).bind fun z46=>
     (Sw.app ax ([z46]:(List aR))).bind fun vj=>
      some (.next vj)
    ) its acc=some (.VP (acc++its))
 | [],acc,_,_=>by simp[Y1]
 |i::is,acc,h,u=>by
  have A:=h i (by simp);have e:Sw.m7 8 i=some i:=by unfold Sw.m7;rw[VX (by omega),aCb (by omega)]
  simp only[Y1,e,cM];rw[UQ _ _ (by simp at u ⊢;omega)];simp only[cM];rw[AP is _ (fun j z=>h j (by simp[z])) (by simp at u ⊢;omega)];simp
theorem rS(a:List Int)(hb:Bytes a)(hl:a.length<=10000):fL a=some (match fF a with | some f=>(f,none) | none=>((0,[],[]),some 3)):=by
 unfold fL fF;rw[cl];by_cases G:a.length<6
 ·have:(a.length:Int)<6:=by omega
  simp[G,this]
 have O:¬(a.length:Int)<6:=by omega
 simp only[G,O,y6,pF,ZN];generalize hL:a.length - 4=L;have P:ar .sub .i64 (a.length:Int) 4=(L:Int):=by rw[M9 (by omega)];omega
 have Q:Sw.sub a 0 (L:Int)=some (a.take L):=by unfold Sw.sub;rw[VX (by omega)];simp
 have B:(a.take L).length=L:=by simp;omega
 have R:Sw.sub a (L:Int) (a.length:Int)=some (a.drop L):=by unfold Sw.sub;rw[VX (by omega)];simp
 have ab:(a.drop L).length=4:=by simp;omega
 have S:Sw.m7 4 (a.drop L)=some (a.drop L):=by unfold Sw.m7;rw[VX (by omega),aCb (by omega)]
 have C:Bytes (a.take L):=fun x hx=>hb x (aCq hx);have T:=HM (a.take L) C (by omega);rw[P,Q,cM,T,cM,B,R,cM,S,cM,MB (by omega)];by_cases H:a.drop L=o7 (4294967295 - zU (nat (a.take L)))
 ·simp only[H,Y8,iz,pF,ZH];generalize hp:a.take L=p at*
  match p,B with
  | [],h=>simp at h;omega
  | [_],h=>simp at h;omega
  |b0::b1::r,B=>
   have I:=C.head;have G4:=C.tail.head;have K:=C.tail.tail;have K9:r.length<=10000:=by simp at B;omega
   rw[Sd _ (by simp;omega),cM];simp only[Ux];rw[Sd _ (by simp;omega),cM];simp only[Ux,PB I,RP I,Iw];have U:=Qh (z:=((0,[],[]),some 3)) (b0.toNat % 16) (by omega) (b0.toNat % 16) 0 r [] fI (by omega) K (by omega) (by simp;omega) (by unfold fI;omega);unfold lp;rw[show ((0:Int),r,([]:List Int))=(((0:Nat):Int),r,([]:List Int)) from rfl,U];cases hn:zV (b0.toNat % 16) [] r with
   |none=>rfl
   |some q=>
    obtain⟨u,E⟩:=q;obtain⟨ac,N,h2,h3,h4⟩:=My _ _ _ _ _ K hn;simp only[X3] at N;subst N;have ZG:u.length<=r.length:=by rw[h4];simp
    have V:ar .mul .i64 b1 8=8*b1:=by show IntKind.wrap .i64 _=_;rw[wrap_i64 (by omega)];omega
    simp only[cg,cn,V];by_cases D:b1>32
    ·simp[D]
    by_cases F:E.length>12
    ·have A:(E.length:Int)>12:=by omega
     simp[D,F,A]
    by_cases M:(u.length:Int)≠8*b1
    ·have A:¬(E.length:Int)>12:=by omega
     simp[D,F,A,M]
    have A:¬(E.length:Int)>12:=by omega
    have X:(u.length:Int)=8*b1:=aCs.1 M;obtain⟨g1,g2,g3⟩:=Da b1.toNat u (by omega);have Z9:jQ u 8=some (u,8):=rfl;have aa:small u=some ():=by unfold small;rw[VX (by omega)]
    have rf:mr 8=some ():=by decide
    simp only[D,F,A,X,ne_eq,not_true,y6,pF,cM,aEy,ZN,Z9,aa,rf,rg];rw[show Int.toNat 8=8 from rfl,AP _ _ g2 (by simp;omega)];simp
 ·simp only[H,y6,uf,WR,ZN]
theorem Fy{a:List Int}{f:fG}(hb:Bytes a)(h:fF a=some f):Good f/\dU f=0/\bQ f=a:=by
 unfold fF at h;split at h
 ·cases h
 ·split at h
  ·rename_i D u;obtain⟨A,B,C⟩:=CV (fun x z=>hb x (aCq z)) h;refine⟨A,B,?_⟩;unfold bQ;rw[C,<-u,V3]
  ·cases h
theorem lQ{f:fG}(g:Good f):fF (bQ f)=some f:=by
 have A:2<=(body f).length:=by unfold body;rw[Se g];simp
 have h:(bQ f).length=(body f).length+4:=by simp[bQ,o7]
 have u:(bQ f).take ((bQ f).length - 4)=body f:=by rw[h,aDt];unfold bQ;simp
 have z:(bQ f).drop ((bQ f).length - 4)=o7 (4294967295 - zU (nat (body f))):=by rw[h,aDt];unfold bQ;simp
 unfold fF;rw[VN (by omega),u,z,VX rfl,Va g]
end Go.VW
namespace Go.VW
open Go.Pl
open Go Go.Sw Go.Mo
theorem ZE{α β:Type}{step:α->Option (Step α β)}{x y:α}{f:Nat}(h:step x=some (.next y)):loop step (f+1) x=loop step f y:=by simp only[loop,h]
theorem ZF{α β:Type}{step:α->Option (Step α β)}{x:α}{b:β}{f:Nat}(h:step x=some (.done b)):loop step (f+1) x=some b:=by simp only[loop,h]
end Go.VW
namespace Go.VW
open Go.Pl
open Go Go.Sw Go.Mo
end Go.VW
namespace Go.VW
open Go.Pl
open Go Go.Sw Go.Mo
theorem Xy{S:Nat}(h:S<4294967296):Bytes (o7 S):=fun x u=>by
 simp only[o7,j4,aCv,aEs] at u;rcases u with rfl | rfl | rfl | rfl<;>omega
theorem Bk{f:fG}(g:Good f):Bytes (bQ f):=fun x h=>by
 unfold bQ at h;rcases J6.1 h with h | h
 ·exact(qX g).1 x h
 ·exact Xy (by omega) x h
end Go.VW
namespace Go.VW
open Go.Pl
open Go Go.Sw Go.Mo
theorem HP(x:Int):pQ x=some (yM x):=by
 unfold pQ yM;by_cases h:x<0
 ·have:cm .lss x 0=true:=by simp[cm,h]
  simp[this,h]
 ·have:cm .lss x 0=false:=by simp[cm];omega
  simp[this,h,cm]
theorem Sf(l:List Int)(h:l.length<=1000000):cW l=some (l.any yM):=by
 unfold cW dW;rw[show (0:Int)=((0:Nat):Int) from rfl,Be (l:=l) (fun i (_:Unit)=>(i:Int)) () (fun i x _=>if yM x then .done (.ret (i:Int)) else .next ()) (fun _=> .VP ()) (by unfold fI;omega)]
 ·rw[Ut (fun i=>(i:Int)),Uu];cases l.findIdx? yM<;>simp[out,cm]
 ·rintro u x z acc rfl;simp only[pK,WR,mU,cM,HP,GJ (n:=u.length) (m:=1000000) (by simp at h;omega) (by omega)];cases yM x<;>simp[Ie]
 ·intro _;simp[dQ]
theorem ZT(a b:Int):qB [a,b]=some (!(yM a || yM b)):=by
 unfold qB;rw[Sf _ (by simp)];simp
theorem ZY{x:Int}:yM x=false↔0<=x/\x<=2147483647:=by unfold yM;simp
theorem PC{α A β γ:Type}{step:α->Option (Step α (Ex β γ))}{l:List A}{k:β->Option γ}(st:Nat->α)(z:A->Option γ)(y:β)(hf:l.length<fI)
  (hs:∀pre x rest,l=pre++x::rest->step (st pre.length)=some (match z x with | some v=> .done (.ret v) | none=> .next (st (pre.length+1)))) (he:step (st l.length)=some (.done (.VP y))):
  lp step (st 0) k=(l.findSome? z).elim (k y) some:=by
 have u:∀(rest pre:List A) (f:Nat),l=pre++rest->rest.length<f->loop step f (st pre.length)=some (match rest.findSome? z with | some v=> .ret v | none=> .VP y):=by
  intro rest
  induction rest with
  |nil=>
   intro pre f h hf;obtain⟨f,rfl⟩:∃f',f=f'+1:=⟨f - 1,by simp at hf;omega⟩;rw[V2] at h;rw[<-h];simp[loop,he]
  |cons x rest B=>
   intro pre f h hf;obtain⟨f,rfl⟩:∃f',f=f'+1:=⟨f - 1,by simp at hf;omega⟩;simp only[loop,hs pre x rest h,List.findSome?_cons];cases hz:z x with
   |some v=>simp
   |none=>
    have:=B (pre++[x]) f (by rw[h];simp) (by simp at hf;omega);simpa using this
 have:=u l [] fI rfl hf;unfold lp;simp only[V1] at this;rw[this];cases l.findSome? z<;>rfl
def dM(f:fG):Int:=if dU f=0 then (if 9<f.2.1.length then 2 else 0) else dU f
theorem AR(f:fG):tN f=some (if dM f=0 then none else some (dM f)):=by
 unfold tN dM;rw[Ey,cM,cg];by_cases h:dU f=0
 ·simp only[h,ZH,ZI,pF];by_cases u:9<f.2.1.length
  ·have:(f.2.1.length:Int)>9:=by omega
   simp[u,this]
  ·have:¬(f.2.1.length:Int)>9:=by omega
   simp[u,this]
 ·simp[h]
def uD(l:List fG):Option Int:=l.findSome? fun f=>if dM f=0 then none else some (dM f)
abbrev uE:=Int×Int×List fG
def jF(s:uE):Int:=if yM s.1 || yM s.2.1 then 1 else if 64<s.2.2.length then 2 else (uD s.2.2).getD 0
theorem Vb{l:List fG}{e:Int}(h:uD l=some e):e≠0:=by
 obtain⟨f,_,u⟩:=List.exists_of_findSome?_eq_some h;split at u
 ·cases u
 ·cases u;assumption
theorem YX(s:uE):pE s=some (if jF s=0 then none else some (jF s)):=by
 unfold pE jF;rw[ZT,cM];by_cases u:(yM s.1 || yM s.2.1)=true
 ·simp[u]
 ·simp only[yj] at u;simp only[u,uf,iz,pF,O5,ZN,cg];by_cases z:64<s.2.2.length
  ·have:(s.2.2.length:Int)>64:=by omega
   simp[z,this]
  ·have:¬(s.2.2.length:Int)>64:=by omega
   simp only[z,this,y6,pF,ZN];rw[show (0:Int)=(fun (i:Nat)=>(i:Int)) 0 from rfl];rw[PC (l:=s.2.2) (fun (i:Nat)=>(i:Int)) (fun f=>if dM f=0 then none else some (some (dM f))) () (by unfold fI;omega)]
   ·have e:s.2.2.findSome? (fun f=>if dM f=0 then none else some (some (dM f)))=(uD s.2.2).map some:=by
     unfold uD
     induction s.2.2 with
     |nil=>rfl
     |cons f l B=>simp only[List.findSome?_cons];by_cases h:dM f=0<;>simp[h,B]
    rw[e];cases hf:uD s.2.2 with
    |none=>simp
    |some e=>have:=Vb hf;simp[this]
   ·rintro C x D h;rw[h];simp only[pK,WR,mU,cM,AR];rw[l5 (by have:=congrArg List.length h;simp at this;omega)];by_cases A:dM x=0<;>simp[A]
   ·simp[dQ]
def Vc(f:fG):Prop:=f.2.1.length<=1000/\f.2.2.length<=1000
theorem Vd{f:fG}(h:dM f=0):Vc f:=by
 unfold dM at h;split at h
 ·rename_i u;unfold dU at u;unfold Vc;split at u
  ·simp at u
  ·split at u
   ·simp at u
   ·omega
 ·exact absurd h (by assumption)
theorem Jz{s:uE}(h:jF s=0):(0<=s.1/\s.1<=2147483647)/\(0<=s.2.1/\s.2.1<=2147483647)/\s.2.2.length<=64/\∀f∈s.2.2,Vc f:=by
 unfold jF at h;split at h
 ·simp at h
 ·rename_i u;simp only[yj,Bool.or_eq_false_iff] at u;split at h
  ·simp at h
  ·rename_i C;refine⟨ZY.1 u.1,ZY.1 u.2,by omega,fun f B=>Vd ?_⟩;have A:uD s.2.2=none:=by
    cases hf2:uD s.2.2 with
    |none=>rfl
    |some e=>rw[hf2] at h;exact absurd h (Vb hf2)
   have:=List.findSome?_eq_none_iff.1 A f B;by_cases z:dM f=0
   ·exact z
   ·simp[z] at this
theorem Ve(l:List fG)(hl:l.length<=64)(h:∀f∈l,Vc f):rN l=some l:=by
 unfold rN;rw[show ((0:Int),([]:List fG))=(fun (i:Nat) (acc:List fG)=>((i:Int),acc)) 0 [] from rfl];rw[A1 (l:=l) (fun (i:Nat) (acc:List fG)=>((i:Int),acc)) (fun i acc=>acc.length=i) [] (fun _ f acc=>acc++[f]) id (by unfold fI;omega) rfl]
 ·have:∀(l:List fG) (i:Nat) (acc:List fG),(l.zipIdx i).foldl (fun acc x=>acc++[x.1]) acc=acc++l:=by
   intro l
   induction l with
   |nil=>intro i acc;simp
   |cons x l G=>intro i acc;rw[aCm,O7,G];simp
  rw[this];rfl
 ·intro u x A acc z F;have B:=h x (by rw[z];simp);have H:u.length<64:=by have:=congrArg List.length z;simp at this;omega
  have C:cm .lss (u.length:Int) (l.length:Int)=true:=by rw[z];exact pK u x A
  have D:Sw.idx l (u.length:Int)=some x:=by rw[z];exact mU u x A
  have E:mS x=some x:=by
   unfold mS kU aO;unfold Vc at B;rw[UQ _ _ (by simp;omega),UQ _ _ (by simp;omega)];rfl
  simp only[C,D,E,WR,cM];rw[UQ _ _ (by simp;omega),l5 (by omega)];exact⟨rfl,by simp[F]⟩
 ·intro acc _;simp only[dQ,pF];rfl
end Go.VW
namespace Go.VW
open Go.Pl
open Go Go.Sw Go.Mo
theorem H8{α:Type}(l:List α)(n:Nat)(h:n<=l.length):Sw.sub l (n:Int) (l.length:Int)=some (l.drop n):=by
 unfold Sw.sub;rw[VX (by omega)];simp
theorem Vf{a c:Int}(h1:0<=a/\a<=2147483647)(h2:0<=c/\c<=2147483647):dU ((0:Int),[a,c],([]:List aR))=0/\Good ((0:Int),[a,c],([]:List aR)):=by
 have e:dU ((0:Int),[a,c],([]:List aR))=0:=by
  unfold dU;simp[ZY.2 h1,ZY.2 h2]
 exact⟨e,rR e (fun b h=>by simp at h)⟩
end Go.VW
namespace Go.VW
open Go.Pl
open Go Go.Sw Go.Mo
def Bq{A B:Type}(g:Nat->A->B->Option B):Nat->B->List A->Option B
 |_,acc,[]=>some acc
 |i,acc,x::l=>(g i x acc).bind fun h=>Bq g (i+1) h l
theorem PD{α A B β γ:Type}{step:α->Option (Step α (Ex β γ))}{l:List A}{k:β->Option γ}(st:Nat->B->α)(I:Nat->B->Prop)(YB:B)(g:Nat->A->B->Option B)(ex:Ex β γ)(fin:B->β)(hf:l.length<fI)(h0:I 0 YB)
  (hs:∀pre x rest acc,l=pre++x::rest->I pre.length acc->step (st pre.length acc)=some (match g pre.length x acc with | some WS=> .next (st (pre.length+1) WS) | none=> .done ex)/\∀WS,g pre.length x acc=some WS->I (pre.length+1) WS)
  (he:∀acc,I l.length acc->step (st l.length acc)=some (.done (.VP (fin acc)))):
  lp step (st 0 YB) k=(Bq g 0 YB l).elim (out k ex) (fun acc=>k (fin acc))/\∀acc,Bq g 0 YB l=some acc->I l.length acc:=by
 have E:∀(rest pre:List A) (f:Nat) (acc:B),l=pre++rest->rest.length<f->I pre.length acc->loop step f (st pre.length acc)=some ((Bq g pre.length acc rest).elim ex (fun acc=> .VP (fin acc)))/\∀WS,Bq g pre.length acc rest=some WS->I l.length WS:=by
  intro rest
  induction rest with
  |nil=>
   intro pre f acc u hf z;obtain⟨f,rfl⟩:∃f',f=f'+1:=⟨f - 1,by simp at hf;omega⟩;rw[V2] at u;rw[<-u] at z ⊢;exact⟨by simp[loop,he acc z,Bq],fun WS h=>by simp only[Bq,u6] at h;rw[<-h];exact z⟩
  |cons x rest F=>
   intro pre f acc u hf z;obtain⟨f,rfl⟩:∃f',f=f'+1:=⟨f - 1,by simp at hf;omega⟩;obtain⟨C,D⟩:=hs pre x rest acc u z;simp only[loop,C,Bq];cases hg:g pre.length x acc with
   |none=>exact⟨by simp,fun WS h=>by simp at h⟩
   |some WS=>
    have:=F (pre++[x]) f WS (by rw[u];simp) (by simp at hf;omega) (by simpa using D WS hg);simpa using this
 obtain⟨C,D⟩:=E l [] fI YB rfl hf h0;refine⟨?_,D⟩;unfold lp;simp only[V1] at C;rw[C];cases Bq g 0 YB l with
 |none=>cases ex<;>rfl
 |some _=>rfl
def VU(s:uE)(i:Nat)(f:fG):fG:=(1,[s.1,s.2.1+(i:Int),f.1]++f.2.1,f.2.2)
def Qi(s:uE)(i:Nat)(f:fG)(acc:List (List Int)):Option (List (List Int)):=if s.2.1+(i:Int)>2147483647 then none else some (acc++[bQ (VU s i f)])
theorem ZU{f:fG}(h:dM f=0):dU f=0/\f.2.1.length<=9:=by
 unfold dM at h;split at h
 ·rename_i u;refine⟨u,?_⟩;split at h
  ·simp at h
  ·omega
 ·exact absurd h (by assumption)
theorem D8{s:uE}{i:Nat}{f:fG}(h1:0<=s.1/\s.1<=2147483647)(h2:0<=s.2.1)(hi:s.2.1+(i:Int)<=2147483647)(hf:dM f=0)(hb:∀b∈f.2.2,b.length=8/\Bytes b):dU (VU s i f)=0/\Good (VU s i f):=by
 obtain⟨E,G⟩:=ZU hf;have g:=rR E hb;have e:dU (VU s i f)=0:=by
  have h:f.2.1.any yM=false:=by
   rw[aEl];intro n D;have:=ZY.2 (g.num n D);simp[this]
  have u:=ZY.2 h1;have z:yM (s.2.1+(i:Int))=false:=ZY.2 ⟨by omega,hi⟩;have A:yM f.1=false:=ZY.2 ⟨g.s0,by have:=g.s1;omega⟩;have F:=g.bs;unfold dU VU;have B:¬((1:Int)<0\/(1:Int)>15):=by omega
  have C:¬(([s.1,s.2.1+(i:Int),f.1]++f.2.1).length>12\/f.2.2.length>32):=by simp;omega
  simp only[B,C,ZN];simp[u,z,A,h]
 exact⟨e,rR e hb⟩
def UA(s:uE):Prop:=∀f∈s.2.2,dM f=0/\∀b∈f.2.2,b.length=8/\Bytes b
def Ta(s:uE):List fG:=s.2.2.take (min s.2.2.length 4)
theorem PE{s:uE}{pre rest:List fG}{x:fG}(h:Ta s=pre++x::rest):pre.length<min s.2.2.length 4/\s.2.2[pre.length]? =some x/\x∈s.2.2:=by
 have z:pre.length<min s.2.2.length 4:=by have:=congrArg List.length h;simp[Ta] at this;omega
 have u:(Ta s)[pre.length]? =some x:=by rw[h];simp
 unfold Ta at u;rw[List.getElem?_take,VX z] at u;exact⟨z,u,yw u⟩
theorem MC(s:uE):(Ta s).length=min s.2.2.length 4:=by simp[Ta]
theorem AT(s:uE)(h0:jF s=0)(hq:UA s):pA s=(Bq (Qi s) 0 [] (Ta s)).elim (some ([],some 1)) (fun acc=>some (acc,none))/\
  ∀acc,Bq (Qi s) 0 [] (Ta s)=some acc->acc.length=(Ta s).length/\∀x∈acc,x.length<=1000000:=by
 obtain⟨O,P,S,T⟩:=Jz h0;unfold pA;rw[YX,VX h0,cM];have F:Sw.sub s.2.2 (0:Int) (min (s.2.2.length:Int) (4:Int))=some (Ta s):=by
  unfold Sw.sub Ta;rw[VX (by omega)];simp;omega
 rw[F];simp only[ZI,pF,cM];refine PD (l:=Ta s) (fun (i:Nat) (acc:List (List Int))=>((i:Int),acc)) (fun i acc=>acc.length=i/\∀x∈acc,x.length<=1000000) [] (Qi s) (.ret ([],some 1)) id (by rw[MC];unfold fI;omega) ⟨rfl,fun x B=>by simp at B⟩ ?_ ?_
 ·intro u x C acc h D;obtain⟨U,V,A⟩:=PE h;have G:cm .lss (u.length:Int) ((Ta s).length:Int)=true:=by rw[h];exact pK u x C
  have H:Sw.idx (Ta s) (u.length:Int)=some x:=by rw[h];exact mU u x C
  have I:ar .add .i64 s.2.1 (u.length:Int)=s.2.1+(u.length:Int):=YZ (by omega);simp only[G,H,I,WR,cM,cg,Qi];by_cases c:s.2.1+(u.length:Int)>2147483647
  ·simp[c]
  ·obtain⟨Q,E⟩:=D8 (i:=u.length) O P.1 (by omega) (hq x A).1 (hq x A).2;have B:=ZU (hq x A).1;have K:Sw.app ([s.1,s.2.1+(u.length:Int),x.1]:List Int) x.2.1=some ([s.1,s.2.1+(u.length:Int),x.1]++x.2.1):=UQ _ _ (by simp;omega);have L:mR ((1:Int),[s.1,s.2.1+(u.length:Int),x.1]++x.2.1,x.2.2)=some (bQ (VU s u.length x),none):=Ej E Q;have M:Sw.app acc [bQ (VU s u.length x)]=some (acc++[bQ (VU s u.length x)]):=UQ _ _ (by simp;omega);simp only[c,y6,pF,ZN,K,L,M,cM,ZI];rw[l5 (by omega)];refine⟨rfl,fun R N=>?_⟩;cases N;refine⟨by simp[D.1],fun y z=>?_⟩;rcases J6.1 z with z | z
   ·exact D.2 y z
   ·simp at z;subst z;exact Xx E
 ·intro acc _;simp only[dQ,pF];rfl
end Go.VW
namespace Go.VW
open Go.Pl
open Go Go.Sw Go.Mo
theorem Xz{l:List fG}(h:∀f∈l,dM f=0):uD l=none:=by
 unfold uD;rw[List.findSome?_eq_none_iff];intro f u;rw[VX (h f u)]
variable {S M:Nat}
theorem m4{f:fG}:bQ f≠ []:=by unfold bQ body Hh;simp
theorem Mz{f:fG}:FZ (bQ f)=some ():=by
 unfold FZ;rw[VN];intro h;exact m4 (List.isEmpty_iff.1 h)
end Go.VW
namespace Go.jb
open Go.Pl
open Go Go.Sw Go.Mo
def Qj:Nat:=18446744073709551616
theorem Vg(n:Nat):IntKind.wrap .u64 (n:Int)=((n % Qj:Nat):Int):=by
 simp[IntKind.wrap,IntKind.signed,IntKind.bits,Qj]
theorem RQ{a b:Nat}(ha:a<Qj)(hb:b<Qj):ar .xor .u64 (a:Int) (b:Int)=((a ^^^ b:Nat):Int):=by
 have h:a ^^^ b<2 ^ 64:=aCe (by simpa[Qj] using ha) (by simpa[Qj] using hb);show IntKind.wrap .u64 ((BitVec.ofInt 64 (a:Int) ^^^ BitVec.ofInt 64 (b:Int)).toNat:Int)=_;simp only[rQ,aEp,yu];rw[L7 (by simpa[Qj] using ha),L7 (by simpa[Qj] using hb),Vg,L7 (by simpa[Qj] using h)]
theorem TJ{a b:Nat}:ar .mul .u64 (a:Int) (b:Int)=((a*b % Qj:Nat):Int):=by
 show IntKind.wrap .u64 ((a:Int)*(b:Int))=_;rw[show (a:Int)*(b:Int)=((a*b:Nat):Int) from by push_cast;rfl,Vg]
def NV:Nat:=1099511628211
def RR(h b:Nat):Nat:=(h ^^^ b)*NV % Qj
theorem HQ(h b:Nat):RR h b<Qj:=kn _ (by decide)
def HR(l:List Int):Nat:=(nat l).foldl RR 14695981039346656037
theorem HS(l:List Nat)(h:Nat)(hh:h<Qj):l.foldl RR h<Qj:=by
 induction l generalizing h with
 |nil=>exact hh
 |cons x l u=>exact u _ (HQ _ _)
theorem AU(l:List Int):HR l<Qj:=HS _ _ (by decide)
theorem Qk{A B:Type}(f:B->A->B):∀(l:List A) (i:Nat) (b:B),(l.zipIdx i).foldl (fun acc x=>f acc x.1) b=l.foldl f b
 | [],_,_=>rfl
 |x::l,i,b=>by simp only[aCm,O7];exact Qk f l (i+1) _
theorem Ql(l:List Int)(h:Bytes l)(hl:l.length<=1000000):qC l=some (HR l:Int):=by
 unfold qC;rw[show ((14695981039346656037:Int),(0:Int))=(fun (i:Nat) (r:Nat)=>((r:Int),(i:Int))) 0 14695981039346656037 from rfl];rw[A1 (l:=l) (fun (i:Nat) (r:Nat)=>((r:Int),(i:Int))) (fun _ r=>r<Qj) 14695981039346656037 (fun _ x r=>RR r x.toNat) (fun r=>(r:Int)) (by unfold fI;omega) (by decide)]
 ·rw[Qk (fun r (x:Int)=>RR r x.toNat)];simp only[HR,nat,List.foldl_map]
 ·rintro z x C r rfl A;have B:=h x (by simp);obtain⟨b,rfl⟩:∃b:Nat,x=(b:Int):=⟨x.toNat,by omega⟩;have u:b<Qj:=by unfold Qj;omega
  refine⟨?_,HQ _ _⟩;simp only[pK,WR,mU,cM,RQ A u];rw[show (1099511628211:Int)=((NV:Nat):Int) from rfl,TJ,GJ (n:=z.length) (m:=1000000) (by simp at hl;omega) (by omega)];rfl
 ·intro acc _;simp only[dQ,pF]
def Ws(h:Int):List Int:=(List.range 8).map fun j=>((h.toNat / 2 ^ (56 - 8*j) % 256:Nat):Int)
theorem CW(h:Int):Bytes (Ws h):=by
 intro x u;simp only[Ws,ah] at u;obtain⟨j,_,rfl⟩:=u;have:=kn (h.toNat / 2 ^ (56 - 8*j)) (show 0<256 by decide);omega
theorem Ld(h:Int):(Ws h).length=8:=by simp[Ws]
def Qm(l:List Int):List Int:=1::l.flatMap Ws
theorem m6{A:Type}(f:A->List Int)(l:List A)(h:∀x∈l,Bytes (f x)):Bytes (l.flatMap f):=by
 intro y u;obtain⟨x,z,u⟩:=aD5.1 u;exact h x z y u
theorem Vh(l:List Int):Bytes (Qm l):=by
 intro y h;rcases j4.1 h with rfl | h
 ·decide
 ·exact m6 Ws l (fun x _=>CW x) y h
theorem HT{A:Type}(f:A->List Int)(m:Nat)(l:List A)(h:∀x∈l,(f x).length=m):(l.flatMap f).length=l.length*m:=by
 induction l with
 |nil=>simp
 |cons x l z=>
  rw[aEm,pT,h x (by simp),z (fun y u=>h y (by simp[u])),B0,G9,oc,aDe]
theorem CX(l:List Int):(Qm l).length=1+l.length*8:=by
 rw[Qm,B0,HT Ws 8 l (fun x _=>Ld x)];omega
def CY(l:List Int):Int:=(HR (Qm l):Int)
def mz(l:List Int):Prop:=∀x∈l,0<=x/\x<18446744073709551616
theorem PF(l:List Int):0<=CY l/\CY l<18446744073709551616:=by
 have:=AU (Qm l);unfold CY;unfold Qj at this;omega
theorem aMc(n k:Nat)(hk:k<=64):sh .shr .u64 (n:Int) (k:Int)=((n / 2 ^ k:Nat):Int):=by
 show Int.fdiv _ _=_;have:min (k:Int).toNat (IntKind.bits .u64)=k:=by simp[IntKind.bits];omega
 rw[this];rw[ug _ (by exact aEb (aEw (by decide)))]
 norm_cast
theorem MD(l:List Int)(hu:mz l)(hl:l.length<=1000):tP l=some (CY l):=by
 unfold tP;rw[show ((0:Int),([(1:Int)]:List Int))=(fun (i:Nat) (r:List Int)=>((i:Int),r)) 0 [1] from rfl];rw[A1 (l:=l) (fun (i:Nat) (r:List Int)=>((i:Int),r)) (fun i r=>r.length<=1+8*i) [1] (fun _ x r=>r++Ws x) (fun r=>r) (by unfold fI;omega) (by simp)]
 ·rw[YR Ws l 0 [1]];have: [1]++l.flatMap Ws=Qm l:=rfl;rw[this,Ql _ (Vh l) (by rw[CX];omega)];rfl
 ·rintro h x H r rfl I;have F:=hu x (by simp);obtain⟨b,rfl⟩:∃b:Nat,x=(b:Int):=⟨x.toNat,by omega⟩;have G:h.length<=1000:=by simp at hl;omega
  refine⟨?_,by simp[Ld];omega⟩;simp only[pK,WR,mU,cM];rw[show ((56:Int),r)=(fun i:Nat=>((56:Int) - 8*i,r++(Ws b).take i)) 0 from by simp];rw[Uf (fun i:Nat=>((56:Int) - 8*i,r++(Ws b).take i)) 8 (r++Ws b) (by unfold fI;omega)]
  ·rw[GJ (n:=h.length) (m:=1000000) (by omega) (by omega)]
  ·intro i E;have u:((56:Int) - 8*(i:Int))=((56 - 8*i:Nat):Int):=by omega
   have z:cm .geq ((56:Int) - 8*(i:Int)) 0=true:=by unfold cm;simp;omega
   have A:nn ((56:Int) - 8*(i:Int))=some ():=by unfold nn;rw[VX (by omega)]
   have B:ar .sub .i64 ((56:Int) - 8*(i:Int)) 8=(56:Int) - 8*((i+1:Nat):Int):=by
    show IntKind.wrap .i64 _=_;rw[wrap_i64 (by omega)];push_cast;omega
   have C:IntKind.wrap .u8 (sh .shr .u64 (b:Int) ((56:Int) - 8*(i:Int)))=((b / 2 ^ (56 - 8*i) % 256:Nat):Int):=by
    rw[u,aMc _ _ (by omega)];simp[IntKind.wrap,IntKind.signed,IntKind.bits]
   have D:(Ws b).take (i+1)=(Ws b).take i++[((b / 2 ^ (56 - 8*i) % 256:Nat):Int)]:=by
    rw[List.take_add_one];congr 1;simp only[Ws];rw[iy,List.getElem?_range E];simp
   simp only[z,WR,A,cM,C];rw[UQ _ _ (by simp[Ld];omega),cM,B,D,u9]
  ·have:cm .geq ((56:Int) - 8*((8:Nat):Int)) 0=false:=by decide
   simp only[this,pF];rw[aCb (by rw[Ld];omega)]
 ·intro acc _;simp only[dQ,pF]
def Vi(l:List Int):List Int:=(Sw.chunks 4 l).map CY
theorem Ya{α:Type}{n:Nat}{xs c:List α}(h:c∈Sw.chunks n xs):∃k,c=(xs.drop (k*n)).take n:=by
 simp only[Sw.chunks,ah] at h;obtain⟨k,_,rfl⟩:=h;exact⟨k,rfl⟩
theorem mz.sub{l c:List Int}(h:mz l)(hs:∀x∈c,x∈l):mz c:=fun x u=>h x (hs x u)
theorem AV{l c:List Int}(h:mz l)(hc:c∈Sw.chunks 4 l):mz c/\c.length<=4:=by
 obtain⟨k,rfl⟩:=Ya hc;exact⟨h.sub fun x u=>aDq (aCq u),by simp;omega⟩
theorem AW{ι α:Type}{f:ι->Option α}{g:ι->α}:∀(its:List ι) (acc:List α),(∀i∈its,f i=some (g i))->acc.length+its.length<=1000000->
  Y1 (δ:=Empty) (fun i acc=>(f i).bind fun v=>(Sw.app acc [v]).bind fun a=>some (.next a)) its acc=some (.VP (acc++its.map g))
 | [],acc,_,_=>by simp[Y1]
 |i::is,acc,h,u=>by
  simp only[Y1,h i (by simp),cM];rw[UQ _ _ (by simp at u ⊢;omega)];simp only[cM];rw[AW is _ (fun j z=>h j (by simp[z])) (by simp at u ⊢;omega)];simp
theorem Ez{α:Type}(n:Nat)(xs:List α):(Sw.chunks n xs).length=(xs.length+n - 1) / n:=by simp[Sw.chunks]
theorem HU(l:List Int)(hu:mz l)(hl:l.length<=1000):rO l=some (Vi l):=by
 unfold rO iJ;have u:cm .lss (4:Int) 1=false:=by decide
 have z:small l=some ():=by unfold small;rw[VX (by omega)]
 have A:mr 4=some ():=by decide
 simp only[jp,u,pF,cM,z,A,rg];rw[show Int.toNat 4=4 from rfl];rw[AW (f:=tP) (g:=CY) _ _ (fun c h=>MD c (AV hu h).1 (by have:=(AV hu h).2;omega)) (by rw[Ez];simp;omega)];simp[Vi]
theorem RS{a b:Nat}:cm .lss (a:Int) (b:Int)=decide (a<b):=OU
theorem Sg(l:List Int):(Vi l).length=(l.length+3) / 4:=by simp[Vi,Ez]
theorem NW(l:List Int):mz (Vi l):=by
 intro x h;simp only[Vi,ah] at h;obtain⟨c,_,rfl⟩:=h;exact PF c
def Yb:Nat->List Int->List (List Int)
 | 0,_=>[]
 |f+1,l=>if l.length<=1 then [] else Vi l::Yb f (Vi l)
theorem Sh{a b:Nat}:cm .gtr (a:Int) (b:Int)=decide (b<a):=by unfold cm;simp
theorem ME{ab:List Int->Option (List Int)}(hab:∀l,mz l->l.length<=1000->ab l=some (Vi l)):
  ∀(n f:Nat) (l:List Int) (acc:List (List Int)),mz l->l.length<=n->n<=1000->n<f->acc.length+n<=2000->
   loop (fun (s:List Int×List (List Int))=>bif (cm .gtr (s.1.length:Int) (1:Int)) then (ab s.1).bind fun v=>(Sw.app s.2 [v]).bind fun a=>some (.next (v,a)) else (some (.done (.VP s.2)):Option (Step (List Int×List (List Int)) (Ex (List (List Int)) (List (List Int)×Option Int))))) f (l,acc)=some (.VP (acc++Yb n l))/\
   loop (fun (s:List Int×List (List Int))=>bif (cm .gtr (s.1.length:Int) (1:Int)) then (ab s.1).bind fun v=>(Sw.app s.2 [v]).bind fun a=>some (.next (v,a)) else (some (.done (.VP s.2)):Option (Step (List Int×List (List Int)) (Ex (List (List Int)) (List (List Int)))))) f (l,acc)=some (.VP (acc++Yb n l)):=by
 intro n
 induction n with
 |zero=>
  intro f l acc _ u _ z _;obtain⟨f,rfl⟩:∃f',f=f'+1:=⟨f - 1,by omega⟩;have:cm .gtr (l.length:Int) 1=false:=by rw[show (1:Int)=((1:Nat):Int) from rfl,Sh];simp;omega
  simp[loop,this,Yb]
 |succ n D=>
  intro f l acc A u F z G;obtain⟨f,rfl⟩:∃f',f=f'+1:=⟨f - 1,by omega⟩;by_cases h:l.length<=1
  ·have:cm .gtr (l.length:Int) 1=false:=by rw[show (1:Int)=((1:Nat):Int) from rfl,Sh];simp;omega
   simp[loop,this,Yb,h]
  ·have:cm .gtr (l.length:Int) 1=true:=by rw[show (1:Int)=((1:Nat):Int) from rfl,Sh];simp;omega
   have E:=Sg l;obtain⟨B,C⟩:=D f (Vi l) (acc++[Vi l]) (NW l) (by omega) (by omega) (by omega) (by simp;omega);simp only[loop,this,WR,hab l A (by omega),cM,UQ acc [Vi l] (by simp;omega),Yb,VN h];rw[B,C];simp
def leaf(b:aR):Int:=(HR (0::b):Int)
def leaves(bs:List aR):List Int:=bs.map leaf
theorem Vj(bs:List aR):mz (leaves bs):=by
 intro x h;simp only[leaves,ah] at h;obtain⟨b,_,rfl⟩:=h;have:=AU (0::b);unfold leaf;unfold Qj at this;omega
def tree(bs:List aR):List (List Int):=leaves bs::Yb bs.length (leaves bs)
def TK(bs:List aR):Prop:=∀b∈bs,b.length=8/\Bytes b
theorem MF{b:aR}(h:b.length=8/\Bytes b):vM b=some (leaf b):=by
 unfold vM;rw[UQ _ _ (by simp;omega),cM,Ql _ (by intro x u;simp at u;rcases u with rfl | u;decide;exact h.2 x u) (by simp;omega)];rfl
theorem foldl_map{A B:Type}(f:A->B):∀(l:List A) (i:Nat) (acc:List B),(l.zipIdx i).foldl (fun acc x=>acc++[f x.1]) acc=acc++l.map f
 | [],_,_=>by simp
 |x::l,i,acc=>by simp only[aCm,O7];rw[foldl_map f l];simp
theorem aMf(bs:List aR)(hb:TK bs)(hl:bs.length<=1000):zP bs=some (if bs.length<1\/bs.length>32 then ([],some 1) else (tree bs,none)):=by
 unfold zP;rw[show (1:Int)=((1:Nat):Int) from rfl,show (32:Int)=((32:Nat):Int) from rfl,RS,Sh];by_cases h:bs.length<1
 ·simp[h]
 ·by_cases u:bs.length>32
  ·have:(32<bs.length):=u;simp[h,this]
  ·have z:¬32<bs.length:=u;simp only[h,z,y6,pF,cM];rw[show ((0:Int),([]:List Int))=(fun (i:Nat) (r:List Int)=>((i:Int),r)) 0 [] from rfl];rw[A1 (l:=bs) (fun (i:Nat) (r:List Int)=>((i:Int),r)) (fun i r=>r.length=i) [] (fun _ x r=>r++[leaf x]) (fun r=>r) (by unfold fI;omega) rfl]
   ·rw[foldl_map leaf bs 0 []];have A:=(ME (ab:=rO) HU bs.length fI (leaves bs) [leaves bs] (Vj bs) (by simp[leaves]) (by omega) (by unfold fI;omega) (by simp;omega)).1;rw[show []++bs.map leaf=leaves bs from rfl];have B:((1:Nat):Int)=1:=rfl;simp only[B];unfold lp;rw[A];simp[tree]
   ·rintro C x E r rfl D;refine⟨?_,by simp[D]⟩;simp only[pK,WR,mU,cM];rw[MF (hb x (by simp)),cM,UQ _ _ (by simp at hl ⊢;omega),cM,show ((1:Nat):Int)=1 from rfl,GJ (n:=C.length) (m:=1000000) (by simp at hl;omega) (by omega)]
   ·intro acc _;simp only[dQ,pF]
def Goes:List (List Int)->Prop
 | []=>False
 | [l]=>l.length=1
 |l::m::t=>1<l.length/\m=Vi l/\Goes (m::t)
theorem Vk:∀(n:Nat) (l:List Int),1<=l.length->l.length<=n->Goes (l::Yb n l)
 | 0,l,u,z=>by omega
 |n+1,l,u,z=>by
  simp only[Yb];by_cases h:l.length<=1
  ·simp[h,Goes];omega
  ·rw[VN h];have:=Sg l;exact⟨by omega,rfl,Vk n (Vi l) (by omega) (by omega)⟩
theorem AX:∀(n:Nat) (l:List Int),(Yb n l).length<=n
 | 0,l=>by simp[Yb]
 |n+1,l=>by
  simp only[Yb];split
  ·simp
  ·have:=AX n (Vi l);simp;omega
theorem Goes.at:∀{t:List (List Int)},Goes t->∀(pre rest:List (List Int)) (l:List Int),t=pre++l::rest->(rest=[]/\l.length=1)\/(∃m r,rest=m::r/\1<l.length/\m=Vi l)
 | [],h,_,_,_,_=>h.elim
 | [l0],h,pre,rest,l,e=>by
  cases pre with
  |nil=>simp at e;obtain⟨rfl,rfl⟩:=e;exact .inl ⟨rfl,h⟩
  |cons p pre=>simp at e
 |l0::m0::t,h,pre,rest,l,e=>by
  cases pre with
  |nil=>simp at e;obtain⟨rfl,rfl⟩:=e;exact .inr ⟨m0,t,rfl,h.1,h.2.1⟩
  |cons p pre=>simp at e;exact Goes.at h.2.2 pre rest l e.2
theorem Goes.ne{t:List (List Int)}(h:Goes t):t≠ []:=by rintro rfl;exact h
theorem NX:∀(n:Nat) (l:List Int) (m:Nat),l.length<=m->∀x∈Yb n l,mz x/\x.length<=m
 | 0,l,m,h,x,u=>by simp[Yb] at u
 |n+1,l,m,h,x,u=>by
  simp only[Yb] at u;split at u
  ·simp at u
  ·have z:=Sg l;rcases j4.1 u with rfl | u
   ·exact⟨NW l,by omega⟩
   ·exact NX n (Vi l) m (by omega) x u
theorem oz(bs:List aR)(h:bs.length<=32):∀l∈tree bs,mz l/\l.length<=32:=by
 intro l u;rcases j4.1 u with rfl | u
 ·exact⟨Vj bs,by simp[leaves];omega⟩
 ·exact NX bs.length (leaves bs) 32 (by simp[leaves];omega) l u
theorem oy(bs:List aR):(tree bs).length<=bs.length+1:=by
 have:=AX bs.length (leaves bs);simp[tree];omega
theorem ld(bs:List aR)(h:1<=bs.length):Goes (tree bs):=Vk _ _ (by simp[leaves];omega) (by simp[leaves])
end Go.jb
namespace Go.bCb
open Go.Pl
open Go Go.Sw Go.Mo
end Go.bCb
namespace Go.Mo
open Go Go.Sw
structure PS where
 n:Int
 fn:Int
 XF:Int
 WE:Int
 blocks:(List aR)
 UZ:(Int×(List (Int×aR))×(List (Int×(List (Int×aR))))×Bool)
 VQ:(List (Int×(List aR)))
 UN:Int
 UP:(Int×Int×(List (Int×(List Int)×(List aR))))
 sent:Int
 safe:Int
 UW:(List Int)
 on:Int
 XE:Int
 VJ:Int
 first:Int
 receiver:(Int×Int)
 VM:(List (Bool×Bool×(List Int)))
 m5:Int
 fd:((List aR)×(List (Int×aR))×Int)
 j7:Int
 od:((List aR)×(List (Int×aR))×Int)
def lA(a1:Int)(a2:aR)(s:PS):Option ((Option Int)×PS):=(eR a1 a2 s.n s.fn s.XF s.WE s.blocks s.UZ s.VQ s.UN s.UP s.sent s.safe s.UW s.on s.XE s.VJ s.first s.receiver s.VM s.m5 s.fd s.j7 s.od).bind fun v=>some (v.1,{ s with blocks:=v.2.1,UZ:=v.2.2 })
def oD(a1:Int)(s:PS):Option (aR×(Option Int)×PS):=(fU a1 s.n s.fn s.XF s.WE s.blocks s.UZ s.VQ s.UN s.UP s.sent s.safe s.UW s.on s.XE s.VJ s.first s.receiver s.VM s.m5 s.fd s.j7 s.od).bind fun v=>some (v.1,v.2,s)
def qL(s:PS):Option ((Option Int)×PS):=(fP s.n s.fn s.XF s.WE s.blocks s.UZ s.VQ s.UN s.UP s.sent s.safe s.UW s.on s.XE s.VJ s.first s.receiver s.VM s.m5 s.fd s.j7 s.od).bind fun v=>some (v.1,{ s with XF:=v.2.1,UZ:=v.2.2.1,VQ:=v.2.2.2.1,m5:=v.2.2.2.2.1,fd:=v.2.2.2.2.2 })
def lR(s:PS):Option ((Option Int)×PS):=(eC s.n s.fn s.XF s.WE s.blocks s.UZ s.VQ s.UN s.UP s.sent s.safe s.UW s.on s.XE s.VJ s.first s.receiver s.VM s.m5 s.fd s.j7 s.od).bind fun v=>some (v.1,{ s with UP:=v.2.1,sent:=v.2.2.1,UW:=v.2.2.2.1,VM:=v.2.2.2.2 })
def jI(a1:Int)(s:PS):Option (Int×Bool×PS):=(cE a1 s.n s.fn s.XF s.WE s.blocks s.UZ s.VQ s.UN s.UP s.sent s.safe s.UW s.on s.XE s.VJ s.first s.receiver s.VM s.m5 s.fd s.j7 s.od).bind fun v=>some (v.1,v.2,s)
def rT(a1:(Int×(List Int)×(List aR)))(s:PS):Option ((Option Int)×PS):=(fB a1 s.n s.fn s.XF s.WE s.blocks s.UZ s.VQ s.UN s.UP s.sent s.safe s.UW s.on s.XE s.VJ s.first s.receiver s.VM s.m5 s.fd s.j7 s.od).bind fun v=>some (v.1,{ s with XE:=v.2.1,j7:=v.2.2.1,od:=v.2.2.2 })
def dY(a1:(List Int))(s:PS):Option ((Option Int)×PS):=(cN a1 s.n s.fn s.XF s.WE s.blocks s.UZ s.VQ s.UN s.UP s.sent s.safe s.UW s.on s.XE s.VJ s.first s.receiver s.VM s.m5 s.fd s.j7 s.od).bind fun v=>some (v.1,{ s with XE:=v.2.1,first:=v.2.2.1,receiver:=v.2.2.2.1,VM:=v.2.2.2.2.1,j7:=v.2.2.2.2.2.1,od:=v.2.2.2.2.2.2 })
def eS(a1:(List Int))(s:PS):Option ((Option Int)×PS):=(cR a1 s.n s.fn s.XF s.WE s.blocks s.UZ s.VQ s.UN s.UP s.sent s.safe s.UW s.on s.XE s.VJ s.first s.receiver s.VM s.m5 s.fd s.j7 s.od).bind fun v=>some (v.1,{ s with UZ:=v.2.1,UN:=v.2.2.1,UP:=v.2.2.2.1,sent:=v.2.2.2.2.1,safe:=v.2.2.2.2.2.1,UW:=v.2.2.2.2.2.2 })
def uF(a1:(Bool×Bool×(List Int)))(s:PS):Option ((Option Int)×PS):=(fV a1 s.n s.fn s.XF s.WE s.blocks s.UZ s.VQ s.UN s.UP s.sent s.safe s.UW s.on s.XE s.VJ s.first s.receiver s.VM s.m5 s.fd s.j7 s.od).bind fun v=>some (v.1,{ s with UZ:=v.2.1,UN:=v.2.2.1,UP:=v.2.2.2.1,sent:=v.2.2.2.2.1,safe:=v.2.2.2.2.2.1,UW:=v.2.2.2.2.2.2.1,XE:=v.2.2.2.2.2.2.2.1,first:=v.2.2.2.2.2.2.2.2.1,receiver:=v.2.2.2.2.2.2.2.2.2.1,VM:=v.2.2.2.2.2.2.2.2.2.2.1,j7:=v.2.2.2.2.2.2.2.2.2.2.2.1,od:=v.2.2.2.2.2.2.2.2.2.2.2.2 })
def mW(a1:Int)(s:PS):Option ((Option Int)×PS):=(eW a1 s.n s.fn s.XF s.WE s.blocks s.UZ s.VQ s.UN s.UP s.sent s.safe s.UW s.on s.XE s.VJ s.first s.receiver s.VM s.m5 s.fd s.j7 s.od).bind fun v=>some (v.1,{ s with UZ:=v.2.1,UN:=v.2.2.1,UP:=v.2.2.2.1,sent:=v.2.2.2.2.1,safe:=v.2.2.2.2.2.1,UW:=v.2.2.2.2.2.2.1,XE:=v.2.2.2.2.2.2.2.1,first:=v.2.2.2.2.2.2.2.2.1,receiver:=v.2.2.2.2.2.2.2.2.2.1,VM:=v.2.2.2.2.2.2.2.2.2.2.1,j7:=v.2.2.2.2.2.2.2.2.2.2.2.1,od:=v.2.2.2.2.2.2.2.2.2.2.2.2 })
def qY(a1:Int)(s:PS):Option ((Option Int)×PS):=(fW a1 s.n s.fn s.XF s.WE s.blocks s.UZ s.VQ s.UN s.UP s.sent s.safe s.UW s.on s.XE s.VJ s.first s.receiver s.VM s.m5 s.fd s.j7 s.od).bind fun v=>some (v.1,{ s with VM:=v.2 })
def lC(a1:Int)(s:PS):Option ((Option Int)×PS):=(eE a1 s.n s.fn s.XF s.WE s.blocks s.UZ s.VQ s.UN s.UP s.sent s.safe s.UW s.on s.XE s.VJ s.first s.receiver s.VM s.m5 s.fd s.j7 s.od).bind fun v=>some (v.1,{ s with VM:=v.2 })
def lD(a1:(Int×Int×Int×aR))(s:PS):Option ((Option Int)×PS):=(eF a1 s.n s.fn s.XF s.WE s.blocks s.UZ s.VQ s.UN s.UP s.sent s.safe s.UW s.on s.XE s.VJ s.first s.receiver s.VM s.m5 s.fd s.j7 s.od).bind fun v=>some (v.1,{ s with VM:=v.2 })
def uG(a1:(Int×aR×Int×Int×Int×(List aR)))(s:PS):Option ((Int×aR×Int×Int×Int×(List aR))×(Option Int)×PS):=(fX a1 s.n s.fn s.XF s.WE s.blocks s.UZ s.VQ s.UN s.UP s.sent s.safe s.UW s.on s.XE s.VJ s.first s.receiver s.VM s.m5 s.fd s.j7 s.od).bind fun v=>some (v.1,v.2,s)
def mX(a1:(Int×Int×Int×aR))(s:PS):Option ((Int×aR×Int×Int×Int×(List aR))×(Option Int)×PS):=(hC a1 s.n s.fn s.XF s.WE s.blocks s.UZ s.VQ s.UN s.UP s.sent s.safe s.UW s.on s.XE s.VJ s.first s.receiver s.VM s.m5 s.fd s.j7 s.od).bind fun v=>some (v.1,v.2.1,{ s with n:=v.2.2.1,fn:=v.2.2.2.1,XF:=v.2.2.2.2.1,WE:=v.2.2.2.2.2.1,blocks:=v.2.2.2.2.2.2.1,UZ:=v.2.2.2.2.2.2.2.1,VQ:=v.2.2.2.2.2.2.2.2.1,UN:=v.2.2.2.2.2.2.2.2.2.1,UP:=v.2.2.2.2.2.2.2.2.2.2.1,sent:=v.2.2.2.2.2.2.2.2.2.2.2.1,safe:=v.2.2.2.2.2.2.2.2.2.2.2.2.1,UW:=v.2.2.2.2.2.2.2.2.2.2.2.2.2.1,on:=v.2.2.2.2.2.2.2.2.2.2.2.2.2.2.1,XE:=v.2.2.2.2.2.2.2.2.2.2.2.2.2.2.2.1,VJ:=v.2.2.2.2.2.2.2.2.2.2.2.2.2.2.2.2.1,first:=v.2.2.2.2.2.2.2.2.2.2.2.2.2.2.2.2.2.1,receiver:=v.2.2.2.2.2.2.2.2.2.2.2.2.2.2.2.2.2.2.1,VM:=v.2.2.2.2.2.2.2.2.2.2.2.2.2.2.2.2.2.2.2.1,m5:=v.2.2.2.2.2.2.2.2.2.2.2.2.2.2.2.2.2.2.2.2.1,fd:=v.2.2.2.2.2.2.2.2.2.2.2.2.2.2.2.2.2.2.2.2.2.1,j7:=v.2.2.2.2.2.2.2.2.2.2.2.2.2.2.2.2.2.2.2.2.2.2.1,od:=v.2.2.2.2.2.2.2.2.2.2.2.2.2.2.2.2.2.2.2.2.2.2.2 })
end Go.Mo
namespace Go.VW
open Go Go.Sw Go.Mo Go.Pl
theorem Yc{a b c:Nat}(h:a ^^^ c=b ^^^ c):a=b:=by
 have:=congrArg (·^^^ c) h;simpa[Nat.xor_assoc] using this
theorem PG{a b c:Nat}(h:c ^^^ a=c ^^^ b):a=b:=by
 rw[Nat.xor_comm c a,Nat.xor_comm c b] at h;exact Yc h
theorem HV{a b:Nat}(ha:a<4294967296)(hb:b<4294967296)(h:Xw a=Xw b):a=b:=by
 have top:∀x:Nat,x<2147483648->2147483648<=x ^^^ Sc:=by
  intro x B;have z:(x ^^^ Sc) / 2 ^ 31 % 2=(x / 2 ^ 31+Sc / 2 ^ 31) % 2:=LD x Sc 31;have u:x / 2 ^ 31=0:=Nat.div_eq_of_lt (by simpa using B);have A:Sc / 2 ^ 31=1:=by decide
  rw[u,A] at z;omega
 unfold Xw at h;by_cases z:a % 2=1
 ·by_cases u:b % 2=1
  ·rw[VX z,VX u] at h;have:=Yc h;omega
  ·rw[VX z,VN u] at h;have:=top (a / 2) (by omega);omega
 ·by_cases u:b % 2=1
  ·rw[VN z,VX u] at h;have:=top (b / 2) (by omega);omega
  ·rw[VN z,VN u] at h;omega
theorem Na:∀(n:Nat) {a b:Nat},a<4294967296->b<4294967296->Om n a=Om n b->a=b
 | 0,_,_,_,_,h=>h
 |n+1,_,_,u,z,h=>Na n u z (HV (Lc u) (Lc z) h)
theorem SM{r b:Nat}(hr:r<4294967296)(hb:b<256):r ^^^ b<4294967296:=by
 have:r ^^^ b<2 ^ 32:=aCe (by simpa using hr) (by omega);simpa using this
theorem CZ{r r' b:Nat}(hr:r<4294967296)(cw:r'<4294967296)(hb:b<256)(h:zT r b=zT r' b):r=r':=
 Yc (Na 8 (SM hr hb) (SM cw hb) h)
theorem DC{r b b':Nat}(hr:r<4294967296)(hb:b<256)(XC:b'<256)(h:zT r b=zT r b'):b=b':=
 PG (Na 8 (SM hr hb) (SM hr XC) h)
theorem Vl:∀(l:List Nat) {r r':Nat},r<4294967296->r'<4294967296->(∀b∈l,b<256)->l.foldl zT r=l.foldl zT r'->r=r'
 | [],_,_,_,_,_,h=>h
 |b::l,_,_,z,A,u,h=>CZ z A (u b (by simp)) (Vl l (Bj z (u b (by simp))) (Bj A (u b (by simp))) (fun c B=>u c (by simp[B])) h)
theorem MG{l:List Nat}{k v:Nat}(hl:∀b∈l,b<256)(hk:k<l.length)(hv:v<256)(YD:l[k]≠v):zU (l.set k v)≠zU l:=by
 intro h;have C:l=l.take k++l[k]::l.drop (k+1):=by rw[<-aCz hk,V3]
 have D:l.set k v=l.take k++v::l.drop (k+1):=by rw[aDv,VX hk]
 unfold zU at h;rw[D] at h;have A:(l.take k++v::l.drop (k+1)).foldl zT 4294967295=(l.take k++l[k]::l.drop (k+1)).foldl zT 4294967295:=by rw[<-C];exact h
 rw[aC5,aC5,O7,O7] at A;have u:=Hf (l.take k) 4294967295 (by decide) (fun b z=>hl b (aCq z));have B:l[k]<256:=hl _ (eo hk);have E:=Vl (l.drop (k+1)) (Bj u hv) (Bj u B) (fun b z=>hl b (aDq z)) A;exact YD (DC u hv B E).symm
theorem HW{a b:Nat}(ha:a<4294967296)(hb:b<4294967296)(h:o7 a=o7 b):a=b:=by
 simp only[o7,aEv,and_true] at h;omega
theorem AY{l:List Int}(h:Bytes l):zU (nat l)<4294967296:=Hf _ _ (by decide) (Hg h)
theorem E0{f:fG}(g:Good f){k:Nat}{v:Int}(hk:k<(bQ f).length)(hv:0<=v/\v<=255)(YD:(bQ f)[k]≠v)(hb:Bytes ((bQ f).set k v)):fF ((bQ f).set k v)=none:=by
 cases hf:fF ((bQ f).set k v) with
 |none=>rfl
 |some x=>
  exfalso;obtain⟨N,_,h⟩:=Fy hb hf;have E:(body x).length=(body f).length:=by
   have:=congrArg List.length h;simp[bQ,o7] at this;omega
  have A:=(qX g).1;have H:=(qX N).1;have O:=AY A;have P:=AY H;by_cases u:k<(body f).length
  ·have e:(bQ f).set k v=(body f).set k v++o7 (4294967295 - zU (nat (body f))):=by unfold bQ;rw[List.set_append_left _ _ u]
   rw[e] at h;unfold bQ at h;obtain⟨D,z⟩:=List.append_inj h (by simp[E]);have Q:=HW (by omega) (by omega) z;have B:zU (nat (body x))=zU (nat (body f)):=by omega
   rw[D] at B;have I:nat ((body f).set k v)=(nat (body f)).set k v.toNat:=by unfold nat;rw[List.map_set]
   rw[I] at B;have K:k<(nat (body f)).length:=by simpa[nat] using u
   refine MG (Hg A) K (by omega) ?_ B;intro M;have L:(nat (body f))[k]=((body f)[k]).toNat:=by simp[nat]
   have C:(bQ f)[k]=(body f)[k]:=by simp only[bQ];rw[aC6 u]
   have:=A _ (eo u);rw[L] at M;rw[C] at YD;omega
  ·have e:(bQ f).set k v=body f++(o7 (4294967295 - zU (nat (body f)))).set (k - (body f).length) v:=by unfold bQ;rw[List.set_append_right _ _ (by omega)]
   rw[e] at h;unfold bQ at h;obtain⟨D,z⟩:=List.append_inj h E;rw[D] at z;have F:k - (body f).length<(o7 (4294967295 - zU (nat (body f)))).length:=by
    have:(bQ f).length=(body f).length+(o7 (4294967295 - zU (nat (body f)))).length:=by simp[bQ]
    omega
   have C:(bQ f)[k]=(o7 (4294967295 - zU (nat (body f))))[k - (body f).length]:=by simp only[bQ];rw[List.getElem_append_right (by omega)]
   have G:(o7 (4294967295 - zU (nat (body f))))[k - (body f).length]? =some v:=by rw[z,aB2 F]
   rw[C3 F,u6] at G;exact YD (by rw[C,G])
theorem aUb{a b:Int}(ha:0<=a/\a<=255)(hb:0<=b/\b<=255):ar .xor .u8 a b=((a.toNat ^^^ b.toNat:Nat):Int):=by
 have u:((a.toNat:Nat):Int)=a:=by omega
 have z:((b.toNat:Nat):Int)=b:=by omega
 have h:a.toNat ^^^ b.toNat<2 ^ 8:=aCe (by omega) (by omega);show IntKind.wrap .u8 ((BitVec.ofInt 8 a ^^^ BitVec.ofInt 8 b).toNat:Int)=_;rw[<-u,<-z];simp only[rQ,aEp,yu,j5];rw[L7 (a:=a.toNat) (by omega),L7 (a:=b.toNat) (by omega),AO (by omega)]
end Go.VW
namespace Go.VW
open Go Go.Sw Go.Mo Go.Pl
def Fz(s:uE):Option fG->uE
 |none=>s
 |some f=>if f.1=0/\f.2.2=[]/\f.2.1.length=2/\f.2.1.getD 0 0=s.1/\s.2.1<f.2.1.getD 1 0/\f.2.1.getD 1 0 - s.2.1<=min (s.2.2.length:Int) 4 then (s.1,f.2.1.getD 1 0,s.2.2.drop (f.2.1.getD 1 0 - s.2.1).toNat) else s
theorem zW(s:uE)(b:List Int)(hb:Bytes b)(hl:b.length<=2000)(h0:jF s=0):rP s b=some (Fz s (fF b),none):=by
 obtain⟨X,q2,S,T⟩:=Jz h0;unfold rP;rw[YX,VX h0,cM,Ve _ S T,rS b hb (by omega)];simp only[ZI,pF,cM];cases hf:fF b with
 |none=>simp[Fz]
 |some f=>
  obtain⟨g,_,_⟩:=Fy hb hf;simp only[ZI,pF,cn,cg,Fz];by_cases u:¬(f.1=0)
  ·simp[u]
  have u:=aCs.1 u;by_cases z:¬((f.2.1.length:Int)=2)
  ·have F:f.2.1.length≠2:=fun h=>z (by omega);simp[u,z,F]
  have z:=aCs.1 z;by_cases U:(f.2.2.length:Int)>0
  ·have C:f.2.2≠ []:=sy.1 (by omega);have G:0<f.2.2.length:=by omega
   simp[u,z,G,C]
  have C:f.2.2=[]:=eu (by omega);obtain⟨n0,n1,E⟩:∃n0 n1,f.2.1=[n0,n1]:=by
   match hm:f.2.1,z with
   | [a,c],_=>exact⟨a,c,rfl⟩
   | [],c=>simp at c
   | [_],c=>simp at c
   |_::_::_::_,c=>simp at c;omega
  have H:Sw.idx [n0,n1] (0:Int)=some n0:=by simp[Sw.idx]
  have I:Sw.idx [n0,n1] (1:Int)=some n1:=by simp[Sw.idx]
  have V:0<=n1/\n1<=2147483647:=g.num n1 (by rw[E];simp);have K:((2:Nat):Int)=2:=rfl;have L:(([]:List aR).length:Int)=0:=rfl;have M:([n0,n1]:List Int).getD 0 0=n0:=rfl;have N:([n0,n1]:List Int).getD 1 0=n1:=rfl;have O:([n0,n1]:List Int).length=2:=rfl;simp only[u,C,E,H,I,K,L,M,N,O,ne_eq,not_true,y6,pF,cM,aEx];rw[show decide ((0:Int)>0)=false from rfl];simp only[pF,cM];by_cases A:¬(n0=s.1)
  ·simp[A]
  have A:=aCs.1 A;have P:ar .sub .i64 n1 s.2.1=n1 - s.2.1:=M9 (by omega);simp only[A,not_true,y6,pF,P,ye,jp,aEx];by_cases B:s.2.1<n1/\n1 - s.2.1<=min (s.2.2.length:Int) 4
  ·have Q:n1 - s.2.1=((n1 - s.2.1).toNat:Int):=by omega
   rw[y3 (show n1 - s.2.1>0 by omega),WR,y3 B.2,cM,WR,VX B];rw[Q,H8 _ _ (by omega),cM,j5]
  ·have R:(bif decide (n1 - s.2.1>0) then some (decide (n1 - s.2.1<=min (s.2.2.length:Int) 4)) else some false)=some false:=by
    by_cases D:n1 - s.2.1>0
    ·rw[y3 D,ZL (fun h=>B ⟨by omega,h⟩)];rfl
    ·rw[ZL D];rfl
   rw[R,cM,pF,VN B]
def Hi(r:Int×Int):Option fG->(Int×Int)×fG×Bool×(Bool×List Int)
 |none=>(r,(0,[],[]),false,(true,[]))
 |some f=>if f.1=1/\3<=f.2.1.length/\f.2.1.getD 0 0=r.1/\f.2.1.getD 2 0<=15 then
   (if f.2.1.getD 1 0=r.2/\r.2<2147483647 then ((r.1,r.2+1),(f.2.1.getD 2 0,f.2.1.drop 3,f.2.2),true,(false,bQ ((0:Int),[r.1,r.2+1],([]:List aR))))
   else (r,(0,[],[]),false,(false,bQ ((0:Int),[r.1,r.2],([]:List aR)))))
  else (r,(0,[],[]),false,(true,[]))
theorem Nb(r:Int×Int)(b:List Int)(hb:Bytes b)(hl:b.length<=2000)(h1:0<=r.1/\r.1<=2147483647)(h2:0<=r.2/\r.2<=2147483647):
  nZ r b=some ((Hi r (fF b)).1,(Hi r (fF b)).2.1,(Hi r (fF b)).2.2.1,(Hi r (fF b)).2.2.2,none):=by
 unfold nZ;rw[ZT,ZY.2 h1,ZY.2 h2,rS b hb (by omega)];simp only[Bool.or_self,uf,iz,pF,cM];cases hf:fF b with
 |none=>simp[Hi]
 |some f=>
  obtain⟨g,_,_⟩:=Fy hb hf;simp only[ZI,pF,cn,cg,cl,Hi];by_cases u:¬(f.1=1)
  ·simp[u]
  have u:=aCs.1 u;by_cases A:(f.2.1.length:Int)<3
  ·have G:¬3<=f.2.1.length:=by omega
   simp[u,A,G]
  obtain⟨n0,n1,n2,ns,F⟩:∃n0 n1 n2 ns,f.2.1=n0::n1::n2::ns:=by
   match hm:f.2.1,A with
   |a::c::d::e,_=>exact⟨a,c,d,e,rfl⟩
   | [],c=>simp at c
   | [_],c=>simp at c
   | [_,_],c=>simp at c
  have H:Sw.idx (n0::n1::n2::ns) (0:Int)=some n0:=by simp[Sw.idx]
  have I:Sw.idx (n0::n1::n2::ns) (1:Int)=some n1:=by simp[Sw.idx]
  have K:Sw.idx (n0::n1::n2::ns) (2:Int)=some n2:=by simp[Sw.idx]
  have L:Sw.sub (n0::n1::n2::ns) (3:Int) ((n0::n1::n2::ns).length:Int)=some ns:=H8 (n0::n1::n2::ns) 3 (by simp);have M:(n0::n1::n2::ns).getD 0 0=n0:=rfl;have N:(n0::n1::n2::ns).getD 1 0=n1:=rfl;have O:(n0::n1::n2::ns).getD 2 0=n2:=rfl;have P:(n0::n1::n2::ns).drop 3=ns:=rfl;have Q:3<=(n0::n1::n2::ns).length:=by simp
  rw[F] at A;simp only[u,A,F,H,I,K,L,M,N,O,P,Q,ne_eq,not_true,y6,pF,cM,aEx];by_cases z:¬(n0=r.1)
  ·simp[z]
  have z:=aCs.1 z;by_cases E:n2>15
  ·have:¬n2<=15:=by omega
   simp[z,E,this]
  have R:n2<=15:=by omega
  simp only[z,E,R,not_true,y6,pF,cM,ce,jp,aEx,ZH];by_cases B:n1=r.2/\r.2<2147483647
  ·have S:ar .add .i64 r.2 1=r.2+1:=YZ (by omega);obtain⟨e,D⟩:=Vf h1 (c:=r.2+1) (by omega);simp only[B.1,B.2,Y8,WR,cM,S,Ej D e,Mz,and_self,ZH]
  ·obtain⟨e,D⟩:=Vf h1 h2;have T:(bif decide (n1=r.2) then some (decide (r.2<2147483647)) else some false)=some false:=by
    by_cases C:n1=r.2
    ·have:¬r.2<2147483647:=fun h=>B ⟨C,h⟩;simp[C,this]
    ·simp[C]
   rw[T,VN B];simp only[pF,cM,Ej D e,Mz]
theorem Ix{S q:Int}(h0:jF (S,q,[])=0):pA (S,q,[])=some ([],none):=by
 have h:Ta (S,q,[])=[]:=by simp[Ta]
 have:=(AT (S,q,[]) h0 (fun f u=>by simp at u)).1;rw[this,h];rfl
theorem Nc{S q:Int}{m:fG}(h0:jF (S,q,[m])=0)(hq:q<=2147483647)(hm:dM m=0)(hb:∀b∈m.2.2,b.length=8/\Bytes b):
  pA (S,q,[m])=some ([bQ (VU (S,q,[m]) 0 m)],none):=by
 have u:Ta (S,q,[m])=[m]:=by simp[Ta]
 have:=(AT (S,q,[m]) h0 (fun f h=>by simp at h;subst h;exact⟨hm,hb⟩)).1;rw[this,u];have z:Qi (S,q,[m]) 0 m []=some [bQ (VU (S,q,[m]) 0 m)]:=by
  unfold Qi;rw[VN (by simp;omega)];rfl
 simp[Bq,z]
theorem mY{S q:Int}{l:List fG}(hS:0<=S/\S<=2147483647)(hq:0<=q/\q<=2147483647)(hl:l.length<=64)(h:∀f∈l,dM f=0):jF (S,q,l)=0:=by
 unfold jF;rw[ZY.2 hS,ZY.2 hq];simp only[Bool.or_self,O5,ZN];rw[VN (by omega),Xz h];rfl
theorem Iy{S q:Int}{m:fG}(hS:0<=S/\S<=2147483647)(hq:0<=q/\q<2147483647)(hm:dM m=0):uA (S,q,[]) m=some ((S,q,[m]),none):=by
 have z:jF (S,q,[])=0:=mY hS ⟨hq.1,by omega⟩ (by simp) (fun f h=>by simp at h);unfold uA;rw[YX,VX z,cM];simp only[ZI,pF];rw[AR,VX hm,cM];have A:ar .add .i64 q (([]:List fG).length:Int)=q:=by rw[YZ (by simp;omega)];simp
 have u:=Vd hm;have B:mS m=some m:=by
  unfold mS kU aO;rw[UQ _ _ (by have:=u.1;simp;omega),UQ _ _ (by have:=u.2;simp;omega)];rfl
 simp only[ZI,pF,A,ce,G7];rw[show decide ((([]:List fG).length:Int)=64)=false from rfl,ZL (show¬(q>=2147483647) by omega)];simp only[pF,cM];rw[Ve [] (by simp) (fun f h=>by simp at h)];simp only[cM,B,Sw.app,V1,B0,X3];rfl
end Go.VW
namespace Go.WT
open Go Go.Sw Go.Mo Go.Pl Go.XX
variable {d:lP}{blocks:List aR}{a b n:Nat}
theorem MH(h:oC d blocks a b)(h0:1<=blocks.length)(h1:blocks.length<=32)(ha:a<=2147483647)(hb:b+1<=2147483647):
  ∃d',cU (blocks.length:Int) d [] (a:Int) (ar .add .i64 (b:Int) (1:Int))=some (none,(blocks.length:Int),d')/\oC d' blocks a (b+1):=by
 rw[l5 (by omega)];have A:Uj blocks.length [] (a:Int) ((b+1:Nat):Int)=0:=by
  unfold Uj;rw[VN (by simp),VN (by omega)];rfl
 obtain⟨d',x',y',u,z,_,_,_,e,s⟩:=yK h h0 h1 [] _ _ A;have u:a=x':=by omega
 have z:b+1=y':=by omega
 subst u z;exact⟨d',e,s⟩
theorem Vm(h:oC d blocks a b)(h0:1<=blocks.length)(h1:blocks.length<=32)(ha:a<=2147483647)(hb:b+1<=2147483647):∃d',oC d' blocks a (b+1)/\
  (∀b0 b1 b2 b3 b4 b5 b6 b7 b8 b9 WA VZ WG VV WC VY WB VS,iZ b0 b1 b2 b3 b4 b5 b6 b7 b8 b9 WA VZ WG VV WC VY WB VS (blocks.length:Int) d=some (none,(a:Int),((b+1:Nat):Int),(blocks.length:Int),d'))/\
  (∀b0 b1 b2 b3 b4 b5 b6 b7 b8 b9 WA VZ WG VV WC VY WB VS WO WN,gD b0 b1 b2 b3 b4 b5 b6 b7 b8 b9 WA VZ WG VV WC VY WB VS WO WN (blocks.length:Int) d=some (none,(a:Int),((b+1:Nat):Int),(blocks.length:Int),d'))/\
  (∀b0 b1 b2 b3 b4 b5 b6 b7 b8 b9 WA VZ WG VV WC VY WB VS WO WN,iR b0 b1 b2 b3 b4 b5 b6 b7 b8 b9 WA VZ WG VV WC VY WB VS WO WN (blocks.length:Int) d=some (none,(a:Int),((b+1:Nat):Int),(blocks.length:Int),d')):=by
 obtain⟨d',e,s⟩:=MH h h0 h1 ha hb;have z:=Xs h ha (by omega);have u:ar .add .i64 (b:Int) (1:Int)=((b+1:Nat):Int):=l5 (by omega);rw[u] at e;refine⟨d',s,?_,?_,?_⟩<;>intros
 ·unfold iZ;rw[z,cM];simp only[ZI,pF,u,e,cM]
 ·unfold gD;rw[z,cM];simp only[ZI,pF,u,e,cM]
 ·unfold iR;rw[z,cM];simp only[ZI,pF,u,e,cM]
theorem Vn(h:oC d blocks a b)(h0:1<=blocks.length)(h1:blocks.length<=32):iA (blocks.length:Int) d (blocks.length:Int)=some (some ((blocks.length:Int),d),none,(blocks.length:Int),d):=by
 unfold iA;rw[LL h,cM,Py h h0 h1];rfl
theorem HX(h0:1<=n)(h1:n<=32):iX (n:Int)=some (some ((n:Int),fresh n),none):=by
 unfold iX;rw[CP h0 h1,cM];have:=Py (Mr h1) (by simpa using h0) (by simpa using h1);simp only[mw] at this;simp only[ZI,pF,this,cM];rfl
def pN(VQ:List (Int×List aR))(num:Int)(blocks:List aR):List (Int×List aR):=Fq ((Gm VQ num blocks).getD []) (num - 5)
theorem Ka(VQ:List (Int×List aR))(num:Nat)(hl:blocks.length<=1000)(hn:num<=2147483647)(hp:(Gm VQ (num:Int) blocks).isSome=true):
  (∀b0 b1 b3 b5 b7 b8 b9 WA VZ WG VV WC VY WB VS WO WN,fK b0 b1 (num:Int) b3 blocks b5 VQ b7 b8 b9 WA VZ WG VV WC VY WB VS WO WN=some (pN VQ num blocks))/\
  (∀b0 b1 b3 b5 b7 b8 b9 WA VZ WG VV WC VY WB VS WO WN WM WL,eD b0 b1 (num:Int) b3 blocks b5 VQ b7 b8 b9 WA VZ WG VV WC VY WB VS WO WN WM WL=some (pN VQ num blocks)):=by
 obtain⟨q,B⟩:=Option.isSome_iff_exists.1 hp;have h:ar .sub .i64 (num:Int) 4=(num:Int) - 4:=M9 (by omega);have u:ar .sub .i64 ((num:Int) - 4) 1=(num:Int) - 4 - 1:=M9 (by omega);have z:(num:Int) - 4 - 1=(num:Int) - 5:=by omega
 have A:aO blocks=some blocks:=by
  unfold aO;rw[UQ _ _ (by simp;omega)];rfl
 refine⟨?_,?_⟩<;>intros
 ·unfold fK pN;rw[A,cM,B,cM,h,u,z];rfl
 ·unfold eD pN;rw[A,cM,B,cM,h,u,z];rfl
end Go.WT
namespace Go.WT
open Go Go.Sw Go.Mo Go.Pl Go.XX
variable {d:lP}{blocks:List aR}{a b n:Nat}
theorem Db(num:Nat)(blocks:List aR):pN [] num blocks=[((num:Int),blocks)]:=by
 unfold pN Gm fJ Fq;simp only[yk,X3,D9,aD0,kp];rw[VN (by omega)];rfl
theorem Hj(h:oC d blocks a b)(h0:1<=blocks.length)(h1:blocks.length<=32)(ha:a<=2147483647)(hb:b+1<=2147483647):∃d',oC d' blocks a (b+1)/\
  (∀b1 b2 b3 b4 b5 b6 b7 b8 b9 WA VZ WG VV WC VY WB VS,fA (blocks.length:Int) b1 b2 b3 b4 b5 b6 b7 b8 b9 WA VZ WG VV WC VY WB VS (blocks.length:Int) d=
   some (none,(blocks.length:Int),(a:Int),((b+1:Nat):Int),blocks,((a:Int),[],[],true),[((a:Int),blocks)],-1,(0,0,[]),0,0,[],(blocks.length:Int),d'))/\
  (∀b1 b2 b3 b4 b5 b6 b7 b8 b9 WA VZ WG VV WC VY WB VS WO WN WM WL,gA (blocks.length:Int) b1 b2 b3 b4 b5 b6 b7 b8 b9 WA VZ WG VV WC VY WB VS WO WN WM WL (blocks.length:Int) d=
   some (none,(blocks.length:Int),(a:Int),((b+1:Nat):Int),blocks,((a:Int),[],[],true),[((a:Int),blocks)],-1,(0,0,[]),0,0,[],(blocks.length:Int),d')):=by
 obtain⟨d',s,A,_,B⟩:=Vm h h0 h1 ha hb;have u:=xG s;have z:(Gm ([]:List (Int×List aR)) (a:Int) blocks).isSome=true:=rfl;obtain⟨C,D⟩:=Ka (blocks:=blocks) [] a (by omega) ha z;refine⟨d',s,?_,?_⟩<;>intros
 ·unfold fA;rw[A,cM];simp only[ZI,pF];rw[u,cM];simp only[];rw[C,cM,Db]
 ·unfold gA;rw[B,cM];simp only[ZI,pF];rw[u,cM];simp only[];rw[D,cM,Db]
theorem Hk(h:oC d blocks a b)(h0:1<=blocks.length)(h1:blocks.length<=32)(ha:a<=2147483647)(hb:b+1<=2147483647):∃d',oC d' blocks a (b+1)/\
  (∀b1 b2 b3 b4 b5 b6 b7 b8 b9 WA VZ WG VV WC VY WB VS WO WN,gK (blocks.length:Int) b1 b2 b3 b4 b5 b6 b7 b8 b9 WA VZ WG VV WC VY WB VS WO WN (blocks.length:Int) d=
   some (none,(blocks.length:Int),(a:Int),((b+1:Nat):Int),-1,(0,0),(blocks.length:Int),d'))/\
  (∀b1 b2 b3 b4 b5 b6 b7 b8 b9 WA VZ WG VV WC VY WB VS WO WN WM WL,gB (blocks.length:Int) b1 b2 b3 b4 b5 b6 b7 b8 b9 WA VZ WG VV WC VY WB VS WO WN WM WL (blocks.length:Int) d=
   some (none,(blocks.length:Int),(a:Int),((b+1:Nat):Int),-1,(0,0),(blocks.length:Int),d')):=by
 obtain⟨d',s,_,u,_⟩:=Vm h h0 h1 ha hb;refine⟨d',s,?_,?_⟩<;>intros
 ·unfold gK;rw[u,cM]
 ·unfold gB;rw[u,cM]
def VO(s:PS):=(s.n,s.fn,s.XF,s.WE,s.blocks,s.UZ,s.VQ,s.UN,s.UP,s.sent,s.safe,s.UW,s.on,s.XE,s.VJ,s.first,s.receiver,s.VM,s.m5,s.fd,s.j7,s.od)
theorem HY(h0:1<=n)(h1:n<=32):∃d1 d2,oC d1 (List.replicate n aU) 0 1/\oC d2 (List.replicate n aU) 0 1/\
  iG (n:Int)=some (some (VO { n:=n,fn:=n,XF:=0,WE:=1,blocks:=List.replicate n aU,UZ:=(0,[],[],true),VQ:=[(0,List.replicate n aU)],UN:= -1,UP:=(0,0,[]),sent:=0,safe:=0,UW:=[],on:=n,XE:=0,VJ:=1,first:= -1,receiver:=(0,0),VM:=[],m5:=n,fd:=d1,j7:=n,od:=d2 }),none):=by
 have u:=Mr (n:=n) h1;have h:(List.replicate n aU).length=n:=mw;obtain⟨d1,s1,z,_⟩:=Hj u (by rw[h];exact h0) (by rw[h];exact h1) (by decide) (by decide);obtain⟨d2,B,A,_⟩:=Hk u (by rw[h];exact h0) (by rw[h];exact h1) (by decide) (by decide);rw[h] at z A;refine⟨d1,d2,s1,B,?_⟩;unfold iG;rw[HX h0 h1,cM];simp only[xE,ZI,pF,cM];rw[z,cM];simp only[ZI,pF];rw[A,cM];rfl
end Go.WT
namespace Go.WT
open Go Go.Sw Go.Mo Go.Pl Go.ZZ
structure jc (m:Nat) (b:Bd) (now:List aR) (snaps:List (List aR)):Prop where
 may:uB b (m:Int)=0
 num:(snaps.length:Int)=b.1+1
 S7:now.length=m
 len:∀s∈snaps,s.length=m
 open_:Lb (snaps.getD b.1.toNat []) b.2.1=now
 chain:AK snaps b.2.2.1
variable {m:Nat}{b:Bd}{now:List aR}{snaps:List (List aR)}
theorem jc.add(h:jc m b now snaps){p:pL}(hp:0<=p.1/\p.1<m):jc m (b.1,N1 b.2.1 p,b.2.2.1,b.2.2.2) (now.set p.1.toNat p.2) snaps:=by
 obtain⟨E,F,G,H,I,z,K,L,M⟩:=ZK h.may;have B:=YA m b.2.1 _ z;have C:=YA m (N1 b.2.1 p) _ (Ul hp z);refine⟨LP h.may hp,h.num,by rw[aCu];exact h.S7,h.len,?_,h.chain⟩;have D:Lb (snaps.getD b.1.toNat []) (N1 b.2.1 p)=Lb (snaps.getD b.1.toNat []) (b.2.1++[p]):=
  Qb (fun q u=>by have:=C q u;omega) (fun q u=>by
   rcases J6.1 u with u | u
   ·have:=B q u;omega
   ·simp at u;subst u;exact hp.1) fun i=>CS z i
 show Lb (snaps.getD b.1.toNat []) (N1 b.2.1 p)=_;rw[D];have A:=h.open_;unfold Lb at A ⊢;rw[aC5,A];rfl
theorem HZ{n base:Int}:∀(l:List Ep) (j:Int),Fu n base j l=true->∀e∈l,e.1<=base+j+l.length - 1
 | [],_,_,e,h=>by simp at h
 |x::l,j,u,e,h=>by
  simp only[Fu] at u;split at u
  ·rename_i z;rcases j4.1 h with rfl | h
   ·simp only[B0];omega
   ·have:=HZ l (j+1) u e h;simp only[B0];omega
  ·cases u
theorem jc.shut(h:jc m b now snaps)(hi:b.1<2147483647):jc m (Bp b) now (snaps++[now]):=by
 obtain⟨I,K,L,M,N,O,P,Q,E⟩:=ZK h.may;have H:=h.num;have A:(Bp b).1=b.1+1:=by unfold Bp;split;rfl;split<;>rfl
 have C:(Bp b).2.1=[]:=by unfold Bp;split;rfl;split<;>rfl
 have D:∀e∈b.2.2.1,e.1<=b.1:=fun e u=>by have:=HZ _ _ E e u;omega
 have B:AK (snaps++[now]) b.2.2.1:=fun e u=>by
  obtain⟨F,G⟩:=h.chain e u;have:=D e u;exact⟨F,by rw[uC (by omega),uC (by omega)];exact G⟩
 refine⟨GZ h.may hi,by rw[A];simp;omega,h.S7,fun s z=>?_,?_,?_⟩
 ·rcases J6.1 z with z | z
  ·exact h.len s z
  ·simp at z;subst z;exact h.S7
 ·rw[C,A,Ei (by omega)];rfl
 ·unfold Bp;split
  ·exact B
  ·split
   ·intro e u;simp at u
   ·intro e u;rcases J6.1 u with u | u
    ·exact B e u
    ·simp only[yr] at u;subst u;refine⟨by simp only;omega,?_⟩;simp only;rw[show b.1+1 - 1=b.1 by omega,uC (by omega),Ei (by omega)];exact h.open_
theorem jc.drop(h:jc m b now snaps){num:Int}(hn:0<=num/\num<=b.1):pH b (m:Int) num=some ((b.1,b.2.1,b.2.2.1.filter (fun e=>decide (num<e.1)),if num=b.1 then false else b.2.2.2),none)/\
  jc m (b.1,b.2.1,b.2.2.1.filter (fun e=>decide (num<e.1)),if num=b.1 then false else b.2.2.2) now snaps:=
 ⟨LR h.may hn,GY h.may hn,h.num,h.S7,h.len,h.open_,fun e u=>h.chain e (sx.1 u).1⟩
theorem Vo(hm:1<=m/\m<=32){num:Nat}(hn:snaps.length=num+1)(hb:num<=2147483647)(hl:∀s∈snaps,s.length=m):jc m ((num:Int),[],[],true) (snaps.getD num []) snaps:=by
 refine⟨Eh (by omega) (by simp;omega) (by simp) rfl (by simp) (by simp) rfl,by simp;omega,?_,hl,rfl,fun e h=>by simp at h⟩;rw[R2,C3 (by omega)];exact hl _ (eo _)
theorem Nf{n:Int}:∀(A:List (Option pL)) (j:Nat),(∀(i:Nat) (p:pL),A[i]? =some (some p)->p.1=((j+i:Nat):Int)/\p.1<n)->∀prev:Int,prev<(j:Int)->Go.ZA.ZQ n prev (A.filterMap id)=true
 | [],_,_,_,_=>rfl
 |none::A,j,h,prev,B=>by
  simp only[List.filterMap_cons,id];exact Nf A (j+1) (fun i p u=>by have:=h (i+1) p (by simpa using u);refine⟨?_,this.2⟩;rw[this.1];congr 1;omega) prev (by omega)
 |some q::A,j,h,prev,B=>by
  have z:=h 0 q rfl;simp only[List.filterMap_cons,id,Go.ZA.ZQ,B9,oe];refine⟨by unfold Go.ZA.L6;simp;omega,?_⟩;exact Nf A (j+1) (fun i p u=>by have:=h (i+1) p (by simpa using u);refine⟨?_,this.2⟩;rw[this.1];congr 1;omega) q.1 (by rw[z.1];omega)
theorem jc.since(h:jc m b now snaps){k:Int}(hk:0<=k/\k<=b.1):nE b (m:Int) k=some ((0,[]),false,none)\/
  ∃ps,nE b (m:Int) k=some ((b.1,ps),true,none)/\Lb (snaps.getD k.toNat []) ps=snaps.getD b.1.toNat []/\Go.ZA.ZQ (m:Int) (-1) ps=true/\ps.length<=32:=by
 obtain⟨E,F,G,H,I,K,L,M,A⟩:=ZK h.may;rw[dn b m k (Z1 h.may),VN (by rw[h.may];simp),VN (by omega)];by_cases c:b.1 - k>b.2.2.1.length
 ·rw[VX c];exact .inl rfl
 ·rw[VN c];refine .inr ⟨_,rfl,?_⟩;have u:=Up (k:=k) (snaps:=snaps) (by omega:(m:Int)<=32) (by omega:b.1 - b.2.2.1.length+1 - 1<=k) (by omega) b.2.2.1 A h.chain;have B:max k (b.1 - b.2.2.1.length+1+b.2.2.1.length - 1)=b.1:=by omega
  rw[B] at u;refine⟨u.1,?_,?_⟩
  ·refine Nf _ 0 (fun i p z=>?_) (-1) (by omega);have C:=u.2 i p z;have D:=Xv (n:=(m:Int)) (La A) z;exact⟨by simpa using C,D.2⟩
  ·refine ai (List.length_filterMap_le _ _) ?_;rw[Bi];simp
end Go.WT
namespace Go.WT
open Go Go.Sw Go.Mo Go.Pl
open Go.XX (CM CN orI orP)
abbrev ZO:=Int×Int×Int×aR
abbrev Fm:=Int×List Int×List aR
theorem RT{a b:Nat}(ha:a<4611686018427387904)(hb:b<4611686018427387904):ar .and .i64 (a:Int) (b:Int)=((a &&& b:Nat):Int):=by
 have h:a &&& b<2 ^ 62:=Nat.lt_of_le_of_lt Nat.and_le_left (by simpa using ha);show IntKind.wrap .i64 ((BitVec.ofInt 64 (a:Int) &&& BitVec.ofInt 64 (b:Int)).toNat:Int)=_;simp only[rQ,aEq,yu];rw[L7 (a:=a) (by omega),L7 (a:=b) (by omega)];exact wrap_i64 (by omega)
theorem MI{at_ k fr:Nat}(h1:at_<32)(h2:k<4)(h3:fr<64):ar .or .i64 (ar .or .i64 (sh .shl .i64 (at_:Int) (8:Int)) (sh .shl .i64 (k:Int) (6:Int))) (fr:Int)=((at_*256+k*64+fr:Nat):Int):=by
 have h:sh .shl .i64 (at_:Int) (8:Int)=((at_*2 ^ 8:Nat):Int):=CN (c:=8) (by omega) (by omega);have u:sh .shl .i64 (k:Int) (6:Int)=((k*2 ^ 6:Nat):Int):=CN (c:=6) (by omega) (by omega);rw[h,u,orI (by omega) (by omega),orP (by omega),orI (by omega) (by omega)];have z:at_*2 ^ 8+k*2 ^ 6=(at_*4+k)*2 ^ 6:=by omega
 rw[z,orP (by omega)]
theorem PH{at_ k fr:Nat}(h1:at_<32)(h2:k<4)(h3:fr<64):sh .shr .i64 ((at_*256+k*64+fr:Nat):Int) (8:Int)=(at_:Int)/\
  ar .and .i64 (sh .shr .i64 ((at_*256+k*64+fr:Nat):Int) (6:Int)) (3:Int)=(k:Int)/\ar .and .i64 ((at_*256+k*64+fr:Nat):Int) (63:Int)=(fr:Int):=by
 have h:sh .shr .i64 ((at_*256+k*64+fr:Nat):Int) (8:Int)=(((at_*256+k*64+fr) / 2 ^ 8:Nat):Int):=CM _ 8 (by omega);have u:sh .shr .i64 ((at_*256+k*64+fr:Nat):Int) (6:Int)=(((at_*256+k*64+fr) / 2 ^ 6:Nat):Int):=CM _ 6 (by omega);have z:ar .and .i64 (((at_*256+k*64+fr) / 2 ^ 6:Nat):Int) (3:Int)=((((at_*256+k*64+fr) / 2 ^ 6) &&& 3:Nat):Int):=RT (b:=3) (by omega) (by omega);have A:ar .and .i64 ((at_*256+k*64+fr:Nat):Int) (63:Int)=(((at_*256+k*64+fr) &&& 63:Nat):Int):=RT (b:=63) (by omega) (by omega);rw[h,u,z,A];have B:∀x:Nat,x &&& 3=x % 4:=fun x=>aDd x 2;have C:∀x:Nat,x &&& 63=x % 64:=fun x=>aDd x 6;rw[B,C];refine⟨?_,?_,?_⟩<;>congr 1<;>omega
def qN(q:ZO):Int:=q.1*256+q.2.1*64+q.2.2.1
def tQ(l:List ZO):List aR:=(l.filter fun q=>decide (q.2.1=3)).map fun q=>q.2.2.2
structure al (q:ZO):Prop where
 a:0<=q.1/\q.1<32
 k:0<=q.2.1/\q.2.1<=3
 f:0<=q.2.2.1/\q.2.2.1<64
 z:q.2.1≠3->q.2.2.2=aU
def qZ(l:List ZO)(iq to:Int):Fm:=((4:Int),[iq,to]++l.map qN,tQ l)
theorem IA{q:ZO}(h:al q):ar .or .i64 (ar .or .i64 (sh .shl .i64 q.1 (8:Int)) (sh .shl .i64 q.2.1 (6:Int))) q.2.2.1=qN q:=by
 obtain⟨a,u⟩:∃a:Nat,q.1=a:=⟨q.1.toNat,by have:=h.a;omega⟩;obtain⟨k,z⟩:∃a:Nat,q.2.1=a:=⟨q.2.1.toNat,by have:=h.k;omega⟩;obtain⟨f,A⟩:∃a:Nat,q.2.2.1=a:=⟨q.2.2.1.toNat,by have:=h.f;omega⟩;have B:=h.a;have C:=h.k;have D:=h.f;unfold qN;rw[u,z,A,MI (by omega) (by omega) (by omega)];omega
theorem MJ{q:ZO}(h:al q):sh .shr .i64 (qN q) (8:Int)=q.1/\ar .and .i64 (sh .shr .i64 (qN q) (6:Int)) (3:Int)=q.2.1/\ar .and .i64 (qN q) (63:Int)=q.2.2.1:=by
 obtain⟨a,u⟩:∃a:Nat,q.1=a:=⟨q.1.toNat,by have:=h.a;omega⟩;obtain⟨k,z⟩:∃a:Nat,q.2.1=a:=⟨q.2.1.toNat,by have:=h.k;omega⟩;obtain⟨f,A⟩:∃a:Nat,q.2.2.1=a:=⟨q.2.2.1.toNat,by have:=h.f;omega⟩;have B:=h.a;have C:=h.k;have D:=h.f;have:=PH (at_:=a) (k:=k) (fr:=f) (by omega) (by omega) (by omega);unfold qN;rw[u,z,A];have e:(a:Int)*256+(k:Int)*64+(f:Int)=((a*256+k*64+f:Nat):Int):=by omega
 rw[e];exact this
theorem Hl(l:List ZO)(x:ZO):tQ (l++[x])=tQ l++(if x.2.1=3 then [x.2.2.2] else []):=by
 unfold tQ;rw[yv,aCt];by_cases h:x.2.1=3<;>simp[h]
theorem Vp(l:List ZO):(tQ l).length<=l.length:=by unfold tQ;rw[ix];exact aCl _ _
theorem IB(num iq:Int)(ps:List (Int×aR))(base:List aR)(hp:ps.length<=32)(he:Go.ZA.XS base []=0)(hr:Go.ZA.ZQ (base.length:Int) (-1) ps=true)(hk:∀q∈Go.ZA.YN ps base [],al q):
  qV (num,ps) base iq=some (qZ (Go.ZA.YN ps base []) iq num,decide (((2+(Go.ZA.YN ps base []).length:Nat):Int)<=9)):=by
 unfold qV;rw[Go.ZA.fu ps base [] (by omega) (by simp),VN (by rw[he];simp),VX hr,cM];simp only[ZI,pF];have A:(Go.ZA.YN ps base []).length<=32:=ai (Go.ZA.S6 _ _ _) hp;generalize hL:Go.ZA.YN ps base []=L at hk A;rw[show ((0:Int),([iq,num]:List Int),([]:List aR))=(fun (i:Nat) (acc:List Int×List aR)=>((i:Int),acc.1,acc.2)) 0 ([iq,num],[]) from rfl];refine Cx (l:=L) (fun (i:Nat) (acc:List Int×List aR)=>((i:Int),acc.1,acc.2)) (fun h acc=>acc=([iq,num]++h.map qN,tQ h)) (fun acc=>(acc.1,acc.2)) ([iq,num],[]) (by unfold fI;omega) rfl ?_ ?_ ?_
 ·rintro h x E acc z rfl;have C:h.length<=32:=by rw[z] at A;simp at A;omega
  have B:=hk x (by rw[z];simp);have D:=Vp h;refine⟨([iq,num]++(h++[x]).map qN,tQ (h++[x])),?_,rfl⟩;simp only[kV z,WR,kA z,cM,IA B];rw[UQ _ _ (by simp;omega),cM,l5 (by omega),ce,Hl];by_cases u:x.2.1=3
  ·rw[y3 u,WR,UQ _ _ (by simp;omega),cM,VX u];simp
  ·rw[ZL u,pF,VN u];simp
 ·rintro acc rfl;simp only[dQ,pF]
 ·rintro acc rfl;simp only[qZ,ye];have e:(([iq,num]++L.map qN).length:Int)=((2+L.length:Nat):Int):=by rw[pT,ix];rfl
  rw[e]
end Go.WT
namespace Go.WT
open Go Go.Sw Go.Mo Go.Pl
theorem Yd(l:List ZO)(iq to:Int)(hl:l.length<=32)(hk:∀q∈l,al q):oA (qZ l iq to)=some (l,true):=by
 unfold oA qZ;have I:Sw.sub ([iq,to]++l.map qN) (2:Int) ((([iq,to]++l.map qN).length:Nat):Int)=some (l.map qN):=by
  have:=Go.VW.H8 ([iq,to]++l.map qN) 2 (by simp);simpa using this
 rw[I,cM];have K:(l.map qN).length=l.length:=ix ..;rw[show (tQ l,(0:Int),([]:List ZO))=(fun (i:Nat) (acc:List aR×List ZO)=>(acc.1,(i:Int),acc.2)) 0 (tQ l,[]) from rfl];refine Cx (l:=l) (fun (i:Nat) (acc:List aR×List ZO)=>(acc.1,(i:Int),acc.2)) (fun F acc=>acc.2=F/\tQ F++acc.1=tQ l) (fun acc=>(acc.1,acc.2)) (tQ l,[]) (by unfold fI;omega) ⟨rfl,rfl⟩ ?_ ?_ ?_
 ·rintro F x u ⟨G,out⟩ C ⟨B,h⟩;simp only at B h;subst B;have U:out.length<=32:=by rw[C] at hl;simp at hl;omega
  have H:=hk x (by rw[C];simp);obtain⟨R,S,T⟩:=MJ H;have L:Sw.idx (l.map qN) (out.length:Int)=some (qN x):=kW (by rw[C];simp);have D:cm .lss (out.length:Int) ((l.map qN).length:Int)=true:=by rw[K];exact kV C
  simp only[D,WR,L,cM,R,S,T,jp,ce];have E:tQ l=tQ out++((if x.2.1=3 then [x.2.2.2] else [])++tQ u):=by
   rw[C,show out++x::u=(out++[x])++u by simp];have:∀a b:List ZO,tQ (a++b)=tQ a++tQ b:=fun a b=>by unfold tQ;rw[yv,aCt]
   rw[this,Hl,u9]
  rw[E] at h;have h:=List.append_cancel_left h;by_cases A:x.2.1=3
  ·rw[VX A] at h;subst h;rw[y3 A,WR];have M:decide (((([x.2.2.2]++tQ u).length:Nat):Int)=0)=false:=ZL (by simp;omega);have N:Sw.sub ([x.2.2.2]++tQ u) (1:Int) ((([x.2.2.2]++tQ u).length:Nat):Int)=some (tQ u):=by
    have:=Go.VW.H8 ([x.2.2.2]++tQ u) 1 (by simp);simpa using this
   have O:Sw.idx ([x.2.2.2]++tQ u) (0:Int)=some x.2.2.2:=by simp[Sw.idx]
   rw[M,pF,O,cM,N,cM,UQ _ _ (by simp;omega),cM,l5 (by omega)];refine⟨(tQ u,out++[x]),rfl,rfl,?_⟩;simp only;rw[Hl,VX A,E,VX A,u9]
  ·rw[VN A,X3] at h;subst h;rw[ZL A,pF,UQ _ _ (by simp;omega),cM,l5 (by omega)];have P:=H.z A;refine⟨(tQ u,out++[x]),?_,rfl,?_⟩
   ·rw[<-P]
   ·simp only;rw[Hl,VN A,V2,E,VN A,X3]
 ·rintro⟨G,out⟩ ⟨B,h⟩;simp only at B h;subst B;have D:cm .lss (out.length:Int) ((out.map qN).length:Int)=false:=by rw[ix];exact dQ
  simp only[D,pF]
 ·rintro⟨G,out⟩ ⟨B,h⟩;simp only at B h;subst B;have Q:G=[]:=by
   have:=congrArg List.length h;simp at this;exact this
  subst Q;rfl
end Go.WT
namespace Go.WT
open Go Go.Sw Go.Mo Go.Pl
open Go.XX (oC sD Uj pU xG yK)
open Go.VW (dM)
def YK(b:aR):Prop:=b.length=8/\Bytes b
structure m8 (n:Nat) (snaps:List (List aR)) (cur to:Int) (m:Fm):Prop where
 lt:cur<to
 nn:0<=cur
 le:to<snaps.length
 load:dM m=0
 YC:∀b∈m.2.2,YK b
 say:m=((5:Int),[to],snaps.getD to.toNat [])\/∃l ps,m=qZ l cur to/\l.length<=7/\(∀q∈l,al q)/\pG l (snaps.getD cur.toNat []) []=some (ps,[],none)/\
  sD (snaps.getD cur.toNat []) ps=snaps.getD to.toNat []/\ps.length<=n/\(∀p∈ps,0<=p.1/\p.1<(n:Int))
def mZ:Nat->List aR->List (Int×aR)
 |_,[]=>[]
 |i,b::l=>((i:Int),b)::mZ (i+1) l
theorem Hm:∀(l:List aR) (i:Nat) (b:aR),mZ i (l++[b])=mZ i l++[(((i+l.length:Nat):Int),b)]
 | [],_,_=>rfl
 |x::l,i,b=>by
  simp only[dg,mZ,B0];rw[Hm l (i+1) b];congr 4;omega
theorem Dc:∀(l:List aR) (i:Nat),(mZ i l).length=l.length
 | [],_=>rfl
 |_::l,i=>by simp[mZ,Dc l (i+1)]
theorem Kb:∀(l:List aR) (i:Nat),∀p∈mZ i l,(i:Int)<=p.1/\p.1<((i+l.length:Nat):Int)
 | [],_,p,h=>by simp[mZ] at h
 |x::l,i,p,h=>by
  simp only[mZ,j4] at h;rcases h with rfl | h
  ·simp only[B0];omega
  ·have:=Kb l (i+1) p h;simp only[B0];omega
theorem Ng:∀(l pre base:List aR),base.length=l.length->sD (pre++base) (mZ pre.length l)=pre++l
 | [],pre,base,h=>by
  have:base=[]:=eu (by simpa using h);subst this;rfl
 |x::l,pre,base,h=>by
  match base,h with
  |y::base,h=>
   simp only[mZ];show sD ((pre++y::base).set ((pre.length:Int)).toNat x) (mZ (pre.length+1) l)=_;have:(pre++y::base).set ((pre.length:Int)).toNat x=(pre++[x])++base:=by simp
   rw[this];have:=Ng l (pre++[x]) base (by simpa using h);simp only[pT,B0,V1] at this;rw[this];simp
variable {n:Nat}{snaps:List (List aR)}
theorem Nh{d:(List aR)×(List (Int×aR))×Int}{blocks:List aR}{a b:Nat}(h:oC d blocks a b)(h0:1<=blocks.length)(h1:blocks.length<=32)(N9:b<=2147483647)(XD:List (Int×aR))(to:Int)(ht:0<=to/\to<=2147483647)
  (hl:XD.length<=blocks.length) (hp:∀p∈XD,0<=p.1/\p.1<(blocks.length:Int)):
  ∃d',oC d' (sD blocks XD) to.toNat b/\
   (∀b0 b1 b2 b4 b5 b6 b7 b8 b9 WA VZ WG VV WC VY WB VS WM WL,jL XD to b0 b1 b2 (b:Int) b4 b5 b6 b7 b8 b9 WA VZ WG VV WC VY WB VS (blocks.length:Int) d WM WL=some (none,to,(blocks.length:Int),d'))/\
   (∀b0 b1 b2 b3 b4 b5 b6 b7 b8 b9 WA VZ WG VV VY WB VS WO WN,gQ XD to b0 b1 b2 b3 b4 b5 b6 b7 b8 b9 WA VZ WG VV (b:Int) VY WB VS WO WN (blocks.length:Int) d=some (none,to,(blocks.length:Int),d')):=by
 have B:Uj blocks.length XD to (b:Int)=0:=by
  unfold Uj;rw[VN (by omega),VN (by omega),VN];intro C;obtain⟨p,D,A⟩:=aDc.1 C;have:=hp p D;unfold pU at A;simp at A;omega
 obtain⟨d',x',y',u,z,_,_,_,e,E⟩:=yK h h0 h1 XD to (b:Int) B;have u:to.toNat=x':=by omega
 have z:b=y':=by omega
 subst u z;refine⟨d',E,?_,?_⟩<;>intros
 ·unfold jL;rw[e];rfl
 ·unfold gQ;rw[e];rfl
end Go.WT
namespace Go.WT
open Go Go.Sw Go.Mo Go.Pl
open Go.XX (oC sD Uj pU xG yK)
open Go.VW (dM)
variable {n:Nat}{snaps:List (List aR)}
theorem Si{γ:Type}(l:List aR)(hl:l.length<=1000)(k:List (Int×aR)->Option γ):
  lp (β:=(List (Int×aR))) (fun (C2:Int×(List (Int×aR)))=>
    bif (cm .lss C2.1 (l.length:Int)) then
     (Sw.idx l C2.1).bind fun z26=>
      (Sw.app C2.2 ([(C2.1,z26)]:(List (Int×aR)))).bind fun ZD=>
       some (.next ((ar .add .i64 C2.1 (1:Int)),ZD))
    else
     some (.done (.VP C2.2))
    ) ((0:Int),([]:(List (Int×aR)))) k=k (mZ 0 l):=by
 rw[show ((0:Int),([]:List (Int×aR)))=(fun (i:Nat) (acc:List (Int×aR))=>((i:Int),acc)) 0 [] from rfl];refine Cx (l:=l) (fun (i:Nat) (acc:List (Int×aR))=>((i:Int),acc)) (fun h acc=>acc=mZ 0 h) (fun acc=>acc) [] (by unfold fI;omega) rfl ?_ ?_ ?_
 ·rintro h x A acc u rfl;have z:h.length<=1000:=by rw[u] at hl;simp at hl;omega
  refine⟨mZ 0 (h++[x]),?_,rfl⟩;simp only[kV u,WR,kA u,cM];rw[UQ _ _ (by simp[Dc];omega),cM,l5 (by omega),Hm,ym]
 ·rintro acc rfl;simp only[dQ,pF]
 ·rintro acc rfl;rfl
theorem MK{s:PS}{blocks:List aR}{a b:Nat}(h:oC s.od blocks a b)(O0:blocks=snaps.getD a [])(h0:1<=n)(h1:n<=32)(cz:∀x∈snaps,x.length=n)(ha:s.XE=(a:Int))(U6:a<snaps.length)(YT:snaps.length<=2147483647)(hb:s.VJ=(b:Int))(N9:b<=2147483647)
  (hon:s.on=(n:Int)) (ho:s.j7=(n:Int)) {m:Fm} {to:Int} (hm:m8 n snaps (a:Int) to m):
  ∃d',oC d' (snaps.getD to.toNat []) to.toNat b/\rT m s=some (none,{ s with XE:=to,j7:=(n:Int),od:=d' }):=by
 have S:=hm.lt;have T:=hm.le;have E:∀i:Nat,i<snaps.length->(snaps.getD i []).length=n:=fun i O=>by
  rw[R2,C3 O];exact cz _ (eo _)
 have A:blocks.length=n:=by rw[O0];exact E a U6
 have F:(snaps.getD to.toNat []).length=n:=E _ (by omega);rcases hm.say with rfl |⟨l,P,rfl,U,Q,D,z,V,R⟩
 ·
  obtain⟨d',u,_,e⟩:=Nh h (by omega) (by omega) N9 (mZ 0 (snaps.getD to.toNat [])) to (by omega) (by rw[Dc];omega) (fun p C=>by have:=Kb _ _ p C;omega);rw[A] at e;have z:sD blocks (mZ 0 (snaps.getD to.toNat []))=snaps.getD to.toNat []:=by
   have:=Ng (snaps.getD to.toNat []) [] blocks (by omega);simpa using this
  rw[z] at u;refine⟨d',u,?_⟩;unfold rT fB;have B:Sw.idx [to] (0:Int)=some to:=by simp[Sw.idx]
  have I:((([to]:List Int).length:Nat):Int)=1:=rfl;simp only[ce,I,hon,F,B,cg,Y8,WR,cM];rw[ha,y3 (show to>(a:Int) by omega),WR];have G:=Si (snaps.getD to.toNat []) (by omega) (γ:=(Option Int)×Int×Int×((List aR)×(List (Int×aR))×Int));rw[F] at G;rw[G];simp only[cM,hb,ho,e]
 ·
  obtain⟨d',u,_,e⟩:=Nh h (by omega) (by omega) N9 P to (by omega) (by omega) (fun p C=>by have:=R p C;omega);rw[A] at e;rw[j5] at D z;rw[O0,z] at u;refine⟨d',u,?_⟩;have H:=xG h;rw[A] at H;unfold rT fB;have K:=Yd l (a:Int) to (by omega) Q;have B:Sw.idx ((qZ l (a:Int) to).2.1) (0:Int)=some (a:Int):=by simp[qZ,Sw.idx]
  have L:Sw.idx ((qZ l (a:Int) to).2.1) (1:Int)=some to:=by simp[qZ,Sw.idx]
  have M:(qZ l (a:Int) to).1=4:=rfl;have N:decide ((((qZ l (a:Int) to).2.1.length:Nat):Int)>=2)=true:=y3 (by simp[qZ];omega);rw[<-O0] at D;simp only[ce,M,G7,N,B,L,cg,WR,cM];rw[show decide ((4:Int)=5)=false from rfl,pF,cM,pF,y3 trivial,WR,ha,y3 rfl,WR,y3 (show to>(a:Int) by omega),cM,WR,ho,H,cM];simp only[ZI,pF,K,cM,D,iz];rw[show decide ((([]:List Int).length:Int)>0)=false from rfl];simp only[cM,pF,hb,e]
end Go.WT
namespace Go.WT
open Go Go.Sw Go.Mo Go.Pl
open Go.XX (sD)
open Go.ZA (ZQ L6 Kg YN Sz news XS)
open Go.VW (dM dU)
open Go.ZZ (Lb)
theorem Qn{n:Int}:∀(l:List (Int×aR)) (prev:Int) (acc:List aR),-1<=prev->ZQ n prev l=true->∀i:Nat,(i:Int)<=prev->(Kg acc l)[i]? =acc[i]?
 | [],_,_,_,_,_,_=>rfl
 |x::l,prev,acc,z,h,i,A=>by
  simp only[ZQ,B9,oe] at h;have u:=h.1;unfold L6 at u;simp at u;show (Kg (acc.set x.1.toNat x.2) l)[i]? =_;rw[Qn l x.1 _ (by omega) h.2 i (by omega),tc (by omega)]
theorem AZ{n:Int}:∀(l:List (Int×aR)) (prev:Int) (acc:List aR),-1<=prev->ZQ n prev l=true->(n<=acc.length)->∀p∈l,(Kg acc l)[p.1.toNat]? =some p.2
 | [],_,_,_,_,_,p,u=>by simp at u
 |x::l,prev,acc,B,h,A,p,u=>by
  simp only[ZQ,B9,oe] at h;have z:=h.1;unfold L6 at z;simp at z;show (Kg (acc.set x.1.toNat x.2) l)[p.1.toNat]? =_;rcases j4.1 u with rfl | u
  ·rw[Qn l p.1 _ (by omega) h.2 _ (by omega),aB2 (by omega)]
  ·exact AZ l x.1 _ (by omega) h.2 (by rw[aCu];exact A) p u
theorem Vq{n:Int}:∀(l:List (Int×aR)) (prev:Int),prev<n->ZQ n prev l=true->(l.length:Int)<=n - 1 - prev
 | [],_,z,_=>by simp;omega
 |x::l,prev,z,h=>by
  simp only[ZQ,B9,oe] at h;have u:=h.1;unfold L6 at u;simp at u;have:=Vq l x.1 (by omega) h.2;simp only[B0];omega
variable {n:Nat}{snaps:List (List aR)}
theorem ML{ps:List (Int×aR)}{base:List aR}(hr:ZQ (base.length:Int) (-1) ps=true)(hb:base.length<=32):∀q∈YN ps base [],al q:=by
 intro q u;unfold YN at u;obtain⟨p,A,rfl⟩:=ah.1 u;have B:=Go.ZA.I1 hr p (sx.1 A).1;unfold Sz;split
 ·exact⟨by simp only;omega,by simp,by simp,fun _=>rfl⟩
 ·split
  ·rename_i z;have:=aEd z;exact⟨by simp only;omega,by simp,by simp only;omega,fun _=>rfl⟩
  ·split
   ·rename_i h;simp at h
   ·exact⟨by simp only;omega,by simp,by simp,fun h=>by simp at h⟩
theorem IC{ps:List (Int×aR)}{base:List aR}:∀x∈tQ (YN ps base []),∃p∈ps,x=p.2:=by
 intro x A;unfold tQ at A;obtain⟨q,z,rfl⟩:=ah.1 A;obtain⟨z,u⟩:=sx.1 z;unfold YN at z;obtain⟨p,E,rfl⟩:=ah.1 z;refine⟨p,(sx.1 E).1,?_⟩;unfold Sz at u ⊢;split at u
 ·simp at u
 ·rename_i B;rw[VN B];split at u
  ·simp at u
  ·rename_i C;rw[VN C];split at u
   ·rename_i h;simp at h
   ·rename_i D;rw[VN D]
theorem Le{f:Fm}(h1:0<=f.1/\f.1<=15)(h2:f.2.1.length<=9)(h3:f.2.2.length<=32)(h4:∀x∈f.2.1,0<=x/\x<=2147483647):dM f=0:=by
 have u:dU f=0:=by
  unfold dU;rw[VN (by omega),VN (by omega),VN];intro z;obtain⟨x,A,h⟩:=aDc.1 z;have:=h4 x A;rw[Go.VW.ZY.2 this] at h;cases h
 unfold dM;rw[VX u,VN (by omega)]
theorem MM{b:Int×List (Int×aR)×List (Int×List (Int×aR))×Bool}{now:List aR}{VQ:List (Int×List aR)}{XY:Nat}{k:Int}(he:jc n b now snaps)(h0:1<=n)(h1:n<=32)(hh:snaps.length=XY+1)(j1:XY<=2147483647)
  (O0:∀s∈snaps,∀x∈s,YK x) (aOa:∀j l,fJ VQ j=some l->0<=j/\j<=XY/\l=snaps.getD j.toNat []) (aO0:fJ VQ (XY:Int)=some (snaps.getD XY [])) (hk: -1<=k/\k<XY):
  ∃m,(∀b0 b3 b4 b7 b8 WA VZ WG VV WC VY WB VS WO WN WM WL,dL b0 (n:Int) (XY:Int) b3 b4 b VQ b7 b8 k WA VZ WG VV WC VY WB VS WO WN WM WL=some m)/\
   ∀cur:Int,0<=cur->cur<XY->(k= -1\/cur=k)->m8 n snaps cur XY m:=by
 have S:b.1=XY:=by have:=he.num;omega
 have I:∀i:Nat,i<snaps.length->snaps.getD i []∈snaps:=fun i M=>by
  rw[R2,C3 M];exact eo _
 have O:∀i:Nat,i<snaps.length->(snaps.getD i []).length=n:=fun i M=>he.len _ (I i M);have F:∀cur:Int,0<=cur->cur<XY->m8 n snaps cur XY ((5:Int),[(XY:Int)],snaps.getD XY []):=fun cur A B=>
  ⟨B,A,by omega,Le (by simp) (by simp) (by have:=O XY (by omega);simp only;omega) (fun x C=>by simp at C;omega),fun x C=>O0 _ (I XY (by omega)) x C,.inl (by simp)⟩
 have G:(fJ VQ (XY:Int)).getD []=snaps.getD XY []:=by rw[aO0];rfl
 by_cases T:k<0
 ·refine⟨((5:Int),[(XY:Int)],snaps.getD XY []),?_,fun cur A B _=>F cur A B⟩
  intros
  unfold dL;rw[Go.ZZ.dn b n k (Go.ZZ.Z1 he.may),VN (by rw[he.may];simp),VX (.inl T)];simp only[cM,Option.isNone_some,pF,jp,G]
 ·rcases he.since (k:=k) ⟨by omega,by omega⟩ with E |⟨z,E,X,D,bg⟩
  ·refine⟨((5:Int),[(XY:Int)],snaps.getD XY []),?_,fun cur A B _=>F cur A B⟩
   intros
   unfold dL;rw[E];simp only[cM,er,WR,pF,jp,G]
  ·cases hg:fJ VQ k with
   |none=>
    refine⟨((5:Int),[(XY:Int)],snaps.getD XY []),?_,fun cur A B _=>F cur A B⟩
    intros
    unfold dL;rw[E];simp only[cM,er,WR,pF,jp,G,hg,ZI]
   |some u=>
    obtain⟨_,_,H⟩:=aOa k u hg;have U:u.length=n:=by rw[H];exact O _ (by omega)
    have P:XS u []=0:=Go.ZA.az (by omega) (by omega) (by simp) (by simp);rw[<-U] at D;have K:=ML D (by omega);have Q:=IB b.1 k z u bg P D K;by_cases L4:2+(YN z u []).length<=9
    ·refine⟨qZ (YN z u []) k b.1,?_,fun cur A B N=>?_⟩
     ·intros
      unfold dL;rw[E];simp only[cM,er,WR,jp,hg,aCy,yk,Q];rw[y3 (by omega),WR]
     ·have V:cur=k:=by rcases N with N | N<;>omega
      subst V;have aa:=Vp (YN z u []);have R:Kg u z=snaps.getD b.1.toNat []:=by rw[<-X,<-H];rfl
      refine⟨by omega,A,by omega,Le (by simp[qZ]) (by simp[qZ];omega) (by simp only[qZ];omega) (fun x C=>?_),fun x C=>?_,.inr ⟨YN z u [],news z u,by rw[S],by omega,K,?_,?_,?_,?_⟩⟩
      ·simp only[qZ,J6,j4,aCv,aEs,ah] at C;rcases C with (rfl | rfl) |⟨q,hq,rfl⟩
       ·omega
       ·omega
       ·have h:=K q hq;have a1:=h.a;have a2:=h.k;have a3:=h.f;unfold qN;omega
      ·obtain⟨p,L,rfl⟩:=IC x C;have:=AZ z (-1) u (by omega) D (aDm _) p L;rw[R] at this;exact O0 _ (I _ (by omega)) _ (yw this)
      ·rw[<-H];exact Go.ZA.iv z u [] (by omega) (by simp) P D
      ·rw[<-H];have h1:sD u (news z u)=Kg u (news z u):=rfl;rw[h1,Go.ZA.K1 (by omega) D (fun _ _=>rfl),R];congr 1;omega
      ·have h1:=Vq z (-1) (by omega) D;have h2:(news z u).length<=z.length:=aCl _ _;omega
      ·intro p L;have:=Go.ZA.wb D p L;omega
    ·refine⟨((5:Int),[(XY:Int)],snaps.getD XY []),?_,fun cur A B _=>F cur A B⟩
     intros
     unfold dL;rw[E];simp only[cM,er,WR,jp,hg,aCy,yk,Q];rw[ZL (by omega),pF,G]
end Go.WT
namespace Go.WT
open Go Go.Sw Go.Mo Go.Pl
theorem RU(n c:Nat)(hc:c<=64):sh .shr .u64 (n:Int) (c:Int)=((n / 2 ^ c:Nat):Int):=Go.jb.aMc n c hc
theorem TL{a b:Nat}(ha:a<18446744073709551616)(hb:b<18446744073709551616):ar .and .u64 (a:Int) (b:Int)=((a &&& b:Nat):Int):=by
 show IntKind.wrap .u64 ((BitVec.ofInt 64 (a:Int) &&& BitVec.ofInt 64 (b:Int)).toNat:Int)=_;simp only[rQ,aEq,yu];rw[L7 (a:=a) (by omega),L7 (a:=b) (by omega)];have:a &&& b<=a:=Nat.and_le_left;show ((a &&& b:Nat):Int) % 18446744073709551616=_;omega
theorem DD{h:Nat}(hh:h<18446744073709551616):pR (h:Int)=some [((h / 8589934592:Nat):Int),((h / 4 % 2147483648:Nat):Int)]:=by
 unfold pR;have u:sh .shr .u64 (h:Int) (33:Int)=((h / 2 ^ 33:Nat):Int):=RU h 33 (by omega);have z:sh .shr .u64 (h:Int) (2:Int)=((h / 2 ^ 2:Nat):Int):=RU h 2 (by omega);have A:ar .and .u64 ((h / 2 ^ 2:Nat):Int) (2147483647:Int)=((h / 2 ^ 2 &&& 2147483647:Nat):Int):=TL (b:=2147483647) (by omega) (by omega);have B:∀x:Nat,x &&& 2147483647=x % 2147483648:=fun x=>aDd x 31;rw[u,z,A,B,wrap_i64 (by omega),wrap_i64 (by omega)]
theorem ID{bs:List aR}(h0:1<=bs.length)(h1:bs.length<=32)(hb:∀b∈bs,YK b):∃x y:Int,jR bs=some [x,y]/\(0<=x/\x<=2147483647)/\(0<=y/\y<=2147483647):=by
 have B:=Go.jb.ld bs h0;have D:=B.ne;obtain⟨u,l,z⟩:∃u l,Go.jb.tree bs=u++[l]:=⟨_,_,(List.dropLast_concat_getLast D).symm⟩;have E:l.length=1:=by
  rcases B.at u [] l z with⟨_,h⟩|⟨m,r,h,_⟩
  ·exact h
  ·cases h
 obtain⟨v,rfl⟩:∃v,l=[v]:=by
  match l,E with
  | [v],_=>exact⟨v,rfl⟩
 have A:=(Go.jb.oz bs h1 [v] (by rw[z];simp)).1 v (by simp);have C:=Go.jb.oy bs;rw[z] at C;have K:u.length<=32:=by simp at C;omega
 unfold jR;rw[Go.jb.aMf bs hb (by omega),VN (by omega),cM];simp only[ZI,pF,z];have F:(((u++[[v]]).length:Nat):Int)=((u.length+1:Nat):Int):=by simp
 have G:ar .sub .i64 ((u.length+1:Nat):Int) 1=(u.length:Int):=by rw[M9 (by omega)];omega
 have H:Sw.idx (u++[[v]]) (u.length:Int)=some [v]:=kW (by simp);have I:Sw.idx [v] (0:Int)=some v:=by simp[Sw.idx]
 rw[F,G,H,cM,I,cM];obtain⟨h,rfl⟩:∃h:Nat,v=h:=⟨v.toNat,by have:=A;omega⟩;rw[DD (by have:=A;omega),cM];exact⟨_,_,rfl,by have:=A;omega,by omega⟩
end Go.WT
namespace Go.WT
open Go Go.Sw Go.Mo Go.Pl
open Go.XX (oC)
open Go.VW (Good bQ fF dM)
def pV(fb ob:Nat):Int:=((fb*4096+ob:Nat):Int)
theorem sN{a b c d:Nat}(hb:b<4096)(hd:d<4096)(h:pV a b=pV c d):a=c/\b=d:=by unfold pV at h;omega
def kD(g:Nat):Fm:=((2:Int),[(g:Int)],[])
def fC(g o j:Nat)(t:List Int):Fm:=((3:Int),[(g:Int),(o:Int),(j:Int)]++t,[])
def VU(S:Int)(q:Nat)(m:Fm):Fm:=((1:Int),[S,(q:Int),m.1]++m.2.1,m.2.2)
def zX(S:Int)(a:Nat):Fm:=((0:Int),[S,(a:Int)],[])
structure D5 (m:Fm):Prop where
 load:dM m=0
 YC:∀b∈m.2.2,YK b
structure Nm where
 n:Nat
 h:Nat
 fb:Nat
 ob:Nat
 k:Nat
 q:Nat
 x:Nat
def sV(v:Nm)(s:PS)(S:Int):Prop:=∃g o:Nat,S=pV g o/\1<=g/\1<=o/\o<=v.ob/\(g<v.fb\/(g=v.fb/\S<=s.UN))/\(o=v.ob->(g:Int)<=s.first)
def Hn(v:Nm)(snaps:List (List aR))(s:PS)(f:Fm):Prop:=
 (∃g:Nat,1<=g/\g<=v.fb/\f=kD g)\/
 (∃S q m,f=VU S q m/\D5 m/\sV v s S/\(S=s.UN->q<v.q\/(q=v.q/\s.UP.2.2=[m]))/\(0<=s.first->S=s.receiver.1->q<=v.x/\(q=v.x->∃to,m8 v.n snaps v.k to m)))
def Ho(v:Nm)(snaps:List (List aR))(s:PS)(f:Fm):Prop:=
 (∃g o j t,f=fC g o j t/\1<=g/\g<=v.fb/\1<=o/\o<=v.ob/\j<=v.k/\jR (snaps.getD j [])=some t/\(g=v.fb->o=v.ob->s.UN<pV g o->j=v.k/\s.first=(v.fb:Int)/\v.x=0))\/
 (∃S a,f=zX S a/\sV v s S/\(S=s.UN->a<=v.q\/(a=v.q+1/\s.UP.2.2≠ []/\s.sent<=v.k))/\(0<=s.first->S=s.receiver.1->a<=v.x))
structure m9 (v:Nm) (snaps:List (List aR)) (s:PS) (y:Bool×Bool×List Int):Prop where
 bytes:Bytes y.2.2
 len:y.2.2.length<=2000
 ne:y.2.2≠ []
 E0:y.2.1=true->fF y.2.2=none
 whole:y.2.1=false->∃f,Good f/\y.2.2=bQ f/\(y.1=true->Hn v snaps s f)/\(y.1=false->Ho v snaps s f)
structure Inv (v:Nm) (now:List aR) (snaps:List (List aR)) (s:PS):Prop where
 n0:1<=v.n
 n1:v.n<=32
 en:s.n=v.n
 efn:s.fn=v.n
 eon:s.on=v.n
 ya:s.m5=v.n
 mn:s.j7=v.n
 hs:snaps.length=v.h+1
 B8:v.h<=100000/\v.fb<=3000/\v.ob<=3000/\v.q<=100000/\v.x<=100000
 pos:1<=v.fb/\1<=v.ob
 enum:s.XF=v.h
 YU:s.WE=v.fb
 P8:s.VJ=v.ob
 U8:s.XE=v.k
 kh:v.k<=v.h
 Z2:oC s.fd (snaps.getD v.h []) v.h v.fb
 E7:oC s.od (snaps.getD v.k []) v.k v.ob
 ep:jc v.n s.UZ now snaps
 D7:s.blocks=now
 bok:∀l∈snaps,∀b∈l,YK b
 nok:∀b∈now,YK b
 VQ:∀p∈s.VQ,0<=p.1/\p.1<=v.h/\p.2=snaps.getD p.1.toNat []
 last:fJ s.VQ (v.h:Int)=some (snaps.getD v.h [])
 idle:s.first=v.fb->s.UN<pV v.fb v.ob->v.x=0
 safe:0<=s.safe/\s.safe<=v.k
 sent: -1<=s.sent/\s.sent<=v.h/\(s.sent= -1->0<v.h)
 low:s.UP.2.2=[]->s.sent<=s.safe
 UN:s.UN= -1\/∃o:Nat,1<=o/\o<=v.ob/\s.UN=pV v.fb o/\(o=v.ob->s.first=v.fb)
 UP:(s.UN= -1/\s.UP=(0,0,[])/\s.UW=[])\/(0<=s.UN/\s.UP.1=s.UN/\s.UP.2.1=v.q)
 queue:(s.UP.2.2=[]/\s.UW=[])\/∃m,s.UP.2.2=[m]/\s.UW=[s.sent]/\D5 m/\0<=s.sent
 first:(s.first= -1/\s.receiver=(0,0)/\v.x=0)\/∃g:Nat,1<=g/\g<=v.fb/\s.first=g/\s.receiver=(pV g v.ob,(v.x:Int))
 act:s.UN=pV v.fb v.ob->(v.x=v.q/\(s.UP.2.2=[]->s.sent=v.k\/(s.sent= -1/\v.k<v.h))/\(∀m,s.UP.2.2=[m]->m8 v.n snaps v.k s.sent m))\/(v.x=v.q+1/\s.UP.2.2≠ []/\s.sent=v.k)
 VM:∀y∈s.VM,m9 v snaps s y
 K7:s.VM.length<=64
end Go.WT
namespace Go.WT
open Go Go.Sw Go.Mo Go.Pl
open Go.XX (oC)
open Go.VW (Good bQ fF dM)
theorem y7:YK aU:=⟨by simp[aU],fun x h=>by simp[aU] at h;omega⟩
def Iz(n:Nat)(d1 d2:(List aR)×(List (Int×aR))×Int):PS:={ n:=n,fn:=n,XF:=0,WE:=1,blocks:=List.replicate n aU,UZ:=(0,[],[],true),VQ:=[(0,List.replicate n aU)],UN:= -1,UP:=(0,0,[]),sent:=0,safe:=0,UW:=[],on:=n,XE:=0,VJ:=1,first:= -1,receiver:=(0,0),VM:=[],m5:=n,fd:=d1,j7:=n,od:=d2 }
theorem DF{n:Nat}(h0:1<=n)(h1:n<=32){d1 d2:(List aR)×(List (Int×aR))×Int}(s1:oC d1 (List.replicate n aU) 0 1)(s2:oC d2 (List.replicate n aU) 0 1):
  Inv ⟨n,0,1,1,0,0,0⟩ (List.replicate n aU) [List.replicate n aU] (Iz n d1 d2):=by
 have u:∀b∈List.replicate n aU,YK b:=fun b E=>by rw[List.eq_of_mem_replicate E];exact y7
 have C:=Vo (m:=n) (snaps:=[List.replicate n aU]) ⟨h0,h1⟩ (num:=0) rfl (by decide) (fun s B=>by simp at B;subst B;simp);constructor
 case n0=>exact h0
 case n1=>exact h1
 case Z2=>exact s1
 case E7=>exact s2
 case ep=>exact C
 case bok=>intro l z;simp at z;subst z;exact u
 case nok=>exact u
 case VQ=>
  intro p A;simp only[Iz,yr] at A;subst A;simp
 case last=>rfl
 case UN=>exact .inl rfl
 case UP=>exact .inl ⟨rfl,rfl,rfl⟩
 case queue=>exact .inl ⟨rfl,rfl⟩
 case first=>exact .inl ⟨rfl,rfl,rfl⟩
 case act=>intro h;simp[Iz,pV] at h
 case VM=>intro y D;simp[Iz] at D
 all_goals simp[Iz]
theorem IE{v:Nm}{now:List aR}{snaps:List (List aR)}{s:PS}(h:Inv v now snaps s){at_:Int}{b:aR}(ha:0<=at_/\at_<v.n)(hb:YK b):
  ∃s',lA at_ b s=some (none,s')/\Inv v (now.set at_.toNat b) snaps s':=by
 have A:=h.ep.add (p:=(at_,b)) ha;have B:=Go.ZZ.aI8 h.ep.may (p:=(at_,b)) ha;obtain⟨z,D,_⟩:=wL (l:=s.blocks) (n:=at_) ha.1 (by rw[h.D7,h.ep.S7];exact ha.2);refine⟨{ s with blocks:=s.blocks.set at_.toNat b,UZ:=(s.UZ.1,Go.ZZ.N1 s.UZ.2.1 (at_,b),s.UZ.2.2.1,s.UZ.2.2.2) },?_,?_⟩
 ·unfold lA eR;rw[h.en,B];simp only[cM,ZI,pF,D]
 ·exact { h with
   ep:=A
   D7:=by rw[<-h.D7]
   nok:=fun x u=>by
    rcases aC0 u with u | rfl
    ·exact h.nok x u
    ·exact hb
   VM:=fun y C=>by
    have:=h.VM y C
    exact⟨this.bytes,this.len,this.ne,this.E0,this.whole⟩}
theorem BA{v:Nm}{now:List aR}{snaps:List (List aR)}{s:PS}(h:Inv v now snaps s){at_:Int}{b:aR}(ha:at_<0\/at_>=v.n):lA at_ b s=some (some 1,s):=by
 have u:=Go.ZZ.sw s.UZ (v.n:Int) (at_,b) (Go.ZZ.Z1 h.ep.may);rw[VN (by rw[h.ep.may];simp),VX ha] at u;unfold lA eR;rw[h.en,u];simp only[cM,aCy,WR];rw[<-h.en]
theorem MN{v:Nm}{now:List aR}{snaps:List (List aR)}{s:PS}(h:Inv v now snaps s){at_:Int}(ha:0<=at_/\at_<v.n):oD at_ s=some (now.getD at_.toNat [],none,s):=by
 obtain⟨z,u,A⟩:=wL (l:=now) (n:=at_) ha.1 (by rw[h.ep.S7];exact ha.2);unfold oD fU;rw[h.en,h.D7,cl,G7,ZL (by omega),pF,ZL (by omega)];simp only[cM,pF,u];congr 2;rw[R2,A];rfl
theorem IF{v:Nm}{now:List aR}{snaps:List (List aR)}{s:PS}(h:Inv v now snaps s){at_:Int}(ha:at_<0\/at_>=v.n):oD at_ s=some (aU,some 1,s):=by
 unfold oD fU;rw[h.en,cl,G7];by_cases u:at_<0
 ·rw[y3 u];simp
 ·rw[ZL u,y3 (by omega)];simp
theorem Qo{β:Type}{k j:Int}(hj:j≠k):∀m:List (Int×β),fJ (Fq m k) j=fJ m j
 | []=>rfl
 | (a,b)::m=>by
  have h:=Qo hj m;unfold Fq at h ⊢;simp only[D9,kp];by_cases u:a=k
  ·subst u;simp only[ZH,List.eraseIdx_cons_zero,fJ];rw[VN (fun e=>hj e.symm)]
  ·rw[VN u];cases hk:kp (m.map (·.1)) k with
   |none=>simp
   |some q=>
    rw[hk] at h;simp only[oh,List.eraseIdx_cons_succ,fJ];split
    ·rfl
    ·exact h
theorem IG{β:Type}{k:Int}{m:List (Int×β)}{p:Int×β}(h:p∈Fq m k):p∈m:=by
 unfold Fq at h;split at h
 ·exact List.mem_of_mem_eraseIdx h
 ·exact h
theorem Hp{β:Type}{j:Int}{l:β}:∀{m:List (Int×β)},fJ m j=some l->(j,l)∈m
 | [],h=>by cases h
 | (a,b)::m,h=>by
  unfold fJ at h;split at h
  ·rename_i e;subst e;cases h;exact X5
  ·exact X4 _ (Hp h)
theorem Vr{β:Type}{j:Int}{l:β}:∀{m:List (Int×β)},fJ m j=none->fJ (m++[(j,l)]) j=some l
 | [],_=>by simp[fJ]
 | (a,b)::m,h=>by
  unfold fJ at h;split at h
  ·cases h
  ·rename_i e;simp only[dg,fJ];rw[VN e];exact Vr h
theorem BB{n:Int}:∀(l:List (Int×aR)) (last:Int),last<n->Go.ZZ.XV n last l=true->(l.length:Int)<=n - 1 - last
 | [],last,A,_=>by simp;omega
 |x::l,last,A,h=>by
  have u:=Go.ZZ.YA n (x::l) last h x (by simp);have z:Go.ZZ.XV n x.1 l=true:=by
   unfold Go.ZZ.XV at h;split at h
   ·cases h
   ·exact h
  have:=BB l x.1 u.2 z;simp only[B0];omega
end Go.WT
namespace Go.WT
open Go Go.Sw Go.Mo Go.Pl
open Go.XX (oC sD)
open Go.ZZ (uC Ei Bp Lb)
open Go.VW (Good bQ fF dM)
theorem m8.mono{n:Nat}{snaps:List (List aR)}{cur to:Int}{m:Fm}(h:m8 n snaps cur to m)(x:List aR):m8 n (snaps++[x]) cur to m:=by
 have u:=h.lt;have z:=h.nn;have A:=h.le;refine⟨u,z,by simp;omega,h.load,h.YC,?_⟩;rw[uC (by omega),uC (by omega)];exact h.say
theorem m9.mono{v:Nm}{snaps:List (List aR)}{s s':PS}{y:Bool×Bool×List Int}(h:m9 v snaps s y)(x:List aR)(hk:v.k<snaps.length)(e1:s'.UN=s.UN)(e2:s'.UP=s.UP)(e3:s'.first=s.first)(e4:s'.receiver=s.receiver)(e5:s'.sent=s.sent)(hh:Nat):
  m9 { v with h:=hh } (snaps++[x]) s' y:=by
 refine⟨h.bytes,h.len,h.ne,h.E0,fun N=>?_⟩;obtain⟨f,P,Q,R,T⟩:=h.whole N;refine⟨f,P,Q,fun C=>?_,fun C=>?_⟩
 ·rcases R C with⟨g,u,z,A⟩|⟨S,q,m,u,z,A,B,K⟩
  ·exact .inl ⟨g,u,z,A⟩
  ·refine .inr ⟨S,q,m,u,z,?_,?_,?_⟩
   ·obtain⟨g,o,D,E,F,G,H,I⟩:=A;exact⟨g,o,D,E,F,G,by rw[e1];exact H,by rw[e3];exact I⟩
   ·rw[e1,e2];exact B
   ·rw[e3,e4];intro L M;obtain⟨U,V⟩:=K L M;exact⟨U,fun O=>by obtain⟨X,d4⟩:=V O;exact⟨X,d4.mono x⟩⟩
 ·rcases T C with⟨g,o,j,t,u,z,A,B,K,a6,a7,a8⟩|⟨S,a,u,z,A,B⟩
  ·refine .inl ⟨g,o,j,t,u,z,A,B,K,a6,?_,?_⟩
   ·rw[uC (by omega)];exact a7
   ·rw[e1,e3];exact a8
  ·refine .inr ⟨S,a,u,?_,?_,?_⟩
   ·obtain⟨g,o,D,E,F,G,H,I⟩:=z;exact⟨g,o,D,E,F,G,by rw[e1];exact H,by rw[e3];exact I⟩
   ·rw[e1,e2,e5];exact A
   ·rw[e3,e4];exact B
theorem Ye{v:Nm}{now:List aR}{snaps:List (List aR)}{s:PS}(h:Inv v now snaps s)(hb:v.h+1<=100000):
  ∃s',qL s=some (none,s')/\Inv { v with h:=v.h+1 } now (snaps++[now]) s':=by
 have j1:=h.B8;have qq:=h.kh;have YT:=h.hs;have N4:=h.n1;have gm:=h.n0;have I:s.UZ.1=v.h:=by have:=h.ep.num;omega
 obtain⟨k1,k2,k3,k4,k5,F,k7,k8,k9⟩:=Go.ZZ.ZK h.ep.may;have K:snaps.getD v.h []∈snaps:=by
  rw[R2,C3 (by omega)];exact eo _
 have L:(snaps.getD v.h []).length=v.n:=h.ep.len _ K;have aa:=BB s.UZ.2.1 (-1) (by omega) F;have M:=Go.ZZ.YA v.n s.UZ.2.1 _ F;obtain⟨V,G,H,_⟩:=Nh h.Z2 (by omega) (by omega) (by omega) s.UZ.2.1 ((v.h+1:Nat):Int) (by omega) (by omega) (fun p u=>by have:=M p u;omega);have N:sD (snaps.getD v.h []) s.UZ.2.1=now:=by
  have:=h.ep.open_;rw[I,j5] at this;exact this
 rw[N,j5] at G;rw[L] at H;have O:=Go.ZZ.vt h.ep.may (by omega);have aE1:fJ s.VQ ((v.h+1:Nat):Int)=none:=by
  cases hg:fJ s.VQ ((v.h+1:Nat):Int) with
  |none=>rfl
  |some l=>have:=h.VQ _ (Hp hg);simp only at this;omega
 have E:Gm s.VQ ((v.h+1:Nat):Int) now=some (s.VQ++[(((v.h+1:Nat):Int),now)]):=by unfold Gm;rw[aE1]
 obtain⟨_,X⟩:=Ka (blocks:=now) s.VQ (v.h+1) (by have:=h.ep.S7;omega) (by omega) (by rw[E];rfl);have P:ar .add .i64 s.XF (1:Int)=((v.h+1:Nat):Int):=by rw[h.enum,l5 (by omega)]
 refine⟨{ s with XF:=((v.h+1:Nat):Int),UZ:=Bp s.UZ,VQ:=pN s.VQ ((v.h+1:Nat):Int) now,m5:=v.n,fd:=V },?_,?_⟩
 ·unfold qL fP;rw[P,h.YU,h.ya,H,cM];simp only[ZI,pF];rw[h.efn,O,cM,h.D7];simp only[];rw[X,cM];rfl
 ·have D:(snaps++[now]).getD (v.h+1) []=now:=Ei (by omega);have Q:(snaps++[now]).getD v.k []=snaps.getD v.k []:=uC (by omega);have xa:pN s.VQ ((v.h+1:Nat):Int) now=Fq (s.VQ++[(((v.h+1:Nat):Int),now)]) (((v.h+1:Nat):Int) - 5):=by unfold pN;rw[E];rfl
  exact { h with
   hs:=by simp;omega
   B8:=by simp only;omega
   enum:=rfl
   kh:=by simp only;omega
   Z2:=by rw[D];exact G
   E7:=by rw[Q];exact h.E7
   ya:=rfl
   ep:=h.ep.shut (by omega)
   bok:=fun l z=>by
    rcases J6.1 z with z | z
    ·exact h.bok l z
    ·simp at z;subst z;exact h.nok
   VQ:=fun p u=>by
    simp only at u ⊢;rw[xa] at u;rcases J6.1 (IG u) with u | u
    ·obtain⟨A,C,B⟩:=h.VQ p u;exact⟨A,by omega,by rw[uC (by omega)];exact B⟩
    ·simp only[yr] at u;subst u;exact⟨by simp only;omega,by simp only;omega,by simp only;rw[j5,D]⟩
   last:=by
    simp only;rw[xa,Qo (by omega),Vr aE1,D]
   sent:=by have:=h.sent;simp only;omega
   act:=fun R=>by
    rcases h.act R with⟨A,C,B⟩|⟨A,C,B⟩
    ·refine .inl ⟨A,fun S=>?_,fun m T=>(B m T).mono now⟩;rcases C S with c |⟨c1,c2⟩
     ·exact .inl c
     ·exact .inr ⟨c1,by simp only;omega⟩
    ·exact .inr ⟨A,C,B⟩
   VM:=fun y U=>by
    refine m9.mono (s:=s) (h.VM y U) now (by omega) ?_ ?_ ?_ ?_ ?_ (v.h+1)<;>rfl }
end Go.WT
namespace Go.WT
open Go Go.Sw Go.Mo Go.Pl
open Go.VW (Good bQ fF dM)
def C1(a:Int):Prop:= -9223372036854775808<=a/\a<=9223372036854775807
theorem IH{a:Int}(h:C1 a):∃k:Nat,max a (IntKind.wrap .i64 (0 - (ar .add .i64 a (1:Int))))=(k:Int)/\(a=0->k=0):=by
 unfold C1 at h;by_cases u:a=9223372036854775807
 ·subst u;have z:ar .add .i64 (9223372036854775807:Int) 1= -9223372036854775808:=by decide+kernel
  have A:IntKind.wrap .i64 (0 - (-9223372036854775808:Int))= -9223372036854775808:=by decide+kernel
  rw[z,A];exact⟨9223372036854775807,by omega,fun c=>by omega⟩
 ·rw[YZ (by omega),wrap_i64 (by omega)];exact⟨(max a (0 - (a+1))).toNat,by omega,fun c=>by omega⟩
theorem m9.same{v:Nm}{snaps:List (List aR)}{s s':PS}{y:Bool×Bool×List Int}(h:m9 v snaps s y)(e1:s'.UN=s.UN)(e2:s'.UP=s.UP)(e3:s'.first=s.first)(e4:s'.receiver=s.receiver)(e5:s'.sent=s.sent):m9 v snaps s' y:=by
 refine⟨h.bytes,h.len,h.ne,h.E0,fun z=>?_⟩;obtain⟨f,A,B,C,D⟩:=h.whole z;refine⟨f,A,B,fun u=>?_,fun u=>?_⟩
 ·have:=C u;unfold Hn sV at this ⊢;rw[e1,e2,e3,e4];exact this
 ·have:=D u;unfold Ho sV at this ⊢;rw[e1,e2,e3,e4,e5];exact this
variable {v:Nm}{now:List aR}{snaps:List (List aR)}{s:PS}
theorem Inv.R7(h:Inv v now snaps s){l:List (Bool×Bool×List Int)}(hl:l.length<=64)(hm:∀y∈l,m9 v snaps s y):Inv v now snaps { s with VM:=l }:=
 { h with
  VM:=fun y u=>(hm y u).same rfl rfl rfl rfl rfl
  K7:=hl }
theorem Hq(h:Inv v now snaps s){a:Int}(ha:C1 a):(s.VM=[]/\jI a s=some (0,false,s))\/∃i:Nat,i<s.VM.length/\jI a s=some ((i:Int),true,s)/\
  (∀b0 b1 b2 b3 b4 b5 b6 b7 b8 b9 WA VZ WG VV WC VY WB WO WN WM WL,cE a b0 b1 b2 b3 b4 b5 b6 b7 b8 b9 WA VZ WG VV WC VY WB s.VM WO WN WM WL=some ((i:Int),true))/\(a=0->i=0):=by
 by_cases u:s.VM=[]
 ·refine .inl ⟨u,?_⟩;unfold jI cE;rw[u];rfl
 ·right;have A:0<s.VM.length:=sy.2 u;obtain⟨k,C,D⟩:=IH ha;have z:∀b0 b1 b2 b3 b4 b5 b6 b7 b8 b9 WA VZ WG VV WC VY WB WO WN WM WL,cE a b0 b1 b2 b3 b4 b5 b6 b7 b8 b9 WA VZ WG VV WC VY WB s.VM WO WN WM WL=some (((k % s.VM.length:Nat):Int),true):=by
   intros
   unfold cE;rw[ce,ZL (by omega),pF,C];have B:nz ((s.VM.length:Nat):Int)=some ():=by unfold nz;rw[VN (by omega)]
   rw[B,cM];rfl
  refine⟨k % s.VM.length,kn _ A,?_,z,fun c=>by rw[D c];exact Nat.zero_mod _⟩;unfold jI;rw[z];rfl
theorem BC{α:Type}(l:List α)(i:Nat)(hi:i<l.length):Sw.del l (i:Int) ((i+1:Nat):Int)=some (l.take i++l.drop (i+1)):=by
 unfold Sw.del Sw.sub;rw[VX (by omega)];simp
theorem Qp{l:List (Bool×Bool×List Int)}(hl:l.length<=1000):cX l=some l:=by
 unfold cX;rw[UQ _ _ (by simp;omega)];rfl
theorem MO(h:Inv v now snaps s){a:Int}(ha:C1 a):∃s',qY a s=some (none,s')/\Inv v now snaps s':=by
 rcases Hq h ha with⟨C,u⟩|⟨i,A,u,B,D⟩
 ·refine⟨{ s with VM:=s.VM },?_,h⟩;unfold jI at u;unfold qY fW;cases hq:cE a s.n s.fn s.XF s.WE s.blocks s.UZ s.VQ s.UN s.UP s.sent s.safe s.UW s.on s.XE s.VJ s.first s.receiver s.VM s.m5 s.fd s.j7 s.od with
  |none=>rw[hq] at u;cases u
  |some q=>
   rw[hq] at u;simp only[cM,u6,R0] at u;simp only[cM,jp,u.2.1,pF]
 ·refine⟨{ s with VM:=s.VM.take i++s.VM.drop (i+1) },?_,h.R7 (by have:=h.K7;simp;omega) (fun y z=>h.VM y (by
   rcases J6.1 z with z | z
   ·exact aCq z
   ·exact aDq z))⟩
  unfold qY fW cS;rw[B,cM];simp only[jp,WR];rw[Qp (by have:=h.K7;omega),cM,l5 (by have:=h.K7;omega),BC _ _ A];rfl
theorem DG(h:Inv v now snaps s){a:Int}(ha:C1 a):∃s',lC a s=some (none,s')/\Inv v now snaps s':=by
 rcases Hq h ha with⟨E,u⟩|⟨i,B,u,A,F⟩
 ·refine⟨{ s with VM:=s.VM },?_,h⟩;unfold jI at u;unfold lC eE;cases hq:cE a s.n s.fn s.XF s.WE s.blocks s.UZ s.VQ s.UN s.UP s.sent s.safe s.UW s.on s.XE s.VJ s.first s.receiver s.VM s.m5 s.fd s.j7 s.od with
  |none=>rw[hq] at u;cases u
  |some q=>
   rw[hq] at u;simp only[cM,u6,R0] at u;simp only[cM,jp,u.2.1,pF]
 ·have C:=h.K7;by_cases D:s.VM.length<64
  ·refine⟨{ s with VM:=s.VM++[s.VM[i]] },?_,h.R7 (by simp;omega) (fun y z=>h.VM y (by
    rcases J6.1 z with z | z
    ·exact z
    ·simp at z;subst z;exact eo _))⟩
   unfold lC eE;rw[A,cM];simp only[jp,WR,cl];rw[y3 (by omega),cM,WR,kW (C3 B),cM,UQ _ _ (by simp;omega)];rfl
  ·refine⟨{ s with VM:=s.VM },?_,h⟩;unfold lC eE;rw[A,cM];simp only[jp,WR,cl];rw[ZL (by omega)];simp only[cM,pF]
end Go.WT
namespace Go.WT
open Go Go.Sw Go.Mo Go.Pl
open Go.VW (Good bQ fF dM)
variable {v:Nm}{now:List aR}{snaps:List (List aR)}{s:PS}
theorem UB:∀a:Fin 256,ar .or .u8 ((a.1:Nat):Int) 1=((a.1 ||| 1:Nat):Int):=by decide+kernel
theorem TM{b:Int}(h:0<=b/\b<=255):ar .or .u8 b 1=((b.toNat ||| 1:Nat):Int):=by
 have:=UB ⟨b.toNat,by omega⟩;simp only at this;rw[<-this];congr 1;omega
theorem DH{a b:Nat}(ha:a<256)(hb:b<256):a ^^^ (b ||| 1)≠a/\a ^^^ (b ||| 1)<256:=by
 have z:b ||| 1<2 ^ 8:=aD1 (by simpa using hb) (by decide)
 have A:a ^^^ (b ||| 1)<2 ^ 8:=aCe (by simpa using ha) z;refine⟨fun h=>?_,by simpa using A⟩;have B:b ||| 1=0:=by
  have this:a ^^^ (a ^^^ (b ||| 1))=a ^^^ a:=by rw[h]
  rw[<-Nat.xor_assoc,Nat.xor_self,Nat.zero_xor] at this;exact this
 have u:(b ||| 1).testBit 0=true:=by rw[Nat.testBit_or];simp
 rw[B] at u;simp at u
theorem DI(h:Inv v now snaps s){d:Int×Int×Int×aR}(h1:C1 d.2.1)(h2:C1 d.2.2.1)(h3:YK d.2.2.2):∃s',lD d s=some (none,s')/\Inv v now snaps s':=by
 rcases Hq h h1 with⟨hn,A⟩|⟨i,L,A,M,ab⟩
 ·refine⟨{ s with VM:=s.VM },?_,h⟩;unfold jI at A;unfold lD eF;cases hq:cE d.2.1 s.n s.fn s.XF s.WE s.blocks s.UZ s.VQ s.UN s.UP s.sent s.safe s.UW s.on s.XE s.VJ s.first s.receiver s.VM s.m5 s.fd s.j7 s.od with
  |none=>rw[hq] at A;cases A
  |some q=>
   rw[hq] at A;simp only[cM,u6,R0] at A;simp only[cM,A.2.1,uf,WR]
 ·have hl:=h.K7;have E:=kW (C3 L);have B:=h.VM _ (eo L);generalize hy:s.VM[i]=y at E B;by_cases C:y.2.1=true
  ·refine⟨{ s with VM:=s.VM },?_,h⟩;unfold lD eF;rw[M,cM];simp only[iz,pF,E,cM,C,WR]
  ·have C:y.2.1=false:=by simpa using C
   obtain⟨f,g1,I,_,_⟩:=B.whole C;have N:=B.len;have O:0<y.2.2.length:=sy.2 B.ne;obtain⟨k,hk,_⟩:=IH h2;have D:k % y.2.2.length<y.2.2.length:=kn _ O;have H:=B.bytes (y.2.2[k % y.2.2.length]) (eo D);obtain⟨b0,K⟩:∃b0,d.2.2.2[0]? =some b0:=⟨_,C3 (by have:=h3.1;omega)⟩;have P:=h3.2 b0 (yw K);have Q:Sw.idx d.2.2.2 (0:Int)=some b0:=kW (i:=0) K;generalize cr:y.2.2[k % y.2.2.length]=z at H;have R:Sw.idx y.2.2 ((k % y.2.2.length:Nat):Int)=some z:=kW (by rw[<-cr];exact C3 D);have hx:=DH (a:=z.toNat) (b:=b0.toNat) (by omega) (by omega);have S:ar .or .u8 b0 1=((b0.toNat ||| 1:Nat):Int):=TM P;have aa:b0.toNat ||| 1<2 ^ 8:=aD1 (by omega) (by decide)
   have T:ar .xor .u8 z ((b0.toNat ||| 1:Nat):Int)=((z.toNat ^^^ (b0.toNat ||| 1):Nat):Int):=by
    rw[Go.VW.aUb H (by omega),j5]
   obtain⟨w,hw⟩:∃w:Int,w=((z.toNat ^^^ (b0.toNat ||| 1):Nat):Int):=⟨_,rfl⟩;have F:Bytes (y.2.2.set (k % y.2.2.length) w):=fun x u=>by
    rcases aC0 u with u | rfl
    ·exact B.bytes x u
    ·omega
   have U:m9 v snaps s (y.1,true,y.2.2.set (k % y.2.2.length) w):=by
    refine⟨F,by simp only[aCu];exact N,fun G=>by have:=congrArg List.length G;simp only[aCu,V1] at this;omega,fun _=>?_,fun hf=>by cases hf⟩;simp only[I] at F D ⊢;have V:Bytes ((bQ f).set (k % (bQ f).length) w):=F;refine Go.VW.E0 g1 D (by omega) (fun G=>?_) V;have:(bQ f)[k % (bQ f).length]=z:=by rw[<-cr];simp only[I]
    rw[this] at G;omega
   refine⟨{ s with VM:=s.VM.set i (y.1,true,y.2.2.set (k % y.2.2.length) w) },?_,h.R7 (by simp;omega) (fun x u=>?_)⟩
   ·unfold lD eF nF;rw[M,cM];have X:nz ((y.2.2.length:Nat):Int)=some ():=by unfold nz;rw[VN (by omega)]
    have xa:ar .rem .i64 (k:Int) (y.2.2.length:Int)=((k % y.2.2.length:Nat):Int):=rfl;simp only[iz,pF,E,cM,C];rw[UQ _ _ (by simp;omega),X3,cM,X,cM,hk,xa,R,cM,Q,cM];simp only[cM,S,T,<-hw,j5]
   ·rcases aC0 u with u | rfl
    ·exact h.VM x u
    ·exact U
end Go.WT
namespace Go.WT
open Go Go.Sw Go.Mo Go.Pl
open Go.XX (oC)
open Go.VW (Good bQ fF dM)
variable {v:Nm}{now:List aR}{snaps:List (List aR)}{s:PS}
theorem yN(a b:Nat):0<=pV a b:=by unfold pV;omega
theorem DJ(h:Inv v now snaps s)(hb:v.fb+1<=3000)(a1:Int×Int×Int×aR):
  ∃s',kF a1 s.n s.fn s.XF s.WE s.blocks s.UZ s.VQ s.UN s.UP s.sent s.safe s.UW s.on s.XE s.VJ s.first s.receiver s.VM s.m5 s.fd s.j7 s.od=some (aU,none,VO s')/\s'.VM=s.VM/\
   Inv { v with fb:=v.fb+1,q:=0 } (snaps.getD v.h []) snaps s':=by
 have j1:=h.B8;have qq:=h.kh;have P:=h.hs;have Q:=h.n1;have R:=h.n0;have K:snaps.getD v.h []∈snaps:=by
  rw[R2,C3 (by omega)];exact eo _
 have T:(snaps.getD v.h []).length=v.n:=h.ep.len _ K;have L:=Vn h.Z2 (by omega) (by omega);obtain⟨X,sn,_,N⟩:=Hj h.Z2 (by omega) (by omega) (by omega) (by omega);rw[T] at L N;refine⟨{ s with fn:=v.n,XF:=(v.h:Int),WE:=((v.fb+1:Nat):Int),blocks:=snaps.getD v.h [],UZ:=((v.h:Int),[],[],true),VQ:=[((v.h:Int),snaps.getD v.h [])],UN:= -1,UP:=(0,0,[]),sent:=0,safe:=0,UW:=[],m5:=v.n,fd:=X },?_,rfl,?_⟩
 ·unfold kF;rw[h.ya,h.en,L,cM];simp only[xE,er,WR,jp];rw[N,cM];rfl
 ·exact { h with
   B8:=by simp only;omega
   pos:=by have:=h.pos;simp only;omega
   efn:=rfl
   enum:=rfl
   YU:=rfl
   Z2:=sn
   ya:=rfl
   ep:=Vo ⟨R,Q⟩ P (by omega) h.ep.len
   D7:=rfl
   nok:=h.bok _ K
   VQ:=fun p M=>by
    simp only[yr] at M;subst M;exact⟨by simp only;omega,by simp only;omega,by simp only;rw[j5]⟩
   low:=fun _=>aDm _
   last:=by simp only;unfold fJ;simp[kp]
   idle:=fun c=>by
    simp only at c;rcases h.first with⟨H,_⟩|⟨g,H,c2,O,_⟩<;>omega
   safe:=by simp only;omega
   sent:=by simp only;omega
   UN:= .inl rfl
   UP:= .inl ⟨rfl,rfl,rfl⟩
   queue:= .inl ⟨rfl,rfl⟩
   first:=by
    rcases h.first with c |⟨g,H,c2,O,c4⟩
    ·exact .inl c
    ·exact .inr ⟨g,H,by simp only;omega,O,c4⟩
   act:=fun U=>by have:=yN (v.fb+1) v.ob;simp only at U;omega
   VM:=fun y u=>by
    have u:=h.VM y u;refine⟨u.bytes,u.len,u.ne,u.E0,fun V=>?_⟩;obtain⟨f,g1,g2,g3,g4⟩:=u.whole V;refine⟨f,g1,g2,fun hb=>?_,fun hb=>?_⟩
    ·rcases g3 hb with⟨g,a1,z,A⟩|⟨S,q,m,a1,z,A,B,I⟩
     ·exact .inl ⟨g,a1,by simp only;omega,A⟩
     ·obtain⟨g,o,C,D,E,F,b5,G⟩:=A;refine .inr ⟨S,q,m,a1,z,⟨g,o,C,D,E,F,.inl (by simp only;omega),G⟩,fun c=>?_,I⟩;have:=yN g o;simp only at c;omega
    ·rcases g4 hb with⟨g,o,j,t,a1,z,A,B,I,a6,a7,a8⟩|⟨S,a,a1,z,A,B⟩
     ·exact .inl ⟨g,o,j,t,a1,z,by simp only;omega,B,I,a6,a7,fun c=>by simp only at c;omega⟩
     ·obtain⟨g,o,C,D,E,F,b5,G⟩:=z;refine .inr ⟨S,a,a1,⟨g,o,C,D,E,F,.inl (by simp only;omega),G⟩,fun c=>?_,B⟩
      have:=yN g o;simp only at c;omega }
theorem DK(h:Inv v now snaps s)(hb:v.ob+1<=3000)(a1:Int×Int×Int×aR):
  ∃s',jW a1 s.n s.fn s.XF s.WE s.blocks s.UZ s.VQ s.UN s.UP s.sent s.safe s.UW s.on s.XE s.VJ s.first s.receiver s.VM s.m5 s.fd s.j7 s.od=some (aU,none,VO s')/\s'.VM=s.VM/\
   Inv { v with ob:=v.ob+1,x:=0 } now snaps s':=by
 have j1:=h.B8;have qq:=h.kh;have YT:=h.hs;have N4:=h.n1;have gm:=h.n0;have M:snaps.getD v.k []∈snaps:=by
  rw[R2,C3 (by omega)];exact eo _
 have N:(snaps.getD v.k []).length=v.n:=h.ep.len _ M;have I:=Vn h.E7 (by omega) (by omega);obtain⟨P,Q,_,K⟩:=Hk h.E7 (by omega) (by omega) (by omega) (by omega);rw[N] at I K;refine⟨{ s with on:=v.n,XE:=(v.k:Int),VJ:=((v.ob+1:Nat):Int),first:= -1,receiver:=(0,0),j7:=v.n,od:=P },?_,rfl,?_⟩
 ·unfold jW;rw[h.mn,h.en,I,cM];simp only[xE,er,WR,jp];rw[K,cM];rw[<-h.en];rfl
 ·exact { h with
   B8:=by simp only;omega
   pos:=by have:=h.pos;simp only;omega
   eon:=rfl
   U8:=rfl
   P8:=rfl
   E7:=Q
   mn:=rfl
   UN:=by
    rcases h.UN with c |⟨o,L,c2,H,c4⟩
    ·exact .inl c
    ·exact .inr ⟨o,L,by simp only;omega,H,fun c=>by simp only at c;omega⟩
   first:= .inl ⟨rfl,rfl,rfl⟩
   idle:=fun _ _=>rfl
   act:=fun C=>by
    simp only at C;rcases h.UN with c |⟨o,L,c2,H,c4⟩
    ·have:=yN v.fb (v.ob+1);omega
    ·rw[H] at C;have:=(sN (by omega) (by omega) C).2;omega
   VM:=fun y u=>by
    have u:=h.VM y u;refine⟨u.bytes,u.len,u.ne,u.E0,fun O=>?_⟩;obtain⟨f,R,T,U,V⟩:=u.whole O;refine⟨f,R,T,fun hb=>?_,fun hb=>?_⟩
    ·rcases U hb with⟨g,a1,z,A⟩|⟨S,q,m,a1,z,A,B,a5⟩
     ·exact .inl ⟨g,a1,z,A⟩
     ·obtain⟨g,o,D,E,F,X,G,b6⟩:=A;refine .inr ⟨S,q,m,a1,z,⟨g,o,D,E,F,by simp only;omega,G,fun c=>by simp only at c;omega⟩,B,fun c=>?_⟩;simp only at c;omega
    ·rcases V hb with⟨g,o,j,t,a1,z,A,B,a5,a6,a7,a8⟩|⟨S,a,a1,z,A,B⟩
     ·exact .inl ⟨g,o,j,t,a1,z,A,B,by simp only;omega,a6,a7,fun _ c=>by simp only at c;omega⟩
     ·obtain⟨g,o,D,E,F,X,G,b6⟩:=z;refine .inr ⟨S,a,a1,⟨g,o,D,E,F,by simp only;omega,G,fun c=>by simp only at c;omega⟩,A,fun c=>?_⟩
      simp only at c;omega }
end Go.WT
namespace Go.WT
open Go Go.Sw Go.Mo Go.Pl
open Go.XX (oC)
open Go.VW (Good bQ fF dM dU rR Ej lQ Bk qX jF Ix Nc mY Iy)
variable {v:Nm}{now:List aR}{snaps:List (List aR)}{s:PS}
def oG(l:List (Bool×Bool×List Int))(y:Bool×Bool×List Int):List (Bool×Bool×List Int):=if l.length<64 then l++[y] else l
def Sj(s s':PS):Prop:=s'.VM=s.VM\/∃y,s'.VM=oG s.VM (false,y)
theorem Qq{l:List (Bool×Bool×List Int)}{y}(h:l.length<=64):(oG l y).length<=64:=by
 unfold oG;split
 ·simp;omega
 ·exact h
theorem DL{l:List (Bool×Bool×List Int)}{x y}(h:x∈oG l y):x∈l\/x=y:=by
 unfold oG at h;split at h
 ·simpa using h
 ·exact .inl h
theorem m4{f:Fm}(g:Good f):bQ f≠ []/\(bQ f).length<=1004:=by
 have z:=(qX g).2;have u:(bQ f).length=(Go.VW.body f).length+4:=by unfold bQ;rw[pT];unfold Go.VW.o7;simp
 exact⟨fun h=>by rw[h] at u;simp at u,by omega⟩
theorem Hr(dir:Bool)(b:List Int)(b0 b1 b2 b3 b4 b5 b6 b7 b8 b9 WA VZ WG VV WC VY WB VS WO WN WM WL)(hl:VS.length<=64):
  eB dir (false,b) b0 b1 b2 b3 b4 b5 b6 b7 b8 b9 WA VZ WG VV WC VY WB VS WO WN WM WL=some (oG VS (dir,false,b)):=by
 unfold eB oG;simp only[uf,WR,cM];by_cases h:VS.length<64
 ·have:cm .lss (VS.length:Int) (64:Int)=true:=by rw[cl];exact y3 (by omega)
  rw[this,VX h,WR,UQ _ _ (by simp;omega),cM]
 ·have:cm .lss (VS.length:Int) (64:Int)=false:=by rw[cl];exact ZL (by omega)
  rw[this,VN h,pF]
theorem Sk{f:Fm}(g:Good f)(he:dU f=0)(dir:Bool)(b0 b1 b2 b3 b4 b5 b6 b7 b8 b9 WA VZ WG VV WC VY WB VS WO WN WM WL)(hl:VS.length<=64):
  iQ dir f b0 b1 b2 b3 b4 b5 b6 b7 b8 b9 WA VZ WG VV WC VY WB VS WO WN WM WL=some (none,oG VS (dir,false,bQ f)):=by
 unfold iQ;rw[Ej g he,cM];have h:FZ (bQ f)=some ():=by
  unfold FZ;have:=(m4 g).1;cases hp:bQ f with
  |nil=>exact absurd hp this
  |cons a l=>rfl
 simp only[jp,er,WR];rw[h,cM,Hr _ _ _ _ _ _ _ _ _ _ _ _ _ _ _ _ _ _ _ _ _ _ _ _ hl];rfl
theorem Inv.push(h:Inv v now snaps s){y:Bool×Bool×List Int}(hy:m9 v snaps s y):Inv v now snaps { s with VM:=oG s.VM y }:=
 h.R7 (Qq h.K7) (fun x u=>by
  rcases DL u with u | rfl
  ·exact h.VM x u
  ·exact hy)
theorem Ek{f:Fm}(g:Good f)(dir:Bool)(h1:dir=true->Hn v snaps s f)(h2:dir=false->Ho v snaps s f):m9 v snaps s (dir,false,bQ f):=
 ⟨Bk g,by have:=(m4 g).2;simp only;omega,(m4 g).1,fun h=>(nomatch h),fun _=>⟨f,g,rfl,h1,h2⟩⟩
theorem Yf{g:Nat}(h:g<=2147483647):dU (kD g)=0/\Good (kD g):=by
 have z:dM (kD g)=0:=Le (by unfold kD;simp only;omega) (by unfold kD;simp) (by unfold kD;simp) (fun x u=>by simp only[kD,yr] at u;subst u;omega);have:=(Go.VW.ZU z).1;exact⟨this,rR this (fun b A=>by simp[kD] at A)⟩
theorem D8{S:Int}{q:Nat}{m:Fm}(hm:D5 m)(hS:0<=S/\S<=2147483647)(hq:q<=2147483647):Good (VU S q m):=by
 obtain⟨u,z⟩:=Go.VW.ZU hm.load;have g:=rR u hm.YC;refine⟨by unfold VU;simp,by unfold VU;simp,by unfold VU;simp;omega,g.bs,fun n h=>?_,g.YC⟩;simp only[VU,dg,X3,j4] at h;rcases h with rfl | rfl | rfl | h
 ·exact hS
 ·omega
 ·have:=g.s0;have:=g.s1;omega
 ·exact g.num n h
theorem DM(h:Inv v now snaps s)(hS:0<=s.UN)(hq:s.UP.2.2=[])(hs:s.sent<v.h){m:Fm}(hm:D5 m)(hn:∀cur:Int,0<=cur->cur<v.h->(s.sent= -1\/cur=s.sent)->m8 v.n snaps cur v.h m):
  Inv v now snaps { s with UP:=(s.UN,(v.q:Int),[m]),sent:=(v.h:Int),UW:=[(v.h:Int)] }:=by
 have P:=h.B8
 exact { h with
  sent:=by simp only;omega
  UP:= .inr ⟨hS,rfl,rfl⟩
  low:=fun c=>by simp at c
  queue:= .inr ⟨m,rfl,rfl,hm,by simp only;omega⟩
  act:=fun G=>by
   rcases h.act G with⟨A,z,B⟩|⟨A,z,B⟩
   ·refine .inl ⟨A,fun c=>by simp at c,fun E F=>?_⟩;simp only[aEv,and_true] at F;subst F;rcases z hq with c |⟨N,Q⟩
    ·exact hn v.k (by omega) (by omega) (.inr c.symm)
    ·exact hn v.k (by omega) (by omega) (.inl N)
   ·exact absurd hq z
  VM:=fun y u=>by
   have u:=h.VM y u;refine⟨u.bytes,u.len,u.ne,u.E0,fun H=>?_⟩;obtain⟨f,I,K,L,M⟩:=u.whole H;refine⟨f,I,K,fun C=>?_,fun C=>?_⟩
   ·rcases L C with c |⟨S,q,E,A,z,B,D,O⟩
    ·exact .inl c
    ·refine .inr ⟨S,q,E,A,z,B,fun c=>?_,O⟩;rcases D c with c |⟨_,c⟩
     ·exact .inl c
     ·rw[hq] at c;simp at c
   ·rcases M C with c |⟨S,a,A,z,B,D⟩
    ·exact .inl c
    ·refine .inr ⟨S,a,A,z,fun c=>?_,D⟩;rcases B c with c |⟨_,c,_⟩
     ·exact .inl c
     ·exact absurd hq c }
theorem BD{v:Nm}{now:List aR}{snaps:List (List aR)}{s:PS}(h:Inv v now snaps s):s.UN<=2147483647:=by
 have z:=h.B8;rcases h.UN with c |⟨o,A,B,u,C⟩
 ·omega
 ·rw[u];unfold pV;omega
theorem On(h:Inv v now snaps s)(hS:0<=s.UN){m:Fm}(hq:s.UP.2.2=[m])(hm:D5 m):Hn v snaps s (VU s.UN v.q m):=by
 have L:=h.B8;rcases h.UN with c |⟨o,D,E,u,F⟩
 ·omega
 ·refine .inr ⟨_,_,m,rfl,hm,⟨v.fb,o,u,h.pos.1,D,E,.inr ⟨rfl,by omega⟩,fun e=>by rw[F e];exact aDm _⟩,fun _=> .inr ⟨rfl,hq⟩,fun M z=>?_⟩;rcases h.first with⟨G,_⟩|⟨g,G,O,P,H⟩
  ·omega
  ·rw[H] at z;simp only at z;have A:=z;rw[u] at A;obtain⟨N,C⟩:=sN (by omega) (by omega) A;rw[C] at u;rcases h.act u with⟨I,K,B⟩|⟨I,K,B⟩
   ·exact⟨by omega,fun _=>⟨_,B m hq⟩⟩
   ·exact⟨by omega,fun c=>by omega⟩
end Go.WT
namespace Go.WT
open Go Go.Sw Go.Mo Go.Pl
open Go.XX (oC)
open Go.VW (Good bQ fF dM dU rR Ej lQ Bk qX jF Ix Nc mY Iy)
variable {v:Nm}{now:List aR}{snaps:List (List aR)}{s:PS}
def PI(v:Nm)(s s':PS):Prop:=s'.first=s.first/\s'.UN=s.UN/\
 ((s.UN<0/\s'.VM=oG s.VM (true,false,bQ (kD v.fb)))\/
  (0<=s.UN/\s'.UP.2.2=[]/\s'.sent=v.h/\s'.VM=oG s.VM (true,false,bQ (kD v.fb)))\/
  (0<=s.UN/\∃m,s'.UP.2.2=[m]/\D5 m/\(s.UP.2.2=[]->s'.sent=v.h)/\s'.VM=oG (oG s.VM (true,false,bQ (kD v.fb))) (true,false,bQ (VU s.UN v.q m))))
theorem MP(h:Inv v now snaps s):∃s',lR s=some (none,s')/\Inv v now snaps s'/\PI v s s':=by
 have j1:=h.B8;have G:=h.K7;obtain⟨he,hg⟩:=Yf (g:=v.fb) (by omega);have K:Inv v now snaps { s with VM:=oG s.VM (true,false,bQ (kD v.fb)) }:=
  h.push (Ek hg true (fun _=> .inl ⟨v.fb,h.pos.1,XZ _,rfl⟩) (fun c=>nomatch c))
 have V:=Qq (y:=(true,false,bQ (kD v.fb))) G;have L:=Sk hg he true;have ad:=BD h;rcases h.UP with⟨F,c2,c3⟩|⟨F,c2,c3⟩
 ·
  refine⟨{ s with VM:=oG s.VM (true,false,bQ (kD v.fb)) },?_,K,rfl,rfl,.inl ⟨by omega,rfl⟩⟩;unfold lR eC;rw[h.YU];have A:((2:Int),([(v.fb:Int)]:List Int),([]:List aR))=kD v.fb:=rfl;rw[A,L _ _ _ _ _ _ _ _ _ _ _ _ _ _ _ _ _ _ _ _ _ _ G,cM];have H:cm .lss s.UN (0:Int)=true:=by rw[cl];exact y3 (by omega)
  simp only[ZI,pF,cM,H,WR]
 ·have H:cm .lss s.UN (0:Int)=false:=by rw[cl];exact ZL (by omega)
  have B:s.UP=(s.UN,(v.q:Int),s.UP.2.2):=by rw[<-c2,<-c3]
  have X:∀(C:PS) (m:Fm),Inv v now snaps C->C.UN=s.UN->C.UP=(s.UN,(v.q:Int),[m])->D5 m->
    ∃s3,s3={ C with VM:=oG C.VM (true,false,bQ (VU s.UN v.q m)) }/\Inv v now snaps s3:=by
   intro C m hi D e4 u;refine⟨_,rfl,hi.push (Ek (D8 u (by omega) (by omega)) true (fun _=>?_) (fun c=>nomatch c))⟩;have:=On hi (by rw[D];exact F) (m:=m) (by rw[e4]) u;rw[D] at this;exact this
  have Z6:∀(m:Fm) (k:List (Bool×Bool×List Int)->Option ((Option Int)×(Int×Int×(List (Int×(List Int)×(List aR))))×Int×(List Int)×(List (Bool×Bool×(List Int))))) (b0 b1 b2 b3 b4 b5 b6 b7 b8 b9 WA VZ WG VV WC VY WB WO WN WM WL) (E:List (Bool×Bool×List Int)),E.length<=64->D5 m->
    lp (β:=(List (Bool×Bool×(List Int)))) (fun (I:Int×(List (Bool×Bool×(List Int))))=>
      bif (cm .lss I.1 (([bQ (VU s.UN v.q m)]:List (List Int)).length:Int)) then
       (Sw.idx [bQ (VU s.UN v.q m)] I.1).bind fun ab=>
        (FZ ab).bind fun _=>
         (eB true (false,ab) b0 b1 b2 b3 b4 b5 b6 b7 b8 b9 WA VZ WG VV WC VY WB I.2 WO WN WM WL).bind fun vj=>
          some (.next ((ar .add .i64 I.1 (1:Int)),vj))
      else
       some (.done (.VP I.2))
      ) ((0:Int),E) k=k (oG E (true,false,bQ (VU s.UN v.q m))):=by
   intro m k b0 b1 b2 b3 b4 b5 b6 b7 b8 b9 WA VZ WG VV WC VY WB WO WN WM WL E gm u;have ac:=D8 u (S:=s.UN) (q:=v.q) (by omega) (by omega);obtain⟨p1,p2⟩:=m4 ac;have YD:FZ (bQ (VU s.UN v.q m))=some ():=by
    unfold FZ;cases hp:bQ (VU s.UN v.q m) with
    |nil=>exact absurd hp p1
    |cons a l=>rfl
   unfold lp;rw[show fI=1125899906842622+1+1 from rfl,Go.VW.ZE (y:=((1:Int),oG E (true,false,bQ (VU s.UN v.q m)))),Go.VW.ZF (b:= .VP (oG E (true,false,bQ (VU s.UN v.q m))))]
   ·rfl
   ·have:Sw.idx [bQ (VU s.UN v.q m)] (0:Int)=some (bQ (VU s.UN v.q m)):=rfl;simp only[cl,aCd];rw[y3 (by omega),WR,this,cM,YD,cM,Hr _ _ _ _ _ _ _ _ _ _ _ _ _ _ _ _ _ _ _ _ _ _ _ _ gm,cM];rfl
  have aa:∀m,D5 m->pA (s.UN,(v.q:Int),[m])=some ([bQ (VU s.UN v.q m)],none):=by
   intro m u;have P:=mY (S:=s.UN) (q:=(v.q:Int)) (l:=[m]) (by omega) (by omega) (by simp) (fun f N=>by simp at N;subst N;exact u.load);rw[Nc P (by omega) u.load u.YC];have:Go.VW.VU (s.UN,(v.q:Int),[m]) 0 m=VU s.UN v.q m:=by unfold Go.VW.VU VU;simp
   rw[this]
  rcases h.queue with⟨z,d2⟩|⟨m,z,d2,O,d4⟩
  ·
   rw[z] at B;by_cases M:s.sent<v.h
   ·
    obtain⟨m,n1,T⟩:=MM h.ep h.n0 h.n1 h.hs (by omega) h.bok (fun j l hl=>by have:=h.VQ _ (Hp hl);simpa using this) h.last (k:=s.sent) ⟨h.sent.1,M⟩;have u:D5 m:=by
     have:=h.sent;by_cases c:s.sent= -1
     ·have:=T 0 (by omega) (by omega) (.inl c);exact⟨this.load,this.YC⟩
     ·have:=T s.sent (by omega) (by omega) (.inr rfl);exact⟨this.load,this.YC⟩
    have h2:=DM K F z M u T;obtain⟨s3,D,U⟩:=X _ m h2 rfl rfl u;subst D;refine⟨_,?_,U,rfl,rfl,.inr (.inr ⟨F,m,rfl,u,fun _=>rfl,rfl⟩)⟩;unfold lR eC;rw[h.YU];have A:((2:Int),([(v.fb:Int)]:List Int),([]:List aR))=kD v.fb:=rfl;rw[A,L _ _ _ _ _ _ _ _ _ _ _ _ _ _ _ _ _ _ _ _ _ _ G,cM];have Q:cm .lss s.sent s.XF=true:=by rw[cl,h.enum];exact y3 M
    have R:cm .eql (s.UP.2.2.length:Int) (0:Int)=true:=by rw[z];rfl
    simp only[ZI,pF,cM,H,Q,R,WR,jp];rw[h.efn,h.enum,n1,cM,B,Iy (by omega) (by omega) u.load,cM];simp only[ZI,pF];rw[d2,UQ _ _ (by simp),cM];rw[aa m u,cM];simp only[];rw[Z6 m _ _ _ _ _ _ _ _ _ _ _ _ _ _ _ _ _ _ _ _ _ _ _ V u];simp only[cM,X3]
   ·refine⟨{ s with VM:=oG s.VM (true,false,bQ (kD v.fb)) },?_,K,rfl,rfl,.inr (.inl ⟨F,z,by have:=h.sent;simp only;omega,rfl⟩)⟩;unfold lR eC;rw[h.YU];have A:((2:Int),([(v.fb:Int)]:List Int),([]:List aR))=kD v.fb:=rfl;rw[A,L _ _ _ _ _ _ _ _ _ _ _ _ _ _ _ _ _ _ _ _ _ _ G,cM];have Q:cm .lss s.sent s.XF=false:=by rw[cl,h.enum];exact ZL M
    simp only[ZI,pF,cM,H,Q,WR,jp];have P:=mY (S:=s.UN) (q:=(v.q:Int)) (l:=[]) (by omega) (by omega) (by simp) (fun f N=>by simp at N);rw[B,Ix P,cM];simp only[];unfold lp;rw[show fI=1125899906842623+1 from rfl,Go.VW.ZF (b:= .VP (oG s.VM (true,false,bQ (kD v.fb))))]
    ·simp only[cM]
    ·rfl
  ·rw[z] at B;obtain⟨s3,D,U⟩:=X _ m K rfl B O;subst D;refine⟨_,?_,U,rfl,rfl,.inr (.inr ⟨F,m,z,O,fun c=>(by rw[z] at c;cases c),rfl⟩)⟩;unfold lR eC;rw[h.YU];have A:((2:Int),([(v.fb:Int)]:List Int),([]:List aR))=kD v.fb:=rfl;rw[A,L _ _ _ _ _ _ _ _ _ _ _ _ _ _ _ _ _ _ _ _ _ _ G,cM];have R:(bif (cm .lss s.sent s.XF) then some (cm .eql (s.UP.2.2.length:Int) (0:Int)) else some false)=some false:=by
    rw[z];cases cm .lss s.sent s.XF<;>rfl
   simp only[ZI,pF,cM,H];rw[R,cM];simp only[pF,jp];rw[B,aa m O,cM];simp only[];rw[Z6 m _ _ _ _ _ _ _ _ _ _ _ _ _ _ _ _ _ _ _ _ _ _ _ V O];simp only[cM]
end Go.WT
namespace Go.WT
open Go Go.Sw Go.Mo Go.Pl
open Go.XX (oC xG)
open Go.VW (Good bQ fF dM dU rR)
variable {v:Nm}{now:List aR}{snaps:List (List aR)}{s:PS}
theorem II{g o:Nat}(hg:g<=3000)(ho:o<=3000):ar .or .i64 (sh .shl .i64 (g:Int) (12:Int)) (o:Int)=pV g o:=by
 have h:sh .shl .i64 (g:Int) (12:Int)=((g*2 ^ 12:Nat):Int):=by
  show IntKind.wrap .i64 ((g:Int)*2 ^ min ((12:Nat):Int).toNat 64)=_;rw[j5,oj (by omega)];have e:(g:Int)*2 ^ 12=((g*2 ^ 12:Nat):Int):=by omega
  rw[e,wrap_i64 (by omega)]
 rw[h,Go.XX.orI (by omega) (by omega),Go.XX.orP (by omega)];unfold pV;rfl
theorem DN(h:Inv v now snaps s){g:Nat}(h1:1<=g)(h2:g<=v.fb)(h3:s.first<g):Inv { v with x:=0 } now snaps { s with first:=(g:Int),receiver:=(pV g v.ob,0) }:=by
 have j1:=h.B8;have K:∀S,sV v s S->S≠pV g v.ob:=by
  rintro S ⟨C,o,G,M,N,O,P,H⟩ e;rw[G] at e;obtain⟨e1,T⟩:=sN (by omega) (by omega) e;have:=H T;omega
 have L:∀S,sV v s S->sV { v with x:=0 } { s with first:=(g:Int),receiver:=(pV g v.ob,0) } S:=by
  rintro S ⟨C,o,G,M,N,O,P,H⟩;exact⟨C,o,G,M,N,O,P,fun e=>by have:=H e;simp only;omega⟩
 exact { h with
  B8:=by simp only;omega
  idle:=fun _ _=>rfl
  UN:=by
   rcases h.UN with c |⟨o,c1,c2,c3,I⟩
   ·exact .inl c
   ·exact .inr ⟨o,c1,c2,c3,fun e=>by have:=I e;simp only;omega⟩
  first:= .inr ⟨g,h1,h2,rfl,rfl⟩
  act:=fun E=>by
   simp only at E;rcases h.UN with c |⟨o,c1,c2,c3,I⟩
   ·have:=yN v.fb v.ob;omega
   ·rw[c3] at E;have:=I (sN (by omega) (by omega) E).2;omega
  VM:=fun y u=>by
   have u:=h.VM y u;refine⟨u.bytes,u.len,u.ne,u.E0,fun R=>?_⟩;obtain⟨f,U,V,X,g4⟩:=u.whole R;refine⟨f,U,V,fun F=>?_,fun F=>?_⟩
   ·rcases X F with c |⟨S,q,m',B,z,A,D,Q⟩
    ·exact .inl c
    ·exact .inr ⟨S,q,m',B,z,L S A,D,fun _ c=>absurd c (K S A)⟩
   ·rcases g4 F with⟨C,o,j,t,B,z,A,D,Q,a6,a7,a8⟩|⟨S,a,B,z,A,D⟩
    ·refine .inl ⟨C,o,j,t,B,z,A,D,Q,a6,a7,fun c d e=>?_⟩;have:=(a8 c d e).2.1;omega
    ·exact .inr ⟨S,a,B,L S z,A,fun _ c=>absurd c (K S z)⟩}
theorem Sl{g o j:Nat}{t:List Int}(hg:g<=2147483647)(ho:o<=2147483647)(hj:j<=2147483647){x y:Int}(ht:t=[x,y])(hx:0<=x/\x<=2147483647)(hy:0<=y/\y<=2147483647):dU (fC g o j t)=0/\Good (fC g o j t):=by
 subst ht
 have u:dM (fC g o j [x,y])=0:=Le (by unfold fC;simp only;omega) (by unfold fC;simp) (by unfold fC;simp) (fun n h=>by
  simp only[fC,dg,X3,j4,aCv,aEs] at h
  rcases h with rfl | rfl | rfl | rfl | rfl<;>omega)
 have:=(Go.VW.ZU u).1;exact⟨this,rR this (fun b z=>by simp[fC] at z)⟩
theorem Fa(h:Inv v now snaps s){g:Nat}(h1:1<=g)(h2:g<=v.fb)(h3:s.first=g){t:List Int}(ht:jR (snaps.getD v.k [])=some t):Ho v snaps s (fC g v.ob v.k t):=by
 have:=h.pos;exact .inl ⟨g,v.ob,v.k,t,rfl,h1,h2,h.pos.2,XZ _,XZ _,ht,fun c _ e=>⟨rfl,by rw[h3,c],h.idle (by rw[h3,c]) (by rw[c] at e;exact e)⟩⟩
theorem Ja(h:Inv v now snaps s)(h0:0<=s.first)(hs:s.UN=s.receiver.1):s.UN=pV v.fb v.ob:=by
 have B:=h.B8;rcases h.first with⟨A,_⟩|⟨g,A,C,D,u⟩
 ·omega
 ·rcases h.UN with c |⟨o,E,F,z,G⟩
  ·rw[u] at hs;have:=yN g v.ob;simp only at hs;omega
  ·rw[u,z] at hs;rw[z,(sN (by omega) (by omega) hs).2]
theorem BE(h:Inv v now snaps s)(h0:0<=s.first)(ha:sV v s s.receiver.1):Ho v snaps s (zX s.receiver.1 v.x):=by
 refine .inr ⟨_,v.x,rfl,ha,fun c=>?_,fun _ _=>XZ _⟩;rcases h.act (Ja h h0 c.symm) with⟨u,_⟩|⟨u,z,A⟩
 ·exact .inl (by omega)
 ·exact .inr ⟨u,z,by omega⟩
theorem IJ(h:Inv v now snaps s)(hx:v.x+1<=100000)(h0:0<=s.first)(ha:sV v s s.receiver.1){to:Nat}(WJ:v.k<to)(hle:to<=v.h){d':(List aR)×(List (Int×aR))×Int}(hd:oC d' (snaps.getD to []) to v.ob)
  (hq:s.UN=s.receiver.1->v.x=v.q/\s.UP.2.2≠ []/\s.sent=to):
  Inv { v with k:=to,x:=v.x+1 } now snaps { s with XE:=(to:Int),receiver:=(s.receiver.1,((v.x+1:Nat):Int)),j7:=(v.n:Int),od:=d' }:=by
 have j1:=h.B8;have ka:=h.safe;have Q:s.UN=pV v.fb v.ob->s.UN=s.receiver.1:=by
  intro e;rcases h.UN with c |⟨o,O,P,K,c4⟩
  ·have:=yN v.fb v.ob;omega
  ·rw[K] at e;have F:=(sN (by omega) (by omega) e).2;rcases h.first with⟨z,_⟩|⟨g,z,G,H,d4⟩
   ·omega
   ·have:=c4 F;have u:g=v.fb:=by omega
    rw[d4,K,u,F]
 exact { h with
  B8:=by simp only;omega
  U8:=rfl
  kh:=hle
  E7:=hd
  mn:=rfl
  safe:=by simp only;omega
  idle:=fun c d=>by
   obtain⟨M,o,C,R,T,U,D,V⟩:=ha;rcases h.first with⟨z,_⟩|⟨g,z,G,H,d4⟩
   ·omega
   ·simp only at c d;have u:g=v.fb:=by omega
    rw[d4,u] at C;obtain⟨X,F⟩:=sN (by omega) (by omega) C;rw[d4,u] at D;simp only at D;omega
  first:=by
   rcases h.first with⟨z,_⟩|⟨g,z,G,H,d4⟩
   ·omega
   ·exact .inr ⟨g,z,G,H,by simp only;rw[d4]⟩
  act:=fun e=>by
   obtain⟨a1,a2,B⟩:=hq (Q e);exact .inr ⟨by simp only;omega,a2,B⟩
  VM:=fun y A=>by
   have A:=h.VM y A;refine⟨A.bytes,A.len,A.ne,A.E0,fun u=>?_⟩;obtain⟨f,g1,N,g3,g4⟩:=A.whole u;refine⟨f,g1,N,fun I=>?_,fun I=>?_⟩
   ·rcases g3 I with c |⟨S,q,m',a1,a2,B,E,L⟩
    ·exact .inl c
    ·refine .inr ⟨S,q,m',a1,a2,B,E,fun c d=>?_⟩;have:=(L c d).1;exact⟨by simp only;omega,fun e=>by simp only at e;omega⟩
   ·rcases g4 I with⟨M,o,j,t,a1,a2,B,E,L,a6,a7,a8⟩|⟨S,a,a1,a2,B,E⟩
    ·refine .inl ⟨M,o,j,t,a1,a2,B,E,L,by simp only;omega,a7,fun c d e=>?_⟩;have hf:=(a8 c d e).2.1;obtain⟨N,o2,C,R,T,U,D,V⟩:=ha;rcases h.first with⟨z,_⟩|⟨g,z,G,H,d4⟩
     ·omega
     ·simp only at c d e;have u:g=v.fb:=by omega
      rw[d4,u] at C;obtain⟨X,F⟩:=sN (by omega) (by omega) C;rw[d4,u] at D;simp only at D;rw[c,d] at e;omega
    ·refine .inr ⟨S,a,a1,a2,fun c=>?_,fun c d=>by have:=E c d;simp only;omega⟩;rcases B c with c |⟨O,P,K⟩
     ·exact .inl c
     ·exact .inr ⟨O,P,by simp only;omega⟩}
end Go.WT
namespace Go.WT
open Go Go.Sw Go.Mo Go.Pl
open Go.XX (oC xG)
open Go.VW (Good bQ fF dM dU rR Hi Nb rS lQ)
variable {v:Nm}{now:List aR}{snaps:List (List aR)}{s:PS}
theorem DO(dir:Bool)(b:List Int)(b0 b1 b2 b3 b4 b5 b6 b7 b8 b9 WA VZ WG VV WC VY WB VS WO WN WM WL):
  eB dir (true,b) b0 b1 b2 b3 b4 b5 b6 b7 b8 b9 WA VZ WG VV WC VY WB VS WO WN WM WL=some VS:=rfl
theorem Kc(h:Inv v now snaps s)(h0:0<=s.first):(0<=s.receiver.1/\s.receiver.1<=2147483647)/\s.receiver.2=v.x:=by
 have A:=h.B8;rcases h.first with⟨u,_⟩|⟨g,u,B,C,z⟩
 ·omega
 ·rw[z];refine⟨?_,rfl⟩;show 0<=pV g v.ob/\pV g v.ob<=2147483647;unfold pV;omega
theorem Ni(b:List Int)(u:Fm)(e:Option Int)(hu:fL b=some (u,e))(hn:e.isSome=true\/u.1≠2)
  (hr:0<=s.first->∃fr,nZ s.receiver b=some (s.receiver,fr,false,(true,[]),none)):dY b s=some (none,s):=by
 unfold dY cN;have A:(bif Option.isNone e then bif cm .eql u.1 (2:Int) then some (cm .eql (u.2.1.length:Int) (1:Int)) else some false else some false)=some false:=by
  rcases hn with c | c
  ·cases e with
   |none=>cases c
   |some e=>rfl
  ·have:cm .eql u.1 (2:Int)=false:=by rw[ce];exact ZL c
   rw[this];cases e<;>rfl
 rw[hu,cM];simp only[];rw[A,cM];simp only[pF];by_cases z:s.first<0
 ·have h:cm .lss s.first (0:Int)=true:=by rw[cl];exact y3 z
  rw[h];simp only[WR,cM]
 ·have h:cm .lss s.first (0:Int)=false:=by rw[cl];exact ZL z
  obtain⟨fr,hr⟩:=hr (by omega);rw[h,hr];simp only[pF,cM,ZI,jp,DO]
def MQ(v:Nm)(snaps:List (List aR))(s s':PS)(x':Nat):Prop:=s'.first=v.fb/\s'.UN=s.UN/\s'.UP=s.UP/\s'.sent=s.sent/\s'.safe=s.safe/\(s.first=v.fb->x'=v.x)/\
 ∃x y,jR (snaps.getD v.k [])=some [x,y]/\s'.VM=oG s.VM (false,false,bQ (fC v.fb v.ob v.k [x,y]))
theorem DP(h:Inv v now snaps s){b:List Int}{g:Nat}(h1:1<=g)(h2:g<=v.fb)(hu:fL b=some (kD g,none)):
  ∃x' s',x'<=v.x/\dY b s=some (none,s')/\Inv { v with x:=x' } now snaps s'/\Sj s s'/\(g=v.fb->MQ v snaps s s' x'):=by
 have R:=h.B8;have S:=h.kh;have T:=h.hs;have U:=h.n1;have V:=h.n0;have H:snaps.getD v.k []∈snaps:=by
  rw[R2,C3 (by omega)];exact eo _
 have M:(snaps.getD v.k []).length=v.n:=h.ep.len _ H;have A:=xG h.E7;rw[M,<-h.mn] at A;obtain⟨x,y,u,O,P⟩:=ID (bs:=snaps.getD v.k []) (by omega) (by omega) (h.bok _ H);obtain⟨L,D⟩:=Sl (g:=g) (o:=v.ob) (j:=v.k) (t:=[x,y]) (by omega) (by omega) (by omega) rfl O P;have I:((3:Int),([(g:Int),(v.ob:Int),(v.k:Int)]++[x,y]:List Int),([]:List aR))=fC g v.ob v.k [x,y]:=rfl;have E:Sw.idx (kD g).2.1 (0:Int)=some (g:Int):=rfl;have F:cm .eql (kD g).1 (2:Int)=true:=rfl;have G:cm .eql ((kD g).2.1.length:Int) (1:Int)=true:=rfl;by_cases N:s.first<g
 ·have K:=DN h h1 h2 N;refine⟨0,{ s with first:=(g:Int),receiver:=(pV g v.ob,0),VM:=oG s.VM (false,false,bQ (fC g v.ob v.k [x,y])) },by omega,?_,K.push (Ek D false (fun c=>nomatch c) (fun _=>Fa K h1 h2 rfl u)),.inr ⟨_,rfl⟩,fun e=>by subst e;exact⟨rfl,rfl,rfl,rfl,rfl,fun c=>by omega,x,y,u,rfl⟩⟩;unfold dY cN;have B:cm .gtr (g:Int) s.first=true:=by rw[cg];exact y3 (by omega)
  have z:cm .lss (g:Int) (g:Int)=false:=by rw[cl];exact ZL (by omega)
  rw[hu,cM];simp only[er,WR,F,G,cM,E,B,jp];rw[A,cM];simp only[ZI,pF,cM,z];rw[u,cM,UQ _ _ (by simp),cM,h.P8,h.U8,II (by omega) (by omega),I,Sk D L _ _ _ _ _ _ _ _ _ _ _ _ _ _ _ _ _ _ _ _ _ _ _ h.K7];rfl
 ·have B:cm .gtr (g:Int) s.first=false:=by rw[cg];exact ZL (by omega)
  by_cases C:s.first=g
  ·refine⟨v.x,{ s with VM:=oG s.VM (false,false,bQ (fC g v.ob v.k [x,y])) },XZ _,?_,h.push (Ek D false (fun c=>nomatch c) (fun _=>Fa h h1 h2 C u)),.inr ⟨_,rfl⟩,fun e=>by subst e;exact⟨C,rfl,rfl,rfl,rfl,fun _=>rfl,x,y,u,rfl⟩⟩;unfold dY cN;have z:cm .lss (g:Int) s.first=false:=by rw[cl];exact ZL (by omega)
   rw[hu,cM];simp only[er,WR,F,G,cM,E,B,jp,pF];rw[A,cM];simp only[ZI,pF,cM,z];rw[u,cM,UQ _ _ (by simp),cM,h.P8,h.U8,C,I,Sk D L _ _ _ _ _ _ _ _ _ _ _ _ _ _ _ _ _ _ _ _ _ _ _ h.K7];rw[<-C,<-h.U8];rfl
  ·refine⟨v.x,s,XZ _,?_,h,.inl rfl,fun e=>by exfalso;rcases h.first with⟨Q,_⟩|⟨X,Q,d2,d3,_⟩<;>omega⟩;unfold dY cN;have z:cm .lss (g:Int) s.first=true:=by rw[cl];exact y3 (by omega)
   rw[hu,cM];simp only[er,WR,F,G,cM,E,B,jp,pF];rw[A,cM];simp only[ZI,pF,cM,z,WR]
def PJ(v:Nm)(s s':PS)(k' x':Nat)(S:Int)(q:Nat):Prop:=(S≠s.receiver.1->s'=s/\k'=v.k/\x'=v.x)/\
 (0<=s.first->S=s.receiver.1->S=s.UN->q=v.q->x'=v.q+1/\s'.first=s.first/\s'.UN=s.UN/\s'.UP=s.UP/\s'.sent=s.sent/\s'.safe=s.safe/\s'.VM=oG s.VM (false,false,bQ (zX S (v.q+1))))
theorem IK(h:Inv v now snaps s)(ee:v.x+1<=100000){b:List Int}(hb:Bytes b)(N9:b.length<=2000){S:Int}{q:Nat}{m:Fm}(hf:fF b=some (VU S q m))(hm:D5 m)(ha:sV v s S)
  (hs:S=s.UN->q<v.q\/(q=v.q/\s.UP.2.2=[m])) (hr:0<=s.first->S=s.receiver.1->q<=v.x/\(q=v.x->∃to,m8 v.n snaps v.k to m)):
  ∃k' x' s',v.k<=k'/\x'<=v.x+1/\dY b s=some (none,s')/\Inv { v with k:=k',x:=x' } now snaps s'/\Sj s s'/\PJ v s s' k' x' S q:=by
 have j1:=h.B8;have qq:=h.kh;have YT:=h.hs;have U:=h.n1;have V:=h.n0;have B:=rS b hb (by omega);rw[hf] at B;simp only at B;by_cases X:s.first<0
 ·exact⟨v.k,v.x,s,XZ _,by omega,Ni b _ none B (.inr (by unfold VU;simp)) (fun c=>by omega),h,.inl rfl,fun _=>⟨rfl,rfl,rfl⟩,fun c=>absurd c (by omega)⟩
 ·obtain⟨am,an⟩:=Kc h (by omega);have A:=Nb s.receiver b hb N9 am (by omega);rw[hf] at A;by_cases u:S=s.receiver.1
  ·obtain⟨av,y1⟩:=hr (by omega) u;have aa:=(Go.VW.ZU hm.load);have ab:=rR aa.1 hm.YC;have ac:=ab.s1;have E:(VU S q m).1=1/\3<=(VU S q m).2.1.length/\(VU S q m).2.1.getD 0 0=s.receiver.1/\(VU S q m).2.1.getD 2 0<=15:=by
    refine⟨rfl,by unfold VU;simp,u,ac⟩
   have ad:(VU S q m).2.1.getD 1 0=q:=rfl;have ae:((VU S q m).2.1.getD 2 0,(VU S q m).2.1.drop 3,(VU S q m).2.2)=m:=rfl;unfold Hi at A;simp only[VX E,ad,ae] at A;have I:cm .eql (VU S q m).1 (2:Int)=false:=rfl;have K:cm .lss s.first (0:Int)=false:=by rw[cl];exact ZL X
   have L:∀a:Nat,a<=2147483647->Good (zX s.receiver.1 a):=fun a U6=>by
    refine⟨by unfold zX;simp,by unfold zX;simp,by unfold zX;simp,by unfold zX;simp,fun n P=>?_,fun b hb=>by simp[zX] at hb⟩;simp only[zX,j4,aCv,aEs] at P;rcases P with rfl | rfl<;>omega
   by_cases M:(q:Int)=s.receiver.2/\s.receiver.2<2147483647
   ·rw[VX M] at A;simp only at A;have N:q=v.x:=by omega
    obtain⟨to,C⟩:∃to,m8 v.n snaps v.k to m/\(s.UN=s.receiver.1->v.x=v.q/\s.UP.2.2≠ []/\s.sent=to):=by
     by_cases c:s.UN=s.receiver.1
     ·rcases h.act (Ja h (by omega) c) with⟨D,a2,T⟩|⟨D,a2,T⟩
      ·rcases hs (by rw[u,c]) with d |⟨d1,H⟩
       ·omega
       ·exact⟨s.sent,T m H,fun _=>⟨D,by rw[H];simp,rfl⟩⟩
      ·rcases hs (by rw[u,c]) with d |⟨d1,H⟩<;>omega
     ·obtain⟨to,e⟩:=y1 N;exact⟨to,e,fun d=>absurd d c⟩
    obtain⟨C,ao⟩:=C;have WJ:=C.lt;have ap:=C.le;have aq:=C.nn;let s1:PS:={ s with receiver:=(s.receiver.1,s.receiver.2+1) }
    obtain⟨d',sd,et⟩:=MK (s:=s1) (snaps:=snaps) (n:=v.n) h.E7 rfl V U h.ep.len h.U8 (by omega) (by omega) h.P8 (by omega) h.eon h.mn C;have O:s.receiver.2+1=((v.x+1:Nat):Int):=by omega
    have F:=IJ h ee (by omega) (by rw[<-u];exact ha) (to:=to.toNat) (by omega) (by omega) sd (fun c=>by obtain⟨c1,c2,c3⟩:=ao c;exact⟨c1,c2,by omega⟩);have af:((to.toNat:Nat):Int)=to:=by omega
    rw[af,<-O] at F
    have G:=BE F (by simp only;omega) (by
     obtain⟨g,o,Q,b2,b3,b4,R,b6⟩:=ha;rw[u] at Q R
     exact⟨g,o,Q,b2,b3,b4,R,b6⟩)
    refine⟨to.toNat,v.x+1,_,by omega,XZ _,?_,F.push (Ek (L (v.x+1) (by omega)) false (fun c=>nomatch c) (fun _=>G)),.inr ⟨_,rfl⟩,fun c=>absurd u c,fun _ _ _ e=>⟨by omega,rfl,rfl,rfl,rfl,rfl,by rw[u,<-e,N]⟩⟩;unfold rT at et;unfold dY cN;rw[B,cM];simp only[er,WR,I,cM,pF,K];rw[A,cM];simp only[ZI,pF,WR,jp];cases hz:fB m s.n s.fn s.XF s.WE s.blocks s.UZ s.VQ s.UN s.UP s.sent s.safe s.UW s.on s.XE s.VJ s.first (s.receiver.1,s.receiver.2+1) s.VM s.m5 s.fd s.j7 s.od with
    |none=>simp only[s1] at et;rw[hz] at et;cases et
    |some z=>
     simp only[s1] at et;rw[hz,cM] at et;simp only[u6,R0,PS.mk.injEq] at et;rw[cM];simp only[et,ZI,pF];rw[Hr _ _ _ _ _ _ _ _ _ _ _ _ _ _ _ _ _ _ _ _ _ _ _ _ h.K7];simp only[cM,O];rfl
   ·have au:¬q=v.x:=by omega
    rw[VN M] at A;simp only at A;have G:=BE h (by omega) (by rw[<-u];exact ha);refine⟨v.k,v.x,_,XZ _,by omega,?_,h.push (Ek (L v.x (by omega)) false (fun c=>nomatch c) (fun _=>G)),.inr ⟨_,rfl⟩,fun c=>absurd u c,fun _ _ c e=>(fun (z:v.x=v.q+1)=>⟨z,rfl,rfl,rfl,rfl,rfl,by rw[u,<-z]⟩) (by rcases h.act (Ja h (by omega) (by rw[<-c,u])) with⟨D,_⟩|⟨D,_⟩<;>omega)⟩;unfold dY cN;rw[B,cM];simp only[er,WR,I,cM,pF,K];rw[A,cM];simp only[ZI,pF,jp];rw[Hr _ _ _ _ _ _ _ _ _ _ _ _ _ _ _ _ _ _ _ _ _ _ _ _ h.K7];simp only[cM,an];rfl
  ·refine⟨v.k,v.x,s,XZ _,by omega,Ni b _ none B (.inr (by unfold VU;simp)) (fun _=>⟨(0,[],[]),?_⟩),h,.inl rfl,fun _=>⟨rfl,rfl,rfl⟩,fun _ c=>absurd c u⟩;rw[A];have E:¬((VU S q m).1=1/\3<=(VU S q m).2.1.length/\(VU S q m).2.1.getD 0 0=s.receiver.1/\(VU S q m).2.1.getD 2 0<=15):=fun c=>u c.2.2.1;unfold Hi;simp only[VN E]
theorem Vs(h:Inv v now snaps s)(ee:v.x+1<=100000){y:Bool×Bool×List Int}(hy:m9 v snaps s y)(hd:y.1=true):
  ∃k' x' s',v.k<=k'/\x'<=v.x+1/\dY y.2.2 s=some (none,s')/\Inv { v with k:=k',x:=x' } now snaps s'/\Sj s s':=by
 have E:=hy.len;have u:=rS y.2.2 hy.bytes (by omega);by_cases z:y.2.1=true
 ·rw[hy.E0 z] at u;refine⟨v.k,v.x,s,XZ _,by omega,Ni _ _ _ u (.inl rfl) (fun H=>⟨(0,[],[]),?_⟩),h,.inl rfl⟩;obtain⟨I,U⟩:=Kc h H;have T:=h.B8;rw[Nb s.receiver _ hy.bytes E I (by omega),hy.E0 z];rfl
 ·obtain⟨f,K,L,M,_⟩:=hy.whole (by simpa using z);have F:fF y.2.2=some f:=by rw[L];exact lQ K
  rw[F] at u;rcases M hd with⟨g,O,D,rfl⟩|⟨S,q,m,rfl,D,P,Q,R⟩
  ·obtain⟨x',s',G,A,B,C,_⟩:=DP h O D u;exact⟨v.k,x',s',XZ _,by omega,A,B,C⟩
  ·obtain⟨k',x',s',G,A,B,C,N,_⟩:=IK h ee hy.bytes E F D P Q R;exact⟨k',x',s',G,A,B,C,N⟩
end Go.WT
namespace Go.WT
open Go Go.Sw Go.Mo Go.Pl
open Go.XX (oC xG)
open Go.VW (Good bQ fF dM dU rR Fz zW rS lQ mY)
variable {v:Nm}{now:List aR}{snaps:List (List aR)}{s:PS}
theorem UC(x y:Int):jC [x,y] [x,y]=some true:=by
 unfold jC;have e:cm .neq (([x,y]:List Int).length:Int) (([x,y]:List Int).length:Int)=false:=by rw[cn];simp
 rw[e,pF];unfold lp;rw[show fI=1125899906842621+1+1+1 from rfl,Go.VW.ZE (y:=(1:Int)),Go.VW.ZE (y:=(2:Int)),Go.VW.ZF (b:= .VP ())]
 ·rfl
 ·have h:Sw.idx [x,y] (1:Int)=some y:=rfl;have u:cm .neq y y=false:=by rw[cn];simp
  have z:cm .lss (1:Int) (([x,y]:List Int).length:Int)=true:=rfl;rw[z,WR,h,cM,cM,u,pF];rfl
 ·have h:Sw.idx [x,y] (0:Int)=some x:=rfl;have u:cm .neq x x=false:=by rw[cn];simp
  have z:cm .lss (0:Int) (([x,y]:List Int).length:Int)=true:=rfl;rw[z,WR,h,cM,cM,u,pF];rfl
theorem Inv.zi(h:Inv v now snaps s){e}(he:jc v.n e now snaps):Inv v now snaps { s with UZ:=e }:=
 { h with
  ep:=he
  VM:=fun y u=>(h.VM y u).same rfl rfl rfl rfl rfl }
theorem Qr(h:Inv v now snaps s){o j:Nat}(h1:1<=o)(h2:o<=v.ob)(hj:j<=v.k)(WJ:s.UN<pV v.fb o)
  (ha:o=v.ob->s.UN<pV v.fb o->j=v.k/\s.first=(v.fb:Int)/\v.x=0) {sent:Int} (aN3:sent=j\/(sent= -1/\j<v.h)):
  Inv { v with q:=0 } now snaps { s with UN:=pV v.fb o,UP:=(pV v.fb o,0,[]),sent:=sent,safe:=max s.safe (j:Int),UW:=[] }:=by
 have j1:=h.B8;have qq:=h.kh;have ka:=h.safe;have C:∀S,sV v s S->S≠pV v.fb o/\sV { v with q:=0 } { s with UN:=pV v.fb o,UP:=(pV v.fb o,0,[]),sent:=sent,safe:=max s.safe (j:Int),UW:=[] } S:=by
  rintro S ⟨F,G,H,X,b3,b4,M,b6⟩;refine⟨fun e=>?_,F,G,H,X,b3,b4,?_,b6⟩
  ·rw[H] at e;obtain⟨P,Q⟩:=sN (by omega) (by omega) e;rcases M with c |⟨I,K⟩
   ·omega
   ·rw[H,P,Q] at K;omega
  ·rcases M with c |⟨I,K⟩
   ·exact .inl c
   ·exact .inr ⟨I,by simp only;omega⟩
 exact { h with
  B8:=by simp only;omega
  safe:=by simp only;omega
  sent:=by simp only;omega
  low:=fun _=>by simp only;omega
  idle:=fun c d=>h.idle c (by simp only at d;omega)
  UN:= .inr ⟨o,h1,h2,rfl,fun e=>(ha e WJ).2.1⟩
  UP:= .inr ⟨yN _ _,rfl,rfl⟩
  queue:= .inl ⟨rfl,rfl⟩
  act:=fun e=>by
   simp only at e;obtain⟨B,z,A⟩:=ha (sN (by omega) (by omega) e).2 WJ;refine .inl ⟨A,fun _=>?_,fun m N=>by simp at N⟩;simp only;rcases aN3 with c |⟨I,K⟩
   ·left;omega
   ·right;omega
  VM:=fun y u=>by
   have u:=h.VM y u;refine⟨u.bytes,u.len,u.ne,u.E0,fun O=>?_⟩;obtain⟨f,R,T,U,V⟩:=u.whole O;refine⟨f,R,T,fun E=>?_,fun E=>?_⟩
   ·rcases U E with c |⟨S,q,m',B,z,A,D,L⟩
    ·exact .inl c
    ·exact .inr ⟨S,q,m',B,z,(C S A).2,fun c=>absurd c (C S A).1,L⟩
   ·rcases V E with⟨F,G,j',t',B,z,A,D,L,a6,a7,a8⟩|⟨S,a,B,z,A,D⟩
    ·exact .inl ⟨F,G,j',t',B,z,A,D,L,a6,a7,fun c d e=>a8 c d (by simp only at e;omega)⟩
    ·exact .inr ⟨S,a,B,(C S z).2,fun c=>absurd c (C S z).1,D⟩}
theorem DQ(h:Inv v now snaps s)(ig:v.q+1<=100000)(h0:0<=s.UN){m:Fm}(hq:s.UP.2.2=[m])(hk:s.sent<=v.k):
  Inv { v with q:=v.q+1 } now snaps { s with UP:=(s.UN,((v.q+1:Nat):Int),[]),safe:=max s.safe s.sent,UW:=[] }:=by
 have K:=h.B8;have L:=h.kh;have M:=h.safe
 exact { h with
  B8:=by simp only;omega
  safe:=by simp only;omega
  low:=fun _=>by simp only;omega
  UP:= .inr ⟨h0,rfl,rfl⟩
  queue:= .inl ⟨rfl,rfl⟩
  act:=fun e=>by
   rcases h.act e with⟨a1,a2,a3⟩|⟨a1,a2,a3⟩
   ·have:=(a3 m hq).lt;omega
   ·exact .inl ⟨by simp only;omega,fun _=> .inl a3,fun m B=>by simp at B⟩
  VM:=fun y u=>by
   have u:=h.VM y u;refine⟨u.bytes,u.len,u.ne,u.E0,fun C=>?_⟩;obtain⟨f,D,E,F,G⟩:=u.whole C;refine⟨f,D,E,fun z=>?_,fun z=>?_⟩
   ·rcases F z with c |⟨S,q,H,a1,a2,a3,A,I⟩
    ·exact .inl c
    ·exact .inr ⟨S,q,H,a1,a2,a3,fun c=> .inl (by have:=A c;simp only;omega),I⟩
   ·rcases G z with c |⟨S,a,a1,a2,a3,A⟩
    ·exact .inl c
    ·exact .inr ⟨S,a,a1,a2,fun c=> .inl (by have:=a3 c;simp only;omega),A⟩}
def Yg(v:Nm)(u:Fm)(e:Option Int):Prop:=e.isSome=true\/u.1≠3\/∃g o j x y,u=fC g o j [x,y]/\g≠v.fb
theorem Qs{u:Fm}{e:Option Int}(h:Yg v u e):(bif (Option.isNone e) then
  bif (cm .eql u.1 (3:Int)) then
   bif (cm .eql (u.2.1.length:Int) (5:Int)) then
    (Sw.idx u.2.1 (0:Int)).bind fun W6=>
     some (cm .eql W6 (v.fb:Int))
   else
    some false
  else
   some false
  else
   some false)=some false:=by
 rcases h with c | c |⟨g,o,j,x,y,rfl,D⟩
 ·cases e with
  |none=>cases c
  |some e=>rfl
 ·have:cm .eql u.1 (3:Int)=false:=by rw[ce];exact ZL c
  rw[this];cases e<;>rfl
 ·have z:cm .eql (fC g o j [x,y]).1 (3:Int)=true:=rfl;have A:cm .eql ((fC g o j [x,y]).2.1.length:Int) (5:Int)=true:=rfl;have B:Sw.idx (fC g o j [x,y]).2.1 (0:Int)=some (g:Int):=rfl;have C:cm .eql (g:Int) (v.fb:Int)=false:=by rw[ce];exact ZL (by omega)
  rw[z,A,B,cM,C];cases e<;>rfl
theorem Hs(h:Inv v now snaps s){b:List Int}{u:Fm}{e:Option Int}(hu:fL b=some (u,e))(hn:Yg v u e)
  (hh:0<=s.UN->rP s.UP b=some (s.UP,none)):∃s',eS b s=some (none,s')/\Inv v now snaps s'/\s'.VM=s.VM:=by
 have H:=h.B8;have I:=h.safe;have K:=h.kh;have L:s.UZ.1=v.h:=by have:=h.ep.num;have:=h.hs;omega
 have A:=Qs hn;by_cases B:s.UN<0
 ·refine⟨s,?_,h,rfl⟩;unfold eS cR;have z:cm .lss s.UN (0:Int)=true:=by rw[cl];exact y3 B
  rw[hu,cM,h.YU];simp only[];rw[A];simp only[cM,pF,z,WR];rw[<-h.YU]
 ·obtain⟨F,G⟩:=h.ep.drop (num:=min s.safe s.UZ.1) (by omega);refine⟨_,?_,h.zi G,rfl⟩;unfold eS cR;have z:cm .lss s.UN (0:Int)=false:=by rw[cl];exact ZL B
  rw[hu,cM,h.YU];simp only[];rw[A];simp only[cM,pF,z];rw[hh (by omega)];simp only[cM,ZI,pF];have C:ar .sub .i64 (s.UP.2.2.length:Int) (s.UP.2.2.length:Int)=0:=by rw[M9 (by omega)];omega
  have D:Sw.sub s.UW (0:Int) 0=some []:=by unfold Sw.sub;rw[VX (by omega)];rfl
  have E:Sw.sub s.UW (0:Int) (s.UW.length:Int)=some s.UW:=by unfold Sw.sub;rw[VX (by omega)];simp
  rw[C,D,cM];unfold lp;rw[show fI=1125899906842623+1 from rfl,Go.VW.ZF (b:= .VP s.safe)]
  ·simp only[];rw[E,cM,h.efn,F,cM];rw[<-h.YU,<-h.efn];rfl
  ·rfl
end Go.WT
namespace Go.WT
open Go Go.Sw Go.Mo Go.Pl
open Go.XX (oC xG)
open Go.VW (Good bQ fF dM dU rR Fz zW rS lQ mY jF)
variable {v:Nm}{now:List aR}{snaps:List (List aR)}{s:PS}
def RW(v:Nm)(s s':PS)(q' o j:Nat):Prop:=s'.first=s.first/\(s.UN<pV v.fb o->s'.UN=pV v.fb o/\s'.UP.2.2=[])/\(¬s.UN<pV v.fb o->s'=s/\q'=v.q)
theorem Vt(h:Inv v now snaps s){b:List Int}{o j:Nat}{x y:Int}(hu:fL b=some (fC v.fb o j [x,y],none))(h1:1<=o)(h2:o<=v.ob)(hj:j<=v.k)(ht:jR (snaps.getD j [])=some [x,y])
  (ha:o=v.ob->s.UN<pV v.fb o->j=v.k/\s.first=(v.fb:Int)/\v.x=0):∃q' s',q'<=v.q/\eS b s=some (none,s')/\Inv { v with q:=q' } now snaps s'/\s'.VM=s.VM/\RW v s s' q' o j:=by
 have M:=h.B8;have N:=h.kh;have A:Sw.idx (fC v.fb o j [x,y]).2.1 (0:Int)=some (v.fb:Int):=rfl;have B:Sw.idx (fC v.fb o j [x,y]).2.1 (1:Int)=some (o:Int):=rfl;have H:Sw.idx (fC v.fb o j [x,y]).2.1 (2:Int)=some (j:Int):=rfl;have C:cm .eql (fC v.fb o j [x,y]).1 (3:Int)=true:=rfl;have D:cm .eql ((fC v.fb o j [x,y]).2.1.length:Int) (5:Int)=true:=rfl;have E:cm .eql (v.fb:Int) (v.fb:Int)=true:=by rw[ce];simp
 have K:Sw.sub (fC v.fb o j [x,y]).2.1 (3:Int) ((fC v.fb o j [x,y]).2.1.length:Int)=some [x,y]:=rfl;have F:=II (g:=v.fb) (o:=o) (by omega) (by omega);by_cases u:s.UN<pV v.fb o
 ·have z:cm .gtr (pV v.fb o) s.UN=true:=by rw[cg];exact y3 u
  cases hp:fJ s.VQ (j:Int) with
  |none=>
   have L:j<v.h:=by
    rcases J0 j v.h with c | c
    ·exact c
    ·have:j=v.h:=by omega
     rw[this,h.last] at hp;cases hp
   have G:=Qr h h1 h2 hj u ha (sent:= -1) (.inr ⟨rfl,L⟩);refine⟨0,_,by omega,?_,G,rfl,rfl,fun _=>⟨rfl,rfl⟩,fun c=>absurd u c⟩;unfold eS cR;rw[hu,cM,h.YU];simp only[er,WR,C,D,A,B,H,E,cM,F,z,jp,hp,ZI,uf]
  |some l=>
   have I:=h.VQ _ (Hp hp);simp only[j5] at I;rw[<-I.2.2] at ht;have G:=Qr h h1 h2 hj u ha (sent:=(j:Int)) (.inl rfl);refine⟨0,_,by omega,?_,G,rfl,rfl,fun _=>⟨rfl,rfl⟩,fun c=>absurd u c⟩;unfold eS cR;rw[hu,cM,h.YU];simp only[er,WR,C,D,A,B,H,E,cM,F,z,jp,hp,aCy,iz,pF,yk,ht,K,UC]
 ·have z:cm .gtr (pV v.fb o) s.UN=false:=by rw[cg];exact ZL u
  refine⟨v.q,s,XZ _,?_,h,rfl,rfl,fun c=>absurd c u,fun _=>⟨rfl,rfl⟩⟩;unfold eS cR;rw[hu,cM,h.YU];simp only[er,WR,C,D,A,B,E,cM,F,z,jp,pF];rw[<-h.YU]
theorem Jb(h:Inv v now snaps s)(h0:0<=s.UN):jF s.UP=0:=by
 have G:=h.B8;have H:=BD h;rcases h.UP with⟨B,_⟩|⟨B,C,D⟩
 ·omega
 ·have A:s.UP=(s.UN,(v.q:Int),s.UP.2.2):=by rw[<-C,<-D]
  rw[A];rcases h.queue with⟨z,E⟩|⟨m,z,E,F,I⟩
  ·rw[z];exact mY (by omega) (by omega) (by simp) (fun f u=>by simp at u)
  ·rw[z];exact mY (by omega) (by omega) (by simp) (fun f u=>by simp at u;subst u;exact F.load)
theorem MR(h:Inv v now snaps s)(ig:v.q+1<=100000){b:List Int}(hb:Bytes b)(N9:b.length<=2000){S:Int}{a:Nat}(hf:fF b=some (zX S a))
  (hs:S=s.UN->a<=v.q\/(a=v.q+1/\s.UP.2.2≠ []/\s.sent<=v.k)):∃q' s',q'<=v.q+1/\eS b s=some (none,s')/\Inv { v with q:=q' } now snaps s'/\s'.VM=s.VM/\
   (0<=s.UN->S=s.UN->a=v.q+1->s.UP.2.2.length=1->s'.first=s.first/\s'.UN=s.UN/\s'.UP.2.2=[]/\s'.sent=s.sent):=by
 have j1:=h.B8;have qq:=h.kh;have ka:=h.safe;have z:=rS b hb (by omega);rw[hf] at z;simp only at z;have G:Yg v (zX S a) none:= .inr (.inl (by unfold zX;simp));by_cases D:0<=s.UN
 ·have u:=zW s.UP b hb N9 (Jb h D);rw[hf] at u;unfold Fz at u;by_cases E:(zX S a).1=0/\(zX S a).2.2=[]/\(zX S a).2.1.length=2/\(zX S a).2.1.getD 0 0=s.UP.1/\s.UP.2.1<(zX S a).2.1.getD 1 0/\(zX S a).2.1.getD 1 0 - s.UP.2.1<=min (s.UP.2.2.length:Int) 4
  ·simp only[VX E] at u;obtain⟨_,_,_,H,O,P⟩:=E;have H:S=s.UP.1:=H;have R:(zX S a).2.1.getD 1 0=(a:Int):=rfl;rw[R] at O P u;rcases h.UP with⟨L,_⟩|⟨L,F,M⟩
   ·omega
   ·have T:=hs (by rw[H,F]);rw[M] at O P;have I:a=v.q+1/\s.UP.2.2≠ []/\s.sent<=v.k:=by
     rcases T with d | d
     ·omega
     ·exact d
    obtain⟨I,_,aa⟩:=I;rcases h.queue with⟨C,Q⟩|⟨m,C,Q,d3,d4⟩
    ·exact absurd C ‹_›
    ·have N:=DQ h ig D C aa;have G4:s.UZ.1=v.h:=by have:=h.ep.num;have:=h.hs;omega
     obtain⟨A,B⟩:=N.ep.drop (num:=min (max s.safe s.sent) s.UZ.1) (by simp only;omega);refine⟨v.q+1,_,XZ _,?_,N.zi B,rfl,fun _ _ _ _=>⟨rfl,rfl,rfl,rfl⟩⟩;have U:(s.UP.1,(a:Int),s.UP.2.2.drop ((a:Int) - s.UP.2.1).toNat)=(s.UN,((v.q+1:Nat):Int),([]:List Fm)):=by
      rw[F,M,C,I];have:(((v.q+1:Nat):Int) - (v.q:Int)).toNat=1:=by omega
      rw[this];rfl
     rw[U] at u;have V:=Qs G;unfold eS cR;have X:cm .lss s.UN (0:Int)=false:=by rw[cl];exact ZL (by omega)
     rw[z,cM,h.YU];simp only[];rw[V];simp only[cM,pF,X];rw[u];simp only[cM,ZI,pF];rw[C,Q];have YQ:ar .sub .i64 (([m]:List Fm).length:Int) (([]:List Fm).length:Int)=1:=by rw[M9 (by simp)];simp
     have hz:Sw.sub [s.sent] (0:Int) 1=some [s.sent]:=rfl;have B4:Sw.sub [s.sent] (1:Int) (([s.sent]:List Int).length:Int)=some []:=rfl;rw[YQ,hz,cM];unfold lp;rw[show fI=1125899906842622+1+1 from rfl,Go.VW.ZE (y:=((1:Int),max s.safe s.sent)),Go.VW.ZF (b:= .VP (max s.safe s.sent))]
     ·simp only[];rw[B4,cM,h.efn,A,cM];rw[<-h.YU,<-h.efn];rfl
     ·rfl
     ·rfl
  ·simp only[VN E] at u;obtain⟨s',A,B,K⟩:=Hs h z G (fun _=>u);refine⟨v.q,s',by omega,A,B,K,fun _ c d e=>absurd ?_ E⟩;rcases h.UP with⟨L,_⟩|⟨L,F,M⟩
   ·omega
   ·refine⟨rfl,rfl,rfl,?_,?_,?_⟩
    ·show S=s.UP.1;rw[F,c]
    ·show s.UP.2.1<(a:Int);omega
    ·show (a:Int) - s.UP.2.1<=_;omega
 ·obtain⟨s',A,B,K⟩:=Hs h z G (fun c=>absurd c D);exact⟨v.q,s',by omega,A,B,K,fun c=>absurd c D⟩
theorem Yh(h:Inv v now snaps s)(ig:v.q+1<=100000){y:Bool×Bool×List Int}(hy:m9 v snaps s y)(hd:y.1=false):
  ∃q' s',q'<=v.q+1/\eS y.2.2 s=some (none,s')/\Inv { v with q:=q' } now snaps s'/\s'.VM=s.VM:=by
 have j1:=h.B8;have qq:=h.kh;have YT:=h.hs;have N4:=h.n1;have gm:=h.n0;have E:=hy.len;have B:=rS y.2.2 hy.bytes (by omega);by_cases K:y.2.1=true
 ·have D:=fun G=>zW s.UP y.2.2 hy.bytes E (Jb h G);rw[hy.E0 K] at B D;obtain⟨s',C,u,A⟩:=Hs h B (.inl rfl) D;exact⟨v.q,s',by omega,C,u,A⟩
 ·obtain⟨f,Q,R,_,T⟩:=hy.whole (by simpa using K);have F:fF y.2.2=some f:=by rw[R];exact lQ Q
  rcases T hd with⟨g,o,j,t,rfl,V,N,O,X,a6,I,a8⟩|⟨S,a,rfl,V,N,O⟩
  ·have L:snaps.getD j []∈snaps:=by
    rw[R2,C3 (by omega)];exact eo _
   have cz:(snaps.getD j []).length=v.n:=h.ep.len _ L;obtain⟨x,z,U,_,_⟩:=ID (bs:=snaps.getD j []) (by omega) (by omega) (h.bok _ L);have P:t=[x,z]:=by rw[U] at I;exact(sM I).symm
   subst P;rw[F] at B;simp only at B;by_cases M:g=v.fb
   ·subst M;obtain⟨q',s',C,u,A,H,_⟩:=Vt h B O X a6 I (a8 rfl);exact⟨q',s',by omega,u,A,H⟩
   ·obtain⟨s',C,u,A⟩:=Hs h B (.inr (.inr ⟨g,o,j,x,z,rfl,M⟩)) (fun G=>by
     have D:=zW s.UP y.2.2 hy.bytes E (Jb h G);rw[F] at D;rw[D];unfold Fz;simp only[]
     rw[VN (fun c=>by have:=c.1;simp[fC] at this)])
    exact⟨v.q,s',by omega,C,u,A⟩
  ·obtain⟨q',s',C,u,A,H,_⟩:=MR h ig hy.bytes E F N;exact⟨q',s',C,u,A,H⟩
end Go.WT
namespace Go.WT
open Go Go.Sw Go.Mo Go.Pl
open Go.XX (oC xG)
variable {v:Nm}{now:List aR}{snaps:List (List aR)}{s:PS}
def wt(l:List (Bool×Bool×List Int)):Nat:=(l.map fun y=>bif y.1 then 2 else 1).sum
theorem Yi(a b:List (Bool×Bool×List Int)):wt (a++b)=wt a+wt b:=by unfold wt;rw[aCt,List.sum_append]
theorem MS(l:List (Bool×Bool×List Int))(y:Bool×List Int):wt (oG l (false,y))<=wt l+1:=by
 unfold oG;split
 ·rw[Yi];simp[wt]
 ·omega
theorem MT(h:Inv v now snaps s)(ig:v.q+1<=100000)(ee:v.x+1<=100000){y:Bool×Bool×List Int}(hy:m9 v snaps s y):
  ∃k' q' x' s',v.k<=k'/\q'<=v.q+1/\x'<=v.x+1/\uF y s=some (none,s')/\Inv { v with k:=k',q:=q',x:=x' } now snaps s'/\wt s'.VM<wt s.VM+(bif y.1 then 2 else 1):=by
 by_cases A:y.1=true
 ·obtain⟨k',x',s',E,C,u,D,B⟩:=Vs h ee hy A;refine⟨k',v.q,x',s',E,by omega,C,?_,D,?_⟩
  rotate_left
  ·rw[A,WR];rcases B with B |⟨z,B⟩
   ·rw[B];omega
   ·rw[B];have:=MS s.VM z;omega
  unfold dY at u;unfold uF fV;rw[A,WR];cases hz:cN y.2.2 s.n s.fn s.XF s.WE s.blocks s.UZ s.VQ s.UN s.UP s.sent s.safe s.UW s.on s.XE s.VJ s.first s.receiver s.VM s.m5 s.fd s.j7 s.od with
  |none=>rw[hz] at u;cases u
  |some z=>rw[hz] at u;exact u
 ·have A:y.1=false:=by simpa using A
  obtain⟨q',s',C,u,D,B⟩:=Yh h ig hy A;refine⟨v.k,q',v.x,s',XZ _,C,by omega,?_,D,by rw[A,pF,B];omega⟩;unfold eS at u;unfold uF fV;rw[A,pF];cases hz:cR y.2.2 s.n s.fn s.XF s.WE s.blocks s.UZ s.VQ s.UN s.UP s.sent s.safe s.UW s.on s.XE s.VJ s.first s.receiver s.VM s.m5 s.fd s.j7 s.od with
  |none=>rw[hz] at u;cases u
  |some z=>rw[hz] at u;exact u
theorem Yj(h:Inv v now snaps s)(ig:v.q+1<=100000)(ee:v.x+1<=100000){a:Int}(ha:C1 a):
  ∃k' q' x' s',v.k<=k'/\q'<=v.q+1/\x'<=v.x+1/\mW a s=some (none,s')/\Inv { v with k:=k',q:=q',x:=x' } now snaps s'/\(s.VM≠ []->wt s'.VM<wt s.VM):=by
 rcases Hq h ha with⟨Q,u⟩|⟨i,C,u,R,T⟩
 ·refine⟨v.k,v.q,v.x,s,XZ _,by omega,by omega,?_,h,fun c=>absurd Q c⟩;unfold jI at u;unfold mW eW;cases hq:cE a s.n s.fn s.XF s.WE s.blocks s.UZ s.VQ s.UN s.UP s.sent s.safe s.UW s.on s.XE s.VJ s.first s.receiver s.VM s.m5 s.fd s.j7 s.od with
  |none=>rw[hq] at u;cases u
  |some q=>
   rw[hq] at u;simp only[cM,u6,R0] at u;simp only[cM,u.2.1,uf,WR]
 ·have S:=h.K7;have D:=kW (C3 C);have E:=h.VM _ (eo C);generalize hy:s.VM[i]=y at D E
  have F:=h.R7 (l:=s.VM.take i++s.VM.drop (i+1)) (by simp;omega) (fun x A=>by
   rcases J6.1 A with A | A
   ·exact h.VM x (aCq A)
   ·exact h.VM x (aDq A))
  obtain⟨k',q',x',s',L,M,N,B,O,P⟩:=MT F ig ee (y:=y) (E.same rfl rfl rfl rfl rfl);refine⟨k',q',x',s',L,M,N,?_,O,fun _=>Nat.lt_of_lt_of_eq P ?_⟩
  rotate_left
  ·have e:=V3 i s.VM;rw[aCz C,hy] at e;have G:=congrArg wt e;have H:wt (y::s.VM.drop (i+1))=(bif y.1 then 2 else 1)+wt (s.VM.drop (i+1)):=by unfold wt;simp
   rw[Yi,H] at G;simp only[Yi];omega
  unfold uF at B;unfold mW eW;rw[R,cM];simp only[iz,pF,D,cM];rw[Qp (by omega),cM];have I:ar .add .i64 (i:Int) (1:Int)=((i+1:Nat):Int):=l5 (by omega);have K:cS s.VM (i:Int) ((i+1:Nat):Int)=some (s.VM.take i++s.VM.drop (i+1)):=BC s.VM i C;rw[I,K,cM];cases hz:fV y s.n s.fn s.XF s.WE s.blocks s.UZ s.VQ s.UN s.UP s.sent s.safe s.UW s.on s.XE s.VJ s.first s.receiver (s.VM.take i++s.VM.drop (i+1)) s.m5 s.fd s.j7 s.od with
  |none=>rw[hz] at B;cases B
  |some z=>rw[hz] at B;exact B
theorem BF(h:Inv v now snaps s)(r:Int×aR×Int×Int×Int×List aR):uG r s=some ((r.1,r.2.1,(v.h:Int),s.safe,(v.k:Int),snaps.getD v.k []),none,s):=by
 have B:=h.kh;have C:=h.hs;have z:snaps.getD v.k []∈snaps:=by
  rw[R2,C3 (by omega)];exact eo _
 have A:(snaps.getD v.k []).length=v.n:=h.ep.len _ z;have u:=xG h.E7;rw[A,<-h.mn] at u;unfold uG fX;rw[u,h.enum,h.U8];simp only[cM]
end Go.WT
namespace Go.WT
open Go Go.Sw Go.Mo Go.Pl
variable {v v':Nm}{now S8:List aR}{snaps YM:List (List aR)}{s s':PS}
def fns(i:Nat)(d:Int×Int×Int×aR)(s:PS):=vW i d s.n s.fn s.XF s.WE s.blocks s.UZ s.VQ s.UN s.UP s.sent s.safe s.UW s.on s.XE s.VJ s.first s.receiver s.VM s.m5 s.fd s.j7 s.od
theorem IL(i:Fin 11):tY ((i.1:Nat):Int)=some i.1:=by revert i;decide+kernel
theorem qM{d:Int×Int×Int×aR}{i:Nat}{YC:aR}{e:Option Int}(h':Inv v' S8 YM s')(hi:i<11)(hd:d.1=(i:Int))(hf:fns i d s=some (YC,e,VO s')):
  mX d s=some ((e.getD 0,YC,(v'.h:Int),s'.safe,(v'.k:Int),YM.getD v'.k []),none,s'):=by
 have u:=BF h' (e.getD 0,YC,0,0,0,[]);have A:=IL ⟨i,hi⟩;simp only at A;have B:cm .lss d.1 (0:Int)=false:=by rw[cl];exact ZL (by omega)
 have C:cm .geq d.1 (11:Int)=false:=by rw[G7];exact ZL (by omega)
 unfold fns at hf;unfold uG at u;unfold mX hC;rw[B,C];simp only[pF,cM,jp];rw[hd,A,cM,hf,cM];cases hz:fX (e.getD 0,YC,0,0,0,[]) s'.n s'.fn s'.XF s'.WE s'.blocks s'.UZ s'.VQ s'.UN s'.UP s'.sent s'.safe s'.UW s'.on s'.XE s'.VJ s'.first s'.receiver s'.VM s'.m5 s'.fd s'.j7 s'.od with
 |none=>rw[hz] at u;cases u
 |some z=>
  rw[hz] at u;simp only[cM,u6,R0] at u;obtain⟨D,E⟩:=z;obtain⟨rfl,rfl,_⟩:=u;cases e with
  |none=>
   simp only[aEr] at hz;simp only[VO,ZI,pF,cM,hz,aEr]
  |some c=>
   simp only[yk] at hz;simp only[VO,aCy,WR,iz,pF,cM,yk,hz]
theorem MU{d:Int×Int×Int×aR}(h:Inv v now snaps s)(hd:d.1<0\/11<=d.1):
  mX d s=some ((3,aU,(v.h:Int),s.safe,(v.k:Int),snaps.getD v.k []),none,s):=by
 have u:=BF h (3,aU,0,0,0,[]);have A:(bif (cm .lss d.1 (0:Int)) then some true else some (cm .geq d.1 (11:Int)))=some true:=by
  rw[cl,G7];by_cases c:d.1<0
  ·rw[y3 c];rfl
  ·rw[ZL c,y3 (by omega)];rfl
 unfold uG at u;unfold mX hC;rw[A];simp only[cM,jp,WR];cases hz:fX (3,aU,0,0,0,[]) s.n s.fn s.XF s.WE s.blocks s.UZ s.VQ s.UN s.UP s.sent s.safe s.UW s.on s.XE s.VJ s.first s.receiver s.VM s.m5 s.fd s.j7 s.od with
 |none=>rw[hz] at u;cases u
 |some z=>
  rw[hz] at u;simp only[cM,u6,R0] at u;obtain⟨B,C⟩:=z;obtain⟨rfl,rfl,_⟩:=u;rfl
theorem BG{d:Int×Int×Int×aR}{e:Option Int}(h:lA d.2.1 d.2.2.2 s=some (e,s')):fns 0 d s=some (aU,e,VO s'):=by
 unfold lA at h;unfold fns vW nM;cases hz:eR d.2.1 d.2.2.2 s.n s.fn s.XF s.WE s.blocks s.UZ s.VQ s.UN s.UP s.sent s.safe s.UW s.on s.XE s.VJ s.first s.receiver s.VM s.m5 s.fd s.j7 s.od with
 |none=>rw[hz] at h;cases h
 |some z=>rw[hz] at h;simp only[cM,u6,R0] at h;obtain⟨u,rfl⟩:=h;rw[<-u];rfl
theorem Vu{d:Int×Int×Int×aR}{e:Option Int}(h:lA d.2.1 aU s=some (e,s')):fns 1 d s=some (aU,e,VO s'):=by
 unfold lA at h;unfold fns vW nN;cases hz:eR d.2.1 aU s.n s.fn s.XF s.WE s.blocks s.UZ s.VQ s.UN s.UP s.sent s.safe s.UW s.on s.XE s.VJ s.first s.receiver s.VM s.m5 s.fd s.j7 s.od with
 |none=>rw[hz] at h;cases h
 |some z=>rw[hz] at h;simp only[cM,u6,R0] at h;obtain⟨u,rfl⟩:=h;rw[<-u];rfl
theorem Vv{d:Int×Int×Int×aR}{e:Option Int}(h:qL s=some (e,s')):fns 3 d s=some (aU,e,VO s'):=by
 unfold qL at h;unfold fns vW nP;cases hz:fP s.n s.fn s.XF s.WE s.blocks s.UZ s.VQ s.UN s.UP s.sent s.safe s.UW s.on s.XE s.VJ s.first s.receiver s.VM s.m5 s.fd s.j7 s.od with
 |none=>rw[hz] at h;cases h
 |some z=>rw[hz] at h;simp only[cM,u6,R0] at h;obtain⟨u,rfl⟩:=h;rw[<-u];rfl
theorem IM{d:Int×Int×Int×aR}{e:Option Int}(h:lR s=some (e,s')):fns 4 d s=some (aU,e,VO s'):=by
 unfold lR at h;unfold fns vW nQ;cases hz:eC s.n s.fn s.XF s.WE s.blocks s.UZ s.VQ s.UN s.UP s.sent s.safe s.UW s.on s.XE s.VJ s.first s.receiver s.VM s.m5 s.fd s.j7 s.od with
 |none=>rw[hz] at h;cases h
 |some z=>rw[hz] at h;simp only[cM,u6,R0] at h;obtain⟨u,rfl⟩:=h;rw[<-u];rfl
theorem Vx{d:Int×Int×Int×aR}{e:Option Int}(h:mW d.2.1 s=some (e,s')):fns 5 d s=some (aU,e,VO s'):=by
 unfold mW at h;unfold fns vW nR;cases hz:eW d.2.1 s.n s.fn s.XF s.WE s.blocks s.UZ s.VQ s.UN s.UP s.sent s.safe s.UW s.on s.XE s.VJ s.first s.receiver s.VM s.m5 s.fd s.j7 s.od with
 |none=>rw[hz] at h;cases h
 |some z=>rw[hz] at h;simp only[cM,u6,R0] at h;obtain⟨u,rfl⟩:=h;rw[<-u];rfl
theorem IN{d:Int×Int×Int×aR}{e:Option Int}(h:qY d.2.1 s=some (e,s')):fns 6 d s=some (aU,e,VO s'):=by
 unfold qY at h;unfold fns vW nS;cases hz:fW d.2.1 s.n s.fn s.XF s.WE s.blocks s.UZ s.VQ s.UN s.UP s.sent s.safe s.UW s.on s.XE s.VJ s.first s.receiver s.VM s.m5 s.fd s.j7 s.od with
 |none=>rw[hz] at h;cases h
 |some z=>rw[hz] at h;simp only[cM,u6,R0] at h;obtain⟨u,rfl⟩:=h;rw[<-u];rfl
theorem Yk{d:Int×Int×Int×aR}{e:Option Int}(h:lC d.2.1 s=some (e,s')):fns 7 d s=some (aU,e,VO s'):=by
 unfold lC at h;unfold fns vW nT;cases hz:eE d.2.1 s.n s.fn s.XF s.WE s.blocks s.UZ s.VQ s.UN s.UP s.sent s.safe s.UW s.on s.XE s.VJ s.first s.receiver s.VM s.m5 s.fd s.j7 s.od with
 |none=>rw[hz] at h;cases h
 |some z=>rw[hz] at h;simp only[cM,u6,R0] at h;obtain⟨u,rfl⟩:=h;rw[<-u];rfl
theorem Yl{d:Int×Int×Int×aR}{e:Option Int}(h:lD d s=some (e,s')):fns 10 d s=some (aU,e,VO s'):=by
 unfold lD at h;unfold fns vW mT;cases hz:eF d s.n s.fn s.XF s.WE s.blocks s.UZ s.VQ s.UN s.UP s.sent s.safe s.UW s.on s.XE s.VJ s.first s.receiver s.VM s.m5 s.fd s.j7 s.od with
 |none=>rw[hz] at h;cases h
 |some z=>rw[hz] at h;simp only[cM,u6,R0] at h;obtain⟨u,rfl⟩:=h;rw[<-u];rfl
theorem Vy{d:Int×Int×Int×aR}{b:aR}{e:Option Int}(h:oD d.2.1 s=some (b,e,s)):fns 2 d s=some (b,e,VO s):=by
 unfold oD at h;unfold fns vW nO;cases hz:fU d.2.1 s.n s.fn s.XF s.WE s.blocks s.UZ s.VQ s.UN s.UP s.sent s.safe s.UW s.on s.XE s.VJ s.first s.receiver s.VM s.m5 s.fd s.j7 s.od with
 |none=>rw[hz] at h;cases h
 |some z=>rw[hz] at h;simp only[cM,u6,R0] at h;obtain⟨u,A,_⟩:=h;rw[<-u,<-A];rfl
end Go.WT
namespace Go.WT
open Go Go.Sw Go.Mo Go.Pl
variable {v:Nm}{now:List aR}{snaps:List (List aR)}{s:PS}
theorem IP(bs:List aR)(h:bs.length<=1000000):mH bs=some bs:=by
 unfold mH;rw[UQ _ _ (by simp;omega)];rfl
structure aJh (v v':Nm):Prop where
 n:v'.n=v.n
 h:v.h<=v'.h/\v'.h<=v.h+1
 k:v.k<=v'.k
 fb:v'.fb<=v.fb+1
 ob:v'.ob<=v.ob+1
 q:v'.q<=v.q+1
 x:v'.x<=v.x+1
def Kh(v:Nm)(now:List aR)(snaps:List (List aR))(s:PS)(d:Int×Int×Int×aR):Prop:=
 ∃(v':Nm) (S8:List aR) (YM:List (List aR)) (s':PS) (qN:Int) (YC:aR),pI now snaps d=some (qN,YC,S8,YM)/\
  mX d s=some ((qN,YC,(v'.h:Int),s'.safe,(v'.k:Int),YM.getD v'.k []),none,s')/\Inv v' S8 YM s'/\aJh v v'
theorem oH(v:Nm):aJh v v:=⟨rfl,⟨XZ _,by omega⟩,XZ _,by omega,by omega,by omega,by omega⟩
theorem IS(h:Inv v now snaps s){a k:Int}{b:aR}(hb:YK b):Kh v now snaps s (0,a,k,b):=by
 have C:=h.ep.S7;by_cases u:0<=a/\a<v.n
 ·obtain⟨F,G,B⟩:=IE h u hb;refine⟨v,_,snaps,F,0,aU,?_,qM B (by omega) rfl (BG (d:=(0,a,k,b)) G),B,oH v⟩;obtain⟨z,H,_⟩:=wL (l:=now) (n:=a) u.1 (by rw[C];exact u.2);have D:cm .lss a (0:Int)=false:=by rw[cl];exact ZL (by omega)
  have E:cm .geq a (now.length:Int)=false:=by rw[G7];exact ZL (by omega)
  show ((bif cm .lss a (0:Int) then some true else some (cm .geq a (now.length:Int))).bind fun A=>bif A then some ((1:Int),aU,now,snaps) else (Sw.idx now a).bind fun _=>some ((0:Int),aU,(List.set now (Int.toNat a) b),snaps))=_;rw[D,E];simp only[pF,cM,H]
 ·refine⟨v,now,snaps,s,1,aU,?_,qM h (by omega) rfl (BG (d:=(0,a,k,b)) (BA h (show a<0\/a>=v.n by omega))),h,oH v⟩;have c:(bif cm .lss a (0:Int) then some true else some (cm .geq a (now.length:Int)))=some true:=by
   rw[cl,G7];by_cases c:a<0
   ·rw[y3 c];rfl
   ·rw[ZL c,y3 (by omega)];rfl
  show ((bif cm .lss a (0:Int) then some true else some (cm .geq a (now.length:Int))).bind fun A=>bif A then some ((1:Int),aU,now,snaps) else (Sw.idx now a).bind fun _=>some ((0:Int),aU,(List.set now (Int.toNat a) b),snaps))=_;rw[c];rfl
theorem DR(h:Inv v now snaps s){a k:Int}{b:aR}:Kh v now snaps s (1,a,k,b):=by
 have C:=h.ep.S7;by_cases u:0<=a/\a<v.n
 ·obtain⟨F,G,B⟩:=IE h u y7;refine⟨v,_,snaps,F,0,aU,?_,qM B (by omega) rfl (Vu (d:=(1,a,k,b)) G),B,oH v⟩;obtain⟨z,H,_⟩:=wL (l:=now) (n:=a) u.1 (by rw[C];exact u.2);have D:cm .lss a (0:Int)=false:=by rw[cl];exact ZL (by omega)
  have E:cm .geq a (now.length:Int)=false:=by rw[G7];exact ZL (by omega)
  show ((bif cm .lss a (0:Int) then some true else some (cm .geq a (now.length:Int))).bind fun A=>bif A then some ((1:Int),aU,now,snaps) else (Sw.idx now a).bind fun _=>some ((0:Int),aU,(List.set now (Int.toNat a) aU),snaps))=_;rw[D,E];simp only[pF,cM,H]
 ·refine⟨v,now,snaps,s,1,aU,?_,qM h (by omega) rfl (Vu (d:=(1,a,k,b)) (BA h (show a<0\/a>=v.n by omega))),h,oH v⟩;have c:(bif cm .lss a (0:Int) then some true else some (cm .geq a (now.length:Int)))=some true:=by
   rw[cl,G7];by_cases c:a<0
   ·rw[y3 c];rfl
   ·rw[ZL c,y3 (by omega)];rfl
  show ((bif cm .lss a (0:Int) then some true else some (cm .geq a (now.length:Int))).bind fun A=>bif A then some ((1:Int),aU,now,snaps) else (Sw.idx now a).bind fun _=>some ((0:Int),aU,(List.set now (Int.toNat a) aU),snaps))=_;rw[c];rfl
theorem DS(h:Inv v now snaps s){a k:Int}{b:aR}:Kh v now snaps s (2,a,k,b):=by
 have C:=h.ep.S7;by_cases u:0<=a/\a<v.n
 ·refine⟨v,now,snaps,s,0,now.getD a.toNat [],?_,qM h (by omega) rfl (Vy (d:=(2,a,k,b)) (MN h u)),h,oH v⟩;obtain⟨z,F,G⟩:=wL (l:=now) (n:=a) u.1 (by rw[C];exact u.2);have D:cm .lss a (0:Int)=false:=by rw[cl];exact ZL (by omega)
  have E:cm .geq a (now.length:Int)=false:=by rw[G7];exact ZL (by omega)
  show ((bif cm .lss a (0:Int) then some true else some (cm .geq a (now.length:Int))).bind fun A=>bif A then some ((1:Int),aU,now,snaps) else (Sw.idx now a).bind fun B=>some ((0:Int),B,now,snaps))=_;rw[D,E];simp only[pF,cM,F];rw[R2,G];rfl
 ·refine⟨v,now,snaps,s,1,aU,?_,qM h (by omega) rfl (Vy (d:=(2,a,k,b)) (IF h (show a<0\/a>=v.n by omega))),h,oH v⟩;have c:(bif cm .lss a (0:Int) then some true else some (cm .geq a (now.length:Int)))=some true:=by
   rw[cl,G7];by_cases c:a<0
   ·rw[y3 c];rfl
   ·rw[ZL c,y3 (by omega)];rfl
  show ((bif cm .lss a (0:Int) then some true else some (cm .geq a (now.length:Int))).bind fun A=>bif A then some ((1:Int),aU,now,snaps) else (Sw.idx now a).bind fun B=>some ((0:Int),B,now,snaps))=_;rw[c];rfl
theorem Sn(h:Inv v now snaps s)(hb:v.h+1<=100000){a k:Int}{b:aR}:Kh v now snaps s (3,a,k,b):=by
 have D:=h.n1;have E:=h.hs;obtain⟨B,C,u⟩:=Ye h hb;refine⟨_,now,_,B,0,aU,?_,qM u (by omega) rfl (Vv (d:=(3,a,k,b)) C),u,⟨rfl,by simp only;omega,XZ _,by simp only;omega,by simp only;omega,by simp only;omega,by simp only;omega⟩⟩;show ((mH now).bind fun z=>(Sw.app snaps ([z]:(List (List aR)))).bind fun A=>some ((0:Int),aU,now,A))=_;rw[IP _ (by have:=h.ep.S7;omega),cM,UQ _ _ (by simp;omega)];rfl
theorem DT(h:Inv v now snaps s){a k:Int}{b:aR}:Kh v now snaps s (4,a,k,b):=by
 obtain⟨z,A,u,_⟩:=MP h;exact⟨v,now,snaps,z,0,aU,rfl,qM u (by omega) rfl (IM (d:=(4,a,k,b)) A),u,oH v⟩
theorem So(h:Inv v now snaps s)(ig:v.q+1<=100000)(ee:v.x+1<=100000){a k:Int}{b:aR}(ha:C1 a):Kh v now snaps s (5,a,k,b):=by
 obtain⟨E,F,G,z,A,B,C,D,u,_⟩:=Yj h ig ee ha;exact⟨_,now,snaps,z,0,aU,rfl,qM u (by omega) rfl (Vx (d:=(5,a,k,b)) D),u,⟨rfl,by simp only;omega,A,by simp only;omega,by simp only;omega,B,C⟩⟩
theorem DU(h:Inv v now snaps s){a k:Int}{b:aR}(ha:C1 a):Kh v now snaps s (6,a,k,b):=by
 obtain⟨z,A,u⟩:=MO h ha;exact⟨v,now,snaps,z,0,aU,rfl,qM u (by omega) rfl (IN (d:=(6,a,k,b)) A),u,oH v⟩
theorem Vz(h:Inv v now snaps s){a k:Int}{b:aR}(ha:C1 a):Kh v now snaps s (7,a,k,b):=by
 obtain⟨z,A,u⟩:=DG h ha;exact⟨v,now,snaps,z,0,aU,rfl,qM u (by omega) rfl (Yk (d:=(7,a,k,b)) A),u,oH v⟩
theorem Wa(h:Inv v now snaps s)(hb:v.fb+1<=3000){a k:Int}{b:aR}:Kh v now snaps s (8,a,k,b):=by
 have H:=h.B8;have I:=h.hs;have K:=h.n1;obtain⟨F,G,_,u⟩:=DJ h hb (8,a,k,b);refine⟨_,_,snaps,F,0,aU,?_,qM (i:=8) u (by omega) rfl G,u,⟨rfl,by simp only;omega,XZ _,XZ _,by simp only;omega,by simp only;omega,by simp only;omega⟩⟩;have z:snaps.getD v.h []∈snaps:=by
  rw[R2,C3 (by omega)];exact eo _
 show ((qK (now,snaps)).bind fun C=>(Sw.idx snaps C).bind fun D=>(mH D).bind fun E=>some ((0:Int),aU,E,snaps))=_;have A:qK (now,snaps)=some (v.h:Int):=by
  unfold qK;rw[M9 (by simp only;omega)];simp only;congr 1;omega
 have B:Sw.idx snaps (v.h:Int)=some (snaps.getD v.h []):=kW (by rw[R2,C3 (by omega)];rfl);rw[A,cM,B,cM,IP _ (by have:=h.ep.len _ z;omega)];rfl
theorem Wb(h:Inv v now snaps s)(hb:v.ob+1<=3000){a k:Int}{b:aR}:Kh v now snaps s (9,a,k,b):=by
 obtain⟨z,A,_,u⟩:=DK h hb (9,a,k,b);exact⟨_,now,snaps,z,0,aU,rfl,qM (i:=9) u (by omega) rfl A,u,⟨rfl,by simp only;omega,XZ _,by simp only;omega,XZ _,by simp only;omega,by simp only;omega⟩⟩
theorem Wc(h:Inv v now snaps s){a k:Int}{b:aR}(ha:C1 a)(hk:C1 k)(hb:YK b):Kh v now snaps s (10,a,k,b):=by
 obtain⟨z,A,u⟩:=DI h (d:=(10,a,k,b)) ha hk hb;exact⟨v,now,snaps,z,0,aU,rfl,qM u (by omega) rfl (Yl (d:=(10,a,k,b)) A),u,oH v⟩
theorem RX(h:Inv v now snaps s)(hb:v.h+1<=100000/\v.fb+1<=3000/\v.ob+1<=3000/\v.q+1<=100000/\v.x+1<=100000){d:Int×Int×Int×aR}(h1:C1 d.2.1)(h2:C1 d.2.2.1)(h3:YK d.2.2.2):Kh v now snaps s d:=by
 obtain⟨c,a,k,b⟩:=d;simp only at h1 h2 h3;by_cases z:c<0\/11<=c
 ·refine⟨v,now,snaps,s,3,aU,?_,MU h z,h,oH v⟩;have A:(bif (cm .lss c (0:Int)) then some true else some (cm .geq c (11:Int)))=some true:=by
   rw[cl,G7];by_cases u:c<0
   ·rw[y3 u];rfl
   ·rw[ZL u,y3 (by omega)];rfl
  unfold pI;rw[A];rfl
 ·have B:c=0\/c=1\/c=2\/c=3\/c=4\/c=5\/c=6\/c=7\/c=8\/c=9\/c=10:=by omega
  rcases B with rfl | rfl | rfl | rfl | rfl | rfl | rfl | rfl | rfl | rfl | rfl
  ·exact IS h h3
  ·exact DR h
  ·exact DS h
  ·exact Sn h hb.1
  ·exact DT h
  ·exact So h hb.2.2.2.1 hb.2.2.2.2 h1
  ·exact DU h h1
  ·exact Vz h h1
  ·exact Wa h hb.2.1
  ·exact Wb h hb.2.2.1
  ·exact Wc h h1 h2 h3
end Go.WT
namespace Go.WT
open Go Go.Sw Go.Mo Go.Pl
abbrev iT:=Int×Int×Int×aR
abbrev xH:=Int×aR×Int×Int×Int×List aR
def xI(d:iT):Prop:=C1 d.2.1/\C1 d.2.2.1/\YK d.2.2.2
inductive V8:Nm->List aR->List (List aR)->PS->List iT->List xH->Nm->List aR->List (List aR)->PS->Prop where
 |nil {v now snaps s} (h:Inv v now snaps s):V8 v now snaps s [] [] v now snaps s
 |cons {v now snaps s v' S8 YM s' v2 l9 XJ s2} {d:iT} {ds:List iT} {rs:List xH} {qN:Int} {YC:aR} (h:Inv v now snaps s) (hc:pI now snaps d=some (qN,YC,S8,YM))
   (hd:mX d s=some ((qN,YC,(v'.h:Int),s'.safe,(v'.k:Int),YM.getD v'.k []),none,s')) (h':Inv v' S8 YM s') (g:aJh v v') (t:V8 v' S8 YM s' ds rs v2 l9 XJ s2):
   V8 v now snaps s (d::ds) ((qN,YC,(v'.h:Int),s'.safe,(v'.k:Int),YM.getD v'.k [])::rs) v2 l9 XJ s2
theorem BH:∀(ds:List iT) {v:Nm} {now:List aR} {snaps:List (List aR)} {s:PS},Inv v now snaps s->(∀d∈ds,xI d)->v.h+ds.length<=100000->v.fb+ds.length<=3000->v.ob+ds.length<=3000->v.q+ds.length<=100000->v.x+ds.length<=100000->
  ∃rs v2 l9 XJ s2,V8 v now snaps s ds rs v2 l9 XJ s2/\rs.length=ds.length/\Inv v2 l9 XJ s2
 | [],v,now,snaps,s,h,_,_,_,_,_,_=>⟨[],v,now,snaps,s,.nil h,rfl,h⟩
 |d::ds,v,now,snaps,s,h,A,L,M,N,O,P=>by
  simp only[B0] at L M N O P;obtain⟨C,D,E⟩:=A d (X5 ..);obtain⟨V,X,YM,s',qN,YC,F,G,z,u⟩:=RX h (by omega) C D E;have Q:=u.h;have R:=u.fb;have S:=u.ob;have T:=u.q;have U:=u.x;obtain⟨rs,v2,l9,XJ,s2,H,I,K⟩:=BH ds z (fun x B=>A x (X4 _ B)) (by omega) (by omega) (by omega) (by omega) (by omega);exact⟨_,v2,l9,XJ,s2,.cons h F G z u H,by simp[I],K⟩
theorem Nj{n:Nat}(h0:1<=n)(h1:n<=32){ds:List iT}(hl:ds.length<=300)(hd:∀d∈ds,xI d):
  ∃s0 rs v2 l9 XJ s2,iG (n:Int)=some (some (VO s0),none)/\Inv ⟨n,0,1,1,0,0,0⟩ (List.replicate n aU) [List.replicate n aU] s0/\
   V8 ⟨n,0,1,1,0,0,0⟩ (List.replicate n aU) [List.replicate n aU] s0 ds rs v2 l9 XJ s2/\rs.length=ds.length/\Inv v2 l9 XJ s2:=by
 obtain⟨u,z,A,B,C⟩:=HY h0 h1;have h:=DF h0 h1 A B;obtain⟨rs,v2,l9,XJ,s2,D,E,F⟩:=BH ds h hd (by simp only;omega) (by simp only;omega) (by simp only;omega) (by simp only;omega) (by simp only;omega);exact⟨Iz n u z,rs,v2,l9,XJ,s2,C,h,D,E,F⟩
def NY(i:Int)(s:PS)(rs:List xH):=(i,s.n,s.fn,s.XF,s.WE,s.UZ,s.UN,s.UP,s.sent,s.safe,s.on,s.XE,s.VJ,s.first,s.receiver,rs,s.m5,s.fd,s.blocks,s.VQ,s.UW,s.j7,s.od,s.VM)
theorem IT{δ:Type}{step:_->Option (Step _ δ)}{l:List iT}{fin:PS->List xH->δ}
  (hs:∀(i:Nat) (d:iT) (s s':PS) (acc:List xH) (r:xH),l[i]? =some d->i<=1000->acc.length<=1000->mX d s=some (r,none,s')->step (NY (i:Int) s acc)=some (.next (NY ((i+1:Nat):Int) s' (acc++[r]))))
  (he:∀(s:PS) (acc:List xH),step (NY (l.length:Int) s acc)=some (.done (fin s acc))) (hl:l.length<=1000):
  ∀{v now snaps s ds rs v2 l9 XJ s2},V8 v now snaps s ds rs v2 l9 XJ s2->∀(pre:List iT) (acc:List xH) (f:Nat),l=pre++ds->acc.length=pre.length->ds.length<f->
   loop step f (NY (pre.length:Int) s acc)=some (fin s2 (acc++rs)):=by
 intro v now snaps s ds rs v2 l9 XJ s2 t
 induction t with
 |nil h=>
  intro pre acc f u B z;obtain⟨f,rfl⟩:∃g,f=g+1:=⟨f - 1,by simp at z;omega⟩;have:pre=l:=by simpa using u.symm
  rw[this,Go.VW.ZF (he _ _),V2]
 |cons h F C G g t D=>
  rename_i d ds rs qN YC;intro pre acc f u B z;simp only[B0] at z;obtain⟨f,rfl⟩:∃g,f=g+1:=⟨f - 1,by omega⟩;have E:l.length=pre.length+ds.length+1:=by rw[u];simp;omega
  rw[Go.VW.ZE (hs pre.length d _ _ acc _ (by rw[u];simp) (by omega) (by omega) C)];have A:=fun r:xH=>D (pre++[d]) (acc++[r]) f (by rw[u];simp) (by simp[B]) (by omega);simp only[pT,aCd,u9,List.singleton_append] at A ⊢;exact A _
end Go.WT
namespace Go.WT
open Go Go.Sw Go.Mo Go.Pl
theorem PK{n:Nat}(h0:1<=n)(h1:n<=32){ds:List iT}(hl:ds.length<=300){s0:PS}(XI:iG (n:Int)=some (some (VO s0),none)){v now snaps rs v2 l9 XJ s2}(t:V8 v now snaps s0 ds rs v2 l9 XJ s2):
  jH (n:Int) ds=some (some (VO s2),rs,none):=by
 have A:cm .lss (n:Int) (1:Int)=false:=by rw[cl];exact ZL (by omega)
 have B:cm .gtr (n:Int) (32:Int)=false:=by rw[cg];exact ZL (by omega)
 have C:cm .gtr (ds.length:Int) (300:Int)=false:=by rw[cg];exact ZL (by omega)
 unfold jH;rw[A,B,C];simp only[pF,cM];rw[XI,cM];simp only[xE,ZI,pF];unfold lp
 rw[show (((0:Int),(VO s0).1,(VO s0).2.1,(VO s0).2.2.1,(VO s0).2.2.2.1,(VO s0).2.2.2.2.2.1,(VO s0).2.2.2.2.2.2.2.1,(VO s0).2.2.2.2.2.2.2.2.1,(VO s0).2.2.2.2.2.2.2.2.2.1,(VO s0).2.2.2.2.2.2.2.2.2.2.1,(VO s0).2.2.2.2.2.2.2.2.2.2.2.2.1,(VO s0).2.2.2.2.2.2.2.2.2.2.2.2.2.1,(VO s0).2.2.2.2.2.2.2.2.2.2.2.2.2.2.1,(VO s0).2.2.2.2.2.2.2.2.2.2.2.2.2.2.2.1,(VO s0).2.2.2.2.2.2.2.2.2.2.2.2.2.2.2.2.1,([]:(List (Int×aR×Int×Int×Int×(List aR)))),(VO s0).2.2.2.2.2.2.2.2.2.2.2.2.2.2.2.2.2.2.1,(VO s0).2.2.2.2.2.2.2.2.2.2.2.2.2.2.2.2.2.2.2.1,(VO s0).2.2.2.2.1,(VO s0).2.2.2.2.2.2.1,(VO s0).2.2.2.2.2.2.2.2.2.2.2.1,(VO s0).2.2.2.2.2.2.2.2.2.2.2.2.2.2.2.2.2.2.2.2.1,(VO s0).2.2.2.2.2.2.2.2.2.2.2.2.2.2.2.2.2.2.2.2.2,(VO s0).2.2.2.2.2.2.2.2.2.2.2.2.2.2.2.2.2.1))=NY ((([]:List iT).length:Nat):Int) s0 [] from rfl,
  IT (l:=ds) (fin:=fun s rs=>Ex.VP (NY 0 s rs).2) ?_ ?_ (by omega) t [] [] fI rfl rfl (by unfold fI;omega)]
 ·rfl
 ·intro i d s H acc r u I K h;unfold mX at h;have G:i<ds.length:=(yp.1 u).1;have D:cm .lss (i:Int) (ds.length:Int)=true:=by rw[cl];exact y3 (by omega)
  simp only[NY];rw[D,WR,kW u,cM];cases hz:hC d s.n s.fn s.XF s.WE s.blocks s.UZ s.VQ s.UN s.UP s.sent s.safe s.UW s.on s.XE s.VJ s.first s.receiver s.VM s.m5 s.fd s.j7 s.od with
  |none=>rw[hz] at h;cases h
  |some z=>
   rw[hz] at h;simp only[cM,u6,R0] at h;obtain⟨rfl,F,rfl⟩:=h;rw[cM];simp only[F,ZI,pF];rw[UQ _ _ (by simp;omega),cM,l5 (by omega)]
 ·intro s acc;have E:cm .lss (ds.length:Int) (ds.length:Int)=false:=by rw[cl];exact ZL (by omega)
  simp only[NY];rw[E,pF]
end Go.WT
namespace Go.WT
open Go Go.Sw Go.Mo Go.Pl
theorem IU{n:Nat}(h0:1<=n)(h1:n<=32){ds:List iT}(hl:ds.length<=300){s0:PS}(XI:iG (n:Int)=some (some (VO s0),none)){v now snaps rs v2 l9 XJ s2}(t:V8 v now snaps s0 ds rs v2 l9 XJ s2):
  jH (n:Int) ds=some (some (VO s2),rs,none)/\mG (n:Int) ds=some (rs,none):=by
 have h:=PK h0 h1 hl XI t;refine⟨h,?_⟩;unfold mG;rw[h];rfl
end Go.WT
namespace Go.WT
open Go Go.Sw Go.Mo Go.Pl
def SP(i:Nat)(x:Option (Step (Int×List iT) (Ex (List iT) (List iT)))):Prop:=∃l':List iT,x=some (.next (((i+1:Nat):Int),l'))/\l'.length=i+1/\∀d∈l',xI d
theorem PL{i:Nat}{c:Bool}{a b:Option (Step (Int×List iT) (Ex (List iT) (List iT)))}(ha:SP i a)(hb:SP i b):SP i (bif c then a else b):=by cases c<;>assumption
theorem SP.jp{i:Nat}{β:Type}{k:β->Option (Step (Int×List iT) (Ex (List iT) (List iT)))}{body:(β->Option (Step (Int×List iT) (Ex (List iT) (List iT))))->Option (Step (Int×List iT) (Ex (List iT) (List iT)))}(hk:∀x,SP i (k x))(h:∀k',(∀x,SP i (k' x))->SP i (body k')):SP i (Sw.jp k body):=h k hk
theorem MV{i:Nat}{l:List iT}{d:iT}(hi:i<=1000)(hl:l.length=i)(h:∀d∈l,xI d)(hd:xI d):SP i ((Sw.app l [d]).bind fun v=>some (.next ((ar .add .i64 (i:Int) 1),v))):=by
 rw[UQ _ _ (by simp[hl];omega),cM,l5 (by omega)]
 exact⟨_,rfl,by simp[hl],fun x u=>by
  rcases J6.1 u with u | u
  ·exact h x u
  ·rw[yr.1 u];exact hd⟩
theorem SP.block{i:Nat}{raw:List Int}(hr:GP raw){p:Nat}(hp:p<=100000){k:aR->Option (Step (Int×List iT) (Ex (List iT) (List iT)))}(hk:∀b,YK b->SP i (k b)):SP i ((kC raw (p:Int)).bind k):=by
 obtain⟨b,h,u⟩:=Rv hr p hp;rw[h,cM];exact hk b u
theorem Sp{v:Nat}(h:v<=100000000000):C1 (v:Int):=by unfold C1;omega
theorem DV{many:Nat}(hm:many<=300){step:Int×List iT->Option (Step (Int×List iT) (Ex (List iT) (List iT)))}
  (hs:∀i l,i<many->l.length=i->(∀d∈l,xI d)->SP i (step ((i:Int),l))) (he:∀l,step ((many:Int),l)=some (.done (.VP l))):
  ∃ds,lp step ((0:Int),([]:List iT)) (fun x=>some x)=some ds/\ds.length=many/\∀d∈ds,xI d:=by
 obtain⟨b,⟨z,A⟩,B⟩:=NU (γ:=List iT) (step:=step) (k:=fun x=>some x) (fun i (l:List iT)=>((i:Int),l)) (fun l=>l) many (fun i l=>l.length=i/\∀d∈l,xI d) [] (by unfold fI;omega) ⟨rfl,by simp⟩
  (fun i l u h=>hs i l u h.1 h.2) (fun l _=>he l)
 exact⟨b,B,z,A⟩
theorem RY{k a b:Int}{x:aR}(h1:C1 a)(h2:C1 b)(h3:YK x):xI (k,a,b,x):=⟨h1,h2,h3⟩
theorem Oo{raw:List Int}(hr:GP raw)(at_ many n:Nat)(ha:at_<=1000)(hm:many<=300)(hn:1<=n)(nu:n<=1000):∃ds,lB raw (at_:Int) (many:Int) (n:Int)=some ds/\ds.length=many/\∀d∈ds,xI d:=by
 unfold lB;refine DV hm (fun i l U K L=>?_) (fun l=>?_)
 ·rw[cl,y3 (by omega),WR,YZ (by omega),show (at_:Int)+(i:Int)=((at_+i:Nat):Int) by omega];obtain⟨v,P,V⟩:=Xl hr (at_+i) (by omega);rw[P,cM,GN (by omega),cM];have B:ar .quo .i64 (v:Int) 40=((v / 40:Nat):Int):=GM (b:=40) (by omega);have C:ar .quo .i64 (v:Int) 7=((v / 7:Nat):Int):=GM (b:=7) (by omega);have D:ar .rem .i64 ((v / 40:Nat):Int) (n:Int)=((v / 40 % n:Nat):Int):=AD;have E:ar .rem .i64 ((v / 7:Nat):Int) 90=((v / 7 % 90:Nat):Int):=AD (b:=90);have F:ar .rem .i64 ((v / 40:Nat):Int) 7=((v / 40 % 7:Nat):Int):=AD (b:=7);have Q:v / 40 % n<=1000:=by have:=kn (v / 40) (show n>0 by omega);omega
  have R:v / 7 % 90<=1000:=by omega
  have S:v / 40 % 7<=1000:=by omega
  rw[B,C,D,E,F];have u:C1 ((v / 40 % n:Nat):Int):=Sp (by omega);have G:C1 ((v / 7 % 90:Nat):Int):=Sp (by omega);have z:C1 ((v / 40 % 7:Nat):Int):=Sp (by omega);have T:ar .add .i64 ((at_+i:Nat):Int) 0=((at_+i:Nat):Int):=by rw[YZ (by omega)];omega
  have H:ar .add .i64 (at_:Int) (ar .mul .i64 3 (i:Int))=((at_+3*i:Nat):Int):=by
   rw[show ar .mul .i64 3 (i:Int)=((3*i:Nat):Int) from Ha (a:=3) (by omega),YZ (by omega)];omega
  have I:ar .add .i64 (at_:Int) (ar .mul .i64 2 (i:Int))=((at_+2*i:Nat):Int):=by
   rw[show ar .mul .i64 2 (i:Int)=((2*i:Nat):Int) from Ha (a:=2) (by omega),YZ (by omega)];omega
  rw[H,I];have h:∀(k a:Int) (b:aR),C1 a->YK b->SP i ((Sw.app l [(k,a,((v / 7 % 90:Nat):Int),b)]).bind fun v=>some (.next ((ar .add .i64 (i:Int) 1),v))):=fun k a b M N=>MV (by omega) K L (RY M G N)
  repeat' (first
   | (with_reducible exact h _ _ _ u y7)
   | (with_reducible exact h _ _ _ z y7)
   | (with_reducible exact h _ _ _ u A)
   | (with_reducible exact h _ _ _ z A)
   | (with_reducible exact O _)
   | (with_reducible refine SP.block hr (by omega) fun b A=>?_)
   | (with_reducible refine SP.jp (fun x=>?_) (fun k O=>?_))
   | (with_reducible refine PL ?_ ?_))
 ·rw[cl,ZL (by omega)];rfl
end Go.WT
namespace Go.WT
open Go Go.Sw Go.Mo Go.Pl
theorem Wd{raw:List Int}(hr:GP raw){a1 a2 a3:Int}(h1:Go.Pl.C1 a1)(h2:Go.Pl.C1 a2)(h3:Go.Pl.C1 a3)(M:Nat)(hM0:0<M)(hM:M<=300):
  ∃(n:Nat) (p1 p2 p3:Int) (ds:List iT),1<=n/\n<=32/\lI a1 32=some p1/\ar .add .i64 (1:Int) p1=(n:Int)/\lI a2 1000=some p2/\lI a3 (M:Int)=some p3/\
   lB raw p2 p3 (n:Int)=some ds/\ds.length<=300/\∀d∈ds,xI d:=by
 have G:=Kz (c:=a1) (n:=32) (by omega);have H:=Kz (c:=a2) (n:=1000) (by omega);have I:=Kz (c:=a3) (n:=(M:Int)) (by omega);obtain⟨h,B⟩:∃k:Nat,pick a1 32=k:=⟨(pick a1 32).toNat,by omega⟩;obtain⟨u,C⟩:∃k:Nat,pick a2 1000=k:=⟨(pick a2 1000).toNat,by omega⟩;obtain⟨z,D⟩:∃k:Nat,pick a3 (M:Int)=k:=⟨(pick a3 (M:Int)).toNat,by omega⟩;have A:ar .add .i64 (1:Int) (h:Int)=((h+1:Nat):Int):=by rw[YZ (by omega)];omega
 obtain⟨ds,E,K,F⟩:=Oo hr u z (h+1) (by omega) (by omega) (by omega) (by omega);exact⟨h+1,h,u,z,ds,by omega,by omega,by rw[Ky h1 (by omega),B],A,by rw[Ky h2 (by omega),C],by rw[Ky h3 (by omega),D],E,by omega,F⟩
end Go.WT
namespace Go.WT
open Go Go.Sw Go.Mo Go.Pl
def fD(d:iT):Bool:=decide (d.1≠4) && (decide (d.1≠5) && (decide (d.1≠6) && (decide (d.1≠7) && (decide (d.1≠10) && decide (d.1≠9)))))
theorem Ym{d:iT}(h:fD d=false){now:List aR}{snaps:List (List aR)}:pI now snaps d=some (0,aU,now,snaps):=by
 obtain⟨k,a,c,b⟩:=d;have u:k=4\/k=5\/k=6\/k=7\/k=10\/k=9:=by
  unfold fD at h;simp only[Bool.and_eq_false_iff,decide_eq_false_iff_not,ne_eq,aCs] at h;omega
 rcases u with rfl | rfl | rfl | rfl | rfl | rfl<;>rfl
theorem IV{ds:List iT}(hl:ds.length<=1000):vN ds=some (ds.filter fD):=by
 unfold vN lp;have z:∀(r h acc:List iT) (f:Nat),ds=h++r->acc.length<=h.length->r.length<f->∀(step:Int×List iT->Option (Step (Int×List iT) (Ex (List iT) (List iT)))),
   (∀(i:Nat) (d:iT) (acc:List iT),ds[i]? =some d->acc.length<=1000->step ((i:Int),acc)=some (.next (((i+1:Nat):Int),bif fD d then acc++[d] else acc)))->
   (∀acc,step ((ds.length:Int),acc)=some (.done (.VP acc)))->loop step f ((h.length:Int),acc)=some (.VP (acc++r.filter fD)):=by
  intro r
  induction r with
  |nil=>
   intro h acc f u K B step C D;obtain⟨f,rfl⟩:∃g,f=g+1:=⟨f - 1,by simp at B;omega⟩;have:h=ds:=by simpa using u.symm
   rw[this,Go.VW.ZF (D _)];simp
  |cons d r N=>
   intro h acc f u K B step C D;simp only[B0] at B;obtain⟨f,rfl⟩:∃g,f=g+1:=⟨f - 1,by omega⟩;have O:ds.length=h.length+r.length+1:=by rw[u];simp;omega
   rw[Go.VW.ZE (C h.length d acc (by rw[u];simp) (by omega))];have z:=N (h++[d]) (bif fD d then acc++[d] else acc) f (by rw[u];simp) (by cases fD d<;>simp<;>omega) (by omega) step C D;simp only[pT,aCd] at z;rw[z];cases hd:fD d<;>simp[hd]
 rw[show (((0:Int),([]:List iT)):Int×List iT)=(((([]:List iT).length:Nat):Int),[]) from rfl,z ds [] [] fI rfl (by simp) (by unfold fI;omega)]
 ·simp
 ·intro i d acc L K;have P:i<ds.length:=(yp.1 L).1;have A:cm .lss (i:Int) (ds.length:Int)=true:=by rw[cl];exact y3 (by omega)
  have M:(bif (cm .neq d.1 (4:Int)) then
    bif (cm .neq d.1 (5:Int)) then
     bif (cm .neq d.1 (6:Int)) then
      bif (cm .neq d.1 (7:Int)) then
       bif (cm .neq d.1 (10:Int)) then
        some (cm .neq d.1 (9:Int))
       else
        some false
      else
       some false
     else
      some false
    else
     some false
    else
     some false)=some (fD d):=by
   simp only[cn];unfold fD;by_cases E:d.1=4
   ·simp[E]
   by_cases F:d.1=5
   ·simp[F]
   by_cases G:d.1=6
   ·simp[G]
   by_cases H:d.1=7
   ·simp[H]
   by_cases I:d.1=10
   ·simp[I]
   simp[E,F,G,H,I]
  simp only[A,WR,kW L,cM];rw[M,cM];cases hd:fD d
  ·simp only[pF];rw[l5 (by omega)]
  ·simp only[WR];rw[UQ _ _ (by simp;omega),cM,l5 (by omega)]
 ·intro acc;have A:cm .lss (ds.length:Int) (ds.length:Int)=false:=by rw[cl];exact ZL (by omega)
  simp only[A,pF]
theorem We{δ:Type}{step:Int×Int->Option (Step (Int×Int) δ)}{l q:List iT}{L LQ:List xH}{fin:δ}
  (hq:∀(i k:Nat) (d:iT) (r r':xH),l[i]? =some d->q[k]? =some d->L[i]? =some r->LQ[k]? =some r'->r.1=r'.1->r.2.1=r'.2.1->r.2.2.1=r'.2.2.1->i<=1000->k<=1000->step ((k:Int),(i:Int))=some (.next (((k+1:Nat):Int),((i+1:Nat):Int))))
  (hn:∀(i k:Nat) (d:iT) (r:xH),l[i]? =some d->(∀d',q[k]? =some d'->d≠d')->L[i]? =some r->r.1=0->r.2.1=aU->i<=1000->step ((k:Int),(i:Int))=some (.next ((k:Int),((i+1:Nat):Int))))
  (he:step ((q.length:Int),(l.length:Int))=some (.done fin)) (hl:l.length<=1000) (hqc:∀d∈q,fD d=true):
  ∀{v now snaps s ds rs v2 l9 XJ s2},V8 v now snaps s ds rs v2 l9 XJ s2->∀{w t tx w2 ll K0 t2},V8 w now snaps t (ds.filter fD) tx w2 ll K0 t2->
   ∀(pre y9:List iT) (lh C6:List xH) (f:Nat),l=pre++ds->q=y9++ds.filter fD->L=lh++rs->LQ=C6++tx->lh.length=pre.length->C6.length=y9.length->y9.length<=pre.length->ds.length<f->
   loop step f ((y9.length:Int),(pre.length:Int))=some fin:=by
 intro v now snaps s ds rs v2 l9 XJ s2 t
 induction t with
 |nil h=>
  intro w t tx w2 ll K0 t2 A pre y9 lh C6 f B z D E I F h7 K;obtain⟨f,rfl⟩:∃g,f=g+1:=⟨f - 1,by simp at K;omega⟩;have V:pre=l:=by simpa using B.symm
  have X:y9=q:=by simpa using z.symm
  rw[V,X,Go.VW.ZF he]
 |cons h U hd h' g t ih=>
  rename_i v now snaps s G S8 M s' v2 l9 XJ s2 d ds rs qN YC;intro w u tx w2 ll K0 N A pre y9 lh C6 f B z D E I F h7 K;simp only[B0] at K;obtain⟨f,rfl⟩:∃g,f=g+1:=⟨f - 1,by omega⟩;have ab:l.length=pre.length+ds.length+1:=by rw[B];simp;omega
  have P:∀{w u tx w2 ll K0 N},V8 w S8 M u (ds.filter fD) tx w2 ll K0 N->∀(y9:List iT) (C6:List xH) (r:xH),q=y9++ds.filter fD->L=lh++r::rs->LQ=C6++tx->C6.length=y9.length->y9.length<=pre.length+1->loop step f ((y9.length:Int),((pre.length+1:Nat):Int))=some fin:=by
   intro w u tx w2 ll K0 N aa y9 C6 r S C T O k5;have:=ih aa (pre++[d]) y9 (lh++[r]) C6 f (by rw[B];simp) S (by rw[C];simp) T (by simp[I]) O (by simp;omega) (by omega);simp only[pT,aCd] at this;exact this
  have Q:l[pre.length]? =some d:=by rw[B];simp
  have R:L[pre.length]? =some (qN,YC,(G.h:Int),s'.safe,(G.k:Int),M.getD G.k []):=by rw[D,<-I];simp
  cases XP:fD d with
  |false=>
   have e:=Ym XP (now:=now) (snaps:=snaps);rw[U] at e;simp only[u6,R0] at e;obtain⟨rfl,rfl,rfl,rfl⟩:=e;rw[List.filter_cons_of_neg (by rw[XP];simp)] at A z
   rw[Go.VW.ZE (hn pre.length y9.length d _ Q (fun d' xp e=>by
    have:=hqc d' (yw xp)
    rw[<-e,XP] at this;cases this) R rfl rfl (by omega))]
   exact P A y9 C6 _ z D E F (by omega)
  |true=>
   rw[List.filter_cons_of_pos XP] at A z;cases A with
   |cons S C T O k5 k6=>
    rename_i H ac ad u' ae af am;rw[U] at C;simp only[u6,R0] at C;obtain⟨rfl,rfl,rfl,rfl⟩:=C;have hh:G.h=H.h:=by have:=h'.hs;have:=O.hs;omega
    rw[Go.VW.ZE (hq pre.length y9.length d _ _ Q (by rw[z];simp) R (show LQ[y9.length]? =some (qN,YC,(H.h:Int),u'.safe,(H.k:Int),M.getD H.k []) by rw[E,<-F];simp) rfl rfl (by simp only[hh]) (by omega) (by omega))];have:=P k6 (y9++[d]) (C6++[_]) _ (by rw[z];simp) D (by rw[E,u9];rfl) (by simp[F]) (by simp;omega);simp only[pT,aCd] at this;exact this
theorem br{a0:List Int}{a1 a2 a3:Int}(hw:∀x∈a0,Go.Pl.C1 x)(h1:Go.Pl.C1 a1)(h2:Go.Pl.C1 a2)(h3:Go.Pl.C1 a3):pJ a0 a1 a2 a3=some true:=by
 unfold pJ;by_cases I:(128:Int)<(a0.length:Int)
 ·have e:cm .gtr (a0.length:Int) (128:Int)=true:=by rw[cg];exact y3 I
  rw[e];rfl
 ·have e:cm .gtr (a0.length:Int) (128:Int)=false:=by rw[cg];exact ZL I
  obtain⟨n,p1,p2,p3,ds,A,B,V,X,b3,b4,b5,N,O⟩:=Wd (raw:=a0) ⟨hw,by omega⟩ h1 h2 h3 150 (by omega) (by omega);rw[e,pF,V,cM,b3,cM,show (150:Int)=((150:Nat):Int) from rfl,b4,cM,X,b5,cM,IV (by omega),cM];have aa:(ds.filter fD).length<=ds.length:=aCl _ _;obtain⟨s0,rs,v2,l9,XJ,s2,c1,c2,P,c4,c5⟩:=Nj A B N O;obtain⟨ab,tx,ac,ad,ae,af,d1,d2,Q,d4,d5⟩:=Nj A B (ds:=ds.filter fD) (by omega) (fun d H=>O d (sx.1 H).1);rw[(IU A B N c1 P).2,cM,(IU A B (by omega) d1 Q).2,cM];have C:∀x:Int,cm .neq x x=false:=fun x=>by rw[cn];simp
  simp only[ZI,pF,c4,d4,C,cM];unfold lp
  rw[show ((0:Int),(0:Int))=(((([]:List iT).length:Nat):Int),((([]:List iT).length:Nat):Int)) from rfl,
   We (l:=ds) (q:=ds.filter fD) (L:=rs) (LQ:=tx) (fin:=Ex.VP ((ds.filter fD).length:Int)) ?_ ?_ ?_ (by omega) (fun d H=>(sx.1 H).2) P Q [] [] [] [] fI rfl rfl rfl rfl rfl rfl (XZ _) (by unfold fI;omega)]
  ·simp only[ce];simp
  ·intro i k d r r' u z E F G M S g8 g9;have R:i<ds.length:=(yp.1 u).1;have K:k<(ds.filter fD).length:=(yp.1 z).1;have h:cm .lss (i:Int) (ds.length:Int)=true:=by rw[cl];exact y3 (by omega)
   have D:cm .lss (k:Int) ((ds.filter fD).length:Int)=true:=by rw[cl];exact y3 (by omega)
   simp only[h,D,WR,kW u,kW z,kW E,kW F,cM,Y8,G,M,S,C,pF,iz];rw[l5 (by omega),l5 (by omega)]
  ·intro i k d r u z E F G M;have R:i<ds.length:=(yp.1 u).1;have h:cm .lss (i:Int) (ds.length:Int)=true:=by rw[cl];exact y3 (by omega)
   have D:(bif cm .lss (k:Int) ((ds.filter fD).length:Int) then (Sw.idx ds (i:Int)).bind fun T=>(Sw.idx (ds.filter fD) (k:Int)).bind fun U=>some (decide (T=U)) else some false)=some false:=by
    rw[cl];by_cases c:(k:Int)<((ds.filter fD).length:Int)
    ·have K:k<(ds.filter fD).length:=by omega
     have gk:=C3 K;rw[y3 c,WR,kW u,cM,kW gk,cM,ZL (z _ gk)]
    ·rw[ZL c,pF]
   simp only[h,WR];rw[D];simp only[cM,pF,kW E,F,G,C,Y8,iz];rw[l5 (by omega)]
  ·have h:cm .lss (ds.length:Int) (ds.length:Int)=false:=by rw[cl];exact ZL (by omega)
   simp only[h,pF]
end Go.WT
