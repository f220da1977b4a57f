/- Plain laws about these plain functions alone. Conditions: none. -/
import Derived.Test.YteckohdbfkhmdacGreatDoorMCSettleSays
set_option linter.unusedVariables false
set_option linter.unusedSimpArgs false
namespace Go.WT
open Go.Pl
open Go Go.Sw Go.Mo
theorem NB{γ:Type}{step:Int×List Int->Option (Step (Int×List Int) (Ex (Int×List Int) γ))}{k:Int×List Int->Option γ}
  (h1:∀(n:Nat) acc,128<=n->n<34359738368->acc.length<=1000000->step ((n:Int),acc)=some (.next (((n / 128:Nat):Int),acc++[((128+n % 128:Nat):Int)])))
  (h2:∀(n:Nat) acc,n<128->step ((n:Int),acc)=some (.done (.WN ((n:Int),acc)))) (n:Nat) (acc:List Int) (hn:n<34359738368) (ha:acc.length<=900000):
  ∃(m:Nat) (XU:List Int),lp step ((n:Int),acc) k=k ((m:Int),XU)/\m<128/\XU++[(m:Int)]=acc++vf 4 n:=by
 obtain⟨m,XU,h,u,z⟩:=Qv h1 h2 4 n acc fO (by omega) hn (by omega) (by unfold fO;omega);exact⟨m,XU,by unfold lp;rw[h],u,z⟩
structure Good (f:fJ):Prop where
 s0:0<=f.1
 s1:f.1<=15
 ns:f.2.1.length<=12
 bs:f.2.2.length<=32
 num:∀n∈f.2.1,0<=n/\n<=2147483647
 YV:∀b∈f.2.2,b.length=8/\Bytes b
theorem qM{f:fJ}(h:dZ f=0)(hb:∀b∈f.2.2,b.length=8/\Bytes b):Good f:=by
 unfold dZ at h;split at h
 ·cases h
 ·split at h
  ·cases h
  ·split at h
   ·cases h
   ·rename_i B C u;refine⟨by omega,by omega,by omega,by omega,fun n z=>?_,hb⟩;have:¬wO n=true:=fun A=>u (aDf.2 ⟨n,z,A⟩);simp[wO] at this;omega
theorem Vo{ns:List Int}(h:∀n∈ns,0<=n/\n<=2147483647):Bytes (vs ns)/\(vs ns).length<=5*ns.length:=by
 induction ns with
 |nil=>exact⟨fun x u=>by simp[vs] at u,by simp[vs]⟩
 |cons n ns C=>
  obtain⟨z,A⟩:=C (fun x u=>h x (by simp[u]));have D:=h n (by simp);obtain⟨B,E⟩:=Nk 4 n.toNat (by omega);refine⟨fun x u=>?_,?_⟩
  ·simp only[vs,aEr,K5] at u;rcases u with u | u
   ·exact B x u
   ·exact z x u
  ·simp only[vs,aEr,sM,C8];unfold vs at A;omega
theorem u0{bs:List aQ}(h:∀b∈bs,b.length=8/\Bytes b):Bytes bs.flatten/\bs.flatten.length=8*bs.length:=by
 induction bs with
 |nil=>exact⟨fun x u=>by simp at u,rfl⟩
 |cons b bs D=>
  obtain⟨z,A⟩:=D (fun x u=>h x (by simp[u]));obtain⟨B,C⟩:=h b (by simp);refine⟨fun x u=>?_,by simp only[aC2,sM,A,B,C8];omega⟩;simp only[aC2,K5] at u;rcases u with u | u
  ·exact C x u
  ·exact z x u
theorem rC{f:fJ}(h:Good f):Bytes (body f)/\(body f).length<=1000:=by
 obtain⟨z,B⟩:=Vo h.num;obtain⟨A,C⟩:=u0 h.YV;have:=h.ns;have:=h.bs;refine⟨fun x u=>?_,by simp only[body,Hu,sM,C8,V8];omega⟩;simp only[body,K5] at u;rcases u with (u | u) | u
 ·simp only[Hu,o6,aCl,aEl] at u;rcases u with rfl | rfl
  ·have:=yL .u8 (ar .add .i64 (ar .mul .i64 16 f.1) (f.2.1.length:Int));unfold Ea at this;simpa[IntKind.min,IntKind.max,IntKind.signed,IntKind.bits] using this
  ·have:=yL .u8 (f.2.2.length:Int);unfold Ea at this;simpa[IntKind.min,IntKind.max,IntKind.signed,IntKind.bits] using this
 ·exact z x u
 ·exact A x u
theorem Et{f:fJ}(h:Good f)(he:dZ f=0):mU f=some (aZ f,none):=by
 obtain⟨s,u,A⟩:=f;have M:=h.s0;have N:=h.s1;have D:=h.ns;have E:=h.bs;have F:=h.num;have G:=h.YV;simp only at D E F G M N;obtain⟨af,al⟩:=Vo F;obtain⟨am,an⟩:=u0 G;obtain⟨K,T7⟩:=rC h;unfold mU;rw[Fo,WV he];simp only[cM,ZY,pF];have O:ar .or .u8 (sh .shl .u8 (IntKind.wrap .u8 s) 4) (IntKind.wrap .u8 (u.length:Int))=IntKind.wrap .u8 (ar .add .i64 (ar .mul .i64 16 s) (u.length:Int)):=by
  have:=IP ⟨s.toNat,by omega⟩ ⟨u.length,by omega⟩;have e:((s.toNat:Nat):Int)=s:=by omega
  simpa[e] using this
 rw[O,show ((0:Int),[IntKind.wrap .u8 (ar .add .i64 (ar .mul .i64 16 s) (u.length:Int)),IntKind.wrap .u8 (A.length:Int)])=(((0:Nat):Int),Hu (s,u,A)) from rfl];rw[D2 (l:=u) (fun i (acc:List Int)=>((i:Int),acc)) (fun i acc=>acc.length<=2+5*i) (Hu (s,u,A)) (fun _ n acc=>acc++vf 4 n.toNat) (fun acc=>acc) (by unfold fO;omega) (by simp[Hu])]
 ·rw[ZO (fun n:Int=>vf 4 n.toNat)];rw[show ((0:Int),Hu (s,u,A)++u.flatMap (fun n=>vf 4 n.toNat))=(((0:Nat):Int),Hu (s,u,A)++vs u) from rfl];rw[D2 (l:=A) (fun i (acc:List Int)=>((i:Int),acc)) (fun i acc=>acc.length<=100+8*i) (Hu (s,u,A)++vs u) (fun _ z acc=>acc++z) (fun acc=>acc) (by unfold fO;omega) (by simp[Hu];omega)]
  ·rw[ZO (fun z:aQ=>z)];have P:Hu (s,u,A)++vs u++A.flatMap (fun z=>z)=body (s,u,A):=by simp[body,List.flatMap_id']
   rw[P,IN _ K (by omega)];simp only[cM];have XK:Aa (nat (body (s,u,A)))<4294967296:=Hs _ _ (by decide) (Ht K);generalize hv:4294967295 - Aa (nat (body (s,u,A)))=v;have ZZ:v<4294967296:=by omega
   have Q:sh .shr .u32 (v:Int) 24=((v / 16777216:Nat):Int):=by
    show Int.fdiv _ _=_;have:(2:Int) ^ min (24:Int).toNat (IntKind.bits .u32)=16777216:=by decide
    rw[this,vt _ (by omega)];omega
   have R:sh .shr .u32 (v:Int) 16=((v / 65536:Nat):Int):=by
    show Int.fdiv _ _=_;have:(2:Int) ^ min (16:Int).toNat (IntKind.bits .u32)=65536:=by decide
    rw[this,vt _ (by omega)];omega
   have S:sh .shr .u32 (v:Int) 8=((v / 256:Nat):Int):=by
    show Int.fdiv _ _=_;have:(2:Int) ^ min (8:Int).toNat (IntKind.bits .u32)=256:=by decide
    rw[this,vt _ (by omega)];omega
   rw[Q,R,S,Dg,Dg,Dg,Dg];rw[VM _ _ (by simp;omega)];simp only[cM,aZ,hv,y6];have T:v / 16777216 % 256=v / 16777216:=P4 (by omega);simp[T]
  ·rintro C z ab acc rfl hI;obtain⟨hz,_⟩:=G z (by simp);simp only[pM,XT,mX,cM];have dt:C.length<=32:=by simp at E;omega
   rw[VM _ _ (by omega),HS (n:=C.length) (m:=1000000) (by simp at E;omega) (by omega)];exact⟨rfl,by simp;omega⟩
  ·intro acc _;simp[dS]
 ·rintro C n ab acc rfl hI;have hn:=F n (by simp);obtain⟨m,rfl⟩:∃m:Nat,n=(m:Int):=⟨n.toNat,by omega⟩
  simp only[pM,XT,mX,cM];have U:acc.length<=900000:=by simp at D;omega
  obtain⟨q,XU,H,h4,L⟩:=NB (γ:=Step (Int×List Int) (Ex (List Int) (List Int×Option Int))) (step:=fun (B:Int×(List Int))=>
    bif (cm .gtr B.1 (127:Int)) then
     (Sw.app B.2 ([(ar .or .u8 (IntKind.wrap .u8 B.1) (128:Int))]:(List Int))).bind fun X=>
      some (.next ((sh .shr .i64 B.1 (7:Int)),X))
    else
     some (.done (.WN (B.1,B.2))))
   (k:=fun (I:Int×(List Int))=>(Sw.app I.2 ([(IntKind.wrap .u8 I.1)]:(List Int))).bind fun aa=>some (.next ((ar .add .i64 (C.length:Int) (1:Int)),aa)))
   (by
    intro n acc V h2 H;have:cm .gtr (n:Int) 127=true:=by simp[cm];omega
    simp only[this,XT];rw[Dg,TZ ⟨n % 256,qp _ (by decide)⟩,VM _ _ (by simp;omega),UA];simp only[cM]
    rw[Nat.mod_mod_of_dvd _ (by decide:128 ∣ 256)])
   (by
    intro n acc V;have:cm .gtr (n:Int) 127=false:=by simp[cm];omega
    simp[this]) m acc (by omega) U
  have ac:=(Nk 4 m (by omega)).2;have ad:XU.length+1=acc.length+(vf 4 m).length:=by
   have:=congrArg List.length L;simpa using this
  rw[H];simp only[Dg];rw[VM _ _ (by simp at D;simp;omega),P4 (by omega:q<256),L,HS (n:=C.length) (m:=1000000) (by simp at D;omega) (by omega)];refine⟨by simp,by simp;omega⟩
 ·intro acc _;simp[dS]
theorem Ys{f:fJ}(h:Good f):(aZ f).length<=1000000:=by
 have:=(rC h).2;simp[aZ,y6];omega
end Go.WT
namespace Go.WT
open Go.Pl
open Go Go.Sw Go.Mo
theorem cl(m n:Int):cm .lss m n=decide (m<n):=rfl
theorem cg(m n:Int):cm .gtr m n=decide (m>n):=rfl
theorem yy(m n:Int):cm .leq m n=decide (m<=n):=rfl
theorem K0(m n:Int):cm .geq m n=decide (m>=n):=rfl
theorem ce(m n:Int):cm .eql m n=decide (m=n):=by show (m==n)=_;by_cases h:m=n<;>simp[h]
theorem cn(m n:Int):cm .neq m n=decide (m≠n):=by show (m != n)=_;by_cases h:m=n<;>simp[h]
theorem p7{m n:Int}(h: -9223372036854775808<=m+n/\m+n<=9223372036854775807):ar .add .i64 m n=m+n:=wrap_i64 h
theorem N3{m n:Int}(h: -9223372036854775808<=m - n/\m - n<=9223372036854775807):ar .sub .i64 m n=m - n:=wrap_i64 h
theorem r7{n:Nat}(h:n<=4611686018427387904):ar .add .i64 (n:Int) 1=((n+1:Nat):Int):=by rw[p7 (by omega)];push_cast;rfl
theorem Bytes.tail{x:Int}{l:List Int}(h:Bytes (x::l)):Bytes l:=fun y u=>h y (by simp[u])
theorem Bytes.head{x:Int}{l:List Int}(h:Bytes (x::l)):0<=x/\x<=255:=h x (by simp)
def Vp:List Int->Int×Bool×List Int
 | []=>(0,false,[])
 |b::r=>(b,true,r)
theorem Sr(l:List Int)(hl:l.length<=1000000):fC l=some (Vp l):=by
 unfold fC;cases l with
 |nil=>rfl
 |cons b r=>
  have:¬((b::r).length:Int)=0:=by simp;omega
  rw[ce];simp only[this,F4,pF];have h:Sw.idx (b::r) 0=some b:=rfl;have u:Sw.sub (b::r) 1 ((b::r).length:Int)=some r:=by
   unfold Sw.sub;rw[WV (by simp;omega)];simp
  rw[h,u];rfl
def wU:Nat->Nat->Nat->List Int->Int×Bool×List Int
 | 0,_,_,l=>(0,false,l)
 |_+1,_,_,[]=>(0,false,[])
 |k+1,i,v,b::l=>if b<128 then (((v+b.toNat % 128*128 ^ i:Nat):Int),decide (v+b.toNat % 128*128 ^ i<=2147483647) && (decide (0<b) || decide (i=0)),l) else wU k (i+1) (v+b.toNat % 128*128 ^ i) l
theorem UB:∀a:Fin 256,ar .and .u8 ((a.1:Nat):Int) 127=((a.1 % 128:Nat):Int):=by decide+kernel
theorem SH{b:Int}(h:0<=b/\b<=255):ar .and .u8 b 127=((b.toNat % 128:Nat):Int):=by
 have:=UB ⟨b.toNat,by omega⟩;have e:((b.toNat:Nat):Int)=b:=by omega
 simpa[e] using this
theorem SI(i:Nat):128 ^ i=2 ^ (7*i):=by rw[Nat.pow_mul]
theorem UC{c i:Nat}(hi:i<=4)(hc:c<128):sh .shl .i64 (c:Int) ((7*i:Nat):Int)=((c*128 ^ i:Nat):Int):=by
 show IntKind.wrap .i64 ((c:Int)*2 ^ min ((7*i:Nat):Int).toNat (IntKind.bits .i64))=_;rw[m9,show IntKind.bits .i64=64 from rfl,qv (by omega),SI];have h:2 ^ (7*i)<=2 ^ 28:=aEa (by decide) (by omega);have u:c*2 ^ (7*i)<=127*2 ^ 28:=aCt (by omega) h;have e:(c:Int)*2 ^ (7*i)=((c*2 ^ (7*i):Nat):Int):=by push_cast;rfl
 rw[e,wrap_i64 (by omega)]
theorem UD{a b:Nat}(ha:a<4611686018427387904)(hb:b<4611686018427387904):ar .or .i64 (a:Int) (b:Int)=((a ||| b:Nat):Int):=by
 have h:a ||| b<2 ^ 62:=aD2 (by simpa using ha) (by simpa using hb)
 show IntKind.wrap .i64 ((BitVec.ofInt 64 (a:Int) ||| BitVec.ofInt 64 (b:Int)).toNat:Int)=_;simp only[rX,BitVec.toNat_or,zp];rw[P4 (a:=a) (by omega),P4 (a:=b) (by omega)];exact wrap_i64 (by omega)
theorem SJ{v c i:Nat}(hi:i<=4)(hc:c<128)(hv:v<128 ^ i):ar .or .i64 (v:Int) ((c*128 ^ i:Nat):Int)=((v+c*128 ^ i:Nat):Int):=by
 have h:128 ^ i<=128 ^ 4:=aEa (by decide) hi;have u:c*128 ^ i<=127*128 ^ 4:=aCt (by omega) h;rw[UD (by omega) (by omega)];congr 1;rw[SI] at*;have:=aEb hv c;rw[Nat.shiftLeft_eq] at this;rw[Nat.or_comm,<-this,zm]
theorem SK{v c i:Nat}(hc:c<128)(hv:v<128 ^ i):v+c*128 ^ i<128 ^ (i+1):=by
 rw[aEh];have:c*128 ^ i<=127*128 ^ i:=vr _ (by omega);omega
theorem PX(l:List Int)(hb:Bytes l)(hl:l.length<=1000000):gI l=some (wU 5 0 0 l):=by
 unfold gI;have M:∀(k i v:Nat) (l:List Int) (f:Nat),i+k=5->v<128 ^ i->Bytes l->l.length<=1000000->k<f->
   ∃e,loop (fun (h:Int×Int×(List Int))=>
  bif (cm .lss h.2.1 (35:Int)) then
   (fC h.2.2).bind fun u=>
    bif (!u.2.1) then
     some (.done (.ret ((0:Int),false,u.2.2)))
    else
     (nn h.2.1).bind fun _=>
      bif (cm .lss u.1 (128:Int)) then
       (bif (cm .leq (ar .or .i64 h.1 (sh .shl .i64 (ar .and .u8 u.1 (127:Int)) h.2.1)) (2147483647:Int)) then
        bif (cm .gtr u.1 (0:Int)) then
         some true
        else
         some (cm .eql h.2.1 (0:Int))
       else
        some false).bind fun T=>
        some (.done (.ret ((ar .or .i64 h.1 (sh .shl .i64 (ar .and .u8 u.1 (127:Int)) h.2.1)),T,u.2.2)))
      else
       some (.next ((ar .or .i64 h.1 (sh .shl .i64 (ar .and .u8 u.1 (127:Int)) h.2.1)),(ar .add .i64 h.2.1 (7:Int)),u.2.2))
  else
   some (.done (.WN h.2.2))
  ) f ((v:Int),((7*i:Nat):Int),l)=some e/\out (fun (U:List Int)=>some ((0:Int),false,U)) e=some (wU k i v l):=by
  intro k
  induction k with
  |zero=>
   intro i v l f R I hb hl S;obtain⟨f,rfl⟩:∃f',f=f'+1:=⟨f - 1,by omega⟩
   have N:i=5:=by omega
   subst N;exact⟨.WN l,rfl,rfl⟩
  |succ k V=>
   intro i v l f R I hb hl S;obtain⟨f,rfl⟩:∃f',f=f'+1:=⟨f - 1,by omega⟩
   have O:cm .lss ((7*i:Nat):Int) 35=true:=by rw[cl];simp;omega
   have P:nn ((7*i:Nat):Int)=some ():=by unfold nn;rw[WV (by omega)]
   simp only[loop,O,XT,Sr l hl,cM];cases l with
   |nil=>exact⟨.ret (0,false,[]),by simp[Vp],rfl⟩
   |cons b l=>
    have Q:=hb.head;have D:b.toNat % 128<128:=qp _ (by decide);simp only[Vp,iz,pF,P,cM,SH Q,UC (by omega:i<=4) D,SJ (by omega:i<=4) D I,cl,yy,cg,ce];by_cases A:b<128
    ·simp only[A,jb,XT];refine⟨.ret (((v+b.toNat % 128*128 ^ i:Nat):Int),decide (v+b.toNat % 128*128 ^ i<=2147483647) && (decide (0<b) || decide (i=0)),l),?_,?_⟩
     ·by_cases E:v+b.toNat % 128*128 ^ i<=2147483647
      ·have B:((v+b.toNat % 128*128 ^ i:Nat):Int)<=2147483647:=by omega
       by_cases F:b>0
       ·have G:0<b:=F;simp only[B,E,G,gt_iff_lt,jb,XT,cM,aEu,Bool.true_or]
       ·have G:¬0<b:=F;have H:(((7*i:Nat):Int)=0)↔i=0:=by omega
        simp only[B,E,F,G,H,jb,F4,XT,pF,cM,aEu,Bool.false_or]
      ·have B:¬((v+b.toNat % 128*128 ^ i:Nat):Int)<=2147483647:=by omega
       simp only[B,E,F4,pF,cM,Bool.false_and]
     ·simp only[out,wU,A,l3]
    ·simp only[A,F4,pF];have H:ar .add .i64 ((7*i:Nat):Int) 7=((7*(i+1):Nat):Int):=by rw[p7 (by omega)];push_cast;omega
     rw[H];obtain⟨e,K,C⟩:=V (i+1) (v+b.toNat % 128*128 ^ i) l f (by omega) (SK D I) hb.tail (by simp at hl;omega) (by omega);refine⟨e,K,?_⟩;rw[C];simp only[wU,A,j5]
 obtain⟨e,K,C⟩:=M 5 0 0 l fO rfl (by decide) hb hl (by unfold fO;omega);unfold lp;have L:=K;simp only[Nat.mul_zero] at L;rw[show ((0:Int),(0:Int),l)=(((0:Nat):Int),((0:Nat):Int),l) from rfl,L];cases e with
 | WN y=>exact C
 |ret z=>exact C
theorem Vq:∀(k i v:Nat) (l:List Int),(wU k i v l).2.2.length<=l.length
 | 0,_,_,l=>YQ _
 |_+1,_,_,[]=>YQ _
 |k+1,i,v,b::l=>by
  unfold wU;split
  ·simp
  ·exact eh (Vq k _ _ l) (by simp)
theorem BK:∀(k i v:Nat) (l r:List Int) (w:Int),i+k=5->v<128 ^ i->Bytes l->wU k i v l=(w,true,r)->
  ∃q:Nat,w=((v+q*128 ^ i:Nat):Int)/\v+q*128 ^ i<=2147483647/\l=vf (k - 1) q++r/\(0<i->0<q)
 | 0,_,_,_,_,_,_,_,_,h=>by simp[wU] at h
 |_+1,_,_,[],_,_,_,_,_,h=>by simp[wU] at h
 |k+1,i,v,b::l,r,w,P,K,B,h=>by
  have L:=B.head;unfold wU at h;split at h
  ·rename_i H;have C:b.toNat % 128=b.toNat:=P4 (by omega);simp only[M4,E7,zh,aC3,C] at h;obtain⟨rfl,⟨u,z⟩,rfl⟩:=h;refine⟨b.toNat,rfl,u,?_,fun O=>by omega⟩;have e:((b.toNat:Nat):Int)=b:=by omega
   cases k with
   |zero=>simp[vf,e]
   |succ k=>simp only[aDv];unfold vf;rw[WV (by omega),e];rfl
  ·rename_i H;have D:b.toNat % 128<128:=qp _ (by decide);obtain⟨q,u,z,A,I⟩:=BK k (i+1) (v+b.toNat % 128*128 ^ i) l r w (by omega) (SK D K) B.tail h;have M:0<k:=by
    cases k with
    |zero=>simp[wU] at h
    |succ k=>omega
   obtain⟨k,rfl⟩:∃k',k=k'+1:=⟨k - 1,by omega⟩
   have e:v+b.toNat % 128*128 ^ i+q*128 ^ (i+1)=v+(b.toNat % 128+128*q)*128 ^ i:=by rw[aEh,K2];rw[aEe 128 q,Nat.mul_assoc q 128,aEe 128 (128 ^ i)];omega
   have N:=I (by omega);refine⟨b.toNat % 128+128*q,by rw[u,e],by rw[<-e];exact z,?_,fun _=>by omega⟩;simp only[aDv] at A ⊢;unfold vf;rw[WM (by omega),A];have E:(b.toNat % 128+128*q) % 128=b.toNat % 128:=by omega
   have F:(b.toNat % 128+128*q) / 128=q:=by omega
   rw[E,F];have G:((128+b.toNat % 128:Nat):Int)=b:=by omega
   rw[G];rfl
theorem BL:∀(k i v q:Nat) (r:List Int),i+k=4->v+q*128 ^ i<=2147483647->(0<i->0<q)->wU (k+1) i v (vf k q++r)=(((v+q*128 ^ i:Nat):Int),true,r)
 | 0,i,v,q,r,C,z,u=>by
  have A:i=4:=by omega
  subst A;have h:q<128:=by omega
  have u:=u (by omega);have e:q % 128=q:=P4 h;simp only[vf,cz,U7,wU,m9,e];rw[WV (by omega)];simp;omega
 |k+1,i,v,q,r,C,z,u=>by
  unfold vf;by_cases h:q<128
  ·have e:q % 128=q:=P4 h;simp only[h,l3,cz,U7,wU,m9,e];rw[WV (by omega)];simp;omega
  ·simp only[h,j5,cz,wU,m9];rw[WM (by omega)];have B:(128+q % 128) % 128=q % 128:=by omega
   have e:v+q % 128*128 ^ i+q / 128*128 ^ (i+1)=v+q*128 ^ i:=by
    rw[aEh];have:q*128 ^ i=(q % 128+128*(q / 128))*128 ^ i:=by rw[Nat.mod_add_div]
    rw[this,K2,aEe 128 (q / 128),Nat.mul_assoc,aEe 128 (128 ^ i)];omega
   rw[B,BL k (i+1) (v+q % 128*128 ^ i) (q / 128) r (by omega) (by rw[e];exact z) (fun _=>by omega),e]
def Ab:Nat->List Int->List Int->Option (List Int×List Int)
 | 0,acc,l=>some (l,acc)
 |n+1,acc,l=>if (wU 5 0 0 l).2.1 then Ab n (acc++[(wU 5 0 0 l).1]) (wU 5 0 0 l).2.2 else none
theorem Gm:∀(k i v:Nat) (l:List Int),Bytes l->Bytes (wU k i v l).2.2
 | 0,_,_,l,h=>h
 |_+1,_,_,[],h=>h
 |k+1,i,v,b::l,h=>by
  unfold wU;split
  ·exact h.tail
  ·exact Gm k _ _ l h.tail
theorem Nl:∀(n:Nat) (acc l r XU:List Int),Bytes l->Ab n acc l=some (r,XU)->∃ns,XU=acc++ns/\ns.length=n/\(∀x∈ns,0<=x/\x<=2147483647)/\l=vs ns++r
 | 0,acc,l,r,XU,_,h=>by
  simp only[Ab,u3,M4] at h;obtain⟨rfl,rfl⟩:=h;exact⟨[],by simp,rfl,fun x u=>by simp at u,rfl⟩
 |n+1,acc,l,r,XU,A,h=>by
  unfold Ab at h;split at h
  ·rename_i B;obtain⟨ns,C,D,E,F⟩:=Nl n _ _ r XU (Gm _ _ _ _ A) h;obtain⟨q,z,G,H,_⟩:=BK 5 0 0 l (wU 5 0 0 l).2.2 (wU 5 0 0 l).1 rfl (by decide) A (by rw[<-B]);simp only[Nat.pow_zero,Nat.mul_one,zk] at z G;refine⟨(q:Int)::ns,by rw[C,z];simp,by simp[D],fun x u=>?_,?_⟩
   ·rcases o6.1 u with rfl | u
    ·omega
    ·exact E x u
   ·have e:vs ((q:Int)::ns)=vf 4 q++vs ns:=by simp[vs]
    rw[H,F,e,C9]
  ·cases h
theorem Vr:∀(ns acc r:List Int),(∀x∈ns,0<=x/\x<=2147483647)->Ab ns.length acc (vs ns++r)=some (r,acc++ns)
 | [],acc,r,_=>by simp[Ab,vs]
 |x::ns,acc,r,h=>by
  have A:=h x (by simp);have e:vs (x::ns)++r=vf 4 x.toNat++(vs ns++r):=by simp[vs]
  have g:=BL 4 0 0 x.toNat (vs ns++r) rfl (by omega) (fun h=>by omega);simp only[Nat.pow_zero,Nat.mul_one,zk] at g;have u:((x.toNat:Nat):Int)=x:=by omega
  rw[e,C8,Ab,g];simp only[l3,u];rw[Vr ns _ r (fun y z=>h y (by simp[z]))];simp
theorem Ki{c l:List Int}(hc:c.length=8):Sw.chunks 8 (c++l)=c::Sw.chunks 8 l:=by
 unfold Sw.chunks;have e:((c++l).length+8 - 1) / 8=(l.length+8 - 1) / 8+1:=by rw[sM,hc];omega
 rw[e,List.range_succ_eq_map,D8,aEy];congr 1
 ·rw[Nat.zero_mul,List.drop_zero,List.take_append_of_le_length (by omega),aB0 (by omega)]
 ·apply List.map_congr_left;intro k _;simp only[Function.comp_apply,Nat.succ_eq_add_one];rw[show (k+1)*8=c.length+k*8 by omega,aD5];congr 1;simp
theorem Kj:∀(bs:List aQ),(∀b∈bs,b.length=8)->Sw.chunks 8 bs.flatten=bs
 | [],_=>rfl
 |b::bs,h=>by rw[aC2,Ki (h b (by simp)),Kj bs (fun c u=>h c (by simp[u]))]
theorem Dh:∀(m:Nat) (l:List Int),l.length=8*m->(Sw.chunks 8 l).flatten=l/\(∀b∈Sw.chunks 8 l,b.length=8)/\(Sw.chunks 8 l).length=m
 | 0,l,h=>by
  have:l=[]:=List.length_eq_zero_iff.1 (by omega);subst this;exact⟨rfl,fun b u=>by simp[Sw.chunks] at u,rfl⟩
 |m+1,l,h=>by
  have e:l=l.take 8++l.drop 8:=(U4 8 l).symm;have z:(l.take 8).length=8:=by simp;omega
  obtain⟨A,B,C⟩:=Dh m (l.drop 8) (by simp;omega);rw[e,Ki z];refine⟨by rw[aC2,A],fun b u=>?_,by simp[C]⟩;rcases o6.1 u with rfl | u
  ·exact z
  ·exact B b u
theorem IS{l:List Int}{bs:List aQ}(h:bs.flatten=l)(hb:Bytes l):∀b∈bs,Bytes b:=fun b u x z=>hb x (by rw[<-h];exact List.mem_flatten.2 ⟨b,u,z⟩)
def Je:List Int->Option fJ
 |b0::b1::r=>match Ab (b0.toNat % 16) [] r with
  |some (rest,h)=>if b1>32\/h.length>12\/(rest.length:Int)≠8*b1 then none else some (((b0.toNat / 16:Nat):Int),h,Sw.chunks 8 rest)
  |none=>none
 |_=>none
theorem BM{n:Nat}(h:n<256):IntKind.wrap .u8 (n:Int)=n:=by rw[Dg];omega
theorem Ss{f:fJ}(g:Good f):Hu f=[((16*f.1.toNat+f.2.1.length:Nat):Int),(f.2.2.length:Int)]:=by
 have h:=g.s0;have u:=g.s1;have z:=g.ns;have A:=g.bs;unfold Hu;have e:ar .add .i64 (ar .mul .i64 16 f.1) (f.2.1.length:Int)=((16*f.1.toNat+f.2.1.length:Nat):Int):=by
  have:ar .mul .i64 16 f.1=16*f.1:=wrap_i64 (by omega);rw[this,p7 (by omega)];omega
 rw[e,BM (by omega),BM (by omega)]
theorem DX{b:List Int}{f:fJ}(hb:Bytes b)(h:Je b=some f):Good f/\dZ f=0/\body f=b:=by
 match b,h with
 |b0::b1::r,h=>
  have P:=hb.head;have Q:=hb.tail.head;have z:=hb.tail.tail;simp only[Je] at h;cases hn:Ab (b0.toNat % 16) [] r with
  |none=>rw[hn] at h;cases h
  |some p=>
   obtain⟨rest,K⟩:=p;rw[hn] at h;simp only at h;split at h
   ·cases h
   ·rename_i R;simp only[u3] at h;subst h;obtain⟨S,B,L,C,D⟩:=Nl _ _ _ _ _ z hn;simp only[U7] at B;subst B;obtain⟨E,M,N⟩:=Dh b1.toNat rest (by omega);have F:Bytes rest:=fun x u=>z x (by rw[D];simp[u]);have A:Good (((b0.toNat / 16:Nat):Int),K,Sw.chunks 8 rest):=⟨by simp only;omega,by simp only;omega,by simp only;omega,by simp only;omega,C,fun b hb=>⟨M b hb,IS E F b hb⟩⟩
    refine⟨A,?_,?_⟩
    ·unfold dZ;rw[WM (by simp only;omega),WM (by simp only;omega),WM];intro I;obtain⟨x,u,O⟩:=aDf.1 I;have:=C x u;simp[wO] at O;omega
    ·unfold body;rw[Ss A];simp only[E,N,L,cz,U7];rw[D];have G:((16*(((b0.toNat / 16:Nat):Int)).toNat+b0.toNat % 16:Nat):Int)=b0:=by rw[m9];omega
     have H:((b1.toNat:Nat):Int)=b1:=by omega
     rw[G,H]
theorem Vs{f:fJ}(g:Good f):Je (body f)=some f:=by
 have B:=g.s0;have C:=g.s1;have D:=g.ns;have E:=g.bs;unfold body;rw[Ss g];simp only[cz,U7,Je,m9];have h:(16*f.1.toNat+f.2.1.length) % 16=f.2.1.length:=by omega
 have u:(16*f.1.toNat+f.2.1.length) / 16=f.1.toNat:=by omega
 rw[h,u,Vr _ _ _ g.num];simp only[U7];have F:=(u0 g.YV).2;rw[WM (by omega),Kj _ (fun b A=>(g.YV b A).1)];have z:((f.1.toNat:Nat):Int)=f.1:=by omega
 rw[z]
end Go.WT
namespace Go.WT
open Go.Pl
open Go Go.Sw Go.Mo
def fA(a:List Int):Option fJ:=
 if a.length<6 then none else if a.drop (a.length - 4)=y6 (4294967295 - Aa (nat (a.take (a.length - 4)))) then Je (a.take (a.length - 4)) else none
theorem PY{n c:Nat}(hc:c<=32):sh .shr .u32 (n:Int) (c:Int)=((n / 2 ^ c:Nat):Int):=by
 show Int.fdiv _ _=_;rw[m9,show IntKind.bits .u32=32 from rfl,qv hc,vt _ (aEd (aEz (by decide)))];push_cast;rfl
theorem NC{S:Nat}(h:S<4294967296): [(IntKind.wrap .u8 (sh .shr .u32 (S:Int) (24:Int))),(IntKind.wrap .u8 (sh .shr .u32 (S:Int) (16:Int))),(IntKind.wrap .u8 (sh .shr .u32 (S:Int) (8:Int))),(IntKind.wrap .u8 (S:Int))]=y6 S:=by
 rw[show (24:Int)=((24:Nat):Int) from rfl,show (16:Int)=((16:Nat):Int) from rfl,show (8:Int)=((8:Nat):Int) from rfl,PY (by decide),PY (by decide),PY (by decide),Dg,Dg,Dg,Dg];unfold y6;have e:S / 2 ^ 24 % 256=S / 16777216:=by omega
 rw[e]
theorem SL:∀a:Fin 256,ar .and .u8 ((a.1:Nat):Int) 15=((a.1 % 16:Nat):Int):=by decide+kernel
theorem PZ{b:Int}(h:0<=b/\b<=255):ar .and .u8 b 15=((b.toNat % 16:Nat):Int):=by
 have:=SL ⟨b.toNat,by omega⟩;have e:((b.toNat:Nat):Int)=b:=by omega
 simpa[e] using this
theorem UE:∀a:Fin 256,sh .shr .u8 ((a.1:Nat):Int) 4=((a.1 / 16:Nat):Int):=by decide+kernel
theorem SM{b:Int}(h:0<=b/\b<=255):sh .shr .u8 b 4=((b.toNat / 16:Nat):Int):=by
 have:=UE ⟨b.toNat,by omega⟩;have e:((b.toNat:Nat):Int)=b:=by omega
 simpa[e] using this
theorem UF{n:Nat}(h:n<200):ar .add .u8 (n:Int) 1=((n+1:Nat):Int):=by
 show IntKind.wrap .u8 ((n:Int)+1)=_;have:(n:Int)+1=((n+1:Nat):Int):=by push_cast;rfl
 rw[this,BM (by omega)]
theorem Qw{z:fJ×Option Int}(N:Nat)(hN:N<=15):∀(n j:Nat) (l acc:List Int) (f:Nat),j+n=N->Bytes l->l.length<=1000000->acc.length+n<=1000->n<f->
  loop (β:=Ex ((List Int)×(List Int)) (fJ×Option Int)) (fun (F1:Int×(List Int)×(List Int))=>
                bif (cm .lss F1.1 (N:Int)) then
                 (gI F1.2.1).bind fun g9=>
                  bif (!g9.2.1) then
                   some (.done (.ret z))
                  else
                   (Sw.app F1.2.2 ([g9.1]:(List Int))).bind fun I9=>
                    some (.next ((ar .add .u8 F1.1 (1:Int)),g9.2.2,I9))
                else
                 some (.done (.WN (F1.2.1,F1.2.2)))
                ) f ((j:Int),l,acc)=some (match Ab n acc l with | some p=> .WN p | none=> .ret z)
 | 0,j,l,acc,f,B,u,A,C,D=>by
  obtain⟨f,rfl⟩:∃f',f=f'+1:=⟨f - 1,by omega⟩
  have:cm .lss (j:Int) (N:Int)=false:=by rw[cl];simp;omega
  simp only[loop,this,pF,Ab]
 |n+1,j,l,acc,f,B,u,A,C,D=>by
  obtain⟨f,rfl⟩:∃f',f=f'+1:=⟨f - 1,by omega⟩
  have:cm .lss (j:Int) (N:Int)=true:=by rw[cl];simp;omega
  simp only[loop,this,XT,PX l u A,cM,Ab];by_cases h:(wU 5 0 0 l).2.1=true
  ·simp only[h,iz,pF,l3];rw[VM _ _ (by simp;omega),cM,UF (by omega)];exact Qw N hN n (j+1) _ _ f (by omega) (Gm _ _ _ _ u) (eh (Vq _ _ _ _) A) (by simp;omega) (by omega)
  ·simp only[uw] at h;simp only[h,vo,XT,P2,j5]
theorem BN:∀(its acc:List aQ),(∀i∈its,i.length=8)->acc.length+its.length<=1000000->
  bk (δ:=Empty) (fun (vw:(List Int)) (dm:(List aQ))=>
    (Sw.u1 8 vw).bind fun z46=>
     (Sw.app dm ([z46]:(List aQ))).bind fun wo=>
      some (.next wo)
    ) its acc=some (.WN (acc++its))
 | [],acc,_,_=>by simp[bk]
 |i::is,acc,h,u=>by
  have A:=h i (by simp);have e:Sw.u1 8 i=some i:=by unfold Sw.u1;rw[WV (by omega),aB0 (by omega)]
  simp only[bk,e,cM];rw[VM _ _ (by simp at u ⊢;omega)];simp only[cM];rw[BN is _ (fun j z=>h j (by simp[z])) (by simp at u ⊢;omega)];simp
theorem oH(a:List Int)(hb:Bytes a)(hl:a.length<=10000):fF a=some (match fA a with | some f=>(f,none) | none=>((0,[],[]),some 3)):=by
 unfold fF fA;rw[cl];by_cases G:a.length<6
 ·have:(a.length:Int)<6:=by omega
  simp[G,this]
 have O:¬(a.length:Int)<6:=by omega
 simp only[G,O,F4,pF,j5];generalize hL:a.length - 4=L;have P:ar .sub .i64 (a.length:Int) 4=(L:Int):=by rw[N3 (by omega)];omega
 have Q:Sw.sub a 0 (L:Int)=some (a.take L):=by unfold Sw.sub;rw[WV (by omega)];simp
 have B:(a.take L).length=L:=by simp;omega
 have R:Sw.sub a (L:Int) (a.length:Int)=some (a.drop L):=by unfold Sw.sub;rw[WV (by omega)];simp
 have ab:(a.drop L).length=4:=by simp;omega
 have S:Sw.u1 4 (a.drop L)=some (a.drop L):=by unfold Sw.u1;rw[WV (by omega),aB0 (by omega)]
 have C:Bytes (a.take L):=fun x hx=>hb x (aCp hx);have T:=IN (a.take L) C (by omega);rw[P,Q,cM,T,cM,B,R,cM,S,cM,NC (by omega)];by_cases H:a.drop L=y6 (4294967295 - Aa (nat (a.take L)))
 ·simp only[H,jb,iz,pF,l3];generalize hp:a.take L=p at*
  match p,B with
  | [],h=>simp at h;omega
  | [_],h=>simp at h;omega
  |b0::b1::r,B=>
   have I:=C.head;have J8:=C.tail.head;have K:=C.tail.tail;have O1:r.length<=10000:=by simp at B;omega
   rw[Sr _ (by simp;omega),cM];simp only[Vp];rw[Sr _ (by simp;omega),cM];simp only[Vp,PZ I,SM I,Je];have U:=Qw (z:=((0,[],[]),some 3)) (b0.toNat % 16) (by omega) (b0.toNat % 16) 0 r [] fO (by omega) K (by omega) (by simp;omega) (by unfold fO;omega);unfold lp;rw[show ((0:Int),r,([]:List Int))=(((0:Nat):Int),r,([]:List Int)) from rfl,U];cases hn:Ab (b0.toNat % 16) [] r with
   |none=>rfl
   |some q=>
    obtain⟨u,E⟩:=q;obtain⟨ac,N,h2,h3,h4⟩:=Nl _ _ _ _ _ K hn;simp only[U7] at N;subst N;have j0:u.length<=r.length:=by rw[h4];simp
    have V:ar .mul .i64 b1 8=8*b1:=by show IntKind.wrap .i64 _=_;rw[wrap_i64 (by omega)];omega
    simp only[cg,cn,V];by_cases D:b1>32
    ·simp[D]
    by_cases F:E.length>12
    ·have A:(E.length:Int)>12:=by omega
     simp[D,F,A]
    by_cases M:(u.length:Int)≠8*b1
    ·have A:¬(E.length:Int)>12:=by omega
     simp[D,F,A,M]
    have A:¬(E.length:Int)>12:=by omega
    have X:(u.length:Int)=8*b1:=aC7.1 M;obtain⟨g1,g2,g3⟩:=Dh b1.toNat u (by omega);have ct:kB u 8=some (u,8):=rfl;have aa:small u=some ():=by unfold small;rw[WV (by omega)]
    have tz:pc 8=some ():=by decide
    simp only[D,F,A,X,ne_eq,aE0,F4,pF,cM,aE1,j5,ct,aa,tz,rg];rw[show Int.toNat 8=8 from rfl,BN _ _ g2 (by simp;omega)];simp
 ·simp only[H,F4,vo,XT,j5]
theorem Gn{a:List Int}{f:fJ}(hb:Bytes a)(h:fA a=some f):Good f/\dZ f=0/\aZ f=a:=by
 unfold fA at h;split at h
 ·cases h
 ·split at h
  ·rename_i D u;obtain⟨A,B,C⟩:=DX (fun x z=>hb x (aCp z)) h;refine⟨A,B,?_⟩;unfold aZ;rw[C,<-u,U4]
  ·cases h
theorem fH{f:fJ}(g:Good f):fA (aZ f)=some f:=by
 have A:2<=(body f).length:=by unfold body;rw[Ss g];simp
 have h:(aZ f).length=(body f).length+4:=by simp[aZ,y6]
 have u:(aZ f).take ((aZ f).length - 4)=body f:=by rw[h,aDv];unfold aZ;simp
 have z:(aZ f).drop ((aZ f).length - 4)=y6 (4294967295 - Aa (nat (body f))):=by rw[h,aDv];unfold aZ;simp
 unfold fA;rw[WM (by omega),u,z,WV rfl,Vs g]
end Go.WT
namespace Go.WT
open Go.Pl
open Go Go.Sw Go.Mo
theorem ZL{α β:Type}{step:α->Option (Step α β)}{x y:α}{f:Nat}(h:step x=some (.next y)):loop step (f+1) x=loop step f y:=by simp only[loop,h]
theorem YP{α β:Type}{step:α->Option (Step α β)}{x:α}{b:β}{f:Nat}(h:step x=some (.done b)):loop step (f+1) x=some b:=by simp only[loop,h]
end Go.WT
namespace Go.WT
open Go.Pl
open Go Go.Sw Go.Mo
end Go.WT
namespace Go.WT
open Go.Pl
open Go Go.Sw Go.Mo
theorem Yt{S:Nat}(h:S<4294967296):Bytes (y6 S):=fun x u=>by
 simp only[y6,o6,aCl,aEl] at u;rcases u with rfl | rfl | rfl | rfl<;>omega
theorem pP{f:fJ}(g:Good f):Bytes (aZ f):=fun x h=>by
 unfold aZ at h;rcases K5.1 h with h | h
 ·exact(rC g).1 x h
 ·exact Yt (by omega) x h
end Go.WT
namespace Go.WT
open Go.Pl
open Go Go.Sw Go.Mo
theorem IT(x:Int):pS x=some (wO x):=by
 unfold pS wO;by_cases h:x<0
 ·have:cm .lss x 0=true:=by simp[cm,h]
  simp[this,h]
 ·have:cm .lss x 0=false:=by simp[cm];omega
  simp[this,h,cm]
theorem Su(l:List Int)(h:l.length<=1000000):cX l=some (l.any wO):=by
 unfold cX eH;rw[show (0:Int)=((0:Nat):Int) from rfl,Bi (l:=l) (fun i (_:Unit)=>(i:Int)) () (fun i x _=>if wO x then .done (.ret (i:Int)) else .next ()) (fun _=> .WN ()) (by unfold fO;omega)]
 ·rw[Vl (fun i=>(i:Int)),Vm];cases l.findIdx? wO<;>simp[out,cm]
 ·rintro u x z acc rfl;simp only[pM,XT,mX,cM,IT,HS (n:=u.length) (m:=1000000) (by simp at h;omega) (by omega)];cases wO x<;>simp[Iq]
 ·intro _;simp[dS]
theorem m6(a b:Int):qD [a,b]=some (!(wO a || wO b)):=by
 unfold qD;rw[Su _ (by simp)];simp
theorem m8{x:Int}:wO x=false↔0<=x/\x<=2147483647:=by unfold wO;simp
theorem QA{α A β γ:Type}{step:α->Option (Step α (Ex β γ))}{l:List A}{k:β->Option γ}(st:Nat->α)(z:A->Option γ)(y:β)(hf:l.length<fO)
  (hs:∀pre x rest,l=pre++x::rest->step (st pre.length)=some (match z x with | some v=> .done (.ret v) | none=> .next (st (pre.length+1)))) (he:step (st l.length)=some (.done (.WN y))):
  lp step (st 0) k=(l.findSome? z).elim (k y) some:=by
 have u:∀(rest pre:List A) (f:Nat),l=pre++rest->rest.length<f->loop step f (st pre.length)=some (match rest.findSome? z with | some v=> .ret v | none=> .WN y):=by
  intro rest
  induction rest with
  |nil=>
   intro pre f h hf;obtain⟨f,rfl⟩:∃f',f=f'+1:=⟨f - 1,by simp at hf;omega⟩
   rw[Z4] at h;rw[<-h];simp[loop,he]
  |cons x rest B=>
   intro pre f h hf;obtain⟨f,rfl⟩:∃f',f=f'+1:=⟨f - 1,by simp at hf;omega⟩
   simp only[loop,hs pre x rest h,List.findSome?_cons];cases hz:z x with
   |some v=>simp
   |none=>
    have:=B (pre++[x]) f (by rw[h];simp) (by simp at hf;omega);simpa using this
 have:=u l [] fO rfl hf;unfold lp;simp only[V8] at this;rw[this];cases l.findSome? z<;>rfl
def dO(f:fJ):Int:=if dZ f=0 then (if 9<f.2.1.length then 2 else 0) else dZ f
theorem BO(f:fJ):tQ f=some (if dO f=0 then none else some (dO f)):=by
 unfold tQ dO;rw[Fo,cM,cg];by_cases h:dZ f=0
 ·simp only[h,l3,ZY,pF];by_cases u:9<f.2.1.length
  ·have:(f.2.1.length:Int)>9:=by omega
   simp[u,this]
  ·have:¬(f.2.1.length:Int)>9:=by omega
   simp[u,this]
 ·simp[h]
def uJ(l:List fJ):Option Int:=l.findSome? fun f=>if dO f=0 then none else some (dO f)
abbrev uK:=Int×Int×List fJ
def jL(s:uK):Int:=if wO s.1 || wO s.2.1 then 1 else if 64<s.2.2.length then 2 else (uJ s.2.2).getD 0
theorem Vt{l:List fJ}{e:Int}(h:uJ l=some e):e≠0:=by
 obtain⟨f,_,u⟩:=List.exists_of_findSome?_eq_some h;split at u
 ·cases u
 ·cases u;assumption
theorem ZU(s:uK):pJ s=some (if jL s=0 then none else some (jL s)):=by
 unfold pJ jL;rw[m6,cM];by_cases u:(wO s.1 || wO s.2.1)=true
 ·simp[u]
 ·simp only[uw] at u;simp only[u,vo,iz,pF,P2,j5,cg];by_cases z:64<s.2.2.length
  ·have:(s.2.2.length:Int)>64:=by omega
   simp[z,this]
  ·have:¬(s.2.2.length:Int)>64:=by omega
   simp only[z,this,F4,pF,j5];rw[show (0:Int)=(fun (i:Nat)=>(i:Int)) 0 from rfl];rw[QA (l:=s.2.2) (fun (i:Nat)=>(i:Int)) (fun f=>if dO f=0 then none else some (some (dO f))) () (by unfold fO;omega)]
   ·have e:s.2.2.findSome? (fun f=>if dO f=0 then none else some (some (dO f)))=(uJ s.2.2).map some:=by
     unfold uJ
     induction s.2.2 with
     |nil=>rfl
     |cons f l B=>simp only[List.findSome?_cons];by_cases h:dO f=0<;>simp[h,B]
    rw[e];cases hf:uJ s.2.2 with
    |none=>simp
    |some e=>have:=Vt hf;simp[this]
   ·rintro C x D h;rw[h];simp only[pM,XT,mX,cM,BO];rw[r7 (by have:=congrArg List.length h;simp at this;omega)];by_cases A:dO x=0<;>simp[A]
   ·simp[dS]
def Vu(f:fJ):Prop:=f.2.1.length<=1000/\f.2.2.length<=1000
theorem Vv{f:fJ}(h:dO f=0):Vu f:=by
 unfold dO at h;split at h
 ·rename_i u;unfold dZ at u;unfold Vu;split at u
  ·simp at u
  ·split at u
   ·simp at u
   ·omega
 ·exact absurd h (by assumption)
theorem Kk{s:uK}(h:jL s=0):(0<=s.1/\s.1<=2147483647)/\(0<=s.2.1/\s.2.1<=2147483647)/\s.2.2.length<=64/\∀f∈s.2.2,Vu f:=by
 unfold jL at h;split at h
 ·simp at h
 ·rename_i u;simp only[uw,Bool.or_eq_false_iff] at u;split at h
  ·simp at h
  ·rename_i C;refine⟨m8.1 u.1,m8.1 u.2,by omega,fun f B=>Vv ?_⟩;have A:uJ s.2.2=none:=by
    cases hf2:uJ s.2.2 with
    |none=>rfl
    |some e=>rw[hf2] at h;exact absurd h (Vt hf2)
   have:=List.findSome?_eq_none_iff.1 A f B;by_cases z:dO f=0
   ·exact z
   ·simp[z] at this
theorem Vx(l:List fJ)(hl:l.length<=64)(h:∀f∈l,Vu f):rU l=some l:=by
 unfold rU;rw[show ((0:Int),([]:List fJ))=(fun (i:Nat) (acc:List fJ)=>((i:Int),acc)) 0 [] from rfl];rw[D2 (l:=l) (fun (i:Nat) (acc:List fJ)=>((i:Int),acc)) (fun i acc=>acc.length=i) [] (fun _ f acc=>acc++[f]) id (by unfold fO;omega) rfl]
 ·have:∀(l:List fJ) (i:Nat) (acc:List fJ),(l.zipIdx i).foldl (fun acc x=>acc++[x.1]) acc=acc++l:=by
   intro l
   induction l with
   |nil=>intro i acc;simp
   |cons x l G=>intro i acc;rw[aCk,U6,G];simp
  rw[this];rfl
 ·intro u x A acc z F;have B:=h x (by rw[z];simp);have H:u.length<64:=by have:=congrArg List.length z;simp at this;omega
  have C:cm .lss (u.length:Int) (l.length:Int)=true:=by rw[z];exact pM u x A
  have D:Sw.idx l (u.length:Int)=some x:=by rw[z];exact mX u x A
  have E:mV x=some x:=by
   unfold mV lI aP;unfold Vu at B;rw[VM _ _ (by simp;omega),VM _ _ (by simp;omega)];rfl
  simp only[C,D,E,XT,cM];rw[VM _ _ (by simp;omega),r7 (by omega)];exact⟨rfl,by simp[F]⟩
 ·intro acc _;simp only[dS,pF];rfl
end Go.WT
namespace Go.WT
open Go.Pl
open Go Go.Sw Go.Mo
theorem K9{α:Type}(l:List α)(n:Nat)(h:n<=l.length):Sw.sub l (n:Int) (l.length:Int)=some (l.drop n):=by
 unfold Sw.sub;rw[WV (by omega)];simp
theorem M1{a c:Int}(h1:0<=a/\a<=2147483647)(h2:0<=c/\c<=2147483647):dZ ((0:Int),[a,c],([]:List aQ))=0/\Good ((0:Int),[a,c],([]:List aQ)):=by
 have e:dZ ((0:Int),[a,c],([]:List aQ))=0:=by
  unfold dZ;simp[m8.2 h1,m8.2 h2]
 exact⟨e,qM e (fun b h=>by simp at h)⟩
end Go.WT
namespace Go.WT
open Go.Pl
open Go Go.Sw Go.Mo
def Bz{A B:Type}(g:Nat->A->B->Option B):Nat->B->List A->Option B
 |_,acc,[]=>some acc
 |i,acc,x::l=>(g i x acc).bind fun h=>Bz g (i+1) h l
theorem QB{α A B β γ:Type}{step:α->Option (Step α (Ex β γ))}{l:List A}{k:β->Option γ}(st:Nat->B->α)(I:Nat->B->Prop)(YW:B)(g:Nat->A->B->Option B)(ex:Ex β γ)(fin:B->β)(hf:l.length<fO)(h0:I 0 YW)
  (hs:∀pre x rest acc,l=pre++x::rest->I pre.length acc->step (st pre.length acc)=some (match g pre.length x acc with | some XU=> .next (st (pre.length+1) XU) | none=> .done ex)/\∀XU,g pre.length x acc=some XU->I (pre.length+1) XU)
  (he:∀acc,I l.length acc->step (st l.length acc)=some (.done (.WN (fin acc)))):
  lp step (st 0 YW) k=(Bz g 0 YW l).elim (out k ex) (fun acc=>k (fin acc))/\∀acc,Bz g 0 YW l=some acc->I l.length acc:=by
 have E:∀(rest pre:List A) (f:Nat) (acc:B),l=pre++rest->rest.length<f->I pre.length acc->loop step f (st pre.length acc)=some ((Bz g pre.length acc rest).elim ex (fun acc=> .WN (fin acc)))/\∀XU,Bz g pre.length acc rest=some XU->I l.length XU:=by
  intro rest
  induction rest with
  |nil=>
   intro pre f acc u hf z;obtain⟨f,rfl⟩:∃f',f=f'+1:=⟨f - 1,by simp at hf;omega⟩
   rw[Z4] at u;rw[<-u] at z ⊢;exact⟨by simp[loop,he acc z,Bz],fun XU h=>by simp only[Bz,u3] at h;rw[<-h];exact z⟩
  |cons x rest F=>
   intro pre f acc u hf z;obtain⟨f,rfl⟩:∃f',f=f'+1:=⟨f - 1,by simp at hf;omega⟩
   obtain⟨C,D⟩:=hs pre x rest acc u z;simp only[loop,C,Bz];cases hg:g pre.length x acc with
   |none=>exact⟨by simp,fun XU h=>by simp at h⟩
   |some XU=>
    have:=F (pre++[x]) f XU (by rw[u];simp) (by simp at hf;omega) (by simpa using D XU hg);simpa using this
 obtain⟨C,D⟩:=E l [] fO YW rfl hf h0;refine⟨?_,D⟩;unfold lp;simp only[V8] at C;rw[C];cases Bz g 0 YW l with
 |none=>cases ex<;>rfl
 |some _=>rfl
def WO(s:uK)(i:Nat)(f:fJ):fJ:=(1,[s.1,s.2.1+(i:Int),f.1]++f.2.1,f.2.2)
def Qx(s:uK)(i:Nat)(f:fJ)(acc:List (List Int)):Option (List (List Int)):=if s.2.1+(i:Int)>2147483647 then none else some (acc++[aZ (WO s i f)])
theorem m7{f:fJ}(h:dO f=0):dZ f=0/\f.2.1.length<=9:=by
 unfold dO at h;split at h
 ·rename_i u;refine⟨u,?_⟩;split at h
  ·simp at h
  ·omega
 ·exact absurd h (by assumption)
theorem C4{s:uK}{i:Nat}{f:fJ}(h1:0<=s.1/\s.1<=2147483647)(h2:0<=s.2.1)(hi:s.2.1+(i:Int)<=2147483647)(hf:dO f=0)(hb:∀b∈f.2.2,b.length=8/\Bytes b):dZ (WO s i f)=0/\Good (WO s i f):=by
 obtain⟨E,G⟩:=m7 hf;have g:=qM E hb;have e:dZ (WO s i f)=0:=by
  have h:f.2.1.any wO=false:=by
   rw[aEq];intro n D;have:=m8.2 (g.num n D);simp[this]
  have u:=m8.2 h1;have z:wO (s.2.1+(i:Int))=false:=m8.2 ⟨by omega,hi⟩;have A:wO f.1=false:=m8.2 ⟨g.s0,by have:=g.s1;omega⟩;have F:=g.bs;unfold dZ WO;have B:¬((1:Int)<0\/(1:Int)>15):=by omega
  have C:¬(([s.1,s.2.1+(i:Int),f.1]++f.2.1).length>12\/f.2.2.length>32):=by simp;omega
  simp only[B,C,j5];simp[u,z,A,h]
 exact⟨e,qM e hb⟩
def UX(s:uK):Prop:=∀f∈s.2.2,dO f=0/\∀b∈f.2.2,b.length=8/\Bytes b
def Tr(s:uK):List fJ:=s.2.2.take (min s.2.2.length 4)
theorem QC{s:uK}{pre rest:List fJ}{x:fJ}(h:Tr s=pre++x::rest):pre.length<min s.2.2.length 4/\s.2.2[pre.length]? =some x/\x∈s.2.2:=by
 have z:pre.length<min s.2.2.length 4:=by have:=congrArg List.length h;simp[Tr] at this;omega
 have u:(Tr s)[pre.length]? =some x:=by rw[h];simp
 unfold Tr at u;rw[List.getElem?_take,WV z] at u;exact⟨z,u,aB7 u⟩
theorem ND(s:uK):(Tr s).length=min s.2.2.length 4:=by simp[Tr]
theorem BP(s:uK)(h0:jL s=0)(hq:UX s):pE s=(Bz (Qx s) 0 [] (Tr s)).elim (some ([],some 1)) (fun acc=>some (acc,none))/\
  ∀acc,Bz (Qx s) 0 [] (Tr s)=some acc->acc.length=(Tr s).length/\∀x∈acc,x.length<=1000000:=by
 obtain⟨O,P,S,T⟩:=Kk h0;unfold pE;rw[ZU,WV h0,cM];have F:Sw.sub s.2.2 (0:Int) (min (s.2.2.length:Int) (4:Int))=some (Tr s):=by
  unfold Sw.sub Tr;rw[WV (by omega)];simp;omega
 rw[F];simp only[ZY,pF,cM];refine QB (l:=Tr s) (fun (i:Nat) (acc:List (List Int))=>((i:Int),acc)) (fun i acc=>acc.length=i/\∀x∈acc,x.length<=1000000) [] (Qx s) (.ret ([],some 1)) id (by rw[ND];unfold fO;omega) ⟨rfl,fun x B=>by simp at B⟩ ?_ ?_
 ·intro u x C acc h D;obtain⟨U,V,A⟩:=QC h;have G:cm .lss (u.length:Int) ((Tr s).length:Int)=true:=by rw[h];exact pM u x C
  have H:Sw.idx (Tr s) (u.length:Int)=some x:=by rw[h];exact mX u x C
  have I:ar .add .i64 s.2.1 (u.length:Int)=s.2.1+(u.length:Int):=p7 (by omega);simp only[G,H,I,XT,cM,cg,Qx];by_cases c:s.2.1+(u.length:Int)>2147483647
  ·simp[c]
  ·obtain⟨Q,E⟩:=C4 (i:=u.length) O P.1 (by omega) (hq x A).1 (hq x A).2;have B:=m7 (hq x A).1;have K:Sw.app ([s.1,s.2.1+(u.length:Int),x.1]:List Int) x.2.1=some ([s.1,s.2.1+(u.length:Int),x.1]++x.2.1):=VM _ _ (by simp;omega);have L:mU ((1:Int),[s.1,s.2.1+(u.length:Int),x.1]++x.2.1,x.2.2)=some (aZ (WO s u.length x),none):=Et E Q;have M:Sw.app acc [aZ (WO s u.length x)]=some (acc++[aZ (WO s u.length x)]):=VM _ _ (by simp;omega);simp only[c,F4,pF,j5,K,L,M,cM,ZY];rw[r7 (by omega)];refine⟨rfl,fun R N=>?_⟩;cases N;refine⟨by simp[D.1],fun y z=>?_⟩;rcases K5.1 z with z | z
   ·exact D.2 y z
   ·simp at z;subst z;exact Ys E
 ·intro acc _;simp only[dS,pF];rfl
end Go.WT
namespace Go.WT
open Go.Pl
open Go Go.Sw Go.Mo
theorem Yu{l:List fJ}(h:∀f∈l,dO f=0):uJ l=none:=by
 unfold uJ;rw[List.findSome?_eq_none_iff];intro f u;rw[WV (h f u)]
variable {S M:Nat}
theorem ZK{f:fJ}:aZ f≠ []:=by unfold aZ body Hu;simp
theorem Nn{f:fJ}:HJ (aZ f)=some ():=by
 unfold HJ;rw[WM];intro h;exact ZK (List.isEmpty_iff.1 h)
end Go.WT
namespace Go.lh
open Go.Pl
open Go Go.Sw Go.Mo
def Qy:Nat:=18446744073709551616
theorem Vy(n:Nat):IntKind.wrap .u64 (n:Int)=((n % Qy:Nat):Int):=by
 simp[IntKind.wrap,IntKind.signed,IntKind.bits,Qy]
theorem SN{a b:Nat}(ha:a<Qy)(hb:b<Qy):ar .xor .u64 (a:Int) (b:Int)=((a ^^^ b:Nat):Int):=by
 have h:a ^^^ b<2 ^ 64:=aCc (by simpa[Qy] using ha) (by simpa[Qy] using hb);show IntKind.wrap .u64 ((BitVec.ofInt 64 (a:Int) ^^^ BitVec.ofInt 64 (b:Int)).toNat:Int)=_;simp only[rX,aEv,zp];rw[P4 (by simpa[Qy] using ha),P4 (by simpa[Qy] using hb),Vy,P4 (by simpa[Qy] using h)]
theorem UG{a b:Nat}:ar .mul .u64 (a:Int) (b:Int)=((a*b % Qy:Nat):Int):=by
 show IntKind.wrap .u64 ((a:Int)*(b:Int))=_;rw[show (a:Int)*(b:Int)=((a*b:Nat):Int) from by push_cast;rfl,Vy]
def OS:Nat:=1099511628211
def SO(h b:Nat):Nat:=(h ^^^ b)*OS % Qy
theorem IU(h b:Nat):SO h b<Qy:=qp _ (by decide)
def IV(l:List Int):Nat:=(nat l).foldl SO 14695981039346656037
theorem IW(l:List Nat)(h:Nat)(hh:h<Qy):l.foldl SO h<Qy:=by
 induction l generalizing h with
 |nil=>exact hh
 |cons x l u=>exact u _ (IU _ _)
theorem BR(l:List Int):IV l<Qy:=IW _ _ (by decide)
theorem Qz{A B:Type}(f:B->A->B):∀(l:List A) (i:Nat) (b:B),(l.zipIdx i).foldl (fun acc x=>f acc x.1) b=l.foldl f b
 | [],_,_=>rfl
 |x::l,i,b=>by simp only[aCk,U6];exact Qz f l (i+1) _
theorem Ra(l:List Int)(h:Bytes l)(hl:l.length<=1000000):qE l=some (IV l:Int):=by
 unfold qE;rw[show ((14695981039346656037:Int),(0:Int))=(fun (i:Nat) (r:Nat)=>((r:Int),(i:Int))) 0 14695981039346656037 from rfl];rw[D2 (l:=l) (fun (i:Nat) (r:Nat)=>((r:Int),(i:Int))) (fun _ r=>r<Qy) 14695981039346656037 (fun _ x r=>SO r x.toNat) (fun r=>(r:Int)) (by unfold fO;omega) (by decide)]
 ·rw[Qz (fun r (x:Int)=>SO r x.toNat)];simp only[IV,nat,List.foldl_map]
 ·rintro z x C r rfl A;have B:=h x (by simp);obtain⟨b,rfl⟩:∃b:Nat,x=(b:Int):=⟨x.toNat,by omega⟩
  have u:b<Qy:=by unfold Qy;omega
  refine⟨?_,IU _ _⟩;simp only[pM,XT,mX,cM,SN A u];rw[show (1099511628211:Int)=((OS:Nat):Int) from rfl,UG,HS (n:=z.length) (m:=1000000) (by simp at hl;omega) (by omega)];rfl
 ·intro acc _;simp only[dS,pF]
def Xm(h:Int):List Int:=(List.range 8).map fun j=>((h.toNat / 2 ^ (56 - 8*j) % 256:Nat):Int)
theorem DY(h:Int):Bytes (Xm h):=by
 intro x u;simp only[Xm,bq] at u;obtain⟨j,_,rfl⟩:=u;have:=qp (h.toNat / 2 ^ (56 - 8*j)) (show 0<256 by decide);omega
theorem Ln(h:Int):(Xm h).length=8:=by simp[Xm]
def Rb(l:List Int):List Int:=1::l.flatMap Xm
theorem u0{A:Type}(f:A->List Int)(l:List A)(h:∀x∈l,Bytes (f x)):Bytes (l.flatMap f):=by
 intro y u;obtain⟨x,z,u⟩:=aD6.1 u;exact h x z y u
theorem Vz(l:List Int):Bytes (Rb l):=by
 intro y h;rcases o6.1 h with rfl | h
 ·decide
 ·exact u0 Xm l (fun x _=>DY x) y h
theorem IX{A:Type}(f:A->List Int)(m:Nat)(l:List A)(h:∀x∈l,(f x).length=m):(l.flatMap f).length=l.length*m:=by
 induction l with
 |nil=>simp
 |cons x l z=>
  rw[aEr,sM,h x (by simp),z (fun y u=>h y (by simp[u])),C8,K2,qq,zm]
theorem DZ(l:List Int):(Rb l).length=1+l.length*8:=by
 rw[Rb,C8,IX Xm 8 l (fun x _=>Ln x)];omega
def EA(l:List Int):Int:=(IV (Rb l):Int)
def pj(l:List Int):Prop:=∀x∈l,0<=x/\x<18446744073709551616
theorem QD(l:List Int):0<=EA l/\EA l<18446744073709551616:=by
 have:=BR (Rb l);unfold EA;unfold Qy at this;omega
theorem aMe(n k:Nat)(hk:k<=64):sh .shr .u64 (n:Int) (k:Int)=((n / 2 ^ k:Nat):Int):=by
 show Int.fdiv _ _=_;have:min (k:Int).toNat (IntKind.bits .u64)=k:=by simp[IntKind.bits];omega
 rw[this];rw[vt _ (by exact aEd (aEz (by decide)))]
 norm_cast
theorem NF(l:List Int)(hu:pj l)(hl:l.length<=1000):tT l=some (EA l):=by
 unfold tT;rw[show ((0:Int),([(1:Int)]:List Int))=(fun (i:Nat) (r:List Int)=>((i:Int),r)) 0 [1] from rfl];rw[D2 (l:=l) (fun (i:Nat) (r:List Int)=>((i:Int),r)) (fun i r=>r.length<=1+8*i) [1] (fun _ x r=>r++Xm x) (fun r=>r) (by unfold fO;omega) (by simp)]
 ·rw[ZO Xm l 0 [1]];have: [1]++l.flatMap Xm=Rb l:=rfl;rw[this,Ra _ (Vz l) (by rw[DZ];omega)];rfl
 ·rintro h x H r rfl I;have F:=hu x (by simp);obtain⟨b,rfl⟩:∃b:Nat,x=(b:Int):=⟨x.toNat,by omega⟩
  have G:h.length<=1000:=by simp at hl;omega
  refine⟨?_,by simp[Ln];omega⟩;simp only[pM,XT,mX,cM];rw[show ((56:Int),r)=(fun i:Nat=>((56:Int) - 8*i,r++(Xm b).take i)) 0 from by simp];rw[Ux (fun i:Nat=>((56:Int) - 8*i,r++(Xm b).take i)) 8 (r++Xm b) (by unfold fO;omega)]
  ·rw[HS (n:=h.length) (m:=1000000) (by omega) (by omega)]
  ·intro i E;have u:((56:Int) - 8*(i:Int))=((56 - 8*i:Nat):Int):=by omega
   have z:cm .geq ((56:Int) - 8*(i:Int)) 0=true:=by unfold cm;simp;omega
   have A:nn ((56:Int) - 8*(i:Int))=some ():=by unfold nn;rw[WV (by omega)]
   have B:ar .sub .i64 ((56:Int) - 8*(i:Int)) 8=(56:Int) - 8*((i+1:Nat):Int):=by
    show IntKind.wrap .i64 _=_;rw[wrap_i64 (by omega)];push_cast;omega
   have C:IntKind.wrap .u8 (sh .shr .u64 (b:Int) ((56:Int) - 8*(i:Int)))=((b / 2 ^ (56 - 8*i) % 256:Nat):Int):=by
    rw[u,aMe _ _ (by omega)];simp[IntKind.wrap,IntKind.signed,IntKind.bits]
   have D:(Xm b).take (i+1)=(Xm b).take i++[((b / 2 ^ (56 - 8*i) % 256:Nat):Int)]:=by
    rw[List.take_add_one];congr 1;simp only[Xm];rw[lf,List.getElem?_range E];simp
   simp only[z,XT,A,cM,C];rw[VM _ _ (by simp[Ln];omega),cM,B,D,C9]
  ·have:cm .geq ((56:Int) - 8*((8:Nat):Int)) 0=false:=by decide
   simp only[this,pF];rw[aB0 (by rw[Ln];omega)]
 ·intro acc _;simp only[dS,pF]
def Wa(l:List Int):List Int:=(Sw.chunks 4 l).map EA
theorem Yv{α:Type}{n:Nat}{xs c:List α}(h:c∈Sw.chunks n xs):∃k,c=(xs.drop (k*n)).take n:=by
 simp only[Sw.chunks,bq] at h;obtain⟨k,_,rfl⟩:=h;exact⟨k,rfl⟩
theorem pj.sub{l c:List Int}(h:pj l)(hs:∀x∈c,x∈l):pj c:=fun x u=>h x (hs x u)
theorem BS{l c:List Int}(h:pj l)(hc:c∈Sw.chunks 4 l):pj c/\c.length<=4:=by
 obtain⟨k,rfl⟩:=Yv hc;exact⟨h.sub fun x u=>aDr (aCp u),by simp;omega⟩
theorem BT{ι α:Type}{f:ι->Option α}{g:ι->α}:∀(its:List ι) (acc:List α),(∀i∈its,f i=some (g i))->acc.length+its.length<=1000000->
  bk (δ:=Empty) (fun i acc=>(f i).bind fun v=>(Sw.app acc [v]).bind fun a=>some (.next a)) its acc=some (.WN (acc++its.map g))
 | [],acc,_,_=>by simp[bk]
 |i::is,acc,h,u=>by
  simp only[bk,h i (by simp),cM];rw[VM _ _ (by simp at u ⊢;omega)];simp only[cM];rw[BT is _ (fun j z=>h j (by simp[z])) (by simp at u ⊢;omega)];simp
theorem Fp{α:Type}(n:Nat)(xs:List α):(Sw.chunks n xs).length=(xs.length+n - 1) / n:=by simp[Sw.chunks]
theorem IY(l:List Int)(hu:pj l)(hl:l.length<=1000):rV l=some (Wa l):=by
 unfold rV iP;have u:cm .lss (4:Int) 1=false:=by decide
 have z:small l=some ():=by unfold small;rw[WV (by omega)]
 have A:pc 4=some ():=by decide
 simp only[jp,u,pF,cM,z,A,rg];rw[show Int.toNat 4=4 from rfl];rw[BT (f:=tT) (g:=EA) _ _ (fun c h=>NF c (BS hu h).1 (by have:=(BS hu h).2;omega)) (by rw[Fp];simp;omega)];simp[Wa]
theorem SP{a b:Nat}:cm .lss (a:Int) (b:Int)=decide (a<b):=PO
theorem Sv(l:List Int):(Wa l).length=(l.length+3) / 4:=by simp[Wa,Fp]
theorem OT(l:List Int):pj (Wa l):=by
 intro x h;simp only[Wa,bq] at h;obtain⟨c,_,rfl⟩:=h;exact QD c
def Yw:Nat->List Int->List (List Int)
 | 0,_=>[]
 |f+1,l=>if l.length<=1 then [] else Wa l::Yw f (Wa l)
theorem Sx{a b:Nat}:cm .gtr (a:Int) (b:Int)=decide (b<a):=by unfold cm;simp
theorem NG{ab:List Int->Option (List Int)}(hab:∀l,pj l->l.length<=1000->ab l=some (Wa l)):
  ∀(n f:Nat) (l:List Int) (acc:List (List Int)),pj l->l.length<=n->n<=1000->n<f->acc.length+n<=2000->
   loop (fun (s:List Int×List (List Int))=>bif (cm .gtr (s.1.length:Int) (1:Int)) then (ab s.1).bind fun v=>(Sw.app s.2 [v]).bind fun a=>some (.next (v,a)) else (some (.done (.WN s.2)):Option (Step (List Int×List (List Int)) (Ex (List (List Int)) (List (List Int)×Option Int))))) f (l,acc)=some (.WN (acc++Yw n l))/\
   loop (fun (s:List Int×List (List Int))=>bif (cm .gtr (s.1.length:Int) (1:Int)) then (ab s.1).bind fun v=>(Sw.app s.2 [v]).bind fun a=>some (.next (v,a)) else (some (.done (.WN s.2)):Option (Step (List Int×List (List Int)) (Ex (List (List Int)) (List (List Int)))))) f (l,acc)=some (.WN (acc++Yw n l)):=by
 intro n
 induction n with
 |zero=>
  intro f l acc _ u _ z _;obtain⟨f,rfl⟩:∃f',f=f'+1:=⟨f - 1,by omega⟩
  have:cm .gtr (l.length:Int) 1=false:=by rw[show (1:Int)=((1:Nat):Int) from rfl,Sx];simp;omega
  simp[loop,this,Yw]
 |succ n D=>
  intro f l acc A u F z G;obtain⟨f,rfl⟩:∃f',f=f'+1:=⟨f - 1,by omega⟩
  by_cases h:l.length<=1
  ·have:cm .gtr (l.length:Int) 1=false:=by rw[show (1:Int)=((1:Nat):Int) from rfl,Sx];simp;omega
   simp[loop,this,Yw,h]
  ·have:cm .gtr (l.length:Int) 1=true:=by rw[show (1:Int)=((1:Nat):Int) from rfl,Sx];simp;omega
   have E:=Sv l;obtain⟨B,C⟩:=D f (Wa l) (acc++[Wa l]) (OT l) (by omega) (by omega) (by omega) (by simp;omega);simp only[loop,this,XT,hab l A (by omega),cM,VM acc [Wa l] (by simp;omega),Yw,WM h];rw[B,C];simp
def EB(b:aQ):Int:=(IV (0::b):Int)
def leaves(bs:List aQ):List Int:=bs.map EB
theorem Wb(bs:List aQ):pj (leaves bs):=by
 intro x h;simp only[leaves,bq] at h;obtain⟨b,_,rfl⟩:=h;have:=BR (0::b);unfold EB;unfold Qy at this;omega
def tree(bs:List aQ):List (List Int):=leaves bs::Yw bs.length (leaves bs)
def UH(bs:List aQ):Prop:=∀b∈bs,b.length=8/\Bytes b
theorem NH{b:aQ}(h:b.length=8/\Bytes b):vW b=some (EB b):=by
 unfold vW;rw[VM _ _ (by simp;omega),cM,Ra _ (by intro x u;simp at u;rcases u with rfl | u;decide;exact h.2 x u) (by simp;omega)];rfl
theorem foldl_map{A B:Type}(f:A->B):∀(l:List A) (i:Nat) (acc:List B),(l.zipIdx i).foldl (fun acc x=>acc++[f x.1]) acc=acc++l.map f
 | [],_,_=>by simp
 |x::l,i,acc=>by simp only[aCk,U6];rw[foldl_map f l];simp
theorem aMh(bs:List aQ)(hb:UH bs)(hl:bs.length<=1000):zV bs=some (if bs.length<1\/bs.length>32 then ([],some 1) else (tree bs,none)):=by
 unfold zV;rw[show (1:Int)=((1:Nat):Int) from rfl,show (32:Int)=((32:Nat):Int) from rfl,SP,Sx];by_cases h:bs.length<1
 ·simp[h]
 ·by_cases u:bs.length>32
  ·have:(32<bs.length):=u;simp[h,this]
  ·have z:¬32<bs.length:=u;simp only[h,z,F4,pF,cM];rw[show ((0:Int),([]:List Int))=(fun (i:Nat) (r:List Int)=>((i:Int),r)) 0 [] from rfl];rw[D2 (l:=bs) (fun (i:Nat) (r:List Int)=>((i:Int),r)) (fun i r=>r.length=i) [] (fun _ x r=>r++[EB x]) (fun r=>r) (by unfold fO;omega) rfl]
   ·rw[foldl_map EB bs 0 []];have A:=(NG (ab:=rV) IY bs.length fO (leaves bs) [leaves bs] (Wb bs) (by simp[leaves]) (by omega) (by unfold fO;omega) (by simp;omega)).1;rw[show []++bs.map EB=leaves bs from rfl];have B:((1:Nat):Int)=1:=rfl;simp only[B];unfold lp;rw[A];simp[tree]
   ·rintro C x E r rfl D;refine⟨?_,by simp[D]⟩;simp only[pM,XT,mX,cM];rw[NH (hb x (by simp)),cM,VM _ _ (by simp at hl ⊢;omega),cM,show ((1:Nat):Int)=1 from rfl,HS (n:=C.length) (m:=1000000) (by simp at hl;omega) (by omega)]
   ·intro acc _;simp only[dS,pF]
def Goes:List (List Int)->Prop
 | []=>False
 | [l]=>l.length=1
 |l::m::t=>1<l.length/\m=Wa l/\Goes (m::t)
theorem Wc:∀(n:Nat) (l:List Int),1<=l.length->l.length<=n->Goes (l::Yw n l)
 | 0,l,u,z=>by omega
 |n+1,l,u,z=>by
  simp only[Yw];by_cases h:l.length<=1
  ·simp[h,Goes];omega
  ·rw[WM h];have:=Sv l;exact⟨by omega,rfl,Wc n (Wa l) (by omega) (by omega)⟩
theorem BU:∀(n:Nat) (l:List Int),(Yw n l).length<=n
 | 0,l=>by simp[Yw]
 |n+1,l=>by
  simp only[Yw];split
  ·simp
  ·have:=BU n (Wa l);simp;omega
theorem Goes.at:∀{t:List (List Int)},Goes t->∀(pre rest:List (List Int)) (l:List Int),t=pre++l::rest->(rest=[]/\l.length=1)\/(∃m r,rest=m::r/\1<l.length/\m=Wa l)
 | [],h,_,_,_,_=>h.elim
 | [l0],h,pre,rest,l,e=>by
  cases pre with
  |nil=>simp at e;obtain⟨rfl,rfl⟩:=e;exact .inl ⟨rfl,h⟩
  |cons p pre=>simp at e
 |l0::m0::t,h,pre,rest,l,e=>by
  cases pre with
  |nil=>simp at e;obtain⟨rfl,rfl⟩:=e;exact .inr ⟨m0,t,rfl,h.1,h.2.1⟩
  |cons p pre=>simp at e;exact Goes.at h.2.2 pre rest l e.2
theorem Goes.ne{t:List (List Int)}(h:Goes t):t≠ []:=by rintro rfl;exact h
theorem OU:∀(n:Nat) (l:List Int) (m:Nat),l.length<=m->∀x∈Yw n l,pj x/\x.length<=m
 | 0,l,m,h,x,u=>by simp[Yw] at u
 |n+1,l,m,h,x,u=>by
  simp only[Yw] at u;split at u
  ·simp at u
  ·have z:=Sv l;rcases o6.1 u with rfl | u
   ·exact⟨OT l,by omega⟩
   ·exact OU n (Wa l) m (by omega) x u
theorem rq(bs:List aQ)(h:bs.length<=32):∀l∈tree bs,pj l/\l.length<=32:=by
 intro l u;rcases o6.1 u with rfl | u
 ·exact⟨Wb bs,by simp[leaves];omega⟩
 ·exact OU bs.length (leaves bs) 32 (by simp[leaves];omega) l u
theorem rp(bs:List aQ):(tree bs).length<=bs.length+1:=by
 have:=BU bs.length (leaves bs);simp[tree];omega
theorem ni(bs:List aQ)(h:1<=bs.length):Goes (tree bs):=Wc _ _ (by simp[leaves];omega) (by simp[leaves])
end Go.lh
namespace Go.bBa
open Go.Pl
open Go Go.Sw Go.Mo
end Go.bBa
namespace Go.Mo
open Go Go.Sw
structure PS where
 n:Int
 fn:Int
 XA:Int
 WQ:Int
 blocks:(List aQ)
 VO:(Int×(List (Int×aQ))×(List (Int×(List (Int×aQ))))×Bool)
 WJ:(List (Int×(List aQ)))
 VJ:Int
 VK:(Int×Int×(List (Int×(List Int)×(List aQ))))
 sent:Int
 safe:Int
 VN:(List Int)
 on:Int
 XD:Int
 WA:Int
 first:Int
 receiver:(Int×Int)
 VZ:(List (Bool×Bool×(List Int)))
 m4:Int
 fd:((List aQ)×(List (Int×aQ))×Int)
 ZR:Int
 od:((List aQ)×(List (Int×aQ))×Int)
def lM(a1:Int)(a2:aQ)(s:PS):Option ((Option Int)×PS):=(eX a1 a2 s.n s.fn s.XA s.WQ s.blocks s.VO s.WJ s.VJ s.VK s.sent s.safe s.VN s.on s.XD s.WA s.first s.receiver s.VZ s.m4 s.fd s.ZR s.od).bind fun v=>some (v.1,{ s with blocks:=v.2.1,VO:=v.2.2 })
def oJ(a1:Int)(s:PS):Option (aQ×(Option Int)×PS):=(fZ a1 s.n s.fn s.XA s.WQ s.blocks s.VO s.WJ s.VJ s.VK s.sent s.safe s.VN s.on s.XD s.WA s.first s.receiver s.VZ s.m4 s.fd s.ZR s.od).bind fun v=>some (v.1,v.2,s)
def qN(s:PS):Option ((Option Int)×PS):=(fV s.n s.fn s.XA s.WQ s.blocks s.VO s.WJ s.VJ s.VK s.sent s.safe s.VN s.on s.XD s.WA s.first s.receiver s.VZ s.m4 s.fd s.ZR s.od).bind fun v=>some (v.1,{ s with XA:=v.2.1,VO:=v.2.2.1,WJ:=v.2.2.2.1,m4:=v.2.2.2.2.1,fd:=v.2.2.2.2.2 })
def fR(s:PS):Option ((Option Int)×PS):=(dC s.n s.fn s.XA s.WQ s.blocks s.VO s.WJ s.VJ s.VK s.sent s.safe s.VN s.on s.XD s.WA s.first s.receiver s.VZ s.m4 s.fd s.ZR s.od).bind fun v=>some (v.1,{ s with VK:=v.2.1,sent:=v.2.2.1,VN:=v.2.2.2.1,VZ:=v.2.2.2.2 })
def jQ(a1:Int)(s:PS):Option (Int×Bool×PS):=(cB a1 s.n s.fn s.XA s.WQ s.blocks s.VO s.WJ s.VJ s.VK s.sent s.safe s.VN s.on s.XD s.WA s.first s.receiver s.VZ s.m4 s.fd s.ZR s.od).bind fun v=>some (v.1,v.2,s)
def rY(a1:(Int×(List Int)×(List aQ)))(s:PS):Option ((Option Int)×PS):=(fG a1 s.n s.fn s.XA s.WQ s.blocks s.VO s.WJ s.VJ s.VK s.sent s.safe s.VN s.on s.XD s.WA s.first s.receiver s.VZ s.m4 s.fd s.ZR s.od).bind fun v=>some (v.1,{ s with XD:=v.2.1,ZR:=v.2.2.1,od:=v.2.2.2 })
def dP(a1:(List Int))(s:PS):Option ((Option Int)×PS):=(cD a1 s.n s.fn s.XA s.WQ s.blocks s.VO s.WJ s.VJ s.VK s.sent s.safe s.VN s.on s.XD s.WA s.first s.receiver s.VZ s.m4 s.fd s.ZR s.od).bind fun v=>some (v.1,{ s with XD:=v.2.1,first:=v.2.2.1,receiver:=v.2.2.2.1,VZ:=v.2.2.2.2.1,ZR:=v.2.2.2.2.2.1,od:=v.2.2.2.2.2.2 })
def dT(a1:(List Int))(s:PS):Option ((Option Int)×PS):=(cL a1 s.n s.fn s.XA s.WQ s.blocks s.VO s.WJ s.VJ s.VK s.sent s.safe s.VN s.on s.XD s.WA s.first s.receiver s.VZ s.m4 s.fd s.ZR s.od).bind fun v=>some (v.1,{ s with VO:=v.2.1,VJ:=v.2.2.1,VK:=v.2.2.2.1,sent:=v.2.2.2.2.1,safe:=v.2.2.2.2.2.1,VN:=v.2.2.2.2.2.2 })
def iL(a1:(Bool×Bool×(List Int)))(s:PS):Option ((Option Int)×PS):=(dV a1 s.n s.fn s.XA s.WQ s.blocks s.VO s.WJ s.VJ s.VK s.sent s.safe s.VN s.on s.XD s.WA s.first s.receiver s.VZ s.m4 s.fd s.ZR s.od).bind fun v=>some (v.1,{ s with VO:=v.2.1,VJ:=v.2.2.1,VK:=v.2.2.2.1,sent:=v.2.2.2.2.1,safe:=v.2.2.2.2.2.1,VN:=v.2.2.2.2.2.2.1,XD:=v.2.2.2.2.2.2.2.1,first:=v.2.2.2.2.2.2.2.2.1,receiver:=v.2.2.2.2.2.2.2.2.2.1,VZ:=v.2.2.2.2.2.2.2.2.2.2.1,ZR:=v.2.2.2.2.2.2.2.2.2.2.2.1,od:=v.2.2.2.2.2.2.2.2.2.2.2.2 })
def cU(a1:Int)(s:PS):Option ((Option Int)×PS):=(cS a1 s.n s.fn s.XA s.WQ s.blocks s.VO s.WJ s.VJ s.VK s.sent s.safe s.VN s.on s.XD s.WA s.first s.receiver s.VZ s.m4 s.fd s.ZR s.od).bind fun v=>some (v.1,{ s with VO:=v.2.1,VJ:=v.2.2.1,VK:=v.2.2.2.1,sent:=v.2.2.2.2.1,safe:=v.2.2.2.2.2.1,VN:=v.2.2.2.2.2.2.1,XD:=v.2.2.2.2.2.2.2.1,first:=v.2.2.2.2.2.2.2.2.1,receiver:=v.2.2.2.2.2.2.2.2.2.1,VZ:=v.2.2.2.2.2.2.2.2.2.2.1,ZR:=v.2.2.2.2.2.2.2.2.2.2.2.1,od:=v.2.2.2.2.2.2.2.2.2.2.2.2 })
def rD(a1:Int)(s:PS):Option ((Option Int)×PS):=(gA a1 s.n s.fn s.XA s.WQ s.blocks s.VO s.WJ s.VJ s.VK s.sent s.safe s.VN s.on s.XD s.WA s.first s.receiver s.VZ s.m4 s.fd s.ZR s.od).bind fun v=>some (v.1,{ s with VZ:=v.2 })
def lN(a1:Int)(s:PS):Option ((Option Int)×PS):=(eQ a1 s.n s.fn s.XA s.WQ s.blocks s.VO s.WJ s.VJ s.VK s.sent s.safe s.VN s.on s.XD s.WA s.first s.receiver s.VZ s.m4 s.fd s.ZR s.od).bind fun v=>some (v.1,{ s with VZ:=v.2 })
def lO(a1:(Int×Int×Int×aQ))(s:PS):Option ((Option Int)×PS):=(eR a1 s.n s.fn s.XA s.WQ s.blocks s.VO s.WJ s.VJ s.VK s.sent s.safe s.VN s.on s.XD s.WA s.first s.receiver s.VZ s.m4 s.fd s.ZR s.od).bind fun v=>some (v.1,{ s with VZ:=v.2 })
def rE(a1:(Int×aQ×Int×Int×Int×(List aQ)))(s:PS):Option ((Int×aQ×Int×Int×Int×(List aQ))×(Option Int)×PS):=(dW a1 s.n s.fn s.XA s.WQ s.blocks s.VO s.WJ s.VJ s.VK s.sent s.safe s.VN s.on s.XD s.WA s.first s.receiver s.VZ s.m4 s.fd s.ZR s.od).bind fun v=>some (v.1,v.2,s)
def mZ(a1:(Int×Int×Int×aQ))(s:PS):Option ((Int×aQ×Int×Int×Int×(List aQ))×(Option Int)×PS):=(iC a1 s.n s.fn s.XA s.WQ s.blocks s.VO s.WJ s.VJ s.VK s.sent s.safe s.VN s.on s.XD s.WA s.first s.receiver s.VZ s.m4 s.fd s.ZR s.od).bind fun v=>some (v.1,v.2.1,{ s with n:=v.2.2.1,fn:=v.2.2.2.1,XA:=v.2.2.2.2.1,WQ:=v.2.2.2.2.2.1,blocks:=v.2.2.2.2.2.2.1,VO:=v.2.2.2.2.2.2.2.1,WJ:=v.2.2.2.2.2.2.2.2.1,VJ:=v.2.2.2.2.2.2.2.2.2.1,VK:=v.2.2.2.2.2.2.2.2.2.2.1,sent:=v.2.2.2.2.2.2.2.2.2.2.2.1,safe:=v.2.2.2.2.2.2.2.2.2.2.2.2.1,VN:=v.2.2.2.2.2.2.2.2.2.2.2.2.2.1,on:=v.2.2.2.2.2.2.2.2.2.2.2.2.2.2.1,XD:=v.2.2.2.2.2.2.2.2.2.2.2.2.2.2.2.1,WA:=v.2.2.2.2.2.2.2.2.2.2.2.2.2.2.2.2.1,first:=v.2.2.2.2.2.2.2.2.2.2.2.2.2.2.2.2.2.1,receiver:=v.2.2.2.2.2.2.2.2.2.2.2.2.2.2.2.2.2.2.1,VZ:=v.2.2.2.2.2.2.2.2.2.2.2.2.2.2.2.2.2.2.2.1,m4:=v.2.2.2.2.2.2.2.2.2.2.2.2.2.2.2.2.2.2.2.2.1,fd:=v.2.2.2.2.2.2.2.2.2.2.2.2.2.2.2.2.2.2.2.2.2.1,ZR:=v.2.2.2.2.2.2.2.2.2.2.2.2.2.2.2.2.2.2.2.2.2.2.1,od:=v.2.2.2.2.2.2.2.2.2.2.2.2.2.2.2.2.2.2.2.2.2.2.2 })
end Go.Mo
namespace Go.WT
open Go Go.Sw Go.Mo Go.Pl
theorem Yx{a b c:Nat}(h:a ^^^ c=b ^^^ c):a=b:=by
 have:=congrArg (·^^^ c) h;simpa[Nat.xor_assoc] using this
theorem QE{a b c:Nat}(h:c ^^^ a=c ^^^ b):a=b:=by
 rw[Nat.xor_comm c a,Nat.xor_comm c b] at h;exact Yx h
theorem IZ{a b:Nat}(ha:a<4294967296)(hb:b<4294967296)(h:Yr a=Yr b):a=b:=by
 have top:∀x:Nat,x<2147483648->2147483648<=x ^^^ Sq:=by
  intro x B;have z:(x ^^^ Sq) / 2 ^ 31 % 2=(x / 2 ^ 31+Sq / 2 ^ 31) % 2:=MI x Sq 31;have u:x / 2 ^ 31=0:=Nat.div_eq_of_lt (by simpa using B);have A:Sq / 2 ^ 31=1:=by decide
  rw[u,A] at z;omega
 unfold Yr at h;by_cases z:a % 2=1
 ·by_cases u:b % 2=1
  ·rw[WV z,WV u] at h;have:=Yx h;omega
  ·rw[WV z,WM u] at h;have:=top (a / 2) (by omega);omega
 ·by_cases u:b % 2=1
  ·rw[WM z,WV u] at h;have:=top (b / 2) (by omega);omega
  ·rw[WM z,WM u] at h;omega
theorem No:∀(n:Nat) {a b:Nat},a<4294967296->b<4294967296->Pe n a=Pe n b->a=b
 | 0,_,_,_,_,h=>h
 |n+1,_,_,u,z,h=>No n u z (IZ (Lm u) (Lm z) h)
theorem TL{r b:Nat}(hr:r<4294967296)(hb:b<256):r ^^^ b<4294967296:=by
 have:r ^^^ b<2 ^ 32:=aCc (by simpa using hr) (by omega);simpa using this
theorem EC{r r' b:Nat}(hr:r<4294967296)(jr:r'<4294967296)(hb:b<256)(h:zZ r b=zZ r' b):r=r':=
 Yx (No 8 (TL hr hb) (TL jr hb) h)
theorem ED{r b b':Nat}(hr:r<4294967296)(hb:b<256)(YB:b'<256)(h:zZ r b=zZ r b'):b=b':=
 QE (No 8 (TL hr hb) (TL hr YB) h)
theorem Wd:∀(l:List Nat) {r r':Nat},r<4294967296->r'<4294967296->(∀b∈l,b<256)->l.foldl zZ r=l.foldl zZ r'->r=r'
 | [],_,_,_,_,_,h=>h
 |b::l,_,_,z,A,u,h=>EC z A (u b (by simp)) (Wd l (Bn z (u b (by simp))) (Bn A (u b (by simp))) (fun c B=>u c (by simp[B])) h)
theorem NI{l:List Nat}{k v:Nat}(hl:∀b∈l,b<256)(hk:k<l.length)(hv:v<256)(YZ:l[k]≠v):Aa (l.set k v)≠Aa l:=by
 intro h;have C:l=l.take k++l[k]::l.drop (k+1):=by rw[<-aCy hk,U4]
 have D:l.set k v=l.take k++v::l.drop (k+1):=by rw[aDx,WV hk]
 unfold Aa at h;rw[D] at h;have A:(l.take k++v::l.drop (k+1)).foldl zZ 4294967295=(l.take k++l[k]::l.drop (k+1)).foldl zZ 4294967295:=by rw[<-C];exact h
 rw[aC6,aC6,U6,U6] at A;have u:=Hs (l.take k) 4294967295 (by decide) (fun b z=>hl b (aCp z));have B:l[k]<256:=hl _ (fp hk);have E:=Wd (l.drop (k+1)) (Bn u hv) (Bn u B) (fun b z=>hl b (aDr z)) A;exact YZ (ED u hv B E).symm
theorem JB{a b:Nat}(ha:a<4294967296)(hb:b<4294967296)(h:y6 a=y6 b):a=b:=by
 simp only[y6,aCz,aEi] at h;omega
theorem BV{l:List Int}(h:Bytes l):Aa (nat l)<4294967296:=Hs _ _ (by decide) (Ht h)
theorem H2{f:fJ}(g:Good f){k:Nat}{v:Int}(hk:k<(aZ f).length)(hv:0<=v/\v<=255)(YZ:(aZ f)[k]≠v)(hb:Bytes ((aZ f).set k v)):fA ((aZ f).set k v)=none:=by
 cases hf:fA ((aZ f).set k v) with
 |none=>rfl
 |some x=>
  exfalso;obtain⟨N,_,h⟩:=Gn hb hf;have E:(body x).length=(body f).length:=by
   have:=congrArg List.length h;simp[aZ,y6] at this;omega
  have A:=(rC g).1;have H:=(rC N).1;have O:=BV A;have P:=BV H;by_cases u:k<(body f).length
  ·have e:(aZ f).set k v=(body f).set k v++y6 (4294967295 - Aa (nat (body f))):=by unfold aZ;rw[List.set_append_left _ _ u]
   rw[e] at h;unfold aZ at h;obtain⟨D,z⟩:=List.append_inj h (by simp[E]);have Q:=JB (by omega) (by omega) z;have B:Aa (nat (body x))=Aa (nat (body f)):=by omega
   rw[D] at B;have I:nat ((body f).set k v)=(nat (body f)).set k v.toNat:=by unfold nat;rw[List.map_set]
   rw[I] at B;have K:k<(nat (body f)).length:=by simpa[nat] using u
   refine NI (Ht A) K (by omega) ?_ B;intro M;have L:(nat (body f))[k]=((body f)[k]).toNat:=by simp[nat]
   have C:(aZ f)[k]=(body f)[k]:=by simp only[aZ];rw[aC8 u]
   have:=A _ (fp u);rw[L] at M;rw[C] at YZ;omega
  ·have e:(aZ f).set k v=body f++(y6 (4294967295 - Aa (nat (body f)))).set (k - (body f).length) v:=by unfold aZ;rw[List.set_append_right _ _ (by omega)]
   rw[e] at h;unfold aZ at h;obtain⟨D,z⟩:=List.append_inj h E;rw[D] at z;have F:k - (body f).length<(y6 (4294967295 - Aa (nat (body f)))).length:=by
    have:(aZ f).length=(body f).length+(y6 (4294967295 - Aa (nat (body f)))).length:=by simp[aZ]
    omega
   have C:(aZ f)[k]=(y6 (4294967295 - Aa (nat (body f))))[k - (body f).length]:=by simp only[aZ];rw[List.getElem_append_right (by omega)]
   have G:(y6 (4294967295 - Aa (nat (body f))))[k - (body f).length]? =some v:=by rw[z,aB1 F]
   rw[E8 F,u3] at G;exact YZ (by rw[C,G])
theorem aTb{a b:Int}(ha:0<=a/\a<=255)(hb:0<=b/\b<=255):ar .xor .u8 a b=((a.toNat ^^^ b.toNat:Nat):Int):=by
 have u:((a.toNat:Nat):Int)=a:=by omega
 have z:((b.toNat:Nat):Int)=b:=by omega
 have h:a.toNat ^^^ b.toNat<2 ^ 8:=aCc (by omega) (by omega);show IntKind.wrap .u8 ((BitVec.ofInt 8 a ^^^ BitVec.ofInt 8 b).toNat:Int)=_;rw[<-u,<-z];simp only[rX,aEv,zp,m9];rw[P4 (a:=a.toNat) (by omega),P4 (a:=b.toNat) (by omega),BM (by omega)]
end Go.WT
namespace Go.WT
open Go Go.Sw Go.Mo Go.Pl
def Gp(s:uK):Option fJ->uK
 |none=>s
 |some f=>if f.1=0/\f.2.2=[]/\f.2.1.length=2/\f.2.1.getD 0 0=s.1/\s.2.1<f.2.1.getD 1 0/\f.2.1.getD 1 0 - s.2.1<=min (s.2.2.length:Int) 4 then (s.1,f.2.1.getD 1 0,s.2.2.drop (f.2.1.getD 1 0 - s.2.1).toNat) else s
theorem Ac(s:uK)(b:List Int)(hb:Bytes b)(hl:b.length<=2000)(h0:jL s=0):rW s b=some (Gp s (fA b),none):=by
 obtain⟨X,q2,S,T⟩:=Kk h0;unfold rW;rw[ZU,WV h0,cM,Vx _ S T,oH b hb (by omega)];simp only[ZY,pF,cM];cases hf:fA b with
 |none=>simp[Gp]
 |some f=>
  obtain⟨g,_,_⟩:=Gn hb hf;simp only[ZY,pF,cn,cg,Gp];by_cases u:¬(f.1=0)
  ·simp[u]
  have u:=aC7.1 u;by_cases z:¬((f.2.1.length:Int)=2)
  ·have F:f.2.1.length≠2:=fun h=>z (by omega);simp[u,z,F]
  have z:=aC7.1 z;by_cases U:(f.2.2.length:Int)>0
  ·have C:f.2.2≠ []:=pf.1 (by omega);have G:0<f.2.2.length:=by omega
   simp[u,z,G,C]
  have C:f.2.2=[]:=ig (by omega);obtain⟨n0,n1,E⟩:∃n0 n1,f.2.1=[n0,n1]:=by
   match hm:f.2.1,z with
   | [a,c],_=>exact⟨a,c,rfl⟩
   | [],c=>simp at c
   | [_],c=>simp at c
   |_::_::_::_,c=>simp at c;omega
  have H:Sw.idx [n0,n1] (0:Int)=some n0:=by simp[Sw.idx]
  have I:Sw.idx [n0,n1] (1:Int)=some n1:=by simp[Sw.idx]
  have V:0<=n1/\n1<=2147483647:=g.num n1 (by rw[E];simp);have K:((2:Nat):Int)=2:=rfl;have L:(([]:List aQ).length:Int)=0:=rfl;have M:([n0,n1]:List Int).getD 0 0=n0:=rfl;have N:([n0,n1]:List Int).getD 1 0=n1:=rfl;have O:([n0,n1]:List Int).length=2:=rfl;simp only[u,C,E,H,I,K,L,M,N,O,ne_eq,aE0,F4,pF,cM,zd];rw[show decide ((0:Int)>0)=false from rfl];simp only[pF,cM];by_cases A:¬(n0=s.1)
  ·simp[A]
  have A:=aC7.1 A;have P:ar .sub .i64 n1 s.2.1=n1 - s.2.1:=N3 (by omega);simp only[A,aE0,F4,pF,P,yy,jp,zd];by_cases B:s.2.1<n1/\n1 - s.2.1<=min (s.2.2.length:Int) 4
  ·have Q:n1 - s.2.1=((n1 - s.2.1).toNat:Int):=by omega
   rw[A5 (show n1 - s.2.1>0 by omega),XT,A5 B.2,cM,XT,WV B];rw[Q,K9 _ _ (by omega),cM,m9]
  ·have R:(bif decide (n1 - s.2.1>0) then some (decide (n1 - s.2.1<=min (s.2.2.length:Int) 4)) else some false)=some false:=by
    by_cases D:n1 - s.2.1>0
    ·rw[A5 D,ZW (fun h=>B ⟨by omega,h⟩)];rfl
    ·rw[ZW D];rfl
   rw[R,cM,pF,WM B]
def Hv(r:Int×Int):Option fJ->(Int×Int)×fJ×Bool×(Bool×List Int)
 |none=>(r,(0,[],[]),false,(true,[]))
 |some f=>if f.1=1/\3<=f.2.1.length/\f.2.1.getD 0 0=r.1/\f.2.1.getD 2 0<=15 then
   (if f.2.1.getD 1 0=r.2/\r.2<2147483647 then ((r.1,r.2+1),(f.2.1.getD 2 0,f.2.1.drop 3,f.2.2),true,(false,aZ ((0:Int),[r.1,r.2+1],([]:List aQ))))
   else (r,(0,[],[]),false,(false,aZ ((0:Int),[r.1,r.2],([]:List aQ)))))
  else (r,(0,[],[]),false,(true,[]))
theorem Np(r:Int×Int)(b:List Int)(hb:Bytes b)(hl:b.length<=2000)(h1:0<=r.1/\r.1<=2147483647)(h2:0<=r.2/\r.2<=2147483647):
  oA r b=some ((Hv r (fA b)).1,(Hv r (fA b)).2.1,(Hv r (fA b)).2.2.1,(Hv r (fA b)).2.2.2,none):=by
 unfold oA;rw[m6,m8.2 h1,m8.2 h2,oH b hb (by omega)];simp only[Bool.or_self,vo,iz,pF,cM];cases hf:fA b with
 |none=>simp[Hv]
 |some f=>
  obtain⟨g,_,_⟩:=Gn hb hf;simp only[ZY,pF,cn,cg,cl,Hv];by_cases u:¬(f.1=1)
  ·simp[u]
  have u:=aC7.1 u;by_cases A:(f.2.1.length:Int)<3
  ·have G:¬3<=f.2.1.length:=by omega
   simp[u,A,G]
  obtain⟨n0,n1,n2,ns,F⟩:∃n0 n1 n2 ns,f.2.1=n0::n1::n2::ns:=by
   match hm:f.2.1,A with
   |a::c::d::e,_=>exact⟨a,c,d,e,rfl⟩
   | [],c=>simp at c
   | [_],c=>simp at c
   | [_,_],c=>simp at c
  have H:Sw.idx (n0::n1::n2::ns) (0:Int)=some n0:=by simp[Sw.idx]
  have I:Sw.idx (n0::n1::n2::ns) (1:Int)=some n1:=by simp[Sw.idx]
  have K:Sw.idx (n0::n1::n2::ns) (2:Int)=some n2:=by simp[Sw.idx]
  have L:Sw.sub (n0::n1::n2::ns) (3:Int) ((n0::n1::n2::ns).length:Int)=some ns:=K9 (n0::n1::n2::ns) 3 (by simp);have M:(n0::n1::n2::ns).getD 0 0=n0:=rfl;have N:(n0::n1::n2::ns).getD 1 0=n1:=rfl;have O:(n0::n1::n2::ns).getD 2 0=n2:=rfl;have P:(n0::n1::n2::ns).drop 3=ns:=rfl;have Q:3<=(n0::n1::n2::ns).length:=by simp
  rw[F] at A;simp only[u,A,F,H,I,K,L,M,N,O,P,Q,ne_eq,aE0,F4,pF,cM,zd];by_cases z:¬(n0=r.1)
  ·simp[z]
  have z:=aC7.1 z;by_cases E:n2>15
  ·have:¬n2<=15:=by omega
   simp[z,E,this]
  have R:n2<=15:=by omega
  simp only[z,E,R,aE0,F4,pF,cM,ce,jp,zd,l3];by_cases B:n1=r.2/\r.2<2147483647
  ·have S:ar .add .i64 r.2 1=r.2+1:=p7 (by omega);obtain⟨e,D⟩:=M1 h1 (c:=r.2+1) (by omega);simp only[B.1,B.2,jb,XT,cM,S,Et D e,Nn,and_self,l3]
  ·obtain⟨e,D⟩:=M1 h1 h2;have T:(bif decide (n1=r.2) then some (decide (r.2<2147483647)) else some false)=some false:=by
    by_cases C:n1=r.2
    ·have:¬r.2<2147483647:=fun h=>B ⟨C,h⟩;simp[C,this]
    ·simp[C]
   rw[T,WM B];simp only[pF,cM,Et D e,Nn]
theorem Jf{S q:Int}(h0:jL (S,q,[])=0):pE (S,q,[])=some ([],none):=by
 have h:Tr (S,q,[])=[]:=by simp[Tr]
 have:=(BP (S,q,[]) h0 (fun f u=>by simp at u)).1;rw[this,h];rfl
theorem Nq{S q:Int}{m:fJ}(h0:jL (S,q,[m])=0)(hq:q<=2147483647)(hm:dO m=0)(hb:∀b∈m.2.2,b.length=8/\Bytes b):
  pE (S,q,[m])=some ([aZ (WO (S,q,[m]) 0 m)],none):=by
 have u:Tr (S,q,[m])=[m]:=by simp[Tr]
 have:=(BP (S,q,[m]) h0 (fun f h=>by simp at h;subst h;exact⟨hm,hb⟩)).1;rw[this,u];have z:Qx (S,q,[m]) 0 m []=some [aZ (WO (S,q,[m]) 0 m)]:=by
  unfold Qx;rw[WM (by simp;omega)];rfl
 simp[Bz,z]
theorem nA{S q:Int}{l:List fJ}(hS:0<=S/\S<=2147483647)(hq:0<=q/\q<=2147483647)(hl:l.length<=64)(h:∀f∈l,dO f=0):jL (S,q,l)=0:=by
 unfold jL;rw[m8.2 hS,m8.2 hq];simp only[Bool.or_self,P2,j5];rw[WM (by omega),Yu h];rfl
theorem Jg{S q:Int}{m:fJ}(hS:0<=S/\S<=2147483647)(hq:0<=q/\q<2147483647)(hm:dO m=0):uG (S,q,[]) m=some ((S,q,[m]),none):=by
 have z:jL (S,q,[])=0:=nA hS ⟨hq.1,by omega⟩ (by simp) (fun f h=>by simp at h);unfold uG;rw[ZU,WV z,cM];simp only[ZY,pF];rw[BO,WV hm,cM];have A:ar .add .i64 q (([]:List fJ).length:Int)=q:=by rw[p7 (by simp;omega)];simp
 have u:=Vv hm;have B:mV m=some m:=by
  unfold mV lI aP;rw[VM _ _ (by have:=u.1;simp;omega),VM _ _ (by have:=u.2;simp;omega)];rfl
 simp only[ZY,pF,A,ce,K0];rw[show decide ((([]:List fJ).length:Int)=64)=false from rfl,ZW (show¬(q>=2147483647) by omega)];simp only[pF,cM];rw[Vx [] (by simp) (fun f h=>by simp at h)];simp only[cM,B,Sw.app,V8,C8,U7];rfl
end Go.WT
namespace Go.XR
open Go Go.Sw Go.Mo Go.Pl Go.YR
variable {d:lZ}{blocks:List aQ}{a b n:Nat}
theorem NJ(h:oG d blocks a b)(h0:1<=blocks.length)(h1:blocks.length<=32)(ha:a<=2147483647)(hb:b+1<=2147483647):
  ∃d',cV (blocks.length:Int) d [] (a:Int) (ar .add .i64 (b:Int) (1:Int))=some (none,(blocks.length:Int),d')/\oG d' blocks a (b+1):=by
 rw[r7 (by omega)];have A:Vc blocks.length [] (a:Int) ((b+1:Nat):Int)=0:=by
  unfold Vc;rw[WM (by simp),WM (by omega)];rfl
 obtain⟨d',x',y',u,z,_,_,_,e,s⟩:=yR h h0 h1 [] _ _ A;have u:a=x':=by omega
 have z:b+1=y':=by omega
 subst u z;exact⟨d',e,s⟩
theorem We(h:oG d blocks a b)(h0:1<=blocks.length)(h1:blocks.length<=32)(ha:a<=2147483647)(hb:b+1<=2147483647):∃d',oG d' blocks a (b+1)/\
  (∀b0 b1 b2 b3 b4 b5 b6 b7 b8 b9 WZ WY XF WU XC WX XB WS,jE b0 b1 b2 b3 b4 b5 b6 b7 b8 b9 WZ WY XF WU XC WX XB WS (blocks.length:Int) d=some (none,(a:Int),((b+1:Nat):Int),(blocks.length:Int),d'))/\
  (∀b0 b1 b2 b3 b4 b5 b6 b7 b8 b9 WZ WY XF WU XC WX XB WS XM XL,gH b0 b1 b2 b3 b4 b5 b6 b7 b8 b9 WZ WY XF WU XC WX XB WS XM XL (blocks.length:Int) d=some (none,(a:Int),((b+1:Nat):Int),(blocks.length:Int),d'))/\
  (∀b0 b1 b2 b3 b4 b5 b6 b7 b8 b9 WZ WY XF WU XC WX XB WS XM XL,iX b0 b1 b2 b3 b4 b5 b6 b7 b8 b9 WZ WY XF WU XC WX XB WS XM XL (blocks.length:Int) d=some (none,(a:Int),((b+1:Nat):Int),(blocks.length:Int),d')):=by
 obtain⟨d',e,s⟩:=NJ h h0 h1 ha hb;have z:=Yn h ha (by omega);have u:ar .add .i64 (b:Int) (1:Int)=((b+1:Nat):Int):=r7 (by omega);rw[u] at e;refine⟨d',s,?_,?_,?_⟩<;>intros
 ·unfold jE;rw[z,cM];simp only[ZY,pF,u,e,cM]
 ·unfold gH;rw[z,cM];simp only[ZY,pF,u,e,cM]
 ·unfold iX;rw[z,cM];simp only[ZY,pF,u,e,cM]
theorem Wg(h:oG d blocks a b)(h0:1<=blocks.length)(h1:blocks.length<=32):iD (blocks.length:Int) d (blocks.length:Int)=some (some ((blocks.length:Int),d),none,(blocks.length:Int),d):=by
 unfold iD;rw[MP h,cM,Qn h h0 h1];rfl
theorem JC(h0:1<=n)(h1:n<=32):jC (n:Int)=some (some ((n:Int),fresh n),none):=by
 unfold jC;rw[DR h0 h1,cM];have:=Qn (Nc h1) (by simpa using h0) (by simpa using h1);simp only[pg] at this;simp only[ZY,pF,this,cM];rfl
def pQ(WJ:List (Int×List aQ))(num:Int)(blocks:List aQ):List (Int×List aQ):=Ge ((Hc WJ num blocks).getD []) (num - 5)
theorem Kl(WJ:List (Int×List aQ))(num:Nat)(hl:blocks.length<=1000)(hn:num<=2147483647)(hp:(Hc WJ (num:Int) blocks).isSome=true):
  (∀b0 b1 b3 b5 b7 b8 b9 WZ WY XF WU XC WX XB WS XM XL,fQ b0 b1 (num:Int) b3 blocks b5 WJ b7 b8 b9 WZ WY XF WU XC WX XB WS XM XL=some (pQ WJ num blocks))/\
  (∀b0 b1 b3 b5 b7 b8 b9 WZ WY XF WU XC WX XB WS XM XL XJ XI,eP b0 b1 (num:Int) b3 blocks b5 WJ b7 b8 b9 WZ WY XF WU XC WX XB WS XM XL XJ XI=some (pQ WJ num blocks)):=by
 obtain⟨q,B⟩:=Option.isSome_iff_exists.1 hp;have h:ar .sub .i64 (num:Int) 4=(num:Int) - 4:=N3 (by omega);have u:ar .sub .i64 ((num:Int) - 4) 1=(num:Int) - 4 - 1:=N3 (by omega);have z:(num:Int) - 4 - 1=(num:Int) - 5:=by omega
 have A:aP blocks=some blocks:=by
  unfold aP;rw[VM _ _ (by simp;omega)];rfl
 refine⟨?_,?_⟩<;>intros
 ·unfold fQ pQ;rw[A,cM,B,cM,h,u,z];rfl
 ·unfold eP pQ;rw[A,cM,B,cM,h,u,z];rfl
end Go.XR
namespace Go.XR
open Go Go.Sw Go.Mo Go.Pl Go.YR
variable {d:lZ}{blocks:List aQ}{a b n:Nat}
theorem Di(num:Nat)(blocks:List aQ):pQ [] num blocks=[((num:Int),blocks)]:=by
 unfold pQ Hc fP Ge;simp only[zi,U7,D8,aD1,kp];rw[WM (by omega)];rfl
theorem Hw(h:oG d blocks a b)(h0:1<=blocks.length)(h1:blocks.length<=32)(ha:a<=2147483647)(hb:b+1<=2147483647):∃d',oG d' blocks a (b+1)/\
  (∀b1 b2 b3 b4 b5 b6 b7 b8 b9 WZ WY XF WU XC WX XB WS,fE (blocks.length:Int) b1 b2 b3 b4 b5 b6 b7 b8 b9 WZ WY XF WU XC WX XB WS (blocks.length:Int) d=
   some (none,(blocks.length:Int),(a:Int),((b+1:Nat):Int),blocks,((a:Int),[],[],true),[((a:Int),blocks)],-1,(0,0,[]),0,0,[],(blocks.length:Int),d'))/\
  (∀b1 b2 b3 b4 b5 b6 b7 b8 b9 WZ WY XF WU XC WX XB WS XM XL XJ XI,gE (blocks.length:Int) b1 b2 b3 b4 b5 b6 b7 b8 b9 WZ WY XF WU XC WX XB WS XM XL XJ XI (blocks.length:Int) d=
   some (none,(blocks.length:Int),(a:Int),((b+1:Nat):Int),blocks,((a:Int),[],[],true),[((a:Int),blocks)],-1,(0,0,[]),0,0,[],(blocks.length:Int),d')):=by
 obtain⟨d',s,A,_,B⟩:=We h h0 h1 ha hb;have u:=xN s;have z:(Hc ([]:List (Int×List aQ)) (a:Int) blocks).isSome=true:=rfl;obtain⟨C,D⟩:=Kl (blocks:=blocks) [] a (by omega) ha z;refine⟨d',s,?_,?_⟩<;>intros
 ·unfold fE;rw[A,cM];simp only[ZY,pF];rw[u,cM];simp only[];rw[C,cM,Di]
 ·unfold gE;rw[B,cM];simp only[ZY,pF];rw[u,cM];simp only[];rw[D,cM,Di]
theorem Hx(h:oG d blocks a b)(h0:1<=blocks.length)(h1:blocks.length<=32)(ha:a<=2147483647)(hb:b+1<=2147483647):∃d',oG d' blocks a (b+1)/\
  (∀b1 b2 b3 b4 b5 b6 b7 b8 b9 WZ WY XF WU XC WX XB WS XM XL,gO (blocks.length:Int) b1 b2 b3 b4 b5 b6 b7 b8 b9 WZ WY XF WU XC WX XB WS XM XL (blocks.length:Int) d=
   some (none,(blocks.length:Int),(a:Int),((b+1:Nat):Int),-1,(0,0),(blocks.length:Int),d'))/\
  (∀b1 b2 b3 b4 b5 b6 b7 b8 b9 WZ WY XF WU XC WX XB WS XM XL XJ XI,gF (blocks.length:Int) b1 b2 b3 b4 b5 b6 b7 b8 b9 WZ WY XF WU XC WX XB WS XM XL XJ XI (blocks.length:Int) d=
   some (none,(blocks.length:Int),(a:Int),((b+1:Nat):Int),-1,(0,0),(blocks.length:Int),d')):=by
 obtain⟨d',s,_,u,_⟩:=We h h0 h1 ha hb;refine⟨d',s,?_,?_⟩<;>intros
 ·unfold gO;rw[u,cM]
 ·unfold gF;rw[u,cM]
def WL(s:PS):=(s.n,s.fn,s.XA,s.WQ,s.blocks,s.VO,s.WJ,s.VJ,s.VK,s.sent,s.safe,s.VN,s.on,s.XD,s.WA,s.first,s.receiver,s.VZ,s.m4,s.fd,s.ZR,s.od)
theorem JD(h0:1<=n)(h1:n<=32):∃d1 d2,oG d1 (List.replicate n aS) 0 1/\oG d2 (List.replicate n aS) 0 1/\
  iK (n:Int)=some (some (WL { n:=n,fn:=n,XA:=0,WQ:=1,blocks:=List.replicate n aS,VO:=(0,[],[],true),WJ:=[(0,List.replicate n aS)],VJ:= -1,VK:=(0,0,[]),sent:=0,safe:=0,VN:=[],on:=n,XD:=0,WA:=1,first:= -1,receiver:=(0,0),VZ:=[],m4:=n,fd:=d1,ZR:=n,od:=d2 }),none):=by
 have u:=Nc (n:=n) h1;have h:(List.replicate n aS).length=n:=pg;obtain⟨d1,s1,z,_⟩:=Hw u (by rw[h];exact h0) (by rw[h];exact h1) (by decide) (by decide);obtain⟨d2,B,A,_⟩:=Hx u (by rw[h];exact h0) (by rw[h];exact h1) (by decide) (by decide);rw[h] at z A;refine⟨d1,d2,s1,B,?_⟩;unfold iK;rw[JC h0 h1,cM];simp only[uT,ZY,pF,cM];rw[z,cM];simp only[ZY,pF];rw[A,cM];rfl
end Go.XR
namespace Go.XR
open Go Go.Sw Go.Mo Go.Pl Go.n5
structure lj (m:Nat) (b:Bd) (now:List aQ) (snaps:List (List aQ)):Prop where
 may:uH b (m:Int)=0
 num:(snaps.length:Int)=b.1+1
 X1:now.length=m
 len:∀s∈snaps,s.length=m
 open_:Ll (snaps.getD b.1.toNat []) b.2.1=now
 chain:BI snaps b.2.2.1
variable {m:Nat}{b:Bd}{now:List aQ}{snaps:List (List aQ)}
theorem lj.add(h:lj m b now snaps){p:pN}(hp:0<=p.1/\p.1<m):lj m (b.1,R9 b.2.1 p,b.2.2.1,b.2.2.2) (now.set p.1.toNat p.2) snaps:=by
 obtain⟨E,F,G,H,I,z,K,L,M⟩:=j9 h.may;have B:=YU m b.2.1 _ z;have C:=YU m (R9 b.2.1 p) _ (Ve hp z);refine⟨MT h.may hp,h.num,by rw[aCs];exact h.X1,h.len,?_,h.chain⟩;have D:Ll (snaps.getD b.1.toNat []) (R9 b.2.1 p)=Ll (snaps.getD b.1.toNat []) (b.2.1++[p]):=
  Qq (fun q u=>by have:=C q u;omega) (fun q u=>by
   rcases K5.1 u with u | u
   ·have:=B q u;omega
   ·simp at u;subst u;exact hp.1) fun i=>DU z i
 show Ll (snaps.getD b.1.toNat []) (R9 b.2.1 p)=_;rw[D];have A:=h.open_;unfold Ll at A ⊢;rw[aC6,A];rfl
theorem JE{n base:Int}:∀(l:List Ep) (j:Int),Gi n base j l=true->∀e∈l,e.1<=base+j+l.length - 1
 | [],_,_,e,h=>by simp at h
 |x::l,j,u,e,h=>by
  simp only[Gi] at u;split at u
  ·rename_i z;rcases o6.1 h with rfl | h
   ·simp only[C8];omega
   ·have:=JE l (j+1) u e h;simp only[C8];omega
  ·cases u
theorem lj.shut(h:lj m b now snaps)(hi:b.1<2147483647):lj m (By b) now (snaps++[now]):=by
 obtain⟨I,K,L,M,N,O,P,Q,E⟩:=j9 h.may;have H:=h.num;have A:(By b).1=b.1+1:=by unfold By;split;rfl;split<;>rfl
 have C:(By b).2.1=[]:=by unfold By;split;rfl;split<;>rfl
 have D:∀e∈b.2.2.1,e.1<=b.1:=fun e u=>by have:=JE _ _ E e u;omega
 have B:BI (snaps++[now]) b.2.2.1:=fun e u=>by
  obtain⟨F,G⟩:=h.chain e u;have:=D e u;exact⟨F,by rw[uI (by omega),uI (by omega)];exact G⟩
 refine⟨IA h.may hi,by rw[A];simp;omega,h.X1,fun s z=>?_,?_,?_⟩
 ·rcases K5.1 z with z | z
  ·exact h.len s z
  ·simp at z;subst z;exact h.X1
 ·rw[C,A,Es (by omega)];rfl
 ·unfold By;split
  ·exact B
  ·split
   ·intro e u;simp at u
   ·intro e u;rcases K5.1 u with u | u
    ·exact B e u
    ·simp only[aCd] at u;subst u;refine⟨by simp only;omega,?_⟩;simp only;rw[show b.1+1 - 1=b.1 by omega,uI (by omega),Es (by omega)];exact h.open_
theorem lj.drop(h:lj m b now snaps){num:Int}(hn:0<=num/\num<=b.1):pL b (m:Int) num=some ((b.1,b.2.1,b.2.2.1.filter (fun e=>decide (num<e.1)),if num=b.1 then false else b.2.2.2),none)/\
  lj m (b.1,b.2.1,b.2.2.1.filter (fun e=>decide (num<e.1)),if num=b.1 then false else b.2.2.2) now snaps:=
 ⟨MU h.may hn,HZ h.may hn,h.num,h.X1,h.len,h.open_,fun e u=>h.chain e (zg.1 u).1⟩
theorem Wh(hm:1<=m/\m<=32){num:Nat}(hn:snaps.length=num+1)(hb:num<=2147483647)(hl:∀s∈snaps,s.length=m):lj m ((num:Int),[],[],true) (snaps.getD num []) snaps:=by
 refine⟨Er (by omega) (by simp;omega) (by simp) rfl (by simp) (by simp) rfl,by simp;omega,?_,hl,rfl,fun e h=>by simp at h⟩;rw[P3,E8 (by omega)];exact hl _ (fp _)
theorem Nr{n:Int}:∀(A:List (Option pN)) (j:Nat),(∀(i:Nat) (p:pN),A[i]? =some (some p)->p.1=((j+i:Nat):Int)/\p.1<n)->∀prev:Int,prev<(j:Int)->Go.ZX.l8 n prev (A.filterMap id)=true
 | [],_,_,_,_=>rfl
 |none::A,j,h,prev,B=>by
  simp only[List.filterMap_cons,id];exact Nr A (j+1) (fun i p u=>by have:=h (i+1) p (by simpa using u);refine⟨?_,this.2⟩;rw[this.1];congr 1;omega) prev (by omega)
 |some q::A,j,h,prev,B=>by
  have z:=h 0 q rfl;simp only[List.filterMap_cons,id,Go.ZX.l8,E7,qt];refine⟨by unfold Go.ZX.P0;simp;omega,?_⟩;exact Nr A (j+1) (fun i p u=>by have:=h (i+1) p (by simpa using u);refine⟨?_,this.2⟩;rw[this.1];congr 1;omega) q.1 (by rw[z.1];omega)
theorem lj.since(h:lj m b now snaps){k:Int}(hk:0<=k/\k<=b.1):nF b (m:Int) k=some ((0,[]),false,none)\/
  ∃ps,nF b (m:Int) k=some ((b.1,ps),true,none)/\Ll (snaps.getD k.toNat []) ps=snaps.getD b.1.toNat []/\Go.ZX.l8 (m:Int) (-1) ps=true/\ps.length<=32:=by
 obtain⟨E,F,G,H,I,K,L,M,A⟩:=j9 h.may;rw[fz b m k (bz h.may),WM (by rw[h.may];simp),WM (by omega)];by_cases c:b.1 - k>b.2.2.1.length
 ·rw[WV c];exact .inl rfl
 ·rw[WM c];refine .inr ⟨_,rfl,?_⟩;have u:=Vh (k:=k) (snaps:=snaps) (by omega:(m:Int)<=32) (by omega:b.1 - b.2.2.1.length+1 - 1<=k) (by omega) b.2.2.1 A h.chain;have B:max k (b.1 - b.2.2.1.length+1+b.2.2.1.length - 1)=b.1:=by omega
  rw[B] at u;refine⟨u.1,?_,?_⟩
  ·refine Nr _ 0 (fun i p z=>?_) (-1) (by omega);have C:=u.2 i p z;have D:=Yq (n:=(m:Int)) (Lk A) z;exact⟨by simpa using C,D.2⟩
  ·refine eh (List.length_filterMap_le _ _) ?_;rw[Bm];simp
end Go.XR
namespace Go.XR
open Go Go.Sw Go.Mo Go.Pl
open Go.YR (DO DP orI orP)
abbrev l6:=Int×Int×Int×aQ
abbrev Fm:=Int×List Int×List aQ
theorem SQ{a b:Nat}(ha:a<4611686018427387904)(hb:b<4611686018427387904):ar .and .i64 (a:Int) (b:Int)=((a &&& b:Nat):Int):=by
 have h:a &&& b<2 ^ 62:=Nat.lt_of_le_of_lt Nat.and_le_left (by simpa using ha);show IntKind.wrap .i64 ((BitVec.ofInt 64 (a:Int) &&& BitVec.ofInt 64 (b:Int)).toNat:Int)=_;simp only[rX,aEw,zp];rw[P4 (a:=a) (by omega),P4 (a:=b) (by omega)];exact wrap_i64 (by omega)
theorem NK{at_ k fr:Nat}(h1:at_<32)(h2:k<4)(h3:fr<64):ar .or .i64 (ar .or .i64 (sh .shl .i64 (at_:Int) (8:Int)) (sh .shl .i64 (k:Int) (6:Int))) (fr:Int)=((at_*256+k*64+fr:Nat):Int):=by
 have h:sh .shl .i64 (at_:Int) (8:Int)=((at_*2 ^ 8:Nat):Int):=DP (c:=8) (by omega) (by omega);have u:sh .shl .i64 (k:Int) (6:Int)=((k*2 ^ 6:Nat):Int):=DP (c:=6) (by omega) (by omega);rw[h,u,orI (by omega) (by omega),orP (by omega),orI (by omega) (by omega)];have z:at_*2 ^ 8+k*2 ^ 6=(at_*4+k)*2 ^ 6:=by omega
 rw[z,orP (by omega)]
theorem QF{at_ k fr:Nat}(h1:at_<32)(h2:k<4)(h3:fr<64):sh .shr .i64 ((at_*256+k*64+fr:Nat):Int) (8:Int)=(at_:Int)/\
  ar .and .i64 (sh .shr .i64 ((at_*256+k*64+fr:Nat):Int) (6:Int)) (3:Int)=(k:Int)/\ar .and .i64 ((at_*256+k*64+fr:Nat):Int) (63:Int)=(fr:Int):=by
 have h:sh .shr .i64 ((at_*256+k*64+fr:Nat):Int) (8:Int)=(((at_*256+k*64+fr) / 2 ^ 8:Nat):Int):=DO _ 8 (by omega);have u:sh .shr .i64 ((at_*256+k*64+fr:Nat):Int) (6:Int)=(((at_*256+k*64+fr) / 2 ^ 6:Nat):Int):=DO _ 6 (by omega);have z:ar .and .i64 (((at_*256+k*64+fr) / 2 ^ 6:Nat):Int) (3:Int)=((((at_*256+k*64+fr) / 2 ^ 6) &&& 3:Nat):Int):=SQ (b:=3) (by omega) (by omega);have A:ar .and .i64 ((at_*256+k*64+fr:Nat):Int) (63:Int)=(((at_*256+k*64+fr) &&& 63:Nat):Int):=SQ (b:=63) (by omega) (by omega);rw[h,u,z,A];have B:∀x:Nat,x &&& 3=x % 4:=fun x=>aDg x 2;have C:∀x:Nat,x &&& 63=x % 64:=fun x=>aDg x 6;rw[B,C];refine⟨?_,?_,?_⟩<;>congr 1<;>omega
def pX(q:l6):Int:=q.1*256+q.2.1*64+q.2.2.1
def tW(l:List l6):List aQ:=(l.filter fun q=>decide (q.2.1=3)).map fun q=>q.2.2.2
structure dc (q:l6):Prop where
 a:0<=q.1/\q.1<32
 k:0<=q.2.1/\q.2.1<=3
 f:0<=q.2.2.1/\q.2.2.1<64
 z:q.2.1≠3->q.2.2.2=aS
def rF(l:List l6)(kr to:Int):Fm:=((4:Int),[kr,to]++l.map pX,tW l)
theorem JF{q:l6}(h:dc q):ar .or .i64 (ar .or .i64 (sh .shl .i64 q.1 (8:Int)) (sh .shl .i64 q.2.1 (6:Int))) q.2.2.1=pX q:=by
 obtain⟨a,u⟩:∃a:Nat,q.1=a:=⟨q.1.toNat,by have:=h.a;omega⟩
 obtain⟨k,z⟩:∃a:Nat,q.2.1=a:=⟨q.2.1.toNat,by have:=h.k;omega⟩
 obtain⟨f,A⟩:∃a:Nat,q.2.2.1=a:=⟨q.2.2.1.toNat,by have:=h.f;omega⟩
 have B:=h.a;have C:=h.k;have D:=h.f;unfold pX;rw[u,z,A,NK (by omega) (by omega) (by omega)];omega
theorem NL{q:l6}(h:dc q):sh .shr .i64 (pX q) (8:Int)=q.1/\ar .and .i64 (sh .shr .i64 (pX q) (6:Int)) (3:Int)=q.2.1/\ar .and .i64 (pX q) (63:Int)=q.2.2.1:=by
 obtain⟨a,u⟩:∃a:Nat,q.1=a:=⟨q.1.toNat,by have:=h.a;omega⟩
 obtain⟨k,z⟩:∃a:Nat,q.2.1=a:=⟨q.2.1.toNat,by have:=h.k;omega⟩
 obtain⟨f,A⟩:∃a:Nat,q.2.2.1=a:=⟨q.2.2.1.toNat,by have:=h.f;omega⟩
 have B:=h.a;have C:=h.k;have D:=h.f;have:=QF (at_:=a) (k:=k) (fr:=f) (by omega) (by omega) (by omega);unfold pX;rw[u,z,A];have e:(a:Int)*256+(k:Int)*64+(f:Int)=((a*256+k*64+f:Nat):Int):=by omega
 rw[e];exact this
theorem Hy(l:List l6)(x:l6):tW (l++[x])=tW l++(if x.2.1=3 then [x.2.2.2] else []):=by
 unfold tW;rw[zq,aCr];by_cases h:x.2.1=3<;>simp[h]
theorem Wi(l:List l6):(tW l).length<=l.length:=by unfold tW;rw[ld];exact aCx _ _
theorem JG(num kr:Int)(ps:List (Int×aQ))(base:List aQ)(hp:ps.length<=32)(he:Go.ZX.YL base []=0)(hr:Go.ZX.l8 (base.length:Int) (-1) ps=true)(hk:∀q∈Go.ZX.ZH ps base [],dc q):
  rA (num,ps) base kr=some (rF (Go.ZX.ZH ps base []) kr num,decide (((2+(Go.ZX.ZH ps base []).length:Nat):Int)<=9)):=by
 unfold rA;rw[Go.ZX.jg ps base [] (by omega) (by simp),WM (by rw[he];simp),WV hr,cM];simp only[ZY,pF];have A:(Go.ZX.ZH ps base []).length<=32:=eh (Go.ZX.X0 _ _ _) hp;generalize hL:Go.ZX.ZH ps base []=L at hk A;rw[show ((0:Int),([kr,num]:List Int),([]:List aQ))=(fun (i:Nat) (acc:List Int×List aQ)=>((i:Int),acc.1,acc.2)) 0 ([kr,num],[]) from rfl];refine De (l:=L) (fun (i:Nat) (acc:List Int×List aQ)=>((i:Int),acc.1,acc.2)) (fun h acc=>acc=([kr,num]++h.map pX,tW h)) (fun acc=>(acc.1,acc.2)) ([kr,num],[]) (by unfold fO;omega) rfl ?_ ?_ ?_
 ·rintro h x E acc z rfl;have C:h.length<=32:=by rw[z] at A;simp at A;omega
  have B:=hk x (by rw[z];simp);have D:=Wi h;refine⟨([kr,num]++(h++[x]).map pX,tW (h++[x])),?_,rfl⟩;simp only[kR z,XT,kD z,cM,JF B];rw[VM _ _ (by simp;omega),cM,r7 (by omega),ce,Hy];by_cases u:x.2.1=3
  ·rw[A5 u,XT,VM _ _ (by simp;omega),cM,WV u];simp
  ·rw[ZW u,pF,WM u];simp
 ·rintro acc rfl;simp only[dS,pF]
 ·rintro acc rfl;simp only[rF,yy];have e:(([kr,num]++L.map pX).length:Int)=((2+L.length:Nat):Int):=by rw[sM,ld];rfl
  rw[e]
end Go.XR
namespace Go.XR
open Go Go.Sw Go.Mo Go.Pl
theorem Yy(l:List l6)(kr to:Int)(hl:l.length<=32)(hk:∀q∈l,dc q):oB (rF l kr to)=some (l,true):=by
 unfold oB rF;have I:Sw.sub ([kr,to]++l.map pX) (2:Int) ((([kr,to]++l.map pX).length:Nat):Int)=some (l.map pX):=by
  have:=Go.WT.K9 ([kr,to]++l.map pX) 2 (by simp);simpa using this
 rw[I,cM];have K:(l.map pX).length=l.length:=ld ..;rw[show (tW l,(0:Int),([]:List l6))=(fun (i:Nat) (acc:List aQ×List l6)=>(acc.1,(i:Int),acc.2)) 0 (tW l,[]) from rfl];refine De (l:=l) (fun (i:Nat) (acc:List aQ×List l6)=>(acc.1,(i:Int),acc.2)) (fun F acc=>acc.2=F/\tW F++acc.1=tW l) (fun acc=>(acc.1,acc.2)) (tW l,[]) (by unfold fO;omega) ⟨rfl,rfl⟩ ?_ ?_ ?_
 ·rintro F x u ⟨G,out⟩ C ⟨B,h⟩;simp only at B h;subst B;have U:out.length<=32:=by rw[C] at hl;simp at hl;omega
  have H:=hk x (by rw[C];simp);obtain⟨R,S,T⟩:=NL H;have L:Sw.idx (l.map pX) (out.length:Int)=some (pX x):=tA (by rw[C];simp);have D:cm .lss (out.length:Int) ((l.map pX).length:Int)=true:=by rw[K];exact kR C
  simp only[D,XT,L,cM,R,S,T,jp,ce];have E:tW l=tW out++((if x.2.1=3 then [x.2.2.2] else [])++tW u):=by
   rw[C,show out++x::u=(out++[x])++u by simp];have:∀a b:List l6,tW (a++b)=tW a++tW b:=fun a b=>by unfold tW;rw[zq,aCr]
   rw[this,Hy,C9]
  rw[E] at h;have h:=List.append_cancel_left h;by_cases A:x.2.1=3
  ·rw[WV A] at h;subst h;rw[A5 A,XT];have M:decide (((([x.2.2.2]++tW u).length:Nat):Int)=0)=false:=ZW (by simp;omega);have N:Sw.sub ([x.2.2.2]++tW u) (1:Int) ((([x.2.2.2]++tW u).length:Nat):Int)=some (tW u):=by
    have:=Go.WT.K9 ([x.2.2.2]++tW u) 1 (by simp);simpa using this
   have O:Sw.idx ([x.2.2.2]++tW u) (0:Int)=some x.2.2.2:=by simp[Sw.idx]
   rw[M,pF,O,cM,N,cM,VM _ _ (by simp;omega),cM,r7 (by omega)];refine⟨(tW u,out++[x]),rfl,rfl,?_⟩;simp only;rw[Hy,WV A,E,WV A,C9]
  ·rw[WM A,U7] at h;subst h;rw[ZW A,pF,VM _ _ (by simp;omega),cM,r7 (by omega)];have P:=H.z A;refine⟨(tW u,out++[x]),?_,rfl,?_⟩
   ·rw[<-P]
   ·simp only;rw[Hy,WM A,Z4,E,WM A,U7]
 ·rintro⟨G,out⟩ ⟨B,h⟩;simp only at B h;subst B;have D:cm .lss (out.length:Int) ((out.map pX).length:Int)=false:=by rw[ld];exact dS
  simp only[D,pF]
 ·rintro⟨G,out⟩ ⟨B,h⟩;simp only at B h;subst B;have Q:G=[]:=by
   have:=congrArg List.length h;simp at this;exact this
  subst Q;rfl
end Go.XR
namespace Go.XR
open Go Go.Sw Go.Mo Go.Pl
open Go.YR (oG sI Vc pW xN yR)
open Go.WT (dO)
def yT(b:aQ):Prop:=b.length=8/\Bytes b
structure u4 (n:Nat) (snaps:List (List aQ)) (cur to:Int) (m:Fm):Prop where
 lt:cur<to
 nn:0<=cur
 le:to<snaps.length
 load:dO m=0
 YV:∀b∈m.2.2,yT b
 say:m=((5:Int),[to],snaps.getD to.toNat [])\/∃l ps,m=rF l cur to/\l.length<=7/\(∀q∈l,dc q)/\pK l (snaps.getD cur.toNat []) []=some (ps,[],none)/\
  sI (snaps.getD cur.toNat []) ps=snaps.getD to.toNat []/\ps.length<=n/\(∀p∈ps,0<=p.1/\p.1<(n:Int))
def nB:Nat->List aQ->List (Int×aQ)
 |_,[]=>[]
 |i,b::l=>((i:Int),b)::nB (i+1) l
theorem Hz:∀(l:List aQ) (i:Nat) (b:aQ),nB i (l++[b])=nB i l++[(((i+l.length:Nat):Int),b)]
 | [],_,_=>rfl
 |x::l,i,b=>by
  simp only[cz,nB,C8];rw[Hz l (i+1) b];congr 4;omega
theorem Dj:∀(l:List aQ) (i:Nat),(nB i l).length=l.length
 | [],_=>rfl
 |_::l,i=>by simp[nB,Dj l (i+1)]
theorem Km:∀(l:List aQ) (i:Nat),∀p∈nB i l,(i:Int)<=p.1/\p.1<((i+l.length:Nat):Int)
 | [],_,p,h=>by simp[nB] at h
 |x::l,i,p,h=>by
  simp only[nB,o6] at h;rcases h with rfl | h
  ·simp only[C8];omega
  ·have:=Km l (i+1) p h;simp only[C8];omega
theorem Ns:∀(l pre base:List aQ),base.length=l.length->sI (pre++base) (nB pre.length l)=pre++l
 | [],pre,base,h=>by
  have:base=[]:=ig (by simpa using h);subst this;rfl
 |x::l,pre,base,h=>by
  match base,h with
  |y::base,h=>
   simp only[nB];show sI ((pre++y::base).set ((pre.length:Int)).toNat x) (nB (pre.length+1) l)=_;have:(pre++y::base).set ((pre.length:Int)).toNat x=(pre++[x])++base:=by simp
   rw[this];have:=Ns l (pre++[x]) base (by simpa using h);simp only[sM,C8,V8] at this;rw[this];simp
variable {n:Nat}{snaps:List (List aQ)}
theorem Nt{d:(List aQ)×(List (Int×aQ))×Int}{blocks:List aQ}{a b:Nat}(h:oG d blocks a b)(h0:1<=blocks.length)(h1:blocks.length<=32)(T7:b<=2147483647)(YC:List (Int×aQ))(to:Int)(ht:0<=to/\to<=2147483647)
  (hl:YC.length<=blocks.length) (hp:∀p∈YC,0<=p.1/\p.1<(blocks.length:Int)):
  ∃d',oG d' (sI blocks YC) to.toNat b/\
   (∀b0 b1 b2 b4 b5 b6 b7 b8 b9 WZ WY XF WU XC WX XB WS XJ XI,jU YC to b0 b1 b2 (b:Int) b4 b5 b6 b7 b8 b9 WZ WY XF WU XC WX XB WS (blocks.length:Int) d XJ XI=some (none,to,(blocks.length:Int),d'))/\
   (∀b0 b1 b2 b3 b4 b5 b6 b7 b8 b9 WZ WY XF WU WX XB WS XM XL,gV YC to b0 b1 b2 b3 b4 b5 b6 b7 b8 b9 WZ WY XF WU (b:Int) WX XB WS XM XL (blocks.length:Int) d=some (none,to,(blocks.length:Int),d')):=by
 have B:Vc blocks.length YC to (b:Int)=0:=by
  unfold Vc;rw[WM (by omega),WM (by omega),WM];intro C;obtain⟨p,D,A⟩:=aDf.1 C;have:=hp p D;unfold pW at A;simp at A;omega
 obtain⟨d',x',y',u,z,_,_,_,e,E⟩:=yR h h0 h1 YC to (b:Int) B;have u:to.toNat=x':=by omega
 have z:b=y':=by omega
 subst u z;refine⟨d',E,?_,?_⟩<;>intros
 ·unfold jU;rw[e];rfl
 ·unfold gV;rw[e];rfl
end Go.XR
namespace Go.XR
open Go Go.Sw Go.Mo Go.Pl
open Go.YR (oG sI Vc pW xN yR)
open Go.WT (dO)
variable {n:Nat}{snaps:List (List aQ)}
theorem Sy{γ:Type}(l:List aQ)(hl:l.length<=1000)(k:List (Int×aQ)->Option γ):
  lp (β:=(List (Int×aQ))) (fun (F1:Int×(List (Int×aQ)))=>
    bif (cm .lss F1.1 (l.length:Int)) then
     (Sw.idx l F1.1).bind fun z26=>
      (Sw.app F1.2 ([(F1.1,z26)]:(List (Int×aQ)))).bind fun g9=>
       some (.next ((ar .add .i64 F1.1 (1:Int)),g9))
    else
     some (.done (.WN F1.2))
    ) ((0:Int),([]:(List (Int×aQ)))) k=k (nB 0 l):=by
 rw[show ((0:Int),([]:List (Int×aQ)))=(fun (i:Nat) (acc:List (Int×aQ))=>((i:Int),acc)) 0 [] from rfl];refine De (l:=l) (fun (i:Nat) (acc:List (Int×aQ))=>((i:Int),acc)) (fun h acc=>acc=nB 0 h) (fun acc=>acc) [] (by unfold fO;omega) rfl ?_ ?_ ?_
 ·rintro h x A acc u rfl;have z:h.length<=1000:=by rw[u] at hl;simp at hl;omega
  refine⟨nB 0 (h++[x]),?_,rfl⟩;simp only[kR u,XT,kD u,cM];rw[VM _ _ (by simp[Dj];omega),cM,r7 (by omega),Hz,zk]
 ·rintro acc rfl;simp only[dS,pF]
 ·rintro acc rfl;rfl
theorem NM{s:PS}{blocks:List aQ}{a b:Nat}(h:oG s.od blocks a b)(T8:blocks=snaps.getD a [])(h0:1<=n)(h1:n<=32)(dw:∀x∈snaps,x.length=n)(ha:s.XD=(a:Int))(Y9:a<snaps.length)(ZN:snaps.length<=2147483647)(hb:s.WA=(b:Int))(T7:b<=2147483647)
  (hon:s.on=(n:Int)) (ho:s.ZR=(n:Int)) {m:Fm} {to:Int} (hm:u4 n snaps (a:Int) to m):
  ∃d',oG d' (snaps.getD to.toNat []) to.toNat b/\rY m s=some (none,{ s with XD:=to,ZR:=(n:Int),od:=d' }):=by
 have S:=hm.lt;have T:=hm.le;have E:∀i:Nat,i<snaps.length->(snaps.getD i []).length=n:=fun i O=>by
  rw[P3,E8 O];exact dw _ (fp _)
 have A:blocks.length=n:=by rw[T8];exact E a Y9
 have F:(snaps.getD to.toNat []).length=n:=E _ (by omega);rcases hm.say with rfl |⟨l,P,rfl,U,Q,D,z,V,R⟩
 ·
  obtain⟨d',u,_,e⟩:=Nt h (by omega) (by omega) T7 (nB 0 (snaps.getD to.toNat [])) to (by omega) (by rw[Dj];omega) (fun p C=>by have:=Km _ _ p C;omega);rw[A] at e;have z:sI blocks (nB 0 (snaps.getD to.toNat []))=snaps.getD to.toNat []:=by
   have:=Ns (snaps.getD to.toNat []) [] blocks (by omega);simpa using this
  rw[z] at u;refine⟨d',u,?_⟩;unfold rY fG;have B:Sw.idx [to] (0:Int)=some to:=by simp[Sw.idx]
  have I:((([to]:List Int).length:Nat):Int)=1:=rfl;simp only[ce,I,hon,F,B,cg,jb,XT,cM];rw[ha,A5 (show to>(a:Int) by omega),XT];have G:=Sy (snaps.getD to.toNat []) (by omega) (γ:=(Option Int)×Int×Int×((List aQ)×(List (Int×aQ))×Int));rw[F] at G;rw[G];simp only[cM,hb,ho,e]
 ·
  obtain⟨d',u,_,e⟩:=Nt h (by omega) (by omega) T7 P to (by omega) (by omega) (fun p C=>by have:=R p C;omega);rw[A] at e;rw[m9] at D z;rw[T8,z] at u;refine⟨d',u,?_⟩;have H:=xN h;rw[A] at H;unfold rY fG;have K:=Yy l (a:Int) to (by omega) Q;have B:Sw.idx ((rF l (a:Int) to).2.1) (0:Int)=some (a:Int):=by simp[rF,Sw.idx]
  have L:Sw.idx ((rF l (a:Int) to).2.1) (1:Int)=some to:=by simp[rF,Sw.idx]
  have M:(rF l (a:Int) to).1=4:=rfl;have N:decide ((((rF l (a:Int) to).2.1.length:Nat):Int)>=2)=true:=A5 (by simp[rF];omega);rw[<-T8] at D;simp only[ce,M,K0,N,B,L,cg,XT,cM];rw[show decide ((4:Int)=5)=false from rfl,pF,cM,pF,A5 trivial,XT,ha,A5 rfl,XT,A5 (show to>(a:Int) by omega),cM,XT,ho,H,cM];simp only[ZY,pF,K,cM,D,iz];rw[show decide ((([]:List Int).length:Int)>0)=false from rfl];simp only[cM,pF,hb,e]
end Go.XR
namespace Go.XR
open Go Go.Sw Go.Mo Go.Pl
open Go.YR (sI)
open Go.ZX (l8 P0 Kt ZH Tq news YL)
open Go.WT (dO dZ)
open Go.n5 (Ll)
theorem Rc{n:Int}:∀(l:List (Int×aQ)) (prev:Int) (acc:List aQ),-1<=prev->l8 n prev l=true->∀i:Nat,(i:Int)<=prev->(Kt acc l)[i]? =acc[i]?
 | [],_,_,_,_,_,_=>rfl
 |x::l,prev,acc,z,h,i,A=>by
  simp only[l8,E7,qt] at h;have u:=h.1;unfold P0 at u;simp at u;show (Kt (acc.set x.1.toNat x.2) l)[i]? =_;rw[Rc l x.1 _ (by omega) h.2 i (by omega),uv (by omega)]
theorem BW{n:Int}:∀(l:List (Int×aQ)) (prev:Int) (acc:List aQ),-1<=prev->l8 n prev l=true->(n<=acc.length)->∀p∈l,(Kt acc l)[p.1.toNat]? =some p.2
 | [],_,_,_,_,_,p,u=>by simp at u
 |x::l,prev,acc,B,h,A,p,u=>by
  simp only[l8,E7,qt] at h;have z:=h.1;unfold P0 at z;simp at z;show (Kt (acc.set x.1.toNat x.2) l)[p.1.toNat]? =_;rcases o6.1 u with rfl | u
  ·rw[Rc l p.1 _ (by omega) h.2 _ (by omega),aB1 (by omega)]
  ·exact BW l x.1 _ (by omega) h.2 (by rw[aCs];exact A) p u
theorem Wj{n:Int}:∀(l:List (Int×aQ)) (prev:Int),prev<n->l8 n prev l=true->(l.length:Int)<=n - 1 - prev
 | [],_,z,_=>by simp;omega
 |x::l,prev,z,h=>by
  simp only[l8,E7,qt] at h;have u:=h.1;unfold P0 at u;simp at u;have:=Wj l x.1 (by omega) h.2;simp only[C8];omega
variable {n:Nat}{snaps:List (List aQ)}
theorem NN{ps:List (Int×aQ)}{base:List aQ}(hr:l8 (base.length:Int) (-1) ps=true)(hb:base.length<=32):∀q∈ZH ps base [],dc q:=by
 intro q u;unfold ZH at u;obtain⟨p,A,rfl⟩:=bq.1 u;have B:=Go.ZX.L4 hr p (zg.1 A).1;unfold Tq;split
 ·exact⟨by simp only;omega,by simp,by simp,fun _=>rfl⟩
 ·split
  ·rename_i z;have:=aEg z;exact⟨by simp only;omega,by simp,by simp only;omega,fun _=>rfl⟩
  ·split
   ·rename_i h;simp at h
   ·exact⟨by simp only;omega,by simp,by simp,fun h=>by simp at h⟩
theorem JH{ps:List (Int×aQ)}{base:List aQ}:∀x∈tW (ZH ps base []),∃p∈ps,x=p.2:=by
 intro x A;unfold tW at A;obtain⟨q,z,rfl⟩:=bq.1 A;obtain⟨z,u⟩:=zg.1 z;unfold ZH at z;obtain⟨p,E,rfl⟩:=bq.1 z;refine⟨p,(zg.1 E).1,?_⟩;unfold Tq at u ⊢;split at u
 ·simp at u
 ·rename_i B;rw[WM B];split at u
  ·simp at u
  ·rename_i C;rw[WM C];split at u
   ·rename_i h;simp at h
   ·rename_i D;rw[WM D]
theorem Lo{f:Fm}(h1:0<=f.1/\f.1<=15)(h2:f.2.1.length<=9)(h3:f.2.2.length<=32)(h4:∀x∈f.2.1,0<=x/\x<=2147483647):dO f=0:=by
 have u:dZ f=0:=by
  unfold dZ;rw[WM (by omega),WM (by omega),WM];intro z;obtain⟨x,A,h⟩:=aDf.1 z;have:=h4 x A;rw[Go.WT.m8.2 this] at h;cases h
 unfold dO;rw[WV u,WM (by omega)]
theorem NO{b:Int×List (Int×aQ)×List (Int×List (Int×aQ))×Bool}{now:List aQ}{WJ:List (Int×List aQ)}{YS:Nat}{k:Int}(he:lj n b now snaps)(h0:1<=n)(h1:n<=32)(hh:snaps.length=YS+1)(ZS:YS<=2147483647)
  (T8:∀s∈snaps,∀x∈s,yT x) (aN0:∀j l,fP WJ j=some l->0<=j/\j<=YS/\l=snaps.getD j.toNat []) (aOo:fP WJ (YS:Int)=some (snaps.getD YS [])) (hk: -1<=k/\k<YS):
  ∃m,(∀b0 b3 b4 b7 b8 WZ WY XF WU XC WX XB WS XM XL XJ XI,dR b0 (n:Int) (YS:Int) b3 b4 b WJ b7 b8 k WZ WY XF WU XC WX XB WS XM XL XJ XI=some m)/\
   ∀cur:Int,0<=cur->cur<YS->(k= -1\/cur=k)->u4 n snaps cur YS m:=by
 have S:b.1=YS:=by have:=he.num;omega
 have I:∀i:Nat,i<snaps.length->snaps.getD i []∈snaps:=fun i M=>by
  rw[P3,E8 M];exact fp _
 have O:∀i:Nat,i<snaps.length->(snaps.getD i []).length=n:=fun i M=>he.len _ (I i M);have F:∀cur:Int,0<=cur->cur<YS->u4 n snaps cur YS ((5:Int),[(YS:Int)],snaps.getD YS []):=fun cur A B=>
  ⟨B,A,by omega,Lo (by simp) (by simp) (by have:=O YS (by omega);simp only;omega) (fun x C=>by simp at C;omega),fun x C=>T8 _ (I YS (by omega)) x C,.inl (by simp)⟩
 have G:(fP WJ (YS:Int)).getD []=snaps.getD YS []:=by rw[aOo];rfl
 by_cases T:k<0
 ·refine⟨((5:Int),[(YS:Int)],snaps.getD YS []),?_,fun cur A B _=>F cur A B⟩
  intros
  unfold dR;rw[Go.n5.fz b n k (Go.n5.bz he.may),WM (by rw[he.may];simp),WV (.inl T)];simp only[cM,Option.isNone_some,pF,jp,G]
 ·rcases he.since (k:=k) ⟨by omega,by omega⟩ with E |⟨z,E,X,D,dt⟩
  ·refine⟨((5:Int),[(YS:Int)],snaps.getD YS []),?_,fun cur A B _=>F cur A B⟩
   intros
   unfold dR;rw[E];simp only[cM,ie,XT,pF,jp,G]
  ·cases hg:fP WJ k with
   |none=>
    refine⟨((5:Int),[(YS:Int)],snaps.getD YS []),?_,fun cur A B _=>F cur A B⟩
    intros
    unfold dR;rw[E];simp only[cM,ie,XT,pF,jp,G,hg,ZY]
   |some u=>
    obtain⟨_,_,H⟩:=aN0 k u hg;have U:u.length=n:=by rw[H];exact O _ (by omega)
    have P:YL u []=0:=Go.ZX.dn (by omega) (by omega) (by simp) (by simp);rw[<-U] at D;have K:=NN D (by omega);have Q:=JG b.1 k z u dt P D K;by_cases O5:2+(ZH z u []).length<=9
    ·refine⟨rF (ZH z u []) k b.1,?_,fun cur A B N=>?_⟩
     ·intros
      unfold dR;rw[E];simp only[cM,ie,XT,jp,hg,aCu,zi,Q];rw[A5 (by omega),XT]
     ·have V:cur=k:=by rcases N with N | N<;>omega
      subst V;have qj:=Wi (ZH z u []);have R:Kt u z=snaps.getD b.1.toNat []:=by rw[<-X,<-H];rfl
      refine⟨by omega,A,by omega,Lo (by simp[rF]) (by simp[rF];omega) (by simp only[rF];omega) (fun x C=>?_),fun x C=>?_,.inr ⟨ZH z u [],news z u,by rw[S],by omega,K,?_,?_,?_,?_⟩⟩
      ·simp only[rF,K5,o6,aCl,aEl,bq] at C;rcases C with (rfl | rfl) |⟨q,hq,rfl⟩
       ·omega
       ·omega
       ·have h:=K q hq;have a1:=h.a;have a2:=h.k;have a3:=h.f;unfold pX;omega
      ·obtain⟨p,L,rfl⟩:=JH x C;have:=BW z (-1) u (by omega) D (aDn _) p L;rw[R] at this;exact T8 _ (I _ (by omega)) _ (aB7 this)
      ·rw[<-H];exact Go.ZX.kv z u [] (by omega) (by simp) P D
      ·rw[<-H];have h1:sI u (news z u)=Kt u (news z u):=rfl;rw[h1,Go.ZX.N5 (by omega) D (fun _ _=>rfl),R];congr 1;omega
      ·have h1:=Wj z (-1) (by omega) D;have h2:(news z u).length<=z.length:=aCx _ _;omega
      ·intro p L;have:=Go.ZX.xg D p L;omega
    ·refine⟨((5:Int),[(YS:Int)],snaps.getD YS []),?_,fun cur A B _=>F cur A B⟩
     intros
     unfold dR;rw[E];simp only[cM,ie,XT,jp,hg,aCu,zi,Q];rw[ZW (by omega),pF,G]
end Go.XR
namespace Go.XR
open Go Go.Sw Go.Mo Go.Pl
theorem SR(n c:Nat)(hc:c<=64):sh .shr .u64 (n:Int) (c:Int)=((n / 2 ^ c:Nat):Int):=Go.lh.aMe n c hc
theorem UI{a b:Nat}(ha:a<18446744073709551616)(hb:b<18446744073709551616):ar .and .u64 (a:Int) (b:Int)=((a &&& b:Nat):Int):=by
 show IntKind.wrap .u64 ((BitVec.ofInt 64 (a:Int) &&& BitVec.ofInt 64 (b:Int)).toNat:Int)=_;simp only[rX,aEw,zp];rw[P4 (a:=a) (by omega),P4 (a:=b) (by omega)];have:a &&& b<=a:=Nat.and_le_left;show ((a &&& b:Nat):Int) % 18446744073709551616=_;omega
theorem EE{h:Nat}(hh:h<18446744073709551616):pU (h:Int)=some [((h / 8589934592:Nat):Int),((h / 4 % 2147483648:Nat):Int)]:=by
 unfold pU;have u:sh .shr .u64 (h:Int) (33:Int)=((h / 2 ^ 33:Nat):Int):=SR h 33 (by omega);have z:sh .shr .u64 (h:Int) (2:Int)=((h / 2 ^ 2:Nat):Int):=SR h 2 (by omega);have A:ar .and .u64 ((h / 2 ^ 2:Nat):Int) (2147483647:Int)=((h / 2 ^ 2 &&& 2147483647:Nat):Int):=UI (b:=2147483647) (by omega) (by omega);have B:∀x:Nat,x &&& 2147483647=x % 2147483648:=fun x=>aDg x 31;rw[u,z,A,B,wrap_i64 (by omega),wrap_i64 (by omega)]
theorem Yz{bs:List aQ}(h0:1<=bs.length)(h1:bs.length<=32)(hb:∀b∈bs,yT b):∃x y:Int,kC bs=some [x,y]/\(0<=x/\x<=2147483647)/\(0<=y/\y<=2147483647):=by
 have B:=Go.lh.ni bs h0;have D:=B.ne;obtain⟨u,l,z⟩:∃u l,Go.lh.tree bs=u++[l]:=⟨_,_,(List.dropLast_concat_getLast D).symm⟩
 have E:l.length=1:=by
  rcases B.at u [] l z with⟨_,h⟩|⟨m,r,h,_⟩
  ·exact h
  ·cases h
 obtain⟨v,rfl⟩:∃v,l=[v]:=by
  match l,E with
  | [v],_=>exact⟨v,rfl⟩
 have A:=(Go.lh.rq bs h1 [v] (by rw[z];simp)).1 v (by simp);have C:=Go.lh.rp bs;rw[z] at C;have K:u.length<=32:=by simp at C;omega
 unfold kC;rw[Go.lh.aMh bs hb (by omega),WM (by omega),cM];simp only[ZY,pF,z];have F:(((u++[[v]]).length:Nat):Int)=((u.length+1:Nat):Int):=by simp
 have G:ar .sub .i64 ((u.length+1:Nat):Int) 1=(u.length:Int):=by rw[N3 (by omega)];omega
 have H:Sw.idx (u++[[v]]) (u.length:Int)=some [v]:=tA (by simp);have I:Sw.idx [v] (0:Int)=some v:=by simp[Sw.idx]
 rw[F,G,H,cM,I,cM];obtain⟨h,rfl⟩:∃h:Nat,v=h:=⟨v.toNat,by have:=A;omega⟩
 rw[EE (by have:=A;omega),cM];exact⟨_,_,rfl,by have:=A;omega,by omega⟩
end Go.XR
namespace Go.XR
open Go Go.Sw Go.Mo Go.Pl
open Go.YR (oG)
open Go.WT (Good aZ fA dO)
def kN(fb ob:Nat):Int:=((fb*4096+ob:Nat):Int)
theorem sT{a b c d:Nat}(hb:b<4096)(hd:d<4096)(h:kN a b=kN c d):a=c/\b=d:=by unfold kN at h;omega
def jS(g:Nat):Fm:=((2:Int),[(g:Int)],[])
def dU(g o j:Nat)(t:List Int):Fm:=((3:Int),[(g:Int),(o:Int),(j:Int)]++t,[])
def WO(S:Int)(q:Nat)(m:Fm):Fm:=((1:Int),[S,(q:Int),m.1]++m.2.1,m.2.2)
def sU(S:Int)(a:Nat):Fm:=((0:Int),[S,(a:Int)],[])
structure D9 (m:Fm):Prop where
 load:dO m=0
 YV:∀b∈m.2.2,yT b
structure Nm where
 n:Nat
 h:Nat
 fb:Nat
 ob:Nat
 k:Nat
 q:Nat
 x:Nat
def tB(v:Nm)(s:PS)(S:Int):Prop:=∃g o:Nat,S=kN g o/\1<=g/\1<=o/\o<=v.ob/\(g<v.fb\/(g=v.fb/\S<=s.VJ))/\(o=v.ob->(g:Int)<=s.first)
def Dk(v:Nm)(snaps:List (List aQ))(s:PS)(f:Fm):Prop:=
 (∃g:Nat,1<=g/\g<=v.fb/\f=jS g)\/
 (∃S q m,f=WO S q m/\D9 m/\tB v s S/\(S=s.VJ->q<v.q\/(q=v.q/\s.VK.2.2=[m]))/\(0<=s.first->S=s.receiver.1->q<=v.x/\(q=v.x->∃to,u4 v.n snaps v.k to m)))
def Eu(v:Nm)(snaps:List (List aQ))(s:PS)(f:Fm):Prop:=
 (∃g o j t,f=dU g o j t/\1<=g/\g<=v.fb/\1<=o/\o<=v.ob/\j<=v.k/\kC (snaps.getD j [])=some t/\(g=v.fb->o=v.ob->s.VJ<kN g o->j=v.k/\s.first=(v.fb:Int)/\v.x=0))\/
 (∃S a,f=sU S a/\tB v s S/\(S=s.VJ->a<=v.q\/(a=v.q+1/\s.VK.2.2≠ []/\s.sent<=v.k))/\(0<=s.first->S=s.receiver.1->a<=v.x))
structure u5 (v:Nm) (snaps:List (List aQ)) (s:PS) (y:Bool×Bool×List Int):Prop where
 bytes:Bytes y.2.2
 len:y.2.2.length<=2000
 ne:y.2.2≠ []
 H2:y.2.1=true->fA y.2.2=none
 whole:y.2.1=false->∃f,Good f/\y.2.2=aZ f/\(y.1=true->Dk v snaps s f)/\(y.1=false->Eu v snaps s f)
structure Inv (v:Nm) (now:List aQ) (snaps:List (List aQ)) (s:PS):Prop where
 n0:1<=v.n
 n1:v.n<=32
 en:s.n=v.n
 efn:s.fn=v.n
 eon:s.on=v.n
 yu:s.m4=v.n
 ox:s.ZR=v.n
 hs:snaps.length=v.h+1
 B5:v.h<=100000/\v.fb<=3000/\v.ob<=3000/\v.q<=100000/\v.x<=100000
 pos:1<=v.fb/\1<=v.ob
 enum:s.XA=v.h
 ZP:s.WQ=v.fb
 V6:s.WA=v.ob
 L9:s.XD=v.k
 kh:v.k<=v.h
 cc:oG s.fd (snaps.getD v.h []) v.h v.fb
 H9:oG s.od (snaps.getD v.k []) v.k v.ob
 ep:lj v.n s.VO now snaps
 H0:s.blocks=now
 bok:∀l∈snaps,∀b∈l,yT b
 nok:∀b∈now,yT b
 WJ:∀p∈s.WJ,0<=p.1/\p.1<=v.h/\p.2=snaps.getD p.1.toNat []
 last:fP s.WJ (v.h:Int)=some (snaps.getD v.h [])
 idle:s.first=v.fb->s.VJ<kN v.fb v.ob->v.x=0
 safe:0<=s.safe/\s.safe<=v.k
 sent: -1<=s.sent/\s.sent<=v.h/\(s.sent= -1->0<v.h)
 low:s.VK.2.2=[]->s.sent<=s.safe
 VJ:s.VJ= -1\/∃o:Nat,1<=o/\o<=v.ob/\s.VJ=kN v.fb o/\(o=v.ob->s.first=v.fb)
 VK:(s.VJ= -1/\s.VK=(0,0,[])/\s.VN=[])\/(0<=s.VJ/\s.VK.1=s.VJ/\s.VK.2.1=v.q)
 queue:(s.VK.2.2=[]/\s.VN=[])\/∃m,s.VK.2.2=[m]/\s.VN=[s.sent]/\D9 m/\0<=s.sent
 first:(s.first= -1/\s.receiver=(0,0)/\v.x=0)\/∃g:Nat,1<=g/\g<=v.fb/\s.first=g/\s.receiver=(kN g v.ob,(v.x:Int))
 act:s.VJ=kN v.fb v.ob->(v.x=v.q/\(s.VK.2.2=[]->s.sent=v.k\/(s.sent= -1/\v.k<v.h))/\(∀m,s.VK.2.2=[m]->u4 v.n snaps v.k s.sent m))\/(v.x=v.q+1/\s.VK.2.2≠ []/\s.sent=v.k)
 VZ:∀y∈s.VZ,u5 v snaps s y
 H3:s.VZ.length<=64
end Go.XR
namespace Go.XR
open Go Go.Sw Go.Mo Go.Pl
open Go.YR (oG)
open Go.WT (Good aZ fA dO)
theorem BX:yT aS:=⟨by simp[aS],fun x h=>by simp[aS] at h;omega⟩
def Jh(n:Nat)(d1 d2:(List aQ)×(List (Int×aQ))×Int):PS:={ n:=n,fn:=n,XA:=0,WQ:=1,blocks:=List.replicate n aS,VO:=(0,[],[],true),WJ:=[(0,List.replicate n aS)],VJ:= -1,VK:=(0,0,[]),sent:=0,safe:=0,VN:=[],on:=n,XD:=0,WA:=1,first:= -1,receiver:=(0,0),VZ:=[],m4:=n,fd:=d1,ZR:=n,od:=d2 }
theorem EF{n:Nat}(h0:1<=n)(h1:n<=32){d1 d2:(List aQ)×(List (Int×aQ))×Int}(s1:oG d1 (List.replicate n aS) 0 1)(s2:oG d2 (List.replicate n aS) 0 1):
  Inv ⟨n,0,1,1,0,0,0⟩ (List.replicate n aS) [List.replicate n aS] (Jh n d1 d2):=by
 have u:∀b∈List.replicate n aS,yT b:=fun b E=>by rw[List.eq_of_mem_replicate E];exact BX
 have C:=Wh (m:=n) (snaps:=[List.replicate n aS]) ⟨h0,h1⟩ (num:=0) rfl (by decide) (fun s B=>by simp at B;subst B;simp);constructor
 case n0=>exact h0
 case n1=>exact h1
 case cc=>exact s1
 case H9=>exact s2
 case ep=>exact C
 case bok=>intro l z;simp at z;subst z;exact u
 case nok=>exact u
 case WJ=>
  intro p A;simp only[Jh,aCd] at A;subst A;simp
 case last=>rfl
 case VJ=>exact .inl rfl
 case VK=>exact .inl ⟨rfl,rfl,rfl⟩
 case queue=>exact .inl ⟨rfl,rfl⟩
 case first=>exact .inl ⟨rfl,rfl,rfl⟩
 case act=>intro h;simp[Jh,kN] at h
 case VZ=>intro y D;simp[Jh] at D
 all_goals simp[Jh]
theorem JI{v:Nm}{now:List aQ}{snaps:List (List aQ)}{s:PS}(h:Inv v now snaps s){at_:Int}{b:aQ}(ha:0<=at_/\at_<v.n)(hb:yT b):
  ∃s',lM at_ b s=some (none,s')/\Inv v (now.set at_.toNat b) snaps s':=by
 have A:=h.ep.add (p:=(at_,b)) ha;have B:=Go.n5.aJw h.ep.may (p:=(at_,b)) ha;obtain⟨z,D,_⟩:=yP (l:=s.blocks) (n:=at_) ha.1 (by rw[h.H0,h.ep.X1];exact ha.2);refine⟨{ s with blocks:=s.blocks.set at_.toNat b,VO:=(s.VO.1,Go.n5.R9 s.VO.2.1 (at_,b),s.VO.2.2.1,s.VO.2.2.2) },?_,?_⟩
 ·unfold lM eX;rw[h.en,B];simp only[cM,ZY,pF,D]
 ·exact { h with
   ep:=A
   H0:=by rw[<-h.H0]
   nok:=fun x u=>by
    rcases aDs u with u | rfl
    ·exact h.nok x u
    ·exact hb
   VZ:=fun y C=>by
    have:=h.VZ y C
    exact⟨this.bytes,this.len,this.ne,this.H2,this.whole⟩}
theorem BY{v:Nm}{now:List aQ}{snaps:List (List aQ)}{s:PS}(h:Inv v now snaps s){at_:Int}{b:aQ}(ha:at_<0\/at_>=v.n):lM at_ b s=some (some 1,s):=by
 have u:=Go.n5.uu s.VO (v.n:Int) (at_,b) (Go.n5.bz h.ep.may);rw[WM (by rw[h.ep.may];simp),WV ha] at u;unfold lM eX;rw[h.en,u];simp only[cM,aCu,XT];rw[<-h.en]
theorem NP{v:Nm}{now:List aQ}{snaps:List (List aQ)}{s:PS}(h:Inv v now snaps s){at_:Int}(ha:0<=at_/\at_<v.n):oJ at_ s=some (now.getD at_.toNat [],none,s):=by
 obtain⟨z,u,A⟩:=yP (l:=now) (n:=at_) ha.1 (by rw[h.ep.X1];exact ha.2);unfold oJ fZ;rw[h.en,h.H0,cl,K0,ZW (by omega),pF,ZW (by omega)];simp only[cM,pF,u];congr 2;rw[P3,A];rfl
theorem JJ{v:Nm}{now:List aQ}{snaps:List (List aQ)}{s:PS}(h:Inv v now snaps s){at_:Int}(ha:at_<0\/at_>=v.n):oJ at_ s=some (aS,some 1,s):=by
 unfold oJ fZ;rw[h.en,cl,K0];by_cases u:at_<0
 ·rw[A5 u];simp
 ·rw[ZW u,A5 (by omega)];simp
theorem Rd{β:Type}{k j:Int}(hj:j≠k):∀m:List (Int×β),fP (Ge m k) j=fP m j
 | []=>rfl
 | (a,b)::m=>by
  have h:=Rd hj m;unfold Ge at h ⊢;simp only[D8,kp];by_cases u:a=k
  ·subst u;simp only[l3,List.eraseIdx_cons_zero,fP];rw[WM (fun e=>hj e.symm)]
  ·rw[WM u];cases hk:kp (m.map (·.1)) k with
   |none=>simp
   |some q=>
    rw[hk] at h;simp only[my,List.eraseIdx_cons_succ,fP];split
    ·rfl
    ·exact h
theorem JK{β:Type}{k:Int}{m:List (Int×β)}{p:Int×β}(h:p∈Ge m k):p∈m:=by
 unfold Ge at h;split at h
 ·exact List.mem_of_mem_eraseIdx h
 ·exact h
theorem Ia{β:Type}{j:Int}{l:β}:∀{m:List (Int×β)},fP m j=some l->(j,l)∈m
 | [],h=>by cases h
 | (a,b)::m,h=>by
  unfold fP at h;split at h
  ·rename_i e;subst e;cases h;exact Z8
  ·exact Z6 _ (Ia h)
theorem Wk{β:Type}{j:Int}{l:β}:∀{m:List (Int×β)},fP m j=none->fP (m++[(j,l)]) j=some l
 | [],_=>by simp[fP]
 | (a,b)::m,h=>by
  unfold fP at h;split at h
  ·cases h
  ·rename_i e;simp only[cz,fP];rw[WM e];exact Wk h
theorem BZ{n:Int}:∀(l:List (Int×aQ)) (last:Int),last<n->Go.n5.YN n last l=true->(l.length:Int)<=n - 1 - last
 | [],last,A,_=>by simp;omega
 |x::l,last,A,h=>by
  have u:=Go.n5.YU n (x::l) last h x (by simp);have z:Go.n5.YN n x.1 l=true:=by
   unfold Go.n5.YN at h;split at h
   ·cases h
   ·exact h
  have:=BZ l x.1 u.2 z;simp only[C8];omega
end Go.XR
namespace Go.XR
open Go Go.Sw Go.Mo Go.Pl
open Go.YR (oG sI)
open Go.n5 (uI Es By Ll)
open Go.WT (Good aZ fA dO)
theorem u4.mono{n:Nat}{snaps:List (List aQ)}{cur to:Int}{m:Fm}(h:u4 n snaps cur to m)(x:List aQ):u4 n (snaps++[x]) cur to m:=by
 have u:=h.lt;have z:=h.nn;have A:=h.le;refine⟨u,z,by simp;omega,h.load,h.YV,?_⟩;rw[uI (by omega),uI (by omega)];exact h.say
theorem u5.mono{v:Nm}{snaps:List (List aQ)}{s s':PS}{y:Bool×Bool×List Int}(h:u5 v snaps s y)(x:List aQ)(hk:v.k<snaps.length)(e1:s'.VJ=s.VJ)(e2:s'.VK=s.VK)(e3:s'.first=s.first)(e4:s'.receiver=s.receiver)(e5:s'.sent=s.sent)(hh:Nat):
  u5 { v with h:=hh } (snaps++[x]) s' y:=by
 refine⟨h.bytes,h.len,h.ne,h.H2,fun N=>?_⟩;obtain⟨f,P,Q,R,T⟩:=h.whole N;refine⟨f,P,Q,fun C=>?_,fun C=>?_⟩
 ·rcases R C with⟨g,u,z,A⟩|⟨S,q,m,u,z,A,B,K⟩
  ·exact .inl ⟨g,u,z,A⟩
  ·refine .inr ⟨S,q,m,u,z,?_,?_,?_⟩
   ·obtain⟨g,o,D,E,F,G,H,I⟩:=A;exact⟨g,o,D,E,F,G,by rw[e1];exact H,by rw[e3];exact I⟩
   ·rw[e1,e2];exact B
   ·rw[e3,e4];intro L M;obtain⟨U,V⟩:=K L M;exact⟨U,fun O=>by obtain⟨X,d4⟩:=V O;exact⟨X,d4.mono x⟩⟩
 ·rcases T C with⟨g,o,j,t,u,z,A,B,K,a6,a7,a8⟩|⟨S,a,u,z,A,B⟩
  ·refine .inl ⟨g,o,j,t,u,z,A,B,K,a6,?_,?_⟩
   ·rw[uI (by omega)];exact a7
   ·rw[e1,e3];exact a8
  ·refine .inr ⟨S,a,u,?_,?_,?_⟩
   ·obtain⟨g,o,D,E,F,G,H,I⟩:=z;exact⟨g,o,D,E,F,G,by rw[e1];exact H,by rw[e3];exact I⟩
   ·rw[e1,e2,e5];exact A
   ·rw[e3,e4];exact B
theorem Za{v:Nm}{now:List aQ}{snaps:List (List aQ)}{s:PS}(h:Inv v now snaps s)(hb:v.h+1<=100000):
  ∃s',qN s=some (none,s')/\Inv { v with h:=v.h+1 } now (snaps++[now]) s':=by
 have ZS:=h.B5;have qk:=h.kh;have ZN:=h.hs;have K3:=h.n1;have iw:=h.n0;have I:s.VO.1=v.h:=by have:=h.ep.num;omega
 obtain⟨k1,k2,k3,k4,k5,F,k7,k8,k9⟩:=Go.n5.j9 h.ep.may;have K:snaps.getD v.h []∈snaps:=by
  rw[P3,E8 (by omega)];exact fp _
 have L:(snaps.getD v.h []).length=v.n:=h.ep.len _ K;have aa:=BZ s.VO.2.1 (-1) (by omega) F;have M:=Go.n5.YU v.n s.VO.2.1 _ F;obtain⟨V,G,H,_⟩:=Nt h.cc (by omega) (by omega) (by omega) s.VO.2.1 ((v.h+1:Nat):Int) (by omega) (by omega) (fun p u=>by have:=M p u;omega);have N:sI (snaps.getD v.h []) s.VO.2.1=now:=by
  have:=h.ep.open_;rw[I,m9] at this;exact this
 rw[N,m9] at G;rw[L] at H;have O:=Go.n5.xa h.ep.may (by omega);have aFj:fP s.WJ ((v.h+1:Nat):Int)=none:=by
  cases hg:fP s.WJ ((v.h+1:Nat):Int) with
  |none=>rfl
  |some l=>have:=h.WJ _ (Ia hg);simp only at this;omega
 have E:Hc s.WJ ((v.h+1:Nat):Int) now=some (s.WJ++[(((v.h+1:Nat):Int),now)]):=by unfold Hc;rw[aFj]
 obtain⟨_,X⟩:=Kl (blocks:=now) s.WJ (v.h+1) (by have:=h.ep.X1;omega) (by omega) (by rw[E];rfl);have P:ar .add .i64 s.XA (1:Int)=((v.h+1:Nat):Int):=by rw[h.enum,r7 (by omega)]
 refine⟨{ s with XA:=((v.h+1:Nat):Int),VO:=By s.VO,WJ:=pQ s.WJ ((v.h+1:Nat):Int) now,m4:=v.n,fd:=V },?_,?_⟩
 ·unfold qN fV;rw[P,h.ZP,h.yu,H,cM];simp only[ZY,pF];rw[h.efn,O,cM,h.H0];simp only[];rw[X,cM];rfl
 ·have D:(snaps++[now]).getD (v.h+1) []=now:=Es (by omega);have Q:(snaps++[now]).getD v.k []=snaps.getD v.k []:=uI (by omega);have xv:pQ s.WJ ((v.h+1:Nat):Int) now=Ge (s.WJ++[(((v.h+1:Nat):Int),now)]) (((v.h+1:Nat):Int) - 5):=by unfold pQ;rw[E];rfl
  exact { h with
   hs:=by simp;omega
   B5:=by simp only;omega
   enum:=rfl
   kh:=by simp only;omega
   cc:=by rw[D];exact G
   H9:=by rw[Q];exact h.H9
   yu:=rfl
   ep:=h.ep.shut (by omega)
   bok:=fun l z=>by
    rcases K5.1 z with z | z
    ·exact h.bok l z
    ·simp at z;subst z;exact h.nok
   WJ:=fun p u=>by
    simp only at u ⊢;rw[xv] at u;rcases K5.1 (JK u) with u | u
    ·obtain⟨A,C,B⟩:=h.WJ p u;exact⟨A,by omega,by rw[uI (by omega)];exact B⟩
    ·simp only[aCd] at u;subst u;exact⟨by simp only;omega,by simp only;omega,by simp only;rw[m9,D]⟩
   last:=by
    simp only;rw[xv,Rd (by omega),Wk aFj,D]
   sent:=by have:=h.sent;simp only;omega
   act:=fun R=>by
    rcases h.act R with⟨A,C,B⟩|⟨A,C,B⟩
    ·refine .inl ⟨A,fun S=>?_,fun m T=>(B m T).mono now⟩;rcases C S with c |⟨c1,c2⟩
     ·exact .inl c
     ·exact .inr ⟨c1,by simp only;omega⟩
    ·exact .inr ⟨A,C,B⟩
   VZ:=fun y U=>by
    refine u5.mono (s:=s) (h.VZ y U) now (by omega) ?_ ?_ ?_ ?_ ?_ (v.h+1)<;>rfl }
end Go.XR
namespace Go.XR
open Go Go.Sw Go.Mo Go.Pl
open Go.WT (Good aZ fA dO)
def Sz(a:Int):Prop:= -9223372036854775808<=a/\a<=9223372036854775807
theorem JL{a:Int}(h:Sz a):∃k:Nat,max a (IntKind.wrap .i64 (0 - (ar .add .i64 a (1:Int))))=(k:Int)/\(a=0->k=0):=by
 unfold Sz at h;by_cases u:a=9223372036854775807
 ·subst u;have z:ar .add .i64 (9223372036854775807:Int) 1= -9223372036854775808:=by decide+kernel
  have A:IntKind.wrap .i64 (0 - (-9223372036854775808:Int))= -9223372036854775808:=by decide+kernel
  rw[z,A];exact⟨9223372036854775807,by omega,fun c=>by omega⟩
 ·rw[p7 (by omega),wrap_i64 (by omega)];exact⟨(max a (0 - (a+1))).toNat,by omega,fun c=>by omega⟩
theorem u5.same{v:Nm}{snaps:List (List aQ)}{s s':PS}{y:Bool×Bool×List Int}(h:u5 v snaps s y)(e1:s'.VJ=s.VJ)(e2:s'.VK=s.VK)(e3:s'.first=s.first)(e4:s'.receiver=s.receiver)(e5:s'.sent=s.sent):u5 v snaps s' y:=by
 refine⟨h.bytes,h.len,h.ne,h.H2,fun z=>?_⟩;obtain⟨f,A,B,C,D⟩:=h.whole z;refine⟨f,A,B,fun u=>?_,fun u=>?_⟩
 ·have:=C u;unfold Dk tB at this ⊢;rw[e1,e2,e3,e4];exact this
 ·have:=D u;unfold Eu tB at this ⊢;rw[e1,e2,e3,e4,e5];exact this
variable {v:Nm}{now:List aQ}{snaps:List (List aQ)}{s:PS}
theorem Inv.N4(h:Inv v now snaps s){l:List (Bool×Bool×List Int)}(hl:l.length<=64)(hm:∀y∈l,u5 v snaps s y):Inv v now snaps { s with VZ:=l }:=
 { h with
  VZ:=fun y u=>(hm y u).same rfl rfl rfl rfl rfl
  H3:=hl }
theorem Dl(h:Inv v now snaps s){a:Int}(ha:Sz a):(s.VZ=[]/\jQ a s=some (0,false,s))\/∃i:Nat,i<s.VZ.length/\jQ a s=some ((i:Int),true,s)/\
  (∀b0 b1 b2 b3 b4 b5 b6 b7 b8 b9 WZ WY XF WU XC WX XB XM XL XJ XI,cB a b0 b1 b2 b3 b4 b5 b6 b7 b8 b9 WZ WY XF WU XC WX XB s.VZ XM XL XJ XI=some ((i:Int),true))/\(a=0->i=0):=by
 by_cases u:s.VZ=[]
 ·refine .inl ⟨u,?_⟩;unfold jQ cB;rw[u];rfl
 ·right;have A:0<s.VZ.length:=pf.2 u;obtain⟨k,C,D⟩:=JL ha;have z:∀b0 b1 b2 b3 b4 b5 b6 b7 b8 b9 WZ WY XF WU XC WX XB XM XL XJ XI,cB a b0 b1 b2 b3 b4 b5 b6 b7 b8 b9 WZ WY XF WU XC WX XB s.VZ XM XL XJ XI=some (((k % s.VZ.length:Nat):Int),true):=by
   intros
   unfold cB;rw[ce,ZW (by omega),pF,C];have B:nz ((s.VZ.length:Nat):Int)=some ():=by unfold nz;rw[WM (by omega)]
   rw[B,cM];rfl
  refine⟨k % s.VZ.length,qp _ A,?_,z,fun c=>by rw[D c];exact Nat.zero_mod _⟩;unfold jQ;rw[z];rfl
theorem Ta{α:Type}(l:List α)(i:Nat)(hi:i<l.length):Sw.del l (i:Int) ((i+1:Nat):Int)=some (l.take i++l.drop (i+1)):=by
 unfold Sw.del Sw.sub;rw[WV (by omega)];simp
theorem Ji{l:List (Bool×Bool×List Int)}(hl:l.length<=1000):cY l=some l:=by
 unfold cY;rw[VM _ _ (by simp;omega)];rfl
theorem NQ(h:Inv v now snaps s){a:Int}(ha:Sz a):∃s',rD a s=some (none,s')/\Inv v now snaps s':=by
 rcases Dl h ha with⟨C,u⟩|⟨i,A,u,B,D⟩
 ·refine⟨{ s with VZ:=s.VZ },?_,h⟩;unfold jQ at u;unfold rD gA;cases hq:cB a s.n s.fn s.XA s.WQ s.blocks s.VO s.WJ s.VJ s.VK s.sent s.safe s.VN s.on s.XD s.WA s.first s.receiver s.VZ s.m4 s.fd s.ZR s.od with
  |none=>rw[hq] at u;cases u
  |some q=>
   rw[hq] at u;simp only[cM,u3,M4] at u;simp only[cM,jp,u.2.1,pF]
 ·refine⟨{ s with VZ:=s.VZ.take i++s.VZ.drop (i+1) },?_,h.N4 (by have:=h.H3;simp;omega) (fun y z=>h.VZ y (by
   rcases K5.1 z with z | z
   ·exact aCp z
   ·exact aDr z))⟩
  unfold rD gA cC;rw[B,cM];simp only[jp,XT];rw[Ji (by have:=h.H3;omega),cM,r7 (by have:=h.H3;omega),Ta _ _ A];rfl
theorem EG(h:Inv v now snaps s){a:Int}(ha:Sz a):∃s',lN a s=some (none,s')/\Inv v now snaps s':=by
 rcases Dl h ha with⟨E,u⟩|⟨i,B,u,A,F⟩
 ·refine⟨{ s with VZ:=s.VZ },?_,h⟩;unfold jQ at u;unfold lN eQ;cases hq:cB a s.n s.fn s.XA s.WQ s.blocks s.VO s.WJ s.VJ s.VK s.sent s.safe s.VN s.on s.XD s.WA s.first s.receiver s.VZ s.m4 s.fd s.ZR s.od with
  |none=>rw[hq] at u;cases u
  |some q=>
   rw[hq] at u;simp only[cM,u3,M4] at u;simp only[cM,jp,u.2.1,pF]
 ·have C:=h.H3;by_cases D:s.VZ.length<64
  ·refine⟨{ s with VZ:=s.VZ++[s.VZ[i]] },?_,h.N4 (by simp;omega) (fun y z=>h.VZ y (by
    rcases K5.1 z with z | z
    ·exact z
    ·simp at z;subst z;exact fp _))⟩
   unfold lN eQ;rw[A,cM];simp only[jp,XT,cl];rw[A5 (by omega),cM,XT,tA (E8 B),cM,VM _ _ (by simp;omega)];rfl
  ·refine⟨{ s with VZ:=s.VZ },?_,h⟩;unfold lN eQ;rw[A,cM];simp only[jp,XT,cl];rw[ZW (by omega)];simp only[cM,pF]
end Go.XR
namespace Go.XR
open Go Go.Sw Go.Mo Go.Pl
open Go.WT (Good aZ fA dO)
variable {v:Nm}{now:List aQ}{snaps:List (List aQ)}{s:PS}
theorem UY:∀a:Fin 256,ar .or .u8 ((a.1:Nat):Int) 1=((a.1 ||| 1:Nat):Int):=by decide+kernel
theorem UJ{b:Int}(h:0<=b/\b<=255):ar .or .u8 b 1=((b.toNat ||| 1:Nat):Int):=by
 have:=UY ⟨b.toNat,by omega⟩;simp only at this;rw[<-this];congr 1;omega
theorem EH{a b:Nat}(ha:a<256)(hb:b<256):a ^^^ (b ||| 1)≠a/\a ^^^ (b ||| 1)<256:=by
 have z:b ||| 1<2 ^ 8:=aD2 (by simpa using hb) (by decide)
 have A:a ^^^ (b ||| 1)<2 ^ 8:=aCc (by simpa using ha) z;refine⟨fun h=>?_,by simpa using A⟩;have B:b ||| 1=0:=by
  have this:a ^^^ (a ^^^ (b ||| 1))=a ^^^ a:=by rw[h]
  rw[<-Nat.xor_assoc,Nat.xor_self,Nat.zero_xor] at this;exact this
 have u:(b ||| 1).testBit 0=true:=by rw[Nat.testBit_or];simp
 rw[B] at u;simp at u
theorem EI(h:Inv v now snaps s){d:Int×Int×Int×aQ}(h1:Sz d.2.1)(h2:Sz d.2.2.1)(h3:yT d.2.2.2):∃s',lO d s=some (none,s')/\Inv v now snaps s':=by
 rcases Dl h h1 with⟨hn,A⟩|⟨i,L,A,M,ab⟩
 ·refine⟨{ s with VZ:=s.VZ },?_,h⟩;unfold jQ at A;unfold lO eR;cases hq:cB d.2.1 s.n s.fn s.XA s.WQ s.blocks s.VO s.WJ s.VJ s.VK s.sent s.safe s.VN s.on s.XD s.WA s.first s.receiver s.VZ s.m4 s.fd s.ZR s.od with
  |none=>rw[hq] at A;cases A
  |some q=>
   rw[hq] at A;simp only[cM,u3,M4] at A;simp only[cM,A.2.1,vo,XT]
 ·have hl:=h.H3;have E:=tA (E8 L);have B:=h.VZ _ (fp L);generalize hy:s.VZ[i]=y at E B;by_cases C:y.2.1=true
  ·refine⟨{ s with VZ:=s.VZ },?_,h⟩;unfold lO eR;rw[M,cM];simp only[iz,pF,E,cM,C,XT]
  ·have C:y.2.1=false:=by simpa using C
   obtain⟨f,g1,I,_,_⟩:=B.whole C;have N:=B.len;have O:0<y.2.2.length:=pf.2 B.ne;obtain⟨k,hk,_⟩:=JL h2;have D:k % y.2.2.length<y.2.2.length:=qp _ O;have H:=B.bytes (y.2.2[k % y.2.2.length]) (fp D);obtain⟨b0,K⟩:∃b0,d.2.2.2[0]? =some b0:=⟨_,E8 (by have:=h3.1;omega)⟩
   have P:=h3.2 b0 (aB7 K);have Q:Sw.idx d.2.2.2 (0:Int)=some b0:=tA (i:=0) K;generalize fh:y.2.2[k % y.2.2.length]=z at H;have R:Sw.idx y.2.2 ((k % y.2.2.length:Nat):Int)=some z:=tA (by rw[<-fh];exact E8 D);have hx:=EH (a:=z.toNat) (b:=b0.toNat) (by omega) (by omega);have S:ar .or .u8 b0 1=((b0.toNat ||| 1:Nat):Int):=UJ P;have aa:b0.toNat ||| 1<2 ^ 8:=aD2 (by omega) (by decide)
   have T:ar .xor .u8 z ((b0.toNat ||| 1:Nat):Int)=((z.toNat ^^^ (b0.toNat ||| 1):Nat):Int):=by
    rw[Go.WT.aTb H (by omega),m9]
   obtain⟨w,hw⟩:∃w:Int,w=((z.toNat ^^^ (b0.toNat ||| 1):Nat):Int):=⟨_,rfl⟩
   have F:Bytes (y.2.2.set (k % y.2.2.length) w):=fun x u=>by
    rcases aDs u with u | rfl
    ·exact B.bytes x u
    ·omega
   have U:u5 v snaps s (y.1,true,y.2.2.set (k % y.2.2.length) w):=by
    refine⟨F,by simp only[aCs];exact N,fun G=>by have:=congrArg List.length G;simp only[aCs,V8] at this;omega,fun _=>?_,fun hf=>by cases hf⟩;simp only[I] at F D ⊢;have V:Bytes ((aZ f).set (k % (aZ f).length) w):=F;refine Go.WT.H2 g1 D (by omega) (fun G=>?_) V;have:(aZ f)[k % (aZ f).length]=z:=by rw[<-fh];simp only[I]
    rw[this] at G;omega
   refine⟨{ s with VZ:=s.VZ.set i (y.1,true,y.2.2.set (k % y.2.2.length) w) },?_,h.N4 (by simp;omega) (fun x u=>?_)⟩
   ·unfold lO eR nG;rw[M,cM];have X:nz ((y.2.2.length:Nat):Int)=some ():=by unfold nz;rw[WM (by omega)]
    have xv:ar .rem .i64 (k:Int) (y.2.2.length:Int)=((k % y.2.2.length:Nat):Int):=rfl;simp only[iz,pF,E,cM,C];rw[VM _ _ (by simp;omega),U7,cM,X,cM,hk,xv,R,cM,Q,cM];simp only[cM,S,T,<-hw,m9]
   ·rcases aDs u with u | rfl
    ·exact h.VZ x u
    ·exact U
end Go.XR
namespace Go.XR
open Go Go.Sw Go.Mo Go.Pl
open Go.YR (oG)
open Go.WT (Good aZ fA dO)
variable {v:Nm}{now:List aQ}{snaps:List (List aQ)}{s:PS}
theorem vR(a b:Nat):0<=kN a b:=by unfold kN;omega
theorem EJ(h:Inv v now snaps s)(hb:v.fb+1<=3000)(a1:Int×Int×Int×aQ):
  ∃s',kV a1 s.n s.fn s.XA s.WQ s.blocks s.VO s.WJ s.VJ s.VK s.sent s.safe s.VN s.on s.XD s.WA s.first s.receiver s.VZ s.m4 s.fd s.ZR s.od=some (aS,none,WL s')/\s'.VZ=s.VZ/\
   Inv { v with fb:=v.fb+1,q:=0 } (snaps.getD v.h []) snaps s':=by
 have ZS:=h.B5;have qk:=h.kh;have P:=h.hs;have Q:=h.n1;have R:=h.n0;have K:snaps.getD v.h []∈snaps:=by
  rw[P3,E8 (by omega)];exact fp _
 have T:(snaps.getD v.h []).length=v.n:=h.ep.len _ K;have L:=Wg h.cc (by omega) (by omega);obtain⟨X,sn,_,N⟩:=Hw h.cc (by omega) (by omega) (by omega) (by omega);rw[T] at L N;refine⟨{ s with fn:=v.n,XA:=(v.h:Int),WQ:=((v.fb+1:Nat):Int),blocks:=snaps.getD v.h [],VO:=((v.h:Int),[],[],true),WJ:=[((v.h:Int),snaps.getD v.h [])],VJ:= -1,VK:=(0,0,[]),sent:=0,safe:=0,VN:=[],m4:=v.n,fd:=X },?_,rfl,?_⟩
 ·unfold kV;rw[h.yu,h.en,L,cM];simp only[uT,ie,XT,jp];rw[N,cM];rfl
 ·exact { h with
   B5:=by simp only;omega
   pos:=by have:=h.pos;simp only;omega
   efn:=rfl
   enum:=rfl
   ZP:=rfl
   cc:=sn
   yu:=rfl
   ep:=Wh ⟨R,Q⟩ P (by omega) h.ep.len
   H0:=rfl
   nok:=h.bok _ K
   WJ:=fun p M=>by
    simp only[aCd] at M;subst M;exact⟨by simp only;omega,by simp only;omega,by simp only;rw[m9]⟩
   low:=fun _=>aDn _
   last:=by simp only;unfold fP;simp[kp]
   idle:=fun c=>by
    simp only at c;rcases h.first with⟨H,_⟩|⟨g,H,c2,O,_⟩<;>omega
   safe:=by simp only;omega
   sent:=by simp only;omega
   VJ:= .inl rfl
   VK:= .inl ⟨rfl,rfl,rfl⟩
   queue:= .inl ⟨rfl,rfl⟩
   first:=by
    rcases h.first with c |⟨g,H,c2,O,c4⟩
    ·exact .inl c
    ·exact .inr ⟨g,H,by simp only;omega,O,c4⟩
   act:=fun U=>by have:=vR (v.fb+1) v.ob;simp only at U;omega
   VZ:=fun y u=>by
    have u:=h.VZ y u;refine⟨u.bytes,u.len,u.ne,u.H2,fun V=>?_⟩;obtain⟨f,g1,g2,g3,g4⟩:=u.whole V;refine⟨f,g1,g2,fun hb=>?_,fun hb=>?_⟩
    ·rcases g3 hb with⟨g,a1,z,A⟩|⟨S,q,m,a1,z,A,B,I⟩
     ·exact .inl ⟨g,a1,by simp only;omega,A⟩
     ·obtain⟨g,o,C,D,E,F,b5,G⟩:=A;refine .inr ⟨S,q,m,a1,z,⟨g,o,C,D,E,F,.inl (by simp only;omega),G⟩,fun c=>?_,I⟩;have:=vR g o;simp only at c;omega
    ·rcases g4 hb with⟨g,o,j,t,a1,z,A,B,I,a6,a7,a8⟩|⟨S,a,a1,z,A,B⟩
     ·exact .inl ⟨g,o,j,t,a1,z,by simp only;omega,B,I,a6,a7,fun c=>by simp only at c;omega⟩
     ·obtain⟨g,o,C,D,E,F,b5,G⟩:=z;refine .inr ⟨S,a,a1,⟨g,o,C,D,E,F,.inl (by simp only;omega),G⟩,fun c=>?_,B⟩
      have:=vR g o;simp only at c;omega }
theorem EK(h:Inv v now snaps s)(hb:v.ob+1<=3000)(a1:Int×Int×Int×aQ):
  ∃s',kL a1 s.n s.fn s.XA s.WQ s.blocks s.VO s.WJ s.VJ s.VK s.sent s.safe s.VN s.on s.XD s.WA s.first s.receiver s.VZ s.m4 s.fd s.ZR s.od=some (aS,none,WL s')/\s'.VZ=s.VZ/\
   Inv { v with ob:=v.ob+1,x:=0 } now snaps s':=by
 have ZS:=h.B5;have qk:=h.kh;have ZN:=h.hs;have K3:=h.n1;have iw:=h.n0;have M:snaps.getD v.k []∈snaps:=by
  rw[P3,E8 (by omega)];exact fp _
 have N:(snaps.getD v.k []).length=v.n:=h.ep.len _ M;have I:=Wg h.H9 (by omega) (by omega);obtain⟨P,Q,_,K⟩:=Hx h.H9 (by omega) (by omega) (by omega) (by omega);rw[N] at I K;refine⟨{ s with on:=v.n,XD:=(v.k:Int),WA:=((v.ob+1:Nat):Int),first:= -1,receiver:=(0,0),ZR:=v.n,od:=P },?_,rfl,?_⟩
 ·unfold kL;rw[h.ox,h.en,I,cM];simp only[uT,ie,XT,jp];rw[K,cM];rw[<-h.en];rfl
 ·exact { h with
   B5:=by simp only;omega
   pos:=by have:=h.pos;simp only;omega
   eon:=rfl
   L9:=rfl
   V6:=rfl
   H9:=Q
   ox:=rfl
   VJ:=by
    rcases h.VJ with c |⟨o,L,c2,H,c4⟩
    ·exact .inl c
    ·exact .inr ⟨o,L,by simp only;omega,H,fun c=>by simp only at c;omega⟩
   first:= .inl ⟨rfl,rfl,rfl⟩
   idle:=fun _ _=>rfl
   act:=fun C=>by
    simp only at C;rcases h.VJ with c |⟨o,L,c2,H,c4⟩
    ·have:=vR v.fb (v.ob+1);omega
    ·rw[H] at C;have:=(sT (by omega) (by omega) C).2;omega
   VZ:=fun y u=>by
    have u:=h.VZ y u;refine⟨u.bytes,u.len,u.ne,u.H2,fun O=>?_⟩;obtain⟨f,R,T,U,V⟩:=u.whole O;refine⟨f,R,T,fun hb=>?_,fun hb=>?_⟩
    ·rcases U hb with⟨g,a1,z,A⟩|⟨S,q,m,a1,z,A,B,a5⟩
     ·exact .inl ⟨g,a1,z,A⟩
     ·obtain⟨g,o,D,E,F,X,G,b6⟩:=A;refine .inr ⟨S,q,m,a1,z,⟨g,o,D,E,F,by simp only;omega,G,fun c=>by simp only at c;omega⟩,B,fun c=>?_⟩;simp only at c;omega
    ·rcases V hb with⟨g,o,j,t,a1,z,A,B,a5,a6,a7,a8⟩|⟨S,a,a1,z,A,B⟩
     ·exact .inl ⟨g,o,j,t,a1,z,A,B,by simp only;omega,a6,a7,fun _ c=>by simp only at c;omega⟩
     ·obtain⟨g,o,D,E,F,X,G,b6⟩:=z;refine .inr ⟨S,a,a1,⟨g,o,D,E,F,by simp only;omega,G,fun c=>by simp only at c;omega⟩,A,fun c=>?_⟩
      simp only at c;omega }
end Go.XR
namespace Go.XR
open Go Go.Sw Go.Mo Go.Pl
open Go.YR (oG)
open Go.WT (Good aZ fA dO dZ qM Et fH pP rC jL Jf Nq nA Jg)
variable {v:Nm}{now:List aQ}{snaps:List (List aQ)}{s:PS}
def mB(l:List (Bool×Bool×List Int))(y:Bool×Bool×List Int):List (Bool×Bool×List Int):=if l.length<64 then l++[y] else l
def Tc(s s':PS):Prop:=s'.VZ=s.VZ\/∃y,s'.VZ=mB s.VZ (false,y)
theorem Re{l:List (Bool×Bool×List Int)}{y}(h:l.length<=64):(mB l y).length<=64:=by
 unfold mB;split
 ·simp;omega
 ·exact h
theorem EL{l:List (Bool×Bool×List Int)}{x y}(h:x∈mB l y):x∈l\/x=y:=by
 unfold mB at h;split at h
 ·simpa using h
 ·exact .inl h
theorem ZK{f:Fm}(g:Good f):aZ f≠ []/\(aZ f).length<=1004:=by
 have z:=(rC g).2;have u:(aZ f).length=(Go.WT.body f).length+4:=by unfold aZ;rw[sM];unfold Go.WT.y6;simp
 exact⟨fun h=>by rw[h] at u;simp at u,by omega⟩
theorem Ib(dir:Bool)(b:List Int)(b0 b1 b2 b3 b4 b5 b6 b7 b8 b9 WZ WY XF WU XC WX XB WS XM XL XJ XI)(hl:WS.length<=64):
  eN dir (false,b) b0 b1 b2 b3 b4 b5 b6 b7 b8 b9 WZ WY XF WU XC WX XB WS XM XL XJ XI=some (mB WS (dir,false,b)):=by
 unfold eN mB;simp only[vo,XT,cM];by_cases h:WS.length<64
 ·have:cm .lss (WS.length:Int) (64:Int)=true:=by rw[cl];exact A5 (by omega)
  rw[this,WV h,XT,VM _ _ (by simp;omega),cM]
 ·have:cm .lss (WS.length:Int) (64:Int)=false:=by rw[cl];exact ZW (by omega)
  rw[this,WM h,pF]
theorem Td{f:Fm}(g:Good f)(he:dZ f=0)(dir:Bool)(b0 b1 b2 b3 b4 b5 b6 b7 b8 b9 WZ WY XF WU XC WX XB WS XM XL XJ XI)(hl:WS.length<=64):
  iW dir f b0 b1 b2 b3 b4 b5 b6 b7 b8 b9 WZ WY XF WU XC WX XB WS XM XL XJ XI=some (none,mB WS (dir,false,aZ f)):=by
 unfold iW;rw[Et g he,cM];have h:HJ (aZ f)=some ():=by
  unfold HJ;have:=(ZK g).1;cases hp:aZ f with
  |nil=>exact absurd hp this
  |cons a l=>rfl
 simp only[jp,ie,XT];rw[h,cM,Ib _ _ _ _ _ _ _ _ _ _ _ _ _ _ _ _ _ _ _ _ _ _ _ _ hl];rfl
theorem Inv.push(h:Inv v now snaps s){y:Bool×Bool×List Int}(hy:u5 v snaps s y):Inv v now snaps { s with VZ:=mB s.VZ y }:=
 h.N4 (Re h.H3) (fun x u=>by
  rcases EL u with u | rfl
  ·exact h.VZ x u
  ·exact hy)
theorem Ev{f:Fm}(g:Good f)(dir:Bool)(h1:dir=true->Dk v snaps s f)(h2:dir=false->Eu v snaps s f):u5 v snaps s (dir,false,aZ f):=
 ⟨pP g,by have:=(ZK g).2;simp only;omega,(ZK g).1,fun h=>(nomatch h),fun _=>⟨f,g,rfl,h1,h2⟩⟩
theorem Nu{g:Nat}(h:g<=2147483647):dZ (jS g)=0/\Good (jS g):=by
 have z:dO (jS g)=0:=Lo (by unfold jS;simp only;omega) (by unfold jS;simp) (by unfold jS;simp) (fun x u=>by simp only[jS,aCd] at u;subst u;omega);have:=(Go.WT.m7 z).1;exact⟨this,qM this (fun b A=>by simp[jS] at A)⟩
theorem C4{S:Int}{q:Nat}{m:Fm}(hm:D9 m)(hS:0<=S/\S<=2147483647)(hq:q<=2147483647):Good (WO S q m):=by
 obtain⟨u,z⟩:=Go.WT.m7 hm.load;have g:=qM u hm.YV;refine⟨by unfold WO;simp,by unfold WO;simp,by unfold WO;simp;omega,g.bs,fun n h=>?_,g.YV⟩;simp only[WO,cz,U7,o6] at h;rcases h with rfl | rfl | rfl | h
 ·exact hS
 ·omega
 ·have:=g.s0;have:=g.s1;omega
 ·exact g.num n h
theorem EM(h:Inv v now snaps s)(hS:0<=s.VJ)(hq:s.VK.2.2=[])(hs:s.sent<v.h){m:Fm}(hm:D9 m)(hn:∀cur:Int,0<=cur->cur<v.h->(s.sent= -1\/cur=s.sent)->u4 v.n snaps cur v.h m):
  Inv v now snaps { s with VK:=(s.VJ,(v.q:Int),[m]),sent:=(v.h:Int),VN:=[(v.h:Int)] }:=by
 have P:=h.B5
 exact { h with
  sent:=by simp only;omega
  VK:= .inr ⟨hS,rfl,rfl⟩
  low:=fun c=>by simp at c
  queue:= .inr ⟨m,rfl,rfl,hm,by simp only;omega⟩
  act:=fun G=>by
   rcases h.act G with⟨A,z,B⟩|⟨A,z,B⟩
   ·refine .inl ⟨A,fun c=>by simp at c,fun E F=>?_⟩;simp only[aCz,aEi] at F;subst F;rcases z hq with c |⟨N,Q⟩
    ·exact hn v.k (by omega) (by omega) (.inr c.symm)
    ·exact hn v.k (by omega) (by omega) (.inl N)
   ·exact absurd hq z
  VZ:=fun y u=>by
   have u:=h.VZ y u;refine⟨u.bytes,u.len,u.ne,u.H2,fun H=>?_⟩;obtain⟨f,I,K,L,M⟩:=u.whole H;refine⟨f,I,K,fun C=>?_,fun C=>?_⟩
   ·rcases L C with c |⟨S,q,E,A,z,B,D,O⟩
    ·exact .inl c
    ·refine .inr ⟨S,q,E,A,z,B,fun c=>?_,O⟩;rcases D c with c |⟨_,c⟩
     ·exact .inl c
     ·rw[hq] at c;simp at c
   ·rcases M C with c |⟨S,a,A,z,B,D⟩
    ·exact .inl c
    ·refine .inr ⟨S,a,A,z,fun c=>?_,D⟩;rcases B c with c |⟨_,c,_⟩
     ·exact .inl c
     ·exact absurd hq c }
theorem Lp{v:Nm}{now:List aQ}{snaps:List (List aQ)}{s:PS}(h:Inv v now snaps s):s.VJ<=2147483647:=by
 have z:=h.B5;rcases h.VJ with c |⟨o,A,B,u,C⟩
 ·omega
 ·rw[u];unfold kN;omega
theorem Pf(h:Inv v now snaps s)(hS:0<=s.VJ){m:Fm}(hq:s.VK.2.2=[m])(hm:D9 m):Dk v snaps s (WO s.VJ v.q m):=by
 have L:=h.B5;rcases h.VJ with c |⟨o,D,E,u,F⟩
 ·omega
 ·refine .inr ⟨_,_,m,rfl,hm,⟨v.fb,o,u,h.pos.1,D,E,.inr ⟨rfl,by omega⟩,fun e=>by rw[F e];exact aDn _⟩,fun _=> .inr ⟨rfl,hq⟩,fun M z=>?_⟩;rcases h.first with⟨G,_⟩|⟨g,G,O,P,H⟩
  ·omega
  ·rw[H] at z;simp only at z;have A:=z;rw[u] at A;obtain⟨N,C⟩:=sT (by omega) (by omega) A;rw[C] at u;rcases h.act u with⟨I,K,B⟩|⟨I,K,B⟩
   ·exact⟨by omega,fun _=>⟨_,B m hq⟩⟩
   ·exact⟨by omega,fun c=>by omega⟩
end Go.XR
namespace Go.XR
open Go Go.Sw Go.Mo Go.Pl
open Go.YR (oG)
open Go.WT (Good aZ fA dO dZ qM Et fH pP rC jL Jf Nq nA Jg)
variable {v:Nm}{now:List aQ}{snaps:List (List aQ)}{s:PS}
def QG(v:Nm)(s s':PS):Prop:=s'.first=s.first/\s'.VJ=s.VJ/\
 ((s.VJ<0/\s'.VZ=mB s.VZ (true,false,aZ (jS v.fb)))\/
  (0<=s.VJ/\s'.VK.2.2=[]/\s'.sent=v.h/\s'.VZ=mB s.VZ (true,false,aZ (jS v.fb)))\/
  (0<=s.VJ/\∃m,s'.VK.2.2=[m]/\D9 m/\(s.VK.2.2=[]->s'.sent=v.h)/\s'.VZ=mB (mB s.VZ (true,false,aZ (jS v.fb))) (true,false,aZ (WO s.VJ v.q m))))
theorem CA(h:Inv v now snaps s):∃s',fR s=some (none,s')/\Inv v now snaps s'/\QG v s s':=by
 have ZS:=h.B5;have G:=h.H3;obtain⟨he,hg⟩:=Nu (g:=v.fb) (by omega);have K:Inv v now snaps { s with VZ:=mB s.VZ (true,false,aZ (jS v.fb)) }:=
  h.push (Ev hg true (fun _=> .inl ⟨v.fb,h.pos.1,YQ _,rfl⟩) (fun c=>nomatch c))
 have V:=Re (y:=(true,false,aZ (jS v.fb))) G;have L:=Td hg he true;have qj:=Lp h;rcases h.VK with⟨F,c2,c3⟩|⟨F,c2,c3⟩
 ·
  refine⟨{ s with VZ:=mB s.VZ (true,false,aZ (jS v.fb)) },?_,K,rfl,rfl,.inl ⟨by omega,rfl⟩⟩;unfold fR dC;rw[h.ZP];have A:((2:Int),([(v.fb:Int)]:List Int),([]:List aQ))=jS v.fb:=rfl;rw[A,L _ _ _ _ _ _ _ _ _ _ _ _ _ _ _ _ _ _ _ _ _ _ G,cM];have H:cm .lss s.VJ (0:Int)=true:=by rw[cl];exact A5 (by omega)
  simp only[ZY,pF,cM,H,XT]
 ·have H:cm .lss s.VJ (0:Int)=false:=by rw[cl];exact ZW (by omega)
  have B:s.VK=(s.VJ,(v.q:Int),s.VK.2.2):=by rw[<-c2,<-c3]
  have X:∀(C:PS) (m:Fm),Inv v now snaps C->C.VJ=s.VJ->C.VK=(s.VJ,(v.q:Int),[m])->D9 m->
    ∃s3,s3={ C with VZ:=mB C.VZ (true,false,aZ (WO s.VJ v.q m)) }/\Inv v now snaps s3:=by
   intro C m hi D e4 u;refine⟨_,rfl,hi.push (Ev (C4 u (by omega) (by omega)) true (fun _=>?_) (fun c=>nomatch c))⟩;have:=Pf hi (by rw[D];exact F) (m:=m) (by rw[e4]) u;rw[D] at this;exact this
  have cj:∀(m:Fm) (k:List (Bool×Bool×List Int)->Option ((Option Int)×(Int×Int×(List (Int×(List Int)×(List aQ))))×Int×(List Int)×(List (Bool×Bool×(List Int))))) (b0 b1 b2 b3 b4 b5 b6 b7 b8 b9 WZ WY XF WU XC WX XB XM XL XJ XI) (E:List (Bool×Bool×List Int)),E.length<=64->D9 m->
    lp (β:=(List (Bool×Bool×(List Int)))) (fun (I:Int×(List (Bool×Bool×(List Int))))=>
      bif (cm .lss I.1 (([aZ (WO s.VJ v.q m)]:List (List Int)).length:Int)) then
       (Sw.idx [aZ (WO s.VJ v.q m)] I.1).bind fun ab=>
        (HJ ab).bind fun _=>
         (eN true (false,ab) b0 b1 b2 b3 b4 b5 b6 b7 b8 b9 WZ WY XF WU XC WX XB I.2 XM XL XJ XI).bind fun wo=>
          some (.next ((ar .add .i64 I.1 (1:Int)),wo))
      else
       some (.done (.WN I.2))
      ) ((0:Int),E) k=k (mB E (true,false,aZ (WO s.VJ v.q m))):=by
   intro m k b0 b1 b2 b3 b4 b5 b6 b7 b8 b9 WZ WY XF WU XC WX XB XM XL XJ XI E iw u;have ac:=C4 u (S:=s.VJ) (q:=v.q) (by omega) (by omega);obtain⟨p1,p2⟩:=ZK ac;have YZ:HJ (aZ (WO s.VJ v.q m))=some ():=by
    unfold HJ;cases hp:aZ (WO s.VJ v.q m) with
    |nil=>exact absurd hp p1
    |cons a l=>rfl
   unfold lp;rw[show fO=1125899906842622+1+1 from rfl,Go.WT.ZL (y:=((1:Int),mB E (true,false,aZ (WO s.VJ v.q m)))),Go.WT.YP (b:= .WN (mB E (true,false,aZ (WO s.VJ v.q m))))]
   ·rfl
   ·have:Sw.idx [aZ (WO s.VJ v.q m)] (0:Int)=some (aZ (WO s.VJ v.q m)):=rfl;simp only[cl,aCw];rw[A5 (by omega),XT,this,cM,YZ,cM,Ib _ _ _ _ _ _ _ _ _ _ _ _ _ _ _ _ _ _ _ _ _ _ _ _ iw,cM];rfl
  have aa:∀m,D9 m->pE (s.VJ,(v.q:Int),[m])=some ([aZ (WO s.VJ v.q m)],none):=by
   intro m u;have P:=nA (S:=s.VJ) (q:=(v.q:Int)) (l:=[m]) (by omega) (by omega) (by simp) (fun f N=>by simp at N;subst N;exact u.load);rw[Nq P (by omega) u.load u.YV];have:Go.WT.WO (s.VJ,(v.q:Int),[m]) 0 m=WO s.VJ v.q m:=by unfold Go.WT.WO WO;simp
   rw[this]
  rcases h.queue with⟨z,d2⟩|⟨m,z,d2,O,d4⟩
  ·
   rw[z] at B;by_cases M:s.sent<v.h
   ·
    obtain⟨m,n1,T⟩:=NO h.ep h.n0 h.n1 h.hs (by omega) h.bok (fun j l hl=>by have:=h.WJ _ (Ia hl);simpa using this) h.last (k:=s.sent) ⟨h.sent.1,M⟩;have u:D9 m:=by
     have:=h.sent;by_cases c:s.sent= -1
     ·have:=T 0 (by omega) (by omega) (.inl c);exact⟨this.load,this.YV⟩
     ·have:=T s.sent (by omega) (by omega) (.inr rfl);exact⟨this.load,this.YV⟩
    have h2:=EM K F z M u T;obtain⟨s3,D,U⟩:=X _ m h2 rfl rfl u;subst D;refine⟨_,?_,U,rfl,rfl,.inr (.inr ⟨F,m,rfl,u,fun _=>rfl,rfl⟩)⟩;unfold fR dC;rw[h.ZP];have A:((2:Int),([(v.fb:Int)]:List Int),([]:List aQ))=jS v.fb:=rfl;rw[A,L _ _ _ _ _ _ _ _ _ _ _ _ _ _ _ _ _ _ _ _ _ _ G,cM];have Q:cm .lss s.sent s.XA=true:=by rw[cl,h.enum];exact A5 M
    have R:cm .eql (s.VK.2.2.length:Int) (0:Int)=true:=by rw[z];rfl
    simp only[ZY,pF,cM,H,Q,R,XT,jp];rw[h.efn,h.enum,n1,cM,B,Jg (by omega) (by omega) u.load,cM];simp only[ZY,pF];rw[d2,VM _ _ (by simp),cM];rw[aa m u,cM];simp only[];rw[cj m _ _ _ _ _ _ _ _ _ _ _ _ _ _ _ _ _ _ _ _ _ _ _ V u];simp only[cM,U7]
   ·refine⟨{ s with VZ:=mB s.VZ (true,false,aZ (jS v.fb)) },?_,K,rfl,rfl,.inr (.inl ⟨F,z,by have:=h.sent;simp only;omega,rfl⟩)⟩;unfold fR dC;rw[h.ZP];have A:((2:Int),([(v.fb:Int)]:List Int),([]:List aQ))=jS v.fb:=rfl;rw[A,L _ _ _ _ _ _ _ _ _ _ _ _ _ _ _ _ _ _ _ _ _ _ G,cM];have Q:cm .lss s.sent s.XA=false:=by rw[cl,h.enum];exact ZW M
    simp only[ZY,pF,cM,H,Q,XT,jp];have P:=nA (S:=s.VJ) (q:=(v.q:Int)) (l:=[]) (by omega) (by omega) (by simp) (fun f N=>by simp at N);rw[B,Jf P,cM];simp only[];unfold lp;rw[show fO=1125899906842623+1 from rfl,Go.WT.YP (b:= .WN (mB s.VZ (true,false,aZ (jS v.fb))))]
    ·simp only[cM]
    ·rfl
  ·rw[z] at B;obtain⟨s3,D,U⟩:=X _ m K rfl B O;subst D;refine⟨_,?_,U,rfl,rfl,.inr (.inr ⟨F,m,z,O,fun c=>(by rw[z] at c;cases c),rfl⟩)⟩;unfold fR dC;rw[h.ZP];have A:((2:Int),([(v.fb:Int)]:List Int),([]:List aQ))=jS v.fb:=rfl;rw[A,L _ _ _ _ _ _ _ _ _ _ _ _ _ _ _ _ _ _ _ _ _ _ G,cM];have R:(bif (cm .lss s.sent s.XA) then some (cm .eql (s.VK.2.2.length:Int) (0:Int)) else some false)=some false:=by
    rw[z];cases cm .lss s.sent s.XA<;>rfl
   simp only[ZY,pF,cM,H];rw[R,cM];simp only[pF,jp];rw[B,aa m O,cM];simp only[];rw[cj m _ _ _ _ _ _ _ _ _ _ _ _ _ _ _ _ _ _ _ _ _ _ _ V O];simp only[cM]
end Go.XR
namespace Go.XR
open Go Go.Sw Go.Mo Go.Pl
open Go.YR (oG xN)
open Go.WT (Good aZ fA dO dZ qM)
variable {v:Nm}{now:List aQ}{snaps:List (List aQ)}{s:PS}
theorem JN{g o:Nat}(hg:g<=3000)(ho:o<=3000):ar .or .i64 (sh .shl .i64 (g:Int) (12:Int)) (o:Int)=kN g o:=by
 have h:sh .shl .i64 (g:Int) (12:Int)=((g*2 ^ 12:Nat):Int):=by
  show IntKind.wrap .i64 ((g:Int)*2 ^ min ((12:Nat):Int).toNat 64)=_;rw[m9,qv (by omega)];have e:(g:Int)*2 ^ 12=((g*2 ^ 12:Nat):Int):=by omega
  rw[e,wrap_i64 (by omega)]
 rw[h,Go.YR.orI (by omega) (by omega),Go.YR.orP (by omega)];unfold kN;rfl
theorem EN(h:Inv v now snaps s){g:Nat}(h1:1<=g)(h2:g<=v.fb)(h3:s.first<g):Inv { v with x:=0 } now snaps { s with first:=(g:Int),receiver:=(kN g v.ob,0) }:=by
 have ZS:=h.B5;have K:∀S,tB v s S->S≠kN g v.ob:=by
  rintro S ⟨C,o,G,M,N,O,P,H⟩ e;rw[G] at e;obtain⟨e1,T⟩:=sT (by omega) (by omega) e;have:=H T;omega
 have L:∀S,tB v s S->tB { v with x:=0 } { s with first:=(g:Int),receiver:=(kN g v.ob,0) } S:=by
  rintro S ⟨C,o,G,M,N,O,P,H⟩;exact⟨C,o,G,M,N,O,P,fun e=>by have:=H e;simp only;omega⟩
 exact { h with
  B5:=by simp only;omega
  idle:=fun _ _=>rfl
  VJ:=by
   rcases h.VJ with c |⟨o,c1,c2,c3,I⟩
   ·exact .inl c
   ·exact .inr ⟨o,c1,c2,c3,fun e=>by have:=I e;simp only;omega⟩
  first:= .inr ⟨g,h1,h2,rfl,rfl⟩
  act:=fun E=>by
   simp only at E;rcases h.VJ with c |⟨o,c1,c2,c3,I⟩
   ·have:=vR v.fb v.ob;omega
   ·rw[c3] at E;have:=I (sT (by omega) (by omega) E).2;omega
  VZ:=fun y u=>by
   have u:=h.VZ y u;refine⟨u.bytes,u.len,u.ne,u.H2,fun R=>?_⟩;obtain⟨f,U,V,X,g4⟩:=u.whole R;refine⟨f,U,V,fun F=>?_,fun F=>?_⟩
   ·rcases X F with c |⟨S,q,m',B,z,A,D,Q⟩
    ·exact .inl c
    ·exact .inr ⟨S,q,m',B,z,L S A,D,fun _ c=>absurd c (K S A)⟩
   ·rcases g4 F with⟨C,o,j,t,B,z,A,D,Q,a6,a7,a8⟩|⟨S,a,B,z,A,D⟩
    ·refine .inl ⟨C,o,j,t,B,z,A,D,Q,a6,a7,fun c d e=>?_⟩;have:=(a8 c d e).2.1;omega
    ·exact .inr ⟨S,a,B,L S z,A,fun _ c=>absurd c (K S z)⟩}
theorem Ic{g o j:Nat}{t:List Int}(hg:g<=2147483647)(ho:o<=2147483647)(hj:j<=2147483647){x y:Int}(ht:t=[x,y])(hx:0<=x/\x<=2147483647)(hy:0<=y/\y<=2147483647):dZ (dU g o j t)=0/\Good (dU g o j t):=by
 subst ht
 have u:dO (dU g o j [x,y])=0:=Lo (by unfold dU;simp only;omega) (by unfold dU;simp) (by unfold dU;simp) (fun n h=>by
  simp only[dU,cz,U7,o6,aCl,aEl] at h
  rcases h with rfl | rfl | rfl | rfl | rfl<;>omega)
 have:=(Go.WT.m7 u).1;exact⟨this,qM this (fun b z=>by simp[dU] at z)⟩
theorem Fq(h:Inv v now snaps s){g:Nat}(h1:1<=g)(h2:g<=v.fb)(h3:s.first=g){t:List Int}(ht:kC (snaps.getD v.k [])=some t):Eu v snaps s (dU g v.ob v.k t):=by
 have:=h.pos;exact .inl ⟨g,v.ob,v.k,t,rfl,h1,h2,h.pos.2,YQ _,YQ _,ht,fun c _ e=>⟨rfl,by rw[h3,c],h.idle (by rw[h3,c]) (by rw[c] at e;exact e)⟩⟩
theorem Jj(h:Inv v now snaps s)(h0:0<=s.first)(hs:s.VJ=s.receiver.1):s.VJ=kN v.fb v.ob:=by
 have B:=h.B5;rcases h.first with⟨A,_⟩|⟨g,A,C,D,u⟩
 ·omega
 ·rcases h.VJ with c |⟨o,E,F,z,G⟩
  ·rw[u] at hs;have:=vR g v.ob;simp only at hs;omega
  ·rw[u,z] at hs;rw[z,(sT (by omega) (by omega) hs).2]
theorem CB(h:Inv v now snaps s)(h0:0<=s.first)(ha:tB v s s.receiver.1):Eu v snaps s (sU s.receiver.1 v.x):=by
 refine .inr ⟨_,v.x,rfl,ha,fun c=>?_,fun _ _=>YQ _⟩;rcases h.act (Jj h h0 c.symm) with⟨u,_⟩|⟨u,z,A⟩
 ·exact .inl (by omega)
 ·exact .inr ⟨u,z,by omega⟩
theorem JP(h:Inv v now snaps s)(hx:v.x+1<=100000)(h0:0<=s.first)(ha:tB v s s.receiver.1){to:Nat}(XK:v.k<to)(hle:to<=v.h){d':(List aQ)×(List (Int×aQ))×Int}(hd:oG d' (snaps.getD to []) to v.ob)
  (hq:s.VJ=s.receiver.1->v.x=v.q/\s.VK.2.2≠ []/\s.sent=to):
  Inv { v with k:=to,x:=v.x+1 } now snaps { s with XD:=(to:Int),receiver:=(s.receiver.1,((v.x+1:Nat):Int)),ZR:=(v.n:Int),od:=d' }:=by
 have ZS:=h.B5;have gm:=h.safe;have Q:s.VJ=kN v.fb v.ob->s.VJ=s.receiver.1:=by
  intro e;rcases h.VJ with c |⟨o,O,P,K,c4⟩
  ·have:=vR v.fb v.ob;omega
  ·rw[K] at e;have F:=(sT (by omega) (by omega) e).2;rcases h.first with⟨z,_⟩|⟨g,z,G,H,d4⟩
   ·omega
   ·have:=c4 F;have u:g=v.fb:=by omega
    rw[d4,K,u,F]
 exact { h with
  B5:=by simp only;omega
  L9:=rfl
  kh:=hle
  H9:=hd
  ox:=rfl
  safe:=by simp only;omega
  idle:=fun c d=>by
   obtain⟨M,o,C,R,T,U,D,V⟩:=ha;rcases h.first with⟨z,_⟩|⟨g,z,G,H,d4⟩
   ·omega
   ·simp only at c d;have u:g=v.fb:=by omega
    rw[d4,u] at C;obtain⟨X,F⟩:=sT (by omega) (by omega) C;rw[d4,u] at D;simp only at D;omega
  first:=by
   rcases h.first with⟨z,_⟩|⟨g,z,G,H,d4⟩
   ·omega
   ·exact .inr ⟨g,z,G,H,by simp only;rw[d4]⟩
  act:=fun e=>by
   obtain⟨a1,a2,B⟩:=hq (Q e);exact .inr ⟨by simp only;omega,a2,B⟩
  VZ:=fun y A=>by
   have A:=h.VZ y A;refine⟨A.bytes,A.len,A.ne,A.H2,fun u=>?_⟩;obtain⟨f,g1,N,g3,g4⟩:=A.whole u;refine⟨f,g1,N,fun I=>?_,fun I=>?_⟩
   ·rcases g3 I with c |⟨S,q,m',a1,a2,B,E,L⟩
    ·exact .inl c
    ·refine .inr ⟨S,q,m',a1,a2,B,E,fun c d=>?_⟩;have:=(L c d).1;exact⟨by simp only;omega,fun e=>by simp only at e;omega⟩
   ·rcases g4 I with⟨M,o,j,t,a1,a2,B,E,L,a6,a7,a8⟩|⟨S,a,a1,a2,B,E⟩
    ·refine .inl ⟨M,o,j,t,a1,a2,B,E,L,by simp only;omega,a7,fun c d e=>?_⟩;have hf:=(a8 c d e).2.1;obtain⟨N,o2,C,R,T,U,D,V⟩:=ha;rcases h.first with⟨z,_⟩|⟨g,z,G,H,d4⟩
     ·omega
     ·simp only at c d e;have u:g=v.fb:=by omega
      rw[d4,u] at C;obtain⟨X,F⟩:=sT (by omega) (by omega) C;rw[d4,u] at D;simp only at D;rw[c,d] at e;omega
    ·refine .inr ⟨S,a,a1,a2,fun c=>?_,fun c d=>by have:=E c d;simp only;omega⟩;rcases B c with c |⟨O,P,K⟩
     ·exact .inl c
     ·exact .inr ⟨O,P,by simp only;omega⟩}
end Go.XR
namespace Go.XR
open Go Go.Sw Go.Mo Go.Pl
open Go.YR (oG xN)
open Go.WT (Good aZ fA dO dZ qM Hv Np oH fH)
variable {v:Nm}{now:List aQ}{snaps:List (List aQ)}{s:PS}
theorem EO(dir:Bool)(b:List Int)(b0 b1 b2 b3 b4 b5 b6 b7 b8 b9 WZ WY XF WU XC WX XB WS XM XL XJ XI):
  eN dir (true,b) b0 b1 b2 b3 b4 b5 b6 b7 b8 b9 WZ WY XF WU XC WX XB WS XM XL XJ XI=some WS:=rfl
theorem Kn(h:Inv v now snaps s)(h0:0<=s.first):(0<=s.receiver.1/\s.receiver.1<=2147483647)/\s.receiver.2=v.x:=by
 have A:=h.B5;rcases h.first with⟨u,_⟩|⟨g,u,B,C,z⟩
 ·omega
 ·rw[z];refine⟨?_,rfl⟩;show 0<=kN g v.ob/\kN g v.ob<=2147483647;unfold kN;omega
theorem Nv(b:List Int)(u:Fm)(e:Option Int)(hu:fF b=some (u,e))(hn:e.isSome=true\/u.1≠2)
  (hr:0<=s.first->∃fr,oA s.receiver b=some (s.receiver,fr,false,(true,[]),none)):dP b s=some (none,s):=by
 unfold dP cD;have A:(bif Option.isNone e then bif cm .eql u.1 (2:Int) then some (cm .eql (u.2.1.length:Int) (1:Int)) else some false else some false)=some false:=by
  rcases hn with c | c
  ·cases e with
   |none=>cases c
   |some e=>rfl
  ·have:cm .eql u.1 (2:Int)=false:=by rw[ce];exact ZW c
   rw[this];cases e<;>rfl
 rw[hu,cM];simp only[];rw[A,cM];simp only[pF];by_cases z:s.first<0
 ·have h:cm .lss s.first (0:Int)=true:=by rw[cl];exact A5 z
  rw[h];simp only[XT,cM]
 ·have h:cm .lss s.first (0:Int)=false:=by rw[cl];exact ZW z
  obtain⟨fr,hr⟩:=hr (by omega);rw[h,hr];simp only[pF,cM,ZY,jp,EO]
def NR(v:Nm)(snaps:List (List aQ))(s s':PS)(x':Nat):Prop:=s'.first=v.fb/\s'.VJ=s.VJ/\s'.VK=s.VK/\s'.sent=s.sent/\s'.safe=s.safe/\(s.first=v.fb->x'=v.x)/\
 ∃x y,kC (snaps.getD v.k [])=some [x,y]/\s'.VZ=mB s.VZ (false,false,aZ (dU v.fb v.ob v.k [x,y]))
theorem Rf(h:Inv v now snaps s){b:List Int}{g:Nat}(h1:1<=g)(h2:g<=v.fb)(hu:fF b=some (jS g,none)):
  ∃x' s',x'<=v.x/\dP b s=some (none,s')/\Inv { v with x:=x' } now snaps s'/\Tc s s'/\(g=v.fb->NR v snaps s s' x'):=by
 have R:=h.B5;have S:=h.kh;have T:=h.hs;have U:=h.n1;have V:=h.n0;have H:snaps.getD v.k []∈snaps:=by
  rw[P3,E8 (by omega)];exact fp _
 have M:(snaps.getD v.k []).length=v.n:=h.ep.len _ H;have A:=xN h.H9;rw[M,<-h.ox] at A;obtain⟨x,y,u,O,P⟩:=Yz (bs:=snaps.getD v.k []) (by omega) (by omega) (h.bok _ H);obtain⟨L,D⟩:=Ic (g:=g) (o:=v.ob) (j:=v.k) (t:=[x,y]) (by omega) (by omega) (by omega) rfl O P;have I:((3:Int),([(g:Int),(v.ob:Int),(v.k:Int)]++[x,y]:List Int),([]:List aQ))=dU g v.ob v.k [x,y]:=rfl;have E:Sw.idx (jS g).2.1 (0:Int)=some (g:Int):=rfl;have F:cm .eql (jS g).1 (2:Int)=true:=rfl;have G:cm .eql ((jS g).2.1.length:Int) (1:Int)=true:=rfl;by_cases N:s.first<g
 ·have K:=EN h h1 h2 N;refine⟨0,{ s with first:=(g:Int),receiver:=(kN g v.ob,0),VZ:=mB s.VZ (false,false,aZ (dU g v.ob v.k [x,y])) },by omega,?_,K.push (Ev D false (fun c=>nomatch c) (fun _=>Fq K h1 h2 rfl u)),.inr ⟨_,rfl⟩,fun e=>by subst e;exact⟨rfl,rfl,rfl,rfl,rfl,fun c=>by omega,x,y,u,rfl⟩⟩;unfold dP cD;have B:cm .gtr (g:Int) s.first=true:=by rw[cg];exact A5 (by omega)
  have z:cm .lss (g:Int) (g:Int)=false:=by rw[cl];exact ZW (by omega)
  rw[hu,cM];simp only[ie,XT,F,G,cM,E,B,jp];rw[A,cM];simp only[ZY,pF,cM,z];rw[u,cM,VM _ _ (by simp),cM,h.V6,h.L9,JN (by omega) (by omega),I,Td D L _ _ _ _ _ _ _ _ _ _ _ _ _ _ _ _ _ _ _ _ _ _ _ h.H3];rfl
 ·have B:cm .gtr (g:Int) s.first=false:=by rw[cg];exact ZW (by omega)
  by_cases C:s.first=g
  ·refine⟨v.x,{ s with VZ:=mB s.VZ (false,false,aZ (dU g v.ob v.k [x,y])) },YQ _,?_,h.push (Ev D false (fun c=>nomatch c) (fun _=>Fq h h1 h2 C u)),.inr ⟨_,rfl⟩,fun e=>by subst e;exact⟨C,rfl,rfl,rfl,rfl,fun _=>rfl,x,y,u,rfl⟩⟩;unfold dP cD;have z:cm .lss (g:Int) s.first=false:=by rw[cl];exact ZW (by omega)
   rw[hu,cM];simp only[ie,XT,F,G,cM,E,B,jp,pF];rw[A,cM];simp only[ZY,pF,cM,z];rw[u,cM,VM _ _ (by simp),cM,h.V6,h.L9,C,I,Td D L _ _ _ _ _ _ _ _ _ _ _ _ _ _ _ _ _ _ _ _ _ _ _ h.H3];rw[<-C,<-h.L9];rfl
  ·refine⟨v.x,s,YQ _,?_,h,.inl rfl,fun e=>by exfalso;rcases h.first with⟨Q,_⟩|⟨X,Q,d2,d3,_⟩<;>omega⟩;unfold dP cD;have z:cm .lss (g:Int) s.first=true:=by rw[cl];exact A5 (by omega)
   rw[hu,cM];simp only[ie,XT,F,G,cM,E,B,jp,pF];rw[A,cM];simp only[ZY,pF,cM,z,XT]
def QH(v:Nm)(s s':PS)(k' x':Nat)(S:Int)(q:Nat):Prop:=(S≠s.receiver.1->s'=s/\k'=v.k/\x'=v.x)/\
 (0<=s.first->S=s.receiver.1->S=s.VJ->q=v.q->x'=v.q+1/\s'.first=s.first/\s'.VJ=s.VJ/\s'.VK=s.VK/\s'.sent=s.sent/\s'.safe=s.safe/\s'.VZ=mB s.VZ (false,false,aZ (sU S (v.q+1))))
theorem Wl(h:Inv v now snaps s)(ee:v.x+1<=100000){b:List Int}(hb:Bytes b)(T7:b.length<=2000){S:Int}{q:Nat}{m:Fm}(hf:fA b=some (WO S q m))(hm:D9 m)(ha:tB v s S)
  (hs:S=s.VJ->q<v.q\/(q=v.q/\s.VK.2.2=[m])) (hr:0<=s.first->S=s.receiver.1->q<=v.x/\(q=v.x->∃to,u4 v.n snaps v.k to m)):
  ∃k' x' s',v.k<=k'/\x'<=v.x+1/\dP b s=some (none,s')/\Inv { v with k:=k',x:=x' } now snaps s'/\Tc s s'/\QH v s s' k' x' S q:=by
 have ZS:=h.B5;have qk:=h.kh;have ZN:=h.hs;have U:=h.n1;have V:=h.n0;have B:=oH b hb (by omega);rw[hf] at B;simp only at B;by_cases X:s.first<0
 ·exact⟨v.k,v.x,s,YQ _,by omega,Nv b _ none B (.inr (by unfold WO;simp)) (fun c=>by omega),h,.inl rfl,fun _=>⟨rfl,rfl,rfl⟩,fun c=>absurd c (by omega)⟩
 ·obtain⟨am,an⟩:=Kn h (by omega);have A:=Np s.receiver b hb T7 am (by omega);rw[hf] at A;by_cases u:S=s.receiver.1
  ·obtain⟨av,C3⟩:=hr (by omega) u;have aa:=(Go.WT.m7 hm.load)
   have ab:=qM aa.1 hm.YV;have ac:=ab.s1;have E:(WO S q m).1=1/\3<=(WO S q m).2.1.length/\(WO S q m).2.1.getD 0 0=s.receiver.1/\(WO S q m).2.1.getD 2 0<=15:=by
    refine⟨rfl,by unfold WO;simp,u,ac⟩
   have ad:(WO S q m).2.1.getD 1 0=q:=rfl;have af:((WO S q m).2.1.getD 2 0,(WO S q m).2.1.drop 3,(WO S q m).2.2)=m:=rfl;unfold Hv at A;simp only[WV E,ad,af] at A;have I:cm .eql (WO S q m).1 (2:Int)=false:=rfl;have K:cm .lss s.first (0:Int)=false:=by rw[cl];exact ZW X
   have L:∀a:Nat,a<=2147483647->Good (sU s.receiver.1 a):=fun a Y9=>by
    refine⟨by unfold sU;simp,by unfold sU;simp,by unfold sU;simp,by unfold sU;simp,fun n P=>?_,fun b hb=>by simp[sU] at hb⟩;simp only[sU,o6,aCl,aEl] at P;rcases P with rfl | rfl<;>omega
   by_cases M:(q:Int)=s.receiver.2/\s.receiver.2<2147483647
   ·rw[WV M] at A;simp only at A;have N:q=v.x:=by omega
    obtain⟨to,C⟩:∃to,u4 v.n snaps v.k to m/\(s.VJ=s.receiver.1->v.x=v.q/\s.VK.2.2≠ []/\s.sent=to):=by
     by_cases c:s.VJ=s.receiver.1
     ·rcases h.act (Jj h (by omega) c) with⟨D,a2,T⟩|⟨D,a2,T⟩
      ·rcases hs (by rw[u,c]) with d |⟨d1,H⟩
       ·omega
       ·exact⟨s.sent,T m H,fun _=>⟨D,by rw[H];simp,rfl⟩⟩
      ·rcases hs (by rw[u,c]) with d |⟨d1,H⟩<;>omega
     ·obtain⟨to,e⟩:=C3 N;exact⟨to,e,fun d=>absurd d c⟩
    obtain⟨C,ao⟩:=C;have XK:=C.lt;have ap:=C.le;have aq:=C.nn;let s1:PS:={ s with receiver:=(s.receiver.1,s.receiver.2+1) }
    obtain⟨d',sd,et⟩:=NM (s:=s1) (snaps:=snaps) (n:=v.n) h.H9 rfl V U h.ep.len h.L9 (by omega) (by omega) h.V6 (by omega) h.eon h.ox C;have O:s.receiver.2+1=((v.x+1:Nat):Int):=by omega
    have F:=JP h ee (by omega) (by rw[<-u];exact ha) (to:=to.toNat) (by omega) (by omega) sd (fun c=>by obtain⟨c1,c2,c3⟩:=ao c;exact⟨c1,c2,by omega⟩);have al:((to.toNat:Nat):Int)=to:=by omega
    rw[al,<-O] at F
    have G:=CB F (by simp only;omega) (by
     obtain⟨g,o,Q,b2,b3,b4,R,b6⟩:=ha;rw[u] at Q R
     exact⟨g,o,Q,b2,b3,b4,R,b6⟩)
    refine⟨to.toNat,v.x+1,_,by omega,YQ _,?_,F.push (Ev (L (v.x+1) (by omega)) false (fun c=>nomatch c) (fun _=>G)),.inr ⟨_,rfl⟩,fun c=>absurd u c,fun _ _ _ e=>⟨by omega,rfl,rfl,rfl,rfl,rfl,by rw[u,<-e,N]⟩⟩;unfold rY at et;unfold dP cD;rw[B,cM];simp only[ie,XT,I,cM,pF,K];rw[A,cM];simp only[ZY,pF,XT,jp];cases hz:fG m s.n s.fn s.XA s.WQ s.blocks s.VO s.WJ s.VJ s.VK s.sent s.safe s.VN s.on s.XD s.WA s.first (s.receiver.1,s.receiver.2+1) s.VZ s.m4 s.fd s.ZR s.od with
    |none=>simp only[s1] at et;rw[hz] at et;cases et
    |some z=>
     simp only[s1] at et;rw[hz,cM] at et;simp only[u3,M4,PS.mk.injEq] at et;rw[cM];simp only[et,ZY,pF];rw[Ib _ _ _ _ _ _ _ _ _ _ _ _ _ _ _ _ _ _ _ _ _ _ _ _ h.H3];simp only[cM,O];rfl
   ·have au:¬q=v.x:=by omega
    rw[WM M] at A;simp only at A;have G:=CB h (by omega) (by rw[<-u];exact ha);refine⟨v.k,v.x,_,YQ _,by omega,?_,h.push (Ev (L v.x (by omega)) false (fun c=>nomatch c) (fun _=>G)),.inr ⟨_,rfl⟩,fun c=>absurd u c,fun _ _ c e=>(fun (z:v.x=v.q+1)=>⟨z,rfl,rfl,rfl,rfl,rfl,by rw[u,<-z]⟩) (by rcases h.act (Jj h (by omega) (by rw[<-c,u])) with⟨D,_⟩|⟨D,_⟩<;>omega)⟩;unfold dP cD;rw[B,cM];simp only[ie,XT,I,cM,pF,K];rw[A,cM];simp only[ZY,pF,jp];rw[Ib _ _ _ _ _ _ _ _ _ _ _ _ _ _ _ _ _ _ _ _ _ _ _ _ h.H3];simp only[cM,an];rfl
  ·refine⟨v.k,v.x,s,YQ _,by omega,Nv b _ none B (.inr (by unfold WO;simp)) (fun _=>⟨(0,[],[]),?_⟩),h,.inl rfl,fun _=>⟨rfl,rfl,rfl⟩,fun _ c=>absurd c u⟩;rw[A];have E:¬((WO S q m).1=1/\3<=(WO S q m).2.1.length/\(WO S q m).2.1.getD 0 0=s.receiver.1/\(WO S q m).2.1.getD 2 0<=15):=fun c=>u c.2.2.1;unfold Hv;simp only[WM E]
theorem Wm(h:Inv v now snaps s)(ee:v.x+1<=100000){y:Bool×Bool×List Int}(hy:u5 v snaps s y)(hd:y.1=true):
  ∃k' x' s',v.k<=k'/\x'<=v.x+1/\dP y.2.2 s=some (none,s')/\Inv { v with k:=k',x:=x' } now snaps s'/\Tc s s':=by
 have E:=hy.len;have u:=oH y.2.2 hy.bytes (by omega);by_cases z:y.2.1=true
 ·rw[hy.H2 z] at u;refine⟨v.k,v.x,s,YQ _,by omega,Nv _ _ _ u (.inl rfl) (fun H=>⟨(0,[],[]),?_⟩),h,.inl rfl⟩;obtain⟨I,U⟩:=Kn h H;have T:=h.B5;rw[Np s.receiver _ hy.bytes E I (by omega),hy.H2 z];rfl
 ·obtain⟨f,K,L,M,_⟩:=hy.whole (by simpa using z);have F:fA y.2.2=some f:=by rw[L];exact fH K
  rw[F] at u;rcases M hd with⟨g,O,D,rfl⟩|⟨S,q,m,rfl,D,P,Q,R⟩
  ·obtain⟨x',s',G,A,B,C,_⟩:=Rf h O D u;exact⟨v.k,x',s',YQ _,by omega,A,B,C⟩
  ·obtain⟨k',x',s',G,A,B,C,N,_⟩:=Wl h ee hy.bytes E F D P Q R;exact⟨k',x',s',G,A,B,C,N⟩
end Go.XR
namespace Go.XR
open Go Go.Sw Go.Mo Go.Pl
open Go.YR (oG xN)
open Go.WT (Good aZ fA dO dZ qM Gp Ac oH fH nA)
variable {v:Nm}{now:List aQ}{snaps:List (List aQ)}{s:PS}
theorem UZ(x y:Int):jH [x,y] [x,y]=some true:=by
 unfold jH;have e:cm .neq (([x,y]:List Int).length:Int) (([x,y]:List Int).length:Int)=false:=by rw[cn];simp
 rw[e,pF];unfold lp;rw[show fO=1125899906842621+1+1+1 from rfl,Go.WT.ZL (y:=(1:Int)),Go.WT.ZL (y:=(2:Int)),Go.WT.YP (b:= .WN ())]
 ·rfl
 ·have h:Sw.idx [x,y] (1:Int)=some y:=rfl;have u:cm .neq y y=false:=by rw[cn];simp
  have z:cm .lss (1:Int) (([x,y]:List Int).length:Int)=true:=rfl;rw[z,XT,h,cM,cM,u,pF];rfl
 ·have h:Sw.idx [x,y] (0:Int)=some x:=rfl;have u:cm .neq x x=false:=by rw[cn];simp
  have z:cm .lss (0:Int) (([x,y]:List Int).length:Int)=true:=rfl;rw[z,XT,h,cM,cM,u,pF];rfl
theorem Inv.aE4(h:Inv v now snaps s){e}(he:lj v.n e now snaps):Inv v now snaps { s with VO:=e }:=
 { h with
  ep:=he
  VZ:=fun y u=>(h.VZ y u).same rfl rfl rfl rfl rfl }
theorem Rg(h:Inv v now snaps s){o j:Nat}(h1:1<=o)(h2:o<=v.ob)(hj:j<=v.k)(XK:s.VJ<kN v.fb o)
  (ha:o=v.ob->s.VJ<kN v.fb o->j=v.k/\s.first=(v.fb:Int)/\v.x=0) {sent:Int} (aNt:sent=j\/(sent= -1/\j<v.h)):
  Inv { v with q:=0 } now snaps { s with VJ:=kN v.fb o,VK:=(kN v.fb o,0,[]),sent:=sent,safe:=max s.safe (j:Int),VN:=[] }:=by
 have ZS:=h.B5;have qk:=h.kh;have gm:=h.safe;have C:∀S,tB v s S->S≠kN v.fb o/\tB { v with q:=0 } { s with VJ:=kN v.fb o,VK:=(kN v.fb o,0,[]),sent:=sent,safe:=max s.safe (j:Int),VN:=[] } S:=by
  rintro S ⟨F,G,H,X,b3,b4,M,b6⟩;refine⟨fun e=>?_,F,G,H,X,b3,b4,?_,b6⟩
  ·rw[H] at e;obtain⟨P,Q⟩:=sT (by omega) (by omega) e;rcases M with c |⟨I,K⟩
   ·omega
   ·rw[H,P,Q] at K;omega
  ·rcases M with c |⟨I,K⟩
   ·exact .inl c
   ·exact .inr ⟨I,by simp only;omega⟩
 exact { h with
  B5:=by simp only;omega
  safe:=by simp only;omega
  sent:=by simp only;omega
  low:=fun _=>by simp only;omega
  idle:=fun c d=>h.idle c (by simp only at d;omega)
  VJ:= .inr ⟨o,h1,h2,rfl,fun e=>(ha e XK).2.1⟩
  VK:= .inr ⟨vR _ _,rfl,rfl⟩
  queue:= .inl ⟨rfl,rfl⟩
  act:=fun e=>by
   simp only at e;obtain⟨B,z,A⟩:=ha (sT (by omega) (by omega) e).2 XK;refine .inl ⟨A,fun _=>?_,fun m N=>by simp at N⟩;simp only;rcases aNt with c |⟨I,K⟩
   ·left;omega
   ·right;omega
  VZ:=fun y u=>by
   have u:=h.VZ y u;refine⟨u.bytes,u.len,u.ne,u.H2,fun O=>?_⟩;obtain⟨f,R,T,U,V⟩:=u.whole O;refine⟨f,R,T,fun E=>?_,fun E=>?_⟩
   ·rcases U E with c |⟨S,q,m',B,z,A,D,L⟩
    ·exact .inl c
    ·exact .inr ⟨S,q,m',B,z,(C S A).2,fun c=>absurd c (C S A).1,L⟩
   ·rcases V E with⟨F,G,j',t',B,z,A,D,L,a6,a7,a8⟩|⟨S,a,B,z,A,D⟩
    ·exact .inl ⟨F,G,j',t',B,z,A,D,L,a6,a7,fun c d e=>a8 c d (by simp only at e;omega)⟩
    ·exact .inr ⟨S,a,B,(C S z).2,fun c=>absurd c (C S z).1,D⟩}
theorem EP(h:Inv v now snaps s)(gw:v.q+1<=100000)(h0:0<=s.VJ){m:Fm}(hq:s.VK.2.2=[m])(hk:s.sent<=v.k):
  Inv { v with q:=v.q+1 } now snaps { s with VK:=(s.VJ,((v.q+1:Nat):Int),[]),safe:=max s.safe s.sent,VN:=[] }:=by
 have K:=h.B5;have L:=h.kh;have M:=h.safe
 exact { h with
  B5:=by simp only;omega
  safe:=by simp only;omega
  low:=fun _=>by simp only;omega
  VK:= .inr ⟨h0,rfl,rfl⟩
  queue:= .inl ⟨rfl,rfl⟩
  act:=fun e=>by
   rcases h.act e with⟨a1,a2,a3⟩|⟨a1,a2,a3⟩
   ·have:=(a3 m hq).lt;omega
   ·exact .inl ⟨by simp only;omega,fun _=> .inl a3,fun m B=>by simp at B⟩
  VZ:=fun y u=>by
   have u:=h.VZ y u;refine⟨u.bytes,u.len,u.ne,u.H2,fun C=>?_⟩;obtain⟨f,D,E,F,G⟩:=u.whole C;refine⟨f,D,E,fun z=>?_,fun z=>?_⟩
   ·rcases F z with c |⟨S,q,H,a1,a2,a3,A,I⟩
    ·exact .inl c
    ·exact .inr ⟨S,q,H,a1,a2,a3,fun c=> .inl (by have:=A c;simp only;omega),I⟩
   ·rcases G z with c |⟨S,a,a1,a2,a3,A⟩
    ·exact .inl c
    ·exact .inr ⟨S,a,a1,a2,fun c=> .inl (by have:=a3 c;simp only;omega),A⟩}
def Zb(v:Nm)(u:Fm)(e:Option Int):Prop:=e.isSome=true\/u.1≠3\/∃g o j x y,u=dU g o j [x,y]/\g≠v.fb
theorem Rh{u:Fm}{e:Option Int}(h:Zb v u e):(bif (Option.isNone e) then
  bif (cm .eql u.1 (3:Int)) then
   bif (cm .eql (u.2.1.length:Int) (5:Int)) then
    (Sw.idx u.2.1 (0:Int)).bind fun al=>
     some (cm .eql al (v.fb:Int))
   else
    some false
  else
   some false
  else
   some false)=some false:=by
 rcases h with c | c |⟨g,o,j,x,y,rfl,D⟩
 ·cases e with
  |none=>cases c
  |some e=>rfl
 ·have:cm .eql u.1 (3:Int)=false:=by rw[ce];exact ZW c
  rw[this];cases e<;>rfl
 ·have z:cm .eql (dU g o j [x,y]).1 (3:Int)=true:=rfl;have A:cm .eql ((dU g o j [x,y]).2.1.length:Int) (5:Int)=true:=rfl;have B:Sw.idx (dU g o j [x,y]).2.1 (0:Int)=some (g:Int):=rfl;have C:cm .eql (g:Int) (v.fb:Int)=false:=by rw[ce];exact ZW (by omega)
  rw[z,A,B,cM,C];cases e<;>rfl
theorem Ie(h:Inv v now snaps s){b:List Int}{u:Fm}{e:Option Int}(hu:fF b=some (u,e))(hn:Zb v u e)
  (hh:0<=s.VJ->rW s.VK b=some (s.VK,none)):∃s',dT b s=some (none,s')/\Inv v now snaps s'/\s'.VZ=s.VZ:=by
 have H:=h.B5;have I:=h.safe;have K:=h.kh;have L:s.VO.1=v.h:=by have:=h.ep.num;have:=h.hs;omega
 have A:=Rh hn;by_cases B:s.VJ<0
 ·refine⟨s,?_,h,rfl⟩;unfold dT cL;have z:cm .lss s.VJ (0:Int)=true:=by rw[cl];exact A5 B
  rw[hu,cM,h.ZP];simp only[];rw[A];simp only[cM,pF,z,XT];rw[<-h.ZP]
 ·obtain⟨F,G⟩:=h.ep.drop (num:=min s.safe s.VO.1) (by omega);refine⟨_,?_,h.aE4 G,rfl⟩;unfold dT cL;have z:cm .lss s.VJ (0:Int)=false:=by rw[cl];exact ZW B
  rw[hu,cM,h.ZP];simp only[];rw[A];simp only[cM,pF,z];rw[hh (by omega)];simp only[cM,ZY,pF];have C:ar .sub .i64 (s.VK.2.2.length:Int) (s.VK.2.2.length:Int)=0:=by rw[N3 (by omega)];omega
  have D:Sw.sub s.VN (0:Int) 0=some []:=by unfold Sw.sub;rw[WV (by omega)];rfl
  have E:Sw.sub s.VN (0:Int) (s.VN.length:Int)=some s.VN:=by unfold Sw.sub;rw[WV (by omega)];simp
  rw[C,D,cM];unfold lp;rw[show fO=1125899906842623+1 from rfl,Go.WT.YP (b:= .WN s.safe)]
  ·simp only[];rw[E,cM,h.efn,F,cM];rw[<-h.ZP,<-h.efn];rfl
  ·rfl
end Go.XR
namespace Go.XR
open Go Go.Sw Go.Mo Go.Pl
open Go.YR (oG xN)
open Go.WT (Good aZ fA dO dZ qM Gp Ac oH fH nA jL)
variable {v:Nm}{now:List aQ}{snaps:List (List aQ)}{s:PS}
def SS(v:Nm)(s s':PS)(q' o j:Nat):Prop:=s'.first=s.first/\(s.VJ<kN v.fb o->s'.VJ=kN v.fb o/\s'.VK.2.2=[])/\(¬s.VJ<kN v.fb o->s'=s/\q'=v.q)
theorem Ko(h:Inv v now snaps s){b:List Int}{o j:Nat}{x y:Int}(hu:fF b=some (dU v.fb o j [x,y],none))(h1:1<=o)(h2:o<=v.ob)(hj:j<=v.k)(ht:kC (snaps.getD j [])=some [x,y])
  (ha:o=v.ob->s.VJ<kN v.fb o->j=v.k/\s.first=(v.fb:Int)/\v.x=0):∃q' s',q'<=v.q/\dT b s=some (none,s')/\Inv { v with q:=q' } now snaps s'/\s'.VZ=s.VZ/\SS v s s' q' o j:=by
 have M:=h.B5;have N:=h.kh;have A:Sw.idx (dU v.fb o j [x,y]).2.1 (0:Int)=some (v.fb:Int):=rfl;have B:Sw.idx (dU v.fb o j [x,y]).2.1 (1:Int)=some (o:Int):=rfl;have H:Sw.idx (dU v.fb o j [x,y]).2.1 (2:Int)=some (j:Int):=rfl;have C:cm .eql (dU v.fb o j [x,y]).1 (3:Int)=true:=rfl;have D:cm .eql ((dU v.fb o j [x,y]).2.1.length:Int) (5:Int)=true:=rfl;have E:cm .eql (v.fb:Int) (v.fb:Int)=true:=by rw[ce];simp
 have K:Sw.sub (dU v.fb o j [x,y]).2.1 (3:Int) ((dU v.fb o j [x,y]).2.1.length:Int)=some [x,y]:=rfl;have F:=JN (g:=v.fb) (o:=o) (by omega) (by omega);by_cases u:s.VJ<kN v.fb o
 ·have z:cm .gtr (kN v.fb o) s.VJ=true:=by rw[cg];exact A5 u
  cases hp:fP s.WJ (j:Int) with
  |none=>
   have L:j<v.h:=by
    rcases M3 j v.h with c | c
    ·exact c
    ·have:j=v.h:=by omega
     rw[this,h.last] at hp;cases hp
   have G:=Rg h h1 h2 hj u ha (sent:= -1) (.inr ⟨rfl,L⟩);refine⟨0,_,by omega,?_,G,rfl,rfl,fun _=>⟨rfl,rfl⟩,fun c=>absurd u c⟩;unfold dT cL;rw[hu,cM,h.ZP];simp only[ie,XT,C,D,A,B,H,E,cM,F,z,jp,hp,ZY,vo]
  |some l=>
   have I:=h.WJ _ (Ia hp);simp only[m9] at I;rw[<-I.2.2] at ht;have G:=Rg h h1 h2 hj u ha (sent:=(j:Int)) (.inl rfl);refine⟨0,_,by omega,?_,G,rfl,rfl,fun _=>⟨rfl,rfl⟩,fun c=>absurd u c⟩;unfold dT cL;rw[hu,cM,h.ZP];simp only[ie,XT,C,D,A,B,H,E,cM,F,z,jp,hp,aCu,iz,pF,zi,ht,K,UZ]
 ·have z:cm .gtr (kN v.fb o) s.VJ=false:=by rw[cg];exact ZW u
  refine⟨v.q,s,YQ _,?_,h,rfl,rfl,fun c=>absurd c u,fun _=>⟨rfl,rfl⟩⟩;unfold dT cL;rw[hu,cM,h.ZP];simp only[ie,XT,C,D,A,B,E,cM,F,z,jp,pF];rw[<-h.ZP]
theorem Jk(h:Inv v now snaps s)(h0:0<=s.VJ):jL s.VK=0:=by
 have G:=h.B5;have H:=Lp h;rcases h.VK with⟨B,_⟩|⟨B,C,D⟩
 ·omega
 ·have A:s.VK=(s.VJ,(v.q:Int),s.VK.2.2):=by rw[<-C,<-D]
  rw[A];rcases h.queue with⟨z,E⟩|⟨m,z,E,F,I⟩
  ·rw[z];exact nA (by omega) (by omega) (by simp) (fun f u=>by simp at u)
  ·rw[z];exact nA (by omega) (by omega) (by simp) (fun f u=>by simp at u;subst u;exact F.load)
theorem CC(h:Inv v now snaps s)(gw:v.q+1<=100000){b:List Int}(hb:Bytes b)(T7:b.length<=2000){S:Int}{a:Nat}(hf:fA b=some (sU S a))
  (hs:S=s.VJ->a<=v.q\/(a=v.q+1/\s.VK.2.2≠ []/\s.sent<=v.k)):∃q' s',q'<=v.q+1/\dT b s=some (none,s')/\Inv { v with q:=q' } now snaps s'/\s'.VZ=s.VZ/\
   (0<=s.VJ->S=s.VJ->a=v.q+1->s.VK.2.2.length=1->s'.first=s.first/\s'.VJ=s.VJ/\s'.VK.2.2=[]/\s'.sent=s.sent):=by
 have ZS:=h.B5;have qk:=h.kh;have gm:=h.safe;have z:=oH b hb (by omega);rw[hf] at z;simp only at z;have G:Zb v (sU S a) none:= .inr (.inl (by unfold sU;simp));by_cases D:0<=s.VJ
 ·have u:=Ac s.VK b hb T7 (Jk h D);rw[hf] at u;unfold Gp at u;by_cases E:(sU S a).1=0/\(sU S a).2.2=[]/\(sU S a).2.1.length=2/\(sU S a).2.1.getD 0 0=s.VK.1/\s.VK.2.1<(sU S a).2.1.getD 1 0/\(sU S a).2.1.getD 1 0 - s.VK.2.1<=min (s.VK.2.2.length:Int) 4
  ·simp only[WV E] at u;obtain⟨_,_,_,H,O,P⟩:=E;have H:S=s.VK.1:=H;have R:(sU S a).2.1.getD 1 0=(a:Int):=rfl;rw[R] at O P u;rcases h.VK with⟨L,_⟩|⟨L,F,M⟩
   ·omega
   ·have T:=hs (by rw[H,F]);rw[M] at O P;have I:a=v.q+1/\s.VK.2.2≠ []/\s.sent<=v.k:=by
     rcases T with d | d
     ·omega
     ·exact d
    obtain⟨I,_,aa⟩:=I;rcases h.queue with⟨C,Q⟩|⟨m,C,Q,d3,d4⟩
    ·exact absurd C ‹_›
    ·have N:=EP h gw D C aa;have J8:s.VO.1=v.h:=by have:=h.ep.num;have:=h.hs;omega
     obtain⟨A,B⟩:=N.ep.drop (num:=min (max s.safe s.sent) s.VO.1) (by simp only;omega);refine⟨v.q+1,_,YQ _,?_,N.aE4 B,rfl,fun _ _ _ _=>⟨rfl,rfl,rfl,rfl⟩⟩;have U:(s.VK.1,(a:Int),s.VK.2.2.drop ((a:Int) - s.VK.2.1).toNat)=(s.VJ,((v.q+1:Nat):Int),([]:List Fm)):=by
      rw[F,M,C,I];have:(((v.q+1:Nat):Int) - (v.q:Int)).toNat=1:=by omega
      rw[this];rfl
     rw[U] at u;have V:=Rh G;unfold dT cL;have X:cm .lss s.VJ (0:Int)=false:=by rw[cl];exact ZW (by omega)
     rw[z,cM,h.ZP];simp only[];rw[V];simp only[cM,pF,X];rw[u];simp only[cM,ZY,pF];rw[C,Q];have ZM:ar .sub .i64 (([m]:List Fm).length:Int) (([]:List Fm).length:Int)=1:=by rw[N3 (by simp)];simp
     have hz:Sw.sub [s.sent] (0:Int) 1=some [s.sent]:=rfl;have E3:Sw.sub [s.sent] (1:Int) (([s.sent]:List Int).length:Int)=some []:=rfl;rw[ZM,hz,cM];unfold lp;rw[show fO=1125899906842622+1+1 from rfl,Go.WT.ZL (y:=((1:Int),max s.safe s.sent)),Go.WT.YP (b:= .WN (max s.safe s.sent))]
     ·simp only[];rw[E3,cM,h.efn,A,cM];rw[<-h.ZP,<-h.efn];rfl
     ·rfl
     ·rfl
  ·simp only[WM E] at u;obtain⟨s',A,B,K⟩:=Ie h z G (fun _=>u);refine⟨v.q,s',by omega,A,B,K,fun _ c d e=>absurd ?_ E⟩;rcases h.VK with⟨L,_⟩|⟨L,F,M⟩
   ·omega
   ·refine⟨rfl,rfl,rfl,?_,?_,?_⟩
    ·show S=s.VK.1;rw[F,c]
    ·show s.VK.2.1<(a:Int);omega
    ·show (a:Int) - s.VK.2.1<=_;omega
 ·obtain⟨s',A,B,K⟩:=Ie h z G (fun c=>absurd c D);exact⟨v.q,s',by omega,A,B,K,fun c=>absurd c D⟩
theorem Zc(h:Inv v now snaps s)(gw:v.q+1<=100000){y:Bool×Bool×List Int}(hy:u5 v snaps s y)(hd:y.1=false):
  ∃q' s',q'<=v.q+1/\dT y.2.2 s=some (none,s')/\Inv { v with q:=q' } now snaps s'/\s'.VZ=s.VZ:=by
 have ZS:=h.B5;have qk:=h.kh;have ZN:=h.hs;have K3:=h.n1;have iw:=h.n0;have E:=hy.len;have B:=oH y.2.2 hy.bytes (by omega);by_cases K:y.2.1=true
 ·have D:=fun G=>Ac s.VK y.2.2 hy.bytes E (Jk h G);rw[hy.H2 K] at B D;obtain⟨s',C,u,A⟩:=Ie h B (.inl rfl) D;exact⟨v.q,s',by omega,C,u,A⟩
 ·obtain⟨f,Q,R,_,T⟩:=hy.whole (by simpa using K);have F:fA y.2.2=some f:=by rw[R];exact fH Q
  rcases T hd with⟨g,o,j,t,rfl,V,N,O,X,a6,I,a8⟩|⟨S,a,rfl,V,N,O⟩
  ·have L:snaps.getD j []∈snaps:=by
    rw[P3,E8 (by omega)];exact fp _
   have dw:(snaps.getD j []).length=v.n:=h.ep.len _ L;obtain⟨x,z,U,_,_⟩:=Yz (bs:=snaps.getD j []) (by omega) (by omega) (h.bok _ L);have P:t=[x,z]:=by rw[U] at I;exact(pT I).symm
   subst P;rw[F] at B;simp only at B;by_cases M:g=v.fb
   ·subst M;obtain⟨q',s',C,u,A,H,_⟩:=Ko h B O X a6 I (a8 rfl);exact⟨q',s',by omega,u,A,H⟩
   ·obtain⟨s',C,u,A⟩:=Ie h B (.inr (.inr ⟨g,o,j,x,z,rfl,M⟩)) (fun G=>by
     have D:=Ac s.VK y.2.2 hy.bytes E (Jk h G);rw[F] at D;rw[D];unfold Gp;simp only[]
     rw[WM (fun c=>by have:=c.1;simp[dU] at this)])
    exact⟨v.q,s',by omega,C,u,A⟩
  ·obtain⟨q',s',C,u,A,H,_⟩:=CC h gw hy.bytes E F N;exact⟨q',s',C,u,A,H⟩
end Go.XR
namespace Go.XR
open Go Go.Sw Go.Mo Go.Pl
open Go.YR (oG xN)
variable {v:Nm}{now:List aQ}{snaps:List (List aQ)}{s:PS}
theorem JR(g:Bool)(b:List Int)(s:PS):iL (true,g,b) s=dP b s:=by
 unfold iL dV dP;rw[XT];cases cD b s.n s.fn s.XA s.WQ s.blocks s.VO s.WJ s.VJ s.VK s.sent s.safe s.VN s.on s.XD s.WA s.first s.receiver s.VZ s.m4 s.fd s.ZR s.od<;>rfl
theorem JS(g:Bool)(b:List Int)(s:PS):iL (false,g,b) s=dT b s:=by
 unfold iL dV dT;rw[pF];cases cL b s.n s.fn s.XA s.WQ s.blocks s.VO s.WJ s.VJ s.VK s.sent s.safe s.VN s.on s.XD s.WA s.first s.receiver s.VZ s.m4 s.fd s.ZR s.od<;>rfl
def wt(l:List (Bool×Bool×List Int)):Nat:=(l.map fun y=>bif y.1 then 2 else 1).sum
theorem Zd(a b:List (Bool×Bool×List Int)):wt (a++b)=wt a+wt b:=by unfold wt;rw[aCr,List.sum_append]
theorem NS(l:List (Bool×Bool×List Int))(y:Bool×List Int):wt (mB l (false,y))<=wt l+1:=by
 unfold mB;split
 ·rw[Zd];simp[wt]
 ·omega
theorem SU(l:List (Bool×Bool×List Int)):wt l<=2*l.length:=by
 induction l with
 |nil=>simp[wt]
 |cons a l h=>
  have:wt (a::l)=(bif a.1 then 2 else 1)+wt l:=by unfold wt;simp
  rw[this,C8];cases a.1<;>simp<;>omega
theorem NT(h:Inv v now snaps s)(gw:v.q+1<=100000)(ee:v.x+1<=100000){y:Bool×Bool×List Int}(hy:u5 v snaps s y):
  ∃k' q' x' s',v.k<=k'/\q'<=v.q+1/\x'<=v.x+1/\iL y s=some (none,s')/\Inv { v with k:=k',q:=q',x:=x' } now snaps s'/\wt s'.VZ<wt s.VZ+(bif y.1 then 2 else 1):=by
 by_cases A:y.1=true
 ·obtain⟨k',x',s',E,C,u,D,B⟩:=Wm h ee hy A;refine⟨k',v.q,x',s',E,by omega,C,?_,D,?_⟩
  rotate_left
  ·rw[A,XT];rcases B with B |⟨z,B⟩
   ·rw[B];omega
   ·rw[B];have:=NS s.VZ z;omega
  unfold dP at u;unfold iL dV;rw[A,XT];cases hz:cD y.2.2 s.n s.fn s.XA s.WQ s.blocks s.VO s.WJ s.VJ s.VK s.sent s.safe s.VN s.on s.XD s.WA s.first s.receiver s.VZ s.m4 s.fd s.ZR s.od with
  |none=>rw[hz] at u;cases u
  |some z=>rw[hz] at u;exact u
 ·have A:y.1=false:=by simpa using A
  obtain⟨q',s',C,u,D,B⟩:=Zc h gw hy A;refine⟨v.k,q',v.x,s',YQ _,C,by omega,?_,D,by rw[A,pF,B];omega⟩;unfold dT at u;unfold iL dV;rw[A,pF];cases hz:cL y.2.2 s.n s.fn s.XA s.WQ s.blocks s.VO s.WJ s.VJ s.VK s.sent s.safe s.VN s.on s.XD s.WA s.first s.receiver s.VZ s.m4 s.fd s.ZR s.od with
  |none=>rw[hz] at u;cases u
  |some z=>rw[hz] at u;exact u
theorem Nw(h:Inv v now snaps s)(gw:v.q+1<=100000)(ee:v.x+1<=100000){a:Int}(ha:Sz a):
  ∃k' q' x' s',v.k<=k'/\q'<=v.q+1/\x'<=v.x+1/\cU a s=some (none,s')/\Inv { v with k:=k',q:=q',x:=x' } now snaps s'/\(s.VZ≠ []->wt s'.VZ<wt s.VZ):=by
 rcases Dl h ha with⟨Q,u⟩|⟨i,C,u,R,T⟩
 ·refine⟨v.k,v.q,v.x,s,YQ _,by omega,by omega,?_,h,fun c=>absurd Q c⟩;unfold jQ at u;unfold cU cS;cases hq:cB a s.n s.fn s.XA s.WQ s.blocks s.VO s.WJ s.VJ s.VK s.sent s.safe s.VN s.on s.XD s.WA s.first s.receiver s.VZ s.m4 s.fd s.ZR s.od with
  |none=>rw[hq] at u;cases u
  |some q=>
   rw[hq] at u;simp only[cM,u3,M4] at u;simp only[cM,u.2.1,vo,XT]
 ·have S:=h.H3;have D:=tA (E8 C);have E:=h.VZ _ (fp C);generalize hy:s.VZ[i]=y at D E
  have F:=h.N4 (l:=s.VZ.take i++s.VZ.drop (i+1)) (by simp;omega) (fun x A=>by
   rcases K5.1 A with A | A
   ·exact h.VZ x (aCp A)
   ·exact h.VZ x (aDr A))
  obtain⟨k',q',x',s',L,M,N,B,O,P⟩:=NT F gw ee (y:=y) (E.same rfl rfl rfl rfl rfl);refine⟨k',q',x',s',L,M,N,?_,O,fun _=>Nat.lt_of_lt_of_eq P ?_⟩
  rotate_left
  ·have e:=U4 i s.VZ;rw[aCy C,hy] at e;have G:=congrArg wt e;have H:wt (y::s.VZ.drop (i+1))=(bif y.1 then 2 else 1)+wt (s.VZ.drop (i+1)):=by unfold wt;simp
   rw[Zd,H] at G;simp only[Zd];omega
  unfold iL at B;unfold cU cS;rw[R,cM];simp only[iz,pF,D,cM];rw[Ji (by omega),cM];have I:ar .add .i64 (i:Int) (1:Int)=((i+1:Nat):Int):=r7 (by omega);have K:cC s.VZ (i:Int) ((i+1:Nat):Int)=some (s.VZ.take i++s.VZ.drop (i+1)):=Ta s.VZ i C;rw[I,K,cM];cases hz:dV y s.n s.fn s.XA s.WQ s.blocks s.VO s.WJ s.VJ s.VK s.sent s.safe s.VN s.on s.XD s.WA s.first s.receiver (s.VZ.take i++s.VZ.drop (i+1)) s.m4 s.fd s.ZR s.od with
  |none=>rw[hz] at B;cases B
  |some z=>rw[hz] at B;exact B
theorem wV(h:Inv v now snaps s){y:Bool×Bool×List Int}{r:List (Bool×Bool×List Int)}(hn:s.VZ=y::r):cU 0 s=iL y { s with VZ:=r }:=by
 have H:=h.H3;rcases Dl h (a:=0) (by unfold Sz;omega) with⟨u,D⟩|⟨i,E,D,F,G⟩
 ·rw[hn] at u;cases u
 ·obtain rfl:=G rfl;unfold cU cS;rw[F,cM];have z:Sw.idx s.VZ ((0:Nat):Int)=some y:=by rw[hn];rfl
  simp only[iz,pF,z,cM];rw[Ji (by omega),cM];have A:ar .add .i64 ((0:Nat):Int) (1:Int)=((0+1:Nat):Int):=r7 (by omega);have B:cC s.VZ ((0:Nat):Int) ((0+1:Nat):Int)=some (s.VZ.take 0++s.VZ.drop (0+1)):=Ta s.VZ 0 E;have C:s.VZ.take 0++s.VZ.drop (0+1)=r:=by rw[hn];rfl
  rw[A,B,cM,C];unfold iL;simp only[];cases dV y s.n s.fn s.XA s.WQ s.blocks s.VO s.WJ s.VJ s.VK s.sent s.safe s.VN s.on s.XD s.WA s.first s.receiver r s.m4 s.fd s.ZR s.od<;>rfl
theorem Te(h:Inv v now snaps s)(r:Int×aQ×Int×Int×Int×List aQ):rE r s=some ((r.1,r.2.1,(v.h:Int),s.safe,(v.k:Int),snaps.getD v.k []),none,s):=by
 have B:=h.kh;have C:=h.hs;have z:snaps.getD v.k []∈snaps:=by
  rw[P3,E8 (by omega)];exact fp _
 have A:(snaps.getD v.k []).length=v.n:=h.ep.len _ z;have u:=xN h.H9;rw[A,<-h.ox] at u;unfold rE dW;rw[u,h.enum,h.L9];simp only[cM]
end Go.XR
namespace Go.XR
open Go Go.Sw Go.Mo Go.Pl
variable {v v':Nm}{now O0:List aQ}{snaps ZG:List (List aQ)}{s s':PS}
def fns(i:Nat)(d:Int×Int×Int×aQ)(s:PS):=wF i d s.n s.fn s.XA s.WQ s.blocks s.VO s.WJ s.VJ s.VK s.sent s.safe s.VN s.on s.XD s.WA s.first s.receiver s.VZ s.m4 s.fd s.ZR s.od
theorem JT(i:Fin 11):uE ((i.1:Nat):Int)=some i.1:=by revert i;decide+kernel
theorem qO{d:Int×Int×Int×aQ}{i:Nat}{YV:aQ}{e:Option Int}(h':Inv v' O0 ZG s')(hi:i<11)(hd:d.1=(i:Int))(hf:fns i d s=some (YV,e,WL s')):
  mZ d s=some ((e.getD 0,YV,(v'.h:Int),s'.safe,(v'.k:Int),ZG.getD v'.k []),none,s'):=by
 have u:=Te h' (e.getD 0,YV,0,0,0,[]);have A:=JT ⟨i,hi⟩;simp only at A;have B:cm .lss d.1 (0:Int)=false:=by rw[cl];exact ZW (by omega)
 have C:cm .geq d.1 (11:Int)=false:=by rw[K0];exact ZW (by omega)
 unfold fns at hf;unfold rE at u;unfold mZ iC;rw[B,C];simp only[pF,cM,jp];rw[hd,A,cM,hf,cM];cases hz:dW (e.getD 0,YV,0,0,0,[]) s'.n s'.fn s'.XA s'.WQ s'.blocks s'.VO s'.WJ s'.VJ s'.VK s'.sent s'.safe s'.VN s'.on s'.XD s'.WA s'.first s'.receiver s'.VZ s'.m4 s'.fd s'.ZR s'.od with
 |none=>rw[hz] at u;cases u
 |some z=>
  rw[hz] at u;simp only[cM,u3,M4] at u;obtain⟨D,E⟩:=z;obtain⟨rfl,rfl,_⟩:=u;cases e with
  |none=>
   simp only[aEx] at hz;simp only[WL,ZY,pF,cM,hz,aEx]
  |some c=>
   simp only[zi] at hz;simp only[WL,aCu,XT,iz,pF,cM,zi,hz]
theorem NU{d:Int×Int×Int×aQ}(h:Inv v now snaps s)(hd:d.1<0\/11<=d.1):
  mZ d s=some ((3,aS,(v.h:Int),s.safe,(v.k:Int),snaps.getD v.k []),none,s):=by
 have u:=Te h (3,aS,0,0,0,[]);have A:(bif (cm .lss d.1 (0:Int)) then some true else some (cm .geq d.1 (11:Int)))=some true:=by
  rw[cl,K0];by_cases c:d.1<0
  ·rw[A5 c];rfl
  ·rw[ZW c,A5 (by omega)];rfl
 unfold rE at u;unfold mZ iC;rw[A];simp only[cM,jp,XT];cases hz:dW (3,aS,0,0,0,[]) s.n s.fn s.XA s.WQ s.blocks s.VO s.WJ s.VJ s.VK s.sent s.safe s.VN s.on s.XD s.WA s.first s.receiver s.VZ s.m4 s.fd s.ZR s.od with
 |none=>rw[hz] at u;cases u
 |some z=>
  rw[hz] at u;simp only[cM,u3,M4] at u;obtain⟨B,C⟩:=z;obtain⟨rfl,rfl,_⟩:=u;rfl
theorem CD{d:Int×Int×Int×aQ}{e:Option Int}(h:lM d.2.1 d.2.2.2 s=some (e,s')):fns 0 d s=some (aS,e,WL s'):=by
 unfold lM at h;unfold fns wF nN;cases hz:eX d.2.1 d.2.2.2 s.n s.fn s.XA s.WQ s.blocks s.VO s.WJ s.VJ s.VK s.sent s.safe s.VN s.on s.XD s.WA s.first s.receiver s.VZ s.m4 s.fd s.ZR s.od with
 |none=>rw[hz] at h;cases h
 |some z=>rw[hz] at h;simp only[cM,u3,M4] at h;obtain⟨u,rfl⟩:=h;rw[<-u];rfl
theorem Wn{d:Int×Int×Int×aQ}{e:Option Int}(h:lM d.2.1 aS s=some (e,s')):fns 1 d s=some (aS,e,WL s'):=by
 unfold lM at h;unfold fns wF nO;cases hz:eX d.2.1 aS s.n s.fn s.XA s.WQ s.blocks s.VO s.WJ s.VJ s.VK s.sent s.safe s.VN s.on s.XD s.WA s.first s.receiver s.VZ s.m4 s.fd s.ZR s.od with
 |none=>rw[hz] at h;cases h
 |some z=>rw[hz] at h;simp only[cM,u3,M4] at h;obtain⟨u,rfl⟩:=h;rw[<-u];rfl
theorem Wo{d:Int×Int×Int×aQ}{e:Option Int}(h:qN s=some (e,s')):fns 3 d s=some (aS,e,WL s'):=by
 unfold qN at h;unfold fns wF nQ;cases hz:fV s.n s.fn s.XA s.WQ s.blocks s.VO s.WJ s.VJ s.VK s.sent s.safe s.VN s.on s.XD s.WA s.first s.receiver s.VZ s.m4 s.fd s.ZR s.od with
 |none=>rw[hz] at h;cases h
 |some z=>rw[hz] at h;simp only[cM,u3,M4] at h;obtain⟨u,rfl⟩:=h;rw[<-u];rfl
theorem JU{d:Int×Int×Int×aQ}{e:Option Int}(h:fR s=some (e,s')):fns 4 d s=some (aS,e,WL s'):=by
 unfold fR at h;unfold fns wF nR;cases hz:dC s.n s.fn s.XA s.WQ s.blocks s.VO s.WJ s.VJ s.VK s.sent s.safe s.VN s.on s.XD s.WA s.first s.receiver s.VZ s.m4 s.fd s.ZR s.od with
 |none=>rw[hz] at h;cases h
 |some z=>rw[hz] at h;simp only[cM,u3,M4] at h;obtain⟨u,rfl⟩:=h;rw[<-u];rfl
theorem Wp{d:Int×Int×Int×aQ}{e:Option Int}(h:cU d.2.1 s=some (e,s')):fns 5 d s=some (aS,e,WL s'):=by
 unfold cU at h;unfold fns wF nS;cases hz:cS d.2.1 s.n s.fn s.XA s.WQ s.blocks s.VO s.WJ s.VJ s.VK s.sent s.safe s.VN s.on s.XD s.WA s.first s.receiver s.VZ s.m4 s.fd s.ZR s.od with
 |none=>rw[hz] at h;cases h
 |some z=>rw[hz] at h;simp only[cM,u3,M4] at h;obtain⟨u,rfl⟩:=h;rw[<-u];rfl
theorem JV{d:Int×Int×Int×aQ}{e:Option Int}(h:rD d.2.1 s=some (e,s')):fns 6 d s=some (aS,e,WL s'):=by
 unfold rD at h;unfold fns wF nT;cases hz:gA d.2.1 s.n s.fn s.XA s.WQ s.blocks s.VO s.WJ s.VJ s.VK s.sent s.safe s.VN s.on s.XD s.WA s.first s.receiver s.VZ s.m4 s.fd s.ZR s.od with
 |none=>rw[hz] at h;cases h
 |some z=>rw[hz] at h;simp only[cM,u3,M4] at h;obtain⟨u,rfl⟩:=h;rw[<-u];rfl
theorem Ze{d:Int×Int×Int×aQ}{e:Option Int}(h:lN d.2.1 s=some (e,s')):fns 7 d s=some (aS,e,WL s'):=by
 unfold lN at h;unfold fns wF nU;cases hz:eQ d.2.1 s.n s.fn s.XA s.WQ s.blocks s.VO s.WJ s.VJ s.VK s.sent s.safe s.VN s.on s.XD s.WA s.first s.receiver s.VZ s.m4 s.fd s.ZR s.od with
 |none=>rw[hz] at h;cases h
 |some z=>rw[hz] at h;simp only[cM,u3,M4] at h;obtain⟨u,rfl⟩:=h;rw[<-u];rfl
theorem Zf{d:Int×Int×Int×aQ}{e:Option Int}(h:lO d s=some (e,s')):fns 10 d s=some (aS,e,WL s'):=by
 unfold lO at h;unfold fns wF mW;cases hz:eR d s.n s.fn s.XA s.WQ s.blocks s.VO s.WJ s.VJ s.VK s.sent s.safe s.VN s.on s.XD s.WA s.first s.receiver s.VZ s.m4 s.fd s.ZR s.od with
 |none=>rw[hz] at h;cases h
 |some z=>rw[hz] at h;simp only[cM,u3,M4] at h;obtain⟨u,rfl⟩:=h;rw[<-u];rfl
theorem Wq{d:Int×Int×Int×aQ}{b:aQ}{e:Option Int}(h:oJ d.2.1 s=some (b,e,s)):fns 2 d s=some (b,e,WL s):=by
 unfold oJ at h;unfold fns wF nP;cases hz:fZ d.2.1 s.n s.fn s.XA s.WQ s.blocks s.VO s.WJ s.VJ s.VK s.sent s.safe s.VN s.on s.XD s.WA s.first s.receiver s.VZ s.m4 s.fd s.ZR s.od with
 |none=>rw[hz] at h;cases h
 |some z=>rw[hz] at h;simp only[cM,u3,M4] at h;obtain⟨u,A,_⟩:=h;rw[<-u,<-A];rfl
end Go.XR
namespace Go.XR
open Go Go.Sw Go.Mo Go.Pl
variable {v:Nm}{now:List aQ}{snaps:List (List aQ)}{s:PS}
theorem JX(bs:List aQ)(h:bs.length<=1000000):jP bs=some bs:=by
 unfold jP;rw[VM _ _ (by simp;omega)];rfl
structure aJ3 (v v':Nm):Prop where
 n:v'.n=v.n
 h:v.h<=v'.h/\v'.h<=v.h+1
 k:v.k<=v'.k
 fb:v'.fb<=v.fb+1
 ob:v'.ob<=v.ob+1
 q:v'.q<=v.q+1
 x:v'.x<=v.x+1
def Ku(v:Nm)(now:List aQ)(snaps:List (List aQ))(s:PS)(d:Int×Int×Int×aQ):Prop:=
 ∃(v':Nm) (O0:List aQ) (ZG:List (List aQ)) (s':PS) (pX:Int) (YV:aQ),iR now snaps d=some (pX,YV,O0,ZG)/\
  mZ d s=some ((pX,YV,(v'.h:Int),s'.safe,(v'.k:Int),ZG.getD v'.k []),none,s')/\Inv v' O0 ZG s'/\aJ3 v v'
theorem oM(v:Nm):aJ3 v v:=⟨rfl,⟨YQ _,by omega⟩,YQ _,by omega,by omega,by omega,by omega⟩
theorem JY(h:Inv v now snaps s){a k:Int}{b:aQ}(hb:yT b):Ku v now snaps s (0,a,k,b):=by
 have C:=h.ep.X1;by_cases u:0<=a/\a<v.n
 ·obtain⟨F,G,B⟩:=JI h u hb;refine⟨v,_,snaps,F,0,aS,?_,qO B (by omega) rfl (CD (d:=(0,a,k,b)) G),B,oM v⟩;obtain⟨z,H,_⟩:=yP (l:=now) (n:=a) u.1 (by rw[C];exact u.2);have D:cm .lss a (0:Int)=false:=by rw[cl];exact ZW (by omega)
  have E:cm .geq a (now.length:Int)=false:=by rw[K0];exact ZW (by omega)
  show ((bif cm .lss a (0:Int) then some true else some (cm .geq a (now.length:Int))).bind fun A=>bif A then some ((1:Int),aS,now,snaps) else (Sw.idx now a).bind fun _=>some ((0:Int),aS,(List.set now (Int.toNat a) b),snaps))=_;rw[D,E];simp only[pF,cM,H]
 ·refine⟨v,now,snaps,s,1,aS,?_,qO h (by omega) rfl (CD (d:=(0,a,k,b)) (BY h (show a<0\/a>=v.n by omega))),h,oM v⟩;have c:(bif cm .lss a (0:Int) then some true else some (cm .geq a (now.length:Int)))=some true:=by
   rw[cl,K0];by_cases c:a<0
   ·rw[A5 c];rfl
   ·rw[ZW c,A5 (by omega)];rfl
  show ((bif cm .lss a (0:Int) then some true else some (cm .geq a (now.length:Int))).bind fun A=>bif A then some ((1:Int),aS,now,snaps) else (Sw.idx now a).bind fun _=>some ((0:Int),aS,(List.set now (Int.toNat a) b),snaps))=_;rw[c];rfl
theorem ER(h:Inv v now snaps s){a k:Int}{b:aQ}:Ku v now snaps s (1,a,k,b):=by
 have C:=h.ep.X1;by_cases u:0<=a/\a<v.n
 ·obtain⟨F,G,B⟩:=JI h u BX;refine⟨v,_,snaps,F,0,aS,?_,qO B (by omega) rfl (Wn (d:=(1,a,k,b)) G),B,oM v⟩;obtain⟨z,H,_⟩:=yP (l:=now) (n:=a) u.1 (by rw[C];exact u.2);have D:cm .lss a (0:Int)=false:=by rw[cl];exact ZW (by omega)
  have E:cm .geq a (now.length:Int)=false:=by rw[K0];exact ZW (by omega)
  show ((bif cm .lss a (0:Int) then some true else some (cm .geq a (now.length:Int))).bind fun A=>bif A then some ((1:Int),aS,now,snaps) else (Sw.idx now a).bind fun _=>some ((0:Int),aS,(List.set now (Int.toNat a) aS),snaps))=_;rw[D,E];simp only[pF,cM,H]
 ·refine⟨v,now,snaps,s,1,aS,?_,qO h (by omega) rfl (Wn (d:=(1,a,k,b)) (BY h (show a<0\/a>=v.n by omega))),h,oM v⟩;have c:(bif cm .lss a (0:Int) then some true else some (cm .geq a (now.length:Int)))=some true:=by
   rw[cl,K0];by_cases c:a<0
   ·rw[A5 c];rfl
   ·rw[ZW c,A5 (by omega)];rfl
  show ((bif cm .lss a (0:Int) then some true else some (cm .geq a (now.length:Int))).bind fun A=>bif A then some ((1:Int),aS,now,snaps) else (Sw.idx now a).bind fun _=>some ((0:Int),aS,(List.set now (Int.toNat a) aS),snaps))=_;rw[c];rfl
theorem ES(h:Inv v now snaps s){a k:Int}{b:aQ}:Ku v now snaps s (2,a,k,b):=by
 have C:=h.ep.X1;by_cases u:0<=a/\a<v.n
 ·refine⟨v,now,snaps,s,0,now.getD a.toNat [],?_,qO h (by omega) rfl (Wq (d:=(2,a,k,b)) (NP h u)),h,oM v⟩;obtain⟨z,F,G⟩:=yP (l:=now) (n:=a) u.1 (by rw[C];exact u.2);have D:cm .lss a (0:Int)=false:=by rw[cl];exact ZW (by omega)
  have E:cm .geq a (now.length:Int)=false:=by rw[K0];exact ZW (by omega)
  show ((bif cm .lss a (0:Int) then some true else some (cm .geq a (now.length:Int))).bind fun A=>bif A then some ((1:Int),aS,now,snaps) else (Sw.idx now a).bind fun B=>some ((0:Int),B,now,snaps))=_;rw[D,E];simp only[pF,cM,F];rw[P3,G];rfl
 ·refine⟨v,now,snaps,s,1,aS,?_,qO h (by omega) rfl (Wq (d:=(2,a,k,b)) (JJ h (show a<0\/a>=v.n by omega))),h,oM v⟩;have c:(bif cm .lss a (0:Int) then some true else some (cm .geq a (now.length:Int)))=some true:=by
   rw[cl,K0];by_cases c:a<0
   ·rw[A5 c];rfl
   ·rw[ZW c,A5 (by omega)];rfl
  show ((bif cm .lss a (0:Int) then some true else some (cm .geq a (now.length:Int))).bind fun A=>bif A then some ((1:Int),aS,now,snaps) else (Sw.idx now a).bind fun B=>some ((0:Int),B,now,snaps))=_;rw[c];rfl
theorem Tf(h:Inv v now snaps s)(hb:v.h+1<=100000){a k:Int}{b:aQ}:Ku v now snaps s (3,a,k,b):=by
 have D:=h.n1;have E:=h.hs;obtain⟨B,C,u⟩:=Za h hb;refine⟨_,now,_,B,0,aS,?_,qO u (by omega) rfl (Wo (d:=(3,a,k,b)) C),u,⟨rfl,by simp only;omega,YQ _,by simp only;omega,by simp only;omega,by simp only;omega,by simp only;omega⟩⟩;show ((jP now).bind fun z=>(Sw.app snaps ([z]:(List (List aQ)))).bind fun A=>some ((0:Int),aS,now,A))=_;rw[JX _ (by have:=h.ep.X1;omega),cM,VM _ _ (by simp;omega)];rfl
theorem EU(h:Inv v now snaps s){a k:Int}{b:aQ}:Ku v now snaps s (4,a,k,b):=by
 obtain⟨z,A,u,_⟩:=CA h;exact⟨v,now,snaps,z,0,aS,rfl,qO u (by omega) rfl (JU (d:=(4,a,k,b)) A),u,oM v⟩
theorem Tg(h:Inv v now snaps s)(gw:v.q+1<=100000)(ee:v.x+1<=100000){a k:Int}{b:aQ}(ha:Sz a):Ku v now snaps s (5,a,k,b):=by
 obtain⟨E,F,G,z,A,B,C,D,u,_⟩:=Nw h gw ee ha;exact⟨_,now,snaps,z,0,aS,rfl,qO u (by omega) rfl (Wp (d:=(5,a,k,b)) D),u,⟨rfl,by simp only;omega,A,by simp only;omega,by simp only;omega,B,C⟩⟩
theorem EV(h:Inv v now snaps s){a k:Int}{b:aQ}(ha:Sz a):Ku v now snaps s (6,a,k,b):=by
 obtain⟨z,A,u⟩:=NQ h ha;exact⟨v,now,snaps,z,0,aS,rfl,qO u (by omega) rfl (JV (d:=(6,a,k,b)) A),u,oM v⟩
theorem Ws(h:Inv v now snaps s){a k:Int}{b:aQ}(ha:Sz a):Ku v now snaps s (7,a,k,b):=by
 obtain⟨z,A,u⟩:=EG h ha;exact⟨v,now,snaps,z,0,aS,rfl,qO u (by omega) rfl (Ze (d:=(7,a,k,b)) A),u,oM v⟩
theorem Wt(h:Inv v now snaps s)(hb:v.fb+1<=3000){a k:Int}{b:aQ}:Ku v now snaps s (8,a,k,b):=by
 have H:=h.B5;have I:=h.hs;have K:=h.n1;obtain⟨F,G,_,u⟩:=EJ h hb (8,a,k,b);refine⟨_,_,snaps,F,0,aS,?_,qO (i:=8) u (by omega) rfl G,u,⟨rfl,by simp only;omega,YQ _,YQ _,by simp only;omega,by simp only;omega,by simp only;omega⟩⟩;have z:snaps.getD v.h []∈snaps:=by
  rw[P3,E8 (by omega)];exact fp _
 show ((fI (now,snaps)).bind fun C=>(Sw.idx snaps C).bind fun D=>(jP D).bind fun E=>some ((0:Int),aS,E,snaps))=_;have A:fI (now,snaps)=some (v.h:Int):=by
  unfold fI;rw[N3 (by simp only;omega)];simp only;congr 1;omega
 have B:Sw.idx snaps (v.h:Int)=some (snaps.getD v.h []):=tA (by rw[P3,E8 (by omega)];rfl);rw[A,cM,B,cM,JX _ (by have:=h.ep.len _ z;omega)];rfl
theorem Wu(h:Inv v now snaps s)(hb:v.ob+1<=3000){a k:Int}{b:aQ}:Ku v now snaps s (9,a,k,b):=by
 obtain⟨z,A,_,u⟩:=EK h hb (9,a,k,b);exact⟨_,now,snaps,z,0,aS,rfl,qO (i:=9) u (by omega) rfl A,u,⟨rfl,by simp only;omega,YQ _,by simp only;omega,YQ _,by simp only;omega,by simp only;omega⟩⟩
theorem Wv(h:Inv v now snaps s){a k:Int}{b:aQ}(ha:Sz a)(hk:Sz k)(hb:yT b):Ku v now snaps s (10,a,k,b):=by
 obtain⟨z,A,u⟩:=EI h (d:=(10,a,k,b)) ha hk hb;exact⟨v,now,snaps,z,0,aS,rfl,qO u (by omega) rfl (Zf (d:=(10,a,k,b)) A),u,oM v⟩
theorem SV(h:Inv v now snaps s)(hb:v.h+1<=100000/\v.fb+1<=3000/\v.ob+1<=3000/\v.q+1<=100000/\v.x+1<=100000){d:Int×Int×Int×aQ}(h1:Sz d.2.1)(h2:Sz d.2.2.1)(h3:yT d.2.2.2):Ku v now snaps s d:=by
 obtain⟨c,a,k,b⟩:=d;simp only at h1 h2 h3;by_cases z:c<0\/11<=c
 ·refine⟨v,now,snaps,s,3,aS,?_,NU h z,h,oM v⟩;have A:(bif (cm .lss c (0:Int)) then some true else some (cm .geq c (11:Int)))=some true:=by
   rw[cl,K0];by_cases u:c<0
   ·rw[A5 u];rfl
   ·rw[ZW u,A5 (by omega)];rfl
  unfold iR;rw[A];rfl
 ·have B:c=0\/c=1\/c=2\/c=3\/c=4\/c=5\/c=6\/c=7\/c=8\/c=9\/c=10:=by omega
  rcases B with rfl | rfl | rfl | rfl | rfl | rfl | rfl | rfl | rfl | rfl | rfl
  ·exact JY h h3
  ·exact ER h
  ·exact ES h
  ·exact Tf h hb.1
  ·exact EU h
  ·exact Tg h hb.2.2.2.1 hb.2.2.2.2 h1
  ·exact EV h h1
  ·exact Ws h h1
  ·exact Wt h hb.2.1
  ·exact Wu h hb.2.2.1
  ·exact Wv h h1 h2 h3
end Go.XR
namespace Go.XR
open Go Go.Sw Go.Mo Go.Pl
abbrev Bo:=Int×Int×Int×aQ
abbrev Ig:=Int×aQ×Int×Int×Int×List aQ
def Th(d:Bo):Prop:=Sz d.2.1/\Sz d.2.2.1/\yT d.2.2.2
inductive bt:Nm->List aQ->List (List aQ)->PS->List Bo->List Ig->Nm->List aQ->List (List aQ)->PS->Prop where
 |nil {v now snaps s} (h:Inv v now snaps s):bt v now snaps s [] [] v now snaps s
 |cons {v now snaps s v' O0 ZG s' v2 l9 WW s2} {d:Bo} {ds:List Bo} {rs:List Ig} {pX:Int} {YV:aQ} (h:Inv v now snaps s) (hc:iR now snaps d=some (pX,YV,O0,ZG))
   (hd:mZ d s=some ((pX,YV,(v'.h:Int),s'.safe,(v'.k:Int),ZG.getD v'.k []),none,s')) (h':Inv v' O0 ZG s') (g:aJ3 v v') (t:bt v' O0 ZG s' ds rs v2 l9 WW s2):
   bt v now snaps s (d::ds) ((pX,YV,(v'.h:Int),s'.safe,(v'.k:Int),ZG.getD v'.k [])::rs) v2 l9 WW s2
theorem CE:∀(ds:List Bo) {v:Nm} {now:List aQ} {snaps:List (List aQ)} {s:PS},Inv v now snaps s->(∀d∈ds,Th d)->v.h+ds.length<=100000->v.fb+ds.length<=3000->v.ob+ds.length<=3000->v.q+ds.length<=100000->v.x+ds.length<=100000->
  ∃rs v2 l9 WW s2,bt v now snaps s ds rs v2 l9 WW s2/\rs.length=ds.length/\Inv v2 l9 WW s2
 | [],v,now,snaps,s,h,_,_,_,_,_,_=>⟨[],v,now,snaps,s,.nil h,rfl,h⟩
 |d::ds,v,now,snaps,s,h,A,L,M,N,O,P=>by
  simp only[C8] at L M N O P;obtain⟨C,D,E⟩:=A d (Z8 ..);obtain⟨V,X,ZG,s',pX,YV,F,G,z,u⟩:=SV h (by omega) C D E;have Q:=u.h;have R:=u.fb;have S:=u.ob;have T:=u.q;have U:=u.x;obtain⟨rs,v2,l9,WW,s2,H,I,K⟩:=CE ds z (fun x B=>A x (Z6 _ B)) (by omega) (by omega) (by omega) (by omega) (by omega);exact⟨_,v2,l9,WW,s2,.cons h F G z u H,by simp[I],K⟩
theorem Zg{n:Nat}(h0:1<=n)(h1:n<=32){ds:List Bo}(hl:ds.length<=300)(hd:∀d∈ds,Th d):
  ∃s0 rs v2 l9 WW s2,iK (n:Int)=some (some (WL s0),none)/\Inv ⟨n,0,1,1,0,0,0⟩ (List.replicate n aS) [List.replicate n aS] s0/\
   bt ⟨n,0,1,1,0,0,0⟩ (List.replicate n aS) [List.replicate n aS] s0 ds rs v2 l9 WW s2/\rs.length=ds.length/\Inv v2 l9 WW s2:=by
 obtain⟨u,z,A,B,C⟩:=JD h0 h1;have h:=EF h0 h1 A B;obtain⟨rs,v2,l9,WW,s2,D,E,F⟩:=CE ds h hd (by simp only;omega) (by simp only;omega) (by simp only;omega) (by simp only;omega) (by simp only;omega);exact⟨Jh n u z,rs,v2,l9,WW,s2,C,h,D,E,F⟩
def OV(i:Int)(s:PS)(rs:List Ig):=(i,s.n,s.fn,s.XA,s.WQ,s.VO,s.VJ,s.VK,s.sent,s.safe,s.on,s.XD,s.WA,s.first,s.receiver,rs,s.m4,s.fd,s.blocks,s.WJ,s.VN,s.ZR,s.od,s.VZ)
theorem KA{δ:Type}{step:_->Option (Step _ δ)}{l:List Bo}{fin:PS->List Ig->δ}
  (hs:∀(i:Nat) (d:Bo) (s s':PS) (acc:List Ig) (r:Ig),l[i]? =some d->i<=1000->acc.length<=1000->mZ d s=some (r,none,s')->step (OV (i:Int) s acc)=some (.next (OV ((i+1:Nat):Int) s' (acc++[r]))))
  (he:∀(s:PS) (acc:List Ig),step (OV (l.length:Int) s acc)=some (.done (fin s acc))) (hl:l.length<=1000):
  ∀{v now snaps s ds rs v2 l9 WW s2},bt v now snaps s ds rs v2 l9 WW s2->∀(pre:List Bo) (acc:List Ig) (f:Nat),l=pre++ds->acc.length=pre.length->ds.length<f->
   loop step f (OV (pre.length:Int) s acc)=some (fin s2 (acc++rs)):=by
 intro v now snaps s ds rs v2 l9 WW s2 t
 induction t with
 |nil h=>
  intro pre acc f u B z;obtain⟨f,rfl⟩:∃g,f=g+1:=⟨f - 1,by simp at z;omega⟩
  have:pre=l:=by simpa using u.symm
  rw[this,Go.WT.YP (he _ _),Z4]
 |cons h F C G g t D=>
  rename_i d ds rs pX YV;intro pre acc f u B z;simp only[C8] at z;obtain⟨f,rfl⟩:∃g,f=g+1:=⟨f - 1,by omega⟩
  have E:l.length=pre.length+ds.length+1:=by rw[u];simp;omega
  rw[Go.WT.ZL (hs pre.length d _ _ acc _ (by rw[u];simp) (by omega) (by omega) C)];have A:=fun r:Ig=>D (pre++[d]) (acc++[r]) f (by rw[u];simp) (by simp[B]) (by omega);simp only[sM,aCw,C9,aDk] at A ⊢;exact A _
end Go.XR
namespace Go.XR
open Go Go.Sw Go.Mo Go.Pl
theorem QI{n:Nat}(h0:1<=n)(h1:n<=32){ds:List Bo}(hl:ds.length<=300){s0:PS}(YF:iK (n:Int)=some (some (WL s0),none)){v now snaps rs v2 l9 WW s2}(t:bt v now snaps s0 ds rs v2 l9 WW s2):
  iQ (n:Int) ds=some (some (WL s2),rs,none):=by
 have A:cm .lss (n:Int) (1:Int)=false:=by rw[cl];exact ZW (by omega)
 have B:cm .gtr (n:Int) (32:Int)=false:=by rw[cg];exact ZW (by omega)
 have C:cm .gtr (ds.length:Int) (300:Int)=false:=by rw[cg];exact ZW (by omega)
 unfold iQ;rw[A,B,C];simp only[pF,cM];rw[YF,cM];simp only[uT,ZY,pF];unfold lp
 rw[show (((0:Int),(WL s0).1,(WL s0).2.1,(WL s0).2.2.1,(WL s0).2.2.2.1,(WL s0).2.2.2.2.2.1,(WL s0).2.2.2.2.2.2.2.1,(WL s0).2.2.2.2.2.2.2.2.1,(WL s0).2.2.2.2.2.2.2.2.2.1,(WL s0).2.2.2.2.2.2.2.2.2.2.1,(WL s0).2.2.2.2.2.2.2.2.2.2.2.2.1,(WL s0).2.2.2.2.2.2.2.2.2.2.2.2.2.1,(WL s0).2.2.2.2.2.2.2.2.2.2.2.2.2.2.1,(WL s0).2.2.2.2.2.2.2.2.2.2.2.2.2.2.2.1,(WL s0).2.2.2.2.2.2.2.2.2.2.2.2.2.2.2.2.1,([]:(List (Int×aQ×Int×Int×Int×(List aQ)))),(WL s0).2.2.2.2.2.2.2.2.2.2.2.2.2.2.2.2.2.2.1,(WL s0).2.2.2.2.2.2.2.2.2.2.2.2.2.2.2.2.2.2.2.1,(WL s0).2.2.2.2.1,(WL s0).2.2.2.2.2.2.1,(WL s0).2.2.2.2.2.2.2.2.2.2.2.1,(WL s0).2.2.2.2.2.2.2.2.2.2.2.2.2.2.2.2.2.2.2.2.1,(WL s0).2.2.2.2.2.2.2.2.2.2.2.2.2.2.2.2.2.2.2.2.2,(WL s0).2.2.2.2.2.2.2.2.2.2.2.2.2.2.2.2.2.1))=OV ((([]:List Bo).length:Nat):Int) s0 [] from rfl,
  KA (l:=ds) (fin:=fun s rs=>Ex.WN (OV 0 s rs).2) ?_ ?_ (by omega) t [] [] fO rfl rfl (by unfold fO;omega)]
 ·rfl
 ·intro i d s H acc r u I K h;unfold mZ at h;have G:i<ds.length:=(aCa.1 u).1;have D:cm .lss (i:Int) (ds.length:Int)=true:=by rw[cl];exact A5 (by omega)
  simp only[OV];rw[D,XT,tA u,cM];cases hz:iC d s.n s.fn s.XA s.WQ s.blocks s.VO s.WJ s.VJ s.VK s.sent s.safe s.VN s.on s.XD s.WA s.first s.receiver s.VZ s.m4 s.fd s.ZR s.od with
  |none=>rw[hz] at h;cases h
  |some z=>
   rw[hz] at h;simp only[cM,u3,M4] at h;obtain⟨rfl,F,rfl⟩:=h;rw[cM];simp only[F,ZY,pF];rw[VM _ _ (by simp;omega),cM,r7 (by omega)]
 ·intro s acc;have E:cm .lss (ds.length:Int) (ds.length:Int)=false:=by rw[cl];exact ZW (by omega)
  simp only[OV];rw[E,pF]
theorem Zh{n:Nat}(h1:n<=32):kT (n:Int)=some (some (List.replicate n aS,[List.replicate n aS])):=by
 have h:Sw.mk (n:Int) aS=some (List.replicate n aS):=by
  unfold Sw.mk;rw[WV (by omega)];simp
 unfold kT;rw[h,cM,cM,VM _ _ (by simp)];rfl
end Go.XR
namespace Go.XR
open Go Go.Sw Go.Mo Go.Pl
open Go.WT (Good aZ fA dO dZ qM oH fH pP)
variable {v:Nm}{now:List aQ}{snaps:List (List aQ)}{s:PS}
inductive n6:PS->PS->Nat->Prop
 |nil {s:PS} (h:s.VZ=[]):n6 s s 0
 |cons {s s1 s2:PS} {n:Nat} (h:s.VZ≠ []) (hd:cU 0 s=some (none,s1)) (t:n6 s1 s2 n):n6 s s2 (n+1)
structure Alike (v v':Nm):Prop where
 n:v'.n=v.n
 h:v'.h=v.h
 fb:v'.fb=v.fb
 ob:v'.ob=v.ob
theorem QJ{l:List (Bool×Bool×List Int)}(h:l≠ []):1<=wt l:=by
 cases l with
 |nil=>exact absurd rfl h
 |cons a l=>
  have:wt (a::l)=(bif a.1 then 2 else 1)+wt l:=by unfold wt;simp
  rw[this];cases a.1<;>simp<;>omega
theorem Ww:∀(w:Nat) {v:Nm} {s:PS},Inv v now snaps s->wt s.VZ<=w->v.q+w<=100000->v.x+w<=100000->
  ∃v' s' n,n6 s s' n/\n<=w/\Inv v' now snaps s'/\s'.VZ=[]/\Alike v v'/\v'.q<=v.q+w/\v'.x<=v.x+w
 |w,v,s,h,R,S,T=>by
  by_cases z:s.VZ=[]
  ·exact⟨v,s,0,.nil z,by omega,h,z,⟨rfl,rfl,rfl,rfl⟩,by omega,by omega⟩
  ·have:=QJ z;obtain⟨w,rfl⟩:∃u,w=u+1:=⟨w - 1,by omega⟩
   obtain⟨K,L,M,s1,N,O,P,C,D,B⟩:=Nw h (by omega) (by omega) (a:=0) (by unfold Sz;omega);have B:=B z;obtain⟨v',s',n,E,Q,F,G,A,H,I⟩:=Ww w D (by omega) (by simp only;omega) (by simp only;omega);simp only at H I;exact⟨v',s',n+1,.cons z C E,by omega,F,G,⟨A.n,A.h,A.fb,A.ob⟩,by omega,by omega⟩
theorem Gq(h:Inv v now snaps s){d:Bool}{f:Fm}{r:List (Bool×Bool×List Int)}(g:Good f)(hn:s.VZ=(d,false,aZ f)::r):(d=true->Dk v snaps s f)/\(d=false->Eu v snaps s f):=by
 have u:=h.VZ (d,false,aZ f) (by rw[hn];exact Z8);obtain⟨z,A,B,C,D⟩:=u.whole rfl;have e:z=f:=by
  have:=congrArg fA B;simp only at this;rw[fH A,fH g] at this;exact(pT this).symm
 subst e;exact⟨C,D⟩
theorem Fs{f:Fm}(g:Good f):fF (aZ f)=some (f,none):=by
 have h:=oH (aZ f) (pP g) (by have:=(ZK g).2;omega);rw[fH g] at h;exact h
theorem Ih(h:Inv v now snaps s){y:Bool×Bool×List Int}{r:List (Bool×Bool×List Int)}(hn:s.VZ=y::r):Inv v now snaps { s with VZ:=r }:=
 h.N4 (by have:=h.H3;rw[hn] at this;simp only[C8] at this;omega) (fun x u=>h.VZ x (by rw[hn];exact Z6 _ u))
theorem Kq{l:List (Bool×Bool×List Int)}{y}(h:l.length<64):mB l y=l++[y]:=by unfold mB;rw[WV h]
theorem Zi(h:Inv v now snaps s)(hf:s.first=v.fb):s.receiver=(kN v.fb v.ob,(v.x:Int)):=by
 rcases h.first with⟨u,_⟩|⟨g,u,A,B,z⟩
 ·omega
 ·have:g=v.fb:=by omega
  rw[z,this]
theorem Zj(h:Inv v now snaps s):s.VJ<=kN v.fb v.ob:=by
 have:=vR v.fb v.ob;rcases h.VJ with c |⟨o,z,A,u,_⟩
 ·omega
 ·rw[u];unfold kN;omega
theorem Nx(h:Inv v now snaps s){r:List (Bool×Bool×List Int)}(hr:r.length<=10)(hn:s.VZ=(true,false,aZ (jS v.fb))::r):
  ∃x' s',cU 0 s=some (none,s')/\Inv { v with x:=x' } now snaps s'/\x'<=v.x/\s'.first=v.fb/\s'.VJ=s.VJ/\s'.VK=s.VK/\s'.sent=s.sent/\
   ∃x y,Good (dU v.fb v.ob v.k [x,y])/\s'.VZ=r++[(false,false,aZ (dU v.fb v.ob v.k [x,y]))]:=by
 have P:=h.B5;have Q:=h.kh;have R:=h.hs;have S:=h.n1;have T:=h.n0;obtain⟨V,A⟩:=Nu (g:=v.fb) (by omega);obtain⟨x',s',B,C,D,_,E⟩:=Rf (Ih h hn) h.pos.1 (YQ _) (Fs A);obtain⟨F,G,H,I,X,c6,x,y,K,L⟩:=E rfl;have z:snaps.getD v.k []∈snaps:=by
  rw[P3,E8 (by omega)];exact fp _
 have U:(snaps.getD v.k []).length=v.n:=h.ep.len _ z;obtain⟨x2,y2,u,M,N⟩:=Yz (bs:=snaps.getD v.k []) (by omega) (by omega) (h.bok _ z);rw[K] at u;simp only[u3,aCz,aEi] at u;obtain⟨rfl,rfl⟩:=u;obtain⟨wf,O⟩:=Ic (g:=v.fb) (o:=v.ob) (j:=v.k) (t:=[x,y]) (by omega) (by omega) (by omega) rfl M N;refine⟨x',s',by rw[wV h hn,JR];exact C,D,B,F,G,H,I,x,y,O,?_⟩;rw[L,Kq (by simp only;omega)]
theorem M1{S:Int}{a:Nat}(hS:0<=S/\S<=2147483647)(ha:a<=2147483647):Good (sU S a):=by
 refine⟨by unfold sU;simp,by unfold sU;simp,by unfold sU;simp,by unfold sU;simp,fun n h=>?_,fun b u=>by simp[sU] at u⟩;simp only[sU,o6,aCl,aEl] at h;rcases h with rfl | rfl<;>omega
theorem EW(h:Inv v now snaps s)(ee:v.x+1<=100000)(hS:0<=s.VJ){m:Fm}(hq:s.VK.2.2=[m])(hm:D9 m){r:List (Bool×Bool×List Int)}(hr:r.length<=10)(hf:s.first=v.fb)
  (hn:s.VZ=(true,false,aZ (WO s.VJ v.q m))::r):
  ∃k' x' s',cU 0 s=some (none,s')/\Inv { v with k:=k',x:=x' } now snaps s'/\x'<=v.x+1/\s'.first=v.fb/\s'.VJ=s.VJ/\s'.VK=s.VK/\s'.sent=s.sent/\
   ((s.VJ=kN v.fb v.ob/\s'.VZ=r++[(false,false,aZ (sU s.VJ (v.q+1)))])\/(s.VJ≠kN v.fb v.ob/\s'.VZ=r)):=by
 have ZS:=h.B5;have F:=Lp h;have u:=C4 hm (S:=s.VJ) (q:=v.q) ⟨hS,F⟩ (by omega);have G:=(Gq h u hn).1 rfl;rcases G with⟨g,_,_,c⟩|⟨S,q,m',e,a2,X,a4,a5⟩
 ·simp[WO,jS] at c
 ·have aa:=u;simp only[WO,M4,cz,U7,aCz,zd] at e;obtain⟨⟨I,A,C,D⟩,E⟩:=e;have A:v.q=q:=by omega
  obtain rfl:m=m':=by
   obtain⟨x,y,z⟩:=m;obtain⟨x',y',z'⟩:=m';simp only at C D E;subst C D E;rfl
  subst I A;have H:=fH u;obtain⟨k',x',s',b1,K,L,M,_,N,O⟩:=Wl (Ih h hn) ee (pP u) (by have:=(ZK u).2;omega) H hm X a4 a5;have B:=Zi h hf;refine⟨k',x',s',by rw[wV h hn,JR];exact L,M,K,?_⟩;by_cases c:s.VJ=kN v.fb v.ob
  ·obtain⟨_,P,Q,R,T,_,U⟩:=O (by simp only;omega) (by simp only;rw[B,c]) rfl rfl;refine⟨by rw[P];exact hf,Q,R,T,.inl ⟨c,?_⟩⟩;rw[U,Kq (by simp only;omega)]
  ·obtain⟨V,_,_⟩:=N (by simp only;rw[B];exact c);subst V;exact⟨hf,rfl,rfl,rfl,.inr ⟨c,rfl⟩⟩
theorem Bp(h:Inv v now snaps s){j:Nat}{x y:Int}{r:List (Bool×Bool×List Int)}(hg:Good (dU v.fb v.ob j [x,y]))(hn:s.VZ=(false,false,aZ (dU v.fb v.ob j [x,y]))::r):
  ∃q' s',cU 0 s=some (none,s')/\Inv { v with q:=q' } now snaps s'/\q'<=v.q/\s'.first=s.first/\s'.VZ=r/\
   ((s.VJ<kN v.fb v.ob/\s'.VJ=kN v.fb v.ob/\s'.VK.2.2=[])\/(s.VJ=kN v.fb v.ob/\q'=v.q/\s'.VJ=s.VJ/\s'.VK=s.VK/\s'.sent=s.sent)):=by
 have Q:=h.B5;have R:=Zj h;rcases (Gq h hg hn).2 rfl with⟨g,o,j',t,e,T,U,V,X,O,P,B⟩|⟨S,a,e,_⟩
 ·simp only[dU,M4,cz,U7,aCz,zd,aEi] at e;obtain⟨u,z,A,D⟩:=e;have u:v.fb=g:=by omega
  have z:v.ob=o:=by omega
  have A:j=j':=by omega
  subst A D;rw[<-u,<-z] at B;have C:=B rfl rfl;obtain⟨q',s',E,F,G,H,I,K,L⟩:=Ko (Ih h hn) (Fs hg) h.pos.2 (YQ _) O P (fun _=>C);refine⟨q',s',by rw[wV h hn,JS];exact F,G,E,I,H,?_⟩;by_cases c:s.VJ<kN v.fb v.ob
  ·exact .inl ⟨c,K c⟩
  ·obtain⟨M,N⟩:=L c;subst M;exact .inr ⟨by omega,N,rfl,rfl,rfl⟩
 ·simp[dU,sU] at e
theorem KB(h:Inv v now snaps s)(gw:v.q+1<=100000)(hS:0<=s.VJ){m:Fm}(hq:s.VK.2.2=[m]){r:List (Bool×Bool×List Int)}(hn:s.VZ=(false,false,aZ (sU s.VJ (v.q+1)))::r):
  ∃q' s',cU 0 s=some (none,s')/\Inv { v with q:=q' } now snaps s'/\q'<=v.q+1/\s'.first=s.first/\s'.VZ=r/\s'.VJ=s.VJ/\s'.VK.2.2=[]/\s'.sent=s.sent:=by
 have N:=h.B5;have A:=Lp h;have u:=M1 (S:=s.VJ) (a:=v.q+1) ⟨hS,A⟩ (by omega);rcases (Gq h u hn).2 rfl with⟨g,o,O,t,e,_⟩|⟨S,a,e,P,M,Q⟩
 ·simp[dU,sU] at e
 ·simp only[sU,M4,aCz,zd,aEi] at e;obtain⟨B,z⟩:=e;have z:v.q+1=a:=by omega
  subst B z;obtain⟨q',s',C,D,E,F,G⟩:=CC (Ih h hn) gw (pP u) (by have:=(ZK u).2;omega) (fH u) M;obtain⟨H,I,K,L⟩:=G hS rfl rfl (by simp only;rw[hq];rfl);exact⟨q',s',by rw[wV h hn,JS];exact D,E,C,H,F,I,K,L⟩
theorem Wx(h:Inv v now snaps s)(hn:s.VZ=[])(hq:v.q+1<=100000)(hx:v.x+1<=100000):
  ∃s1 v' s' n,fR s=some (none,s1)/\n6 s1 s' n/\n<=4/\Inv v' now snaps s'/\s'.VZ=[]/\Alike v v'/\v'.q<=v.q+1/\v'.x<=v.x+1/\
   s'.VJ=kN v.fb v.ob/\s'.VK.2.2=[]/\(s.VJ=kN v.fb v.ob->s.VK.2.2=[]->s'.sent=v.h):=by
 have aa:=vR v.fb v.ob;obtain⟨s1,L,i1,f1,g1,c⟩:=CA h;have p1:∀y,mB ([]:List (Bool×Bool×List Int)) y=[y]:=fun y=>rfl;have p2:∀x y,mB [x] y=([x,y]:List (Bool×Bool×List Int)):=fun x y=>rfl;have one:s1.VZ=[(true,false,aZ (jS v.fb))]->((s.VJ<0)\/(0<=s.VJ/\s1.VK.2.2=[]/\s1.sent=v.h))->
   ∃v' s' n,n6 s1 s' n/\n<=4/\Inv v' now snaps s'/\s'.VZ=[]/\Alike v v'/\v'.q<=v.q+1/\v'.x<=v.x+1/\s'.VJ=kN v.fb v.ob/\s'.VK.2.2=[]/\(s.VJ=kN v.fb v.ob->s.VK.2.2=[]->s'.sent=v.h):=by
  intro K3 hc;obtain⟨U,V,M,X,d3,d4,d5,N,d7,x,y,O,u⟩:=Nx i1 (r:=[]) (by simp) K3;rw[U7] at u;obtain⟨q',s3,P,Q,b3,b4,D,G⟩:=Bp (v:={ v with x:=U }) X (r:=[]) O u;simp only at b3 G;refine⟨_,s3,2,.cons (by rw[K3];simp) M (.cons (by rw[u];simp) P (.nil D)),by omega,Q,D,⟨rfl,rfl,rfl,rfl⟩,by simp only;omega,by simp only;omega,?_⟩;rw[d5,g1] at G;rcases G with⟨z,A,z3⟩|⟨z,A,z3,z4,z5⟩
  ·exact⟨A,z3,fun c=>by omega⟩
  ·rcases hc with c |⟨C,B,I⟩
   ·omega
   ·exact⟨by rw[z3,z],by rw[z4,N,B],fun _ _=>by rw[z5,d7,I]⟩
 rcases c with⟨C,B⟩|⟨C,B,I,R⟩|⟨C,m,B,I,R,S⟩
 ·rw[hn,p1] at B;obtain⟨v',s',n,r⟩:=one B (.inl C);exact⟨s1,v',s',n,L,r⟩
 ·rw[hn,p1] at R;obtain⟨v',s',n,r⟩:=one R (.inr ⟨C,B,I⟩);exact⟨s1,v',s',n,L,r⟩
 ·rw[hn,p1,p2] at S;obtain⟨U,V,M,X,d3,d4,d5,N,d7,x,y,O,u⟩:=Nx i1 (r:=[_]) (by simp) S;rw[aDk] at u;have K:V.VJ=s.VJ:=by rw[d5,g1]
  rw[<-K] at u;obtain⟨k',x2,s3,P,Q,b3,b4,D,G,b7,b8⟩:=EW (v:={ v with x:=U }) X (by simp only;omega) (by rw[K];exact C) (m:=m) (by rw[N,B]) I (r:=[_]) (by simp) d4 u;simp only at b3 b4 b8;rcases b8 with⟨z,A⟩|⟨z,A⟩
  ·rw[aDk] at A;obtain⟨q',s4,w1,w2,w3,w4,E,H⟩:=Bp (v:={ v with k:=k',x:=x2 }) Q (j:=v.k) (x:=x) (y:=y) (r:=[_]) O A;simp only at w3 H;rcases H with⟨F,_⟩|⟨F,y2,y3,y4,y5⟩
   ·rw[D,z] at F;omega
   ·have T:s4.VJ=V.VJ:=by rw[y3,D]
    rw[<-T,<-y2] at E;obtain⟨q3,s5,t1,t2,t3,t4,t5,t6,t7,t8⟩:=KB (v:={ v with k:=k',q:=q',x:=x2 }) w2 (by simp only;omega) (by rw[T,K];exact C) (m:=m) (by rw[y4,G,N,B]) (r:=[]) E;simp only at t3;refine⟨s1,_,s5,4,L,.cons (by rw[S];simp) M (.cons (by rw[u];simp) P (.cons (by rw[A];simp) w1 (.cons (by rw[E];simp) t1 (.nil t5)))),YQ _,t2,t5,⟨rfl,rfl,rfl,rfl⟩,by simp only;omega,by simp only;omega,by rw[t6,T,z],t7,fun _ e=>?_⟩;rw[t8,y5,b7,d7];exact R e
  ·obtain⟨q',s4,w1,w2,w3,w4,E,H⟩:=Bp (v:={ v with k:=k',x:=x2 }) Q (j:=v.k) (x:=x) (y:=y) (r:=[]) O A;simp only at w3 H;rcases H with⟨F,y2,y3⟩|⟨F,_⟩
   ·refine⟨s1,_,s4,3,L,.cons (by rw[S];simp) M (.cons (by rw[u];simp) P (.cons (by rw[A];simp) w1 (.nil E))),by omega,w2,E,⟨rfl,rfl,rfl,rfl⟩,by simp only;omega,by simp only;omega,y2,y3,fun e=>?_⟩;rw[K,e] at z;exact absurd rfl z
   ·rw[D] at F;exact absurd F z
theorem EX(h:Inv v now snaps s)(hq:s.VK.2.2=[])(hs:s.sent=v.h):s.safe=v.h:=by
 have u:=h.low hq;have z:=h.safe;have A:=h.kh;omega
end Go.XR
namespace Go.XR
open Go Go.Sw Go.Mo Go.Pl
variable {v:Nm}{now:List aQ}{snaps:List (List aQ)}{s:PS}
abbrev EY:=(Int×(List (Int×aQ))×(List (Int×(List (Int×aQ))))×Bool)×Int×(Int×Int×(List (Int×(List Int)×(List aQ))))×Int×Int×Int×Int×(Int×Int)×(List Int)×Int×((List aQ)×(List (Int×aQ))×Int)×(List (Bool×Bool×(List Int)))
def kX(s:PS):EY:=(s.VO,s.VJ,s.VK,s.sent,s.safe,s.XD,s.first,s.receiver,s.VN,s.ZR,s.od,s.VZ)
def oO(z:PS)(t:EY):PS:={ z with VO:=t.1,VJ:=t.2.1,VK:=t.2.2.1,sent:=t.2.2.2.1,safe:=t.2.2.2.2.1,XD:=t.2.2.2.2.2.1,first:=t.2.2.2.2.2.2.1,receiver:=t.2.2.2.2.2.2.2.1,VN:=t.2.2.2.2.2.2.2.2.1,ZR:=t.2.2.2.2.2.2.2.2.2.1,od:=t.2.2.2.2.2.2.2.2.2.2.1,VZ:=t.2.2.2.2.2.2.2.2.2.2.2 }
theorem yU{z s s':PS}(hz:s=oO z (kX s))(hd:cU 0 s=some (none,s')):s'=oO z (kX s')/\
  cS 0 z.n z.fn z.XA z.WQ z.blocks s.VO z.WJ s.VJ s.VK s.sent s.safe s.VN z.on s.XD z.WA s.first s.receiver s.VZ z.m4 z.fd s.ZR s.od=
   some (none,s'.VO,s'.VJ,s'.VK,s'.sent,s'.safe,s'.VN,s'.XD,s'.first,s'.receiver,s'.VZ,s'.ZR,s'.od):=by
 generalize kX s=t at hz;subst hz;unfold cU at hd;cases hm:cS 0 (oO z t).n (oO z t).fn (oO z t).XA (oO z t).WQ (oO z t).blocks (oO z t).VO (oO z t).WJ (oO z t).VJ (oO z t).VK (oO z t).sent (oO z t).safe (oO z t).VN (oO z t).on (oO z t).XD (oO z t).WA (oO z t).first (oO z t).receiver (oO z t).VZ (oO z t).m4 (oO z t).fd (oO z t).ZR (oO z t).od with
 |none=>rw[hm] at hd;cases hd
 |some r=>
  obtain⟨h,u⟩:=r;rw[hm] at hd;simp only[cM,u3,M4] at hd;obtain⟨rfl,rfl⟩:=hd;exact⟨rfl,hm⟩
theorem Ny{z s s':PS}(hz:s=oO z (kX s))(hd:fR s=some (none,s')):s'=oO z (kX s')/\s'.VO=s.VO/\s'.VJ=s.VJ/\s'.safe=s.safe/\s'.XD=s.XD/\s'.first=s.first/\s'.receiver=s.receiver/\s'.ZR=s.ZR/\s'.od=s.od/\
  dC z.n z.fn z.XA z.WQ z.blocks s.VO z.WJ s.VJ s.VK s.sent s.safe s.VN z.on s.XD z.WA s.first s.receiver s.VZ z.m4 z.fd s.ZR s.od=
   some (none,s'.VK,s'.sent,s'.VN,s'.VZ):=by
 generalize kX s=t at hz;subst hz;unfold fR at hd;cases hm:dC (oO z t).n (oO z t).fn (oO z t).XA (oO z t).WQ (oO z t).blocks (oO z t).VO (oO z t).WJ (oO z t).VJ (oO z t).VK (oO z t).sent (oO z t).safe (oO z t).VN (oO z t).on (oO z t).XD (oO z t).WA (oO z t).first (oO z t).receiver (oO z t).VZ (oO z t).m4 (oO z t).fd (oO z t).ZR (oO z t).od with
 |none=>rw[hm] at hd;cases hd
 |some r=>
  obtain⟨h,u⟩:=r;rw[hm] at hd;simp only[cM,u3,M4] at hd;obtain⟨rfl,rfl⟩:=hd;exact⟨rfl,rfl,rfl,rfl,rfl,rfl,rfl,rfl,rfl,hm⟩
theorem KC{z s:PS}(hz:s=oO z (kX s))(h:Inv v now snaps s)(r:Int×aQ×Int×Int×Int×List aQ):
  dW r z.n z.fn z.XA z.WQ z.blocks s.VO z.WJ s.VJ s.VK s.sent s.safe s.VN z.on s.XD z.WA s.first s.receiver s.VZ z.m4 z.fd s.ZR s.od=some ((r.1,r.2.1,(v.h:Int),s.safe,(v.k:Int),snaps.getD v.k []),none):=by
 have u:=Te h r;generalize kX s=t at hz;subst hz;unfold rE at u;cases hm:dW r (oO z t).n (oO z t).fn (oO z t).XA (oO z t).WQ (oO z t).blocks (oO z t).VO (oO z t).WJ (oO z t).VJ (oO z t).VK (oO z t).sent (oO z t).safe (oO z t).VN (oO z t).on (oO z t).XD (oO z t).WA (oO z t).first (oO z t).receiver (oO z t).VZ (oO z t).m4 (oO z t).fd (oO z t).ZR (oO z t).od with
 |none=>rw[hm] at u;cases u
 |some r=>
  obtain⟨A,B⟩:=r;rw[hm] at u;simp only[cM,u3,M4] at u;obtain⟨rfl,rfl,_⟩:=u;exact hm
theorem Zk{δ:Type}{z:PS}{step:EY->Option (Step EY δ)}{fin:EY->δ}
  (hs:∀s s',s=oO z (kX s)->s.VZ≠ []->cU 0 s=some (none,s')->step (kX s)=some (.next (kX s'))) (he:∀s,s.VZ=[]->step (kX s)=some (.done (fin (kX s)))):
  ∀{s s' n},n6 s s' n->s=oO z (kX s)->∀f,n<f->loop step f (kX s)=some (fin (kX s'))/\s'=oO z (kX s'):=by
 intro s s' n t
 induction t with
 |nil h=>
  intro u f B;obtain⟨f,rfl⟩:∃g,f=g+1:=⟨f - 1,by omega⟩
  exact⟨Go.WT.YP (he _ h),u⟩
 |cons h A t C=>
  intro u f B;obtain⟨f,rfl⟩:∃g,f=g+1:=⟨f - 1,by omega⟩
  rw[Go.WT.ZL (hs _ _ u h A)];exact C (yU u A).1 f (by omega)
theorem Bq{z s s':PS}{n:Nat}(t:n6 s s' n):s=oO z (kX s)->s'=oO z (kX s'):=by
 induction t with
 |nil h=>exact id
 |cons h A t B=>exact fun u=>B (yU u A).1
theorem Wy{δ:Type}{z:PS}{step:Int×EY->Option (Step (Int×EY) δ)}{fin:Nat->PS->δ}
  (hs:∀(tk:Nat) (s s' s1:PS) (n:Nat),tk<=3->s=oO z (kX s)->n6 s s' n->n<=200->s'.safe≠z.XA->fR s'=some (none,s1)->step ((tk:Int),kX s)=some (.next (((tk+1:Nat):Int),kX s1)))
  (he:∀(tk:Nat) (s s':PS) (n:Nat) (v':Nm),Inv v' now snaps s'->tk<=3->s=oO z (kX s)->n6 s s' n->n<=200->s'.safe=z.XA->step ((tk:Int),kX s)=some (.done (fin tk s')))
  (h:Inv v now snaps z) (hq:v.q+200<=100000) (hx:v.x+200<=100000):
  ∃tk v' s',tk<=3/\Inv v' now snaps s'/\v'.h=v.h/\s'.safe=v.h/\loop step fO ((0:Int),kX z)=some (fin tk s'):=by
 have ad:=h.enum;have hw:=SU z.VZ;have S9:=h.H3;obtain⟨N,s1,O,D,d2,E,d4,A,d6,d7⟩:=Ww 128 h (by omega) (by omega) (by omega);have z0:z=oO z (kX z):=rfl;have V:=Bq D z0;by_cases L:s1.safe=z.XA
 ·exact⟨0,N,s1,by omega,E,A.h,by omega,Go.WT.YP (f:=1125899906842623) (he 0 z s1 O N E (by omega) z0 D (by omega) L)⟩
 ·obtain⟨u,P,B,Q,R,F,e3,G,e5,H,e7,e8,e9,aa,af⟩:=Wx E d4 (by omega) (by omega);have C:=(Ny V R).1;have X:=Bq F C;have g1:=A.h;have g2:=A.fb;have g3:=A.ob;have g4:=H.h;have g5:=H.fb;have g6:=H.ob;have p1:loop step fO ((0:Int),kX z)=loop step 1125899906842623 (((0+1:Nat):Int),kX u):=Go.WT.ZL (f:=1125899906842623) (hs 0 z s1 u O (by omega) z0 D (by omega) L R);by_cases M:B.safe=z.XA
  ·exact⟨1,P,B,by omega,G,by omega,by omega,p1.trans (Go.WT.YP (f:=1125899906842622) (he 1 u B Q P G (by omega) C F (by omega) M))⟩
  ·obtain⟨I,S,T,n3,U,f2,f3,K,f5,f6,f7,f8,f9,ab,ac⟩:=Wx G e5 (by omega) (by omega);have y2:=(Ny X U).1;have g7:=f6.h;have gm:=EX K ab (by rw[ac (by rw[e9,g5,g6,g2,g3]) aa];omega);have p2:loop step 1125899906842623 (((0+1:Nat):Int),kX u)=loop step 1125899906842622 (((1+1:Nat):Int),kX I):=Go.WT.ZL (f:=1125899906842622) (hs 1 u B I Q (by omega) C F (by omega) M U);exact⟨2,S,T,by omega,K,by omega,by omega,p1.trans (p2.trans (Go.WT.YP (f:=1125899906842621) (he 2 I T n3 S K (by omega) y2 f2 (by omega) (by omega))))⟩
theorem Wz{γ:Type}{z:PS}{step:EY->Option (Step EY (Ex EY γ))}{k:EY->Option γ}
  (hs:∀s s',s=oO z (kX s)->s.VZ≠ []->cU 0 s=some (none,s')->step (kX s)=some (.next (kX s'))) (he:∀s,s.VZ=[]->step (kX s)=some (.done (.WN (kX s))))
  {s s':PS} {n:Nat} (t:n6 s s' n) (hz:s=oO z (kX s)) (hn:n<=200):lp step (kX s) k=k (kX s'):=by
 unfold lp;rw[(Zk (fin:=Ex.WN) hs he t hz fO (by unfold fO;omega)).1]
theorem EZ{γ:Type}{z:PS}{step:Int×EY->Option (Step (Int×EY) (Ex Unit γ))}{fin:Nat->PS->γ}{k:Unit->Option γ}(G:Nat->γ)
  (hs:∀(tk:Nat) (s s' s1:PS) (n:Nat),tk<=3->s=oO z (kX s)->n6 s s' n->n<=200->s'.safe≠z.XA->fR s'=some (none,s1)->step ((tk:Int),kX s)=some (.next (((tk+1:Nat):Int),kX s1)))
  (he:∀(tk:Nat) (s s':PS) (n:Nat) (v':Nm),Inv v' now snaps s'->tk<=3->s=oO z (kX s)->n6 s s' n->n<=200->s'.safe=z.XA->step ((tk:Int),kX s)=some (.done (.ret (fin tk s'))))
  (h:Inv v now snaps z) (hq:v.q+200<=100000) (hx:v.x+200<=100000)
  (hG:∀(tk:Nat) (v':Nm) (s':PS),Inv v' now snaps s'->v'.h=v.h->s'.safe=v.h->fin tk s'=G tk):∃tk:Nat,tk<=3/\lp step ((0:Int),kX z) k=some (G tk):=by
 obtain⟨tk,v',s',u,A,B,C,D⟩:=Wy (fin:=fun tk s'=>Ex.ret (fin tk s')) hs he h hq hx;refine⟨tk,u,?_⟩;unfold lp;rw[D,<-hG tk v' s' A B C]
theorem FA{v now snaps s ds rs v2 l9 WW s2}(t:bt v now snaps s ds rs v2 l9 WW s2):v2.q<=v.q+ds.length/\v2.x<=v.x+ds.length:=by
 induction t with
 |nil h=>simp
 |cons h u z A g t B=>
  have:=g.q;have:=g.x;simp only[C8];omega
theorem Zl{a0:Int}{ds:List Bo}(h:a0<1\/32<a0):fN a0 ds=some ((0,aS,0,0,0,[]),0,some 1):=by
 have z:(bif (cm .lss a0 (1:Int)) then some true else some (cm .gtr a0 (32:Int)))=some true:=by
  rw[cl,cg];by_cases u:a0<1
  ·rw[A5 u];rfl
  ·rw[ZW u,A5 (by omega)];rfl
 unfold fN iQ;rw[z];rfl
theorem Xa{n:Nat}(h0:1<=n)(h1:n<=32){ds:List Bo}(hl:300<ds.length):fN (n:Int) ds=some ((0,aS,0,0,0,[]),0,some 2):=by
 have h:cm .lss (n:Int) (1:Int)=false:=by rw[cl];exact ZW (by omega)
 have u:cm .gtr (n:Int) (32:Int)=false:=by rw[cg];exact ZW (by omega)
 have z:cm .gtr (ds.length:Int) (300:Int)=true:=by rw[cg];exact A5 (by omega)
 unfold fN iQ;rw[h,u,z];rfl
theorem FB{n:Nat}(h0:1<=n)(h1:n<=32){ds:List Bo}(hl:ds.length<=300){s0:PS}(YF:iK (n:Int)=some (some (WL s0),none)){rs v2 l9 WW s2}(t:bt ⟨n,0,1,1,0,0,0⟩ (List.replicate n aS) [List.replicate n aS] s0 ds rs v2 l9 WW s2)(h:Inv v2 l9 WW s2):
  ∃tk:Nat,tk<=3/\fN (n:Int) ds=some ((0,aS,(v2.h:Int),(v2.h:Int),(v2.h:Int),WW.getD v2.h []),(tk:Int),none):=by
 have L:=QI h0 h1 hl YF t;obtain⟨gq,gx⟩:=FA t;simp only at gq gx;have ZS:=h.B5;have G8:=h.enum;unfold fN;rw[L,cM];simp only[uT,ZY,pF];refine EZ (z:=s2) (fin:=fun tk u=>((0,aS,(v2.h:Int),u.safe,u.XD,WW.getD u.XD.toNat []),(tk:Int),none)) (fun tk=>((0,aS,(v2.h:Int),(v2.h:Int),(v2.h:Int),WW.getD v2.h []),(tk:Int),none)) ?_ ?_ h (by omega) (by omega) ?_
 ·intro tk s u s1 n T C D F G U;obtain⟨_,t1,t2,t3,t4,t5,t6,t7,t8,t9⟩:=Ny (Bq D C) U;refine(Wz (z:=s2) ?_ ?_ D C F).trans ?_
  ·intro a V H A I;have c:cm .gtr (a.VZ.length:Int) (0:Int)=true:=by rw[cg];exact A5 (by have:=pf.2 A;omega)
   have e:=(yU H I).2;simp only[kX,WL,c,XT,e,cM,ZY,pF]
  ·intro a A;have c:cm .gtr (a.VZ.length:Int) (0:Int)=false:=by rw[A];rfl
   simp only[kX,c,pF]
  ·have E:cm .eql u.safe s2.XA=false:=by rw[ce];exact ZW G
   have M:cm .eql (tk:Int) (200:Int)=false:=by rw[ce];exact ZW (by omega)
   have N:ar .add .i64 (tk:Int) 1=((tk+1:Nat):Int):=r7 (by omega);simp only[kX,WL,E,M,pF,cM,t9,ZY,N,t1,t2,t3,t4,t5,t6,t7,t8]
 ·intro tk s u n K B T C D F G;refine(Wz (z:=s2) ?_ ?_ D C F).trans ?_
  ·intro a V H A I;have c:cm .gtr (a.VZ.length:Int) (0:Int)=true:=by rw[cg];exact A5 (by have:=pf.2 A;omega)
   have e:=(yU H I).2;simp only[kX,WL,c,XT,e,cM,ZY,pF]
  ·intro a A;have c:cm .gtr (a.VZ.length:Int) (0:Int)=false:=by rw[A];rfl
   simp only[kX,c,pF]
  ·have E:cm .eql u.safe s2.XA=true:=by rw[ce];exact A5 G
   have O:=KC (Bq D C) B ((0:Int),aS,(0:Int),(0:Int),(0:Int),([]:(List aQ)));have P:=B.L9;have Q:K.h=v2.h:=by have:=B.hs;have:=h.hs;omega
   simp only[kX,WL,E,XT,cM];rw[O];simp only[cM,P,m9,Q]
 ·intro tk K u B hh X;have h1:=B.safe;have h2:=B.kh;have R:=B.L9;have S:K.k=v2.h:=by omega
  simp only[X,R,S,m9]
theorem Xb{δ:Type}{step:Int×List aQ×List (List aQ)->Option (Step (Int×List aQ×List (List aQ)) δ)}{l:List Bo}{fin:List aQ->List (List aQ)->δ}
  (hs:∀(i:Nat) (d:Bo) (now O0:List aQ) (snaps ZG:List (List aQ)) (pX:Int) (YV:aQ),l[i]? =some d->i<=1000->iR now snaps d=some (pX,YV,O0,ZG)->step ((i:Int),now,snaps)=some (.next (((i+1:Nat):Int),O0,ZG)))
  (he:∀now snaps,step ((l.length:Int),now,snaps)=some (.done (fin now snaps))) (hl:l.length<=1000):
  ∀{v now snaps s ds rs v2 l9 WW s2},bt v now snaps s ds rs v2 l9 WW s2->∀(pre:List Bo) (f:Nat),l=pre++ds->ds.length<f->loop step f ((pre.length:Int),now,snaps)=some (fin l9 WW):=by
 intro v now snaps s ds rs v2 l9 WW s2 t
 induction t with
 |nil h=>
  intro pre f u z;obtain⟨f,rfl⟩:∃g,f=g+1:=⟨f - 1,by simp at z;omega⟩
  have:pre=l:=by simpa using u.symm
  rw[this,Go.WT.YP (he _ _)]
 |cons h B E F g t C=>
  rename_i d ds rs pX YV;intro pre f u z;simp only[C8] at z;obtain⟨f,rfl⟩:∃g,f=g+1:=⟨f - 1,by omega⟩
  have D:l.length=pre.length+ds.length+1:=by rw[u];simp;omega
  rw[Go.WT.ZL (hs pre.length d _ _ _ _ pX YV (by rw[u];simp) (by omega) B)];have A:=C (pre++[d]) f (by rw[u];simp) (by omega);simp only[sM,aCw] at A ⊢;exact A
end Go.XR
namespace Go.XR
open Go Go.Sw Go.Mo Go.Pl
theorem br(a0:Int)(ds:List Bo)(hd:∀d∈ds,Th d):jK a0 ds=some true:=by
 by_cases N:a0<1\/32<a0
 ·have O:(bif (cm .lss a0 (1:Int)) then some true else some (cm .gtr a0 (32:Int)))=some true:=by
   rw[cl,cg];by_cases G:a0<1
   ·rw[A5 G];rfl
   ·rw[ZW G,A5 (by omega)];rfl
  unfold jK;rw[Zl N,cM,O];rfl
 ·obtain⟨n,rfl⟩:∃n:Nat,a0=(n:Int):=⟨a0.toNat,by omega⟩
  have B:1<=n:=by omega
  have A:n<=32:=by omega
  have H:cm .lss (n:Int) (1:Int)=false:=by rw[cl];exact ZW (by omega)
  have I:cm .gtr (n:Int) (32:Int)=false:=by rw[cg];exact ZW (by omega)
  by_cases P:300<ds.length
  ·have C:cm .gtr (ds.length:Int) (300:Int)=true:=by rw[cg];exact A5 (by omega)
   unfold jK;rw[Xa B A P,cM,H,I,C];rfl
  ·have C:cm .gtr (ds.length:Int) (300:Int)=false:=by rw[cg];exact ZW (by omega)
   obtain⟨s0,rs,u,l9,WW,s2,a1,a2,L,a4,z⟩:=Zg B A (by omega:ds.length<=300) hd;obtain⟨M,ab,m3⟩:=FB B A (by omega) a1 L z;have Q:cm .neq (0:Int) (0:Int)=false:=rfl;have ZN:=z.hs;have ZS:=z.B5;have K3:=z.n1;unfold jK;rw[m3,cM,H,I,C];simp only[pF,cM,jp,Q,ZY];rw[Zh A,cM];simp only[uT];unfold lp
   rw[show (((0:Int),List.replicate n aS,[List.replicate n aS]):Int×List aQ×List (List aQ))=(((([]:List Bo).length:Nat):Int),List.replicate n aS,[List.replicate n aS]) from rfl,
    Xb (l:=ds) (fin:=fun E F=>Ex.WN (E,F)) ?_ ?_ (by omega) L [] fO rfl (by unfold fO;omega)]
   ·have R:fI (l9,WW)=some (u.h:Int):=by
     unfold fI;rw[N3 (by simp only;omega)];simp only;congr 1;omega
    have S:∀x:Int,cm .eql x x=true:=fun x=>by rw[ce];simp
    have T:cm .lss (M:Int) (0:Int)=false:=by rw[cl];exact ZW (by omega)
    have U:cm .gtr (M:Int) (3:Int)=false:=by rw[cg];exact ZW (by omega)
    have V:Sw.idx WW (u.h:Int)=some (WW.getD u.h []):=tA (by rw[P3,E8 (by omega)];rfl);have X:WW.getD u.h []∈WW:=by
     rw[P3,E8 (by omega)];exact fp _
    have e9:=Go.YR.R7 (WW.getD u.h []) (by have:=z.ep.len _ X;omega);simp only[T,U,R,S,V,e9,pF,XT,cM,jb,iz]
   ·intro i d E O0 F ZG pX YV K aa hc;have XK:i<ds.length:=(aCa.1 K).1;have D:cm .lss (i:Int) (ds.length:Int)=true:=by rw[cl];exact A5 (by omega)
    simp only[D,XT,tA K,cM,hc];rw[r7 (by omega)]
   ·intro E F;have D:cm .lss (ds.length:Int) (ds.length:Int)=false:=by rw[cl];exact ZW (by omega)
    simp only[D,pF]
end Go.XR
namespace Go.XR
open Go Go.Sw Go.Mo Go.Pl
end Go.XR
namespace Go.XR
open Go Go.Sw Go.Mo Go.Pl
end Go.XR
namespace Go.Pl
open Go Go.Sw Go.Mo Go.XR
theorem NV{d:Int×Int×Int×aQ}(h:Wf (Wr.pr (Wr.int .i64) (Wr.pr (Wr.int .i64) (Wr.pr (Wr.int .i64) aM))) d):Th d:=by
 have u:=h.pr.2;have z:=u.pr.2;refine⟨u.pr.1.int,z.pr.1.int,?_⟩;have A:=z.pr.2.arr;exact⟨A.1,fun x B=>by have:=(A.2 x B).int;exact this⟩
end Go.Pl
