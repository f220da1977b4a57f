/- Plain laws about these plain functions alone. Conditions: none. -/
import Derived.Test.YteckohdbfkhmdadGreatDoorMCTopNaive
set_option linter.unusedVariables false
set_option linter.unusedSimpArgs false
namespace Go.XA
open Go.Pl
open Go Go.Sw Go.Mo
abbrev fL:=Int×List Int×List aQ
def wU(x:Int):Bool:=decide (x<0) || decide (x>2147483647)
def eB(f:fL):Int:=if f.1<0\/f.1>15 then 1 else if f.2.1.length>12\/f.2.2.length>32 then 2 else if f.2.1.any wU then 1 else 0
theorem Vv{D:Type}(r:Nat->D)(l:List Int):∀i,sY (fun (i:Nat) (x:Int) (_:Unit)=>(if wU x then Step.done (Ex.ret (r i)) else .next ():Step Unit (Ex Unit D))) (fun _=> .WT ()) i () l=match l.findIdx? wU with | some j=> .ret (r (i+j)) | none=> .WT ():=by
 induction l with
 |nil=>intro i;simp[sY]
 |cons x l u=>
  intro i;simp only[sY,List.findIdx?_cons];by_cases h:wU x=true
  ·simp[h]
  ·simp only[h,l7,u,T3];cases l.findIdx? wU with
   |none=>rfl
   |some j=>simp[aDu,aDf 1]
theorem Vx(l:List Int):l.any wU=(l.findIdx? wU).isSome:=by
 rw[List.findIdx?_isSome]
theorem EG(x:Int):pV x=some (wU x):=by
 unfold pV wU;by_cases h:x<0
 ·have:cm .lss x 0=true:=by simp[cm,h]
  simp[this,h]
 ·have:cm .lss x 0=false:=by simp[cm];omega
  simp[this,h,cm]
theorem Vy(l:List Int)(h:l.length<=1000000):dA l=some (l.any wU):=by
 unfold dA eG;rw[show (0:Int)=((0:Nat):Int) from rfl,Bo (l:=l) (fun i (_:Unit)=>(i:Int)) () (fun i x _=>if wU x then .done (.ret (i:Int)) else .next ()) (fun _=> .WT ()) (by unfold fK;omega)]
 ·rw[Vv (fun i=>(i:Int)),Vx];cases l.findIdx? wU<;>simp[out,cm]
 ·rintro u x z acc rfl;simp only[pP,XX,mZ,cM,EG,IA (n:=u.length) (m:=1000000) (by simp at h;omega) (by omega)];cases wU x<;>simp[Jc]
 ·intro _;simp[dT]
theorem Fx(f:fL):qE f=some (if eB f=0 then none else some (eB f)):=by
 obtain⟨s,h,u⟩:=f;unfold qE eB;by_cases z:s<0
 ·have:cm .lss s 0=true:=by simp[cm,z]
  simp[this,z]
 have A:cm .lss s 0=false:=by simp[cm];omega
 by_cases C:s>15
 ·have:cm .gtr s 15=true:=by simp[cm];omega
  simp[A,this,C]
 have D:cm .gtr s 15=false:=by simp[cm];omega
 have E:¬(s<0\/s>15):=by omega
 simp only[A,D,pF,cM,E,l7];by_cases F:h.length>12
 ·have:cm .gtr (h.length:Int) 12=true:=by simp[cm];omega
  simp[this,F]
 have B:cm .gtr (h.length:Int) 12=false:=by simp[cm];omega
 by_cases G:u.length>32
 ·have:cm .gtr (u.length:Int) 32=true:=by simp[cm];omega
  simp[B,this,G]
 have H:cm .gtr (u.length:Int) 32=false:=by simp[cm];omega
 have I:¬(h.length>12\/u.length>32):=by omega
 simp only[B,H,pF,cM,I,l7,Vy h (by omega)];cases h.any wU<;>simp
def vf:Nat->Nat->List Int
 | 0,n=>[(n:Int)]
 |k+1,n=>if n<128 then [(n:Int)] else ((128+n % 128:Nat):Int)::vf k (n / 128)
theorem Nz:∀k n,n<128 ^ (k+1)->Bytes (vf k n)/\(vf k n).length<=k+1
 | 0,n,h=>by
  simp at h;exact⟨fun x u=>by simp[vf] at u;omega,by simp[vf]⟩
 |k+1,n,h=>by
  unfold vf;split
  ·exact⟨fun x u=>by simp at u;omega,by simp⟩
  ·have z:n / 128<128 ^ (k+1):=by rw[aEh] at h;omega
   obtain⟨A,B⟩:=Nz k (n / 128) z;refine⟨fun x u=>?_,by simp;omega⟩;rcases q9.1 u with rfl | u
   ·have:=nj n (by decide:0<128);omega
   ·exact A x u
theorem Ri{γ:Type}{step:Int×List Int->Option (Step (Int×List Int) (Ex (Int×List Int) γ))}
  (h1:∀(n:Nat) acc,128<=n->n<34359738368->acc.length<=1000000->step ((n:Int),acc)=some (.next (((n / 128:Nat):Int),acc++[((128+n % 128:Nat):Int)])))
  (h2:∀(n:Nat) acc,n<128->step ((n:Int),acc)=some (.done (.WT ((n:Int),acc)))):
  ∀(k n:Nat) (acc:List Int) (f:Nat),n<128 ^ (k+1)->n<34359738368->acc.length+k<=1000000->k<f->∃(m:Nat) (YB:List Int),loop step f ((n:Int),acc)=some (.WT ((m:Int),YB))/\m<128/\YB++[(m:Int)]=acc++vf k n
 | 0,n,acc,f,h,_,_,C=>by
  obtain⟨f,rfl⟩:∃f',f=f'+1:=⟨f - 1,by omega⟩
  simp at h;exact⟨n,acc,by simp[loop,h2 n acc h],h,rfl⟩
 |k+1,n,acc,f,h,D,E,C=>by
  obtain⟨f,rfl⟩:∃f',f=f'+1:=⟨f - 1,by omega⟩
  by_cases u:n<128
  ·exact⟨n,acc,by simp[loop,h2 n acc u],u,by simp[vf,u]⟩
  ·obtain⟨m,YB,z,A,B⟩:=Ri h1 h2 k (n / 128) (acc++[((128+n % 128:Nat):Int)]) f (by rw[aEh] at h;omega) (by omega) (by simp;omega) (by omega);refine⟨m,YB,?_,A,?_⟩
   ·simp only[loop,h1 n acc (by omega) D (by omega)];exact z
   ·rw[B];simp[vf,u]
theorem UR:∀a:Fin 256,ar .or .u8 ((a.1:Nat):Int) 128=((128+a.1 % 128:Nat):Int):=by decide+kernel
theorem Dm(n:Nat):IntKind.wrap .u8 (n:Int)=((n % 256:Nat):Int):=by
 simp[IntKind.wrap,IntKind.signed,IntKind.bits]
theorem US(n:Nat):sh .shr .i64 (n:Int) 7=((n / 128:Nat):Int):=by
 show Int.fdiv _ _=_;have:(2:Int) ^ min (7:Int).toNat (IntKind.bits .i64)=128:=by decide
 rw[this,wq _ (by omega)];omega
theorem JF:∀s:Fin 16,∀n:Fin 13,ar .or .u8 (sh .shl .u8 (IntKind.wrap .u8 (s.1:Int)) 4) (IntKind.wrap .u8 (n.1:Int))=IntKind.wrap .u8 (ar .add .i64 (ar .mul .i64 16 (s.1:Int)) (n.1:Int)):=by decide+kernel
def Ii(f:fL):List Int:=[IntKind.wrap .u8 (ar .add .i64 (ar .mul .i64 16 f.1) (f.2.1.length:Int)),IntKind.wrap .u8 (f.2.2.length:Int)]
def vs(ns:List Int):List Int:=ns.flatMap fun n=>vf 4 n.toNat
def body(f:fL):List Int:=Ii f++vs f.2.1++f.2.2.flatten
def A4(v:Nat):List Int:=[((v / 16777216:Nat):Int),((v / 65536 % 256:Nat):Int),((v / 256 % 256:Nat):Int),((v % 256:Nat):Int)]
def bM(f:fL):List Int:=body f++A4 (4294967295 - Ag (nat (body f)))
theorem E4{α A B β γ:Type}{step:α->Option (Step α (Ex β γ))}{l:List A}{k:β->Option γ}(st:Nat->B->α)(I:Nat->B->Prop)(ZF:B)(g:Nat->A->B->B)(fin:B->β)(hf:l.length<fK)(h0:I 0 ZF)
  (hs:∀pre x rest acc,l=pre++x::rest->I pre.length acc->step (st pre.length acc)=some (.next (st (pre.length+1) (g pre.length x acc)))/\I (pre.length+1) (g pre.length x acc))
  (he:∀acc,I l.length acc->step (st l.length acc)=some (.done (.WT (fin acc)))):
  lp step (st 0 ZF) k=k (fin ((l.zipIdx).foldl (fun acc x=>g x.2 x.1 acc) ZF)):=by
 have C:∀(rest pre:List A) (acc:B) (f:Nat),l=pre++rest->I pre.length acc->rest.length<f->loop step f (st pre.length acc)=some (.WT (fin ((rest.zipIdx pre.length).foldl (fun acc x=>g x.2 x.1 acc) acc))):=by
  intro rest
  induction rest with
  |nil=>
   intro pre acc f u z hf;obtain⟨f,rfl⟩:∃f',f=f'+1:=⟨f - 1,by simp at hf;omega⟩
   have:=he acc (by rw[u,ai];exact z);rw[u,ai] at this;simp[loop,this]
  |cons x rest F=>
   intro pre acc f u z hf;obtain⟨f,rfl⟩:∃f',f=f'+1:=⟨f - 1,by simp at hf;omega⟩
   obtain⟨D,E⟩:=hs pre x rest acc u z;simp only[loop,D];have:=F (pre++[x]) (g pre.length x acc) f (by rw[u];simp) (by simpa using E) (by simp at hf;omega);simpa using this
 have h:=C l [] ZF fK rfl h0 hf;unfold lp;simp only[X3] at h;rw[h]
theorem ZX{A:Type}(w:A->List Int):∀(l:List A) (i:Nat) (acc:List Int),(l.zipIdx i).foldl (fun acc x=>acc++w x.1) acc=acc++l.flatMap w
 | [],_,acc=>by simp
 |x::l,i,acc=>by simp[ZX w l]
end Go.XA
namespace Go.XA
open Go.Pl
open Go Go.Sw Go.Mo
theorem VU{α:Type}(xs ys:List α)(h:xs.length+ys.length<=4294967296):Sw.app xs ys=some (xs++ys):=by unfold Sw.app;rw[XC h]
end Go.XA
namespace Go.XA
open Go.Pl
open Go Go.Sw Go.Mo
theorem NP{γ:Type}{step:Int×List Int->Option (Step (Int×List Int) (Ex (Int×List Int) γ))}{k:Int×List Int->Option γ}
  (h1:∀(n:Nat) acc,128<=n->n<34359738368->acc.length<=1000000->step ((n:Int),acc)=some (.next (((n / 128:Nat):Int),acc++[((128+n % 128:Nat):Int)])))
  (h2:∀(n:Nat) acc,n<128->step ((n:Int),acc)=some (.done (.WT ((n:Int),acc)))) (n:Nat) (acc:List Int) (hn:n<34359738368) (ha:acc.length<=900000):
  ∃(m:Nat) (YB:List Int),lp step ((n:Int),acc) k=k ((m:Int),YB)/\m<128/\YB++[(m:Int)]=acc++vf 4 n:=by
 obtain⟨m,YB,h,u,z⟩:=Ri h1 h2 4 n acc fK (by omega) hn (by omega) (by unfold fK;omega);exact⟨m,YB,by unfold lp;rw[h],u,z⟩
structure Good (f:fL):Prop where
 s0:0<=f.1
 s1:f.1<=15
 ns:f.2.1.length<=12
 bs:f.2.2.length<=32
 num:∀n∈f.2.1,0<=n/\n<=2147483647
 ZE:∀b∈f.2.2,b.length=8/\Bytes b
theorem qP{f:fL}(h:eB f=0)(hb:∀b∈f.2.2,b.length=8/\Bytes b):Good f:=by
 unfold eB at h;split at h
 ·cases h
 ·split at h
  ·cases h
  ·split at h
   ·cases h
   ·rename_i B C u;refine⟨by omega,by omega,by omega,by omega,fun n z=>?_,hb⟩;have:¬wU n=true:=fun A=>u (aDd.2 ⟨n,z,A⟩);simp[wU] at this;omega
theorem Vz{ns:List Int}(h:∀n∈ns,0<=n/\n<=2147483647):Bytes (vs ns)/\(vs ns).length<=5*ns.length:=by
 induction ns with
 |nil=>exact⟨fun x u=>by simp[vs] at u,by simp[vs]⟩
 |cons n ns C=>
  obtain⟨z,A⟩:=C (fun x u=>h x (by simp[u]));have D:=h n (by simp);obtain⟨B,E⟩:=Nz 4 n.toNat (by omega);refine⟨fun x u=>?_,?_⟩
  ·simp only[vs,aEr,N9] at u;rcases u with u | u
   ·exact B x u
   ·exact z x u
  ·simp only[vs,aEr,sM,D9];unfold vs at A;omega
theorem w8{bs:List aQ}(h:∀b∈bs,b.length=8/\Bytes b):Bytes bs.flatten/\bs.flatten.length=8*bs.length:=by
 induction bs with
 |nil=>exact⟨fun x u=>by simp at u,rfl⟩
 |cons b bs D=>
  obtain⟨z,A⟩:=D (fun x u=>h x (by simp[u]));obtain⟨B,C⟩:=h b (by simp);refine⟨fun x u=>?_,by simp only[aC1,sM,A,B,D9];omega⟩;simp only[aC1,N9] at u;rcases u with u | u
  ·exact C x u
  ·exact z x u
theorem rG{f:fL}(h:Good f):Bytes (body f)/\(body f).length<=1000:=by
 obtain⟨z,B⟩:=Vz h.num;obtain⟨A,C⟩:=w8 h.ZE;have:=h.ns;have:=h.bs;refine⟨fun x u=>?_,by simp only[body,Ii,sM,D9,X3];omega⟩;simp only[body,N9] at u;rcases u with (u | u) | u
 ·simp only[Ii,q9,aCm,aEl] at u;rcases u with rfl | rfl
  ·have:=yS .u8 (ar .add .i64 (ar .mul .i64 16 f.1) (f.2.1.length:Int));unfold Db at this;simpa[IntKind.min,IntKind.max,IntKind.signed,IntKind.bits] using this
  ·have:=yS .u8 (f.2.2.length:Int);unfold Db at this;simpa[IntKind.min,IntKind.max,IntKind.signed,IntKind.bits] using this
 ·exact z x u
 ·exact A x u
theorem Fb{f:fL}(h:Good f)(he:eB f=0):mW f=some (bM f,none):=by
 obtain⟨s,u,A⟩:=f;have M:=h.s0;have N:=h.s1;have D:=h.ns;have E:=h.bs;have F:=h.num;have G:=h.ZE;simp only at D E F G M N;obtain⟨af,ah⟩:=Vz F;obtain⟨am,an⟩:=w8 G;obtain⟨K,V0⟩:=rG h;unfold mW;rw[Fx,XC he];simp only[cM,j7,pF];have O:ar .or .u8 (sh .shl .u8 (IntKind.wrap .u8 s) 4) (IntKind.wrap .u8 (u.length:Int))=IntKind.wrap .u8 (ar .add .i64 (ar .mul .i64 16 s) (u.length:Int)):=by
  have:=JF ⟨s.toNat,by omega⟩ ⟨u.length,by omega⟩;have e:((s.toNat:Nat):Int)=s:=by omega
  simpa[e] using this
 rw[O,show ((0:Int),[IntKind.wrap .u8 (ar .add .i64 (ar .mul .i64 16 s) (u.length:Int)),IntKind.wrap .u8 (A.length:Int)])=(((0:Nat):Int),Ii (s,u,A)) from rfl];rw[E4 (l:=u) (fun i (acc:List Int)=>((i:Int),acc)) (fun i acc=>acc.length<=2+5*i) (Ii (s,u,A)) (fun _ n acc=>acc++vf 4 n.toNat) (fun acc=>acc) (by unfold fK;omega) (by simp[Ii])]
 ·rw[ZX (fun n:Int=>vf 4 n.toNat)];rw[show ((0:Int),Ii (s,u,A)++u.flatMap (fun n=>vf 4 n.toNat))=(((0:Nat):Int),Ii (s,u,A)++vs u) from rfl];rw[E4 (l:=A) (fun i (acc:List Int)=>((i:Int),acc)) (fun i acc=>acc.length<=100+8*i) (Ii (s,u,A)++vs u) (fun _ z acc=>acc++z) (fun acc=>acc) (by unfold fK;omega) (by simp[Ii];omega)]
  ·rw[ZX (fun z:aQ=>z)];have P:Ii (s,u,A)++vs u++A.flatMap (fun z=>z)=body (s,u,A):=by simp[body,List.flatMap_id']
   rw[P,JE _ K (by omega)];simp only[cM];have XI:Ag (nat (body (s,u,A)))<4294967296:=Ig _ _ (by decide) (Ih K);generalize hv:4294967295 - Ag (nat (body (s,u,A)))=v;have ZY:v<4294967296:=by omega
   have Q:sh .shr .u32 (v:Int) 24=((v / 16777216:Nat):Int):=by
    show Int.fdiv _ _=_;have:(2:Int) ^ min (24:Int).toNat (IntKind.bits .u32)=16777216:=by decide
    rw[this,wq _ (by omega)];omega
   have R:sh .shr .u32 (v:Int) 16=((v / 65536:Nat):Int):=by
    show Int.fdiv _ _=_;have:(2:Int) ^ min (16:Int).toNat (IntKind.bits .u32)=65536:=by decide
    rw[this,wq _ (by omega)];omega
   have S:sh .shr .u32 (v:Int) 8=((v / 256:Nat):Int):=by
    show Int.fdiv _ _=_;have:(2:Int) ^ min (8:Int).toNat (IntKind.bits .u32)=256:=by decide
    rw[this,wq _ (by omega)];omega
   rw[Q,R,S,Dm,Dm,Dm,Dm];rw[VU _ _ (by simp;omega)];simp only[cM,bM,hv,A4];have T:v / 16777216 % 256=v / 16777216:=R5 (by omega);simp[T]
  ·rintro C z ab acc rfl hI;obtain⟨hz,_⟩:=G z (by simp);simp only[pP,XX,mZ,cM];have ed:C.length<=32:=by simp at E;omega
   rw[VU _ _ (by omega),IA (n:=C.length) (m:=1000000) (by simp at E;omega) (by omega)];exact⟨rfl,by simp;omega⟩
  ·intro acc _;simp[dT]
 ·rintro C n ab acc rfl hI;have hn:=F n (by simp);obtain⟨m,rfl⟩:∃m:Nat,n=(m:Int):=⟨n.toNat,by omega⟩
  simp only[pP,XX,mZ,cM];have U:acc.length<=900000:=by simp at D;omega
  obtain⟨q,YB,H,h4,L⟩:=NP (γ:=Step (Int×List Int) (Ex (List Int) (List Int×Option Int))) (step:=fun (B:Int×(List Int))=>
    bif (cm .gtr B.1 (127:Int)) then
     (Sw.app B.2 ([(ar .or .u8 (IntKind.wrap .u8 B.1) (128:Int))]:(List Int))).bind fun X=>
      some (.next ((sh .shr .i64 B.1 (7:Int)),X))
    else
     some (.done (.WT (B.1,B.2))))
   (k:=fun (I:Int×(List Int))=>(Sw.app I.2 ([(IntKind.wrap .u8 I.1)]:(List Int))).bind fun aa=>some (.next ((ar .add .i64 (C.length:Int) (1:Int)),aa)))
   (by
    intro n acc V h2 H;have:cm .gtr (n:Int) 127=true:=by simp[cm];omega
    simp only[this,XX];rw[Dm,UR ⟨n % 256,nj _ (by decide)⟩,VU _ _ (by simp;omega),US];simp only[cM]
    rw[Nat.mod_mod_of_dvd _ (by decide:128 ∣ 256)])
   (by
    intro n acc V;have:cm .gtr (n:Int) 127=false:=by simp[cm];omega
    simp[this]) m acc (by omega) U
  have ac:=(Nz 4 m (by omega)).2;have ad:YB.length+1=acc.length+(vf 4 m).length:=by
   have:=congrArg List.length L;simpa using this
  rw[H];simp only[Dm];rw[VU _ _ (by simp at D;simp;omega),R5 (by omega:q<256),L,IA (n:=C.length) (m:=1000000) (by simp at D;omega) (by omega)];refine⟨by simp,by simp;omega⟩
 ·intro acc _;simp[dT]
theorem Ze{f:fL}(h:Good f):(bM f).length<=1000000:=by
 have:=(rG h).2;simp[bM,A4];omega
end Go.XA
namespace Go.XA
open Go.Pl
open Go Go.Sw Go.Mo
theorem cl(m n:Int):cm .lss m n=decide (m<n):=rfl
theorem cg(m n:Int):cm .gtr m n=decide (m>n):=rfl
theorem zy(m n:Int):cm .leq m n=decide (m<=n):=rfl
theorem L4(m n:Int):cm .geq m n=decide (m>=n):=rfl
theorem ce(m n:Int):cm .eql m n=decide (m=n):=by show (m==n)=_;by_cases h:m=n<;>simp[h]
theorem cn(m n:Int):cm .neq m n=decide (m≠n):=by show (m != n)=_;by_cases h:m=n<;>simp[h]
theorem j5{m n:Int}(h: -9223372036854775808<=m+n/\m+n<=9223372036854775807):ar .add .i64 m n=m+n:=wrap_i64 h
theorem O3{m n:Int}(h: -9223372036854775808<=m - n/\m - n<=9223372036854775807):ar .sub .i64 m n=m - n:=wrap_i64 h
theorem u6{n:Nat}(h:n<=4611686018427387904):ar .add .i64 (n:Int) 1=((n+1:Nat):Int):=by rw[j5 (by omega)];push_cast;rfl
theorem Bytes.tail{x:Int}{l:List Int}(h:Bytes (x::l)):Bytes l:=fun y u=>h y (by simp[u])
theorem Bytes.head{x:Int}{l:List Int}(h:Bytes (x::l)):0<=x/\x<=255:=h x (by simp)
def Wa:List Int->Int×Bool×List Int
 | []=>(0,false,[])
 |b::r=>(b,true,r)
theorem Th(l:List Int)(hl:l.length<=1000000):fC l=some (Wa l):=by
 unfold fC;cases l with
 |nil=>rfl
 |cons b r=>
  have:¬((b::r).length:Int)=0:=by simp;omega
  rw[ce];simp only[this,D5,pF];have h:Sw.idx (b::r) 0=some b:=rfl;have u:Sw.sub (b::r) 1 ((b::r).length:Int)=some r:=by
   unfold Sw.sub;rw[XC (by simp;omega)];simp
  rw[h,u];rfl
def xB:Nat->Nat->Nat->List Int->Int×Bool×List Int
 | 0,_,_,l=>(0,false,l)
 |_+1,_,_,[]=>(0,false,[])
 |k+1,i,v,b::l=>if b<128 then (((v+b.toNat % 128*128 ^ i:Nat):Int),decide (v+b.toNat % 128*128 ^ i<=2147483647) && (decide (0<b) || decide (i=0)),l) else xB k (i+1) (v+b.toNat % 128*128 ^ i) l
theorem UT:∀a:Fin 256,ar .and .u8 ((a.1:Nat):Int) 127=((a.1 % 128:Nat):Int):=by decide+kernel
theorem SU{b:Int}(h:0<=b/\b<=255):ar .and .u8 b 127=((b.toNat % 128:Nat):Int):=by
 have:=UT ⟨b.toNat,by omega⟩;have e:((b.toNat:Nat):Int)=b:=by omega
 simpa[e] using this
theorem SV(i:Nat):128 ^ i=2 ^ (7*i):=by rw[Nat.pow_mul]
theorem UU{c i:Nat}(hi:i<=4)(hc:c<128):sh .shl .i64 (c:Int) ((7*i:Nat):Int)=((c*128 ^ i:Nat):Int):=by
 show IntKind.wrap .i64 ((c:Int)*2 ^ min ((7*i:Nat):Int).toNat (IntKind.bits .i64))=_;rw[p6,show IntKind.bits .i64=64 from rfl,rk (by omega),SV];have h:2 ^ (7*i)<=2 ^ 28:=aEb (by decide) (by omega);have u:c*2 ^ (7*i)<=127*2 ^ 28:=aCu (by omega) h;have e:(c:Int)*2 ^ (7*i)=((c*2 ^ (7*i):Nat):Int):=by push_cast;rfl
 rw[e,wrap_i64 (by omega)]
theorem UW{a b:Nat}(ha:a<4611686018427387904)(hb:b<4611686018427387904):ar .or .i64 (a:Int) (b:Int)=((a ||| b:Nat):Int):=by
 have h:a ||| b<2 ^ 62:=aD3 (by simpa using ha) (by simpa using hb)
 show IntKind.wrap .i64 ((BitVec.ofInt 64 (a:Int) ||| BitVec.ofInt 64 (b:Int)).toNat:Int)=_;simp only[sC,BitVec.toNat_or,aB8];rw[R5 (a:=a) (by omega),R5 (a:=b) (by omega)];exact wrap_i64 (by omega)
theorem SX{v c i:Nat}(hi:i<=4)(hc:c<128)(hv:v<128 ^ i):ar .or .i64 (v:Int) ((c*128 ^ i:Nat):Int)=((v+c*128 ^ i:Nat):Int):=by
 have h:128 ^ i<=128 ^ 4:=aEb (by decide) hi;have u:c*128 ^ i<=127*128 ^ 4:=aCu (by omega) h;rw[UW (by omega) (by omega)];congr 1;rw[SV] at*;have:=aEc hv c;rw[Nat.shiftLeft_eq] at this;rw[Nat.or_comm,<-this,aDf]
theorem SY{v c i:Nat}(hc:c<128)(hv:v<128 ^ i):v+c*128 ^ i<128 ^ (i+1):=by
 rw[aEh];have:c*128 ^ i<=127*128 ^ i:=vi _ (by omega);omega
theorem QH(l:List Int)(hb:Bytes l)(hl:l.length<=1000000):gI l=some (xB 5 0 0 l):=by
 unfold gI;have M:∀(k i v:Nat) (l:List Int) (f:Nat),i+k=5->v<128 ^ i->Bytes l->l.length<=1000000->k<f->
   ∃e,loop (fun (h:Int×Int×(List Int))=>
  bif (cm .lss h.2.1 (35:Int)) then
   (fC h.2.2).bind fun u=>
    bif (!u.2.1) then
     some (.done (.ret ((0:Int),false,u.2.2)))
    else
     (nn h.2.1).bind fun _=>
      bif (cm .lss u.1 (128:Int)) then
       (bif (cm .leq (ar .or .i64 h.1 (sh .shl .i64 (ar .and .u8 u.1 (127:Int)) h.2.1)) (2147483647:Int)) then
        bif (cm .gtr u.1 (0:Int)) then
         some true
        else
         some (cm .eql h.2.1 (0:Int))
       else
        some false).bind fun T=>
        some (.done (.ret ((ar .or .i64 h.1 (sh .shl .i64 (ar .and .u8 u.1 (127:Int)) h.2.1)),T,u.2.2)))
      else
       some (.next ((ar .or .i64 h.1 (sh .shl .i64 (ar .and .u8 u.1 (127:Int)) h.2.1)),(ar .add .i64 h.2.1 (7:Int)),u.2.2))
  else
   some (.done (.WT h.2.2))
  ) f ((v:Int),((7*i:Nat):Int),l)=some e/\out (fun (U:List Int)=>some ((0:Int),false,U)) e=some (xB k i v l):=by
  intro k
  induction k with
  |zero=>
   intro i v l f R I hb hl S;obtain⟨f,rfl⟩:∃f',f=f'+1:=⟨f - 1,by omega⟩
   have N:i=5:=by omega
   subst N;exact⟨.WT l,rfl,rfl⟩
  |succ k V=>
   intro i v l f R I hb hl S;obtain⟨f,rfl⟩:∃f',f=f'+1:=⟨f - 1,by omega⟩
   have O:cm .lss ((7*i:Nat):Int) 35=true:=by rw[cl];simp;omega
   have P:nn ((7*i:Nat):Int)=some ():=by unfold nn;rw[XC (by omega)]
   simp only[loop,O,XX,Th l hl,cM];cases l with
   |nil=>exact⟨.ret (0,false,[]),by simp[Wa],rfl⟩
   |cons b l=>
    have Q:=hb.head;have D:b.toNat % 128<128:=nj _ (by decide);simp only[Wa,nm,pF,P,cM,SU Q,UU (by omega:i<=4) D,SX (by omega:i<=4) D I,cl,zy,cg,ce];by_cases A:b<128
    ·simp only[A,fa,XX];refine⟨.ret (((v+b.toNat % 128*128 ^ i:Nat):Int),decide (v+b.toNat % 128*128 ^ i<=2147483647) && (decide (0<b) || decide (i=0)),l),?_,?_⟩
     ·by_cases E:v+b.toNat % 128*128 ^ i<=2147483647
      ·have B:((v+b.toNat % 128*128 ^ i:Nat):Int)<=2147483647:=by omega
       by_cases F:b>0
       ·have G:0<b:=F;simp only[B,E,G,gt_iff_lt,fa,XX,cM,aEt,Bool.true_or]
       ·have G:¬0<b:=F;have H:(((7*i:Nat):Int)=0)↔i=0:=by omega
        simp only[B,E,F,G,H,fa,D5,XX,pF,cM,aEt,Bool.false_or]
      ·have B:¬((v+b.toNat % 128*128 ^ i:Nat):Int)<=2147483647:=by omega
       simp only[B,E,D5,pF,cM,Bool.false_and]
     ·simp only[out,xB,A,l6]
    ·simp only[A,D5,pF];have H:ar .add .i64 ((7*i:Nat):Int) 7=((7*(i+1):Nat):Int):=by rw[j5 (by omega)];push_cast;omega
     rw[H];obtain⟨e,K,C⟩:=V (i+1) (v+b.toNat % 128*128 ^ i) l f (by omega) (SY D I) hb.tail (by simp at hl;omega) (by omega);refine⟨e,K,?_⟩;rw[C];simp only[xB,A,l7]
 obtain⟨e,K,C⟩:=M 5 0 0 l fK rfl (by decide) hb hl (by unfold fK;omega);unfold lp;have L:=K;simp only[Nat.mul_zero] at L;rw[show ((0:Int),(0:Int),l)=(((0:Nat):Int),((0:Nat):Int),l) from rfl,L];cases e with
 | WT y=>exact C
 |ret z=>exact C
theorem Wb:∀(k i v:Nat) (l:List Int),(xB k i v l).2.2.length<=l.length
 | 0,_,_,l=>YZ _
 |_+1,_,_,[]=>YZ _
 |k+1,i,v,b::l=>by
  unfold xB;split
  ·simp
  ·exact fc (Wb k _ _ l) (by simp)
theorem BV:∀(k i v:Nat) (l r:List Int) (w:Int),i+k=5->v<128 ^ i->Bytes l->xB k i v l=(w,true,r)->
  ∃q:Nat,w=((v+q*128 ^ i:Nat):Int)/\v+q*128 ^ i<=2147483647/\l=vf (k - 1) q++r/\(0<i->0<q)
 | 0,_,_,_,_,_,_,_,_,h=>by simp[xB] at h
 |_+1,_,_,[],_,_,_,_,_,h=>by simp[xB] at h
 |k+1,i,v,b::l,r,w,P,K,B,h=>by
  have L:=B.head;unfold xB at h;split at h
  ·rename_i H;have C:b.toNat % 128=b.toNat:=R5 (by omega);simp only[R3,G7,aCi,aC2,C] at h;obtain⟨rfl,⟨u,z⟩,rfl⟩:=h;refine⟨b.toNat,rfl,u,?_,fun O=>by omega⟩;have e:((b.toNat:Nat):Int)=b:=by omega
   cases k with
   |zero=>simp[vf,e]
   |succ k=>simp only[aDv];unfold vf;rw[XC (by omega),e];rfl
  ·rename_i H;have D:b.toNat % 128<128:=nj _ (by decide);obtain⟨q,u,z,A,I⟩:=BV k (i+1) (v+b.toNat % 128*128 ^ i) l r w (by omega) (SY D K) B.tail h;have M:0<k:=by
    cases k with
    |zero=>simp[xB] at h
    |succ k=>omega
   obtain⟨k,rfl⟩:∃k',k=k'+1:=⟨k - 1,by omega⟩
   have e:v+b.toNat % 128*128 ^ i+q*128 ^ (i+1)=v+(b.toNat % 128+128*q)*128 ^ i:=by rw[aEh,L6];rw[aEf 128 q,Nat.mul_assoc q 128,aEf 128 (128 ^ i)];omega
   have N:=I (by omega);refine⟨b.toNat % 128+128*q,by rw[u,e],by rw[<-e];exact z,?_,fun _=>by omega⟩;simp only[aDv] at A ⊢;unfold vf;rw[WV (by omega),A];have E:(b.toNat % 128+128*q) % 128=b.toNat % 128:=by omega
   have F:(b.toNat % 128+128*q) / 128=q:=by omega
   rw[E,F];have G:((128+b.toNat % 128:Nat):Int)=b:=by omega
   rw[G];rfl
theorem BW:∀(k i v q:Nat) (r:List Int),i+k=4->v+q*128 ^ i<=2147483647->(0<i->0<q)->xB (k+1) i v (vf k q++r)=(((v+q*128 ^ i:Nat):Int),true,r)
 | 0,i,v,q,r,C,z,u=>by
  have A:i=4:=by omega
  subst A;have h:q<128:=by omega
  have u:=u (by omega);have e:q % 128=q:=R5 h;simp only[vf,dk,V7,xB,p6,e];rw[XC (by omega)];simp;omega
 |k+1,i,v,q,r,C,z,u=>by
  unfold vf;by_cases h:q<128
  ·have e:q % 128=q:=R5 h;simp only[h,l6,dk,V7,xB,p6,e];rw[XC (by omega)];simp;omega
  ·simp only[h,l7,dk,xB,p6];rw[WV (by omega)];have B:(128+q % 128) % 128=q % 128:=by omega
   have e:v+q % 128*128 ^ i+q / 128*128 ^ (i+1)=v+q*128 ^ i:=by
    rw[aEh];have:q*128 ^ i=(q % 128+128*(q / 128))*128 ^ i:=by rw[Nat.mod_add_div]
    rw[this,L6,aEf 128 (q / 128),Nat.mul_assoc,aEf 128 (128 ^ i)];omega
   rw[B,BW k (i+1) (v+q % 128*128 ^ i) (q / 128) r (by omega) (by rw[e];exact z) (fun _=>by omega),e]
def Ah:Nat->List Int->List Int->Option (List Int×List Int)
 | 0,acc,l=>some (l,acc)
 |n+1,acc,l=>if (xB 5 0 0 l).2.1 then Ah n (acc++[(xB 5 0 0 l).1]) (xB 5 0 0 l).2.2 else none
theorem Gv:∀(k i v:Nat) (l:List Int),Bytes l->Bytes (xB k i v l).2.2
 | 0,_,_,l,h=>h
 |_+1,_,_,[],h=>h
 |k+1,i,v,b::l,h=>by
  unfold xB;split
  ·exact h.tail
  ·exact Gv k _ _ l h.tail
theorem Oa:∀(n:Nat) (acc l r YB:List Int),Bytes l->Ah n acc l=some (r,YB)->∃ns,YB=acc++ns/\ns.length=n/\(∀x∈ns,0<=x/\x<=2147483647)/\l=vs ns++r
 | 0,acc,l,r,YB,_,h=>by
  simp only[Ah,B1,R3] at h;obtain⟨rfl,rfl⟩:=h;exact⟨[],by simp,rfl,fun x u=>by simp at u,rfl⟩
 |n+1,acc,l,r,YB,A,h=>by
  unfold Ah at h;split at h
  ·rename_i B;obtain⟨ns,C,D,E,F⟩:=Oa n _ _ r YB (Gv _ _ _ _ A) h;obtain⟨q,z,G,H,_⟩:=BV 5 0 0 l (xB 5 0 0 l).2.2 (xB 5 0 0 l).1 rfl (by decide) A (by rw[<-B]);simp only[Nat.pow_zero,Nat.mul_one,aC4] at z G;refine⟨(q:Int)::ns,by rw[C,z];simp,by simp[D],fun x u=>?_,?_⟩
   ·rcases q9.1 u with rfl | u
    ·omega
    ·exact E x u
   ·have e:vs ((q:Int)::ns)=vf 4 q++vs ns:=by simp[vs]
    rw[H,F,e,E0]
  ·cases h
theorem Wc:∀(ns acc r:List Int),(∀x∈ns,0<=x/\x<=2147483647)->Ah ns.length acc (vs ns++r)=some (r,acc++ns)
 | [],acc,r,_=>by simp[Ah,vs]
 |x::ns,acc,r,h=>by
  have A:=h x (by simp);have e:vs (x::ns)++r=vf 4 x.toNat++(vs ns++r):=by simp[vs]
  have g:=BW 4 0 0 x.toNat (vs ns++r) rfl (by omega) (fun h=>by omega);simp only[Nat.pow_zero,Nat.mul_one,aC4] at g;have u:((x.toNat:Nat):Int)=x:=by omega
  rw[e,D9,Ah,g];simp only[l6,u];rw[Wc ns _ r (fun y z=>h y (by simp[z]))];simp
theorem Kv{c l:List Int}(hc:c.length=8):Sw.chunks 8 (c++l)=c::Sw.chunks 8 l:=by
 unfold Sw.chunks;have e:((c++l).length+8 - 1) / 8=(l.length+8 - 1) / 8+1:=by rw[sM,hc];omega
 rw[e,List.range_succ_eq_map,H9,aEx];congr 1
 ·rw[Nat.zero_mul,List.drop_zero,List.take_append_of_le_length (by omega),aCa (by omega)]
 ·apply List.map_congr_left;intro k _;simp only[Function.comp_apply,Nat.succ_eq_add_one];rw[show (k+1)*8=c.length+k*8 by omega,aD6];congr 1;simp
theorem Kw:∀(bs:List aQ),(∀b∈bs,b.length=8)->Sw.chunks 8 bs.flatten=bs
 | [],_=>rfl
 |b::bs,h=>by rw[aC1,Kv (h b (by simp)),Kw bs (fun c u=>h c (by simp[u]))]
theorem Dn:∀(m:Nat) (l:List Int),l.length=8*m->(Sw.chunks 8 l).flatten=l/\(∀b∈Sw.chunks 8 l,b.length=8)/\(Sw.chunks 8 l).length=m
 | 0,l,h=>by
  have:l=[]:=List.length_eq_zero_iff.1 (by omega);subst this;exact⟨rfl,fun b u=>by simp[Sw.chunks] at u,rfl⟩
 |m+1,l,h=>by
  have e:l=l.take 8++l.drop 8:=(ak 8 l).symm;have z:(l.take 8).length=8:=by simp;omega
  obtain⟨A,B,C⟩:=Dn m (l.drop 8) (by simp;omega);rw[e,Kv z];refine⟨by rw[aC1,A],fun b u=>?_,by simp[C]⟩;rcases q9.1 u with rfl | u
  ·exact z
  ·exact B b u
theorem JG{l:List Int}{bs:List aQ}(h:bs.flatten=l)(hb:Bytes l):∀b∈bs,Bytes b:=fun b u x z=>hb x (by rw[<-h];exact List.mem_flatten.2 ⟨b,u,z⟩)
def Jr:List Int->Option fL
 |b0::b1::r=>match Ah (b0.toNat % 16) [] r with
  |some (rest,h)=>if b1>32\/h.length>12\/(rest.length:Int)≠8*b1 then none else some (((b0.toNat / 16:Nat):Int),h,Sw.chunks 8 rest)
  |none=>none
 |_=>none
theorem BX{n:Nat}(h:n<256):IntKind.wrap .u8 (n:Int)=n:=by rw[Dm];omega
theorem Ti{f:fL}(g:Good f):Ii f=[((16*f.1.toNat+f.2.1.length:Nat):Int),(f.2.2.length:Int)]:=by
 have h:=g.s0;have u:=g.s1;have z:=g.ns;have A:=g.bs;unfold Ii;have e:ar .add .i64 (ar .mul .i64 16 f.1) (f.2.1.length:Int)=((16*f.1.toNat+f.2.1.length:Nat):Int):=by
  have:ar .mul .i64 16 f.1=16*f.1:=wrap_i64 (by omega);rw[this,j5 (by omega)];omega
 rw[e,BX (by omega),BX (by omega)]
theorem EH{b:List Int}{f:fL}(hb:Bytes b)(h:Jr b=some f):Good f/\eB f=0/\body f=b:=by
 match b,h with
 |b0::b1::r,h=>
  have P:=hb.head;have Q:=hb.tail.head;have z:=hb.tail.tail;simp only[Jr] at h;cases hn:Ah (b0.toNat % 16) [] r with
  |none=>rw[hn] at h;cases h
  |some p=>
   obtain⟨rest,K⟩:=p;rw[hn] at h;simp only at h;split at h
   ·cases h
   ·rename_i R;simp only[B1] at h;subst h;obtain⟨S,B,L,C,D⟩:=Oa _ _ _ _ _ z hn;simp only[V7] at B;subst B;obtain⟨E,M,N⟩:=Dn b1.toNat rest (by omega);have F:Bytes rest:=fun x u=>z x (by rw[D];simp[u]);have A:Good (((b0.toNat / 16:Nat):Int),K,Sw.chunks 8 rest):=⟨by simp only;omega,by simp only;omega,by simp only;omega,by simp only;omega,C,fun b hb=>⟨M b hb,JG E F b hb⟩⟩
    refine⟨A,?_,?_⟩
    ·unfold eB;rw[WV (by simp only;omega),WV (by simp only;omega),WV];intro I;obtain⟨x,u,O⟩:=aDd.1 I;have:=C x u;simp[wU] at O;omega
    ·unfold body;rw[Ti A];simp only[E,N,L,dk,V7];rw[D];have G:((16*(((b0.toNat / 16:Nat):Int)).toNat+b0.toNat % 16:Nat):Int)=b0:=by rw[p6];omega
     have H:((b1.toNat:Nat):Int)=b1:=by omega
     rw[G,H]
theorem Wd{f:fL}(g:Good f):Jr (body f)=some f:=by
 have B:=g.s0;have C:=g.s1;have D:=g.ns;have E:=g.bs;unfold body;rw[Ti g];simp only[dk,V7,Jr,p6];have h:(16*f.1.toNat+f.2.1.length) % 16=f.2.1.length:=by omega
 have u:(16*f.1.toNat+f.2.1.length) / 16=f.1.toNat:=by omega
 rw[h,u,Wc _ _ _ g.num];simp only[V7];have F:=(w8 g.ZE).2;rw[WV (by omega),Kw _ (fun b A=>(g.ZE b A).1)];have z:((f.1.toNat:Nat):Int)=f.1:=by omega
 rw[z]
end Go.XA
namespace Go.XA
open Go.Pl
open Go Go.Sw Go.Mo
def eZ(a:List Int):Option fL:=
 if a.length<6 then none else if a.drop (a.length - 4)=A4 (4294967295 - Ag (nat (a.take (a.length - 4)))) then Jr (a.take (a.length - 4)) else none
theorem QI{n c:Nat}(hc:c<=32):sh .shr .u32 (n:Int) (c:Int)=((n / 2 ^ c:Nat):Int):=by
 show Int.fdiv _ _=_;rw[p6,show IntKind.bits .u32=32 from rfl,rk hc,wq _ (aEe (aEz (by decide)))];push_cast;rfl
theorem NQ{S:Nat}(h:S<4294967296): [(IntKind.wrap .u8 (sh .shr .u32 (S:Int) (24:Int))),(IntKind.wrap .u8 (sh .shr .u32 (S:Int) (16:Int))),(IntKind.wrap .u8 (sh .shr .u32 (S:Int) (8:Int))),(IntKind.wrap .u8 (S:Int))]=A4 S:=by
 rw[show (24:Int)=((24:Nat):Int) from rfl,show (16:Int)=((16:Nat):Int) from rfl,show (8:Int)=((8:Nat):Int) from rfl,QI (by decide),QI (by decide),QI (by decide),Dm,Dm,Dm,Dm];unfold A4;have e:S / 2 ^ 24 % 256=S / 16777216:=by omega
 rw[e]
theorem SZ:∀a:Fin 256,ar .and .u8 ((a.1:Nat):Int) 15=((a.1 % 16:Nat):Int):=by decide+kernel
theorem QJ{b:Int}(h:0<=b/\b<=255):ar .and .u8 b 15=((b.toNat % 16:Nat):Int):=by
 have:=SZ ⟨b.toNat,by omega⟩;have e:((b.toNat:Nat):Int)=b:=by omega
 simpa[e] using this
theorem UX:∀a:Fin 256,sh .shr .u8 ((a.1:Nat):Int) 4=((a.1 / 16:Nat):Int):=by decide+kernel
theorem TA{b:Int}(h:0<=b/\b<=255):sh .shr .u8 b 4=((b.toNat / 16:Nat):Int):=by
 have:=UX ⟨b.toNat,by omega⟩;have e:((b.toNat:Nat):Int)=b:=by omega
 simpa[e] using this
theorem UY{n:Nat}(h:n<200):ar .add .u8 (n:Int) 1=((n+1:Nat):Int):=by
 show IntKind.wrap .u8 ((n:Int)+1)=_;have:(n:Int)+1=((n+1:Nat):Int):=by push_cast;rfl
 rw[this,BX (by omega)]
theorem Rj{z:fL×Option Int}(N:Nat)(hN:N<=15):∀(n j:Nat) (l acc:List Int) (f:Nat),j+n=N->Bytes l->l.length<=1000000->acc.length+n<=1000->n<f->
  loop (β:=Ex ((List Int)×(List Int)) (fL×Option Int)) (fun (G9:Int×(List Int)×(List Int))=>
                bif (cm .lss G9.1 (N:Int)) then
                 (gI G9.2.1).bind fun j9=>
                  bif (!j9.2.1) then
                   some (.done (.ret z))
                  else
                   (Sw.app G9.2.2 ([j9.1]:(List Int))).bind fun K1=>
                    some (.next ((ar .add .u8 G9.1 (1:Int)),j9.2.2,K1))
                else
                 some (.done (.WT (G9.2.1,G9.2.2)))
                ) f ((j:Int),l,acc)=some (match Ah n acc l with | some p=> .WT p | none=> .ret z)
 | 0,j,l,acc,f,B,u,A,C,D=>by
  obtain⟨f,rfl⟩:∃f',f=f'+1:=⟨f - 1,by omega⟩
  have:cm .lss (j:Int) (N:Int)=false:=by rw[cl];simp;omega
  simp only[loop,this,pF,Ah]
 |n+1,j,l,acc,f,B,u,A,C,D=>by
  obtain⟨f,rfl⟩:∃f',f=f'+1:=⟨f - 1,by omega⟩
  have:cm .lss (j:Int) (N:Int)=true:=by rw[cl];simp;omega
  simp only[loop,this,XX,QH l u A,cM,Ah];by_cases h:(xB 5 0 0 l).2.1=true
  ·simp only[h,nm,pF,l6];rw[VU _ _ (by simp;omega),cM,UY (by omega)];exact Rj N hN n (j+1) _ _ f (by omega) (Gv _ _ _ _ u) (fc (Wb _ _ _ _) A) (by simp;omega) (by omega)
  ·simp only[vj] at h;simp only[h,wo,XX,T3,l7]
theorem BY:∀(its acc:List aQ),(∀i∈its,i.length=8)->acc.length+its.length<=1000000->
  bz (δ:=Empty) (fun (wy:(List Int)) (dw:(List aQ))=>
    (Sw.w9 8 wy).bind fun z46=>
     (Sw.app dw ([z46]:(List aQ))).bind fun xo=>
      some (.next xo)
    ) its acc=some (.WT (acc++its))
 | [],acc,_,_=>by simp[bz]
 |i::is,acc,h,u=>by
  have A:=h i (by simp);have e:Sw.w9 8 i=some i:=by unfold Sw.w9;rw[XC (by omega),aCa (by omega)]
  simp only[bz,e,cM];rw[VU _ _ (by simp at u ⊢;omega)];simp only[cM];rw[BY is _ (fun j z=>h j (by simp[z])) (by simp at u ⊢;omega)];simp
theorem oJ(a:List Int)(hb:Bytes a)(hl:a.length<=10000):fF a=some (match eZ a with | some f=>(f,none) | none=>((0,[],[]),some 3)):=by
 unfold fF eZ;rw[cl];by_cases G:a.length<6
 ·have:(a.length:Int)<6:=by omega
  simp[G,this]
 have O:¬(a.length:Int)<6:=by omega
 simp only[G,O,D5,pF,l7];generalize hL:a.length - 4=L;have P:ar .sub .i64 (a.length:Int) 4=(L:Int):=by rw[O3 (by omega)];omega
 have Q:Sw.sub a 0 (L:Int)=some (a.take L):=by unfold Sw.sub;rw[XC (by omega)];simp
 have B:(a.take L).length=L:=by simp;omega
 have R:Sw.sub a (L:Int) (a.length:Int)=some (a.drop L):=by unfold Sw.sub;rw[XC (by omega)];simp
 have ab:(a.drop L).length=4:=by simp;omega
 have S:Sw.w9 4 (a.drop L)=some (a.drop L):=by unfold Sw.w9;rw[XC (by omega),aCa (by omega)]
 have C:Bytes (a.take L):=fun x hx=>hb x (aCp hx);have T:=JE (a.take L) C (by omega);rw[P,Q,cM,T,cM,B,R,cM,S,cM,NQ (by omega)];by_cases H:a.drop L=A4 (4294967295 - Ag (nat (a.take L)))
 ·simp only[H,fa,nm,pF,l6];generalize hp:a.take L=p at*
  match p,B with
  | [],h=>simp at h;omega
  | [_],h=>simp at h;omega
  |b0::b1::r,B=>
   have I:=C.head;have L0:=C.tail.head;have K:=C.tail.tail;have P3:r.length<=10000:=by simp at B;omega
   rw[Th _ (by simp;omega),cM];simp only[Wa];rw[Th _ (by simp;omega),cM];simp only[Wa,QJ I,TA I,Jr];have U:=Rj (z:=((0,[],[]),some 3)) (b0.toNat % 16) (by omega) (b0.toNat % 16) 0 r [] fK (by omega) K (by omega) (by simp;omega) (by unfold fK;omega);unfold lp;rw[show ((0:Int),r,([]:List Int))=(((0:Nat):Int),r,([]:List Int)) from rfl,U];cases hn:Ah (b0.toNat % 16) [] r with
   |none=>rfl
   |some q=>
    obtain⟨u,E⟩:=q;obtain⟨ac,N,h2,h3,h4⟩:=Oa _ _ _ _ _ K hn;simp only[V7] at N;subst N;have l3:u.length<=r.length:=by rw[h4];simp
    have V:ar .mul .i64 b1 8=8*b1:=by show IntKind.wrap .i64 _=_;rw[wrap_i64 (by omega)];omega
    simp only[cg,cn,V];by_cases D:b1>32
    ·simp[D]
    by_cases F:E.length>12
    ·have A:(E.length:Int)>12:=by omega
     simp[D,F,A]
    by_cases M:(u.length:Int)≠8*b1
    ·have A:¬(E.length:Int)>12:=by omega
     simp[D,F,A,M]
    have A:¬(E.length:Int)>12:=by omega
    have X:(u.length:Int)=8*b1:=aC6.1 M;obtain⟨g1,g2,g3⟩:=Dn b1.toNat u (by omega);have dg:jX u 8=some (u,8):=rfl;have aa:small u=some ():=by unfold small;rw[XC (by omega)]
    have uh:pq 8=some ():=by decide
    simp only[D,F,A,X,ne_eq,aE0,D5,pF,cM,aE1,l7,dg,aa,uh,rg];rw[show Int.toNat 8=8 from rfl,BY _ _ g2 (by simp;omega)];simp
 ·simp only[H,D5,wo,XX,l7]
theorem Gw{a:List Int}{f:fL}(hb:Bytes a)(h:eZ a=some f):Good f/\eB f=0/\bM f=a:=by
 unfold eZ at h;split at h
 ·cases h
 ·split at h
  ·rename_i D u;obtain⟨A,B,C⟩:=EH (fun x z=>hb x (aCp z)) h;refine⟨A,B,?_⟩;unfold bM;rw[C,<-u,ak]
  ·cases h
theorem fH{f:fL}(g:Good f):eZ (bM f)=some f:=by
 have A:2<=(body f).length:=by unfold body;rw[Ti g];simp
 have h:(bM f).length=(body f).length+4:=by simp[bM,A4]
 have u:(bM f).take ((bM f).length - 4)=body f:=by rw[h,aDv];unfold bM;simp
 have z:(bM f).drop ((bM f).length - 4)=A4 (4294967295 - Ag (nat (body f))):=by rw[h,aDv];unfold bM;simp
 unfold eZ;rw[WV (by omega),u,z,XC rfl,Wd g]
end Go.XA
namespace Go.XA
open Go.Pl
open Go Go.Sw Go.Mo
theorem ZU{α β:Type}{step:α->Option (Step α β)}{x y:α}{f:Nat}(h:step x=some (.next y)):loop step (f+1) x=loop step f y:=by simp only[loop,h]
theorem YY{α β:Type}{step:α->Option (Step α β)}{x:α}{b:β}{f:Nat}(h:step x=some (.done b)):loop step (f+1) x=some b:=by simp only[loop,h]
end Go.XA
namespace Go.XA
open Go.Pl
open Go Go.Sw Go.Mo
end Go.XA
namespace Go.XA
open Go.Pl
open Go Go.Sw Go.Mo
theorem Zf{S:Nat}(h:S<4294967296):Bytes (A4 S):=fun x u=>by
 simp only[A4,q9,aCm,aEl] at u;rcases u with rfl | rfl | rfl | rfl<;>omega
theorem pS{f:fL}(g:Good f):Bytes (bM f):=fun x h=>by
 unfold bM at h;rcases N9.1 h with h | h
 ·exact(rG g).1 x h
 ·exact Zf (by omega) x h
end Go.XA
namespace Go.XA
open Go.Pl
open Go Go.Sw Go.Mo
theorem JH(x:Int):pW x=some (wU x):=by
 unfold pW wU;by_cases h:x<0
 ·have:cm .lss x 0=true:=by simp[cm,h]
  simp[this,h]
 ·have:cm .lss x 0=false:=by simp[cm];omega
  simp[this,h,cm]
theorem Tj(l:List Int)(h:l.length<=1000000):dB l=some (l.any wU):=by
 unfold dB eH;rw[show (0:Int)=((0:Nat):Int) from rfl,Bo (l:=l) (fun i (_:Unit)=>(i:Int)) () (fun i x _=>if wU x then .done (.ret (i:Int)) else .next ()) (fun _=> .WT ()) (by unfold fK;omega)]
 ·rw[Vv (fun i=>(i:Int)),Vx];cases l.findIdx? wU<;>simp[out,cm]
 ·rintro u x z acc rfl;simp only[pP,XX,mZ,cM,JH,IA (n:=u.length) (m:=1000000) (by simp at h;omega) (by omega)];cases wU x<;>simp[Jc]
 ·intro _;simp[dT]
theorem o8(a b:Int):qG [a,b]=some (!(wU a || wU b)):=by
 unfold qG;rw[Tj _ (by simp)];simp
theorem p5{x:Int}:wU x=false↔0<=x/\x<=2147483647:=by unfold wU;simp
theorem QK{α A β γ:Type}{step:α->Option (Step α (Ex β γ))}{l:List A}{k:β->Option γ}(st:Nat->α)(z:A->Option γ)(y:β)(hf:l.length<fK)
  (hs:∀pre x rest,l=pre++x::rest->step (st pre.length)=some (match z x with | some v=> .done (.ret v) | none=> .next (st (pre.length+1)))) (he:step (st l.length)=some (.done (.WT y))):
  lp step (st 0) k=(l.findSome? z).elim (k y) some:=by
 have u:∀(rest pre:List A) (f:Nat),l=pre++rest->rest.length<f->loop step f (st pre.length)=some (match rest.findSome? z with | some v=> .ret v | none=> .WT y):=by
  intro rest
  induction rest with
  |nil=>
   intro pre f h hf;obtain⟨f,rfl⟩:∃f',f=f'+1:=⟨f - 1,by simp at hf;omega⟩
   rw[ai] at h;rw[<-h];simp[loop,he]
  |cons x rest B=>
   intro pre f h hf;obtain⟨f,rfl⟩:∃f',f=f'+1:=⟨f - 1,by simp at hf;omega⟩
   simp only[loop,hs pre x rest h,List.findSome?_cons];cases hz:z x with
   |some v=>simp
   |none=>
    have:=B (pre++[x]) f (by rw[h];simp) (by simp at hf;omega);simpa using this
 have:=u l [] fK rfl hf;unfold lp;simp only[X3] at this;rw[this];cases l.findSome? z<;>rfl
def dO(f:fL):Int:=if eB f=0 then (if 9<f.2.1.length then 2 else 0) else eB f
theorem BZ(f:fL):uA f=some (if dO f=0 then none else some (dO f)):=by
 unfold uA dO;rw[Fx,cM,cg];by_cases h:eB f=0
 ·simp only[h,l6,j7,pF];by_cases u:9<f.2.1.length
  ·have:(f.2.1.length:Int)>9:=by omega
   simp[u,this]
  ·have:¬(f.2.1.length:Int)>9:=by omega
   simp[u,this]
 ·simp[h]
def uQ(l:List fL):Option Int:=l.findSome? fun f=>if dO f=0 then none else some (dO f)
abbrev uR:=Int×Int×List fL
def jK(s:uR):Int:=if wU s.1 || wU s.2.1 then 1 else if 64<s.2.2.length then 2 else (uQ s.2.2).getD 0
theorem We{l:List fL}{e:Int}(h:uQ l=some e):e≠0:=by
 obtain⟨f,_,u⟩:=List.exists_of_findSome?_eq_some h;split at u
 ·cases u
 ·cases u;assumption
theorem j3(s:uR):pM s=some (if jK s=0 then none else some (jK s)):=by
 unfold pM jK;rw[o8,cM];by_cases u:(wU s.1 || wU s.2.1)=true
 ·simp[u]
 ·simp only[vj] at u;simp only[u,wo,nm,pF,T3,l7,cg];by_cases z:64<s.2.2.length
  ·have:(s.2.2.length:Int)>64:=by omega
   simp[z,this]
  ·have:¬(s.2.2.length:Int)>64:=by omega
   simp only[z,this,D5,pF,l7];rw[show (0:Int)=(fun (i:Nat)=>(i:Int)) 0 from rfl];rw[QK (l:=s.2.2) (fun (i:Nat)=>(i:Int)) (fun f=>if dO f=0 then none else some (some (dO f))) () (by unfold fK;omega)]
   ·have e:s.2.2.findSome? (fun f=>if dO f=0 then none else some (some (dO f)))=(uQ s.2.2).map some:=by
     unfold uQ
     induction s.2.2 with
     |nil=>rfl
     |cons f l B=>simp only[List.findSome?_cons];by_cases h:dO f=0<;>simp[h,B]
    rw[e];cases hf:uQ s.2.2 with
    |none=>simp
    |some e=>have:=We hf;simp[this]
   ·rintro C x D h;rw[h];simp only[pP,XX,mZ,cM,BZ];rw[u6 (by have:=congrArg List.length h;simp at this;omega)];by_cases A:dO x=0<;>simp[A]
   ·simp[dT]
def Wg(f:fL):Prop:=f.2.1.length<=1000/\f.2.2.length<=1000
theorem Wh{f:fL}(h:dO f=0):Wg f:=by
 unfold dO at h;split at h
 ·rename_i u;unfold eB at u;unfold Wg;split at u
  ·simp at u
  ·split at u
   ·simp at u
   ·omega
 ·exact absurd h (by assumption)
theorem Kx{s:uR}(h:jK s=0):(0<=s.1/\s.1<=2147483647)/\(0<=s.2.1/\s.2.1<=2147483647)/\s.2.2.length<=64/\∀f∈s.2.2,Wg f:=by
 unfold jK at h;split at h
 ·simp at h
 ·rename_i u;simp only[vj,Bool.or_eq_false_iff] at u;split at h
  ·simp at h
  ·rename_i C;refine⟨p5.1 u.1,p5.1 u.2,by omega,fun f B=>Wh ?_⟩;have A:uQ s.2.2=none:=by
    cases hf2:uQ s.2.2 with
    |none=>rfl
    |some e=>rw[hf2] at h;exact absurd h (We hf2)
   have:=List.findSome?_eq_none_iff.1 A f B;by_cases z:dO f=0
   ·exact z
   ·simp[z] at this
theorem Wi(l:List fL)(hl:l.length<=64)(h:∀f∈l,Wg f):rZ l=some l:=by
 unfold rZ;rw[show ((0:Int),([]:List fL))=(fun (i:Nat) (acc:List fL)=>((i:Int),acc)) 0 [] from rfl];rw[E4 (l:=l) (fun (i:Nat) (acc:List fL)=>((i:Int),acc)) (fun i acc=>acc.length=i) [] (fun _ f acc=>acc++[f]) id (by unfold fK;omega) rfl]
 ·have:∀(l:List fL) (i:Nat) (acc:List fL),(l.zipIdx i).foldl (fun acc x=>acc++[x.1]) acc=acc++l:=by
   intro l
   induction l with
   |nil=>intro i acc;simp
   |cons x l G=>intro i acc;rw[aCk,V6,G];simp
  rw[this];rfl
 ·intro u x A acc z F;have B:=h x (by rw[z];simp);have H:u.length<64:=by have:=congrArg List.length z;simp at this;omega
  have C:cm .lss (u.length:Int) (l.length:Int)=true:=by rw[z];exact pP u x A
  have D:Sw.idx l (u.length:Int)=some x:=by rw[z];exact mZ u x A
  have E:mX x=some x:=by
   unfold mX lF aP;unfold Wg at B;rw[VU _ _ (by simp;omega),VU _ _ (by simp;omega)];rfl
  simp only[C,D,E,XX,cM];rw[VU _ _ (by simp;omega),u6 (by omega)];exact⟨rfl,by simp[F]⟩
 ·intro acc _;simp only[dT,pF];rfl
end Go.XA
namespace Go.XA
open Go.Pl
open Go Go.Sw Go.Mo
theorem M3{α:Type}(l:List α)(n:Nat)(h:n<=l.length):Sw.sub l (n:Int) (l.length:Int)=some (l.drop n):=by
 unfold Sw.sub;rw[XC (by omega)];simp
theorem N3{a c:Int}(h1:0<=a/\a<=2147483647)(h2:0<=c/\c<=2147483647):eB ((0:Int),[a,c],([]:List aQ))=0/\Good ((0:Int),[a,c],([]:List aQ)):=by
 have e:eB ((0:Int),[a,c],([]:List aQ))=0:=by
  unfold eB;simp[p5.2 h1,p5.2 h2]
 exact⟨e,qP e (fun b h=>by simp at h)⟩
end Go.XA
namespace Go.XA
open Go.Pl
open Go Go.Sw Go.Mo
def Cf{A B:Type}(g:Nat->A->B->Option B):Nat->B->List A->Option B
 |_,acc,[]=>some acc
 |i,acc,x::l=>(g i x acc).bind fun h=>Cf g (i+1) h l
theorem QL{α A B β γ:Type}{step:α->Option (Step α (Ex β γ))}{l:List A}{k:β->Option γ}(st:Nat->B->α)(I:Nat->B->Prop)(ZF:B)(g:Nat->A->B->Option B)(ex:Ex β γ)(fin:B->β)(hf:l.length<fK)(h0:I 0 ZF)
  (hs:∀pre x rest acc,l=pre++x::rest->I pre.length acc->step (st pre.length acc)=some (match g pre.length x acc with | some YB=> .next (st (pre.length+1) YB) | none=> .done ex)/\∀YB,g pre.length x acc=some YB->I (pre.length+1) YB)
  (he:∀acc,I l.length acc->step (st l.length acc)=some (.done (.WT (fin acc)))):
  lp step (st 0 ZF) k=(Cf g 0 ZF l).elim (out k ex) (fun acc=>k (fin acc))/\∀acc,Cf g 0 ZF l=some acc->I l.length acc:=by
 have E:∀(rest pre:List A) (f:Nat) (acc:B),l=pre++rest->rest.length<f->I pre.length acc->loop step f (st pre.length acc)=some ((Cf g pre.length acc rest).elim ex (fun acc=> .WT (fin acc)))/\∀YB,Cf g pre.length acc rest=some YB->I l.length YB:=by
  intro rest
  induction rest with
  |nil=>
   intro pre f acc u hf z;obtain⟨f,rfl⟩:∃f',f=f'+1:=⟨f - 1,by simp at hf;omega⟩
   rw[ai] at u;rw[<-u] at z ⊢;exact⟨by simp[loop,he acc z,Cf],fun YB h=>by simp only[Cf,B1] at h;rw[<-h];exact z⟩
  |cons x rest F=>
   intro pre f acc u hf z;obtain⟨f,rfl⟩:∃f',f=f'+1:=⟨f - 1,by simp at hf;omega⟩
   obtain⟨C,D⟩:=hs pre x rest acc u z;simp only[loop,C,Cf];cases hg:g pre.length x acc with
   |none=>exact⟨by simp,fun YB h=>by simp at h⟩
   |some YB=>
    have:=F (pre++[x]) f YB (by rw[u];simp) (by simp at hf;omega) (by simpa using D YB hg);simpa using this
 obtain⟨C,D⟩:=E l [] fK ZF rfl hf h0;refine⟨?_,D⟩;unfold lp;simp only[X3] at C;rw[C];cases Cf g 0 ZF l with
 |none=>cases ex<;>rfl
 |some _=>rfl
def WW(s:uR)(i:Nat)(f:fL):fL:=(1,[s.1,s.2.1+(i:Int),f.1]++f.2.1,f.2.2)
def Rk(s:uR)(i:Nat)(f:fL)(acc:List (List Int)):Option (List (List Int)):=if s.2.1+(i:Int)>2147483647 then none else some (acc++[bM (WW s i f)])
theorem p4{f:fL}(h:dO f=0):eB f=0/\f.2.1.length<=9:=by
 unfold dO at h;split at h
 ·rename_i u;refine⟨u,?_⟩;split at h
  ·simp at h
  ·omega
 ·exact absurd h (by assumption)
theorem D4{s:uR}{i:Nat}{f:fL}(h1:0<=s.1/\s.1<=2147483647)(h2:0<=s.2.1)(hi:s.2.1+(i:Int)<=2147483647)(hf:dO f=0)(hb:∀b∈f.2.2,b.length=8/\Bytes b):eB (WW s i f)=0/\Good (WW s i f):=by
 obtain⟨E,G⟩:=p4 hf;have g:=qP E hb;have e:eB (WW s i f)=0:=by
  have h:f.2.1.any wU=false:=by
   rw[aEq];intro n D;have:=p5.2 (g.num n D);simp[this]
  have u:=p5.2 h1;have z:wU (s.2.1+(i:Int))=false:=p5.2 ⟨by omega,hi⟩;have A:wU f.1=false:=p5.2 ⟨g.s0,by have:=g.s1;omega⟩;have F:=g.bs;unfold eB WW;have B:¬((1:Int)<0\/(1:Int)>15):=by omega
  have C:¬(([s.1,s.2.1+(i:Int),f.1]++f.2.1).length>12\/f.2.2.length>32):=by simp;omega
  simp only[B,C,l7];simp[u,z,A,h]
 exact⟨e,qP e hb⟩
def VM(s:uR):Prop:=∀f∈s.2.2,dO f=0/\∀b∈f.2.2,b.length=8/\Bytes b
def Uc(s:uR):List fL:=s.2.2.take (min s.2.2.length 4)
theorem QM{s:uR}{pre rest:List fL}{x:fL}(h:Uc s=pre++x::rest):pre.length<min s.2.2.length 4/\s.2.2[pre.length]? =some x/\x∈s.2.2:=by
 have z:pre.length<min s.2.2.length 4:=by have:=congrArg List.length h;simp[Uc] at this;omega
 have u:(Uc s)[pre.length]? =some x:=by rw[h];simp
 unfold Uc at u;rw[List.getElem?_take,XC z] at u;exact⟨z,u,aB7 u⟩
theorem NR(s:uR):(Uc s).length=min s.2.2.length 4:=by simp[Uc]
theorem CA(s:uR)(h0:jK s=0)(hq:VM s):pG s=(Cf (Rk s) 0 [] (Uc s)).elim (some ([],some 1)) (fun acc=>some (acc,none))/\
  ∀acc,Cf (Rk s) 0 [] (Uc s)=some acc->acc.length=(Uc s).length/\∀x∈acc,x.length<=1000000:=by
 obtain⟨O,P,S,T⟩:=Kx h0;unfold pG;rw[j3,XC h0,cM];have F:Sw.sub s.2.2 (0:Int) (min (s.2.2.length:Int) (4:Int))=some (Uc s):=by
  unfold Sw.sub Uc;rw[XC (by omega)];simp;omega
 rw[F];simp only[j7,pF,cM];refine QL (l:=Uc s) (fun (i:Nat) (acc:List (List Int))=>((i:Int),acc)) (fun i acc=>acc.length=i/\∀x∈acc,x.length<=1000000) [] (Rk s) (.ret ([],some 1)) id (by rw[NR];unfold fK;omega) ⟨rfl,fun x B=>by simp at B⟩ ?_ ?_
 ·intro u x C acc h D;obtain⟨U,V,A⟩:=QM h;have G:cm .lss (u.length:Int) ((Uc s).length:Int)=true:=by rw[h];exact pP u x C
  have H:Sw.idx (Uc s) (u.length:Int)=some x:=by rw[h];exact mZ u x C
  have I:ar .add .i64 s.2.1 (u.length:Int)=s.2.1+(u.length:Int):=j5 (by omega);simp only[G,H,I,XX,cM,cg,Rk];by_cases c:s.2.1+(u.length:Int)>2147483647
  ·simp[c]
  ·obtain⟨Q,E⟩:=D4 (i:=u.length) O P.1 (by omega) (hq x A).1 (hq x A).2;have B:=p4 (hq x A).1;have K:Sw.app ([s.1,s.2.1+(u.length:Int),x.1]:List Int) x.2.1=some ([s.1,s.2.1+(u.length:Int),x.1]++x.2.1):=VU _ _ (by simp;omega);have L:mW ((1:Int),[s.1,s.2.1+(u.length:Int),x.1]++x.2.1,x.2.2)=some (bM (WW s u.length x),none):=Fb E Q;have M:Sw.app acc [bM (WW s u.length x)]=some (acc++[bM (WW s u.length x)]):=VU _ _ (by simp;omega);simp only[c,D5,pF,l7,K,L,M,cM,j7];rw[u6 (by omega)];refine⟨rfl,fun R N=>?_⟩;cases N;refine⟨by simp[D.1],fun y z=>?_⟩;rcases N9.1 z with z | z
   ·exact D.2 y z
   ·simp at z;subst z;exact Ze E
 ·intro acc _;simp only[dT,pF];rfl
end Go.XA
namespace Go.XA
open Go.Pl
open Go Go.Sw Go.Mo
theorem Zg{l:List fL}(h:∀f∈l,dO f=0):uQ l=none:=by
 unfold uQ;rw[List.findSome?_eq_none_iff];intro f u;rw[XC (h f u)]
variable {S M:Nat}
theorem ZT{f:fL}:bM f≠ []:=by unfold bM body Ii;simp
theorem Ob{f:fL}:HR (bM f)=some ():=by
 unfold HR;rw[WV];intro h;exact ZT (List.isEmpty_iff.1 h)
end Go.XA
namespace Go.lz
open Go.Pl
open Go Go.Sw Go.Mo
def Rl:Nat:=18446744073709551616
theorem Wj(n:Nat):IntKind.wrap .u64 (n:Int)=((n % Rl:Nat):Int):=by
 simp[IntKind.wrap,IntKind.signed,IntKind.bits,Rl]
theorem TB{a b:Nat}(ha:a<Rl)(hb:b<Rl):ar .xor .u64 (a:Int) (b:Int)=((a ^^^ b:Nat):Int):=by
 have h:a ^^^ b<2 ^ 64:=aCd (by simpa[Rl] using ha) (by simpa[Rl] using hb);show IntKind.wrap .u64 ((BitVec.ofInt 64 (a:Int) ^^^ BitVec.ofInt 64 (b:Int)).toNat:Int)=_;simp only[sC,aEu,aB8];rw[R5 (by simpa[Rl] using ha),R5 (by simpa[Rl] using hb),Wj,R5 (by simpa[Rl] using h)]
theorem UZ{a b:Nat}:ar .mul .u64 (a:Int) (b:Int)=((a*b % Rl:Nat):Int):=by
 show IntKind.wrap .u64 ((a:Int)*(b:Int))=_;rw[show (a:Int)*(b:Int)=((a*b:Nat):Int) from by push_cast;rfl,Wj]
def PC:Nat:=1099511628211
def TC(h b:Nat):Nat:=(h ^^^ b)*PC % Rl
theorem JI(h b:Nat):TC h b<Rl:=nj _ (by decide)
def JJ(l:List Int):Nat:=(nat l).foldl TC 14695981039346656037
theorem JK(l:List Nat)(h:Nat)(hh:h<Rl):l.foldl TC h<Rl:=by
 induction l generalizing h with
 |nil=>exact hh
 |cons x l u=>exact u _ (JI _ _)
theorem CB(l:List Int):JJ l<Rl:=JK _ _ (by decide)
theorem Rm{A B:Type}(f:B->A->B):∀(l:List A) (i:Nat) (b:B),(l.zipIdx i).foldl (fun acc x=>f acc x.1) b=l.foldl f b
 | [],_,_=>rfl
 |x::l,i,b=>by simp only[aCk,V6];exact Rm f l (i+1) _
theorem Rn(l:List Int)(h:Bytes l)(hl:l.length<=1000000):qH l=some (JJ l:Int):=by
 unfold qH;rw[show ((14695981039346656037:Int),(0:Int))=(fun (i:Nat) (r:Nat)=>((r:Int),(i:Int))) 0 14695981039346656037 from rfl];rw[E4 (l:=l) (fun (i:Nat) (r:Nat)=>((r:Int),(i:Int))) (fun _ r=>r<Rl) 14695981039346656037 (fun _ x r=>TC r x.toNat) (fun r=>(r:Int)) (by unfold fK;omega) (by decide)]
 ·rw[Rm (fun r (x:Int)=>TC r x.toNat)];simp only[JJ,nat,List.foldl_map]
 ·rintro z x C r rfl A;have B:=h x (by simp);obtain⟨b,rfl⟩:∃b:Nat,x=(b:Int):=⟨x.toNat,by omega⟩
  have u:b<Rl:=by unfold Rl;omega
  refine⟨?_,JI _ _⟩;simp only[pP,XX,mZ,cM,TB A u];rw[show (1099511628211:Int)=((PC:Nat):Int) from rfl,UZ,IA (n:=z.length) (m:=1000000) (by simp at hl;omega) (by omega)];rfl
 ·intro acc _;simp only[dT,pF]
def Xx(h:Int):List Int:=(List.range 8).map fun j=>((h.toNat / 2 ^ (56 - 8*j) % 256:Nat):Int)
theorem EI(h:Int):Bytes (Xx h):=by
 intro x u;simp only[Xx,dj] at u;obtain⟨j,_,rfl⟩:=u;have:=nj (h.toNat / 2 ^ (56 - 8*j)) (show 0<256 by decide);omega
theorem Mb(h:Int):(Xx h).length=8:=by simp[Xx]
def Ro(l:List Int):List Int:=1::l.flatMap Xx
theorem w8{A:Type}(f:A->List Int)(l:List A)(h:∀x∈l,Bytes (f x)):Bytes (l.flatMap f):=by
 intro y u;obtain⟨x,z,u⟩:=aD7.1 u;exact h x z y u
theorem Wk(l:List Int):Bytes (Ro l):=by
 intro y h;rcases q9.1 h with rfl | h
 ·decide
 ·exact w8 Xx l (fun x _=>EI x) y h
theorem JL{A:Type}(f:A->List Int)(m:Nat)(l:List A)(h:∀x∈l,(f x).length=m):(l.flatMap f).length=l.length*m:=by
 induction l with
 |nil=>simp
 |cons x l z=>
  rw[aEr,sM,h x (by simp),z (fun y u=>h y (by simp[u])),D9,L6,qz,aDf]
theorem EJ(l:List Int):(Ro l).length=1+l.length*8:=by
 rw[Ro,D9,JL Xx 8 l (fun x _=>Mb x)];omega
def EK(l:List Int):Int:=(JJ (Ro l):Int)
def pz(l:List Int):Prop:=∀x∈l,0<=x/\x<18446744073709551616
theorem QN(l:List Int):0<=EK l/\EK l<18446744073709551616:=by
 have:=CB (Ro l);unfold EK;unfold Rl at this;omega
theorem aM9(n k:Nat)(hk:k<=64):sh .shr .u64 (n:Int) (k:Int)=((n / 2 ^ k:Nat):Int):=by
 show Int.fdiv _ _=_;have:min (k:Int).toNat (IntKind.bits .u64)=k:=by simp[IntKind.bits];omega
 rw[this];rw[wq _ (by exact aEe (aEz (by decide)))]
 norm_cast
theorem NS(l:List Int)(hu:pz l)(hl:l.length<=1000):uB l=some (EK l):=by
 unfold uB;rw[show ((0:Int),([(1:Int)]:List Int))=(fun (i:Nat) (r:List Int)=>((i:Int),r)) 0 [1] from rfl];rw[E4 (l:=l) (fun (i:Nat) (r:List Int)=>((i:Int),r)) (fun i r=>r.length<=1+8*i) [1] (fun _ x r=>r++Xx x) (fun r=>r) (by unfold fK;omega) (by simp)]
 ·rw[ZX Xx l 0 [1]];have: [1]++l.flatMap Xx=Ro l:=rfl;rw[this,Rn _ (Wk l) (by rw[EJ];omega)];rfl
 ·rintro h x H r rfl I;have F:=hu x (by simp);obtain⟨b,rfl⟩:∃b:Nat,x=(b:Int):=⟨x.toNat,by omega⟩
  have G:h.length<=1000:=by simp at hl;omega
  refine⟨?_,by simp[Mb];omega⟩;simp only[pP,XX,mZ,cM];rw[show ((56:Int),r)=(fun i:Nat=>((56:Int) - 8*i,r++(Xx b).take i)) 0 from by simp];rw[Vi (fun i:Nat=>((56:Int) - 8*i,r++(Xx b).take i)) 8 (r++Xx b) (by unfold fK;omega)]
  ·rw[IA (n:=h.length) (m:=1000000) (by omega) (by omega)]
  ·intro i E;have u:((56:Int) - 8*(i:Int))=((56 - 8*i:Nat):Int):=by omega
   have z:cm .geq ((56:Int) - 8*(i:Int)) 0=true:=by unfold cm;simp;omega
   have A:nn ((56:Int) - 8*(i:Int))=some ():=by unfold nn;rw[XC (by omega)]
   have B:ar .sub .i64 ((56:Int) - 8*(i:Int)) 8=(56:Int) - 8*((i+1:Nat):Int):=by
    show IntKind.wrap .i64 _=_;rw[wrap_i64 (by omega)];push_cast;omega
   have C:IntKind.wrap .u8 (sh .shr .u64 (b:Int) ((56:Int) - 8*(i:Int)))=((b / 2 ^ (56 - 8*i) % 256:Nat):Int):=by
    rw[u,aM9 _ _ (by omega)];simp[IntKind.wrap,IntKind.signed,IntKind.bits]
   have D:(Xx b).take (i+1)=(Xx b).take i++[((b / 2 ^ (56 - 8*i) % 256:Nat):Int)]:=by
    rw[List.take_add_one];congr 1;simp only[Xx];rw[ly,List.getElem?_range E];simp
   simp only[z,XX,A,cM,C];rw[VU _ _ (by simp[Mb];omega),cM,B,D,E0]
  ·have:cm .geq ((56:Int) - 8*((8:Nat):Int)) 0=false:=by decide
   simp only[this,pF];rw[aCa (by rw[Mb];omega)]
 ·intro acc _;simp only[dT,pF]
def Wl(l:List Int):List Int:=(Sw.chunks 4 l).map EK
theorem Zh{α:Type}{n:Nat}{xs c:List α}(h:c∈Sw.chunks n xs):∃k,c=(xs.drop (k*n)).take n:=by
 simp only[Sw.chunks,dj] at h;obtain⟨k,_,rfl⟩:=h;exact⟨k,rfl⟩
theorem pz.sub{l c:List Int}(h:pz l)(hs:∀x∈c,x∈l):pz c:=fun x u=>h x (hs x u)
theorem CC{l c:List Int}(h:pz l)(hc:c∈Sw.chunks 4 l):pz c/\c.length<=4:=by
 obtain⟨k,rfl⟩:=Zh hc;exact⟨h.sub fun x u=>aDs (aCp u),by simp;omega⟩
theorem CD{ι α:Type}{f:ι->Option α}{g:ι->α}:∀(its:List ι) (acc:List α),(∀i∈its,f i=some (g i))->acc.length+its.length<=1000000->
  bz (δ:=Empty) (fun i acc=>(f i).bind fun v=>(Sw.app acc [v]).bind fun a=>some (.next a)) its acc=some (.WT (acc++its.map g))
 | [],acc,_,_=>by simp[bz]
 |i::is,acc,h,u=>by
  simp only[bz,h i (by simp),cM];rw[VU _ _ (by simp at u ⊢;omega)];simp only[cM];rw[CD is _ (fun j z=>h j (by simp[z])) (by simp at u ⊢;omega)];simp
theorem Fy{α:Type}(n:Nat)(xs:List α):(Sw.chunks n xs).length=(xs.length+n - 1) / n:=by simp[Sw.chunks]
theorem JN(l:List Int)(hu:pz l)(hl:l.length<=1000):sA l=some (Wl l):=by
 unfold sA iL;have u:cm .lss (4:Int) 1=false:=by decide
 have z:small l=some ():=by unfold small;rw[XC (by omega)]
 have A:pq 4=some ():=by decide
 simp only[jp,u,pF,cM,z,A,rg];rw[show Int.toNat 4=4 from rfl];rw[CD (f:=uB) (g:=EK) _ _ (fun c h=>NS c (CC hu h).1 (by have:=(CC hu h).2;omega)) (by rw[Fy];simp;omega)];simp[Wl]
theorem TD{a b:Nat}:cm .lss (a:Int) (b:Int)=decide (a<b):=QB
theorem Tk(l:List Int):(Wl l).length=(l.length+3) / 4:=by simp[Wl,Fy]
theorem PD(l:List Int):pz (Wl l):=by
 intro x h;simp only[Wl,dj] at h;obtain⟨c,_,rfl⟩:=h;exact QN c
def Zi:Nat->List Int->List (List Int)
 | 0,_=>[]
 |f+1,l=>if l.length<=1 then [] else Wl l::Zi f (Wl l)
theorem Tl{a b:Nat}:cm .gtr (a:Int) (b:Int)=decide (b<a):=by unfold cm;simp
theorem NT{ab:List Int->Option (List Int)}(hab:∀l,pz l->l.length<=1000->ab l=some (Wl l)):
  ∀(n f:Nat) (l:List Int) (acc:List (List Int)),pz l->l.length<=n->n<=1000->n<f->acc.length+n<=2000->
   loop (fun (s:List Int×List (List Int))=>bif (cm .gtr (s.1.length:Int) (1:Int)) then (ab s.1).bind fun v=>(Sw.app s.2 [v]).bind fun a=>some (.next (v,a)) else (some (.done (.WT s.2)):Option (Step (List Int×List (List Int)) (Ex (List (List Int)) (List (List Int)×Option Int))))) f (l,acc)=some (.WT (acc++Zi n l))/\
   loop (fun (s:List Int×List (List Int))=>bif (cm .gtr (s.1.length:Int) (1:Int)) then (ab s.1).bind fun v=>(Sw.app s.2 [v]).bind fun a=>some (.next (v,a)) else (some (.done (.WT s.2)):Option (Step (List Int×List (List Int)) (Ex (List (List Int)) (List (List Int)))))) f (l,acc)=some (.WT (acc++Zi n l)):=by
 intro n
 induction n with
 |zero=>
  intro f l acc _ u _ z _;obtain⟨f,rfl⟩:∃f',f=f'+1:=⟨f - 1,by omega⟩
  have:cm .gtr (l.length:Int) 1=false:=by rw[show (1:Int)=((1:Nat):Int) from rfl,Tl];simp;omega
  simp[loop,this,Zi]
 |succ n D=>
  intro f l acc A u F z G;obtain⟨f,rfl⟩:∃f',f=f'+1:=⟨f - 1,by omega⟩
  by_cases h:l.length<=1
  ·have:cm .gtr (l.length:Int) 1=false:=by rw[show (1:Int)=((1:Nat):Int) from rfl,Tl];simp;omega
   simp[loop,this,Zi,h]
  ·have:cm .gtr (l.length:Int) 1=true:=by rw[show (1:Int)=((1:Nat):Int) from rfl,Tl];simp;omega
   have E:=Tk l;obtain⟨B,C⟩:=D f (Wl l) (acc++[Wl l]) (PD l) (by omega) (by omega) (by omega) (by simp;omega);simp only[loop,this,XX,hab l A (by omega),cM,VU acc [Wl l] (by simp;omega),Zi,WV h];rw[B,C];simp
def leaf(b:aQ):Int:=(JJ (0::b):Int)
def leaves(bs:List aQ):List Int:=bs.map leaf
theorem Wm(bs:List aQ):pz (leaves bs):=by
 intro x h;simp only[leaves,dj] at h;obtain⟨b,_,rfl⟩:=h;have:=CB (0::b);unfold leaf;unfold Rl at this;omega
def tree(bs:List aQ):List (List Int):=leaves bs::Zi bs.length (leaves bs)
def VA(bs:List aQ):Prop:=∀b∈bs,b.length=8/\Bytes b
theorem NU{b:aQ}(h:b.length=8/\Bytes b):wE b=some (leaf b):=by
 unfold wE;rw[VU _ _ (by simp;omega),cM,Rn _ (by intro x u;simp at u;rcases u with rfl | u;decide;exact h.2 x u) (by simp;omega)];rfl
theorem foldl_map{A B:Type}(f:A->B):∀(l:List A) (i:Nat) (acc:List B),(l.zipIdx i).foldl (fun acc x=>acc++[f x.1]) acc=acc++l.map f
 | [],_,_=>by simp
 |x::l,i,acc=>by simp only[aCk,V6];rw[foldl_map f l];simp
theorem aNc(bs:List aQ)(hb:VA bs)(hl:bs.length<=1000):Ab bs=some (if bs.length<1\/bs.length>32 then ([],some 1) else (tree bs,none)):=by
 unfold Ab;rw[show (1:Int)=((1:Nat):Int) from rfl,show (32:Int)=((32:Nat):Int) from rfl,TD,Tl];by_cases h:bs.length<1
 ·simp[h]
 ·by_cases u:bs.length>32
  ·have:(32<bs.length):=u;simp[h,this]
  ·have z:¬32<bs.length:=u;simp only[h,z,D5,pF,cM];rw[show ((0:Int),([]:List Int))=(fun (i:Nat) (r:List Int)=>((i:Int),r)) 0 [] from rfl];rw[E4 (l:=bs) (fun (i:Nat) (r:List Int)=>((i:Int),r)) (fun i r=>r.length=i) [] (fun _ x r=>r++[leaf x]) (fun r=>r) (by unfold fK;omega) rfl]
   ·rw[foldl_map leaf bs 0 []];have A:=(NT (ab:=sA) JN bs.length fK (leaves bs) [leaves bs] (Wm bs) (by simp[leaves]) (by omega) (by unfold fK;omega) (by simp;omega)).1;rw[show []++bs.map leaf=leaves bs from rfl];have B:((1:Nat):Int)=1:=rfl;simp only[B];unfold lp;rw[A];simp[tree]
   ·rintro C x E r rfl D;refine⟨?_,by simp[D]⟩;simp only[pP,XX,mZ,cM];rw[NU (hb x (by simp)),cM,VU _ _ (by simp at hl ⊢;omega),cM,show ((1:Nat):Int)=1 from rfl,IA (n:=C.length) (m:=1000000) (by simp at hl;omega) (by omega)]
   ·intro acc _;simp only[dT,pF]
def Goes:List (List Int)->Prop
 | []=>False
 | [l]=>l.length=1
 |l::m::t=>1<l.length/\m=Wl l/\Goes (m::t)
theorem Wn:∀(n:Nat) (l:List Int),1<=l.length->l.length<=n->Goes (l::Zi n l)
 | 0,l,u,z=>by omega
 |n+1,l,u,z=>by
  simp only[Zi];by_cases h:l.length<=1
  ·simp[h,Goes];omega
  ·rw[WV h];have:=Tk l;exact⟨by omega,rfl,Wn n (Wl l) (by omega) (by omega)⟩
theorem CE:∀(n:Nat) (l:List Int),(Zi n l).length<=n
 | 0,l=>by simp[Zi]
 |n+1,l=>by
  simp only[Zi];split
  ·simp
  ·have:=CE n (Wl l);simp;omega
theorem Goes.at:∀{t:List (List Int)},Goes t->∀(pre rest:List (List Int)) (l:List Int),t=pre++l::rest->(rest=[]/\l.length=1)\/(∃m r,rest=m::r/\1<l.length/\m=Wl l)
 | [],h,_,_,_,_=>h.elim
 | [l0],h,pre,rest,l,e=>by
  cases pre with
  |nil=>simp at e;obtain⟨rfl,rfl⟩:=e;exact .inl ⟨rfl,h⟩
  |cons p pre=>simp at e
 |l0::m0::t,h,pre,rest,l,e=>by
  cases pre with
  |nil=>simp at e;obtain⟨rfl,rfl⟩:=e;exact .inr ⟨m0,t,rfl,h.1,h.2.1⟩
  |cons p pre=>simp at e;exact Goes.at h.2.2 pre rest l e.2
theorem Goes.ne{t:List (List Int)}(h:Goes t):t≠ []:=by rintro rfl;exact h
theorem PE:∀(n:Nat) (l:List Int) (m:Nat),l.length<=m->∀x∈Zi n l,pz x/\x.length<=m
 | 0,l,m,h,x,u=>by simp[Zi] at u
 |n+1,l,m,h,x,u=>by
  simp only[Zi] at u;split at u
  ·simp at u
  ·have z:=Tk l;rcases q9.1 u with rfl | u
   ·exact⟨PD l,by omega⟩
   ·exact PE n (Wl l) m (by omega) x u
theorem sc(bs:List aQ)(h:bs.length<=32):∀l∈tree bs,pz l/\l.length<=32:=by
 intro l u;rcases q9.1 u with rfl | u
 ·exact⟨Wm bs,by simp[leaves];omega⟩
 ·exact PE bs.length (leaves bs) 32 (by simp[leaves];omega) l u
theorem sb(bs:List aQ):(tree bs).length<=bs.length+1:=by
 have:=CE bs.length (leaves bs);simp[tree];omega
theorem nv(bs:List aQ)(h:1<=bs.length):Goes (tree bs):=Wn _ _ (by simp[leaves];omega) (by simp[leaves])
end Go.lz
namespace Go.bC4
open Go.Pl
open Go Go.Sw Go.Mo
end Go.bC4
namespace Go.Mo
open Go Go.Sw
structure PS where
 n:Int
 fn:Int
 XH:Int
 WX:Int
 blocks:(List aQ)
 VW:(Int×(List (Int×aQ))×(List (Int×(List (Int×aQ))))×Bool)
 WS:(List (Int×(List aQ)))
 VQ:Int
 VR:(Int×Int×(List (Int×(List Int)×(List aQ))))
 sent:Int
 safe:Int
 VV:(List Int)
 on:Int
 XL:Int
 WI:Int
 first:Int
 receiver:(Int×Int)
 WH:(List (Bool×Bool×(List Int)))
 o5:Int
 fd:((List aQ)×(List (Int×aQ))×Int)
 g9:Int
 od:((List aQ)×(List (Int×aQ))×Int)
def lJ(a1:Int)(a2:aQ)(s:PS):Option ((Option Int)×PS):=(eW a1 a2 s.n s.fn s.XH s.WX s.blocks s.VW s.WS s.VQ s.VR s.sent s.safe s.VV s.on s.XL s.WI s.first s.receiver s.WH s.o5 s.fd s.g9 s.od).bind fun v=>some (v.1,{ s with blocks:=v.2.1,VW:=v.2.2 })
def oM(a1:Int)(s:PS):Option (aQ×(Option Int)×PS):=(gA a1 s.n s.fn s.XH s.WX s.blocks s.VW s.WS s.VQ s.VR s.sent s.safe s.VV s.on s.XL s.WI s.first s.receiver s.WH s.o5 s.fd s.g9 s.od).bind fun v=>some (v.1,v.2,s)
def qQ(s:PS):Option ((Option Int)×PS):=(fW s.n s.fn s.XH s.WX s.blocks s.VW s.WS s.VQ s.VR s.sent s.safe s.VV s.on s.XL s.WI s.first s.receiver s.WH s.o5 s.fd s.g9 s.od).bind fun v=>some (v.1,{ s with XH:=v.2.1,VW:=v.2.2.1,WS:=v.2.2.2.1,o5:=v.2.2.2.2.1,fd:=v.2.2.2.2.2 })
def fS(s:PS):Option ((Option Int)×PS):=(dE s.n s.fn s.XH s.WX s.blocks s.VW s.WS s.VQ s.VR s.sent s.safe s.VV s.on s.XL s.WI s.first s.receiver s.WH s.o5 s.fd s.g9 s.od).bind fun v=>some (v.1,{ s with VR:=v.2.1,sent:=v.2.2.1,VV:=v.2.2.2.1,WH:=v.2.2.2.2 })
def jN(a1:Int)(s:PS):Option (Int×Bool×PS):=(cD a1 s.n s.fn s.XH s.WX s.blocks s.VW s.WS s.VQ s.VR s.sent s.safe s.VV s.on s.XL s.WI s.first s.receiver s.WH s.o5 s.fd s.g9 s.od).bind fun v=>some (v.1,v.2,s)
def sE(a1:(Int×(List Int)×(List aQ)))(s:PS):Option ((Option Int)×PS):=(fG a1 s.n s.fn s.XH s.WX s.blocks s.VW s.WS s.VQ s.VR s.sent s.safe s.VV s.on s.XL s.WI s.first s.receiver s.WH s.o5 s.fd s.g9 s.od).bind fun v=>some (v.1,{ s with XL:=v.2.1,g9:=v.2.2.1,od:=v.2.2.2 })
def dP(a1:(List Int))(s:PS):Option ((Option Int)×PS):=(cI a1 s.n s.fn s.XH s.WX s.blocks s.VW s.WS s.VQ s.VR s.sent s.safe s.VV s.on s.XL s.WI s.first s.receiver s.WH s.o5 s.fd s.g9 s.od).bind fun v=>some (v.1,{ s with XL:=v.2.1,first:=v.2.2.1,receiver:=v.2.2.2.1,WH:=v.2.2.2.2.1,g9:=v.2.2.2.2.2.1,od:=v.2.2.2.2.2.2 })
def dU(a1:(List Int))(s:PS):Option ((Option Int)×PS):=(cP a1 s.n s.fn s.XH s.WX s.blocks s.VW s.WS s.VQ s.VR s.sent s.safe s.VV s.on s.XL s.WI s.first s.receiver s.WH s.o5 s.fd s.g9 s.od).bind fun v=>some (v.1,{ s with VW:=v.2.1,VQ:=v.2.2.1,VR:=v.2.2.2.1,sent:=v.2.2.2.2.1,safe:=v.2.2.2.2.2.1,VV:=v.2.2.2.2.2.2 })
def iI(a1:(Bool×Bool×(List Int)))(s:PS):Option ((Option Int)×PS):=(dX a1 s.n s.fn s.XH s.WX s.blocks s.VW s.WS s.VQ s.VR s.sent s.safe s.VV s.on s.XL s.WI s.first s.receiver s.WH s.o5 s.fd s.g9 s.od).bind fun v=>some (v.1,{ s with VW:=v.2.1,VQ:=v.2.2.1,VR:=v.2.2.2.1,sent:=v.2.2.2.2.1,safe:=v.2.2.2.2.2.1,VV:=v.2.2.2.2.2.2.1,XL:=v.2.2.2.2.2.2.2.1,first:=v.2.2.2.2.2.2.2.2.1,receiver:=v.2.2.2.2.2.2.2.2.2.1,WH:=v.2.2.2.2.2.2.2.2.2.2.1,g9:=v.2.2.2.2.2.2.2.2.2.2.2.1,od:=v.2.2.2.2.2.2.2.2.2.2.2.2 })
def cV(a1:Int)(s:PS):Option ((Option Int)×PS):=(cT a1 s.n s.fn s.XH s.WX s.blocks s.VW s.WS s.VQ s.VR s.sent s.safe s.VV s.on s.XL s.WI s.first s.receiver s.WH s.o5 s.fd s.g9 s.od).bind fun v=>some (v.1,{ s with VW:=v.2.1,VQ:=v.2.2.1,VR:=v.2.2.2.1,sent:=v.2.2.2.2.1,safe:=v.2.2.2.2.2.1,VV:=v.2.2.2.2.2.2.1,XL:=v.2.2.2.2.2.2.2.1,first:=v.2.2.2.2.2.2.2.2.1,receiver:=v.2.2.2.2.2.2.2.2.2.1,WH:=v.2.2.2.2.2.2.2.2.2.2.1,g9:=v.2.2.2.2.2.2.2.2.2.2.2.1,od:=v.2.2.2.2.2.2.2.2.2.2.2.2 })
def rH(a1:Int)(s:PS):Option ((Option Int)×PS):=(gB a1 s.n s.fn s.XH s.WX s.blocks s.VW s.WS s.VQ s.VR s.sent s.safe s.VV s.on s.XL s.WI s.first s.receiver s.WH s.o5 s.fd s.g9 s.od).bind fun v=>some (v.1,{ s with WH:=v.2 })
def lL(a1:Int)(s:PS):Option ((Option Int)×PS):=(eP a1 s.n s.fn s.XH s.WX s.blocks s.VW s.WS s.VQ s.VR s.sent s.safe s.VV s.on s.XL s.WI s.first s.receiver s.WH s.o5 s.fd s.g9 s.od).bind fun v=>some (v.1,{ s with WH:=v.2 })
def lM(a1:(Int×Int×Int×aQ))(s:PS):Option ((Option Int)×PS):=(eQ a1 s.n s.fn s.XH s.WX s.blocks s.VW s.WS s.VQ s.VR s.sent s.safe s.VV s.on s.XL s.WI s.first s.receiver s.WH s.o5 s.fd s.g9 s.od).bind fun v=>some (v.1,{ s with WH:=v.2 })
def rI(a1:(Int×aQ×Int×Int×Int×(List aQ)))(s:PS):Option ((Int×aQ×Int×Int×Int×(List aQ))×(Option Int)×PS):=(dY a1 s.n s.fn s.XH s.WX s.blocks s.VW s.WS s.VQ s.VR s.sent s.safe s.VV s.on s.XL s.WI s.first s.receiver s.WH s.o5 s.fd s.g9 s.od).bind fun v=>some (v.1,v.2,s)
def nB(a1:(Int×Int×Int×aQ))(s:PS):Option ((Int×aQ×Int×Int×Int×(List aQ))×(Option Int)×PS):=(iA a1 s.n s.fn s.XH s.WX s.blocks s.VW s.WS s.VQ s.VR s.sent s.safe s.VV s.on s.XL s.WI s.first s.receiver s.WH s.o5 s.fd s.g9 s.od).bind fun v=>some (v.1,v.2.1,{ s with n:=v.2.2.1,fn:=v.2.2.2.1,XH:=v.2.2.2.2.1,WX:=v.2.2.2.2.2.1,blocks:=v.2.2.2.2.2.2.1,VW:=v.2.2.2.2.2.2.2.1,WS:=v.2.2.2.2.2.2.2.2.1,VQ:=v.2.2.2.2.2.2.2.2.2.1,VR:=v.2.2.2.2.2.2.2.2.2.2.1,sent:=v.2.2.2.2.2.2.2.2.2.2.2.1,safe:=v.2.2.2.2.2.2.2.2.2.2.2.2.1,VV:=v.2.2.2.2.2.2.2.2.2.2.2.2.2.1,on:=v.2.2.2.2.2.2.2.2.2.2.2.2.2.2.1,XL:=v.2.2.2.2.2.2.2.2.2.2.2.2.2.2.2.1,WI:=v.2.2.2.2.2.2.2.2.2.2.2.2.2.2.2.2.1,first:=v.2.2.2.2.2.2.2.2.2.2.2.2.2.2.2.2.2.1,receiver:=v.2.2.2.2.2.2.2.2.2.2.2.2.2.2.2.2.2.2.1,WH:=v.2.2.2.2.2.2.2.2.2.2.2.2.2.2.2.2.2.2.2.1,o5:=v.2.2.2.2.2.2.2.2.2.2.2.2.2.2.2.2.2.2.2.2.1,fd:=v.2.2.2.2.2.2.2.2.2.2.2.2.2.2.2.2.2.2.2.2.2.1,g9:=v.2.2.2.2.2.2.2.2.2.2.2.2.2.2.2.2.2.2.2.2.2.2.1,od:=v.2.2.2.2.2.2.2.2.2.2.2.2.2.2.2.2.2.2.2.2.2.2.2 })
end Go.Mo
namespace Go.XA
open Go Go.Sw Go.Mo Go.Pl
theorem Zj{a b c:Nat}(h:a ^^^ c=b ^^^ c):a=b:=by
 have:=congrArg (·^^^ c) h;simpa[Nat.xor_assoc] using this
theorem QO{a b c:Nat}(h:c ^^^ a=c ^^^ b):a=b:=by
 rw[Nat.xor_comm c a,Nat.xor_comm c b] at h;exact Zj h
theorem JP{a b:Nat}(ha:a<4294967296)(hb:b<4294967296)(h:Zd a=Zd b):a=b:=by
 have top:∀x:Nat,x<2147483648->2147483648<=x ^^^ Tg:=by
  intro x B;have z:(x ^^^ Tg) / 2 ^ 31 % 2=(x / 2 ^ 31+Tg / 2 ^ 31) % 2:=MV x Tg 31;have u:x / 2 ^ 31=0:=Nat.div_eq_of_lt (by simpa using B);have A:Tg / 2 ^ 31=1:=by decide
  rw[u,A] at z;omega
 unfold Zd at h;by_cases z:a % 2=1
 ·by_cases u:b % 2=1
  ·rw[XC z,XC u] at h;have:=Zj h;omega
  ·rw[XC z,WV u] at h;have:=top (a / 2) (by omega);omega
 ·by_cases u:b % 2=1
  ·rw[WV z,XC u] at h;have:=top (b / 2) (by omega);omega
  ·rw[WV z,WV u] at h;omega
theorem Oc:∀(n:Nat) {a b:Nat},a<4294967296->b<4294967296->Ps n a=Ps n b->a=b
 | 0,_,_,_,_,h=>h
 |n+1,_,_,u,z,h=>Oc n u z (JP (Ma u) (Ma z) h)
theorem TY{r b:Nat}(hr:r<4294967296)(hb:b<256):r ^^^ b<4294967296:=by
 have:r ^^^ b<2 ^ 32:=aCd (by simpa using hr) (by omega);simpa using this
theorem EL{r r' b:Nat}(hr:r<4294967296)(ki:r'<4294967296)(hb:b<256)(h:Af r b=Af r' b):r=r':=
 Zj (Oc 8 (TY hr hb) (TY ki hb) h)
theorem EM{r b b':Nat}(hr:r<4294967296)(hb:b<256)(YJ:b'<256)(h:Af r b=Af r b'):b=b':=
 QO (Oc 8 (TY hr hb) (TY hr YJ) h)
theorem Wo:∀(l:List Nat) {r r':Nat},r<4294967296->r'<4294967296->(∀b∈l,b<256)->l.foldl Af r=l.foldl Af r'->r=r'
 | [],_,_,_,_,_,h=>h
 |b::l,_,_,z,A,u,h=>EL z A (u b (by simp)) (Wo l (Bt z (u b (by simp))) (Bt A (u b (by simp))) (fun c B=>u c (by simp[B])) h)
theorem NV{l:List Nat}{k v:Nat}(hl:∀b∈l,b<256)(hk:k<l.length)(hv:v<256)(ZI:l[k]≠v):Ag (l.set k v)≠Ag l:=by
 intro h;have C:l=l.take k++l[k]::l.drop (k+1):=by rw[<-aCy hk,ak]
 have D:l.set k v=l.take k++v::l.drop (k+1):=by rw[aDx,XC hk]
 unfold Ag at h;rw[D] at h;have A:(l.take k++v::l.drop (k+1)).foldl Af 4294967295=(l.take k++l[k]::l.drop (k+1)).foldl Af 4294967295:=by rw[<-C];exact h
 rw[aC5,aC5,V6,V6] at A;have u:=Ig (l.take k) 4294967295 (by decide) (fun b z=>hl b (aCp z));have B:l[k]<256:=hl _ (ff hk);have E:=Wo (l.drop (k+1)) (Bt u hv) (Bt u B) (fun b z=>hl b (aDs z)) A;exact ZI (EM u hv B E).symm
theorem JR{a b:Nat}(ha:a<4294967296)(hb:b<4294967296)(h:A4 a=A4 b):a=b:=by
 simp only[A4,aC0,aEi] at h;omega
theorem CF{l:List Int}(h:Bytes l):Ag (nat l)<4294967296:=Ig _ _ (by decide) (Ih h)
theorem I7{f:fL}(g:Good f){k:Nat}{v:Int}(hk:k<(bM f).length)(hv:0<=v/\v<=255)(ZI:(bM f)[k]≠v)(hb:Bytes ((bM f).set k v)):eZ ((bM f).set k v)=none:=by
 cases hf:eZ ((bM f).set k v) with
 |none=>rfl
 |some x=>
  exfalso;obtain⟨N,_,h⟩:=Gw hb hf;have E:(body x).length=(body f).length:=by
   have:=congrArg List.length h;simp[bM,A4] at this;omega
  have A:=(rG g).1;have H:=(rG N).1;have O:=CF A;have P:=CF H;by_cases u:k<(body f).length
  ·have e:(bM f).set k v=(body f).set k v++A4 (4294967295 - Ag (nat (body f))):=by unfold bM;rw[List.set_append_left _ _ u]
   rw[e] at h;unfold bM at h;obtain⟨D,z⟩:=List.append_inj h (by simp[E]);have Q:=JR (by omega) (by omega) z;have B:Ag (nat (body x))=Ag (nat (body f)):=by omega
   rw[D] at B;have I:nat ((body f).set k v)=(nat (body f)).set k v.toNat:=by unfold nat;rw[List.map_set]
   rw[I] at B;have K:k<(nat (body f)).length:=by simpa[nat] using u
   refine NV (Ih A) K (by omega) ?_ B;intro M;have L:(nat (body f))[k]=((body f)[k]).toNat:=by simp[nat]
   have C:(bM f)[k]=(body f)[k]:=by simp only[bM];rw[aC7 u]
   have:=A _ (ff u);rw[L] at M;rw[C] at ZI;omega
  ·have e:(bM f).set k v=body f++(A4 (4294967295 - Ag (nat (body f)))).set (k - (body f).length) v:=by unfold bM;rw[List.set_append_right _ _ (by omega)]
   rw[e] at h;unfold bM at h;obtain⟨D,z⟩:=List.append_inj h E;rw[D] at z;have F:k - (body f).length<(A4 (4294967295 - Ag (nat (body f)))).length:=by
    have:(bM f).length=(body f).length+(A4 (4294967295 - Ag (nat (body f)))).length:=by simp[bM]
    omega
   have C:(bM f)[k]=(A4 (4294967295 - Ag (nat (body f))))[k - (body f).length]:=by simp only[bM];rw[List.getElem_append_right (by omega)]
   have G:(A4 (4294967295 - Ag (nat (body f))))[k - (body f).length]? =some v:=by rw[z,aBz F]
   rw[F5 F,B1] at G;exact ZI (by rw[C,G])
theorem aVd{a b:Int}(ha:0<=a/\a<=255)(hb:0<=b/\b<=255):ar .xor .u8 a b=((a.toNat ^^^ b.toNat:Nat):Int):=by
 have u:((a.toNat:Nat):Int)=a:=by omega
 have z:((b.toNat:Nat):Int)=b:=by omega
 have h:a.toNat ^^^ b.toNat<2 ^ 8:=aCd (by omega) (by omega);show IntKind.wrap .u8 ((BitVec.ofInt 8 a ^^^ BitVec.ofInt 8 b).toNat:Int)=_;rw[<-u,<-z];simp only[sC,aEu,aB8,p6];rw[R5 (a:=a.toNat) (by omega),R5 (a:=b.toNat) (by omega),BX (by omega)]
end Go.XA
namespace Go.XA
open Go Go.Sw Go.Mo Go.Pl
def Gx(s:uR):Option fL->uR
 |none=>s
 |some f=>if f.1=0/\f.2.2=[]/\f.2.1.length=2/\f.2.1.getD 0 0=s.1/\s.2.1<f.2.1.getD 1 0/\f.2.1.getD 1 0 - s.2.1<=min (s.2.2.length:Int) 4 then (s.1,f.2.1.getD 1 0,s.2.2.drop (f.2.1.getD 1 0 - s.2.1).toNat) else s
theorem Ai(s:uR)(b:List Int)(hb:Bytes b)(hl:b.length<=2000)(h0:jK s=0):sB s b=some (Gx s (eZ b),none):=by
 obtain⟨X,q2,S,T⟩:=Kx h0;unfold sB;rw[j3,XC h0,cM,Wi _ S T,oJ b hb (by omega)];simp only[j7,pF,cM];cases hf:eZ b with
 |none=>simp[Gx]
 |some f=>
  obtain⟨g,_,_⟩:=Gw hb hf;simp only[j7,pF,cn,cg,Gx];by_cases u:¬(f.1=0)
  ·simp[u]
  have u:=aC6.1 u;by_cases z:¬((f.2.1.length:Int)=2)
  ·have F:f.2.1.length≠2:=fun h=>z (by omega);simp[u,z,F]
  have z:=aC6.1 z;by_cases U:(f.2.2.length:Int)>0
  ·have C:f.2.2≠ []:=pw.1 (by omega);have G:0<f.2.2.length:=by omega
   simp[u,z,G,C]
  have C:f.2.2=[]:=iw (by omega);obtain⟨n0,n1,E⟩:∃n0 n1,f.2.1=[n0,n1]:=by
   match hm:f.2.1,z with
   | [a,c],_=>exact⟨a,c,rfl⟩
   | [],c=>simp at c
   | [_],c=>simp at c
   |_::_::_::_,c=>simp at c;omega
  have H:Sw.idx [n0,n1] (0:Int)=some n0:=by simp[Sw.idx]
  have I:Sw.idx [n0,n1] (1:Int)=some n1:=by simp[Sw.idx]
  have V:0<=n1/\n1<=2147483647:=g.num n1 (by rw[E];simp);have K:((2:Nat):Int)=2:=rfl;have L:(([]:List aQ).length:Int)=0:=rfl;have M:([n0,n1]:List Int).getD 0 0=n0:=rfl;have N:([n0,n1]:List Int).getD 1 0=n1:=rfl;have O:([n0,n1]:List Int).length=2:=rfl;simp only[u,C,E,H,I,K,L,M,N,O,ne_eq,aE0,D5,pF,cM,aEa];rw[show decide ((0:Int)>0)=false from rfl];simp only[pF,cM];by_cases A:¬(n0=s.1)
  ·simp[A]
  have A:=aC6.1 A;have P:ar .sub .i64 n1 s.2.1=n1 - s.2.1:=O3 (by omega);simp only[A,aE0,D5,pF,P,zy,jp,aEa];by_cases B:s.2.1<n1/\n1 - s.2.1<=min (s.2.2.length:Int) 4
  ·have Q:n1 - s.2.1=((n1 - s.2.1).toNat:Int):=by omega
   rw[D8 (show n1 - s.2.1>0 by omega),XX,D8 B.2,cM,XX,XC B];rw[Q,M3 _ _ (by omega),cM,p6]
  ·have R:(bif decide (n1 - s.2.1>0) then some (decide (n1 - s.2.1<=min (s.2.2.length:Int) 4)) else some false)=some false:=by
    by_cases D:n1 - s.2.1>0
    ·rw[D8 D,m6 (fun h=>B ⟨by omega,h⟩)];rfl
    ·rw[m6 D];rfl
   rw[R,cM,pF,WV B]
def Ij(r:Int×Int):Option fL->(Int×Int)×fL×Bool×(Bool×List Int)
 |none=>(r,(0,[],[]),false,(true,[]))
 |some f=>if f.1=1/\3<=f.2.1.length/\f.2.1.getD 0 0=r.1/\f.2.1.getD 2 0<=15 then
   (if f.2.1.getD 1 0=r.2/\r.2<2147483647 then ((r.1,r.2+1),(f.2.1.getD 2 0,f.2.1.drop 3,f.2.2),true,(false,bM ((0:Int),[r.1,r.2+1],([]:List aQ))))
   else (r,(0,[],[]),false,(false,bM ((0:Int),[r.1,r.2],([]:List aQ)))))
  else (r,(0,[],[]),false,(true,[]))
theorem Od(r:Int×Int)(b:List Int)(hb:Bytes b)(hl:b.length<=2000)(h1:0<=r.1/\r.1<=2147483647)(h2:0<=r.2/\r.2<=2147483647):
  oB r b=some ((Ij r (eZ b)).1,(Ij r (eZ b)).2.1,(Ij r (eZ b)).2.2.1,(Ij r (eZ b)).2.2.2,none):=by
 unfold oB;rw[o8,p5.2 h1,p5.2 h2,oJ b hb (by omega)];simp only[Bool.or_self,wo,nm,pF,cM];cases hf:eZ b with
 |none=>simp[Ij]
 |some f=>
  obtain⟨g,_,_⟩:=Gw hb hf;simp only[j7,pF,cn,cg,cl,Ij];by_cases u:¬(f.1=1)
  ·simp[u]
  have u:=aC6.1 u;by_cases A:(f.2.1.length:Int)<3
  ·have G:¬3<=f.2.1.length:=by omega
   simp[u,A,G]
  obtain⟨n0,n1,n2,ns,F⟩:∃n0 n1 n2 ns,f.2.1=n0::n1::n2::ns:=by
   match hm:f.2.1,A with
   |a::c::d::e,_=>exact⟨a,c,d,e,rfl⟩
   | [],c=>simp at c
   | [_],c=>simp at c
   | [_,_],c=>simp at c
  have H:Sw.idx (n0::n1::n2::ns) (0:Int)=some n0:=by simp[Sw.idx]
  have I:Sw.idx (n0::n1::n2::ns) (1:Int)=some n1:=by simp[Sw.idx]
  have K:Sw.idx (n0::n1::n2::ns) (2:Int)=some n2:=by simp[Sw.idx]
  have L:Sw.sub (n0::n1::n2::ns) (3:Int) ((n0::n1::n2::ns).length:Int)=some ns:=M3 (n0::n1::n2::ns) 3 (by simp);have M:(n0::n1::n2::ns).getD 0 0=n0:=rfl;have N:(n0::n1::n2::ns).getD 1 0=n1:=rfl;have O:(n0::n1::n2::ns).getD 2 0=n2:=rfl;have P:(n0::n1::n2::ns).drop 3=ns:=rfl;have Q:3<=(n0::n1::n2::ns).length:=by simp
  rw[F] at A;simp only[u,A,F,H,I,K,L,M,N,O,P,Q,ne_eq,aE0,D5,pF,cM,aEa];by_cases z:¬(n0=r.1)
  ·simp[z]
  have z:=aC6.1 z;by_cases E:n2>15
  ·have:¬n2<=15:=by omega
   simp[z,E,this]
  have R:n2<=15:=by omega
  simp only[z,E,R,aE0,D5,pF,cM,ce,jp,aEa,l6];by_cases B:n1=r.2/\r.2<2147483647
  ·have S:ar .add .i64 r.2 1=r.2+1:=j5 (by omega);obtain⟨e,D⟩:=N3 h1 (c:=r.2+1) (by omega);simp only[B.1,B.2,fa,XX,cM,S,Fb D e,Ob,and_self,l6]
  ·obtain⟨e,D⟩:=N3 h1 h2;have T:(bif decide (n1=r.2) then some (decide (r.2<2147483647)) else some false)=some false:=by
    by_cases C:n1=r.2
    ·have:¬r.2<2147483647:=fun h=>B ⟨C,h⟩;simp[C,this]
    ·simp[C]
   rw[T,WV B];simp only[pF,cM,Fb D e,Ob]
theorem Js{S q:Int}(h0:jK (S,q,[])=0):pG (S,q,[])=some ([],none):=by
 have h:Uc (S,q,[])=[]:=by simp[Uc]
 have:=(CA (S,q,[]) h0 (fun f u=>by simp at u)).1;rw[this,h];rfl
theorem Oe{S q:Int}{m:fL}(h0:jK (S,q,[m])=0)(hq:q<=2147483647)(hm:dO m=0)(hb:∀b∈m.2.2,b.length=8/\Bytes b):
  pG (S,q,[m])=some ([bM (WW (S,q,[m]) 0 m)],none):=by
 have u:Uc (S,q,[m])=[m]:=by simp[Uc]
 have:=(CA (S,q,[m]) h0 (fun f h=>by simp at h;subst h;exact⟨hm,hb⟩)).1;rw[this,u];have z:Rk (S,q,[m]) 0 m []=some [bM (WW (S,q,[m]) 0 m)]:=by
  unfold Rk;rw[WV (by simp;omega)];rfl
 simp[Cf,z]
theorem nC{S q:Int}{l:List fL}(hS:0<=S/\S<=2147483647)(hq:0<=q/\q<=2147483647)(hl:l.length<=64)(h:∀f∈l,dO f=0):jK (S,q,l)=0:=by
 unfold jK;rw[p5.2 hS,p5.2 hq];simp only[Bool.or_self,T3,l7];rw[WV (by omega),Zg h];rfl
theorem Jt{S q:Int}{m:fL}(hS:0<=S/\S<=2147483647)(hq:0<=q/\q<2147483647)(hm:dO m=0):uN (S,q,[]) m=some ((S,q,[m]),none):=by
 have z:jK (S,q,[])=0:=nC hS ⟨hq.1,by omega⟩ (by simp) (fun f h=>by simp at h);unfold uN;rw[j3,XC z,cM];simp only[j7,pF];rw[BZ,XC hm,cM];have A:ar .add .i64 q (([]:List fL).length:Int)=q:=by rw[j5 (by simp;omega)];simp
 have u:=Wh hm;have B:mX m=some m:=by
  unfold mX lF aP;rw[VU _ _ (by have:=u.1;simp;omega),VU _ _ (by have:=u.2;simp;omega)];rfl
 simp only[j7,pF,A,ce,L4];rw[show decide ((([]:List fL).length:Int)=64)=false from rfl,m6 (show¬(q>=2147483647) by omega)];simp only[pF,cM];rw[Wi [] (by simp) (fun f h=>by simp at h)];simp only[cM,B,Sw.app,X3,D9,V7];rfl
end Go.XA
namespace Go.XY
open Go Go.Sw Go.Mo Go.Pl Go.ZA
variable {d:lZ}{blocks:List aQ}{a b n:Nat}
theorem NW(h:oH d blocks a b)(h0:1<=blocks.length)(h1:blocks.length<=32)(ha:a<=2147483647)(hb:b+1<=2147483647):
  ∃d',cZ (blocks.length:Int) d [] (a:Int) (ar .add .i64 (b:Int) (1:Int))=some (none,(blocks.length:Int),d')/\oH d' blocks a (b+1):=by
 rw[u6 (by omega)];have A:Vm blocks.length [] (a:Int) ((b+1:Nat):Int)=0:=by
  unfold Vm;rw[WV (by simp),WV (by omega)];rfl
 obtain⟨d',x',y',u,z,_,_,_,e,s⟩:=yX h h0 h1 [] _ _ A;have u:a=x':=by omega
 have z:b+1=y':=by omega
 subst u z;exact⟨d',e,s⟩
theorem Wp(h:oH d blocks a b)(h0:1<=blocks.length)(h1:blocks.length<=32)(ha:a<=2147483647)(hb:b+1<=2147483647):∃d',oH d' blocks a (b+1)/\
  (∀b0 b1 b2 b3 b4 b5 b6 b7 b8 b9 XG XF XN XB XK XE XJ WZ,jE b0 b1 b2 b3 b4 b5 b6 b7 b8 b9 XG XF XN XB XK XE XJ WZ (blocks.length:Int) d=some (none,(a:Int),((b+1:Nat):Int),(blocks.length:Int),d'))/\
  (∀b0 b1 b2 b3 b4 b5 b6 b7 b8 b9 XG XF XN XB XK XE XJ WZ XV XU,gH b0 b1 b2 b3 b4 b5 b6 b7 b8 b9 XG XF XN XB XK XE XJ WZ XV XU (blocks.length:Int) d=some (none,(a:Int),((b+1:Nat):Int),(blocks.length:Int),d'))/\
  (∀b0 b1 b2 b3 b4 b5 b6 b7 b8 b9 XG XF XN XB XK XE XJ WZ XV XU,iW b0 b1 b2 b3 b4 b5 b6 b7 b8 b9 XG XF XN XB XK XE XJ WZ XV XU (blocks.length:Int) d=some (none,(a:Int),((b+1:Nat):Int),(blocks.length:Int),d')):=by
 obtain⟨d',e,s⟩:=NW h h0 h1 ha hb;have z:=Yz h ha (by omega);have u:ar .add .i64 (b:Int) (1:Int)=((b+1:Nat):Int):=u6 (by omega);rw[u] at e;refine⟨d',s,?_,?_,?_⟩<;>intros
 ·unfold jE;rw[z,cM];simp only[j7,pF,u,e,cM]
 ·unfold gH;rw[z,cM];simp only[j7,pF,u,e,cM]
 ·unfold iW;rw[z,cM];simp only[j7,pF,u,e,cM]
theorem Wq(h:oH d blocks a b)(h0:1<=blocks.length)(h1:blocks.length<=32):iB (blocks.length:Int) d (blocks.length:Int)=some (some ((blocks.length:Int),d),none,(blocks.length:Int),d):=by
 unfold iB;rw[NC h,cM,Ra h h0 h1];rfl
theorem JS(h0:1<=n)(h1:n<=32):jC (n:Int)=some (some ((n:Int),fresh n),none):=by
 unfold jC;rw[EB h0 h1,cM];have:=Ra (Nt h1) (by simpa using h0) (by simpa using h1);simp only[px] at this;simp only[j7,pF,this,cM];rfl
def pU(WS:List (Int×List aQ))(num:Int)(blocks:List aQ):List (Int×List aQ):=Gm ((Hn WS num blocks).getD []) (num - 5)
theorem Ky(WS:List (Int×List aQ))(num:Nat)(hl:blocks.length<=1000)(hn:num<=2147483647)(hp:(Hn WS (num:Int) blocks).isSome=true):
  (∀b0 b1 b3 b5 b7 b8 b9 XG XF XN XB XK XE XJ WZ XV XU,fR b0 b1 (num:Int) b3 blocks b5 WS b7 b8 b9 XG XF XN XB XK XE XJ WZ XV XU=some (pU WS num blocks))/\
  (∀b0 b1 b3 b5 b7 b8 b9 XG XF XN XB XK XE XJ WZ XV XU XT XS,eO b0 b1 (num:Int) b3 blocks b5 WS b7 b8 b9 XG XF XN XB XK XE XJ WZ XV XU XT XS=some (pU WS num blocks)):=by
 obtain⟨q,B⟩:=Option.isSome_iff_exists.1 hp;have h:ar .sub .i64 (num:Int) 4=(num:Int) - 4:=O3 (by omega);have u:ar .sub .i64 ((num:Int) - 4) 1=(num:Int) - 4 - 1:=O3 (by omega);have z:(num:Int) - 4 - 1=(num:Int) - 5:=by omega
 have A:aP blocks=some blocks:=by
  unfold aP;rw[VU _ _ (by simp;omega)];rfl
 refine⟨?_,?_⟩<;>intros
 ·unfold fR pU;rw[A,cM,B,cM,h,u,z];rfl
 ·unfold eO pU;rw[A,cM,B,cM,h,u,z];rfl
end Go.XY
namespace Go.XY
open Go Go.Sw Go.Mo Go.Pl Go.ZA
variable {d:lZ}{blocks:List aQ}{a b n:Nat}
theorem Dp(num:Nat)(blocks:List aQ):pU [] num blocks=[((num:Int),blocks)]:=by
 unfold pU Hn fQ Gm;simp only[aCe,V7,H9,aD2,kp];rw[WV (by omega)];rfl
theorem Ik(h:oH d blocks a b)(h0:1<=blocks.length)(h1:blocks.length<=32)(ha:a<=2147483647)(hb:b+1<=2147483647):∃d',oH d' blocks a (b+1)/\
  (∀b1 b2 b3 b4 b5 b6 b7 b8 b9 XG XF XN XB XK XE XJ WZ,fE (blocks.length:Int) b1 b2 b3 b4 b5 b6 b7 b8 b9 XG XF XN XB XK XE XJ WZ (blocks.length:Int) d=
   some (none,(blocks.length:Int),(a:Int),((b+1:Nat):Int),blocks,((a:Int),[],[],true),[((a:Int),blocks)],-1,(0,0,[]),0,0,[],(blocks.length:Int),d'))/\
  (∀b1 b2 b3 b4 b5 b6 b7 b8 b9 XG XF XN XB XK XE XJ WZ XV XU XT XS,gE (blocks.length:Int) b1 b2 b3 b4 b5 b6 b7 b8 b9 XG XF XN XB XK XE XJ WZ XV XU XT XS (blocks.length:Int) d=
   some (none,(blocks.length:Int),(a:Int),((b+1:Nat):Int),blocks,((a:Int),[],[],true),[((a:Int),blocks)],-1,(0,0,[]),0,0,[],(blocks.length:Int),d')):=by
 obtain⟨d',s,A,_,B⟩:=Wp h h0 h1 ha hb;have u:=xV s;have z:(Hn ([]:List (Int×List aQ)) (a:Int) blocks).isSome=true:=rfl;obtain⟨C,D⟩:=Ky (blocks:=blocks) [] a (by omega) ha z;refine⟨d',s,?_,?_⟩<;>intros
 ·unfold fE;rw[A,cM];simp only[j7,pF];rw[u,cM];simp only[];rw[C,cM,Dp]
 ·unfold gE;rw[B,cM];simp only[j7,pF];rw[u,cM];simp only[];rw[D,cM,Dp]
theorem Il(h:oH d blocks a b)(h0:1<=blocks.length)(h1:blocks.length<=32)(ha:a<=2147483647)(hb:b+1<=2147483647):∃d',oH d' blocks a (b+1)/\
  (∀b1 b2 b3 b4 b5 b6 b7 b8 b9 XG XF XN XB XK XE XJ WZ XV XU,gN (blocks.length:Int) b1 b2 b3 b4 b5 b6 b7 b8 b9 XG XF XN XB XK XE XJ WZ XV XU (blocks.length:Int) d=
   some (none,(blocks.length:Int),(a:Int),((b+1:Nat):Int),-1,(0,0),(blocks.length:Int),d'))/\
  (∀b1 b2 b3 b4 b5 b6 b7 b8 b9 XG XF XN XB XK XE XJ WZ XV XU XT XS,gF (blocks.length:Int) b1 b2 b3 b4 b5 b6 b7 b8 b9 XG XF XN XB XK XE XJ WZ XV XU XT XS (blocks.length:Int) d=
   some (none,(blocks.length:Int),(a:Int),((b+1:Nat):Int),-1,(0,0),(blocks.length:Int),d')):=by
 obtain⟨d',s,_,u,_⟩:=Wp h h0 h1 ha hb;refine⟨d',s,?_,?_⟩<;>intros
 ·unfold gN;rw[u,cM]
 ·unfold gF;rw[u,cM]
def WU(s:PS):=(s.n,s.fn,s.XH,s.WX,s.blocks,s.VW,s.WS,s.VQ,s.VR,s.sent,s.safe,s.VV,s.on,s.XL,s.WI,s.first,s.receiver,s.WH,s.o5,s.fd,s.g9,s.od)
theorem JT(h0:1<=n)(h1:n<=32):∃d1 d2,oH d1 (List.replicate n aR) 0 1/\oH d2 (List.replicate n aR) 0 1/\
  iH (n:Int)=some (some (WU { n:=n,fn:=n,XH:=0,WX:=1,blocks:=List.replicate n aR,VW:=(0,[],[],true),WS:=[(0,List.replicate n aR)],VQ:= -1,VR:=(0,0,[]),sent:=0,safe:=0,VV:=[],on:=n,XL:=0,WI:=1,first:= -1,receiver:=(0,0),WH:=[],o5:=n,fd:=d1,g9:=n,od:=d2 }),none):=by
 have u:=Nt (n:=n) h1;have h:(List.replicate n aR).length=n:=px;obtain⟨d1,s1,z,_⟩:=Ik u (by rw[h];exact h0) (by rw[h];exact h1) (by decide) (by decide);obtain⟨d2,B,A,_⟩:=Il u (by rw[h];exact h0) (by rw[h];exact h1) (by decide) (by decide);rw[h] at z A;refine⟨d1,d2,s1,B,?_⟩;unfold iH;rw[JS h0 h1,cM];simp only[vB,j7,pF,cM];rw[z,cM];simp only[j7,pF];rw[A,cM];rfl
end Go.XY
namespace Go.XY
open Go Go.Sw Go.Mo Go.Pl Go.p7
structure ma (m:Nat) (b:Bd) (now:List aQ) (snaps:List (List aQ)):Prop where
 may:uO b (m:Int)=0
 num:(snaps.length:Int)=b.1+1
 Y2:now.length=m
 len:∀s∈snaps,s.length=m
 open_:Lz (snaps.getD b.1.toNat []) b.2.1=now
 chain:BT snaps b.2.2.1
variable {m:Nat}{b:Bd}{now:List aQ}{snaps:List (List aQ)}
theorem ma.add(h:ma m b now snaps){p:pQ}(hp:0<=p.1/\p.1<m):ma m (b.1,T9 b.2.1 p,b.2.2.1,b.2.2.2) (now.set p.1.toNat p.2) snaps:=by
 obtain⟨E,F,G,H,I,z,K,L,M⟩:=m5 h.may;have B:=ZD m b.2.1 _ z;have C:=ZD m (T9 b.2.1 p) _ (Vo hp z);refine⟨NH h.may hp,h.num,by rw[aCs];exact h.Y2,h.len,?_,h.chain⟩;have D:Lz (snaps.getD b.1.toNat []) (T9 b.2.1 p)=Lz (snaps.getD b.1.toNat []) (b.2.1++[p]):=
  Rd (fun q u=>by have:=C q u;omega) (fun q u=>by
   rcases N9.1 u with u | u
   ·have:=B q u;omega
   ·simp at u;subst u;exact hp.1) fun i=>EE z i
 show Lz (snaps.getD b.1.toNat []) (T9 b.2.1 p)=_;rw[D];have A:=h.open_;unfold Lz at A ⊢;rw[aC5,A];rfl
theorem JU{n base:Int}:∀(l:List Ep) (j:Int),Gr n base j l=true->∀e∈l,e.1<=base+j+l.length - 1
 | [],_,_,e,h=>by simp at h
 |x::l,j,u,e,h=>by
  simp only[Gr] at u;split at u
  ·rename_i z;rcases q9.1 h with rfl | h
   ·simp only[D9];omega
   ·have:=JU l (j+1) u e h;simp only[D9];omega
  ·cases u
theorem ma.shut(h:ma m b now snaps)(hi:b.1<2147483647):ma m (Ce b) now (snaps++[now]):=by
 obtain⟨I,K,L,M,N,O,P,Q,E⟩:=m5 h.may;have H:=h.num;have A:(Ce b).1=b.1+1:=by unfold Ce;split;rfl;split<;>rfl
 have C:(Ce b).2.1=[]:=by unfold Ce;split;rfl;split<;>rfl
 have D:∀e∈b.2.2.1,e.1<=b.1:=fun e u=>by have:=JU _ _ E e u;omega
 have B:BT (snaps++[now]) b.2.2.1:=fun e u=>by
  obtain⟨F,G⟩:=h.chain e u;have:=D e u;exact⟨F,by rw[uP (by omega),uP (by omega)];exact G⟩
 refine⟨IN h.may hi,by rw[A];simp;omega,h.Y2,fun s z=>?_,?_,?_⟩
 ·rcases N9.1 z with z | z
  ·exact h.len s z
  ·simp at z;subst z;exact h.Y2
 ·rw[C,A,Fa (by omega)];rfl
 ·unfold Ce;split
  ·exact B
  ·split
   ·intro e u;simp at u
   ·intro e u;rcases N9.1 u with u | u
    ·exact B e u
    ·simp only[aB9] at u;subst u;refine⟨by simp only;omega,?_⟩;simp only;rw[show b.1+1 - 1=b.1 by omega,uP (by omega),Fa (by omega)];exact h.open_
theorem ma.drop(h:ma m b now snaps){num:Int}(hn:0<=num/\num<=b.1):pO b (m:Int) num=some ((b.1,b.2.1,b.2.2.1.filter (fun e=>decide (num<e.1)),if num=b.1 then false else b.2.2.2),none)/\
  ma m (b.1,b.2.1,b.2.2.1.filter (fun e=>decide (num<e.1)),if num=b.1 then false else b.2.2.2) now snaps:=
 ⟨NI h.may hn,IM h.may hn,h.num,h.Y2,h.len,h.open_,fun e u=>h.chain e (aCj.1 u).1⟩
theorem Ws(hm:1<=m/\m<=32){num:Nat}(hn:snaps.length=num+1)(hb:num<=2147483647)(hl:∀s∈snaps,s.length=m):ma m ((num:Int),[],[],true) (snaps.getD num []) snaps:=by
 refine⟨Ez (by omega) (by simp;omega) (by simp) rfl (by simp) (by simp) rfl,by simp;omega,?_,hl,rfl,fun e h=>by simp at h⟩;rw[R4,F5 (by omega)];exact hl _ (ff _)
theorem Of{n:Int}:∀(A:List (Option pQ)) (j:Nat),(∀(i:Nat) (p:pQ),A[i]? =some (some p)->p.1=((j+i:Nat):Int)/\p.1<n)->∀prev:Int,prev<(j:Int)->Go.j6.n6 n prev (A.filterMap id)=true
 | [],_,_,_,_=>rfl
 |none::A,j,h,prev,B=>by
  simp only[List.filterMap_cons,id];exact Of A (j+1) (fun i p u=>by have:=h (i+1) p (by simpa using u);refine⟨?_,this.2⟩;rw[this.1];congr 1;omega) prev (by omega)
 |some q::A,j,h,prev,B=>by
  have z:=h 0 q rfl;simp only[List.filterMap_cons,id,Go.j6.n6,G7,re];refine⟨by unfold Go.j6.R2;simp;omega,?_⟩;exact Of A (j+1) (fun i p u=>by have:=h (i+1) p (by simpa using u);refine⟨?_,this.2⟩;rw[this.1];congr 1;omega) q.1 (by rw[z.1];omega)
theorem ma.since(h:ma m b now snaps){k:Int}(hk:0<=k/\k<=b.1):nI b (m:Int) k=some ((0,[]),false,none)\/
  ∃ps,nI b (m:Int) k=some ((b.1,ps),true,none)/\Lz (snaps.getD k.toNat []) ps=snaps.getD b.1.toNat []/\Go.j6.n6 (m:Int) (-1) ps=true/\ps.length<=32:=by
 obtain⟨E,F,G,H,I,K,L,M,A⟩:=m5 h.may;rw[gr b m k (ct h.may),WV (by rw[h.may];simp),WV (by omega)];by_cases c:b.1 - k>b.2.2.1.length
 ·rw[XC c];exact .inl rfl
 ·rw[WV c];refine .inr ⟨_,rfl,?_⟩;have u:=Vr (k:=k) (snaps:=snaps) (by omega:(m:Int)<=32) (by omega:b.1 - b.2.2.1.length+1 - 1<=k) (by omega) b.2.2.1 A h.chain;have B:max k (b.1 - b.2.2.1.length+1+b.2.2.1.length - 1)=b.1:=by omega
  rw[B] at u;refine⟨u.1,?_,?_⟩
  ·refine Of _ 0 (fun i p z=>?_) (-1) (by omega);have C:=u.2 i p z;have D:=Zc (n:=(m:Int)) (Ly A) z;exact⟨by simpa using C,D.2⟩
  ·refine fc (List.length_filterMap_le _ _) ?_;rw[Bs];simp
end Go.XY
namespace Go.XY
open Go Go.Sw Go.Mo Go.Pl
open Go.ZA (DY DZ orI orP)
abbrev m9:=Int×Int×Int×aQ
abbrev Fm:=Int×List Int×List aQ
theorem TE{a b:Nat}(ha:a<4611686018427387904)(hb:b<4611686018427387904):ar .and .i64 (a:Int) (b:Int)=((a &&& b:Nat):Int):=by
 have h:a &&& b<2 ^ 62:=Nat.lt_of_le_of_lt Nat.and_le_left (by simpa using ha);show IntKind.wrap .i64 ((BitVec.ofInt 64 (a:Int) &&& BitVec.ofInt 64 (b:Int)).toNat:Int)=_;simp only[sC,aEv,aB8];rw[R5 (a:=a) (by omega),R5 (a:=b) (by omega)];exact wrap_i64 (by omega)
theorem NX{at_ k fr:Nat}(h1:at_<32)(h2:k<4)(h3:fr<64):ar .or .i64 (ar .or .i64 (sh .shl .i64 (at_:Int) (8:Int)) (sh .shl .i64 (k:Int) (6:Int))) (fr:Int)=((at_*256+k*64+fr:Nat):Int):=by
 have h:sh .shl .i64 (at_:Int) (8:Int)=((at_*2 ^ 8:Nat):Int):=DZ (c:=8) (by omega) (by omega);have u:sh .shl .i64 (k:Int) (6:Int)=((k*2 ^ 6:Nat):Int):=DZ (c:=6) (by omega) (by omega);rw[h,u,orI (by omega) (by omega),orP (by omega),orI (by omega) (by omega)];have z:at_*2 ^ 8+k*2 ^ 6=(at_*4+k)*2 ^ 6:=by omega
 rw[z,orP (by omega)]
theorem QP{at_ k fr:Nat}(h1:at_<32)(h2:k<4)(h3:fr<64):sh .shr .i64 ((at_*256+k*64+fr:Nat):Int) (8:Int)=(at_:Int)/\
  ar .and .i64 (sh .shr .i64 ((at_*256+k*64+fr:Nat):Int) (6:Int)) (3:Int)=(k:Int)/\ar .and .i64 ((at_*256+k*64+fr:Nat):Int) (63:Int)=(fr:Int):=by
 have h:sh .shr .i64 ((at_*256+k*64+fr:Nat):Int) (8:Int)=(((at_*256+k*64+fr) / 2 ^ 8:Nat):Int):=DY _ 8 (by omega);have u:sh .shr .i64 ((at_*256+k*64+fr:Nat):Int) (6:Int)=(((at_*256+k*64+fr) / 2 ^ 6:Nat):Int):=DY _ 6 (by omega);have z:ar .and .i64 (((at_*256+k*64+fr) / 2 ^ 6:Nat):Int) (3:Int)=((((at_*256+k*64+fr) / 2 ^ 6) &&& 3:Nat):Int):=TE (b:=3) (by omega) (by omega);have A:ar .and .i64 ((at_*256+k*64+fr:Nat):Int) (63:Int)=(((at_*256+k*64+fr) &&& 63:Nat):Int):=TE (b:=63) (by omega) (by omega);rw[h,u,z,A];have B:∀x:Nat,x &&& 3=x % 4:=fun x=>aDe x 2;have C:∀x:Nat,x &&& 63=x % 64:=fun x=>aDe x 6;rw[B,C];refine⟨?_,?_,?_⟩<;>congr 1<;>omega
def qA(q:m9):Int:=q.1*256+q.2.1*64+q.2.2.1
def uE(l:List m9):List aQ:=(l.filter fun q=>decide (q.2.1=3)).map fun q=>q.2.2.2
structure dn (q:m9):Prop where
 a:0<=q.1/\q.1<32
 k:0<=q.2.1/\q.2.1<=3
 f:0<=q.2.2.1/\q.2.2.1<64
 z:q.2.1≠3->q.2.2.2=aR
def rJ(l:List m9)(ll to:Int):Fm:=((4:Int),[ll,to]++l.map qA,uE l)
theorem JV{q:m9}(h:dn q):ar .or .i64 (ar .or .i64 (sh .shl .i64 q.1 (8:Int)) (sh .shl .i64 q.2.1 (6:Int))) q.2.2.1=qA q:=by
 obtain⟨a,u⟩:∃a:Nat,q.1=a:=⟨q.1.toNat,by have:=h.a;omega⟩
 obtain⟨k,z⟩:∃a:Nat,q.2.1=a:=⟨q.2.1.toNat,by have:=h.k;omega⟩
 obtain⟨f,A⟩:∃a:Nat,q.2.2.1=a:=⟨q.2.2.1.toNat,by have:=h.f;omega⟩
 have B:=h.a;have C:=h.k;have D:=h.f;unfold qA;rw[u,z,A,NX (by omega) (by omega) (by omega)];omega
theorem NY{q:m9}(h:dn q):sh .shr .i64 (qA q) (8:Int)=q.1/\ar .and .i64 (sh .shr .i64 (qA q) (6:Int)) (3:Int)=q.2.1/\ar .and .i64 (qA q) (63:Int)=q.2.2.1:=by
 obtain⟨a,u⟩:∃a:Nat,q.1=a:=⟨q.1.toNat,by have:=h.a;omega⟩
 obtain⟨k,z⟩:∃a:Nat,q.2.1=a:=⟨q.2.1.toNat,by have:=h.k;omega⟩
 obtain⟨f,A⟩:∃a:Nat,q.2.2.1=a:=⟨q.2.2.1.toNat,by have:=h.f;omega⟩
 have B:=h.a;have C:=h.k;have D:=h.f;have:=QP (at_:=a) (k:=k) (fr:=f) (by omega) (by omega) (by omega);unfold qA;rw[u,z,A];have e:(a:Int)*256+(k:Int)*64+(f:Int)=((a*256+k*64+f:Nat):Int):=by omega
 rw[e];exact this
theorem Im(l:List m9)(x:m9):uE (l++[x])=uE l++(if x.2.1=3 then [x.2.2.2] else []):=by
 unfold uE;rw[aB4,aCr];by_cases h:x.2.1=3<;>simp[h]
theorem Wt(l:List m9):(uE l).length<=l.length:=by unfold uE;rw[lx];exact aCx _ _
theorem JX(num ll:Int)(ps:List (Int×aQ))(base:List aQ)(hp:ps.length<=32)(he:Go.j6.YU base []=0)(hr:Go.j6.n6 (base.length:Int) (-1) ps=true)(hk:∀q∈Go.j6.ZQ ps base [],dn q):
  rE (num,ps) base ll=some (rJ (Go.j6.ZQ ps base []) ll num,decide (((2+(Go.j6.ZQ ps base []).length:Nat):Int)<=9)):=by
 unfold rE;rw[Go.j6.ju ps base [] (by omega) (by simp),WV (by rw[he];simp),XC hr,cM];simp only[j7,pF];have A:(Go.j6.ZQ ps base []).length<=32:=fc (Go.j6.Y1 _ _ _) hp;generalize hL:Go.j6.ZQ ps base []=L at hk A;rw[show ((0:Int),([ll,num]:List Int),([]:List aQ))=(fun (i:Nat) (acc:List Int×List aQ)=>((i:Int),acc.1,acc.2)) 0 ([ll,num],[]) from rfl];refine Dk (l:=L) (fun (i:Nat) (acc:List Int×List aQ)=>((i:Int),acc.1,acc.2)) (fun h acc=>acc=([ll,num]++h.map qA,uE h)) (fun acc=>(acc.1,acc.2)) ([ll,num],[]) (by unfold fK;omega) rfl ?_ ?_ ?_
 ·rintro h x E acc z rfl;have C:h.length<=32:=by rw[z] at A;simp at A;omega
  have B:=hk x (by rw[z];simp);have D:=Wt h;refine⟨([ll,num]++(h++[x]).map qA,uE (h++[x])),?_,rfl⟩;simp only[kL z,XX,jZ z,cM,JV B];rw[VU _ _ (by simp;omega),cM,u6 (by omega),ce,Im];by_cases u:x.2.1=3
  ·rw[D8 u,XX,VU _ _ (by simp;omega),cM,XC u];simp
  ·rw[m6 u,pF,WV u];simp
 ·rintro acc rfl;simp only[dT,pF]
 ·rintro acc rfl;simp only[rJ,zy];have e:(([ll,num]++L.map qA).length:Int)=((2+L.length:Nat):Int):=by rw[sM,lx];rfl
  rw[e]
end Go.XY
namespace Go.XY
open Go Go.Sw Go.Mo Go.Pl
theorem Zk(l:List m9)(ll to:Int)(hl:l.length<=32)(hk:∀q∈l,dn q):oC (rJ l ll to)=some (l,true):=by
 unfold oC rJ;have I:Sw.sub ([ll,to]++l.map qA) (2:Int) ((([ll,to]++l.map qA).length:Nat):Int)=some (l.map qA):=by
  have:=Go.XA.M3 ([ll,to]++l.map qA) 2 (by simp);simpa using this
 rw[I,cM];have K:(l.map qA).length=l.length:=lx ..;rw[show (uE l,(0:Int),([]:List m9))=(fun (i:Nat) (acc:List aQ×List m9)=>(acc.1,(i:Int),acc.2)) 0 (uE l,[]) from rfl];refine Dk (l:=l) (fun (i:Nat) (acc:List aQ×List m9)=>(acc.1,(i:Int),acc.2)) (fun F acc=>acc.2=F/\uE F++acc.1=uE l) (fun acc=>(acc.1,acc.2)) (uE l,[]) (by unfold fK;omega) ⟨rfl,rfl⟩ ?_ ?_ ?_
 ·rintro F x u ⟨G,out⟩ C ⟨B,h⟩;simp only at B h;subst B;have U:out.length<=32:=by rw[C] at hl;simp at hl;omega
  have H:=hk x (by rw[C];simp);obtain⟨R,S,T⟩:=NY H;have L:Sw.idx (l.map qA) (out.length:Int)=some (qA x):=sD (by rw[C];simp);have D:cm .lss (out.length:Int) ((l.map qA).length:Int)=true:=by rw[K];exact kL C
  simp only[D,XX,L,cM,R,S,T,jp,ce];have E:uE l=uE out++((if x.2.1=3 then [x.2.2.2] else [])++uE u):=by
   rw[C,show out++x::u=(out++[x])++u by simp];have:∀a b:List m9,uE (a++b)=uE a++uE b:=fun a b=>by unfold uE;rw[aB4,aCr]
   rw[this,Im,E0]
  rw[E] at h;have h:=List.append_cancel_left h;by_cases A:x.2.1=3
  ·rw[XC A] at h;subst h;rw[D8 A,XX];have M:decide (((([x.2.2.2]++uE u).length:Nat):Int)=0)=false:=m6 (by simp;omega);have N:Sw.sub ([x.2.2.2]++uE u) (1:Int) ((([x.2.2.2]++uE u).length:Nat):Int)=some (uE u):=by
    have:=Go.XA.M3 ([x.2.2.2]++uE u) 1 (by simp);simpa using this
   have O:Sw.idx ([x.2.2.2]++uE u) (0:Int)=some x.2.2.2:=by simp[Sw.idx]
   rw[M,pF,O,cM,N,cM,VU _ _ (by simp;omega),cM,u6 (by omega)];refine⟨(uE u,out++[x]),rfl,rfl,?_⟩;simp only;rw[Im,XC A,E,XC A,E0]
  ·rw[WV A,V7] at h;subst h;rw[m6 A,pF,VU _ _ (by simp;omega),cM,u6 (by omega)];have P:=H.z A;refine⟨(uE u,out++[x]),?_,rfl,?_⟩
   ·rw[<-P]
   ·simp only;rw[Im,WV A,ai,E,WV A,V7]
 ·rintro⟨G,out⟩ ⟨B,h⟩;simp only at B h;subst B;have D:cm .lss (out.length:Int) ((out.map qA).length:Int)=false:=by rw[lx];exact dT
  simp only[D,pF]
 ·rintro⟨G,out⟩ ⟨B,h⟩;simp only at B h;subst B;have Q:G=[]:=by
   have:=congrArg List.length h;simp at this;exact this
  subst Q;rfl
end Go.XY
namespace Go.XY
open Go Go.Sw Go.Mo Go.Pl
open Go.ZA (oH sP Vm pZ xV yX)
open Go.XA (dO)
def ZN(b:aQ):Prop:=b.length=8/\Bytes b
structure x8 (n:Nat) (snaps:List (List aQ)) (cur to:Int) (m:Fm):Prop where
 lt:cur<to
 nn:0<=cur
 le:to<snaps.length
 load:dO m=0
 ZE:∀b∈m.2.2,ZN b
 say:m=((5:Int),[to],snaps.getD to.toNat [])\/∃l ps,m=rJ l cur to/\l.length<=7/\(∀q∈l,dn q)/\pN l (snaps.getD cur.toNat []) []=some (ps,[],none)/\
  sP (snaps.getD cur.toNat []) ps=snaps.getD to.toNat []/\ps.length<=n/\(∀p∈ps,0<=p.1/\p.1<(n:Int))
def nD:Nat->List aQ->List (Int×aQ)
 |_,[]=>[]
 |i,b::l=>((i:Int),b)::nD (i+1) l
theorem Io:∀(l:List aQ) (i:Nat) (b:aQ),nD i (l++[b])=nD i l++[(((i+l.length:Nat):Int),b)]
 | [],_,_=>rfl
 |x::l,i,b=>by
  simp only[dk,nD,D9];rw[Io l (i+1) b];congr 4;omega
theorem Dq:∀(l:List aQ) (i:Nat),(nD i l).length=l.length
 | [],_=>rfl
 |_::l,i=>by simp[nD,Dq l (i+1)]
theorem Kz:∀(l:List aQ) (i:Nat),∀p∈nD i l,(i:Int)<=p.1/\p.1<((i+l.length:Nat):Int)
 | [],_,p,h=>by simp[nD] at h
 |x::l,i,p,h=>by
  simp only[nD,q9] at h;rcases h with rfl | h
  ·simp only[D9];omega
  ·have:=Kz l (i+1) p h;simp only[D9];omega
theorem Og:∀(l pre base:List aQ),base.length=l.length->sP (pre++base) (nD pre.length l)=pre++l
 | [],pre,base,h=>by
  have:base=[]:=iw (by simpa using h);subst this;rfl
 |x::l,pre,base,h=>by
  match base,h with
  |y::base,h=>
   simp only[nD];show sP ((pre++y::base).set ((pre.length:Int)).toNat x) (nD (pre.length+1) l)=_;have:(pre++y::base).set ((pre.length:Int)).toNat x=(pre++[x])++base:=by simp
   rw[this];have:=Og l (pre++[x]) base (by simpa using h);simp only[sM,D9,X3] at this;rw[this];simp
variable {n:Nat}{snaps:List (List aQ)}
theorem Oh{d:(List aQ)×(List (Int×aQ))×Int}{blocks:List aQ}{a b:Nat}(h:oH d blocks a b)(h0:1<=blocks.length)(h1:blocks.length<=32)(V0:b<=2147483647)(YK:List (Int×aQ))(to:Int)(ht:0<=to/\to<=2147483647)
  (hl:YK.length<=blocks.length) (hp:∀p∈YK,0<=p.1/\p.1<(blocks.length:Int)):
  ∃d',oH d' (sP blocks YK) to.toNat b/\
   (∀b0 b1 b2 b4 b5 b6 b7 b8 b9 XG XF XN XB XK XE XJ WZ XT XS,jR YK to b0 b1 b2 (b:Int) b4 b5 b6 b7 b8 b9 XG XF XN XB XK XE XJ WZ (blocks.length:Int) d XT XS=some (none,to,(blocks.length:Int),d'))/\
   (∀b0 b1 b2 b3 b4 b5 b6 b7 b8 b9 XG XF XN XB XE XJ WZ XV XU,gT YK to b0 b1 b2 b3 b4 b5 b6 b7 b8 b9 XG XF XN XB (b:Int) XE XJ WZ XV XU (blocks.length:Int) d=some (none,to,(blocks.length:Int),d')):=by
 have B:Vm blocks.length YK to (b:Int)=0:=by
  unfold Vm;rw[WV (by omega),WV (by omega),WV];intro C;obtain⟨p,D,A⟩:=aDd.1 C;have:=hp p D;unfold pZ at A;simp at A;omega
 obtain⟨d',x',y',u,z,_,_,_,e,E⟩:=yX h h0 h1 YK to (b:Int) B;have u:to.toNat=x':=by omega
 have z:b=y':=by omega
 subst u z;refine⟨d',E,?_,?_⟩<;>intros
 ·unfold jR;rw[e];rfl
 ·unfold gT;rw[e];rfl
end Go.XY
namespace Go.XY
open Go Go.Sw Go.Mo Go.Pl
open Go.ZA (oH sP Vm pZ xV yX)
open Go.XA (dO)
variable {n:Nat}{snaps:List (List aQ)}
theorem Tm{γ:Type}(l:List aQ)(hl:l.length<=1000)(k:List (Int×aQ)->Option γ):
  lp (β:=(List (Int×aQ))) (fun (G9:Int×(List (Int×aQ)))=>
    bif (cm .lss G9.1 (l.length:Int)) then
     (Sw.idx l G9.1).bind fun z26=>
      (Sw.app G9.2 ([(G9.1,z26)]:(List (Int×aQ)))).bind fun j9=>
       some (.next ((ar .add .i64 G9.1 (1:Int)),j9))
    else
     some (.done (.WT G9.2))
    ) ((0:Int),([]:(List (Int×aQ)))) k=k (nD 0 l):=by
 rw[show ((0:Int),([]:List (Int×aQ)))=(fun (i:Nat) (acc:List (Int×aQ))=>((i:Int),acc)) 0 [] from rfl];refine Dk (l:=l) (fun (i:Nat) (acc:List (Int×aQ))=>((i:Int),acc)) (fun h acc=>acc=nD 0 h) (fun acc=>acc) [] (by unfold fK;omega) rfl ?_ ?_ ?_
 ·rintro h x A acc u rfl;have z:h.length<=1000:=by rw[u] at hl;simp at hl;omega
  refine⟨nD 0 (h++[x]),?_,rfl⟩;simp only[kL u,XX,jZ u,cM];rw[VU _ _ (by simp[Dq];omega),cM,u6 (by omega),Io,aC4]
 ·rintro acc rfl;simp only[dT,pF]
 ·rintro acc rfl;rfl
theorem NZ{s:PS}{blocks:List aQ}{a b:Nat}(h:oH s.od blocks a b)(V1:blocks=snaps.getD a [])(h0:1<=n)(h1:n<=32)(eh:∀x∈snaps,x.length=n)(ha:s.XL=(a:Int))(Z9:a<snaps.length)(ZW:snaps.length<=2147483647)(hb:s.WI=(b:Int))(V0:b<=2147483647)
  (hon:s.on=(n:Int)) (ho:s.g9=(n:Int)) {m:Fm} {to:Int} (hm:x8 n snaps (a:Int) to m):
  ∃d',oH d' (snaps.getD to.toNat []) to.toNat b/\sE m s=some (none,{ s with XL:=to,g9:=(n:Int),od:=d' }):=by
 have S:=hm.lt;have T:=hm.le;have E:∀i:Nat,i<snaps.length->(snaps.getD i []).length=n:=fun i O=>by
  rw[R4,F5 O];exact eh _ (ff _)
 have A:blocks.length=n:=by rw[V1];exact E a Z9
 have F:(snaps.getD to.toNat []).length=n:=E _ (by omega);rcases hm.say with rfl |⟨l,P,rfl,U,Q,D,z,V,R⟩
 ·
  obtain⟨d',u,_,e⟩:=Oh h (by omega) (by omega) V0 (nD 0 (snaps.getD to.toNat [])) to (by omega) (by rw[Dq];omega) (fun p C=>by have:=Kz _ _ p C;omega);rw[A] at e;have z:sP blocks (nD 0 (snaps.getD to.toNat []))=snaps.getD to.toNat []:=by
   have:=Og (snaps.getD to.toNat []) [] blocks (by omega);simpa using this
  rw[z] at u;refine⟨d',u,?_⟩;unfold sE fG;have B:Sw.idx [to] (0:Int)=some to:=by simp[Sw.idx]
  have I:((([to]:List Int).length:Nat):Int)=1:=rfl;simp only[ce,I,hon,F,B,cg,fa,XX,cM];rw[ha,D8 (show to>(a:Int) by omega),XX];have G:=Tm (snaps.getD to.toNat []) (by omega) (γ:=(Option Int)×Int×Int×((List aQ)×(List (Int×aQ))×Int));rw[F] at G;rw[G];simp only[cM,hb,ho,e]
 ·
  obtain⟨d',u,_,e⟩:=Oh h (by omega) (by omega) V0 P to (by omega) (by omega) (fun p C=>by have:=R p C;omega);rw[A] at e;rw[p6] at D z;rw[V1,z] at u;refine⟨d',u,?_⟩;have H:=xV h;rw[A] at H;unfold sE fG;have K:=Zk l (a:Int) to (by omega) Q;have B:Sw.idx ((rJ l (a:Int) to).2.1) (0:Int)=some (a:Int):=by simp[rJ,Sw.idx]
  have L:Sw.idx ((rJ l (a:Int) to).2.1) (1:Int)=some to:=by simp[rJ,Sw.idx]
  have M:(rJ l (a:Int) to).1=4:=rfl;have N:decide ((((rJ l (a:Int) to).2.1.length:Nat):Int)>=2)=true:=D8 (by simp[rJ];omega);rw[<-V1] at D;simp only[ce,M,L4,N,B,L,cg,XX,cM];rw[show decide ((4:Int)=5)=false from rfl,pF,cM,pF,D8 trivial,XX,ha,D8 rfl,XX,D8 (show to>(a:Int) by omega),cM,XX,ho,H,cM];simp only[j7,pF,K,cM,D,nm];rw[show decide ((([]:List Int).length:Int)>0)=false from rfl];simp only[cM,pF,hb,e]
end Go.XY
namespace Go.XY
open Go Go.Sw Go.Mo Go.Pl
open Go.ZA (sP)
open Go.j6 (n6 R2 Lf ZQ Ub news YU)
open Go.XA (dO eB)
open Go.p7 (Lz)
theorem Rp{n:Int}:∀(l:List (Int×aQ)) (prev:Int) (acc:List aQ),-1<=prev->n6 n prev l=true->∀i:Nat,(i:Int)<=prev->(Lf acc l)[i]? =acc[i]?
 | [],_,_,_,_,_,_=>rfl
 |x::l,prev,acc,z,h,i,A=>by
  simp only[n6,G7,re] at h;have u:=h.1;unfold R2 at u;simp at u;show (Lf (acc.set x.1.toNat x.2) l)[i]? =_;rw[Rp l x.1 _ (by omega) h.2 i (by omega),vh (by omega)]
theorem CG{n:Int}:∀(l:List (Int×aQ)) (prev:Int) (acc:List aQ),-1<=prev->n6 n prev l=true->(n<=acc.length)->∀p∈l,(Lf acc l)[p.1.toNat]? =some p.2
 | [],_,_,_,_,_,p,u=>by simp at u
 |x::l,prev,acc,B,h,A,p,u=>by
  simp only[n6,G7,re] at h;have z:=h.1;unfold R2 at z;simp at z;show (Lf (acc.set x.1.toNat x.2) l)[p.1.toNat]? =_;rcases q9.1 u with rfl | u
  ·rw[Rp l p.1 _ (by omega) h.2 _ (by omega),aBz (by omega)]
  ·exact CG l x.1 _ (by omega) h.2 (by rw[aCs];exact A) p u
theorem Wu{n:Int}:∀(l:List (Int×aQ)) (prev:Int),prev<n->n6 n prev l=true->(l.length:Int)<=n - 1 - prev
 | [],_,z,_=>by simp;omega
 |x::l,prev,z,h=>by
  simp only[n6,G7,re] at h;have u:=h.1;unfold R2 at u;simp at u;have:=Wu l x.1 (by omega) h.2;simp only[D9];omega
variable {n:Nat}{snaps:List (List aQ)}
theorem OA{ps:List (Int×aQ)}{base:List aQ}(hr:n6 (base.length:Int) (-1) ps=true)(hb:base.length<=32):∀q∈ZQ ps base [],dn q:=by
 intro q u;unfold ZQ at u;obtain⟨p,A,rfl⟩:=dj.1 u;have B:=Go.j6.M6 hr p (aCj.1 A).1;unfold Ub;split
 ·exact⟨by simp only;omega,by simp,by simp,fun _=>rfl⟩
 ·split
  ·rename_i z;have:=aEg z;exact⟨by simp only;omega,by simp,by simp only;omega,fun _=>rfl⟩
  ·split
   ·rename_i h;simp at h
   ·exact⟨by simp only;omega,by simp,by simp,fun h=>by simp at h⟩
theorem JY{ps:List (Int×aQ)}{base:List aQ}:∀x∈uE (ZQ ps base []),∃p∈ps,x=p.2:=by
 intro x A;unfold uE at A;obtain⟨q,z,rfl⟩:=dj.1 A;obtain⟨z,u⟩:=aCj.1 z;unfold ZQ at z;obtain⟨p,E,rfl⟩:=dj.1 z;refine⟨p,(aCj.1 E).1,?_⟩;unfold Ub at u ⊢;split at u
 ·simp at u
 ·rename_i B;rw[WV B];split at u
  ·simp at u
  ·rename_i C;rw[WV C];split at u
   ·rename_i h;simp at h
   ·rename_i D;rw[WV D]
theorem Mc{f:Fm}(h1:0<=f.1/\f.1<=15)(h2:f.2.1.length<=9)(h3:f.2.2.length<=32)(h4:∀x∈f.2.1,0<=x/\x<=2147483647):dO f=0:=by
 have u:eB f=0:=by
  unfold eB;rw[WV (by omega),WV (by omega),WV];intro z;obtain⟨x,A,h⟩:=aDd.1 z;have:=h4 x A;rw[Go.XA.p5.2 this] at h;cases h
 unfold dO;rw[XC u,WV (by omega)]
theorem OB{b:Int×List (Int×aQ)×List (Int×List (Int×aQ))×Bool}{now:List aQ}{WS:List (Int×List aQ)}{ZB:Nat}{k:Int}(he:ma n b now snaps)(h0:1<=n)(h1:n<=32)(hh:snaps.length=ZB+1)(j1:ZB<=2147483647)
  (V1:∀s∈snaps,∀x∈s,ZN x) (aO8:∀j l,fQ WS j=some l->0<=j/\j<=ZB/\l=snaps.getD j.toNat []) (aPy:fQ WS (ZB:Int)=some (snaps.getD ZB [])) (hk: -1<=k/\k<ZB):
  ∃m,(∀b0 b3 b4 b7 b8 XG XF XN XB XK XE XJ WZ XV XU XT XS,dQ b0 (n:Int) (ZB:Int) b3 b4 b WS b7 b8 k XG XF XN XB XK XE XJ WZ XV XU XT XS=some m)/\
   ∀cur:Int,0<=cur->cur<ZB->(k= -1\/cur=k)->x8 n snaps cur ZB m:=by
 have S:b.1=ZB:=by have:=he.num;omega
 have I:∀i:Nat,i<snaps.length->snaps.getD i []∈snaps:=fun i M=>by
  rw[R4,F5 M];exact ff _
 have O:∀i:Nat,i<snaps.length->(snaps.getD i []).length=n:=fun i M=>he.len _ (I i M);have F:∀cur:Int,0<=cur->cur<ZB->x8 n snaps cur ZB ((5:Int),[(ZB:Int)],snaps.getD ZB []):=fun cur A B=>
  ⟨B,A,by omega,Mc (by simp) (by simp) (by have:=O ZB (by omega);simp only;omega) (fun x C=>by simp at C;omega),fun x C=>V1 _ (I ZB (by omega)) x C,.inl (by simp)⟩
 have G:(fQ WS (ZB:Int)).getD []=snaps.getD ZB []:=by rw[aPy];rfl
 by_cases T:k<0
 ·refine⟨((5:Int),[(ZB:Int)],snaps.getD ZB []),?_,fun cur A B _=>F cur A B⟩
  intros
  unfold dQ;rw[Go.p7.gr b n k (Go.p7.ct he.may),WV (by rw[he.may];simp),XC (.inl T)];simp only[cM,Option.isNone_some,pF,jp,G]
 ·rcases he.since (k:=k) ⟨by omega,by omega⟩ with E |⟨z,E,X,D,ed⟩
  ·refine⟨((5:Int),[(ZB:Int)],snaps.getD ZB []),?_,fun cur A B _=>F cur A B⟩
   intros
   unfold dQ;rw[E];simp only[cM,iv,XX,pF,jp,G]
  ·cases hg:fQ WS k with
   |none=>
    refine⟨((5:Int),[(ZB:Int)],snaps.getD ZB []),?_,fun cur A B _=>F cur A B⟩
    intros
    unfold dQ;rw[E];simp only[cM,iv,XX,pF,jp,G,hg,j7]
   |some u=>
    obtain⟨_,_,H⟩:=aO8 k u hg;have U:u.length=n:=by rw[H];exact O _ (by omega)
    have P:YU u []=0:=Go.j6.dy (by omega) (by omega) (by simp) (by simp);rw[<-U] at D;have K:=OA D (by omega);have Q:=JX b.1 k z u ed P D K;by_cases P7:2+(ZQ z u []).length<=9
    ·refine⟨rJ (ZQ z u []) k b.1,?_,fun cur A B N=>?_⟩
     ·intros
      unfold dQ;rw[E];simp only[cM,iv,XX,jp,hg,aCv,aCe,Q];rw[D8 (by omega),XX]
     ·have V:cur=k:=by rcases N with N | N<;>omega
      subst V;have qu:=Wt (ZQ z u []);have R:Lf u z=snaps.getD b.1.toNat []:=by rw[<-X,<-H];rfl
      refine⟨by omega,A,by omega,Mc (by simp[rJ]) (by simp[rJ];omega) (by simp only[rJ];omega) (fun x C=>?_),fun x C=>?_,.inr ⟨ZQ z u [],news z u,by rw[S],by omega,K,?_,?_,?_,?_⟩⟩
      ·simp only[rJ,N9,q9,aCm,aEl,dj] at C;rcases C with (rfl | rfl) |⟨q,hq,rfl⟩
       ·omega
       ·omega
       ·have h:=K q hq;have a1:=h.a;have a2:=h.k;have a3:=h.f;unfold qA;omega
      ·obtain⟨p,L,rfl⟩:=JY x C;have:=CG z (-1) u (by omega) D (aDo _) p L;rw[R] at this;exact V1 _ (I _ (by omega)) _ (aB7 this)
      ·rw[<-H];exact Go.j6.lu z u [] (by omega) (by simp) P D
      ·rw[<-H];have h1:sP u (news z u)=Lf u (news z u):=rfl;rw[h1,Go.j6.O5 (by omega) D (fun _ _=>rfl),R];congr 1;omega
      ·have h1:=Wu z (-1) (by omega) D;have h2:(news z u).length<=z.length:=aCx _ _;omega
      ·intro p L;have:=Go.j6.yf D p L;omega
    ·refine⟨((5:Int),[(ZB:Int)],snaps.getD ZB []),?_,fun cur A B _=>F cur A B⟩
     intros
     unfold dQ;rw[E];simp only[cM,iv,XX,jp,hg,aCv,aCe,Q];rw[m6 (by omega),pF,G]
end Go.XY
namespace Go.XY
open Go Go.Sw Go.Mo Go.Pl
theorem TF(n c:Nat)(hc:c<=64):sh .shr .u64 (n:Int) (c:Int)=((n / 2 ^ c:Nat):Int):=Go.lz.aM9 n c hc
theorem VB{a b:Nat}(ha:a<18446744073709551616)(hb:b<18446744073709551616):ar .and .u64 (a:Int) (b:Int)=((a &&& b:Nat):Int):=by
 show IntKind.wrap .u64 ((BitVec.ofInt 64 (a:Int) &&& BitVec.ofInt 64 (b:Int)).toNat:Int)=_;simp only[sC,aEv,aB8];rw[R5 (a:=a) (by omega),R5 (a:=b) (by omega)];have:a &&& b<=a:=Nat.and_le_left;show ((a &&& b:Nat):Int) % 18446744073709551616=_;omega
theorem EN{h:Nat}(hh:h<18446744073709551616):pX (h:Int)=some [((h / 8589934592:Nat):Int),((h / 4 % 2147483648:Nat):Int)]:=by
 unfold pX;have u:sh .shr .u64 (h:Int) (33:Int)=((h / 2 ^ 33:Nat):Int):=TF h 33 (by omega);have z:sh .shr .u64 (h:Int) (2:Int)=((h / 2 ^ 2:Nat):Int):=TF h 2 (by omega);have A:ar .and .u64 ((h / 2 ^ 2:Nat):Int) (2147483647:Int)=((h / 2 ^ 2 &&& 2147483647:Nat):Int):=VB (b:=2147483647) (by omega) (by omega);have B:∀x:Nat,x &&& 2147483647=x % 2147483648:=fun x=>aDe x 31;rw[u,z,A,B,wrap_i64 (by omega),wrap_i64 (by omega)]
theorem Zl{bs:List aQ}(h0:1<=bs.length)(h1:bs.length<=32)(hb:∀b∈bs,ZN b):∃x y:Int,jY bs=some [x,y]/\(0<=x/\x<=2147483647)/\(0<=y/\y<=2147483647):=by
 have B:=Go.lz.nv bs h0;have D:=B.ne;obtain⟨u,l,z⟩:∃u l,Go.lz.tree bs=u++[l]:=⟨_,_,(List.dropLast_concat_getLast D).symm⟩
 have E:l.length=1:=by
  rcases B.at u [] l z with⟨_,h⟩|⟨m,r,h,_⟩
  ·exact h
  ·cases h
 obtain⟨v,rfl⟩:∃v,l=[v]:=by
  match l,E with
  | [v],_=>exact⟨v,rfl⟩
 have A:=(Go.lz.sc bs h1 [v] (by rw[z];simp)).1 v (by simp);have C:=Go.lz.sb bs;rw[z] at C;have K:u.length<=32:=by simp at C;omega
 unfold jY;rw[Go.lz.aNc bs hb (by omega),WV (by omega),cM];simp only[j7,pF,z];have F:(((u++[[v]]).length:Nat):Int)=((u.length+1:Nat):Int):=by simp
 have G:ar .sub .i64 ((u.length+1:Nat):Int) 1=(u.length:Int):=by rw[O3 (by omega)];omega
 have H:Sw.idx (u++[[v]]) (u.length:Int)=some [v]:=sD (by simp);have I:Sw.idx [v] (0:Int)=some v:=by simp[Sw.idx]
 rw[F,G,H,cM,I,cM];obtain⟨h,rfl⟩:∃h:Nat,v=h:=⟨v.toNat,by have:=A;omega⟩
 rw[EN (by have:=A;omega),cM];exact⟨_,_,rfl,by have:=A;omega,by omega⟩
end Go.XY
namespace Go.XY
open Go Go.Sw Go.Mo Go.Pl
open Go.ZA (oH)
open Go.XA (Good bM eZ dO)
def kG(fb ob:Nat):Int:=((fb*4096+ob:Nat):Int)
theorem sZ{a b c d:Nat}(hb:b<4096)(hd:d<4096)(h:kG a b=kG c d):a=c/\b=d:=by unfold kG at h;omega
def jP(g:Nat):Fm:=((2:Int),[(g:Int)],[])
def dV(g o j:Nat)(t:List Int):Fm:=((3:Int),[(g:Int),(o:Int),(j:Int)]++t,[])
def WW(S:Int)(q:Nat)(m:Fm):Fm:=((1:Int),[S,(q:Int),m.1]++m.2.1,m.2.2)
def tA(S:Int)(a:Nat):Fm:=((0:Int),[S,(a:Int)],[])
structure F6 (m:Fm):Prop where
 load:dO m=0
 ZE:∀b∈m.2.2,ZN b
structure Nm where
 n:Nat
 h:Nat
 fb:Nat
 ob:Nat
 k:Nat
 q:Nat
 x:Nat
def tH(v:Nm)(s:PS)(S:Int):Prop:=∃g o:Nat,S=kG g o/\1<=g/\1<=o/\o<=v.ob/\(g<v.fb\/(g=v.fb/\S<=s.VQ))/\(o=v.ob->(g:Int)<=s.first)
def Dr(v:Nm)(snaps:List (List aQ))(s:PS)(f:Fm):Prop:=
 (∃g:Nat,1<=g/\g<=v.fb/\f=jP g)\/
 (∃S q m,f=WW S q m/\F6 m/\tH v s S/\(S=s.VQ->q<v.q\/(q=v.q/\s.VR.2.2=[m]))/\(0<=s.first->S=s.receiver.1->q<=v.x/\(q=v.x->∃to,x8 v.n snaps v.k to m)))
def Fc(v:Nm)(snaps:List (List aQ))(s:PS)(f:Fm):Prop:=
 (∃g o j t,f=dV g o j t/\1<=g/\g<=v.fb/\1<=o/\o<=v.ob/\j<=v.k/\jY (snaps.getD j [])=some t/\(g=v.fb->o=v.ob->s.VQ<kG g o->j=v.k/\s.first=(v.fb:Int)/\v.x=0))\/
 (∃S a,f=tA S a/\tH v s S/\(S=s.VQ->a<=v.q\/(a=v.q+1/\s.VR.2.2≠ []/\s.sent<=v.k))/\(0<=s.first->S=s.receiver.1->a<=v.x))
structure y0 (v:Nm) (snaps:List (List aQ)) (s:PS) (y:Bool×Bool×List Int):Prop where
 bytes:Bytes y.2.2
 len:y.2.2.length<=2000
 ne:y.2.2≠ []
 I7:y.2.1=true->eZ y.2.2=none
 whole:y.2.1=false->∃f,Good f/\y.2.2=bM f/\(y.1=true->Dr v snaps s f)/\(y.1=false->Fc v snaps s f)
structure Inv (v:Nm) (now:List aQ) (snaps:List (List aQ)) (s:PS):Prop where
 n0:1<=v.n
 n1:v.n<=32
 en:s.n=v.n
 efn:s.fn=v.n
 eon:s.on=v.n
 zt:s.o5=v.n
 ph:s.g9=v.n
 hs:snaps.length=v.h+1
 C2:v.h<=100000/\v.fb<=3000/\v.ob<=3000/\v.q<=100000/\v.x<=100000
 pos:1<=v.fb/\1<=v.ob
 enum:s.XH=v.h
 ZZ:s.WX=v.fb
 X1:s.WI=v.ob
 N1:s.XL=v.k
 kh:v.k<=v.h
 cu:oH s.fd (snaps.getD v.h []) v.h v.fb
 J5:oH s.od (snaps.getD v.k []) v.k v.ob
 ep:ma v.n s.VW now snaps
 I6:s.blocks=now
 bok:∀l∈snaps,∀b∈l,ZN b
 nok:∀b∈now,ZN b
 WS:∀p∈s.WS,0<=p.1/\p.1<=v.h/\p.2=snaps.getD p.1.toNat []
 last:fQ s.WS (v.h:Int)=some (snaps.getD v.h [])
 idle:s.first=v.fb->s.VQ<kG v.fb v.ob->v.x=0
 safe:0<=s.safe/\s.safe<=v.k
 sent: -1<=s.sent/\s.sent<=v.h/\(s.sent= -1->0<v.h)
 low:s.VR.2.2=[]->s.sent<=s.safe
 VQ:s.VQ= -1\/∃o:Nat,1<=o/\o<=v.ob/\s.VQ=kG v.fb o/\(o=v.ob->s.first=v.fb)
 VR:(s.VQ= -1/\s.VR=(0,0,[])/\s.VV=[])\/(0<=s.VQ/\s.VR.1=s.VQ/\s.VR.2.1=v.q)
 queue:(s.VR.2.2=[]/\s.VV=[])\/∃m,s.VR.2.2=[m]/\s.VV=[s.sent]/\F6 m/\0<=s.sent
 first:(s.first= -1/\s.receiver=(0,0)/\v.x=0)\/∃g:Nat,1<=g/\g<=v.fb/\s.first=g/\s.receiver=(kG g v.ob,(v.x:Int))
 act:s.VQ=kG v.fb v.ob->(v.x=v.q/\(s.VR.2.2=[]->s.sent=v.k\/(s.sent= -1/\v.k<v.h))/\(∀m,s.VR.2.2=[m]->x8 v.n snaps v.k s.sent m))\/(v.x=v.q+1/\s.VR.2.2≠ []/\s.sent=v.k)
 WH:∀y∈s.WH,y0 v snaps s y
 I8:s.WH.length<=64
end Go.XY
namespace Go.XY
open Go Go.Sw Go.Mo Go.Pl
open Go.ZA (oH)
open Go.XA (Good bM eZ dO)
theorem E2:ZN aR:=⟨by simp[aR],fun x h=>by simp[aR] at h;omega⟩
def Ju(n:Nat)(d1 d2:(List aQ)×(List (Int×aQ))×Int):PS:={ n:=n,fn:=n,XH:=0,WX:=1,blocks:=List.replicate n aR,VW:=(0,[],[],true),WS:=[(0,List.replicate n aR)],VQ:= -1,VR:=(0,0,[]),sent:=0,safe:=0,VV:=[],on:=n,XL:=0,WI:=1,first:= -1,receiver:=(0,0),WH:=[],o5:=n,fd:=d1,g9:=n,od:=d2 }
theorem EO{n:Nat}(h0:1<=n)(h1:n<=32){d1 d2:(List aQ)×(List (Int×aQ))×Int}(s1:oH d1 (List.replicate n aR) 0 1)(s2:oH d2 (List.replicate n aR) 0 1):
  Inv ⟨n,0,1,1,0,0,0⟩ (List.replicate n aR) [List.replicate n aR] (Ju n d1 d2):=by
 have u:∀b∈List.replicate n aR,ZN b:=fun b E=>by rw[List.eq_of_mem_replicate E];exact E2
 have C:=Ws (m:=n) (snaps:=[List.replicate n aR]) ⟨h0,h1⟩ (num:=0) rfl (by decide) (fun s B=>by simp at B;subst B;simp);constructor
 case n0=>exact h0
 case n1=>exact h1
 case cu=>exact s1
 case J5=>exact s2
 case ep=>exact C
 case bok=>intro l z;simp at z;subst z;exact u
 case nok=>exact u
 case WS=>
  intro p A;simp only[Ju,aB9] at A;subst A;simp
 case last=>rfl
 case VQ=>exact .inl rfl
 case VR=>exact .inl ⟨rfl,rfl,rfl⟩
 case queue=>exact .inl ⟨rfl,rfl⟩
 case first=>exact .inl ⟨rfl,rfl,rfl⟩
 case act=>intro h;simp[Ju,kG] at h
 case WH=>intro y D;simp[Ju] at D
 all_goals simp[Ju]
theorem KA{v:Nm}{now:List aQ}{snaps:List (List aQ)}{s:PS}(h:Inv v now snaps s){at_:Int}{b:aQ}(ha:0<=at_/\at_<v.n)(hb:ZN b):
  ∃s',lJ at_ b s=some (none,s')/\Inv v (now.set at_.toNat b) snaps s':=by
 have A:=h.ep.add (p:=(at_,b)) ha;have B:=Go.p7.aKl h.ep.may (p:=(at_,b)) ha;obtain⟨z,D,_⟩:=wZ (l:=s.blocks) (n:=at_) ha.1 (by rw[h.I6,h.ep.Y2];exact ha.2);refine⟨{ s with blocks:=s.blocks.set at_.toNat b,VW:=(s.VW.1,Go.p7.T9 s.VW.2.1 (at_,b),s.VW.2.2.1,s.VW.2.2.2) },?_,?_⟩
 ·unfold lJ eW;rw[h.en,B];simp only[cM,j7,pF,D]
 ·exact { h with
   ep:=A
   I6:=by rw[<-h.I6]
   nok:=fun x u=>by
    rcases aCz u with u | rfl
    ·exact h.nok x u
    ·exact hb
   WH:=fun y C=>by
    have:=h.WH y C
    exact⟨this.bytes,this.len,this.ne,this.I7,this.whole⟩}
theorem CH{v:Nm}{now:List aQ}{snaps:List (List aQ)}{s:PS}(h:Inv v now snaps s){at_:Int}{b:aQ}(ha:at_<0\/at_>=v.n):lJ at_ b s=some (some 1,s):=by
 have u:=Go.p7.vg s.VW (v.n:Int) (at_,b) (Go.p7.ct h.ep.may);rw[WV (by rw[h.ep.may];simp),XC ha] at u;unfold lJ eW;rw[h.en,u];simp only[cM,aCv,XX];rw[<-h.en]
theorem OC{v:Nm}{now:List aQ}{snaps:List (List aQ)}{s:PS}(h:Inv v now snaps s){at_:Int}(ha:0<=at_/\at_<v.n):oM at_ s=some (now.getD at_.toNat [],none,s):=by
 obtain⟨z,u,A⟩:=wZ (l:=now) (n:=at_) ha.1 (by rw[h.ep.Y2];exact ha.2);unfold oM gA;rw[h.en,h.I6,cl,L4,m6 (by omega),pF,m6 (by omega)];simp only[cM,pF,u];congr 2;rw[R4,A];rfl
theorem KB{v:Nm}{now:List aQ}{snaps:List (List aQ)}{s:PS}(h:Inv v now snaps s){at_:Int}(ha:at_<0\/at_>=v.n):oM at_ s=some (aR,some 1,s):=by
 unfold oM gA;rw[h.en,cl,L4];by_cases u:at_<0
 ·rw[D8 u];simp
 ·rw[m6 u,D8 (by omega)];simp
theorem Rq{β:Type}{k j:Int}(hj:j≠k):∀m:List (Int×β),fQ (Gm m k) j=fQ m j
 | []=>rfl
 | (a,b)::m=>by
  have h:=Rq hj m;unfold Gm at h ⊢;simp only[H9,kp];by_cases u:a=k
  ·subst u;simp only[l6,List.eraseIdx_cons_zero,fQ];rw[WV (fun e=>hj e.symm)]
  ·rw[WV u];cases hk:kp (m.map (·.1)) k with
   |none=>simp
   |some q=>
    rw[hk] at h;simp only[rh,List.eraseIdx_cons_succ,fQ];split
    ·rfl
    ·exact h
theorem KC{β:Type}{k:Int}{m:List (Int×β)}{p:Int×β}(h:p∈Gm m k):p∈m:=by
 unfold Gm at h;split at h
 ·exact List.mem_of_mem_eraseIdx h
 ·exact h
theorem Ip{β:Type}{j:Int}{l:β}:∀{m:List (Int×β)},fQ m j=some l->(j,l)∈m
 | [],h=>by cases h
 | (a,b)::m,h=>by
  unfold fQ at h;split at h
  ·rename_i e;subst e;cases h;exact ao
  ·exact aj _ (Ip h)
theorem Wv{β:Type}{j:Int}{l:β}:∀{m:List (Int×β)},fQ m j=none->fQ (m++[(j,l)]) j=some l
 | [],_=>by simp[fQ]
 | (a,b)::m,h=>by
  unfold fQ at h;split at h
  ·cases h
  ·rename_i e;simp only[dk,fQ];rw[WV e];exact Wv h
theorem CI{n:Int}:∀(l:List (Int×aQ)) (last:Int),last<n->Go.p7.YW n last l=true->(l.length:Int)<=n - 1 - last
 | [],last,A,_=>by simp;omega
 |x::l,last,A,h=>by
  have u:=Go.p7.ZD n (x::l) last h x (by simp);have z:Go.p7.YW n x.1 l=true:=by
   unfold Go.p7.YW at h;split at h
   ·cases h
   ·exact h
  have:=CI l x.1 u.2 z;simp only[D9];omega
end Go.XY
namespace Go.XY
open Go Go.Sw Go.Mo Go.Pl
open Go.ZA (oH sP)
open Go.p7 (uP Fa Ce Lz)
open Go.XA (Good bM eZ dO)
theorem x8.mono{n:Nat}{snaps:List (List aQ)}{cur to:Int}{m:Fm}(h:x8 n snaps cur to m)(x:List aQ):x8 n (snaps++[x]) cur to m:=by
 have u:=h.lt;have z:=h.nn;have A:=h.le;refine⟨u,z,by simp;omega,h.load,h.ZE,?_⟩;rw[uP (by omega),uP (by omega)];exact h.say
theorem y0.mono{v:Nm}{snaps:List (List aQ)}{s s':PS}{y:Bool×Bool×List Int}(h:y0 v snaps s y)(x:List aQ)(hk:v.k<snaps.length)(e1:s'.VQ=s.VQ)(e2:s'.VR=s.VR)(e3:s'.first=s.first)(e4:s'.receiver=s.receiver)(e5:s'.sent=s.sent)(hh:Nat):
  y0 { v with h:=hh } (snaps++[x]) s' y:=by
 refine⟨h.bytes,h.len,h.ne,h.I7,fun N=>?_⟩;obtain⟨f,P,Q,R,T⟩:=h.whole N;refine⟨f,P,Q,fun C=>?_,fun C=>?_⟩
 ·rcases R C with⟨g,u,z,A⟩|⟨S,q,m,u,z,A,B,K⟩
  ·exact .inl ⟨g,u,z,A⟩
  ·refine .inr ⟨S,q,m,u,z,?_,?_,?_⟩
   ·obtain⟨g,o,D,E,F,G,H,I⟩:=A;exact⟨g,o,D,E,F,G,by rw[e1];exact H,by rw[e3];exact I⟩
   ·rw[e1,e2];exact B
   ·rw[e3,e4];intro L M;obtain⟨U,V⟩:=K L M;exact⟨U,fun O=>by obtain⟨X,d4⟩:=V O;exact⟨X,d4.mono x⟩⟩
 ·rcases T C with⟨g,o,j,t,u,z,A,B,K,a6,a7,a8⟩|⟨S,a,u,z,A,B⟩
  ·refine .inl ⟨g,o,j,t,u,z,A,B,K,a6,?_,?_⟩
   ·rw[uP (by omega)];exact a7
   ·rw[e1,e3];exact a8
  ·refine .inr ⟨S,a,u,?_,?_,?_⟩
   ·obtain⟨g,o,D,E,F,G,H,I⟩:=z;exact⟨g,o,D,E,F,G,by rw[e1];exact H,by rw[e3];exact I⟩
   ·rw[e1,e2,e5];exact A
   ·rw[e3,e4];exact B
theorem Zm{v:Nm}{now:List aQ}{snaps:List (List aQ)}{s:PS}(h:Inv v now snaps s)(hb:v.h+1<=100000):
  ∃s',qQ s=some (none,s')/\Inv { v with h:=v.h+1 } now (snaps++[now]) s':=by
 have j1:=h.C2;have qv:=h.kh;have ZW:=h.hs;have L7:=h.n1;have jj:=h.n0;have I:s.VW.1=v.h:=by have:=h.ep.num;omega
 obtain⟨k1,k2,k3,k4,k5,F,k7,k8,k9⟩:=Go.p7.m5 h.ep.may;have K:snaps.getD v.h []∈snaps:=by
  rw[R4,F5 (by omega)];exact ff _
 have L:(snaps.getD v.h []).length=v.n:=h.ep.len _ K;have aa:=CI s.VW.2.1 (-1) (by omega) F;have M:=Go.p7.ZD v.n s.VW.2.1 _ F;obtain⟨V,G,H,_⟩:=Oh h.cu (by omega) (by omega) (by omega) s.VW.2.1 ((v.h+1:Nat):Int) (by omega) (by omega) (fun p u=>by have:=M p u;omega);have N:sP (snaps.getD v.h []) s.VW.2.1=now:=by
  have:=h.ep.open_;rw[I,p6] at this;exact this
 rw[N,p6] at G;rw[L] at H;have O:=Go.p7.xx h.ep.may (by omega);have aF7:fQ s.WS ((v.h+1:Nat):Int)=none:=by
  cases hg:fQ s.WS ((v.h+1:Nat):Int) with
  |none=>rfl
  |some l=>have:=h.WS _ (Ip hg);simp only at this;omega
 have E:Hn s.WS ((v.h+1:Nat):Int) now=some (s.WS++[(((v.h+1:Nat):Int),now)]):=by unfold Hn;rw[aF7]
 obtain⟨_,X⟩:=Ky (blocks:=now) s.WS (v.h+1) (by have:=h.ep.Y2;omega) (by omega) (by rw[E];rfl);have P:ar .add .i64 s.XH (1:Int)=((v.h+1:Nat):Int):=by rw[h.enum,u6 (by omega)]
 refine⟨{ s with XH:=((v.h+1:Nat):Int),VW:=Ce s.VW,WS:=pU s.WS ((v.h+1:Nat):Int) now,o5:=v.n,fd:=V },?_,?_⟩
 ·unfold qQ fW;rw[P,h.ZZ,h.zt,H,cM];simp only[j7,pF];rw[h.efn,O,cM,h.I6];simp only[];rw[X,cM];rfl
 ·have D:(snaps++[now]).getD (v.h+1) []=now:=Fa (by omega);have Q:(snaps++[now]).getD v.k []=snaps.getD v.k []:=uP (by omega);have yr:pU s.WS ((v.h+1:Nat):Int) now=Gm (s.WS++[(((v.h+1:Nat):Int),now)]) (((v.h+1:Nat):Int) - 5):=by unfold pU;rw[E];rfl
  exact { h with
   hs:=by simp;omega
   C2:=by simp only;omega
   enum:=rfl
   kh:=by simp only;omega
   cu:=by rw[D];exact G
   J5:=by rw[Q];exact h.J5
   zt:=rfl
   ep:=h.ep.shut (by omega)
   bok:=fun l z=>by
    rcases N9.1 z with z | z
    ·exact h.bok l z
    ·simp at z;subst z;exact h.nok
   WS:=fun p u=>by
    simp only at u ⊢;rw[yr] at u;rcases N9.1 (KC u) with u | u
    ·obtain⟨A,C,B⟩:=h.WS p u;exact⟨A,by omega,by rw[uP (by omega)];exact B⟩
    ·simp only[aB9] at u;subst u;exact⟨by simp only;omega,by simp only;omega,by simp only;rw[p6,D]⟩
   last:=by
    simp only;rw[yr,Rq (by omega),Wv aF7,D]
   sent:=by have:=h.sent;simp only;omega
   act:=fun R=>by
    rcases h.act R with⟨A,C,B⟩|⟨A,C,B⟩
    ·refine .inl ⟨A,fun S=>?_,fun m T=>(B m T).mono now⟩;rcases C S with c |⟨c1,c2⟩
     ·exact .inl c
     ·exact .inr ⟨c1,by simp only;omega⟩
    ·exact .inr ⟨A,C,B⟩
   WH:=fun y U=>by
    refine y0.mono (s:=s) (h.WH y U) now (by omega) ?_ ?_ ?_ ?_ ?_ (v.h+1)<;>rfl }
end Go.XY
namespace Go.XY
open Go Go.Sw Go.Mo Go.Pl
open Go.XA (Good bM eZ dO)
def F1(a:Int):Prop:= -9223372036854775808<=a/\a<=9223372036854775807
theorem KD{a:Int}(h:F1 a):∃k:Nat,max a (IntKind.wrap .i64 (0 - (ar .add .i64 a (1:Int))))=(k:Int)/\(a=0->k=0):=by
 unfold F1 at h;by_cases u:a=9223372036854775807
 ·subst u;have z:ar .add .i64 (9223372036854775807:Int) 1= -9223372036854775808:=by decide+kernel
  have A:IntKind.wrap .i64 (0 - (-9223372036854775808:Int))= -9223372036854775808:=by decide+kernel
  rw[z,A];exact⟨9223372036854775807,by omega,fun c=>by omega⟩
 ·rw[j5 (by omega),wrap_i64 (by omega)];exact⟨(max a (0 - (a+1))).toNat,by omega,fun c=>by omega⟩
theorem y0.same{v:Nm}{snaps:List (List aQ)}{s s':PS}{y:Bool×Bool×List Int}(h:y0 v snaps s y)(e1:s'.VQ=s.VQ)(e2:s'.VR=s.VR)(e3:s'.first=s.first)(e4:s'.receiver=s.receiver)(e5:s'.sent=s.sent):y0 v snaps s' y:=by
 refine⟨h.bytes,h.len,h.ne,h.I7,fun z=>?_⟩;obtain⟨f,A,B,C,D⟩:=h.whole z;refine⟨f,A,B,fun u=>?_,fun u=>?_⟩
 ·have:=C u;unfold Dr tH at this ⊢;rw[e1,e2,e3,e4];exact this
 ·have:=D u;unfold Fc tH at this ⊢;rw[e1,e2,e3,e4,e5];exact this
variable {v:Nm}{now:List aQ}{snaps:List (List aQ)}{s:PS}
theorem Inv.O4(h:Inv v now snaps s){l:List (Bool×Bool×List Int)}(hl:l.length<=64)(hm:∀y∈l,y0 v snaps s y):Inv v now snaps { s with WH:=l }:=
 { h with
  WH:=fun y u=>(hm y u).same rfl rfl rfl rfl rfl
  I8:=hl }
theorem Ds(h:Inv v now snaps s){a:Int}(ha:F1 a):(s.WH=[]/\jN a s=some (0,false,s))\/∃i:Nat,i<s.WH.length/\jN a s=some ((i:Int),true,s)/\
  (∀b0 b1 b2 b3 b4 b5 b6 b7 b8 b9 XG XF XN XB XK XE XJ XV XU XT XS,cD a b0 b1 b2 b3 b4 b5 b6 b7 b8 b9 XG XF XN XB XK XE XJ s.WH XV XU XT XS=some ((i:Int),true))/\(a=0->i=0):=by
 by_cases u:s.WH=[]
 ·refine .inl ⟨u,?_⟩;unfold jN cD;rw[u];rfl
 ·right;have A:0<s.WH.length:=pw.2 u;obtain⟨k,C,D⟩:=KD ha;have z:∀b0 b1 b2 b3 b4 b5 b6 b7 b8 b9 XG XF XN XB XK XE XJ XV XU XT XS,cD a b0 b1 b2 b3 b4 b5 b6 b7 b8 b9 XG XF XN XB XK XE XJ s.WH XV XU XT XS=some (((k % s.WH.length:Nat):Int),true):=by
   intros
   unfold cD;rw[ce,m6 (by omega),pF,C];have B:nz ((s.WH.length:Nat):Int)=some ():=by unfold nz;rw[WV (by omega)]
   rw[B,cM];rfl
  refine⟨k % s.WH.length,nj _ A,?_,z,fun c=>by rw[D c];exact Nat.zero_mod _⟩;unfold jN;rw[z];rfl
theorem Tn{α:Type}(l:List α)(i:Nat)(hi:i<l.length):Sw.del l (i:Int) ((i+1:Nat):Int)=some (l.take i++l.drop (i+1)):=by
 unfold Sw.del Sw.sub;rw[XC (by omega)];simp
theorem Jv{l:List (Bool×Bool×List Int)}(hl:l.length<=1000):dC l=some l:=by
 unfold dC;rw[VU _ _ (by simp;omega)];rfl
theorem OD(h:Inv v now snaps s){a:Int}(ha:F1 a):∃s',rH a s=some (none,s')/\Inv v now snaps s':=by
 rcases Ds h ha with⟨C,u⟩|⟨i,A,u,B,D⟩
 ·refine⟨{ s with WH:=s.WH },?_,h⟩;unfold jN at u;unfold rH gB;cases hq:cD a s.n s.fn s.XH s.WX s.blocks s.VW s.WS s.VQ s.VR s.sent s.safe s.VV s.on s.XL s.WI s.first s.receiver s.WH s.o5 s.fd s.g9 s.od with
  |none=>rw[hq] at u;cases u
  |some q=>
   rw[hq] at u;simp only[cM,B1,R3] at u;simp only[cM,jp,u.2.1,pF]
 ·refine⟨{ s with WH:=s.WH.take i++s.WH.drop (i+1) },?_,h.O4 (by have:=h.I8;simp;omega) (fun y z=>h.WH y (by
   rcases N9.1 z with z | z
   ·exact aCp z
   ·exact aDs z))⟩
  unfold rH gB cH;rw[B,cM];simp only[jp,XX];rw[Jv (by have:=h.I8;omega),cM,u6 (by have:=h.I8;omega),Tn _ _ A];rfl
theorem EP(h:Inv v now snaps s){a:Int}(ha:F1 a):∃s',lL a s=some (none,s')/\Inv v now snaps s':=by
 rcases Ds h ha with⟨E,u⟩|⟨i,B,u,A,F⟩
 ·refine⟨{ s with WH:=s.WH },?_,h⟩;unfold jN at u;unfold lL eP;cases hq:cD a s.n s.fn s.XH s.WX s.blocks s.VW s.WS s.VQ s.VR s.sent s.safe s.VV s.on s.XL s.WI s.first s.receiver s.WH s.o5 s.fd s.g9 s.od with
  |none=>rw[hq] at u;cases u
  |some q=>
   rw[hq] at u;simp only[cM,B1,R3] at u;simp only[cM,jp,u.2.1,pF]
 ·have C:=h.I8;by_cases D:s.WH.length<64
  ·refine⟨{ s with WH:=s.WH++[s.WH[i]] },?_,h.O4 (by simp;omega) (fun y z=>h.WH y (by
    rcases N9.1 z with z | z
    ·exact z
    ·simp at z;subst z;exact ff _))⟩
   unfold lL eP;rw[A,cM];simp only[jp,XX,cl];rw[D8 (by omega),cM,XX,sD (F5 B),cM,VU _ _ (by simp;omega)];rfl
  ·refine⟨{ s with WH:=s.WH },?_,h⟩;unfold lL eP;rw[A,cM];simp only[jp,XX,cl];rw[m6 (by omega)];simp only[cM,pF]
end Go.XY
namespace Go.XY
open Go Go.Sw Go.Mo Go.Pl
open Go.XA (Good bM eZ dO)
variable {v:Nm}{now:List aQ}{snaps:List (List aQ)}{s:PS}
theorem VN:∀a:Fin 256,ar .or .u8 ((a.1:Nat):Int) 1=((a.1 ||| 1:Nat):Int):=by decide+kernel
theorem VC{b:Int}(h:0<=b/\b<=255):ar .or .u8 b 1=((b.toNat ||| 1:Nat):Int):=by
 have:=VN ⟨b.toNat,by omega⟩;simp only at this;rw[<-this];congr 1;omega
theorem ER{a b:Nat}(ha:a<256)(hb:b<256):a ^^^ (b ||| 1)≠a/\a ^^^ (b ||| 1)<256:=by
 have z:b ||| 1<2 ^ 8:=aD3 (by simpa using hb) (by decide)
 have A:a ^^^ (b ||| 1)<2 ^ 8:=aCd (by simpa using ha) z;refine⟨fun h=>?_,by simpa using A⟩;have B:b ||| 1=0:=by
  have this:a ^^^ (a ^^^ (b ||| 1))=a ^^^ a:=by rw[h]
  rw[<-Nat.xor_assoc,Nat.xor_self,Nat.zero_xor] at this;exact this
 have u:(b ||| 1).testBit 0=true:=by rw[Nat.testBit_or];simp
 rw[B] at u;simp at u
theorem ES(h:Inv v now snaps s){d:Int×Int×Int×aQ}(h1:F1 d.2.1)(h2:F1 d.2.2.1)(h3:ZN d.2.2.2):∃s',lM d s=some (none,s')/\Inv v now snaps s':=by
 rcases Ds h h1 with⟨hn,A⟩|⟨i,L,A,M,ab⟩
 ·refine⟨{ s with WH:=s.WH },?_,h⟩;unfold jN at A;unfold lM eQ;cases hq:cD d.2.1 s.n s.fn s.XH s.WX s.blocks s.VW s.WS s.VQ s.VR s.sent s.safe s.VV s.on s.XL s.WI s.first s.receiver s.WH s.o5 s.fd s.g9 s.od with
  |none=>rw[hq] at A;cases A
  |some q=>
   rw[hq] at A;simp only[cM,B1,R3] at A;simp only[cM,A.2.1,wo,XX]
 ·have hl:=h.I8;have E:=sD (F5 L);have B:=h.WH _ (ff L);generalize hy:s.WH[i]=y at E B;by_cases C:y.2.1=true
  ·refine⟨{ s with WH:=s.WH },?_,h⟩;unfold lM eQ;rw[M,cM];simp only[nm,pF,E,cM,C,XX]
  ·have C:y.2.1=false:=by simpa using C
   obtain⟨f,g1,I,_,_⟩:=B.whole C;have N:=B.len;have O:0<y.2.2.length:=pw.2 B.ne;obtain⟨k,hk,_⟩:=KD h2;have D:k % y.2.2.length<y.2.2.length:=nj _ O;have H:=B.bytes (y.2.2[k % y.2.2.length]) (ff D);obtain⟨b0,K⟩:∃b0,d.2.2.2[0]? =some b0:=⟨_,F5 (by have:=h3.1;omega)⟩
   have P:=h3.2 b0 (aB7 K);have Q:Sw.idx d.2.2.2 (0:Int)=some b0:=sD (i:=0) K;generalize fx:y.2.2[k % y.2.2.length]=z at H;have R:Sw.idx y.2.2 ((k % y.2.2.length:Nat):Int)=some z:=sD (by rw[<-fx];exact F5 D);have hx:=ER (a:=z.toNat) (b:=b0.toNat) (by omega) (by omega);have S:ar .or .u8 b0 1=((b0.toNat ||| 1:Nat):Int):=VC P;have aa:b0.toNat ||| 1<2 ^ 8:=aD3 (by omega) (by decide)
   have T:ar .xor .u8 z ((b0.toNat ||| 1:Nat):Int)=((z.toNat ^^^ (b0.toNat ||| 1):Nat):Int):=by
    rw[Go.XA.aVd H (by omega),p6]
   obtain⟨w,hw⟩:∃w:Int,w=((z.toNat ^^^ (b0.toNat ||| 1):Nat):Int):=⟨_,rfl⟩
   have F:Bytes (y.2.2.set (k % y.2.2.length) w):=fun x u=>by
    rcases aCz u with u | rfl
    ·exact B.bytes x u
    ·omega
   have U:y0 v snaps s (y.1,true,y.2.2.set (k % y.2.2.length) w):=by
    refine⟨F,by simp only[aCs];exact N,fun G=>by have:=congrArg List.length G;simp only[aCs,X3] at this;omega,fun _=>?_,fun hf=>by cases hf⟩;simp only[I] at F D ⊢;have V:Bytes ((bM f).set (k % (bM f).length) w):=F;refine Go.XA.I7 g1 D (by omega) (fun G=>?_) V;have:(bM f)[k % (bM f).length]=z:=by rw[<-fx];simp only[I]
    rw[this] at G;omega
   refine⟨{ s with WH:=s.WH.set i (y.1,true,y.2.2.set (k % y.2.2.length) w) },?_,h.O4 (by simp;omega) (fun x u=>?_)⟩
   ·unfold lM eQ nJ;rw[M,cM];have X:nz ((y.2.2.length:Nat):Int)=some ():=by unfold nz;rw[WV (by omega)]
    have yr:ar .rem .i64 (k:Int) (y.2.2.length:Int)=((k % y.2.2.length:Nat):Int):=rfl;simp only[nm,pF,E,cM,C];rw[VU _ _ (by simp;omega),V7,cM,X,cM,hk,yr,R,cM,Q,cM];simp only[cM,S,T,<-hw,p6]
   ·rcases aCz u with u | rfl
    ·exact h.WH x u
    ·exact U
end Go.XY
namespace Go.XY
open Go Go.Sw Go.Mo Go.Pl
open Go.ZA (oH)
open Go.XA (Good bM eZ dO)
variable {v:Nm}{now:List aQ}{snaps:List (List aQ)}{s:PS}
theorem vY(a b:Nat):0<=kG a b:=by unfold kG;omega
theorem EU(h:Inv v now snaps s)(hb:v.fb+1<=3000)(a1:Int×Int×Int×aQ):
  ∃s',kT a1 s.n s.fn s.XH s.WX s.blocks s.VW s.WS s.VQ s.VR s.sent s.safe s.VV s.on s.XL s.WI s.first s.receiver s.WH s.o5 s.fd s.g9 s.od=some (aR,none,WU s')/\s'.WH=s.WH/\
   Inv { v with fb:=v.fb+1,q:=0 } (snaps.getD v.h []) snaps s':=by
 have j1:=h.C2;have qv:=h.kh;have P:=h.hs;have Q:=h.n1;have R:=h.n0;have K:snaps.getD v.h []∈snaps:=by
  rw[R4,F5 (by omega)];exact ff _
 have T:(snaps.getD v.h []).length=v.n:=h.ep.len _ K;have L:=Wq h.cu (by omega) (by omega);obtain⟨X,sn,_,N⟩:=Ik h.cu (by omega) (by omega) (by omega) (by omega);rw[T] at L N;refine⟨{ s with fn:=v.n,XH:=(v.h:Int),WX:=((v.fb+1:Nat):Int),blocks:=snaps.getD v.h [],VW:=((v.h:Int),[],[],true),WS:=[((v.h:Int),snaps.getD v.h [])],VQ:= -1,VR:=(0,0,[]),sent:=0,safe:=0,VV:=[],o5:=v.n,fd:=X },?_,rfl,?_⟩
 ·unfold kT;rw[h.zt,h.en,L,cM];simp only[vB,iv,XX,jp];rw[N,cM];rfl
 ·exact { h with
   C2:=by simp only;omega
   pos:=by have:=h.pos;simp only;omega
   efn:=rfl
   enum:=rfl
   ZZ:=rfl
   cu:=sn
   zt:=rfl
   ep:=Ws ⟨R,Q⟩ P (by omega) h.ep.len
   I6:=rfl
   nok:=h.bok _ K
   WS:=fun p M=>by
    simp only[aB9] at M;subst M;exact⟨by simp only;omega,by simp only;omega,by simp only;rw[p6]⟩
   low:=fun _=>aDo _
   last:=by simp only;unfold fQ;simp[kp]
   idle:=fun c=>by
    simp only at c;rcases h.first with⟨H,_⟩|⟨g,H,c2,O,_⟩<;>omega
   safe:=by simp only;omega
   sent:=by simp only;omega
   VQ:= .inl rfl
   VR:= .inl ⟨rfl,rfl,rfl⟩
   queue:= .inl ⟨rfl,rfl⟩
   first:=by
    rcases h.first with c |⟨g,H,c2,O,c4⟩
    ·exact .inl c
    ·exact .inr ⟨g,H,by simp only;omega,O,c4⟩
   act:=fun U=>by have:=vY (v.fb+1) v.ob;simp only at U;omega
   WH:=fun y u=>by
    have u:=h.WH y u;refine⟨u.bytes,u.len,u.ne,u.I7,fun V=>?_⟩;obtain⟨f,g1,g2,g3,g4⟩:=u.whole V;refine⟨f,g1,g2,fun hb=>?_,fun hb=>?_⟩
    ·rcases g3 hb with⟨g,a1,z,A⟩|⟨S,q,m,a1,z,A,B,I⟩
     ·exact .inl ⟨g,a1,by simp only;omega,A⟩
     ·obtain⟨g,o,C,D,E,F,b5,G⟩:=A;refine .inr ⟨S,q,m,a1,z,⟨g,o,C,D,E,F,.inl (by simp only;omega),G⟩,fun c=>?_,I⟩;have:=vY g o;simp only at c;omega
    ·rcases g4 hb with⟨g,o,j,t,a1,z,A,B,I,a6,a7,a8⟩|⟨S,a,a1,z,A,B⟩
     ·exact .inl ⟨g,o,j,t,a1,z,by simp only;omega,B,I,a6,a7,fun c=>by simp only at c;omega⟩
     ·obtain⟨g,o,C,D,E,F,b5,G⟩:=z;refine .inr ⟨S,a,a1,⟨g,o,C,D,E,F,.inl (by simp only;omega),G⟩,fun c=>?_,B⟩
      have:=vY g o;simp only at c;omega }
theorem EV(h:Inv v now snaps s)(hb:v.ob+1<=3000)(a1:Int×Int×Int×aQ):
  ∃s',kE a1 s.n s.fn s.XH s.WX s.blocks s.VW s.WS s.VQ s.VR s.sent s.safe s.VV s.on s.XL s.WI s.first s.receiver s.WH s.o5 s.fd s.g9 s.od=some (aR,none,WU s')/\s'.WH=s.WH/\
   Inv { v with ob:=v.ob+1,x:=0 } now snaps s':=by
 have j1:=h.C2;have qv:=h.kh;have ZW:=h.hs;have L7:=h.n1;have jj:=h.n0;have M:snaps.getD v.k []∈snaps:=by
  rw[R4,F5 (by omega)];exact ff _
 have N:(snaps.getD v.k []).length=v.n:=h.ep.len _ M;have I:=Wq h.J5 (by omega) (by omega);obtain⟨P,Q,_,K⟩:=Il h.J5 (by omega) (by omega) (by omega) (by omega);rw[N] at I K;refine⟨{ s with on:=v.n,XL:=(v.k:Int),WI:=((v.ob+1:Nat):Int),first:= -1,receiver:=(0,0),g9:=v.n,od:=P },?_,rfl,?_⟩
 ·unfold kE;rw[h.ph,h.en,I,cM];simp only[vB,iv,XX,jp];rw[K,cM];rw[<-h.en];rfl
 ·exact { h with
   C2:=by simp only;omega
   pos:=by have:=h.pos;simp only;omega
   eon:=rfl
   N1:=rfl
   X1:=rfl
   J5:=Q
   ph:=rfl
   VQ:=by
    rcases h.VQ with c |⟨o,L,c2,H,c4⟩
    ·exact .inl c
    ·exact .inr ⟨o,L,by simp only;omega,H,fun c=>by simp only at c;omega⟩
   first:= .inl ⟨rfl,rfl,rfl⟩
   idle:=fun _ _=>rfl
   act:=fun C=>by
    simp only at C;rcases h.VQ with c |⟨o,L,c2,H,c4⟩
    ·have:=vY v.fb (v.ob+1);omega
    ·rw[H] at C;have:=(sZ (by omega) (by omega) C).2;omega
   WH:=fun y u=>by
    have u:=h.WH y u;refine⟨u.bytes,u.len,u.ne,u.I7,fun O=>?_⟩;obtain⟨f,R,T,U,V⟩:=u.whole O;refine⟨f,R,T,fun hb=>?_,fun hb=>?_⟩
    ·rcases U hb with⟨g,a1,z,A⟩|⟨S,q,m,a1,z,A,B,a5⟩
     ·exact .inl ⟨g,a1,z,A⟩
     ·obtain⟨g,o,D,E,F,X,G,b6⟩:=A;refine .inr ⟨S,q,m,a1,z,⟨g,o,D,E,F,by simp only;omega,G,fun c=>by simp only at c;omega⟩,B,fun c=>?_⟩;simp only at c;omega
    ·rcases V hb with⟨g,o,j,t,a1,z,A,B,a5,a6,a7,a8⟩|⟨S,a,a1,z,A,B⟩
     ·exact .inl ⟨g,o,j,t,a1,z,A,B,by simp only;omega,a6,a7,fun _ c=>by simp only at c;omega⟩
     ·obtain⟨g,o,D,E,F,X,G,b6⟩:=z;refine .inr ⟨S,a,a1,⟨g,o,D,E,F,by simp only;omega,G,fun c=>by simp only at c;omega⟩,A,fun c=>?_⟩
      simp only at c;omega }
end Go.XY
namespace Go.XY
open Go Go.Sw Go.Mo Go.Pl
open Go.ZA (oH)
open Go.XA (Good bM eZ dO eB qP Fb fH pS rG jK Js Oe nC Jt)
variable {v:Nm}{now:List aQ}{snaps:List (List aQ)}{s:PS}
def mB(l:List (Bool×Bool×List Int))(y:Bool×Bool×List Int):List (Bool×Bool×List Int):=if l.length<64 then l++[y] else l
def To(s s':PS):Prop:=s'.WH=s.WH\/∃y,s'.WH=mB s.WH (false,y)
theorem Rr{l:List (Bool×Bool×List Int)}{y}(h:l.length<=64):(mB l y).length<=64:=by
 unfold mB;split
 ·simp;omega
 ·exact h
theorem EW{l:List (Bool×Bool×List Int)}{x y}(h:x∈mB l y):x∈l\/x=y:=by
 unfold mB at h;split at h
 ·simpa using h
 ·exact .inl h
theorem ZT{f:Fm}(g:Good f):bM f≠ []/\(bM f).length<=1004:=by
 have z:=(rG g).2;have u:(bM f).length=(Go.XA.body f).length+4:=by unfold bM;rw[sM];unfold Go.XA.A4;simp
 exact⟨fun h=>by rw[h] at u;simp at u,by omega⟩
theorem Iq(dir:Bool)(b:List Int)(b0 b1 b2 b3 b4 b5 b6 b7 b8 b9 XG XF XN XB XK XE XJ WZ XV XU XT XS)(hl:WZ.length<=64):
  eM dir (false,b) b0 b1 b2 b3 b4 b5 b6 b7 b8 b9 XG XF XN XB XK XE XJ WZ XV XU XT XS=some (mB WZ (dir,false,b)):=by
 unfold eM mB;simp only[wo,XX,cM];by_cases h:WZ.length<64
 ·have:cm .lss (WZ.length:Int) (64:Int)=true:=by rw[cl];exact D8 (by omega)
  rw[this,XC h,XX,VU _ _ (by simp;omega),cM]
 ·have:cm .lss (WZ.length:Int) (64:Int)=false:=by rw[cl];exact m6 (by omega)
  rw[this,WV h,pF]
theorem Tp{f:Fm}(g:Good f)(he:eB f=0)(dir:Bool)(b0 b1 b2 b3 b4 b5 b6 b7 b8 b9 XG XF XN XB XK XE XJ WZ XV XU XT XS)(hl:WZ.length<=64):
  iV dir f b0 b1 b2 b3 b4 b5 b6 b7 b8 b9 XG XF XN XB XK XE XJ WZ XV XU XT XS=some (none,mB WZ (dir,false,bM f)):=by
 unfold iV;rw[Fb g he,cM];have h:HR (bM f)=some ():=by
  unfold HR;have:=(ZT g).1;cases hp:bM f with
  |nil=>exact absurd hp this
  |cons a l=>rfl
 simp only[jp,iv,XX];rw[h,cM,Iq _ _ _ _ _ _ _ _ _ _ _ _ _ _ _ _ _ _ _ _ _ _ _ _ hl];rfl
theorem Inv.push(h:Inv v now snaps s){y:Bool×Bool×List Int}(hy:y0 v snaps s y):Inv v now snaps { s with WH:=mB s.WH y }:=
 h.O4 (Rr h.I8) (fun x u=>by
  rcases EW u with u | rfl
  ·exact h.WH x u
  ·exact hy)
theorem Ff{f:Fm}(g:Good f)(dir:Bool)(h1:dir=true->Dr v snaps s f)(h2:dir=false->Fc v snaps s f):y0 v snaps s (dir,false,bM f):=
 ⟨pS g,by have:=(ZT g).2;simp only;omega,(ZT g).1,fun h=>(nomatch h),fun _=>⟨f,g,rfl,h1,h2⟩⟩
theorem Oi{g:Nat}(h:g<=2147483647):eB (jP g)=0/\Good (jP g):=by
 have z:dO (jP g)=0:=Mc (by unfold jP;simp only;omega) (by unfold jP;simp) (by unfold jP;simp) (fun x u=>by simp only[jP,aB9] at u;subst u;omega);have:=(Go.XA.p4 z).1;exact⟨this,qP this (fun b A=>by simp[jP] at A)⟩
theorem D4{S:Int}{q:Nat}{m:Fm}(hm:F6 m)(hS:0<=S/\S<=2147483647)(hq:q<=2147483647):Good (WW S q m):=by
 obtain⟨u,z⟩:=Go.XA.p4 hm.load;have g:=qP u hm.ZE;refine⟨by unfold WW;simp,by unfold WW;simp,by unfold WW;simp;omega,g.bs,fun n h=>?_,g.ZE⟩;simp only[WW,dk,V7,q9] at h;rcases h with rfl | rfl | rfl | h
 ·exact hS
 ·omega
 ·have:=g.s0;have:=g.s1;omega
 ·exact g.num n h
theorem EX(h:Inv v now snaps s)(hS:0<=s.VQ)(hq:s.VR.2.2=[])(hs:s.sent<v.h){m:Fm}(hm:F6 m)(hn:∀cur:Int,0<=cur->cur<v.h->(s.sent= -1\/cur=s.sent)->x8 v.n snaps cur v.h m):
  Inv v now snaps { s with VR:=(s.VQ,(v.q:Int),[m]),sent:=(v.h:Int),VV:=[(v.h:Int)] }:=by
 have P:=h.C2
 exact { h with
  sent:=by simp only;omega
  VR:= .inr ⟨hS,rfl,rfl⟩
  low:=fun c=>by simp at c
  queue:= .inr ⟨m,rfl,rfl,hm,by simp only;omega⟩
  act:=fun G=>by
   rcases h.act G with⟨A,z,B⟩|⟨A,z,B⟩
   ·refine .inl ⟨A,fun c=>by simp at c,fun E F=>?_⟩;simp only[aC0,aEi] at F;subst F;rcases z hq with c |⟨N,Q⟩
    ·exact hn v.k (by omega) (by omega) (.inr c.symm)
    ·exact hn v.k (by omega) (by omega) (.inl N)
   ·exact absurd hq z
  WH:=fun y u=>by
   have u:=h.WH y u;refine⟨u.bytes,u.len,u.ne,u.I7,fun H=>?_⟩;obtain⟨f,I,K,L,M⟩:=u.whole H;refine⟨f,I,K,fun C=>?_,fun C=>?_⟩
   ·rcases L C with c |⟨S,q,E,A,z,B,D,O⟩
    ·exact .inl c
    ·refine .inr ⟨S,q,E,A,z,B,fun c=>?_,O⟩;rcases D c with c |⟨_,c⟩
     ·exact .inl c
     ·rw[hq] at c;simp at c
   ·rcases M C with c |⟨S,a,A,z,B,D⟩
    ·exact .inl c
    ·refine .inr ⟨S,a,A,z,fun c=>?_,D⟩;rcases B c with c |⟨_,c,_⟩
     ·exact .inl c
     ·exact absurd hq c }
theorem Md{v:Nm}{now:List aQ}{snaps:List (List aQ)}{s:PS}(h:Inv v now snaps s):s.VQ<=2147483647:=by
 have z:=h.C2;rcases h.VQ with c |⟨o,A,B,u,C⟩
 ·omega
 ·rw[u];unfold kG;omega
theorem Pu(h:Inv v now snaps s)(hS:0<=s.VQ){m:Fm}(hq:s.VR.2.2=[m])(hm:F6 m):Dr v snaps s (WW s.VQ v.q m):=by
 have L:=h.C2;rcases h.VQ with c |⟨o,D,E,u,F⟩
 ·omega
 ·refine .inr ⟨_,_,m,rfl,hm,⟨v.fb,o,u,h.pos.1,D,E,.inr ⟨rfl,by omega⟩,fun e=>by rw[F e];exact aDo _⟩,fun _=> .inr ⟨rfl,hq⟩,fun M z=>?_⟩;rcases h.first with⟨G,_⟩|⟨g,G,O,P,H⟩
  ·omega
  ·rw[H] at z;simp only at z;have A:=z;rw[u] at A;obtain⟨N,C⟩:=sZ (by omega) (by omega) A;rw[C] at u;rcases h.act u with⟨I,K,B⟩|⟨I,K,B⟩
   ·exact⟨by omega,fun _=>⟨_,B m hq⟩⟩
   ·exact⟨by omega,fun c=>by omega⟩
end Go.XY
namespace Go.XY
open Go Go.Sw Go.Mo Go.Pl
open Go.ZA (oH)
open Go.XA (Good bM eZ dO eB qP Fb fH pS rG jK Js Oe nC Jt)
variable {v:Nm}{now:List aQ}{snaps:List (List aQ)}{s:PS}
def QQ(v:Nm)(s s':PS):Prop:=s'.first=s.first/\s'.VQ=s.VQ/\
 ((s.VQ<0/\s'.WH=mB s.WH (true,false,bM (jP v.fb)))\/
  (0<=s.VQ/\s'.VR.2.2=[]/\s'.sent=v.h/\s'.WH=mB s.WH (true,false,bM (jP v.fb)))\/
  (0<=s.VQ/\∃m,s'.VR.2.2=[m]/\F6 m/\(s.VR.2.2=[]->s'.sent=v.h)/\s'.WH=mB (mB s.WH (true,false,bM (jP v.fb))) (true,false,bM (WW s.VQ v.q m))))
theorem CJ(h:Inv v now snaps s):∃s',fS s=some (none,s')/\Inv v now snaps s'/\QQ v s s':=by
 have j1:=h.C2;have G:=h.I8;obtain⟨he,hg⟩:=Oi (g:=v.fb) (by omega);have K:Inv v now snaps { s with WH:=mB s.WH (true,false,bM (jP v.fb)) }:=
  h.push (Ff hg true (fun _=> .inl ⟨v.fb,h.pos.1,YZ _,rfl⟩) (fun c=>nomatch c))
 have V:=Rr (y:=(true,false,bM (jP v.fb))) G;have L:=Tp hg he true;have qu:=Md h;rcases h.VR with⟨F,c2,c3⟩|⟨F,c2,c3⟩
 ·
  refine⟨{ s with WH:=mB s.WH (true,false,bM (jP v.fb)) },?_,K,rfl,rfl,.inl ⟨by omega,rfl⟩⟩;unfold fS dE;rw[h.ZZ];have A:((2:Int),([(v.fb:Int)]:List Int),([]:List aQ))=jP v.fb:=rfl;rw[A,L _ _ _ _ _ _ _ _ _ _ _ _ _ _ _ _ _ _ _ _ _ _ G,cM];have H:cm .lss s.VQ (0:Int)=true:=by rw[cl];exact D8 (by omega)
  simp only[j7,pF,cM,H,XX]
 ·have H:cm .lss s.VQ (0:Int)=false:=by rw[cl];exact m6 (by omega)
  have B:s.VR=(s.VQ,(v.q:Int),s.VR.2.2):=by rw[<-c2,<-c3]
  have X:∀(C:PS) (m:Fm),Inv v now snaps C->C.VQ=s.VQ->C.VR=(s.VQ,(v.q:Int),[m])->F6 m->
    ∃s3,s3={ C with WH:=mB C.WH (true,false,bM (WW s.VQ v.q m)) }/\Inv v now snaps s3:=by
   intro C m hi D e4 u;refine⟨_,rfl,hi.push (Ff (D4 u (by omega) (by omega)) true (fun _=>?_) (fun c=>nomatch c))⟩;have:=Pu hi (by rw[D];exact F) (m:=m) (by rw[e4]) u;rw[D] at this;exact this
  have cz:∀(m:Fm) (k:List (Bool×Bool×List Int)->Option ((Option Int)×(Int×Int×(List (Int×(List Int)×(List aQ))))×Int×(List Int)×(List (Bool×Bool×(List Int))))) (b0 b1 b2 b3 b4 b5 b6 b7 b8 b9 XG XF XN XB XK XE XJ XV XU XT XS) (E:List (Bool×Bool×List Int)),E.length<=64->F6 m->
    lp (β:=(List (Bool×Bool×(List Int)))) (fun (I:Int×(List (Bool×Bool×(List Int))))=>
      bif (cm .lss I.1 (([bM (WW s.VQ v.q m)]:List (List Int)).length:Int)) then
       (Sw.idx [bM (WW s.VQ v.q m)] I.1).bind fun ab=>
        (HR ab).bind fun _=>
         (eM true (false,ab) b0 b1 b2 b3 b4 b5 b6 b7 b8 b9 XG XF XN XB XK XE XJ I.2 XV XU XT XS).bind fun xo=>
          some (.next ((ar .add .i64 I.1 (1:Int)),xo))
      else
       some (.done (.WT I.2))
      ) ((0:Int),E) k=k (mB E (true,false,bM (WW s.VQ v.q m))):=by
   intro m k b0 b1 b2 b3 b4 b5 b6 b7 b8 b9 XG XF XN XB XK XE XJ XV XU XT XS E jj u;have ac:=D4 u (S:=s.VQ) (q:=v.q) (by omega) (by omega);obtain⟨p1,p2⟩:=ZT ac;have ZI:HR (bM (WW s.VQ v.q m))=some ():=by
    unfold HR;cases hp:bM (WW s.VQ v.q m) with
    |nil=>exact absurd hp p1
    |cons a l=>rfl
   unfold lp;rw[show fK=1125899906842622+1+1 from rfl,Go.XA.ZU (y:=((1:Int),mB E (true,false,bM (WW s.VQ v.q m)))),Go.XA.YY (b:= .WT (mB E (true,false,bM (WW s.VQ v.q m))))]
   ·rfl
   ·have:Sw.idx [bM (WW s.VQ v.q m)] (0:Int)=some (bM (WW s.VQ v.q m)):=rfl;simp only[cl,aCw];rw[D8 (by omega),XX,this,cM,ZI,cM,Iq _ _ _ _ _ _ _ _ _ _ _ _ _ _ _ _ _ _ _ _ _ _ _ _ jj,cM];rfl
  have aa:∀m,F6 m->pG (s.VQ,(v.q:Int),[m])=some ([bM (WW s.VQ v.q m)],none):=by
   intro m u;have P:=nC (S:=s.VQ) (q:=(v.q:Int)) (l:=[m]) (by omega) (by omega) (by simp) (fun f N=>by simp at N;subst N;exact u.load);rw[Oe P (by omega) u.load u.ZE];have:Go.XA.WW (s.VQ,(v.q:Int),[m]) 0 m=WW s.VQ v.q m:=by unfold Go.XA.WW WW;simp
   rw[this]
  rcases h.queue with⟨z,d2⟩|⟨m,z,d2,O,d4⟩
  ·
   rw[z] at B;by_cases M:s.sent<v.h
   ·
    obtain⟨m,n1,T⟩:=OB h.ep h.n0 h.n1 h.hs (by omega) h.bok (fun j l hl=>by have:=h.WS _ (Ip hl);simpa using this) h.last (k:=s.sent) ⟨h.sent.1,M⟩;have u:F6 m:=by
     have:=h.sent;by_cases c:s.sent= -1
     ·have:=T 0 (by omega) (by omega) (.inl c);exact⟨this.load,this.ZE⟩
     ·have:=T s.sent (by omega) (by omega) (.inr rfl);exact⟨this.load,this.ZE⟩
    have h2:=EX K F z M u T;obtain⟨s3,D,U⟩:=X _ m h2 rfl rfl u;subst D;refine⟨_,?_,U,rfl,rfl,.inr (.inr ⟨F,m,rfl,u,fun _=>rfl,rfl⟩)⟩;unfold fS dE;rw[h.ZZ];have A:((2:Int),([(v.fb:Int)]:List Int),([]:List aQ))=jP v.fb:=rfl;rw[A,L _ _ _ _ _ _ _ _ _ _ _ _ _ _ _ _ _ _ _ _ _ _ G,cM];have Q:cm .lss s.sent s.XH=true:=by rw[cl,h.enum];exact D8 M
    have R:cm .eql (s.VR.2.2.length:Int) (0:Int)=true:=by rw[z];rfl
    simp only[j7,pF,cM,H,Q,R,XX,jp];rw[h.efn,h.enum,n1,cM,B,Jt (by omega) (by omega) u.load,cM];simp only[j7,pF];rw[d2,VU _ _ (by simp),cM];rw[aa m u,cM];simp only[];rw[cz m _ _ _ _ _ _ _ _ _ _ _ _ _ _ _ _ _ _ _ _ _ _ _ V u];simp only[cM,V7]
   ·refine⟨{ s with WH:=mB s.WH (true,false,bM (jP v.fb)) },?_,K,rfl,rfl,.inr (.inl ⟨F,z,by have:=h.sent;simp only;omega,rfl⟩)⟩;unfold fS dE;rw[h.ZZ];have A:((2:Int),([(v.fb:Int)]:List Int),([]:List aQ))=jP v.fb:=rfl;rw[A,L _ _ _ _ _ _ _ _ _ _ _ _ _ _ _ _ _ _ _ _ _ _ G,cM];have Q:cm .lss s.sent s.XH=false:=by rw[cl,h.enum];exact m6 M
    simp only[j7,pF,cM,H,Q,XX,jp];have P:=nC (S:=s.VQ) (q:=(v.q:Int)) (l:=[]) (by omega) (by omega) (by simp) (fun f N=>by simp at N);rw[B,Js P,cM];simp only[];unfold lp;rw[show fK=1125899906842623+1 from rfl,Go.XA.YY (b:= .WT (mB s.WH (true,false,bM (jP v.fb))))]
    ·simp only[cM]
    ·rfl
  ·rw[z] at B;obtain⟨s3,D,U⟩:=X _ m K rfl B O;subst D;refine⟨_,?_,U,rfl,rfl,.inr (.inr ⟨F,m,z,O,fun c=>(by rw[z] at c;cases c),rfl⟩)⟩;unfold fS dE;rw[h.ZZ];have A:((2:Int),([(v.fb:Int)]:List Int),([]:List aQ))=jP v.fb:=rfl;rw[A,L _ _ _ _ _ _ _ _ _ _ _ _ _ _ _ _ _ _ _ _ _ _ G,cM];have R:(bif (cm .lss s.sent s.XH) then some (cm .eql (s.VR.2.2.length:Int) (0:Int)) else some false)=some false:=by
    rw[z];cases cm .lss s.sent s.XH<;>rfl
   simp only[j7,pF,cM,H];rw[R,cM];simp only[pF,jp];rw[B,aa m O,cM];simp only[];rw[cz m _ _ _ _ _ _ _ _ _ _ _ _ _ _ _ _ _ _ _ _ _ _ _ V O];simp only[cM]
end Go.XY
namespace Go.XY
open Go Go.Sw Go.Mo Go.Pl
open Go.ZA (oH xV)
open Go.XA (Good bM eZ dO eB qP)
variable {v:Nm}{now:List aQ}{snaps:List (List aQ)}{s:PS}
theorem KE{g o:Nat}(hg:g<=3000)(ho:o<=3000):ar .or .i64 (sh .shl .i64 (g:Int) (12:Int)) (o:Int)=kG g o:=by
 have h:sh .shl .i64 (g:Int) (12:Int)=((g*2 ^ 12:Nat):Int):=by
  show IntKind.wrap .i64 ((g:Int)*2 ^ min ((12:Nat):Int).toNat 64)=_;rw[p6,rk (by omega)];have e:(g:Int)*2 ^ 12=((g*2 ^ 12:Nat):Int):=by omega
  rw[e,wrap_i64 (by omega)]
 rw[h,Go.ZA.orI (by omega) (by omega),Go.ZA.orP (by omega)];unfold kG;rfl
theorem EY(h:Inv v now snaps s){g:Nat}(h1:1<=g)(h2:g<=v.fb)(h3:s.first<g):Inv { v with x:=0 } now snaps { s with first:=(g:Int),receiver:=(kG g v.ob,0) }:=by
 have j1:=h.C2;have K:∀S,tH v s S->S≠kG g v.ob:=by
  rintro S ⟨C,o,G,M,N,O,P,H⟩ e;rw[G] at e;obtain⟨e1,T⟩:=sZ (by omega) (by omega) e;have:=H T;omega
 have L:∀S,tH v s S->tH { v with x:=0 } { s with first:=(g:Int),receiver:=(kG g v.ob,0) } S:=by
  rintro S ⟨C,o,G,M,N,O,P,H⟩;exact⟨C,o,G,M,N,O,P,fun e=>by have:=H e;simp only;omega⟩
 exact { h with
  C2:=by simp only;omega
  idle:=fun _ _=>rfl
  VQ:=by
   rcases h.VQ with c |⟨o,c1,c2,c3,I⟩
   ·exact .inl c
   ·exact .inr ⟨o,c1,c2,c3,fun e=>by have:=I e;simp only;omega⟩
  first:= .inr ⟨g,h1,h2,rfl,rfl⟩
  act:=fun E=>by
   simp only at E;rcases h.VQ with c |⟨o,c1,c2,c3,I⟩
   ·have:=vY v.fb v.ob;omega
   ·rw[c3] at E;have:=I (sZ (by omega) (by omega) E).2;omega
  WH:=fun y u=>by
   have u:=h.WH y u;refine⟨u.bytes,u.len,u.ne,u.I7,fun R=>?_⟩;obtain⟨f,U,V,X,g4⟩:=u.whole R;refine⟨f,U,V,fun F=>?_,fun F=>?_⟩
   ·rcases X F with c |⟨S,q,m',B,z,A,D,Q⟩
    ·exact .inl c
    ·exact .inr ⟨S,q,m',B,z,L S A,D,fun _ c=>absurd c (K S A)⟩
   ·rcases g4 F with⟨C,o,j,t,B,z,A,D,Q,a6,a7,a8⟩|⟨S,a,B,z,A,D⟩
    ·refine .inl ⟨C,o,j,t,B,z,A,D,Q,a6,a7,fun c d e=>?_⟩;have:=(a8 c d e).2.1;omega
    ·exact .inr ⟨S,a,B,L S z,A,fun _ c=>absurd c (K S z)⟩}
theorem Ir{g o j:Nat}{t:List Int}(hg:g<=2147483647)(ho:o<=2147483647)(hj:j<=2147483647){x y:Int}(ht:t=[x,y])(hx:0<=x/\x<=2147483647)(hy:0<=y/\y<=2147483647):eB (dV g o j t)=0/\Good (dV g o j t):=by
 subst ht
 have u:dO (dV g o j [x,y])=0:=Mc (by unfold dV;simp only;omega) (by unfold dV;simp) (by unfold dV;simp) (fun n h=>by
  simp only[dV,dk,V7,q9,aCm,aEl] at h
  rcases h with rfl | rfl | rfl | rfl | rfl<;>omega)
 have:=(Go.XA.p4 u).1;exact⟨this,qP this (fun b z=>by simp[dV] at z)⟩
theorem Fz(h:Inv v now snaps s){g:Nat}(h1:1<=g)(h2:g<=v.fb)(h3:s.first=g){t:List Int}(ht:jY (snaps.getD v.k [])=some t):Fc v snaps s (dV g v.ob v.k t):=by
 have:=h.pos;exact .inl ⟨g,v.ob,v.k,t,rfl,h1,h2,h.pos.2,YZ _,YZ _,ht,fun c _ e=>⟨rfl,by rw[h3,c],h.idle (by rw[h3,c]) (by rw[c] at e;exact e)⟩⟩
theorem Jw(h:Inv v now snaps s)(h0:0<=s.first)(hs:s.VQ=s.receiver.1):s.VQ=kG v.fb v.ob:=by
 have B:=h.C2;rcases h.first with⟨A,_⟩|⟨g,A,C,D,u⟩
 ·omega
 ·rcases h.VQ with c |⟨o,E,F,z,G⟩
  ·rw[u] at hs;have:=vY g v.ob;simp only at hs;omega
  ·rw[u,z] at hs;rw[z,(sZ (by omega) (by omega) hs).2]
theorem CK(h:Inv v now snaps s)(h0:0<=s.first)(ha:tH v s s.receiver.1):Fc v snaps s (tA s.receiver.1 v.x):=by
 refine .inr ⟨_,v.x,rfl,ha,fun c=>?_,fun _ _=>YZ _⟩;rcases h.act (Jw h h0 c.symm) with⟨u,_⟩|⟨u,z,A⟩
 ·exact .inl (by omega)
 ·exact .inr ⟨u,z,by omega⟩
theorem KF(h:Inv v now snaps s)(hx:v.x+1<=100000)(h0:0<=s.first)(ha:tH v s s.receiver.1){to:Nat}(XI:v.k<to)(hle:to<=v.h){d':(List aQ)×(List (Int×aQ))×Int}(hd:oH d' (snaps.getD to []) to v.ob)
  (hq:s.VQ=s.receiver.1->v.x=v.q/\s.VR.2.2≠ []/\s.sent=to):
  Inv { v with k:=to,x:=v.x+1 } now snaps { s with XL:=(to:Int),receiver:=(s.receiver.1,((v.x+1:Nat):Int)),g9:=(v.n:Int),od:=d' }:=by
 have j1:=h.C2;have ib:=h.safe;have Q:s.VQ=kG v.fb v.ob->s.VQ=s.receiver.1:=by
  intro e;rcases h.VQ with c |⟨o,O,P,K,c4⟩
  ·have:=vY v.fb v.ob;omega
  ·rw[K] at e;have F:=(sZ (by omega) (by omega) e).2;rcases h.first with⟨z,_⟩|⟨g,z,G,H,d4⟩
   ·omega
   ·have:=c4 F;have u:g=v.fb:=by omega
    rw[d4,K,u,F]
 exact { h with
  C2:=by simp only;omega
  N1:=rfl
  kh:=hle
  J5:=hd
  ph:=rfl
  safe:=by simp only;omega
  idle:=fun c d=>by
   obtain⟨M,o,C,R,T,U,D,V⟩:=ha;rcases h.first with⟨z,_⟩|⟨g,z,G,H,d4⟩
   ·omega
   ·simp only at c d;have u:g=v.fb:=by omega
    rw[d4,u] at C;obtain⟨X,F⟩:=sZ (by omega) (by omega) C;rw[d4,u] at D;simp only at D;omega
  first:=by
   rcases h.first with⟨z,_⟩|⟨g,z,G,H,d4⟩
   ·omega
   ·exact .inr ⟨g,z,G,H,by simp only;rw[d4]⟩
  act:=fun e=>by
   obtain⟨a1,a2,B⟩:=hq (Q e);exact .inr ⟨by simp only;omega,a2,B⟩
  WH:=fun y A=>by
   have A:=h.WH y A;refine⟨A.bytes,A.len,A.ne,A.I7,fun u=>?_⟩;obtain⟨f,g1,N,g3,g4⟩:=A.whole u;refine⟨f,g1,N,fun I=>?_,fun I=>?_⟩
   ·rcases g3 I with c |⟨S,q,m',a1,a2,B,E,L⟩
    ·exact .inl c
    ·refine .inr ⟨S,q,m',a1,a2,B,E,fun c d=>?_⟩;have:=(L c d).1;exact⟨by simp only;omega,fun e=>by simp only at e;omega⟩
   ·rcases g4 I with⟨M,o,j,t,a1,a2,B,E,L,a6,a7,a8⟩|⟨S,a,a1,a2,B,E⟩
    ·refine .inl ⟨M,o,j,t,a1,a2,B,E,L,by simp only;omega,a7,fun c d e=>?_⟩;have hf:=(a8 c d e).2.1;obtain⟨N,o2,C,R,T,U,D,V⟩:=ha;rcases h.first with⟨z,_⟩|⟨g,z,G,H,d4⟩
     ·omega
     ·simp only at c d e;have u:g=v.fb:=by omega
      rw[d4,u] at C;obtain⟨X,F⟩:=sZ (by omega) (by omega) C;rw[d4,u] at D;simp only at D;rw[c,d] at e;omega
    ·refine .inr ⟨S,a,a1,a2,fun c=>?_,fun c d=>by have:=E c d;simp only;omega⟩;rcases B c with c |⟨O,P,K⟩
     ·exact .inl c
     ·exact .inr ⟨O,P,by simp only;omega⟩}
end Go.XY
namespace Go.XY
open Go Go.Sw Go.Mo Go.Pl
open Go.ZA (oH xV)
open Go.XA (Good bM eZ dO eB qP Ij Od oJ fH)
variable {v:Nm}{now:List aQ}{snaps:List (List aQ)}{s:PS}
theorem EZ(dir:Bool)(b:List Int)(b0 b1 b2 b3 b4 b5 b6 b7 b8 b9 XG XF XN XB XK XE XJ WZ XV XU XT XS):
  eM dir (true,b) b0 b1 b2 b3 b4 b5 b6 b7 b8 b9 XG XF XN XB XK XE XJ WZ XV XU XT XS=some WZ:=rfl
theorem La(h:Inv v now snaps s)(h0:0<=s.first):(0<=s.receiver.1/\s.receiver.1<=2147483647)/\s.receiver.2=v.x:=by
 have A:=h.C2;rcases h.first with⟨u,_⟩|⟨g,u,B,C,z⟩
 ·omega
 ·rw[z];refine⟨?_,rfl⟩;show 0<=kG g v.ob/\kG g v.ob<=2147483647;unfold kG;omega
theorem Oj(b:List Int)(u:Fm)(e:Option Int)(hu:fF b=some (u,e))(hn:e.isSome=true\/u.1≠2)
  (hr:0<=s.first->∃fr,oB s.receiver b=some (s.receiver,fr,false,(true,[]),none)):dP b s=some (none,s):=by
 unfold dP cI;have A:(bif Option.isNone e then bif cm .eql u.1 (2:Int) then some (cm .eql (u.2.1.length:Int) (1:Int)) else some false else some false)=some false:=by
  rcases hn with c | c
  ·cases e with
   |none=>cases c
   |some e=>rfl
  ·have:cm .eql u.1 (2:Int)=false:=by rw[ce];exact m6 c
   rw[this];cases e<;>rfl
 rw[hu,cM];simp only[];rw[A,cM];simp only[pF];by_cases z:s.first<0
 ·have h:cm .lss s.first (0:Int)=true:=by rw[cl];exact D8 z
  rw[h];simp only[XX,cM]
 ·have h:cm .lss s.first (0:Int)=false:=by rw[cl];exact m6 z
  obtain⟨fr,hr⟩:=hr (by omega);rw[h,hr];simp only[pF,cM,j7,jp,EZ]
def OE(v:Nm)(snaps:List (List aQ))(s s':PS)(x':Nat):Prop:=s'.first=v.fb/\s'.VQ=s.VQ/\s'.VR=s.VR/\s'.sent=s.sent/\s'.safe=s.safe/\(s.first=v.fb->x'=v.x)/\
 ∃x y,jY (snaps.getD v.k [])=some [x,y]/\s'.WH=mB s.WH (false,false,bM (dV v.fb v.ob v.k [x,y]))
theorem Rs(h:Inv v now snaps s){b:List Int}{g:Nat}(h1:1<=g)(h2:g<=v.fb)(hu:fF b=some (jP g,none)):
  ∃x' s',x'<=v.x/\dP b s=some (none,s')/\Inv { v with x:=x' } now snaps s'/\To s s'/\(g=v.fb->OE v snaps s s' x'):=by
 have R:=h.C2;have S:=h.kh;have T:=h.hs;have U:=h.n1;have V:=h.n0;have H:snaps.getD v.k []∈snaps:=by
  rw[R4,F5 (by omega)];exact ff _
 have M:(snaps.getD v.k []).length=v.n:=h.ep.len _ H;have A:=xV h.J5;rw[M,<-h.ph] at A;obtain⟨x,y,u,O,P⟩:=Zl (bs:=snaps.getD v.k []) (by omega) (by omega) (h.bok _ H);obtain⟨L,D⟩:=Ir (g:=g) (o:=v.ob) (j:=v.k) (t:=[x,y]) (by omega) (by omega) (by omega) rfl O P;have I:((3:Int),([(g:Int),(v.ob:Int),(v.k:Int)]++[x,y]:List Int),([]:List aQ))=dV g v.ob v.k [x,y]:=rfl;have E:Sw.idx (jP g).2.1 (0:Int)=some (g:Int):=rfl;have F:cm .eql (jP g).1 (2:Int)=true:=rfl;have G:cm .eql ((jP g).2.1.length:Int) (1:Int)=true:=rfl;by_cases N:s.first<g
 ·have K:=EY h h1 h2 N;refine⟨0,{ s with first:=(g:Int),receiver:=(kG g v.ob,0),WH:=mB s.WH (false,false,bM (dV g v.ob v.k [x,y])) },by omega,?_,K.push (Ff D false (fun c=>nomatch c) (fun _=>Fz K h1 h2 rfl u)),.inr ⟨_,rfl⟩,fun e=>by subst e;exact⟨rfl,rfl,rfl,rfl,rfl,fun c=>by omega,x,y,u,rfl⟩⟩;unfold dP cI;have B:cm .gtr (g:Int) s.first=true:=by rw[cg];exact D8 (by omega)
  have z:cm .lss (g:Int) (g:Int)=false:=by rw[cl];exact m6 (by omega)
  rw[hu,cM];simp only[iv,XX,F,G,cM,E,B,jp];rw[A,cM];simp only[j7,pF,cM,z];rw[u,cM,VU _ _ (by simp),cM,h.X1,h.N1,KE (by omega) (by omega),I,Tp D L _ _ _ _ _ _ _ _ _ _ _ _ _ _ _ _ _ _ _ _ _ _ _ h.I8];rfl
 ·have B:cm .gtr (g:Int) s.first=false:=by rw[cg];exact m6 (by omega)
  by_cases C:s.first=g
  ·refine⟨v.x,{ s with WH:=mB s.WH (false,false,bM (dV g v.ob v.k [x,y])) },YZ _,?_,h.push (Ff D false (fun c=>nomatch c) (fun _=>Fz h h1 h2 C u)),.inr ⟨_,rfl⟩,fun e=>by subst e;exact⟨C,rfl,rfl,rfl,rfl,fun _=>rfl,x,y,u,rfl⟩⟩;unfold dP cI;have z:cm .lss (g:Int) s.first=false:=by rw[cl];exact m6 (by omega)
   rw[hu,cM];simp only[iv,XX,F,G,cM,E,B,jp,pF];rw[A,cM];simp only[j7,pF,cM,z];rw[u,cM,VU _ _ (by simp),cM,h.X1,h.N1,C,I,Tp D L _ _ _ _ _ _ _ _ _ _ _ _ _ _ _ _ _ _ _ _ _ _ _ h.I8];rw[<-C,<-h.N1];rfl
  ·refine⟨v.x,s,YZ _,?_,h,.inl rfl,fun e=>by exfalso;rcases h.first with⟨Q,_⟩|⟨X,Q,d2,d3,_⟩<;>omega⟩;unfold dP cI;have z:cm .lss (g:Int) s.first=true:=by rw[cl];exact D8 (by omega)
   rw[hu,cM];simp only[iv,XX,F,G,cM,E,B,jp,pF];rw[A,cM];simp only[j7,pF,cM,z,XX]
def QR(v:Nm)(s s':PS)(k' x':Nat)(S:Int)(q:Nat):Prop:=(S≠s.receiver.1->s'=s/\k'=v.k/\x'=v.x)/\
 (0<=s.first->S=s.receiver.1->S=s.VQ->q=v.q->x'=v.q+1/\s'.first=s.first/\s'.VQ=s.VQ/\s'.VR=s.VR/\s'.sent=s.sent/\s'.safe=s.safe/\s'.WH=mB s.WH (false,false,bM (tA S (v.q+1))))
theorem Ww(h:Inv v now snaps s)(ey:v.x+1<=100000){b:List Int}(hb:Bytes b)(V0:b.length<=2000){S:Int}{q:Nat}{m:Fm}(hf:eZ b=some (WW S q m))(hm:F6 m)(ha:tH v s S)
  (hs:S=s.VQ->q<v.q\/(q=v.q/\s.VR.2.2=[m])) (hr:0<=s.first->S=s.receiver.1->q<=v.x/\(q=v.x->∃to,x8 v.n snaps v.k to m)):
  ∃k' x' s',v.k<=k'/\x'<=v.x+1/\dP b s=some (none,s')/\Inv { v with k:=k',x:=x' } now snaps s'/\To s s'/\QR v s s' k' x' S q:=by
 have j1:=h.C2;have qv:=h.kh;have ZW:=h.hs;have U:=h.n1;have V:=h.n0;have B:=oJ b hb (by omega);rw[hf] at B;simp only at B;by_cases X:s.first<0
 ·exact⟨v.k,v.x,s,YZ _,by omega,Oj b _ none B (.inr (by unfold WW;simp)) (fun c=>by omega),h,.inl rfl,fun _=>⟨rfl,rfl,rfl⟩,fun c=>absurd c (by omega)⟩
 ·obtain⟨am,an⟩:=La h (by omega);have A:=Od s.receiver b hb V0 am (by omega);rw[hf] at A;by_cases u:S=s.receiver.1
  ·obtain⟨a0,D2⟩:=hr (by omega) u;have aa:=(Go.XA.p4 hm.load)
   have ab:=qP aa.1 hm.ZE;have ac:=ab.s1;have E:(WW S q m).1=1/\3<=(WW S q m).2.1.length/\(WW S q m).2.1.getD 0 0=s.receiver.1/\(WW S q m).2.1.getD 2 0<=15:=by
    refine⟨rfl,by unfold WW;simp,u,ac⟩
   have ad:(WW S q m).2.1.getD 1 0=q:=rfl;have af:((WW S q m).2.1.getD 2 0,(WW S q m).2.1.drop 3,(WW S q m).2.2)=m:=rfl;unfold Ij at A;simp only[XC E,ad,af] at A;have I:cm .eql (WW S q m).1 (2:Int)=false:=rfl;have K:cm .lss s.first (0:Int)=false:=by rw[cl];exact m6 X
   have L:∀a:Nat,a<=2147483647->Good (tA s.receiver.1 a):=fun a Z9=>by
    refine⟨by unfold tA;simp,by unfold tA;simp,by unfold tA;simp,by unfold tA;simp,fun n P=>?_,fun b hb=>by simp[tA] at hb⟩;simp only[tA,q9,aCm,aEl] at P;rcases P with rfl | rfl<;>omega
   by_cases M:(q:Int)=s.receiver.2/\s.receiver.2<2147483647
   ·rw[XC M] at A;simp only at A;have N:q=v.x:=by omega
    obtain⟨to,C⟩:∃to,x8 v.n snaps v.k to m/\(s.VQ=s.receiver.1->v.x=v.q/\s.VR.2.2≠ []/\s.sent=to):=by
     by_cases c:s.VQ=s.receiver.1
     ·rcases h.act (Jw h (by omega) c) with⟨D,a2,T⟩|⟨D,a2,T⟩
      ·rcases hs (by rw[u,c]) with d |⟨d1,H⟩
       ·omega
       ·exact⟨s.sent,T m H,fun _=>⟨D,by rw[H];simp,rfl⟩⟩
      ·rcases hs (by rw[u,c]) with d |⟨d1,H⟩<;>omega
     ·obtain⟨to,e⟩:=D2 N;exact⟨to,e,fun d=>absurd d c⟩
    obtain⟨C,ap⟩:=C;have XI:=C.lt;have aq:=C.le;have au:=C.nn;let s1:PS:={ s with receiver:=(s.receiver.1,s.receiver.2+1) }
    obtain⟨d',sd,et⟩:=NZ (s:=s1) (snaps:=snaps) (n:=v.n) h.J5 rfl V U h.ep.len h.N1 (by omega) (by omega) h.X1 (by omega) h.eon h.ph C;have O:s.receiver.2+1=((v.x+1:Nat):Int):=by omega
    have F:=KF h ey (by omega) (by rw[<-u];exact ha) (to:=to.toNat) (by omega) (by omega) sd (fun c=>by obtain⟨c1,c2,c3⟩:=ap c;exact⟨c1,c2,by omega⟩);have ah:((to.toNat:Nat):Int)=to:=by omega
    rw[ah,<-O] at F
    have G:=CK F (by simp only;omega) (by
     obtain⟨g,o,Q,b2,b3,b4,R,b6⟩:=ha;rw[u] at Q R
     exact⟨g,o,Q,b2,b3,b4,R,b6⟩)
    refine⟨to.toNat,v.x+1,_,by omega,YZ _,?_,F.push (Ff (L (v.x+1) (by omega)) false (fun c=>nomatch c) (fun _=>G)),.inr ⟨_,rfl⟩,fun c=>absurd u c,fun _ _ _ e=>⟨by omega,rfl,rfl,rfl,rfl,rfl,by rw[u,<-e,N]⟩⟩;unfold sE at et;unfold dP cI;rw[B,cM];simp only[iv,XX,I,cM,pF,K];rw[A,cM];simp only[j7,pF,XX,jp];cases hz:fG m s.n s.fn s.XH s.WX s.blocks s.VW s.WS s.VQ s.VR s.sent s.safe s.VV s.on s.XL s.WI s.first (s.receiver.1,s.receiver.2+1) s.WH s.o5 s.fd s.g9 s.od with
    |none=>simp only[s1] at et;rw[hz] at et;cases et
    |some z=>
     simp only[s1] at et;rw[hz,cM] at et;simp only[B1,R3,PS.mk.injEq] at et;rw[cM];simp only[et,j7,pF];rw[Iq _ _ _ _ _ _ _ _ _ _ _ _ _ _ _ _ _ _ _ _ _ _ _ _ h.I8];simp only[cM,O];rfl
   ·have av:¬q=v.x:=by omega
    rw[WV M] at A;simp only at A;have G:=CK h (by omega) (by rw[<-u];exact ha);refine⟨v.k,v.x,_,YZ _,by omega,?_,h.push (Ff (L v.x (by omega)) false (fun c=>nomatch c) (fun _=>G)),.inr ⟨_,rfl⟩,fun c=>absurd u c,fun _ _ c e=>(fun (z:v.x=v.q+1)=>⟨z,rfl,rfl,rfl,rfl,rfl,by rw[u,<-z]⟩) (by rcases h.act (Jw h (by omega) (by rw[<-c,u])) with⟨D,_⟩|⟨D,_⟩<;>omega)⟩;unfold dP cI;rw[B,cM];simp only[iv,XX,I,cM,pF,K];rw[A,cM];simp only[j7,pF,jp];rw[Iq _ _ _ _ _ _ _ _ _ _ _ _ _ _ _ _ _ _ _ _ _ _ _ _ h.I8];simp only[cM,an];rfl
  ·refine⟨v.k,v.x,s,YZ _,by omega,Oj b _ none B (.inr (by unfold WW;simp)) (fun _=>⟨(0,[],[]),?_⟩),h,.inl rfl,fun _=>⟨rfl,rfl,rfl⟩,fun _ c=>absurd c u⟩;rw[A];have E:¬((WW S q m).1=1/\3<=(WW S q m).2.1.length/\(WW S q m).2.1.getD 0 0=s.receiver.1/\(WW S q m).2.1.getD 2 0<=15):=fun c=>u c.2.2.1;unfold Ij;simp only[WV E]
theorem Wx(h:Inv v now snaps s)(ey:v.x+1<=100000){y:Bool×Bool×List Int}(hy:y0 v snaps s y)(hd:y.1=true):
  ∃k' x' s',v.k<=k'/\x'<=v.x+1/\dP y.2.2 s=some (none,s')/\Inv { v with k:=k',x:=x' } now snaps s'/\To s s':=by
 have E:=hy.len;have u:=oJ y.2.2 hy.bytes (by omega);by_cases z:y.2.1=true
 ·rw[hy.I7 z] at u;refine⟨v.k,v.x,s,YZ _,by omega,Oj _ _ _ u (.inl rfl) (fun H=>⟨(0,[],[]),?_⟩),h,.inl rfl⟩;obtain⟨I,U⟩:=La h H;have T:=h.C2;rw[Od s.receiver _ hy.bytes E I (by omega),hy.I7 z];rfl
 ·obtain⟨f,K,L,M,_⟩:=hy.whole (by simpa using z);have F:eZ y.2.2=some f:=by rw[L];exact fH K
  rw[F] at u;rcases M hd with⟨g,O,D,rfl⟩|⟨S,q,m,rfl,D,P,Q,R⟩
  ·obtain⟨x',s',G,A,B,C,_⟩:=Rs h O D u;exact⟨v.k,x',s',YZ _,by omega,A,B,C⟩
  ·obtain⟨k',x',s',G,A,B,C,N,_⟩:=Ww h ey hy.bytes E F D P Q R;exact⟨k',x',s',G,A,B,C,N⟩
end Go.XY
namespace Go.XY
open Go Go.Sw Go.Mo Go.Pl
open Go.ZA (oH xV)
open Go.XA (Good bM eZ dO eB qP Gx Ai oJ fH nC)
variable {v:Nm}{now:List aQ}{snaps:List (List aQ)}{s:PS}
theorem VO(x y:Int):jH [x,y] [x,y]=some true:=by
 unfold jH;have e:cm .neq (([x,y]:List Int).length:Int) (([x,y]:List Int).length:Int)=false:=by rw[cn];simp
 rw[e,pF];unfold lp;rw[show fK=1125899906842621+1+1+1 from rfl,Go.XA.ZU (y:=(1:Int)),Go.XA.ZU (y:=(2:Int)),Go.XA.YY (b:= .WT ())]
 ·rfl
 ·have h:Sw.idx [x,y] (1:Int)=some y:=rfl;have u:cm .neq y y=false:=by rw[cn];simp
  have z:cm .lss (1:Int) (([x,y]:List Int).length:Int)=true:=rfl;rw[z,XX,h,cM,cM,u,pF];rfl
 ·have h:Sw.idx [x,y] (0:Int)=some x:=rfl;have u:cm .neq x x=false:=by rw[cn];simp
  have z:cm .lss (0:Int) (([x,y]:List Int).length:Int)=true:=rfl;rw[z,XX,h,cM,cM,u,pF];rfl
theorem Inv.aFr(h:Inv v now snaps s){e}(he:ma v.n e now snaps):Inv v now snaps { s with VW:=e }:=
 { h with
  ep:=he
  WH:=fun y u=>(h.WH y u).same rfl rfl rfl rfl rfl }
theorem Rt(h:Inv v now snaps s){o j:Nat}(h1:1<=o)(h2:o<=v.ob)(hj:j<=v.k)(XI:s.VQ<kG v.fb o)
  (ha:o=v.ob->s.VQ<kG v.fb o->j=v.k/\s.first=(v.fb:Int)/\v.x=0) {sent:Int} (aO0:sent=j\/(sent= -1/\j<v.h)):
  Inv { v with q:=0 } now snaps { s with VQ:=kG v.fb o,VR:=(kG v.fb o,0,[]),sent:=sent,safe:=max s.safe (j:Int),VV:=[] }:=by
 have j1:=h.C2;have qv:=h.kh;have ib:=h.safe;have C:∀S,tH v s S->S≠kG v.fb o/\tH { v with q:=0 } { s with VQ:=kG v.fb o,VR:=(kG v.fb o,0,[]),sent:=sent,safe:=max s.safe (j:Int),VV:=[] } S:=by
  rintro S ⟨F,G,H,X,b3,b4,M,b6⟩;refine⟨fun e=>?_,F,G,H,X,b3,b4,?_,b6⟩
  ·rw[H] at e;obtain⟨P,Q⟩:=sZ (by omega) (by omega) e;rcases M with c |⟨I,K⟩
   ·omega
   ·rw[H,P,Q] at K;omega
  ·rcases M with c |⟨I,K⟩
   ·exact .inl c
   ·exact .inr ⟨I,by simp only;omega⟩
 exact { h with
  C2:=by simp only;omega
  safe:=by simp only;omega
  sent:=by simp only;omega
  low:=fun _=>by simp only;omega
  idle:=fun c d=>h.idle c (by simp only at d;omega)
  VQ:= .inr ⟨o,h1,h2,rfl,fun e=>(ha e XI).2.1⟩
  VR:= .inr ⟨vY _ _,rfl,rfl⟩
  queue:= .inl ⟨rfl,rfl⟩
  act:=fun e=>by
   simp only at e;obtain⟨B,z,A⟩:=ha (sZ (by omega) (by omega) e).2 XI;refine .inl ⟨A,fun _=>?_,fun m N=>by simp at N⟩;simp only;rcases aO0 with c |⟨I,K⟩
   ·left;omega
   ·right;omega
  WH:=fun y u=>by
   have u:=h.WH y u;refine⟨u.bytes,u.len,u.ne,u.I7,fun O=>?_⟩;obtain⟨f,R,T,U,V⟩:=u.whole O;refine⟨f,R,T,fun E=>?_,fun E=>?_⟩
   ·rcases U E with c |⟨S,q,m',B,z,A,D,L⟩
    ·exact .inl c
    ·exact .inr ⟨S,q,m',B,z,(C S A).2,fun c=>absurd c (C S A).1,L⟩
   ·rcases V E with⟨F,G,j',t',B,z,A,D,L,a6,a7,a8⟩|⟨S,a,B,z,A,D⟩
    ·exact .inl ⟨F,G,j',t',B,z,A,D,L,a6,a7,fun c d e=>a8 c d (by simp only at e;omega)⟩
    ·exact .inr ⟨S,a,B,(C S z).2,fun c=>absurd c (C S z).1,D⟩}
theorem FA(h:Inv v now snaps s)(il:v.q+1<=100000)(h0:0<=s.VQ){m:Fm}(hq:s.VR.2.2=[m])(hk:s.sent<=v.k):
  Inv { v with q:=v.q+1 } now snaps { s with VR:=(s.VQ,((v.q+1:Nat):Int),[]),safe:=max s.safe s.sent,VV:=[] }:=by
 have K:=h.C2;have L:=h.kh;have M:=h.safe
 exact { h with
  C2:=by simp only;omega
  safe:=by simp only;omega
  low:=fun _=>by simp only;omega
  VR:= .inr ⟨h0,rfl,rfl⟩
  queue:= .inl ⟨rfl,rfl⟩
  act:=fun e=>by
   rcases h.act e with⟨a1,a2,a3⟩|⟨a1,a2,a3⟩
   ·have:=(a3 m hq).lt;omega
   ·exact .inl ⟨by simp only;omega,fun _=> .inl a3,fun m B=>by simp at B⟩
  WH:=fun y u=>by
   have u:=h.WH y u;refine⟨u.bytes,u.len,u.ne,u.I7,fun C=>?_⟩;obtain⟨f,D,E,F,G⟩:=u.whole C;refine⟨f,D,E,fun z=>?_,fun z=>?_⟩
   ·rcases F z with c |⟨S,q,H,a1,a2,a3,A,I⟩
    ·exact .inl c
    ·exact .inr ⟨S,q,H,a1,a2,a3,fun c=> .inl (by have:=A c;simp only;omega),I⟩
   ·rcases G z with c |⟨S,a,a1,a2,a3,A⟩
    ·exact .inl c
    ·exact .inr ⟨S,a,a1,a2,fun c=> .inl (by have:=a3 c;simp only;omega),A⟩}
def Zn(v:Nm)(u:Fm)(e:Option Int):Prop:=e.isSome=true\/u.1≠3\/∃g o j x y,u=dV g o j [x,y]/\g≠v.fb
theorem Ru{u:Fm}{e:Option Int}(h:Zn v u e):(bif (Option.isNone e) then
  bif (cm .eql u.1 (3:Int)) then
   bif (cm .eql (u.2.1.length:Int) (5:Int)) then
    (Sw.idx u.2.1 (0:Int)).bind fun bd=>
     some (cm .eql bd (v.fb:Int))
   else
    some false
  else
   some false
  else
   some false)=some false:=by
 rcases h with c | c |⟨g,o,j,x,y,rfl,D⟩
 ·cases e with
  |none=>cases c
  |some e=>rfl
 ·have:cm .eql u.1 (3:Int)=false:=by rw[ce];exact m6 c
  rw[this];cases e<;>rfl
 ·have z:cm .eql (dV g o j [x,y]).1 (3:Int)=true:=rfl;have A:cm .eql ((dV g o j [x,y]).2.1.length:Int) (5:Int)=true:=rfl;have B:Sw.idx (dV g o j [x,y]).2.1 (0:Int)=some (g:Int):=rfl;have C:cm .eql (g:Int) (v.fb:Int)=false:=by rw[ce];exact m6 (by omega)
  rw[z,A,B,cM,C];cases e<;>rfl
theorem Is(h:Inv v now snaps s){b:List Int}{u:Fm}{e:Option Int}(hu:fF b=some (u,e))(hn:Zn v u e)
  (hh:0<=s.VQ->sB s.VR b=some (s.VR,none)):∃s',dU b s=some (none,s')/\Inv v now snaps s'/\s'.WH=s.WH:=by
 have H:=h.C2;have I:=h.safe;have K:=h.kh;have L:s.VW.1=v.h:=by have:=h.ep.num;have:=h.hs;omega
 have A:=Ru hn;by_cases B:s.VQ<0
 ·refine⟨s,?_,h,rfl⟩;unfold dU cP;have z:cm .lss s.VQ (0:Int)=true:=by rw[cl];exact D8 B
  rw[hu,cM,h.ZZ];simp only[];rw[A];simp only[cM,pF,z,XX];rw[<-h.ZZ]
 ·obtain⟨F,G⟩:=h.ep.drop (num:=min s.safe s.VW.1) (by omega);refine⟨_,?_,h.aFr G,rfl⟩;unfold dU cP;have z:cm .lss s.VQ (0:Int)=false:=by rw[cl];exact m6 B
  rw[hu,cM,h.ZZ];simp only[];rw[A];simp only[cM,pF,z];rw[hh (by omega)];simp only[cM,j7,pF];have C:ar .sub .i64 (s.VR.2.2.length:Int) (s.VR.2.2.length:Int)=0:=by rw[O3 (by omega)];omega
  have D:Sw.sub s.VV (0:Int) 0=some []:=by unfold Sw.sub;rw[XC (by omega)];rfl
  have E:Sw.sub s.VV (0:Int) (s.VV.length:Int)=some s.VV:=by unfold Sw.sub;rw[XC (by omega)];simp
  rw[C,D,cM];unfold lp;rw[show fK=1125899906842623+1 from rfl,Go.XA.YY (b:= .WT s.safe)]
  ·simp only[];rw[E,cM,h.efn,F,cM];rw[<-h.ZZ,<-h.efn];rfl
  ·rfl
end Go.XY
namespace Go.XY
open Go Go.Sw Go.Mo Go.Pl
open Go.ZA (oH xV)
open Go.XA (Good bM eZ dO eB qP Gx Ai oJ fH nC jK)
variable {v:Nm}{now:List aQ}{snaps:List (List aQ)}{s:PS}
def TG(v:Nm)(s s':PS)(q' o j:Nat):Prop:=s'.first=s.first/\(s.VQ<kG v.fb o->s'.VQ=kG v.fb o/\s'.VR.2.2=[])/\(¬s.VQ<kG v.fb o->s'=s/\q'=v.q)
theorem Lb(h:Inv v now snaps s){b:List Int}{o j:Nat}{x y:Int}(hu:fF b=some (dV v.fb o j [x,y],none))(h1:1<=o)(h2:o<=v.ob)(hj:j<=v.k)(ht:jY (snaps.getD j [])=some [x,y])
  (ha:o=v.ob->s.VQ<kG v.fb o->j=v.k/\s.first=(v.fb:Int)/\v.x=0):∃q' s',q'<=v.q/\dU b s=some (none,s')/\Inv { v with q:=q' } now snaps s'/\s'.WH=s.WH/\TG v s s' q' o j:=by
 have M:=h.C2;have N:=h.kh;have A:Sw.idx (dV v.fb o j [x,y]).2.1 (0:Int)=some (v.fb:Int):=rfl;have B:Sw.idx (dV v.fb o j [x,y]).2.1 (1:Int)=some (o:Int):=rfl;have H:Sw.idx (dV v.fb o j [x,y]).2.1 (2:Int)=some (j:Int):=rfl;have C:cm .eql (dV v.fb o j [x,y]).1 (3:Int)=true:=rfl;have D:cm .eql ((dV v.fb o j [x,y]).2.1.length:Int) (5:Int)=true:=rfl;have E:cm .eql (v.fb:Int) (v.fb:Int)=true:=by rw[ce];simp
 have K:Sw.sub (dV v.fb o j [x,y]).2.1 (3:Int) ((dV v.fb o j [x,y]).2.1.length:Int)=some [x,y]:=rfl;have F:=KE (g:=v.fb) (o:=o) (by omega) (by omega);by_cases u:s.VQ<kG v.fb o
 ·have z:cm .gtr (kG v.fb o) s.VQ=true:=by rw[cg];exact D8 u
  cases hp:fQ s.WS (j:Int) with
  |none=>
   have L:j<v.h:=by
    rcases N4 j v.h with c | c
    ·exact c
    ·have:j=v.h:=by omega
     rw[this,h.last] at hp;cases hp
   have G:=Rt h h1 h2 hj u ha (sent:= -1) (.inr ⟨rfl,L⟩);refine⟨0,_,by omega,?_,G,rfl,rfl,fun _=>⟨rfl,rfl⟩,fun c=>absurd u c⟩;unfold dU cP;rw[hu,cM,h.ZZ];simp only[iv,XX,C,D,A,B,H,E,cM,F,z,jp,hp,j7,wo]
  |some l=>
   have I:=h.WS _ (Ip hp);simp only[p6] at I;rw[<-I.2.2] at ht;have G:=Rt h h1 h2 hj u ha (sent:=(j:Int)) (.inl rfl);refine⟨0,_,by omega,?_,G,rfl,rfl,fun _=>⟨rfl,rfl⟩,fun c=>absurd u c⟩;unfold dU cP;rw[hu,cM,h.ZZ];simp only[iv,XX,C,D,A,B,H,E,cM,F,z,jp,hp,aCv,nm,pF,aCe,ht,K,VO]
 ·have z:cm .gtr (kG v.fb o) s.VQ=false:=by rw[cg];exact m6 u
  refine⟨v.q,s,YZ _,?_,h,rfl,rfl,fun c=>absurd c u,fun _=>⟨rfl,rfl⟩⟩;unfold dU cP;rw[hu,cM,h.ZZ];simp only[iv,XX,C,D,A,B,E,cM,F,z,jp,pF];rw[<-h.ZZ]
theorem Jy(h:Inv v now snaps s)(h0:0<=s.VQ):jK s.VR=0:=by
 have G:=h.C2;have H:=Md h;rcases h.VR with⟨B,_⟩|⟨B,C,D⟩
 ·omega
 ·have A:s.VR=(s.VQ,(v.q:Int),s.VR.2.2):=by rw[<-C,<-D]
  rw[A];rcases h.queue with⟨z,E⟩|⟨m,z,E,F,I⟩
  ·rw[z];exact nC (by omega) (by omega) (by simp) (fun f u=>by simp at u)
  ·rw[z];exact nC (by omega) (by omega) (by simp) (fun f u=>by simp at u;subst u;exact F.load)
theorem CL(h:Inv v now snaps s)(il:v.q+1<=100000){b:List Int}(hb:Bytes b)(V0:b.length<=2000){S:Int}{a:Nat}(hf:eZ b=some (tA S a))
  (hs:S=s.VQ->a<=v.q\/(a=v.q+1/\s.VR.2.2≠ []/\s.sent<=v.k)):∃q' s',q'<=v.q+1/\dU b s=some (none,s')/\Inv { v with q:=q' } now snaps s'/\s'.WH=s.WH/\
   (0<=s.VQ->S=s.VQ->a=v.q+1->s.VR.2.2.length=1->s'.first=s.first/\s'.VQ=s.VQ/\s'.VR.2.2=[]/\s'.sent=s.sent):=by
 have j1:=h.C2;have qv:=h.kh;have ib:=h.safe;have z:=oJ b hb (by omega);rw[hf] at z;simp only at z;have G:Zn v (tA S a) none:= .inr (.inl (by unfold tA;simp));by_cases D:0<=s.VQ
 ·have u:=Ai s.VR b hb V0 (Jy h D);rw[hf] at u;unfold Gx at u;by_cases E:(tA S a).1=0/\(tA S a).2.2=[]/\(tA S a).2.1.length=2/\(tA S a).2.1.getD 0 0=s.VR.1/\s.VR.2.1<(tA S a).2.1.getD 1 0/\(tA S a).2.1.getD 1 0 - s.VR.2.1<=min (s.VR.2.2.length:Int) 4
  ·simp only[XC E] at u;obtain⟨_,_,_,H,O,P⟩:=E;have H:S=s.VR.1:=H;have R:(tA S a).2.1.getD 1 0=(a:Int):=rfl;rw[R] at O P u;rcases h.VR with⟨L,_⟩|⟨L,F,M⟩
   ·omega
   ·have T:=hs (by rw[H,F]);rw[M] at O P;have I:a=v.q+1/\s.VR.2.2≠ []/\s.sent<=v.k:=by
     rcases T with d | d
     ·omega
     ·exact d
    obtain⟨I,_,aa⟩:=I;rcases h.queue with⟨C,Q⟩|⟨m,C,Q,d3,d4⟩
    ·exact absurd C ‹_›
    ·have N:=FA h il D C aa;have L0:s.VW.1=v.h:=by have:=h.ep.num;have:=h.hs;omega
     obtain⟨A,B⟩:=N.ep.drop (num:=min (max s.safe s.sent) s.VW.1) (by simp only;omega);refine⟨v.q+1,_,YZ _,?_,N.aFr B,rfl,fun _ _ _ _=>⟨rfl,rfl,rfl,rfl⟩⟩;have U:(s.VR.1,(a:Int),s.VR.2.2.drop ((a:Int) - s.VR.2.1).toNat)=(s.VQ,((v.q+1:Nat):Int),([]:List Fm)):=by
      rw[F,M,C,I];have:(((v.q+1:Nat):Int) - (v.q:Int)).toNat=1:=by omega
      rw[this];rfl
     rw[U] at u;have V:=Ru G;unfold dU cP;have X:cm .lss s.VQ (0:Int)=false:=by rw[cl];exact m6 (by omega)
     rw[z,cM,h.ZZ];simp only[];rw[V];simp only[cM,pF,X];rw[u];simp only[cM,j7,pF];rw[C,Q];have ZV:ar .sub .i64 (([m]:List Fm).length:Int) (([]:List Fm).length:Int)=1:=by rw[O3 (by simp)];simp
     have hz:Sw.sub [s.sent] (0:Int) 1=some [s.sent]:=rfl;have G0:Sw.sub [s.sent] (1:Int) (([s.sent]:List Int).length:Int)=some []:=rfl;rw[ZV,hz,cM];unfold lp;rw[show fK=1125899906842622+1+1 from rfl,Go.XA.ZU (y:=((1:Int),max s.safe s.sent)),Go.XA.YY (b:= .WT (max s.safe s.sent))]
     ·simp only[];rw[G0,cM,h.efn,A,cM];rw[<-h.ZZ,<-h.efn];rfl
     ·rfl
     ·rfl
  ·simp only[WV E] at u;obtain⟨s',A,B,K⟩:=Is h z G (fun _=>u);refine⟨v.q,s',by omega,A,B,K,fun _ c d e=>absurd ?_ E⟩;rcases h.VR with⟨L,_⟩|⟨L,F,M⟩
   ·omega
   ·refine⟨rfl,rfl,rfl,?_,?_,?_⟩
    ·show S=s.VR.1;rw[F,c]
    ·show s.VR.2.1<(a:Int);omega
    ·show (a:Int) - s.VR.2.1<=_;omega
 ·obtain⟨s',A,B,K⟩:=Is h z G (fun c=>absurd c D);exact⟨v.q,s',by omega,A,B,K,fun c=>absurd c D⟩
theorem Zo(h:Inv v now snaps s)(il:v.q+1<=100000){y:Bool×Bool×List Int}(hy:y0 v snaps s y)(hd:y.1=false):
  ∃q' s',q'<=v.q+1/\dU y.2.2 s=some (none,s')/\Inv { v with q:=q' } now snaps s'/\s'.WH=s.WH:=by
 have j1:=h.C2;have qv:=h.kh;have ZW:=h.hs;have L7:=h.n1;have jj:=h.n0;have E:=hy.len;have B:=oJ y.2.2 hy.bytes (by omega);by_cases K:y.2.1=true
 ·have D:=fun G=>Ai s.VR y.2.2 hy.bytes E (Jy h G);rw[hy.I7 K] at B D;obtain⟨s',C,u,A⟩:=Is h B (.inl rfl) D;exact⟨v.q,s',by omega,C,u,A⟩
 ·obtain⟨f,Q,R,_,T⟩:=hy.whole (by simpa using K);have F:eZ y.2.2=some f:=by rw[R];exact fH Q
  rcases T hd with⟨g,o,j,t,rfl,V,N,O,X,a6,I,a8⟩|⟨S,a,rfl,V,N,O⟩
  ·have L:snaps.getD j []∈snaps:=by
    rw[R4,F5 (by omega)];exact ff _
   have eh:(snaps.getD j []).length=v.n:=h.ep.len _ L;obtain⟨x,z,U,_,_⟩:=Zl (bs:=snaps.getD j []) (by omega) (by omega) (h.bok _ L);have P:t=[x,z]:=by rw[U] at I;exact(pT I).symm
   subst P;rw[F] at B;simp only at B;by_cases M:g=v.fb
   ·subst M;obtain⟨q',s',C,u,A,H,_⟩:=Lb h B O X a6 I (a8 rfl);exact⟨q',s',by omega,u,A,H⟩
   ·obtain⟨s',C,u,A⟩:=Is h B (.inr (.inr ⟨g,o,j,x,z,rfl,M⟩)) (fun G=>by
     have D:=Ai s.VR y.2.2 hy.bytes E (Jy h G);rw[F] at D;rw[D];unfold Gx;simp only[]
     rw[WV (fun c=>by have:=c.1;simp[dV] at this)])
    exact⟨v.q,s',by omega,C,u,A⟩
  ·obtain⟨q',s',C,u,A,H,_⟩:=CL h il hy.bytes E F N;exact⟨q',s',C,u,A,H⟩
end Go.XY
namespace Go.XY
open Go Go.Sw Go.Mo Go.Pl
open Go.ZA (oH xV)
variable {v:Nm}{now:List aQ}{snaps:List (List aQ)}{s:PS}
theorem KG(g:Bool)(b:List Int)(s:PS):iI (true,g,b) s=dP b s:=by
 unfold iI dX dP;rw[XX];cases cI b s.n s.fn s.XH s.WX s.blocks s.VW s.WS s.VQ s.VR s.sent s.safe s.VV s.on s.XL s.WI s.first s.receiver s.WH s.o5 s.fd s.g9 s.od<;>rfl
theorem KH(g:Bool)(b:List Int)(s:PS):iI (false,g,b) s=dU b s:=by
 unfold iI dX dU;rw[pF];cases cP b s.n s.fn s.XH s.WX s.blocks s.VW s.WS s.VQ s.VR s.sent s.safe s.VV s.on s.XL s.WI s.first s.receiver s.WH s.o5 s.fd s.g9 s.od<;>rfl
def wt(l:List (Bool×Bool×List Int)):Nat:=(l.map fun y=>bif y.1 then 2 else 1).sum
theorem Zp(a b:List (Bool×Bool×List Int)):wt (a++b)=wt a+wt b:=by unfold wt;rw[aCr,List.sum_append]
theorem OF(l:List (Bool×Bool×List Int))(y:Bool×List Int):wt (mB l (false,y))<=wt l+1:=by
 unfold mB;split
 ·rw[Zp];simp[wt]
 ·omega
theorem TH(l:List (Bool×Bool×List Int)):wt l<=2*l.length:=by
 induction l with
 |nil=>simp[wt]
 |cons a l h=>
  have:wt (a::l)=(bif a.1 then 2 else 1)+wt l:=by unfold wt;simp
  rw[this,D9];cases a.1<;>simp<;>omega
theorem OG(h:Inv v now snaps s)(il:v.q+1<=100000)(ey:v.x+1<=100000){y:Bool×Bool×List Int}(hy:y0 v snaps s y):
  ∃k' q' x' s',v.k<=k'/\q'<=v.q+1/\x'<=v.x+1/\iI y s=some (none,s')/\Inv { v with k:=k',q:=q',x:=x' } now snaps s'/\wt s'.WH<wt s.WH+(bif y.1 then 2 else 1):=by
 by_cases A:y.1=true
 ·obtain⟨k',x',s',E,C,u,D,B⟩:=Wx h ey hy A;refine⟨k',v.q,x',s',E,by omega,C,?_,D,?_⟩
  rotate_left
  ·rw[A,XX];rcases B with B |⟨z,B⟩
   ·rw[B];omega
   ·rw[B];have:=OF s.WH z;omega
  unfold dP at u;unfold iI dX;rw[A,XX];cases hz:cI y.2.2 s.n s.fn s.XH s.WX s.blocks s.VW s.WS s.VQ s.VR s.sent s.safe s.VV s.on s.XL s.WI s.first s.receiver s.WH s.o5 s.fd s.g9 s.od with
  |none=>rw[hz] at u;cases u
  |some z=>rw[hz] at u;exact u
 ·have A:y.1=false:=by simpa using A
  obtain⟨q',s',C,u,D,B⟩:=Zo h il hy A;refine⟨v.k,q',v.x,s',YZ _,C,by omega,?_,D,by rw[A,pF,B];omega⟩;unfold dU at u;unfold iI dX;rw[A,pF];cases hz:cP y.2.2 s.n s.fn s.XH s.WX s.blocks s.VW s.WS s.VQ s.VR s.sent s.safe s.VV s.on s.XL s.WI s.first s.receiver s.WH s.o5 s.fd s.g9 s.od with
  |none=>rw[hz] at u;cases u
  |some z=>rw[hz] at u;exact u
theorem Ok(h:Inv v now snaps s)(il:v.q+1<=100000)(ey:v.x+1<=100000){a:Int}(ha:F1 a):
  ∃k' q' x' s',v.k<=k'/\q'<=v.q+1/\x'<=v.x+1/\cV a s=some (none,s')/\Inv { v with k:=k',q:=q',x:=x' } now snaps s'/\(s.WH≠ []->wt s'.WH<wt s.WH):=by
 rcases Ds h ha with⟨Q,u⟩|⟨i,C,u,R,T⟩
 ·refine⟨v.k,v.q,v.x,s,YZ _,by omega,by omega,?_,h,fun c=>absurd Q c⟩;unfold jN at u;unfold cV cT;cases hq:cD a s.n s.fn s.XH s.WX s.blocks s.VW s.WS s.VQ s.VR s.sent s.safe s.VV s.on s.XL s.WI s.first s.receiver s.WH s.o5 s.fd s.g9 s.od with
  |none=>rw[hq] at u;cases u
  |some q=>
   rw[hq] at u;simp only[cM,B1,R3] at u;simp only[cM,u.2.1,wo,XX]
 ·have S:=h.I8;have D:=sD (F5 C);have E:=h.WH _ (ff C);generalize hy:s.WH[i]=y at D E
  have F:=h.O4 (l:=s.WH.take i++s.WH.drop (i+1)) (by simp;omega) (fun x A=>by
   rcases N9.1 A with A | A
   ·exact h.WH x (aCp A)
   ·exact h.WH x (aDs A))
  obtain⟨k',q',x',s',L,M,N,B,O,P⟩:=OG F il ey (y:=y) (E.same rfl rfl rfl rfl rfl);refine⟨k',q',x',s',L,M,N,?_,O,fun _=>Nat.lt_of_lt_of_eq P ?_⟩
  rotate_left
  ·have e:=ak i s.WH;rw[aCy C,hy] at e;have G:=congrArg wt e;have H:wt (y::s.WH.drop (i+1))=(bif y.1 then 2 else 1)+wt (s.WH.drop (i+1)):=by unfold wt;simp
   rw[Zp,H] at G;simp only[Zp];omega
  unfold iI at B;unfold cV cT;rw[R,cM];simp only[nm,pF,D,cM];rw[Jv (by omega),cM];have I:ar .add .i64 (i:Int) (1:Int)=((i+1:Nat):Int):=u6 (by omega);have K:cH s.WH (i:Int) ((i+1:Nat):Int)=some (s.WH.take i++s.WH.drop (i+1)):=Tn s.WH i C;rw[I,K,cM];cases hz:dX y s.n s.fn s.XH s.WX s.blocks s.VW s.WS s.VQ s.VR s.sent s.safe s.VV s.on s.XL s.WI s.first s.receiver (s.WH.take i++s.WH.drop (i+1)) s.o5 s.fd s.g9 s.od with
  |none=>rw[hz] at B;cases B
  |some z=>rw[hz] at B;exact B
theorem xC(h:Inv v now snaps s){y:Bool×Bool×List Int}{r:List (Bool×Bool×List Int)}(hn:s.WH=y::r):cV 0 s=iI y { s with WH:=r }:=by
 have H:=h.I8;rcases Ds h (a:=0) (by unfold F1;omega) with⟨u,D⟩|⟨i,E,D,F,G⟩
 ·rw[hn] at u;cases u
 ·obtain rfl:=G rfl;unfold cV cT;rw[F,cM];have z:Sw.idx s.WH ((0:Nat):Int)=some y:=by rw[hn];rfl
  simp only[nm,pF,z,cM];rw[Jv (by omega),cM];have A:ar .add .i64 ((0:Nat):Int) (1:Int)=((0+1:Nat):Int):=u6 (by omega);have B:cH s.WH ((0:Nat):Int) ((0+1:Nat):Int)=some (s.WH.take 0++s.WH.drop (0+1)):=Tn s.WH 0 E;have C:s.WH.take 0++s.WH.drop (0+1)=r:=by rw[hn];rfl
  rw[A,B,cM,C];unfold iI;simp only[];cases dX y s.n s.fn s.XH s.WX s.blocks s.VW s.WS s.VQ s.VR s.sent s.safe s.VV s.on s.XL s.WI s.first s.receiver r s.o5 s.fd s.g9 s.od<;>rfl
theorem Tq(h:Inv v now snaps s)(r:Int×aQ×Int×Int×Int×List aQ):rI r s=some ((r.1,r.2.1,(v.h:Int),s.safe,(v.k:Int),snaps.getD v.k []),none,s):=by
 have B:=h.kh;have C:=h.hs;have z:snaps.getD v.k []∈snaps:=by
  rw[R4,F5 (by omega)];exact ff _
 have A:(snaps.getD v.k []).length=v.n:=h.ep.len _ z;have u:=xV h.J5;rw[A,<-h.ph] at u;unfold rI dY;rw[u,h.enum,h.N1];simp only[cM]
end Go.XY
namespace Go.XY
open Go Go.Sw Go.Mo Go.Pl
variable {v v':Nm}{now P0:List aQ}{snaps ZP:List (List aQ)}{s s':PS}
def fns(i:Nat)(d:Int×Int×Int×aQ)(s:PS):=wM i d s.n s.fn s.XH s.WX s.blocks s.VW s.WS s.VQ s.VR s.sent s.safe s.VV s.on s.XL s.WI s.first s.receiver s.WH s.o5 s.fd s.g9 s.od
theorem KI(i:Fin 11):uL ((i.1:Nat):Int)=some i.1:=by revert i;decide+kernel
theorem qR{d:Int×Int×Int×aQ}{i:Nat}{ZE:aQ}{e:Option Int}(h':Inv v' P0 ZP s')(hi:i<11)(hd:d.1=(i:Int))(hf:fns i d s=some (ZE,e,WU s')):
  nB d s=some ((e.getD 0,ZE,(v'.h:Int),s'.safe,(v'.k:Int),ZP.getD v'.k []),none,s'):=by
 have u:=Tq h' (e.getD 0,ZE,0,0,0,[]);have A:=KI ⟨i,hi⟩;simp only at A;have B:cm .lss d.1 (0:Int)=false:=by rw[cl];exact m6 (by omega)
 have C:cm .geq d.1 (11:Int)=false:=by rw[L4];exact m6 (by omega)
 unfold fns at hf;unfold rI at u;unfold nB iA;rw[B,C];simp only[pF,cM,jp];rw[hd,A,cM,hf,cM];cases hz:dY (e.getD 0,ZE,0,0,0,[]) s'.n s'.fn s'.XH s'.WX s'.blocks s'.VW s'.WS s'.VQ s'.VR s'.sent s'.safe s'.VV s'.on s'.XL s'.WI s'.first s'.receiver s'.WH s'.o5 s'.fd s'.g9 s'.od with
 |none=>rw[hz] at u;cases u
 |some z=>
  rw[hz] at u;simp only[cM,B1,R3] at u;obtain⟨D,E⟩:=z;obtain⟨rfl,rfl,_⟩:=u;cases e with
  |none=>
   simp only[aEw] at hz;simp only[WU,j7,pF,cM,hz,aEw]
  |some c=>
   simp only[aCe] at hz;simp only[WU,aCv,XX,nm,pF,cM,aCe,hz]
theorem OH{d:Int×Int×Int×aQ}(h:Inv v now snaps s)(hd:d.1<0\/11<=d.1):
  nB d s=some ((3,aR,(v.h:Int),s.safe,(v.k:Int),snaps.getD v.k []),none,s):=by
 have u:=Tq h (3,aR,0,0,0,[]);have A:(bif (cm .lss d.1 (0:Int)) then some true else some (cm .geq d.1 (11:Int)))=some true:=by
  rw[cl,L4];by_cases c:d.1<0
  ·rw[D8 c];rfl
  ·rw[m6 c,D8 (by omega)];rfl
 unfold rI at u;unfold nB iA;rw[A];simp only[cM,jp,XX];cases hz:dY (3,aR,0,0,0,[]) s.n s.fn s.XH s.WX s.blocks s.VW s.WS s.VQ s.VR s.sent s.safe s.VV s.on s.XL s.WI s.first s.receiver s.WH s.o5 s.fd s.g9 s.od with
 |none=>rw[hz] at u;cases u
 |some z=>
  rw[hz] at u;simp only[cM,B1,R3] at u;obtain⟨B,C⟩:=z;obtain⟨rfl,rfl,_⟩:=u;rfl
theorem CM{d:Int×Int×Int×aQ}{e:Option Int}(h:lJ d.2.1 d.2.2.2 s=some (e,s')):fns 0 d s=some (aR,e,WU s'):=by
 unfold lJ at h;unfold fns wM nP;cases hz:eW d.2.1 d.2.2.2 s.n s.fn s.XH s.WX s.blocks s.VW s.WS s.VQ s.VR s.sent s.safe s.VV s.on s.XL s.WI s.first s.receiver s.WH s.o5 s.fd s.g9 s.od with
 |none=>rw[hz] at h;cases h
 |some z=>rw[hz] at h;simp only[cM,B1,R3] at h;obtain⟨u,rfl⟩:=h;rw[<-u];rfl
theorem Wy{d:Int×Int×Int×aQ}{e:Option Int}(h:lJ d.2.1 aR s=some (e,s')):fns 1 d s=some (aR,e,WU s'):=by
 unfold lJ at h;unfold fns wM nQ;cases hz:eW d.2.1 aR s.n s.fn s.XH s.WX s.blocks s.VW s.WS s.VQ s.VR s.sent s.safe s.VV s.on s.XL s.WI s.first s.receiver s.WH s.o5 s.fd s.g9 s.od with
 |none=>rw[hz] at h;cases h
 |some z=>rw[hz] at h;simp only[cM,B1,R3] at h;obtain⟨u,rfl⟩:=h;rw[<-u];rfl
theorem Wz{d:Int×Int×Int×aQ}{e:Option Int}(h:qQ s=some (e,s')):fns 3 d s=some (aR,e,WU s'):=by
 unfold qQ at h;unfold fns wM nS;cases hz:fW s.n s.fn s.XH s.WX s.blocks s.VW s.WS s.VQ s.VR s.sent s.safe s.VV s.on s.XL s.WI s.first s.receiver s.WH s.o5 s.fd s.g9 s.od with
 |none=>rw[hz] at h;cases h
 |some z=>rw[hz] at h;simp only[cM,B1,R3] at h;obtain⟨u,rfl⟩:=h;rw[<-u];rfl
theorem KJ{d:Int×Int×Int×aQ}{e:Option Int}(h:fS s=some (e,s')):fns 4 d s=some (aR,e,WU s'):=by
 unfold fS at h;unfold fns wM nT;cases hz:dE s.n s.fn s.XH s.WX s.blocks s.VW s.WS s.VQ s.VR s.sent s.safe s.VV s.on s.XL s.WI s.first s.receiver s.WH s.o5 s.fd s.g9 s.od with
 |none=>rw[hz] at h;cases h
 |some z=>rw[hz] at h;simp only[cM,B1,R3] at h;obtain⟨u,rfl⟩:=h;rw[<-u];rfl
theorem Xa{d:Int×Int×Int×aQ}{e:Option Int}(h:cV d.2.1 s=some (e,s')):fns 5 d s=some (aR,e,WU s'):=by
 unfold cV at h;unfold fns wM nU;cases hz:cT d.2.1 s.n s.fn s.XH s.WX s.blocks s.VW s.WS s.VQ s.VR s.sent s.safe s.VV s.on s.XL s.WI s.first s.receiver s.WH s.o5 s.fd s.g9 s.od with
 |none=>rw[hz] at h;cases h
 |some z=>rw[hz] at h;simp only[cM,B1,R3] at h;obtain⟨u,rfl⟩:=h;rw[<-u];rfl
theorem KK{d:Int×Int×Int×aQ}{e:Option Int}(h:rH d.2.1 s=some (e,s')):fns 6 d s=some (aR,e,WU s'):=by
 unfold rH at h;unfold fns wM nV;cases hz:gB d.2.1 s.n s.fn s.XH s.WX s.blocks s.VW s.WS s.VQ s.VR s.sent s.safe s.VV s.on s.XL s.WI s.first s.receiver s.WH s.o5 s.fd s.g9 s.od with
 |none=>rw[hz] at h;cases h
 |some z=>rw[hz] at h;simp only[cM,B1,R3] at h;obtain⟨u,rfl⟩:=h;rw[<-u];rfl
theorem Zq{d:Int×Int×Int×aQ}{e:Option Int}(h:lL d.2.1 s=some (e,s')):fns 7 d s=some (aR,e,WU s'):=by
 unfold lL at h;unfold fns wM nW;cases hz:eP d.2.1 s.n s.fn s.XH s.WX s.blocks s.VW s.WS s.VQ s.VR s.sent s.safe s.VV s.on s.XL s.WI s.first s.receiver s.WH s.o5 s.fd s.g9 s.od with
 |none=>rw[hz] at h;cases h
 |some z=>rw[hz] at h;simp only[cM,B1,R3] at h;obtain⟨u,rfl⟩:=h;rw[<-u];rfl
theorem Zs{d:Int×Int×Int×aQ}{e:Option Int}(h:lM d s=some (e,s')):fns 10 d s=some (aR,e,WU s'):=by
 unfold lM at h;unfold fns wM mY;cases hz:eQ d s.n s.fn s.XH s.WX s.blocks s.VW s.WS s.VQ s.VR s.sent s.safe s.VV s.on s.XL s.WI s.first s.receiver s.WH s.o5 s.fd s.g9 s.od with
 |none=>rw[hz] at h;cases h
 |some z=>rw[hz] at h;simp only[cM,B1,R3] at h;obtain⟨u,rfl⟩:=h;rw[<-u];rfl
theorem Xb{d:Int×Int×Int×aQ}{b:aQ}{e:Option Int}(h:oM d.2.1 s=some (b,e,s)):fns 2 d s=some (b,e,WU s):=by
 unfold oM at h;unfold fns wM nR;cases hz:gA d.2.1 s.n s.fn s.XH s.WX s.blocks s.VW s.WS s.VQ s.VR s.sent s.safe s.VV s.on s.XL s.WI s.first s.receiver s.WH s.o5 s.fd s.g9 s.od with
 |none=>rw[hz] at h;cases h
 |some z=>rw[hz] at h;simp only[cM,B1,R3] at h;obtain⟨u,A,_⟩:=h;rw[<-u,<-A];rfl
end Go.XY
namespace Go.XY
open Go Go.Sw Go.Mo Go.Pl
variable {v:Nm}{now:List aQ}{snaps:List (List aQ)}{s:PS}
theorem KL(bs:List aQ)(h:bs.length<=1000000):jM bs=some bs:=by
 unfold jM;rw[VU _ _ (by simp;omega)];rfl
structure aKr (v v':Nm):Prop where
 n:v'.n=v.n
 h:v.h<=v'.h/\v'.h<=v.h+1
 k:v.k<=v'.k
 fb:v'.fb<=v.fb+1
 ob:v'.ob<=v.ob+1
 q:v'.q<=v.q+1
 x:v'.x<=v.x+1
def Lg(v:Nm)(now:List aQ)(snaps:List (List aQ))(s:PS)(d:Int×Int×Int×aQ):Prop:=
 ∃(v':Nm) (P0:List aQ) (ZP:List (List aQ)) (s':PS) (qA:Int) (ZE:aQ),iP now snaps d=some (qA,ZE,P0,ZP)/\
  nB d s=some ((qA,ZE,(v'.h:Int),s'.safe,(v'.k:Int),ZP.getD v'.k []),none,s')/\Inv v' P0 ZP s'/\aKr v v'
theorem oO(v:Nm):aKr v v:=⟨rfl,⟨YZ _,by omega⟩,YZ _,by omega,by omega,by omega,by omega⟩
theorem KM(h:Inv v now snaps s){a k:Int}{b:aQ}(hb:ZN b):Lg v now snaps s (0,a,k,b):=by
 have C:=h.ep.Y2;by_cases u:0<=a/\a<v.n
 ·obtain⟨F,G,B⟩:=KA h u hb;refine⟨v,_,snaps,F,0,aR,?_,qR B (by omega) rfl (CM (d:=(0,a,k,b)) G),B,oO v⟩;obtain⟨z,H,_⟩:=wZ (l:=now) (n:=a) u.1 (by rw[C];exact u.2);have D:cm .lss a (0:Int)=false:=by rw[cl];exact m6 (by omega)
  have E:cm .geq a (now.length:Int)=false:=by rw[L4];exact m6 (by omega)
  show ((bif cm .lss a (0:Int) then some true else some (cm .geq a (now.length:Int))).bind fun A=>bif A then some ((1:Int),aR,now,snaps) else (Sw.idx now a).bind fun _=>some ((0:Int),aR,(List.set now (Int.toNat a) b),snaps))=_;rw[D,E];simp only[pF,cM,H]
 ·refine⟨v,now,snaps,s,1,aR,?_,qR h (by omega) rfl (CM (d:=(0,a,k,b)) (CH h (show a<0\/a>=v.n by omega))),h,oO v⟩;have c:(bif cm .lss a (0:Int) then some true else some (cm .geq a (now.length:Int)))=some true:=by
   rw[cl,L4];by_cases c:a<0
   ·rw[D8 c];rfl
   ·rw[m6 c,D8 (by omega)];rfl
  show ((bif cm .lss a (0:Int) then some true else some (cm .geq a (now.length:Int))).bind fun A=>bif A then some ((1:Int),aR,now,snaps) else (Sw.idx now a).bind fun _=>some ((0:Int),aR,(List.set now (Int.toNat a) b),snaps))=_;rw[c];rfl
theorem FB(h:Inv v now snaps s){a k:Int}{b:aQ}:Lg v now snaps s (1,a,k,b):=by
 have C:=h.ep.Y2;by_cases u:0<=a/\a<v.n
 ·obtain⟨F,G,B⟩:=KA h u E2;refine⟨v,_,snaps,F,0,aR,?_,qR B (by omega) rfl (Wy (d:=(1,a,k,b)) G),B,oO v⟩;obtain⟨z,H,_⟩:=wZ (l:=now) (n:=a) u.1 (by rw[C];exact u.2);have D:cm .lss a (0:Int)=false:=by rw[cl];exact m6 (by omega)
  have E:cm .geq a (now.length:Int)=false:=by rw[L4];exact m6 (by omega)
  show ((bif cm .lss a (0:Int) then some true else some (cm .geq a (now.length:Int))).bind fun A=>bif A then some ((1:Int),aR,now,snaps) else (Sw.idx now a).bind fun _=>some ((0:Int),aR,(List.set now (Int.toNat a) aR),snaps))=_;rw[D,E];simp only[pF,cM,H]
 ·refine⟨v,now,snaps,s,1,aR,?_,qR h (by omega) rfl (Wy (d:=(1,a,k,b)) (CH h (show a<0\/a>=v.n by omega))),h,oO v⟩;have c:(bif cm .lss a (0:Int) then some true else some (cm .geq a (now.length:Int)))=some true:=by
   rw[cl,L4];by_cases c:a<0
   ·rw[D8 c];rfl
   ·rw[m6 c,D8 (by omega)];rfl
  show ((bif cm .lss a (0:Int) then some true else some (cm .geq a (now.length:Int))).bind fun A=>bif A then some ((1:Int),aR,now,snaps) else (Sw.idx now a).bind fun _=>some ((0:Int),aR,(List.set now (Int.toNat a) aR),snaps))=_;rw[c];rfl
theorem FC(h:Inv v now snaps s){a k:Int}{b:aQ}:Lg v now snaps s (2,a,k,b):=by
 have C:=h.ep.Y2;by_cases u:0<=a/\a<v.n
 ·refine⟨v,now,snaps,s,0,now.getD a.toNat [],?_,qR h (by omega) rfl (Xb (d:=(2,a,k,b)) (OC h u)),h,oO v⟩;obtain⟨z,F,G⟩:=wZ (l:=now) (n:=a) u.1 (by rw[C];exact u.2);have D:cm .lss a (0:Int)=false:=by rw[cl];exact m6 (by omega)
  have E:cm .geq a (now.length:Int)=false:=by rw[L4];exact m6 (by omega)
  show ((bif cm .lss a (0:Int) then some true else some (cm .geq a (now.length:Int))).bind fun A=>bif A then some ((1:Int),aR,now,snaps) else (Sw.idx now a).bind fun B=>some ((0:Int),B,now,snaps))=_;rw[D,E];simp only[pF,cM,F];rw[R4,G];rfl
 ·refine⟨v,now,snaps,s,1,aR,?_,qR h (by omega) rfl (Xb (d:=(2,a,k,b)) (KB h (show a<0\/a>=v.n by omega))),h,oO v⟩;have c:(bif cm .lss a (0:Int) then some true else some (cm .geq a (now.length:Int)))=some true:=by
   rw[cl,L4];by_cases c:a<0
   ·rw[D8 c];rfl
   ·rw[m6 c,D8 (by omega)];rfl
  show ((bif cm .lss a (0:Int) then some true else some (cm .geq a (now.length:Int))).bind fun A=>bif A then some ((1:Int),aR,now,snaps) else (Sw.idx now a).bind fun B=>some ((0:Int),B,now,snaps))=_;rw[c];rfl
theorem Tr(h:Inv v now snaps s)(hb:v.h+1<=100000){a k:Int}{b:aQ}:Lg v now snaps s (3,a,k,b):=by
 have D:=h.n1;have E:=h.hs;obtain⟨B,C,u⟩:=Zm h hb;refine⟨_,now,_,B,0,aR,?_,qR u (by omega) rfl (Wz (d:=(3,a,k,b)) C),u,⟨rfl,by simp only;omega,YZ _,by simp only;omega,by simp only;omega,by simp only;omega,by simp only;omega⟩⟩;show ((jM now).bind fun z=>(Sw.app snaps ([z]:(List (List aQ)))).bind fun A=>some ((0:Int),aR,now,A))=_;rw[KL _ (by have:=h.ep.Y2;omega),cM,VU _ _ (by simp;omega)];rfl
theorem FD(h:Inv v now snaps s){a k:Int}{b:aQ}:Lg v now snaps s (4,a,k,b):=by
 obtain⟨z,A,u,_⟩:=CJ h;exact⟨v,now,snaps,z,0,aR,rfl,qR u (by omega) rfl (KJ (d:=(4,a,k,b)) A),u,oO v⟩
theorem Ts(h:Inv v now snaps s)(il:v.q+1<=100000)(ey:v.x+1<=100000){a k:Int}{b:aQ}(ha:F1 a):Lg v now snaps s (5,a,k,b):=by
 obtain⟨E,F,G,z,A,B,C,D,u,_⟩:=Ok h il ey ha;exact⟨_,now,snaps,z,0,aR,rfl,qR u (by omega) rfl (Xa (d:=(5,a,k,b)) D),u,⟨rfl,by simp only;omega,A,by simp only;omega,by simp only;omega,B,C⟩⟩
theorem FE(h:Inv v now snaps s){a k:Int}{b:aQ}(ha:F1 a):Lg v now snaps s (6,a,k,b):=by
 obtain⟨z,A,u⟩:=OD h ha;exact⟨v,now,snaps,z,0,aR,rfl,qR u (by omega) rfl (KK (d:=(6,a,k,b)) A),u,oO v⟩
theorem Xc(h:Inv v now snaps s){a k:Int}{b:aQ}(ha:F1 a):Lg v now snaps s (7,a,k,b):=by
 obtain⟨z,A,u⟩:=EP h ha;exact⟨v,now,snaps,z,0,aR,rfl,qR u (by omega) rfl (Zq (d:=(7,a,k,b)) A),u,oO v⟩
theorem Xd(h:Inv v now snaps s)(hb:v.fb+1<=3000){a k:Int}{b:aQ}:Lg v now snaps s (8,a,k,b):=by
 have H:=h.C2;have I:=h.hs;have K:=h.n1;obtain⟨F,G,_,u⟩:=EU h hb (8,a,k,b);refine⟨_,_,snaps,F,0,aR,?_,qR (i:=8) u (by omega) rfl G,u,⟨rfl,by simp only;omega,YZ _,YZ _,by simp only;omega,by simp only;omega,by simp only;omega⟩⟩;have z:snaps.getD v.h []∈snaps:=by
  rw[R4,F5 (by omega)];exact ff _
 show ((fJ (now,snaps)).bind fun C=>(Sw.idx snaps C).bind fun D=>(jM D).bind fun E=>some ((0:Int),aR,E,snaps))=_;have A:fJ (now,snaps)=some (v.h:Int):=by
  unfold fJ;rw[O3 (by simp only;omega)];simp only;congr 1;omega
 have B:Sw.idx snaps (v.h:Int)=some (snaps.getD v.h []):=sD (by rw[R4,F5 (by omega)];rfl);rw[A,cM,B,cM,KL _ (by have:=h.ep.len _ z;omega)];rfl
theorem Xe(h:Inv v now snaps s)(hb:v.ob+1<=3000){a k:Int}{b:aQ}:Lg v now snaps s (9,a,k,b):=by
 obtain⟨z,A,_,u⟩:=EV h hb (9,a,k,b);exact⟨_,now,snaps,z,0,aR,rfl,qR (i:=9) u (by omega) rfl A,u,⟨rfl,by simp only;omega,YZ _,by simp only;omega,YZ _,by simp only;omega,by simp only;omega⟩⟩
theorem Xf(h:Inv v now snaps s){a k:Int}{b:aQ}(ha:F1 a)(hk:F1 k)(hb:ZN b):Lg v now snaps s (10,a,k,b):=by
 obtain⟨z,A,u⟩:=ES h (d:=(10,a,k,b)) ha hk hb;exact⟨v,now,snaps,z,0,aR,rfl,qR u (by omega) rfl (Zs (d:=(10,a,k,b)) A),u,oO v⟩
theorem TI(h:Inv v now snaps s)(hb:v.h+1<=100000/\v.fb+1<=3000/\v.ob+1<=3000/\v.q+1<=100000/\v.x+1<=100000){d:Int×Int×Int×aQ}(h1:F1 d.2.1)(h2:F1 d.2.2.1)(h3:ZN d.2.2.2):Lg v now snaps s d:=by
 obtain⟨c,a,k,b⟩:=d;simp only at h1 h2 h3;by_cases z:c<0\/11<=c
 ·refine⟨v,now,snaps,s,3,aR,?_,OH h z,h,oO v⟩;have A:(bif (cm .lss c (0:Int)) then some true else some (cm .geq c (11:Int)))=some true:=by
   rw[cl,L4];by_cases u:c<0
   ·rw[D8 u];rfl
   ·rw[m6 u,D8 (by omega)];rfl
  unfold iP;rw[A];rfl
 ·have B:c=0\/c=1\/c=2\/c=3\/c=4\/c=5\/c=6\/c=7\/c=8\/c=9\/c=10:=by omega
  rcases B with rfl | rfl | rfl | rfl | rfl | rfl | rfl | rfl | rfl | rfl | rfl
  ·exact KM h h3
  ·exact FB h
  ·exact FC h
  ·exact Tr h hb.1
  ·exact FD h
  ·exact Ts h hb.2.2.2.1 hb.2.2.2.2 h1
  ·exact FE h h1
  ·exact Xc h h1
  ·exact Xd h hb.2.1
  ·exact Xe h hb.2.2.1
  ·exact Xf h h1 h2 h3
end Go.XY
namespace Go.XY
open Go Go.Sw Go.Mo Go.Pl
abbrev mM:=Int×Int×Int×aQ
abbrev It:=Int×aQ×Int×Int×Int×List aQ
def xW(d:mM):Prop:=F1 d.2.1/\F1 d.2.2.1/\ZN d.2.2.2
inductive cq:Nm->List aQ->List (List aQ)->PS->List mM->List It->Nm->List aQ->List (List aQ)->PS->Prop where
 |nil {v now snaps s} (h:Inv v now snaps s):cq v now snaps s [] [] v now snaps s
 |cons {v now snaps s v' P0 ZP s' v2 n7 XD s2} {d:mM} {ds:List mM} {rs:List It} {qA:Int} {ZE:aQ} (h:Inv v now snaps s) (hc:iP now snaps d=some (qA,ZE,P0,ZP))
   (hd:nB d s=some ((qA,ZE,(v'.h:Int),s'.safe,(v'.k:Int),ZP.getD v'.k []),none,s')) (h':Inv v' P0 ZP s') (g:aKr v v') (t:cq v' P0 ZP s' ds rs v2 n7 XD s2):
   cq v now snaps s (d::ds) ((qA,ZE,(v'.h:Int),s'.safe,(v'.k:Int),ZP.getD v'.k [])::rs) v2 n7 XD s2
theorem CN:∀(ds:List mM) {v:Nm} {now:List aQ} {snaps:List (List aQ)} {s:PS},Inv v now snaps s->(∀d∈ds,xW d)->v.h+ds.length<=100000->v.fb+ds.length<=3000->v.ob+ds.length<=3000->v.q+ds.length<=100000->v.x+ds.length<=100000->
  ∃rs v2 n7 XD s2,cq v now snaps s ds rs v2 n7 XD s2/\rs.length=ds.length/\Inv v2 n7 XD s2
 | [],v,now,snaps,s,h,_,_,_,_,_,_=>⟨[],v,now,snaps,s,.nil h,rfl,h⟩
 |d::ds,v,now,snaps,s,h,A,L,M,N,O,P=>by
  simp only[D9] at L M N O P;obtain⟨C,D,E⟩:=A d (ao ..);obtain⟨V,X,ZP,s',qA,ZE,F,G,z,u⟩:=TI h (by omega) C D E;have Q:=u.h;have R:=u.fb;have S:=u.ob;have T:=u.q;have U:=u.x;obtain⟨rs,v2,n7,XD,s2,H,I,K⟩:=CN ds z (fun x B=>A x (aj _ B)) (by omega) (by omega) (by omega) (by omega) (by omega);exact⟨_,v2,n7,XD,s2,.cons h F G z u H,by simp[I],K⟩
theorem Zt{n:Nat}(h0:1<=n)(h1:n<=32){ds:List mM}(hl:ds.length<=300)(hd:∀d∈ds,xW d):
  ∃s0 rs v2 n7 XD s2,iH (n:Int)=some (some (WU s0),none)/\Inv ⟨n,0,1,1,0,0,0⟩ (List.replicate n aR) [List.replicate n aR] s0/\
   cq ⟨n,0,1,1,0,0,0⟩ (List.replicate n aR) [List.replicate n aR] s0 ds rs v2 n7 XD s2/\rs.length=ds.length/\Inv v2 n7 XD s2:=by
 obtain⟨u,z,A,B,C⟩:=JT h0 h1;have h:=EO h0 h1 A B;obtain⟨rs,v2,n7,XD,s2,D,E,F⟩:=CN ds h hd (by simp only;omega) (by simp only;omega) (by simp only;omega) (by simp only;omega) (by simp only;omega);exact⟨Ju n u z,rs,v2,n7,XD,s2,C,h,D,E,F⟩
def PF(i:Int)(s:PS)(rs:List It):=(i,s.n,s.fn,s.XH,s.WX,s.VW,s.VQ,s.VR,s.sent,s.safe,s.on,s.XL,s.WI,s.first,s.receiver,rs,s.o5,s.fd,s.blocks,s.WS,s.VV,s.g9,s.od,s.WH)
theorem KN{δ:Type}{step:_->Option (Step _ δ)}{l:List mM}{fin:PS->List It->δ}
  (hs:∀(i:Nat) (d:mM) (s s':PS) (acc:List It) (r:It),l[i]? =some d->i<=1000->acc.length<=1000->nB d s=some (r,none,s')->step (PF (i:Int) s acc)=some (.next (PF ((i+1:Nat):Int) s' (acc++[r]))))
  (he:∀(s:PS) (acc:List It),step (PF (l.length:Int) s acc)=some (.done (fin s acc))) (hl:l.length<=1000):
  ∀{v now snaps s ds rs v2 n7 XD s2},cq v now snaps s ds rs v2 n7 XD s2->∀(pre:List mM) (acc:List It) (f:Nat),l=pre++ds->acc.length=pre.length->ds.length<f->
   loop step f (PF (pre.length:Int) s acc)=some (fin s2 (acc++rs)):=by
 intro v now snaps s ds rs v2 n7 XD s2 t
 induction t with
 |nil h=>
  intro pre acc f u B z;obtain⟨f,rfl⟩:∃g,f=g+1:=⟨f - 1,by simp at z;omega⟩
  have:pre=l:=by simpa using u.symm
  rw[this,Go.XA.YY (he _ _),ai]
 |cons h F C G g t D=>
  rename_i d ds rs qA ZE;intro pre acc f u B z;simp only[D9] at z;obtain⟨f,rfl⟩:∃g,f=g+1:=⟨f - 1,by omega⟩
  have E:l.length=pre.length+ds.length+1:=by rw[u];simp;omega
  rw[Go.XA.ZU (hs pre.length d _ _ acc _ (by rw[u];simp) (by omega) (by omega) C)];have A:=fun r:It=>D (pre++[d]) (acc++[r]) f (by rw[u];simp) (by simp[B]) (by omega);simp only[sM,aCw,E0,aDj] at A ⊢;exact A _
end Go.XY
namespace Go.XY
open Go Go.Sw Go.Mo Go.Pl
theorem QS{n:Nat}(h0:1<=n)(h1:n<=32){ds:List mM}(hl:ds.length<=300){s0:PS}(YN:iH (n:Int)=some (some (WU s0),none)){v now snaps rs v2 n7 XD s2}(t:cq v now snaps s0 ds rs v2 n7 XD s2):
  kP (n:Int) ds=some (some (WU s2),rs,none):=by
 have A:cm .lss (n:Int) (1:Int)=false:=by rw[cl];exact m6 (by omega)
 have B:cm .gtr (n:Int) (32:Int)=false:=by rw[cg];exact m6 (by omega)
 have C:cm .gtr (ds.length:Int) (300:Int)=false:=by rw[cg];exact m6 (by omega)
 unfold kP;rw[A,B,C];simp only[pF,cM];rw[YN,cM];simp only[vB,j7,pF];unfold lp
 rw[show (((0:Int),(WU s0).1,(WU s0).2.1,(WU s0).2.2.1,(WU s0).2.2.2.1,(WU s0).2.2.2.2.2.1,(WU s0).2.2.2.2.2.2.2.1,(WU s0).2.2.2.2.2.2.2.2.1,(WU s0).2.2.2.2.2.2.2.2.2.1,(WU s0).2.2.2.2.2.2.2.2.2.2.1,(WU s0).2.2.2.2.2.2.2.2.2.2.2.2.1,(WU s0).2.2.2.2.2.2.2.2.2.2.2.2.2.1,(WU s0).2.2.2.2.2.2.2.2.2.2.2.2.2.2.1,(WU s0).2.2.2.2.2.2.2.2.2.2.2.2.2.2.2.1,(WU s0).2.2.2.2.2.2.2.2.2.2.2.2.2.2.2.2.1,([]:(List (Int×aQ×Int×Int×Int×(List aQ)))),(WU s0).2.2.2.2.2.2.2.2.2.2.2.2.2.2.2.2.2.2.1,(WU s0).2.2.2.2.2.2.2.2.2.2.2.2.2.2.2.2.2.2.2.1,(WU s0).2.2.2.2.1,(WU s0).2.2.2.2.2.2.1,(WU s0).2.2.2.2.2.2.2.2.2.2.2.1,(WU s0).2.2.2.2.2.2.2.2.2.2.2.2.2.2.2.2.2.2.2.2.1,(WU s0).2.2.2.2.2.2.2.2.2.2.2.2.2.2.2.2.2.2.2.2.2,(WU s0).2.2.2.2.2.2.2.2.2.2.2.2.2.2.2.2.2.1))=PF ((([]:List mM).length:Nat):Int) s0 [] from rfl,
  KN (l:=ds) (fin:=fun s rs=>Ex.WT (PF 0 s rs).2) ?_ ?_ (by omega) t [] [] fK rfl rfl (by unfold fK;omega)]
 ·rfl
 ·intro i d s H acc r u I K h;unfold nB at h;have G:i<ds.length:=(aCb.1 u).1;have D:cm .lss (i:Int) (ds.length:Int)=true:=by rw[cl];exact D8 (by omega)
  simp only[PF];rw[D,XX,sD u,cM];cases hz:iA d s.n s.fn s.XH s.WX s.blocks s.VW s.WS s.VQ s.VR s.sent s.safe s.VV s.on s.XL s.WI s.first s.receiver s.WH s.o5 s.fd s.g9 s.od with
  |none=>rw[hz] at h;cases h
  |some z=>
   rw[hz] at h;simp only[cM,B1,R3] at h;obtain⟨rfl,F,rfl⟩:=h;rw[cM];simp only[F,j7,pF];rw[VU _ _ (by simp;omega),cM,u6 (by omega)]
 ·intro s acc;have E:cm .lss (ds.length:Int) (ds.length:Int)=false:=by rw[cl];exact m6 (by omega)
  simp only[PF];rw[E,pF]
theorem Zu{n:Nat}(h1:n<=32):kQ (n:Int)=some (some (List.replicate n aR,[List.replicate n aR])):=by
 have h:Sw.mk (n:Int) aR=some (List.replicate n aR):=by
  unfold Sw.mk;rw[XC (by omega)];simp
 unfold kQ;rw[h,cM,cM,VU _ _ (by simp)];rfl
end Go.XY
namespace Go.XY
open Go Go.Sw Go.Mo Go.Pl
open Go.XA (Good bM eZ dO eB qP oJ fH pS)
variable {v:Nm}{now:List aQ}{snaps:List (List aQ)}{s:PS}
inductive p8:PS->PS->Nat->Prop
 |nil {s:PS} (h:s.WH=[]):p8 s s 0
 |cons {s s1 s2:PS} {n:Nat} (h:s.WH≠ []) (hd:cV 0 s=some (none,s1)) (t:p8 s1 s2 n):p8 s s2 (n+1)
structure Alike (v v':Nm):Prop where
 n:v'.n=v.n
 h:v'.h=v.h
 fb:v'.fb=v.fb
 ob:v'.ob=v.ob
theorem QT{l:List (Bool×Bool×List Int)}(h:l≠ []):1<=wt l:=by
 cases l with
 |nil=>exact absurd rfl h
 |cons a l=>
  have:wt (a::l)=(bif a.1 then 2 else 1)+wt l:=by unfold wt;simp
  rw[this];cases a.1<;>simp<;>omega
theorem Xg:∀(w:Nat) {v:Nm} {s:PS},Inv v now snaps s->wt s.WH<=w->v.q+w<=100000->v.x+w<=100000->
  ∃v' s' n,p8 s s' n/\n<=w/\Inv v' now snaps s'/\s'.WH=[]/\Alike v v'/\v'.q<=v.q+w/\v'.x<=v.x+w
 |w,v,s,h,R,S,T=>by
  by_cases z:s.WH=[]
  ·exact⟨v,s,0,.nil z,by omega,h,z,⟨rfl,rfl,rfl,rfl⟩,by omega,by omega⟩
  ·have:=QT z;obtain⟨w,rfl⟩:∃u,w=u+1:=⟨w - 1,by omega⟩
   obtain⟨K,L,M,s1,N,O,P,C,D,B⟩:=Ok h (by omega) (by omega) (a:=0) (by unfold F1;omega);have B:=B z;obtain⟨v',s',n,E,Q,F,G,A,H,I⟩:=Xg w D (by omega) (by simp only;omega) (by simp only;omega);simp only at H I;exact⟨v',s',n+1,.cons z C E,by omega,F,G,⟨A.n,A.h,A.fb,A.ob⟩,by omega,by omega⟩
theorem Gy(h:Inv v now snaps s){d:Bool}{f:Fm}{r:List (Bool×Bool×List Int)}(g:Good f)(hn:s.WH=(d,false,bM f)::r):(d=true->Dr v snaps s f)/\(d=false->Fc v snaps s f):=by
 have u:=h.WH (d,false,bM f) (by rw[hn];exact ao);obtain⟨z,A,B,C,D⟩:=u.whole rfl;have e:z=f:=by
  have:=congrArg eZ B;simp only at this;rw[fH A,fH g] at this;exact(pT this).symm
 subst e;exact⟨C,D⟩
theorem Ga{f:Fm}(g:Good f):fF (bM f)=some (f,none):=by
 have h:=oJ (bM f) (pS g) (by have:=(ZT g).2;omega);rw[fH g] at h;exact h
theorem Iu(h:Inv v now snaps s){y:Bool×Bool×List Int}{r:List (Bool×Bool×List Int)}(hn:s.WH=y::r):Inv v now snaps { s with WH:=r }:=
 h.O4 (by have:=h.I8;rw[hn] at this;simp only[D9] at this;omega) (fun x u=>h.WH x (by rw[hn];exact aj _ u))
theorem Lc{l:List (Bool×Bool×List Int)}{y}(h:l.length<64):mB l y=l++[y]:=by unfold mB;rw[XC h]
theorem Zv(h:Inv v now snaps s)(hf:s.first=v.fb):s.receiver=(kG v.fb v.ob,(v.x:Int)):=by
 rcases h.first with⟨u,_⟩|⟨g,u,A,B,z⟩
 ·omega
 ·have:g=v.fb:=by omega
  rw[z,this]
theorem Zw(h:Inv v now snaps s):s.VQ<=kG v.fb v.ob:=by
 have:=vY v.fb v.ob;rcases h.VQ with c |⟨o,z,A,u,_⟩
 ·omega
 ·rw[u];unfold kG;omega
theorem Ol(h:Inv v now snaps s){r:List (Bool×Bool×List Int)}(hr:r.length<=10)(hn:s.WH=(true,false,bM (jP v.fb))::r):
  ∃x' s',cV 0 s=some (none,s')/\Inv { v with x:=x' } now snaps s'/\x'<=v.x/\s'.first=v.fb/\s'.VQ=s.VQ/\s'.VR=s.VR/\s'.sent=s.sent/\
   ∃x y,Good (dV v.fb v.ob v.k [x,y])/\s'.WH=r++[(false,false,bM (dV v.fb v.ob v.k [x,y]))]:=by
 have P:=h.C2;have Q:=h.kh;have R:=h.hs;have S:=h.n1;have T:=h.n0;obtain⟨V,A⟩:=Oi (g:=v.fb) (by omega);obtain⟨x',s',B,C,D,_,E⟩:=Rs (Iu h hn) h.pos.1 (YZ _) (Ga A);obtain⟨F,G,H,I,X,c6,x,y,K,L⟩:=E rfl;have z:snaps.getD v.k []∈snaps:=by
  rw[R4,F5 (by omega)];exact ff _
 have U:(snaps.getD v.k []).length=v.n:=h.ep.len _ z;obtain⟨x2,y2,u,M,N⟩:=Zl (bs:=snaps.getD v.k []) (by omega) (by omega) (h.bok _ z);rw[K] at u;simp only[B1,aC0,aEi] at u;obtain⟨rfl,rfl⟩:=u;obtain⟨wf,O⟩:=Ir (g:=v.fb) (o:=v.ob) (j:=v.k) (t:=[x,y]) (by omega) (by omega) (by omega) rfl M N;refine⟨x',s',by rw[xC h hn,KG];exact C,D,B,F,G,H,I,x,y,O,?_⟩;rw[L,Lc (by simp only;omega)]
theorem N3{S:Int}{a:Nat}(hS:0<=S/\S<=2147483647)(ha:a<=2147483647):Good (tA S a):=by
 refine⟨by unfold tA;simp,by unfold tA;simp,by unfold tA;simp,by unfold tA;simp,fun n h=>?_,fun b u=>by simp[tA] at u⟩;simp only[tA,q9,aCm,aEl] at h;rcases h with rfl | rfl<;>omega
theorem FG(h:Inv v now snaps s)(ey:v.x+1<=100000)(hS:0<=s.VQ){m:Fm}(hq:s.VR.2.2=[m])(hm:F6 m){r:List (Bool×Bool×List Int)}(hr:r.length<=10)(hf:s.first=v.fb)
  (hn:s.WH=(true,false,bM (WW s.VQ v.q m))::r):
  ∃k' x' s',cV 0 s=some (none,s')/\Inv { v with k:=k',x:=x' } now snaps s'/\x'<=v.x+1/\s'.first=v.fb/\s'.VQ=s.VQ/\s'.VR=s.VR/\s'.sent=s.sent/\
   ((s.VQ=kG v.fb v.ob/\s'.WH=r++[(false,false,bM (tA s.VQ (v.q+1)))])\/(s.VQ≠kG v.fb v.ob/\s'.WH=r)):=by
 have j1:=h.C2;have F:=Md h;have u:=D4 hm (S:=s.VQ) (q:=v.q) ⟨hS,F⟩ (by omega);have G:=(Gy h u hn).1 rfl;rcases G with⟨g,_,_,c⟩|⟨S,q,m',e,a2,X,a4,a5⟩
 ·simp[WW,jP] at c
 ·have aa:=u;simp only[WW,R3,dk,V7,aC0,aEa] at e;obtain⟨⟨I,A,C,D⟩,E⟩:=e;have A:v.q=q:=by omega
  obtain rfl:m=m':=by
   obtain⟨x,y,z⟩:=m;obtain⟨x',y',z'⟩:=m';simp only at C D E;subst C D E;rfl
  subst I A;have H:=fH u;obtain⟨k',x',s',b1,K,L,M,_,N,O⟩:=Ww (Iu h hn) ey (pS u) (by have:=(ZT u).2;omega) H hm X a4 a5;have B:=Zv h hf;refine⟨k',x',s',by rw[xC h hn,KG];exact L,M,K,?_⟩;by_cases c:s.VQ=kG v.fb v.ob
  ·obtain⟨_,P,Q,R,T,_,U⟩:=O (by simp only;omega) (by simp only;rw[B,c]) rfl rfl;refine⟨by rw[P];exact hf,Q,R,T,.inl ⟨c,?_⟩⟩;rw[U,Lc (by simp only;omega)]
  ·obtain⟨V,_,_⟩:=N (by simp only;rw[B];exact c);subst V;exact⟨hf,rfl,rfl,rfl,.inr ⟨c,rfl⟩⟩
theorem Bu(h:Inv v now snaps s){j:Nat}{x y:Int}{r:List (Bool×Bool×List Int)}(hg:Good (dV v.fb v.ob j [x,y]))(hn:s.WH=(false,false,bM (dV v.fb v.ob j [x,y]))::r):
  ∃q' s',cV 0 s=some (none,s')/\Inv { v with q:=q' } now snaps s'/\q'<=v.q/\s'.first=s.first/\s'.WH=r/\
   ((s.VQ<kG v.fb v.ob/\s'.VQ=kG v.fb v.ob/\s'.VR.2.2=[])\/(s.VQ=kG v.fb v.ob/\q'=v.q/\s'.VQ=s.VQ/\s'.VR=s.VR/\s'.sent=s.sent)):=by
 have Q:=h.C2;have R:=Zw h;rcases (Gy h hg hn).2 rfl with⟨g,o,j',t,e,T,U,V,X,O,P,B⟩|⟨S,a,e,_⟩
 ·simp only[dV,R3,dk,V7,aC0,aEa,aEi] at e;obtain⟨u,z,A,D⟩:=e;have u:v.fb=g:=by omega
  have z:v.ob=o:=by omega
  have A:j=j':=by omega
  subst A D;rw[<-u,<-z] at B;have C:=B rfl rfl;obtain⟨q',s',E,F,G,H,I,K,L⟩:=Lb (Iu h hn) (Ga hg) h.pos.2 (YZ _) O P (fun _=>C);refine⟨q',s',by rw[xC h hn,KH];exact F,G,E,I,H,?_⟩;by_cases c:s.VQ<kG v.fb v.ob
  ·exact .inl ⟨c,K c⟩
  ·obtain⟨M,N⟩:=L c;subst M;exact .inr ⟨by omega,N,rfl,rfl,rfl⟩
 ·simp[dV,tA] at e
theorem KO(h:Inv v now snaps s)(il:v.q+1<=100000)(hS:0<=s.VQ){m:Fm}(hq:s.VR.2.2=[m]){r:List (Bool×Bool×List Int)}(hn:s.WH=(false,false,bM (tA s.VQ (v.q+1)))::r):
  ∃q' s',cV 0 s=some (none,s')/\Inv { v with q:=q' } now snaps s'/\q'<=v.q+1/\s'.first=s.first/\s'.WH=r/\s'.VQ=s.VQ/\s'.VR.2.2=[]/\s'.sent=s.sent:=by
 have N:=h.C2;have A:=Md h;have u:=N3 (S:=s.VQ) (a:=v.q+1) ⟨hS,A⟩ (by omega);rcases (Gy h u hn).2 rfl with⟨g,o,O,t,e,_⟩|⟨S,a,e,P,M,Q⟩
 ·simp[dV,tA] at e
 ·simp only[tA,R3,aC0,aEa,aEi] at e;obtain⟨B,z⟩:=e;have z:v.q+1=a:=by omega
  subst B z;obtain⟨q',s',C,D,E,F,G⟩:=CL (Iu h hn) il (pS u) (by have:=(ZT u).2;omega) (fH u) M;obtain⟨H,I,K,L⟩:=G hS rfl rfl (by simp only;rw[hq];rfl);exact⟨q',s',by rw[xC h hn,KH];exact D,E,C,H,F,I,K,L⟩
theorem Xh(h:Inv v now snaps s)(hn:s.WH=[])(hq:v.q+1<=100000)(hx:v.x+1<=100000):
  ∃s1 v' s' n,fS s=some (none,s1)/\p8 s1 s' n/\n<=4/\Inv v' now snaps s'/\s'.WH=[]/\Alike v v'/\v'.q<=v.q+1/\v'.x<=v.x+1/\
   s'.VQ=kG v.fb v.ob/\s'.VR.2.2=[]/\(s.VQ=kG v.fb v.ob->s.VR.2.2=[]->s'.sent=v.h):=by
 have aa:=vY v.fb v.ob;obtain⟨s1,L,i1,f1,g1,c⟩:=CJ h;have p1:∀y,mB ([]:List (Bool×Bool×List Int)) y=[y]:=fun y=>rfl;have p2:∀x y,mB [x] y=([x,y]:List (Bool×Bool×List Int)):=fun x y=>rfl;have one:s1.WH=[(true,false,bM (jP v.fb))]->((s.VQ<0)\/(0<=s.VQ/\s1.VR.2.2=[]/\s1.sent=v.h))->
   ∃v' s' n,p8 s1 s' n/\n<=4/\Inv v' now snaps s'/\s'.WH=[]/\Alike v v'/\v'.q<=v.q+1/\v'.x<=v.x+1/\s'.VQ=kG v.fb v.ob/\s'.VR.2.2=[]/\(s.VQ=kG v.fb v.ob->s.VR.2.2=[]->s'.sent=v.h):=by
  intro L7 hc;obtain⟨U,V,M,X,d3,d4,d5,N,d7,x,y,O,u⟩:=Ol i1 (r:=[]) (by simp) L7;rw[V7] at u;obtain⟨q',s3,P,Q,b3,b4,D,G⟩:=Bu (v:={ v with x:=U }) X (r:=[]) O u;simp only at b3 G;refine⟨_,s3,2,.cons (by rw[L7];simp) M (.cons (by rw[u];simp) P (.nil D)),by omega,Q,D,⟨rfl,rfl,rfl,rfl⟩,by simp only;omega,by simp only;omega,?_⟩;rw[d5,g1] at G;rcases G with⟨z,A,z3⟩|⟨z,A,z3,z4,z5⟩
  ·exact⟨A,z3,fun c=>by omega⟩
  ·rcases hc with c |⟨C,B,I⟩
   ·omega
   ·exact⟨by rw[z3,z],by rw[z4,N,B],fun _ _=>by rw[z5,d7,I]⟩
 rcases c with⟨C,B⟩|⟨C,B,I,R⟩|⟨C,m,B,I,R,S⟩
 ·rw[hn,p1] at B;obtain⟨v',s',n,r⟩:=one B (.inl C);exact⟨s1,v',s',n,L,r⟩
 ·rw[hn,p1] at R;obtain⟨v',s',n,r⟩:=one R (.inr ⟨C,B,I⟩);exact⟨s1,v',s',n,L,r⟩
 ·rw[hn,p1,p2] at S;obtain⟨U,V,M,X,d3,d4,d5,N,d7,x,y,O,u⟩:=Ol i1 (r:=[_]) (by simp) S;rw[aDj] at u;have K:V.VQ=s.VQ:=by rw[d5,g1]
  rw[<-K] at u;obtain⟨k',x2,s3,P,Q,b3,b4,D,G,b7,b8⟩:=FG (v:={ v with x:=U }) X (by simp only;omega) (by rw[K];exact C) (m:=m) (by rw[N,B]) I (r:=[_]) (by simp) d4 u;simp only at b3 b4 b8;rcases b8 with⟨z,A⟩|⟨z,A⟩
  ·rw[aDj] at A;obtain⟨q',s4,w1,w2,w3,w4,E,H⟩:=Bu (v:={ v with k:=k',x:=x2 }) Q (j:=v.k) (x:=x) (y:=y) (r:=[_]) O A;simp only at w3 H;rcases H with⟨F,_⟩|⟨F,y2,y3,y4,y5⟩
   ·rw[D,z] at F;omega
   ·have T:s4.VQ=V.VQ:=by rw[y3,D]
    rw[<-T,<-y2] at E;obtain⟨q3,s5,t1,t2,t3,t4,t5,t6,t7,t8⟩:=KO (v:={ v with k:=k',q:=q',x:=x2 }) w2 (by simp only;omega) (by rw[T,K];exact C) (m:=m) (by rw[y4,G,N,B]) (r:=[]) E;simp only at t3;refine⟨s1,_,s5,4,L,.cons (by rw[S];simp) M (.cons (by rw[u];simp) P (.cons (by rw[A];simp) w1 (.cons (by rw[E];simp) t1 (.nil t5)))),YZ _,t2,t5,⟨rfl,rfl,rfl,rfl⟩,by simp only;omega,by simp only;omega,by rw[t6,T,z],t7,fun _ e=>?_⟩;rw[t8,y5,b7,d7];exact R e
  ·obtain⟨q',s4,w1,w2,w3,w4,E,H⟩:=Bu (v:={ v with k:=k',x:=x2 }) Q (j:=v.k) (x:=x) (y:=y) (r:=[]) O A;simp only at w3 H;rcases H with⟨F,y2,y3⟩|⟨F,_⟩
   ·refine⟨s1,_,s4,3,L,.cons (by rw[S];simp) M (.cons (by rw[u];simp) P (.cons (by rw[A];simp) w1 (.nil E))),by omega,w2,E,⟨rfl,rfl,rfl,rfl⟩,by simp only;omega,by simp only;omega,y2,y3,fun e=>?_⟩;rw[K,e] at z;exact absurd rfl z
   ·rw[D] at F;exact absurd F z
theorem FH(h:Inv v now snaps s)(hq:s.VR.2.2=[])(hs:s.sent=v.h):s.safe=v.h:=by
 have u:=h.low hq;have z:=h.safe;have A:=h.kh;omega
end Go.XY
namespace Go.XY
open Go Go.Sw Go.Mo Go.Pl
variable {v:Nm}{now:List aQ}{snaps:List (List aQ)}{s:PS}
abbrev FI:=(Int×(List (Int×aQ))×(List (Int×(List (Int×aQ))))×Bool)×Int×(Int×Int×(List (Int×(List Int)×(List aQ))))×Int×Int×Int×Int×(Int×Int)×(List Int)×Int×((List aQ)×(List (Int×aQ))×Int)×(List (Bool×Bool×(List Int)))
def kV(s:PS):FI:=(s.VW,s.VQ,s.VR,s.sent,s.safe,s.XL,s.first,s.receiver,s.VV,s.g9,s.od,s.WH)
def oQ(z:PS)(t:FI):PS:={ z with VW:=t.1,VQ:=t.2.1,VR:=t.2.2.1,sent:=t.2.2.2.1,safe:=t.2.2.2.2.1,XL:=t.2.2.2.2.2.1,first:=t.2.2.2.2.2.2.1,receiver:=t.2.2.2.2.2.2.2.1,VV:=t.2.2.2.2.2.2.2.2.1,g9:=t.2.2.2.2.2.2.2.2.2.1,od:=t.2.2.2.2.2.2.2.2.2.2.1,WH:=t.2.2.2.2.2.2.2.2.2.2.2 }
theorem yZ{z s s':PS}(hz:s=oQ z (kV s))(hd:cV 0 s=some (none,s')):s'=oQ z (kV s')/\
  cT 0 z.n z.fn z.XH z.WX z.blocks s.VW z.WS s.VQ s.VR s.sent s.safe s.VV z.on s.XL z.WI s.first s.receiver s.WH z.o5 z.fd s.g9 s.od=
   some (none,s'.VW,s'.VQ,s'.VR,s'.sent,s'.safe,s'.VV,s'.XL,s'.first,s'.receiver,s'.WH,s'.g9,s'.od):=by
 generalize kV s=t at hz;subst hz;unfold cV at hd;cases hm:cT 0 (oQ z t).n (oQ z t).fn (oQ z t).XH (oQ z t).WX (oQ z t).blocks (oQ z t).VW (oQ z t).WS (oQ z t).VQ (oQ z t).VR (oQ z t).sent (oQ z t).safe (oQ z t).VV (oQ z t).on (oQ z t).XL (oQ z t).WI (oQ z t).first (oQ z t).receiver (oQ z t).WH (oQ z t).o5 (oQ z t).fd (oQ z t).g9 (oQ z t).od with
 |none=>rw[hm] at hd;cases hd
 |some r=>
  obtain⟨h,u⟩:=r;rw[hm] at hd;simp only[cM,B1,R3] at hd;obtain⟨rfl,rfl⟩:=hd;exact⟨rfl,hm⟩
theorem Om{z s s':PS}(hz:s=oQ z (kV s))(hd:fS s=some (none,s')):s'=oQ z (kV s')/\s'.VW=s.VW/\s'.VQ=s.VQ/\s'.safe=s.safe/\s'.XL=s.XL/\s'.first=s.first/\s'.receiver=s.receiver/\s'.g9=s.g9/\s'.od=s.od/\
  dE z.n z.fn z.XH z.WX z.blocks s.VW z.WS s.VQ s.VR s.sent s.safe s.VV z.on s.XL z.WI s.first s.receiver s.WH z.o5 z.fd s.g9 s.od=
   some (none,s'.VR,s'.sent,s'.VV,s'.WH):=by
 generalize kV s=t at hz;subst hz;unfold fS at hd;cases hm:dE (oQ z t).n (oQ z t).fn (oQ z t).XH (oQ z t).WX (oQ z t).blocks (oQ z t).VW (oQ z t).WS (oQ z t).VQ (oQ z t).VR (oQ z t).sent (oQ z t).safe (oQ z t).VV (oQ z t).on (oQ z t).XL (oQ z t).WI (oQ z t).first (oQ z t).receiver (oQ z t).WH (oQ z t).o5 (oQ z t).fd (oQ z t).g9 (oQ z t).od with
 |none=>rw[hm] at hd;cases hd
 |some r=>
  obtain⟨h,u⟩:=r;rw[hm] at hd;simp only[cM,B1,R3] at hd;obtain⟨rfl,rfl⟩:=hd;exact⟨rfl,rfl,rfl,rfl,rfl,rfl,rfl,rfl,rfl,hm⟩
theorem KP{z s:PS}(hz:s=oQ z (kV s))(h:Inv v now snaps s)(r:Int×aQ×Int×Int×Int×List aQ):
  dY r z.n z.fn z.XH z.WX z.blocks s.VW z.WS s.VQ s.VR s.sent s.safe s.VV z.on s.XL z.WI s.first s.receiver s.WH z.o5 z.fd s.g9 s.od=some ((r.1,r.2.1,(v.h:Int),s.safe,(v.k:Int),snaps.getD v.k []),none):=by
 have u:=Tq h r;generalize kV s=t at hz;subst hz;unfold rI at u;cases hm:dY r (oQ z t).n (oQ z t).fn (oQ z t).XH (oQ z t).WX (oQ z t).blocks (oQ z t).VW (oQ z t).WS (oQ z t).VQ (oQ z t).VR (oQ z t).sent (oQ z t).safe (oQ z t).VV (oQ z t).on (oQ z t).XL (oQ z t).WI (oQ z t).first (oQ z t).receiver (oQ z t).WH (oQ z t).o5 (oQ z t).fd (oQ z t).g9 (oQ z t).od with
 |none=>rw[hm] at u;cases u
 |some r=>
  obtain⟨A,B⟩:=r;rw[hm] at u;simp only[cM,B1,R3] at u;obtain⟨rfl,rfl,_⟩:=u;exact hm
theorem Zx{δ:Type}{z:PS}{step:FI->Option (Step FI δ)}{fin:FI->δ}
  (hs:∀s s',s=oQ z (kV s)->s.WH≠ []->cV 0 s=some (none,s')->step (kV s)=some (.next (kV s'))) (he:∀s,s.WH=[]->step (kV s)=some (.done (fin (kV s)))):
  ∀{s s' n},p8 s s' n->s=oQ z (kV s)->∀f,n<f->loop step f (kV s)=some (fin (kV s'))/\s'=oQ z (kV s'):=by
 intro s s' n t
 induction t with
 |nil h=>
  intro u f B;obtain⟨f,rfl⟩:∃g,f=g+1:=⟨f - 1,by omega⟩
  exact⟨Go.XA.YY (he _ h),u⟩
 |cons h A t C=>
  intro u f B;obtain⟨f,rfl⟩:∃g,f=g+1:=⟨f - 1,by omega⟩
  rw[Go.XA.ZU (hs _ _ u h A)];exact C (yZ u A).1 f (by omega)
theorem Bv{z s s':PS}{n:Nat}(t:p8 s s' n):s=oQ z (kV s)->s'=oQ z (kV s'):=by
 induction t with
 |nil h=>exact id
 |cons h A t B=>exact fun u=>B (yZ u A).1
theorem Xi{δ:Type}{z:PS}{step:Int×FI->Option (Step (Int×FI) δ)}{fin:Nat->PS->δ}
  (hs:∀(tk:Nat) (s s' s1:PS) (n:Nat),tk<=3->s=oQ z (kV s)->p8 s s' n->n<=200->s'.safe≠z.XH->fS s'=some (none,s1)->step ((tk:Int),kV s)=some (.next (((tk+1:Nat):Int),kV s1)))
  (he:∀(tk:Nat) (s s':PS) (n:Nat) (v':Nm),Inv v' now snaps s'->tk<=3->s=oQ z (kV s)->p8 s s' n->n<=200->s'.safe=z.XH->step ((tk:Int),kV s)=some (.done (fin tk s')))
  (h:Inv v now snaps z) (hq:v.q+200<=100000) (hx:v.x+200<=100000):
  ∃tk v' s',tk<=3/\Inv v' now snaps s'/\v'.h=v.h/\s'.safe=v.h/\loop step fK ((0:Int),kV z)=some (fin tk s'):=by
 have ad:=h.enum;have hw:=TH z.WH;have U2:=h.I8;obtain⟨N,s1,O,D,d2,E,d4,A,d6,d7⟩:=Xg 128 h (by omega) (by omega) (by omega);have z0:z=oQ z (kV z):=rfl;have V:=Bv D z0;by_cases L:s1.safe=z.XH
 ·exact⟨0,N,s1,by omega,E,A.h,by omega,Go.XA.YY (f:=1125899906842623) (he 0 z s1 O N E (by omega) z0 D (by omega) L)⟩
 ·obtain⟨u,P,B,Q,R,F,e3,G,e5,H,e7,e8,e9,aa,af⟩:=Xh E d4 (by omega) (by omega);have C:=(Om V R).1;have X:=Bv F C;have g1:=A.h;have g2:=A.fb;have g3:=A.ob;have g4:=H.h;have g5:=H.fb;have g6:=H.ob;have p1:loop step fK ((0:Int),kV z)=loop step 1125899906842623 (((0+1:Nat):Int),kV u):=Go.XA.ZU (f:=1125899906842623) (hs 0 z s1 u O (by omega) z0 D (by omega) L R);by_cases M:B.safe=z.XH
  ·exact⟨1,P,B,by omega,G,by omega,by omega,p1.trans (Go.XA.YY (f:=1125899906842622) (he 1 u B Q P G (by omega) C F (by omega) M))⟩
  ·obtain⟨I,S,T,n3,U,f2,f3,K,f5,f6,f7,f8,f9,ab,ac⟩:=Xh G e5 (by omega) (by omega);have y2:=(Om X U).1;have g7:=f6.h;have ib:=FH K ab (by rw[ac (by rw[e9,g5,g6,g2,g3]) aa];omega);have p2:loop step 1125899906842623 (((0+1:Nat):Int),kV u)=loop step 1125899906842622 (((1+1:Nat):Int),kV I):=Go.XA.ZU (f:=1125899906842622) (hs 1 u B I Q (by omega) C F (by omega) M U);exact⟨2,S,T,by omega,K,by omega,by omega,p1.trans (p2.trans (Go.XA.YY (f:=1125899906842621) (he 2 I T n3 S K (by omega) y2 f2 (by omega) (by omega))))⟩
theorem Xj{γ:Type}{z:PS}{step:FI->Option (Step FI (Ex FI γ))}{k:FI->Option γ}
  (hs:∀s s',s=oQ z (kV s)->s.WH≠ []->cV 0 s=some (none,s')->step (kV s)=some (.next (kV s'))) (he:∀s,s.WH=[]->step (kV s)=some (.done (.WT (kV s))))
  {s s':PS} {n:Nat} (t:p8 s s' n) (hz:s=oQ z (kV s)) (hn:n<=200):lp step (kV s) k=k (kV s'):=by
 unfold lp;rw[(Zx (fin:=Ex.WT) hs he t hz fK (by unfold fK;omega)).1]
theorem FJ{γ:Type}{z:PS}{step:Int×FI->Option (Step (Int×FI) (Ex Unit γ))}{fin:Nat->PS->γ}{k:Unit->Option γ}(G:Nat->γ)
  (hs:∀(tk:Nat) (s s' s1:PS) (n:Nat),tk<=3->s=oQ z (kV s)->p8 s s' n->n<=200->s'.safe≠z.XH->fS s'=some (none,s1)->step ((tk:Int),kV s)=some (.next (((tk+1:Nat):Int),kV s1)))
  (he:∀(tk:Nat) (s s':PS) (n:Nat) (v':Nm),Inv v' now snaps s'->tk<=3->s=oQ z (kV s)->p8 s s' n->n<=200->s'.safe=z.XH->step ((tk:Int),kV s)=some (.done (.ret (fin tk s'))))
  (h:Inv v now snaps z) (hq:v.q+200<=100000) (hx:v.x+200<=100000)
  (hG:∀(tk:Nat) (v':Nm) (s':PS),Inv v' now snaps s'->v'.h=v.h->s'.safe=v.h->fin tk s'=G tk):∃tk:Nat,tk<=3/\lp step ((0:Int),kV z) k=some (G tk):=by
 obtain⟨tk,v',s',u,A,B,C,D⟩:=Xi (fin:=fun tk s'=>Ex.ret (fin tk s')) hs he h hq hx;refine⟨tk,u,?_⟩;unfold lp;rw[D,<-hG tk v' s' A B C]
theorem FK{v now snaps s ds rs v2 n7 XD s2}(t:cq v now snaps s ds rs v2 n7 XD s2):v2.q<=v.q+ds.length/\v2.x<=v.x+ds.length:=by
 induction t with
 |nil h=>simp
 |cons h u z A g t B=>
  have:=g.q;have:=g.x;simp only[D9];omega
theorem FM{n:Nat}(h0:1<=n)(h1:n<=32){ds:List mM}(hl:ds.length<=300){s0:PS}(YN:iH (n:Int)=some (some (WU s0),none)){rs v2 n7 XD s2}(t:cq ⟨n,0,1,1,0,0,0⟩ (List.replicate n aR) [List.replicate n aR] s0 ds rs v2 n7 XD s2)(h:Inv v2 n7 XD s2):
  ∃tk:Nat,tk<=3/\lY (n:Int) ds=some ((0,aR,(v2.h:Int),(v2.h:Int),(v2.h:Int),XD.getD v2.h []),(tk:Int),none):=by
 have L:=QS h0 h1 hl YN t;obtain⟨gq,gx⟩:=FK t;simp only at gq gx;have j1:=h.C2;have I2:=h.enum;unfold lY;rw[L,cM];simp only[vB,j7,pF];refine FJ (z:=s2) (fin:=fun tk u=>((0,aR,(v2.h:Int),u.safe,u.XL,XD.getD u.XL.toNat []),(tk:Int),none)) (fun tk=>((0,aR,(v2.h:Int),(v2.h:Int),(v2.h:Int),XD.getD v2.h []),(tk:Int),none)) ?_ ?_ h (by omega) (by omega) ?_
 ·intro tk s u s1 n T C D F G U;obtain⟨_,t1,t2,t3,t4,t5,t6,t7,t8,t9⟩:=Om (Bv D C) U;refine(Xj (z:=s2) ?_ ?_ D C F).trans ?_
  ·intro a V H A I;have c:cm .gtr (a.WH.length:Int) (0:Int)=true:=by rw[cg];exact D8 (by have:=pw.2 A;omega)
   have e:=(yZ H I).2;simp only[kV,WU,c,XX,e,cM,j7,pF]
  ·intro a A;have c:cm .gtr (a.WH.length:Int) (0:Int)=false:=by rw[A];rfl
   simp only[kV,c,pF]
  ·have E:cm .eql u.safe s2.XH=false:=by rw[ce];exact m6 G
   have M:cm .eql (tk:Int) (200:Int)=false:=by rw[ce];exact m6 (by omega)
   have N:ar .add .i64 (tk:Int) 1=((tk+1:Nat):Int):=u6 (by omega);simp only[kV,WU,E,M,pF,cM,t9,j7,N,t1,t2,t3,t4,t5,t6,t7,t8]
 ·intro tk s u n K B T C D F G;refine(Xj (z:=s2) ?_ ?_ D C F).trans ?_
  ·intro a V H A I;have c:cm .gtr (a.WH.length:Int) (0:Int)=true:=by rw[cg];exact D8 (by have:=pw.2 A;omega)
   have e:=(yZ H I).2;simp only[kV,WU,c,XX,e,cM,j7,pF]
  ·intro a A;have c:cm .gtr (a.WH.length:Int) (0:Int)=false:=by rw[A];rfl
   simp only[kV,c,pF]
  ·have E:cm .eql u.safe s2.XH=true:=by rw[ce];exact D8 G
   have O:=KP (Bv D C) B ((0:Int),aR,(0:Int),(0:Int),(0:Int),([]:(List aQ)));have P:=B.N1;have Q:K.h=v2.h:=by have:=B.hs;have:=h.hs;omega
   simp only[kV,WU,E,XX,cM];rw[O];simp only[cM,P,p6,Q]
 ·intro tk K u B hh X;have h1:=B.safe;have h2:=B.kh;have R:=B.N1;have S:K.k=v2.h:=by omega
  simp only[X,R,S,p6]
theorem Xk{δ:Type}{step:Int×List aQ×List (List aQ)->Option (Step (Int×List aQ×List (List aQ)) δ)}{l:List mM}{fin:List aQ->List (List aQ)->δ}
  (hs:∀(i:Nat) (d:mM) (now P0:List aQ) (snaps ZP:List (List aQ)) (qA:Int) (ZE:aQ),l[i]? =some d->i<=1000->iP now snaps d=some (qA,ZE,P0,ZP)->step ((i:Int),now,snaps)=some (.next (((i+1:Nat):Int),P0,ZP)))
  (he:∀now snaps,step ((l.length:Int),now,snaps)=some (.done (fin now snaps))) (hl:l.length<=1000):
  ∀{v now snaps s ds rs v2 n7 XD s2},cq v now snaps s ds rs v2 n7 XD s2->∀(pre:List mM) (f:Nat),l=pre++ds->ds.length<f->loop step f ((pre.length:Int),now,snaps)=some (fin n7 XD):=by
 intro v now snaps s ds rs v2 n7 XD s2 t
 induction t with
 |nil h=>
  intro pre f u z;obtain⟨f,rfl⟩:∃g,f=g+1:=⟨f - 1,by simp at z;omega⟩
  have:pre=l:=by simpa using u.symm
  rw[this,Go.XA.YY (he _ _)]
 |cons h B E F g t C=>
  rename_i d ds rs qA ZE;intro pre f u z;simp only[D9] at z;obtain⟨f,rfl⟩:∃g,f=g+1:=⟨f - 1,by omega⟩
  have D:l.length=pre.length+ds.length+1:=by rw[u];simp;omega
  rw[Go.XA.ZU (hs pre.length d _ _ _ _ qA ZE (by rw[u];simp) (by omega) B)];have A:=C (pre++[d]) f (by rw[u];simp) (by omega);simp only[sM,aCw] at A ⊢;exact A
end Go.XY
namespace Go.XY
open Go Go.Sw Go.Mo Go.Pl
def SP(i:Nat)(x:Option (Step (Int×List mM) (Ex (List mM) (List mM)))):Prop:=∃l':List mM,x=some (.next (((i+1:Nat):Int),l'))/\l'.length=i+1/\∀d∈l',xW d
theorem QU{i:Nat}{c:Bool}{a b:Option (Step (Int×List mM) (Ex (List mM) (List mM)))}(ha:SP i a)(hb:SP i b):SP i (bif c then a else b):=by cases c<;>assumption
theorem SP.jp{i:Nat}{β:Type}{k:β->Option (Step (Int×List mM) (Ex (List mM) (List mM)))}{body:(β->Option (Step (Int×List mM) (Ex (List mM) (List mM))))->Option (Step (Int×List mM) (Ex (List mM) (List mM)))}(hk:∀x,SP i (k x))(h:∀k',(∀x,SP i (k' x))->SP i (body k')):SP i (Sw.jp k body):=h k hk
theorem OI{i:Nat}{l:List mM}{d:mM}(hi:i<=1000)(hl:l.length=i)(h:∀d∈l,xW d)(hd:xW d):SP i ((Sw.app l [d]).bind fun v=>some (.next ((ar .add .i64 (i:Int) 1),v))):=by
 rw[VU _ _ (by simp[hl];omega),cM,u6 (by omega)]
 exact⟨_,rfl,by simp[hl],fun x u=>by
  rcases N9.1 u with u | u
  ·exact h x u
  ·rw[aB9.1 u];exact hd⟩
theorem SP.block{i:Nat}{raw:List Int}(hr:IF raw){p:Nat}(hp:p<=100000){k:aQ->Option (Step (Int×List mM) (Ex (List mM) (List mM)))}(hk:∀b,ZN b->SP i (k b)):SP i ((kO raw (p:Int)).bind k):=by
 obtain⟨b,h,u⟩:=Sy hr p hp;rw[h,cM];exact hk b u
theorem Tt{v:Nat}(h:v<=100000000000):F1 (v:Int):=by unfold F1;omega
theorem FN{many:Nat}(hm:many<=300){step:Int×List mM->Option (Step (Int×List mM) (Ex (List mM) (List mM)))}
  (hs:∀i l,i<many->l.length=i->(∀d∈l,xW d)->SP i (step ((i:Int),l))) (he:∀l,step ((many:Int),l)=some (.done (.WT l))):
  ∃ds,lp step ((0:Int),([]:List mM)) (fun x=>some x)=some ds/\ds.length=many/\∀d∈ds,xW d:=by
 obtain⟨b,⟨z,A⟩,B⟩:=PB (γ:=List mM) (step:=step) (k:=fun x=>some x) (fun i (l:List mM)=>((i:Int),l)) (fun l=>l) many (fun i l=>l.length=i/\∀d∈l,xW d) [] (by unfold fK;omega) ⟨rfl,by simp⟩
  (fun i l u h=>hs i l u h.1 h.2) (fun l _=>he l)
 exact⟨b,B,z,A⟩
theorem TJ{k a b:Int}{x:aQ}(h1:F1 a)(h2:F1 b)(h3:ZN x):xW (k,a,b,x):=⟨h1,h2,h3⟩
theorem Pv{raw:List Int}(hr:IF raw)(at_ many n:Nat)(ha:at_<=1000)(hm:many<=300)(hn:1<=n)(qt:n<=1000):∃ds,lK raw (at_:Int) (many:Int) (n:Int)=some ds/\ds.length=many/\∀d∈ds,xW d:=by
 unfold lK;refine FN hm (fun i l U K L=>?_) (fun l=>?_)
 ·rw[cl,D8 (by omega),XX,j5 (by omega),show (at_:Int)+(i:Int)=((at_+i:Nat):Int) by omega];obtain⟨v,P,V⟩:=Ys hr (at_+i) (by omega);rw[P,cM,ID (by omega),cM];have B:ar .quo .i64 (v:Int) 40=((v / 40:Nat):Int):=IC (b:=40) (by omega);have C:ar .quo .i64 (v:Int) 7=((v / 7:Nat):Int):=IC (b:=7) (by omega);have D:ar .rem .i64 ((v / 40:Nat):Int) (n:Int)=((v / 40 % n:Nat):Int):=BL;have E:ar .rem .i64 ((v / 7:Nat):Int) 90=((v / 7 % 90:Nat):Int):=BL (b:=90);have F:ar .rem .i64 ((v / 40:Nat):Int) 7=((v / 40 % 7:Nat):Int):=BL (b:=7);have Q:v / 40 % n<=1000:=by have:=nj (v / 40) (show n>0 by omega);omega
  have R:v / 7 % 90<=1000:=by omega
  have S:v / 40 % 7<=1000:=by omega
  rw[B,C,D,E,F];have u:F1 ((v / 40 % n:Nat):Int):=Tt (by omega);have G:F1 ((v / 7 % 90:Nat):Int):=Tt (by omega);have z:F1 ((v / 40 % 7:Nat):Int):=Tt (by omega);have T:ar .add .i64 ((at_+i:Nat):Int) 0=((at_+i:Nat):Int):=by rw[j5 (by omega)];omega
  have H:ar .add .i64 (at_:Int) (ar .mul .i64 3 (i:Int))=((at_+3*i:Nat):Int):=by
   rw[show ar .mul .i64 3 (i:Int)=((3*i:Nat):Int) from Ia (a:=3) (by omega),j5 (by omega)];omega
  have I:ar .add .i64 (at_:Int) (ar .mul .i64 2 (i:Int))=((at_+2*i:Nat):Int):=by
   rw[show ar .mul .i64 2 (i:Int)=((2*i:Nat):Int) from Ia (a:=2) (by omega),j5 (by omega)];omega
  rw[H,I];have h:∀(k a:Int) (b:aQ),F1 a->ZN b->SP i ((Sw.app l [(k,a,((v / 7 % 90:Nat):Int),b)]).bind fun v=>some (.next ((ar .add .i64 (i:Int) 1),v))):=fun k a b M N=>OI (by omega) K L (TJ M G N)
  repeat' (first
   | (with_reducible exact h _ _ _ u E2)
   | (with_reducible exact h _ _ _ z E2)
   | (with_reducible exact h _ _ _ u A)
   | (with_reducible exact h _ _ _ z A)
   | (with_reducible exact O _)
   | (with_reducible refine SP.block hr (by omega) fun b A=>?_)
   | (with_reducible refine SP.jp (fun x=>?_) (fun k O=>?_))
   | (with_reducible refine QU ?_ ?_))
 ·rw[cl,m6 (by omega)];rfl
end Go.XY
namespace Go.XY
open Go Go.Sw Go.Mo Go.Pl
theorem Xl{raw:List Int}(hr:IF raw){a1 a2 a3:Int}(h1:Go.Pl.F1 a1)(h2:Go.Pl.F1 a2)(h3:Go.Pl.F1 a3)(M:Nat)(hM0:0<M)(hM:M<=300):
  ∃(n:Nat) (p1 p2 p3:Int) (ds:List mM),1<=n/\n<=32/\lR a1 32=some p1/\ar .add .i64 (1:Int) p1=(n:Int)/\lR a2 1000=some p2/\lR a3 (M:Int)=some p3/\
   lK raw p2 p3 (n:Int)=some ds/\ds.length<=300/\∀d∈ds,xW d:=by
 have G:=Lx (c:=a1) (n:=32) (by omega);have H:=Lx (c:=a2) (n:=1000) (by omega);have I:=Lx (c:=a3) (n:=(M:Int)) (by omega);obtain⟨h,B⟩:∃k:Nat,pick a1 32=k:=⟨(pick a1 32).toNat,by omega⟩
 obtain⟨u,C⟩:∃k:Nat,pick a2 1000=k:=⟨(pick a2 1000).toNat,by omega⟩
 obtain⟨z,D⟩:∃k:Nat,pick a3 (M:Int)=k:=⟨(pick a3 (M:Int)).toNat,by omega⟩
 have A:ar .add .i64 (1:Int) (h:Int)=((h+1:Nat):Int):=by rw[j5 (by omega)];omega
 obtain⟨ds,E,K,F⟩:=Pv hr u z (h+1) (by omega) (by omega) (by omega) (by omega);exact⟨h+1,h,u,z,ds,by omega,by omega,by rw[Lw h1 (by omega),B],A,by rw[Lw h2 (by omega),C],by rw[Lw h3 (by omega),D],E,by omega,F⟩
end Go.XY
namespace Go.XY
open Go Go.Sw Go.Mo Go.Pl
theorem iy{a0:List Int}{a1 a2 a3:Int}(hw:∀x∈a0,Go.Pl.F1 x)(h1:Go.Pl.F1 a1)(h2:Go.Pl.F1 a2)(h3:Go.Pl.F1 a3):qO a0 a1 a2 a3=some true:=by
 unfold qO;by_cases F:(128:Int)<(a0.length:Int)
 ·have e:cm .gtr (a0.length:Int) (128:Int)=true:=by rw[cg];exact D8 F
  rw[e];rfl
 ·have e:cm .gtr (a0.length:Int) (128:Int)=false:=by rw[cg];exact m6 F
  obtain⟨n,p1,p2,p3,u,H,E,R,S,T,U,V,I,X⟩:=Xl (raw:=a0) ⟨hw,by omega⟩ h1 h2 h3 150 (by omega) (by omega);rw[e,pF,R,cM,T,cM,show (150:Int)=((150:Nat):Int) from rfl,U,cM,S,V,cM];obtain⟨s0,rs,z,n7,XD,s2,a1,a2,a3,a4,A⟩:=Zt H E I X;obtain⟨tk,ab,n9⟩:=FM H E I a1 a3 A;have ZW:=A.hs;have j1:=A.C2;have L7:=A.n1;rw[n9,cM,Zu E,cM];simp only[vB];unfold lp
  rw[show (((0:Int),List.replicate n aR,[List.replicate n aR]):Int×List aQ×List (List aQ))=(((([]:List mM).length:Nat):Int),List.replicate n aR,[List.replicate n aR]) from rfl,
   Xk (l:=u) (fin:=fun C D=>Ex.WT (C,D)) ?_ ?_ (by omega) a3 [] fK rfl (by unfold fK;omega)]
  ·have K:fJ (n7,XD)=some (z.h:Int):=by
    unfold fJ;rw[O3 (by simp only;omega)];simp only;congr 1;omega
   have L:∀x:Int,cm .neq x x=false:=fun x=>by rw[cn];simp
   have M:cm .gtr (tk:Int) (3:Int)=false:=by rw[cg];exact m6 (by omega)
   have N:Sw.idx XD (z.h:Int)=some (XD.getD z.h []):=sD (by rw[R4,F5 (by omega)];rfl);have O:XD.getD z.h []∈XD:=by
    rw[R4,F5 (by omega)];exact ff _
   have P:=Go.ZA.T7 (XD.getD z.h []) (by have:=A.ep.len _ O;omega);simp only[M,K,L,N,P,pF,cM,j7]
  ·intro i d C P0 D ZP qA ZE G aa Q;have XI:i<u.length:=(aCb.1 G).1;have B:cm .lss (i:Int) (u.length:Int)=true:=by rw[cl];exact D8 (by omega)
   simp only[B,XX,sD G,cM,Q];rw[u6 (by omega)]
  ·intro C D;have B:cm .lss (u.length:Int) (u.length:Int)=false:=by rw[cl];exact m6 (by omega)
   simp only[B,pF]
end Go.XY
